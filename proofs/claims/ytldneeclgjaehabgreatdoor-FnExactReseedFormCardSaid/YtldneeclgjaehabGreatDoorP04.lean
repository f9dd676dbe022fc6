/- Lemmas. Conditions: none. -/
import Derived.Test.YtldneeclgjaehabGreatDoorP03
import Derived.Laws.BytesArg
set_option linter.all false
set_option maxHeartbeats 8000000
set_option maxRecDepth 100000
namespace Go.Ae
def tX{ok:Nat->Prop}{hp:Nat->Option Obj}: ∀(rows:List (List D)) (O:Cz) (L:LVa),I6 rows=some O->rdr ok hp 1 rows L->rows.length=O.length/\L.take O.length=O.map (Value.int .u8)
 |[],O,L,h,_=>by
  simp only[I6,AS] at h;subst h;simp
 |row::r,O,L,h,Z=>by
  unfold I6 at h;split at h
  .rename_i z;cases z
  .rename_i n r' z;cases z;simp only[Dx] at h;obtain⟨ms,h1,rfl⟩:=h;simp only[rdr,rdp,rd] at Z;obtain⟨_,⟨v,L1,rfl,rfl,_⟩,h3⟩:=Z;obtain⟨e1,Q⟩:=tX r ms _ h1 h3;simp only[Sv,Mv] at Q;refine⟨by simp[e1],?_⟩;simp[Q]
  .cases h
section
variable {P:Program}{tm:TmT}{h:HpT}{nx:Nat}{o:Oper}{K:Al}
def bO{x y:Operand}{c:Call}(ho:o.op= .call c)(O:c.callee= .builtin .max)(z:c.args= #[x,y])(Q:Od K (Ay tm x) (Ay tm y)):Cr P tm h nx o K:=by
 have aa:x∈o.op.operands:=by rw[ho];simp[Op.operands,Call.operands,z,O]
 have ab:y∈o.op.operands:=by rw[ho];simp[Op.operands,Call.operands,z,O]
 cases hx:Ay tm x<;>rw[hx] at Q<;>try exact Q.elim
 rename_i d;cases hy:Ay tm y<;>rw[hy] at Q<;>try (cases d<;>exact Q.elim)
 rename_i d';cases d<;>cases d'<;>try exact Q.elim
 rename_i k a k' b;simp only[Od] at Q;obtain⟨rfl,Q⟩:=Q;refine⟨_,_,BP.pure (u:=[]) ?_,Q⟩;intro C S ac hW _ Z;have h1:=Z x aa;have h2:=Z y ab;rw[hx] at h1;rw[hy] at h2;simp only[Ab,rd] at h1 h2;refine⟨.int k (max a b),?_,by simp only[Ab,rd]⟩;simp only[execOp,ho,resolve,O,z,Sem.run_bind,Sem.run_pure,Result.andThen_ok,invoke,builtin];have e:(if a<b then b else a)=max a b:=auOm;simp[h1,h2,Builtin.max_,Builtin.max2,e]
def bP{x y:Operand}{c:Call}(ho:o.op= .call c)(O:c.callee= .builtin .min)(z:c.args= #[x,y])(Q:Oe K (Ay tm x) (Ay tm y)):Cr P tm h nx o K:=by
 have aa:x∈o.op.operands:=by rw[ho];simp[Op.operands,Call.operands,z,O]
 have ab:y∈o.op.operands:=by rw[ho];simp[Op.operands,Call.operands,z,O]
 cases hx:Ay tm x<;>rw[hx] at Q<;>try exact Q.elim
 rename_i d;cases hy:Ay tm y<;>rw[hy] at Q<;>try (cases d<;>exact Q.elim)
 rename_i d';cases d<;>cases d'<;>try exact Q.elim
 rename_i k a k' b;simp only[Oe] at Q;obtain⟨rfl,Q⟩:=Q;refine⟨_,_,BP.pure (u:=[]) ?_,Q⟩;intro C S ac hW _ Z;have h1:=Z x aa;have h2:=Z y ab;rw[hx] at h1;rw[hy] at h2;simp only[Ab,rd] at h1 h2;refine⟨.int k (min a b),?_,by simp only[Ab,rd]⟩;simp only[execOp,ho,resolve,O,z,Sem.run_bind,Sem.run_pure,Result.andThen_ok,invoke,builtin];have e:(if b<a then b else a)=min a b:=auOm;simp[h1,h2,Builtin.min_,Builtin.min2,e]
def Qy{Z T:TypeId}{x:Operand}(ho:o.op= .convert Z T x)(ht:isStr (Rx (tI P T))=true)(z:JH P h K (Ay tm x) (tI P Z)):Cr P tm h nx o K:=by
 cases hT:tI P T with
 |none=>rw[hT] at ht;cases ht
 |some ti=>
 rw[hT] at ht;simp only[Rx,isStr] at ht;cases hf:ti.kind<;>rw[hf] at ht<;>simp only[TK.isStr,BL] at ht;have hd:=RC hT hf;cases hS:tI P Z with
 |none=>rw[hS] at z;exact z.elim
 |some si=>
 rw[hS] at z;simp only[JH] at z;cases hg:si.kind<;>rw[hg] at z<;>try exact z.elim
 rename_i e;have hs:=QX hS hg;simp only[lS] at z;cases hE:tI P e with
 |none=>rw[hE] at z;exact z.elim
 |some te=>
 rw[hE] at z;simp only[Rx] at z;cases hke:te.kind<;>rw[hke] at z<;>try exact z.elim
 rename_i ik;cases ik<;>try exact z.elim
 have he:=Wo hE hke;simp only[lR] at z;cases hx:Ay tm x<;>rw[hx] at z<;>try exact z.elim
 rename_i n;simp only[lQ] at z;cases hn:h n with
 |none=>rw[hn] at z;exact z.elim
 |some Q=>
 rw[hn] at z;obtain⟨mu,Q⟩:=Q;cases Q<;>try exact z.elim
 rename_i T' k rows;simp only[SN] at z;obtain⟨rfl,z⟩:=z;cases hb:I6 rows with
 |none=>rw[hb] at z;exact z.elim
 |some ns=>
 rw[hb] at z;simp only[MA] at z;refine⟨_,_,BP.pure (u:=[n]) ?_,z⟩;intro C S ac hW hu ab;have h1:=ab x (by rw[ho];simp[Op.operands]);rw[hx] at h1;simp only[Ab] at h1;have aa:=(hu n auSi).trans hn;have hc:=h1.2 _ aa;have O:=hW.obj _ _ aa;refine⟨.string (Ig ns),?_,by simp only[Ab,rd]⟩;have af:(convert Z T (ac.eval x)).run P S.w= .ok (.string (Ig ns)) S.w:=by
  cases hl:S.ρ n with
  |none=>
   rw[hl] at hc O;simp only[Au] at O;simp only at hc;obtain rfl:=O.2;simp only[I6,AS] at hb;subst hb;rw[hc,run_convert_bytes_string S.w Z T e none 0 0 hs he hd];simp[Conv.bytesToString,Ig];rfl
  |some l=>
   rw[hl] at hc O;simp only[Au] at O;simp only[Ad.len] at hc;obtain⟨_,g1,vs,g2,g3,g4⟩:=O;obtain⟨e1,e2⟩:=tX rows ns _ hb g4;rw[hc,run_convert_bytes_string S.w Z T e _ _ _ hs he hd];have ad:(loadCells ⟨l.b,l.p,none⟩ rows.length).run P S.w= .ok (ns.map (Value.int .u8)).toArray S.w:=by
    rw[pB (w:=S.w) g2 auOm,e1,e2]
   rw[run_bytesToString S.w ⟨l.b,l.p,none⟩ rows.length l.cap ns ad,foldl_push_bytes];simp[Ig,ByteArray.empty,ByteArray.emptyWithCapacity]
   try rfl
 simp only[execOp,ho,Sem.run_bind,af];simp
def Q3{O T:TypeId}{x:Operand}(Q:o.op= .convert O T x)(z:XA P h (Rx (tI P T)) (Ay tm x) K (tI P O)):Cr P tm h nx o K:=by
 unfold XA at z;split at z
 .rename_i ht;exact Qy Q ht z
 .exact Qwv Q z
end
section
variable {P:Program}{tm:TmT}{h:HpT}{nx:Nat}{o:Oper}{K:Al}
def Qalk{T:TypeId}(h:Ua P T=true): ∃z,P.underlying T=some (.interface z):=by
 unfold Ua at h;split at h
 .rename_i z O;exact⟨z,O⟩
 .cases h
def mC{w:World}{T:TypeId}{Q:Array (String×TypeId)}(z:P.underlying T=some (.interface Q))(d:Nat){v:Value}{b:Bool}(O:v= .nilIface/\b=true\/(∃t x,v= .iface t x)/\b=false):(Op.equalIn (d+1) T v .nilIface).run P w= .ok b w:=by
 rcases O with ⟨rfl,rfl⟩|⟨⟨t,x,rfl⟩,rfl⟩<;>simp[Op.equalIn,run_underlying z]
def VU{op:BinOp}{T U:TypeId}{x y:Operand}{m:Nat}(ho:o.op= .binOp op T x y U)(hm:Gy y=m+4)(hk:XP P T op (Ay tm x) K):Cr P tm h nx o K:=by
 obtain⟨hT,hk⟩:=hk;obtain⟨ms,hu⟩:=Qalk hT;have aa:op= .eql\/op= .neq:=by cases op<;>first|exact .inl rfl|exact .inr rfl|exact hk.elim
 have O:RE (decide (op= .neq)) K (Ay tm x):=by rcases aa with rfl|rfl<;>exact hk
 have hy:y= .const .nilIface:=by
  cases y<;>simp only[Gy] at hm<;>try omega
  rename_i v;unfold Ha at hm;split at hm<;>first|omega|rfl
 clear hk;have Q: ∀b:Bool,K (.im (.bool ((decide (op= .neq)) !=b))) {}->(∀(C:Bn) (S:AD) (v:Value),Wf C S->Ab S (Ay tm x) v->v= .nilIface/\b=true\/(∃t x,v= .iface t x)/\b=false)->Cr P tm h nx o K:=by
  intro b ad hv;refine⟨_,_,BP.pure (u:=[]) ?_,ad⟩;intro C S a hW _ ab;have h1:=hv C S _ hW (ab x (by rw[ho];simp[Op.operands]));refine⟨.bool (decide (op= .neq) !=b),?_,by simp only[Ab,rd]⟩;have ac:a.eval y= .nilIface:=by rw[hy];rfl
  have hq:(Op.equal T (a.eval x) .nilIface).run P S.w= .ok b S.w:=mC hu 9999 h1;subst hy;have hg:(eqGuard op T x (.const .nilIface) (a.eval x) .nilIface).run P S.w= .ok () S.w:=by
   clear hq;generalize a.eval x=v at h1⊢;rcases h1 with ⟨rfl,_⟩|⟨⟨t,z,rfl⟩,_⟩<;>rcases aa with rfl|rfl<;>simp[eqGuard]
  have hb:(binOp op T (a.eval x) .nilIface).run P S.w= .ok (.bool (decide (op= .neq) !=b)) S.w:=by
   generalize a.eval x=v at h1 hq⊢;rcases aa with rfl|rfl
   .have:binOp .eql T v .nilIface=(do pure (.bool (<-Op.equal T v .nilIface))):=by
     rcases h1 with ⟨rfl,_⟩|⟨⟨t,z,rfl⟩,_⟩<;>rfl
    rw[this];simp[hq]
   .have:binOp .neq T v .nilIface=(do pure (.bool (!(<-Op.equal T v .nilIface)))):=by
     rcases h1 with ⟨rfl,_⟩|⟨⟨t,z,rfl⟩,_⟩<;>rfl
    rw[this];simp[hq]
  simp only[execOp,ho,ac,Sem.run_bind,hg,Result.andThen_ok,hb,Sem.run_pure]
 cases hx:Ay tm x<;>rw[hx] at O<;>try exact O.elim
 rename_i d;cases d<;>try exact O.elim
 .refine Q true O ?_;intro C S v _ Z;rw[hx] at Z;simp only[Ab,rd] at Z;exact .inl ⟨Z,rfl⟩
 .refine Q false O ?_;intro C S v _ Z;rw[hx] at Z;simp only[Ab,rd] at Z;obtain⟨z,hz,_⟩:=Z;exact .inr ⟨⟨_,z,hz⟩,rfl⟩
def bK{T:TypeId}{x:Operand}(ho:o.op= .makeInterface T x)(z:Wh P T K (Ay tm x)):Cr P tm h nx o K:=by
 cases hx:Ay tm x<;>rw[hx] at z<;>try exact z.elim
 rename_i d;obtain⟨Z,z⟩:=z;refine⟨_,_,BP.pure (u:=[]) ?_,z⟩;intro C S a _ _ O;have h1:=O x (by rw[ho];simp[Op.operands]);rw[hx] at h1;simp only[Ab] at h1;refine⟨.iface T (a.eval x),?_,by simp only[Ab,rd];exact⟨_,rfl,h1⟩⟩
 have:(Instr.makeInterface T (a.eval x)).run P S.w= .ok (.iface T (a.eval x)) S.w:=by
  unfold fE at Z;split at Z
  .cases Z
  .rename_i u aa hu;have Q:(underlying T).run P S.w= .ok u S.w:=by simp[underlying,hu]
   unfold Instr.makeInterface;rw[Sem.run_bind,Q];cases u<;>first|rfl|exact (aa _ rfl).elim
  .cases Z
 simp[execOp,ho,this]
def Qaln{T tk te:TypeId}{x:Operand}{kt:KT}{es:List (D×D)}(ho:o.op= .range T x)(hu:P.underlying T=some (.map tk te))(hx:Ay tm x= .im (.mp kt es))
 (hk:K (.it nx) {new:=[(nx,(true,.iter none es))],cnt:=1}):Cr P tm h nx o K:=by
 refine⟨_,_,BP.one (u:=[]) (ks:=[]) (.inl ⟨rfl,rfl⟩) ?_,hk⟩;intro C S a hW _ Z hnm ab;have Q:=ab x (by rw[ho];simp[Op.operands]);rw[hx] at Q;simp only[Ab,rd] at Q;obtain⟨b,O,z,hv,g2,aa,g3,g4,g5,g6⟩:=Q;have hg:(getObj b).run P S.w= .ok (.map O z) S.w:=QW (w:=S.w) g3;have ac:(underlying T).run P S.w= .ok (.map tk te) S.w:=by simp[underlying,hu]
 refine⟨.pointer (some ⟨S.w.heap.size,0,none⟩),{S.w with heap:=S.w.heap.push (.mapIter (some b) z #[] z)},some ⟨S.w.heap.size,0,0⟩,.inl ?_,WS (w':={S.w with heap:=S.w.heap.push (.mapIter (some b) z #[] z)}) (ob:= .mapIter (some b) z #[] z) rfl rfl rfl rfl (Z rfl) (λn f hf=>hnm n f hf rfl),?_⟩
 .simp only[execOp,ho,hv,Instr.range,Sem.run_bind,ac,Result.andThen_ok,hg,Sem.run_pure];simp
 intro hp;constructor
 .simp only[Au];obtain⟨p1,p2⟩:=hp.ok b aa;refine⟨_,b,O,z,#[],rfl,p1,trivial,p2.trans g3,dS rfl,g5,g6,?_⟩;have h9:O.toList.filter (λe=> !(#[]:Array Nat).contains e.born)=O.toList:=by
   rw[ZdA];intro e _;simp
  rw[h9];exact Mj hp.ok _ _ g4
 .simp only[Ab];exact⟨rfl,λe he=>⟨⟨S.w.heap.size,0,0⟩,by simp[AD.one],rfl⟩⟩
end
def IE(P:Program)(V:DK):Prop:=
 (∀(tm:TmT) (h:HpT) (nx:Nat) (o:Oper) (c:Call) (f:Operand) (K:Al),o.op= .call c->c.callee= .value f->
  (∀x,∀m∈(Ay tm x).nms,m<nx)->R7 V (Ey tm c.args.toList) h nx K (Ay tm f)->Cr P tm h nx o K)/\
 ∀(tm:TmT) (h:HpT) (nx:Nat) (o:Oper) (c:Call) (r:Operand) (m:String) (K:Al),o.op= .call c->c.callee= .invoke r m->
  (∀x,∀m∈(Ay tm x).nms,m<nx)->Oc P V (Ey tm c.args.toList) h nx K m (Ay tm r)->Cr P tm h nx o K
def evL1{tm:TmT}{c:Call}{x:AV}(h:Ey tm c.args.toList=[x]): ∃a,c.args= #[a]/\Ay tm a=x:=by
 cases hc:c.args.toList with
 |nil=>rw[hc] at h;cases h
 |cons a r=>
  rw[hc] at h;cases r with
  |nil=>
   simp only[Ey,YG,lK] at h;exact⟨a,rE.1 (by simpa using hc),h⟩
  |cons b r=>simp[Ey] at h
def Tx{tm:TmT}{c:Call}{x y:AV}(h:Ey tm c.args.toList=[x,y]): ∃a b,c.args= #[a,b]/\Ay tm a=x/\Ay tm b=y:=by
 cases hc:c.args.toList with
 |nil=>rw[hc] at h;cases h
 |cons a r=>
  rw[hc] at h;cases r with
  |nil=>simp[Ey] at h
  |cons b r=>
   cases r with
   |nil=>
    simp only[Ey,YG,lK] at h;exact⟨a,b,rE.1 (by simpa using hc),h.1,h.2⟩
   |cons d r=>simp[Ey] at h
section
variable {P:Program}{tm:TmT}{h:HpT}{nx:Nat}{o:Oper}{K:Al}
def bG{op:BinOp}{T U:TypeId}{x y:Operand}(O:o.op= .binOp op T x y U)(z:dY P T h op (Ay tm x) (Ay tm y) K (Gy y)):Cr P tm h nx o K:=by
 cases hn:Gy y with
 |succ m=>
  rw[hn] at z;cases m with
  |zero=>exact gB O hn auDe z
  |succ m=>
   cases m with
   |zero=>exact gB O hn auDe z
   |succ m=>
    cases m with
    |zero=>exact gB O hn auDe z
    |succ m=>exact VU (m:=m) O hn z
 |zero=>
  rw[hn] at z;simp only[dY] at z;cases hx:Ay tm x<;>rw[hx] at z<;>try exact z.elim
  rename_i d;cases hy:Ay tm y<;>rw[hy] at z<;>try (cases d<;>exact z.elim)
  rename_i d';cases d<;>cases d'<;>try exact z.elim
  .simp only[kE] at z;exact VY O hx hy z
  .simp only[kE] at z;cases hT:tI P T with
   |none=>rw[hT] at z;exact z.elim
   |some ti=>
    rw[hT] at z;simp only[Ob] at z;exact bH O (cC hT z.1) hx hy z.2
  .exact bQ O hx hy z
  .exact Qu O hx hy z
def Qrc{V:DK}(HV:IE P V){sq:Bool}(aa: ∀x,∀m∈(Ay tm x).nms,m<nx)(z:step P V sq tm h nx o.type K o.op):Y8 P sq tm h nx o K:=by
 have af: ∀x,∀m∈(Ay tm x).nms,m≠nx:=λx m hm=>Nat.ne_of_lt (aa x m hm)
 cases ho:o.op<;>rw[ho] at z<;>try exact z.elim
 case move x=>exact .inl (tR (.inl ho) z)
 case assign x=>exact .inl (Qabd ho z)
 case pick c a b=>exact .inl (Wb ho z)
 case alloc T=>exact .inl (Qv ho z)
 case box T x=>exact .inl (bI ho z (λm hm=>af x m (Qvz _ m hm)))
 case build T ps=>exact .inl (Qw ho z)
 case buildSlice T n ps=>exact .inl (Qp8 ho z af)
 case load T x=>exact .inl (VZ ho z)
 case store T x v=>exact .inl (QB ho z)
 case nilCheck x=>exact .inl (Qvi ho z)
 case binOp op T x y U=>
  simp only[step,LY] at z;split at z
  .rename_i ab;simp only[unS,B1,YI] at ab;exact .inr ⟨ab.1,.inr (VX ho ab.2.1 z)⟩
  .exact .inl (bG ho z)
 case slice T x lo hi mx=>
  cases mx<;>try exact z.elim
  exact .inl (QA ho z)
 case range T x=>exact .inl (Q9 (λ_ _ _ _ hu O z=>Qaln ho hu O z) ho z)
 case makeInterface T x=>exact .inl (bK ho z)
 case next x b=>
  cases b<;>try exact z.elim
  simp only[step] at z;cases sq with
  |false=>exact z.elim
  |true=>exact .inr ⟨rfl,.inr (Wa ho z)⟩
 case entry x=>exact .inl (Q4 ho z)
 case makeChan T x=>exact .inl (Qvf ho z)
 case unOp op T x=>exact .inl (Wc ho z)
 case convert S T x=>exact .inl (Q3 ho z)
 case makeFunc f first capt=>
  cases f<;>try exact z.elim
  exact .inl (bJ (by simpa using z.1) ho z.2)
 case makeMap T r=>
  cases r<;>try exact z.elim
  exact .inl (Qyk ho z)
 case makeSlice T l c=>exact .inl (Qrx ho z)
 case fieldAddr T x f=>exact .inl (Qsq ho z)
 case indexAddr T x i=>exact .inl (Qsk ho z)
 case index T x i=>exact .inl (Q6 ho z)
 case lookup T m k ok=>exact .inl (Qabg ho z)
 case mapUpdate T m k v=>exact .inl (Qr9 (.inl ho) z)
 case insert T m k v=>exact .inl (Qr9 (.inr ho) z)
 case extract x i=>exact .inl (Qyh ho z)
 case field U x f=>exact .inl (Q5 ho z)
 case call c=>
  simp only[step] at z;cases hc:c.callee<;>rw[hc] at z<;>try exact z.elim
  case value f=>exact .inl (HV.1 tm h nx o c f K ho hc aa z)
  case invoke r m=>exact .inl (HV.2 tm h nx o c r m K ho hc aa z)
  case builtin b=>
   simp only[xL] at z;unfold Ym at z;split at z
   .rename_i x T O Z;obtain⟨a,Q,ad⟩:=evL1 O;have ac:c.argTypes= #[T]:=rE.1 (by simpa using Z);cases x<;>simp only[Mo] at z
    case ch q=>exact .inl (Q7 ho hc Q ac ad z)
    all_goals first
     |exact z.elim
     |(rw[<-ad] at z;exact bM ho hc Q ac z)
   .rename_i s x T U O Z;obtain⟨a,b,Q,rfl,rfl⟩:=Tx O;exact .inl (Qab5 ho hc Q (rE.1 (by simpa using Z)) z)
   .rename_i m k T ag O Z;obtain⟨a,b,Q,rfl,rfl⟩:=Tx O;exact .inl (Qabh ho hc Q Z z)
   .rename_i d s T U O Z;obtain⟨a,b,Q,rfl,rfl⟩:=Tx O;exact .inl (VW ho hc Q (rE.1 (by simpa using Z)) z)
   .rename_i d T O Z;obtain⟨a,Q,rfl⟩:=evL1 O;exact .inl (Qz ho hc Q (rE.1 (by simpa using Z)) z)
   .rename_i x y O;obtain⟨a,b,Q,rfl,rfl⟩:=Tx O;exact .inl (bO ho hc Q z)
   .rename_i x y O;obtain⟨a,b,Q,rfl,rfl⟩:=Tx O;exact .inl (bP ho hc Q z)
   .exact z.elim
end
def R6(P:Program)(ops:Array Oper)(i:Nat)(a:Act)(w:World)(next:Act->World->Prop):Prop:=
 ∀(b:Frame) (k:List Item) (cs:List Frame) (rest:List Nat),∃a' w',next a' w'/\Steps P (lone (b.at a (.inRegion ops (i::rest)::k)) cs w) (lone (b.at a' (.inRegion ops rest::k)) cs w')
def Op.comm:Op->Bool
 | .send _ _| .recv _ _ _=>true
 |_=>false
def KP(P:Program)(ops:Array Oper)(i:Nat)(a:Act)(w:World)(next:Act->World->Prop):Prop:=
 (∃o,ops[i]? =some o/\Region.wanted o (yielded ops a.tmps)=true/\o.wp P a w next (λ_ _ _=>False))\/((∀o,ops[i]? =some o->Go.Ae.Op.comm o.op=true)/\R6 P ops i a w next)
def Ms(P:Program)(ops:Array Oper)(Q:Act->World->Prop):List Nat->Act->World->Prop
 |[],a,w=>Q a w
 |i::z,a,w=>
  match ops[i]? with
  |none=>Ms P ops Q z a w
  |some o=>if Region.wanted o (yielded ops a.tmps) then KP P ops i a w (Ms P ops Q z) else Ms P ops Q z (a.put o.dst undef) w
section
variable {P:Program}{ops:Array Oper}{i:Nat}{o:Oper}{a:Act}{w:World}{next:Act->World->Prop}
def Qx0(ho:ops[i]? =some o)(hw:Region.wanted o (yielded ops a.tmps)=true)(h:o.wp P a w next (λ_ _ _=>False)):R6 P ops i a w next:=by
 intro b k cs rest;have hg:=stepG_op (P:=P) (b:=b) (a:=a) (k:=k) (cs:=cs) (w:=w) (rest:=rest) ho hw;have z: ∀v,(b.at a (.inRegion ops (i::rest)::k)).finish v=b.at (a.put o.dst v) (.inRegion ops rest::k):=λv=>by
  rw[Frame.finish_at,ho];rfl
 unfold Oper.wp Oper.upon at h;split at h
 .rename_i v Z O;refine⟨_,_,h,.one (step_lone_go ?_)⟩;rw[hg,<-z];simp[stepG.apply,O]
 .rename_i Z O;refine⟨_,_,h,.one (step_lone_go ?_)⟩;rw[hg,<-z];simp[stepG.apply,O]
 .rename_i d Z O;refine⟨_,_,h,.one (step_lone_go ?_)⟩;have h1:({b.at a (.inRegion ops (i::rest)::k) with defers:=d::a.defers}:Frame).finish undef=b.at ({a with defers:=d::a.defers}.put o.dst undef) (.inRegion ops rest::k):=by
   have h2:=Frame.finish_at b {a with defers:=d::a.defers} ops i rest k undef;rw[ho] at h2;exact h2
  rw[hg];simp only[stepG.apply,Sem.runT_eq,O,GStep.bare_after];exact eG (λfr=>GStep.go {frame:=fr,callers:=cs,status:= .running,dying:=none} Z) h1
 .rename_i f args Z O;obtain⟨e,w2,fr,hR,hs,_,hl⟩:=h (b.at a (.inRegion ops (i::rest)::k)::cs);have Q:_root_.Go.step P (lone (b.at a (.inRegion ops (i::rest)::k)) cs w)= .next (lone (Frame.enter P f args .normal) (b.at a (.inRegion ops (i::rest)::k)::cs) Z):=
   step_lone_go (by rw[hg];simp[stepG.apply,O,Frame.at])
  cases e with
  |returned v=>
   refine⟨_,_,hR,.head Q (hs.trans (.one ?_))⟩;rw[<-z];exact step_leave_returned hl
  |panicked c=>exact hR.elim
  |outgrown=>obtain⟨_,_,hR⟩:=hR;exact hR.elim
 .rename_i row args Z O;obtain⟨v,w2,hR,hs⟩:=h (b.at a (.inRegion ops (i::rest)::k)) cs;have Q:_root_.Go.step P (lone (b.at a (.inRegion ops (i::rest)::k)) cs w)= .next (lone (Frame.ofRow P row args .normal) (b.at a (.inRegion ops (i::rest)::k)::cs) Z):=
   step_lone_go (by rw[hg];simp[stepG.apply,O,Frame.at])
  refine⟨_,_,hR,.head Q ?_⟩;rw[<-z];exact hs
 .exact h.elim
 .exact h.elim
def Qab1(z:ops[i]? =some o)(O:Region.wanted o (yielded ops a.tmps)=true)(h:o.wp P a w next (λ_ _ _=>False)):KP P ops i a w next:= .inl ⟨o,z,O,h⟩
def UQ(h:KP P ops i a w next):R6 P ops i a w next:=by
 rcases h with ⟨o,z,O,Q⟩|⟨_,h⟩
 .exact Qx0 z O Q
 .exact h
end
def Qnk{P:Program}{ops:Array Oper}{Q:Act->World->Prop}: ∀(l:List Nat) (a:Act) (w:World),Ms P ops Q l a w-> ∀(b:Frame) (k:List Item) (cs:List Frame),
 ∃a' w',Q a' w'/\Steps P (lone (b.at a (.inRegion ops l::k)) cs w) (lone (b.at a' k) cs w')
 |[],a,w,h,b,k,cs=>⟨a,w,h,.one step_region_end⟩
 |i::rest,a,w,h,b,k,cs=>by
  simp only[Ms] at h;cases ho:ops[i]? with
  |none=>
   rw[ho] at h;obtain⟨a',w',hq,O⟩:=Qnk rest a w h b k cs;have z:=step_op_skip (P:=P) (b:=b) (a:=a) (k:=k) (cs:=cs) (w:=w) (ops:=ops) (i:=i) (rest:=rest) (by simp[ho]);rw[ho] at z;exact⟨a',w',hq,.head z O⟩
  |some o=>
   rw[ho] at h;simp only at h;split at h
   .obtain⟨a1,w1,z,Z⟩:=UQ h b k cs rest;obtain⟨a',w',hq,O⟩:=Qnk rest a1 w1 z b k cs;exact⟨a',w',hq,Z.trans O⟩
   .rename_i hw;obtain⟨a',w',hq,O⟩:=Qnk rest _ w h b k cs;have z:=step_op_skip (P:=P) (b:=b) (a:=a) (k:=k) (cs:=cs) (w:=w) (ops:=ops) (i:=i) (rest:=rest) (by simp[ho,hw]);rw[ho] at z;exact⟨a',w',hq,.head z O⟩
def Qh{P:Program}{id:Nat}{ops:Array Oper}{Q:Exit->Act->World->Prop}{a:Act}{w:World}(h:Ms P ops (Q .normal) (List.range ops.size) a w):(Code.region id ops false).wp P Q a w:=by
 intro b k z;obtain⟨a',w',hq,O⟩:=Qnk _ a w h b k z;exact⟨.normal,a',w',hq,.head step_region O⟩
section
variable {P:Program}{ops:Array Oper}{i:Nat}{o:Oper}{a:Act}{w:World}{next:Act->World->Prop}
def Qjg{z:Frame}{cs:List Frame}{w Z:World}{cases:Array CommCase}{O:Bool}{Q:CommShape}{g:Goroutine}
 (h:(stepG P true {frame:=z,callers:=cs,status:= .running,dying:=none} w).bare= .comm g cases O Q Z):
 _root_.Go.step P (lone z cs w)=(communicate P {timers:= #[],alone:=none,slice:=none} #[{(default:Goroutine) with status:= .finished}] 0 g cases O Q Z).1:=by
 generalize hs:stepG P true {frame:=z,callers:=cs,status:= .running,dying:=none} w=s at h;cases s<;>simp at h;obtain⟨rfl,rfl,rfl,rfl,rfl⟩:=h;rw[_root_.Go.step,stepT,move_lone];simp[runT,lone,Array.swapAt!,hs]
def Qon(c:Nat)(s:Bool):partners #[{(default:Goroutine) with status:= .finished}] c s=[]:=by
 simp[partners]
def Qp5{Z:Frame}{cs:List Frame}{w w1:World}{c cap s r:Nat}{O:Array Value}{tm:Bool}{v z:Value}
 (h:(stepG P true {frame:=Z,callers:=cs,status:= .running,dying:=none} w).bare= .comm {frame:=Z,callers:=cs,status:= .running,dying:=none} #[{chan:= .chan (some c),send:=some v,zero:=z}] true .send w1)
 (hc:w1.heap[c]? =some (.chan cap O false s r tm))(Q:O.size<cap):
 _root_.Go.step P (lone Z cs w)= .next (lone (Z.finish undef) cs {w1 with heap:=w1.heap.setIfInBounds c (.chan cap (O.push v) false (s+1) r tm)}):=by
 rw[Qjg h];simp[communicate,ways,hc,Qon,Q,choose,Sem.run,Question.forced,bind,Sem.bind,pure,Goroutine.finishComm,commResult,lone]
def Qp7{Z:Frame}{cs:List Frame}{w w1:World}{c cap s r:Nat}{O:Array Value}{tm cl:Bool}{z:Value}
 (h:(stepG P true {frame:=Z,callers:=cs,status:= .running,dying:=none} w).bare= .comm {frame:=Z,callers:=cs,status:= .running,dying:=none} #[{chan:= .chan (some c),send:=none,zero:=z}] true (.recv false) w1)
 (hc:w1.heap[c]? =some (.chan cap O cl s r tm))(Q:0<O.size):
 _root_.Go.step P (lone Z cs w)= .next (lone (Z.finish (O.getD 0 undef)) cs {w1 with heap:=w1.heap.setIfInBounds c (.chan cap (O.extract 1 O.size) cl s (r+1) tm)}):=by
 rw[Qjg h];simp[communicate,ways,hc,Qon,Q,choose,Sem.run,Question.forced,bind,Sem.bind,pure,Goroutine.finishComm,commResult,lone]
def PY{ch x:Operand}(ho:ops[i]? =some o)(hw:Region.wanted o (yielded ops a.tmps)=true)(ab:o.op= .send ch x){c cap s r:Nat}{O:Array Value}{tm:Bool}(ac:a.eval ch= .chan (some c))
 (hc:w.heap[c]? =some (.chan cap O false s r tm))(Q:O.size<cap)(hn:next (a.put o.dst undef) {w with heap:=w.heap.setIfInBounds c (.chan cap (O.push (a.eval x)) false (s+1) r tm)}):KP P ops i a w next:=by
 refine .inr ⟨λo' aa=>by rw[ho] at aa;obtain rfl:=AJ aa;rw[ab];rfl,?_⟩;intro b k cs rest;have hg:=stepG_op (P:=P) (b:=b) (a:=a) (k:=k) (cs:=cs) (w:=w) (rest:=rest) ho hw;have Z: ∀v,(b.at a (.inRegion ops (i::rest)::k)).finish v=b.at (a.put o.dst v) (.inRegion ops rest::k):=λv=>by
  rw[Frame.finish_at,ho];rfl
 refine⟨_,_,hn,.one ?_⟩;rw[<-Z];have hr:(execOp a.eval o).run P w= .ok (.comm #[{chan:= .chan (some c),send:=some (a.eval x),zero:= .tuple #[]}] true .send) w:=by
  simp[execOp,ab,ac]
 exact Qp5 (z:= .tuple #[]) (v:=a.eval x) (by rw[hg];simp[stepG.apply,hr,Frame.at]) hc Q
def PX{ch:Operand}{T e:TypeId}{d:ChanDir}{z:Value}(ho:ops[i]? =some o)(hw:Region.wanted o (yielded ops a.tmps)=true)(ab:o.op= .recv T ch false)(hT:P.underlying T=some (.chan d e))(hz:(zeroValue e).run P w= .ok z w)
 {c cap s r:Nat}{O:Array Value}{tm cl:Bool}(ac:a.eval ch= .chan (some c))
 (hc:w.heap[c]? =some (.chan cap O cl s r tm))(Q:0<O.size)(hn:next (a.put o.dst (O.getD 0 undef)) {w with heap:=w.heap.setIfInBounds c (.chan cap (O.extract 1 O.size) cl s (r+1) tm)}):KP P ops i a w next:=by
 refine .inr ⟨λo' aa=>by rw[ho] at aa;obtain rfl:=AJ aa;rw[ab];rfl,?_⟩;intro b k cs rest;have hg:=stepG_op (P:=P) (b:=b) (a:=a) (k:=k) (cs:=cs) (w:=w) (rest:=rest) ho hw;have Z: ∀v,(b.at a (.inRegion ops (i::rest)::k)).finish v=b.at (a.put o.dst v) (.inRegion ops rest::k):=λv=>by
  rw[Frame.finish_at,ho];rfl
 refine⟨_,_,hn,.one ?_⟩;rw[<-Z];have hu:(underlying T).run P w= .ok (.chan d e) w:=by simp[underlying,hT]
 have hr:(execOp a.eval o).run P w= .ok (.comm #[{chan:= .chan (some c),send:=none,zero:=z}] true (.recv false)) w:=by
  simp[execOp,ab,ac,hu,hz]
 exact Qp7 (z:=z) (by rw[hg];simp[stepG.apply,hr,Frame.at]) hc Q
end
structure Dt(C:Bn)(N:Nat)(s:Az)(S:AD)(a:Act):Prop where
 wf:Wf C S
 h: ∀n,S.h n=hget s.h n
 tm: ∀t,Ab S (AF s.tm t) (a.eval (.tmp t))
 nmT: ∀t,∀m∈(AF s.tm t).nms,m<s.nx
 nmH: ∀n e,hget s.h n=some e->n<s.nx/\ ∀m∈e.2.nms,m<s.nx
 size:a.tmps.size=N
 defers:a.defers=C.ds
 n0:C.n0<=s.nx
 pre:C.Pre S
def Qy2{C:Bn}{S S':AD}{nx cnt:Nat}(h:C.Pre S)(hn:C.n0<=nx)(hp:Ck (λm=> ¬Fr nx cnt m) S S'):C.Pre S':=by
 intro o ho e' z;obtain⟨e,h1,h2,h3,h4⟩:=hp.nm o (λhf=>by have:=hf.1;omega) e' z;obtain⟨O,g1,g2,Q,Z⟩:=h o ho e h1;exact⟨O,g1,h2.trans g2,h3.trans Q,h4.trans Z⟩
def Cg(C:Bn)(N:Nat)(s:Az)(a:Act)(w:World):Prop:= ∃S,S.w=w/\Dt C N s S a
def sZ(S:AD)(tm:TmT)(f:FuncId):Ab S (Ay tm (.func f)) (.func (.func f) #[] #[]):=by
 simp only[Ay];cases hb:Nat.blt f 1000000000 with
 |true=>simp only[IJ,Ab,rd,rdl];exact⟨#[],#[],by rw[xX (by simpa using hb)],rfl,rfl⟩
 |false=>simp only[Dw,Ab]
def RW{C:Bn}{N:Nat}{s:Az}{S:AD}{a:Act}(h:Dt C N s S a)(x:Operand):Ab S (Ay s.tm x) (a.eval x):=by
 cases x with
 |tmp t=>exact h.tm t
 |const v=>exact Nj S v
 |global g=>simp only[Ay,Ab,rd,Act.eval]
 |func f=>exact sZ S s.tm f
def MI{tm:TmT}{nx:Nat}(h: ∀t,∀m∈(AF tm t).nms,m<nx)(x:Operand): ∀m∈(Ay tm x).nms,m<nx:=by
 cases x with
 |tmp t=>exact h t
 |const v=>
  intro m hm;simp only[Ay] at hm;unfold kD at hm;split at hm<;>simp[AV.nms] at hm
 |global g=>intro m hm;simp[Ay,AV.nms] at hm
 |func f=>intro m hm;simp only[Ay] at hm;cases hb:Nat.blt f 1000000000<;>rw[hb] at hm<;>simp[AV.nms] at hm
mutual
def yE{n:Nat}: ∀(x:AV),x.bel n=true-> ∀m∈x.nms,m<n
 | .any,_=>by simp[AV.nms]
 | .im _,_=>by simp[AV.nms]
 | .agg z,h=>by simpa only[AV.nms] using dF z (by simpa only[AV.bel] using h)
 | .tup z,h=>by simpa only[AV.nms] using dF z (by simpa only[AV.bel] using h)
 | .ptr o _,h=>by simpa[AV.nms,AV.bel] using h
 | .eptr o _ _,h=>by simpa[AV.nms,AV.bel] using h
 | .own o,h=>by simpa[AV.nms,AV.bel] using h
 | .mp o,h=>by simpa[AV.nms,AV.bel] using h
 | .ch o,h=>by simpa[AV.nms,AV.bel] using h
 | .it o,h=>by simpa[AV.nms,AV.bel] using h
 | .osl o _ _,h=>by simpa[AV.nms,AV.bel] using h
 | .clo _ a c,h=>by
   simp only[AV.bel,B1] at h;simp only[AV.nms,BO];rintro m (hm|hm)
   .exact dF a h.1 m hm
   .exact dF c h.2 m hm
def dF{n:Nat}: ∀(xs:List AV),A9 n xs=true-> ∀m∈Av xs,m<n
 |[],_=>by simp[Av]
 |x::xs,h=>by
  simp only[A9,B1] at h;simp only[Av,BO];rintro m (hm|hm)
  .exact yE x h.1 m hm
  .exact dF xs h.2 m hm
end
def tK{n:Nat}: ∀(z:List (List AV)),z.all (A9 n)=true-> ∀m∈BI z,m<n
 |[],_=>by simp[BI]
 |r::z,h=>by
  simp only[E6,B1] at h;simp only[BI,BO];rintro m (hm|hm)
  .exact dF r h.1 m hm
  .exact tK z h.2 m hm
def jR{n:Nat}: ∀(hs:An),Ar n hs=true-> ∀o e,hget hs o=some e-> ∀m∈e.2.nms,m<n
 |[],_,o,e,h=>by simp[hget] at h
 |(q,Z,Q)::hs,z,o,e,h=>by
  have O:(∀m∈Q.nms,m<n)/\Ar n hs=true:=by
   cases Q<;>simp only[Ar,B1] at z
   .exact⟨dF _ z.1,z.2⟩
   .exact⟨by simp[Ad.nms],z⟩
   .exact⟨tK _ z.1,z.2⟩
   .exact⟨by simp[Ad.nms],z⟩
   .exact⟨by simp[Ad.nms],z⟩
   .exact⟨by simp[Ad.nms],z⟩
   .exact⟨by simp[Ad.nms],z⟩
  simp only[hget] at h;cases hq:q==o<;>rw[hq] at h
  .exact jR hs O.2 o e (by simpa using h)
  .simp only[IJ,AS] at h;subst h;exact O.1
def Qlm{ks:List Nat}{nx cnt:Nat}: ∀(hs:An),GO ks nx cnt hs=true-> ∀o e,hget hs o=some e->(nx<=o/\o<nx+cnt)\/(o∈ks/\o<nx)
 |[],_,o,e,h=>by simp[hget] at h
 |(q,x)::hs,z,o,e,h=>by
  simp only[GO,B1] at z;simp only[hget] at h;cases hq:q==o<;>rw[hq] at h
  .exact Qlm hs z.2 o e (by simpa using h)
  .have O:q=o:=by simpa using hq
   subst O
   have:=z.1
   simp only[I8,IK,B1,Jf,Mw,GF] at this;exact this
def Qm2(a b:An)(n:Nat):hget (a++b) n=match hget a n with|some e=>some e|none=>hget b n:=by
 induction a with
 |nil=>rfl
 |cons x a ih=>
  obtain⟨q,e⟩:=x;simp only[BZ,hget];cases q==n<;>simp[ih]
def Qm7(ks:List Nat)(n:Nat): ∀(a:An),hget (Bp a ks) n=bif ks.contains n then none else hget a n
 |[]=>by simp[Bp,hget]
 |(q,e)::a=>by
  simp only[Bp];have ih:=Qm7 ks n a;cases hq:ks.contains q
  .simp only[Dw,hget,ih];cases hqn:q==n
   .simp
   .have:q=n:=by simpa using hqn
    subst this;have z:q∉ks:=by simpa using hq
    simp[z]
  .simp only[IJ,ih,hget];cases hqn:q==n
   .simp
   .have:q=n:=by simpa using hqn
    subst this;have z:q∈ks:=by simpa using hq
    simp[z]
def Qfo{a:Act}{dst:Option Nat}{v:Value}{t:Nat}(hd: ∀d,dst=some d->d<a.tmps.size):
 (a.put dst v).eval (.tmp t)=if dst=some t then v else a.eval (.tmp t):=by
 cases dst with
 |none=>simp[Act.put]
 |some d=>
  have:=hd d rfl
  simp only[Act.put,Act.eval,Ec,YJ,AS];by_cases h:d=t
  .subst h;simp[this]
  .simp[h]
def WL{s:Az}{dst:Option Nat}{x:AV}{t:Nat}:AF (s.put dst x).tm t=if dst=some t then x else AF s.tm t:=by
 cases dst with
 |none=>simp[Az.put]
 |some d=>
  simp only[Az.put,AF,AS];by_cases h:d=t
  .subst h;simp
  .have:(d==t)=false:=by simpa using h
   simp[this,h]
def Qxs{C:Bn}{N:Nat}{s:Az}{S S':AD}{a:Act}{dst:Option Nat}{r:AV}{E:BA}{v:Value}(z:Dt C N s S a)(aa:E.ok s.nx r=true)(hd: ∀d,dst=some d->d<N)
 (hW:Wf C S')(hh:S'.h=E.appf S.h)(hp:Ck (λm=> ¬Fr s.nx E.cnt m) S S')(hv:Ab S' r v):Dt C N (s.app dst r E) S' (a.put dst v):=by
 simp only[BA.ok,B1] at aa;obtain⟨af,ag,ah⟩:=aa;have Q: ∀n,hget (E.new++Bp s.h E.kill) n=E.appf (hget s.h) n:=by
  intro n;rw[Qm2,Qm7];simp only[BA.appf];cases hget E.new n<;>rfl
 have ad:S.h=hget s.h:=funext z.h;have Z:(s.app dst r E).nx=s.nx+E.cnt:=by cases dst<;>rfl
 have ab:(s.app dst r E).h=E.new++Bp s.h E.kill:=by cases dst<;>rfl
 have ac: ∀t,AF (s.app dst r E).tm t=if dst=some t then r else AF s.tm t:=λt=>WL
 refine⟨hW,?_,?_,?_,?_,?_,?_,?_,Qy2 z.pre z.n0 hp⟩
 .intro n;rw[ab,Q,hh,ad]
 .intro t;rw[ac,Qfo (λd h=>by rw[z.size];exact hd d h)];split
  .exact hv
  .refine J0 hp _ _ ?_ (z.tm t);intro m hm ai
   have:=z.nmT t m hm
   have:=ai.1
   omega
 .intro t;rw[ac,Z];split
  .exact yE r af
  .intro m hm;have:=z.nmT t m hm;omega
 .intro n e O;rw[ab,Qm2] at O;rw[Z];cases hn:hget E.new n with
  |some e'=>
   rw[hn] at O;obtain rfl:=AJ O;refine⟨?_,jR _ ag n _ hn⟩;rcases Qlm _ ah n _ hn with h|h<;>omega
  |none=>
   rw[hn] at O;simp only[Qm7] at O;cases hk:E.kill.contains n<;>rw[hk] at O
   .obtain⟨h1,h2⟩:=z.nmH n e (by simpa using O);exact⟨auOm,λm hm=>by have:=h2 m hm;omega⟩
   .simp at O
 .cases dst<;>simp[Act.put,z.size]
 .cases dst<;>simp[Act.put,z.defers]
 .rw[Z];exact Gu z.n0 (ZeG _ _)
def Qty{P:Program}{V:DK}(HV:IE P V){C:Bn}{N:Nat}{s:Az}{a:Act}{w:World}{ops:Array Oper}{i:Nat}{o:Oper}{go:Az->Prop}(av:ops[i]? =some o)(hw:Region.wanted o (yielded ops a.tmps)=true)(hd: ∀d,o.dst=some d->d<N)
 (O:Ko P V o.dst o.op o.type go s)(Q:Cg C N s a w){next:Act->World->Prop}(hn: ∀s' a' w',go s'->Cg C N s' a' w'->next a' w'):KP P ops i a w next:=by
 obtain⟨S,rfl,Q⟩:=Q;have bg:S.h=hget s.h:=funext Q.h;unfold Ko at O;have a0:step P V true s.tm (hget s.h) s.nx o.type (De go s o.dst) o.op->KP P ops i a S.w next:=by
  intro O;refine Qab1 av hw ?_;have an: ∀n,s.nx<=n->S.h n=none:=by
   intro n ak;cases hn:S.h n with
   |none=>rfl
   |some e=>
    have:=(Q.nmH n e (by rw[<-Q.h n];exact hn)).1
    omega
  have ao: ∀n e,S.h n=some e-> ∀m∈e.2.nms,m<s.nx:=λn e he m hm=>(Q.nmH n e (by rw[<-Q.h n];exact he)).2 m hm
  rcases Qrc HV (MI Q.nmT) O with ⟨r,E,aj,af,ah⟩|⟨_,⟨u,ax⟩|bb⟩
  .refine aj C S a next _ Q.wf (λn _=>Q.h n) (λn ak=>an n ak.1) ?_ (λx _=>RW Q x) ?_
   .intro n e he m hm ak
    have:=ao n e he m hm
    have:=ak.1
    omega
   .intro v S' hW hh hp hv;exact hn _ _ _ ah ⟨S',rfl,Qxs Q af hd hW hh hp hv⟩
  .exact absurd (ax C S a Q.wf (λn _=>Q.h n) (λx _=>RW Q x)) id
  .refine bb C S a next _ Q.wf Q.h an ao (λx _=>RW Q x) ?_
   intro r E v S' hK hW hh hp hv;obtain⟨af,ah⟩:=hK;exact hn _ _ _ ah ⟨S',rfl,Qxs Q af hd hW hh hp hv⟩
 have chan: ∀(q cap:Nat) (bu ag:List D) (l:GI) (ab:Array Value) (aa Z:Nat) (r:AV) (v:Value),S.h q=some (true,.chan bu cap)->S.ρ q=some l->rdl S.ok S.hp ag ab.toList->
  (∀S':AD,(∀b,S.ok b->S'.ok b/\S'.hp b=S.hp b)->Ab S' r v)->
  De go s o.dst r {use:=[q],kill:=[q],new:=[(q,(true,.chan ag cap))]}->next (a.put o.dst v) {S.w with heap:=S.w.heap.setIfInBounds l.b (.chan cap ab false aa Z false)}:=by
  intro q cap bu ag l ab aa Z r v hS hl hb hv hK
  let w':World:={S.w with heap:=S.w.heap.setIfInBounds l.b (.chan cap ab false aa Z false)}
  have aq:Mq S q (.chan ag cap) (some l) [q] w':=jU Q.wf hS hl (w':=w') (ob:= .chan cap ab false aa Z false) rfl rfl rfl rfl rfl rfl;have am:=wF Q.wf aq;have az:Au (S.one q (.chan ag cap) (some l) [q] w') (some l) (.chan ag cap):=by
   simp only[Au];exact⟨l,ab,aa,Z,rfl,jZ (Q.wf.loc q _ l hS hl).1 rfl,Ml am.ok _ _ hb⟩
  have a8:=Qqp Q.wf aq az;obtain⟨af,ah⟩:=hK;refine hn _ _ _ ah ⟨_,rfl,Qxs Q af hd a8 ?_ ⟨am.ok,λn hX=>am.nm n (.inl (by rw[hS];simp))⟩ (hv _ am.ok)⟩;funext n;simp only[AD.one,BA.appf,Go.Ae.hget];by_cases aw:n=q
  .subst aw;simp
  .have:(q==n)=false:=by rw[FX];exact λh=>aw h.symm
   simp[this,aw]
 unfold E3 at O;split at O
 .rename_i c x aj;unfold Mb at O;split at O
  .rename_i q d au bd;have h1:=RW Q c;have h2:=RW Q x;rw[au] at h1;rw[bd] at h2;cases hq:hget s.h q with
   |none=>rw[hq] at O;exact O.elim
   |some ad=>
    obtain⟨mu,ad⟩:=ad;rw[hq] at O;cases mu<;>cases ad<;>try exact O.elim
    rename_i bu cap;simp only[oA] at O;obtain⟨ba,O⟩:=O;have hS:=(Q.h q).trans hq;simp only[Ab] at h1 h2;obtain⟨l,hl,hv⟩:=h1.2 _ hS;have ai:=Q.wf.obj _ _ hS;simp only[Au] at ai;obtain⟨lc,ac,aa,Z,g1,g2,g3⟩:=ai;rw[hl] at g1;obtain rfl:=AJ g1;have ay:=jT _ _ g3;simp only[HA] at ay;refine PY av hw aj hv g2 auOm ?_;refine chan q cap bu (bu++[d]) l (ac.push (a.eval x)) (aa+1) Z .any undef hS hl ?_ (λ_ _=>by simp only[Ab]) O;rw[zO]
    have: ∀(ds:List D) (vs:LVa),rdl S.ok S.hp ds vs->rdl S.ok S.hp (ds++[d]) (vs++[a.eval x]):=by
     intro ds;induction ds with
     |nil=>intro vs h;simp only[rdl] at h;subst h;simp only[E5,rdl];exact⟨_,_,rfl,h2,rfl⟩
     |cons y ys ih=>
      intro vs h;simp only[rdl] at h;obtain⟨v,r,rfl,k1,k2⟩:=h;simp only[BZ,rdl];exact⟨_,_,rfl,k1,ih r k2⟩
    exact this _ _ g3
  .exact O.elim
 .rename_i T c aj;unfold Ma at O;cases hce:Xf P T with
  |none=>rw[hce] at O;exact O.elim
  |some e=>
  rw[hce] at O;simp only[rvK] at O;cases hE:tI P e with
  |none=>rw[hE] at O;exact O.elim
  |some te=>
  rw[hE] at O;simp only[Bz,rvE] at O;obtain⟨be,hz,O⟩:=O;obtain⟨z,bf,_⟩:=jA hE be hz;obtain⟨dr,hu⟩:=Qpi hce;have h1:=RW Q c;cases au:Ay s.tm c<;>rw[au] at O h1<;>try exact O.elim
  rename_i q;simp only[rvC] at O;cases hq:hget s.h q with
  |none=>rw[hq] at O;exact O.elim
  |some ad=>
   obtain⟨mu,ad⟩:=ad;rw[hq] at O;cases mu<;>cases ad<;>try exact O.elim
   rename_i bu cap;simp only[nY] at O;obtain⟨a9,O⟩:=O;obtain⟨d,r,rfl⟩:=Zek a9;have O:=O d r rfl;have hS:=(Q.h q).trans hq;simp only[Ab] at h1;obtain⟨l,hl,hv⟩:=h1.2 _ hS;have ai:=Q.wf.obj _ _ hS;simp only[Au] at ai;obtain⟨lc,ac,aa,Z,g1,g2,g3⟩:=ai;rw[hl] at g1;obtain rfl:=AJ g1;simp only[rdl] at g3;obtain⟨v0,vr,k1,k2,k3⟩:=g3;have bc:0<ac.size:=by rw[<-HA,k1];simp
   have h0:ac.getD 0 undef=v0:=by
    have:ac.toList[0]? =some v0:=by rw[k1];rfl
    rw[Ec,<-YK,this];rfl
   have hx:(ac.extract 1 ac.size).toList=vr:=by
    rw[ZeT,k1];simp only[List.extract,Sv,Mv];apply BE;rw[<-HA,k1];simp
   refine PX av hw aj hu (bf _) hv g2 bc ?_;rw[h0];refine chan q cap (d::r) r l _ aa (Z+1) (.im d) v0 hS hl (by rw[hx];exact k3) (λS' af=> ?_) O;simp only[Ab];exact HK af _ _ k2
 .exact a0 O
def ME{C:Bn}{N:Nat}{s:Az}{a:Act}{w:World}(z:Cg C N s a w){dst:Option Nat}(hd: ∀d,dst=some d->d<N){x:AV}{v:Value}(hx:x.nms=[])(hv: ∀S,Ab S x v):Cg C N (s.put dst x) (a.put dst v) w:=by
 obtain⟨S,rfl,z⟩:=z;have Z:(s.put dst x).h=s.h:=by cases dst<;>rfl
 have O:(s.put dst x).nx=s.nx:=by cases dst<;>rfl
 refine⟨S,rfl,z.wf,λn=>by rw[Z];exact z.h n,?_,?_,?_,?_,?_,by rw[O];exact z.n0,z.pre⟩
 .intro t;rw[WL,Qfo (λd h=>by rw[z.size];exact hd d h)];split
  .exact hv S
  .exact z.tm t
 .intro t;rw[WL,O];split
  .rw[hx];intro m hm;cases hm
  .exact z.nmT t
 .intro n e Q;rw[Z] at Q;rw[O];exact z.nmH n e Q
 .cases dst<;>simp[Act.put,z.size]
 .cases dst<;>simp[Act.put,z.defers]
def Mr(N:Nat):List Oper->Bool
 |[]=>true
 |o::r=>(match o.dst with|some d=>Nat.blt d N|none=>true) && Mr N r
def Qqk{C:Bn}{N:Nat}{s:Az}{S:AD}{a:Act}(Q:Dt C N s S a){ops:Array Oper}{j t:Nat}(ht:(ops[j]?).bind (·.dst)=some t){b:Bool}(O:AF s.tm t= .im (.bool b)):
 yielded ops a.tmps j=some b:=by
 have z:=Q.tm t;rw[O] at z;simp only[Ab,rd,Act.eval] at z;unfold yielded;rw[ht];simp only[E7];rw[Ec] at z;cases hq:a.tmps[t]? with
 |none=>rw[hq] at z;simp[undef] at z
 |some v=>rw[hq] at z;simp at z;rw[z]
def Qpr{P:Program}{V:DK}(HV:IE P V){C:Bn}{N:Nat}{ops:Array Oper}{K:Az->Prop}{Q:Exit->Act->World->Prop}(hQ: ∀s a w,K s->Cg C N s a w->Q .normal a w):
 ∀(rest more:List Oper) (i:Nat),ops.toList.drop i=rest++more->Mr N rest=true-> ∀(s:Az) (a:Act) (w:World),Qk P V (IG ops rest) K s->Cg C N s a w->Ms P ops (Q .normal) (List.range' i rest.length) a w:=by
 intro rest more;induction rest with
 |nil=>
  intro i _ _ s a w O hc;simp only[IG,Qk] at O;simpa[Ms] using hQ s a w O hc
 |cons o rest ih=>
  intro i hi hd s a w O hc;simp only[Mr,B1] at hd;have af:ops[i]? =some o:=by
   have:(ops.toList.drop i)[0]? =some o:=by rw[hi];rfl
   simpa using this
  have ak:ops.toList.drop (i+1)=rest++more:=by
   have:(ops.toList.drop i).drop 1=rest++more:=by rw[hi];rfl
   rwa [FW] at this
  have aa: ∀d,o.dst=some d->d<N:=by
   intro d aj
   have:=hd.1
   rw[aj] at this;simpa using this
  have Z: ∀s' a' w',Qk P V (IG ops rest) K s'->Cg C N s' a' w'->Ms P ops (Q .normal) (List.range' (i+1) rest.length) a' w':=λs' a' w' h1 h2=>ih (i+1) ak hd.2 s' a' w' h1 h2
  simp only[Em,List.range'_succ,Ms,af];simp only[IG,Qk] at O;cases hg:o.guard with
  |none=>
   rw[hg] at O;simp only[kJ,opS] at O;rw[Bt (by simp[Region.wanted,hg])];exact Qty HV af (by simp[Region.wanted,hg]) aa O hc Z
  |some g=>
   obtain⟨j,ab⟩:=g;rw[hg] at O;simp only[kJ,opS] at O;cases ht:(ops[j]?).bind (·.dst) with
   |none=>rw[ht] at O;exact O.elim
   |some t=>
    rw[ht] at O;simp only[Z3] at O;cases hb:AF s.tm t<;>rw[hb] at O<;>try exact O.elim
    rename_i d;cases d<;>try exact O.elim
    case tup cs=>
     cases cs with
     |cons _ _=>exact O.elim
     |nil=>
      simp only[Yp,NZ] at O;have hy:yielded ops a.tmps j=none:=by
       obtain⟨S,_,z⟩:=hc;have h1:=z.tm t;rw[hb] at h1;simp only[Ab,rd,rdl,Act.eval] at h1;obtain⟨vs,h1,h2⟩:=h1;unfold yielded;rw[ht];simp only[E7];rw[Ec] at h1;cases hq:a.tmps[t]? with
       |none=>rfl
       |some v=>rw[hq] at h1;simp at h1;rw[h1]
      rw[Be (by simp[Region.wanted,hg,hy])];exact Z _ _ _ O (ME hc aa rfl (λS=>by simp only[Ab,rd,rdl];exact⟨#[],rfl,rfl⟩))
    case bool b=>
    simp only[Yp] at O;obtain⟨S,ah,z⟩:=hc;have hy:=Qqk z ht hb;have ad: ∀b':Bool,b=b'->Cg C N (s.put (some t) (.im (.bool b'))) a w:=by
     intro b' ai;subst ai;refine⟨S,ah,z.wf,z.h,?_,?_,z.nmH,z.size,z.defers,z.n0,z.pre⟩
     .intro t';rw[WL];split
      .rename_i h;cases h;have:=z.tm t;rwa [hb] at this
      .exact z.tm t'
     .intro t';rw[WL];split
      .intro m hm;simp[AV.nms] at hm
      .exact z.nmT t'
    by_cases ac:b=ab
    .rw[Bt (by simp[Region.wanted,hg,hy,ac])];exact Qty HV af (by simp[Region.wanted,hg,hy,ac]) aa (O.1 ac) (ad ab ac) Z
    .rw[Be (by simp[Region.wanted,hg,hy,ac])];have ag:b= !ab:=by cases b<;>cases ab<;>simp_all
     have h2:=O.2 ag;simp only[NZ] at h2;exact Z _ _ _ h2 (ME (ad _ ag) aa rfl (λS=>by simp only[Ab,rd,rdl];exact⟨#[],rfl,rfl⟩))
def Qt0{P:Program}{V:DK}(z:IE P V){C:Bn}{N id:Nat}{ops:Array Oper}{K:Az->Prop}{Q:Exit->Act->World->Prop}(O: ∀s a w,K s->Cg C N s a w->Q .normal a w)
 (hd:Mr N ops.toList=true){s:Az}{a:Act}{w:World}(hk:Qk P V (IG ops ops.toList) K s)(Z:Cg C N s a w):(Code.region id ops false).wp P Q a w:=by
 refine Qh ?_
 have:=Qpr z (ops:=ops) O ops.toList [] 0 auSi hd s a w hk Z
 rwa [HA,<-ZdZ] at this
structure Ev where
 i:Nat
 o:Oper
 s:Az
 r:AV
 E:BA
 skip:Bool
def HD(D:Nat->Bool):List Ev->(HpT)->(HpT)
 |[],h=>h
 |e::r,h=>HD D r (bif D e.i then e.E.appf h else h)
def TD(D:Nat->Bool):List Ev->(Nat->AV)->(Nat->AV)
 |[],f=>f
 |e::r,f=>TD D r (λt=>bif D e.i && (e.o.dst==some t) then e.r else f t)
def Qwh{n:Nat}: ∀(hs:An),n∉GL hs->hget hs n=none
 |[],_=>rfl
 |(q,e)::hs,h=>by
  simp only[GL,B0,Rh] at h
  have:(q==n)=false:=by rw[FX];exact λh'=>h.1 h'.symm
  simp only[hget,this,Dw];exact Qwh hs h.2
def Qur{n:Nat}: ∀(hs:An),n∈GL hs-> ∃e,hget hs n=some e
 |[],h=>by simp[GL] at h
 |(q,e)::hs,h=>by
  simp only[GL,B0] at h;simp only[hget];cases hq:q==n
  .have z:q≠n:=by simpa using hq
   rcases h with rfl|h
   .exact absurd rfl z
   .simpa using Qur hs h
  .exact⟨e,auSi⟩
def xI{E:BA}{h:HpT}{n:Nat}(hn:n∉E.touch):E.appf h n=h n:=by
 simp only[BA.touch,BO,Rh] at hn;simp[BA.appf,Qwh _ hn.2,hn.1]
def YQ{E:BA}{h h':HpT}{n:Nat}(hn:n∈E.touch):E.appf h n=E.appf h' n:=by
 simp only[BA.appf];cases hg:hget E.new n with
 |some e=>rfl
 |none=>
  simp only[BA.touch,BO] at hn;rcases hn with hn|hn
  .simp[hn]
  .obtain⟨e,z⟩:=Qur _ hn;rw[z] at hg;cases hg
def Qym{E:BA}{h h':HpT}{n:Nat}(z:h n=h' n):E.appf h n=E.appf h' n:=by
 simp only[BA.appf,z]
def pT{D D':Nat->Bool}{n:Nat}: ∀(evs:List Ev) (h h':HpT),h n=h' n->(∀e∈evs,D e.i≠D' e.i->n∉e.E.touch)->HD D evs h n=HD D' evs h' n
 |[],_,_,z,_=>z
 |e::r,h,h',z,hd=>by
  simp only[HD];refine pT r _ _ ?_ (λx O=>hd x (by simp[O]));cases h1:D e.i<;>cases h2:D' e.i
  .simpa using z
  .have:=hd e auSi (by rw[h1,h2];simp)
   simp only[Dw,IJ];rw[xI this];exact z
  .have:=hd e auSi (by rw[h1,h2];simp)
   simp only[Dw,IJ];rw[xI this];exact z
  .simp only[IJ];exact Qym z
def pV{D D':Nat->Bool}{t:Nat}: ∀(evs:List Ev) (f f':Nat->AV),f t=f' t->(∀e∈evs,D e.i≠D' e.i->e.o.dst≠some t)->TD D evs f t=TD D' evs f' t
 |[],_,_,z,_=>z
 |e::r,f,f',z,hd=>by
  simp only[TD];refine pV r _ _ ?_ (λx O=>hd x (by simp[O]));by_cases hq:e.o.dst=some t
  .have:D e.i=D' e.i:=by
    rcases Decidable.em (D e.i=D' e.i) with h|h
    .exact h
    .exact absurd hq (hd e auSi h)
   rw[this,z]
  .have:(e.o.dst==some t)=false:=by rw[FX];exact hq
   simp[this,z]
def yQ(D:Nat->Bool): ∀(a b:List Ev) (h:HpT),HD D (a++b) h=HD D b (HD D a h)
 |[],_,_=>rfl
 |e::a,b,h=>by simp only[BZ,HD];exact yQ D a b _
def yT(D:Nat->Bool): ∀(a b:List Ev) (f:Nat->AV),TD D (a++b) f=TD D b (TD D a f)
 |[],_,_=>rfl
 |e::a,b,f=>by simp only[BZ,TD];exact yT D a b _
def Qw6{D:Nat->Bool}: ∀(evs:List Ev) (h:HpT) (n:Nat),(∀e∈evs,D e.i=true->n∉e.E.touch)->HD D evs h n=h n
 |[],_,_,_=>rfl
 |e::r,h,n,hd=>by
  simp only[HD];rw[Qw6 r _ n (λx z=>hd x (by simp[z]))];cases h1:D e.i
  .rfl
  .exact xI (hd e auSi h1)
def Qyr{D:Nat->Bool}: ∀(evs:List Ev) (f:Nat->AV) (t:Nat),(∀e∈evs,D e.i=true->e.o.dst≠some t)->TD D evs f t=f t
 |[],_,_,_=>rfl
 |e::r,f,t,hd=>by
  simp only[TD];rw[Qyr r _ t (λx z=>hd x (by simp[z]))];cases h1:D e.i
  .rfl
  .have:(e.o.dst==some t)=false:=by rw[FX];exact hd e auSi h1
   simp[this]
def Qtn{n:Nat}{x:Ap}: ∀(hs:An),hget hs n=some x->n∈GL hs/\ ∀m∈x.2.nms,m∈JY hs
 |[],h=>by simp[hget] at h
 |(q,Z,ob)::hs,h=>by
  simp only[hget] at h;simp only[GL,JY,B0,BO];cases hq:q==n<;>rw[hq] at h
  .obtain⟨O,Q⟩:=Qtn hs (by simpa using h);exact⟨.inr O,λm hm=> .inr (Q m hm)⟩
  .have z:q=n:=by simpa using hq
   simp only[IJ,AS] at h;subst h;exact⟨.inl z.symm,λm hm=> .inl hm⟩
def KJ{D:Nat->Bool}{n:Nat}{x:Ap}: ∀(evs:List Ev) (h:HpT),HD D evs h n=some x->h n=some x\/ ∃e∈evs,D e.i=true/\hget e.E.new n=some x
 |[],_,O=> .inl O
 |e::r,h,O=>by
  simp only[HD] at O;rcases KJ r _ O with z|⟨f,hf,Q⟩
  .cases hd:D e.i<;>rw[hd] at z
   .exact .inl z
   .simp only[IJ,BA.appf] at z;cases hg:hget e.E.new n with
    |some y=>
     rw[hg] at z;obtain rfl:=AJ z;exact .inr ⟨e,auSi,hd,hg⟩
    |none=>
     rw[hg] at z;cases hk:e.E.kill.contains n<;>rw[hk] at z
     .exact .inl z
     .cases z
  .exact .inr ⟨f,by simp[hf],Q⟩
def St{D:Nat->Bool}{t:Nat}: ∀(evs:List Ev) (f:Nat->AV),TD D evs f t=f t\/ ∃e∈evs,D e.i=true/\TD D evs f t=e.r
 |[],_=> .inl rfl
 |e::r,f=>by
  simp only[TD];rcases St r (λt=>bif D e.i && (e.o.dst==some t) then e.r else f t) with z|⟨x,Q,O⟩
  .rw[z];cases hd:D e.i
   .exact .inl rfl
   .cases hq:e.o.dst==some t
    .exact .inl rfl
    .exact .inr ⟨e,auSi,hd,rfl⟩
  .exact .inr ⟨x,by simp[Q],O⟩
structure yY(e f:Ev):Prop where
 a: ∀n,n∈f.E.use++f.E.kill->n∉e.E.touch
 b: ∀n,n∈f.E.touch->n∉e.E.touch
 c: ∀n,n∈f.E.touch->n∉e.E.use++e.E.kill
 d: ∀n,n∈f.E.touch++(f.r.nms++JY f.E.new)-> ¬Fr e.s.nx e.E.cnt n
def Qlq: ∀(l k:List Nat),GE l k=true-> ∀n∈l,n∉k
 |[],_,_,n,hn=>by cases hn
 |x::l,k,h,n,hn=>by
  simp only[GE,B1,lB] at h;rcases B0.1 hn with rfl|hn
  .intro z
   have:=h.1
   rw[GF.2 z] at this;cases this
  .exact Qlq l k h.2 n hn
def Qtw{nx cnt:Nat}: ∀(l:List Nat),Fm nx cnt l=true-> ∀n∈l,¬Fr nx cnt n
 |[],_,n,hn=>by cases hn
 |x::l,h,n,hn=>by
  simp only[Fm,B1,IK,Mw,Jf] at h;rcases B0.1 hn with rfl|hn
  .intro hf
   have:=hf.1
   have:=hf.2
   omega
  .exact Qtw l h.2 n hn
def Xv(ops:Array Oper)(s:Az)(skip:Bool):Option (Nat×Bool)->Prop
 |none=>skip=false
 |some (g,z)=> ∃t,(ops[g]?).bind (·.dst)=some t/\((∃b,AF s.tm t= .im (.bool b)/\skip=(b !=z))\/(AF s.tm t= .im (.tup [])/\skip=true))
structure sJ(P:Program)(ops:Array Oper)(e:Ev):Prop where
 op:ops[e.i]? =some e.o
 gd:Xv ops e.s e.skip e.o.guard
 doo:e.skip=false->BP P e.s.tm (hget e.s.h) e.s.nx e.o e.r e.E/\e.E.ok e.s.nx e.r=true
 skp:e.skip=true->e.r= .im (.tup [])/\e.E={}
abbrev Po:Nat->Bool:=λ_=>true
def KE(j:Nat):Nat->Bool:=λi=>Nat.blt i j
def JV{i j:Nat}(h:KE j i=true):i<j:=by simpa[KE] using h
structure GT(P:Program)(ops:Array Oper)(cl:List (List Nat))(s0:Az)(evs:List Ev)(s:Az)(acc:List Fp):Prop where
 idx: ∀(k:Nat) (e:Ev),evs[k]? =some e->e.i=k
 tm: ∀t,AF s.tm t=TD Po evs (AF s0.tm) t
 h: ∀n,hget s.h n=HD Po evs (hget s0.h) n
 nx:s0.nx<=s.nx
 ev: ∀e∈evs,sJ P ops e/\s0.nx<=e.s.nx/\e.s.nx+e.E.cnt<=s.nx
 atT: ∀e∈evs,∀t,AF e.s.tm t=TD (KE e.i) evs (AF s0.tm) t
 atH: ∀e∈evs,∀n,hget e.s.h n=HD (KE e.i) evs (hget s0.h) n
 ord: ∀e∈evs,∀f∈evs,e.i<f.i->e.s.nx+e.E.cnt<=f.s.nx
 pair: ∀e∈evs,∀f∈evs,e.i<f.i->D0 cl e.i f.i=true\/yY e f
 acc: ∀e∈evs,e.skip=true\/(⟨e.i,e.E.use++e.E.kill,e.E.touch,e.s.nx,e.E.cnt⟩:Fp)∈acc
 nmT: ∀t,∀m∈(AF s.tm t).nms,m<s.nx
section
variable {P:Program}{ops:Array Oper}{cl:List (List Nat)}{s0 s:Az}{evs:List Ev}{acc:List Fp}
def GT.lt(g:GT P ops cl s0 evs s acc): ∀e∈evs,e.i<evs.length:=by
 intro e O;obtain⟨k,Q,z⟩:=kW.1 O
 have:=g.idx k e (by rw[Bk Q,z])
 omega
def GT.nil(h: ∀t,∀m∈(AF s0.tm t).nms,m<s0.nx):GT P ops cl s0 [] s0 []:=by
 refine⟨auSi,λt=>rfl,λn=>rfl,BN _,auSi,auSi,auSi,auSi,auSi,auSi,h⟩
def GT.snoc(g:GT P ops cl s0 evs s acc)(e:Ev)(hi:e.i=evs.length)(ao:sJ P ops e)(hs: ∀t,AF e.s.tm t=AF s.tm t)(hh: ∀n,hget e.s.h n=hget s.h n)(av:e.s.nx=s.nx)
 (ai: ∀f∈evs,D0 cl f.i e.i=true\/yY f e){s':Az}{O:List Fp}(am: ∀t,AF s'.tm t=if e.o.dst=some t then e.r else AF s.tm t)
 (an: ∀n,hget s'.h n=e.E.appf (hget s.h) n)(aq:s'.nx=s.nx+e.E.cnt)(ak: ∀f∈acc,f∈O)(ag:e.skip=true\/(⟨e.i,e.E.use++e.E.kill,e.E.touch,e.s.nx,e.E.cnt⟩:Fp)∈O)
 (hr: ∀m∈e.r.nms,m<s'.nx):GT P ops cl s0 (evs++[e]) s' O:=by
 have Q: ∀f∈evs,f.i<e.i:=λf hf=>by rw[hi];exact g.lt f hf
 have af: ∀t,TD (KE e.i) evs (AF s0.tm) t=AF s.tm t:=by
  intro t;rw[g.tm t];refine pV evs _ _ rfl ?_;intro f hf ah;exact absurd (by simp[KE,Q f hf]) ah
 have ad: ∀n,HD (KE e.i) evs (hget s0.h) n=hget s.h n:=by
  intro n;rw[g.h n];refine pT evs _ _ rfl ?_;intro f hf ah;exact absurd (by simp[KE,Q f hf]) ah
 have ac: ∀f∈evs,KE f.i e.i=false:=by
  intro f hf
  have:=Q f hf
  rw[Hk];intro h
  have:=JV h
  omega
 have Z:KE e.i e.i=false:=by
  rw[Hk];intro h
  have:=JV h
  omega
 have z: ∀f,f∈evs++[e]->f∈evs\/f=e:=by intro f hf;simpa using hf
 refine⟨?_,?_,?_,?_,?_,?_,?_,?_,?_,?_,?_⟩
 .intro k f hk;rcases lH k evs.length with h|h|h
  .rw[Db h] at hk;exact g.idx k f hk
  .subst h;rw[D8 (BN _)] at hk;simp at hk;subst hk;exact hi
  .rw[D8 auOm] at hk
   have:(k - evs.length)≠0:=auOm
   cases hq:k - evs.length with
   |zero=>omega
   |succ q=>rw[hq] at hk;simp at hk
 .intro t;rw[am,yT];simp only[TD,Po,CZ];by_cases hq:e.o.dst=some t
  .simp[hq]
  .have:(e.o.dst==some t)=false:=by rw[FX];exact hq
   rw[Be hq,this];exact g.tm t
 .intro n;rw[an,yQ];simp only[HD,Po,IJ];exact Qym (g.h n)
 .have:=g.nx;omega
 .intro f hf;have au:=g.nx;rcases z f hf with hf|rfl
  .obtain⟨h1,h2,h3⟩:=g.ev f hf;exact⟨h1,h2,auOm⟩
  .exact⟨ao,auOm,auOm⟩
 .intro f hf t;rw[yT];rcases z f hf with hf|rfl
  .simp only[TD,ac f hf,Da,Dw];exact g.atT f hf t
  .simp only[TD,Z,Da,Dw];rw[af,hs]
 .intro f hf n;rw[yQ];rcases z f hf with hf|rfl
  .simp only[HD,ac f hf,Dw];exact g.atH f hf n
  .simp only[HD,Z,Dw];rw[ad,hh]
 .intro x hx y hy aj;rcases z x hx with aa|rfl<;>rcases z y hy with ab|rfl
  .exact g.ord x aa y ab aj
  .have:=(g.ev x aa).2.2;omega
  .have:=Q y ab;omega
  .omega
 .intro x hx y hy aj;rcases z x hx with aa|rfl<;>rcases z y hy with ab|rfl
  .exact g.pair x aa y ab aj
  .exact ai x aa
  .have:=Q y ab;omega
  .omega
 .intro f hf;rcases z f hf with hf|rfl
  .rcases g.acc f hf with h|h
   .exact .inl h
   .exact .inr (ak _ h)
  .exact ag
 .intro t m hm;rw[am] at hm;split at hm
  .exact hr m hm
  .have:=g.nmT t m hm;omega
def Qrd{j:Nat}{use touch z:List Nat}: ∀(acc:List Fp),FR cl j use touch z acc=true-> ∀f∈acc,YZ cl j use touch z f=true
 |[],_,f,hf=>by cases hf
 |x::acc,h,f,hf=>by
  simp only[FR,B1] at h;rcases B0.1 hf with rfl|hf
  .exact h.1
  .exact Qrd acc h.2 f hf
def QM{V:DK}(HV:IE P V){K:Az->Prop}: ∀(rest:List Oper) (i:Nat) (acc:List Fp) (s:Az) (evs:List Ev),ops.toList.drop i=rest->evs.length=i->
 GT P ops cl s0 evs s acc->Xr P V cl (IG ops rest) i K acc s-> ∃z s' O,z.length=i+rest.length/\GT P ops cl s0 z s' O/\K s':=by
 intro rest;induction rest with
 |nil=>intro i acc s evs _ hl g Z;exact⟨evs,s,acc,by simpa using hl,g,Z⟩
 |cons o rest ih=>
  intro i acc s evs hi hl g Z;have ao:ops[i]? =some o:=by
   have:(ops.toList.drop i)[0]? =some o:=by rw[hi];rfl
   simpa using this
  have an:ops.toList.drop (i+1)=rest:=by
   have:(ops.toList.drop i).drop 1=rest:=by rw[hi];rfl
   rwa [FW] at this
  have ak: ∀s1:Az,(∀t,AF s1.tm t=AF s.tm t)->s1.h=s.h->s1.nx=s.nx->Xv ops s1 false o.guard->Of P V cl i acc o.dst o.op o.type (Xr P V cl (IG ops rest) (i+1) K) s1->
   ∃z s' O,z.length=i+(rest.length+1)/\GT P ops cl s0 z s' O/\K s':=by
   intro s1 ht hh ab ah af;have hnm: ∀x,∀m∈(Ay s1.tm x).nms,m<s1.nx:=MI (λt m hm=>by rw[ht] at hm;rw[ab];exact g.nmT t m hm);rcases Qrc HV hnm af with ⟨r,E,ax,aq,av,aw⟩|⟨h,_⟩
   .have aj:=Qrd acc av;have af:(s1.app o.dst r E).nx=s1.nx+E.cnt:=by cases o.dst<;>rfl
    have hb:=aq;simp only[BA.ok,B1] at hb;have g':GT P ops cl s0 (evs++[⟨i,o,s1,r,E,false⟩]) (s1.app o.dst r E) (⟨i,E.use++E.kill,E.touch,s1.nx,E.cnt⟩::acc):=by
     refine g.snoc ⟨i,o,s1,r,E,false⟩ hl.symm ⟨ao,ah,λ_=>⟨ax,aq⟩,λh=>by cases h⟩ ht (λn=>by rw[hh]) ab ?_ (λt=> ?_) (λn=> ?_) (by rw[af,ab]) (λf hf=>by simp[hf]) (.inr auSi) ?_
     .intro f hf;rcases g.acc f hf with hs|ha
      .obtain⟨h1,h2⟩:=((g.ev f hf).1).skp hs;refine .inr ⟨?_,?_,?_,?_⟩<;>rw[h2]
       .intro n _;simp[BA.touch,GL]
       .intro n _;simp[BA.touch,GL]
       .intro n _;simp
       .intro n _ am
        have:=am.1
        have:=am.2
        simp only at this;omega
      .have h:=aj _ ha;unfold YZ at h;rw[ZeF] at h;split at h
       .rename_i hx;simp only[B1] at hx;obtain⟨h1,h2,h3⟩:=hx;have ai:=Qlq _ _ h1;exact .inr ⟨λn hn=>ai n (by simp only[BO] at hn⊢;exact .inl hn),λn hn=>ai n (Xh _ hn),Qlq _ _ h2,Qtw _ h3⟩
       .exact .inl h
     .have:AF (s1.app o.dst r E).tm t=if o.dst=some t then r else AF s1.tm t:=WL
      rw[this,ht]
     .have:(s1.app o.dst r E).h=E.new++Bp s1.h E.kill:=by cases o.dst<;>rfl
      rw[this,Qm2,Qm7,hh];simp only[BA.appf];cases hget E.new n<;>rfl
     .rw[af];exact yE r hb.1
    obtain⟨z,s',O,h1,h2,h3⟩:=ih (i+1) _ _ _ an (by simp[hl]) g' aw;exact⟨z,s',O,auOm,h2,h3⟩
   .cases h
  simp only[IG,Xr] at Z;simp only[Em];cases hg:o.guard with
  |none=>
   rw[hg] at Z;simp only[kJ,opA] at Z;exact ak s (λ_=>rfl) rfl rfl (by rw[hg];rfl) Z
  |some gw=>
   obtain⟨j,Q⟩:=gw;rw[hg] at Z;simp only[kJ,opA] at Z;cases ht:(ops[j]?).bind (·.dst) with
   |none=>rw[ht] at Z;exact Z.elim
   |some t=>
    rw[ht] at Z;simp only[Z2] at Z;cases hb:AF s.tm t<;>rw[hb] at Z<;>try exact Z.elim
    rename_i d;have ac: ∀s2:Az,(∀t',AF s2.tm t'=AF s.tm t')->s2.h=s.h->s2.nx=s.nx->Xv ops s true o.guard->Xr P V cl (IG ops rest) (i+1) K acc (s2.put o.dst (.im (.tup [])))->
     ∃z s' O,z.length=i+(rest.length+1)/\GT P ops cl s0 z s' O/\K s':=by
     intro s2 aa hh ab ah h2;have g':GT P ops cl s0 (evs++[⟨i,o,s,.im (.tup []),{},true⟩]) (s2.put o.dst (.im (.tup []))) acc:=by
      refine g.snoc ⟨i,o,s,.im (.tup []),{},true⟩ hl.symm ⟨ao,ah,(λh=>by cases h),(λ_=>⟨rfl,rfl⟩)⟩ (λ_=>rfl) (λ_=>rfl) rfl ?_ (λt'=> ?_) (λn=> ?_) ?_ (λf hf=>hf) (.inl rfl) ?_
      .intro f hf;refine .inr ⟨?_,?_,?_,?_⟩<;>simp[BA.touch,GL,AV.nms,JY]
      .rw[WL,aa]
      .have:(s2.put o.dst (.im (.tup []))).h=s2.h:=by cases o.dst<;>rfl
       rw[this,hh];simp[BA.appf,hget]
      .have:(s2.put o.dst (.im (.tup []))).nx=s2.nx:=by cases o.dst<;>rfl
       rw[this,ab];rfl
      .intro m hm;simp[AV.nms] at hm
     obtain⟨z,s',O,h1,h2,h3⟩:=ih (i+1) _ _ _ an (by simp[hl]) g' h2;exact⟨z,s',O,auOm,h2,h3⟩
    cases d<;>try exact Z.elim
    case tup cs=>
     cases cs with
     |cons _ _=>exact Z.elim
     |nil=>
      simp only[Yp,NY] at Z;exact ac s (λ_=>rfl) rfl rfl (by rw[hg];exact⟨t,ht,.inr ⟨hb,rfl⟩⟩) Z
    case bool b=>
    simp only[Yp] at Z;have aa: ∀b':Bool,b=b'-> ∀t',AF (s.put (some t) (.im (.bool b'))).tm t'=AF s.tm t':=by
     intro b' au t';subst au;rw[WL];split
     .rename_i h;cases h;exact hb.symm
     .rfl
    by_cases ad:b=Q
    .refine ak (s.put (some t) (.im (.bool Q))) (aa Q ad) rfl rfl ?_ (Z.1 ad);rw[hg];exact⟨t,ht,.inl ⟨b,by rw[aa Q ad,hb],by simp[ad]⟩⟩
    .have ag:b= !Q:=by cases b<;>cases Q<;>simp_all
     have h2:=Z.2 ag;simp only[NY] at h2;refine ac (s.put (some t) (.im (.bool (!Q)))) (aa _ ag) rfl rfl ?_ h2;rw[hg];exact⟨t,ht,.inl ⟨b,hb,by simp[ag]⟩⟩
end
def bR(ops:Array Oper)(cl:List (List Nat)):List Oper->Nat->List (Nat×Oper)->Bool
 |[],_,_=>true
 |o::r,j,acc=>(o.after.toList.all λe=> !Jj e.ground||Nat.blt e.on j) && (acc.all (λp=>D0 cl p.1 j||p.2.apart ops o) && bR ops cl r (j+1) ((j,o)::acc))
def stOk(ops:Array Oper):Bool:=bR ops (FV ops.toList []) ops.toList 0 []
def Qup(e:Edge):Region.binds .any e=Jj e.ground:=by
 unfold Region.binds;cases e.ground<;>rfl
structure Y9(ops:Array Oper)(cl:List (List Nat)):Prop where
 lo: ∀(j:Nat) (o:Oper),ops[j]? =some o-> ∀e∈o.after.toList,Jj e.ground=true->e.on<j
 ap: ∀(i j:Nat) (x y:Oper),i<j->ops[i]? =some x->ops[j]? =some y->D0 cl i j=true\/x.apart ops y=true
def QE{ops:Array Oper}{cl:List (List Nat)}: ∀(rest:List Oper) (j:Nat) (acc:List (Nat×Oper)),ops.toList.drop j=rest->(∀i x,i<j->ops[i]? =some x->(i,x)∈acc)->bR ops cl rest j acc=true->
 (∀(k:Nat) (o:Oper),j<=k->ops[k]? =some o-> ∀e∈o.after.toList,Jj e.ground=true->e.on<k)/\
 (∀(i k:Nat) (x y:Oper),j<=k->i<k->ops[i]? =some x->ops[k]? =some y->D0 cl i k=true\/x.apart ops y=true):=by
 intro rest;induction rest with
 |nil=>
  intro j acc hd _ _;have hs:ops.size<=j:=by
   have:=eG List.length hd
   simp at this;omega
  refine⟨λk o hk ho=> ?_,λi k x y hk _ _ hy=> ?_⟩
  .have:=(Hi.1 ho).1;omega
  .have:=(Hi.1 hy).1;omega
 |cons o rest ih=>
  intro j acc hd z hs;have O:ops[j]? =some o:=by
   have:(ops.toList.drop j)[0]? =some o:=by rw[hd];rfl
   simpa using this
  have aa:ops.toList.drop (j+1)=rest:=by
   have:(ops.toList.drop j).drop 1=rest:=by rw[hd];rfl
   rwa [FW] at this
  simp only[bR,B1,CF,IK,lB,Mw] at hs;obtain⟨h1,h2,h3⟩:=hs;obtain⟨r1,r2⟩:=ih (j+1) ((j,o)::acc) aa (by
   intro i x hi Q;rcases Pi i j with h|h
   .exact Ah _ (z i x h Q)
   .have:i=j:=auOm
    subst this;rw[O] at Q;cases Q;exact CP) h3
  refine⟨λk p hk hp=> ?_,λi k x y hk Z Q hy=> ?_⟩
  .rcases Pi j k with h|h
   .exact r1 k p h hp
   .have:k=j:=auOm
    subst this;rw[O] at hp;cases hp;intro e he hb;rcases h1 e he with h|h
    .rw[h] at hb;cases hb
    .exact h
  .rcases Pi j k with h|h
   .exact r2 i k x y h Z Q hy
   .have:k=j:=auOm
    subst this;rw[O] at hy;cases hy;exact h2 (i,x) (z i x Z Q)
def QF{ops:Array Oper}(h:stOk ops=true):Y9 ops (FV ops.toList []):=by
 obtain⟨O,Q⟩:=QE (cl:=FV ops.toList []) ops.toList 0 [] rfl (by intro i x hi;omega) h;exact⟨λj o Z=>O j o (Ir _) Z,λi j x y z hx hy=>Q i j x y (Ir _) z hx hy⟩
def UD(a b:List (List Nat)): ∀(k:Nat),k<a.length->Er (a++b) k=Er a k:=by
 induction a with
 |nil=>intro k z;simp at z
 |cons x a ih=>
  intro k z;cases k with
  |zero=>rfl
  |succ k=>exact ih k (by simpa using z)
def ZX(a:List (List Nat))(x:List Nat)(b:List (List Nat)):Er (a++x::b) a.length=x:=by
 induction a with
 |nil=>rfl
 |cons y a ih=>exact ih
def tS: ∀(a:List (List Nat)) (k:Nat),a.length<=k->Er a k=[]
 |[],_,_=>rfl
 |_::a,0,h=>by simp at h
 |_::a,k+1,h=>tS a k (by simpa using h)
def Qnq: ∀(rest:List Oper) (acc:List (List Nat)) (k:Nat),k<acc.length->Er (FV rest acc) k=Er acc k
 |[],_,_,_=>rfl
 |o::r,acc,k,h=>by
  simp only[FV];rw[Qnq r _ k (by simp;omega),UD _ _ _ h]
def Qy4: ∀(rest:List Oper) (acc:List (List Nat)) (k:Nat) (o:Oper),rest[k]? =some o-> ∃z:List (List Nat),z.length=acc.length+k/\(∀m,m<z.length->Er z m=Er (FV rest acc) m)/\
 Er (FV rest acc) (acc.length+k)=HW z o.after.toList
 |[],_,k,o,h=>by simp at h
 |x::r,acc,0,o,h=>by
  obtain rfl:x=o:=by simpa using h
  refine⟨acc,rfl,λm hm=>(Qnq _ _ m hm).symm,?_⟩;simp only[FV,lC];rw[Qnq _ _ _ auSi,ZX]
 |x::r,acc,k+1,o,h=>by
  obtain⟨z,Q,Z,O⟩:=Qy4 r (acc++[HW acc x.after.toList]) k o (by simpa using h);simp only[BR,Em,Ed] at Q O;refine⟨z,auOm,Z,?_⟩;simp only[FV];rw[<-O];congr 1;omega
def Z8{x y:Nat}{l:List Nat}(h:y∈ins x l):y=x\/y∈l:=by
 unfold ins at h;cases hc:l.contains x<;>rw[hc] at h
 .simpa using h
 .exact .inr (by simpa using h)
def Qzy{y:Nat}: ∀(a l:List Nat),y∈TZ a l->y∈a\/y∈l
 |[],_,h=> .inr h
 |x::r,l,h=>by
  rcases Z8 h with h|h
  .exact .inl (by simp[h])
  .rcases Qzy r l h with h|h
   .exact .inl (by simp[h])
   .exact .inr h
def Qsb{acc:List (List Nat)}{i:Nat}: ∀(es:List Edge),i∈HW acc es-> ∃e∈es,Jj e.ground=true/\(i=e.on\/i∈Er acc e.on)
 |[],h=>by simp[HW] at h
 |e::r,h=>by
  simp only[HW] at h;cases hb:Jj e.ground<;>rw[hb] at h
  .obtain⟨x,O,z⟩:=Qsb r h;exact⟨x,by simp[O],z⟩
  .simp only[IJ] at h;have h:=Qzy _ _ h;simp only[B0,or_assoc] at h;rcases h with h|h|h
   .exact⟨e,auSi,hb,.inl h⟩
   .exact⟨e,auSi,hb,.inr h⟩
   .obtain⟨x,O,z⟩:=Qsb r h;exact⟨x,by simp[O],z⟩
def Zb{ops:Array Oper}{i j:Nat}{o:Oper}(ho:ops[j]? =some o)(h:i∈Er (FV ops.toList []) j):
 ∃e∈o.after.toList,Jj e.ground=true/\(i=e.on\/(e.on<j/\i∈Er (FV ops.toList []) e.on)):=by
 obtain⟨O,h1,h2,Z⟩:=Qy4 ops.toList [] j o (by simpa using ho);simp only[Ed,Je] at h1 Z;rw[Z] at h;obtain⟨e,he,hb,z⟩:=Qsb _ h;refine⟨e,he,hb,?_⟩;rcases z with z|z
 .exact .inl z
 .rcases Pi e.on O.length with Q|Q
  .exact .inr ⟨auOm,by rw[<-h2 _ Q];exact z⟩
  .rw[tS _ _ Q] at z;cases z
def KI(ops:Array Oper)(D:Nat->Bool):Prop:= ∀(j:Nat) (o:Oper),D j=true->ops[j]? =some o-> ∀e∈o.after.toList,Jj e.ground=true->D e.on=true
def Qqg{ops:Array Oper}{D:Nat->Bool}(hc:KI ops D){i j:Nat}{o:Oper}(Z:ops[j]? =some o)(hr: ∀e∈o.after.toList,Jj e.ground=true->D e.on=true)
 (h:D0 (FV ops.toList []) i j=true):D i=true:=by
 have hi:i∈Er (FV ops.toList []) j:=by simpa[D0] using h
 clear h;induction j using Nat.strongRecOn generalizing o with
 |_ j ih=>
  obtain⟨e,Q,O,h|⟨h,h2⟩⟩:=Zb Z hi
  .rw[h];exact hr e Q O
  .have aa:=(Hi.1 Z).1;have z:ops[e.on]? =some ops[e.on]:=E8 auOm;exact ih e.on h z (hc e.on _ (hr e Q O) z) h2
structure oY(C:Bn)(N:Nat)(evs:List Ev)(s0:Az)(D:Nat->Bool)(S:AD)(a:Act):Prop where
 wf:Wf C S
 h: ∀n,S.h n=HD D evs (hget s0.h) n
 tm: ∀t,Ab S (TD D evs (AF s0.tm) t) (a.eval (.tmp t))
 size:a.tmps.size=N
 defers:a.defers=C.ds
 n0:C.n0<=s0.nx
 pre:C.Pre S
section
variable {P:Program}{ops:Array Oper}{s0 s:Az}{evs:List Ev}{acc:List Fp}{C:Bn}{N:Nat}
def Qzx{E:BA}{nx:Nat}{r:AV}(z:E.ok nx r=true):(∀m∈r.nms,m<nx+E.cnt)/\(∀n x,hget E.new n=some x->(Fr nx E.cnt n\/(n∈E.kill/\n<nx))/\ ∀m∈x.2.nms,m<nx+E.cnt):=by
 simp only[BA.ok,B1] at z;obtain⟨Q,Z,h3⟩:=z;exact⟨yE r Q,λn x O=>⟨Qlm _ h3 n x O,jR _ Z n x O⟩⟩
def YR(g:GT P ops (FV ops.toList []) s0 evs s acc)(bj: ∀n e,hget s0.h n=some e->n<s0.nx/\ ∀m∈e.2.nms,m<s0.nx)(ba: ∀t,∀m∈(AF s0.tm t).nms,m<s0.nx)
 (st:Y9 ops (FV ops.toList []))(hN:Mr N ops.toList=true){D:Nat->Bool}(hc:KI ops D){e:Ev}(he:e∈evs)(hD:D e.i=false)
 (hr: ∀x∈e.o.after.toList,Jj x.ground=true->D x.on=true){S:AD}{a:Act}(hA:oY C N evs s0 D S a){K:Act->World->Prop}{Q:Exit->Act->World->Prop}
 (hK: ∀a' S',oY C N evs s0 (λi=>D i||i==e.i) S' a'->K a' S'.w):wpOp P ops Q e.i K a S.w:=by
 have ah:=((g.ev e he).1).op;have bi: ∀k,D0 (FV ops.toList []) k e.i=true->D k=true:=λk hk=>Qqg hc ah hr hk
 have a0: ∀d,e.o.dst=some d->d<N:=by
  have: ∀(l:List Oper),Mr N l=true-> ∀o∈l,∀d,o.dst=some d->d<N:=by
   intro l;induction l with
   |nil=>intro _ o ho;cases ho
   |cons x l ih=>
    intro h o ho d hd;simp only[Mr,B1] at h;rcases B0.1 ho with rfl|ho
    .have:=h.1
     rw[hd] at this;simpa using this
    .exact ih h.2 o ho d hd
  exact this _ hN e.o (by
   have:=zU ah
   simpa using this)
 have ak: ∀f∈evs,D f.i≠KE e.i f.i->(f.i<e.i/\D f.i=false/\yY f e/\f.o.apart ops e.o=true)\/(e.i<f.i/\D f.i=true/\yY e f/\e.o.apart ops f.o=true):=by
  intro f hf O;have am:=((g.ev f hf).1).op;rcases lH f.i e.i with h|h|h
  .have hl:KE e.i f.i=true:=by simpa[KE] using h
   have Z:D f.i=false:=by
    cases hq:D f.i
    .rfl
    .rw[hq,hl] at O;exact absurd rfl O
   have aj:D0 (FV ops.toList []) f.i e.i=false:=by
    cases hq:D0 (FV ops.toList []) f.i e.i
    .rfl
    .have:=bi _ hq;rw[Z] at this;cases this
   refine .inl ⟨h,Z,?_,?_⟩
   .rcases g.pair f hf e he h with z|z
    .rw[aj] at z;cases z
    .exact z
   .rcases st.ap f.i e.i f.o e.o h am ah with z|z
    .rw[aj] at z;cases z
    .exact z
  .have hl:KE e.i f.i=false:=by
    rw[h];rw[Hk];intro h';have:=JV h';omega
   rw[hl,h,hD] at O;exact absurd rfl O
  .have hl:KE e.i f.i=false:=by
    rw[Hk];intro h';have:=JV h';omega
   have Z:D f.i=true:=by
    cases hq:D f.i
    .rw[hq,hl] at O;exact absurd rfl O
    .rfl
   have aj:D0 (FV ops.toList []) e.i f.i=false:=by
    cases hq:D0 (FV ops.toList []) e.i f.i
    .rfl
    .have:=Qqg hc am (hc f.i f.o Z am) hq
     rw[hD] at this;cases this
   refine .inr ⟨h,Z,?_,?_⟩
   .rcases g.pair e he f hf h with z|z
    .rw[aj] at z;cases z
    .exact z
   .rcases st.ap e.i f.i e.o f.o h ah am with z|z
    .rw[aj] at z;cases z
    .exact z
 have ad: ∀f∈evs,D f.i=true->f.i<e.i\/(e.i<f.i/\yY e f/\e.o.apart ops f.o=true):=by
  intro f hf Z;rcases Pi f.i e.i with h|h
  .exact .inl h
  .have hl:KE e.i f.i=false:=by
    rw[Hk];intro h';have:=JV h';omega
   rcases ak f hf (by rw[Z,hl];simp) with ⟨z,_⟩|⟨z,_,h2⟩
   .omega
   .exact .inr ⟨z,h2⟩
 have bc: ∀t,t∈e.o.looksAt ops->TD D evs (AF s0.tm) t=AF e.s.tm t:=by
  intro t ht;rw[g.atT e he t];refine pV evs _ _ rfl ?_;intro f hf O;rcases ak f hf O with ⟨_,_,_,h⟩|⟨_,_,_,h⟩
  .intro hd;exact (Oper.apart_spec h).1 t hd ht
  .intro hd;exact (Oper.apart_spec h).2.2 t hd ht
 have ab:evs=evs.take e.i++e::evs.drop (e.i+1):=by
  have hl:=g.lt e he;have hget:evs[e.i]? =some evs[e.i]:=Bk hl;obtain⟨k,hk,a9⟩:=kW.1 he;have bh:=g.idx k e (by rw[Bk hk,a9]);subst bh
  conv=>lhs;rw[<-HT e.i evs]
  rw[D1 hl,a9]
 have ao: ∀f∈evs.take e.i,f∈evs/\f.i<e.i:=by
  intro f hf;refine⟨zT hf,?_⟩;obtain⟨k,hk,av⟩:=kW.1 hf;have bm:k<e.i:=by simp at hk;omega
  have:=g.idx k f (by
   rw[<-av,List.getElem_take];exact Bk _)
  omega
 have ac: ∀f∈evs.drop (e.i+1),f∈evs/\e.i<f.i:=by
  intro f hf;refine⟨ZeV hf,?_⟩;obtain⟨k,hk,av⟩:=kW.1 hf
  have:=g.idx (e.i+1+k) f (by
   rw[<-av,List.getElem_drop];exact Bk _)
  omega
 let D':Nat->Bool:=λi=>D i||i==e.i
 have az:D' e.i=true:=by simp[D']
 have ag: ∀f∈evs,f.i≠e.i->D f.i=D' f.i:=by
  intro f _ O
  have:(f.i==e.i)=false:=by rw[FX];exact O
  simp[D',this]
 have be: ∀n,HD D' evs (hget s0.h) n=e.E.appf (HD D evs (hget s0.h)) n:=by
  intro n;have e1:HD D' evs (hget s0.h)=HD D' (evs.drop (e.i+1)) (e.E.appf (HD D' (evs.take e.i) (hget s0.h))):=by
   conv=>lhs;rw[ab]
   rw[yQ];simp only[HD,az,IJ]
  have e2:HD D evs (hget s0.h)=HD D (evs.drop (e.i+1)) (HD D (evs.take e.i) (hget s0.h)):=by
   conv=>lhs;rw[ab]
   rw[yQ];simp only[HD,hD,Dw]
  have e3:HD D' (evs.take e.i) (hget s0.h)=HD D (evs.take e.i) (hget s0.h):=by
   funext m;refine pT _ _ _ rfl ?_;intro f hf O
   have:=ao f hf
   exact absurd (ag f this.1 auOm).symm O
  rw[e1,e2,e3];by_cases hn:n∈e.E.touch
  .rw[YQ hn (h':=HD D (evs.take e.i) (hget s0.h))];refine Qw6 _ _ n ?_;intro f hf Z;have z:=ac f hf;rw[<-ag f z.1 auOm] at Z;rcases ad f z.1 Z with h2|⟨_,h2,_⟩
   .omega
   .intro aw;exact h2.b n aw hn
  .rw[xI hn];refine pT _ _ _ (xI hn) ?_;intro f hf O
   have:=ac f hf
   exact absurd (ag f this.1 auOm).symm O
 have bf: ∀t,TD D' evs (AF s0.tm) t=if e.o.dst=some t then e.r else TD D evs (AF s0.tm) t:=by
  intro t;have e1:TD D' evs (AF s0.tm)=TD D' (evs.drop (e.i+1)) (λt=>bif e.o.dst==some t then e.r else TD D' (evs.take e.i) (AF s0.tm) t):=by
   conv=>lhs;rw[ab]
   rw[yT];simp only[TD,az,CZ]
  have e2:TD D evs (AF s0.tm)=TD D (evs.drop (e.i+1)) (TD D (evs.take e.i) (AF s0.tm)):=by
   conv=>lhs;rw[ab]
   rw[yT];simp only[TD,hD,Da,Dw]
  have e3:TD D' (evs.take e.i) (AF s0.tm)=TD D (evs.take e.i) (AF s0.tm):=by
   funext m;refine pV _ _ _ rfl ?_;intro f hf O
   have:=ao f hf
   exact absurd (ag f this.1 auOm).symm O
  rw[e1,e2,e3];by_cases hn:e.o.dst=some t
  .rw[Bt hn];rw[Qyr]
   .simp[hn]
   .intro f hf Z;have z:=ac f hf;rw[<-ag f z.1 auOm] at Z;rcases ad f z.1 Z with h2|⟨_,_,h2⟩
    .omega
    .exact (Oper.apart_spec h2).2.1 t hn
  .rw[Be hn];have hq:(e.o.dst==some t)=false:=by rw[FX];exact hn
   refine pV _ _ _ (by simp[hq]) ?_;intro f hf O
   have:=ac f hf
   exact absurd (ag f this.1 auOm).symm O
 have bb:s0.nx<=e.s.nx:=(g.ev e he).2.1;have aq: ∀f∈evs,D f.i=true->(∀m∈f.r.nms,¬Fr e.s.nx e.E.cnt m)/\(∀n x,hget f.E.new n=some x-> ¬Fr e.s.nx e.E.cnt n/\ ∀m∈x.2.nms,¬Fr e.s.nx e.E.cnt m):=by
  intro f hf Z;rcases ad f hf Z with h|⟨_,h,_⟩
  .have bn:=g.ord f hf e he h;obtain⟨ax,_⟩:=g.ev f hf;cases hs:f.skip
   .obtain⟨z,h2⟩:=Qzx (ax.doo hs).2;refine⟨λm hm aa=> ?_,λn x hx=>⟨λaa=> ?_,λm hm aa=> ?_⟩⟩
    .have:=z m hm;have:=aa.1;omega
    .have:=aa.1
     rcases (h2 n x hx).1 with h3|h3
     .have:=h3.2;omega
     .omega
    .have:=(h2 n x hx).2 m hm;have:=aa.1;omega
   .obtain⟨z,h2⟩:=ax.skp hs;rw[z,h2];exact⟨by simp[AV.nms],by simp[hget]⟩
  .refine⟨λm hm=>h.d m (by simp[hm]),λn x hx=>⟨h.d n ?_,λm hm=>h.d m ?_⟩⟩
   .have:=(Qtn _ hx).1
    simp[BA.touch,this]
   .have:=(Qtn _ hx).2 m hm
    simp[this]
 have a8: ∀t,∀m∈(TD D evs (AF s0.tm) t).nms,¬Fr e.s.nx e.E.cnt m:=by
  intro t m hm;rcases St (D:=D) (t:=t) evs (AF s0.tm) with h|⟨f,hf,Z,h⟩
  .rw[h] at hm;intro aa
   have:=ba t m hm
   have:=aa.1
   omega
  .rw[h] at hm;exact (aq f hf Z).1 m hm
 have an: ∀n x,HD D evs (hget s0.h) n=some x-> ¬Fr e.s.nx e.E.cnt n/\ ∀m∈x.2.nms,¬Fr e.s.nx e.E.cnt m:=by
  intro n x hx;rcases KJ evs (hget s0.h) hx with h|⟨f,hf,Z,h⟩
  .obtain⟨z,h2⟩:=bj n x h;exact⟨λaa=>by have:=aa.1;omega,λm hm aa=>by have:=aa.1;have:=h2 m hm;omega⟩
  .exact (aq f hf Z).2 n x h
 have ai: ∀v S',Wf C S'->S'.h=e.E.appf S.h->Ck (λm=> ¬Fr e.s.nx e.E.cnt m) S S'->Ab S' e.r v->K (a.put e.o.dst v) S'.w:=by
  intro v S' hW hh hp hv;refine hK _ S' ⟨hW,λn=> ?_,λt=> ?_,?_,?_,hA.n0,Qy2 hA.pre (Gu hA.n0 bb) hp⟩
  .rw[hh];exact (Qym (hA.h n)).trans (be n).symm
  .have:=bf t
   simp only[D'] at this;rw[this,Qfo (λd h=>by rw[hA.size];exact a0 d h)];split
   .exact hv
   .exact J0 hp _ _ (a8 t) (hA.tm t)
  .cases e.o.dst<;>simp[Act.put,hA.size]
  .cases e.o.dst<;>simp[Act.put,hA.defers]
 have au:=(g.ev e he).1;have ay:Region.wanted e.o (yielded ops a.tmps)= !e.skip:=by
  have af:=au.gd;unfold Region.wanted;cases hg:e.o.guard with
  |none=>
   rw[hg] at af;simp only[Xv] at af;simp[af]
  |some gw=>
   obtain⟨q,bd⟩:=gw;rw[hg] at af;obtain⟨t,ht,af⟩:=af;have bg:TD D evs (AF s0.tm) t=AF e.s.tm t:=bc t (by simp[Oper.looksAt,hg,ht]);have z:=hA.tm t;rw[bg] at z;rcases af with ⟨b,hb,hs⟩|⟨hb,hs⟩
   .rw[hb] at z;simp only[Ab,rd,Act.eval] at z;have hy:yielded ops a.tmps q=some b:=by
     unfold yielded;rw[ht];simp only[E7];rw[Ec] at z;cases hq:a.tmps[t]? with
     |none=>rw[hq] at z;simp[undef] at z
     |some v=>rw[hq] at z;simp at z;rw[z]
    simp only[hy,hs];cases b<;>cases bd<;>rfl
   .rw[hb] at z;simp only[Ab,rd,rdl,Act.eval] at z;obtain⟨vs,z,_⟩:=z;have hy:yielded ops a.tmps q=none:=by
     unfold yielded;rw[ht];simp only[E7];rw[Ec] at z;cases hq:a.tmps[t]? with
     |none=>rfl
     |some v=>rw[hq] at z;simp at z;rw[z]
    simp only[hy,hs];rfl
 unfold wpOp;simp only[ah,ay];cases hs:e.skip
 .simp only[Xm,Ff];refine .inl ?_;obtain⟨bl,ax⟩:=au.doo hs;refine bl C S a K Q hA.wf ?_ ?_ ?_ ?_ ai
  .intro n hn;rw[hA.h n,g.atH e he n];refine pT evs _ _ rfl ?_;intro f hf O;rcases ak f hf O with ⟨_,_,h,_⟩|⟨_,_,h,_⟩
   .exact h.a n hn
   .intro aw;exact h.c n aw hn
  .intro n aa;cases hn:S.h n with
   |none=>rfl
   |some x=>
    rw[hA.h n] at hn;exact absurd aa (an n x hn).1
  .intro n x hx m hm;rw[hA.h n] at hx;exact (an n x hx).2 m hm
  .intro x hx;cases x with
   |tmp t=>
    simp only[Ay];rw[<-bc t (by
     simp only[Oper.looksAt,BO,List.mem_filterMap];exact .inl ⟨.tmp t,by simpa using hx,rfl⟩)]
    exact hA.tm t
   |const v=>exact Nj S v
   |global g=>simp only[Ay,Ab,rd,Act.eval]
   |func f=>exact sZ _ _ f
 .simp only[YB,BL,HS];obtain⟨z,h2⟩:=au.skp hs;refine ai undef S hA.wf ?_ (Ck.refl _ _) ?_
  .rw[h2];funext n;simp[BA.appf,hget]
  .rw[z];simp only[Ab,rd,rdl];exact⟨#[],rfl,rfl⟩
abbrev dn(listed:Array Bool):Nat->Bool:=λi=>listed.getD i false
def unl(listed:Array Bool):Nat:=listed.toList.countP (λb=> !b)
def mA{listed:Array Bool}{j:Nat}(z:j<listed.size):dn (listed.setIfInBounds j true)=λi=>dn listed i||i==j:=by
 funext i;simp only[dn];by_cases h:j=i
 .subst h;simp[z]
 .rw[getD_set_ne false h]
  have:(i==j)=false:=by rw[FX];exact λh'=>h h'.symm
  simp[this]
def Oq{listed:Array Bool}{j:Nat}(O:j<listed.size)(Q:listed.getD j true=false):unl (listed.setIfInBounds j true)+1=unl listed:=by
 unfold unl;rw[zS];have z:j<listed.toList.length:=by simpa using O
 have hv:listed.toList[j]=false:=by
  rw[Ec,E8 O] at Q;simpa using Q
 have Z:0<listed.toList.countP (λb=> !b):=by
  rw[List.countP_pos_iff];exact⟨false,by rw[<-hv];exact Rm _,rfl⟩
 rw[List.countP_set z,hv];simp only[Xm,Ff,YB,BL,HS];omega
def Qabb{listed:Array Bool}(hs:listed.size=ops.size)(st:Y9 ops (FV ops.toList []))(hr:Region.ready .any ops listed=[]): ∀i,i<ops.size->dn listed i=true:=by
 intro i;induction i using Nat.strongRecOn with
 |_ i ih=>
  intro Z;cases hq:dn listed i with
  |true=>rfl
  |false=>
   exfalso
   have:i∈Region.ready .any ops listed:=by
    rw[mem_ready];have z:ops[i]? =some ops[i]:=E8 Z;refine⟨?_,ops[i],z,?_⟩
    .simp only[dn] at hq;rw[Ec,E8 auOm] at hq⊢;simpa using hq
    .intro e Q O;rw[Qup] at O
     have:=st.lo i _ z e (by simpa using Q) O
     exact ih e.on this auOm
   rw[hr] at this;cases this
def lN(g:GT P ops (FV ops.toList []) s0 evs s acc)(au:evs.length=ops.size)(an: ∀n e,hget s0.h n=some e->n<s0.nx/\ ∀m∈e.2.nms,m<s0.nx)(ai: ∀t,∀m∈(AF s0.tm t).nms,m<s0.nx)
 (st:Y9 ops (FV ops.toList []))(hN:Mr N ops.toList=true){Q:Exit->Act->World->Prop}(hQ: ∀a S,oY C N evs s0 Po S a->Q .normal a S.w):
 ∀(O:Nat) (listed:Array Bool) (S:AD) (a:Act),unl listed<=O->listed.size=ops.size->KI ops (dn listed)->oY C N evs s0 (dn listed) S a->wpAny P .any ops Q O listed a S.w:=by
 have ab: ∀(listed:Array Bool) (S:AD) (a:Act),listed.size=ops.size->(∀i,i<ops.size->dn listed i=true)->oY C N evs s0 (dn listed) S a->Q .normal a S.w:=by
  intro listed S a hs z hA;refine hQ a S ⟨hA.wf,λn=> ?_,λt=> ?_,hA.size,hA.defers,hA.n0,hA.pre⟩
  .rw[hA.h n];refine pT evs _ _ rfl ?_;intro f hf ad;exact absurd (z f.i (by have:=g.lt f hf;omega)) ad
  .have:TD Po evs (AF s0.tm) t=TD (dn listed) evs (AF s0.tm) t:=by
    refine pV evs _ _ rfl ?_;intro f hf ad;exact absurd (z f.i (by have:=g.lt f hf;omega)).symm ad
   rw[this];exact hA.tm t
 intro O;induction O with
 |zero=>
  intro listed S a hu hs hcl hA;have z: ∀i,i<ops.size->dn listed i=true:=by
   intro i hi;cases hq:dn listed i with
   |true=>rfl
   |false=>
    have:= @Oq listed i auOm (by
     simp only[dn] at hq;rw[Ec,E8 auOm] at hq⊢;simpa using hq)
    omega
  refine⟨?_,ab listed S a hs z hA⟩;rw[List.eq_nil_iff_forall_not_mem];intro j hj;obtain⟨h0,o,ho,_⟩:=mem_ready.1 hj;have am:=(Hi.1 ho).1
  have:=z j am
  simp only[dn] at this;rw[Ec,E8 auOm] at this h0;simp at this h0;rw[h0] at this;cases this
 |succ O ih=>
  intro listed S a hu hs hcl hA;refine⟨λhr=>ab listed S a hs (Qabb hs st hr) hA,λj hj=> ?_⟩;obtain⟨h0,o,ho,z⟩:=mem_ready.1 hj;have av:=(Hi.1 ho).1;have ah:j<evs.length:=auOm;have Z:=g.idx j evs[j] (Bk ah);have ac:evs[j]∈evs:=Rm ah;have aj:=((g.ev _ ac).1).op;rw[Z,ho] at aj;have ak:dn listed j=false:=by
   simp only[dn];rw[Ec,E8 auOm] at h0⊢;simpa using h0
  have aa: ∀e∈o.after.toList,Jj e.ground=true->dn listed e.on=true:=λe he hb=>z e (by simpa using he) (by rw[Qup];exact hb)
  have ao:evs[j].o=o:=(AJ aj).symm;have aq:=YR g an ai st hN hcl ac (by rw[Z];exact ak) (by rw[ao];exact aa) hA (Q:=Q) (K:=wpAny P .any ops Q O (listed.setIfInBounds j true)) ?_
  .rwa [Z] at aq
  .intro a' S' af;rw[Z] at af;have ag:=mA (listed:=listed) (j:=j) auOm;refine ih (listed.setIfInBounds j true) S' a' ?_ (by simpa using hs) ?_ (by rw[ag];exact af)
   .have:= @Oq listed j auOm h0
    omega
   .rw[ag];intro k p hk hp e he hb;simp only[IK,YI] at hk⊢;rcases hk with hk|rfl
    .exact .inl (hcl k p hk hp e he hb)
    .rw[ho] at hp;cases hp;exact .inl (aa e he hb)
end
def Qog{P:Program}{V:DK}(HV:IE P V){C:Bn}{N:Nat}{ops:Array Oper}{K:Az->Prop}{Q:Exit->Act->World->Prop}(hQ: ∀s a w,K s->Cg C N s a w->Q .normal a w)
 (hd:Mr N ops.toList=true)(af:stOk ops=true){s:Az}{a:Act}{w:World}(hk:Xr P V (FV ops.toList []) (IG ops ops.toList) 0 K [] s)(z:Cg C N s a w):wpAny P .any ops Q ops.size (Array.replicate ops.size false) a {w with drawn:=w.drawn+1}:=by
 obtain⟨S,rfl,z⟩:=z;obtain⟨evs,s',acc,aa,g,hK⟩:=QM HV ops.toList 0 [] s [] rfl rfl (GT.nil z.nmT) hk;have hW:=z.wf
 let S1:AD:={S with w:={S.w with drawn:=S.w.drawn+1}}
 have hp:Ck (λ_=>True) S S1:=⟨λb hb=>⟨hb,rfl⟩,λo _ e' ad=>⟨e',ad,rfl,rfl,rfl⟩⟩;have hA:oY C N evs s (dn (Array.replicate ops.size false)) S1 a:=by
  have ab: ∀i,dn (Array.replicate ops.size false) i=false:=by
   intro i;simp only[dn,Ec,YM]
   split<;>rfl
  refine⟨⟨hW.os,hW.tape,hW.output,Gu hW.dr (kO _),hW.size,hW.keep,hW.ok0,hW.ok1,hW.oks,?_,hW.loc,hW.inj,hW.gl⟩,λn=> ?_,λt=> ?_,z.size,z.defers,z.n0,z.pre⟩
  .intro o e Z;exact Im hp (λ_ _=>rfl) _ (λ_ _=>trivial) (hW.obj o e Z)
  .rw[Qw6]
   .exact z.h n
   .intro e _ h;rw[ab] at h;cases h
  .rw[Qyr]
   .exact J0 hp _ _ (λ_ _=>trivial) (z.tm t)
   .intro e _ h;rw[ab] at h;cases h
 have ag:=lN (C:=C) (N:=N) (Q:=Q) g (by simpa using aa) z.nmH z.nmT (QF af) hd ?_ ops.size (Array.replicate ops.size false) S1 a (by unfold unl;exact Gu List.countP_le_length auSi) auSi ?_ hA
 .exact ag
 .intro a' S' O;refine hQ s' a' S'.w hK ⟨S',rfl,O.wf,λn=> ?_,λt=> ?_,g.nmT,?_,O.size,O.defers,Gu z.n0 g.nx,O.pre⟩
  .rw[O.h n,g.h n]
  .rw[g.tm t];exact O.tm t
  .intro n e Z;rw[g.h n] at Z;rcases KJ evs _ Z with h|⟨f,hf,_,h⟩
   .obtain⟨h1,h2⟩:=z.nmH n e h
    have:=g.nx
    exact⟨auOm,λm hm=>by have:=h2 m hm;omega⟩
   .obtain⟨ac,h2,h3⟩:=g.ev f hf;cases hs:f.skip
    .obtain⟨_,h5⟩:=Qzx (ac.doo hs).2;obtain⟨h6,h7⟩:=h5 n e h;refine⟨?_,λm hm=>by have:=h7 m hm;omega⟩;rcases h6 with h6|h6
     .have:=h6.2;omega
     .omega
    .rw[(ac.skp hs).2] at h;simp[hget] at h
 .intro j o hj _ e Z hb
  have:dn (Array.replicate ops.size false) j=false:=by
   simp only[dn,Ec,YM]
   split<;>rfl
  rw[this] at hj;cases hj
def Qtk{P:Program}(O:P.follows .mixedOrders=true){V:DK}(Z:IE P V){C:Bn}{N id:Nat}{ops:Array Oper}{K:Az->Prop}{Q:Exit->Act->World->Prop}(hQ: ∀s a w,K s->Cg C N s a w->Q .normal a w)
 (hd:Mr N ops.toList=true)(z:stOk ops=true){s:Az}{a:Act}{w:World}(hk:Xr P V (FV ops.toList []) (IG ops ops.toList) 0 K [] s)(hc:Cg C N s a w):(Code.region id ops true).wp P Q a w:=
 wp_region_any O (Qog Z hQ hd z hk hc)
def EW(N:Nat):Code->Bool
 | .skip=>true
 | .region _ ops z=>Mr N ops.toList && (!z||stOk ops)
 | .seq a b=>EW N a && EW N b
 | .cond _ a b=>EW N a && EW N b
 | .block _ c=>EW N c
 | .loop c=>EW N c
 | .exit _=>true
 | .ret=>true
 |_=>false
def H3(C:Bn)(N:Nat)(Q:CI):Exit->Act->World->Prop
 | .normal,a,w=> ∃s,Q .normal s/\Cg C N s a w
 | .exit i,a,w=> ∃s,Q (.exit i) s/\Cg C N s a w
 | .ret,a,w=> ∃s,Q .ret s/\Cg C N s a w
 |_,_,_=>False
def Qv7{s:Az}: ∀(tm:TmT),H2 s tm-> ∀t,AF tm t= .any\/AF tm t=AF s.tm t
 |[],_,t=> .inl rfl
 |(q,x)::tm,h,t=>by
  simp only[H2] at h;simp only[AF];cases hq:q==t
  .simpa using Qv7 tm h.2 t
  .have:q=t:=by simpa using hq
   subst this;exact .inr (by simpa using h.1.symm)
def Qtu{s:Az}: ∀(hs:An),C5 s hs-> ∀n e,hget hs n=some e->hget s.h n=some e
 |[],_,n,e,h=>by simp[hget] at h
 |(q,x)::hs,h,n,e,z=>by
  simp only[C5] at h;simp only[hget] at z;cases hq:q==n<;>rw[hq] at z
  .exact Qtu hs h.2 n e (by simpa using z)
  .have:q=n:=by simpa using hq
   subst this;simp only[IJ,AS] at z;subst z;exact h.1
def wT{n:Nat}: ∀(tm:TmT),Cl n tm=true-> ∀t,∀m∈(AF tm t).nms,m<n
 |[],_,t,m,hm=>by simp[AF,AV.nms] at hm
 |(q,x)::tm,h,t,m,hm=>by
  simp only[Cl,B1] at h;simp only[AF] at hm;cases hq:q==t<;>rw[hq] at hm
  .exact wT tm h.2 t m (by simpa using hm)
  .exact yE x h.1 m (by simpa using hm)
def wQ{n:Nat}: ∀(hs:An),B5 n hs=true-> ∀m e,hget hs m=some e->m<n
 |[],_,m,e,h=>by simp[hget] at h
 |(q,x)::hs,h,m,e,z=>by
  simp only[B5,B1,Mw] at h;simp only[hget] at z;cases hq:q==m<;>rw[hq] at z
  .exact wQ hs h.2 m e (by simpa using z)
  .have:q=m:=by simpa using hq
   omega
def qE{C:Bn}{N:Nat}{s s':Az}{a:Act}{w:World}(Z:Cg C N s a w)(hs:sub s s')(hg:s'.good=true)(ag:C.n0<=s'.nx):Cg C N s' a w:=by
 obtain⟨S,rfl,Z⟩:=Z;obtain⟨hT,hH⟩:=hs;simp only[Az.good,B1] at hg;obtain⟨ab,ac,ad⟩:=hg;have z: ∀n e,hget s'.h n=some e->S.h n=some e:=λn e Q=>(Z.h n).trans (Qtu _ hH n e Q)
 have hp:Ck (λ_=>True) S {S with h:=hget s'.h}:=⟨λb hb=>⟨hb,rfl⟩,λo _ e' O=>⟨e',z o e' O,rfl,rfl,rfl⟩⟩;have hW:=Z.wf;refine⟨{S with h:=hget s'.h},rfl,⟨hW.os,hW.tape,hW.output,hW.dr,hW.size,hW.keep,hW.ok0,hW.ok1,hW.oks,?_,?_,?_,hW.gl⟩,λn=>rfl,?_,wT _ ab,?_,Z.size,Z.defers,ag,?_⟩
 .intro o e Q;exact Im hp (λ_ _=>rfl) _ (λ_ _=>trivial) (hW.obj o e (z o e Q))
 .intro o e l Q hl;exact hW.loc o e l (z o e Q) hl
 .intro o o' e e' l l' Q O hl af hb aa;exact hW.inj o o' e e' l l' (z o e Q) (z o' e' O) hl af hb aa
 .intro t;rcases Qv7 _ hT t with h|h
  .rw[h];simp only[Ab]
  .rw[h];exact J0 hp _ _ (λ_ _=>trivial) (Z.tm t)
 .intro n e Q;exact⟨wQ _ ad n e Q,jR _ ac n e Q⟩
 .intro o ho e' O;exact Z.pre o ho e' (z o e' O)
def fO{lo:Nat}: ∀(π:List (Nat×Option Nat)),JP lo π-> ∀n,n<lo->pm π n=some n
 |[],_,n,_=>rfl
 |(a,b)::r,h,n,hn=>by
  simp only[JP] at h;simp only[pm];rw[Be auOm];exact fO r h.2 n hn
section
variable {S S':AD}{π:List (Nat×Option Nat)}
mutual
def Qyf(ab:S'.ok=S.ok)(aa:S'.hp=S.hp)(hρ: ∀n m,pm π n=some m->S'.ρ n=S.ρ m)(hρ0: ∀n,pm π n=none->S'.ρ n=none)
 (hh: ∀n m,pm π n=some m-> ∀e',S'.h n=some e'-> ∃e,S.h m=some e/\e.2.esz=e'.2.esz/\e.2.len=e'.2.len): ∀(x' x:AV) (v:Value),mt π x' x->Ab S x v->Ab S' x' v
 | .any,_,_,_,_=>by simp only[Ab]
 | .im d,x,v,h,z=>by
   simp only[mt] at h;subst h;simp only[Ab,ab,aa] at z⊢;exact z
 | .own n,x,v,h,z=>by
   simp only[mt] at h;cases hp:pm π n with
   |some m=>
    rw[hp] at h;simp only[DS] at h;subst h;simp only[Ab] at z⊢;refine⟨z.1,λe' O=> ?_⟩;obtain⟨e,Q,Z,h3⟩:=hh n m hp e' O;rw[hρ n m hp,<-h3];exact z.2 e Q
   |none=>
    rw[hp] at h;simp only[DS] at h;unfold mR at h;split at h
    .simp only[Ab,rd] at z;have hv:v= .slice none 0 0:=by
      rcases z with z|⟨_,_,_,_,_,_,_,Z,_⟩
      .exact Qr7 z.1
      .exact absurd rfl (Z trivial)
     subst hv;simp only[Ab];refine⟨rfl,λe' O=> ?_⟩;rw[hρ0 n hp];trivial
    .exact h.elim
 | .ptr n p,x,v,h,z=>by
   simp only[mt] at h;cases hp:pm π n with
   |none=>rw[hp] at h;exact h.elim
   |some m=>
    rw[hp] at h;simp only[Hh] at h;subst h;simp only[Ab] at z⊢;refine⟨z.1,λe' O=> ?_⟩;obtain⟨e,Q,Z,h3⟩:=hh n m hp e' O;rw[hρ n m hp];exact z.2 e Q
 | .eptr n i p,x,v,h,z=>by
   simp only[mt] at h;cases hp:pm π n with
   |none=>rw[hp] at h;exact h.elim
   |some m=>
    rw[hp] at h;simp only[Hh] at h;subst h;simp only[Ab] at z⊢;refine⟨z.1,λe' O=> ?_⟩;obtain⟨e,Q,Z,h3⟩:=hh n m hp e' O;rw[hρ n m hp,<-Z];exact z.2 e Q
 | .mp n,x,v,h,z=>by
   simp only[mt] at h;cases hp:pm π n with
   |none=>rw[hp] at h;exact h.elim
   |some m=>
    rw[hp] at h;simp only[Hh] at h;subst h;simp only[Ab] at z⊢;refine⟨z.1,λe' O=> ?_⟩;obtain⟨e,Q,Z,h3⟩:=hh n m hp e' O;rw[hρ n m hp];exact z.2 e Q
 | .ch n,x,v,h,z=>by
   simp only[mt] at h;cases hp:pm π n with
   |none=>rw[hp] at h;exact h.elim
   |some m=>
    rw[hp] at h;simp only[Hh] at h;subst h;simp only[Ab] at z⊢;refine⟨z.1,λe' O=> ?_⟩;obtain⟨e,Q,Z,h3⟩:=hh n m hp e' O;rw[hρ n m hp];exact z.2 e Q
 | .it n,x,v,h,z=>by
   simp only[mt] at h;cases hp:pm π n with
   |none=>rw[hp] at h;exact h.elim
   |some m=>
    rw[hp] at h;simp only[Hh] at h;subst h;simp only[Ab] at z⊢;refine⟨z.1,λe' O=> ?_⟩;obtain⟨e,Q,Z,h3⟩:=hh n m hp e' O;rw[hρ n m hp];exact z.2 e Q
 | .osl n a k,x,v,h,z=>by
   simp only[mt] at h;cases hp:pm π n with
   |none=>rw[hp] at h;exact h.elim
   |some m=>
    rw[hp] at h;simp only[Hh] at h;subst h;simp only[Ab] at z⊢;refine⟨z.1,λe' O=> ?_⟩;obtain⟨e,Q,Z,h3⟩:=hh n m hp e' O;rw[hρ n m hp,<-Z,<-h3];exact z.2 e Q
 | .agg cs,x,v,h,z=>by
   have ac: ∀ds,Dl π cs ds->Ab S (.agg ds) v->Ab S' (.agg cs) v:=by
    intro ds h z;simp only[Ab] at z⊢;obtain⟨vs,rfl,Q⟩:=z;exact⟨vs,rfl,Qts ab aa hρ hρ0 hh cs ds _ h Q⟩
   cases x<;>try (simp only[mt] at h;done)
   case agg ds=>
    simp only[mt] at h;exact ac ds h z
   case im d=>
    cases d<;>try (simp only[mt] at h;done)
    rename_i ds;simp only[mt] at h;refine ac _ h ?_;simp only[Ab,rd] at z⊢;obtain⟨vs,rfl,Q⟩:=z;exact⟨vs,rfl,(Js _ _).2 Q⟩
 | .tup cs,x,v,h,z=>by simp only[mt] at h
 | .clo f a c,x,v,h,z=>by simp only[mt] at h
def Qts(O:S'.ok=S.ok)(z:S'.hp=S.hp)(hρ: ∀n m,pm π n=some m->S'.ρ n=S.ρ m)(hρ0: ∀n,pm π n=none->S'.ρ n=none)
 (hh: ∀n m,pm π n=some m-> ∀e',S'.h n=some e'-> ∃e,S.h m=some e/\e.2.esz=e'.2.esz/\e.2.len=e'.2.len): ∀(Q xs:List AV) (vs:LVa),Dl π Q xs->AX S xs vs->AX S' Q vs
 |[],[],vs,h,Z=>by simpa only[AX] using Z
 |x::r,y::s,vs,h,Z=>by
  simp only[Dl] at h;simp only[AX] at Z⊢;obtain⟨v,w,rfl,h1,h2⟩:=Z;exact⟨v,w,rfl,Qyf O z hρ hρ0 hh x y v h.1 h1,Qts O z hρ hρ0 hh r s w h.2 h2⟩
 |[],_::_,vs,h,_=>by simp only[Dl] at h
 |_::_,[],vs,h,_=>by simp only[Dl] at h
end
end
def Qya{π:List (Nat×Option Nat)}: ∀{a b:List (List AV)},Hm π a b->b.length=a.length
 |[],[],_=>rfl
 |_::_,_::_,h=>by simp[Qya h.2]
 |[],_::_,h=>h.elim
 |_::_,[],h=>h.elim
def Ny{π:List (Nat×Option Nat)}: ∀{a b:List AV},Dl π a b->b.length=a.length
 |[],[],_=>rfl
 |_::_,_::_,h=>by simp only[Dl] at h;simp[Ny h.2]
 |[],_::_,h=>by simp only[Dl] at h
 |_::_,[],h=>by simp only[Dl] at h
def Qxn{π:List (Nat×Option Nat)}{e' e:Ad}(h:Df π e' e):e.esz=e'.esz/\e.len=e'.len/\e.isView=e'.isView:=by
 cases e'<;>cases e<;>simp only[Df,reduceCtorEq,Ad.arr.injEq,Ad.map.injEq,Ad.chan.injEq,Ad.iter.injEq,Ad.view.injEq] at h
 all_goals first
  |exact⟨rfl,rfl,rfl⟩
  |(obtain⟨rfl,rfl,rfl⟩:=h;exact⟨rfl,rfl,rfl⟩)
  |(obtain⟨rfl,rfl,rfl⟩:=h;exact⟨rfl,by simp[Ad.len,Bw],rfl⟩)
  |(obtain⟨rfl,rfl,h⟩:=h;exact⟨rfl,by simpa[Ad.len,Bw] using Qya h,rfl⟩)
  |(obtain⟨rfl,rfl⟩:=h;exact⟨rfl,rfl,rfl⟩)
def ZQ{S S':AD}{π:List (Nat×Option Nat)}(ac:S'.ok=S.ok)(O:S'.hp=S.hp)(hρ: ∀n m,pm π n=some m->S'.ρ n=S.ρ m)(hρ0: ∀n,pm π n=none->S'.ρ n=none)
 (hh: ∀n m,pm π n=some m-> ∀e',S'.h n=some e'-> ∃e,S.h m=some e/\e.2.esz=e'.2.esz/\e.2.len=e'.2.len){l:Option GI}{e' e:Ad}(h:Df π e' e)(Q:Au S l e):Au S' l e':=by
 have hp:Ck (λ_=>False) S S':=⟨λb hb=>⟨by rw[ac];exact hb,by rw[O]⟩,λo h=>h.elim⟩;cases e' with
 |cells T cs=>
  cases e<;>simp only[Df] at h;obtain⟨rfl,h⟩:=h;simp only[Au] at Q⊢;obtain⟨lc,vs,h1,Z,h3,h4⟩:=Q;exact⟨lc,vs,h1,Z,by rw[O];exact h3,Qts ac O hρ hρ0 hh _ _ _ h h4⟩
 |arrA T k rows=>
  have hR: ∀(aa rs:List (List AV)) (vs:LVa),Hm π aa rs->BQ S k rs vs->BQ S' k aa vs:=by
   intro aa;induction aa with
   |nil=>intro rs vs _ _;simp only[BQ]
   |cons x r ih=>
    intro rs vs h hc;cases rs with
    |nil=>exact h.elim
    |cons y s=>
     simp only[BQ] at hc⊢;have hP: ∀(xs ys:List AV) (vs:LVa),Dl π xs ys->CO S ys vs->CO S' xs vs:=by
      intro xs;induction xs with
      |nil=>intro ys vs _ _;simp only[CO]
      |cons a l af=>
       intro ys vs h hc;cases ys with
       |nil=>simp only[Dl] at h
       |cons b t=>
        simp only[Dl] at h;simp only[CO] at hc⊢;obtain⟨v,w,rfl,h1,Z⟩:=hc;exact⟨v,w,rfl,Qyf ac O hρ hρ0 hh a b v h.1 h1,af t w h.2 Z⟩
     exact⟨by rw[<-hc.1];exact (Ny h.1).symm,hP _ _ _ h.1 hc.2.1,ih s _ h.2 hc.2.2⟩
  have ab: ∀(z:List (List AV)),Hm π rows z->Au S l (.arrA T k z)->Au S' l (.arrA T k rows):=by
   intro z h Q;simp only[Au] at Q⊢;rw[<-Qya h];refine⟨Q.1,?_⟩;cases l with
   |none=>
    have Z:=Q.2;simp only at Z;subst Z;cases rows with
    |nil=>rfl
    |cons x r=>exact h.elim
   |some lc=>
    obtain⟨h0,h1,vs,Z,h3,h4⟩:=Q;exact⟨h1,vs,by rw[O];exact Z,h3,hR _ _ _ h h4⟩
  cases e<;>simp only[Df] at h
  case arrA U k' z=>
   obtain⟨rfl,rfl,h⟩:=h;exact ab z h Q
  case arr U k' z=>
   obtain⟨rfl,rfl,h⟩:=h;refine ab (Bw z) h ?_;simp only[Au] at Q⊢;rw[show (Bw z).length=z.length by simp[Bw]];refine⟨Q.1,?_⟩;cases l with
   |none=>have Z:=Q.2;simp only at Z;subst Z;rfl
   |some lc=>
    obtain⟨h0,h1,vs,Z,h3,h4⟩:=Q;exact⟨h1,vs,Z,h3,pP _ _ h4⟩
 |arr T k rows=>
  cases e<;>simp only[Df] at h
  case arr U k' z=>
   rw[h] at Q;exact Im hp (λlc _=>by rw[O]) _ (by simp[Ad.nms]) Q
  case arrA U k' z=>
   obtain⟨rfl,rfl,rfl⟩:=h;have ad:Au S l (.arr T k rows):=by
    simp only[Au] at Q⊢;rw[show (Bw rows).length=rows.length by simp[Bw]] at Q;refine⟨Q.1,?_⟩;cases l with
    |none=>
     have Z:=Q.2;simp only[Bw,rG] at Z;exact Z
    |some lc=>
     obtain⟨h0,h1,vs,Z,h3,h4⟩:=Q;exact⟨h1,vs,Z,h3,Ng _ _ h4⟩
   exact Im hp (λlc _=>by rw[O]) _ (by simp[Ad.nms]) ad
 |map kt es=>
  simp only[Df] at h;subst h;exact Im hp (λlc _=>by rw[O]) _ (by simp[Ad.nms]) Q
 |chan q c=>
  simp only[Df] at h;subst h;exact Im hp (λlc _=>by rw[O]) _ (by simp[Ad.nms]) Q
 |iter q0 q=>
  simp only[Df] at h;subst h;exact Im hp (λlc _=>by rw[O]) _ (by simp[Ad.nms]) Q
 |view q=>
  simp only[Df] at h;subst h;exact Im hp (λlc _=>by rw[O]) _ (by simp[Ad.nms]) Q
def sU{π:List (Nat×Option Nat)}: ∀(H:An),Dg (EZ π H)=true-> ∀n n' e e' m,hget H n=some e->hget H n'=some e'->pm π n=some m->pm π n'=some m->n=n'
 |[],_,n,n',e,e',m,h,_,_,_=>by simp[hget] at h
 |(q,x)::H,hn,n,n',e,e',m,h,h',hp,hp'=>by
  have Z: ∀n e,hget H n=some e-> ∀m,pm π n=some m->some m∈EZ π H:=by
   intro n e;clear hn h h' hp hp';induction H with
   |nil=>intro h;simp[hget] at h
   |cons y H ih=>
    obtain⟨q',z⟩:=y;intro h m hm;simp only[hget] at h;simp only[EZ,B0];cases hq:q'==n<;>rw[hq] at h
    .exact .inr (ih (by simpa using h) m hm)
    .have:q'=n:=by simpa using hq
     subst this;exact .inl hm.symm
  have aa:Dg (EZ π H)=true:=by
   simp only[EZ] at hn;cases hq:pm π q<;>rw[hq] at hn<;>simp only[Dg,B1] at hn
   .exact hn
   .exact hn.2
  simp only[hget] at h h';by_cases Q:q=n<;>by_cases O:q=n'
  .rw[<-Q,<-O]
  .subst Q
   have:(q==n')=false:=by simpa using O
   rw[this] at h';have hm:=Z n' e' (by simpa using h') m hp';simp only[EZ,hp,Dg,B1,lB] at hn
   have:=hn.1
   rw[GF.2 hm] at this;cases this
  .subst O
   have:(q==n)=false:=by simpa using Q
   rw[this] at h;have hm:=Z n e (by simpa using h) m hp;simp only[EZ,hp',Dg,B1,lB] at hn
   have:=hn.1
   rw[GF.2 hm] at this;cases this
  .have h1:(q==n)=false:=by simpa using Q
   have h2:(q==n')=false:=by simpa using O
   rw[h1] at h;rw[h2] at h';exact sU H aa n n' e e' m (by simpa using h) (by simpa using h') hp hp'
def Qll{π:List (Nat×Option Nat)}{s:Az}: ∀(H:An),F6 π s H-> ∀n e',hget H n=some e'->Ci s π e'.1 e'.2 (pm π n)
 |[],_,n,e',h=>by simp[hget] at h
 |(q,(O,x))::H,z,n,e',h=>by
  simp only[F6] at z;simp only[hget] at h;cases hq:q==n<;>rw[hq] at h
  .exact Qll H z.2 n e' (by simpa using h)
  .have:q=n:=by simpa using hq
   subst this;simp only[IJ,AS] at h;subst h;exact z.1
def Qqi{π:List (Nat×Option Nat)}{s:Az}: ∀(T:TmT),EQ π s T-> ∀t,AF T t= .any\/mt π (AF T t) (AF s.tm t)
 |[],_,t=> .inl rfl
 |(q,x)::T,z,t=>by
  simp only[EQ] at z;simp only[AF];cases hq:q==t
  .simpa using Qqi T z.2 t
  .have:q=t:=by simpa using hq
   subst this;exact .inr (by simpa using z.1)
def Sa{C:Bn}{N lo:Nat}{π:List (Nat×Option Nat)}{s s':Az}{a:Act}{w:World}(hc:Cg C N s a w)(hs:AB lo π s s')(hg:s'.good=true)(ao:C.n0<=lo)(am:C.n0<=s'.nx):Cg C N s' a w:=by
 obtain⟨S,rfl,hc⟩:=hc;obtain⟨ak,ac,hT,hH⟩:=hs;simp only[Az.good,B1] at hg;obtain⟨ah,ai,aj⟩:=hg
 let S':AD:=⟨λn=>match pm π n with
  |some m=>S.ρ m
  |none=>none,S.ok,hget s'.h,S.w⟩
 have hρ: ∀n m,pm π n=some m->S'.ρ n=S.ρ m:=by intro n m h;simp only[S',h]
 have hρ0: ∀n,pm π n=none->S'.ρ n=none:=by intro n h;simp only[S',h]
 have Q: ∀n m,pm π n=some m-> ∀e',S'.h n=some e'-> ∃e,S.h m=some e/\e.1=e'.1/\Df π e'.2 e.2:=by
  intro n m hp e' z;have O:=Qll _ hH n e' z;rw[hp] at O;simp only[Ci] at O;cases hx:hget s.h m with
  |none=>rw[hx] at O;exact O.elim
  |some e=>
   obtain⟨mu,e⟩:=e;rw[hx] at O;exact⟨(mu,e),(hc.h m).trans hx,O.1,O.2⟩
 have hh: ∀n m,pm π n=some m-> ∀e',S'.h n=some e'-> ∃e,S.h m=some e/\e.2.esz=e'.2.esz/\e.2.len=e'.2.len:=by
  intro n m hp e' z;obtain⟨e,O,_,h2⟩:=Q n m hp e' z;obtain⟨h3,h4,_⟩:=Qxn h2;exact⟨e,O,h3,h4⟩
 have hW:=hc.wf;refine⟨S',rfl,⟨hW.os,hW.tape,hW.output,hW.dr,hW.size,hW.keep,hW.ok0,hW.ok1,hW.oks,?_,?_,?_,hW.gl⟩,λn=>rfl,?_,wT _ ah,?_,hc.size,hc.defers,am,?_⟩
 .intro n e' z;cases hp:pm π n with
  |some m=>
   obtain⟨e,O,_,h2⟩:=Q n m hp e' z;rw[hρ n m hp];exact ZQ (S:=S) (S':=S') rfl rfl hρ hρ0 hh h2 (hW.obj m e O)
  |none=>
   have O:=Qll _ hH n e' z;rw[hp] at O;simp only[Ci] at O;rw[hρ0 n hp];obtain⟨mu,e'⟩:=e';unfold ZU at O;split at O
   .rename_i ab Z;simp only at Z;subst Z;simp[Au]
   .rename_i ab Z;simp only at Z;subst Z;simp[Au]
   .exact O.elim
 .intro n e' l z hl;cases hp:pm π n with
  |none=>rw[hρ0 n hp] at hl;cases hl
  |some m=>
   obtain⟨e,O,h2,h3⟩:=Q n m hp e' z;rw[hρ n m hp] at hl
   have:=hW.loc m e l O hl
   rw[<-h2,<-(Qxn h3).2.2];exact this
 .intro n n' e e' l l' he z hl aa hb ag;cases hp:pm π n with
  |none=>rw[hρ0 n hp] at hl;cases hl
  |some m=>
   cases hp':pm π n' with
   |none=>rw[hρ0 n' hp'] at aa;cases aa
   |some m'=>
    obtain⟨x,O,h2,h3⟩:=Q n m hp e he;obtain⟨x',ad,af,an⟩:=Q n' m' hp' e' z;rw[hρ n m hp] at hl;rw[hρ n' m' hp'] at aa
    have:=hW.inj m m' x x' l l' O ad hl aa hb (by rw[h2,af];exact ag)
    subst this;exact sU _ ac n n' e e' m he z hp hp'
 .intro t;rcases Qqi _ hT t with h|h
  .rw[h];simp only[Ab]
  .exact Qyf (S:=S) (S':=S') rfl rfl hρ hρ0 hh _ _ _ h (hc.tm t)
 .intro n e he;exact⟨wQ _ aj n e he,jR _ ai n e he⟩
 .intro o ho e' z;have hp:=fO π ak o auOm;obtain⟨e,O,_,h2⟩:=Q o o hp e' z;obtain⟨e0,g1,g2,g3,g4⟩:=hc.pre o ho e O;obtain⟨h3,h4,_⟩:=Qxn h2;exact⟨e0,g1,(hρ o o hp).trans g2,h3.symm.trans g3,h4.symm.trans g4⟩
def xE(F:List Nat): ∀(H:An) (n:Nat),hget (IQ F H) n=(hget H n).map λe=>(e.1 && !F.contains n,e.2)
 |[],n=>rfl
 |(q,(z,e))::H,n=>by
  simp only[IQ,hget];cases hq:q==n
  .simpa using xE F H n
  .have:q=n:=by simpa using hq
   subst this;rfl
def Qxl{C:Bn}{N:Nat}(F:List Nat){s:Az}{a:Act}{w:World}(z:Cg C N s a w):Cg C N (T9 F s) a w:=by
 obtain⟨S,rfl,z⟩:=z;have hp:=Ik S (λn=> !F.contains n);refine⟨S.ice (λn=> !F.contains n),rfl,WV z.wf,λn=> ?_,λt=>J0 hp _ _ (λ_ _=>trivial) (z.tm t),z.nmT,?_,z.size,z.defers,z.n0,?_⟩
 .show (S.h n).map _=hget (IQ F s.h) n;rw[xE,z.h n]
 .intro n e O;have O:hget (IQ F s.h) n=some e:=O;rw[xE] at O;simp only[Dx] at O;obtain⟨x,hx,rfl⟩:=O;exact z.nmH n x hx
 .intro o ho e' Q;obtain⟨e,Z,rfl⟩:=WM Q;exact z.pre o ho e Z
def Ve{o p:Nat}{x:Option Ap}: ∀m∈(Gz o p x).nms,m∈(AV.ptr o p).nms:=by
 intro m hm;unfold Gz at hm;split at hm<;>try exact hm
 rename_i z;cases ha:Ea (z.drop p) with
 |none=>rw[ha] at hm;exact hm
 |some ds=>rw[ha] at hm;simp[Ke,AV.nms] at hm
mutual
def MV(F:List Nat)(H:An): ∀(x:AV),∀m∈(x.fzA F H).nms,m∈x.nms
 | .own n,m,hm=>by
   simp only[AV.fzA] at hm;cases hF:F.contains n<;>rw[hF] at hm
   .simpa using hm
   .simp only[IJ] at hm;cases hh:hget H n with
    |none=>rw[hh] at hm;simpa[LS] using hm
    |some e=>
     obtain⟨O,e⟩:=e;rw[hh] at hm;cases e<;>simp only[LS,Ia] at hm<;>first|exact hm|(simp[AV.nms] at hm)
 | .agg z,m,hm=>by
   simp only[AV.fzA,AV.nms] at hm⊢;exact Qng F H z m hm
 | .any,m,hm=>by simpa only[AV.fzA] using hm
 | .im d,m,hm=>by simpa only[AV.fzA] using hm
 | .tup z,m,hm=>by simpa only[AV.fzA] using hm
 | .ptr o p,m,hm=>by
   simp only[AV.fzA] at hm;cases hF:F.contains o<;>rw[hF] at hm
   .exact hm
   .simp only[IJ] at hm;cases hG:F.contains (o+4000000000)<;>rw[hG] at hm
    .exact hm
    .exact Ve m hm
 | .eptr o i p,m,hm=>by simpa only[AV.fzA] using hm
 | .mp o,m,hm=>by simpa only[AV.fzA] using hm
 | .ch o,m,hm=>by simpa only[AV.fzA] using hm
 | .it o,m,hm=>by simpa only[AV.fzA] using hm
 | .osl o a n,m,hm=>by simpa only[AV.fzA] using hm
 | .clo f a c,m,hm=>by simpa only[AV.fzA] using hm
def Qng(F:List Nat)(H:An): ∀(xs:List AV),∀m∈Av (DN F H xs),m∈Av xs
 |[],m,hm=>by simpa[DN] using hm
 |x::r,m,hm=>by
  simp only[DN,Av,BO] at hm⊢;exact hm.imp (MV F H x m) (Qng F H r m)
end
def tB(F:List Nat)(H:An): ∀(xs:List (List AV)),∀m∈BI (DO F H xs),m∈BI xs
 |[],m,hm=>by simpa[DO] using hm
 |x::r,m,hm=>by
  simp only[DO,BI,BO] at hm⊢;exact hm.imp (Qng F H x m) (tB F H r m)
def TF(F:List Nat)(H:An)(e:Ad): ∀m∈(e.fzA F H).nms,m∈e.nms:=by
 intro m hm;cases e<;>simp only[Ad.fzA,Ad.nms] at hm⊢ <;>try exact hm
 .exact Qng F H _ m hm
 .exact tB F H _ m hm
def Qrp(F:List Nat)(H:An): ∀(xs:List (List AV)),(DO F H xs).length=xs.length
 |[]=>rfl
 |x::r=>by simp only[DO,Em,Qrp F H r]
def Qzt(F:List Nat)(H:An): ∀(xs:List AV),(DN F H xs).length=xs.length
 |[]=>rfl
 |x::r=>by simp only[DN,Em,Qzt F H r]
def Qtj(F:List Nat)(H:An)(e:Ad):(e.fzA F H).esz=e.esz/\(e.fzA F H).len=e.len/\(e.fzA F H).isView=e.isView:=by
 cases e<;>simp[Ad.fzA,Ad.esz,Ad.len,Ad.isView,Qrp]
def Qrq(F:List Nat)(H:An): ∀(T:TmT) (t:Nat),AF (IR F H T) t=(AF T t).fzA F H
 |[],t=>by simp only[IR,AF,AV.fzA]
 |(q,x)::T,t=>by
  simp only[IR,AF];cases hq:q==t
  .simpa using Qrq F H T t
  .rfl
def Qss(F:List Nat)(H0:An): ∀(H:An) (n:Nat),hget (Hw F H0 H) n=(hget H n).map λe=>(e.1 && !F.contains n,e.2.fzA F H0)
 |[],n=>rfl
 |(q,(z,e))::H,n=>by
  simp only[Hw,hget];cases hq:q==n
  .simpa using Qss F H0 H n
  .have:q=n:=by simpa using hq
   subst this;rfl
section
variable {C:Bn}{S:AD}{F:List Nat}{H:An}(hW:Wf C S)(hH: ∀n e,F.contains n=true->hget H n=some e->S.h n=some (false,e.2))
include hW hH
def PZ{n:Nat}{v:Value}(hF:F.contains n=true)(h:Ab S (.own n) v):Ab S (LS n (hget H n)) v:=by
 cases hh:hget H n with
 |none=>exact h
 |some e=>
  have O:=hH n e hF hh;obtain⟨mu,e⟩:=e;cases e<;>simp only[LS,Ia]<;>try exact h
  rename_i U w rows;simp only[Ab] at h⊢;have Z:=h.2 _ O;have z:=hW.obj n _ O;have aa:=λl=>hW.loc n _ l O
  simp only[Au] at z;simp only[rd];cases hl:S.ρ n with
  |none=>
   rw[hl] at Z z;exact .inl ⟨.inl Z,z.2⟩
  |some l=>
   rw[hl] at Z z;have Q:=(aa l hl).2;simp only[Ad.isView,BL,Rl,HS] at Q;obtain⟨g0,g1,vs,g2,g3,g4⟩:=z;exact .inr ⟨l.b,l.p,l.cap,vs,U,(0,0),Z,auSi,g1,g0,Q,g2,g4⟩
def Qd{n p:Nat}{v:Value}(hF:F.contains n=true)(h:Ab S (.ptr n p) v):Ab S (Gz n p (hget H n)) v:=by
 cases hh:hget H n with
 |none=>exact h
 |some e=>
  have z:=hH n e hF hh;obtain⟨mu,e⟩:=e;cases e<;>simp only[Gz]<;>try exact h
  rename_i T Z;cases ha:Ea (Z.drop p) with
  |none=>exact h
  |some ds=>
   simp only[Ke,Ab,rd];simp only[Ab] at h;obtain⟨l,hl,rfl⟩:=h.2 _ z;have O:=hW.obj n _ z;rw[hl] at O;simp only[Au] at O;obtain⟨lc,vs,h3,h4,h5,h6⟩:=O;cases h3;have Q:=(hW.loc n _ l z hl).2;simp only[Ad.isView,BL,Rl,HS] at Q;refine⟨l.b,l.p+p,vs,T,(0,0),rfl,Q,h5,?_⟩;rw[h4,Je];have h7: ∀(n:Nat) (a:List AV) (b:LVa),AX S a b->AX S (a.drop n) (b.drop n):=by
    intro n;induction n with
    |zero=>intro a b h;simpa using h
    |succ n ih=>
     intro a b h;cases a with
     |nil=>simp only[AX] at h;subst h;simp[AX]
     |cons x a=>
      simp only[AX] at h;obtain⟨v,r,rfl,_,h⟩:=h;simpa using ih a r h
   exact Qse ds _ (Qov _ ds _ ha (h7 p Z _ h6))
mutual
def Qte: ∀(x:AV) (v:Value),Ab S x v->Ab S (x.fzA F H) v
 | .own n,v,h=>by
   simp only[AV.fzA];cases hF:F.contains n
   .exact h
   .exact PZ hW hH hF h
 | .agg z,v,h=>by
   simp only[AV.fzA,Ab] at h⊢;obtain⟨O,rfl,h⟩:=h;exact⟨O,rfl,Qom _ _ h⟩
 | .any,v,h=>by simpa only[AV.fzA] using h
 | .im d,v,h=>by simpa only[AV.fzA] using h
 | .tup z,v,h=>by simpa only[AV.fzA] using h
 | .ptr o p,v,h=>by
   simp only[AV.fzA];cases hF:F.contains o
   .exact h
   .simp only[IJ];cases hG:F.contains (o+4000000000)
    .exact h
    .exact Qd hW hH hF h
 | .eptr o i p,v,h=>by simpa only[AV.fzA] using h
 | .mp o,v,h=>by simpa only[AV.fzA] using h
 | .ch o,v,h=>by simpa only[AV.fzA] using h
 | .it o,v,h=>by simpa only[AV.fzA] using h
 | .osl o a n,v,h=>by simpa only[AV.fzA] using h
 | .clo f a c,v,h=>by simpa only[AV.fzA] using h
def Qom: ∀(xs:List AV) (vs:LVa),AX S xs vs->AX S (DN F H xs) vs
 |[],_,h=>by simpa only[DN] using h
 |x::l,vs,h=>by
  simp only[DN,AX] at h⊢;obtain⟨v,r,rfl,z,O⟩:=h;exact⟨v,r,rfl,Qte x v z,Qom l r O⟩
end
def Quw: ∀(xs:List AV) (vs:LVa),CO S xs vs->CO S (DN F H xs) vs
 |[],_,h=>by simp only[DN,CO]
 |x::l,vs,h=>by
  simp only[DN,CO] at h⊢;obtain⟨v,r,rfl,z,O⟩:=h;exact⟨v,r,rfl,Qte hW hH x v z,Quw l r O⟩
def Qu9(k:Nat): ∀(xs:List (List AV)) (vs:LVa),BQ S k xs vs->BQ S k (DO F H xs) vs
 |[],_,h=>by simp only[DO,BQ]
 |x::l,vs,h=>by
  simp only[DO,BQ] at h⊢;exact⟨by rw[Qzt];exact h.1,Quw hW hH x vs h.2.1,Qu9 k l _ h.2.2⟩
def PG{l:Option GI}(e:Ad)(h:Au S l e):Au S l (e.fzA F H):=by
 cases e<;>simp only[Ad.fzA]<;>try exact h
 .simp only[Au] at h⊢;obtain⟨lc,vs,O,z,Q,Z⟩:=h;exact⟨lc,vs,O,z,Q,Qom hW hH _ _ Z⟩
 .rename_i T k rows;simp only[Au,Qrp] at h⊢;refine⟨h.1,?_⟩;cases l with
  |none=>
   have z:=h.2;simp only at z;subst z;rfl
  |some lc=>
   obtain⟨h0,O,vs,z,Q,Z⟩:=h;exact⟨O,vs,z,Q,Qu9 hW hH k _ _ Z⟩
end
def yD{C:Bn}{N:Nat}(F:List Nat){s:Az}{a:Act}{w:World}(Q:Cg C N s a w):Cg C N (PH F s) a w:=by
 obtain⟨S,rfl,ab⟩:=Qxl F Q;clear Q;have Q:=ab;clear ab
 let S':AD:=⟨S.ρ,S.ok,hget (Hw F s.h s.h),S.w⟩
 have aa: ∀n,S.h n=(hget s.h n).map λe=>(e.1 && !F.contains n,e.2):=by
  intro n;rw[Q.h n];exact xE F s.h n
 have hH: ∀n e,F.contains n=true->hget s.h n=some e->S.h n=some (false,e.2):=by
  intro n e hF he;rw[aa,he];simp only[CT,hF,YB,zR]
 have O: ∀n e',S'.h n=some e'-> ∃e,S.h n=some e/\e'.1=e.1/\e'.2=e.2.fzA F s.h:=by
  intro n e' z;have z:hget (Hw F s.h s.h) n=some e':=z;rw[Qss] at z;simp only[Dx] at z;obtain⟨x,hx,rfl⟩:=z;exact⟨(x.1 && !F.contains n,x.2),by rw[aa,hx];rfl,rfl,rfl⟩
 have hp:Ck (λ_=>True) S S':=⟨λb hb=>⟨hb,rfl⟩,λo _ e' z=>by
  obtain⟨e,Z,h2,h3⟩:=O o e' z;obtain⟨g1,g2,_⟩:=Qtj F s.h e.2;exact⟨e,Z,rfl,by rw[h3];exact g1,by rw[h3];exact g2⟩⟩
 have hW:=Q.wf;refine⟨S',rfl,⟨hW.os,hW.tape,hW.output,hW.dr,hW.size,hW.keep,hW.ok0,hW.ok1,hW.oks,?_,?_,?_,hW.gl⟩,λn=>rfl,?_,?_,?_,Q.size,Q.defers,Q.n0,?_⟩
 .intro o e' z;obtain⟨e,Z,h2,h3⟩:=O o e' z;rw[h3];exact Im hp (λlc _=>rfl) _ (λ_ _=>trivial) (PG hW hH e.2 (hW.obj o e Z))
 .intro o e' l z hl;obtain⟨e,Z,h2,h3⟩:=O o e' z
  have:=hW.loc o e l Z hl
  rw[h2,h3,(Qtj F s.h e.2).2.2];exact this
 .intro o o' e e' l l' he z hl ag hb af;obtain⟨x,Z,h2,h3⟩:=O o e he;obtain⟨x',ac,ad,ah⟩:=O o' e' z;exact hW.inj o o' x x' l l' Z ac hl ag hb (by rw[<-h2,<-ad];exact af)
 .intro t;show Ab S' (AF (IR F s.h s.tm) t) _;rw[Qrq];exact J0 hp _ _ (λ_ _=>trivial) (Qte hW hH _ _ (Q.tm t))
 .intro t m hm;have hm:m∈(AF (IR F s.h s.tm) t).nms:=hm;rw[Qrq] at hm;exact Q.nmT t m (MV F s.h _ m hm)
 .intro n e he;have he:hget (Hw F s.h s.h) n=some e:=he;rw[Qss] at he;simp only[Dx] at he;obtain⟨x,hx,rfl⟩:=he;have Z:hget (T9 F s).h n=some (x.1 && !F.contains n,x.2):=by
   show hget (IQ F s.h) n=_;rw[xE,hx];rfl
  obtain⟨g1,g2⟩:=Q.nmH n _ Z;exact⟨g1,λm hm=>g2 m (TF F s.h x.2 m hm)⟩
 .intro o ho e' z;obtain⟨e,Z,h2,h3⟩:=O o e' z;obtain⟨e0,g1,g2,g3,g4⟩:=Q.pre o ho e Z;obtain⟨q1,q2,_⟩:=Qtj F s.h e.2;exact⟨e0,g1,g2,by rw[h3,q1];exact g3,by rw[h3,q2];exact g4⟩
def O9{p:Nat->Prop}: ∀n,p n-> ∃m,p m/\ ∀k,k<m-> ¬p k:=by
 intro n;induction n using Nat.strongRecOn with
 |_ n ih=>
  intro hn;by_cases h: ∃k,k<n/\p k
  .obtain⟨k,O,z⟩:=h;exact ih k O z
  .exact⟨n,hn,λk O z=>h ⟨k,O,z⟩⟩
section
variable {P:Program}{V:DK}{C:Bn}{N:Nat}
def dG{x:CI}{Q:CI}{next:Act->World->Prop}(Z: ∀s a w,x .normal s->Cg C N s a w->next a w)(h2: ∀i s,x (.exit i) s->Q (.exit i) s)(h3: ∀s,x .ret s->Q .ret s):
 ∀e a w,H3 C N x e a w->Exit.then next (H3 C N Q) e a w:=by
 intro e a w h;cases e<;>simp only[H3] at h<;>simp only[Exit.then,H3]
 .obtain⟨s,O,z⟩:=h;exact Z s a w O z
 .obtain⟨s,O,z⟩:=h;exact⟨s,h2 _ s O,z⟩
 .obtain⟨s,O,z⟩:=h;exact⟨s,h3 s O,z⟩
def Qo4(HM:P.follows .mixedOrders=true)(HV:IE P V): ∀(c:Code),EW N c=true-> ∀(Q:CI) (s:Az) (a:Act) (w:World),DH P V c Q s->Cg C N s a w->c.wp P (H3 C N Q) a w:=by
 intro c;induction c with
 |skip=>intro _ Q s a w h O;exact wp_skip ⟨s,h,O⟩
 |region id ops ao=>
  intro hk Q s a w h O;simp only[EW,B1] at hk;cases ao with
  |true=>exact Qtk HM HV (λs a w h1 h2=>⟨s,h1,h2⟩) hk.1 (by simpa using hk.2) h O
  |false=>exact Qt0 HV (λs a w h1 h2=>⟨s,h1,h2⟩) hk.1 h O
 |seq x y am an=>
  intro hk Q s a w h O;simp only[EW,B1] at hk;simp only[DH] at h;refine wp_seq (wp_mono (am hk.1 _ s a w h O) (dG ?_ ?_ ?_))
  .intro s a w hs O;exact an hk.2 Q s a w hs O
  .intro i s hs;exact hs
  .intro s hs;exact hs
 |cond c x y am an=>
  intro hk Q s a w h O;simp only[EW,B1] at hk;simp only[DH] at h;obtain⟨S,aq,ak⟩:=O;have h1:=RW ak c;cases hv:Ay s.tm c<;>rw[hv] at h<;>try exact h.elim
  rename_i d;cases d<;>try exact h.elim
  rename_i b;rw[hv] at h1;simp only[Ab,rd] at h1;simp only[yO] at h;refine wp_cond_split h1 (λhb=>am hk.1 Q s a w (h.1 hb) ⟨S,aq,ak⟩) (λhb=>an hk.2 Q s a w (h.2 hb) ⟨S,aq,ak⟩)
 |block id c ih=>
  intro hk Q s a w h O;simp only[DH] at h;refine wp_block (wp_mono (ih hk _ s a w h O) ?_);intro e a w he;cases e<;>simp only[H3] at he<;>simp only[Exit.inBlock,H3]
  .exact he
  .rename_i i;obtain⟨s,hs,O⟩:=he;simp only[qL] at hs;by_cases hi:i=id
   .subst hi;rw[Bt rfl];exact⟨s,by simpa[JL] using hs,O⟩
   .rw[Be hi]
    have:(i==id)=false:=by simpa using hi
    rw[this] at hs;exact⟨s,hs,O⟩
  .exact he
 |loop c ih=>
  intro hk Q s a w h O;have aj: ∀(s:Az),dM (DH P V c) Q s->Cg C N s a w->(Code.loop c).wp P (H3 C N Q) a w:=by
   clear h O;intro s h O;simp only[dM] at h;obtain⟨β,I,μ,z,⟨b0,af⟩,Z⟩:=h
   let p:Act->World->Nat->Prop:=λa w n=> ∃b,Cg C N (I b) a w/\μ b=n
   let μ':Act->World->Nat:=λa w=>Classical.epsilon λn=>p a w n/\ ∀k,k<n-> ¬p a w k
   have hμ: ∀a w b,Cg C N (I b) a w->p a w (μ' a w)/\ ∀k,k<μ' a w-> ¬p a w k:=by
    intro a w b hb;exact Xn (p:=λn=>p a w n/\ ∀k,k<n-> ¬p a w k) (O9 (μ b) ⟨b,hb,rfl⟩)
   have ac: ∀b,C.n0<=(I b).nx:=by
    intro b;obtain⟨S,_,h⟩:=O;exact Gu h.n0 (z b).2
   refine wp_loop (λa w=> ∃b,Cg C N (I b) a w) μ' ⟨b0,qE O af (z b0).1 (ac b0)⟩ ?_;rintro a w ⟨b,hb⟩;obtain⟨⟨b1,ag,av⟩,_⟩:=hμ a w b hb;refine wp_mono (ih hk _ _ a w (Z b1) ag) (dG ?_ ?_ ?_)
   .rintro s' a' w' ⟨b',au,ad⟩ ah;have aa:=qE ah ad (z b').1 (ac b');refine⟨⟨b',aa⟩,?_⟩;obtain⟨_,ab⟩:=hμ a' w' b' aa;rcases Pi (μ b') (μ' a' w') with h1|h1
    .exact absurd ⟨b',aa,rfl⟩ (ab _ h1)
    .omega
   .intro i s hs;exact hs
   .intro s hs;exact hs
  simp only[DH,AY] at h;rcases h with h|h|⟨F,h⟩|h
  .exact aj s h O
  .simp only[Qsi] at h;obtain⟨β,I,μ,z,⟨b0,π0,af⟩,Z⟩:=h
   let p:Act->World->Nat->Prop:=λa w n=> ∃b,Cg C N (I b) a w/\μ b=n
   let μ':Act->World->Nat:=λa w=>Classical.epsilon λn=>p a w n/\ ∀k,k<n-> ¬p a w k
   have hμ: ∀a w b,Cg C N (I b) a w->p a w (μ' a w)/\ ∀k,k<μ' a w-> ¬p a w k:=by
    intro a w b hb;exact Xn (p:=λn=>p a w n/\ ∀k,k<n-> ¬p a w k) (O9 (μ b) ⟨b,hb,rfl⟩)
   have ai:C.n0<=s.nx:=by
    obtain⟨S,_,h⟩:=O;exact h.n0
   have ac: ∀b,C.n0<=(I b).nx:=by
    intro b;obtain⟨S,_,h⟩:=O;exact Gu h.n0 (z b).2
   refine wp_loop (λa w=> ∃b,Cg C N (I b) a w) μ' ⟨b0,Sa O af (z b0).1 ai (ac b0)⟩ ?_;rintro a w ⟨b,hb⟩;obtain⟨⟨b1,ag,av⟩,_⟩:=hμ a w b hb;refine wp_mono (ih hk _ _ a w (Z b1) ag) (dG ?_ ?_ ?_)
   .rintro s' a' w' ⟨b',π,au,ad⟩ ah;have aa:=Sa ah ad (z b').1 ai (ac b');refine⟨⟨b',aa⟩,?_⟩;obtain⟨_,ab⟩:=hμ a' w' b' aa;rcases Pi (μ b') (μ' a' w') with h1|h1
    .exact absurd ⟨b',aa,rfl⟩ (ab _ h1)
    .omega
   .intro i s hs;exact hs
   .intro s hs;exact hs
  .exact aj _ h (Qxl F O)
  .simp only[Qsf] at h;obtain⟨β,I,μ,z,⟨b0,F0,π0,af⟩,Z⟩:=h
   let p:Act->World->Nat->Prop:=λa w n=> ∃b,Cg C N (I b) a w/\μ b=n
   let μ':Act->World->Nat:=λa w=>Classical.epsilon λn=>p a w n/\ ∀k,k<n-> ¬p a w k
   have hμ: ∀a w b,Cg C N (I b) a w->p a w (μ' a w)/\ ∀k,k<μ' a w-> ¬p a w k:=by
    intro a w b hb;exact Xn (p:=λn=>p a w n/\ ∀k,k<n-> ¬p a w k) (O9 (μ b) ⟨b,hb,rfl⟩)
   have ai:C.n0<=s.nx:=by
    obtain⟨S,_,h⟩:=O;exact h.n0
   have ac: ∀b,C.n0<=(I b).nx:=by
    intro b;obtain⟨S,_,h⟩:=O;exact Gu h.n0 (z b).2
   refine wp_loop (λa w=> ∃b,Cg C N (I b) a w) μ' ⟨b0,Sa (yD F0 O) af (z b0).1 ai (ac b0)⟩ ?_;rintro a w ⟨b,hb⟩;obtain⟨⟨b1,ag,av⟩,_⟩:=hμ a w b hb;refine wp_mono (ih hk _ _ a w (Z b1) ag) (dG ?_ ?_ ?_)
   .rintro s' a' w' ⟨b',F,π,au,ad⟩ ah;have aa:=Sa (yD F ah) ad (z b').1 ai (ac b');refine⟨⟨b',aa⟩,?_⟩;obtain⟨_,ab⟩:=hμ a' w' b' aa;rcases Pi (μ b') (μ' a' w') with h1|h1
    .exact absurd ⟨b',aa,rfl⟩ (ab _ h1)
    .omega
   .intro i s hs;exact hs
   .intro s hs;exact hs
 |exit id=>intro _ Q s a w h O;exact wp_exit ⟨s,h,O⟩
 |ret=>intro _ Q s a w h O;exact wp_ret ⟨s,h,O⟩
 |_=>intro hk;simp[EW] at hk
end
def pY(P:Program)(g:FuncId):Prop:=g<1000000000/\ ∃fn,P.funcs[g]? =some fn/\(fn.name== "runtime.NumGoroutine")=false/\fn.body.isNone=false
def Rz(P:Program)(g:FuncId)(args:List AV)(h:HpT)(nx:Nat)(r:AV)(E:BA):Prop:=
 ∀(C:Bn) (S:AD) (vs:Array Value) (R:Ending->World->Prop),
  Wf C S->(∀n∈E.use++E.kill,S.h n=h n)->(∀n,Fr nx E.cnt n->S.h n=none)->
  (∀n e,S.h n=some e-> ∀m∈e.2.nms,¬Fr nx E.cnt m)->
  AX S args vs.toList->
  (∀v S',Wf C S'->S'.h=E.appf S.h->Ck (λm=> ¬Fr nx E.cnt m) S S'->Ab S' r v->R (.returned v) S'.w)->
  Calls P g vs S.w R
def Ls(P:Program)(V:DK):Prop:= ∀g args h nx K,V g args h nx K->pY P g/\ ∃r E,Rz P g args h nx r E/\K r E
def Qhx{P:Program}{g:FuncId}(h:pY P g)(args:Array Value)(w:World):(callFunc g args).run P w= .ok (.enter g args) w:=by
 obtain⟨_,fn,Q,Z,h3⟩:=h;have z:fn.name≠ "runtime.NumGoroutine" :=by simpa using Z
 have O:fn.body≠none:=by intro h;simp[h] at h3
 simp[callFunc,Q,z,O]
def Qpe{S:AD}{tm:TmT}{a:Act}: ∀(xs:List Operand),(∀x∈xs,Ab S (Ay tm x) (a.eval x))->AX S (Ey tm xs) (xs.map a.eval)
 |[],_=>by simp[Ey,AX]
 |x::xs,h=>by
  simp only[Ey,Br,AX];exact⟨_,_,rfl,h x auSi,Qpe xs (λy z=>h y (by simp[z]))⟩
def YY{P:Program}{V:DK}(hV:Ls P V)(tm:TmT)(h:HpT)(nx:Nat)(o:Oper)(c:Call)(f:Operand)(K:Al)(ho:o.op= .call c)(z:c.callee= .value f)
 (hk:R7 V (Ey tm c.args.toList) h nx K (Ay tm f)):Cr P tm h nx o K:=by
 have ag:f∈o.op.operands:=by rw[ho];simp[Op.operands,Call.operands,z]
 have af: ∀x∈c.args.toList,x∈o.op.operands:=by
  intro x hx;rw[ho];simp only[Op.operands,Call.operands,z];simp;exact .inr (by simpa using hx)
 have aa: ∀(g:FuncId) (fi ca:List AV),V g (fi++Ey tm c.args.toList++ca) h nx K->(∀(S:AD) (v:Value),Ab S (Ay tm f) v-> ∃a b:Array Value,v= .func (eV g) a b/\AX S fi a.toList/\AX S ca b.toList)->Cr P tm h nx o K:=by
  intro g fi ca hv hf;obtain⟨O,r,E,hT,hK⟩:=hV _ _ _ _ _ hv;refine⟨r,E,?_,hK⟩;intro C S a next Q hW hu ai ad Z hn
  obtain⟨x,y,ac,hx,hy⟩:=hf S _ (Z f ag);rw[xX O.1] at ac;have ab:=Qpe c.args.toList (λx hx=>Z x (af x hx));unfold Oper.wp;have ah:(execOp a.eval o).run P S.w= .ok (.enter g (x++c.args.map a.eval++y)) S.w:=by
   simp only[execOp,ho,resolve,z,ac,Sem.run_bind];simp[Deferred.ofValue,invoke,Qhx O]
  rw[ah,Oper.upon_enter];refine hT C S _ _ hW hu ai ad ?_ ?_
  .simp only[rO,Xj];exact Qop _ _ _ _ (Qop _ _ _ _ hx ab) hy
  .intro v S' h1 h2 h3 h4;exact hn v S' h1 h2 h3 h4
 cases hf:Ay tm f<;>rw[hf] at hk<;>try exact hk.elim
 case im d=>
  cases d<;>try exact hk.elim
  rename_i g first capt
  refine aa g (first.map .im) (capt.map .im) hk ?_;intro S v hv;rw[hf] at hv;simp only[Ab,rd] at hv;obtain⟨a,b,h1,h2,h3⟩:=hv;exact⟨a,b,h1,(Js _ _).2 h2,(Js _ _).2 h3⟩
 case clo g first capt=>
  refine aa g first capt hk ?_
  intro S v hv;rw[hf] at hv;simpa only[Ab] using hv
def Uv{P:Program}{t:TypeId}{m:String}{f:FuncId}(h:XN P t m=some f)(n:Nat)(v:Value)(w:World):(method (n+1) t v m).run P w= .ok (f,v) w:=by
 unfold XN at h;split at h
 .cases h
 .rename_i u z hu;unfold fJ at h;split at h
  .rename_i i hi;split at h
   .rename_i mm hm;cases hp:mm.path.isEmpty with
    |false=>rw[hp] at h;cases h
    |true=>
     rw[hp,IJ] at h;split at h
     .rename_i g hg;obtain rfl:=AJ h;have O:mm.path.toList=[]:=by simpa using hp
      have Z:(typeInfo t).run P w= .ok i w:=by simp[typeInfo,hi]
      have aa:(underlying t).run P w= .ok u w:=by simp[underlying,hu]
      have Q:(receiverAt t (.val v) false (if mm.path.isEmpty then some ((m.splitOn ".").getLastD m) else none)).run P w= .ok v w:=by
       unfold receiverAt;rw[Sem.run_bind,aa];cases u<;>first|rfl|exact (z _ rfl).elim
      unfold method;simp only[Sem.run_bind,Z,Result.andThen_ok,hm,O,follow,Sem.run_pure,hg,Q]
     .cases h
   .cases h
  .cases h
 .cases h
def yR{P:Program}{V:DK}(hV:Ls P V):IE P V:=by
 refine⟨λtm h nx o c f K ho z _ O=>YY hV tm h nx o c f K ho z O,?_⟩;intro tm h nx o c rc m K ho z hnm O;have af:rc∈o.op.operands:=by rw[ho];simp[Op.operands,Call.operands,z]
 have ad: ∀x∈c.args.toList,x∈o.op.operands:=by
  intro x hx;rw[ho];simp only[Op.operands,Call.operands,z];simp;exact .inr (by simpa using hx)
 cases hr:Ay tm rc<;>rw[hr] at O<;>try exact O.elim
 rename_i d;cases d<;>try exact O.elim
 rename_i t d;simp only[Oc] at O;cases hm:XN P t m with
 |none=>rw[hm] at O;exact O.elim
 |some g=>
 rw[hm] at O;simp only[XO] at O;obtain⟨ab,r,E,hT,hK⟩:=hV _ _ _ _ _ O;refine⟨r,E,?_,hK⟩;intro C S a next Q hW hu ah ac Z hn
 have h1:=Z rc af;rw[hr] at h1;simp only[Ab,rd] at h1;obtain⟨x,hx,ai⟩:=h1;have aa:=Qpe c.args.toList (λx hx=>Z x (ad x hx));unfold Oper.wp;have ag:(execOp a.eval o).run P S.w= .ok (.enter g (#[x]++c.args.map a.eval)) S.w:=by
  simp only[execOp,ho,resolve,z,hx,Sem.run_bind];simp[invoke,callMethod];have e0:(#[Value.iface t x]++Array.map a.eval c.args)[0]? =some (.iface t x):=by rw[Zei auSi];rfl
  obtain⟨n,hn1⟩: ∃n,P.types.size+Made.depth=n+1:=⟨P.types.size+99,by simp[Made.depth]⟩;have e1:(Array.map a.eval c.args).extract 0 c.args.size=Array.map a.eval c.args:=by
   have:=Array.extract_size (xs:=Array.map a.eval c.args)
   rwa [Array.size_map] at this
  rw[e0];simp only[Sem.run_bind,run_program,Result.andThen_ok,hn1,Uv hm,e1];exact Qhx ab _ _
 rw[ag,Oper.upon_enter];refine hT C S _ _ hW hu ah ac ?_ ?_
 .simp only[rO,Xj];exact⟨x,_,rfl,ai,aa⟩
 .intro v S' h1 h2 h3 h4;exact hn v S' h1 h2 h3 h4
mutual
def AV.ren(σ:Nat->Nat):AV->AV
 | .any=> .any
 | .im d=> .im d
 | .agg z=> .agg (AN σ z)
 | .tup z=> .tup (AN σ z)
 | .ptr o p=> .ptr (σ o) p
 | .eptr o i p=> .eptr (σ o) i p
 | .own o=> .own (σ o)
 | .mp o=> .mp (σ o)
 | .ch o=> .ch (σ o)
 | .it o=> .it (σ o)
 | .osl o a n=> .osl (σ o) a n
 | .clo f a c=> .clo f (AN σ a) (AN σ c)
def AN(σ:Nat->Nat):List AV->List AV
 |[]=>[]
 |x::r=>x.ren σ::AN σ r
end
def Qze(σ:Nat->Nat): ∀(l:List AV),AN σ l=l.map (AV.ren σ)
 |[]=>rfl
 |x::r=>by simp only[AN,Br,Qze σ r]
def Ad.ren(σ:Nat->Nat):Ad->Ad
 | .cells T z=> .cells T (AN σ z)
 | .arr T k rows=> .arr T k rows
 | .arrA T k rows=> .arrA T k (rows.map (AN σ))
 | .map Q O=> .map Q O
 | .chan q cap=> .chan q cap
 | .iter a l=> .iter a l
 | .view z=> .view z
def Qr6(σ:Nat->Nat)(e:Ad):(e.ren σ).esz=e.esz:=by cases e<;>rfl
def Qs6(σ:Nat->Nat)(e:Ad):(e.ren σ).len=e.len:=by cases e<;>simp[Ad.ren,Ad.len]
section
variable {S S':AD}{σ τ:Nat->Nat}
structure Pe(S S':AD)(σ τ:Nat->Nat)(n:Nat):Prop where
 a: ∀e',S'.h (τ n)=some e'-> ∃e,S.h (σ n)=some e/\S'.ρ (τ n)=S.ρ (σ n)/\e'.2.esz=e.2.esz/\e'.2.len=e.2.len
mutual
def Qz8(aa: ∀b,S.ok b->S'.ok b/\S'.hp b=S.hp b): ∀(z:AV) (v:Value),(∀n∈z.nms,Pe S S' σ τ n)->Ab S (z.ren σ) v->Ab S' (z.ren τ) v
 | .any,_,_,_=>by simp only[AV.ren,Ab]
 | .im d,v,_,h=>by
   simp only[AV.ren,Ab] at h⊢;exact HK aa d v h
 | .agg cs,v,Q,h=>by
   simp only[AV.ren,Ab,AV.nms] at h Q⊢;obtain⟨vs,rfl,h1⟩:=h;exact⟨vs,rfl,jD aa cs _ Q h1⟩
 | .tup cs,v,Q,h=>by
   simp only[AV.ren,Ab,AV.nms] at h Q⊢;obtain⟨vs,rfl,h1⟩:=h;exact⟨vs,rfl,jD aa cs _ Q h1⟩
 | .ptr o off,v,Q,h=>by
   simp only[AV.ren,Ab,AV.nms,Am,rN] at h Q⊢;obtain⟨O,h⟩:=h;refine⟨O,?_⟩;intro e' Z;obtain⟨e,he,hr,_,_⟩:=Q.a e' Z;rw[hr];exact h e he
 | .eptr o i off,v,Q,h=>by
   simp only[AV.ren,Ab,AV.nms,Am,rN] at h Q⊢;obtain⟨O,h⟩:=h;refine⟨O,?_⟩;intro e' Z;obtain⟨e,he,hr,hz,_⟩:=Q.a e' Z;rw[hr,hz];exact h e he
 | .own o,v,Q,h=>by
   simp only[AV.ren,Ab,AV.nms,Am,rN] at h Q⊢;obtain⟨O,h⟩:=h;refine⟨O,?_⟩;intro e' Z;obtain⟨e,he,hr,_,hl⟩:=Q.a e' Z;rw[hr,hl];exact h e he
 | .mp o,v,Q,h=>by
   simp only[AV.ren,Ab,AV.nms,Am,rN] at h Q⊢;obtain⟨O,h⟩:=h;refine⟨O,?_⟩;intro e' Z;obtain⟨e,he,hr,_,_⟩:=Q.a e' Z;rw[hr];exact h e he
 | .ch o,v,Q,h=>by
   simp only[AV.ren,Ab,AV.nms,Am,rN] at h Q⊢;obtain⟨O,h⟩:=h;refine⟨O,?_⟩;intro e' Z;obtain⟨e,he,hr,_,_⟩:=Q.a e' Z;rw[hr];exact h e he
 | .it o,v,Q,h=>by
   simp only[AV.ren,Ab,AV.nms,Am,rN] at h Q⊢;obtain⟨O,h⟩:=h;refine⟨O,?_⟩;intro e' Z;obtain⟨e,he,hr,_,_⟩:=Q.a e' Z;rw[hr];exact h e he
 | .osl o a n,v,Q,h=>by
   simp only[AV.ren,Ab,AV.nms,Am,rN] at h Q⊢;obtain⟨O,h⟩:=h;refine⟨O,?_⟩;intro e' Z;obtain⟨e,he,hr,hz,hl⟩:=Q.a e' Z;rw[hr,hz,hl];exact h e he
 | .clo f fi ca,v,Q,h=>by
   simp only[AV.ren,Ab,AV.nms,BO] at h Q⊢;obtain⟨a,c,rfl,h1,h2⟩:=h;exact⟨a,c,rfl,jD aa fi _ (λo ho=>Q o (.inl ho)) h1,jD aa ca _ (λo ho=>Q o (.inr ho)) h2⟩
def jD(z: ∀b,S.ok b->S'.ok b/\S'.hp b=S.hp b): ∀(Z:List AV) (vs:LVa),(∀n∈Av Z,Pe S S' σ τ n)->AX S (AN σ Z) vs->AX S' (AN τ Z) vs
 |[],_,_,h=>by simpa only[AN,AX] using h
 |x::xs,vs,Q,h=>by
  simp only[AN,AX,Av,BO] at h Q⊢;obtain⟨v,r,rfl,h1,h2⟩:=h;exact⟨v,r,rfl,Qz8 z x v (λo O=>Q o (.inl O)) h1,jD z xs r (λo O=>Q o (.inr O)) h2⟩
end
def Qt9(z: ∀b,S.ok b->S'.ok b/\S'.hp b=S.hp b): ∀(Z:List AV) (vs:LVa),(∀n∈Av Z,Pe S S' σ τ n)->CO S (AN σ Z) vs->CO S' (AN τ Z) vs
 |[],_,_,h=>by simp only[AN,CO]
 |x::xs,vs,Q,h=>by
  simp only[AN,CO,Av,BO] at h Q⊢;obtain⟨v,r,rfl,h1,h2⟩:=h;exact⟨v,r,rfl,Qz8 z x v (λo O=>Q o (.inl O)) h1,Qt9 z xs r (λo O=>Q o (.inr O)) h2⟩
def Qsc(σ:Nat->Nat)(l:List AV):(AN σ l).length=l.length:=by rw[Qze];simp
def Qva(z: ∀b,S.ok b->S'.ok b/\S'.hp b=S.hp b)(k:Nat): ∀(O:List (List AV)) (vs:LVa),(∀n∈BI O,Pe S S' σ τ n)->BQ S k (O.map (AN σ)) vs->BQ S' k (O.map (AN τ)) vs
 |[],_,_,h=>by simp only[Gl,BQ]
 |r::O,vs,Z,h=>by
  simp only[Br,BQ,BI,BO,Qsc] at h Z⊢;exact⟨h.1,Qt9 z r vs (λo Q=>Z o (.inl Q)) h.2.1,Qva z k O _ (λo Q=>Z o (.inr Q)) h.2.2⟩
def Qzw(O: ∀b,S.ok b->S'.ok b/\S'.hp b=S.hp b){l:Option GI}(hl: ∀z,l=some z->S'.hp z.b=S.hp z.b): ∀(e:Ad),(∀n∈e.nms,Pe S S' σ τ n)->Au S l (e.ren σ)->Au S' l (e.ren τ)
 | .cells T cs,hx,h=>by
   simp only[Ad.ren,Au,Ad.nms] at h hx⊢;obtain⟨z,vs,Q,h2,h3,h4⟩:=h;exact⟨z,vs,Q,h2,(hl z Q).trans h3,jD O cs _ hx h4⟩
 | .arr T k rows,hx,h=>by
   simp only[Ad.ren,Au] at h⊢;refine⟨h.1,?_⟩;cases l with
   |none=>exact h.2
   |some z=>
    obtain⟨h0,Q,vs,h2,h3,h4⟩:=h;exact⟨Q,vs,(hl z rfl).trans h2,h3,dD O k rows _ h4⟩
 | .arrA T k rows,hx,h=>by
   simp only[Ad.ren,Au,Ad.nms,Dy] at h hx⊢;refine⟨h.1,?_⟩;cases l with
   |none=>
    have:=h.2
    simp only[rG] at this⊢;exact this
   |some z=>
    obtain⟨h0,Q,vs,h2,h3,h4⟩:=h;exact⟨Q,vs,(hl z rfl).trans h2,h3,Qva O k rows _ hx h4⟩
 | .map kt es,_,h=>by
   simp only[Ad.ren,Au] at h⊢;obtain⟨z,aa,Z,Q,h0,h2,h3,h4⟩:=h;exact⟨z,aa,Z,Q,h0,(hl z Q).trans h2,Mj O es _ h3,h4⟩
 | .chan q cap,_,h=>by
   simp only[Ad.ren,Au] at h⊢;obtain⟨z,ag,af,ac,Q,h2,h3⟩:=h;exact⟨z,ag,af,ac,Q,(hl z Q).trans h2,Ml O q _ h3⟩
 | .iter ab left,_,h=>by
   simp only[Ad.ren,Au] at h⊢;obtain⟨z,mb,aa,Z,ad,Q,h2,h0,h3,h4,h5,h6,h7⟩:=h;exact⟨z,mb,aa,Z,ad,Q,(O mb h2).1,Qly O ab h0,(O mb h2).2.trans h3,(hl z Q).trans h4,h5,h6,Mj O left _ h7⟩
 | .view cs,_,h=>by
   simp only[Ad.ren,Au] at h⊢;obtain⟨z,vs,T,fr,Q,h2,h3⟩:=h;exact⟨z,vs,T,fr,Q,(hl z Q).trans h2,WQ O cs _ h3⟩
mutual
def nR: ∀(z:AV),z.ren (λn=>n)=z
 | .any=>rfl
 | .im _=>rfl
 | .agg O=>by simp only[AV.ren,dK O]
 | .tup O=>by simp only[AV.ren,dK O]
 | .ptr _ _=>rfl
 | .eptr _ _ _=>rfl
 | .own _=>rfl
 | .mp _=>rfl
 | .ch _=>rfl
 | .it _=>rfl
 | .osl _ _ _=>rfl
 | .clo f a c=>by simp only[AV.ren,dK a,dK c]
def dK: ∀(z:List AV),AN (λn=>n) z=z
 |[]=>rfl
 |x::r=>by simp only[AN,nR x,dK r]
end
def Qwc(e:Ad):e.ren (λn=>n)=e:=by
 cases e<;>simp only[Ad.ren,dK];rename_i T k rows
 have:(AN λn=>n)=(id:List AV->List AV):=funext dK
 rw[this];simp
end
def Aw{α β:Type}(f:α->Option β):List α->Option (List β)
 |[]=>some []
 |x::r=>match f x,Aw f r with
  |some y,some z=>some (y::z)
  |_,_=>none
def Ra(f:AV->Option D):Option Ap->Option D
 |some (_,.arr _ k rows)=>some (.sl false k rows)
 |some (_,.arrA _ k rows)=>(Aw (Aw f) rows).map (.sl false k)
 |_=>none
def Y5:Option Ap->Option D
 |some (_,.map O z)=>some (.mp O z)
 |_=>none
def Y1(f:AV->Option D):Option Ap->Option D
 |some (_,.cells _ z)=>(Aw f z).map .ref
 |_=>none
def mM(z:List AV):Option (List D)->AV
 |some ds=> .im (.tup ds)
 |none=> .tup z
def mL(g:FuncId)(a c:List AV):Option (List D)->Option (List D)->AV
 |some ds,some z=> .im (.fn g ds z)
 |some _,none=> .clo g a c
 |none,_=> .clo g a c
def JW(g:FuncId):Option (List AV)->Option (List AV)->Option AV
 |some a,some c=>some (mL g a c (Ea a) (Ea c))
 |_,_=>none
def kp(x:Nat->AV)(d:Option D):Option Nat->Option AV
 |some j=>some (x j)
 |none=>d.map .im
def Fg:Option AV->Option D
 |some x=>x.asD
 |none=>none
def Bs(h:HpT)(kx:Nat->Option Nat):Nat->AV->Option AV
 |0,_=>none
 |_+1,.im d=>some (.im d)
 |_+1,.any=>some .any
 |n+1,.agg O=>(Aw (Bs h kx n) O).map λz=>ZO z (Ea z)
 |n+1,.tup O=>(Aw (Bs h kx n) O).map λz=>mM z (Ea z)
 |n+1,.own o=>kp .own (Ra (λx=>Fg (Bs h kx n x)) (h o)) (kx o)
 |_+1,.mp o=>kp .mp (Y5 (h o)) (kx o)
 |n+1,.ptr o 0=>kp (λj=> .ptr j 0) (Y1 (λx=>Fg (Bs h kx n x)) (h o)) (kx o)
 |_+1,.ptr o (p+1)=>kp (λj=> .ptr j (p+1)) none (kx o)
 |_+1,.eptr o i p=>kp (λj=> .eptr j i p) none (kx o)
 |_+1,.ch o=>kp .ch none (kx o)
 |_+1,.it o=>kp .it none (kx o)
 |_+1,.osl o a n=>kp (λj=> .osl j a n) none (kx o)
 |n+1,.clo g a c=>JW g (Aw (Bs h kx n) a) (Aw (Bs h kx n) c)
section
variable {S:AD}{f:AV->Option D}
def qH(hf: ∀x d v,f x=some d->Ab S x v->rd S.ok S.hp d v): ∀(cs:List AV) (ds:List D) (vs:LVa),Aw f cs=some ds->AX S cs vs->rdl S.ok S.hp ds vs
 |[],ds,vs,h,z=>by
  simp only[Aw,AS] at h;subst h;simp only[AX] at z;simp only[rdl];exact z
 |x::cs,ds,vs,h,z=>by
  simp only[Aw] at h;simp only[AX] at z;obtain⟨v,r,rfl,Q,Z⟩:=z;split at h
  .rename_i y ys hy O;obtain rfl:=AJ h;simp only[rdl];exact⟨v,r,rfl,hf x y v hy Q,qH hf cs ys r O Z⟩
  .cases h
def Ur(hf: ∀x d v,f x=some d->Ab S x v->rd S.ok S.hp d v): ∀(cs:List AV) (ds:List D) (vs:LVa),Aw f cs=some ds->CO S cs vs->rdp S.ok S.hp ds vs
 |[],ds,vs,h,z=>by
  simp only[Aw,AS] at h;subst h;simp only[rdp]
 |x::cs,ds,vs,h,z=>by
  simp only[Aw] at h;simp only[CO] at z;obtain⟨v,r,rfl,Q,Z⟩:=z;split at h
  .rename_i y ys hy O;obtain rfl:=AJ h;simp only[rdp];exact⟨v,r,rfl,hf x y v hy Q,Ur hf cs ys r O Z⟩
  .cases h
def jJ{α β:Type}{g:α->Option β}: ∀(cs:List α) (ds:List β),Aw g cs=some ds->ds.length=cs.length
 |[],ds,h=>by simp only[Aw,AS] at h;subst h;rfl
 |x::cs,ds,h=>by
  simp only[Aw] at h;split at h
  .rename_i y O Q z;obtain rfl:=AJ h;simp[jJ cs O z]
  .cases h
def Ut(hf: ∀x d v,f x=some d->Ab S x v->rd S.ok S.hp d v){k:Nat}: ∀(Z:List (List AV)) (ds:List (List D)) (vs:LVa),Aw (Aw f) Z=some ds->BQ S k Z vs->rdr S.ok S.hp k ds vs
 |[],ds,vs,h,z=>by
  simp only[Aw,AS] at h;subst h;simp only[rdr]
 |x::cs,ds,vs,h,z=>by
  simp only[Aw] at h;simp only[BQ] at z;split at h
  .rename_i y ys Q O;obtain rfl:=AJ h;simp only[rdr];exact⟨by rw[jJ x y Q];exact z.1,Ur hf x y vs Q z.2.1,Ut hf cs ys _ O z.2.2⟩
  .cases h
def Qv8{o:Nat}{e:Ap}{k:Nat}{rows:List (List D)}{v:Value}(he:S.h o=some e)(hl:e.2.len=rows.length)(Z: ∀l,S.ρ o=some l->S.ok l.b)
 (z:match S.ρ o with|none=>rows=[]|some lc=>rows.length<=KN/\rows.length<=lc.cap/\ ∃Q T,S.hp lc.b=some (.cells Q T (0,0))/\rdr S.ok S.hp k rows (Q.toList.drop lc.p))(O:Ab S (.own o) v):rd S.ok S.hp (.sl false k rows) v:=by
 simp only[Ab] at O;have O:=O.2 e he;simp only[rd];cases hr:S.ρ o with
 |none=>rw[hr] at O z;exact .inl ⟨.inl O,z⟩
 |some l=>
  rw[hr] at O z;obtain⟨h0,h1,Q,T,h2,h3⟩:=z;exact .inr ⟨l.b,l.p,l.cap,Q,T,(0,0),by rw[<-hl];exact O,auSi,h1,h0,Z l hr,h2,h3⟩
end
def MS{C:Bn}{S:AD}(hW:Wf C S){f:AV->Option D}(hf: ∀x d v,f x=some d->Ab S x v->rd S.ok S.hp d v){o:Nat}{d:D}{v:Value}(Q: ∀e l,S.h o=some e->e.2.isView=false->S.ρ o=some l->S.ok l.b)
 (h:Ra f (S.h o)=some d)(hc:Ab S (.own o) v):rd S.ok S.hp d v:=by
 cases ho:S.h o with
 |none=>rw[ho] at h;simp[Ra] at h
 |some e=>
  rw[ho] at h;obtain⟨mu,e⟩:=e;have z:=hW.obj o _ ho;cases e<;>simp only[Ra,reduceCtorEq] at h
  .obtain rfl:=AJ h;simp only[Au] at z;refine Qv8 ho rfl (λl hl=>Q _ l ho rfl hl) ?_ hc;cases hr:S.ρ o with
   |none=>rw[hr] at z;exact z.2
   |some l=>
    rw[hr] at z;obtain⟨h0,Z,vs,h2,_,h3⟩:=z;exact⟨h0,Z,vs,_,h2,h3⟩
  .simp only[Dx] at h;obtain⟨rows,Z,rfl⟩:=h;have O:=jJ _ _ Z;simp only[Au] at z;refine Qv8 ho (by simp[Ad.len,O]) (λl hl=>Q _ l ho rfl hl) ?_ hc;cases hr:S.ρ o with
   |none=>rw[hr] at z;rw[z.2] at O;exact Rk.1 (by simpa using O)
   |some l=>
    rw[hr] at z;obtain⟨h0,h2,vs,h3,_,h4⟩:=z;exact⟨auOm,auOm,vs,_,h3,Ut hf _ _ _ Z h4⟩
def TA{C:Bn}{S:AD}(hW:Wf C S){o:Nat}{d:D}{v:Value}(Z: ∀e l,S.h o=some e->e.2.isView=false->S.ρ o=some l->S.ok l.b)
 (h:Y5 (S.h o)=some d)(hc:Ab S (.mp o) v):rd S.ok S.hp d v:=by
 cases ho:S.h o with
 |none=>rw[ho] at h;simp[Y5] at h
 |some e=>
  rw[ho] at h;obtain⟨mu,e⟩:=e;have Q:=hW.obj o _ ho;cases e<;>simp only[Y5,reduceCtorEq] at h;obtain rfl:=AJ h;simp only[Au] at Q;obtain⟨lc,O,z,h1,h2,h3,h4⟩:=Q;simp only[Ab] at hc;obtain⟨l,hl,hv⟩:=hc.2 _ ho;rw[h1] at hl;obtain rfl:=AJ hl;simp only[rd];exact⟨lc.b,O,z,hv,h2,Z _ lc ho rfl h1,h3,h4⟩
def Zv{C:Bn}{S:AD}(hW:Wf C S){f:AV->Option D}(hf: ∀x d v,f x=some d->Ab S x v->rd S.ok S.hp d v){o:Nat}{d:D}{v:Value}(O: ∀e l,S.h o=some e->e.2.isView=false->S.ρ o=some l->S.ok l.b)
 (h:Y1 f (S.h o)=some d)(hc:Ab S (.ptr o 0) v):rd S.ok S.hp d v:=by
 cases ho:S.h o with
 |none=>rw[ho] at h;simp[Y1] at h
 |some e=>
  rw[ho] at h;obtain⟨mu,e⟩:=e;have z:=hW.obj o _ ho;cases e<;>simp only[Y1,reduceCtorEq] at h;simp only[Dx] at h;obtain⟨ds,h1,rfl⟩:=h;simp only[Au] at z;obtain⟨Q,vs,Z,h3,h4,h5⟩:=z;simp only[Ab] at hc;obtain⟨l,hl,hv⟩:=hc.2 _ ho;rw[Z] at hl;obtain rfl:=AJ hl;simp only[rd];refine⟨Q.b,Q.p+0,vs,_,_,hv,O _ Q ho rfl Z,h4,?_⟩;rw[h3];simpa using Yv _ _ (qH hf _ _ _ h1 h5)
def xG{g:AV->Option AV}: ∀(cs Q:List AV) (ds:List D),Aw g cs=some Q->Ea Q=some ds->Aw (λx=>Fg (g x)) cs=some ds
 |[],Q,ds,h,O=>by
  simp only[Aw,AS] at h;subst h;simpa[Ea,Aw] using O
 |x::cs,Q,ds,h,O=>by
  simp only[Aw] at h;split at h
  .rename_i z zs hz Z;obtain rfl:=AJ h;simp only[Ea] at O;cases hy:z.asD with
   |none=>rw[hy] at O;simp[Pb] at O
   |some d=>
    cases hys:Ea zs with
    |none=>rw[hy,hys] at O;simp[Pb] at O
    |some es=>
     rw[hy,hys] at O;simp only[Pb,AS] at O;subst O;have h9:=xG cs zs es Z hys;have h8:Fg (g x)=some d:=by rw[hz];exact hy
     simp only[Aw,h8,h9]
  .cases h
def Ps{x:Option AV}{d:D}(h:Fg x=some d):x=some (.im d):=by
 cases x with
 |none=>cases h
 |some x=>
  simp only[Fg] at h;cases x<;>simp only[AV.asD,reduceCtorEq] at h;obtain rfl:=AJ h;rfl
def dX{x:Nat->AV}{d:Option D}{k:Option Nat}{e:D}(Q: ∀j,x j≠ .im e)(h:kp x d k=some (.im e)):k=none/\d=some e:=by
 cases k with
 |some j=>
  simp only[kp,AS] at h;exact absurd h (Q j)
 |none=>
  simp only[kp,Dx] at h;obtain⟨d',z,O⟩:=h;cases O;exact⟨rfl,z⟩
def Ta{C:Bn}{S:AD}(hW:Wf C S){kx:Nat->Option Nat}(Z: ∀o e l,kx o=none->S.h o=some e->e.2.isView=false->S.ρ o=some l->S.ok l.b):
 ∀(n:Nat) (x:AV) (d:D) (v:Value),Bs S.h kx n x=some (.im d)->Ab S x v->rd S.ok S.hp d v:=by
 intro n;induction n with
 |zero=>intro x d v h;simp[Bs] at h
 |succ n ih=>
  have hf: ∀x d v,Fg (Bs S.h kx n x)=some d->Ab S x v->rd S.ok S.hp d v:=λx d v h Q=>ih x d v (Ps h) Q
  intro x d v h Q;cases x with
  |im d'=>
   simp only[Bs,AS,AV.im.injEq] at h;subst h;simpa only[Ab] using Q
  |any=>simp[Bs] at h
  |agg cs=>
   simp only[Bs,Dx] at h;obtain⟨ys,O,z⟩:=h;simp only[Ab] at Q;obtain⟨vs,rfl,h3⟩:=Q;cases ha:Ea ys with
   |none=>rw[ha] at z;simp[ZO] at z
   |some ds=>
    rw[ha] at z;simp only[ZO,AV.im.injEq] at z;subst z;simp only[rd];exact⟨vs,rfl,qH hf cs ds _ (xG cs ys ds O ha) h3⟩
  |tup cs=>
   simp only[Bs,Dx] at h;obtain⟨ys,O,z⟩:=h;simp only[Ab] at Q;obtain⟨vs,rfl,h3⟩:=Q;cases ha:Ea ys with
   |none=>rw[ha] at z;simp[mM] at z
   |some ds=>
    rw[ha] at z;simp only[mM,AV.im.injEq] at z;subst z;simp only[rd];exact⟨vs,rfl,qH hf cs ds _ (xG cs ys ds O ha) h3⟩
  |own o=>
   simp only[Bs] at h;obtain⟨O,z⟩:=dX auSi h;exact MS hW hf (λe l=>Z o e l O) z Q
  |mp o=>
   simp only[Bs] at h;obtain⟨O,z⟩:=dX auSi h;exact TA hW (λe l=>Z o e l O) z Q
  |ptr o p=>
   cases p with
   |zero=>
    simp only[Bs] at h;obtain⟨O,z⟩:=dX auSi h;exact Zv hW hf (λe l=>Z o e l O) z Q
   |succ p=>
    simp only[Bs] at h;obtain⟨O,z⟩:=dX auSi h;cases z
  |eptr o i p=>
   simp only[Bs] at h;obtain⟨O,z⟩:=dX auSi h;cases z
  |ch o=>
   simp only[Bs] at h;obtain⟨O,z⟩:=dX auSi h;cases z
  |it o=>
   simp only[Bs] at h;obtain⟨O,z⟩:=dX auSi h;cases z
  |osl o a k=>
   simp only[Bs] at h;obtain⟨O,z⟩:=dX auSi h;cases z
  |clo g a c=>
   simp only[Bs] at h;cases ha:Aw (Bs S.h kx n) a with
   |none=>rw[ha] at h;simp[JW] at h
   |some a'=>
    cases hcc:Aw (Bs S.h kx n) c with
    |none=>rw[ha,hcc] at h;simp[JW] at h
    |some c'=>
     rw[ha,hcc] at h;simp only[JW,AS] at h;cases O:Ea a' with
     |none=>rw[O] at h;simp[mL] at h
     |some ds=>
      cases z:Ea c' with
      |none=>rw[O,z] at h;simp[mL] at h
      |some es=>
       rw[O,z] at h;simp only[mL,AV.im.injEq] at h;subst h;simp only[Ab] at Q;obtain⟨va,vc,rfl,h3,h4⟩:=Q;simp only[rd];exact⟨va,vc,rfl,qH hf a ds _ (xG a a' ds ha O) h3,qH hf c es _ (xG c c' es hcc z) h4⟩
def Qrr{C:Bn}{S S':AD}(hW:Wf C S){kx:Nat->Option Nat}{τ:Nat->Nat}(ac: ∀b,S.ok b->S'.ok b/\S'.hp b=S.hp b)(ab: ∀o e l,kx o=none->S.h o=some e->e.2.isView=false->S.ρ o=some l->S.ok l.b)
 (Z: ∀o j,kx o=some j-> ∀e',S'.h (τ j)=some e'-> ∃e,S.h o=some e/\S'.ρ (τ j)=S.ρ o/\e'.2.esz=e.2.esz/\e'.2.len=e.2.len):
 ∀(n:Nat) (x y:AV) (v:Value),Bs S.h kx n x=some y->Ab S x v->Ab S' (y.ren τ) v:=by
 intro n;induction n with
 |zero=>intro x y v h;simp[Bs] at h
 |succ n ih=>
  have hm: ∀(cs ys:List AV) (vs:LVa),Aw (Bs S.h kx n) cs=some ys->AX S cs vs->AX S' (AN τ ys) vs:=by
   intro cs;induction cs with
   |nil=>
    intro ys vs h O;simp only[Aw,AS] at h;subst h;simpa only[AN,AX] using O
   |cons x cs af=>
    intro ys vs h O;simp only[Aw] at h;simp only[AX] at O;obtain⟨v,r,rfl,h1,h2⟩:=O;split at h
    .rename_i z zs hz ad;obtain rfl:=AJ h;simp only[AN,AX];exact⟨v,r,rfl,ih x z v hz h1,af zs r ad h2⟩
    .cases h
  intro x y v h O;have hB: ∀d,y= .im d->Ab S' (y.ren τ) v:=by
   intro d hd;subst hd;simp only[AV.ren,Ab];exact HK ac d v (Ta hW ab (n+1) x d v h O)
  have hK: ∀(f:Nat->AV) (g:Option D) (o:Nat),kp f g (kx o)=some y->(∀j,kx o=some j->Ab S' ((f j).ren τ) v)->Ab S' (y.ren τ) v:=by
   intro f g o h1 h2;cases hk:kx o with
   |none=>
    rw[hk] at h1;simp only[kp,Dx] at h1;obtain⟨d,_,rfl⟩:=h1;exact hB d rfl
   |some j=>
    rw[hk] at h1;simp only[kp,AS] at h1;rw[<-h1];exact h2 j hk
  cases x with
  |im d=>
   simp only[Bs,AS] at h;exact hB d h.symm
  |any=>
   simp only[Bs,AS] at h;subst h;simp only[AV.ren,Ab]
  |agg cs=>
   have h0:=h;simp only[Bs,Dx] at h0;obtain⟨ys,h1,h2⟩:=h0;cases ha:Ea ys with
   |some ds=>rw[ha] at h2;exact hB _ h2.symm
   |none=>
    rw[ha] at h2;simp only[Ab] at O;obtain⟨vs,rfl,h3⟩:=O;rw[<-h2];simp only[ZO,AV.ren,Ab];exact⟨vs,rfl,hm cs ys _ h1 h3⟩
  |tup cs=>
   have h0:=h;simp only[Bs,Dx] at h0;obtain⟨ys,h1,h2⟩:=h0;cases ha:Ea ys with
   |some ds=>rw[ha] at h2;exact hB _ h2.symm
   |none=>
    rw[ha] at h2;simp only[Ab] at O;obtain⟨vs,rfl,h3⟩:=O;rw[<-h2];simp only[mM,AV.ren,Ab];exact⟨vs,rfl,hm cs ys _ h1 h3⟩
  |own o=>
   have h0:=h;simp only[Bs] at h0;refine hK _ _ o h0 ?_;intro j hj;simp only[Ab,AV.ren] at O⊢;refine⟨O.1,?_⟩;intro e' Q;obtain⟨e,he,hr,_,hl⟩:=Z o j hj e' Q;rw[hr,hl];exact O.2 e he
  |mp o=>
   have h0:=h;simp only[Bs] at h0;refine hK _ _ o h0 ?_;intro j hj;simp only[Ab,AV.ren] at O⊢;refine⟨O.1,?_⟩;intro e' Q;obtain⟨e,he,hr,_,hl⟩:=Z o j hj e' Q;rw[hr];exact O.2 e he
  |ptr o p=>
   have hp: ∀j,kx o=some j->Ab S' ((AV.ptr j p).ren τ) v:=by
    intro j hj;simp only[Ab,AV.ren] at O⊢;refine⟨O.1,?_⟩;intro e' Q;obtain⟨e,he,hr,_,hl⟩:=Z o j hj e' Q;rw[hr];exact O.2 e he
   cases p with
   |zero=>
    have h0:=h;simp only[Bs] at h0;exact hK _ _ o h0 hp
   |succ p=>
    have h0:=h;simp only[Bs] at h0;exact hK _ _ o h0 hp
  |eptr o i p=>
   have h0:=h;simp only[Bs] at h0;refine hK _ _ o h0 ?_;intro j hj;simp only[Ab,AV.ren] at O⊢;refine⟨O.1,?_⟩;intro e' Q;obtain⟨e,he,hr,hz,hl⟩:=Z o j hj e' Q;rw[hr,hz];exact O.2 e he
  |ch o=>
   have h0:=h;simp only[Bs] at h0;refine hK _ _ o h0 ?_;intro j hj;simp only[Ab,AV.ren] at O⊢;refine⟨O.1,?_⟩;intro e' Q;obtain⟨e,he,hr,_,hl⟩:=Z o j hj e' Q;rw[hr];exact O.2 e he
  |it o=>
   have h0:=h;simp only[Bs] at h0;refine hK _ _ o h0 ?_;intro j hj;simp only[Ab,AV.ren] at O⊢;refine⟨O.1,?_⟩;intro e' Q;obtain⟨e,he,hr,_,hl⟩:=Z o j hj e' Q;rw[hr];exact O.2 e he
  |osl o a k=>
   have h0:=h;simp only[Bs] at h0;refine hK _ _ o h0 ?_;intro j hj;simp only[Ab,AV.ren] at O⊢;refine⟨O.1,?_⟩;intro e' Q;obtain⟨e,he,hr,hz,hl⟩:=Z o j hj e' Q;rw[hr,hz,hl];exact O.2 e he
  |clo g a c=>
   have h0:=h;simp only[Bs] at h0;cases ha:Aw (Bs S.h kx n) a with
   |none=>rw[ha] at h0;simp[JW] at h0
   |some a'=>
    cases hcc:Aw (Bs S.h kx n) c with
    |none=>rw[ha,hcc] at h0;simp[JW] at h0
    |some c'=>
     rw[ha,hcc] at h0;simp only[JW,AS] at h0;have aa:y= .clo g a' c'->Ab S' (y.ren τ) v:=by
      intro hy;subst hy;simp only[Ab] at O;obtain⟨va,vc,rfl,h3,h4⟩:=O;simp only[AV.ren,Ab];exact⟨va,vc,rfl,hm a a' _ ha h3,hm c c' _ hcc h4⟩
     cases h1:Ea a' with
     |none=>rw[h1] at h0;exact aa (by rw[<-h0];rfl)
     |some ds=>
      cases h2:Ea c' with
      |none=>rw[h1,h2] at h0;exact aa (by rw[<-h0];rfl)
      |some es=>rw[h1,h2] at h0;exact hB _ h0.symm
def MC(ti:TI):Option Ap->Option AV
 |some (_,.cells _ z)=>bif (ti.agg||ti.size==1) && z.length==ti.size then some (mN ti.agg z) else none
 |_=>none
def JI(h:An)(x:AV):Option TI->Option AV
 |none=>none
 |some ti=>match x with
  | .ptr o 0=>MC ti (hget h o)
  |_=>none
def Lo(P:Program)(s:Az):ResultVar->Option AV
 | .tmp t=>some (AF s.tm t)
 | .cell a T=>JI s.h (AF s.tm a) (tI P T)
def DB:List AV->AV
 |[x]=>x
 |xs=> .tup xs
def SQ{P:Program}{C:Bn}{N:Nat}{s:Az}{S:AD}{a:Act}(hc:Dt C N s S a){x:ResultVar}{r:AV}(z:Lo P s x=some r):
 ∃v,(match x with| .tmp t=>pure (a.tmps.getD t undef)| .cell c t=>do loadVar t (<-asAddr (a.tmps.getD c undef)):Sem Value).run P S.w= .ok v S.w/\Ab S r v:=by
 cases x with
 |tmp t=>
  simp only[Lo,AS] at z;subst z;exact⟨a.eval (.tmp t),by simp[Act.eval],hc.tm t⟩
 |cell c T=>
  simp only[Lo] at z;cases hT:tI P T with
  |none=>rw[hT] at z;simp[JI] at z
  |some ti=>
   rw[hT] at z;simp only[JI] at z;split at z
   .rename_i o ho;cases he:hget s.h o with
    |none=>rw[he] at z;simp[MC] at z
    |some e=>
     rw[he] at z;obtain⟨mu,e⟩:=e;cases e<;>simp only[MC,reduceCtorEq] at z;rename_i U cs;cases hb:(ti.agg||ti.size==1) && cs.length==ti.size<;>rw[hb] at z
     .simp at z
     .simp only[IJ,AS] at z;subst z;simp only[B1,IK,YI] at hb;have hS:S.h o=_:=(hc.h o).trans he;have ab:=hc.wf.obj o _ hS;simp only[Au] at ab;obtain⟨lc,vs,hl,ad,ac,Q⟩:=ab;have h1:=hc.tm c;rw[ho] at h1;simp only[Ab] at h1;obtain⟨l,Z,hv⟩:=h1.2 _ hS;rw[hl] at Z;obtain rfl:=AJ Z;have O:=Jz _ _ Q;have aa:=jC hT (w:=S.w) (b:=lc.b) (p:=0) ac (by simp at O⊢;omega) hb.1;have af:a.tmps.getD c undef= .pointer (some ⟨lc.b,0,none⟩):=by simpa[Act.eval,ad] using hv
      rw[Mv,BE (by rw[O,hb.2];exact BN _)] at aa;refine⟨if ti.agg then .agg vs.toList.toArray else vs.toList.headD undef,?_,wZ Q hb.2 hb.1⟩;simp only[af,asAddr,Sem.run_bind,Sem.run_pure,Result.andThen_ok];exact aa
   .cases z
def wA{P:Program}{C:Bn}{N:Nat}{s:Az}{S:AD}{a:Act}(hc:Dt C N s S a){fn:Func}{xs:List AV}(hx:Aw (Lo P s) fn.results.toList=some xs):
 ∃v,(results fn a.tmps).run P S.w= .ok v S.w/\Ab S (DB xs) v:=by
 have ab: ∀(Q:List ResultVar) (xs:List AV),Aw (Lo P s) Q=some xs-> ∃z:LVa,(Q.mapM λx=>(match x with
  | .tmp t=>pure (a.tmps.getD t undef)| .cell c t=>do loadVar t (<-asAddr (a.tmps.getD c undef)):Sem Value)).run P S.w= .ok z S.w/\AX S xs z:=by
  intro Q;induction Q with
  |nil=>
   intro xs h;simp only[Aw,AS] at h;subst h;exact⟨[],auSi,by simp only[AX]⟩
  |cons x Q ih=>
   intro xs h;simp only[Aw] at h;split at h
   .rename_i y ys hy aa;obtain rfl:=AJ h;obtain⟨v,Z,O⟩:=SQ hc hy;obtain⟨z,h3,h4⟩:=ih ys aa;refine⟨v::z,?_,by simp only[AX];exact⟨v,z,rfl,O,h4⟩⟩;simp only[List.mapM_cons,Sem.run_bind,Z,h3,Result.andThen_ok,Sem.run_pure]
   .cases h
 obtain⟨z,Z,O⟩:=ab _ _ hx;have hl:=Jz _ _ O;have hm:(results fn a.tmps).run P S.w= .ok (if h:z.toArray.size=1 then z.toArray[0] else .tuple z.toArray) S.w:=by
  unfold results;rw[Zes]
  have: ∀(m:Sem (LVa)),m.run P S.w= .ok z S.w->((Functor.map List.toArray m)>>=λz=>(pure (if h:z.size=1 then z[0] else .tuple z):Sem Value)).run P S.w= .ok (if h:z.toArray.size=1 then z.toArray[0] else .tuple z.toArray) S.w:=by
   intro m hm;rw[Sem.run_bind]
   have:(Functor.map List.toArray m).run P S.w= .ok z.toArray S.w:=by
    rw[map_eq_pure_bind,Sem.run_bind,hm];rfl
   rw[this];rfl
  exact this _ Z
 refine⟨_,hm,?_⟩;cases xs with
 |nil=>
  simp only[AX] at O;subst O;simp only[DB,Ab];exact⟨#[],auSi,by simp[AX]⟩
 |cons x xs=>
  cases xs with
  |nil=>
   simp only[AX] at O;obtain⟨v,r,rfl,h3,rfl⟩:=O;simpa[DB] using h3
  |cons y xs=>
   have: ¬z.toArray.size=1:=by simp only[Zew];simp at hl;omega
   rw[dif_neg this];simp only[DB,Ab];exact⟨_,rfl,O⟩
def entry:Nat->List AV->TmT
 |_,[]=>[]
 |i,x::r=>(i,x)::entry (i+1) r
def pD{S:AD}: ∀(args:List AV) (vs:LVa) (i t:Nat),AX S args vs->Ab S (AF (entry i args) t) (if i<=t then (vs[t - i]?).getD undef else undef)
 |[],vs,i,t,_=>by simp[entry,AF,Ab]
 |x::args,vs,i,t,h=>by
  simp only[AX] at h;obtain⟨v,r,rfl,O,Q⟩:=h;simp only[entry,AF];cases hq:i==t
  .have Z:i≠t:=by simpa using hq
   have:=pD args r (i+1) t Q
   simp only[Dw];by_cases z:i+1<=t
   .rw[Bt z] at this;rw[Bt auOm];have e:t - i=(t - (i+1))+1:=auOm;rw[e];simpa using this
   .rw[Be z] at this;rw[Be auOm];exact this
  .have:i=t:=by simpa using hq
   subst this;simpa using O
def pL: ∀(args:List AV) (i t:Nat),∀m∈(AF (entry i args) t).nms,m∈Av args
 |[],i,t,m,h=>by simp[entry,AF,AV.nms] at h
 |x::args,i,t,m,h=>by
  simp only[entry,AF] at h;simp only[Av,BO];cases hq:i==t<;>rw[hq] at h
  .exact .inr (pL args (i+1) t m (by simpa using h))
  .exact .inl (by simpa using h)
def Z6:List Nat->Nat->Nat->Option Nat
 |[],_,_=>none
 |x::r,o,k=>bif x==o then some k else Z6 r o (k+1)
def IS(k:Nat)(z:List Nat)(o:Nat):Option Nat:=bif Nat.blt o k then some o else Z6 z o k
def Cd(f:AV->Option AV):Ad->Option Ad
 | .cells T z=>(Aw f z).map (.cells T)
 | .arr T k rows=>some (.arr T k rows)
 | .arrA T k rows=>(Aw (Aw f) rows).map (.arrA T k)
 | .map Q O=>some (.map Q O)
 | .chan q cap=>some (.chan q cap)
 | .iter a l=>some (.iter a l)
 | .view z=>some (.view z)
def JJ(j:Nat)(z:Bool):Option Ad->Option An->Option An
 |some e,some r=>some ((j,(z,e))::r)
 |some _,none=>none
 |none,_=>none
def klE(f:AV->Option AV)(j:Nat)(r:Option An):Option Ap->Option An
 |none=>r
 |some (z,e)=>JJ j z (Cd f e) r
def Ka(h:HpT)(f:AV->Option AV):List Nat->Option An
 |[]=>some []
 |j::r=>klE f j (Ka h f r) (h j)
def exE(f:AV->Option AV)(j:Nat)(r:Option An):Option Ap->Option An
 |none=>none
 |some (false,_)=>none
 |some (true,e)=>JJ j true (Cd f e) r
def JZ(h:HpT)(f:AV->Option AV):List Nat->Nat->Option An
 |[],_=>some []
 |x::r,j=>exE f j (JZ h f r (j+1)) (h x)
def SA:Option An->Option An->Option An
 |some a,some b=>some (a++b)
 |some _,none=>none
 |none,_=>none
def aV(h:HpT)(z:List Nat):An->Prop
 |[]=>True
 |(j,e)::r=>(bif z.contains j then True else h j=some e)/\aV h z r
def Zq(k:Nat):List Nat->Bool
 |[]=>true
 |x::r=>Nat.ble k x && (!r.contains x && Zq k r)
abbrev Lv:=AV->An->Nat->Prop
def Kh(R:Lv)(cnt:Nat):Option AV->Option An->Prop
 |some r,some H=>R r H cnt
 |some _,none=>False
 |none,_=>False
def fP(k:Nat)(O:List Nat)(H0:An)(R:Lv)(s:Az)(z:List Nat)(x:AV):Prop:=
 Zq k z=true/\aV (hget s.h) O H0/\Kh R z.length (Bs (hget s.h) (IS k z) 9 x) (SA (Ka (hget s.h) (Bs (hget s.h) (IS k z) 9) O) (JZ (hget s.h) (Bs (hget s.h) (IS k z) 9) z k))
def NS(k:Nat)(O:List Nat)(z:Az->AV->List Nat)(H0:An)(R:Lv)(s:Az):Option (List AV)->Prop
 |some xs=>fP k O H0 R s (z s (DB xs)) (DB xs)
 |none=>False
def Vz(P:Program)(Q:List ResultVar)(k:Nat)(O:List Nat)(z:Az->AV->List Nat)(H0:An)(R:Lv)(s:Az):Prop:=NS k O z H0 R s (Aw (Lo P s) Q)
def Qj(P:Program)(Q:List ResultVar)(k:Nat)(O:List Nat)(z:Az->AV->List Nat)(H0:An)(R:Lv):CI
 | .normal,s=>Vz P Q k O z H0 R s
 | .ret,s=>Vz P Q k O z H0 R s
 | .exit _,_=>False
def LB(_:Az)(_:AV):List Nat:=[]
def geK(k:Nat):List Nat->List Nat
 |[]=>[]
 |x::r=>bif Nat.ble k x then x::geK k r else geK k r
def exRes(k:Nat)(_:Az)(x:AV):List Nat:=geK k x.nms
def CU(r r':AV):Prop:= ∀(σ:Nat->Nat) (S:AD) (v:Value),Ab S (r.ren σ) v->Ab S (r'.ren σ) v
def sL(e e':Ap):Prop:=e.1=e'.1/\e.2.esz=e'.2.esz/\e.2.len=e'.2.len/\e.2.isView=e'.2.isView/\ ∀(σ:Nat->Nat) (S:AD) (l:Option GI),Au S l (e.2.ren σ)->Au S l (e'.2.ren σ)
def gA:An->An->Prop
 |[],[]=>True
 |(j,e)::r,(j',e')::r'=>j=j'/\sL e e'/\gA r r'
 |[],_::_=>False
 |_::_,[]=>False
def CU.refl(r:AV):CU r r:=λ_ _ _ h=>h
def sL.refl(e:Ap):sL e e:=⟨rfl,rfl,rfl,rfl,λ_ _ _ h=>h⟩
def gA.refl: ∀(H:An),gA H H
 |[]=>trivial
 |(_,e)::r=>⟨rfl,sL.refl e,gA.refl r⟩
def gA.get: ∀{H H':An},gA H H'-> ∀n,(hget H' n=none/\hget H n=none)\/ ∃e e',hget H n=some e/\hget H' n=some e'/\sL e e'
 |[],[],_,n=> .inl ⟨rfl,rfl⟩
 |(j,e)::r,(j',e')::r',h,n=>by
  obtain⟨rfl,z,O⟩:=h;simp only[hget];cases hq:j==n
  .simpa using gA.get O n
  .exact .inr ⟨e,e',auSi,auSi,z⟩
def sg(os:List Nat)(nx j:Nat):Nat:=match os[j]? with
 |some o=>o
 |none=>nx+(j - os.length)
def AW(σ:Nat->Nat):An->An
 |[]=>[]
 |(j,(z,e))::r=>(σ j,(z,e.ren σ))::AW σ r
def qZ{σ:Nat->Nat}: ∀{H:An} {n:Nat} {e':Ap},hget (AW σ H) n=some e'-> ∃j e,(j,e)∈H/\σ j=n/\e'=(e.1,e.2.ren σ)
 |[],n,e',h=>by simp[AW,hget] at h
 |(j,(Z,e))::r,n,e',h=>by
  simp only[AW,hget] at h;cases hq:σ j==n<;>rw[hq] at h
  .obtain⟨j',x,z,O,Q⟩:=qZ (H:=r) (by simpa using h);exact⟨j',x,by simp[z],O,Q⟩
  .simp only[IJ,AS] at h;exact⟨j,(Z,e),auSi,by simpa using hq,h.symm⟩
def uG{σ:Nat->Nat}(hσ: ∀i j,σ i=σ j->i=j): ∀(H:An) (j:Nat),hget (AW σ H) (σ j)=(hget H j).map λe=>(e.1,e.2.ren σ)
 |[],j=>rfl
 |(i,(Z,e))::r,j=>by
  simp only[AW,hget];by_cases z:i=j
  .subst z;simp
  .have O:(i==j)=false:=by simpa using z
   have Q:(σ i==σ j)=false:=by rw[FX];exact λh=>z (hσ _ _ h)
   rw[O,Q];simpa using uG hσ r j
def jM: ∀{H:An} {n:Nat} {e:Ap},hget H n=some e->(n,e)∈H
 |[],n,e,h=>by simp[hget] at h
 |(i,x)::r,n,e,h=>by
  simp only[hget] at h;cases hq:i==n<;>rw[hq] at h
  .exact Ah _ (jM (by simpa using h))
  .have:i=n:=by simpa using hq
   subst this;simp only[IJ,AS] at h;subst h;simp
def Qti{C:Bn}{S S':AD}(hW:Wf C S){kx:Nat->Option Nat}{τ:Nat->Nat}(Z: ∀b,S.ok b->S'.ok b/\S'.hp b=S.hp b)(ah: ∀o e l,kx o=none->S.h o=some e->e.2.isView=false->S.ρ o=some l->S.ok l.b)
 (ag: ∀o j,kx o=some j-> ∀e',S'.h (τ j)=some e'-> ∃e,S.h o=some e/\S'.ρ (τ j)=S.ρ o/\e'.2.esz=e.2.esz/\e'.2.len=e.2.len)
 {n:Nat}{e e':Ad}(h:Cd (Bs S.h kx n) e=some e'):(e'.esz=e.esz/\e'.len=e.len)/\ ∀l,(∀Q,l=some Q->S'.hp Q.b=S.hp Q.b)->Au S l e->Au S' l (e'.ren τ):=by
 have hm: ∀(cs ys:List AV) (vs:LVa),Aw (Bs S.h kx n) cs=some ys->AX S cs vs->AX S' (AN τ ys) vs:=by
  intro cs;induction cs with
  |nil=>
   intro ys vs h hc;simp only[Aw,AS] at h;subst h;simpa only[AN,AX] using hc
  |cons x cs ad=>
   intro ys vs h hc;simp only[Aw] at h;simp only[AX] at hc;obtain⟨v,r,rfl,O,h2⟩:=hc;split at h
   .rename_i z zs hz ac;obtain rfl:=AJ h;simp only[AN,AX];exact⟨v,r,rfl,Qrr hW Z ah ag n x z v hz O,ad zs r ac h2⟩
   .cases h
 have an: ∀(cs ys:List AV) (vs:LVa),Aw (Bs S.h kx n) cs=some ys->CO S cs vs->CO S' (AN τ ys) vs:=by
  intro cs;induction cs with
  |nil=>
   intro ys vs h hc;simp only[Aw,AS] at h;subst h;simp only[AN,CO]
  |cons x cs ad=>
   intro ys vs h hc;simp only[Aw] at h;simp only[CO] at hc;obtain⟨v,r,rfl,O,h2⟩:=hc;split at h
   .rename_i z zs hz ac;obtain rfl:=AJ h;simp only[AN,CO];exact⟨v,r,rfl,Qrr hW Z ah ag n x z v hz O,ad zs r ac h2⟩
   .cases h
 have ao: ∀(k:Nat) (rs ys:List (List AV)) (vs:LVa),Aw (Aw (Bs S.h kx n)) rs=some ys->BQ S k rs vs->BQ S' k (ys.map (AN τ)) vs:=by
  intro k rs;induction rs with
  |nil=>
   intro ys vs h hc;simp only[Aw,AS] at h;subst h;simp only[Gl,BQ]
  |cons x rs ad=>
   intro ys vs h hc;simp only[Aw] at h;simp only[BQ] at hc;split at h
   .rename_i z zs hz ac;obtain rfl:=AJ h;simp only[Br,BQ,Qsc];exact⟨(jJ _ _ hz).trans hc.1,an x z _ hz hc.2.1,ad zs _ ac hc.2.2⟩
   .cases h
 cases e<;>simp only[Cd] at h
 case view cs=>
  obtain rfl:=AJ h;refine⟨⟨rfl,rfl⟩,λl hl h=> ?_⟩;simp only[Ad.ren,Au] at h⊢;obtain⟨Q,vs,T,fr,O,h2,h3⟩:=h;exact⟨Q,vs,T,fr,O,(hl Q O).trans h2,WQ Z cs _ h3⟩
 case cells T cs=>
  simp only[Dx] at h;obtain⟨ys,O,rfl⟩:=h;refine⟨⟨rfl,rfl⟩,λl hl h=> ?_⟩;simp only[Ad.ren,Au] at h⊢;obtain⟨Q,vs,g1,g2,g3,g4⟩:=h;exact⟨Q,vs,g1,g2,(hl Q g1).trans g3,hm cs ys _ O g4⟩
 case arr T k rows=>
  obtain rfl:=AJ h;refine⟨⟨rfl,rfl⟩,λl hl h=> ?_⟩;simp only[Ad.ren,Au] at h⊢;refine⟨h.1,?_⟩;cases l with
  |none=>exact h.2
  |some Q=>
   obtain⟨h0,O,vs,h2,h3,h4⟩:=h;exact⟨O,vs,(hl Q rfl).trans h2,h3,dD Z k rows _ h4⟩
 case arrA T k rows=>
  simp only[Dx] at h;obtain⟨ys,O,rfl⟩:=h;have af:=jJ _ _ O;refine⟨⟨rfl,af⟩,λl hl h=> ?_⟩;simp only[Ad.ren,Au,Dy,af] at h⊢;refine⟨h.1,?_⟩;cases l with
  |none=>
   have:=h.2
   subst this;simp only[Aw,AS] at O;subst O;rfl
  |some Q=>
   obtain⟨h0,h2,vs,h3,h4,h5⟩:=h;exact⟨h2,vs,(hl Q rfl).trans h3,h4,ao k rows ys _ O h5⟩
 case map kt es=>
  obtain rfl:=AJ h;refine⟨⟨rfl,rfl⟩,λl hl h=> ?_⟩;simp only[Ad.ren,Au] at h⊢;obtain⟨Q,ab,aa,O,h0,h2,h3,h4⟩:=h;exact⟨Q,ab,aa,O,h0,(hl Q O).trans h2,Mj Z es _ h3,h4⟩
 case chan q cap=>
  obtain rfl:=AJ h;refine⟨⟨rfl,rfl⟩,λl hl h=> ?_⟩;simp only[Ad.ren,Au] at h⊢;obtain⟨Q,am,ak,ai,O,h2,h3⟩:=h;exact⟨Q,am,ak,ai,O,(hl Q O).trans h2,Ml Z q _ h3⟩
 case iter last left=>
  obtain rfl:=AJ h;refine⟨⟨rfl,rfl⟩,λl hl h=> ?_⟩;simp only[Ad.ren,Au] at h⊢;obtain⟨Q,mb,ab,aa,aj,O,h2,h0,h3,h4,h5,h6,h7⟩:=h;exact⟨Q,mb,ab,aa,aj,O,(Z mb h2).1,Qly Z last h0,(Z mb h2).2.trans h3,(hl Q O).trans h4,h5,h6,Mj Z left _ h7⟩
def P5{f:AV->Option AV}{e e':Ad}(h:Cd f e=some e'):e'.isView=e.isView:=by
 cases e<;>simp only[Cd,Dx,AS] at h
 .obtain⟨_,_,rfl⟩:=h;rfl
 .subst h;rfl
 .obtain⟨_,_,rfl⟩:=h;rfl
 all_goals subst h;rfl
def Le(d d':D):Prop:= ∀ok hp v,rd ok hp d v->rd ok hp d' v
def DC:List D->List D->Prop
 |[],[]=>True
 |d::r,d'::r'=>Le d d'/\DC r r'
 |[],_::_=>False
 |_::_,[]=>False
def Le.refl(d:D):Le d d:=λ_ _ _ h=>h
def DC.refl: ∀(ds:List D),DC ds ds
 |[]=>trivial
 |d::ds=>⟨Le.refl d,DC.refl ds⟩
def DC.len: ∀{a b:List D},DC a b->a.length=b.length
 |[],[],_=>rfl
 |_::_,_::_,h=>by simp[DC.len h.2]
def DC.rdl: ∀{a b:List D},DC a b-> ∀ok hp z,Ae.rdl ok hp a z->Ae.rdl ok hp b z
 |[],[],_,ok,hp,z,h=>h
 |_::_,_::_,O,ok,hp,z,h=>by
  simp only[Ae.rdl] at h⊢;obtain⟨v,r,rfl,Q,Z⟩:=h;exact⟨v,r,rfl,O.1 _ _ _ Q,DC.rdl O.2 _ _ _ Z⟩
def Ii:List D->List D->Prop
 |_,[]=>True
 |d::r,d'::r'=>Le d d'/\Ii r r'
 |[],_::_=>False
def Ii.rdp: ∀{a b:List D},Ii a b-> ∀ok hp z,Ae.rdp ok hp a z->Ae.rdp ok hp b z
 |_,[],_,ok,hp,z,h=>by simp only[Ae.rdp]
 |_::_,_::_,O,ok,hp,z,h=>by
  simp only[Ae.rdp] at h⊢;obtain⟨v,r,rfl,Q,Z⟩:=h;exact⟨v,r,rfl,O.1 _ _ _ Q,Ii.rdp O.2 _ _ _ Z⟩
 |[],_::_,h,_,_,_,_=>h.elim
def DC.leP: ∀{a b:List D},DC a b->Ii a b
 |[],[],_=>trivial
 |_::_,_::_,h=>⟨h.1,DC.leP h.2⟩
def Ii.refl(a:List D):Ii a a:=(DC.refl a).leP
def Ii.trans_take: ∀{n:Nat} {a b:List D},DC (a.take n) b->Ii a b
 |0,a,[],_=>by cases a<;>trivial
 |_+1,[],[],_=>trivial
 |n+1,x::a,y::b,h=>⟨h.1,Ii.trans_take (n:=n) h.2⟩
 |n+1,x::a,[],h=>h.elim
 |n+1,[],y::b,h=>h.elim
 |0,a,y::b,h=>by cases a<;>exact h.elim
def LI{a b:List D}(h:DC a b):Le (.agg a) (.agg b):=by
 intro ok hp v z;simp only[Ae.rd] at z⊢;obtain⟨Q,rfl,O⟩:=z;exact⟨Q,rfl,h.rdl _ _ _ O⟩
def LJ{a b:List D}(h:DC a b):Le (.tup a) (.tup b):=by
 intro ok hp v z;simp only[Ae.rd] at z⊢;obtain⟨Q,rfl,O⟩:=z;exact⟨Q,rfl,h.rdl _ _ _ O⟩
def Xw:List (List D)->List (List D)->Prop
 |[],[]=>True
 |r::O,r'::z=>DC r r'/\Xw O z
 |[],_::_=>False
 |_::_,[]=>False
def Xw.len: ∀{a b:List (List D)},Xw a b->a.length=b.length
 |[],[],_=>rfl
 |_::_,_::_,h=>by simp[Xw.len h.2]
def Xw.rdr: ∀{a b:List (List D)} {k k':Nat},Xw a b->(∀r∈b,r.length=k')-> ∀ok hp z,Ae.rdr ok hp k a z->Ae.rdr ok hp k' b z
 |[],[],_,_,_,_,ok,hp,z,h=>by simp only[Ae.rdr]
 |r::rs,r'::aa,k,k',O,Z,ok,hp,z,h=>by
  simp only[Ae.rdr] at h⊢;have h1:=O.1.len;have Q:=Z r' auSi
  have:k=k':=by rw[<-h.1,h1,Q]
  subst this;exact⟨Q,O.1.leP.rdp _ _ _ h.2.1,Xw.rdr O.2 (λx hx=>Z x (by simp[hx])) _ _ _ h.2.2⟩
def Fz{nz:Bool}{k k':Nat}{a b:List (List D)}(h:Xw a b)(hk: ∀r∈b,r.length=k'):Le (.sl nz k a) (.sl false k' b):=by
 intro ok hp v Q;simp only[Ae.rd] at Q⊢;rcases Q with ⟨z,O⟩|⟨Z,p,cap,vs,T,fr,z,O,h3,h4,h5,h6,h7⟩
 .subst O;cases b with
  |nil=>exact .inl ⟨Qt z,rfl⟩
  |cons _ _=>exact h.elim
 .exact .inr ⟨Z,p,cap,vs,T,fr,by rw[<-h.len];exact z,auSi,by rw[<-h.len];exact h3,by rw[<-h.len];exact h4,h5,h6,h.rdr hk _ _ _ h7⟩
def Xc{g:FuncId}{a b:List D}(h:DC a b):Le (.fn g [] a) (.fn g [] b):=by
 intro ok hp v z;simp only[Ae.rd] at z⊢;obtain⟨x,y,O,Q,Z⟩:=z;exact⟨x,y,O,Q,h.rdl _ _ _ Z⟩
def jS{a b:List D}(h:Ii a b):Le (.ref a) (.ref b):=by
 intro ok hp v z;simp only[Ae.rd] at z⊢;obtain⟨O,p,vs,T,Q,Z,h2,h3,h4⟩:=z;exact⟨O,p,vs,T,Q,Z,h2,h3,h.rdp _ _ _ h4⟩
def Ba{A:Type}(f:List D->Option A):List (List D)->Option (List A)
 |[]=>some []
 |r::z=>match f r,Ba f z with
  |some x,some xs=>some (x::xs)
  |_,_=>none
def Mh{A:Type}{f:List D->Option A}{e:A->List D}(h: ∀x,f (e x)=some x): ∀(l:List A),Ba f (l.map e)=some l
 |[]=>rfl
 |x::l=>by simp only[Br,Ba,h x,Mh h l]
def Fs{A:Type}{f:List D->Option A}{e:A->List D}(h: ∀ds x,f ds=some x->DC ds (e x)): ∀(rows:List (List D)) (l:List A),Ba f rows=some l->Xw rows (l.map e)
 |[],l,z=>by simp only[Ba,AS] at z;subst z;trivial
 |r::Z,l,z=>by
  simp only[Ba] at z;split at z
  .rename_i x xs Q O;obtain rfl:=AJ z;exact⟨h r x Q,Fs h Z xs O⟩
  .cases z
abbrev A8:=List AV->(HpT)->Nat->Al->Prop
def tab:List (Nat×A8)->DK
 |[],_,_,_,_,_=>False
 |p::r,g,args,h,nx,K=>if p.1=g then p.2 args h nx K else tab r g args h nx K
def Ij(P:Program)(g:Nat)(c:A8):Prop:= ∀args h nx K,c args h nx K->pY P g/\ ∃r E,Rz P g args h nx r E/\K r E
def X2{P:Program}: ∀(l:List (Nat×A8)),(∀p∈l,Ij P p.1 p.2)->Ls P (tab l)
 |[],_=>λ_ _ _ _ _ h=>h.elim
 |p::r,O=>by
  intro g args h nx K z;simp only[tab] at z;split at z
  .rename_i Q;subst Q;exact O p auSi args h nx K z
  .exact X2 r (λq hq=>O q (by simp[hq])) g args h nx K z
def Hu(P:Program)(g:Nat):Bool:=match P.funcs[g]? with
 |some fn=>Nat.blt g 1000000000 && (!(fn.name== "runtime.NumGoroutine") && !fn.body.isNone)
 |none=>false
def pR{P:Program}{g:Nat}(h:Hu P g=true):pY P g:=by
 unfold Hu at h;split at h
 .rename_i fn hf;simp only[B1,lB] at h;exact⟨by simpa using h.1,fn,hf,h.2.1,h.2.2⟩
 .cases h
inductive PK where
 |val (d:D)
 |ptr (cs:List D)
def D7:Nat->List PK->List AV
 |_,[]=>[]
 |j,.val d::r=> .im d::D7 j r
 |j,.ptr _::r=> .ptr j 0::D7 (j+1) r
def D6:Nat->List PK->An
 |_,[]=>[]
 |j,.val _::r=>D6 j r
 |j,.ptr z::r=>(j,(false,.view z))::D6 (j+1) r
def Cm:List PK->Nat
 |[]=>0
 | .val _::r=>Cm r
 | .ptr _::r=>Cm r+1
def Jr(S:AD):PK->Value->Prop
 | .val d,v=>rd S.ok S.hp d v
 | .ptr O,v=> ∃b p z T Q,v= .pointer (some ⟨b,p,none⟩)/\b<S.w.heap.size/\S.hp b=some (.cells z T Q)/\rdp S.ok S.hp O (z.toList.drop p)
def FQ(S:AD):List PK->LVa->Prop
 |[],z=>z=[]
 |p::O,z=> ∃v r,z=v::r/\Jr S p v/\FQ S O r
def CX:PK->PK->Prop
 | .val d,.val d'=>Le d d'
 | .ptr a,.ptr b=>Ii a b
 | .val _,.ptr _=>False
 | .ptr _,.val _=>False
def Cu:List PK->List PK->Prop
 |[],[]=>True
 |p::r,p'::r'=>CX p p'/\Cu r r'
 |[],_::_=>False
 |_::_,[]=>False
def CX.c{S:AD}{p p':PK}{v:Value}(h:CX p p')(z:Jr S p v):Jr S p' v:=by
 cases p<;>cases p'<;>simp only[CX] at h<;>simp only[Jr] at z⊢
 .exact h _ _ _ z
 .obtain⟨b,p,vs,T,O,Q,Z,h3,h4⟩:=z;exact⟨b,p,vs,T,O,Q,Z,h3,h.rdp _ _ _ h4⟩
def Cu.c{S:AD}: ∀{a b:List PK} {vs:LVa},Cu a b->FQ S a vs->FQ S b vs
 |[],[],_,_,h=>h
 |_::_,_::_,vs,z,h=>by
  simp only[FQ] at h⊢;obtain⟨v,r,rfl,O,Q⟩:=h;exact⟨v,r,rfl,z.1.c O,Cu.c z.2 Q⟩
def CX.refl(p:PK):CX p p:=by cases p;exact Le.refl _;exact Ii.refl _
def Cu.refl: ∀(a:List PK),Cu a a
 |[]=>trivial
 |p::a=>⟨CX.refl p,Cu.refl a⟩
def FQ.len{S:AD}: ∀{ps:List PK} {vs:LVa},FQ S ps vs->vs.length=ps.length
 |[],vs,h=>by simp only[FQ] at h;simp[h]
 |_::_,vs,h=>by
  simp only[FQ] at h;obtain⟨v,r,rfl,_,z⟩:=h;simp[FQ.len z]
def dA: ∀(j:Nat) (ps:List PK),(D7 j ps).length=ps.length
 |_,[]=>rfl
 |j,.val _::r=>by simp[D7,dA j r]
 |j,.ptr _::r=>by simp[D7,dA (j+1) r]
def Hs: ∀(j:Nat) (ps:List PK) (n:Nat) (e:Ap),hget (D6 j ps) n=some e->(j<=n/\n<j+Cm ps)/\ ∃z,e=(false,.view z)
 |_,[],n,e,h=>by simp[D6,hget] at h
 |j,.val _::r,n,e,h=>by simpa[D6,Cm] using Hs j r n e h
 |j,.ptr z::r,n,e,h=>by
  simp only[D6,hget] at h;simp only[Cm];cases hq:j==n<;>rw[hq] at h
  .obtain⟨Q,O⟩:=Hs (j+1) r n e (by simpa using h);exact⟨auOm,O⟩
  .have:j=n:=by simpa using hq
   simp only[IJ,AS] at h;exact⟨auOm,z,h.symm⟩
def wS: ∀(j:Nat) (ps:List PK) (n:Nat),j+Cm ps<=n-> ∀m∈Av (D7 j ps),m<n
 |_,[],n,_,m,hm=>by simp[D7,Av] at hm
 |j,.val _::r,n,h,m,hm=>by
  simp only[D7,Av,AV.nms,E5] at hm;exact wS j r n h m hm
 |j,.ptr _::r,n,h,m,hm=>by
  simp only[D7,Av,AV.nms,BO,Am] at hm;simp only[Cm] at h;rcases hm with rfl|hm
  .omega
  .exact wS (j+1) r n auOm m hm
def qG{S:AD}: ∀(ps:List PK) (vs:LVa) (j:Nat),FQ S ps vs-> ∃Z:Nat->Option GI,
 (∀n e,hget (D6 j ps) n=some e-> ∃l,Z n=some l/\l.b<S.w.heap.size/\Au S (some l) e.2)/\
 ∀(z:AD),z.ok=S.ok->z.w=S.w->(∀n,(∃e,hget (D6 j ps) n=some e)->z.ρ n=Z n/\z.h n=hget (D6 j ps) n)->AX z (D7 j ps) vs
 |[],vs,j,h=>by
  simp only[FQ] at h;exact⟨λ_=>none,λn e O=>by simp[D6,hget] at O,λz _ _ _=>by simp only[D7,AX];exact h⟩
 | .val d::ps,vs,j,h=>by
   simp only[FQ] at h;obtain⟨v,r,rfl,h1,h2⟩:=h;obtain⟨Z,h3,h4⟩:=qG ps r j h2;refine⟨Z,by simpa only[D6] using h3,?_⟩;intro z Q hw hS;simp only[D7,AX,Ab];refine⟨v,r,rfl,?_,h4 z Q hw (by simpa only[D6] using hS)⟩
   have:z.hp=S.hp:=by unfold AD.hp;rw[hw]
   rw[Q,this];exact h1
 | .ptr cs::ps,vs,j,h=>by
   simp only[FQ] at h;obtain⟨v,r,rfl,h1,h2⟩:=h;obtain⟨Z,h3,h4⟩:=qG ps r (j+1) h2;obtain⟨b,p,cells,T,fr,rfl,hb,hc,hr⟩:=h1;refine⟨λn=>if n=j then some ⟨b,p,0⟩ else Z n,?_,?_⟩
   .intro n e O;simp only[D6,hget] at O;cases hq:j==n<;>rw[hq] at O
    .have:n≠j:=λh'=>by subst h';simp at hq
     simp only[Be this];exact h3 n e (by simpa using O)
    .have:n=j:=(by simpa using hq:j=n).symm
     simp only[IJ,AS] at O;subst O;simp only[Bt this];refine⟨_,rfl,hb,?_⟩;simp only[Au];exact⟨_,cells,T,fr,rfl,hc,hr⟩
   .intro z Q hw hS;simp only[D7,AX,Ab];refine⟨_,r,rfl,⟨rfl,?_⟩,h4 z Q hw ?_⟩
    .intro e O;have hj:=hS j ⟨(false,.view cs),by simp only[D6,hget,K7,IJ]⟩;rw[hj.1];simp
    .rintro n ⟨e,O⟩;have hn:=(Hs (j+1) ps n e O).1;have aa:n≠j:=auOm;have hq:(j==n)=false:=by rw[FX];exact λh=>aa h.symm
     have:=hS n ⟨e,by simp only[D6,hget,hq,Dw];exact O⟩
     simp only[Be aa,D6,hget,hq,Dw] at this;exact this
def W4{P:Program}(HM:P.follows .mixedOrders=true){V:DK}(hV:Ls P V){g:FuncId}{fn:Func}{c:Code}(hf:P.funcs[g]? =some fn)(Q:fn.body=some c)(ai:EW fn.ntmps c=true)
 {ps:List PK}(a9:ps.length<=fn.ntmps){R:Lv}{r0:D}(hR: ∀r H n,R r H n-> ∃d,r= .im d/\Le d r0)
 (hk:DH P V c (Qj P fn.results.toList (Cm ps) [] LB (D6 0 ps) R) ⟨entry 0 (D7 0 ps),D6 0 ps,Cm ps⟩)
 {C:Bn}{S:AD}{vs:Array Value}{RR:Ending->World->Prop}(hW:Wf C S)(an:FQ S ps vs.toList)
 (ak: ∀v S',Wf C S'->S'.h=S.h->Ck (λ_=>True) S S'->rd S'.ok S'.hp r0 v->RR (.returned v) S'.w):Calls P g vs S.w RR:=by
 refine calls_of_wp hf Q ?_;have a8:vs.size=(D7 0 ps).length:=by rw[dA];simpa using an.len
 obtain⟨ls,am,hcl⟩:=qG ps vs.toList 0 an
 let S0:AD:=⟨ls,S.ok,hget (D6 0 ps),S.w⟩
 let C0:Bn:=⟨S.w,λ_=>False,S.ok,0,λ_=>none,λ_=>none,[]⟩
 have av:Wf C0 S0:=by
  refine⟨rfl,rfl,rfl,BN _,BN _,λ_ _ _=>rfl,λ_ Q=>Q,λ_ Q=> .inl Q,hW.oks,?_,?_,?_,hW.glN λ_ h=>h.elim⟩
  .intro n e z;obtain⟨l,O,_,h3⟩:=am n e z;have h4:S0.ρ n=some l:=O;rw[h4];obtain⟨_,cs,rfl⟩:=Hs 0 ps n e z;simp only[Au] at h3⊢;exact h3
  .intro n e l z hl;obtain⟨l',O,h2,h3⟩:=am n e z;have h4:S0.ρ n=some l':=O;rw[h4] at hl;obtain rfl:=AJ hl;obtain⟨_,cs,rfl⟩:=Hs 0 ps n e z;exact⟨h2,.inr rfl⟩
  .intro n n' e e' l l' z af hl bc bb ax;obtain⟨_,cs,rfl⟩:=Hs 0 ps n e z;obtain⟨_,ba,rfl⟩:=Hs 0 ps n' e' af;simp at ax
 have aw:Cg C0 fn.ntmps ⟨entry 0 (D7 0 ps),D6 0 ps,Cm ps⟩ {tmps:=vs++Array.replicate (fn.ntmps - vs.size) undef,defers:=[]} S.w:=by
  have ab:AX S0 (D7 0 ps) vs.toList:=hcl S0 rfl rfl (λn _=>⟨rfl,rfl⟩);refine⟨S0,rfl,av,λn=>rfl,?_,?_,?_,by simp;rw[dA] at a8;omega,rfl,Ir _,λo ho=>absurd ho (zN _)⟩
  .intro t;have O:=pD (S:=S0) (D7 0 ps) vs.toList 0 t ab;simp only[Ir,Ff,YE] at O
   have:({tmps:=vs++Array.replicate (fn.ntmps - vs.size) undef,defers:=[]}:Act).eval (.tmp t)=(vs.toList[t]?).getD undef:=by
    simp only[Act.eval,Ec,rK,YM];by_cases ht:t<vs.size
    .simp[ht]
    .simp only[ht,HS]
     have:vs[t]? =none:=eH auOm
     simp only[YK,this]
     split<;>rfl
   rw[this];exact O
  .intro t m hm;exact wS 0 ps (Cm ps) auOm m (pL (D7 0 ps) 0 t m hm)
  .intro n e z;obtain⟨O,cs,rfl⟩:=Hs 0 ps n e z;exact⟨by show n<Cm ps;omega,by simp[Ad.nms]⟩
 refine wp_mono (Qo4 HM (yR hV) c ai _ _ _ _ hk aw) ?_;have fin: ∀(s:Az) (a:Act) (w:World),Vz P fn.results.toList (Cm ps) [] LB (D6 0 ps) R s->Cg C0 fn.ntmps s a w->a.defers=[]/\ ∃v,(results fn a.tmps).run P w= .ok v w/\RR (.returned v) w:=by
  rintro s a w hr ⟨S1,rfl,hc⟩;unfold Vz at hr;cases hxs:Aw (Lo P s) fn.results.toList with
  |none=>rw[hxs] at hr;exact hr.elim
  |some xs=>
   rw[hxs] at hr;simp only[NS] at hr;obtain⟨v,ao,ad⟩:=wA hc hxs;refine⟨hc.defers,v,ao,?_⟩;obtain⟨_,_,aa⟩:=hr;have aq:hget s.h=S1.h:=(funext hc.h).symm;rw[aq] at aa
   let kx:=IS (Cm ps) (LB s (DB xs))
   have ah:Wf C0 (S1.ice λ_=>false):=WV hc.wf;have ag: ∀(f:AV->Option D) (o:Nat),Ra f ((S1.ice λ_=>false).h o)=Ra f (S1.h o)/\Y5 ((S1.ice λ_=>false).h o)=Y5 (S1.h o)/\Y1 f ((S1.ice λ_=>false).h o)=Y1 f (S1.h o):=by
    intro f o;rw[show (S1.ice λ_=>false).h o=(S1.h o).map λe=>(e.1 && false,e.2) from rfl];cases S1.h o with
    |none=>exact⟨rfl,rfl,rfl⟩
    |some e=>obtain⟨mu,e⟩:=e;cases e<;>exact⟨rfl,rfl,rfl⟩
   have aj: ∀(n:Nat),Bs (S1.ice λ_=>false).h kx n=Bs S1.h kx n:=by
    intro n;induction n with
    |zero=>funext x;simp[Bs]
    |succ n ih=>
     funext x;cases x with
     |own o=>simp only[Bs,ih,(ag _ o).1]
     |mp o=>simp only[Bs,(ag (λ_=>none) o).2.1]
     |ptr o p=>cases p<;>simp only[Bs,ih,(ag _ o).2.2]
     |_=>simp only[Bs,ih]
   cases hcv:Bs S1.h kx 9 (DB xs) with
   |none=>rw[hcv] at aa;exact aa.elim
   |some r=>
    rw[hcv] at aa;have ac: ∃H n,R r H n:=by
     simp only[LB,Ka,JZ,SA,Kh] at aa;exact⟨_,_,aa⟩
    obtain⟨H,n,ac⟩:=ac;obtain⟨d,rfl,ay⟩:=hR _ _ _ ac;have a0:=Ta ah (kx:=kx) (λo e l _ z hv hl=>qJ hc.wf rfl z hv hl) 9 (DB xs) d v (by rw[aj];exact hcv) (J0 (Ik S1 _) _ _ (λ_ _=>trivial) ad);have O:=ah;have Z: ∀b,b<S.w.heap.size->S1.w.heap[b]? =S.w.heap[b]? :=λb Q=>hc.wf.keep b Q (λh=>h)
    let S':AD:={S with ok:=(S1.ice λ_=>false).ok,w:=S1.w}
    have hp:Ck (λ_=>True) S S':=⟨λb Q=>⟨O.ok0 b Q,Z b (hW.oks b Q)⟩,λo _ e' af=>⟨e',af,rfl,rfl,rfl⟩⟩;have au:Wf C S':=by
     refine⟨O.os.trans hW.os,O.tape.trans hW.tape,O.output.trans hW.output,Gu hW.dr O.dr,Gu hW.size O.size,?_,λb Q=>O.ok0 b (hW.ok0 b Q),?_,O.oks,?_,?_,hW.inj,hW.gl⟩
     .intro b Q hM;exact (Z b (ET Q hW.size)).trans (hW.keep b Q hM)
     .intro b Q;rcases O.ok1 b Q with h|h|h
      .exact hW.ok1 b h
      .exact .inr (.inl (Gu hW.size h))
      .exact h.elim
     .intro o e z;exact Im hp (λlc hl=>Z lc.b (hW.loc o e lc z hl).1) _ (λ_ _=>trivial) (hW.obj o e z)
     .intro o e l z hl;obtain⟨h2,h3⟩:=hW.loc o e l z hl;refine⟨ET h2 O.size,?_⟩;cases hm:e.1 with
      |false=>
       rw[hm] at h3;simp only[BL,HS] at h3⊢;exact h3.imp (O.ok0 _) id
      |true=>
       rw[hm] at h3;simp only[Ff] at h3⊢;refine⟨λaz=> ?_,h3.2⟩;rcases O.ok1 _ az with h|h|h
       .exact h3.1 h
       .have h:S.w.heap.size<=l.b:=h;omega
       .exact h.elim
    exact ak v S' au rfl hp (ay _ _ _ a0)
 intro e a w z;cases e<;>simp only[H3] at z<;>simp only[bodyPost]
 .obtain⟨s,hs,hc⟩:=z;exact fin s a w hs hc
 .obtain⟨s,hs,_⟩:=z;exact hs.elim
 .obtain⟨s,hs,hc⟩:=z;exact fin s a w hs hc
def Rr(o:Nat):Option Ap->Option (D×An)
 |some (z,.arr T k rows)=>some (.sl false k rows,bif z then [(o,(false,.arr T k rows))] else [])
 |some (_,.cells _ _)=>none
 |some (_,.arrA _ _ _)=>none
 |some (_,.map _ _)=>none
 |some (_,.chan _ _)=>none
 |some (_,.iter _ _)=>none
 |some (_,.view _)=>none
 |none=>none
def Rq(o:Nat):Option Ap->Option (D×An)
 |some (Q,.map O z)=>some (.mp O z,bif Q then [(o,(false,.map O z))] else [])
 |some (_,.cells _ _)=>none
 |some (_,.arr _ _ _)=>none
 |some (_,.arrA _ _ _)=>none
 |some (_,.chan _ _)=>none
 |some (_,.iter _ _)=>none
 |some (_,.view _)=>none
 |none=>none
def rY(f:List D->D):Option (List D×An)->Option (D×An)
 |some (ds,F)=>some (f ds,F)
 |none=>none
mutual
def Fi(h:HpT):AV->Option (D×An)
 | .im d=>some (d,[])
 | .own o=>Rr o (h o)
 | .mp o=>Rq o (h o)
 | .agg z=>rY .agg (TG h z)
 | .tup z=>rY .tup (TG h z)
 | .any=>none
 | .ptr _ _=>none
 | .eptr _ _ _=>none
 | .ch _=>none
 | .it _=>none
 | .osl _ _ _=>none
 | .clo _ _ _=>none
def TG(h:HpT):List AV->Option (List D×An)
 |[]=>some ([],[])
 |x::r=>SV (Fi h x) (TG h r)
end
def fN:Option (D×An)->Option (PK×An)
 |some (d,F)=>some (.val d,F)
 |none=>none
def GH:D->PK
 | .ref z=> .ptr z
 | .int k n=> .val (.int k n)
 | .bool b=> .val (.bool b)
 | .str s=> .val (.str s)
 | .nilp=> .val .nilp
 | .nilf=> .val .nilf
 | .nili=> .val .nili
 | .nilc=> .val .nilc
 | .nilm=> .val .nilm
 | .agg z=> .val (.agg z)
 | .tup z=> .val (.tup z)
 | .sl Z k rows=> .val (.sl Z k rows)
 | .mp Q O=> .val (.mp Q O)
 | .fn f a b=> .val (.fn f a b)
 | .ifc t d=> .val (.ifc t d)
 | .gp g=> .val (.gp g)
 | .tok g=> .val (.tok g)
def pkC:Option (List D)->Option (PK×An)
 |some ds=>some (.ptr ds,[])
 |none=>none
def Ru(off:Nat):Option Ap->Option (PK×An)
 |some (_,.cells _ z)=>pkC (Ea (z.drop off))
 |some (_,.view z)=>some (.ptr (z.drop off),[])
 |some (_,.arr _ _ _)=>none
 |some (_,.arrA _ _ _)=>none
 |some (_,.map _ _)=>none
 |some (_,.chan _ _)=>none
 |some (_,.iter _ _)=>none
 |none=>none
def pkR(off:Nat):Option (List D)->Option (PK×An)
 |some r=>some (.ptr (r.drop off),[])
 |none=>none
def UZ(i off:Nat):Option Ap->Option (PK×An)
 |some (_,.arr _ _ rows)=>pkR off rows[i]?
 |some (_,.cells _ _)=>none
 |some (_,.view _)=>none
 |some (_,.arrA _ _ _)=>none
 |some (_,.map _ _)=>none
 |some (_,.chan _ _)=>none
 |some (_,.iter _ _)=>none
 |none=>none
def Jm(h:HpT):AV->Option (PK×An)
 | .im d=>some (GH d,[])
 | .ptr o off=>Ru off (h o)
 | .own o=>fN (Fi h (.own o))
 | .mp o=>fN (Fi h (.mp o))
 | .agg z=>fN (Fi h (.agg z))
 | .tup z=>fN (Fi h (.tup z))
 | .any=>none
 | .eptr o i off=>UZ i off (h o)
 | .ch _=>none
 | .it _=>none
 | .osl _ _ _=>none
 | .clo _ _ _=>none
def Y2:Option (PK×An)->Option (List PK×An)->Option (List PK×An)
 |some (p,F),some (z,G)=>some (p::z,F++G)
 |some _,none=>none
 |none,_=>none
def I1(h:HpT):List AV->Option (List PK×An)
 |[]=>some ([],[])
 |x::r=>Y2 (Jm h x) (I1 h r)
def DM{A:Type}(K:A->Prop):Option A->Prop
 |some a=>K a
 |none=>False
def PE(u:List Nat):An->BA
 |[]=>{use:=u}
 |e::r=>{use:=u,kill:=(e::r).map (·.1),new:=e::r}
def WI{A:Type}(ar:List PK->Option A)(pre:A->Prop)(re:A->D)(u:List Nat)(K:Al):Option (List PK×An)->Prop
 |some (z,F)=>DM (λa=>pre a/\K (.im (re a)) (PE u F)) (ar z)
 |none=>False
def Ei{A:Type}(ar:List PK->Option A)(pre:A->Prop)(re:A->D):A8:=λargs h _ K=>WI ar pre re (Av args) K (I1 h args)
def Hn(S:AD)(F:An):Prop:= ∀n e,(n,e)∈F-> ∃z,S.h n=some (z,e.2)/\e.1=false
def Hn.app{S:AD}{F G:An}(O:Hn S F)(Q:Hn S G):Hn S (F++G):=by
 intro n e z;rcases BO.1 z with z|z
 .exact O n e z
 .exact Q n e z
def XF(F:An)(X:Nat->Bool):Prop:= ∀n∈F.map (·.1),X n=false
def XF.app{F G:An}{X:Nat->Bool}(h:XF (F++G) X):XF F X/\XF G X:=by
 unfold XF at*;simp only[Dj,BO] at h;exact⟨λn hn=>h n (.inl hn),λn hn=>h n (.inr hn)⟩
section
variable {C:Bn}{S:AD}{h:HpT}
def TJ(hW:Wf C S){o:Nat}{d:D}{F:An}{v:Value}(hh:S.h o=h o)(hd:Rr o (h o)=some (d,F))(hc:Ab S (.own o) v):Hn S F/\ ∀X,XF F X->rd (S.ice X).ok (S.ice X).hp d v:=by
 cases ho:h o with
 |none=>rw[ho] at hd;simp[Rr] at hd
 |some e=>
  obtain⟨mu,e⟩:=e;rw[ho] at hd hh;cases e<;>simp only[Rr,reduceCtorEq] at hd;rename_i T k rows;simp only[AS,B6] at hd;obtain⟨rfl,rfl⟩:=hd;refine⟨?_,λX hX=> ?_⟩
  .cases mu with
   |false=>intro n e z;cases z
   |true=>
    intro n e z;simp only[IJ,Am,B6] at z;obtain⟨rfl,rfl⟩:=z;exact⟨true,hh,rfl⟩
  .have Q:Wf C (S.ice X):=WV hW;have aa:=J0 (Ik S X) _ _ (λ_ _=>trivial) hc;have z:(S.ice X).h o=some (mu && X o,.arr T k rows):=by
    show (S.h o).map _=_;rw[hh];rfl
   refine MS (f:=λ_=>none) Q (λx d v hx=>by cases hx) ?_ (by rw[z];rfl) aa;intro e' l O hv hl;cases mu with
   |true=>exact qJ hW (hX o auSi) O hv hl
   |false=>
    rw[z] at O;obtain rfl:=AJ O
    have:=(Q.loc o _ l z hl).2
    simp only[Da,BL,HS] at this;rcases this with Z|Z
    .exact Z
    .cases Z
def TH(hW:Wf C S){o:Nat}{d:D}{F:An}{v:Value}(hh:S.h o=h o)(hd:Rq o (h o)=some (d,F))(hc:Ab S (.mp o) v):Hn S F/\ ∀X,XF F X->rd (S.ice X).ok (S.ice X).hp d v:=by
 cases ho:h o with
 |none=>rw[ho] at hd;simp[Rq] at hd
 |some e=>
  obtain⟨mu,e⟩:=e;rw[ho] at hd hh;cases e<;>simp only[Rq,reduceCtorEq] at hd;rename_i kt es;simp only[AS,B6] at hd;obtain⟨rfl,rfl⟩:=hd;refine⟨?_,λX hX=> ?_⟩
  .cases mu with
   |false=>intro n e z;cases z
   |true=>
    intro n e z;simp only[IJ,Am,B6] at z;obtain⟨rfl,rfl⟩:=z;exact⟨true,hh,rfl⟩
  .have Q:Wf C (S.ice X):=WV hW;have aa:=J0 (Ik S X) _ _ (λ_ _=>trivial) hc;have z:(S.ice X).h o=some (mu && X o,.map kt es):=by
    show (S.h o).map _=_;rw[hh];rfl
   refine TA Q ?_ (by rw[z];rfl) aa;intro e' l O hv hl;cases mu with
   |true=>exact qJ hW (hX o auSi) O hv hl
   |false=>
    rw[z] at O;obtain rfl:=AJ O
    have:=(Q.loc o _ l z hl).2
    simp only[Da,BL,HS] at this;rcases this with Z|Z
    .exact Z
    .cases Z
mutual
def tG(hW:Wf C S): ∀(x:AV) (d:D) (F:An) (v:Value),(∀n∈x.nms,S.h n=h n)->Fi h x=some (d,F)->Ab S x v->Hn S F/\ ∀X,XF F X->rd (S.ice X).ok (S.ice X).hp d v
 | .im d',d,F,v,_,hd,z=>by
   simp only[Fi,AS,B6] at hd;obtain⟨rfl,rfl⟩:=hd;simp only[Ab] at z;exact⟨(λn e he=>by cases he),λX _=>HK (Ik S X).ok _ _ z⟩
 | .own o,d,F,v,O,hd,z=>by
   simp only[Fi] at hd;exact TJ hW (O o (by simp[AV.nms])) hd z
 | .mp o,d,F,v,O,hd,z=>by
   simp only[Fi] at hd;exact TH hW (O o (by simp[AV.nms])) hd z
 | .agg Q,d,F,v,O,hd,z=>by
   simp only[Fi] at hd;cases hl:TG h Q with
   |none=>rw[hl] at hd;cases hd
   |some q=>
    obtain⟨ds,G⟩:=q;rw[hl] at hd;simp only[rY,AS,B6] at hd;obtain⟨rfl,rfl⟩:=hd;simp only[Ab] at z;obtain⟨Z,rfl,h1⟩:=z;obtain⟨h2,h3⟩:=Qtb hW Q ds G Z.toList (by simpa only[AV.nms] using O) hl h1;exact⟨h2,λX hX=>by simp only[rd];exact⟨Z,rfl,h3 X hX⟩⟩
 | .tup Q,d,F,v,O,hd,z=>by
   simp only[Fi] at hd;cases hl:TG h Q with
   |none=>rw[hl] at hd;cases hd
   |some q=>
    obtain⟨ds,G⟩:=q;rw[hl] at hd;simp only[rY,AS,B6] at hd;obtain⟨rfl,rfl⟩:=hd;simp only[Ab] at z;obtain⟨Z,rfl,h1⟩:=z;obtain⟨h2,h3⟩:=Qtb hW Q ds G Z.toList (by simpa only[AV.nms] using O) hl h1;exact⟨h2,λX hX=>by simp only[rd];exact⟨Z,rfl,h3 X hX⟩⟩
 | .any,d,F,v,_,hd,_=>by simp[Fi] at hd
 | .ptr _ _,d,F,v,_,hd,_=>by simp[Fi] at hd
 | .eptr _ _ _,d,F,v,_,hd,_=>by simp[Fi] at hd
 | .ch _,d,F,v,_,hd,_=>by simp[Fi] at hd
 | .it _,d,F,v,_,hd,_=>by simp[Fi] at hd
 | .osl _ _ _,d,F,v,_,hd,_=>by simp[Fi] at hd
 | .clo _ _ _,d,F,v,_,hd,_=>by simp[Fi] at hd
def Qtb(hW:Wf C S): ∀(xs:List AV) (ds:List D) (F:An) (vs:LVa),(∀n∈Av xs,S.h n=h n)->TG h xs=some (ds,F)->AX S xs vs->Hn S F/\ ∀X,XF F X->rdl (S.ice X).ok (S.ice X).hp ds vs
 |[],ds,F,vs,_,hd,z=>by
  simp only[TG,AS,B6] at hd;obtain⟨rfl,rfl⟩:=hd;simp only[AX] at z;exact⟨(λn e he=>by cases he),λX _=>by simp only[rdl];exact z⟩
 |x::xs,ds,F,vs,Q,hd,z=>by
  simp only[Av,BO] at Q;simp only[TG] at hd;simp only[AX] at z;obtain⟨v,r,rfl,h1,h2⟩:=z;cases hx:Fi h x with
  |none=>rw[hx] at hd;simp[SV] at hd
  |some q=>
   obtain⟨d,E⟩:=q;cases hl:TG h xs with
   |none=>rw[hx,hl] at hd;simp[SV] at hd
   |some q2=>
    obtain⟨O,G⟩:=q2;rw[hx,hl] at hd;simp only[SV,AS,B6] at hd;obtain⟨rfl,rfl⟩:=hd;obtain⟨a1,a2⟩:=tG hW x d E v (λn hn=>Q n (.inl hn)) hx h1;obtain⟨b1,b2⟩:=Qtb hW xs O G r (λn hn=>Q n (.inr hn)) hl h2;refine⟨a1.app b1,λX hX=> ?_⟩;obtain⟨c1,Z⟩:=hX.app;simp only[rdl];exact⟨v,r,rfl,a2 X c1,b2 X Z⟩
end
def Qyv(hW:Wf C S){d:D}{v:Value}(hd:rd S.ok S.hp d v):Jr S (GH d) v:=by
 cases d<;>try exact hd
 rename_i cs;simp only[rd] at hd;obtain⟨b,p,vs,T,z,O,Q,Z,h4⟩:=hd;exact⟨b,p,vs,T,z,O,hW.oks b Q,Z,h4⟩
def gY{ok:Nat->Prop}{hp:Nat->Option Obj}{k:Nat}{r:List D}: ∀(rows:List (List D)) (vs:LVa) (i:Nat),rdr ok hp k rows vs->rows[i]? =some r->r.length=k/\rdp ok hp r (vs.drop (i*k))
 |[],_,i,_,h=>by simp at h
 |q::rows,vs,i,h,z=>by
  simp only[rdr] at h;cases i with
  |zero=>
   simp only[ES,AS] at z;subst z;simpa using ⟨h.1,h.2.1⟩
  |succ i=>
   obtain⟨g1,g2⟩:=gY rows (vs.drop k) i h.2.2 (by simpa using z);rw[FW] at g2;refine⟨g1,?_⟩;rw[lJ,YD (i*k) k];exact g2
def UX(hW:Wf C S){x:AV}{p:PK}{F:An}{v:Value}(hh: ∀n∈x.nms,S.h n=h n)(hp:Jm h x=some (p,F))(hc:Ab S x v):Hn S F/\ ∀X,XF F X->Jr (S.ice X) p v:=by
 have aa:fN (Fi h x)=some (p,F)->Hn S F/\ ∀X,XF F X->Jr (S.ice X) p v:=by
  intro hp;cases hx:Fi h x with
  |none=>rw[hx] at hp;cases hp
  |some q=>
   obtain⟨d,G⟩:=q;rw[hx] at hp;simp only[fN,AS,B6] at hp;obtain⟨rfl,rfl⟩:=hp;obtain⟨Z,h2⟩:=tG hW x d G v hh hx hc;exact⟨Z,h2⟩
 cases x<;>simp only[Jm,reduceCtorEq] at hp
 case eptr o i off=>
  have Q:=hh o (by simp[AV.nms]);cases hn:h o with
  |none=>rw[hn] at hp;simp[UZ] at hp
  |some e=>
   obtain⟨mu,e⟩:=e;rw[hn] at hp Q;have z:=hW.obj o _ Q;simp only[Ab] at hc;obtain⟨l,hl,hv⟩:=hc.2 _ Q;have O:=(hW.loc o _ l Q hl).1;cases e<;>simp only[UZ,reduceCtorEq] at hp;rename_i T k rows;cases hr:rows[i]? with
   |none=>rw[hr] at hp;cases hp
   |some r=>
    rw[hr] at hp;simp only[pkR,AS,B6] at hp;obtain⟨rfl,rfl⟩:=hp;refine⟨(λn e he=>by cases he),λX _=> ?_⟩;rw[hl] at z;simp only[Au] at z;obtain⟨_,_,vs,h5,_,h6⟩:=z;obtain⟨g1,g2⟩:=gY rows _ i h6 hr;simp only[Jr];refine⟨l.b,l.p+i*k+off,vs,_,_,hv,O,h5,?_⟩;have h7:=WQ (Ik S X).ok _ _ g2;rw[FW] at h7;rcases ZeP off r.length with h8|h8
    .have:=QY off r _ h7 h8
     rwa [FW] at this
    .rw[Bm h8];simp only[rdp]
 case im d=>
  simp only[AS,B6] at hp;obtain⟨rfl,rfl⟩:=hp;simp only[Ab] at hc;exact⟨(λn e he=>by cases he),λX _=>Qyv (WV hW) (HK (Ik S X).ok _ _ hc)⟩
 case ptr o off=>
  have Q:=hh o (by simp[AV.nms]);cases hn:h o with
  |none=>rw[hn] at hp;simp[Ru] at hp
  |some e=>
   obtain⟨mu,e⟩:=e;rw[hn] at hp Q;have z:=hW.obj o _ Q;simp only[Ab] at hc;obtain⟨l,hl,hv⟩:=hc.2 _ Q;have O:=(hW.loc o _ l Q hl).1;cases e<;>simp only[Ru,reduceCtorEq] at hp
   case cells T cs=>
    cases ha:Ea (cs.drop off) with
    |none=>rw[ha] at hp;cases hp
    |some ds=>
     rw[ha] at hp;simp only[pkC,AS,B6] at hp;obtain⟨rfl,rfl⟩:=hp;refine⟨(λn e he=>by cases he),λX _=> ?_⟩;simp only[Au] at z;obtain⟨lc,vs,Z,h2,h3,h4⟩:=z;rw[hl] at Z;obtain rfl:=AJ Z;simp only[Jr];refine⟨l.b,l.p+off,vs,_,_,hv,O,h3,?_⟩;rw[h2,Je];have h5:AX S (cs.drop off) (vs.toList.drop off):=by
      have: ∀(n:Nat) (a:List AV) (b:LVa),AX S a b->AX S (a.drop n) (b.drop n):=by
       intro n;induction n with
       |zero=>intro a b h;simpa using h
       |succ n ih=>
        intro a b h;cases a with
        |nil=>simp only[AX] at h;subst h;simp[AX]
        |cons x a=>
         simp only[AX] at h;obtain⟨v,r,rfl,_,h⟩:=h;simpa using ih a r h
      exact this off cs _ h4
     exact Qse ds _ (Ml (Ik S X).ok _ _ (Qov _ ds _ ha h5))
   case view cs=>
    simp only[AS,B6] at hp;obtain⟨rfl,rfl⟩:=hp;refine⟨(λn e he=>by cases he),λX _=> ?_⟩;simp only[Au] at z;obtain⟨lc,vs,T,fr,Z,h2,h3⟩:=z;rw[hl] at Z;obtain rfl:=AJ Z;simp only[Jr];refine⟨l.b,l.p+off,vs,T,fr,hv,O,h2,?_⟩;rw[<-FW]
    have: ∀(n:Nat) (a:List D) (b:LVa),rdp S.ok S.hp a b->rdp S.ok S.hp (a.drop n) (b.drop n):=by
     intro n;induction n with
     |zero=>intro a b h;simpa using h
     |succ n ih=>
      intro a b h;cases a with
      |nil=>simp[rdp]
      |cons x a=>
       simp only[rdp] at h;obtain⟨v,r,rfl,_,h⟩:=h;simpa using ih a r h
    exact WQ (Ik S X).ok _ _ (this off cs _ h3)
 all_goals exact aa hp
def tT(hW:Wf C S): ∀(xs:List AV) (ps:List PK) (F:An) (vs:LVa),(∀n∈Av xs,S.h n=h n)->I1 h xs=some (ps,F)->AX S xs vs->Hn S F/\ ∀X,XF F X->FQ (S.ice X) ps vs
 |[],ps,F,vs,_,hd,z=>by
  simp only[I1,AS,B6] at hd;obtain⟨rfl,rfl⟩:=hd;simp only[AX] at z;exact⟨(λn e he=>by cases he),λX _=>by simp only[FQ];exact z⟩
 |x::xs,ps,F,vs,O,hd,z=>by
  simp only[Av,BO] at O;simp only[I1] at hd;simp only[AX] at z;obtain⟨v,r,rfl,h1,h2⟩:=z;cases hx:Jm h x with
  |none=>rw[hx] at hd;simp[Y2] at hd
  |some q=>
   obtain⟨p,E⟩:=q;cases hl:I1 h xs with
   |none=>rw[hx,hl] at hd;simp[Y2] at hd
   |some q2=>
    obtain⟨Q,G⟩:=q2;rw[hx,hl] at hd;simp only[Y2,AS,B6] at hd;obtain⟨rfl,rfl⟩:=hd;obtain⟨a1,a2⟩:=UX hW (λn hn=>O n (.inl hn)) hx h1;obtain⟨b1,b2⟩:=tT hW xs Q G r (λn hn=>O n (.inr hn)) hl h2;refine⟨a1.app b1,λX hX=> ?_⟩;obtain⟨c1,Z⟩:=hX.app;simp only[FQ];exact⟨v,r,rfl,a2 X c1,b2 X Z⟩
end
def PF(u:List Nat)(F:An):(PE u F).use=u/\(PE u F).kill=F.map (·.1)/\(PE u F).new=F/\(PE u F).cnt=0:=by
 cases F<;>exact⟨rfl,rfl,rfl,rfl⟩
def FY{B:Type}(rc:D->Option B)(b:B):AV->Prop
 | .im d=>rc d=some b
 | .any=>False
 | .agg _=>False
 | .tup _=>False
 | .ptr _ _=>False
 | .eptr _ _ _=>False
 | .own _=>False
 | .mp _=>False
 | .ch _=>False
 | .it _=>False
 | .osl _ _ _=>False
 | .clo _ _ _=>False
def NG{B:Type}(rc:D->Option B)(b:B):Lv:=λr _ _=>FY rc b r
def XM{P:Program}(HM:P.follows .mixedOrders=true){V:DK}(hV:Ls P V){g:FuncId}{fn:Func}{c:Code}(hf:P.funcs[g]? =some fn)(hb:fn.body=some c)(ab:EW fn.ntmps c=true)(aa:Hu P g=true)
 {A B:Type}{ar:List PK->Option A}{ae:A->List PK}(ak: ∀ps a,ar ps=some a->Cu ps (ae a)){n:Nat}(hn: ∀a,(ae a).length=n)(am:n<=fn.ntmps){rc:D->Option B}{re:B->D}(an: ∀d b,rc d=some b->Le d (re b))
 {pre:A->Prop}{f:A->B}
 (hk: ∀a,pre a->DH P V c (Qj P fn.results.toList (Cm (ae a)) [] LB (D6 0 (ae a)) (NG rc (f a))) ⟨entry 0 (D7 0 (ae a)),D6 0 (ae a),Cm (ae a)⟩):
 Ij P g (Ei ar pre λa=>re (f a)):=by
 intro args h nx K z;unfold Ei at z;cases hp:I1 h args with
 |none=>rw[hp] at z;exact z.elim
 |some q=>
  obtain⟨ps,F⟩:=q;rw[hp] at z;simp only[WI] at z;cases ha:ar ps with
  |none=>rw[ha] at z;exact z.elim
  |some a=>
   rw[ha] at z;simp only[DM] at z;obtain⟨ad,hK⟩:=z;refine⟨pR aa,_,_,?_,hK⟩;obtain⟨e1,e2,e3,e4⟩:=PF (Av args) F;intro C S vs RR hW O af ag Q ac;rw[e1,e2] at O;obtain⟨h1,h2⟩:=tT hW args ps F vs.toList (λn hn=>O n (HR _ hn)) hp Q
   let X:Nat->Bool:=λn=> !(F.map (·.1)).contains n
   have hX:XF F X:=by
    intro n hn;simp only[X,GF.2 hn,YB]
   have ai:Wf C (S.ice X):=WV hW;have Z:(S.ice X).h=(PE (Av args) F).appf S.h:=by
    have:=TX (S:=S) (F:=F) (u:=Av args) h1
    rw[show (PE (Av args) F).appf S.h=({use:=Av args,kill:=F.map (·.1),new:=F}:BA).appf S.h by
     funext m;simp only[BA.appf,e2,e3]]
    exact this
   refine W4 HM hV hf hb ab (S:=S.ice X) (ps:=ae a) (r0:=re (f a)) (by rw[hn];exact am) ?_ (hk a ad) ai ((ak ps a ha).c (h2 X hX)) ?_
   .intro r H n hr;unfold NG at hr;cases r<;>simp only[FY] at hr;exact⟨_,rfl,an _ _ hr⟩
   .intro v S' ah hh hp' ao;refine ac v S' ah (by rw[hh,Z]) ?_ (by simp only[Ab];exact ao);refine⟨λb hb=> ?_,λo _ e' aj=> ?_⟩
    .obtain⟨q1,q2⟩:=(Ik S X).ok b hb;obtain⟨q3,q4⟩:=hp'.ok b q1;exact⟨q3,q4.trans q2⟩
    .obtain⟨e,q1,q2,q3,q4⟩:=hp'.nm o trivial e' aj;obtain⟨e0,q5,q6,q7,q8⟩:=(Ik S X).nm o trivial e q1;exact⟨e0,q5,q2.trans q6,q3.trans q7,q4.trans q8⟩
def B2(σ:Nat->Nat)(k nx j:Nat):Nat:=if j<k then σ j else nx+(j - k)
def Ai(H0:An)(o:Nat):Bool:=(hget H0 o).isSome
def Hl(H0:An)(k cnt:Nat)(exB:Nat->Bool)(o:Nat):Option Nat:=bif Ai H0 o||(exB o && (Nat.ble k o && Nat.blt o (k+cnt))) then some o else none
def Tt(f:AV->Option AV)(e:Ap):Option Ap->Prop
 |some (O,z)=>O=e.1/\Cd f z=some e.2
 |none=>False
def E4(h:HpT)(f:AV->Option AV):An->Prop
 |[]=>True
 |(j,e)::r=>Tt f e (h j)/\E4 h f r
def I2(h:HpT)(klB:Nat->Bool):An->Prop
 |[]=>True
 |(j,e)::r=>(bif klB j then True else h j=some e)/\I2 h klB r
def Kg(R:AV->Prop):Option AV->Prop
 |some r=>R r
 |none=>False
def Vw(k cnt:Nat)(H0 H1:An)(klB exB:Nat->Bool)(R:AV->Prop)(s:Az)(x:AV):Prop:=
 I2 (hget s.h) klB H0/\Kg R (Bs (hget s.h) (Hl H0 k cnt exB) 9 x)/\E4 (hget s.h) (Bs (hget s.h) (Hl H0 k cnt exB) 9) H1
def Kf(k cnt:Nat)(H0 H1:An)(klB exB:Nat->Bool)(R:AV->Prop)(s:Az):Option (List AV)->Prop
 |some xs=>Vw k cnt H0 H1 klB exB R s (DB xs)
 |none=>False
def Ib(P:Program)(z:List ResultVar)(k cnt:Nat)(H0 H1:An)(klB exB:Nat->Bool)(R:AV->Prop)(s:Az):Prop:=Kf k cnt H0 H1 klB exB R s (Aw (Lo P s) z)
def OA(P:Program)(z:List ResultVar)(k cnt:Nat)(H0 H1:An)(klB exB:Nat->Bool)(R:AV->Prop):CI
 | .normal,s=>Ib P z k cnt H0 H1 klB exB R s
 | .ret,s=>Ib P z k cnt H0 H1 klB exB R s
 | .exit _,_=>False
def nS(P:Program)(z:List ResultVar)(k cnt:Nat)(H0 H1:An)(klB exB:Nat->Bool)(R:AV->Prop)(s:Az):Prop:=
 ∃(F:List Nat) (π:List (Nat×Option Nat)) (s':Az),AB k π (PH F s) s'/\s'.good=true/\k<=s'.nx/\Ib P z k cnt H0 H1 klB exB R s'
def Bh(P:Program)(z:List ResultVar)(k cnt:Nat)(H0 H1:An)(klB exB:Nat->Bool)(R:AV->Prop):CI
 | .normal,s=>nS P z k cnt H0 H1 klB exB R s
 | .ret,s=>nS P z k cnt H0 H1 klB exB R s
 | .exit _,_=>False
def NU{h:HpT}{klB:Nat->Bool}: ∀(H:An),I2 h klB H-> ∀j e,(j,e)∈H->klB j=false->h j=some e
 |[],_,j,e,hm,_=>by cases hm
 |(i,x)::r,z,j,e,hm,Q=>by
  simp only[I2] at z;rcases B0.1 hm with hm|hm
  .cases hm;have O:=z.1;rw[Q] at O;exact O
  .exact NU r z.2 j e hm Q
def Qve{h:HpT}{f:AV->Option AV}: ∀(H:An),E4 h f H-> ∀j e,(j,e)∈H-> ∃z,h j=some z/\e.1=z.1/\Cd f z.2=some e.2
 |[],_,j,e,hm=>by cases hm
 |(i,x)::r,Q,j,e,hm=>by
  simp only[E4] at Q;rcases B0.1 hm with hm|hm
  .cases hm;have O:=Q.1;cases hq:h i with
   |none=>rw[hq] at O;exact O.elim
   |some y=>
    obtain⟨Z,z⟩:=y;rw[hq] at O;exact⟨(Z,z),rfl,O.1.symm,O.2⟩
  .exact Qve r Q.2 j e hm
def Qv5{σ:Nat->Nat}{D:Nat->Prop}(hσ: ∀i j,D i->D j->σ i=σ j->i=j): ∀(H:An),(∀p∈H,D p.1)-> ∀(j:Nat),D j->hget (AW σ H) (σ j)=(hget H j).map λe=>(e.1,e.2.ren σ)
 |[],_,j,_=>rfl
 |(i,(mu,e))::r,hH,j,O=>by
  simp only[AW,hget];by_cases z:i=j
  .subst z;simp
  .have Q:(i==j)=false:=by simpa using z
   have Z:(σ i==σ j)=false:=by rw[FX];exact λh=>z (hσ _ _ (hH _ (CP ..)) O h)
   rw[Q,Z];simpa using Qv5 hσ r (λp hp=>hH p (Ah _ hp)) j O
def objG{P:Program}(HM:P.follows .mixedOrders=true){V:DK}(hV:Ls P V){g:FuncId}{fn:Func}{c:Code}(hf:P.funcs[g]? =some fn)(hb:fn.body=some c)(b9:EW fn.ntmps c=true)
 {args:List AV}{H0 H1:An}{k cnt:Nat}(c6:args.length<=fn.ntmps)(hbel:A9 k args=true)(hbH:Ar k H0=true)(hkH:B5 k H0=true)
 (bu: ∀j e,hget H0 j=some e-> ∀m∈e.2.nms,Ai H0 m=true)
 {klB exB:Nat->Bool}{R:AV->Prop}{r0:AV}
 (hR: ∀r,R r->CU r r0)
 (hH1: ∀p∈H1,(p.1<k/\klB p.1=true/\Ai H0 p.1=true)\/(k<=p.1/\p.1<k+cnt/\exB p.1=true/\p.2.1=true))
 {Q:CI}(hQ: ∀(C:Bn) (N:Nat) (a:Act) (w:World) (s:Az),C.n0=k->Cg C N s a w->Q .normal s\/Q .ret s-> ∃s',Cg C N s' a w/\Ib P fn.results.toList k cnt H0 H1 klB exB R s')
 (cn: ∀i s,¬Q (.exit i) s)
 (hk:DH P V c Q ⟨entry 0 args,H0,k⟩)
 {h:HpT}{nx:Nat}{τ:Nat->Nat}(cc: ∀i j,Ai H0 i=true->Ai H0 j=true->τ i=τ j->i=j)(cy: ∀j,Ai H0 j=true->τ j<nx)
 (hH: ∀j e,hget H0 j=some e->h (B2 τ k nx j)=some (e.1,e.2.ren (B2 τ k nx)))
 {U KL:List Nat}(hU: ∀j,Ai H0 j=true->τ j∈U)(c5: ∀n∈KL,∃j,Ai H0 j=true/\klB j=true/\n=τ j)(b8: ∀j,Ai H0 j=true->klB j=true->τ j∈KL):
 Rz P g (AN (B2 τ k nx) args) h nx (r0.ren (B2 τ k nx)) {use:=U,kill:=KL,new:=AW (B2 τ k nx) H1,cnt:=cnt}:=by
 intro C S vs RR hW ci am bj a0 cb
 let σ:=B2 τ k nx
 let DD:Nat->Prop:=λj=>Ai H0 j=true\/k<=j
 have ai: ∀j e,hget H0 j=some e->Ai H0 j=true:=λj e he=>by unfold Ai;rw[he];rfl
 have aj: ∀j,Ai H0 j=true-> ∃e,hget H0 j=some e:=λj Z=>by
  unfold Ai at Z;cases hq:hget H0 j with
  |none=>rw[hq] at Z;cases Z
  |some e=>exact⟨e,rfl⟩
 have ao: ∀j,Ai H0 j=true->j<k:=λj Z=>by
  obtain⟨e,he⟩:=aj j Z;exact wQ _ hkH j e he
 have hσlo: ∀j,j<k->σ j=τ j:=λj Z=>Bt Z
 have hσge: ∀j,k<=j->σ j=nx+(j - k):=λj Z=>Be auOm
 have hσin: ∀j,Ai H0 j=true->σ j∈U:=λj Z=>by rw[hσlo j (ao j Z)];exact hU j Z
 have hσlt: ∀j,Ai H0 j=true->σ j<nx:=λj Z=>by rw[hσlo j (ao j Z)];exact cy j Z
 have hσinj: ∀i j,DD i->DD j->σ i=σ j->i=j:=by
  intro i j hi Z h;rcases hi with hi|hi<;>rcases Z with Z|Z
  .rw[hσlo i (ao i hi),hσlo j (ao j Z)] at h;exact cc i j hi Z h
  .have:=hσlt i hi
   rw[h,hσge j Z] at this;omega
  .have:=hσlt j Z
   rw[<-h,hσge i hi] at this;omega
  .rw[hσge i hi,hσge j Z] at h;omega
 have hS: ∀j e,hget H0 j=some e->S.h (σ j)=some (e.1,e.2.ren σ):=by
  intro j e he;rw[ci (σ j) (HR _ (hσin j (ai j e he)))];exact hH j e he
 refine calls_of_wp hf hb ?_;have cj:=Jz _ _ a0;have c8:vs.size=args.length:=by rw[Qsc] at cj;simpa using cj
 let S0:AD:=⟨λj=>S.ρ (σ j),S.ok,hget H0,S.w⟩
 let M0:Nat->Prop:=λb=> ∃j e l,hget H0 j=some e/\e.1=true/\S.ρ (σ j)=some l/\l.b=b
 let C0:Bn:=⟨S.w,M0,S.ok,k,hget H0,λj=>S.ρ (σ j),[]⟩
 have bf: ∀n,Pe S S0 σ (λn=>n) n:=by
  intro n;refine⟨λe' z=>⟨_,hS n e' z,rfl,?_,?_⟩⟩
  .exact (Qr6 σ e'.2).symm
  .exact (Qs6 σ e'.2).symm
 have bn: ∀b,S.ok b->S0.ok b/\S0.hp b=S.hp b:=λb hb=>⟨hb,rfl⟩
 have cq:Wf C0 S0:=by
  refine⟨rfl,rfl,rfl,BN _,BN _,λ_ _ _=>rfl,λ_ hb=>hb,λ_ hb=> .inl hb,hW.oks,?_,?_,?_,hW.glN (by rintro b ⟨j,e,l,O,h2,h3,rfl⟩;have h4:=(hW.loc _ _ l (hS j e O) h3).2;rw[show (e.1,e.2.ren σ).1=true from h2] at h4;simp only[Ff] at h4;exact h4.1)⟩
  .intro j e he;have O:=hW.obj _ _ (hS j e he);have h2:=Qzw (τ:=λn=>n) bn (λ_ _=>rfl) e.2 (λn _=>bf n) O;rwa [Qwc] at h2
  .intro j e l he hl;obtain⟨O,h2⟩:=hW.loc _ _ l (hS j e he) hl;refine⟨O,?_⟩;cases hm:e.1 with
   |false=>
    rw[hm] at h2;have hv:(e.2.ren σ).isView=e.2.isView:=by cases e.2<;>rfl
    simpa[hv] using h2
   |true=>
    rw[hm] at h2;simp only[Ff] at h2⊢;exact⟨h2.1,.inr ⟨j,e,l,he,hm,hl,rfl⟩⟩
  .intro i j e e' l l' he z hl bw af ak;exact hσinj _ _ (.inl (ai _ _ he)) (.inl (ai _ _ z)) (hW.inj _ _ _ _ l l' (hS i e he) (hS j e' z) hl bw af ak)
 have cr:Cg C0 fn.ntmps ⟨entry 0 args,H0,k⟩ {tmps:=vs++Array.replicate (fn.ntmps - vs.size) undef,defers:=[]} S.w:=by
  have bg:AX S0 args vs.toList:=by
   have:=jD (τ:=λn=>n) bn args vs.toList (λn _=>bf n) a0
   rwa [dK] at this
  refine⟨S0,rfl,cq,λn=>rfl,?_,?_,λn e he=>⟨wQ _ hkH n e he,jR _ hbH n e he⟩,by simp;omega,rfl,BN _,λo _ e' z=>⟨e',z,rfl,rfl,rfl⟩⟩
  .intro t;have O:=pD (S:=S0) args vs.toList 0 t bg;simp only[Ir,Ff,YE] at O
   have:({tmps:=vs++Array.replicate (fn.ntmps - vs.size) undef,defers:=[]}:Act).eval (.tmp t)=(vs.toList[t]?).getD undef:=by
    simp only[Act.eval,Ec,rK,YM];by_cases ht:t<vs.size
    .simp[ht]
    .simp only[ht,HS]
     have:vs[t]? =none:=eH auOm
     simp only[YK,this]
     split<;>rfl
   rw[this];exact O
  .intro t m hm;exact dF args hbel m (pL args 0 t m hm)
 refine wp_mono (Qo4 HM (yR hV) c b9 _ _ _ _ hk cr) ?_;have fin: ∀(s:Az) (a:Act) (w:World),Ib P fn.results.toList k cnt H0 H1 klB exB R s->Cg C0 fn.ntmps s a w->a.defers=[]/\ ∃v,(results fn a.tmps).run P w= .ok v w/\RR (.returned v) w:=by
  rintro s a w hr ⟨S1,rfl,hc⟩;unfold Ib at hr;cases hxs:Aw (Lo P s) fn.results.toList with
  |none=>rw[hxs] at hr;exact hr.elim
  |some xs=>
   rw[hxs] at hr;simp only[Kf] at hr;obtain⟨v,cg,br⟩:=wA hc hxs;refine⟨hc.defers,v,cg,?_⟩;obtain⟨cf,aw,az⟩:=hr;have co:hget s.h=S1.h:=(funext hc.h).symm;rw[co] at cf aw az
   let kx:=Hl H0 k cnt exB
   let X:Nat->Bool:=λo=>(kx o).isSome
   have ab:Wf C0 (S1.ice X):=WV hc.wf;have ba: ∀o,(S1.ice X).h o=(S1.h o).map λe=>(e.1 && X o,e.2):=λo=>rfl
   have bh: ∀o e l,kx o=none->(S1.ice X).h o=some e->e.2.isView=false->(S1.ice X).ρ o=some l->(S1.ice X).ok l.b:=by
    intro o e l ho he hv hl;exact qJ hc.wf (by simp[X,ho]) he hv hl
   have bv: ∀(f:AV->Option D) (o:Nat),Ra f ((S1.ice X).h o)=Ra f (S1.h o)/\Y5 ((S1.ice X).h o)=Y5 (S1.h o)/\Y1 f ((S1.ice X).h o)=Y1 f (S1.h o):=by
    intro f o;rw[ba];cases S1.h o with
    |none=>exact⟨rfl,rfl,rfl⟩
    |some e=>obtain⟨mu,e⟩:=e;cases e<;>exact⟨rfl,rfl,rfl⟩
   have bl: ∀(n:Nat),Bs (S1.ice X).h kx n=Bs S1.h kx n:=by
    intro n;induction n with
    |zero=>funext x;simp[Bs]
    |succ n ih=>
     funext x;cases x with
     |own o=>simp only[Bs,ih,(bv _ o).1]
     |mp o=>simp only[Bs,(bv (λ_=>none) o).2.1]
     |ptr o p=>cases p<;>simp only[Bs,ih,(bv _ o).2.2]
     |_=>simp only[Bs,ih]
   rw[<-bl] at aw;have az:E4 S1.h (Bs (S1.ice X).h kx 9) H1:=by rw[bl];exact az
   cases hcv:Bs (S1.ice X).h kx 9 (DB xs) with
   |none=>rw[hcv] at aw;exact aw.elim
   |some r=>
    rw[hcv] at aw;simp only[Kg] at aw;have cm:=hR _ aw;have bi: ∀o j,kx o=some j->j=o/\(Ai H0 o=true\/(k<=o/\o<k+cnt)):=by
     intro o j Z;simp only[kx,Hl] at Z;cases hq:Ai H0 o<;>rw[hq] at Z
     .cases hq2:(exB o && (Nat.ble k o && Nat.blt o (k+cnt)))<;>rw[hq2] at Z
      .cases Z
      .simp only[B1,Jf,Mw] at hq2;simp only[lG,IJ,AS] at Z;exact⟨Z.symm,.inr hq2.2⟩
     .simp only[Gj,IJ,AS] at Z;exact⟨Z.symm,.inl rfl⟩
    have bc: ∀o,Ai H0 o=true->kx o=some o:=λo ho=>by simp only[kx,Hl,ho,Gj,IJ]
    have ce: ∀o,exB o=true->k<=o->o<k+cnt->kx o=some o:=λo O h2 h3=>by
     have:(exB o && (Nat.ble k o && Nat.blt o (k+cnt)))=true:=by simp[O,h2,h3]
     simp only[kx,Hl,this,lG,IJ]
    have ag: ∀j e',(j,e')∈H1->DD j/\j<k+cnt/\((j<k/\klB j=true/\Ai H0 j=true)\/(k<=j/\e'.1=true))/\kx j=some j/\ ∃e,S1.h j=some e/\e'.1=e.1/\Cd (Bs (S1.ice X).h kx 9) e.2=some e'.2:=by
     intro j e' hm;obtain⟨e0,g1,g2,g3⟩:=Qve H1 az j e' hm;rcases hH1 _ hm with ⟨O,h2,h3⟩|⟨O,h2,h3,h4⟩
     .exact⟨.inl h3,by simp only at O;omega,.inl ⟨O,h2,h3⟩,bc j h3,e0,g1,g2,g3⟩
     .exact⟨.inr O,h2,.inr ⟨O,h4⟩,ce j h3 O h2,e0,g1,g2,g3⟩
    let E:BA:={use:=U,kill:=KL,new:=AW σ H1,cnt:=cnt}
    let S':AD:=⟨λn=>if nx<=n/\n<nx+cnt then S1.ρ (n - nx+k) else S.ρ n,(S1.ice X).ok,E.appf S.h,S1.w⟩
    have hρ: ∀j,DD j->j<k+cnt->(∀e,S1.h j=some e->S'.ρ (σ j)=S1.ρ j):=by
     intro j hd Z e he;simp only[S'];by_cases au:j<k
     .have cv:Ai H0 j=true:=hd.resolve_right auOm;have O:=hσlt j cv;rw[Be auOm];obtain⟨_,_,h3,_⟩:=hc.pre j au e he;exact h3.symm
     .have O:=hσge j auOm;rw[Bt (by rw[O];omega),O];congr 1;omega
    have ah: ∀n e',S'.h n=some e'->(∃j e,n=σ j/\(j,e)∈H1/\hget H1 j=some e/\e'=(e.1,e.2.ren σ))\/(S.h n=some e'/\ ∀j,Ai H0 j=true->klB j=true->n≠σ j):=by
     intro n e' z;have z:E.appf S.h n=some e':=z;simp only[BA.appf,E] at z;cases hg:hget (AW σ H1) n with
     |some x=>
      rw[hg] at z;obtain rfl:=AJ z;obtain⟨j,e,O,h2,h3⟩:=qZ hg;subst h2;rw[Qv5 hσinj H1 (λp hp=>(ag p.1 p.2 hp).1) j (ag j e O).1] at hg;cases Z:hget H1 j with
      |none=>rw[Z] at hg;cases hg
      |some y=>
       rw[Z] at hg;exact .inl ⟨j,y,rfl,jM Z,Z,by simpa using hg.symm⟩
     |none=>
      rw[hg] at z;cases hq:KL.contains n<;>rw[hq] at z
      .refine .inr ⟨z,?_⟩;rintro j Z cd rfl
       have:=b8 j Z cd
       rw[<-hσlo j (ao j Z)] at this;rw[GF.2 this] at hq;cases hq
      .cases z
    have a8: ∀n e l,S.h n=some e->S.ρ n=some l->(∀j,Ai H0 j=true->n≠σ j)->l.b<S.w.heap.size/\ ¬M0 l.b:=by
     intro n e l he hl hn;refine⟨(hW.loc n e l he hl).1,?_⟩;rintro⟨j,e0,l0,O,h9,h2,h3⟩;exact hn j (ai j e0 O) (hW.inj _ _ _ _ l l0 he (hS j e0 O) hl h2 h3.symm (by simp[h9]))
    have av: ∀b,b<S.w.heap.size-> ¬M0 b->S1.w.heap[b]? =S.w.heap[b]? :=λb hb hM=>hc.wf.keep b hb hM
    have bo: ∀b,S.ok b->S'.ok b/\S'.hp b=S.hp b:=by
     intro b hb;refine⟨ab.ok0 b hb,av b (hW.oks b hb) ?_⟩;rintro⟨j,e,l,O,h2,h3,h4⟩
     have:=(hW.loc _ _ l (hS j e O) h3).2
     rw[show (e.1,e.2.ren σ).1=true from h2] at this;simp only[Ff] at this;exact this.1 (h4▸hb)
    have ay: ∀j e0,hget H0 j=some e0->klB j=false->S1.h j=some e0:=λj e0 O h2=>NU H0 cf j e0 (jM O) h2
    have bd: ∀j,Ai H0 j=true->(∀j',Ai H0 j'=true->klB j'=true->σ j≠σ j')->klB j=false:=by
     intro j Z h;cases hq:klB j with
     |false=>rfl
     |true=>exact absurd rfl (h j Z hq)
    have be: ∀o,¬Fr nx cnt o-> ∀e',S'.h o=some e'-> ∃e,S.h o=some e/\S'.ρ o=S.ρ o/\e'.2.esz=e.2.esz/\e'.2.len=e.2.len:=by
     intro o ho e' z;have hρo:S'.ρ o=S.ρ o:=by
      simp only[S'];rw[Be (by intro h;exact ho ⟨h.1,h.2⟩)]
     rcases ah o e' z with ⟨j,e,rfl,O,h2,rfl⟩|⟨O,_⟩
     .obtain⟨g0,g1,g2,g3,x,g4,g5,g6⟩:=ag j e O;have au:j<k:=by
       rcases g2 with g2|g2
       .exact g2.1
       .have:=hσge j g2.1
        exact absurd (show Fr nx cnt (σ j) from ⟨auOm,auOm⟩) ho
      obtain⟨e0,p1,p2,p3,p4⟩:=hc.pre j au x g4;have an:=(@Qti C0 (S1.ice X) (S1.ice X) ab kx (λj=>j) (λb hb=>⟨hb,rfl⟩) bh (by
       intro o j Z e' z;obtain⟨q1,_⟩:=bi o j Z;subst q1;exact⟨e',z,rfl,rfl,rfl⟩) 9 x.2 e.2 g6).1
      refine⟨_,hS j e0 p1,hρo,?_,?_⟩
      .simp only[Qr6];rw[<-p3,<-an.1]
      .simp only[Qs6];rw[<-p4,<-an.2]
     .exact⟨e',O,hρo,rfl,rfl⟩
    have ax: ∀o j,kx o=some j-> ∀e',S'.h (σ j)=some e'-> ∃e,(S1.ice X).h o=some e/\S'.ρ (σ j)=(S1.ice X).ρ o/\e'.2.esz=e.2.esz/\e'.2.len=e.2.len:=by
     intro o j Z e' z;obtain⟨rfl,q2⟩:=bi o j Z;have bt:DD j:=q2.imp id (λh=>h.1);have cw:j<k+cnt:=by
      rcases q2 with q2|q2
      .have:=ao j q2;omega
      .exact q2.2
     rcases ah (σ j) e' z with ⟨j',e,h0,O,h2,rfl⟩|⟨O,h2⟩
     .obtain⟨g0,g1,g2,g3,x,g4,g5,g6⟩:=ag j' e O;obtain rfl:=hσinj _ _ bt g0 h0;have an:=(@Qti C0 (S1.ice X) (S1.ice X) ab kx (λj=>j) (λb hb=>⟨hb,rfl⟩) bh (by
       intro o j Z e' z;obtain⟨q1,_⟩:=bi o j Z;subst q1;exact⟨e',z,rfl,rfl,rfl⟩) 9 x.2 e.2 g6).1
      have hr:=hρ j bt g1 x g4;refine⟨(x.1 && X j,x.2),by rw[ba,g4];rfl,hr,?_,?_⟩
      .simp only[Qr6];rw[<-an.1]
      .simp only[Qs6];rw[<-an.2]
     ·
      have aa:Ai H0 j=true:=by
       rcases q2 with h|h
       .exact h
       .have h5:=am (σ j) ⟨by rw[hσge j h.1];omega,by rw[hσge j h.1];show nx+(j - k)<nx+cnt;omega⟩;rw[h5] at O;cases O
      have bb:=bd j aa (λj' a b=>h2 j' a b);obtain⟨e0,ad⟩:=aj j aa;have g4:=ay j e0 ad bb;have hr:=hρ j bt cw e0 g4
      have:=hS j e0 ad
      rw[O] at this;obtain rfl:=AJ this;refine⟨(e0.1 && X j,e0.2),by rw[ba,g4];rfl,hr,?_,?_⟩
      .simp only[Qr6]
      .simp only[Qs6]
    have aq: ∀n e' l,S'.h n=some e'->S'.ρ n=some l->(∃j x,n=σ j/\S1.h j=some x/\e'.1=x.1/\S1.ρ j=some l/\(k<=j->x.1=true)/\DD j/\kx j=some j/\e'.2.isView=x.2.isView)\/(S.h n=some e'/\S.ρ n=some l/\ ∀j,Ai H0 j=true->n≠σ j):=by
     intro n e' l z hl;rcases ah n e' z with ⟨j,e,rfl,O,h2,rfl⟩|⟨O,h2⟩
     .obtain⟨g0,g1,g2,g3,x,g4,g5,g6⟩:=ag j e O;have hr:=hρ j g0 g1 x g4;refine .inl ⟨j,x,rfl,g4,g5,by rw[<-hr];exact hl,?_,g0,g3,?_⟩
      .intro cd;rcases g2 with g2|g2
       .omega
       .rw[<-g5];exact g2.2
      .have hv:(e.2.ren σ).isView=e.2.isView:=by cases e.2<;>rfl
       show (e.2.ren σ).isView=_;rw[hv];exact P5 g6
     .by_cases hn: ∃j,Ai H0 j=true/\n=σ j
      .obtain⟨j,aa,rfl⟩:=hn;have bb:=bd j aa (λj' a b=>h2 j' a b);obtain⟨e0,ad⟩:=aj j aa;have g4:=ay j e0 ad bb;have au:=ao j aa;have hr:=hρ j (.inl aa) auOm e0 g4
       have:=hS j e0 ad
       rw[O] at this;obtain rfl:=AJ this;exact .inl ⟨j,e0,rfl,g4,rfl,by rw[<-hr];exact hl,λh=>auOm,.inl aa,bc j aa,by cases e0.2<;>rfl⟩
      .have bz: ∀j,Ai H0 j=true->n≠σ j:=λj Z h=>hn ⟨j,Z,h⟩
       refine .inr ⟨O,?_,bz⟩;have bx: ¬Fr nx cnt n:=by
        intro a9
        have:=am n a9
        rw[this] at O;cases O
       have hρo:S'.ρ n=S.ρ n:=by
        simp only[S'];rw[Be (by intro h;exact bx ⟨h.1,h.2⟩)]
       rw[<-hρo];exact hl
    have cp:Wf C S':=by
     refine⟨hc.wf.os.trans hW.os,hc.wf.tape.trans hW.tape,hc.wf.output.trans hW.output,Gu hW.dr hc.wf.dr,Gu hW.size hc.wf.size,?_,λb hb=>ab.ok0 b (hW.ok0 b hb),?_,ab.oks,?_,?_,?_,hW.gl⟩
     .intro b hb hM;have c2: ¬M0 b:=by
       rintro⟨j,e,l,O,h2,h3,h4⟩
       have:=(hW.loc _ _ l (hS j e O) h3).2
       rw[show (e.1,e.2.ren σ).1=true from h2] at this;simp only[Ff] at this;rcases this.2 with h5|h5
       .omega
       .exact hM (h4▸h5)
      exact (av b (ET hb hW.size) c2).trans (hW.keep b hb hM)
     .intro b hb;rcases ab.ok1 b hb with h|h|h
      .exact hW.ok1 b h
      .exact .inr (.inl (Gu hW.size h))
      .obtain⟨j,e,l,O,h2,h3,h4⟩:=h
       have:=(hW.loc _ _ l (hS j e O) h3).2
       rw[show (e.1,e.2.ren σ).1=true from h2] at this;simp only[Ff] at this;rw[<-h4];exact .inr this.2
     .intro n e' z;rcases ah n e' z with ⟨j,e,rfl,O,h2,rfl⟩|⟨O,h2⟩
      .obtain⟨g0,g1,g2,g3,x,g4,g5,g6⟩:=ag j e O;have an:=ab.obj j (x.1 && X j,x.2) (by rw[ba,g4];rfl);have hr:=hρ j g0 g1 x g4;have h5:=(Qti (S':=S') (τ:=σ) ab (λb hb=>⟨hb,rfl⟩) bh ax g6).2 _ (λ_ _=>rfl) an;rw[hr];exact h5
      .by_cases hn: ∃j,Ai H0 j=true/\n=σ j
       .obtain⟨j,aa,rfl⟩:=hn;have bb:=bd j aa (λj' a b=>h2 j' a b);obtain⟨e0,ad⟩:=aj j aa;have g4:=ay j e0 ad bb;have au:=ao j aa;have hr:=hρ j (.inl aa) auOm e0 g4
        have:=hS j e0 ad
        rw[O] at this;obtain rfl:=AJ this;rw[hr];have an:=hc.wf.obj j e0 g4;have h7:=Qzw (S:=S1) (S':=S') (σ:=λn=>n) (τ:=σ) (l:=S1.ρ j) (λb hb=>⟨.inl hb,rfl⟩) (λ_ _=>rfl) e0.2 ?_ (by rw[Qwc];exact an)
        .exact h7
        .intro m hm;refine⟨λe' z=> ?_⟩;have c7:m<k:=jR _ hbH j e0 ad m hm;cases hkm:kx m with
         |some m'=>
          obtain⟨rfl,_⟩:=bi m m' hkm;obtain⟨x,q1,q2,q3,q4⟩:=ax m' m' hkm e' z;obtain⟨y,q5,q6⟩:=WM q1;exact⟨y,q5,q2,by rw[q3,q6],by rw[q4,q6]⟩
         |none=>
          exfalso;have cz:Ai H0 m≠true:=λh=>by rw[bc m h] at hkm;cases hkm
          exact cz (bu j e0 ad m hm)
       .have bz: ∀j,Ai H0 j=true->n≠σ j:=λj Z h=>hn ⟨j,Z,h⟩
        have bx: ¬Fr nx cnt n:=by
         intro a9
         have:=am n a9
         rw[this] at O;cases O
        have hρo:S'.ρ n=S.ρ n:=by
         simp only[S'];rw[Be (by intro h;exact bx ⟨h.1,h.2⟩)]
        rw[hρo];refine Im (X:=λm=> ¬Fr nx cnt m) ⟨bo,λo ho e' z=>be o ho e' z⟩ ?_ e'.2 (λm hm=>bj n e' O m hm) (hW.obj n e' O);intro lc cx;obtain⟨p1,p2⟩:=a8 n e' lc O cx bz;exact av lc.b p1 p2
     .intro n e' l z hl;rcases aq n e' l z hl with ⟨j,x,rfl,g4,g5,g6,g7,g8,ck,g9⟩|⟨O,h2,h3⟩
      .have cu:X j=true:=by simp only[X,ck];rfl
       have ac:=ab.loc j (x.1 && X j,x.2) l (by rw[ba,g4];rfl) g6;rw[cu,Jg] at ac;refine⟨ac.1,?_⟩;rw[g5];cases hm:x.1 with
       |false=>
        have h9:=ac.2;simp only[hm] at h9;simp only[BL,HS] at h9⊢;rcases h9 with h9|h9
        .exact .inl h9
        .refine .inr ?_;rw[g9];exact h9
       |true=>
        have h9:=ac.2;simp only[hm,Ff] at h9⊢;refine⟨h9.1,?_⟩;rcases h9.2 with bp|bp
        .exact .inl (Gu hW.size bp)
        .obtain⟨j',e0,l0,p1,p2,p3,p4⟩:=bp
         have:=(hW.loc _ _ l0 (hS j' e0 p1) p3).2
         rw[show (e0.1,e0.2.ren σ).1=true from p2] at this;simp only[Ff] at this;rw[<-p4];exact this.2
      .obtain⟨p1,p2⟩:=hW.loc n e' l O h2;obtain⟨p3,p4⟩:=a8 n e' l O h2 h3;refine⟨ET p1 hc.wf.size,?_⟩;cases hm:e'.1 with
       |false=>
        rw[hm] at p2;simp only[BL,HS] at p2⊢;exact p2.imp (λh=>ab.ok0 _ h) id
       |true=>
        rw[hm] at p2;simp only[Ff] at p2⊢;refine⟨λc3=> ?_,p2.2⟩;rcases ab.ok1 _ c3 with h|h|h
        .exact p2.1 h
        .have h:S.w.heap.size<=l.b:=h;omega
        .exact p4 h
     ·
      have bm: ∀j x l n' e2 l',S1.h j=some x->S1.ρ j=some l->(k<=j->x.1=true)->DD j->S.h n'=some e2->S.ρ n'=some l'->(∀i,Ai H0 i=true->n'≠σ i)->l.b=l'.b->(x.1||e2.1)=true->False:=by
       intro j x l n' e2 l' g1 g2 g3 g4 p1 p2 p3 af ak;obtain⟨q1,q2⟩:=a8 n' e2 l' p1 p2 p3;by_cases au:j<k
       .have aa:Ai H0 j=true:=g4.resolve_right auOm;obtain⟨e0,r1,r2,_,_⟩:=hc.pre j au x g1;have hρj:S.ρ (σ j)=some l:=by rw[<-r2|>λh=>show S1.ρ j=S.ρ (σ j) from h];exact g2
        have c4:(e0.1||e2.1)=true:=by
         cases he2:e2.1 with
         |true=>simp
         |false=>
          rw[he2,YF] at ak;have ac:=(hc.wf.loc j x l g1 g2).2;rw[ak] at ac;simp only[Ff] at ac;rcases ac.2 with h|h
          .have h:S.w.heap.size<=l.b:=h;omega
          .exact absurd (af▸h) q2
        exact p3 j aa (hW.inj _ _ _ _ l' l p1 (hS j e0 r1) p2 hρj af.symm (by rw[Bool.or_comm];exact c4))
       .have ac:=(hc.wf.loc j x l g1 g2).2;rw[g3 auOm] at ac;simp only[Ff] at ac;rcases ac.2 with h|h
        .have h:S.w.heap.size<=l.b:=h;omega
        .exact q2 (af▸h)
      intro n n' e1 e2 l l' he z hl bw af ak;rcases aq n e1 l he hl with ⟨j,x,rfl,g1,g2,g3,g4,g5,_⟩|⟨g1,g2,g3⟩<;>rcases aq n' e2 l' z bw with ⟨j',x',rfl,p1,p2,p3,p4,p5,_⟩|⟨p1,p2,p3⟩
      .have cs:=hc.wf.inj j j' x x' l l' g1 p1 g3 p3 af (by rw[<-g2,<-p2];exact ak);rw[cs]
      .exact (bm j x l n' e2 l' g1 g3 g4 g5 p1 p2 p3 af (by rw[<-g2];exact ak)).elim
      .exact (bm j' x' l' n e1 l p1 p3 p4 p5 g1 g2 g3 af.symm (by rw[<-p2,Bool.or_comm];exact ak)).elim
      .exact hW.inj _ _ _ _ l l' g1 p1 g2 p2 af ak
    have ct:Ab S' (r.ren σ) v:=Qrr (S':=S') (τ:=σ) ab (λb hb=>⟨hb,rfl⟩) bh ax 9 (DB xs) r v hcv (J0 (Ik S1 X) _ _ (λ_ _=>trivial) br);exact cb v S' cp rfl ⟨bo,λo ho e' z=>be o ho e' z⟩ (cm σ S' v ct)
 intro e a w he;cases e<;>simp only[H3] at he<;>simp only[bodyPost]
 .obtain⟨s,hs,hc⟩:=he;obtain⟨s',bq,b0⟩:=hQ C0 _ a w s rfl hc (.inl hs);exact fin s' a w b0 bq
 .obtain⟨s,hs,_⟩:=he;exact (cn _ _ hs).elim
 .obtain⟨s,hs,hc⟩:=he;obtain⟨s',bq,b0⟩:=hQ C0 _ a w s rfl hc (.inr hs);exact fin s' a w b0 bq
def Vx{P:Program}{z:List ResultVar}{k cnt:Nat}{H0 H1:An}{klB exB:Nat->Bool}{R:AV->Prop}: ∀(C:Bn) (N:Nat) (a:Act) (w:World) (s:Az),C.n0=k->Cg C N s a w->
 OA P z k cnt H0 H1 klB exB R .normal s\/OA P z k cnt H0 H1 klB exB R .ret s-> ∃s',Cg C N s' a w/\Ib P z k cnt H0 H1 klB exB R s':=by
 rintro C N a w s _ O (h|h)<;>exact⟨s,O,h⟩
def Vy{P:Program}{z:List ResultVar}{k cnt:Nat}{H0 H1:An}{klB exB:Nat->Bool}{R:AV->Prop}: ∀(C:Bn) (N:Nat) (a:Act) (w:World) (s:Az),C.n0=k->Cg C N s a w->
 Bh P z k cnt H0 H1 klB exB R .normal s\/Bh P z k cnt H0 H1 klB exB R .ret s-> ∃s',Cg C N s' a w/\Ib P z k cnt H0 H1 klB exB R s':=by
 rintro C N a w s hk hc (h|h)<;>obtain⟨F,π,s',O,Q,h3,Z⟩:=h<;>exact⟨s',Sa (yD F hc) O Q auOm auOm,Z⟩
def Du(h:HpT)(σ:Nat->Nat):An->Prop
 |[]=>True
 |(j,(z,e))::r=>h (σ j)=some (z,e.ren σ)/\Du h σ r
def Qpk{h:HpT}{σ:Nat->Nat}: ∀{H:An},Du h σ H-> ∀j e,(j,e)∈H->h (σ j)=some (e.1,e.2.ren σ)
 |[],_,j,e,hm=>by cases hm
 |(i,(Q,x))::r,hH,j,e,hm=>by
  obtain⟨z,O⟩:=hH;rcases B0.1 hm with hm|hm
  .cases hm;exact z
  .exact Qpk O j e hm
structure sM(H0:An)(klB:Nat->Bool)(τ:Nat->Nat)(nx:Nat)(U KL:List Nat):Prop where
 inj: ∀i j,Ai H0 i=true->Ai H0 j=true->τ i=τ j->i=j
 lt: ∀j,Ai H0 j=true->τ j<nx
 u: ∀j,Ai H0 j=true->τ j∈U
 k1: ∀n∈KL,∃j,Ai H0 j=true/\klB j=true/\n=τ j
 k2: ∀j,Ai H0 j=true->klB j=true->τ j∈KL
def A7{A:Type}(ca:A->List AV)(H0:A->An)(k:Nat)(pre:A->Prop)(klB:Nat->Bool)(r0:A->AV)(H1:A->An)(cnt:Nat):A8:=λargs h nx K=>
 ∃(a:A) (τ:Nat->Nat) (U KL:List Nat),pre a/\args=AN (B2 τ k nx) (ca a)/\Du h (B2 τ k nx) (H0 a)/\sM (H0 a) klB τ nx U KL/\
  K ((r0 a).ren (B2 τ k nx)) {use:=U,kill:=KL,new:=AW (B2 τ k nx) (H1 a),cnt:=cnt}
def Ca(H0:An):An->Prop
 |[]=>True
 |(_,(_,e))::r=>(∀m∈e.nms,Ai H0 m=true)/\Ca H0 r
def Qo2{H0:An}: ∀{H:An},Ca H0 H-> ∀j e,(j,e)∈H-> ∀m∈e.2.nms,Ai H0 m=true
 |[],_,j,e,hm=>by cases hm
 |(i,(Q,x))::r,hH,j,e,hm=>by
  obtain⟨z,O⟩:=hH;rcases B0.1 hm with hm|hm
  .cases hm;exact z
  .exact Qo2 O j e hm
def IU(os:List Nat)(j:Nat):Nat:=os.getD j 0
def jN:List Nat->Bool
 |[]=>true
 |x::r=> !r.contains x && jN r
def Qjj: ∀(os:List Nat),jN os=true->os.Nodup
 |[],_=>List.nodup_nil
 |x::r,h=>by
  simp only[jN,B1,lB] at h;refine Xo.2 ⟨λz=> ?_,Qjj r h.2⟩;rw[GF.2 z] at h;cases h.1
def eD(nx:Nat):List Nat->Bool
 |[]=>true
 |x::r=>Nat.blt x nx && eD nx r
def Qvm{nx:Nat}: ∀(os:List Nat),eD nx os=true-> ∀o∈os,o<nx
 |[],_,o,h=>by cases h
 |x::r,h,o,z=>by
  simp only[eD,B1,Mw] at h;rcases B0.1 z with rfl|z
  .exact h.1
  .exact Qvm r h.2 o z
def Xp(klB:Nat->Bool):List Nat->Nat->List Nat
 |[],_=>[]
 |x::r,j=>bif klB j then x::Xp klB r (j+1) else Xp klB r (j+1)
def Qx4{klB:Nat->Bool}: ∀(os:List Nat) (j n:Nat),n∈Xp klB os j↔ ∃i,i<os.length/\klB (j+i)=true/\os[i]? =some n
 |[],j,n=>by simp[Xp]
 |x::r,j,n=>by
  have ih:=Qx4 (klB:=klB) r (j+1) n;simp only[Xp];cases hq:klB j
  .simp only[Dw];rw[ih];constructor
   .rintro⟨i,Q,z,O⟩;exact⟨i+1,by simp;omega,by rw[show j+(i+1)=j+1+i by omega];exact z,by simpa using O⟩
   .rintro⟨i,Q,z,O⟩;cases i with
    |zero=>rw[lC,hq] at z;cases z
    |succ i=>exact⟨i,by simp at Q;omega,by rw[show j+1+i=j+(i+1) by omega];exact z,by simpa using O⟩
  .simp only[IJ,B0];rw[ih];constructor
   .rintro (rfl|⟨i,Q,z,O⟩)
    .exact⟨0,auSi,hq,auSi⟩
    .exact⟨i+1,by simp;omega,by rw[show j+(i+1)=j+1+i by omega];exact z,by simpa using O⟩
   .rintro⟨i,Q,z,O⟩;cases i with
    |zero=>left;simpa using O.symm
    |succ i=>right;exact⟨i,by simp at Q;omega,by rw[show j+1+i=j+(i+1) by omega];exact z,by simpa using O⟩
def ZV{H0:An}{klB:Nat->Bool}{os:List Nat}{nx:Nat}(hd:jN os=true)(hl:eD nx os=true)(hH: ∀j,Ai H0 j=true↔j<os.length):sM H0 klB (IU os) nx os (Xp klB os 0):=by
 have Z:=Qjj os hd;have hg: ∀j,j<os.length->os[j]? =some (IU os j):=by
  intro j z;simp[IU,z]
 have hm: ∀j,j<os.length->IU os j∈os:=λj z=>Bj (hg j z)
 refine⟨λi j hi z h=> ?_,λj z=>Qvm os hl _ (hm j ((hH j).1 z)),λj z=>hm j ((hH j).1 z),λn hn=> ?_,λj z hk=> ?_⟩
 .have O:=hg i ((hH i).1 hi);have Q:=hg j ((hH j).1 z);rw[h] at O;exact (List.getElem?_inj ((hH i).1 hi) Z).1 (O.trans Q.symm)
 .obtain⟨i,O,Q,h3⟩:=(Qx4 os 0 n).1 hn;refine⟨i,(hH i).2 O,by simpa using Q,?_⟩;rw[hg i O] at h3;exact (AJ h3).symm
 .exact (Qx4 os 0 _).2 ⟨j,(hH j).1 z,by simpa using hk,hg j ((hH j).1 z)⟩
def A7.os{A:Type}{ca:A->List AV}{H0:A->An}{k:Nat}{pre:A->Prop}{klB:Nat->Bool}{r0:A->AV}{H1:A->An}{cnt:Nat}{args:List AV}{h:HpT}{nx:Nat}{K:Al}(a:A)(os:List Nat)(z:pre a)
 (hH: ∀j,Ai (H0 a) j=true↔j<os.length)(hd:jN os=true)(Z:eD nx os=true)
 (O:args=AN (B2 (IU os) k nx) (ca a)/\Du h (B2 (IU os) k nx) (H0 a))
 (Q:K ((r0 a).ren (B2 (IU os) k nx)) {use:=os,kill:=Xp klB os 0,new:=AW (B2 (IU os) k nx) (H1 a),cnt:=cnt}):A7 ca H0 k pre klB r0 H1 cnt args h nx K:=
 ⟨a,IU os,os,Xp klB os 0,z,O.1,O.2,ZV hd Z hH,Q⟩
def fM(z r2:A8):A8:=λargs h nx K=>z args h nx K\/r2 args h nx K
def KY{P:Program}{g:Nat}{O r2:A8}(Q:Ij P g O)(Z:Ij P g r2):Ij P g (fM O r2):=by
 rintro args h nx K (z|z)
 .exact Q args h nx K z
 .exact Z args h nx K z
def B4:List D->Bool
 |[]=>true
 |x::r=>x.sc && B4 r
def rX(K:D->Prop):Option Ap->Prop
 |some (true,.arr _ k rows)=>DI B4 rows/\K (.sl false k rows)
 |_=>False
def rW(h:HpT)(K:D->Prop):AV->Prop
 | .im d=>d.scs=true/\K d
 | .own o=>rX K (h o)
 |_=>False
def JN(h:HpT):List AV->(List D->Prop)->Prop
 |[],K=>K []
 |x::r,K=>rW h (λd=>JN h r λds=>K (d::ds)) x
def T6(h:HpT)(K:D->Prop):AV->Prop
 | .im d=>d.scs=true/\K d
 | .own o=>rX K (h o)
 | .agg z=>JN h z λds=>K (.agg ds)
 |_=>False
def LF(h:HpT):List AV->(List D->Prop)->Prop
 |[],K=>K []
 |x::r,K=>T6 h (λd=>LF h r λds=>K (d::ds)) x
def Rp(h:HpT)(K:D->Prop):AV->Prop
 | .im d=>d.scs=true/\K d
 | .own o=>rX K (h o)
 | .agg z=>JN h z λds=>K (.agg ds)
 | .tup z=>LF h z λds=>K (.tup ds)
 |_=>False
def NR(R:D->Prop)(s:Az):Option (List AV)->Prop
 |some xs=>Rp (hget s.h) R (DB xs)
 |none=>False
def LV(P:Program)(z:List ResultVar)(R:D->Prop)(s:Az):Prop:=NR R s (Aw (Lo P s) z)
def eC(P:Program)(z:List ResultVar)(R:D->Prop):CI
 | .normal,s=>LV P z R s
 | .ret,s=>LV P z R s
 | .exit _,_=>False
def NW: ∀(r:List D),B4 r=true->r.all D.sc=true
 |[],_=>rfl
 |x::r,h=>by
  simp only[B4,B1] at h;simp[h.1,NW r h.2]
def LU{ok ok':Nat->Prop}{hp hp':Nat->Option Obj}: ∀(ds:List D) (vs:LVa),ds.all D.sc=true->rdp ok hp ds vs->rdp ok' hp' ds vs
 |[],_,_,_=>by simp only[rdp]
 |d::ds,vs,h,hd=>by
  simp only[rdp,E6,B1] at hd h⊢;obtain⟨v,r,rfl,z,O⟩:=hd;exact⟨v,r,rfl,El h.1 z,LU ds r h.2 O⟩
def Vo{ok ok':Nat->Prop}{hp hp':Nat->Option Obj}{k:Nat}: ∀(z:List (List D)) (vs:LVa),DI B4 z->rdr ok hp k z vs->rdr ok' hp' k z vs
 |[],_,_,_=>by simp only[rdr]
 |r::z,vs,h,hd=>by
  simp only[rdr] at hd⊢;exact⟨hd.1,LU r vs (NW r (h r (CP ..))) hd.2.1,Vo z _ (λx O=>h x (Ah _ O)) hd.2.2⟩
section
variable {C:Bn}{S:AD}
def UO(C:Bn)(S:AD)(b:Nat):Prop:=C.w.heap.size<=b/\b<S.w.heap.size/\ ¬S.ok b
def Qzs(hM: ∀b,¬C.M b)(hW:Wf C S){K:D->Prop}{o:Nat}{v:Value}(Q:rX K (S.h o))(O:Ab S (.own o) v): ∃d,K d/\rd (UO C S) S.hp d v:=by
 cases he:S.h o with
 |none=>rw[he] at Q;exact Q.elim
 |some e=>
  obtain⟨mu,e⟩:=e;rw[he] at Q;cases mu with
  |false=>cases e<;>exact Q.elim
  |true=>
  cases e with
  |arr T k rows=>
   simp only[rX] at Q;refine⟨_,Q.2,?_⟩;have z:=hW.obj o _ he;simp only[Ab] at O;obtain⟨_,O⟩:=O;have O:=O _ he;simp only[Au] at z;cases hl:S.ρ o with
   |none=>
    rw[hl] at O z;simp only[rd];exact .inl ⟨.inl O,z.2⟩
   |some l=>
    rw[hl] at O z;obtain⟨h0,h1,vs,h2,h3,h4⟩:=z;obtain⟨q1,Z⟩:=hW.loc o _ l he hl;simp only[Ff] at Z;simp only[rd];refine .inr ⟨l.b,l.p,l.cap,vs,T,(0,0),O,auSi,h1,h0,⟨?_,q1,Z.1⟩,h2,Vo rows _ Q.1 h4⟩;rcases Z.2 with h|h
    .exact h
    .exact absurd h (hM _)
  |_=>exact Q.elim
def frA_spec(Q: ∀b,¬C.M b)(hW:Wf C S){K:D->Prop}{x:AV}{v:Value}(z:rW S.h K x)(O:Ab S x v): ∃d,K d/\rd (UO C S) S.hp d v:=by
 cases x with
 |im d=>
  simp only[rW] at z;simp only[Ab] at O;exact⟨d,z.2,XR z.1 O⟩
 |own o=>
  simp only[rW] at z;exact Qzs Q hW z O
 |_=>exact z.elim
def Qvx(Q: ∀b,¬C.M b)(hW:Wf C S): ∀(xs:List AV) (K:List D->Prop) (vs:LVa),JN S.h xs K->AX S xs vs-> ∃ds,K ds/\rdl (UO C S) S.hp ds vs
 |[],K,vs,O,z=>by
  simp only[JN] at O;simp only[AX] at z;exact⟨[],O,by simp only[rdl];exact z⟩
 |x::xs,K,vs,O,z=>by
  simp only[JN] at O;simp only[AX] at z;obtain⟨v,r,rfl,Z,h2⟩:=z;obtain⟨d,h3,h4⟩:=frA_spec Q hW O Z;obtain⟨ds,h5,h6⟩:=Qvx Q hW xs _ r h3 h2;exact⟨d::ds,h5,by simp only[rdl];exact⟨v,r,rfl,h4,h6⟩⟩
def Qm1(Q: ∀b,¬C.M b)(hW:Wf C S){K:D->Prop}{x:AV}{v:Value}(z:T6 S.h K x)(O:Ab S x v): ∃d,K d/\rd (UO C S) S.hp d v:=by
 cases x with
 |im d=>
  simp only[T6] at z;simp only[Ab] at O;exact⟨d,z.2,XR z.1 O⟩
 |own o=>
  simp only[T6] at z;exact Qzs Q hW z O
 |agg Z=>
  simp only[T6] at z;simp only[Ab] at O;obtain⟨vs,rfl,h1⟩:=O;obtain⟨ds,h2,h3⟩:=Qvx Q hW Z _ _ z h1;exact⟨_,h2,by simp only[rd];exact⟨vs,rfl,h3⟩⟩
 |_=>exact z.elim
def Qvn(Q: ∀b,¬C.M b)(hW:Wf C S): ∀(xs:List AV) (K:List D->Prop) (vs:LVa),LF S.h xs K->AX S xs vs-> ∃ds,K ds/\rdl (UO C S) S.hp ds vs
 |[],K,vs,O,z=>by
  simp only[LF] at O;simp only[AX] at z;exact⟨[],O,by simp only[rdl];exact z⟩
 |x::xs,K,vs,O,z=>by
  simp only[LF] at O;simp only[AX] at z;obtain⟨v,r,rfl,Z,h2⟩:=z;obtain⟨d,h3,h4⟩:=Qm1 Q hW O Z;obtain⟨ds,h5,h6⟩:=Qvn Q hW xs _ r h3 h2;exact⟨d::ds,h5,by simp only[rdl];exact⟨v,r,rfl,h4,h6⟩⟩
def Qzf(Q: ∀b,¬C.M b)(hW:Wf C S){K:D->Prop}{x:AV}{v:Value}(z:Rp S.h K x)(O:Ab S x v): ∃d,K d/\rd (UO C S) S.hp d v:=by
 cases x with
 |tup Z=>
  simp only[Rp] at z;simp only[Ab] at O;obtain⟨vs,rfl,h1⟩:=O;obtain⟨ds,h2,h3⟩:=Qvn Q hW Z _ _ z h1;exact⟨_,h2,by simp only[rd];exact⟨vs,rfl,h3⟩⟩
 |im d=>exact Qm1 (x:= .im d) Q hW (by simpa only[Rp,T6] using z) O
 |own o=>exact Qm1 (x:= .own o) Q hW (by simpa only[Rp,T6] using z) O
 |agg Z=>exact Qm1 (x:= .agg Z) Q hW (by simpa only[Rp,T6] using z) O
 |_=>exact z.elim
end
def Lu(f:AV->Option D):Option Ap->Option D
 |some (_,.arr _ k rows)=>some (.sl false k rows)
 |some (_,.arrA _ k rows)=>(Aw (Aw f) rows).map (.sl false k)
 |_=>none
def M7:Option Ap->Option D
 |some (_,.map O z)=>some (.mp O z)
 |_=>none
def dV(f:AV->Option D)(off:Nat):Option Ap->Option (List D)
 |some (_,.cells _ z)=>Aw f (z.drop off)
 |some (_,.view z)=>some (z.drop off)
 |_=>none
def Py(g:FuncId):Option (List D)->Option (List D)->Option D
 |some a,some c=>some (.fn g a c)
 |some _,none=>none
 |none,_=>none
def bk(h:HpT):Nat->AV->Option D
 |0,_=>none
 |_+1,.im d=>some d
 |n+1,.agg z=>(Aw (bk h n) z).map .agg
 |n+1,.tup z=>(Aw (bk h n) z).map .tup
 |n+1,.own o=>Lu (bk h n) (h o)
 |_+1,.mp o=>M7 (h o)
 |n+1,.ptr o off=>(dV (bk h n) off (h o)).map .ref
 |n+1,.clo f a c=>Py f (Aw (bk h n) a) (Aw (bk h n) c)
 |_+1,.any=>none
 |_+1,.eptr _ _ _=>none
 |_+1,.ch _=>none
 |_+1,.it _=>none
 |_+1,.osl _ _ _=>none
def Kb(ds:Option (List D)):Option PK:=ds.map .ptr
def EE(d:Option D):Option PK:=d.map .val
def M8(off:Nat):Option (List D)->Option (List D)
 |some r=>some (r.drop off)
 |none=>none
def YT(i off:Nat):Option Ap->Option (List D)
 |some (_,.arr _ _ rows)=>M8 off rows[i]?
 |_=>none
def DX(h:HpT):AV->Option PK
 | .im d=>some (GH d)
 | .ptr o off=>Kb (dV (bk h 8) off (h o))
 | .own o=>EE (bk h 9 (.own o))
 | .mp o=>EE (bk h 9 (.mp o))
 | .agg z=>EE (bk h 9 (.agg z))
 | .tup z=>EE (bk h 9 (.tup z))
 | .clo f a c=>EE (bk h 9 (.clo f a c))
 | .any=>none
 | .eptr o i off=>Kb (YT i off (h o))
 | .ch _=>none
 | .it _=>none
 | .osl _ _ _=>none
def HF:Option PK->Option (List PK)->Option (List PK)
 |some p,some z=>some (p::z)
 |some _,none=>none
 |none,_=>none
def Co(h:HpT):List AV->Option (List PK)
 |[]=>some []
 |x::r=>HF (DX h x) (Co h r)
def IV(f:AV->List Nat):Option Ap->List Nat
 |some (_,.cells _ z)=>z.flatMap f
 |some (_,.arrA _ _ rows)=>rows.flatMap λr=>r.flatMap f
 |_=>[]
def Aa(h:HpT):Nat->AV->List Nat
 |0,_=>[]
 |n+1,.agg z=>z.flatMap (Aa h n)
 |n+1,.tup z=>z.flatMap (Aa h n)
 |n+1,.own o=>o::IV (Aa h n) (h o)
 |_+1,.mp o=>[o]
 |n+1,.ptr o _=>o::IV (Aa h n) (h o)
 |n+1,.clo _ a c=>a.flatMap (Aa h n)++c.flatMap (Aa h n)
 |_+1,.eptr o _ _=>[o]
 |_+1,_=>[]
def Es(h:HpT)(xs:List AV):List Nat:=xs.flatMap (Aa h 9)
def AD.froz(S:AD):AD:=⟨S.ρ,λb=>S.ok b\/ ∃o e l,S.h o=some e/\S.ρ o=some l/\l.b=b,λo=>(S.h o).map λe=>(false,e.2),S.w⟩
def pS{S:AD}{o:Nat}{e':Ap}(h:S.froz.h o=some e'): ∃e,S.h o=some e/\e'=(false,e.2):=by
 simp only[AD.froz,Dx] at h;obtain⟨e,z,rfl⟩:=h;exact⟨e,z,rfl⟩
def jL(S:AD):Ck (λ_=>True) S S.froz:=by
 refine⟨λb Q=>⟨.inl Q,rfl⟩,λo _ e' z=> ?_⟩;obtain⟨e,O,rfl⟩:=pS z;exact⟨e,O,rfl,rfl,rfl⟩
def eZ(S:AD):Bn:=⟨S.w,λ_=>False,S.froz.ok,0,λ_=>none,λ_=>none,[]⟩
def qX{C:Bn}{S:AD}(hW:Wf C S):Wf (eZ S) S.froz:=by
 refine⟨rfl,rfl,rfl,BN _,BN _,λ_ _ _=>rfl,λ_ O=>O,λ_ O=> .inl O,?_,?_,?_,?_,hW.gp.mono λb o O ho=>⟨⟨.inl O,λh=>h.elim⟩,ho⟩⟩
 .rintro b (O|⟨o,e,l,Q,h2,rfl⟩)
  .exact hW.oks b O
  .exact (hW.loc o e l Q h2).1
 .intro o e' z;obtain⟨e,Q,rfl⟩:=pS z;exact Im (jL S) (λ_ _=>rfl) _ (λ_ _=>trivial) (hW.obj o e Q)
 .intro o e' l z Z;obtain⟨e,Q,rfl⟩:=pS z;exact⟨(hW.loc o e l Q Z).1,.inl (.inr ⟨o,e,l,Q,Z,rfl⟩)⟩
 .intro o o' e e' l l' he z _ _ _ hf;obtain⟨x,_,rfl⟩:=pS he;obtain⟨x',_,rfl⟩:=pS z;simp at hf
section
variable {C:Bn}{S:AD}{h:HpT}
def Qql(hW:Wf C S){f:AV->Option D}{g:AV->List Nat}(hf: ∀x d v,(∀m∈g x,S.h m=h m)->f x=some d->Ab S x v->rd S.froz.ok S.froz.hp d v)
 {o off:Nat}{ds:List D}{v:Value}(h1:S.h o=h o)(hg: ∀m∈IV g (h o),S.h m=h m)(hd:dV f off (h o)=some ds)(O:Ab S (.ptr o off) v):
 ∃b p vs T fr,v= .pointer (some ⟨b,p,none⟩)/\S.froz.ok b/\S.froz.hp b=some (.cells vs T fr)/\rdp S.froz.ok S.froz.hp ds (vs.toList.drop p):=by
 have hL: ∀(cs:List AV) (ds:List D) (vs:LVa),(∀m∈cs.flatMap g,S.h m=h m)->Aw f cs=some ds->CO S cs vs->rdp S.froz.ok S.froz.hp ds vs:=by
  intro cs;induction cs with
  |nil=>
   intro ds vs _ hd _;simp only[Aw,AS] at hd;subst hd;simp only[rdp]
  |cons x cs ih=>
   intro ds vs hh hd O;simp only[Aw] at hd;simp only[CO] at O;obtain⟨v,r,rfl,h1,h2⟩:=O;split at hd
   .rename_i y ys hy aa;obtain rfl:=AJ hd;simp only[rdp];exact⟨v,r,rfl,hf x y v (λm hm=>hh m (by rw[Lz];exact HR _ hm)) hy h1,ih ys r (λm hm=>hh m (by rw[Lz];exact Xh _ hm)) aa h2⟩
   .cases hd
 simp only[Ab] at O;obtain⟨_,O⟩:=O;rw[<-h1] at hd hg;cases he:S.h o with
 |none=>rw[he] at hd;cases hd
 |some e=>
  obtain⟨l,hl,rfl⟩:=O e he;have Z:S.froz.ok l.b:= .inr ⟨o,e,l,he,hl,rfl⟩;obtain⟨mu,e⟩:=e;rw[he] at hd hg;have z:=hW.obj o _ he;rw[hl] at z;cases e with
  |cells T cs=>
   simp only[dV] at hd;simp only[Au] at z;obtain⟨lc,vs,h3,h4,h5,h6⟩:=z;cases h3;refine⟨l.b,l.p+off,vs,T,(0,0),rfl,Z,h5,?_⟩;rw[h4,Je];simp only[IV] at hg;rcases ZeP off cs.length with Q|Q
   .refine hL _ _ _ (λm hm=>hg m ?_) hd (pG off cs _ (Yk _ _ h6) Q);obtain⟨x,k1,k2⟩:=FK.1 hm;exact FK.2 ⟨x,ZeV k1,k2⟩
   .rw[Bm Q] at hd;simp only[Aw,AS] at hd;subst hd;simp only[rdp]
  |view cs=>
   simp only[dV,AS] at hd;subst hd;simp only[Au] at z;obtain⟨lc,vs,T,fr,h3,h5,h6⟩:=z;cases h3;refine⟨l.b,l.p+off,vs,T,fr,rfl,Z,h5,?_⟩;have Q:=WQ (jL S).ok _ _ h6;rw[<-FW];rcases ZeP off cs.length with h|h
   .exact QY off cs _ Q h
   .rw[Bm h];simp only[rdp]
  |_=>cases hd
def eP(hW:Wf C S): ∀(n:Nat) (x:AV) (d:D) (v:Value),(∀m∈Aa h n x,S.h m=h m)->bk h n x=some d->Ab S x v->rd S.froz.ok S.froz.hp d v:=by
 intro n;induction n with
 |zero=>intro x d v _ hd;simp[bk] at hd
 |succ n ih=>
  have Z: ∀(cs:List AV) (ds:List D) (vs:LVa),(∀m∈cs.flatMap (Aa h n),S.h m=h m)->Aw (bk h n) cs=some ds->AX S cs vs->rdl S.froz.ok S.froz.hp ds vs:=by
   intro cs;induction cs with
   |nil=>
    intro ds vs _ hd z;simp only[Aw,AS] at hd;subst hd;simpa only[AX,rdl] using z
   |cons x cs ac=>
    intro ds vs Q hd z;simp only[Aw] at hd;simp only[AX] at z;obtain⟨v,r,rfl,h1,h2⟩:=z;split at hd
    .rename_i y ys hy ab;obtain rfl:=AJ hd;simp only[rdl];exact⟨v,r,rfl,ih x y v (λm hm=>Q m (by rw[Lz];exact HR _ hm)) hy h1,ac ys r (λm hm=>Q m (by rw[Lz];exact Xh _ hm)) ab h2⟩
    .cases hd
  have hp: ∀(cs:List AV) (ds:List D) (vs:LVa),(∀m∈cs.flatMap (Aa h n),S.h m=h m)->Aw (bk h n) cs=some ds->CO S cs vs->rdp S.froz.ok S.froz.hp ds vs:=by
   intro cs;induction cs with
   |nil=>
    intro ds vs _ hd z;simp only[Aw,AS] at hd;subst hd;simp only[rdp]
   |cons x cs ac=>
    intro ds vs Q hd z;simp only[Aw] at hd;simp only[CO] at z;obtain⟨v,r,rfl,h1,h2⟩:=z;split at hd
    .rename_i y ys hy ab;obtain rfl:=AJ hd;simp only[rdp];exact⟨v,r,rfl,ih x y v (λm hm=>Q m (by rw[Lz];exact HR _ hm)) hy h1,ac ys r (λm hm=>Q m (by rw[Lz];exact Xh _ hm)) ab h2⟩
    .cases hd
  have hr: ∀(k:Nat) (rs:List (List AV)) (ds:List (List D)) (vs:LVa),(∀m∈rs.flatMap (λr=>r.flatMap (Aa h n)),S.h m=h m)->Aw (Aw (bk h n)) rs=some ds->BQ S k rs vs->rdr S.froz.ok S.froz.hp k ds vs/\ds.length=rs.length:=by
   intro k rs;induction rs with
   |nil=>
    intro ds vs _ hd _;simp only[Aw,AS] at hd;subst hd;exact⟨by simp only[rdr],rfl⟩
   |cons x rs ac=>
    intro ds vs Q hd z;simp only[Aw] at hd;simp only[BQ] at z;split at hd
    .rename_i y ys hy ab;obtain rfl:=AJ hd;obtain⟨k1,k2⟩:=ac ys _ (λm hm=>Q m (by rw[Lz];exact Xh _ hm)) ab z.2.2;refine⟨?_,by simp[k2]⟩;simp only[rdr];exact⟨(jJ _ _ hy).trans z.1,hp x y _ (λm hm=>Q m (by rw[Lz];exact HR _ hm)) hy z.2.1,k1⟩
    .cases hd
  intro x d v Q hd z;cases x with
  |im d'=>
   simp only[bk,AS] at hd;subst hd;simp only[Ab] at z;exact HK (jL S).ok _ _ z
  |agg cs=>
   simp only[bk,Dx] at hd;obtain⟨ds,h1,rfl⟩:=hd;simp only[Ab] at z;obtain⟨vs,rfl,h2⟩:=z;simp only[rd];exact⟨vs,rfl,Z cs ds _ Q h1 h2⟩
  |tup cs=>
   simp only[bk,Dx] at hd;obtain⟨ds,h1,rfl⟩:=hd;simp only[Ab] at z;obtain⟨vs,rfl,h2⟩:=z;simp only[rd];exact⟨vs,rfl,Z cs ds _ Q h1 h2⟩
  |own o=>
   simp only[Aa,B0] at Q;have h1:=Q o (.inl rfl);simp only[bk] at hd;simp only[Ab] at z;rw[<-h1] at hd Q;cases he:S.h o with
   |none=>rw[he] at hd;cases hd
   |some e=>
    have z:=z.2 e he;have O:=hW.obj o _ he;obtain⟨mu,e⟩:=e;rw[he] at hd Q;have ag: ∀l,S.ρ o=some l->S.froz.ok l.b:=λl Z=> .inr ⟨o,_,l,he,Z,rfl⟩
    have ah:=jL S;cases e with
    |arr T k rows=>
     simp only[Lu,AS] at hd;subst hd;simp only[Au] at O;simp only[rd];cases Z:S.ρ o with
     |none=>rw[Z] at z O;exact .inl ⟨.inl z,O.2⟩
     |some l=>
      rw[Z] at z O;obtain⟨h0,h2,vs,h3,h4,h5⟩:=O;exact .inr ⟨l.b,l.p,l.cap,vs,T,(0,0),z,auSi,h2,h0,ag l Z,h3,dD ah.ok _ _ _ h5⟩
    |arrA T k rows=>
     simp only[Lu,Dx] at hd;obtain⟨ds,hd,rfl⟩:=hd;simp only[Au] at O;simp only[rd];have aa:=jJ _ _ hd;cases Z:S.ρ o with
     |none=>
      rw[Z] at z O;obtain⟨_,O⟩:=O;subst O;exact .inl ⟨.inl z,Sw (by simpa using aa)⟩
     |some l=>
      rw[Z] at z O;obtain⟨h0,h2,vs,h3,h4,h5⟩:=O;obtain⟨k1,k2⟩:=hr k rows ds _ (λm hm=>Q m (.inr (by simpa only[IV] using hm))) hd h5;simp only[Ad.len] at z;exact .inr ⟨l.b,l.p,l.cap,vs,T,(0,0),by rw[aa];exact z,auSi,by rw[aa];exact h2,by rw[aa];exact h0,ag l Z,h3,k1⟩
    |_=>cases hd
  |mp o=>
   have h1:=Q o (by simp[Aa]);simp only[bk] at hd;simp only[Ab] at z;rw[<-h1] at hd;cases he:S.h o with
   |none=>rw[he] at hd;cases hd
   |some e=>
    obtain⟨l,Z,rfl⟩:=z.2 e he;have O:=hW.obj o _ he;obtain⟨mu,e⟩:=e;rw[he] at hd;cases e with
    |map kt es=>
     simp only[M7,AS] at hd;subst hd;rw[Z] at O;simp only[Au] at O;obtain⟨lc,af,ad,h2,h3,h4,h5,h6⟩:=O;cases h2;simp only[rd];exact⟨l.b,af,ad,rfl,h3,.inr ⟨o,_,l,he,Z,rfl⟩,h4,Mj (jL S).ok _ _ h5,h6⟩
    |_=>cases hd
  |ptr o off=>
   simp only[Aa,B0] at Q;simp only[bk,Dx] at hd;obtain⟨ds,hd,rfl⟩:=hd;simp only[rd];exact Qql hW (g:=Aa h n) (λx d v h1 h2 h3=>ih x d v h1 h2 h3) (Q o (.inl rfl)) (λm hm=>Q m (.inr hm)) hd z
  |clo f a c=>
   simp only[Aa,BO] at Q;simp only[bk] at hd;cases ha:Aw (bk h n) a with
   |none=>rw[ha] at hd;cases hd
   |some da=>
    cases hcc:Aw (bk h n) c with
    |none=>rw[ha,hcc] at hd;cases hd
    |some dc=>
     rw[ha,hcc] at hd;simp only[Py,AS] at hd;subst hd;simp only[Ab] at z;obtain⟨va,vc,rfl,h3,h4⟩:=z;simp only[rd];exact⟨va,vc,rfl,Z a da _ (λm hm=>Q m (.inl hm)) ha h3,Z c dc _ (λm hm=>Q m (.inr hm)) hcc h4⟩
  |_=>simp[bk] at hd
def wW(hW:Wf C S){x:AV}{p:PK}{v:Value}(Q: ∀m∈Aa h 9 x,S.h m=h m)(hp:EE (bk h 9 x)=some p)(O:Ab S x v):Jr S.froz p v:=by
 simp only[EE,Dx] at hp;obtain⟨d,z,rfl⟩:=hp;simp only[Jr];exact eP hW 9 x d v Q z O
def Px(hW:Wf C S){o i off:Nat}{ds:List D}{v:Value}(h1:S.h o=h o)(hd:YT i off (h o)=some ds)(O:Ab S (.eptr o i off) v):
 ∃b p Q T fr,v= .pointer (some ⟨b,p,none⟩)/\S.froz.ok b/\S.froz.hp b=some (.cells Q T fr)/\rdp S.froz.ok S.froz.hp ds (Q.toList.drop p):=by
 simp only[Ab] at O;obtain⟨_,O⟩:=O;rw[<-h1] at hd;cases he:S.h o with
 |none=>rw[he] at hd;cases hd
 |some e=>
  obtain⟨l,hl,rfl⟩:=O e he;have aa:S.froz.ok l.b:= .inr ⟨o,e,l,he,hl,rfl⟩;obtain⟨mu,e⟩:=e;rw[he] at hd;have z:=hW.obj o _ he;rw[hl] at z;cases e with
  |arr T k rows=>
   simp only[YT] at hd;cases hr:rows[i]? with
   |none=>rw[hr] at hd;cases hd
   |some r=>
    rw[hr] at hd;simp only[M8,AS] at hd;subst hd;simp only[Au] at z;obtain⟨_,_,Q,h5,_,h6⟩:=z;obtain⟨g1,g2⟩:=gY rows _ i h6 hr;refine⟨l.b,l.p+i*k+off,Q,T,(0,0),rfl,aa,h5,?_⟩;have h7:=WQ (jL S).ok _ _ g2;rw[FW] at h7;rcases ZeP off r.length with Z|Z
    .have:=QY off r _ h7 Z
     rwa [FW] at this
    .rw[Bm Z];simp only[rdp]
  |_=>cases hd
def Va(hW:Wf C S){x:AV}{p:PK}{v:Value}(z: ∀m∈Aa h 9 x,S.h m=h m)(hp:DX h x=some p)(O:Ab S x v):Jr S.froz p v:=by
 cases x with
 |im d=>
  simp only[DX,AS] at hp;subst hp;simp only[Ab] at O;exact Qyv (qX hW) (HK (jL S).ok d v O)
 |ptr o off=>
  simp only[Aa,B0] at z;simp only[DX,Kb,Dx] at hp;obtain⟨ds,Q,rfl⟩:=hp;obtain⟨b,q,vs,T,fr,Z,h3,h4,h5⟩:=Qql hW (g:=Aa h 8) (λx d v Q Z h3=>eP hW 8 x d v Q Z h3) (z o (.inl rfl)) (λm hm=>z m (.inr hm)) Q O;simp only[Jr];exact⟨b,q,vs,T,fr,Z,(qX hW).oks b h3,h4,h5⟩
 |eptr o i off=>
  simp only[Aa,B0,D2,Rl] at z;simp only[DX,Kb,Dx] at hp;obtain⟨ds,Q,rfl⟩:=hp;obtain⟨b,q,vs,T,fr,Z,h3,h4,h5⟩:=Px hW (z o rfl) Q O;simp only[Jr];exact⟨b,q,vs,T,fr,Z,(qX hW).oks b h3,h4,h5⟩
 |own o=>exact wW hW z hp O
 |mp o=>exact wW hW z hp O
 |agg cs=>exact wW hW z hp O
 |tup cs=>exact wW hW z hp O
 |clo f a c=>exact wW hW z hp O
 |_=>cases hp
def Qtx(hW:Wf C S): ∀(xs:List AV) (ps:List PK) (vs:LVa),(∀m∈Es h xs,S.h m=h m)->Co h xs=some ps->AX S xs vs->FQ S.froz ps vs
 |[],ps,vs,_,hp,z=>by
  simp only[Co,AS] at hp;subst hp;simp only[AX] at z;simp only[FQ];exact z
 |x::xs,ps,vs,O,hp,z=>by
  simp only[Co] at hp;simp only[AX] at z;obtain⟨v,r,rfl,Q,Z⟩:=z;cases hx:DX h x with
  |none=>rw[hx] at hp;cases hp
  |some p=>
   cases hr:Co h xs with
   |none=>rw[hx,hr] at hp;cases hp
   |some qs=>
    rw[hx,hr] at hp;simp only[HF,AS] at hp;subst hp;simp only[FQ];refine⟨v,r,rfl,Va hW (λm hm=>O m ?_) hx Q,Qtx hW xs qs r (λm hm=>O m ?_) hr Z⟩
    .simp only[Es,Lz];exact HR _ hm
    .simp only[Es,Lz];exact Xh _ hm
end
def QQ{P:Program}(HM:P.follows .mixedOrders=true){V:DK}(hV:Ls P V){g:FuncId}{fn:Func}{c:Code}(hf:P.funcs[g]? =some fn)(hb:fn.body=some c)(ab:EW fn.ntmps c=true)
 {ps:List PK}(ao:ps.length<=fn.ntmps){R:D->Prop}
 (hk:DH P V c (eC P fn.results.toList R) ⟨entry 0 (D7 0 ps),D6 0 ps,Cm ps⟩)
 {C:Bn}{S:AD}{vs:Array Value}{RR:Ending->World->Prop}(hW:Wf C S)(af:FQ S ps vs.toList)
 (ac: ∀(v:Value) (O:Bn) (S1:AD) (d:D),O.w=S.w->O.ok=S.ok->(∀b,¬O.M b)->Wf O S1->R d->rd (UO O S1) S1.hp d v->RR (.returned v) S1.w):Calls P g vs S.w RR:=by
 refine calls_of_wp hf hb ?_;have an:vs.size=(D7 0 ps).length:=by rw[dA];simpa using af.len
 obtain⟨ls,ad,hcl⟩:=qG ps vs.toList 0 af
 let S0:AD:=⟨ls,S.ok,hget (D6 0 ps),S.w⟩
 let O:Bn:=⟨S.w,λ_=>False,S.ok,0,λ_=>none,λ_=>none,[]⟩
 have ai:Wf O S0:=by
  refine⟨rfl,rfl,rfl,BN _,BN _,λ_ _ _=>rfl,λ_ hb=>hb,λ_ hb=> .inl hb,hW.oks,?_,?_,?_,hW.glN λ_ h=>h.elim⟩
  .intro n e z;obtain⟨l,Q,_,h3⟩:=ad n e z;have h4:S0.ρ n=some l:=Q;rw[h4];obtain⟨_,cs,rfl⟩:=Hs 0 ps n e z;simp only[Au] at h3⊢;exact h3
  .intro n e l z hl;obtain⟨l',Q,h2,h3⟩:=ad n e z;have h4:S0.ρ n=some l':=Q;rw[h4] at hl;obtain rfl:=AJ hl;obtain⟨_,cs,rfl⟩:=Hs 0 ps n e z;exact⟨h2,.inr rfl⟩
  .intro n n' e e' l l' z ak hl av au am;obtain⟨_,cs,rfl⟩:=Hs 0 ps n e z;obtain⟨_,aq,rfl⟩:=Hs 0 ps n' e' ak;simp at am
 have aj:Cg O fn.ntmps ⟨entry 0 (D7 0 ps),D6 0 ps,Cm ps⟩ {tmps:=vs++Array.replicate (fn.ntmps - vs.size) undef,defers:=[]} S.w:=by
  have Z:AX S0 (D7 0 ps) vs.toList:=hcl S0 rfl rfl (λn _=>⟨rfl,rfl⟩);refine⟨S0,rfl,ai,λn=>rfl,?_,?_,?_,by simp;rw[dA] at an;omega,rfl,Ir _,λo ho=>absurd ho (zN _)⟩
  .intro t;have Q:=pD (S:=S0) (D7 0 ps) vs.toList 0 t Z;simp only[Ir,Ff,YE] at Q
   have:({tmps:=vs++Array.replicate (fn.ntmps - vs.size) undef,defers:=[]}:Act).eval (.tmp t)=(vs.toList[t]?).getD undef:=by
    simp only[Act.eval,Ec,rK,YM];by_cases ht:t<vs.size
    .simp[ht]
    .simp only[ht,HS]
     have:vs[t]? =none:=eH auOm
     simp only[YK,this]
     split<;>rfl
   rw[this];exact Q
  .intro t m hm;exact wS 0 ps (Cm ps) auOm m (pL (D7 0 ps) 0 t m hm)
  .intro n e z;obtain⟨Q,cs,rfl⟩:=Hs 0 ps n e z;exact⟨by show n<Cm ps;omega,by simp[Ad.nms]⟩
 refine wp_mono (Qo4 HM (yR hV) c ab _ _ _ _ hk aj) ?_;have fin: ∀(s:Az) (a:Act) (w:World),LV P fn.results.toList R s->Cg O fn.ntmps s a w->a.defers=[]/\ ∃v,(results fn a.tmps).run P w= .ok v w/\RR (.returned v) w:=by
  rintro s a w hr ⟨S1,rfl,hc⟩;unfold LV at hr;cases hxs:Aw (Lo P s) fn.results.toList with
  |none=>rw[hxs] at hr;exact hr.elim
  |some xs=>
   rw[hxs] at hr;simp only[NR] at hr;obtain⟨v,ag,aa⟩:=wA hc hxs;refine⟨hc.defers,v,ag,?_⟩;have ah:hget s.h=S1.h:=(funext hc.h).symm;rw[ah] at hr;obtain⟨d,Q,h2⟩:=Qzf (λ_ h=>h) hc.wf hr aa;exact ac v O S1 d rfl rfl (λ_ h=>h) hc.wf Q h2
 intro e a w z;cases e<;>simp only[H3] at z<;>simp only[bodyPost]
 .obtain⟨s,hs,hc⟩:=z;exact fin s a w hs hc
 .obtain⟨s,hs,_⟩:=z;exact hs.elim
 .obtain⟨s,hs,hc⟩:=z;exact fin s a w hs hc
def RV{A:Type}(ar:List PK->Option A)(pre:A->Prop)(re:A->D)(u:List Nat)(K:Al):Option (List PK)->Prop
 |some z=>DM (λa=>pre a/\K (.im (re a)) {use:=u}) (ar z)
 |none=>False
def Lj{A:Type}(ar:List PK->Option A)(pre:A->Prop)(re:A->D):A8:=λargs h _ K=>RV ar pre re (Es h args) K (Co h args)
def AO{B:Type}(rc:D->Option B)(b:B)(d:D):Prop:=rc d=some b
def Quy{P:Program}{g:FuncId}(ag:Hu P g=true)
 {A B:Type}{ar:List PK->Option A}{ae:A->List PK}(aw: ∀ps a,ar ps=some a->Cu ps (ae a)){rc:D->Option B}{re:B->D}(ay: ∀d b,rc d=some b->Le d (re b))
 {pre:A->Prop}{f:A->B}
 (aj: ∀a,pre a-> ∀{C:Bn} {S:AD} {vs:Array Value} {RR:Ending->World->Prop},Wf C S->FQ S (ae a) vs.toList->
  (∀(v:Value) (C0:Bn) (S1:AD) (d:D),C0.w=S.w->C0.ok=S.ok->(∀b,¬C0.M b)->Wf C0 S1->AO rc (f a) d->rd (UO C0 S1) S1.hp d v->RR (.returned v) S1.w)->Calls P g vs S.w RR):
 Ij P g (Lj ar pre λa=>re (f a)):=by
 intro args h nx K z;unfold Lj at z;cases hp:Co h args with
 |none=>rw[hp] at z;exact z.elim
 |some ps=>
  rw[hp] at z;simp only[RV] at z;cases ha:ar ps with
  |none=>rw[ha] at z;exact z.elim
  |some a=>
   rw[ha] at z;simp only[DM] at z;obtain⟨ai,hK⟩:=z;refine⟨pR ag,_,_,?_,hK⟩;intro C S vs RR hW ak am an ac ah;have ax:=Qtx hW args ps vs.toList (λm hm=>ak m (HR _ hm)) hp ac;have au:=qX hW;refine aj a ai (S:=S.froz) au ((aw ps a ha).c ax) ?_;intro v C0 S1 d O af ao aa hR az;have O:C0.w=S.w:=O;have af:C0.ok=S.froz.ok:=af;have Z: ∀b,b<S.w.heap.size->S1.w.heap[b]? =S.w.heap[b]? :=λb Q=>by
    have:=aa.keep b (by rw[O];exact Q) (ao b)
    rw[O] at this;exact this
   have ad:S.w.heap.size<=S1.w.heap.size:=by have:=aa.size;rw[O] at this;exact this
   let S':AD:={S with ok:=λb=>S.ok b\/UO C0 S1 b,w:=S1.w}
   have hp':Ck (λ_=>True) S S':=⟨λb Q=>⟨.inl Q,Z b (hW.oks b Q)⟩,λo _ e' av=>⟨e',av,rfl,rfl,rfl⟩⟩;have ab: ∀b,UO C0 S1 b->S.w.heap.size<=b:=λb Q=>by have:=Q.1;rw[O] at this;exact this
   have aq:Wf C S':=by
    refine⟨?_,?_,?_,Gu hW.dr (by have:=aa.dr;rw[O] at this;exact this),Gu hW.size ad,?_,λb Q=> .inl (hW.ok0 b Q),?_,?_,?_,?_,hW.inj,hW.gl⟩
    .exact aa.os.trans (by rw[O];exact hW.os)
    .exact aa.tape.trans (by rw[O];exact hW.tape)
    .exact aa.output.trans (by rw[O];exact hW.output)
    .intro b Q hM;exact (Z b (ET Q hW.size)).trans (hW.keep b Q hM)
    .rintro b (Q|Q)
     .exact hW.ok1 b Q
     .exact .inr (.inl (Gu hW.size (ab b Q)))
    .rintro b (Q|Q)
     .exact ET (hW.oks b Q) ad
     .exact Q.2.1
    .intro o e he;exact Im hp' (λlc hl=>Z lc.b (hW.loc o e lc he hl).1) _ (λ_ _=>trivial) (hW.obj o e he)
    .intro o e l he hl;obtain⟨h2,h3⟩:=hW.loc o e l he hl;refine⟨ET h2 ad,?_⟩;cases hm:e.1 with
     |false=>
      rw[hm] at h3;simp only[BL,HS] at h3⊢;exact h3.imp (λh=> .inl h) id
     |true=>
      rw[hm] at h3;simp only[Ff] at h3⊢;refine⟨?_,h3.2⟩;rintro (h|h)
      .exact h3.1 h
      .have:=ab _ h;omega
   refine ah v S' aq ?_ ⟨hp'.ok,λo _=>hp'.nm o trivial⟩ ?_
   .show S.h=_;funext m;simp[BA.appf,hget]
   .simp only[Ab];have h9:=ay _ _ hR _ _ _ az;exact HK (λb Q=>⟨.inr Q,rfl⟩) _ _ h9
def Qbn{P:Program}(HM:P.follows .mixedOrders=true){V:DK}(hV:Ls P V){g:FuncId}{fn:Func}{c:Code}(hf:P.funcs[g]? =some fn)(hb:fn.body=some c)(O:EW fn.ntmps c=true)(z:Hu P g=true)
 {A B:Type}{ar:List PK->Option A}{ae:A->List PK}(aa: ∀ps a,ar ps=some a->Cu ps (ae a)){n:Nat}(hn: ∀a,(ae a).length=n)(ab:n<=fn.ntmps){rc:D->Option B}{re:B->D}(ad: ∀d b,rc d=some b->Le d (re b))
 {pre:A->Prop}{f:A->B}
 (hk: ∀a,pre a->DH P V c (eC P fn.results.toList (AO rc (f a))) ⟨entry 0 (D7 0 (ae a)),D6 0 (ae a),Cm (ae a)⟩):
 Ij P g (Lj ar pre λa=>re (f a)):=
 Quy z aa ad (λa Z _ _ _ _ hW ac Q=>QQ HM hV hf hb O (by rw[hn];exact ab) (hk a Z) hW ac Q)
end Go.Ae
