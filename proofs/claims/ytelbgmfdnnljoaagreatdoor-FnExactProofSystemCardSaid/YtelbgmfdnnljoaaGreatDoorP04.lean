/- Lemmas. Conditions: none. -/
import Derived.Test.YtelbgmfdnnljoaaGreatDoorP03
import Derived.Laws.BytesArg
set_option linter.all false
set_option maxHeartbeats 8000000
set_option maxRecDepth 100000
namespace Go.Ae
def lS{ok:Nat->Prop}{hp:Nat->Option Obj}: ∀(rows:List (List D)) (G:List Int) (L:List Value),Hq rows=some G->rdr ok hp 1 rows L->rows.length=G.length/\L.take G.length=G.map (Value.int .u8)
 |[],G,L,h,_=>by
  simp only[Hq,AM] at h;subst h;simp
 |row::r,G,L,h,Q=>by
  unfold Hq at h;split at h
  .rename_i z;cases z
  .rename_i n r' z;cases z;simp only[Dl] at h;obtain⟨ms,h1,rfl⟩:=h;simp only[rdr,rdp,rd] at Q;obtain⟨_,⟨v,L1,rfl,rfl,_⟩,h3⟩:=Q;obtain⟨Z,O⟩:=lS r ms _ h1 h3;simp only[Lg,Gf] at O;refine⟨by simp[Z],?_⟩;simp[O]
  .cases h
section
variable {P:Program}{tm:List (Nat×AV)}{h:Nat->Option Am}{nx:Nat}{o:Oper}{K:Ah}
def Yg{x y:Operand}{c:Call}(ho:o.op= .call c)(G:c.callee= .builtin .max)(z:c.args= #[x,y])(O:ML K (Ap tm x) (Ap tm y)):BM P tm h nx o K:=by
 have Z:x∈o.op.operands:=by rw[ho];simp[Op.operands,Call.operands,z,G]
 have aa:y∈o.op.operands:=by rw[ho];simp[Op.operands,Call.operands,z,G]
 cases hx:Ap tm x<;>rw[hx] at O<;>try exact O.elim
 rename_i d;cases hy:Ap tm y<;>rw[hy] at O<;>try (cases d<;>exact O.elim)
 rename_i d';cases d<;>cases d'<;>try exact O.elim
 rename_i k a k' b;simp only[ML] at O;obtain⟨rfl,O⟩:=O;refine⟨_,_,B6.pure (u:=[]) ?_,O⟩;intro C S ac hW _ Q;have h1:=Q x Z;have h2:=Q y aa;rw[hx] at h1;rw[hy] at h2;simp only[Aa,rd] at h1 h2;refine⟨.int k (max a b),?_,by simp only[Aa,rd]⟩;simp only[execOp,ho,resolve,G,z,Sem.run_bind,Sem.run_pure,Result.andThen_ok,invoke,builtin];have e:(if a<b then b else a)=max a b:=by omega
 simp[h1,h2,Builtin.max_,Builtin.max2,e]
def Yh{x y:Operand}{c:Call}(ho:o.op= .call c)(G:c.callee= .builtin .min)(z:c.args= #[x,y])(O:MM K (Ap tm x) (Ap tm y)):BM P tm h nx o K:=by
 have Z:x∈o.op.operands:=by rw[ho];simp[Op.operands,Call.operands,z,G]
 have aa:y∈o.op.operands:=by rw[ho];simp[Op.operands,Call.operands,z,G]
 cases hx:Ap tm x<;>rw[hx] at O<;>try exact O.elim
 rename_i d;cases hy:Ap tm y<;>rw[hy] at O<;>try (cases d<;>exact O.elim)
 rename_i d';cases d<;>cases d'<;>try exact O.elim
 rename_i k a k' b;simp only[MM] at O;obtain⟨rfl,O⟩:=O;refine⟨_,_,B6.pure (u:=[]) ?_,O⟩;intro C S ac hW _ Q;have h1:=Q x Z;have h2:=Q y aa;rw[hx] at h1;rw[hy] at h2;simp only[Aa,rd] at h1 h2;refine⟨.int k (min a b),?_,by simp only[Aa,rd]⟩;simp only[execOp,ho,resolve,G,z,Sem.run_bind,Sem.run_pure,Result.andThen_ok,invoke,builtin];have e:(if b<a then b else a)=min a b:=by omega
 simp[h1,h2,Builtin.min_,Builtin.min2,e]
def OZ{Q T:TypeId}{x:Operand}(ho:o.op= .convert Q T x)(ht:isStr (PW (tI P T))=true)(z:IG P h K (Ap tm x) (tI P Q)):BM P tm h nx o K:=by
 cases hT:tI P T with
 |none=>rw[hT] at ht;cases ht
 |some ti=>
 rw[hT] at ht;simp only[PW,isStr] at ht;cases hf:ti.kind<;>rw[hf] at ht<;>simp only[TK.isStr,CQ] at ht;have hd:=Qh hT hf;cases hS:tI P Q with
 |none=>rw[hS] at z;exact z.elim
 |some si=>
 rw[hS] at z;simp only[IG] at z;cases hg:si.kind<;>rw[hg] at z<;>try exact z.elim
 rename_i e;have hs:=P3 hS hg;simp only[eA] at z;cases hE:tI P e with
 |none=>rw[hE] at z;exact z.elim
 |some te=>
 rw[hE] at z;simp only[PW] at z;cases hke:te.kind<;>rw[hke] at z<;>try exact z.elim
 rename_i ik;cases ik<;>try exact z.elim
 have he:=U1 hE hke;simp only[dZ] at z;cases hx:Ap tm x<;>rw[hx] at z<;>try exact z.elim
 rename_i n;simp only[dY] at z;cases hn:h n with
 |none=>rw[hn] at z;exact z.elim
 |some O=>
 rw[hn] at z;obtain⟨mu,O⟩:=O;cases O<;>try exact z.elim
 rename_i T' k rows;simp only[Rg] at z;obtain⟨rfl,z⟩:=z;cases hb:Hq rows with
 |none=>rw[hb] at z;exact z.elim
 |some ns=>
 rw[hb] at z;simp only[Lv] at z;refine⟨_,_,B6.pure (u:=[n]) ?_,z⟩;intro C S ac hW hu ab;have h1:=ab x (by rw[ho];simp[Op.operands]);rw[hx] at h1;simp only[Aa] at h1;have aa:=(hu n (by simp)).trans hn;have Z:=h1.2 _ aa;have G:=hW.obj _ _ aa;refine⟨.string (GZ ns),?_,by simp only[Aa,rd]⟩;have af:(convert Q T (ac.eval x)).run P S.w= .ok (.string (GZ ns)) S.w:=by
  cases hl:S.ρ n with
  |none=>
   rw[hl] at Z G;simp only[An] at G;simp only at Z;obtain rfl:=G.2;simp only[Hq,AM] at hb;subst hb;rw[Z,run_convert_bytes_string S.w Q T e none 0 0 hs he hd];simp[Conv.bytesToString,GZ];rfl
  |some l=>
   rw[hl] at Z G;simp only[An] at G;simp only[Ac.len] at Z;obtain⟨_,g1,vs,g2,g3,g4⟩:=G;obtain⟨e1,e2⟩:=lS rows ns _ hb g4;rw[Z,run_convert_bytes_string S.w Q T e _ _ _ hs he hd];have ad:(loadCells ⟨l.b,l.p,none⟩ rows.length).run P S.w= .ok (ns.map (Value.int .u8)).toArray S.w:=by
    rw[gQ (w:=S.w) g2 (by omega),e1,e2]
   rw[run_bytesToString S.w ⟨l.b,l.p,none⟩ rows.length l.cap ns ad,foldl_push_bytes];simp[GZ,ByteArray.empty,ByteArray.emptyWithCapacity]
   try rfl
 simp only[execOp,ho,Sem.run_bind,af];simp
def Pb{G T:TypeId}{x:Operand}(O:o.op= .convert G T x)(z:VC P h (PW (tI P T)) (Ap tm x) K (tI P G)):BM P tm h nx o K:=by
 unfold VC at z;split at z
 .rename_i Q;exact OZ O Q z
 .exact Qwv O z
end
section
variable {P:Program}{tm:List (Nat×AV)}{h:Nat->Option Am}{nx:Nat}{o:Oper}{K:Ah}
def Qalk{T:TypeId}(h:Sf P T=true): ∃z,P.underlying T=some (.interface z):=by
 unfold Sf at h;split at h
 .rename_i z G;exact⟨z,G⟩
 .cases h
def eG{w:World}{T:TypeId}{O:Array (String×TypeId)}(z:P.underlying T=some (.interface O))(d:Nat){v:Value}{b:Bool}(G:v= .nilIface/\b=true\/(∃t x,v= .iface t x)/\b=false):(Op.equalIn (d+1) T v .nilIface).run P w= .ok b w:=by
 rcases G with ⟨rfl,rfl⟩|⟨⟨t,x,rfl⟩,rfl⟩<;>simp[Op.equalIn,run_underlying z]
def Ug{op:BinOp}{T U:TypeId}{x y:Operand}{m:Nat}(ho:o.op= .binOp op T x y U)(hm:Fl y=m+4)(hk:VI P T op (Ap tm x) K):BM P tm h nx o K:=by
 obtain⟨hT,hk⟩:=hk;obtain⟨ms,hu⟩:=Qalk hT;have Z:op= .eql\/op= .neq:=by cases op<;>first|exact .inl rfl|exact .inr rfl|exact hk.elim
 have G:Qi (decide (op= .neq)) K (Ap tm x):=by rcases Z with rfl|rfl<;>exact hk
 have hy:y= .const .nilIface:=by
  cases y<;>simp only[Fl] at hm<;>try omega
  rename_i v;unfold FH at hm;split at hm<;>first|omega|rfl
 clear hk;have O: ∀b:Bool,K (.im (.bool ((decide (op= .neq)) !=b))) {}->(∀(C:AZ) (S:Ay) (v:Value),Wf C S->Aa S (Ap tm x) v->v= .nilIface/\b=true\/(∃t x,v= .iface t x)/\b=false)->BM P tm h nx o K:=by
  intro b ac hv;refine⟨_,_,B6.pure (u:=[]) ?_,ac⟩;intro C S a hW _ aa;have h1:=hv C S _ hW (aa x (by rw[ho];simp[Op.operands]));refine⟨.bool (decide (op= .neq) !=b),?_,by simp only[Aa,rd]⟩;have ab:a.eval y= .nilIface:=by rw[hy];rfl
  have hq:(Op.equal T (a.eval x) .nilIface).run P S.w= .ok b S.w:=eG hu 9999 h1;subst hy;have hg:(eqGuard op T x (.const .nilIface) (a.eval x) .nilIface).run P S.w= .ok () S.w:=by
   clear hq;generalize a.eval x=v at h1⊢;rcases h1 with ⟨rfl,_⟩|⟨⟨t,z,rfl⟩,_⟩<;>rcases Z with rfl|rfl<;>simp[eqGuard]
  have hb:(binOp op T (a.eval x) .nilIface).run P S.w= .ok (.bool (decide (op= .neq) !=b)) S.w:=by
   generalize a.eval x=v at h1 hq⊢;rcases Z with rfl|rfl
   .have:binOp .eql T v .nilIface=(do pure (.bool (<-Op.equal T v .nilIface))):=by
     rcases h1 with ⟨rfl,_⟩|⟨⟨t,z,rfl⟩,_⟩<;>rfl
    rw[this];simp[hq]
   .have:binOp .neq T v .nilIface=(do pure (.bool (!(<-Op.equal T v .nilIface)))):=by
     rcases h1 with ⟨rfl,_⟩|⟨⟨t,z,rfl⟩,_⟩<;>rfl
    rw[this];simp[hq]
  simp only[execOp,ho,ab,Sem.run_bind,hg,Result.andThen_ok,hb,Sem.run_pure]
 cases hx:Ap tm x<;>rw[hx] at G<;>try exact G.elim
 rename_i d;cases d<;>try exact G.elim
 .refine O true G ?_;intro C S v _ Q;rw[hx] at Q;simp only[Aa,rd] at Q;exact .inl ⟨Q,rfl⟩
 .refine O false G ?_;intro C S v _ Q;rw[hx] at Q;simp only[Aa,rd] at Q;obtain⟨z,hz,_⟩:=Q;exact .inr ⟨⟨_,z,hz⟩,rfl⟩
def Yd{T:TypeId}{x:Operand}(ho:o.op= .makeInterface T x)(z:Ut P T K (Ap tm x)):BM P tm h nx o K:=by
 cases hx:Ap tm x<;>rw[hx] at z<;>try exact z.elim
 rename_i d;obtain⟨Q,z⟩:=z;refine⟨_,_,B6.pure (u:=[]) ?_,z⟩;intro C S a _ _ G;have Z:=G x (by rw[ho];simp[Op.operands]);rw[hx] at Z;simp only[Aa] at Z;refine⟨.iface T (a.eval x),?_,by simp only[Aa,rd];exact⟨_,rfl,Z⟩⟩
 have:(Instr.makeInterface T (a.eval x)).run P S.w= .ok (.iface T (a.eval x)) S.w:=by
  unfold Zx at Q;split at Q
  .cases Q
  .rename_i u aa hu;have O:(underlying T).run P S.w= .ok u S.w:=by simp[underlying,hu]
   unfold Instr.makeInterface;rw[Sem.run_bind,O];cases u<;>first|rfl|exact (aa _ rfl).elim
  .cases Q
 simp[execOp,ho,this]
def Qaln{T tk te:TypeId}{x:Operand}{kt:KT}{es:List (D×D)}(ho:o.op= .range T x)(hu:P.underlying T=some (.map tk te))(hx:Ap tm x= .im (.mp kt es))
 (hk:K (.it nx) {new:=[(nx,(true,.iter none es))],cnt:=1}):BM P tm h nx o K:=by
 refine⟨_,_,B6.one (u:=[]) (ks:=[]) (.inl ⟨rfl,rfl⟩) ?_,hk⟩;intro C S a hW _ Q hnm aa;have O:=aa x (by rw[ho];simp[Op.operands]);rw[hx] at O;simp only[Aa,rd] at O;obtain⟨b,G,z,hv,g2,Z,g3,g4,g5,g6⟩:=O;have hg:(getObj b).run P S.w= .ok (.map G z) S.w:=P2 (w:=S.w) g3;have ab:(underlying T).run P S.w= .ok (.map tk te) S.w:=by simp[underlying,hu]
 refine⟨.pointer (some ⟨S.w.heap.size,0,none⟩),{S.w with heap:=S.w.heap.push (.mapIter (some b) z #[] z)},some ⟨S.w.heap.size,0,0⟩,.inl ?_,UY (w':={S.w with heap:=S.w.heap.push (.mapIter (some b) z #[] z)}) (ob:= .mapIter (some b) z #[] z) rfl rfl rfl rfl (Q rfl) (λn f hf=>hnm n f hf rfl),?_⟩
 .simp only[execOp,ho,hv,Instr.range,Sem.run_bind,ab,Result.andThen_ok,hg,Sem.run_pure];simp
 intro hp;constructor
 .simp only[An];obtain⟨p1,p2⟩:=hp.ok b Z;refine⟨_,b,G,z,#[],rfl,p1,trivial,p2.trans g3,YU rfl,g5,g6,?_⟩;have h9:G.toList.filter (λe=> !(#[]:Array Nat).contains e.born)=G.toList:=by
   rw[yQ];intro e _;simp
  rw[h9];exact KS hp.ok _ _ g4
 .simp only[Aa];exact⟨rfl,λe he=>⟨⟨S.w.heap.size,0,0⟩,by simp[Ay.one],rfl⟩⟩
end
def Hx(P:Program)(V:CT):Prop:=
 (∀(tm:List (Nat×AV)) (h:Nat->Option Am) (nx:Nat) (o:Oper) (c:Call) (f:Operand) (K:Ah),o.op= .call c->c.callee= .value f->
  (∀x,∀m∈(Ap tm x).nms,m<nx)->Qf V (D8 tm c.args.toList) h nx K (Ap tm f)->BM P tm h nx o K)/\
 ∀(tm:List (Nat×AV)) (h:Nat->Option Am) (nx:Nat) (o:Oper) (c:Call) (r:Operand) (m:String) (K:Ah),o.op= .call c->c.callee= .invoke r m->
  (∀x,∀m∈(Ap tm x).nms,m<nx)->MK P V (D8 tm c.args.toList) h nx K m (Ap tm r)->BM P tm h nx o K
def sJ{tm:List (Nat×AV)}{c:Call}{x:AV}(h:D8 tm c.args.toList=[x]): ∃a,c.args= #[a]/\Ap tm a=x:=by
 cases hc:c.args.toList with
 |nil=>rw[hc] at h;cases h
 |cons a r=>
  rw[hc] at h;cases r with
  |nil=>
   simp only[D8,Vj,and_true] at h;exact⟨a,Zg.1 (by simpa using hc),h⟩
  |cons b r=>simp[D8] at h
def RB{tm:List (Nat×AV)}{c:Call}{x y:AV}(h:D8 tm c.args.toList=[x,y]): ∃a b,c.args= #[a,b]/\Ap tm a=x/\Ap tm b=y:=by
 cases hc:c.args.toList with
 |nil=>rw[hc] at h;cases h
 |cons a r=>
  rw[hc] at h;cases r with
  |nil=>simp[D8] at h
  |cons b r=>
   cases r with
   |nil=>
    simp only[D8,Vj,and_true] at h;exact⟨a,b,Zg.1 (by simpa using hc),h.1,h.2⟩
   |cons d r=>simp[D8] at h
section
variable {P:Program}{tm:List (Nat×AV)}{h:Nat->Option Am}{nx:Nat}{o:Oper}{K:Ah}
def XZ{op:BinOp}{T U:TypeId}{x y:Operand}(G:o.op= .binOp op T x y U)(z:Za P T h op (Ap tm x) (Ap tm y) K (Fl y)):BM P tm h nx o K:=by
 cases hn:Fl y with
 |succ m=>
  rw[hn] at z;cases m with
  |zero=>exact ZR G hn (by decide) z
  |succ m=>
   cases m with
   |zero=>exact ZR G hn (by decide) z
   |succ m=>
    cases m with
    |zero=>exact ZR G hn (by decide) z
    |succ m=>exact Ug (m:=m) G hn z
 |zero=>
  rw[hn] at z;simp only[Za] at z;cases hx:Ap tm x<;>rw[hx] at z<;>try exact z.elim
  rename_i d;cases hy:Ap tm y<;>rw[hy] at z<;>try (cases d<;>exact z.elim)
  rename_i d';cases d<;>cases d'<;>try exact z.elim
  .simp only[cX] at z;exact Uk G hx hy z
  .simp only[cX] at z;cases hT:tI P T with
   |none=>rw[hT] at z;exact z.elim
   |some ti=>
    rw[hT] at z;simp only[MJ] at z;exact Ya G (Yr hT z.1) hx hy z.2
  .exact Yi G hx hy z
  .exact OW G hx hy z
def Qrc{V:CT}(HV:Hx P V){sq:Bool}(Z: ∀x,∀m∈(Ap tm x).nms,m<nx)(z:step P V sq tm h nx o.type K o.op):Wy P sq tm h nx o K:=by
 have ad: ∀x,∀m∈(Ap tm x).nms,m≠nx:=λx m hm=>Nat.ne_of_lt (Z x m hm)
 cases ho:o.op<;>rw[ho] at z<;>try exact z.elim
 case move x=>exact .inl (lL (.inl ho) z)
 case assign x=>exact .inl (Qabd ho z)
 case pick c a b=>exact .inl (Un ho z)
 case alloc T=>exact .inl (OX ho z)
 case box T x=>exact .inl (Yb ho z (λm hm=>ad x m (Qvz _ m hm)))
 case build T ps=>exact .inl (OY ho z)
 case buildSlice T n ps=>exact .inl (Qp8 ho z ad)
 case load T x=>exact .inl (Ul ho z)
 case store T x v=>exact .inl (Pj ho z)
 case nilCheck x=>exact .inl (Qvi ho z)
 case binOp op T x y U=>
  simp only[step,KI] at z;split at z
  .rename_i aa;simp only[unS,AW,PO] at aa;exact .inr ⟨aa.1,.inr (Uj ho aa.2.1 z)⟩
  .exact .inl (XZ ho z)
 case slice T x lo hi mx=>
  cases mx<;>try exact z.elim
  exact .inl (Pi ho z)
 case range T x=>exact .inl (Ph (λ_ _ _ _ hu G z=>Qaln ho hu G z) ho z)
 case makeInterface T x=>exact .inl (Yd ho z)
 case next x b=>
  cases b<;>try exact z.elim
  simp only[step] at z;cases sq with
  |false=>exact z.elim
  |true=>exact .inr ⟨rfl,.inr (Um ho z)⟩
 case entry x=>exact .inl (Pc ho z)
 case makeChan T x=>exact .inl (Qvf ho z)
 case unOp op T x=>exact .inl (Uo ho z)
 case convert S T x=>exact .inl (Pb ho z)
 case makeFunc f first capt=>
  cases f<;>try exact z.elim
  exact .inl (Yc (by simpa using z.1) ho z.2)
 case makeMap T r=>
  cases r<;>try exact z.elim
  exact .inl (Qyk ho z)
 case makeSlice T l c=>exact .inl (Qrx ho z)
 case fieldAddr T x f=>exact .inl (Qsq ho z)
 case indexAddr T x i=>exact .inl (Qsk ho z)
 case index T x i=>exact .inl (Pe ho z)
 case lookup T m k ok=>exact .inl (Qabg ho z)
 case mapUpdate T m k v=>exact .inl (Qr9 (.inl ho) z)
 case insert T m k v=>exact .inl (Qr9 (.inr ho) z)
 case extract x i=>exact .inl (Qyh ho z)
 case field U x f=>exact .inl (Pd ho z)
 case call c=>
  simp only[step] at z;cases hc:c.callee<;>rw[hc] at z<;>try exact z.elim
  case value f=>exact .inl (HV.1 tm h nx o c f K ho hc Z z)
  case invoke r m=>exact .inl (HV.2 tm h nx o c r m K ho hc Z z)
  case builtin b=>
   simp only[oV] at z;unfold Wa at z;split at z
   .rename_i x T G Q;obtain⟨a,O,ac⟩:=sJ G;have ab:c.argTypes= #[T]:=Zg.1 (by simpa using Q);cases x<;>simp only[KY] at z
    case ch q=>exact .inl (Pf ho hc O ab ac z)
    all_goals first
     |exact z.elim
     |(rw[<-ac] at z;exact Yf ho hc O ab z)
   .rename_i s x T U G Q;obtain⟨a,b,O,rfl,rfl⟩:=RB G;exact .inl (Qab5 ho hc O (Zg.1 (by simpa using Q)) z)
   .rename_i m k T af G Q;obtain⟨a,b,O,rfl,rfl⟩:=RB G;exact .inl (Qabh ho hc O Q z)
   .rename_i d s T U G Q;obtain⟨a,b,O,rfl,rfl⟩:=RB G;exact .inl (Ui ho hc O (Zg.1 (by simpa using Q)) z)
   .rename_i d T G Q;obtain⟨a,O,rfl⟩:=sJ G;exact .inl (Pa ho hc O (Zg.1 (by simpa using Q)) z)
   .rename_i x y G;obtain⟨a,b,O,rfl,rfl⟩:=RB G;exact .inl (Yg ho hc O z)
   .rename_i x y G;obtain⟨a,b,O,rfl,rfl⟩:=RB G;exact .inl (Yh ho hc O z)
   .exact z.elim
end
def Qe(P:Program)(ops:Array Oper)(i:Nat)(a:Act)(w:World)(next:Act->World->Prop):Prop:=
 ∀(b:Frame) (k:List Item) (cs:List Frame) (rest:List Nat),∃a' w',next a' w'/\Steps P (lone (b.at a (.inRegion ops (i::rest)::k)) cs w) (lone (b.at a' (.inRegion ops rest::k)) cs w')
def Op.comm:Op->Bool
 | .send _ _| .recv _ _ _=>true
 |_=>false
def JI(P:Program)(ops:Array Oper)(i:Nat)(a:Act)(w:World)(next:Act->World->Prop):Prop:=
 (∃o,ops[i]? =some o/\Region.wanted o (yielded ops a.tmps)=true/\o.wp P a w next (λ_ _ _=>False))\/((∀o,ops[i]? =some o->Go.Ae.Op.comm o.op=true)/\Qe P ops i a w next)
def Ld(P:Program)(ops:Array Oper)(Q:Act->World->Prop):List Nat->Act->World->Prop
 |[],a,w=>Q a w
 |i::z,a,w=>
  match ops[i]? with
  |none=>Ld P ops Q z a w
  |some o=>if Region.wanted o (yielded ops a.tmps) then JI P ops i a w (Ld P ops Q z) else Ld P ops Q z (a.put o.dst undef) w
section
variable {P:Program}{ops:Array Oper}{i:Nat}{o:Oper}{a:Act}{w:World}{next:Act->World->Prop}
def Qx0(ho:ops[i]? =some o)(hw:Region.wanted o (yielded ops a.tmps)=true)(h:o.wp P a w next (λ_ _ _=>False)):Qe P ops i a w next:=by
 intro b k cs rest;have Z:=stepG_op (P:=P) (b:=b) (a:=a) (k:=k) (cs:=cs) (w:=w) (rest:=rest) ho hw;have z: ∀v,(b.at a (.inRegion ops (i::rest)::k)).finish v=b.at (a.put o.dst v) (.inRegion ops rest::k):=λv=>by
  rw[Frame.finish_at,ho];rfl
 unfold Oper.wp Oper.upon at h;split at h
 .rename_i v Q G;refine⟨_,_,h,.one (step_lone_go ?_)⟩;rw[Z,<-z];simp[stepG.apply,G]
 .rename_i Q G;refine⟨_,_,h,.one (step_lone_go ?_)⟩;rw[Z,<-z];simp[stepG.apply,G]
 .rename_i d Q G;refine⟨_,_,h,.one (step_lone_go ?_)⟩;have h1:({b.at a (.inRegion ops (i::rest)::k) with defers:=d::a.defers}:Frame).finish undef=b.at ({a with defers:=d::a.defers}.put o.dst undef) (.inRegion ops rest::k):=by
   have h2:=Frame.finish_at b {a with defers:=d::a.defers} ops i rest k undef;rw[ho] at h2;exact h2
  rw[Z];simp only[stepG.apply,Sem.runT_eq,G,GStep.bare_after];exact De (λfr=>GStep.go {frame:=fr,callers:=cs,status:= .running,dying:=none} Q) h1
 .rename_i f args Q G;obtain⟨e,w2,fr,hR,hs,_,hl⟩:=h (b.at a (.inRegion ops (i::rest)::k)::cs);have O:_root_.Go.step P (lone (b.at a (.inRegion ops (i::rest)::k)) cs w)= .next (lone (Frame.enter P f args .normal) (b.at a (.inRegion ops (i::rest)::k)::cs) Q):=
   step_lone_go (by rw[Z];simp[stepG.apply,G,Frame.at])
  cases e with
  |returned v=>
   refine⟨_,_,hR,.head O (hs.trans (.one ?_))⟩;rw[<-z];exact step_leave_returned hl
  |panicked c=>exact hR.elim
  |outgrown=>obtain⟨_,_,hR⟩:=hR;exact hR.elim
 .rename_i row args Q G;obtain⟨v,w2,hR,hs⟩:=h (b.at a (.inRegion ops (i::rest)::k)) cs;have O:_root_.Go.step P (lone (b.at a (.inRegion ops (i::rest)::k)) cs w)= .next (lone (Frame.ofRow P row args .normal) (b.at a (.inRegion ops (i::rest)::k)::cs) Q):=
   step_lone_go (by rw[Z];simp[stepG.apply,G,Frame.at])
  refine⟨_,_,hR,.head O ?_⟩;rw[<-z];exact hs
 .exact h.elim
 .exact h.elim
def Qab1(z:ops[i]? =some o)(G:Region.wanted o (yielded ops a.tmps)=true)(h:o.wp P a w next (λ_ _ _=>False)):JI P ops i a w next:= .inl ⟨o,z,G,h⟩
def SV(h:JI P ops i a w next):Qe P ops i a w next:=by
 rcases h with ⟨o,z,G,O⟩|⟨_,h⟩
 .exact Qx0 z G O
 .exact h
end
def wH{P:Program}{ops:Array Oper}{Q:Act->World->Prop}: ∀(l:List Nat) (a:Act) (w:World),Ld P ops Q l a w-> ∀(b:Frame) (k:List Item) (cs:List Frame),
 ∃a' w',Q a' w'/\Steps P (lone (b.at a (.inRegion ops l::k)) cs w) (lone (b.at a' k) cs w')
 |[],a,w,h,b,k,cs=>⟨a,w,h,.one step_region_end⟩
 |i::rest,a,w,h,b,k,cs=>by
  simp only[Ld] at h;cases ho:ops[i]? with
  |none=>
   rw[ho] at h;obtain⟨a',w',hq,G⟩:=wH rest a w h b k cs;have z:=step_op_skip (P:=P) (b:=b) (a:=a) (k:=k) (cs:=cs) (w:=w) (ops:=ops) (i:=i) (rest:=rest) (by simp[ho]);rw[ho] at z;exact⟨a',w',hq,.head z G⟩
  |some o=>
   rw[ho] at h;simp only at h;split at h
   .obtain⟨a1,w1,z,O⟩:=SV h b k cs rest;obtain⟨a',w',hq,G⟩:=wH rest a1 w1 z b k cs;exact⟨a',w',hq,O.trans G⟩
   .rename_i Z;obtain⟨a',w',hq,G⟩:=wH rest _ w h b k cs;have z:=step_op_skip (P:=P) (b:=b) (a:=a) (k:=k) (cs:=cs) (w:=w) (ops:=ops) (i:=i) (rest:=rest) (by simp[ho,Z]);rw[ho] at z;exact⟨a',w',hq,.head z G⟩
def OK{P:Program}{id:Nat}{ops:Array Oper}{Q:Exit->Act->World->Prop}{a:Act}{w:World}(h:Ld P ops (Q .normal) (List.range ops.size) a w):(Code.region id ops false).wp P Q a w:=by
 intro b k z;obtain⟨a',w',hq,G⟩:=wH _ a w h b k z;exact⟨.normal,a',w',hq,.head step_region G⟩
section
variable {P:Program}{ops:Array Oper}{i:Nat}{o:Oper}{a:Act}{w:World}{next:Act->World->Prop}
def Qjg{z:Frame}{cs:List Frame}{w Q:World}{cases:Array CommCase}{G:Bool}{O:CommShape}{g:Goroutine}
 (h:(stepG P true {frame:=z,callers:=cs,status:= .running,dying:=none} w).bare= .comm g cases G O Q):
 _root_.Go.step P (lone z cs w)=(communicate P {timers:= #[],alone:=none,slice:=none} #[{(default:Goroutine) with status:= .finished}] 0 g cases G O Q).1:=by
 generalize hs:stepG P true {frame:=z,callers:=cs,status:= .running,dying:=none} w=s at h;cases s<;>simp at h;obtain⟨rfl,rfl,rfl,rfl,rfl⟩:=h;rw[_root_.Go.step,stepT,move_lone];simp[runT,lone,Array.swapAt!,hs]
def Qon(c:Nat)(s:Bool):partners #[{(default:Goroutine) with status:= .finished}] c s=[]:=by
 simp[partners]
def Qp5{Q:Frame}{cs:List Frame}{w Z:World}{c cap s r:Nat}{G:Array Value}{tm:Bool}{v z:Value}
 (h:(stepG P true {frame:=Q,callers:=cs,status:= .running,dying:=none} w).bare= .comm {frame:=Q,callers:=cs,status:= .running,dying:=none} #[{chan:= .chan (some c),send:=some v,zero:=z}] true .send Z)
 (hc:Z.heap[c]? =some (.chan cap G false s r tm))(O:G.size<cap):
 _root_.Go.step P (lone Q cs w)= .next (lone (Q.finish undef) cs {Z with heap:=Z.heap.setIfInBounds c (.chan cap (G.push v) false (s+1) r tm)}):=by
 rw[Qjg h];simp[communicate,ways,hc,Qon,O,choose,Sem.run,Question.forced,bind,Sem.bind,pure,Goroutine.finishComm,commResult,lone]
def Qp7{Q:Frame}{cs:List Frame}{w Z:World}{c cap s r:Nat}{G:Array Value}{tm cl:Bool}{z:Value}
 (h:(stepG P true {frame:=Q,callers:=cs,status:= .running,dying:=none} w).bare= .comm {frame:=Q,callers:=cs,status:= .running,dying:=none} #[{chan:= .chan (some c),send:=none,zero:=z}] true (.recv false) Z)
 (hc:Z.heap[c]? =some (.chan cap G cl s r tm))(O:0<G.size):
 _root_.Go.step P (lone Q cs w)= .next (lone (Q.finish (G.getD 0 undef)) cs {Z with heap:=Z.heap.setIfInBounds c (.chan cap (G.extract 1 G.size) cl s (r+1) tm)}):=by
 rw[Qjg h];simp[communicate,ways,hc,Qon,O,choose,Sem.run,Question.forced,bind,Sem.bind,pure,Goroutine.finishComm,commResult,lone]
def O9{ch x:Operand}(ho:ops[i]? =some o)(hw:Region.wanted o (yielded ops a.tmps)=true)(aa:o.op= .send ch x){c cap s r:Nat}{G:Array Value}{tm:Bool}(ab:a.eval ch= .chan (some c))
 (hc:w.heap[c]? =some (.chan cap G false s r tm))(O:G.size<cap)(hn:next (a.put o.dst undef) {w with heap:=w.heap.setIfInBounds c (.chan cap (G.push (a.eval x)) false (s+1) r tm)}):JI P ops i a w next:=by
 refine .inr ⟨λo' Z=>by rw[ho] at Z;obtain rfl:=AB Z;rw[aa];rfl,?_⟩;intro b k cs rest;have hg:=stepG_op (P:=P) (b:=b) (a:=a) (k:=k) (cs:=cs) (w:=w) (rest:=rest) ho hw;have Q: ∀v,(b.at a (.inRegion ops (i::rest)::k)).finish v=b.at (a.put o.dst v) (.inRegion ops rest::k):=λv=>by
  rw[Frame.finish_at,ho];rfl
 refine⟨_,_,hn,.one ?_⟩;rw[<-Q];have hr:(execOp a.eval o).run P w= .ok (.comm #[{chan:= .chan (some c),send:=some (a.eval x),zero:= .tuple #[]}] true .send) w:=by
  simp[execOp,aa,ab]
 exact Qp5 (z:= .tuple #[]) (v:=a.eval x) (by rw[hg];simp[stepG.apply,hr,Frame.at]) hc O
def O8{ch:Operand}{T e:TypeId}{d:ChanDir}{z:Value}(ho:ops[i]? =some o)(hw:Region.wanted o (yielded ops a.tmps)=true)(aa:o.op= .recv T ch false)(hT:P.underlying T=some (.chan d e))(hz:(zeroValue e).run P w= .ok z w)
 {c cap s r:Nat}{G:Array Value}{tm cl:Bool}(ab:a.eval ch= .chan (some c))
 (hc:w.heap[c]? =some (.chan cap G cl s r tm))(O:0<G.size)(hn:next (a.put o.dst (G.getD 0 undef)) {w with heap:=w.heap.setIfInBounds c (.chan cap (G.extract 1 G.size) cl s (r+1) tm)}):JI P ops i a w next:=by
 refine .inr ⟨λo' Z=>by rw[ho] at Z;obtain rfl:=AB Z;rw[aa];rfl,?_⟩;intro b k cs rest;have hg:=stepG_op (P:=P) (b:=b) (a:=a) (k:=k) (cs:=cs) (w:=w) (rest:=rest) ho hw;have Q: ∀v,(b.at a (.inRegion ops (i::rest)::k)).finish v=b.at (a.put o.dst v) (.inRegion ops rest::k):=λv=>by
  rw[Frame.finish_at,ho];rfl
 refine⟨_,_,hn,.one ?_⟩;rw[<-Q];have hu:(underlying T).run P w= .ok (.chan d e) w:=by simp[underlying,hT]
 have hr:(execOp a.eval o).run P w= .ok (.comm #[{chan:= .chan (some c),send:=none,zero:=z}] true (.recv false)) w:=by
  simp[execOp,aa,ab,hu,hz]
 exact Qp7 (z:=z) (by rw[hg];simp[stepG.apply,hr,Frame.at]) hc O
end
structure CC(C:AZ)(N:Nat)(s:Az)(S:Ay)(a:Act):Prop where
 wf:Wf C S
 h: ∀n,S.h n=hget s.h n
 tm: ∀t,Aa S (A8 s.tm t) (a.eval (.tmp t))
 nmT: ∀t,∀m∈(A8 s.tm t).nms,m<s.nx
 nmH: ∀n e,hget s.h n=some e->n<s.nx/\ ∀m∈e.2.nms,m<s.nx
 size:a.tmps.size=N
 defers:a.defers=C.ds
 n0:C.n0<=s.nx
 pre:C.Pre S
def Qy2{C:AZ}{S S':Ay}{nx cnt:Nat}(h:C.Pre S)(hn:C.n0<=nx)(hp:BE (λm=> ¬Fr nx cnt m) S S'):C.Pre S':=by
 intro o ho e' z;obtain⟨e,Z,h2,h3,h4⟩:=hp.nm o (λhf=>by have:=hf.1;omega) e' z;obtain⟨G,g1,g2,O,Q⟩:=h o ho e Z;exact⟨G,g1,h2.trans g2,h3.trans O,h4.trans Q⟩
def BC(C:AZ)(N:Nat)(s:Az)(a:Act)(w:World):Prop:= ∃S,S.w=w/\CC C N s S a
def kW(S:Ay)(tm:List (Nat×AV))(f:FuncId):Aa S (Ap tm (.func f)) (.func (.func f) #[] #[]):=by
 simp only[Ap];cases hb:Nat.blt f 1000000000 with
 |true=>simp only[BV,Aa,rd,rdl];exact⟨#[],#[],by rw[cT (by simpa using hb)],rfl,rfl⟩
 |false=>simp only[Bs,Aa]
def Qs{C:AZ}{N:Nat}{s:Az}{S:Ay}{a:Act}(h:CC C N s S a)(x:Operand):Aa S (Ap s.tm x) (a.eval x):=by
 cases x with
 |tmp t=>exact h.tm t
 |const v=>exact LQ S v
 |global g=>simp only[Ap,Aa,rd,Act.eval]
 |func f=>exact kW S s.tm f
def L3{tm:List (Nat×AV)}{nx:Nat}(h: ∀t,∀m∈(A8 tm t).nms,m<nx)(x:Operand): ∀m∈(Ap tm x).nms,m<nx:=by
 cases x with
 |tmp t=>exact h t
 |const v=>
  intro m z;simp only[Ap] at z;unfold kD at z;split at z<;>simp[AV.nms] at z
 |global g=>intro m z;simp[Ap,AV.nms] at z
 |func f=>intro m z;simp only[Ap] at z;cases hb:Nat.blt f 1000000000<;>rw[hb] at z<;>simp[AV.nms] at z
mutual
def pN{n:Nat}: ∀(x:AV),x.bel n=true-> ∀m∈x.nms,m<n
 | .any,_=>by simp[AV.nms]
 | .im _,_=>by simp[AV.nms]
 | .agg z,h=>by simpa only[AV.nms] using YE z (by simpa only[AV.bel] using h)
 | .tup z,h=>by simpa only[AV.nms] using YE z (by simpa only[AV.bel] using h)
 | .ptr o _,h=>by simpa[AV.nms,AV.bel] using h
 | .eptr o _ _,h=>by simpa[AV.nms,AV.bel] using h
 | .own o,h=>by simpa[AV.nms,AV.bel] using h
 | .mp o,h=>by simpa[AV.nms,AV.bel] using h
 | .ch o,h=>by simpa[AV.nms,AV.bel] using h
 | .it o,h=>by simpa[AV.nms,AV.bel] using h
 | .osl o _ _,h=>by simpa[AV.nms,AV.bel] using h
 | .clo _ a c,h=>by
   simp only[AV.bel,AW] at h;simp only[AV.nms,Bz];rintro m (G|G)
   .exact YE a h.1 m G
   .exact YE c h.2 m G
def YE{n:Nat}: ∀(xs:List AV),AD n xs=true-> ∀m∈Aw xs,m<n
 |[],_=>by simp[Aw]
 |x::xs,h=>by
  simp only[AD,AW] at h;simp only[Aw,Bz];rintro m (z|z)
  .exact pN x h.1 m z
  .exact YE xs h.2 m z
end
def lF{n:Nat}: ∀(z:List (List AV)),z.all (AD n)=true-> ∀m∈Bx z,m<n
 |[],_=>by simp[Bx]
 |r::z,h=>by
  simp only[ET,AW] at h;simp only[Bx,Bz];rintro m (G|G)
  .exact YE r h.1 m G
  .exact lF z h.2 m G
def cJ{n:Nat}: ∀(hs:Ao),Av n hs=true-> ∀o e,hget hs o=some e-> ∀m∈e.2.nms,m<n
 |[],_,o,e,h=>by simp[hget] at h
 |(q,Q,O)::hs,z,o,e,h=>by
  have G:(∀m∈O.nms,m<n)/\Av n hs=true:=by
   cases O<;>simp only[Av,AW] at z
   .exact⟨YE _ z.1,z.2⟩
   .exact⟨by simp[Ac.nms],z⟩
   .exact⟨lF _ z.1,z.2⟩
   .exact⟨by simp[Ac.nms],z⟩
   .exact⟨by simp[Ac.nms],z⟩
   .exact⟨by simp[Ac.nms],z⟩
   .exact⟨by simp[Ac.nms],z⟩
  simp only[hget] at h;cases hq:q==o<;>rw[hq] at h
  .exact cJ hs G.2 o e (by simpa using h)
  .simp only[BV,AM] at h;subst h;exact G.1
def Qlm{ks:List Nat}{nx cnt:Nat}: ∀(hs:Ao),Hi ks nx cnt hs=true-> ∀o e,hget hs o=some e->(nx<=o/\o<nx+cnt)\/(o∈ks/\o<nx)
 |[],_,o,e,h=>by simp[hget] at h
 |(q,x)::hs,z,o,e,h=>by
  simp only[Hi,AW] at z;simp only[hget] at h;cases hq:q==o<;>rw[hq] at h
  .exact Qlm hs z.2 o e (by simpa using h)
  .have G:q=o:=by simpa using hq
   subst G
   have:=z.1
   simp only[JO,H8,AW,Gi,Ed,IC] at this;exact this
def vS(a b:Ao)(n:Nat):hget (a++b) n=match hget a n with|some e=>some e|none=>hget b n:=by
 induction a with
 |nil=>rfl
 |cons x a ih=>
  obtain⟨q,e⟩:=x;simp only[BG,hget];cases q==n<;>simp[ih]
def vU(ks:List Nat)(n:Nat): ∀(a:Ao),hget (Ba a ks) n=bif ks.contains n then none else hget a n
 |[]=>by simp[Ba,hget]
 |(q,e)::a=>by
  simp only[Ba];have ih:=vU ks n a;cases hq:ks.contains q
  .simp only[Bs,hget,ih];cases hqn:q==n
   .simp
   .have:q=n:=by simpa using hqn
    subst this;have z:q∉ks:=by simpa using hq
    simp[z]
  .simp only[BV,ih,hget];cases hqn:q==n
   .simp
   .have:q=n:=by simpa using hqn
    subst this;have z:q∈ks:=by simpa using hq
    simp[z]
def uE{a:Act}{dst:Option Nat}{v:Value}{t:Nat}(hd: ∀d,dst=some d->d<a.tmps.size):
 (a.put dst v).eval (.tmp t)=if dst=some t then v else a.eval (.tmp t):=by
 cases dst with
 |none=>simp[Act.put]
 |some d=>
  have:=hd d rfl
  simp only[Act.put,Act.eval,H5,dO,AM];by_cases h:d=t
  .subst h;simp[this]
  .simp[h]
def UR{s:Az}{dst:Option Nat}{x:AV}{t:Nat}:A8 (s.put dst x).tm t=if dst=some t then x else A8 s.tm t:=by
 cases dst with
 |none=>simp[Az.put]
 |some d=>
  simp only[Az.put,A8,AM];by_cases h:d=t
  .subst h;simp
  .have:(d==t)=false:=by simpa using h
   simp[this,h]
def Qxs{C:AZ}{N:Nat}{s:Az}{S S':Ay}{a:Act}{dst:Option Nat}{r:AV}{E:Bv}{v:Value}(z:CC C N s S a)(aa:E.ok s.nx r=true)(hd: ∀d,dst=some d->d<N)
 (hW:Wf C S')(hh:S'.h=E.appf S.h)(hp:BE (λm=> ¬Fr s.nx E.cnt m) S S')(hv:Aa S' r v):CC C N (s.app dst r E) S' (a.put dst v):=by
 simp only[Bv.ok,AW] at aa;obtain⟨af,ag,ah⟩:=aa;have O: ∀n,hget (E.new++Ba s.h E.kill) n=E.appf (hget s.h) n:=by
  intro n;rw[vS,vU];simp only[Bv.appf];cases hget E.new n<;>rfl
 have ad:S.h=hget s.h:=funext z.h;have Q:(s.app dst r E).nx=s.nx+E.cnt:=by cases dst<;>rfl
 have ab:(s.app dst r E).h=E.new++Ba s.h E.kill:=by cases dst<;>rfl
 have ac: ∀t,A8 (s.app dst r E).tm t=if dst=some t then r else A8 s.tm t:=λt=>UR
 refine⟨hW,?_,?_,?_,?_,?_,?_,?_,Qy2 z.pre z.n0 hp⟩
 .intro n;rw[ab,O,hh,ad]
 .intro t;rw[ac,uE (λd h=>by rw[z.size];exact hd d h)];split
  .exact hv
  .refine I1 hp _ _ ?_ (z.tm t);intro m Z ai
   have:=z.nmT t m Z
   have:=ai.1
   omega
 .intro t;rw[ac,Q];split
  .exact pN r af
  .intro m Z;have:=z.nmT t m Z;omega
 .intro n e G;rw[ab,vS] at G;rw[Q];cases hn:hget E.new n with
  |some e'=>
   rw[hn] at G;obtain rfl:=AB G;refine⟨?_,cJ _ ag n _ hn⟩;rcases Qlm _ ah n _ hn with h|h<;>omega
  |none=>
   rw[hn] at G;simp only[vU] at G;cases hk:E.kill.contains n<;>rw[hk] at G
   .obtain⟨h1,h2⟩:=z.nmH n e (by simpa using G);exact⟨by omega,λm Z=>by have:=h2 m Z;omega⟩
   .simp at G
 .cases dst<;>simp[Act.put,z.size]
 .cases dst<;>simp[Act.put,z.defers]
 .rw[Q];exact CD z.n0 (zK _ _)
def Qty{P:Program}{V:CT}(HV:Hx P V){C:AZ}{N:Nat}{s:Az}{a:Act}{w:World}{ops:Array Oper}{i:Nat}{o:Oper}{go:Az->Prop}(au:ops[i]? =some o)(hw:Region.wanted o (yielded ops a.tmps)=true)(hd: ∀d,o.dst=some d->d<N)
 (G:Jk P V o.dst o.op o.type go s)(O:BC C N s a w){next:Act->World->Prop}(hn: ∀s' a' w',go s'->BC C N s' a' w'->next a' w'):JI P ops i a w next:=by
 obtain⟨S,rfl,O⟩:=O;have bf:S.h=hget s.h:=funext O.h;unfold Jk at G;have az:step P V true s.tm (hget s.h) s.nx o.type (Ez go s o.dst) o.op->JI P ops i a S.w next:=by
  intro G;refine Qab1 au hw ?_;have am: ∀n,s.nx<=n->S.h n=none:=by
   intro n aj;cases hn:S.h n with
   |none=>rfl
   |some e=>
    have:=(O.nmH n e (by rw[<-O.h n];exact hn)).1
    omega
  have an: ∀n e,S.h n=some e-> ∀m∈e.2.nms,m<s.nx:=λn e he m hm=>(O.nmH n e (by rw[<-O.h n];exact he)).2 m hm
  rcases Qrc HV (L3 O.nmT) G with ⟨r,E,ai,ad,ag⟩|⟨_,⟨u,aw⟩|ba⟩
  .refine ai C S a next _ O.wf (λn _=>O.h n) (λn aj=>am n aj.1) ?_ (λx _=>Qs O x) ?_
   .intro n e he m hm aj
    have:=an n e he m hm
    have:=aj.1
    omega
   .intro v S' hW hh hp hv;exact hn _ _ _ ag ⟨S',rfl,Qxs O ad hd hW hh hp hv⟩
  .exact absurd (aw C S a O.wf (λn _=>O.h n) (λx _=>Qs O x)) id
  .refine ba C S a next _ O.wf O.h am an (λx _=>Qs O x) ?_
   intro r E v S' hK hW hh hp hv;obtain⟨ad,ag⟩:=hK;exact hn _ _ _ ag ⟨S',rfl,Qxs O ad hd hW hh hp hv⟩
 have chan: ∀(q cap:Nat) (bu af:List D) (l:F2) (aa:Array Value) (Z Q:Nat) (r:AV) (v:Value),S.h q=some (true,.chan bu cap)->S.ρ q=some l->rdl S.ok S.hp af aa.toList->
  (∀S':Ay,(∀b,S.ok b->S'.ok b/\S'.hp b=S.hp b)->Aa S' r v)->
  Ez go s o.dst r {use:=[q],kill:=[q],new:=[(q,(true,.chan af cap))]}->next (a.put o.dst v) {S.w with heap:=S.w.heap.setIfInBounds l.b (.chan cap aa false Z Q false)}:=by
  intro q cap bu af l aa Z Q r v hS hl hb hv hK
  let w':World:={S.w with heap:=S.w.heap.setIfInBounds l.b (.chan cap aa false Z Q false)}
  have ao:Kb S q (.chan af cap) (some l) [q] w':=cN O.wf hS hl (w':=w') (ob:= .chan cap aa false Z Q false) rfl rfl rfl rfl rfl rfl;have ak:=gW O.wf ao;have ay:An (S.one q (.chan af cap) (some l) [q] w') (some l) (.chan af cap):=by
   simp only[An];exact⟨l,aa,Z,Q,rfl,cV (O.wf.loc q _ l hS hl).1 rfl,KU ak.ok _ _ hb⟩
  have a0:=pU O.wf ao ay;obtain⟨ad,ag⟩:=hK;refine hn _ _ _ ag ⟨_,rfl,Qxs O ad hd a0 ?_ ⟨ak.ok,λn hX=>ak.nm n (.inl (by rw[hS];simp))⟩ (hv _ ak.ok)⟩;funext n;simp only[Ay.one,Bv.appf,Go.Ae.hget];by_cases av:n=q
  .subst av;simp
  .have:(q==n)=false:=by rw[HE];exact λh=>av h.symm
   simp[this,av]
 unfold DA at G;split at G
 .rename_i c x ai;unfold KN at G;split at G
  .rename_i q d aq bc;have h1:=Qs O c;have h2:=Qs O x;rw[aq] at h1;rw[bc] at h2;cases hq:hget s.h q with
   |none=>rw[hq] at G;exact G.elim
   |some ac=>
    obtain⟨mu,ac⟩:=ac;rw[hq] at G;cases mu<;>cases ac<;>try exact G.elim
    rename_i bu cap;simp only[fT] at G;obtain⟨a9,G⟩:=G;have hS:=(O.h q).trans hq;simp only[Aa] at h1 h2;obtain⟨l,hl,hv⟩:=h1.2 _ hS;have ah:=O.wf.obj _ _ hS;simp only[An] at ah;obtain⟨lc,ab,Z,Q,g1,g2,g3⟩:=ah;rw[hl] at g1;obtain rfl:=AB g1;have ax:=cM _ _ g3;simp only[EE] at ax;refine O9 au hw ai hv g2 (by omega) ?_;refine chan q cap bu (bu++[d]) l (ab.push (a.eval x)) (Z+1) Q .any undef hS hl ?_ (λ_ _=>by simp only[Aa]) G;rw[yW]
    have: ∀(ds:List D) (vs:List Value),rdl S.ok S.hp ds vs->rdl S.ok S.hp (ds++[d]) (vs++[a.eval x]):=by
     intro ds;induction ds with
     |nil=>intro vs h;simp only[rdl] at h;subst h;simp only[Dj,rdl];exact⟨_,_,rfl,h2,rfl⟩
     |cons y ys ih=>
      intro vs h;simp only[rdl] at h;obtain⟨v,r,rfl,k1,k2⟩:=h;simp only[BG,rdl];exact⟨_,_,rfl,k1,ih r k2⟩
    exact this _ _ g3
  .exact G.elim
 .rename_i T c ai;unfold KM at G;cases hce:Ve P T with
  |none=>rw[hce] at G;exact G.elim
  |some e=>
  rw[hce] at G;simp only[rvK] at G;cases hE:tI P e with
  |none=>rw[hE] at G;exact G.elim
  |some te=>
  rw[hE] at G;simp only[Bh,rvE] at G;obtain⟨bd,hz,G⟩:=G;obtain⟨z,be,_⟩:=bR hE bd hz;obtain⟨dr,hu⟩:=Qpi hce;have h1:=Qs O c;cases aq:Ap s.tm c<;>rw[aq] at G h1<;>try exact G.elim
  rename_i q;simp only[rvC] at G;cases hq:hget s.h q with
  |none=>rw[hq] at G;exact G.elim
  |some ac=>
   obtain⟨mu,ac⟩:=ac;rw[hq] at G;cases mu<;>cases ac<;>try exact G.elim
   rename_i bu cap;simp only[fR] at G;obtain⟨a8,G⟩:=G;obtain⟨d,r,rfl⟩:=Zes a8;have G:=G d r rfl;have hS:=(O.h q).trans hq;simp only[Aa] at h1;obtain⟨l,hl,hv⟩:=h1.2 _ hS;have ah:=O.wf.obj _ _ hS;simp only[An] at ah;obtain⟨lc,ab,Z,Q,g1,g2,g3⟩:=ah;rw[hl] at g1;obtain rfl:=AB g1;simp only[rdl] at g3;obtain⟨v0,vr,k1,k2,k3⟩:=g3;have bb:0<ab.size:=by rw[<-EE,k1];simp
   have h0:ab.getD 0 undef=v0:=by
    have:ab.toList[0]? =some v0:=by rw[k1];rfl
    rw[H5,<-Kk,this];rfl
   have hx:(ab.extract 1 ab.size).toList=vr:=by
    rw[Zfc,k1];simp only[List.extract,Lg,Gf];apply F9;rw[<-EE,k1];simp
   refine O8 au hw ai hu (be _) hv g2 bb ?_;rw[h0];refine chan q cap (d::r) r l _ Z (Q+1) (.im d) v0 hS hl (by rw[hx];exact k3) (λS' ad=> ?_) G;simp only[Aa];exact GI ad _ _ k2
 .exact az G
def Ly{C:AZ}{N:Nat}{s:Az}{a:Act}{w:World}(z:BC C N s a w){dst:Option Nat}(hd: ∀d,dst=some d->d<N){x:AV}{v:Value}(hx:x.nms=[])(hv: ∀S,Aa S x v):BC C N (s.put dst x) (a.put dst v) w:=by
 obtain⟨S,rfl,z⟩:=z;have Q:(s.put dst x).h=s.h:=by cases dst<;>rfl
 have G:(s.put dst x).nx=s.nx:=by cases dst<;>rfl
 refine⟨S,rfl,z.wf,λn=>by rw[Q];exact z.h n,?_,?_,?_,?_,?_,by rw[G];exact z.n0,z.pre⟩
 .intro t;rw[UR,uE (λd h=>by rw[z.size];exact hd d h)];split
  .exact hv S
  .exact z.tm t
 .intro t;rw[UR,G];split
  .rw[hx];intro m Z;cases Z
  .exact z.nmT t
 .intro n e O;rw[Q] at O;rw[G];exact z.nmH n e O
 .cases dst<;>simp[Act.put,z.size]
 .cases dst<;>simp[Act.put,z.defers]
def Lc(N:Nat):List Oper->Bool
 |[]=>true
 |o::r=>(match o.dst with|some d=>Nat.blt d N|none=>true) && Lc N r
def Qqk{C:AZ}{N:Nat}{s:Az}{S:Ay}{a:Act}(O:CC C N s S a){ops:Array Oper}{j t:Nat}(Q:(ops[j]?).bind (·.dst)=some t){b:Bool}(G:A8 s.tm t= .im (.bool b)):
 yielded ops a.tmps j=some b:=by
 have z:=O.tm t;rw[G] at z;simp only[Aa,rd,Act.eval] at z;unfold yielded;rw[Q];simp only[GE];rw[H5] at z;cases hq:a.tmps[t]? with
 |none=>rw[hq] at z;simp[undef] at z
 |some v=>rw[hq] at z;simp at z;rw[z]
def Qpr{P:Program}{V:CT}(HV:Hx P V){C:AZ}{N:Nat}{ops:Array Oper}{K:Az->Prop}{Q:Exit->Act->World->Prop}(hQ: ∀s a w,K s->BC C N s a w->Q .normal a w):
 ∀(rest more:List Oper) (i:Nat),ops.toList.drop i=rest++more->Lc N rest=true-> ∀(s:Az) (a:Act) (w:World),ON P V (Hz ops rest) K s->BC C N s a w->Ld P ops (Q .normal) (List.range' i rest.length) a w:=by
 intro rest more;induction rest with
 |nil=>
  intro i _ _ s a w G hc;simp only[Hz,ON] at G;simpa[Ld] using hQ s a w G hc
 |cons o rest ih=>
  intro i hi hd s a w G hc;simp only[Lc,AW] at hd;have ad:ops[i]? =some o:=by
   have:(ops.toList.drop i)[0]? =some o:=by rw[hi];rfl
   simpa using this
  have aj:ops.toList.drop (i+1)=rest++more:=by
   have:(ops.toList.drop i).drop 1=rest++more:=by rw[hi];rfl
   rwa [DS] at this
  have Z: ∀d,o.dst=some d->d<N:=by
   intro d ai
   have:=hd.1
   rw[ai] at this;simpa using this
  have O: ∀s' a' w',ON P V (Hz ops rest) K s'->BC C N s' a' w'->Ld P ops (Q .normal) (List.range' (i+1) rest.length) a' w':=λs' a' w' h1 h2=>ih (i+1) aj hd.2 s' a' w' h1 h2
  simp only[Dd,List.range'_succ,Ld,ad];simp only[Hz,ON] at G;cases hg:o.guard with
  |none=>
   rw[hg] at G;simp only[dB,tL] at G;rw[Ai (by simp[Region.wanted,hg])];exact Qty HV ad (by simp[Region.wanted,hg]) Z G hc O
  |some g=>
   obtain⟨j,aa⟩:=g;rw[hg] at G;simp only[dB,tL] at G;cases ht:(ops[j]?).bind (·.dst) with
   |none=>rw[ht] at G;exact G.elim
   |some t=>
    rw[ht] at G;simp only[Xi] at G;cases hb:A8 s.tm t<;>rw[hb] at G<;>try exact G.elim
    rename_i d;cases d<;>try exact G.elim
    case tup cs=>
     cases cs with
     |cons _ _=>exact G.elim
     |nil=>
      simp only[Wd,MI] at G;have hy:yielded ops a.tmps j=none:=by
       obtain⟨S,_,z⟩:=hc;have h1:=z.tm t;rw[hb] at h1;simp only[Aa,rd,rdl,Act.eval] at h1;obtain⟨vs,h1,h2⟩:=h1;unfold yielded;rw[ht];simp only[GE];rw[H5] at h1;cases hq:a.tmps[t]? with
       |none=>rfl
       |some v=>rw[hq] at h1;simp at h1;rw[h1]
      rw[Af (by simp[Region.wanted,hg,hy])];exact O _ _ _ G (Ly hc Z rfl (λS=>by simp only[Aa,rd,rdl];exact⟨#[],rfl,rfl⟩))
    case bool b=>
    simp only[Wd] at G;obtain⟨S,ag,z⟩:=hc;have hy:=Qqk z ht hb;have ac: ∀b':Bool,b=b'->BC C N (s.put (some t) (.im (.bool b'))) a w:=by
     intro b' ah;subst ah;refine⟨S,ag,z.wf,z.h,?_,?_,z.nmH,z.size,z.defers,z.n0,z.pre⟩
     .intro t';rw[UR];split
      .rename_i h;cases h;have:=z.tm t;rwa [hb] at this
      .exact z.tm t'
     .intro t';rw[UR];split
      .intro m hm;simp[AV.nms] at hm
      .exact z.nmT t'
    by_cases ab:b=aa
    .rw[Ai (by simp[Region.wanted,hg,hy,ab])];exact Qty HV ad (by simp[Region.wanted,hg,hy,ab]) Z (G.1 ab) (ac aa ab) O
    .rw[Af (by simp[Region.wanted,hg,hy,ab])];have af:b= !aa:=by cases b<;>cases aa<;>simp_all
     have h2:=G.2 af;simp only[MI] at h2;exact O _ _ _ h2 (Ly (ac _ af) Z rfl (λS=>by simp only[Aa,rd,rdl];exact⟨#[],rfl,rfl⟩))
def Qt0{P:Program}{V:CT}(z:Hx P V){C:AZ}{N id:Nat}{ops:Array Oper}{K:Az->Prop}{Q:Exit->Act->World->Prop}(G: ∀s a w,K s->BC C N s a w->Q .normal a w)
 (hd:Lc N ops.toList=true){s:Az}{a:Act}{w:World}(Z:ON P V (Hz ops ops.toList) K s)(O:BC C N s a w):(Code.region id ops false).wp P Q a w:=by
 refine OK ?_
 have:=Qpr z (ops:=ops) G ops.toList [] 0 (by simp) hd s a w Z O
 rwa [EE,<-Zef] at this
structure Ev where
 i:Nat
 o:Oper
 s:Az
 r:AV
 E:Bv
 skip:Bool
def HD(D:Nat->Bool):List Ev->(Nat->Option Am)->(Nat->Option Am)
 |[],h=>h
 |e::r,h=>HD D r (bif D e.i then e.E.appf h else h)
def TD(D:Nat->Bool):List Ev->(Nat->AV)->(Nat->AV)
 |[],f=>f
 |e::r,f=>TD D r (λt=>bif D e.i && (e.o.dst==some t) then e.r else f t)
def Qwh{n:Nat}: ∀(hs:Ao),n∉KV hs->hget hs n=none
 |[],_=>rfl
 |(q,e)::hs,h=>by
  simp only[KV,Bt,not_or] at h
  have:(q==n)=false:=by rw[HE];exact λh'=>h.1 h'.symm
  simp only[hget,this,Bs];exact Qwh hs h.2
def Qur{n:Nat}: ∀(hs:Ao),n∈KV hs-> ∃e,hget hs n=some e
 |[],h=>by simp[KV] at h
 |(q,e)::hs,h=>by
  simp only[KV,Bt] at h;simp only[hget];cases hq:q==n
  .have z:q≠n:=by simpa using hq
   rcases h with rfl|h
   .exact absurd rfl z
   .simpa using Qur hs h
  .exact⟨e,by simp⟩
def oS{E:Bv}{h:Nat->Option Am}{n:Nat}(hn:n∉E.touch):E.appf h n=h n:=by
 simp only[Bv.touch,Bz,not_or] at hn;simp[Bv.appf,Qwh _ hn.2,hn.1]
def WA{E:Bv}{h h':Nat->Option Am}{n:Nat}(hn:n∈E.touch):E.appf h n=E.appf h' n:=by
 simp only[Bv.appf];cases hg:hget E.new n with
 |some e=>rfl
 |none=>
  simp only[Bv.touch,Bz] at hn;rcases hn with hn|hn
  .simp[hn]
  .obtain⟨e,z⟩:=Qur _ hn;rw[z] at hg;cases hg
def Qym{E:Bv}{h h':Nat->Option Am}{n:Nat}(z:h n=h' n):E.appf h n=E.appf h' n:=by
 simp only[Bv.appf,z]
def iE{D D':Nat->Bool}{n:Nat}: ∀(evs:List Ev) (h h':Nat->Option Am),h n=h' n->(∀e∈evs,D e.i≠D' e.i->n∉e.E.touch)->HD D evs h n=HD D' evs h' n
 |[],_,_,z,_=>z
 |e::r,h,h',z,hd=>by
  simp only[HD];refine iE r _ _ ?_ (λx G=>hd x (by simp[G]));cases h1:D e.i<;>cases h2:D' e.i
  .simpa using z
  .have:=hd e (by simp) (by rw[h1,h2];simp)
   simp only[Bs,BV];rw[oS this];exact z
  .have:=hd e (by simp) (by rw[h1,h2];simp)
   simp only[Bs,BV];rw[oS this];exact z
  .simp only[BV];exact Qym z
def iG{D D':Nat->Bool}{t:Nat}: ∀(evs:List Ev) (f f':Nat->AV),f t=f' t->(∀e∈evs,D e.i≠D' e.i->e.o.dst≠some t)->TD D evs f t=TD D' evs f' t
 |[],_,_,z,_=>z
 |e::r,f,f',z,hd=>by
  simp only[TD];refine iG r _ _ ?_ (λx G=>hd x (by simp[G]));by_cases hq:e.o.dst=some t
  .have:D e.i=D' e.i:=by
    rcases Decidable.em (D e.i=D' e.i) with h|h
    .exact h
    .exact absurd hq (hd e (by simp) h)
   rw[this,z]
  .have:(e.o.dst==some t)=false:=by rw[HE];exact hq
   simp[this,z]
def qD(D:Nat->Bool): ∀(a b:List Ev) (h:Nat->Option Am),HD D (a++b) h=HD D b (HD D a h)
 |[],_,_=>rfl
 |e::a,b,h=>by simp only[BG,HD];exact qD D a b _
def qG(D:Nat->Bool): ∀(a b:List Ev) (f:Nat->AV),TD D (a++b) f=TD D b (TD D a f)
 |[],_,_=>rfl
 |e::a,b,f=>by simp only[BG,TD];exact qG D a b _
def Qw6{D:Nat->Bool}: ∀(evs:List Ev) (h:Nat->Option Am) (n:Nat),(∀e∈evs,D e.i=true->n∉e.E.touch)->HD D evs h n=h n
 |[],_,_,_=>rfl
 |e::r,h,n,hd=>by
  simp only[HD];rw[Qw6 r _ n (λx z=>hd x (by simp[z]))];cases h1:D e.i
  .rfl
  .exact oS (hd e (by simp) h1)
def Qyr{D:Nat->Bool}: ∀(evs:List Ev) (f:Nat->AV) (t:Nat),(∀e∈evs,D e.i=true->e.o.dst≠some t)->TD D evs f t=f t
 |[],_,_,_=>rfl
 |e::r,f,t,hd=>by
  simp only[TD];rw[Qyr r _ t (λx z=>hd x (by simp[z]))];cases h1:D e.i
  .rfl
  .have:(e.o.dst==some t)=false:=by rw[HE];exact hd e (by simp) h1
   simp[this]
def Qtn{n:Nat}{x:Am}: ∀(hs:Ao),hget hs n=some x->n∈KV hs/\ ∀m∈x.2.nms,m∈IW hs
 |[],h=>by simp[hget] at h
 |(q,Z,ob)::hs,h=>by
  simp only[hget] at h;simp only[KV,IW,Bt,Bz];cases hq:q==n<;>rw[hq] at h
  .obtain⟨O,Q⟩:=Qtn hs (by simpa using h);exact⟨.inr O,λm z=> .inr (Q m z)⟩
  .have G:q=n:=by simpa using hq
   simp only[BV,AM] at h;subst h;exact⟨.inl G.symm,λm z=> .inl z⟩
def JF{D:Nat->Bool}{n:Nat}{x:Am}: ∀(evs:List Ev) (h:Nat->Option Am),HD D evs h n=some x->h n=some x\/ ∃e∈evs,D e.i=true/\hget e.E.new n=some x
 |[],_,G=> .inl G
 |e::r,h,G=>by
  simp only[HD] at G;rcases JF r _ G with z|⟨f,hf,O⟩
  .cases hd:D e.i<;>rw[hd] at z
   .exact .inl z
   .simp only[BV,Bv.appf] at z;cases hg:hget e.E.new n with
    |some y=>
     rw[hg] at z;obtain rfl:=AB z;exact .inr ⟨e,by simp,hd,hg⟩
    |none=>
     rw[hg] at z;cases hk:e.E.kill.contains n<;>rw[hk] at z
     .exact .inl z
     .cases z
  .exact .inr ⟨f,by simp[hf],O⟩
def QE{D:Nat->Bool}{t:Nat}: ∀(evs:List Ev) (f:Nat->AV),TD D evs f t=f t\/ ∃e∈evs,D e.i=true/\TD D evs f t=e.r
 |[],_=> .inl rfl
 |e::r,f=>by
  simp only[TD];rcases QE r (λt=>bif D e.i && (e.o.dst==some t) then e.r else f t) with z|⟨x,O,G⟩
  .rw[z];cases hd:D e.i
   .exact .inl rfl
   .cases hq:e.o.dst==some t
    .exact .inl rfl
    .exact .inr ⟨e,by simp,hd,rfl⟩
  .exact .inr ⟨x,by simp[O],G⟩
structure qQ(e f:Ev):Prop where
 a: ∀n,n∈f.E.use++f.E.kill->n∉e.E.touch
 b: ∀n,n∈f.E.touch->n∉e.E.touch
 c: ∀n,n∈f.E.touch->n∉e.E.use++e.E.kill
 d: ∀n,n∈f.E.touch++(f.r.nms++IW f.E.new)-> ¬Fr e.s.nx e.E.cnt n
def Qlq: ∀(l k:List Nat),Jz l k=true-> ∀n∈l,n∉k
 |[],_,_,n,hn=>by cases hn
 |x::l,k,h,n,hn=>by
  simp only[Jz,AW,PL] at h;rcases Bt.1 hn with rfl|hn
  .intro z
   have:=h.1
   rw[IC.2 z] at this;cases this
  .exact Qlq l k h.2 n hn
def Qtw{nx cnt:Nat}: ∀(l:List Nat),Gs nx cnt l=true-> ∀n∈l,¬Fr nx cnt n
 |[],_,n,hn=>by cases hn
 |x::l,h,n,hn=>by
  simp only[Gs,AW,H8,Ed,Gi] at h;rcases Bt.1 hn with rfl|hn
  .intro hf
   have:=hf.1
   have:=hf.2
   omega
  .exact Qtw l h.2 n hn
def Vy(ops:Array Oper)(s:Az)(skip:Bool):Option (Nat×Bool)->Prop
 |none=>skip=false
 |some (g,z)=> ∃t,(ops[g]?).bind (·.dst)=some t/\((∃b,A8 s.tm t= .im (.bool b)/\skip=(b !=z))\/(A8 s.tm t= .im (.tup [])/\skip=true))
structure kG(P:Program)(ops:Array Oper)(e:Ev):Prop where
 op:ops[e.i]? =some e.o
 gd:Vy ops e.s e.skip e.o.guard
 doo:e.skip=false->B6 P e.s.tm (hget e.s.h) e.s.nx e.o e.r e.E/\e.E.ok e.s.nx e.r=true
 skp:e.skip=true->e.r= .im (.tup [])/\e.E={}
abbrev NN:Nat->Bool:=λ_=>true
def JD(j:Nat):Nat->Bool:=λi=>Nat.blt i j
def IT{i j:Nat}(h:JD j i=true):i<j:=by simpa[JD] using h
structure GT(P:Program)(ops:Array Oper)(cl:List (List Nat))(s0:Az)(evs:List Ev)(s:Az)(acc:List Fp):Prop where
 idx: ∀(k:Nat) (e:Ev),evs[k]? =some e->e.i=k
 tm: ∀t,A8 s.tm t=TD NN evs (A8 s0.tm) t
 h: ∀n,hget s.h n=HD NN evs (hget s0.h) n
 nx:s0.nx<=s.nx
 ev: ∀e∈evs,kG P ops e/\s0.nx<=e.s.nx/\e.s.nx+e.E.cnt<=s.nx
 atT: ∀e∈evs,∀t,A8 e.s.tm t=TD (JD e.i) evs (A8 s0.tm) t
 atH: ∀e∈evs,∀n,hget e.s.h n=HD (JD e.i) evs (hget s0.h) n
 ord: ∀e∈evs,∀f∈evs,e.i<f.i->e.s.nx+e.E.cnt<=f.s.nx
 pair: ∀e∈evs,∀f∈evs,e.i<f.i->E0 cl e.i f.i=true\/qQ e f
 acc: ∀e∈evs,e.skip=true\/(⟨e.i,e.E.use++e.E.kill,e.E.touch,e.s.nx,e.E.cnt⟩:Fp)∈acc
 nmT: ∀t,∀m∈(A8 s.tm t).nms,m<s.nx
section
variable {P:Program}{ops:Array Oper}{cl:List (List Nat)}{s0 s:Az}{evs:List Ev}{acc:List Fp}
def GT.lt(g:GT P ops cl s0 evs s acc): ∀e∈evs,e.i<evs.length:=by
 intro e G;obtain⟨k,O,z⟩:=dJ.1 G
 have:=g.idx k e (by rw[B2 O,z])
 omega
def GT.nil(h: ∀t,∀m∈(A8 s0.tm t).nms,m<s0.nx):GT P ops cl s0 [] s0 []:=by
 refine⟨by simp,λt=>rfl,λn=>rfl,AP _,by simp,by simp,by simp,by simp,by simp,by simp,h⟩
def GT.snoc(g:GT P ops cl s0 evs s acc)(e:Ev)(hi:e.i=evs.length)(an:kG P ops e)(hs: ∀t,A8 e.s.tm t=A8 s.tm t)(hh: ∀n,hget e.s.h n=hget s.h n)(au:e.s.nx=s.nx)
 (ah: ∀f∈evs,E0 cl f.i e.i=true\/qQ f e){s':Az}{G:List Fp}(ak: ∀t,A8 s'.tm t=if e.o.dst=some t then e.r else A8 s.tm t)
 (am: ∀n,hget s'.h n=e.E.appf (hget s.h) n)(ao:s'.nx=s.nx+e.E.cnt)(aj: ∀f∈acc,f∈G)(af:e.skip=true\/(⟨e.i,e.E.use++e.E.kill,e.E.touch,e.s.nx,e.E.cnt⟩:Fp)∈G)
 (hr: ∀m∈e.r.nms,m<s'.nx):GT P ops cl s0 (evs++[e]) s' G:=by
 have O: ∀f∈evs,f.i<e.i:=λf hf=>by rw[hi];exact g.lt f hf
 have ad: ∀t,TD (JD e.i) evs (A8 s0.tm) t=A8 s.tm t:=by
  intro t;rw[g.tm t];refine iG evs _ _ rfl ?_;intro f hf ag;exact absurd (by simp[JD,O f hf]) ag
 have ac: ∀n,HD (JD e.i) evs (hget s0.h) n=hget s.h n:=by
  intro n;rw[g.h n];refine iE evs _ _ rfl ?_;intro f hf ag;exact absurd (by simp[JD,O f hf]) ag
 have ab: ∀f∈evs,JD f.i e.i=false:=by
  intro f hf
  have:=O f hf
  rw[PJ];intro h
  have:=IT h
  omega
 have Q:JD e.i e.i=false:=by
  rw[PJ];intro h
  have:=IT h
  omega
 have z: ∀f,f∈evs++[e]->f∈evs\/f=e:=by intro f hf;simpa using hf
 refine⟨?_,?_,?_,?_,?_,?_,?_,?_,?_,?_,?_⟩
 .intro k f hk;rcases rN k evs.length with h|h|h
  .rw[H6 h] at hk;exact g.idx k f hk
  .subst h;rw[J2 (AP _)] at hk;simp at hk;subst hk;exact hi
  .rw[J2 (by omega)] at hk
   have:(k - evs.length)≠0:=by omega
   cases hq:k - evs.length with
   |zero=>omega
   |succ q=>rw[hq] at hk;simp at hk
 .intro t;rw[ak,qG];simp only[TD,NN,Ew];by_cases hq:e.o.dst=some t
  .simp[hq]
  .have:(e.o.dst==some t)=false:=by rw[HE];exact hq
   rw[Af hq,this];exact g.tm t
 .intro n;rw[am,qD];simp only[HD,NN,BV];exact Qym (g.h n)
 .have:=g.nx;omega
 .intro f hf;have aq:=g.nx;rcases z f hf with hf|rfl
  .obtain⟨h1,h2,h3⟩:=g.ev f hf;exact⟨h1,h2,by omega⟩
  .exact⟨an,by omega,by omega⟩
 .intro f hf t;rw[qG];rcases z f hf with hf|rfl
  .simp only[TD,ab f hf,FP,Bs];exact g.atT f hf t
  .simp only[TD,Q,FP,Bs];rw[ad,hs]
 .intro f hf n;rw[qD];rcases z f hf with hf|rfl
  .simp only[HD,ab f hf,Bs];exact g.atH f hf n
  .simp only[HD,Q,Bs];rw[ac,hh]
 .intro x hx y hy ai;rcases z x hx with Z|rfl<;>rcases z y hy with aa|rfl
  .exact g.ord x Z y aa ai
  .have:=(g.ev x Z).2.2;omega
  .have:=O y aa;omega
  .omega
 .intro x hx y hy ai;rcases z x hx with Z|rfl<;>rcases z y hy with aa|rfl
  .exact g.pair x Z y aa ai
  .exact ah x Z
  .have:=O y aa;omega
  .omega
 .intro f hf;rcases z f hf with hf|rfl
  .rcases g.acc f hf with h|h
   .exact .inl h
   .exact .inr (aj _ h)
  .exact af
 .intro t m hm;rw[ak] at hm;split at hm
  .exact hr m hm
  .have:=g.nmT t m hm;omega
def Qrd{j:Nat}{use touch z:List Nat}: ∀(acc:List Fp),Iu cl j use touch z acc=true-> ∀f∈acc,jU cl j use touch z f=true
 |[],_,f,hf=>by cases hf
 |x::acc,h,f,hf=>by
  simp only[Iu,AW] at h;rcases Bt.1 hf with rfl|hf
  .exact h.1
  .exact Qrd acc h.2 f hf
def Pt{V:CT}(HV:Hx P V){K:Az->Prop}: ∀(rest:List Oper) (i:Nat) (acc:List Fp) (s:Az) (evs:List Ev),ops.toList.drop i=rest->evs.length=i->
 GT P ops cl s0 evs s acc->Vv P V cl (Hz ops rest) i K acc s-> ∃z s' G,z.length=i+rest.length/\GT P ops cl s0 z s' G/\K s':=by
 intro rest;induction rest with
 |nil=>intro i acc s evs _ hl g Q;exact⟨evs,s,acc,by simpa using hl,g,Q⟩
 |cons o rest ih=>
  intro i acc s evs hi hl g Q;have ao:ops[i]? =some o:=by
   have:(ops.toList.drop i)[0]? =some o:=by rw[hi];rfl
   simpa using this
  have an:ops.toList.drop (i+1)=rest:=by
   have:(ops.toList.drop i).drop 1=rest:=by rw[hi];rfl
   rwa [DS] at this
  have ak: ∀Z:Az,(∀t,A8 Z.tm t=A8 s.tm t)->Z.h=s.h->Z.nx=s.nx->Vy ops Z false o.guard->MN P V cl i acc o.dst o.op o.type (Vv P V cl (Hz ops rest) (i+1) K) Z->
   ∃z s' G,z.length=i+(rest.length+1)/\GT P ops cl s0 z s' G/\K s':=by
   intro Z ht hh ab ah af;have hnm: ∀x,∀m∈(Ap Z.tm x).nms,m<Z.nx:=L3 (λt m hm=>by rw[ht] at hm;rw[ab];exact g.nmT t m hm);rcases Qrc HV hnm af with ⟨r,E,ax,aq,av,aw⟩|⟨h,_⟩
   .have aj:=Qrd acc av;have af:(Z.app o.dst r E).nx=Z.nx+E.cnt:=by cases o.dst<;>rfl
    have hb:=aq;simp only[Bv.ok,AW] at hb;have g':GT P ops cl s0 (evs++[⟨i,o,Z,r,E,false⟩]) (Z.app o.dst r E) (⟨i,E.use++E.kill,E.touch,Z.nx,E.cnt⟩::acc):=by
     refine g.snoc ⟨i,o,Z,r,E,false⟩ hl.symm ⟨ao,ah,λ_=>⟨ax,aq⟩,λh=>by cases h⟩ ht (λn=>by rw[hh]) ab ?_ (λt=> ?_) (λn=> ?_) (by rw[af,ab]) (λf hf=>by simp[hf]) (.inr (by simp)) ?_
     .intro f hf;rcases g.acc f hf with hs|ha
      .obtain⟨h1,h2⟩:=((g.ev f hf).1).skp hs;refine .inr ⟨?_,?_,?_,?_⟩<;>rw[h2]
       .intro n _;simp[Bv.touch,KV]
       .intro n _;simp[Bv.touch,KV]
       .intro n _;simp
       .intro n _ am
        have:=am.1
        have:=am.2
        simp only at this;omega
      .have h:=aj _ ha;unfold jU at h;rw[ZeK] at h;split at h
       .rename_i hx;simp only[AW] at hx;obtain⟨h1,h2,h3⟩:=hx;have ai:=Qlq _ _ h1;exact .inr ⟨λn hn=>ai n (by simp only[Bz] at hn⊢;exact .inl hn),λn hn=>ai n (QG _ hn),Qlq _ _ h2,Qtw _ h3⟩
       .exact .inl h
     .have:A8 (Z.app o.dst r E).tm t=if o.dst=some t then r else A8 Z.tm t:=UR
      rw[this,ht]
     .have:(Z.app o.dst r E).h=E.new++Ba Z.h E.kill:=by cases o.dst<;>rfl
      rw[this,vS,vU,hh];simp only[Bv.appf];cases hget E.new n<;>rfl
     .rw[af];exact pN r hb.1
    obtain⟨z,s',G,h1,h2,h3⟩:=ih (i+1) _ _ _ an (by simp[hl]) g' aw;exact⟨z,s',G,by omega,h2,h3⟩
   .cases h
  simp only[Hz,Vv] at Q;simp only[Dd];cases hg:o.guard with
  |none=>
   rw[hg] at Q;simp only[dB,tK] at Q;exact ak s (λ_=>rfl) rfl rfl (by rw[hg];rfl) Q
  |some gw=>
   obtain⟨j,O⟩:=gw;rw[hg] at Q;simp only[dB,tK] at Q;cases ht:(ops[j]?).bind (·.dst) with
   |none=>rw[ht] at Q;exact Q.elim
   |some t=>
    rw[ht] at Q;simp only[Xh] at Q;cases hb:A8 s.tm t<;>rw[hb] at Q<;>try exact Q.elim
    rename_i d;have ac: ∀s2:Az,(∀t',A8 s2.tm t'=A8 s.tm t')->s2.h=s.h->s2.nx=s.nx->Vy ops s true o.guard->Vv P V cl (Hz ops rest) (i+1) K acc (s2.put o.dst (.im (.tup [])))->
     ∃z s' G,z.length=i+(rest.length+1)/\GT P ops cl s0 z s' G/\K s':=by
     intro s2 aa hh ab ah h2;have g':GT P ops cl s0 (evs++[⟨i,o,s,.im (.tup []),{},true⟩]) (s2.put o.dst (.im (.tup []))) acc:=by
      refine g.snoc ⟨i,o,s,.im (.tup []),{},true⟩ hl.symm ⟨ao,ah,(λh=>by cases h),(λ_=>⟨rfl,rfl⟩)⟩ (λ_=>rfl) (λ_=>rfl) rfl ?_ (λt'=> ?_) (λn=> ?_) ?_ (λf hf=>hf) (.inl rfl) ?_
      .intro f hf;refine .inr ⟨?_,?_,?_,?_⟩<;>simp[Bv.touch,KV,AV.nms,IW]
      .rw[UR,aa]
      .have:(s2.put o.dst (.im (.tup []))).h=s2.h:=by cases o.dst<;>rfl
       rw[this,hh];simp[Bv.appf,hget]
      .have:(s2.put o.dst (.im (.tup []))).nx=s2.nx:=by cases o.dst<;>rfl
       rw[this,ab];rfl
      .intro m hm;simp[AV.nms] at hm
     obtain⟨z,s',G,h1,h2,h3⟩:=ih (i+1) _ _ _ an (by simp[hl]) g' h2;exact⟨z,s',G,by omega,h2,h3⟩
    cases d<;>try exact Q.elim
    case tup cs=>
     cases cs with
     |cons _ _=>exact Q.elim
     |nil=>
      simp only[Wd,MH] at Q;exact ac s (λ_=>rfl) rfl rfl (by rw[hg];exact⟨t,ht,.inr ⟨hb,rfl⟩⟩) Q
    case bool b=>
    simp only[Wd] at Q;have aa: ∀b':Bool,b=b'-> ∀t',A8 (s.put (some t) (.im (.bool b'))).tm t'=A8 s.tm t':=by
     intro b' au t';subst au;rw[UR];split
     .rename_i h;cases h;exact hb.symm
     .rfl
    by_cases ad:b=O
    .refine ak (s.put (some t) (.im (.bool O))) (aa O ad) rfl rfl ?_ (Q.1 ad);rw[hg];exact⟨t,ht,.inl ⟨b,by rw[aa O ad,hb],by simp[ad]⟩⟩
    .have ag:b= !O:=by cases b<;>cases O<;>simp_all
     have h2:=Q.2 ag;simp only[MH] at h2;refine ac (s.put (some t) (.im (.bool (!O)))) (aa _ ag) rfl rfl ?_ h2;rw[hg];exact⟨t,ht,.inl ⟨b,hb,by simp[ag]⟩⟩
end
def Yj(ops:Array Oper)(cl:List (List Nat)):List Oper->Nat->List (Nat×Oper)->Bool
 |[],_,_=>true
 |o::r,j,acc=>(o.after.toList.all λe=> !Ik e.ground||Nat.blt e.on j) && (acc.all (λp=>E0 cl p.1 j||p.2.apart ops o) && Yj ops cl r (j+1) ((j,o)::acc))
def stOk(ops:Array Oper):Bool:=Yj ops (ED ops.toList []) ops.toList 0 []
def Qup(e:Edge):Region.binds .any e=Ik e.ground:=by
 unfold Region.binds;cases e.ground<;>rfl
structure Wz(ops:Array Oper)(cl:List (List Nat)):Prop where
 lo: ∀(j:Nat) (o:Oper),ops[j]? =some o-> ∀e∈o.after.toList,Ik e.ground=true->e.on<j
 ap: ∀(i j:Nat) (x y:Oper),i<j->ops[i]? =some x->ops[j]? =some y->E0 cl i j=true\/x.apart ops y=true
def Pl{ops:Array Oper}{cl:List (List Nat)}: ∀(rest:List Oper) (j:Nat) (acc:List (Nat×Oper)),ops.toList.drop j=rest->(∀i x,i<j->ops[i]? =some x->(i,x)∈acc)->Yj ops cl rest j acc=true->
 (∀(k:Nat) (o:Oper),j<=k->ops[k]? =some o-> ∀e∈o.after.toList,Ik e.ground=true->e.on<k)/\
 (∀(i k:Nat) (x y:Oper),j<=k->i<k->ops[i]? =some x->ops[k]? =some y->E0 cl i k=true\/x.apart ops y=true):=by
 intro rest;induction rest with
 |nil=>
  intro j acc hd _ _;have hs:ops.size<=j:=by
   have:=De List.length hd
   simp at this;omega
  refine⟨λk o hk ho=> ?_,λi k x y hk _ _ Z=> ?_⟩
  .have:=(QF.1 ho).1;omega
  .have:=(QF.1 Z).1;omega
 |cons o rest ih=>
  intro j acc hd z hs;have G:ops[j]? =some o:=by
   have:(ops.toList.drop j)[0]? =some o:=by rw[hd];rfl
   simpa using this
  have aa:ops.toList.drop (j+1)=rest:=by
   have:(ops.toList.drop j).drop 1=rest:=by rw[hd];rfl
   rwa [DS] at this
  simp only[Yj,AW,CM,H8,PL,Ed] at hs;obtain⟨h1,h2,h3⟩:=hs;obtain⟨r1,r2⟩:=ih (j+1) ((j,o)::acc) aa (by
   intro i x hi O;rcases FB i j with h|h
   .exact BK _ (z i x h O)
   .have:i=j:=by omega
    subst this;rw[G] at O;cases O;exact BQ) h3
  refine⟨λk p hk hp=> ?_,λi k x y hk Q O Z=> ?_⟩
  .rcases FB j k with h|h
   .exact r1 k p h hp
   .have:k=j:=by omega
    subst this;rw[G] at hp;cases hp;intro e he hb;rcases h1 e he with h|h
    .rw[h] at hb;cases hb
    .exact h
  .rcases FB j k with h|h
   .exact r2 i k x y h Q O Z
   .have:k=j:=by omega
    subst this;rw[G] at Z;cases Z;exact h2 (i,x) (z i x Q O)
def Pm{ops:Array Oper}(h:stOk ops=true):Wz ops (ED ops.toList []):=by
 obtain⟨G,O⟩:=Pl (cl:=ED ops.toList []) ops.toList 0 [] rfl (by intro i x hi;omega) h;exact⟨λj o Q=>G j o (Cz _) Q,λi j x y z Z hy=>O i j x y (Cz _) z Z hy⟩
def SI(a b:List (List Nat)): ∀(k:Nat),k<a.length->D3 (a++b) k=D3 a k:=by
 induction a with
 |nil=>intro k z;simp at z
 |cons x a ih=>
  intro k z;cases k with
  |zero=>rfl
  |succ k=>exact ih k (by simpa using z)
def X8(a:List (List Nat))(x:List Nat)(b:List (List Nat)):D3 (a++x::b) a.length=x:=by
 induction a with
 |nil=>rfl
 |cons y a ih=>exact ih
def lM: ∀(a:List (List Nat)) (k:Nat),a.length<=k->D3 a k=[]
 |[],_,_=>rfl
 |_::a,0,h=>by simp at h
 |_::a,k+1,h=>lM a k (by simpa using h)
def Qnq: ∀(rest:List Oper) (acc:List (List Nat)) (k:Nat),k<acc.length->D3 (ED rest acc) k=D3 acc k
 |[],_,_,_=>rfl
 |o::r,acc,k,h=>by
  simp only[ED];rw[Qnq r _ k (by simp;omega),SI _ _ _ h]
def Qy4: ∀(rest:List Oper) (acc:List (List Nat)) (k:Nat) (o:Oper),rest[k]? =some o-> ∃z:List (List Nat),z.length=acc.length+k/\(∀m,m<z.length->D3 z m=D3 (ED rest acc) m)/\
 D3 (ED rest acc) (acc.length+k)=GS z o.after.toList
 |[],_,k,o,h=>by simp at h
 |x::r,acc,0,o,h=>by
  obtain rfl:x=o:=by simpa using h
  refine⟨acc,rfl,λm Z=>(Qnq _ _ m Z).symm,?_⟩;simp only[ED,FO];rw[Qnq _ _ _ (by simp),X8]
 |x::r,acc,k+1,o,h=>by
  obtain⟨z,O,Q,G⟩:=Qy4 r (acc++[GS acc x.after.toList]) k o (by simpa using h);simp only[DZ,Dd,H9] at O G;refine⟨z,by omega,Q,?_⟩;simp only[ED];rw[<-G];congr 1;omega
def Xo{x y:Nat}{l:List Nat}(h:y∈zR x l):y=x\/y∈l:=by
 unfold zR at h;cases hc:l.contains x<;>rw[hc] at h
 .simpa using h
 .exact .inr (by simpa using h)
def Qzy{y:Nat}: ∀(a l:List Nat),y∈Se a l->y∈a\/y∈l
 |[],_,h=> .inr h
 |x::r,l,h=>by
  rcases Xo h with h|h
  .exact .inl (by simp[h])
  .rcases Qzy r l h with h|h
   .exact .inl (by simp[h])
   .exact .inr h
def Qsb{acc:List (List Nat)}{i:Nat}: ∀(es:List Edge),i∈GS acc es-> ∃e∈es,Ik e.ground=true/\(i=e.on\/i∈D3 acc e.on)
 |[],h=>by simp[GS] at h
 |e::r,h=>by
  simp only[GS] at h;cases hb:Ik e.ground<;>rw[hb] at h
  .obtain⟨x,G,z⟩:=Qsb r h;exact⟨x,by simp[G],z⟩
  .simp only[BV] at h;have h:=Qzy _ _ h;simp only[Bt,or_assoc] at h;rcases h with h|h|h
   .exact⟨e,by simp,hb,.inl h⟩
   .exact⟨e,by simp,hb,.inr h⟩
   .obtain⟨x,G,z⟩:=Qsb r h;exact⟨x,by simp[G],z⟩
def WK{ops:Array Oper}{i j:Nat}{o:Oper}(ho:ops[j]? =some o)(h:i∈D3 (ED ops.toList []) j):
 ∃e∈o.after.toList,Ik e.ground=true/\(i=e.on\/(e.on<j/\i∈D3 (ED ops.toList []) e.on)):=by
 obtain⟨G,Z,h2,Q⟩:=Qy4 ops.toList [] j o (by simpa using ho);simp only[H9,FC] at Z Q;rw[Q] at h;obtain⟨e,he,hb,z⟩:=Qsb _ h;refine⟨e,he,hb,?_⟩;rcases z with z|z
 .exact .inl z
 .rcases FB e.on G.length with O|O
  .exact .inr ⟨by omega,by rw[<-h2 _ O];exact z⟩
  .rw[lM _ _ O] at z;cases z
def JE(ops:Array Oper)(D:Nat->Bool):Prop:= ∀(j:Nat) (o:Oper),D j=true->ops[j]? =some o-> ∀e∈o.after.toList,Ik e.ground=true->D e.on=true
def Qqg{ops:Array Oper}{D:Nat->Bool}(hc:JE ops D){i j:Nat}{o:Oper}(Q:ops[j]? =some o)(Z: ∀e∈o.after.toList,Ik e.ground=true->D e.on=true)
 (h:E0 (ED ops.toList []) i j=true):D i=true:=by
 have hi:i∈D3 (ED ops.toList []) j:=by simpa[E0] using h
 clear h;induction j using Nat.strongRecOn generalizing o with
 |_ j ih=>
  obtain⟨e,O,G,h|⟨h,h2⟩⟩:=WK Q hi
  .rw[h];exact Z e O G
  .have aa:=(QF.1 Q).1;have z:ops[e.on]? =some ops[e.on]:=PH (by omega);exact ih e.on h z (hc e.on _ (Z e O G) z) h2
structure gM(C:AZ)(N:Nat)(evs:List Ev)(s0:Az)(D:Nat->Bool)(S:Ay)(a:Act):Prop where
 wf:Wf C S
 h: ∀n,S.h n=HD D evs (hget s0.h) n
 tm: ∀t,Aa S (TD D evs (A8 s0.tm) t) (a.eval (.tmp t))
 size:a.tmps.size=N
 defers:a.defers=C.ds
 n0:C.n0<=s0.nx
 pre:C.Pre S
section
variable {P:Program}{ops:Array Oper}{s0 s:Az}{evs:List Ev}{acc:List Fp}{C:AZ}{N:Nat}
def Qzx{E:Bv}{nx:Nat}{r:AV}(z:E.ok nx r=true):(∀m∈r.nms,m<nx+E.cnt)/\(∀n x,hget E.new n=some x->(Fr nx E.cnt n\/(n∈E.kill/\n<nx))/\ ∀m∈x.2.nms,m<nx+E.cnt):=by
 simp only[Bv.ok,AW] at z;obtain⟨O,Q,Z⟩:=z;exact⟨pN r O,λn x G=>⟨Qlm _ Z n x G,cJ _ Q n x G⟩⟩
def WB(g:GT P ops (ED ops.toList []) s0 evs s acc)(bi: ∀n e,hget s0.h n=some e->n<s0.nx/\ ∀m∈e.2.nms,m<s0.nx)(a9: ∀t,∀m∈(A8 s0.tm t).nms,m<s0.nx)
 (st:Wz ops (ED ops.toList []))(hN:Lc N ops.toList=true){D:Nat->Bool}(hc:JE ops D){e:Ev}(he:e∈evs)(hD:D e.i=false)
 (hr: ∀x∈e.o.after.toList,Ik x.ground=true->D x.on=true){S:Ay}{a:Act}(hA:gM C N evs s0 D S a){K:Act->World->Prop}{Q:Exit->Act->World->Prop}
 (hK: ∀a' S',gM C N evs s0 (λi=>D i||i==e.i) S' a'->K a' S'.w):wpOp P ops Q e.i K a S.w:=by
 have ag:=((g.ev e he).1).op;have bh: ∀k,E0 (ED ops.toList []) k e.i=true->D k=true:=λk hk=>Qqg hc ag hr hk
 have az: ∀d,e.o.dst=some d->d<N:=by
  have: ∀(l:List Oper),Lc N l=true-> ∀o∈l,∀d,o.dst=some d->d<N:=by
   intro l;induction l with
   |nil=>intro _ o ho;cases ho
   |cons x l ih=>
    intro h o ho d hd;simp only[Lc,AW] at h;rcases Bt.1 ho with rfl|ho
    .have:=h.1
     rw[hd] at this;simpa using this
    .exact ih h.2 o ho d hd
  exact this _ hN e.o (by
   have:=ZeP ag
   simpa using this)
 have aj: ∀f∈evs,D f.i≠JD e.i f.i->(f.i<e.i/\D f.i=false/\qQ f e/\f.o.apart ops e.o=true)\/(e.i<f.i/\D f.i=true/\qQ e f/\e.o.apart ops f.o=true):=by
  intro f hf G;have ak:=((g.ev f hf).1).op;rcases rN f.i e.i with h|h|h
  .have hl:JD e.i f.i=true:=by simpa[JD] using h
   have O:D f.i=false:=by
    cases hq:D f.i
    .rfl
    .rw[hq,hl] at G;exact absurd rfl G
   have ai:E0 (ED ops.toList []) f.i e.i=false:=by
    cases hq:E0 (ED ops.toList []) f.i e.i
    .rfl
    .have:=bh _ hq;rw[O] at this;cases this
   refine .inl ⟨h,O,?_,?_⟩
   .rcases g.pair f hf e he h with z|z
    .rw[ai] at z;cases z
    .exact z
   .rcases st.ap f.i e.i f.o e.o h ak ag with z|z
    .rw[ai] at z;cases z
    .exact z
  .have hl:JD e.i f.i=false:=by
    rw[h];rw[PJ];intro h';have:=IT h';omega
   rw[hl,h,hD] at G;exact absurd rfl G
  .have hl:JD e.i f.i=false:=by
    rw[PJ];intro h';have:=IT h';omega
   have O:D f.i=true:=by
    cases hq:D f.i
    .rw[hq,hl] at G;exact absurd rfl G
    .rfl
   have ai:E0 (ED ops.toList []) e.i f.i=false:=by
    cases hq:E0 (ED ops.toList []) e.i f.i
    .rfl
    .have:=Qqg hc ak (hc f.i f.o O ak) hq
     rw[hD] at this;cases this
   refine .inr ⟨h,O,?_,?_⟩
   .rcases g.pair e he f hf h with z|z
    .rw[ai] at z;cases z
    .exact z
   .rcases st.ap e.i f.i e.o f.o h ag ak with z|z
    .rw[ai] at z;cases z
    .exact z
 have ac: ∀f∈evs,D f.i=true->f.i<e.i\/(e.i<f.i/\qQ e f/\e.o.apart ops f.o=true):=by
  intro f hf O;rcases FB f.i e.i with h|h
  .exact .inl h
  .have hl:JD e.i f.i=false:=by
    rw[PJ];intro h';have:=IT h';omega
   rcases aj f hf (by rw[O,hl];simp) with ⟨z,_⟩|⟨z,_,h2⟩
   .omega
   .exact .inr ⟨z,h2⟩
 have bb: ∀t,t∈e.o.looksAt ops->TD D evs (A8 s0.tm) t=A8 e.s.tm t:=by
  intro t ht;rw[g.atT e he t];refine iG evs _ _ rfl ?_;intro f hf G;rcases aj f hf G with ⟨_,_,_,h⟩|⟨_,_,_,h⟩
  .intro hd;exact (Oper.apart_spec h).1 t hd ht
  .intro hd;exact (Oper.apart_spec h).2.2 t hd ht
 have aa:evs=evs.take e.i++e::evs.drop (e.i+1):=by
  have hl:=g.lt e he;have hget:evs[e.i]? =some evs[e.i]:=B2 hl;obtain⟨k,hk,a8⟩:=dJ.1 he;have bg:=g.idx k e (by rw[B2 hk,a8]);subst bg
  conv=>lhs;rw[<-QH e.i evs]
  rw[Vh hl,a8]
 have an: ∀f∈evs.take e.i,f∈evs/\f.i<e.i:=by
  intro f hf;refine⟨zB hf,?_⟩;obtain⟨k,hk,au⟩:=dJ.1 hf;have bl:k<e.i:=by simp at hk;omega
  have:=g.idx k f (by
   rw[<-au,List.getElem_take];exact B2 _)
  omega
 have ab: ∀f∈evs.drop (e.i+1),f∈evs/\e.i<f.i:=by
  intro f hf;refine⟨Zfe hf,?_⟩;obtain⟨k,hk,au⟩:=dJ.1 hf
  have:=g.idx (e.i+1+k) f (by
   rw[<-au,List.getElem_drop];exact B2 _)
  omega
 let D':Nat->Bool:=λi=>D i||i==e.i
 have ay:D' e.i=true:=by simp[D']
 have af: ∀f∈evs,f.i≠e.i->D f.i=D' f.i:=by
  intro f _ G
  have:(f.i==e.i)=false:=by rw[HE];exact G
  simp[D',this]
 have bd: ∀n,HD D' evs (hget s0.h) n=e.E.appf (HD D evs (hget s0.h)) n:=by
  intro n;have e1:HD D' evs (hget s0.h)=HD D' (evs.drop (e.i+1)) (e.E.appf (HD D' (evs.take e.i) (hget s0.h))):=by
   conv=>lhs;rw[aa]
   rw[qD];simp only[HD,ay,BV]
  have e2:HD D evs (hget s0.h)=HD D (evs.drop (e.i+1)) (HD D (evs.take e.i) (hget s0.h)):=by
   conv=>lhs;rw[aa]
   rw[qD];simp only[HD,hD,Bs]
  have e3:HD D' (evs.take e.i) (hget s0.h)=HD D (evs.take e.i) (hget s0.h):=by
   funext m;refine iE _ _ _ rfl ?_;intro f hf G
   have:=an f hf
   exact absurd (af f this.1 (by omega)).symm G
  rw[e1,e2,e3];by_cases hn:n∈e.E.touch
  .rw[WA hn (h':=HD D (evs.take e.i) (hget s0.h))];refine Qw6 _ _ n ?_;intro f hf O;have z:=ab f hf;rw[<-af f z.1 (by omega)] at O;rcases ac f z.1 O with h2|⟨_,h2,_⟩
   .omega
   .intro av;exact h2.b n av hn
  .rw[oS hn];refine iE _ _ _ (oS hn) ?_;intro f hf G
   have:=ab f hf
   exact absurd (af f this.1 (by omega)).symm G
 have be: ∀t,TD D' evs (A8 s0.tm) t=if e.o.dst=some t then e.r else TD D evs (A8 s0.tm) t:=by
  intro t;have e1:TD D' evs (A8 s0.tm)=TD D' (evs.drop (e.i+1)) (λt=>bif e.o.dst==some t then e.r else TD D' (evs.take e.i) (A8 s0.tm) t):=by
   conv=>lhs;rw[aa]
   rw[qG];simp only[TD,ay,Ew]
  have e2:TD D evs (A8 s0.tm)=TD D (evs.drop (e.i+1)) (TD D (evs.take e.i) (A8 s0.tm)):=by
   conv=>lhs;rw[aa]
   rw[qG];simp only[TD,hD,FP,Bs]
  have e3:TD D' (evs.take e.i) (A8 s0.tm)=TD D (evs.take e.i) (A8 s0.tm):=by
   funext m;refine iG _ _ _ rfl ?_;intro f hf G
   have:=an f hf
   exact absurd (af f this.1 (by omega)).symm G
  rw[e1,e2,e3];by_cases hn:e.o.dst=some t
  .rw[Ai hn];rw[Qyr]
   .simp[hn]
   .intro f hf O;have z:=ab f hf;rw[<-af f z.1 (by omega)] at O;rcases ac f z.1 O with h2|⟨_,_,h2⟩
    .omega
    .exact (Oper.apart_spec h2).2.1 t hn
  .rw[Af hn];have hq:(e.o.dst==some t)=false:=by rw[HE];exact hn
   refine iG _ _ _ (by simp[hq]) ?_;intro f hf G
   have:=ab f hf
   exact absurd (af f this.1 (by omega)).symm G
 have ba:s0.nx<=e.s.nx:=(g.ev e he).2.1;have ao: ∀f∈evs,D f.i=true->(∀m∈f.r.nms,¬Fr e.s.nx e.E.cnt m)/\(∀n x,hget f.E.new n=some x-> ¬Fr e.s.nx e.E.cnt n/\ ∀m∈x.2.nms,¬Fr e.s.nx e.E.cnt m):=by
  intro f hf O;rcases ac f hf O with h|⟨_,h,_⟩
  .have bm:=g.ord f hf e he h;obtain⟨aw,_⟩:=g.ev f hf;cases hs:f.skip
   .obtain⟨z,h2⟩:=Qzx (aw.doo hs).2;refine⟨λm hm Z=> ?_,λn x hx=>⟨λZ=> ?_,λm hm Z=> ?_⟩⟩
    .have:=z m hm;have:=Z.1;omega
    .have:=Z.1
     rcases (h2 n x hx).1 with h3|h3
     .have:=h3.2;omega
     .omega
    .have:=(h2 n x hx).2 m hm;have:=Z.1;omega
   .obtain⟨z,h2⟩:=aw.skp hs;rw[z,h2];exact⟨by simp[AV.nms],by simp[hget]⟩
  .refine⟨λm hm=>h.d m (by simp[hm]),λn x hx=>⟨h.d n ?_,λm hm=>h.d m ?_⟩⟩
   .have:=(Qtn _ hx).1
    simp[Bv.touch,this]
   .have:=(Qtn _ hx).2 m hm
    simp[this]
 have a0: ∀t,∀m∈(TD D evs (A8 s0.tm) t).nms,¬Fr e.s.nx e.E.cnt m:=by
  intro t m hm;rcases QE (D:=D) (t:=t) evs (A8 s0.tm) with h|⟨f,hf,O,h⟩
  .rw[h] at hm;intro Z
   have:=a9 t m hm
   have:=Z.1
   omega
  .rw[h] at hm;exact (ao f hf O).1 m hm
 have am: ∀n x,HD D evs (hget s0.h) n=some x-> ¬Fr e.s.nx e.E.cnt n/\ ∀m∈x.2.nms,¬Fr e.s.nx e.E.cnt m:=by
  intro n x hx;rcases JF evs (hget s0.h) hx with h|⟨f,hf,O,h⟩
  .obtain⟨z,h2⟩:=bi n x h;exact⟨λZ=>by have:=Z.1;omega,λm hm Z=>by have:=Z.1;have:=h2 m hm;omega⟩
  .exact (ao f hf O).2 n x h
 have ah: ∀v S',Wf C S'->S'.h=e.E.appf S.h->BE (λm=> ¬Fr e.s.nx e.E.cnt m) S S'->Aa S' e.r v->K (a.put e.o.dst v) S'.w:=by
  intro v S' hW hh hp hv;refine hK _ S' ⟨hW,λn=> ?_,λt=> ?_,?_,?_,hA.n0,Qy2 hA.pre (CD hA.n0 ba) hp⟩
  .rw[hh];exact (Qym (hA.h n)).trans (bd n).symm
  .have:=be t
   simp only[D'] at this;rw[this,uE (λd h=>by rw[hA.size];exact az d h)];split
   .exact hv
   .exact I1 hp _ _ (a0 t) (hA.tm t)
  .cases e.o.dst<;>simp[Act.put,hA.size]
  .cases e.o.dst<;>simp[Act.put,hA.defers]
 have aq:=(g.ev e he).1;have ax:Region.wanted e.o (yielded ops a.tmps)= !e.skip:=by
  have ad:=aq.gd;unfold Region.wanted;cases hg:e.o.guard with
  |none=>
   rw[hg] at ad;simp only[Vy] at ad;simp[ad]
  |some gw=>
   obtain⟨q,bc⟩:=gw;rw[hg] at ad;obtain⟨t,ht,ad⟩:=ad;have bf:TD D evs (A8 s0.tm) t=A8 e.s.tm t:=bb t (by simp[Oper.looksAt,hg,ht]);have z:=hA.tm t;rw[bf] at z;rcases ad with ⟨b,hb,hs⟩|⟨hb,hs⟩
   .rw[hb] at z;simp only[Aa,rd,Act.eval] at z;have hy:yielded ops a.tmps q=some b:=by
     unfold yielded;rw[ht];simp only[GE];rw[H5] at z;cases hq:a.tmps[t]? with
     |none=>rw[hq] at z;simp[undef] at z
     |some v=>rw[hq] at z;simp at z;rw[z]
    simp only[hy,hs];cases b<;>cases bc<;>rfl
   .rw[hb] at z;simp only[Aa,rd,rdl,Act.eval] at z;obtain⟨vs,z,_⟩:=z;have hy:yielded ops a.tmps q=none:=by
     unfold yielded;rw[ht];simp only[GE];rw[H5] at z;cases hq:a.tmps[t]? with
     |none=>rfl
     |some v=>rw[hq] at z;simp at z;rw[z]
    simp only[hy,hs];rfl
 unfold wpOp;simp only[ag,ax];cases hs:e.skip
 .simp only[W6,B5];refine .inl ?_;obtain⟨bj,aw⟩:=aq.doo hs;refine bj C S a K Q hA.wf ?_ ?_ ?_ ?_ ah
  .intro n hn;rw[hA.h n,g.atH e he n];refine iE evs _ _ rfl ?_;intro f hf G;rcases aj f hf G with ⟨_,_,h,_⟩|⟨_,_,h,_⟩
   .exact h.a n hn
   .intro av;exact h.c n av hn
  .intro n Z;cases hn:S.h n with
   |none=>rfl
   |some x=>
    rw[hA.h n] at hn;exact absurd Z (am n x hn).1
  .intro n x hx m hm;rw[hA.h n] at hx;exact (am n x hx).2 m hm
  .intro x hx;cases x with
   |tmp t=>
    simp only[Ap];rw[<-bb t (by
     simp only[Oper.looksAt,Bz,List.mem_filterMap];exact .inl ⟨.tmp t,by simpa using hx,rfl⟩)]
    exact hA.tm t
   |const v=>exact LQ S v
   |global g=>simp only[Ap,Aa,rd,Act.eval]
   |func f=>exact kW _ _ f
 .simp only[jE,CQ,CA];obtain⟨z,h2⟩:=aq.skp hs;refine ah undef S hA.wf ?_ (BE.refl _ _) ?_
  .rw[h2];funext n;simp[Bv.appf,hget]
  .rw[z];simp only[Aa,rd,rdl];exact⟨#[],rfl,rfl⟩
abbrev dn(listed:Array Bool):Nat->Bool:=λi=>listed.getD i false
def tV(listed:Array Bool):Nat:=listed.toList.countP (λb=> !b)
def eE{listed:Array Bool}{j:Nat}(z:j<listed.size):dn (listed.setIfInBounds j true)=λi=>dn listed i||i==j:=by
 funext i;simp only[dn];by_cases h:j=i
 .subst h;simp[z]
 .rw[getD_set_ne false h]
  have:(i==j)=false:=by rw[HE];exact λh'=>h h'.symm
  simp[this]
def MW{listed:Array Bool}{j:Nat}(G:j<listed.size)(O:listed.getD j true=false):tV (listed.setIfInBounds j true)+1=tV listed:=by
 unfold tV;rw[Zdv];have z:j<listed.toList.length:=by simpa using G
 have Z:listed.toList[j]=false:=by
  rw[H5,PH G] at O;simpa using O
 have Q:0<listed.toList.countP (λb=> !b):=by
  rw[List.countP_pos_iff];exact⟨false,by rw[<-Z];exact QJ _,rfl⟩
 rw[List.countP_set z,Z];simp only[W6,B5,jE,CQ,CA];omega
def Qabb{listed:Array Bool}(hs:listed.size=ops.size)(st:Wz ops (ED ops.toList []))(Z:Region.ready .any ops listed=[]): ∀i,i<ops.size->dn listed i=true:=by
 intro i;induction i using Nat.strongRecOn with
 |_ i ih=>
  intro Q;cases hq:dn listed i with
  |true=>rfl
  |false=>
   exfalso
   have:i∈Region.ready .any ops listed:=by
    rw[mem_ready];have z:ops[i]? =some ops[i]:=PH Q;refine⟨?_,ops[i],z,?_⟩
    .simp only[dn] at hq;rw[H5,PH (by omega)] at hq⊢;simpa using hq
    .intro e O G;rw[Qup] at G
     have:=st.lo i _ z e (by simpa using O) G
     exact ih e.on this (by omega)
   rw[Z] at this;cases this
def dW(g:GT P ops (ED ops.toList []) s0 evs s acc)(au:evs.length=ops.size)(an: ∀n e,hget s0.h n=some e->n<s0.nx/\ ∀m∈e.2.nms,m<s0.nx)(ai: ∀t,∀m∈(A8 s0.tm t).nms,m<s0.nx)
 (st:Wz ops (ED ops.toList []))(hN:Lc N ops.toList=true){Q:Exit->Act->World->Prop}(hQ: ∀a S,gM C N evs s0 NN S a->Q .normal a S.w):
 ∀(G:Nat) (listed:Array Bool) (S:Ay) (a:Act),tV listed<=G->listed.size=ops.size->JE ops (dn listed)->gM C N evs s0 (dn listed) S a->wpAny P .any ops Q G listed a S.w:=by
 have ab: ∀(listed:Array Bool) (S:Ay) (a:Act),listed.size=ops.size->(∀i,i<ops.size->dn listed i=true)->gM C N evs s0 (dn listed) S a->Q .normal a S.w:=by
  intro listed S a hs z Z;refine hQ a S ⟨Z.wf,λn=> ?_,λt=> ?_,Z.size,Z.defers,Z.n0,Z.pre⟩
  .rw[Z.h n];refine iE evs _ _ rfl ?_;intro f hf ad;exact absurd (z f.i (by have:=g.lt f hf;omega)) ad
  .have:TD NN evs (A8 s0.tm) t=TD (dn listed) evs (A8 s0.tm) t:=by
    refine iG evs _ _ rfl ?_;intro f hf ad;exact absurd (z f.i (by have:=g.lt f hf;omega)).symm ad
   rw[this];exact Z.tm t
 intro G;induction G with
 |zero=>
  intro listed S a hu hs hcl Z;have z: ∀i,i<ops.size->dn listed i=true:=by
   intro i hi;cases hq:dn listed i with
   |true=>rfl
   |false=>
    have:= @MW listed i (by omega) (by
     simp only[dn] at hq;rw[H5,PH (by omega)] at hq⊢;simpa using hq)
    omega
  refine⟨?_,ab listed S a hs z Z⟩;rw[List.eq_nil_iff_forall_not_mem];intro j hj;obtain⟨h0,o,ho,_⟩:=mem_ready.1 hj;have am:=(QF.1 ho).1
  have:=z j am
  simp only[dn] at this;rw[H5,PH (by omega)] at this h0;simp at this h0;rw[h0] at this;cases this
 |succ G ih=>
  intro listed S a hu hs hcl Z;refine⟨λhr=>ab listed S a hs (Qabb hs st hr) Z,λj hj=> ?_⟩;obtain⟨h0,o,ho,z⟩:=mem_ready.1 hj;have av:=(QF.1 ho).1;have ah:j<evs.length:=by omega
  have O:=g.idx j evs[j] (B2 ah);have ac:evs[j]∈evs:=QJ ah;have aj:=((g.ev _ ac).1).op;rw[O,ho] at aj;have ak:dn listed j=false:=by
   simp only[dn];rw[H5,PH (by omega)] at h0⊢;simpa using h0
  have aa: ∀e∈o.after.toList,Ik e.ground=true->dn listed e.on=true:=λe he hb=>z e (by simpa using he) (by rw[Qup];exact hb)
  have ao:evs[j].o=o:=(AB aj).symm;have aq:=WB g an ai st hN hcl ac (by rw[O];exact ak) (by rw[ao];exact aa) Z (Q:=Q) (K:=wpAny P .any ops Q G (listed.setIfInBounds j true)) ?_
  .rwa [O] at aq
  .intro a' S' af;rw[O] at af;have ag:=eE (listed:=listed) (j:=j) (by omega);refine ih (listed.setIfInBounds j true) S' a' ?_ (by simpa using hs) ?_ (by rw[ag];exact af)
   .have:= @MW listed j (by omega) h0
    omega
   .rw[ag];intro k p hk hp e he hb;simp only[H8,PO] at hk⊢;rcases hk with hk|rfl
    .exact .inl (hcl k p hk hp e he hb)
    .rw[ho] at hp;cases hp;exact .inl (aa e he hb)
end
def Qog{P:Program}{V:CT}(HV:Hx P V){C:AZ}{N:Nat}{ops:Array Oper}{K:Az->Prop}{Q:Exit->Act->World->Prop}(hQ: ∀s a w,K s->BC C N s a w->Q .normal a w)
 (hd:Lc N ops.toList=true)(ad:stOk ops=true){s:Az}{a:Act}{w:World}(hk:Vv P V (ED ops.toList []) (Hz ops ops.toList) 0 K [] s)(z:BC C N s a w):wpAny P .any ops Q ops.size (Array.replicate ops.size false) a {w with drawn:=w.drawn+1}:=by
 obtain⟨S,rfl,z⟩:=z;obtain⟨evs,s',acc,Z,g,hK⟩:=Pt HV ops.toList 0 [] s [] rfl rfl (GT.nil z.nmT) hk;have hW:=z.wf
 let S1:Ay:={S with w:={S.w with drawn:=S.w.drawn+1}}
 have hp:BE (λ_=>True) S S1:=⟨λb hb=>⟨hb,rfl⟩,λo _ e' ac=>⟨e',ac,rfl,rfl,rfl⟩⟩;have hA:gM C N evs s (dn (Array.replicate ops.size false)) S1 a:=by
  have aa: ∀i,dn (Array.replicate ops.size false) i=false:=by
   intro i;simp only[dn,H5,dP]
   split<;>rfl
  refine⟨⟨hW.os,hW.tape,hW.output,CD hW.dr (jP _),hW.size,hW.keep,hW.ok0,hW.ok1,hW.oks,?_,hW.loc,hW.inj,hW.gl⟩,λn=> ?_,λt=> ?_,z.size,z.defers,z.n0,z.pre⟩
  .intro o e O;exact Hd hp (λ_ _=>rfl) _ (λ_ _=>trivial) (hW.obj o e O)
  .rw[Qw6]
   .exact z.h n
   .intro e _ h;rw[aa] at h;cases h
  .rw[Qyr]
   .exact I1 hp _ _ (λ_ _=>trivial) (z.tm t)
   .intro e _ h;rw[aa] at h;cases h
 have af:=dW (C:=C) (N:=N) (Q:=Q) g (by simpa using Z) z.nmH z.nmT (Pm ad) hd ?_ ops.size (Array.replicate ops.size false) S1 a (by unfold tV;exact CD List.countP_le_length (by simp)) (by simp) ?_ hA
 .exact af
 .intro a' S' G;refine hQ s' a' S'.w hK ⟨S',rfl,G.wf,λn=> ?_,λt=> ?_,g.nmT,?_,G.size,G.defers,CD z.n0 g.nx,G.pre⟩
  .rw[G.h n,g.h n]
  .rw[g.tm t];exact G.tm t
  .intro n e O;rw[g.h n] at O;rcases JF evs _ O with h|⟨f,hf,_,h⟩
   .obtain⟨h1,h2⟩:=z.nmH n e h
    have:=g.nx
    exact⟨by omega,λm hm=>by have:=h2 m hm;omega⟩
   .obtain⟨ab,h2,h3⟩:=g.ev f hf;cases hs:f.skip
    .obtain⟨_,h5⟩:=Qzx (ab.doo hs).2;obtain⟨h6,h7⟩:=h5 n e h;refine⟨?_,λm hm=>by have:=h7 m hm;omega⟩;rcases h6 with h6|h6
     .have:=h6.2;omega
     .omega
    .rw[(ab.skp hs).2] at h;simp[hget] at h
 .intro j o hj _ e O hb
  have:dn (Array.replicate ops.size false) j=false:=by
   simp only[dn,H5,dP]
   split<;>rfl
  rw[this] at hj;cases hj
def Qtk{P:Program}(G:P.follows .mixedOrders=true){V:CT}(O:Hx P V){C:AZ}{N id:Nat}{ops:Array Oper}{K:Az->Prop}{Q:Exit->Act->World->Prop}(Z: ∀s a w,K s->BC C N s a w->Q .normal a w)
 (hd:Lc N ops.toList=true)(z:stOk ops=true){s:Az}{a:Act}{w:World}(hk:Vv P V (ED ops.toList []) (Hz ops ops.toList) 0 K [] s)(hc:BC C N s a w):(Code.region id ops true).wp P Q a w:=
 wp_region_any G (Qog O Z hd z hk hc)
def DT(N:Nat):Code->Bool
 | .skip=>true
 | .region _ ops z=>Lc N ops.toList && (!z||stOk ops)
 | .seq a b=>DT N a && DT N b
 | .cond _ a b=>DT N a && DT N b
 | .block _ c=>DT N c
 | .loop c=>DT N c
 | .exit _=>true
 | .ret=>true
 |_=>false
def Gx(C:AZ)(N:Nat)(Q:Ci):Exit->Act->World->Prop
 | .normal,a,w=> ∃s,Q .normal s/\BC C N s a w
 | .exit i,a,w=> ∃s,Q (.exit i) s/\BC C N s a w
 | .ret,a,w=> ∃s,Q .ret s/\BC C N s a w
 |_,_,_=>False
def Qv7{s:Az}: ∀(tm:List (Nat×AV)),Gw s tm-> ∀t,A8 tm t= .any\/A8 tm t=A8 s.tm t
 |[],_,t=> .inl rfl
 |(q,x)::tm,h,t=>by
  simp only[Gw] at h;simp only[A8];cases hq:q==t
  .simpa using Qv7 tm h.2 t
  .have:q=t:=by simpa using hq
   subst this;exact .inr (by simpa using h.1.symm)
def Qtu{s:Az}: ∀(hs:Ao),BZ s hs-> ∀n e,hget hs n=some e->hget s.h n=some e
 |[],_,n,e,h=>by simp[hget] at h
 |(q,x)::hs,h,n,e,z=>by
  simp only[BZ] at h;simp only[hget] at z;cases hq:q==n<;>rw[hq] at z
  .exact Qtu hs h.2 n e (by simpa using z)
  .have:q=n:=by simpa using hq
   subst this;simp only[BV,AM] at z;subst z;exact h.1
def nX{n:Nat}: ∀(tm:List (Nat×AV)),Cp n tm=true-> ∀t,∀m∈(A8 tm t).nms,m<n
 |[],_,t,m,z=>by simp[A8,AV.nms] at z
 |(q,x)::tm,h,t,m,z=>by
  simp only[Cp,AW] at h;simp only[A8] at z;cases hq:q==t<;>rw[hq] at z
  .exact nX tm h.2 t m (by simpa using z)
  .exact pN x h.1 m (by simpa using z)
def nV{n:Nat}: ∀(hs:Ao),BB n hs=true-> ∀m e,hget hs m=some e->m<n
 |[],_,m,e,h=>by simp[hget] at h
 |(q,x)::hs,h,m,e,z=>by
  simp only[BB,AW,Ed] at h;simp only[hget] at z;cases hq:q==m<;>rw[hq] at z
  .exact nV hs h.2 m e (by simpa using z)
  .have:q=m:=by simpa using hq
   omega
def iO{C:AZ}{N:Nat}{s s':Az}{a:Act}{w:World}(Q:BC C N s a w)(hs:sub s s')(hg:s'.good=true)(ag:C.n0<=s'.nx):BC C N s' a w:=by
 obtain⟨S,rfl,Q⟩:=Q;obtain⟨hT,hH⟩:=hs;simp only[Az.good,AW] at hg;obtain⟨ab,ac,ad⟩:=hg;have z: ∀n e,hget s'.h n=some e->S.h n=some e:=λn e O=>(Q.h n).trans (Qtu _ hH n e O)
 have hp:BE (λ_=>True) S {S with h:=hget s'.h}:=⟨λb Z=>⟨Z,rfl⟩,λo _ e' G=>⟨e',z o e' G,rfl,rfl,rfl⟩⟩;have hW:=Q.wf;refine⟨{S with h:=hget s'.h},rfl,⟨hW.os,hW.tape,hW.output,hW.dr,hW.size,hW.keep,hW.ok0,hW.ok1,hW.oks,?_,?_,?_,hW.gl⟩,λn=>rfl,?_,nX _ ab,?_,Q.size,Q.defers,ag,?_⟩
 .intro o e O;exact Hd hp (λ_ _=>rfl) _ (λ_ _=>trivial) (hW.obj o e (z o e O))
 .intro o e l O hl;exact hW.loc o e l (z o e O) hl
 .intro o o' e e' l l' O G hl af Z aa;exact hW.inj o o' e e' l l' (z o e O) (z o' e' G) hl af Z aa
 .intro t;rcases Qv7 _ hT t with h|h
  .rw[h];simp only[Aa]
  .rw[h];exact I1 hp _ _ (λ_ _=>trivial) (Q.tm t)
 .intro n e O;exact⟨nV _ ad n e O,cJ _ ac n e O⟩
 .intro o ho e' G;exact Q.pre o ho e' (z o e' G)
def Z9{lo:Nat}: ∀(π:List (Nat×Option Nat)),HO lo π-> ∀n,n<lo->pm π n=some n
 |[],_,n,_=>rfl
 |(a,b)::r,h,n,hn=>by
  simp only[HO] at h;simp only[pm];rw[Af (by omega)];exact Z9 r h.2 n hn
section
variable {S S':Ay}{π:List (Nat×Option Nat)}
mutual
def Qyf(ab:S'.ok=S.ok)(aa:S'.hp=S.hp)(hρ: ∀n m,pm π n=some m->S'.ρ n=S.ρ m)(hρ0: ∀n,pm π n=none->S'.ρ n=none)
 (hh: ∀n m,pm π n=some m-> ∀e',S'.h n=some e'-> ∃e,S.h m=some e/\e.2.esz=e'.2.esz/\e.2.len=e'.2.len): ∀(x' x:AV) (v:Value),mt π x' x->Aa S x v->Aa S' x' v
 | .any,_,_,_,_=>by simp only[Aa]
 | .im d,x,v,h,z=>by
   simp only[mt] at h;subst h;simp only[Aa,ab,aa] at z⊢;exact z
 | .own n,x,v,h,z=>by
   simp only[mt] at h;cases hp:pm π n with
   |some m=>
    rw[hp] at h;simp only[EO] at h;subst h;simp only[Aa] at z⊢;refine⟨z.1,λe' G=> ?_⟩;obtain⟨e,O,Q,Z⟩:=hh n m hp e' G;rw[hρ n m hp,<-Z];exact z.2 e O
   |none=>
    rw[hp] at h;simp only[EO] at h;unfold eU at h;split at h
    .simp only[Aa,rd] at z;have hv:v= .slice none 0 0:=by
      rcases z with z|⟨_,_,_,_,_,_,_,Q,_⟩
      .exact wU z.1
      .exact absurd rfl (Q trivial)
     subst hv;simp only[Aa];refine⟨rfl,λe' G=> ?_⟩;rw[hρ0 n hp];trivial
    .exact h.elim
 | .ptr n p,x,v,h,z=>by
   simp only[mt] at h;cases hp:pm π n with
   |none=>rw[hp] at h;exact h.elim
   |some m=>
    rw[hp] at h;simp only[GO] at h;subst h;simp only[Aa] at z⊢;refine⟨z.1,λe' G=> ?_⟩;obtain⟨e,O,Q,Z⟩:=hh n m hp e' G;rw[hρ n m hp];exact z.2 e O
 | .eptr n i p,x,v,h,z=>by
   simp only[mt] at h;cases hp:pm π n with
   |none=>rw[hp] at h;exact h.elim
   |some m=>
    rw[hp] at h;simp only[GO] at h;subst h;simp only[Aa] at z⊢;refine⟨z.1,λe' G=> ?_⟩;obtain⟨e,O,Q,Z⟩:=hh n m hp e' G;rw[hρ n m hp,<-Q];exact z.2 e O
 | .mp n,x,v,h,z=>by
   simp only[mt] at h;cases hp:pm π n with
   |none=>rw[hp] at h;exact h.elim
   |some m=>
    rw[hp] at h;simp only[GO] at h;subst h;simp only[Aa] at z⊢;refine⟨z.1,λe' G=> ?_⟩;obtain⟨e,O,Q,Z⟩:=hh n m hp e' G;rw[hρ n m hp];exact z.2 e O
 | .ch n,x,v,h,z=>by
   simp only[mt] at h;cases hp:pm π n with
   |none=>rw[hp] at h;exact h.elim
   |some m=>
    rw[hp] at h;simp only[GO] at h;subst h;simp only[Aa] at z⊢;refine⟨z.1,λe' G=> ?_⟩;obtain⟨e,O,Q,Z⟩:=hh n m hp e' G;rw[hρ n m hp];exact z.2 e O
 | .it n,x,v,h,z=>by
   simp only[mt] at h;cases hp:pm π n with
   |none=>rw[hp] at h;exact h.elim
   |some m=>
    rw[hp] at h;simp only[GO] at h;subst h;simp only[Aa] at z⊢;refine⟨z.1,λe' G=> ?_⟩;obtain⟨e,O,Q,Z⟩:=hh n m hp e' G;rw[hρ n m hp];exact z.2 e O
 | .osl n a k,x,v,h,z=>by
   simp only[mt] at h;cases hp:pm π n with
   |none=>rw[hp] at h;exact h.elim
   |some m=>
    rw[hp] at h;simp only[GO] at h;subst h;simp only[Aa] at z⊢;refine⟨z.1,λe' G=> ?_⟩;obtain⟨e,O,Q,Z⟩:=hh n m hp e' G;rw[hρ n m hp,<-Q,<-Z];exact z.2 e O
 | .agg cs,x,v,h,z=>by
   have ac: ∀ds,Dp π cs ds->Aa S (.agg ds) v->Aa S' (.agg cs) v:=by
    intro ds h z;simp only[Aa] at z⊢;obtain⟨vs,rfl,O⟩:=z;exact⟨vs,rfl,Qts ab aa hρ hρ0 hh cs ds _ h O⟩
   cases x<;>try (simp only[mt] at h;done)
   case agg ds=>
    simp only[mt] at h;exact ac ds h z
   case im d=>
    cases d<;>try (simp only[mt] at h;done)
    rename_i ds;simp only[mt] at h;refine ac _ h ?_;simp only[Aa,rd] at z⊢;obtain⟨vs,rfl,O⟩:=z;exact⟨vs,rfl,(Ir _ _).2 O⟩
 | .tup cs,x,v,h,z=>by simp only[mt] at h
 | .clo f a c,x,v,h,z=>by simp only[mt] at h
def Qts(G:S'.ok=S.ok)(z:S'.hp=S.hp)(hρ: ∀n m,pm π n=some m->S'.ρ n=S.ρ m)(hρ0: ∀n,pm π n=none->S'.ρ n=none)
 (Z: ∀n m,pm π n=some m-> ∀e',S'.h n=some e'-> ∃e,S.h m=some e/\e.2.esz=e'.2.esz/\e.2.len=e'.2.len): ∀(O xs:List AV) (vs:List Value),Dp π O xs->AN S xs vs->AN S' O vs
 |[],[],vs,h,Q=>by simpa only[AN] using Q
 |x::r,y::s,vs,h,Q=>by
  simp only[Dp] at h;simp only[AN] at Q⊢;obtain⟨v,w,rfl,h1,h2⟩:=Q;exact⟨v,w,rfl,Qyf G z hρ hρ0 Z x y v h.1 h1,Qts G z hρ hρ0 Z r s w h.2 h2⟩
 |[],_::_,vs,h,_=>by simp only[Dp] at h
 |_::_,[],vs,h,_=>by simp only[Dp] at h
end
end
def Qya{π:List (Nat×Option Nat)}: ∀{a b:List (List AV)},FQ π a b->b.length=a.length
 |[],[],_=>rfl
 |_::_,_::_,h=>by simp[Qya h.2]
 |[],_::_,h=>h.elim
 |_::_,[],h=>h.elim
def Mf{π:List (Nat×Option Nat)}: ∀{a b:List AV},Dp π a b->b.length=a.length
 |[],[],_=>rfl
 |_::_,_::_,h=>by simp only[Dp] at h;simp[Mf h.2]
 |[],_::_,h=>by simp only[Dp] at h
 |_::_,[],h=>by simp only[Dp] at h
def Qxn{π:List (Nat×Option Nat)}{e' e:Ac}(h:DM π e' e):e.esz=e'.esz/\e.len=e'.len/\e.isView=e'.isView:=by
 cases e'<;>cases e<;>simp only[DM,reduceCtorEq,Ac.arr.injEq,Ac.map.injEq,Ac.chan.injEq,Ac.iter.injEq,Ac.view.injEq] at h
 all_goals first
  |exact⟨rfl,rfl,rfl⟩
  |(obtain⟨rfl,rfl,rfl⟩:=h;exact⟨rfl,rfl,rfl⟩)
  |(obtain⟨rfl,rfl,rfl⟩:=h;exact⟨rfl,by simp[Ac.len,Bi],rfl⟩)
  |(obtain⟨rfl,rfl,h⟩:=h;exact⟨rfl,by simpa[Ac.len,Bi] using Qya h,rfl⟩)
  |(obtain⟨rfl,rfl⟩:=h;exact⟨rfl,rfl,rfl⟩)
def X3{S S':Ay}{π:List (Nat×Option Nat)}(ac:S'.ok=S.ok)(G:S'.hp=S.hp)(hρ: ∀n m,pm π n=some m->S'.ρ n=S.ρ m)(hρ0: ∀n,pm π n=none->S'.ρ n=none)
 (hh: ∀n m,pm π n=some m-> ∀e',S'.h n=some e'-> ∃e,S.h m=some e/\e.2.esz=e'.2.esz/\e.2.len=e'.2.len){l:Option F2}{e' e:Ac}(h:DM π e' e)(O:An S l e):An S' l e':=by
 have hp:BE (λ_=>False) S S':=⟨λb hb=>⟨by rw[ac];exact hb,by rw[G]⟩,λo h=>h.elim⟩;cases e' with
 |cells T cs=>
  cases e<;>simp only[DM] at h;obtain⟨rfl,h⟩:=h;simp only[An] at O⊢;obtain⟨Z,vs,h1,Q,h3,h4⟩:=O;exact⟨Z,vs,h1,Q,by rw[G];exact h3,Qts ac G hρ hρ0 hh _ _ _ h h4⟩
 |arrA T k rows=>
  have hR: ∀(aa rs:List (List AV)) (vs:List Value),FQ π aa rs->B7 S k rs vs->B7 S' k aa vs:=by
   intro aa;induction aa with
   |nil=>intro rs vs _ _;simp only[B7]
   |cons x r ih=>
    intro rs vs h hc;cases rs with
    |nil=>exact h.elim
    |cons y s=>
     simp only[B7] at hc⊢;have hP: ∀(xs ys:List AV) (vs:List Value),Dp π xs ys->Cm S ys vs->Cm S' xs vs:=by
      intro xs;induction xs with
      |nil=>intro ys vs _ _;simp only[Cm]
      |cons a l af=>
       intro ys vs h hc;cases ys with
       |nil=>simp only[Dp] at h
       |cons b t=>
        simp only[Dp] at h;simp only[Cm] at hc⊢;obtain⟨v,w,rfl,h1,Q⟩:=hc;exact⟨v,w,rfl,Qyf ac G hρ hρ0 hh a b v h.1 h1,af t w h.2 Q⟩
     exact⟨by rw[<-hc.1];exact (Mf h.1).symm,hP _ _ _ h.1 hc.2.1,ih s _ h.2 hc.2.2⟩
  have ab: ∀(z:List (List AV)),FQ π rows z->An S l (.arrA T k z)->An S' l (.arrA T k rows):=by
   intro z h O;simp only[An] at O⊢;rw[<-Qya h];refine⟨O.1,?_⟩;cases l with
   |none=>
    have Q:=O.2;simp only at Q;subst Q;cases rows with
    |nil=>rfl
    |cons x r=>exact h.elim
   |some Z=>
    obtain⟨h0,h1,vs,Q,h3,h4⟩:=O;exact⟨h1,vs,by rw[G];exact Q,h3,hR _ _ _ h h4⟩
  cases e<;>simp only[DM] at h
  case arrA U k' z=>
   obtain⟨rfl,rfl,h⟩:=h;exact ab z h O
  case arr U k' z=>
   obtain⟨rfl,rfl,h⟩:=h;refine ab (Bi z) h ?_;simp only[An] at O⊢;rw[show (Bi z).length=z.length by simp[Bi]];refine⟨O.1,?_⟩;cases l with
   |none=>have Q:=O.2;simp only at Q;subst Q;rfl
   |some Z=>
    obtain⟨h0,h1,vs,Q,h3,h4⟩:=O;exact⟨h1,vs,Q,h3,iA _ _ h4⟩
 |arr T k rows=>
  cases e<;>simp only[DM] at h
  case arr U k' z=>
   rw[h] at O;exact Hd hp (λZ _=>by rw[G]) _ (by simp[Ac.nms]) O
  case arrA U k' z=>
   obtain⟨rfl,rfl,rfl⟩:=h;have ad:An S l (.arr T k rows):=by
    simp only[An] at O⊢;rw[show (Bi rows).length=rows.length by simp[Bi]] at O;refine⟨O.1,?_⟩;cases l with
    |none=>
     have Q:=O.2;simp only[Bi,yR] at Q;exact Q
    |some Z=>
     obtain⟨h0,h1,vs,Q,h3,h4⟩:=O;exact⟨h1,vs,Q,h3,LN _ _ h4⟩
   exact Hd hp (λZ _=>by rw[G]) _ (by simp[Ac.nms]) ad
 |map kt es=>
  simp only[DM] at h;subst h;exact Hd hp (λZ _=>by rw[G]) _ (by simp[Ac.nms]) O
 |chan q c=>
  simp only[DM] at h;subst h;exact Hd hp (λZ _=>by rw[G]) _ (by simp[Ac.nms]) O
 |iter q0 q=>
  simp only[DM] at h;subst h;exact Hd hp (λZ _=>by rw[G]) _ (by simp[Ac.nms]) O
 |view q=>
  simp only[DM] at h;subst h;exact Hd hp (λZ _=>by rw[G]) _ (by simp[Ac.nms]) O
def kN{π:List (Nat×Option Nat)}: ∀(H:Ao),Cr (Es π H)=true-> ∀n n' e e' m,hget H n=some e->hget H n'=some e'->pm π n=some m->pm π n'=some m->n=n'
 |[],_,n,n',e,e',m,h,_,_,_=>by simp[hget] at h
 |(q,x)::H,hn,n,n',e,e',m,h,h',hp,hp'=>by
  have Q: ∀n e,hget H n=some e-> ∀m,pm π n=some m->some m∈Es π H:=by
   intro n e;clear hn h h' hp hp';induction H with
   |nil=>intro h;simp[hget] at h
   |cons y H ih=>
    obtain⟨q',z⟩:=y;intro h m hm;simp only[hget] at h;simp only[Es,Bt];cases hq:q'==n<;>rw[hq] at h
    .exact .inr (ih (by simpa using h) m hm)
    .have:q'=n:=by simpa using hq
     subst this;exact .inl hm.symm
  have Z:Cr (Es π H)=true:=by
   simp only[Es] at hn;cases hq:pm π q<;>rw[hq] at hn<;>simp only[Cr,AW] at hn
   .exact hn
   .exact hn.2
  simp only[hget] at h h';by_cases O:q=n<;>by_cases G:q=n'
  .rw[<-O,<-G]
  .subst O
   have:(q==n')=false:=by simpa using G
   rw[this] at h';have hm:=Q n' e' (by simpa using h') m hp';simp only[Es,hp,Cr,AW,PL] at hn
   have:=hn.1
   rw[IC.2 hm] at this;cases this
  .subst G
   have:(q==n)=false:=by simpa using O
   rw[this] at h;have hm:=Q n e (by simpa using h) m hp;simp only[Es,hp',Cr,AW,PL] at hn
   have:=hn.1
   rw[IC.2 hm] at this;cases this
  .have h1:(q==n)=false:=by simpa using O
   have h2:(q==n')=false:=by simpa using G
   rw[h1] at h;rw[h2] at h';exact kN H Z n n' e e' m (by simpa using h) (by simpa using h') hp hp'
def Qll{π:List (Nat×Option Nat)}{s:Az}: ∀(H:Ao),ES π s H-> ∀n e',hget H n=some e'->CE s π e'.1 e'.2 (pm π n)
 |[],_,n,e',h=>by simp[hget] at h
 |(q,(G,x))::H,z,n,e',h=>by
  simp only[ES] at z;simp only[hget] at h;cases hq:q==n<;>rw[hq] at h
  .exact Qll H z.2 n e' (by simpa using h)
  .have:q=n:=by simpa using hq
   subst this;simp only[BV,AM] at h;subst h;exact z.1
def Qqi{π:List (Nat×Option Nat)}{s:Az}: ∀(T:List (Nat×AV)),H4 π s T-> ∀t,A8 T t= .any\/mt π (A8 T t) (A8 s.tm t)
 |[],_,t=> .inl rfl
 |(q,x)::T,z,t=>by
  simp only[H4] at z;simp only[A8];cases hq:q==t
  .simpa using Qqi T z.2 t
  .have:q=t:=by simpa using hq
   subst this;exact .inr (by simpa using z.1)
def Qv{C:AZ}{N lo:Nat}{π:List (Nat×Option Nat)}{s s':Az}{a:Act}{w:World}(hc:BC C N s a w)(hs:Ar lo π s s')(hg:s'.good=true)(ao:C.n0<=lo)(am:C.n0<=s'.nx):BC C N s' a w:=by
 obtain⟨S,rfl,hc⟩:=hc;obtain⟨ak,ac,hT,hH⟩:=hs;simp only[Az.good,AW] at hg;obtain⟨ah,ai,aj⟩:=hg
 let S':Ay:=⟨λn=>match pm π n with
  |some m=>S.ρ m
  |none=>none,S.ok,hget s'.h,S.w⟩
 have hρ: ∀n m,pm π n=some m->S'.ρ n=S.ρ m:=by intro n m h;simp only[S',h]
 have hρ0: ∀n,pm π n=none->S'.ρ n=none:=by intro n h;simp only[S',h]
 have O: ∀n m,pm π n=some m-> ∀e',S'.h n=some e'-> ∃e,S.h m=some e/\e.1=e'.1/\DM π e'.2 e.2:=by
  intro n m hp e' z;have G:=Qll _ hH n e' z;rw[hp] at G;simp only[CE] at G;cases hx:hget s.h m with
  |none=>rw[hx] at G;exact G.elim
  |some e=>
   obtain⟨mu,e⟩:=e;rw[hx] at G;exact⟨(mu,e),(hc.h m).trans hx,G.1,G.2⟩
 have hh: ∀n m,pm π n=some m-> ∀e',S'.h n=some e'-> ∃e,S.h m=some e/\e.2.esz=e'.2.esz/\e.2.len=e'.2.len:=by
  intro n m hp e' z;obtain⟨e,G,_,Z⟩:=O n m hp e' z;obtain⟨h3,h4,_⟩:=Qxn Z;exact⟨e,G,h3,h4⟩
 have hW:=hc.wf;refine⟨S',rfl,⟨hW.os,hW.tape,hW.output,hW.dr,hW.size,hW.keep,hW.ok0,hW.ok1,hW.oks,?_,?_,?_,hW.gl⟩,λn=>rfl,?_,nX _ ah,?_,hc.size,hc.defers,am,?_⟩
 .intro n e' z;cases hp:pm π n with
  |some m=>
   obtain⟨e,G,_,Z⟩:=O n m hp e' z;rw[hρ n m hp];exact X3 (S:=S) (S':=S') rfl rfl hρ hρ0 hh Z (hW.obj m e G)
  |none=>
   have G:=Qll _ hH n e' z;rw[hp] at G;simp only[CE] at G;rw[hρ0 n hp];obtain⟨mu,e'⟩:=e';unfold X5 at G;split at G
   .rename_i ab Q;simp only at Q;subst Q;simp[An]
   .rename_i ab Q;simp only at Q;subst Q;simp[An]
   .exact G.elim
 .intro n e' l z hl;cases hp:pm π n with
  |none=>rw[hρ0 n hp] at hl;cases hl
  |some m=>
   obtain⟨e,G,Z,h3⟩:=O n m hp e' z;rw[hρ n m hp] at hl
   have:=hW.loc m e l G hl
   rw[<-Z,<-(Qxn h3).2.2];exact this
 .intro n n' e e' l l' he z hl aa hb ag;cases hp:pm π n with
  |none=>rw[hρ0 n hp] at hl;cases hl
  |some m=>
   cases hp':pm π n' with
   |none=>rw[hρ0 n' hp'] at aa;cases aa
   |some m'=>
    obtain⟨x,G,Z,h3⟩:=O n m hp e he;obtain⟨x',ad,af,an⟩:=O n' m' hp' e' z;rw[hρ n m hp] at hl;rw[hρ n' m' hp'] at aa
    have:=hW.inj m m' x x' l l' G ad hl aa hb (by rw[Z,af];exact ag)
    subst this;exact kN _ ac n n' e e' m he z hp hp'
 .intro t;rcases Qqi _ hT t with h|h
  .rw[h];simp only[Aa]
  .exact Qyf (S:=S) (S':=S') rfl rfl hρ hρ0 hh _ _ _ h (hc.tm t)
 .intro n e he;exact⟨nV _ aj n e he,cJ _ ai n e he⟩
 .intro o ho e' z;have hp:=Z9 π ak o (by omega);obtain⟨e,G,_,Z⟩:=O o o hp e' z;obtain⟨e0,g1,g2,g3,g4⟩:=hc.pre o ho e G;obtain⟨h3,h4,_⟩:=Qxn Z;exact⟨e0,g1,(hρ o o hp).trans g2,h3.symm.trans g3,h4.symm.trans g4⟩
def oM(F:List Nat): ∀(H:Ao) (n:Nat),hget (HK F H) n=(hget H n).map λe=>(e.1 && !F.contains n,e.2)
 |[],n=>rfl
 |(q,(z,e))::H,n=>by
  simp only[HK,hget];cases hq:q==n
  .simpa using oM F H n
  .have:q=n:=by simpa using hq
   subst this;rfl
def Qxl{C:AZ}{N:Nat}(F:List Nat){s:Az}{a:Act}{w:World}(z:BC C N s a w):BC C N (RI F s) a w:=by
 obtain⟨S,rfl,z⟩:=z;have hp:=Hc S (λn=> !F.contains n);refine⟨S.ice (λn=> !F.contains n),rfl,UZ z.wf,λn=> ?_,λt=>I1 hp _ _ (λ_ _=>trivial) (z.tm t),z.nmT,?_,z.size,z.defers,z.n0,?_⟩
 .show (S.h n).map _=hget (HK F s.h) n;rw[oM,z.h n]
 .intro n e G;have G:hget (HK F s.h) n=some e:=G;rw[oM] at G;simp only[Dl] at G;obtain⟨x,hx,rfl⟩:=G;exact z.nmH n x hx
 .intro o Z e' O;obtain⟨e,Q,rfl⟩:=US O;exact z.pre o Z e Q
def Tp{o p:Nat}{x:Option Am}: ∀m∈(Fm o p x).nms,m∈(AV.ptr o p).nms:=by
 intro m z;unfold Fm at z;split at z<;>try exact z
 rename_i G;cases ha:Ds (G.drop p) with
 |none=>rw[ha] at z;exact z
 |some ds=>rw[ha] at z;simp[Jd,AV.nms] at z
mutual
def LC(F:List Nat)(H:Ao): ∀(x:AV),∀m∈(x.fzA F H).nms,m∈x.nms
 | .own n,m,z=>by
   simp only[AV.fzA] at z;cases hF:F.contains n<;>rw[hF] at z
   .simpa using z
   .simp only[BV] at z;cases hh:hget H n with
    |none=>rw[hh] at z;simpa[KD] using z
    |some e=>
     obtain⟨O,e⟩:=e;rw[hh] at z;cases e<;>simp only[KD,GY] at z<;>first|exact z|(simp[AV.nms] at z)
 | .agg G,m,z=>by
   simp only[AV.fzA,AV.nms] at z⊢;exact wE F H G m z
 | .any,m,z=>by simpa only[AV.fzA] using z
 | .im d,m,z=>by simpa only[AV.fzA] using z
 | .tup G,m,z=>by simpa only[AV.fzA] using z
 | .ptr o p,m,z=>by
   simp only[AV.fzA] at z;cases hF:F.contains o<;>rw[hF] at z
   .exact z
   .simp only[BV] at z;cases hG:F.contains (o+4000000000)<;>rw[hG] at z
    .exact z
    .exact Tp m z
 | .eptr o i p,m,z=>by simpa only[AV.fzA] using z
 | .mp o,m,z=>by simpa only[AV.fzA] using z
 | .ch o,m,z=>by simpa only[AV.fzA] using z
 | .it o,m,z=>by simpa only[AV.fzA] using z
 | .osl o a n,m,z=>by simpa only[AV.fzA] using z
 | .clo f a c,m,z=>by simpa only[AV.fzA] using z
def wE(F:List Nat)(H:Ao): ∀(xs:List AV),∀m∈Aw (Dy F H xs),m∈Aw xs
 |[],m,z=>by simpa[Dy] using z
 |x::r,m,z=>by
  simp only[Dy,Aw,Bz] at z⊢;exact z.imp (LC F H x m) (wE F H r m)
end
def kZ(F:List Nat)(H:Ao): ∀(xs:List (List AV)),∀m∈Bx (Dz F H xs),m∈Bx xs
 |[],m,z=>by simpa[Dz] using z
 |x::r,m,z=>by
  simp only[Dz,Bx,Bz] at z⊢;exact z.imp (wE F H x m) (kZ F H r m)
def RL(F:List Nat)(H:Ao)(e:Ac): ∀m∈(e.fzA F H).nms,m∈e.nms:=by
 intro m z;cases e<;>simp only[Ac.fzA,Ac.nms] at z⊢ <;>try exact z
 .exact wE F H _ m z
 .exact kZ F H _ m z
def Qrp(F:List Nat)(H:Ao): ∀(xs:List (List AV)),(Dz F H xs).length=xs.length
 |[]=>rfl
 |x::r=>by simp only[Dz,Dd,Qrp F H r]
def Qzt(F:List Nat)(H:Ao): ∀(xs:List AV),(Dy F H xs).length=xs.length
 |[]=>rfl
 |x::r=>by simp only[Dy,Dd,Qzt F H r]
def Qtj(F:List Nat)(H:Ao)(e:Ac):(e.fzA F H).esz=e.esz/\(e.fzA F H).len=e.len/\(e.fzA F H).isView=e.isView:=by
 cases e<;>simp[Ac.fzA,Ac.esz,Ac.len,Ac.isView,Qrp]
def Qrq(F:List Nat)(H:Ao): ∀(T:List (Nat×AV)) (t:Nat),A8 (HN F H T) t=(A8 T t).fzA F H
 |[],t=>by simp only[HN,A8,AV.fzA]
 |(q,x)::T,t=>by
  simp only[HN,A8];cases hq:q==t
  .simpa using Qrq F H T t
  .rfl
def Qss(F:List Nat)(H0:Ao): ∀(H:Ao) (n:Nat),hget (HL F H0 H) n=(hget H n).map λe=>(e.1 && !F.contains n,e.2.fzA F H0)
 |[],n=>rfl
 |(q,(z,e))::H,n=>by
  simp only[HL,hget];cases hq:q==n
  .simpa using Qss F H0 H n
  .have:q=n:=by simpa using hq
   subst this;rfl
section
variable {C:AZ}{S:Ay}{F:List Nat}{H:Ao}(hW:Wf C S)(hH: ∀n e,F.contains n=true->hget H n=some e->S.h n=some (false,e.2))
include hW hH
def OA{n:Nat}{v:Value}(hF:F.contains n=true)(h:Aa S (.own n) v):Aa S (KD n (hget H n)) v:=by
 cases hh:hget H n with
 |none=>exact h
 |some e=>
  have G:=hH n e hF hh;obtain⟨mu,e⟩:=e;cases e<;>simp only[KD,GY]<;>try exact h
  rename_i U w rows;simp only[Aa] at h⊢;have Q:=h.2 _ G;have z:=hW.obj n _ G;have Z:=λl=>hW.loc n _ l G
  simp only[An] at z;simp only[rd];cases hl:S.ρ n with
  |none=>
   rw[hl] at Q z;exact .inl ⟨.inl Q,z.2⟩
  |some l=>
   rw[hl] at Q z;have O:=(Z l hl).2;simp only[Ac.isView,CQ,Lk,CA] at O;obtain⟨g0,g1,vs,g2,g3,g4⟩:=z;exact .inr ⟨l.b,l.p,l.cap,vs,U,(0,0),Q,by simp,g1,g0,O,g2,g4⟩
def OG{n p:Nat}{v:Value}(hF:F.contains n=true)(h:Aa S (.ptr n p) v):Aa S (Fm n p (hget H n)) v:=by
 cases hh:hget H n with
 |none=>exact h
 |some e=>
  have z:=hH n e hF hh;obtain⟨mu,e⟩:=e;cases e<;>simp only[Fm]<;>try exact h
  rename_i T Q;cases ha:Ds (Q.drop p) with
  |none=>exact h
  |some ds=>
   simp only[Jd,Aa,rd];simp only[Aa] at h;obtain⟨l,Z,rfl⟩:=h.2 _ z;have G:=hW.obj n _ z;rw[Z] at G;simp only[An] at G;obtain⟨lc,vs,h3,h4,h5,h6⟩:=G;cases h3;have O:=(hW.loc n _ l z Z).2;simp only[Ac.isView,CQ,Lk,CA] at O;refine⟨l.b,l.p+p,vs,T,(0,0),rfl,O,h5,?_⟩;rw[h4,FC];have h7: ∀(n:Nat) (a:List AV) (b:List Value),AN S a b->AN S (a.drop n) (b.drop n):=by
    intro n;induction n with
    |zero=>intro a b h;simpa using h
    |succ n ih=>
     intro a b h;cases a with
     |nil=>simp only[AN] at h;subst h;simp[AN]
     |cons x a=>
      simp only[AN] at h;obtain⟨v,r,rfl,_,h⟩:=h;simpa using ih a r h
   exact xH ds _ (wN _ ds _ ha (h7 p Q _ h6))
mutual
def Qte: ∀(x:AV) (v:Value),Aa S x v->Aa S (x.fzA F H) v
 | .own n,v,h=>by
   simp only[AV.fzA];cases hF:F.contains n
   .exact h
   .exact OA hW hH hF h
 | .agg z,v,h=>by
   simp only[AV.fzA,Aa] at h⊢;obtain⟨G,rfl,h⟩:=h;exact⟨G,rfl,Qom _ _ h⟩
 | .any,v,h=>by simpa only[AV.fzA] using h
 | .im d,v,h=>by simpa only[AV.fzA] using h
 | .tup z,v,h=>by simpa only[AV.fzA] using h
 | .ptr o p,v,h=>by
   simp only[AV.fzA];cases hF:F.contains o
   .exact h
   .simp only[BV];cases hG:F.contains (o+4000000000)
    .exact h
    .exact OG hW hH hF h
 | .eptr o i p,v,h=>by simpa only[AV.fzA] using h
 | .mp o,v,h=>by simpa only[AV.fzA] using h
 | .ch o,v,h=>by simpa only[AV.fzA] using h
 | .it o,v,h=>by simpa only[AV.fzA] using h
 | .osl o a n,v,h=>by simpa only[AV.fzA] using h
 | .clo f a c,v,h=>by simpa only[AV.fzA] using h
def Qom: ∀(xs:List AV) (vs:List Value),AN S xs vs->AN S (Dy F H xs) vs
 |[],_,h=>by simpa only[Dy] using h
 |x::l,vs,h=>by
  simp only[Dy,AN] at h⊢;obtain⟨v,r,rfl,z,G⟩:=h;exact⟨v,r,rfl,Qte x v z,Qom l r G⟩
end
def Quw: ∀(xs:List AV) (vs:List Value),Cm S xs vs->Cm S (Dy F H xs) vs
 |[],_,h=>by simp only[Dy,Cm]
 |x::l,vs,h=>by
  simp only[Dy,Cm] at h⊢;obtain⟨v,r,rfl,z,G⟩:=h;exact⟨v,r,rfl,Qte hW hH x v z,Quw l r G⟩
def Qu9(k:Nat): ∀(xs:List (List AV)) (vs:List Value),B7 S k xs vs->B7 S k (Dz F H xs) vs
 |[],_,h=>by simp only[Dz,B7]
 |x::l,vs,h=>by
  simp only[Dz,B7] at h⊢;exact⟨by rw[Qzt];exact h.1,Quw hW hH x vs h.2.1,Qu9 k l _ h.2.2⟩
def Ou{l:Option F2}(e:Ac)(h:An S l e):An S l (e.fzA F H):=by
 cases e<;>simp only[Ac.fzA]<;>try exact h
 .simp only[An] at h⊢;obtain⟨lc,Z,G,z,O,Q⟩:=h;exact⟨lc,Z,G,z,O,Qom hW hH _ _ Q⟩
 .rename_i T k rows;simp only[An,Qrp] at h⊢;refine⟨h.1,?_⟩;cases l with
  |none=>
   have z:=h.2;simp only at z;subst z;rfl
  |some lc=>
   obtain⟨h0,G,Z,z,O,Q⟩:=h;exact⟨G,Z,z,O,Qu9 hW hH k _ _ Q⟩
end
def pM{C:AZ}{N:Nat}(F:List Nat){s:Az}{a:Act}{w:World}(O:BC C N s a w):BC C N (RN F s) a w:=by
 obtain⟨S,rfl,aa⟩:=Qxl F O;clear O;have O:=aa;clear aa
 let S':Ay:=⟨S.ρ,S.ok,hget (HL F s.h s.h),S.w⟩
 have Z: ∀n,S.h n=(hget s.h n).map λe=>(e.1 && !F.contains n,e.2):=by
  intro n;rw[O.h n];exact oM F s.h n
 have hH: ∀n e,F.contains n=true->hget s.h n=some e->S.h n=some (false,e.2):=by
  intro n e hF he;rw[Z,he];simp only[D7,hF,jE,Zn]
 have G: ∀n e',S'.h n=some e'-> ∃e,S.h n=some e/\e'.1=e.1/\e'.2=e.2.fzA F s.h:=by
  intro n e' z;have z:hget (HL F s.h s.h) n=some e':=z;rw[Qss] at z;simp only[Dl] at z;obtain⟨x,hx,rfl⟩:=z;exact⟨(x.1 && !F.contains n,x.2),by rw[Z,hx];rfl,rfl,rfl⟩
 have hp:BE (λ_=>True) S S':=⟨λb hb=>⟨hb,rfl⟩,λo _ e' z=>by
  obtain⟨e,Q,h2,h3⟩:=G o e' z;obtain⟨g1,g2,_⟩:=Qtj F s.h e.2;exact⟨e,Q,rfl,by rw[h3];exact g1,by rw[h3];exact g2⟩⟩
 have hW:=O.wf;refine⟨S',rfl,⟨hW.os,hW.tape,hW.output,hW.dr,hW.size,hW.keep,hW.ok0,hW.ok1,hW.oks,?_,?_,?_,hW.gl⟩,λn=>rfl,?_,?_,?_,O.size,O.defers,O.n0,?_⟩
 .intro o e' z;obtain⟨e,Q,h2,h3⟩:=G o e' z;rw[h3];exact Hd hp (λlc _=>rfl) _ (λ_ _=>trivial) (Ou hW hH e.2 (hW.obj o e Q))
 .intro o e' l z hl;obtain⟨e,Q,h2,h3⟩:=G o e' z
  have:=hW.loc o e l Q hl
  rw[h2,h3,(Qtj F s.h e.2).2.2];exact this
 .intro o o' e e' l l' he z hl af hb ad;obtain⟨x,Q,h2,h3⟩:=G o e he;obtain⟨x',ab,ac,ag⟩:=G o' e' z;exact hW.inj o o' x x' l l' Q ab hl af hb (by rw[<-h2,<-ac];exact ad)
 .intro t;show Aa S' (A8 (HN F s.h s.tm) t) _;rw[Qrq];exact I1 hp _ _ (λ_ _=>trivial) (Qte hW hH _ _ (O.tm t))
 .intro t m hm;have hm:m∈(A8 (HN F s.h s.tm) t).nms:=hm;rw[Qrq] at hm;exact O.nmT t m (LC F s.h _ m hm)
 .intro n e he;have he:hget (HL F s.h s.h) n=some e:=he;rw[Qss] at he;simp only[Dl] at he;obtain⟨x,hx,rfl⟩:=he;have Q:hget (RI F s).h n=some (x.1 && !F.contains n,x.2):=by
   show hget (HK F s.h) n=_;rw[oM,hx];rfl
  obtain⟨g1,g2⟩:=O.nmH n _ Q;exact⟨g1,λm hm=>g2 m (RL F s.h x.2 m hm)⟩
 .intro o ho e' z;obtain⟨e,Q,h2,h3⟩:=G o e' z;obtain⟨e0,g1,g2,g3,g4⟩:=O.pre o ho e Q;obtain⟨q1,q2,_⟩:=Qtj F s.h e.2;exact⟨e0,g1,g2,by rw[h3,q1];exact g3,by rw[h3,q2];exact g4⟩
def Np{p:Nat->Prop}: ∀n,p n-> ∃m,p m/\ ∀k,k<m-> ¬p k:=by
 intro n;induction n using Nat.strongRecOn with
 |_ n ih=>
  intro hn;by_cases h: ∃k,k<n/\p k
  .obtain⟨k,G,z⟩:=h;exact ih k G z
  .exact⟨n,hn,λk G z=>h ⟨k,G,z⟩⟩
section
variable {P:Program}{V:CT}{C:AZ}{N:Nat}
def YF{x:Ci}{Q:Ci}{next:Act->World->Prop}(O: ∀s a w,x .normal s->BC C N s a w->next a w)(Z: ∀i s,x (.exit i) s->Q (.exit i) s)(h3: ∀s,x .ret s->Q .ret s):
 ∀e a w,Gx C N x e a w->Exit.then next (Gx C N Q) e a w:=by
 intro e a w h;cases e<;>simp only[Gx] at h<;>simp only[Exit.then,Gx]
 .obtain⟨s,G,z⟩:=h;exact O s a w G z
 .obtain⟨s,G,z⟩:=h;exact⟨s,Z _ s G,z⟩
 .obtain⟨s,G,z⟩:=h;exact⟨s,h3 s G,z⟩
def Qo4(HM:P.follows .mixedOrders=true)(HV:Hx P V): ∀(c:Code),DT N c=true-> ∀(Q:Ci) (s:Az) (a:Act) (w:World),CR P V c Q s->BC C N s a w->c.wp P (Gx C N Q) a w:=by
 intro c;induction c with
 |skip=>intro _ Q s a w h G;exact wp_skip ⟨s,h,G⟩
 |region id ops an=>
  intro hk Q s a w h G;simp only[DT,AW] at hk;cases an with
  |true=>exact Qtk HM HV (λs a w h1 h2=>⟨s,h1,h2⟩) hk.1 (by simpa using hk.2) h G
  |false=>exact Qt0 HV (λs a w h1 h2=>⟨s,h1,h2⟩) hk.1 h G
 |seq x y ak am=>
  intro hk Q s a w h G;simp only[DT,AW] at hk;simp only[CR] at h;refine wp_seq (wp_mono (ak hk.1 _ s a w h G) (YF ?_ ?_ ?_))
  .intro s a w hs G;exact am hk.2 Q s a w hs G
  .intro i s hs;exact hs
  .intro s hs;exact hs
 |cond c x y ak am=>
  intro hk Q s a w h G;simp only[DT,AW] at hk;simp only[CR] at h;obtain⟨S,ao,aj⟩:=G;have h1:=Qs aj c;cases hv:Ap s.tm c<;>rw[hv] at h<;>try exact h.elim
  rename_i d;cases d<;>try exact h.elim
  rename_i b;rw[hv] at h1;simp only[Aa,rd] at h1;simp only[qA] at h;refine wp_cond_split h1 (λhb=>ak hk.1 Q s a w (h.1 hb) ⟨S,ao,aj⟩) (λhb=>am hk.2 Q s a w (h.2 hb) ⟨S,ao,aj⟩)
 |block id c ih=>
  intro hk Q s a w h G;simp only[CR] at h;refine wp_block (wp_mono (ih hk _ s a w h G) ?_);intro e a w he;cases e<;>simp only[Gx] at he<;>simp only[Exit.inBlock,Gx]
  .exact he
  .rename_i i;obtain⟨s,hs,G⟩:=he;simp only[iV] at hs;by_cases hi:i=id
   .subst hi;rw[Ai rfl];exact⟨s,by simpa[IJ] using hs,G⟩
   .rw[Af hi]
    have:(i==id)=false:=by simpa using hi
    rw[this] at hs;exact⟨s,hs,G⟩
  .exact he
 |loop c ih=>
  intro hk Q s a w h G;have ai: ∀(s:Az),YN (CR P V c) Q s->BC C N s a w->(Code.loop c).wp P (Gx C N Q) a w:=by
   clear h G;intro s h G;simp only[YN] at h;obtain⟨β,I,μ,z,⟨b0,ad⟩,O⟩:=h
   let p:Act->World->Nat->Prop:=λa w n=> ∃b,BC C N (I b) a w/\μ b=n
   let μ':Act->World->Nat:=λa w=>Classical.epsilon λn=>p a w n/\ ∀k,k<n-> ¬p a w k
   have hμ: ∀a w b,BC C N (I b) a w->p a w (μ' a w)/\ ∀k,k<μ' a w-> ¬p a w k:=by
    intro a w b hb;exact jB (p:=λn=>p a w n/\ ∀k,k<n-> ¬p a w k) (Np (μ b) ⟨b,hb,rfl⟩)
   have ab: ∀b,C.n0<=(I b).nx:=by
    intro b;obtain⟨S,_,h⟩:=G;exact CD h.n0 (z b).2
   refine wp_loop (λa w=> ∃b,BC C N (I b) a w) μ' ⟨b0,iO G ad (z b0).1 (ab b0)⟩ ?_;rintro a w ⟨b,hb⟩;obtain⟨⟨b1,af,au⟩,_⟩:=hμ a w b hb;refine wp_mono (ih hk _ _ a w (O b1) af) (YF ?_ ?_ ?_)
   .rintro s' a' w' ⟨b',aq,ac⟩ ag;have Z:=iO ag ac (z b').1 (ab b');refine⟨⟨b',Z⟩,?_⟩;obtain⟨_,aa⟩:=hμ a' w' b' Z;rcases FB (μ b') (μ' a' w') with h1|h1
    .exact absurd ⟨b',Z,rfl⟩ (aa _ h1)
    .omega
   .intro i s hs;exact hs
   .intro s hs;exact hs
  simp only[CR,AY] at h;rcases h with h|h|⟨F,h⟩|h
  .exact ai s h G
  .simp only[xK] at h;obtain⟨β,I,μ,z,⟨b0,π0,ad⟩,O⟩:=h
   let p:Act->World->Nat->Prop:=λa w n=> ∃b,BC C N (I b) a w/\μ b=n
   let μ':Act->World->Nat:=λa w=>Classical.epsilon λn=>p a w n/\ ∀k,k<n-> ¬p a w k
   have hμ: ∀a w b,BC C N (I b) a w->p a w (μ' a w)/\ ∀k,k<μ' a w-> ¬p a w k:=by
    intro a w b hb;exact jB (p:=λn=>p a w n/\ ∀k,k<n-> ¬p a w k) (Np (μ b) ⟨b,hb,rfl⟩)
   have ah:C.n0<=s.nx:=by
    obtain⟨S,_,h⟩:=G;exact h.n0
   have ab: ∀b,C.n0<=(I b).nx:=by
    intro b;obtain⟨S,_,h⟩:=G;exact CD h.n0 (z b).2
   refine wp_loop (λa w=> ∃b,BC C N (I b) a w) μ' ⟨b0,Qv G ad (z b0).1 ah (ab b0)⟩ ?_;rintro a w ⟨b,hb⟩;obtain⟨⟨b1,af,au⟩,_⟩:=hμ a w b hb;refine wp_mono (ih hk _ _ a w (O b1) af) (YF ?_ ?_ ?_)
   .rintro s' a' w' ⟨b',π,aq,ac⟩ ag;have Z:=Qv ag ac (z b').1 ah (ab b');refine⟨⟨b',Z⟩,?_⟩;obtain⟨_,aa⟩:=hμ a' w' b' Z;rcases FB (μ b') (μ' a' w') with h1|h1
    .exact absurd ⟨b',Z,rfl⟩ (aa _ h1)
    .omega
   .intro i s hs;exact hs
   .intro s hs;exact hs
  .exact ai _ h (Qxl F G)
  .simp only[xI] at h;obtain⟨β,I,μ,z,⟨b0,F0,π0,ad⟩,O⟩:=h
   let p:Act->World->Nat->Prop:=λa w n=> ∃b,BC C N (I b) a w/\μ b=n
   let μ':Act->World->Nat:=λa w=>Classical.epsilon λn=>p a w n/\ ∀k,k<n-> ¬p a w k
   have hμ: ∀a w b,BC C N (I b) a w->p a w (μ' a w)/\ ∀k,k<μ' a w-> ¬p a w k:=by
    intro a w b hb;exact jB (p:=λn=>p a w n/\ ∀k,k<n-> ¬p a w k) (Np (μ b) ⟨b,hb,rfl⟩)
   have ah:C.n0<=s.nx:=by
    obtain⟨S,_,h⟩:=G;exact h.n0
   have ab: ∀b,C.n0<=(I b).nx:=by
    intro b;obtain⟨S,_,h⟩:=G;exact CD h.n0 (z b).2
   refine wp_loop (λa w=> ∃b,BC C N (I b) a w) μ' ⟨b0,Qv (pM F0 G) ad (z b0).1 ah (ab b0)⟩ ?_;rintro a w ⟨b,hb⟩;obtain⟨⟨b1,af,au⟩,_⟩:=hμ a w b hb;refine wp_mono (ih hk _ _ a w (O b1) af) (YF ?_ ?_ ?_)
   .rintro s' a' w' ⟨b',F,π,aq,ac⟩ ag;have Z:=Qv (pM F ag) ac (z b').1 ah (ab b');refine⟨⟨b',Z⟩,?_⟩;obtain⟨_,aa⟩:=hμ a' w' b' Z;rcases FB (μ b') (μ' a' w') with h1|h1
    .exact absurd ⟨b',Z,rfl⟩ (aa _ h1)
    .omega
   .intro i s hs;exact hs
   .intro s hs;exact hs
 |exit id=>intro _ Q s a w h G;exact wp_exit ⟨s,h,G⟩
 |ret=>intro _ Q s a w h G;exact wp_ret ⟨s,h,G⟩
 |_=>intro hk;simp[DT] at hk
end
def iI(P:Program)(g:FuncId):Prop:=g<1000000000/\ ∃fn,P.funcs[g]? =some fn/\(fn.name== "runtime.NumGoroutine")=false/\fn.body.isNone=false
def PZ(P:Program)(g:FuncId)(args:List AV)(h:Nat->Option Am)(nx:Nat)(r:AV)(E:Bv):Prop:=
 ∀(C:AZ) (S:Ay) (vs:Array Value) (R:Ending->World->Prop),
  Wf C S->(∀n∈E.use++E.kill,S.h n=h n)->(∀n,Fr nx E.cnt n->S.h n=none)->
  (∀n e,S.h n=some e-> ∀m∈e.2.nms,¬Fr nx E.cnt m)->
  AN S args vs.toList->
  (∀v S',Wf C S'->S'.h=E.appf S.h->BE (λm=> ¬Fr nx E.cnt m) S S'->Aa S' r v->R (.returned v) S'.w)->
  Calls P g vs S.w R
def Kf(P:Program)(V:CT):Prop:= ∀g args h nx K,V g args h nx K->iI P g/\ ∃r E,PZ P g args h nx r E/\K r E
def uP{P:Program}{g:FuncId}(h:iI P g)(args:Array Value)(w:World):(callFunc g args).run P w= .ok (.enter g args) w:=by
 obtain⟨_,fn,O,Q,Z⟩:=h;have z:fn.name≠ "runtime.NumGoroutine" :=by simpa using Q
 have G:fn.body≠none:=by intro h;simp[h] at Z
 simp[callFunc,O,z,G]
def wO{S:Ay}{tm:List (Nat×AV)}{a:Act}: ∀(xs:List Operand),(∀x∈xs,Aa S (Ap tm x) (a.eval x))->AN S (D8 tm xs) (xs.map a.eval)
 |[],_=>by simp[D8,AN]
 |x::xs,h=>by
  simp only[D8,Bb,AN];exact⟨_,_,rfl,h x (by simp),wO xs (λy z=>h y (by simp[z]))⟩
def WH{P:Program}{V:CT}(hV:Kf P V)(tm:List (Nat×AV))(h:Nat->Option Am)(nx:Nat)(o:Oper)(c:Call)(f:Operand)(K:Ah)(ho:o.op= .call c)(z:c.callee= .value f)
 (hk:Qf V (D8 tm c.args.toList) h nx K (Ap tm f)):BM P tm h nx o K:=by
 have ag:f∈o.op.operands:=by rw[ho];simp[Op.operands,Call.operands,z]
 have af: ∀x∈c.args.toList,x∈o.op.operands:=by
  intro x hx;rw[ho];simp only[Op.operands,Call.operands,z];simp;exact .inr (by simpa using hx)
 have aa: ∀(g:FuncId) (fi ca:List AV),V g (fi++D8 tm c.args.toList++ca) h nx K->(∀(S:Ay) (v:Value),Aa S (Ap tm f) v-> ∃a b:Array Value,v= .func (Xa g) a b/\AN S fi a.toList/\AN S ca b.toList)->BM P tm h nx o K:=by
  intro g fi ca Z hf;obtain⟨G,r,E,hT,hK⟩:=hV _ _ _ _ _ Z;refine⟨r,E,?_,hK⟩;intro C S a next Q hW hu ai ad O hn
  obtain⟨x,y,ac,hx,hy⟩:=hf S _ (O f ag);rw[cT G.1] at ac;have ab:=wO c.args.toList (λx hx=>O x (af x hx));unfold Oper.wp;have ah:(execOp a.eval o).run P S.w= .ok (.enter g (x++c.args.map a.eval++y)) S.w:=by
   simp only[execOp,ho,resolve,z,ac,Sem.run_bind];simp[Deferred.ofValue,invoke,uP G]
  rw[ah,Oper.upon_enter];refine hT C S _ _ hW hu ai ad ?_ ?_
  .simp only[Zei,Vq];exact Qop _ _ _ _ (Qop _ _ _ _ hx ab) hy
  .intro v S' h1 h2 h3 h4;exact hn v S' h1 h2 h3 h4
 cases hf:Ap tm f<;>rw[hf] at hk<;>try exact hk.elim
 case im d=>
  cases d<;>try exact hk.elim
  rename_i g first capt
  refine aa g (first.map .im) (capt.map .im) hk ?_;intro S v Z;rw[hf] at Z;simp only[Aa,rd] at Z;obtain⟨a,b,h1,h2,h3⟩:=Z;exact⟨a,b,h1,(Ir _ _).2 h2,(Ir _ _).2 h3⟩
 case clo g first capt=>
  refine aa g first capt hk ?_
  intro S v Z;rw[hf] at Z;simpa only[Aa] using Z
def S5{P:Program}{t:TypeId}{m:String}{f:FuncId}(h:VG P t m=some f)(n:Nat)(v:Value)(w:World):(method (n+1) t v m).run P w= .ok (f,v) w:=by
 unfold VG at h;split at h
 .cases h
 .rename_i u z hu;unfold Z3 at h;split at h
  .rename_i i hi;split at h
   .rename_i mm hm;cases hp:mm.path.isEmpty with
    |false=>rw[hp] at h;cases h
    |true=>
     rw[hp,BV] at h;split at h
     .rename_i g hg;obtain rfl:=AB h;have G:mm.path.toList=[]:=by simpa using hp
      have Q:(typeInfo t).run P w= .ok i w:=by simp[typeInfo,hi]
      have Z:(underlying t).run P w= .ok u w:=by simp[underlying,hu]
      have O:(receiverAt t (.val v) false (if mm.path.isEmpty then some ((m.splitOn ".").getLastD m) else none)).run P w= .ok v w:=by
       unfold receiverAt;rw[Sem.run_bind,Z];cases u<;>first|rfl|exact (z _ rfl).elim
      unfold method;simp only[Sem.run_bind,Q,Result.andThen_ok,hm,G,follow,Sem.run_pure,hg,O]
     .cases h
   .cases h
  .cases h
 .cases h
def qE{P:Program}{V:CT}(hV:Kf P V):Hx P V:=by
 refine⟨λtm h nx o c f K ho z _ G=>WH hV tm h nx o c f K ho z G,?_⟩;intro tm h nx o c rc m K ho z hnm G;have ad:rc∈o.op.operands:=by rw[ho];simp[Op.operands,Call.operands,z]
 have ac: ∀x∈c.args.toList,x∈o.op.operands:=by
  intro x hx;rw[ho];simp only[Op.operands,Call.operands,z];simp;exact .inr (by simpa using hx)
 cases hr:Ap tm rc<;>rw[hr] at G<;>try exact G.elim
 rename_i d;cases d<;>try exact G.elim
 rename_i t d;simp only[MK] at G;cases hm:VG P t m with
 |none=>rw[hm] at G;exact G.elim
 |some g=>
 rw[hm] at G;simp only[VH] at G;obtain⟨aa,r,E,hT,hK⟩:=hV _ _ _ _ _ G;refine⟨r,E,?_,hK⟩;intro C S a next Q hW hu ag ab O hn
 have h1:=O rc ad;rw[hr] at h1;simp only[Aa,rd] at h1;obtain⟨x,hx,ah⟩:=h1;have Z:=wO c.args.toList (λx hx=>O x (ac x hx));unfold Oper.wp;have af:(execOp a.eval o).run P S.w= .ok (.enter g (#[x]++c.args.map a.eval)) S.w:=by
  simp only[execOp,ho,resolve,z,hx,Sem.run_bind];simp[invoke,callMethod];have e0:(#[Value.iface t x]++Array.map a.eval c.args)[0]? =some (.iface t x):=by rw[Zdu (by simp)];rfl
  obtain⟨n,hn1⟩: ∃n,P.types.size+Made.depth=n+1:=⟨P.types.size+99,by simp[Made.depth]⟩;have e1:(Array.map a.eval c.args).extract 0 c.args.size=Array.map a.eval c.args:=by
   have:=Zew (xs:=Array.map a.eval c.args)
   rwa [Array.size_map] at this
  rw[e0];simp only[Sem.run_bind,run_program,Result.andThen_ok,hn1,S5 hm,e1];exact uP aa _ _
 rw[af,Oper.upon_enter];refine hT C S _ _ hW hu ag ab ?_ ?_
 .simp only[Zei,Vq];exact⟨x,_,rfl,ah,Z⟩
 .intro v S' h1 h2 h3 h4;exact hn v S' h1 h2 h3 h4
mutual
def AV.ren(σ:Nat->Nat):AV->AV
 | .any=> .any
 | .im d=> .im d
 | .agg z=> .agg (AH σ z)
 | .tup z=> .tup (AH σ z)
 | .ptr o p=> .ptr (σ o) p
 | .eptr o i p=> .eptr (σ o) i p
 | .own o=> .own (σ o)
 | .mp o=> .mp (σ o)
 | .ch o=> .ch (σ o)
 | .it o=> .it (σ o)
 | .osl o a n=> .osl (σ o) a n
 | .clo f a c=> .clo f (AH σ a) (AH σ c)
def AH(σ:Nat->Nat):List AV->List AV
 |[]=>[]
 |x::r=>x.ren σ::AH σ r
end
def Qze(σ:Nat->Nat): ∀(l:List AV),AH σ l=l.map (AV.ren σ)
 |[]=>rfl
 |x::r=>by simp only[AH,Bb,Qze σ r]
def Ac.ren(σ:Nat->Nat):Ac->Ac
 | .cells T z=> .cells T (AH σ z)
 | .arr T k rows=> .arr T k rows
 | .arrA T k rows=> .arrA T k (rows.map (AH σ))
 | .map O G=> .map O G
 | .chan q cap=> .chan q cap
 | .iter a l=> .iter a l
 | .view z=> .view z
def wT(σ:Nat->Nat)(e:Ac):(e.ren σ).esz=e.esz:=by cases e<;>rfl
def xG(σ:Nat->Nat)(e:Ac):(e.ren σ).len=e.len:=by cases e<;>simp[Ac.ren,Ac.len]
section
variable {S S':Ay}{σ τ:Nat->Nat}
structure NE(S S':Ay)(σ τ:Nat->Nat)(n:Nat):Prop where
 a: ∀e',S'.h (τ n)=some e'-> ∃e,S.h (σ n)=some e/\S'.ρ (τ n)=S.ρ (σ n)/\e'.2.esz=e.2.esz/\e'.2.len=e.2.len
mutual
def Qz8(aa: ∀b,S.ok b->S'.ok b/\S'.hp b=S.hp b): ∀(z:AV) (v:Value),(∀n∈z.nms,NE S S' σ τ n)->Aa S (z.ren σ) v->Aa S' (z.ren τ) v
 | .any,_,_,_=>by simp only[AV.ren,Aa]
 | .im d,v,_,h=>by
   simp only[AV.ren,Aa] at h⊢;exact GI aa d v h
 | .agg cs,v,O,h=>by
   simp only[AV.ren,Aa,AV.nms] at h O⊢;obtain⟨vs,rfl,h1⟩:=h;exact⟨vs,rfl,bW aa cs _ O h1⟩
 | .tup cs,v,O,h=>by
   simp only[AV.ren,Aa,AV.nms] at h O⊢;obtain⟨vs,rfl,h1⟩:=h;exact⟨vs,rfl,bW aa cs _ O h1⟩
 | .ptr o off,v,O,h=>by
   simp only[AV.ren,Aa,AV.nms,BL,Lj] at h O⊢;obtain⟨G,h⟩:=h;refine⟨G,?_⟩;intro e' Q;obtain⟨e,Z,hr,_,_⟩:=O.a e' Q;rw[hr];exact h e Z
 | .eptr o i off,v,O,h=>by
   simp only[AV.ren,Aa,AV.nms,BL,Lj] at h O⊢;obtain⟨G,h⟩:=h;refine⟨G,?_⟩;intro e' Q;obtain⟨e,Z,hr,hz,_⟩:=O.a e' Q;rw[hr,hz];exact h e Z
 | .own o,v,O,h=>by
   simp only[AV.ren,Aa,AV.nms,BL,Lj] at h O⊢;obtain⟨G,h⟩:=h;refine⟨G,?_⟩;intro e' Q;obtain⟨e,Z,hr,_,hl⟩:=O.a e' Q;rw[hr,hl];exact h e Z
 | .mp o,v,O,h=>by
   simp only[AV.ren,Aa,AV.nms,BL,Lj] at h O⊢;obtain⟨G,h⟩:=h;refine⟨G,?_⟩;intro e' Q;obtain⟨e,Z,hr,_,_⟩:=O.a e' Q;rw[hr];exact h e Z
 | .ch o,v,O,h=>by
   simp only[AV.ren,Aa,AV.nms,BL,Lj] at h O⊢;obtain⟨G,h⟩:=h;refine⟨G,?_⟩;intro e' Q;obtain⟨e,Z,hr,_,_⟩:=O.a e' Q;rw[hr];exact h e Z
 | .it o,v,O,h=>by
   simp only[AV.ren,Aa,AV.nms,BL,Lj] at h O⊢;obtain⟨G,h⟩:=h;refine⟨G,?_⟩;intro e' Q;obtain⟨e,Z,hr,_,_⟩:=O.a e' Q;rw[hr];exact h e Z
 | .osl o a n,v,O,h=>by
   simp only[AV.ren,Aa,AV.nms,BL,Lj] at h O⊢;obtain⟨G,h⟩:=h;refine⟨G,?_⟩;intro e' Q;obtain⟨e,Z,hr,hz,hl⟩:=O.a e' Q;rw[hr,hz,hl];exact h e Z
 | .clo f fi ca,v,O,h=>by
   simp only[AV.ren,Aa,AV.nms,Bz] at h O⊢;obtain⟨a,c,rfl,h1,h2⟩:=h;exact⟨a,c,rfl,bW aa fi _ (λo ho=>O o (.inl ho)) h1,bW aa ca _ (λo ho=>O o (.inr ho)) h2⟩
def bW(z: ∀b,S.ok b->S'.ok b/\S'.hp b=S.hp b): ∀(Q:List AV) (vs:List Value),(∀n∈Aw Q,NE S S' σ τ n)->AN S (AH σ Q) vs->AN S' (AH τ Q) vs
 |[],_,_,h=>by simpa only[AH,AN] using h
 |x::xs,vs,O,h=>by
  simp only[AH,AN,Aw,Bz] at h O⊢;obtain⟨v,r,rfl,Z,h2⟩:=h;exact⟨v,r,rfl,Qz8 z x v (λo G=>O o (.inl G)) Z,bW z xs r (λo G=>O o (.inr G)) h2⟩
end
def Qt9(z: ∀b,S.ok b->S'.ok b/\S'.hp b=S.hp b): ∀(Q:List AV) (vs:List Value),(∀n∈Aw Q,NE S S' σ τ n)->Cm S (AH σ Q) vs->Cm S' (AH τ Q) vs
 |[],_,_,h=>by simp only[AH,Cm]
 |x::xs,vs,O,h=>by
  simp only[AH,Cm,Aw,Bz] at h O⊢;obtain⟨v,r,rfl,Z,h2⟩:=h;exact⟨v,r,rfl,Qz8 z x v (λo G=>O o (.inl G)) Z,Qt9 z xs r (λo G=>O o (.inr G)) h2⟩
def Qsc(σ:Nat->Nat)(l:List AV):(AH σ l).length=l.length:=by rw[Qze];simp
def Qva(z: ∀b,S.ok b->S'.ok b/\S'.hp b=S.hp b)(k:Nat): ∀(G:List (List AV)) (vs:List Value),(∀n∈Bx G,NE S S' σ τ n)->B7 S k (G.map (AH σ)) vs->B7 S' k (G.map (AH τ)) vs
 |[],_,_,h=>by simp only[BD,B7]
 |r::G,vs,Q,h=>by
  simp only[Bb,B7,Bx,Bz,Qsc] at h Q⊢;exact⟨h.1,Qt9 z r vs (λo O=>Q o (.inl O)) h.2.1,Qva z k G _ (λo O=>Q o (.inr O)) h.2.2⟩
def Qzw(G: ∀b,S.ok b->S'.ok b/\S'.hp b=S.hp b){l:Option F2}(hl: ∀z,l=some z->S'.hp z.b=S.hp z.b): ∀(e:Ac),(∀n∈e.nms,NE S S' σ τ n)->An S l (e.ren σ)->An S' l (e.ren τ)
 | .cells T cs,hx,h=>by
   simp only[Ac.ren,An,Ac.nms] at h hx⊢;obtain⟨z,vs,O,Z,h3,h4⟩:=h;exact⟨z,vs,O,Z,(hl z O).trans h3,bW G cs _ hx h4⟩
 | .arr T k rows,hx,h=>by
   simp only[Ac.ren,An] at h⊢;refine⟨h.1,?_⟩;cases l with
   |none=>exact h.2
   |some z=>
    obtain⟨h0,O,vs,Z,h3,h4⟩:=h;exact⟨O,vs,(hl z rfl).trans Z,h3,YD G k rows _ h4⟩
 | .arrA T k rows,hx,h=>by
   simp only[Ac.ren,An,Ac.nms,Gh] at h hx⊢;refine⟨h.1,?_⟩;cases l with
   |none=>
    have:=h.2
    simp only[yR] at this⊢;exact this
   |some z=>
    obtain⟨h0,O,vs,Z,h3,h4⟩:=h;exact⟨O,vs,(hl z rfl).trans Z,h3,Qva G k rows _ hx h4⟩
 | .map kt es,_,h=>by
   simp only[Ac.ren,An] at h⊢;obtain⟨z,aa,Q,O,h0,Z,h3,h4⟩:=h;exact⟨z,aa,Q,O,h0,(hl z O).trans Z,KS G es _ h3,h4⟩
 | .chan q cap,_,h=>by
   simp only[Ac.ren,An] at h⊢;obtain⟨z,ag,af,ac,O,Z,h3⟩:=h;exact⟨z,ag,af,ac,O,(hl z O).trans Z,KU G q _ h3⟩
 | .iter ab left,_,h=>by
   simp only[Ac.ren,An] at h⊢;obtain⟨z,mb,aa,Q,ad,O,Z,h0,h3,h4,h5,h6,h7⟩:=h;exact⟨z,mb,aa,Q,ad,O,(G mb Z).1,Qly G ab h0,(G mb Z).2.trans h3,(hl z O).trans h4,h5,h6,KS G left _ h7⟩
 | .view cs,_,h=>by
   simp only[Ac.ren,An] at h⊢;obtain⟨z,vs,T,fr,O,Z,h3⟩:=h;exact⟨z,vs,T,fr,O,(hl z O).trans Z,UW G cs _ h3⟩
mutual
def fP: ∀(z:AV),z.ren (λn=>n)=z
 | .any=>rfl
 | .im _=>rfl
 | .agg G=>by simp only[AV.ren,YL G]
 | .tup G=>by simp only[AV.ren,YL G]
 | .ptr _ _=>rfl
 | .eptr _ _ _=>rfl
 | .own _=>rfl
 | .mp _=>rfl
 | .ch _=>rfl
 | .it _=>rfl
 | .osl _ _ _=>rfl
 | .clo f a c=>by simp only[AV.ren,YL a,YL c]
def YL: ∀(z:List AV),AH (λn=>n) z=z
 |[]=>rfl
 |x::r=>by simp only[AH,fP x,YL r]
end
def Qwc(e:Ac):e.ren (λn=>n)=e:=by
 cases e<;>simp only[Ac.ren,YL];rename_i T k rows
 have:(AH λn=>n)=(id:List AV->List AV):=funext YL
 rw[this];simp
end
def Aq{α β:Type}(f:α->Option β):List α->Option (List β)
 |[]=>some []
 |x::r=>match f x,Aq f r with
  |some y,some z=>some (y::z)
  |_,_=>none
def P7(f:AV->Option D):Option Am->Option D
 |some (_,.arr _ k rows)=>some (.sl false k rows)
 |some (_,.arrA _ k rows)=>(Aq (Aq f) rows).map (.sl false k)
 |_=>none
def Ww:Option Am->Option D
 |some (_,.map G z)=>some (.mp G z)
 |_=>none
def Wq(f:AV->Option D):Option Am->Option D
 |some (_,.cells _ z)=>(Aq f z).map .ref
 |_=>none
def kA(z:List AV):Option (List D)->AV
 |some ds=> .im (.tup ds)
 |none=> .tup z
def eP(g:FuncId)(a c:List AV):Option (List D)->Option (List D)->AV
 |some ds,some z=> .im (.fn g ds z)
 |some _,none=> .clo g a c
 |none,_=> .clo g a c
def IU(g:FuncId):Option (List AV)->Option (List AV)->Option AV
 |some a,some c=>some (eP g a c (Ds a) (Ds c))
 |_,_=>none
def kp(x:Nat->AV)(d:Option D):Option Nat->Option AV
 |some j=>some (x j)
 |none=>d.map .im
def Ee:Option AV->Option D
 |some x=>x.asD
 |none=>none
def Bd(h:Nat->Option Am)(kx:Nat->Option Nat):Nat->AV->Option AV
 |0,_=>none
 |_+1,.im d=>some (.im d)
 |_+1,.any=>some .any
 |n+1,.agg G=>(Aq (Bd h kx n) G).map λz=>X1 z (Ds z)
 |n+1,.tup G=>(Aq (Bd h kx n) G).map λz=>kA z (Ds z)
 |n+1,.own o=>kp .own (P7 (λx=>Ee (Bd h kx n x)) (h o)) (kx o)
 |_+1,.mp o=>kp .mp (Ww (h o)) (kx o)
 |n+1,.ptr o 0=>kp (λj=> .ptr j 0) (Wq (λx=>Ee (Bd h kx n x)) (h o)) (kx o)
 |_+1,.ptr o (p+1)=>kp (λj=> .ptr j (p+1)) none (kx o)
 |_+1,.eptr o i p=>kp (λj=> .eptr j i p) none (kx o)
 |_+1,.ch o=>kp .ch none (kx o)
 |_+1,.it o=>kp .it none (kx o)
 |_+1,.osl o a n=>kp (λj=> .osl j a n) none (kx o)
 |n+1,.clo g a c=>IU g (Aq (Bd h kx n) a) (Aq (Bd h kx n) c)
section
variable {S:Ay}{f:AV->Option D}
def iS(hf: ∀x d v,f x=some d->Aa S x v->rd S.ok S.hp d v): ∀(cs:List AV) (ds:List D) (vs:List Value),Aq f cs=some ds->AN S cs vs->rdl S.ok S.hp ds vs
 |[],ds,vs,h,z=>by
  simp only[Aq,AM] at h;subst h;simp only[AN] at z;simp only[rdl];exact z
 |x::cs,ds,vs,h,z=>by
  simp only[Aq] at h;simp only[AN] at z;obtain⟨v,r,rfl,O,Q⟩:=z;split at h
  .rename_i y ys Z G;obtain rfl:=AB h;simp only[rdl];exact⟨v,r,rfl,hf x y v Z O,iS hf cs ys r G Q⟩
  .cases h
def Sy(hf: ∀x d v,f x=some d->Aa S x v->rd S.ok S.hp d v): ∀(cs:List AV) (ds:List D) (vs:List Value),Aq f cs=some ds->Cm S cs vs->rdp S.ok S.hp ds vs
 |[],ds,vs,h,z=>by
  simp only[Aq,AM] at h;subst h;simp only[rdp]
 |x::cs,ds,vs,h,z=>by
  simp only[Aq] at h;simp only[Cm] at z;obtain⟨v,r,rfl,O,Q⟩:=z;split at h
  .rename_i y ys Z G;obtain rfl:=AB h;simp only[rdp];exact⟨v,r,rfl,hf x y v Z O,Sy hf cs ys r G Q⟩
  .cases h
def cB{α β:Type}{g:α->Option β}: ∀(cs:List α) (ds:List β),Aq g cs=some ds->ds.length=cs.length
 |[],ds,h=>by simp only[Aq,AM] at h;subst h;rfl
 |x::cs,ds,h=>by
  simp only[Aq] at h;split at h
  .rename_i y G O z;obtain rfl:=AB h;simp[cB cs G z]
  .cases h
def Sz(hf: ∀x d v,f x=some d->Aa S x v->rd S.ok S.hp d v){k:Nat}: ∀(Q:List (List AV)) (ds:List (List D)) (vs:List Value),Aq (Aq f) Q=some ds->B7 S k Q vs->rdr S.ok S.hp k ds vs
 |[],ds,vs,h,z=>by
  simp only[Aq,AM] at h;subst h;simp only[rdr]
 |x::Z,ds,vs,h,z=>by
  simp only[Aq] at h;simp only[B7] at z;split at h
  .rename_i y ys O G;obtain rfl:=AB h;simp only[rdr];exact⟨by rw[cB x y O];exact z.1,Sy hf x y vs O z.2.1,Sz hf Z ys _ G z.2.2⟩
  .cases h
def Qv8{o:Nat}{e:Am}{k:Nat}{rows:List (List D)}{v:Value}(he:S.h o=some e)(hl:e.2.len=rows.length)(Q: ∀l,S.ρ o=some l->S.ok l.b)
 (z:match S.ρ o with|none=>rows=[]|some Z=>rows.length<=Jr/\rows.length<=Z.cap/\ ∃O T,S.hp Z.b=some (.cells O T (0,0))/\rdr S.ok S.hp k rows (O.toList.drop Z.p))(G:Aa S (.own o) v):rd S.ok S.hp (.sl false k rows) v:=by
 simp only[Aa] at G;have G:=G.2 e he;simp only[rd];cases hr:S.ρ o with
 |none=>rw[hr] at G z;exact .inl ⟨.inl G,z⟩
 |some l=>
  rw[hr] at G z;obtain⟨h0,h1,O,T,h2,h3⟩:=z;exact .inr ⟨l.b,l.p,l.cap,O,T,(0,0),by rw[<-hl];exact G,by simp,h1,h0,Q l hr,h2,h3⟩
end
def L9{C:AZ}{S:Ay}(hW:Wf C S){f:AV->Option D}(hf: ∀x d v,f x=some d->Aa S x v->rd S.ok S.hp d v){o:Nat}{d:D}{v:Value}(O: ∀e l,S.h o=some e->e.2.isView=false->S.ρ o=some l->S.ok l.b)
 (h:P7 f (S.h o)=some d)(hc:Aa S (.own o) v):rd S.ok S.hp d v:=by
 cases ho:S.h o with
 |none=>rw[ho] at h;simp[P7] at h
 |some e=>
  rw[ho] at h;obtain⟨mu,e⟩:=e;have z:=hW.obj o _ ho;cases e<;>simp only[P7,reduceCtorEq] at h
  .obtain rfl:=AB h;simp only[An] at z;refine Qv8 ho rfl (λl hl=>O _ l ho rfl hl) ?_ hc;cases hr:S.ρ o with
   |none=>rw[hr] at z;exact z.2
   |some l=>
    rw[hr] at z;obtain⟨h0,Q,vs,h2,_,Z⟩:=z;exact⟨h0,Q,vs,_,h2,Z⟩
  .simp only[Dl] at h;obtain⟨rows,Q,rfl⟩:=h;have G:=cB _ _ Q;simp only[An] at z;refine Qv8 ho (by simp[Ac.len,G]) (λl hl=>O _ l ho rfl hl) ?_ hc;cases hr:S.ρ o with
   |none=>rw[hr] at z;rw[z.2] at G;exact Vi.1 (by simpa using G)
   |some l=>
    rw[hr] at z;obtain⟨h0,h2,vs,Z,_,h4⟩:=z;exact⟨by omega,by omega,vs,_,Z,Sz hf _ _ _ Q h4⟩
def RJ{C:AZ}{S:Ay}(hW:Wf C S){o:Nat}{d:D}{v:Value}(Q: ∀e l,S.h o=some e->e.2.isView=false->S.ρ o=some l->S.ok l.b)
 (h:Ww (S.h o)=some d)(hc:Aa S (.mp o) v):rd S.ok S.hp d v:=by
 cases ho:S.h o with
 |none=>rw[ho] at h;simp[Ww] at h
 |some e=>
  rw[ho] at h;obtain⟨mu,e⟩:=e;have O:=hW.obj o _ ho;cases e<;>simp only[Ww,reduceCtorEq] at h;obtain rfl:=AB h;simp only[An] at O;obtain⟨lc,G,z,Z,h2,h3,h4⟩:=O;simp only[Aa] at hc;obtain⟨l,hl,hv⟩:=hc.2 _ ho;rw[Z] at hl;obtain rfl:=AB hl;simp only[rd];exact⟨lc.b,G,z,hv,h2,Q _ lc ho rfl Z,h3,h4⟩
def Xb{C:AZ}{S:Ay}(hW:Wf C S){f:AV->Option D}(hf: ∀x d v,f x=some d->Aa S x v->rd S.ok S.hp d v){o:Nat}{d:D}{v:Value}(G: ∀e l,S.h o=some e->e.2.isView=false->S.ρ o=some l->S.ok l.b)
 (h:Wq f (S.h o)=some d)(Z:Aa S (.ptr o 0) v):rd S.ok S.hp d v:=by
 cases ho:S.h o with
 |none=>rw[ho] at h;simp[Wq] at h
 |some e=>
  rw[ho] at h;obtain⟨mu,e⟩:=e;have z:=hW.obj o _ ho;cases e<;>simp only[Wq,reduceCtorEq] at h;simp only[Dl] at h;obtain⟨ds,h1,rfl⟩:=h;simp only[An] at z;obtain⟨O,vs,Q,h3,h4,h5⟩:=z;simp only[Aa] at Z;obtain⟨l,hl,hv⟩:=Z.2 _ ho;rw[Q] at hl;obtain rfl:=AB hl;simp only[rd];refine⟨O.b,O.p+0,vs,_,_,hv,G _ O ho rfl Q,h4,?_⟩;rw[h3];simpa using Wk _ _ (iS hf _ _ _ h1 h5)
def oO{g:AV->Option AV}: ∀(cs O:List AV) (ds:List D),Aq g cs=some O->Ds O=some ds->Aq (λx=>Ee (g x)) cs=some ds
 |[],O,ds,h,G=>by
  simp only[Aq,AM] at h;subst h;simpa[Ds,Aq] using G
 |x::cs,O,ds,h,G=>by
  simp only[Aq] at h;split at h
  .rename_i z Z hz Q;obtain rfl:=AB h;simp only[Ds] at G;cases hy:z.asD with
   |none=>rw[hy] at G;simp[NB] at G
   |some d=>
    cases hys:Ds Z with
    |none=>rw[hy,hys] at G;simp[NB] at G
    |some es=>
     rw[hy,hys] at G;simp only[NB,AM] at G;subst G;have h9:=oO cs Z es Q hys;have h8:Ee (g x)=some d:=by rw[hz];exact hy
     simp only[Aq,h8,h9]
  .cases h
def NQ{x:Option AV}{d:D}(h:Ee x=some d):x=some (.im d):=by
 cases x with
 |none=>cases h
 |some x=>
  simp only[Ee] at h;cases x<;>simp only[AV.asD,reduceCtorEq] at h;obtain rfl:=AB h;rfl
def YZ{x:Nat->AV}{d:Option D}{k:Option Nat}{e:D}(O: ∀j,x j≠ .im e)(h:kp x d k=some (.im e)):k=none/\d=some e:=by
 cases k with
 |some j=>
  simp only[kp,AM] at h;exact absurd h (O j)
 |none=>
  simp only[kp,Dl] at h;obtain⟨d',z,G⟩:=h;cases G;exact⟨rfl,z⟩
def Rs{C:AZ}{S:Ay}(hW:Wf C S){kx:Nat->Option Nat}(Q: ∀o e l,kx o=none->S.h o=some e->e.2.isView=false->S.ρ o=some l->S.ok l.b):
 ∀(n:Nat) (x:AV) (d:D) (v:Value),Bd S.h kx n x=some (.im d)->Aa S x v->rd S.ok S.hp d v:=by
 intro n;induction n with
 |zero=>intro x d v h;simp[Bd] at h
 |succ n ih=>
  have hf: ∀x d v,Ee (Bd S.h kx n x)=some d->Aa S x v->rd S.ok S.hp d v:=λx d v h O=>ih x d v (NQ h) O
  intro x d v h O;cases x with
  |im d'=>
   simp only[Bd,AM,AV.im.injEq] at h;subst h;simpa only[Aa] using O
  |any=>simp[Bd] at h
  |agg Z=>
   simp only[Bd,Dl] at h;obtain⟨ys,G,z⟩:=h;simp only[Aa] at O;obtain⟨vs,rfl,h3⟩:=O;cases ha:Ds ys with
   |none=>rw[ha] at z;simp[X1] at z
   |some ds=>
    rw[ha] at z;simp only[X1,AV.im.injEq] at z;subst z;simp only[rd];exact⟨vs,rfl,iS hf Z ds _ (oO Z ys ds G ha) h3⟩
  |tup Z=>
   simp only[Bd,Dl] at h;obtain⟨ys,G,z⟩:=h;simp only[Aa] at O;obtain⟨vs,rfl,h3⟩:=O;cases ha:Ds ys with
   |none=>rw[ha] at z;simp[kA] at z
   |some ds=>
    rw[ha] at z;simp only[kA,AV.im.injEq] at z;subst z;simp only[rd];exact⟨vs,rfl,iS hf Z ds _ (oO Z ys ds G ha) h3⟩
  |own o=>
   simp only[Bd] at h;obtain⟨G,z⟩:=YZ (by simp) h;exact L9 hW hf (λe l=>Q o e l G) z O
  |mp o=>
   simp only[Bd] at h;obtain⟨G,z⟩:=YZ (by simp) h;exact RJ hW (λe l=>Q o e l G) z O
  |ptr o p=>
   cases p with
   |zero=>
    simp only[Bd] at h;obtain⟨G,z⟩:=YZ (by simp) h;exact Xb hW hf (λe l=>Q o e l G) z O
   |succ p=>
    simp only[Bd] at h;obtain⟨G,z⟩:=YZ (by simp) h;cases z
  |eptr o i p=>
   simp only[Bd] at h;obtain⟨G,z⟩:=YZ (by simp) h;cases z
  |ch o=>
   simp only[Bd] at h;obtain⟨G,z⟩:=YZ (by simp) h;cases z
  |it o=>
   simp only[Bd] at h;obtain⟨G,z⟩:=YZ (by simp) h;cases z
  |osl o a k=>
   simp only[Bd] at h;obtain⟨G,z⟩:=YZ (by simp) h;cases z
  |clo g a c=>
   simp only[Bd] at h;cases ha:Aq (Bd S.h kx n) a with
   |none=>rw[ha] at h;simp[IU] at h
   |some a'=>
    cases hcc:Aq (Bd S.h kx n) c with
    |none=>rw[ha,hcc] at h;simp[IU] at h
    |some c'=>
     rw[ha,hcc] at h;simp only[IU,AM] at h;cases G:Ds a' with
     |none=>rw[G] at h;simp[eP] at h
     |some ds=>
      cases z:Ds c' with
      |none=>rw[G,z] at h;simp[eP] at h
      |some es=>
       rw[G,z] at h;simp only[eP,AV.im.injEq] at h;subst h;simp only[Aa] at O;obtain⟨va,vc,rfl,h3,h4⟩:=O;simp only[rd];exact⟨va,vc,rfl,iS hf a ds _ (oO a a' ds ha G) h3,iS hf c es _ (oO c c' es hcc z) h4⟩
def Qrr{C:AZ}{S S':Ay}(hW:Wf C S){kx:Nat->Option Nat}{τ:Nat->Nat}(ac: ∀b,S.ok b->S'.ok b/\S'.hp b=S.hp b)(ab: ∀o e l,kx o=none->S.h o=some e->e.2.isView=false->S.ρ o=some l->S.ok l.b)
 (Q: ∀o j,kx o=some j-> ∀e',S'.h (τ j)=some e'-> ∃e,S.h o=some e/\S'.ρ (τ j)=S.ρ o/\e'.2.esz=e.2.esz/\e'.2.len=e.2.len):
 ∀(n:Nat) (x y:AV) (v:Value),Bd S.h kx n x=some y->Aa S x v->Aa S' (y.ren τ) v:=by
 intro n;induction n with
 |zero=>intro x y v h;simp[Bd] at h
 |succ n ih=>
  have hm: ∀(cs ys:List AV) (vs:List Value),Aq (Bd S.h kx n) cs=some ys->AN S cs vs->AN S' (AH τ ys) vs:=by
   intro cs;induction cs with
   |nil=>
    intro ys vs h G;simp only[Aq,AM] at h;subst h;simpa only[AH,AN] using G
   |cons x cs af=>
    intro ys vs h G;simp only[Aq] at h;simp only[AN] at G;obtain⟨v,r,rfl,Z,h2⟩:=G;split at h
    .rename_i z zs hz ad;obtain rfl:=AB h;simp only[AH,AN];exact⟨v,r,rfl,ih x z v hz Z,af zs r ad h2⟩
    .cases h
  intro x y v h G;have hB: ∀d,y= .im d->Aa S' (y.ren τ) v:=by
   intro d hd;subst hd;simp only[AV.ren,Aa];exact GI ac d v (Rs hW ab (n+1) x d v h G)
  have hK: ∀(f:Nat->AV) (g:Option D) (o:Nat),kp f g (kx o)=some y->(∀j,kx o=some j->Aa S' ((f j).ren τ) v)->Aa S' (y.ren τ) v:=by
   intro f g o Z h2;cases hk:kx o with
   |none=>
    rw[hk] at Z;simp only[kp,Dl] at Z;obtain⟨d,_,rfl⟩:=Z;exact hB d rfl
   |some j=>
    rw[hk] at Z;simp only[kp,AM] at Z;rw[<-Z];exact h2 j hk
  cases x with
  |im d=>
   simp only[Bd,AM] at h;exact hB d h.symm
  |any=>
   simp only[Bd,AM] at h;subst h;simp only[AV.ren,Aa]
  |agg cs=>
   have h0:=h;simp only[Bd,Dl] at h0;obtain⟨ys,Z,h2⟩:=h0;cases ha:Ds ys with
   |some ds=>rw[ha] at h2;exact hB _ h2.symm
   |none=>
    rw[ha] at h2;simp only[Aa] at G;obtain⟨vs,rfl,h3⟩:=G;rw[<-h2];simp only[X1,AV.ren,Aa];exact⟨vs,rfl,hm cs ys _ Z h3⟩
  |tup cs=>
   have h0:=h;simp only[Bd,Dl] at h0;obtain⟨ys,Z,h2⟩:=h0;cases ha:Ds ys with
   |some ds=>rw[ha] at h2;exact hB _ h2.symm
   |none=>
    rw[ha] at h2;simp only[Aa] at G;obtain⟨vs,rfl,h3⟩:=G;rw[<-h2];simp only[kA,AV.ren,Aa];exact⟨vs,rfl,hm cs ys _ Z h3⟩
  |own o=>
   have h0:=h;simp only[Bd] at h0;refine hK _ _ o h0 ?_;intro j hj;simp only[Aa,AV.ren] at G⊢;refine⟨G.1,?_⟩;intro e' O;obtain⟨e,he,hr,_,hl⟩:=Q o j hj e' O;rw[hr,hl];exact G.2 e he
  |mp o=>
   have h0:=h;simp only[Bd] at h0;refine hK _ _ o h0 ?_;intro j hj;simp only[Aa,AV.ren] at G⊢;refine⟨G.1,?_⟩;intro e' O;obtain⟨e,he,hr,_,hl⟩:=Q o j hj e' O;rw[hr];exact G.2 e he
  |ptr o p=>
   have hp: ∀j,kx o=some j->Aa S' ((AV.ptr j p).ren τ) v:=by
    intro j hj;simp only[Aa,AV.ren] at G⊢;refine⟨G.1,?_⟩;intro e' O;obtain⟨e,he,hr,_,hl⟩:=Q o j hj e' O;rw[hr];exact G.2 e he
   cases p with
   |zero=>
    have h0:=h;simp only[Bd] at h0;exact hK _ _ o h0 hp
   |succ p=>
    have h0:=h;simp only[Bd] at h0;exact hK _ _ o h0 hp
  |eptr o i p=>
   have h0:=h;simp only[Bd] at h0;refine hK _ _ o h0 ?_;intro j hj;simp only[Aa,AV.ren] at G⊢;refine⟨G.1,?_⟩;intro e' O;obtain⟨e,he,hr,hz,hl⟩:=Q o j hj e' O;rw[hr,hz];exact G.2 e he
  |ch o=>
   have h0:=h;simp only[Bd] at h0;refine hK _ _ o h0 ?_;intro j hj;simp only[Aa,AV.ren] at G⊢;refine⟨G.1,?_⟩;intro e' O;obtain⟨e,he,hr,_,hl⟩:=Q o j hj e' O;rw[hr];exact G.2 e he
  |it o=>
   have h0:=h;simp only[Bd] at h0;refine hK _ _ o h0 ?_;intro j hj;simp only[Aa,AV.ren] at G⊢;refine⟨G.1,?_⟩;intro e' O;obtain⟨e,he,hr,_,hl⟩:=Q o j hj e' O;rw[hr];exact G.2 e he
  |osl o a k=>
   have h0:=h;simp only[Bd] at h0;refine hK _ _ o h0 ?_;intro j hj;simp only[Aa,AV.ren] at G⊢;refine⟨G.1,?_⟩;intro e' O;obtain⟨e,he,hr,hz,hl⟩:=Q o j hj e' O;rw[hr,hz,hl];exact G.2 e he
  |clo g a c=>
   have h0:=h;simp only[Bd] at h0;cases ha:Aq (Bd S.h kx n) a with
   |none=>rw[ha] at h0;simp[IU] at h0
   |some a'=>
    cases hcc:Aq (Bd S.h kx n) c with
    |none=>rw[ha,hcc] at h0;simp[IU] at h0
    |some c'=>
     rw[ha,hcc] at h0;simp only[IU,AM] at h0;have aa:y= .clo g a' c'->Aa S' (y.ren τ) v:=by
      intro hy;subst hy;simp only[Aa] at G;obtain⟨va,vc,rfl,h3,h4⟩:=G;simp only[AV.ren,Aa];exact⟨va,vc,rfl,hm a a' _ ha h3,hm c c' _ hcc h4⟩
     cases Z:Ds a' with
     |none=>rw[Z] at h0;exact aa (by rw[<-h0];rfl)
     |some ds=>
      cases h2:Ds c' with
      |none=>rw[Z,h2] at h0;exact aa (by rw[<-h0];rfl)
      |some es=>rw[Z,h2] at h0;exact hB _ h0.symm
def Lw(ti:TI):Option Am->Option AV
 |some (_,.cells _ z)=>bif (ti.agg||ti.size==1) && z.length==ti.size then some (eQ ti.agg z) else none
 |_=>none
def IH(h:Ao)(x:AV):Option TI->Option AV
 |none=>none
 |some ti=>match x with
  | .ptr o 0=>Lw ti (hget h o)
  |_=>none
def Ka(P:Program)(s:Az):ResultVar->Option AV
 | .tmp t=>some (A8 s.tm t)
 | .cell a T=>IH s.h (A8 s.tm a) (tI P T)
def CX:List AV->AV
 |[x]=>x
 |xs=> .tup xs
def Rk{P:Program}{C:AZ}{N:Nat}{s:Az}{S:Ay}{a:Act}(hc:CC C N s S a){x:ResultVar}{r:AV}(z:Ka P s x=some r):
 ∃v,(match x with| .tmp t=>pure (a.tmps.getD t undef)| .cell c t=>do loadVar t (<-asAddr (a.tmps.getD c undef)):Sem Value).run P S.w= .ok v S.w/\Aa S r v:=by
 cases x with
 |tmp t=>
  simp only[Ka,AM] at z;subst z;exact⟨a.eval (.tmp t),by simp[Act.eval],hc.tm t⟩
 |cell c T=>
  simp only[Ka] at z;cases hT:tI P T with
  |none=>rw[hT] at z;simp[IH] at z
  |some ti=>
   rw[hT] at z;simp only[IH] at z;split at z
   .rename_i o ho;cases he:hget s.h o with
    |none=>rw[he] at z;simp[Lw] at z
    |some e=>
     rw[he] at z;obtain⟨mu,e⟩:=e;cases e<;>simp only[Lw,reduceCtorEq] at z;rename_i U cs;cases hb:(ti.agg||ti.size==1) && cs.length==ti.size<;>rw[hb] at z
     .simp at z
     .simp only[BV,AM] at z;subst z;simp only[AW,H8,PO] at hb;have hS:S.h o=_:=(hc.h o).trans he;have aa:=hc.wf.obj o _ hS;simp only[An] at aa;obtain⟨lc,vs,hl,ac,ab,O⟩:=aa;have h1:=hc.tm c;rw[ho] at h1;simp only[Aa] at h1;obtain⟨l,Q,hv⟩:=h1.2 _ hS;rw[hl] at Q;obtain rfl:=AB Q;have G:=I0 _ _ O;have Z:=bU hT (w:=S.w) (b:=lc.b) (p:=0) ab (by simp at G⊢;omega) hb.1;have ad:a.tmps.getD c undef= .pointer (some ⟨lc.b,0,none⟩):=by simpa[Act.eval,ac] using hv
      rw[Gf,F9 (by rw[G,hb.2];exact AP _)] at Z;refine⟨if ti.agg then .agg vs.toList.toArray else vs.toList.headD undef,?_,oH O hb.2 hb.1⟩;simp only[ad,asAddr,Sem.run_bind,Sem.run_pure,Result.andThen_ok];exact Z
   .cases z
def nG{P:Program}{C:AZ}{N:Nat}{s:Az}{S:Ay}{a:Act}(hc:CC C N s S a){fn:Func}{xs:List AV}(hx:Aq (Ka P s) fn.results.toList=some xs):
 ∃v,(results fn a.tmps).run P S.w= .ok v S.w/\Aa S (CX xs) v:=by
 have ab: ∀(O:List ResultVar) (xs:List AV),Aq (Ka P s) O=some xs-> ∃z:List Value,(O.mapM λx=>(match x with
  | .tmp t=>pure (a.tmps.getD t undef)| .cell c t=>do loadVar t (<-asAddr (a.tmps.getD c undef)):Sem Value)).run P S.w= .ok z S.w/\AN S xs z:=by
  intro O;induction O with
  |nil=>
   intro xs h;simp only[Aq,AM] at h;subst h;exact⟨[],by simp,by simp only[AN]⟩
  |cons x O ih=>
   intro xs h;simp only[Aq] at h;split at h
   .rename_i y ys hy aa;obtain rfl:=AB h;obtain⟨v,Q,G⟩:=Rk hc hy;obtain⟨z,Z,h4⟩:=ih ys aa;refine⟨v::z,?_,by simp only[AN];exact⟨v,z,rfl,G,h4⟩⟩;simp only[List.mapM_cons,Sem.run_bind,Q,Z,Result.andThen_ok,Sem.run_pure]
   .cases h
 obtain⟨z,Q,G⟩:=ab _ _ hx;have hl:=I0 _ _ G;have hm:(results fn a.tmps).run P S.w= .ok (if h:z.toArray.size=1 then z.toArray[0] else .tuple z.toArray) S.w:=by
  unfold results;rw[ZeB]
  have: ∀(m:Sem (List Value)),m.run P S.w= .ok z S.w->((Functor.map List.toArray m)>>=λz=>(pure (if h:z.size=1 then z[0] else .tuple z):Sem Value)).run P S.w= .ok (if h:z.toArray.size=1 then z.toArray[0] else .tuple z.toArray) S.w:=by
   intro m hm;rw[Sem.run_bind]
   have:(Functor.map List.toArray m).run P S.w= .ok z.toArray S.w:=by
    rw[map_eq_pure_bind,Sem.run_bind,hm];rfl
   rw[this];rfl
  exact this _ Q
 refine⟨_,hm,?_⟩;cases xs with
 |nil=>
  simp only[AN] at G;subst G;simp only[CX,Aa];exact⟨#[],by simp,by simp[AN]⟩
 |cons x xs=>
  cases xs with
  |nil=>
   simp only[AN] at G;obtain⟨v,r,rfl,Z,rfl⟩:=G;simpa[CX] using Z
  |cons y xs=>
   have: ¬z.toArray.size=1:=by simp only[Zf];simp at hl;omega
   rw[dif_neg this];simp only[CX,Aa];exact⟨_,rfl,G⟩
def entry:Nat->List AV->List (Nat×AV)
 |_,[]=>[]
 |i,x::r=>(i,x)::entry (i+1) r
def gS{S:Ay}: ∀(args:List AV) (vs:List Value) (i t:Nat),AN S args vs->Aa S (A8 (entry i args) t) (if i<=t then (vs[t - i]?).getD undef else undef)
 |[],vs,i,t,_=>by simp[entry,A8,Aa]
 |x::args,vs,i,t,h=>by
  simp only[AN] at h;obtain⟨v,r,rfl,G,O⟩:=h;simp only[entry,A8];cases hq:i==t
  .have Q:i≠t:=by simpa using hq
   have:=gS args r (i+1) t O
   simp only[Bs];by_cases z:i+1<=t
   .rw[Ai z] at this;rw[Ai (by omega)];have e:t - i=(t - (i+1))+1:=by omega
    rw[e];simpa using this
   .rw[Af z] at this;rw[Af (by omega)];exact this
  .have:i=t:=by simpa using hq
   subst this;simpa using G
def gZ: ∀(args:List AV) (i t:Nat),∀m∈(A8 (entry i args) t).nms,m∈Aw args
 |[],i,t,m,h=>by simp[entry,A8,AV.nms] at h
 |x::args,i,t,m,h=>by
  simp only[entry,A8] at h;simp only[Aw,Bz];cases hq:i==t<;>rw[hq] at h
  .exact .inr (gZ args (i+1) t m (by simpa using h))
  .exact .inl (by simpa using h)
def Xm:List Nat->Nat->Nat->Option Nat
 |[],_,_=>none
 |x::r,o,k=>bif x==o then some k else Xm r o (k+1)
def HP(k:Nat)(z:List Nat)(o:Nat):Option Nat:=bif Nat.blt o k then some o else Xm z o k
def Cd(f:AV->Option AV):Ac->Option Ac
 | .cells T z=>(Aq f z).map (.cells T)
 | .arr T k rows=>some (.arr T k rows)
 | .arrA T k rows=>(Aq (Aq f) rows).map (.arrA T k)
 | .map O G=>some (.map O G)
 | .chan q cap=>some (.chan q cap)
 | .iter a l=>some (.iter a l)
 | .view z=>some (.view z)
def II(j:Nat)(z:Bool):Option Ac->Option Ao->Option Ao
 |some e,some r=>some ((j,(z,e))::r)
 |some _,none=>none
 |none,_=>none
def klE(f:AV->Option AV)(j:Nat)(r:Option Ao):Option Am->Option Ao
 |none=>r
 |some (z,e)=>II j z (Cd f e) r
def Ja(h:Nat->Option Am)(f:AV->Option AV):List Nat->Option Ao
 |[]=>some []
 |j::r=>klE f j (Ja h f r) (h j)
def zP(f:AV->Option AV)(j:Nat)(r:Option Ao):Option Am->Option Ao
 |none=>none
 |some (false,_)=>none
 |some (true,e)=>II j true (Cd f e) r
def IZ(h:Nat->Option Am)(f:AV->Option AV):List Nat->Nat->Option Ao
 |[],_=>some []
 |x::r,j=>zP f j (IZ h f r (j+1)) (h x)
def QS:Option Ao->Option Ao->Option Ao
 |some a,some b=>some (a++b)
 |some _,none=>none
 |none,_=>none
def XP(h:Nat->Option Am)(z:List Nat):Ao->Prop
 |[]=>True
 |(j,e)::r=>(bif z.contains j then True else h j=some e)/\XP h z r
def WW(k:Nat):List Nat->Bool
 |[]=>true
 |x::r=>Nat.ble k x && (!r.contains x && WW k r)
abbrev Kg:=AV->Ao->Nat->Prop
def Je(R:Kg)(cnt:Nat):Option AV->Option Ao->Prop
 |some r,some H=>R r H cnt
 |some _,none=>False
 |none,_=>False
def ZC(k:Nat)(G:List Nat)(H0:Ao)(R:Kg)(s:Az)(z:List Nat)(x:AV):Prop:=
 WW k z=true/\XP (hget s.h) G H0/\Je R z.length (Bd (hget s.h) (HP k z) 9 x) (QS (Ja (hget s.h) (Bd (hget s.h) (HP k z) 9) G) (IZ (hget s.h) (Bd (hget s.h) (HP k z) 9) z k))
def M9(k:Nat)(G:List Nat)(z:Az->AV->List Nat)(H0:Ao)(R:Kg)(s:Az):Option (List AV)->Prop
 |some xs=>ZC k G H0 R s (z s (CX xs)) (CX xs)
 |none=>False
def T9(P:Program)(O:List ResultVar)(k:Nat)(G:List Nat)(z:Az->AV->List Nat)(H0:Ao)(R:Kg)(s:Az):Prop:=M9 k G z H0 R s (Aq (Ka P s) O)
def OM(P:Program)(O:List ResultVar)(k:Nat)(G:List Nat)(z:Az->AV->List Nat)(H0:Ao)(R:Kg):Ci
 | .normal,s=>T9 P O k G z H0 R s
 | .ret,s=>T9 P O k G z H0 R s
 | .exit _,_=>False
def Ky(_:Az)(_:AV):List Nat:=[]
def sL(k:Nat):List Nat->List Nat
 |[]=>[]
 |x::r=>bif Nat.ble k x then x::sL k r else sL k r
def sK(k:Nat)(_:Az)(x:AV):List Nat:=sL k x.nms
def Dh(r r':AV):Prop:= ∀(σ:Nat->Nat) (S:Ay) (v:Value),Aa S (r.ren σ) v->Aa S (r'.ren σ) v
def kJ(e e':Am):Prop:=e.1=e'.1/\e.2.esz=e'.2.esz/\e.2.len=e'.2.len/\e.2.isView=e'.2.isView/\ ∀(σ:Nat->Nat) (S:Ay) (l:Option F2),An S l (e.2.ren σ)->An S l (e'.2.ren σ)
def ZP:Ao->Ao->Prop
 |[],[]=>True
 |(j,e)::r,(j',e')::r'=>j=j'/\kJ e e'/\ZP r r'
 |[],_::_=>False
 |_::_,[]=>False
def Dh.refl(r:AV):Dh r r:=λ_ _ _ h=>h
def kJ.refl(e:Am):kJ e e:=⟨rfl,rfl,rfl,rfl,λ_ _ _ h=>h⟩
def ZP.refl: ∀(H:Ao),ZP H H
 |[]=>trivial
 |(_,e)::r=>⟨rfl,kJ.refl e,ZP.refl r⟩
def ZP.get: ∀{H H':Ao},ZP H H'-> ∀n,(hget H' n=none/\hget H n=none)\/ ∃e e',hget H n=some e/\hget H' n=some e'/\kJ e e'
 |[],[],_,n=> .inl ⟨rfl,rfl⟩
 |(j,e)::r,(j',e')::r',h,n=>by
  obtain⟨rfl,z,G⟩:=h;simp only[hget];cases hq:j==n
  .simpa using ZP.get G n
  .exact .inr ⟨e,e',by simp,by simp,z⟩
def sg(os:List Nat)(nx j:Nat):Nat:=match os[j]? with
 |some o=>o
 |none=>nx+(j - os.length)
def AX(σ:Nat->Nat):Ao->Ao
 |[]=>[]
 |(j,(z,e))::r=>(σ j,(z,e.ren σ))::AX σ r
def qO{σ:Nat->Nat}: ∀{H:Ao} {n:Nat} {e':Am},hget (AX σ H) n=some e'-> ∃j e,(j,e)∈H/\σ j=n/\e'=(e.1,e.2.ren σ)
 |[],n,e',h=>by simp[AX,hget] at h
 |(j,(Q,e))::r,n,e',h=>by
  simp only[AX,hget] at h;cases hq:σ j==n<;>rw[hq] at h
  .obtain⟨j',x,z,G,O⟩:=qO (H:=r) (by simpa using h);exact⟨j',x,by simp[z],G,O⟩
  .simp only[BV,AM] at h;exact⟨j,(Q,e),by simp,by simpa using hq,h.symm⟩
def mE{σ:Nat->Nat}(hσ: ∀i j,σ i=σ j->i=j): ∀(H:Ao) (j:Nat),hget (AX σ H) (σ j)=(hget H j).map λe=>(e.1,e.2.ren σ)
 |[],j=>rfl
 |(i,(Q,e))::r,j=>by
  simp only[AX,hget];by_cases z:i=j
  .subst z;simp
  .have G:(i==j)=false:=by simpa using z
   have O:(σ i==σ j)=false:=by rw[HE];exact λh=>z (hσ _ _ h)
   rw[G,O];simpa using mE hσ r j
def cE: ∀{H:Ao} {n:Nat} {e:Am},hget H n=some e->(n,e)∈H
 |[],n,e,h=>by simp[hget] at h
 |(i,x)::r,n,e,h=>by
  simp only[hget] at h;cases hq:i==n<;>rw[hq] at h
  .exact BK _ (cE (by simpa using h))
  .have:i=n:=by simpa using hq
   subst this;simp only[BV,AM] at h;subst h;simp
def Qti{C:AZ}{S S':Ay}(hW:Wf C S){kx:Nat->Option Nat}{τ:Nat->Nat}(Q: ∀b,S.ok b->S'.ok b/\S'.hp b=S.hp b)(ah: ∀o e l,kx o=none->S.h o=some e->e.2.isView=false->S.ρ o=some l->S.ok l.b)
 (ag: ∀o j,kx o=some j-> ∀e',S'.h (τ j)=some e'-> ∃e,S.h o=some e/\S'.ρ (τ j)=S.ρ o/\e'.2.esz=e.2.esz/\e'.2.len=e.2.len)
 {n:Nat}{e e':Ac}(h:Cd (Bd S.h kx n) e=some e'):(e'.esz=e.esz/\e'.len=e.len)/\ ∀l,(∀O,l=some O->S'.hp O.b=S.hp O.b)->An S l e->An S' l (e'.ren τ):=by
 have hm: ∀(cs Z:List AV) (vs:List Value),Aq (Bd S.h kx n) cs=some Z->AN S cs vs->AN S' (AH τ Z) vs:=by
  intro cs;induction cs with
  |nil=>
   intro Z vs h hc;simp only[Aq,AM] at h;subst h;simpa only[AH,AN] using hc
  |cons x cs ad=>
   intro Z vs h hc;simp only[Aq] at h;simp only[AN] at hc;obtain⟨v,r,rfl,G,h2⟩:=hc;split at h
   .rename_i z zs hz ac;obtain rfl:=AB h;simp only[AH,AN];exact⟨v,r,rfl,Qrr hW Q ah ag n x z v hz G,ad zs r ac h2⟩
   .cases h
 have an: ∀(cs Z:List AV) (vs:List Value),Aq (Bd S.h kx n) cs=some Z->Cm S cs vs->Cm S' (AH τ Z) vs:=by
  intro cs;induction cs with
  |nil=>
   intro Z vs h hc;simp only[Aq,AM] at h;subst h;simp only[AH,Cm]
  |cons x cs ad=>
   intro Z vs h hc;simp only[Aq] at h;simp only[Cm] at hc;obtain⟨v,r,rfl,G,h2⟩:=hc;split at h
   .rename_i z zs hz ac;obtain rfl:=AB h;simp only[AH,Cm];exact⟨v,r,rfl,Qrr hW Q ah ag n x z v hz G,ad zs r ac h2⟩
   .cases h
 have ao: ∀(k:Nat) (rs Z:List (List AV)) (vs:List Value),Aq (Aq (Bd S.h kx n)) rs=some Z->B7 S k rs vs->B7 S' k (Z.map (AH τ)) vs:=by
  intro k rs;induction rs with
  |nil=>
   intro Z vs h hc;simp only[Aq,AM] at h;subst h;simp only[BD,B7]
  |cons x rs ad=>
   intro Z vs h hc;simp only[Aq] at h;simp only[B7] at hc;split at h
   .rename_i z zs hz ac;obtain rfl:=AB h;simp only[Bb,B7,Qsc];exact⟨(cB _ _ hz).trans hc.1,an x z _ hz hc.2.1,ad zs _ ac hc.2.2⟩
   .cases h
 cases e<;>simp only[Cd] at h
 case view cs=>
  obtain rfl:=AB h;refine⟨⟨rfl,rfl⟩,λl hl h=> ?_⟩;simp only[Ac.ren,An] at h⊢;obtain⟨O,vs,T,fr,G,h2,h3⟩:=h;exact⟨O,vs,T,fr,G,(hl O G).trans h2,UW Q cs _ h3⟩
 case cells T cs=>
  simp only[Dl] at h;obtain⟨Z,G,rfl⟩:=h;refine⟨⟨rfl,rfl⟩,λl hl h=> ?_⟩;simp only[Ac.ren,An] at h⊢;obtain⟨O,vs,g1,g2,g3,g4⟩:=h;exact⟨O,vs,g1,g2,(hl O g1).trans g3,hm cs Z _ G g4⟩
 case arr T k rows=>
  obtain rfl:=AB h;refine⟨⟨rfl,rfl⟩,λl hl h=> ?_⟩;simp only[Ac.ren,An] at h⊢;refine⟨h.1,?_⟩;cases l with
  |none=>exact h.2
  |some O=>
   obtain⟨h0,G,vs,h2,h3,h4⟩:=h;exact⟨G,vs,(hl O rfl).trans h2,h3,YD Q k rows _ h4⟩
 case arrA T k rows=>
  simp only[Dl] at h;obtain⟨Z,G,rfl⟩:=h;have af:=cB _ _ G;refine⟨⟨rfl,af⟩,λl hl h=> ?_⟩;simp only[Ac.ren,An,Gh,af] at h⊢;refine⟨h.1,?_⟩;cases l with
  |none=>
   have:=h.2
   subst this;simp only[Aq,AM] at G;subst G;rfl
  |some O=>
   obtain⟨h0,h2,vs,h3,h4,h5⟩:=h;exact⟨h2,vs,(hl O rfl).trans h3,h4,ao k rows Z _ G h5⟩
 case map kt es=>
  obtain rfl:=AB h;refine⟨⟨rfl,rfl⟩,λl hl h=> ?_⟩;simp only[Ac.ren,An] at h⊢;obtain⟨O,ab,aa,G,h0,h2,h3,h4⟩:=h;exact⟨O,ab,aa,G,h0,(hl O G).trans h2,KS Q es _ h3,h4⟩
 case chan q cap=>
  obtain rfl:=AB h;refine⟨⟨rfl,rfl⟩,λl hl h=> ?_⟩;simp only[Ac.ren,An] at h⊢;obtain⟨O,am,ak,ai,G,h2,h3⟩:=h;exact⟨O,am,ak,ai,G,(hl O G).trans h2,KU Q q _ h3⟩
 case iter last left=>
  obtain rfl:=AB h;refine⟨⟨rfl,rfl⟩,λl hl h=> ?_⟩;simp only[Ac.ren,An] at h⊢;obtain⟨O,mb,ab,aa,aj,G,h2,h0,h3,h4,h5,h6,h7⟩:=h;exact⟨O,mb,ab,aa,aj,G,(Q mb h2).1,Qly Q last h0,(Q mb h2).2.trans h3,(hl O G).trans h4,h5,h6,KS Q left _ h7⟩
def Of{f:AV->Option AV}{e e':Ac}(h:Cd f e=some e'):e'.isView=e.isView:=by
 cases e<;>simp only[Cd,Dl,AM] at h
 .obtain⟨_,_,rfl⟩:=h;rfl
 .subst h;rfl
 .obtain⟨_,_,rfl⟩:=h;rfl
 all_goals subst h;rfl
def Le(d d':D):Prop:= ∀ok hp v,rd ok hp d v->rd ok hp d' v
def Da:List D->List D->Prop
 |[],[]=>True
 |d::r,d'::r'=>Le d d'/\Da r r'
 |[],_::_=>False
 |_::_,[]=>False
def Le.refl(d:D):Le d d:=λ_ _ _ h=>h
def Da.refl: ∀(ds:List D),Da ds ds
 |[]=>trivial
 |d::ds=>⟨Le.refl d,Da.refl ds⟩
def Da.len: ∀{a b:List D},Da a b->a.length=b.length
 |[],[],_=>rfl
 |_::_,_::_,h=>by simp[Da.len h.2]
def Da.rdl: ∀{a b:List D},Da a b-> ∀ok hp z,Ae.rdl ok hp a z->Ae.rdl ok hp b z
 |[],[],_,ok,hp,z,h=>h
 |_::_,_::_,G,ok,hp,z,h=>by
  simp only[Ae.rdl] at h⊢;obtain⟨v,r,rfl,O,Q⟩:=h;exact⟨v,r,rfl,G.1 _ _ _ O,Da.rdl G.2 _ _ _ Q⟩
def HZ:List D->List D->Prop
 |_,[]=>True
 |d::r,d'::r'=>Le d d'/\HZ r r'
 |[],_::_=>False
def HZ.rdp: ∀{a b:List D},HZ a b-> ∀ok hp z,Ae.rdp ok hp a z->Ae.rdp ok hp b z
 |_,[],_,ok,hp,z,h=>by simp only[Ae.rdp]
 |_::_,_::_,G,ok,hp,z,h=>by
  simp only[Ae.rdp] at h⊢;obtain⟨v,r,rfl,O,Q⟩:=h;exact⟨v,r,rfl,G.1 _ _ _ O,HZ.rdp G.2 _ _ _ Q⟩
 |[],_::_,h,_,_,_,_=>h.elim
def Da.leP: ∀{a b:List D},Da a b->HZ a b
 |[],[],_=>trivial
 |_::_,_::_,h=>⟨h.1,Da.leP h.2⟩
def HZ.refl(a:List D):HZ a a:=(Da.refl a).leP
def HZ.trans_take: ∀{n:Nat} {a b:List D},Da (a.take n) b->HZ a b
 |0,a,[],_=>by cases a<;>trivial
 |_+1,[],[],_=>trivial
 |n+1,x::a,y::b,h=>⟨h.1,HZ.trans_take (n:=n) h.2⟩
 |n+1,x::a,[],h=>h.elim
 |n+1,[],y::b,h=>h.elim
 |0,a,y::b,h=>by cases a<;>exact h.elim
def K3{a b:List D}(h:Da a b):Le (.agg a) (.agg b):=by
 intro ok hp v z;simp only[Ae.rd] at z⊢;obtain⟨O,rfl,G⟩:=z;exact⟨O,rfl,h.rdl _ _ _ G⟩
def K4{a b:List D}(h:Da a b):Le (.tup a) (.tup b):=by
 intro ok hp v z;simp only[Ae.rd] at z⊢;obtain⟨O,rfl,G⟩:=z;exact⟨O,rfl,h.rdl _ _ _ G⟩
def Vz:List (List D)->List (List D)->Prop
 |[],[]=>True
 |r::G,r'::z=>Da r r'/\Vz G z
 |[],_::_=>False
 |_::_,[]=>False
def Vz.len: ∀{a b:List (List D)},Vz a b->a.length=b.length
 |[],[],_=>rfl
 |_::_,_::_,h=>by simp[Vz.len h.2]
def Vz.rdr: ∀{a b:List (List D)} {k k':Nat},Vz a b->(∀r∈b,r.length=k')-> ∀ok hp z,Ae.rdr ok hp k a z->Ae.rdr ok hp k' b z
 |[],[],_,_,_,_,ok,hp,z,h=>by simp only[Ae.rdr]
 |r::rs,r'::aa,k,k',G,Q,ok,hp,z,h=>by
  simp only[Ae.rdr] at h⊢;have Z:=G.1.len;have O:=Q r' (by simp)
  have:k=k':=by rw[<-h.1,Z,O]
  subst this;exact⟨O,G.1.leP.rdp _ _ _ h.2.1,Vz.rdr G.2 (λx hx=>Q x (by simp[hx])) _ _ _ h.2.2⟩
def Gb{nz:Bool}{k k':Nat}{a b:List (List D)}(h:Vz a b)(hk: ∀r∈b,r.length=k'):Le (.sl nz k a) (.sl false k' b):=by
 intro ok hp v O;simp only[Ae.rd] at O⊢;rcases O with ⟨z,G⟩|⟨Q,p,cap,vs,T,Z,z,G,h3,h4,h5,h6,h7⟩
 .subst G;cases b with
  |nil=>exact .inl ⟨OV z,rfl⟩
  |cons _ _=>exact h.elim
 .exact .inr ⟨Q,p,cap,vs,T,Z,by rw[<-h.len];exact z,by simp,by rw[<-h.len];exact h3,by rw[<-h.len];exact h4,h5,h6,h.rdr hk _ _ _ h7⟩
def iR{g:FuncId}{a b:List D}(h:Da a b):Le (.fn g [] a) (.fn g [] b):=by
 intro ok hp v z;simp only[Ae.rd] at z⊢;obtain⟨x,y,G,O,Q⟩:=z;exact⟨x,y,G,O,h.rdl _ _ _ Q⟩
def oC{a b:List D}(h:HZ a b):Le (.ref a) (.ref b):=by
 intro ok hp v z;simp only[Ae.rd] at z⊢;obtain⟨G,p,vs,T,O,Q,Z,h3,h4⟩:=z;exact⟨G,p,vs,T,O,Q,Z,h3,h.rdp _ _ _ h4⟩
def AU{A:Type}(f:List D->Option A):List (List D)->Option (List A)
 |[]=>some []
 |r::z=>match f r,AU f z with
  |some x,some xs=>some (x::xs)
  |_,_=>none
def Qq{A:Type}{f:List D->Option A}{e:A->List D}(h: ∀x,f (e x)=some x): ∀(l:List A),AU f (l.map e)=some l
 |[]=>rfl
 |x::l=>by simp only[Bb,AU,h x,Qq h l]
def FK{A:Type}{f:List D->Option A}{e:A->List D}(h: ∀ds x,f ds=some x->Da ds (e x)): ∀(rows:List (List D)) (l:List A),AU f rows=some l->Vz rows (l.map e)
 |[],l,z=>by simp only[AU,AM] at z;subst z;trivial
 |r::Q,l,z=>by
  simp only[AU] at z;split at z
  .rename_i x xs O G;obtain rfl:=AB z;exact⟨h r x O,FK h Q xs G⟩
  .cases z
abbrev AE:=List AV->(Nat->Option Am)->Nat->Ah->Prop
def tab:List (Nat×AE)->CT
 |[],_,_,_,_,_=>False
 |p::r,g,args,h,nx,K=>if p.1=g then p.2 args h nx K else tab r g args h nx K
def Hb(P:Program)(g:Nat)(c:AE):Prop:= ∀args h nx K,c args h nx K->iI P g/\ ∃r E,PZ P g args h nx r E/\K r E
def V6{P:Program}: ∀(l:List (Nat×AE)),(∀p∈l,Hb P p.1 p.2)->Kf P (tab l)
 |[],_=>λ_ _ _ _ _ h=>h.elim
 |p::r,G=>by
  intro g args h nx K z;simp only[tab] at z;split at z
  .rename_i O;subst O;exact G p (by simp) args h nx K z
  .exact V6 r (λq hq=>G q (by simp[hq])) g args h nx K z
def Gq(P:Program)(g:Nat):Bool:=match P.funcs[g]? with
 |some fn=>Nat.blt g 1000000000 && (!(fn.name== "runtime.NumGoroutine") && !fn.body.isNone)
 |none=>false
def YH{P:Program}{g:Nat}(h:Gq P g=true):iI P g:=by
 unfold Gq at h;split at h
 .rename_i fn hf;simp only[AW,PL] at h;exact⟨by simpa using h.1,fn,hf,h.2.1,h.2.2⟩
 .cases h
inductive PK where
 |val (d:D)
 |ptr (cs:List D)
def CL:Nat->List PK->List AV
 |_,[]=>[]
 |j,.val d::r=> .im d::CL j r
 |j,.ptr _::r=> .ptr j 0::CL (j+1) r
def CJ:Nat->List PK->Ao
 |_,[]=>[]
 |j,.val _::r=>CJ j r
 |j,.ptr z::r=>(j,(false,.view z))::CJ (j+1) r
def BH:List PK->Nat
 |[]=>0
 | .val _::r=>BH r
 | .ptr _::r=>BH r+1
def Iq(S:Ay):PK->Value->Prop
 | .val d,v=>rd S.ok S.hp d v
 | .ptr G,v=> ∃b p z T O,v= .pointer (some ⟨b,p,none⟩)/\b<S.w.heap.size/\S.hp b=some (.cells z T O)/\rdp S.ok S.hp G (z.toList.drop p)
def EA(S:Ay):List PK->List Value->Prop
 |[],z=>z=[]
 |p::G,z=> ∃v r,z=v::r/\Iq S p v/\EA S G r
def Cx:PK->PK->Prop
 | .val d,.val d'=>Le d d'
 | .ptr a,.ptr b=>HZ a b
 | .val _,.ptr _=>False
 | .ptr _,.val _=>False
def Cl:List PK->List PK->Prop
 |[],[]=>True
 |p::r,p'::r'=>Cx p p'/\Cl r r'
 |[],_::_=>False
 |_::_,[]=>False
def Cx.c{S:Ay}{p p':PK}{v:Value}(h:Cx p p')(z:Iq S p v):Iq S p' v:=by
 cases p<;>cases p'<;>simp only[Cx] at h<;>simp only[Iq] at z⊢
 .exact h _ _ _ z
 .obtain⟨b,p,vs,T,G,O,Q,Z,h4⟩:=z;exact⟨b,p,vs,T,G,O,Q,Z,h.rdp _ _ _ h4⟩
def Cl.c{S:Ay}: ∀{a b:List PK} {vs:List Value},Cl a b->EA S a vs->EA S b vs
 |[],[],_,_,h=>h
 |_::_,_::_,vs,z,h=>by
  simp only[EA] at h⊢;obtain⟨v,r,rfl,G,O⟩:=h;exact⟨v,r,rfl,z.1.c G,Cl.c z.2 O⟩
def Cx.refl(p:PK):Cx p p:=by cases p;exact Le.refl _;exact HZ.refl _
def Cl.refl: ∀(a:List PK),Cl a a
 |[]=>trivial
 |p::a=>⟨Cx.refl p,Cl.refl a⟩
def EA.len{S:Ay}: ∀{ps:List PK} {vs:List Value},EA S ps vs->vs.length=ps.length
 |[],vs,h=>by simp only[EA] at h;simp[h]
 |_::_,vs,h=>by
  simp only[EA] at h;obtain⟨v,r,rfl,_,z⟩:=h;simp[EA.len z]
def YB: ∀(j:Nat) (ps:List PK),(CL j ps).length=ps.length
 |_,[]=>rfl
 |j,.val _::r=>by simp[CL,YB j r]
 |j,.ptr _::r=>by simp[CL,YB (j+1) r]
def Gc: ∀(j:Nat) (ps:List PK) (n:Nat) (e:Am),hget (CJ j ps) n=some e->(j<=n/\n<j+BH ps)/\ ∃z,e=(false,.view z)
 |_,[],n,e,h=>by simp[CJ,hget] at h
 |j,.val _::r,n,e,h=>by simpa[CJ,BH] using Gc j r n e h
 |j,.ptr z::r,n,e,h=>by
  simp only[CJ,hget] at h;simp only[BH];cases hq:j==n<;>rw[hq] at h
  .obtain⟨O,G⟩:=Gc (j+1) r n e (by simpa using h);exact⟨by omega,G⟩
  .have:j=n:=by simpa using hq
   simp only[BV,AM] at h;exact⟨by omega,z,h.symm⟩
def nW: ∀(j:Nat) (ps:List PK) (n:Nat),j+BH ps<=n-> ∀m∈Aw (CL j ps),m<n
 |_,[],n,_,m,z=>by simp[CL,Aw] at z
 |j,.val _::r,n,h,m,z=>by
  simp only[CL,Aw,AV.nms,Dj] at z;exact nW j r n h m z
 |j,.ptr _::r,n,h,m,z=>by
  simp only[CL,Aw,AV.nms,Bz,BL] at z;simp only[BH] at h;rcases z with rfl|z
  .omega
  .exact nW (j+1) r n (by omega) m z
def iQ{S:Ay}: ∀(ps:List PK) (vs:List Value) (j:Nat),EA S ps vs-> ∃Q:Nat->Option F2,
 (∀n e,hget (CJ j ps) n=some e-> ∃l,Q n=some l/\l.b<S.w.heap.size/\An S (some l) e.2)/\
 ∀(z:Ay),z.ok=S.ok->z.w=S.w->(∀n,(∃e,hget (CJ j ps) n=some e)->z.ρ n=Q n/\z.h n=hget (CJ j ps) n)->AN z (CL j ps) vs
 |[],vs,j,h=>by
  simp only[EA] at h;exact⟨λ_=>none,λn e G=>by simp[CJ,hget] at G,λz _ _ _=>by simp only[CL,AN];exact h⟩
 | .val d::ps,vs,j,h=>by
   simp only[EA] at h;obtain⟨v,r,rfl,h1,h2⟩:=h;obtain⟨Q,h3,h4⟩:=iQ ps r j h2;refine⟨Q,by simpa only[CJ] using h3,?_⟩;intro z O hw hS;simp only[CL,AN,Aa];refine⟨v,r,rfl,?_,h4 z O hw (by simpa only[CJ] using hS)⟩
   have:z.hp=S.hp:=by unfold Ay.hp;rw[hw]
   rw[O,this];exact h1
 | .ptr cs::ps,vs,j,h=>by
   simp only[EA] at h;obtain⟨v,r,rfl,h1,h2⟩:=h;obtain⟨Q,h3,h4⟩:=iQ ps r (j+1) h2;obtain⟨b,p,cells,T,fr,rfl,hb,hc,hr⟩:=h1;refine⟨λn=>if n=j then some ⟨b,p,0⟩ else Q n,?_,?_⟩
   .intro n e G;simp only[CJ,hget] at G;cases hq:j==n<;>rw[hq] at G
    .have:n≠j:=λh'=>by subst h';simp at hq
     simp only[Af this];exact h3 n e (by simpa using G)
    .have:n=j:=(by simpa using hq:j=n).symm
     simp only[BV,AM] at G;subst G;simp only[Ai this];refine⟨_,rfl,hb,?_⟩;simp only[An];exact⟨_,cells,T,fr,rfl,hc,hr⟩
   .intro z O hw hS;simp only[CL,AN,Aa];refine⟨_,r,rfl,⟨rfl,?_⟩,h4 z O hw ?_⟩
    .intro e G;have hj:=hS j ⟨(false,.view cs),by simp only[CJ,hget,rF,BV]⟩;rw[hj.1];simp
    .rintro n ⟨e,G⟩;have hn:=(Gc (j+1) ps n e G).1;have Z:n≠j:=by omega
     have hq:(j==n)=false:=by rw[HE];exact λh=>Z h.symm
     have:=hS n ⟨e,by simp only[CJ,hget,hq,Bs];exact G⟩
     simp only[Af Z,CJ,hget,hq,Bs] at this;exact this
def UE{P:Program}(HM:P.follows .mixedOrders=true){V:CT}(hV:Kf P V){g:FuncId}{fn:Func}{c:Code}(hf:P.funcs[g]? =some fn)(O:fn.body=some c)(ah:DT fn.ntmps c=true)
 {ps:List PK}(a8:ps.length<=fn.ntmps){R:Kg}{r0:D}(hR: ∀r H n,R r H n-> ∃d,r= .im d/\Le d r0)
 (hk:CR P V c (OM P fn.results.toList (BH ps) [] Ky (CJ 0 ps) R) ⟨entry 0 (CL 0 ps),CJ 0 ps,BH ps⟩)
 {C:AZ}{S:Ay}{vs:Array Value}{RR:Ending->World->Prop}(hW:Wf C S)(am:EA S ps vs.toList)
 (aj: ∀v S',Wf C S'->S'.h=S.h->BE (λ_=>True) S S'->rd S'.ok S'.hp r0 v->RR (.returned v) S'.w):Calls P g vs S.w RR:=by
 refine calls_of_wp hf O ?_;have a0:vs.size=(CL 0 ps).length:=by rw[YB];simpa using am.len
 obtain⟨ls,ak,hcl⟩:=iQ ps vs.toList 0 am
 let S0:Ay:=⟨ls,S.ok,hget (CJ 0 ps),S.w⟩
 let C0:AZ:=⟨S.w,λ_=>False,S.ok,0,λ_=>none,λ_=>none,[]⟩
 have au:Wf C0 S0:=by
  refine⟨rfl,rfl,rfl,AP _,AP _,λ_ _ _=>rfl,λ_ O=>O,λ_ O=> .inl O,hW.oks,?_,?_,?_,hW.glN λ_ h=>h.elim⟩
  .intro n e z;obtain⟨l,G,_,h3⟩:=ak n e z;have h4:S0.ρ n=some l:=G;rw[h4];obtain⟨_,cs,rfl⟩:=Gc 0 ps n e z;simp only[An] at h3⊢;exact h3
  .intro n e l z hl;obtain⟨l',G,h2,h3⟩:=ak n e z;have h4:S0.ρ n=some l':=G;rw[h4] at hl;obtain rfl:=AB hl;obtain⟨_,cs,rfl⟩:=Gc 0 ps n e z;exact⟨h2,.inr rfl⟩
  .intro n n' e e' l l' z ad hl bb ba aw;obtain⟨_,cs,rfl⟩:=Gc 0 ps n e z;obtain⟨_,a9,rfl⟩:=Gc 0 ps n' e' ad;simp at aw
 have av:BC C0 fn.ntmps ⟨entry 0 (CL 0 ps),CJ 0 ps,BH ps⟩ {tmps:=vs++Array.replicate (fn.ntmps - vs.size) undef,defers:=[]} S.w:=by
  have aa:AN S0 (CL 0 ps) vs.toList:=hcl S0 rfl rfl (λn _=>⟨rfl,rfl⟩);refine⟨S0,rfl,au,λn=>rfl,?_,?_,?_,by simp;rw[YB] at a0;omega,rfl,Cz _,λo ho=>absurd ho (rJ _)⟩
  .intro t;have G:=gS (S:=S0) (CL 0 ps) vs.toList 0 t aa;simp only[Cz,B5,jO] at G
   have:({tmps:=vs++Array.replicate (fn.ntmps - vs.size) undef,defers:=[]}:Act).eval (.tmp t)=(vs.toList[t]?).getD undef:=by
    simp only[Act.eval,H5,rC,dP];by_cases ht:t<vs.size
    .simp[ht]
    .simp only[ht,CA]
     have:vs[t]? =none:=W7 (by omega)
     simp only[Kk,this]
     split<;>rfl
   rw[this];exact G
  .intro t m hm;exact nW 0 ps (BH ps) (by omega) m (gZ (CL 0 ps) 0 t m hm)
  .intro n e z;obtain⟨G,cs,rfl⟩:=Gc 0 ps n e z;exact⟨by show n<BH ps;omega,by simp[Ac.nms]⟩
 refine wp_mono (Qo4 HM (qE hV) c ah _ _ _ _ hk av) ?_;have fin: ∀(s:Az) (a:Act) (w:World),T9 P fn.results.toList (BH ps) [] Ky (CJ 0 ps) R s->BC C0 fn.ntmps s a w->a.defers=[]/\ ∃v,(results fn a.tmps).run P w= .ok v w/\RR (.returned v) w:=by
  rintro s a w hr ⟨S1,rfl,hc⟩;unfold T9 at hr;cases hxs:Aq (Ka P s) fn.results.toList with
  |none=>rw[hxs] at hr;exact hr.elim
  |some xs=>
   rw[hxs] at hr;simp only[M9] at hr;obtain⟨v,an,ac⟩:=nG hc hxs;refine⟨hc.defers,v,an,?_⟩;obtain⟨_,_,Z⟩:=hr;have ao:hget s.h=S1.h:=(funext hc.h).symm;rw[ao] at Z
   let kx:=HP (BH ps) (Ky s (CX xs))
   have ag:Wf C0 (S1.ice λ_=>false):=UZ hc.wf;have af: ∀(f:AV->Option D) (o:Nat),P7 f ((S1.ice λ_=>false).h o)=P7 f (S1.h o)/\Ww ((S1.ice λ_=>false).h o)=Ww (S1.h o)/\Wq f ((S1.ice λ_=>false).h o)=Wq f (S1.h o):=by
    intro f o;rw[show (S1.ice λ_=>false).h o=(S1.h o).map λe=>(e.1 && false,e.2) from rfl];cases S1.h o with
    |none=>exact⟨rfl,rfl,rfl⟩
    |some e=>obtain⟨mu,e⟩:=e;cases e<;>exact⟨rfl,rfl,rfl⟩
   have ai: ∀(n:Nat),Bd (S1.ice λ_=>false).h kx n=Bd S1.h kx n:=by
    intro n;induction n with
    |zero=>funext x;simp[Bd]
    |succ n ih=>
     funext x;cases x with
     |own o=>simp only[Bd,ih,(af _ o).1]
     |mp o=>simp only[Bd,(af (λ_=>none) o).2.1]
     |ptr o p=>cases p<;>simp only[Bd,ih,(af _ o).2.2]
     |_=>simp only[Bd,ih]
   cases hcv:Bd S1.h kx 9 (CX xs) with
   |none=>rw[hcv] at Z;exact Z.elim
   |some r=>
    rw[hcv] at Z;have ab: ∃H n,R r H n:=by
     simp only[Ky,Ja,IZ,QS,Je] at Z;exact⟨_,_,Z⟩
    obtain⟨H,n,ab⟩:=ab;obtain⟨d,rfl,ax⟩:=hR _ _ _ ab;have az:=Rs ag (kx:=kx) (λo e l _ z hv hl=>iT hc.wf rfl z hv hl) 9 (CX xs) d v (by rw[ai];exact hcv) (I1 (Hc S1 _) _ _ (λ_ _=>trivial) ac);have G:=ag;have Q: ∀b,b<S.w.heap.size->S1.w.heap[b]? =S.w.heap[b]? :=λb O=>hc.wf.keep b O (λh=>h)
    let S':Ay:={S with ok:=(S1.ice λ_=>false).ok,w:=S1.w}
    have hp:BE (λ_=>True) S S':=⟨λb O=>⟨G.ok0 b O,Q b (hW.oks b O)⟩,λo _ e' ad=>⟨e',ad,rfl,rfl,rfl⟩⟩;have aq:Wf C S':=by
     refine⟨G.os.trans hW.os,G.tape.trans hW.tape,G.output.trans hW.output,CD hW.dr G.dr,CD hW.size G.size,?_,λb O=>G.ok0 b (hW.ok0 b O),?_,G.oks,?_,?_,hW.inj,hW.gl⟩
     .intro b O hM;exact (Q b (Fx O hW.size)).trans (hW.keep b O hM)
     .intro b O;rcases G.ok1 b O with h|h|h
      .exact hW.ok1 b h
      .exact .inr (.inl (CD hW.size h))
      .exact h.elim
     .intro o e z;exact Hd hp (λlc hl=>Q lc.b (hW.loc o e lc z hl).1) _ (λ_ _=>trivial) (hW.obj o e z)
     .intro o e l z hl;obtain⟨h2,h3⟩:=hW.loc o e l z hl;refine⟨Fx h2 G.size,?_⟩;cases hm:e.1 with
      |false=>
       rw[hm] at h3;simp only[CQ,CA] at h3⊢;exact h3.imp (G.ok0 _) id
      |true=>
       rw[hm] at h3;simp only[B5] at h3⊢;refine⟨λay=> ?_,h3.2⟩;rcases G.ok1 _ ay with h|h|h
       .exact h3.1 h
       .have h:S.w.heap.size<=l.b:=h;omega
       .exact h.elim
    exact aj v S' aq rfl hp (ax _ _ _ az)
 intro e a w z;cases e<;>simp only[Gx] at z<;>simp only[bodyPost]
 .obtain⟨s,hs,hc⟩:=z;exact fin s a w hs hc
 .obtain⟨s,hs,_⟩:=z;exact hs.elim
 .obtain⟨s,hs,hc⟩:=z;exact fin s a w hs hc
def PS(o:Nat):Option Am->Option (D×Ao)
 |some (z,.arr T k rows)=>some (.sl false k rows,bif z then [(o,(false,.arr T k rows))] else [])
 |some (_,.cells _ _)=>none
 |some (_,.arrA _ _ _)=>none
 |some (_,.map _ _)=>none
 |some (_,.chan _ _)=>none
 |some (_,.iter _ _)=>none
 |some (_,.view _)=>none
 |none=>none
def PR(o:Nat):Option Am->Option (D×Ao)
 |some (O,.map G z)=>some (.mp G z,bif O then [(o,(false,.map G z))] else [])
 |some (_,.cells _ _)=>none
 |some (_,.arr _ _ _)=>none
 |some (_,.arrA _ _ _)=>none
 |some (_,.chan _ _)=>none
 |some (_,.iter _ _)=>none
 |some (_,.view _)=>none
 |none=>none
def jY(f:List D->D):Option (List D×Ao)->Option (D×Ao)
 |some (ds,F)=>some (f ds,F)
 |none=>none
mutual
def Eg(h:Nat->Option Am):AV->Option (D×Ao)
 | .im d=>some (d,[])
 | .own o=>PS o (h o)
 | .mp o=>PR o (h o)
 | .agg z=>jY .agg (RO h z)
 | .tup z=>jY .tup (RO h z)
 | .any=>none
 | .ptr _ _=>none
 | .eptr _ _ _=>none
 | .ch _=>none
 | .it _=>none
 | .osl _ _ _=>none
 | .clo _ _ _=>none
def RO(h:Nat->Option Am):List AV->Option (List D×Ao)
 |[]=>some ([],[])
 |x::r=>Ro (Eg h x) (RO h r)
end
def Z8:Option (D×Ao)->Option (PK×Ao)
 |some (d,F)=>some (.val d,F)
 |none=>none
def F1:D->PK
 | .ref z=> .ptr z
 | .int k n=> .val (.int k n)
 | .bool b=> .val (.bool b)
 | .str s=> .val (.str s)
 | .nilp=> .val .nilp
 | .nilf=> .val .nilf
 | .nili=> .val .nili
 | .nilc=> .val .nilc
 | .nilm=> .val .nilm
 | .agg z=> .val (.agg z)
 | .tup z=> .val (.tup z)
 | .sl Q k rows=> .val (.sl Q k rows)
 | .mp O G=> .val (.mp O G)
 | .fn f a b=> .val (.fn f a b)
 | .ifc t d=> .val (.ifc t d)
 | .gp g=> .val (.gp g)
 | .tok g=> .val (.tok g)
def zX:Option (List D)->Option (PK×Ao)
 |some ds=>some (.ptr ds,[])
 |none=>none
def PU(off:Nat):Option Am->Option (PK×Ao)
 |some (_,.cells _ z)=>zX (Ds (z.drop off))
 |some (_,.view z)=>some (.ptr (z.drop off),[])
 |some (_,.arr _ _ _)=>none
 |some (_,.arrA _ _ _)=>none
 |some (_,.map _ _)=>none
 |some (_,.chan _ _)=>none
 |some (_,.iter _ _)=>none
 |none=>none
def zY(off:Nat):Option (List D)->Option (PK×Ao)
 |some r=>some (.ptr (r.drop off),[])
 |none=>none
def Tg(i off:Nat):Option Am->Option (PK×Ao)
 |some (_,.arr _ _ rows)=>zY off rows[i]?
 |some (_,.cells _ _)=>none
 |some (_,.view _)=>none
 |some (_,.arrA _ _ _)=>none
 |some (_,.map _ _)=>none
 |some (_,.chan _ _)=>none
 |some (_,.iter _ _)=>none
 |none=>none
def Im(h:Nat->Option Am):AV->Option (PK×Ao)
 | .im d=>some (F1 d,[])
 | .ptr o off=>PU off (h o)
 | .own o=>Z8 (Eg h (.own o))
 | .mp o=>Z8 (Eg h (.mp o))
 | .agg z=>Z8 (Eg h (.agg z))
 | .tup z=>Z8 (Eg h (.tup z))
 | .any=>none
 | .eptr o i off=>Tg i off (h o)
 | .ch _=>none
 | .it _=>none
 | .osl _ _ _=>none
 | .clo _ _ _=>none
def Wt:Option (PK×Ao)->Option (List PK×Ao)->Option (List PK×Ao)
 |some (p,F),some (z,G)=>some (p::z,F++G)
 |some _,none=>none
 |none,_=>none
def Io(h:Nat->Option Am):List AV->Option (List PK×Ao)
 |[]=>some ([],[])
 |x::r=>Wt (Im h x) (Io h r)
def DE{A:Type}(K:A->Prop):Option A->Prop
 |some a=>K a
 |none=>False
def PP(u:List Nat):Ao->Bv
 |[]=>{use:=u}
 |e::r=>{use:=u,kill:=(e::r).map (·.1),new:=e::r}
def V1{A:Type}(ar:List PK->Option A)(pre:A->Prop)(re:A->D)(u:List Nat)(K:Ah):Option (List PK×Ao)->Prop
 |some (z,F)=>DE (λa=>pre a/\K (.im (re a)) (PP u F)) (ar z)
 |none=>False
def E4{A:Type}(ar:List PK->Option A)(pre:A->Prop)(re:A->D):AE:=λargs h _ K=>V1 ar pre re (Aw args) K (Io h args)
def FR(S:Ay)(F:Ao):Prop:= ∀n e,(n,e)∈F-> ∃z,S.h n=some (z,e.2)/\e.1=false
def FR.app{S:Ay}{F G:Ao}(O:FR S F)(Q:FR S G):FR S (F++G):=by
 intro n e z;rcases Bz.1 z with z|z
 .exact O n e z
 .exact Q n e z
def XF(F:Ao)(X:Nat->Bool):Prop:= ∀n∈F.map (·.1),X n=false
def XF.app{F G:Ao}{X:Nat->Bool}(h:XF (F++G) X):XF F X/\XF G X:=by
 unfold XF at*;simp only[En,Bz] at h;exact⟨λn hn=>h n (.inl hn),λn hn=>h n (.inr hn)⟩
section
variable {C:AZ}{S:Ay}{h:Nat->Option Am}
def RQ(hW:Wf C S){o:Nat}{d:D}{F:Ao}{v:Value}(hh:S.h o=h o)(hd:PS o (h o)=some (d,F))(hc:Aa S (.own o) v):FR S F/\ ∀X,XF F X->rd (S.ice X).ok (S.ice X).hp d v:=by
 cases ho:h o with
 |none=>rw[ho] at hd;simp[PS] at hd
 |some e=>
  obtain⟨mu,e⟩:=e;rw[ho] at hd hh;cases e<;>simp only[PS,reduceCtorEq] at hd;rename_i T k rows;simp only[AM,Ea] at hd;obtain⟨rfl,rfl⟩:=hd;refine⟨?_,λX hX=> ?_⟩
  .cases mu with
   |false=>intro n e z;cases z
   |true=>
    intro n e z;simp only[BV,BL,Ea] at z;obtain⟨rfl,rfl⟩:=z;exact⟨true,hh,rfl⟩
  .have O:Wf C (S.ice X):=UZ hW;have Z:=I1 (Hc S X) _ _ (λ_ _=>trivial) hc;have z:(S.ice X).h o=some (mu && X o,.arr T k rows):=by
    show (S.h o).map _=_;rw[hh];rfl
   refine L9 (f:=λ_=>none) O (λx d v hx=>by cases hx) ?_ (by rw[z];rfl) Z;intro e' l G hv hl;cases mu with
   |true=>exact iT hW (hX o (by simp)) G hv hl
   |false=>
    rw[z] at G;obtain rfl:=AB G
    have:=(O.loc o _ l z hl).2
    simp only[FP,CQ,CA] at this;rcases this with Q|Q
    .exact Q
    .cases Q
def RP(hW:Wf C S){o:Nat}{d:D}{F:Ao}{v:Value}(hh:S.h o=h o)(hd:PR o (h o)=some (d,F))(hc:Aa S (.mp o) v):FR S F/\ ∀X,XF F X->rd (S.ice X).ok (S.ice X).hp d v:=by
 cases ho:h o with
 |none=>rw[ho] at hd;simp[PR] at hd
 |some e=>
  obtain⟨mu,e⟩:=e;rw[ho] at hd hh;cases e<;>simp only[PR,reduceCtorEq] at hd;rename_i kt es;simp only[AM,Ea] at hd;obtain⟨rfl,rfl⟩:=hd;refine⟨?_,λX hX=> ?_⟩
  .cases mu with
   |false=>intro n e z;cases z
   |true=>
    intro n e z;simp only[BV,BL,Ea] at z;obtain⟨rfl,rfl⟩:=z;exact⟨true,hh,rfl⟩
  .have O:Wf C (S.ice X):=UZ hW;have Z:=I1 (Hc S X) _ _ (λ_ _=>trivial) hc;have z:(S.ice X).h o=some (mu && X o,.map kt es):=by
    show (S.h o).map _=_;rw[hh];rfl
   refine RJ O ?_ (by rw[z];rfl) Z;intro e' l G hv hl;cases mu with
   |true=>exact iT hW (hX o (by simp)) G hv hl
   |false=>
    rw[z] at G;obtain rfl:=AB G
    have:=(O.loc o _ l z hl).2
    simp only[FP,CQ,CA] at this;rcases this with Q|Q
    .exact Q
    .cases Q
mutual
def lC(hW:Wf C S): ∀(x:AV) (d:D) (F:Ao) (v:Value),(∀n∈x.nms,S.h n=h n)->Eg h x=some (d,F)->Aa S x v->FR S F/\ ∀X,XF F X->rd (S.ice X).ok (S.ice X).hp d v
 | .im d',d,F,v,_,hd,z=>by
   simp only[Eg,AM,Ea] at hd;obtain⟨rfl,rfl⟩:=hd;simp only[Aa] at z;exact⟨(λn e he=>by cases he),λX _=>GI (Hc S X).ok _ _ z⟩
 | .own o,d,F,v,O,hd,z=>by
   simp only[Eg] at hd;exact RQ hW (O o (by simp[AV.nms])) hd z
 | .mp o,d,F,v,O,hd,z=>by
   simp only[Eg] at hd;exact RP hW (O o (by simp[AV.nms])) hd z
 | .agg Q,d,F,v,O,hd,z=>by
   simp only[Eg] at hd;cases hl:RO h Q with
   |none=>rw[hl] at hd;cases hd
   |some q=>
    obtain⟨ds,G⟩:=q;rw[hl] at hd;simp only[jY,AM,Ea] at hd;obtain⟨rfl,rfl⟩:=hd;simp only[Aa] at z;obtain⟨Z,rfl,h1⟩:=z;obtain⟨h2,h3⟩:=Qtb hW Q ds G Z.toList (by simpa only[AV.nms] using O) hl h1;exact⟨h2,λX hX=>by simp only[rd];exact⟨Z,rfl,h3 X hX⟩⟩
 | .tup Q,d,F,v,O,hd,z=>by
   simp only[Eg] at hd;cases hl:RO h Q with
   |none=>rw[hl] at hd;cases hd
   |some q=>
    obtain⟨ds,G⟩:=q;rw[hl] at hd;simp only[jY,AM,Ea] at hd;obtain⟨rfl,rfl⟩:=hd;simp only[Aa] at z;obtain⟨Z,rfl,h1⟩:=z;obtain⟨h2,h3⟩:=Qtb hW Q ds G Z.toList (by simpa only[AV.nms] using O) hl h1;exact⟨h2,λX hX=>by simp only[rd];exact⟨Z,rfl,h3 X hX⟩⟩
 | .any,d,F,v,_,hd,_=>by simp[Eg] at hd
 | .ptr _ _,d,F,v,_,hd,_=>by simp[Eg] at hd
 | .eptr _ _ _,d,F,v,_,hd,_=>by simp[Eg] at hd
 | .ch _,d,F,v,_,hd,_=>by simp[Eg] at hd
 | .it _,d,F,v,_,hd,_=>by simp[Eg] at hd
 | .osl _ _ _,d,F,v,_,hd,_=>by simp[Eg] at hd
 | .clo _ _ _,d,F,v,_,hd,_=>by simp[Eg] at hd
def Qtb(hW:Wf C S): ∀(xs:List AV) (ds:List D) (F:Ao) (vs:List Value),(∀n∈Aw xs,S.h n=h n)->RO h xs=some (ds,F)->AN S xs vs->FR S F/\ ∀X,XF F X->rdl (S.ice X).ok (S.ice X).hp ds vs
 |[],ds,F,vs,_,hd,z=>by
  simp only[RO,AM,Ea] at hd;obtain⟨rfl,rfl⟩:=hd;simp only[AN] at z;exact⟨(λn e he=>by cases he),λX _=>by simp only[rdl];exact z⟩
 |x::xs,ds,F,vs,Q,hd,z=>by
  simp only[Aw,Bz] at Q;simp only[RO] at hd;simp only[AN] at z;obtain⟨v,r,rfl,h1,h2⟩:=z;cases hx:Eg h x with
  |none=>rw[hx] at hd;simp[Ro] at hd
  |some q=>
   obtain⟨d,E⟩:=q;cases hl:RO h xs with
   |none=>rw[hx,hl] at hd;simp[Ro] at hd
   |some q2=>
    obtain⟨O,G⟩:=q2;rw[hx,hl] at hd;simp only[Ro,AM,Ea] at hd;obtain⟨rfl,rfl⟩:=hd;obtain⟨a1,a2⟩:=lC hW x d E v (λn hn=>Q n (.inl hn)) hx h1;obtain⟨b1,b2⟩:=Qtb hW xs O G r (λn hn=>Q n (.inr hn)) hl h2;refine⟨a1.app b1,λX hX=> ?_⟩;obtain⟨c1,Z⟩:=hX.app;simp only[rdl];exact⟨v,r,rfl,a2 X c1,b2 X Z⟩
end
def Qyv(hW:Wf C S){d:D}{v:Value}(hd:rd S.ok S.hp d v):Iq S (F1 d) v:=by
 cases d<;>try exact hd
 rename_i cs;simp only[rd] at hd;obtain⟨b,p,vs,T,z,G,O,Q,Z⟩:=hd;exact⟨b,p,vs,T,z,G,hW.oks b O,Q,Z⟩
def aP{ok:Nat->Prop}{hp:Nat->Option Obj}{k:Nat}{r:List D}: ∀(rows:List (List D)) (vs:List Value) (i:Nat),rdr ok hp k rows vs->rows[i]? =some r->r.length=k/\rdp ok hp r (vs.drop (i*k))
 |[],_,i,_,h=>by simp at h
 |q::rows,vs,i,h,z=>by
  simp only[rdr] at h;cases i with
  |zero=>
   simp only[HA,AM] at z;subst z;simpa using ⟨h.1,h.2.1⟩
  |succ i=>
   obtain⟨g1,g2⟩:=aP rows (vs.drop k) i h.2.2 (by simpa using z);rw[DS] at g2;refine⟨g1,?_⟩;rw[rO,jG (i*k) k];exact g2
def Tf(hW:Wf C S){x:AV}{p:PK}{F:Ao}{v:Value}(hh: ∀n∈x.nms,S.h n=h n)(hp:Im h x=some (p,F))(hc:Aa S x v):FR S F/\ ∀X,XF F X->Iq (S.ice X) p v:=by
 have aa:Z8 (Eg h x)=some (p,F)->FR S F/\ ∀X,XF F X->Iq (S.ice X) p v:=by
  intro hp;cases hx:Eg h x with
  |none=>rw[hx] at hp;cases hp
  |some q=>
   obtain⟨d,G⟩:=q;rw[hx] at hp;simp only[Z8,AM,Ea] at hp;obtain⟨rfl,rfl⟩:=hp;obtain⟨Z,h2⟩:=lC hW x d G v hh hx hc;exact⟨Z,h2⟩
 cases x<;>simp only[Im,reduceCtorEq] at hp
 case eptr o i off=>
  have Q:=hh o (by simp[AV.nms]);cases hn:h o with
  |none=>rw[hn] at hp;simp[Tg] at hp
  |some e=>
   obtain⟨mu,e⟩:=e;rw[hn] at hp Q;have z:=hW.obj o _ Q;simp only[Aa] at hc;obtain⟨l,hl,hv⟩:=hc.2 _ Q;have O:=(hW.loc o _ l Q hl).1;cases e<;>simp only[Tg,reduceCtorEq] at hp;rename_i T k rows;cases hr:rows[i]? with
   |none=>rw[hr] at hp;cases hp
   |some r=>
    rw[hr] at hp;simp only[zY,AM,Ea] at hp;obtain⟨rfl,rfl⟩:=hp;refine⟨(λn e he=>by cases he),λX _=> ?_⟩;rw[hl] at z;simp only[An] at z;obtain⟨_,_,vs,h5,_,h6⟩:=z;obtain⟨g1,g2⟩:=aP rows _ i h6 hr;simp only[Iq];refine⟨l.b,l.p+i*k+off,vs,_,_,hv,O,h5,?_⟩;have h7:=UW (Hc S X).ok _ _ g2;rw[DS] at h7;rcases zH off r.length with h8|h8
    .have:=P4 off r _ h7 h8
     rwa [DS] at this
    .rw[DB h8];simp only[rdp]
 case im d=>
  simp only[AM,Ea] at hp;obtain⟨rfl,rfl⟩:=hp;simp only[Aa] at hc;exact⟨(λn e he=>by cases he),λX _=>Qyv (UZ hW) (GI (Hc S X).ok _ _ hc)⟩
 case ptr o off=>
  have Q:=hh o (by simp[AV.nms]);cases hn:h o with
  |none=>rw[hn] at hp;simp[PU] at hp
  |some e=>
   obtain⟨mu,e⟩:=e;rw[hn] at hp Q;have z:=hW.obj o _ Q;simp only[Aa] at hc;obtain⟨l,hl,hv⟩:=hc.2 _ Q;have O:=(hW.loc o _ l Q hl).1;cases e<;>simp only[PU,reduceCtorEq] at hp
   case cells T cs=>
    cases ha:Ds (cs.drop off) with
    |none=>rw[ha] at hp;cases hp
    |some ds=>
     rw[ha] at hp;simp only[zX,AM,Ea] at hp;obtain⟨rfl,rfl⟩:=hp;refine⟨(λn e he=>by cases he),λX _=> ?_⟩;simp only[An] at z;obtain⟨lc,vs,Z,h2,h3,h4⟩:=z;rw[hl] at Z;obtain rfl:=AB Z;simp only[Iq];refine⟨l.b,l.p+off,vs,_,_,hv,O,h3,?_⟩;rw[h2,FC];have h5:AN S (cs.drop off) (vs.toList.drop off):=by
      have: ∀(n:Nat) (a:List AV) (b:List Value),AN S a b->AN S (a.drop n) (b.drop n):=by
       intro n;induction n with
       |zero=>intro a b h;simpa using h
       |succ n ih=>
        intro a b h;cases a with
        |nil=>simp only[AN] at h;subst h;simp[AN]
        |cons x a=>
         simp only[AN] at h;obtain⟨v,r,rfl,_,h⟩:=h;simpa using ih a r h
      exact this off cs _ h4
     exact xH ds _ (KU (Hc S X).ok _ _ (wN _ ds _ ha h5))
   case view cs=>
    simp only[AM,Ea] at hp;obtain⟨rfl,rfl⟩:=hp;refine⟨(λn e he=>by cases he),λX _=> ?_⟩;simp only[An] at z;obtain⟨lc,vs,T,fr,Z,h2,h3⟩:=z;rw[hl] at Z;obtain rfl:=AB Z;simp only[Iq];refine⟨l.b,l.p+off,vs,T,fr,hv,O,h2,?_⟩;rw[<-DS]
    have: ∀(n:Nat) (a:List D) (b:List Value),rdp S.ok S.hp a b->rdp S.ok S.hp (a.drop n) (b.drop n):=by
     intro n;induction n with
     |zero=>intro a b h;simpa using h
     |succ n ih=>
      intro a b h;cases a with
      |nil=>simp[rdp]
      |cons x a=>
       simp only[rdp] at h;obtain⟨v,r,rfl,_,h⟩:=h;simpa using ih a r h
    exact UW (Hc S X).ok _ _ (this off cs _ h3)
 all_goals exact aa hp
def lN(hW:Wf C S): ∀(xs:List AV) (ps:List PK) (F:Ao) (vs:List Value),(∀n∈Aw xs,S.h n=h n)->Io h xs=some (ps,F)->AN S xs vs->FR S F/\ ∀X,XF F X->EA (S.ice X) ps vs
 |[],ps,F,vs,_,hd,z=>by
  simp only[Io,AM,Ea] at hd;obtain⟨rfl,rfl⟩:=hd;simp only[AN] at z;exact⟨(λn e he=>by cases he),λX _=>by simp only[EA];exact z⟩
 |x::xs,ps,F,vs,O,hd,z=>by
  simp only[Aw,Bz] at O;simp only[Io] at hd;simp only[AN] at z;obtain⟨v,r,rfl,h1,h2⟩:=z;cases hx:Im h x with
  |none=>rw[hx] at hd;simp[Wt] at hd
  |some q=>
   obtain⟨p,E⟩:=q;cases hl:Io h xs with
   |none=>rw[hx,hl] at hd;simp[Wt] at hd
   |some q2=>
    obtain⟨Q,G⟩:=q2;rw[hx,hl] at hd;simp only[Wt,AM,Ea] at hd;obtain⟨rfl,rfl⟩:=hd;obtain⟨a1,a2⟩:=Tf hW (λn hn=>O n (.inl hn)) hx h1;obtain⟨b1,b2⟩:=lN hW xs Q G r (λn hn=>O n (.inr hn)) hl h2;refine⟨a1.app b1,λX hX=> ?_⟩;obtain⟨c1,Z⟩:=hX.app;simp only[EA];exact⟨v,r,rfl,a2 X c1,b2 X Z⟩
end
def Ot(u:List Nat)(F:Ao):(PP u F).use=u/\(PP u F).kill=F.map (·.1)/\(PP u F).new=F/\(PP u F).cnt=0:=by
 cases F<;>exact⟨rfl,rfl,rfl,rfl⟩
def EJ{B:Type}(rc:D->Option B)(b:B):AV->Prop
 | .im d=>rc d=some b
 | .any=>False
 | .agg _=>False
 | .tup _=>False
 | .ptr _ _=>False
 | .eptr _ _ _=>False
 | .own _=>False
 | .mp _=>False
 | .ch _=>False
 | .it _=>False
 | .osl _ _ _=>False
 | .clo _ _ _=>False
def Mw{B:Type}(rc:D->Option B)(b:B):Kg:=λr _ _=>EJ rc b r
def gN{P:Program}(HM:P.follows .mixedOrders=true){V:CT}(hV:Kf P V){g:FuncId}{fn:Func}{c:Code}(hf:P.funcs[g]? =some fn)(hb:fn.body=some c)(aa:DT fn.ntmps c=true)(Z:Gq P g=true)
 {A B:Type}{ar:List PK->Option A}{ae:A->List PK}(aj: ∀ps a,ar ps=some a->Cl ps (ae a)){n:Nat}(hn: ∀a,(ae a).length=n)(ak:n<=fn.ntmps){rc:D->Option B}{re:B->D}(am: ∀d b,rc d=some b->Le d (re b))
 {pre:A->Prop}{f:A->B}
 (hk: ∀a,pre a->CR P V c (OM P fn.results.toList (BH (ae a)) [] Ky (CJ 0 (ae a)) (Mw rc (f a))) ⟨entry 0 (CL 0 (ae a)),CJ 0 (ae a),BH (ae a)⟩):
 Hb P g (E4 ar pre λa=>re (f a)):=by
 intro args h nx K z;unfold E4 at z;cases hp:Io h args with
 |none=>rw[hp] at z;exact z.elim
 |some q=>
  obtain⟨ps,F⟩:=q;rw[hp] at z;simp only[V1] at z;cases ha:ar ps with
  |none=>rw[ha] at z;exact z.elim
  |some a=>
   rw[ha] at z;simp only[DE] at z;obtain⟨ac,hK⟩:=z;refine⟨YH Z,_,_,?_,hK⟩;obtain⟨e1,e2,e3,e4⟩:=Ot (Aw args) F;intro C S vs RR hW G ad af O ab;rw[e1,e2] at G;obtain⟨h1,h2⟩:=lN hW args ps F vs.toList (λn hn=>G n (Ki _ hn)) hp O
   let X:Nat->Bool:=λn=> !(F.map (·.1)).contains n
   have hX:XF F X:=by
    intro n hn;simp only[X,IC.2 hn,jE]
   have ah:Wf C (S.ice X):=UZ hW;have Q:(S.ice X).h=(PP (Aw args) F).appf S.h:=by
    have:=Sd (S:=S) (F:=F) (u:=Aw args) h1
    rw[show (PP (Aw args) F).appf S.h=({use:=Aw args,kill:=F.map (·.1),new:=F}:Bv).appf S.h by
     funext m;simp only[Bv.appf,e2,e3]]
    exact this
   refine UE HM hV hf hb aa (S:=S.ice X) (ps:=ae a) (r0:=re (f a)) (by rw[hn];exact ak) ?_ (hk a ac) ah ((aj ps a ha).c (h2 X hX)) ?_
   .intro r H n hr;unfold Mw at hr;cases r<;>simp only[EJ] at hr;exact⟨_,rfl,am _ _ hr⟩
   .intro v S' ag hh hp' an;refine ab v S' ag (by rw[hh,Q]) ?_ (by simp only[Aa];exact an);refine⟨λb hb=> ?_,λo _ e' ai=> ?_⟩
    .obtain⟨q1,q2⟩:=(Hc S X).ok b hb;obtain⟨q3,q4⟩:=hp'.ok b q1;exact⟨q3,q4.trans q2⟩
    .obtain⟨e,q1,q2,q3,q4⟩:=hp'.nm o trivial e' ai;obtain⟨e0,q5,q6,q7,q8⟩:=(Hc S X).nm o trivial e q1;exact⟨e0,q5,q2.trans q6,q3.trans q7,q4.trans q8⟩
def B0(σ:Nat->Nat)(k nx j:Nat):Nat:=if j<k then σ j else nx+(j - k)
def Aj(H0:Ao)(o:Nat):Bool:=(hget H0 o).isSome
def GU(H0:Ao)(k cnt:Nat)(exB:Nat->Bool)(o:Nat):Option Nat:=bif Aj H0 o||(exB o && (Nat.ble k o && Nat.blt o (k+cnt))) then some o else none
def R7(f:AV->Option AV)(e:Am):Option Am->Prop
 |some (G,z)=>G=e.1/\Cd f z=some e.2
 |none=>False
def E5(h:Nat->Option Am)(f:AV->Option AV):Ao->Prop
 |[]=>True
 |(j,e)::r=>R7 f e (h j)/\E5 h f r
def HT(h:Nat->Option Am)(klB:Nat->Bool):Ao->Prop
 |[]=>True
 |(j,e)::r=>(bif klB j then True else h j=some e)/\HT h klB r
def M7(R:AV->Prop):Option AV->Prop
 |some r=>R r
 |none=>False
def ZB(k cnt:Nat)(H0 H1:Ao)(klB exB:Nat->Bool)(R:AV->Prop)(s:Az)(x:AV):Prop:=
 HT (hget s.h) klB H0/\M7 R (Bd (hget s.h) (GU H0 k cnt exB) 9 x)/\E5 (hget s.h) (Bd (hget s.h) (GU H0 k cnt exB) 9) H1
def M6(k cnt:Nat)(H0 H1:Ao)(klB exB:Nat->Bool)(R:AV->Prop)(s:Az):Option (List AV)->Prop
 |some xs=>ZB k cnt H0 H1 klB exB R s (CX xs)
 |none=>False
def HS(P:Program)(z:List ResultVar)(k cnt:Nat)(H0 H1:Ao)(klB exB:Nat->Bool)(R:AV->Prop)(s:Az):Prop:=M6 k cnt H0 H1 klB exB R s (Aq (Ka P s) z)
def Nq(P:Program)(z:List ResultVar)(k cnt:Nat)(H0 H1:Ao)(klB exB:Nat->Bool)(R:AV->Prop):Ci
 | .normal,s=>HS P z k cnt H0 H1 klB exB R s
 | .ret,s=>HS P z k cnt H0 H1 klB exB R s
 | .exit _,_=>False
def tR(P:Program)(z:List ResultVar)(k cnt:Nat)(H0 H1:Ao)(klB exB:Nat->Bool)(R:AV->Prop)(s:Az):Prop:=
 ∃(F:List Nat) (π:List (Nat×Option Nat)) (s':Az),Ar k π (RN F s) s'/\s'.good=true/\k<=s'.nx/\HS P z k cnt H0 H1 klB exB R s'
def Br(P:Program)(z:List ResultVar)(k cnt:Nat)(H0 H1:Ao)(klB exB:Nat->Bool)(R:AV->Prop):Ci
 | .normal,s=>tR P z k cnt H0 H1 klB exB R s
 | .ret,s=>tR P z k cnt H0 H1 klB exB R s
 | .exit _,_=>False
def MB{h:Nat->Option Am}{klB:Nat->Bool}: ∀(H:Ao),HT h klB H-> ∀j e,(j,e)∈H->klB j=false->h j=some e
 |[],_,j,e,z,_=>by cases z
 |(i,x)::r,G,j,e,z,Q=>by
  simp only[HT] at G;rcases Bt.1 z with z|z
  .cases z;have O:=G.1;rw[Q] at O;exact O
  .exact MB r G.2 j e z Q
def Qve{h:Nat->Option Am}{f:AV->Option AV}: ∀(H:Ao),E5 h f H-> ∀j e,(j,e)∈H-> ∃G,h j=some G/\e.1=G.1/\Cd f G.2=some e.2
 |[],_,j,e,z=>by cases z
 |(i,x)::r,Q,j,e,z=>by
  simp only[E5] at Q;rcases Bt.1 z with z|z
  .cases z;have O:=Q.1;cases hq:h i with
   |none=>rw[hq] at O;exact O.elim
   |some y=>
    obtain⟨Z,G⟩:=y;rw[hq] at O;exact⟨(Z,G),rfl,O.1.symm,O.2⟩
  .exact Qve r Q.2 j e z
def Qv5{σ:Nat->Nat}{D:Nat->Prop}(hσ: ∀i j,D i->D j->σ i=σ j->i=j): ∀(H:Ao),(∀p∈H,D p.1)-> ∀(j:Nat),D j->hget (AX σ H) (σ j)=(hget H j).map λe=>(e.1,e.2.ren σ)
 |[],_,j,_=>rfl
 |(i,(Z,e))::r,hH,j,G=>by
  simp only[AX,hget];by_cases z:i=j
  .subst z;simp
  .have O:(i==j)=false:=by simpa using z
   have Q:(σ i==σ j)=false:=by rw[HE];exact λh=>z (hσ _ _ (hH _ (BQ ..)) G h)
   rw[O,Q];simpa using Qv5 hσ r (λp hp=>hH p (BK _ hp)) j G
def tH{P:Program}(HM:P.follows .mixedOrders=true){V:CT}(hV:Kf P V){g:FuncId}{fn:Func}{c:Code}(hf:P.funcs[g]? =some fn)(hb:fn.body=some c)(b9:DT fn.ntmps c=true)
 {args:List AV}{H0 H1:Ao}{k cnt:Nat}(c6:args.length<=fn.ntmps)(hbel:AD k args=true)(hbH:Av k H0=true)(hkH:BB k H0=true)
 (bu: ∀j e,hget H0 j=some e-> ∀m∈e.2.nms,Aj H0 m=true)
 {klB exB:Nat->Bool}{R:AV->Prop}{r0:AV}
 (hR: ∀r,R r->Dh r r0)
 (hH1: ∀p∈H1,(p.1<k/\klB p.1=true/\Aj H0 p.1=true)\/(k<=p.1/\p.1<k+cnt/\exB p.1=true/\p.2.1=true))
 {Q:Ci}(hQ: ∀(C:AZ) (N:Nat) (a:Act) (w:World) (s:Az),C.n0=k->BC C N s a w->Q .normal s\/Q .ret s-> ∃s',BC C N s' a w/\HS P fn.results.toList k cnt H0 H1 klB exB R s')
 (cn: ∀i s,¬Q (.exit i) s)
 (hk:CR P V c Q ⟨entry 0 args,H0,k⟩)
 {h:Nat->Option Am}{nx:Nat}{τ:Nat->Nat}(cc: ∀i j,Aj H0 i=true->Aj H0 j=true->τ i=τ j->i=j)(cy: ∀j,Aj H0 j=true->τ j<nx)
 (hH: ∀j e,hget H0 j=some e->h (B0 τ k nx j)=some (e.1,e.2.ren (B0 τ k nx)))
 {U KL:List Nat}(hU: ∀j,Aj H0 j=true->τ j∈U)(c5: ∀n∈KL,∃j,Aj H0 j=true/\klB j=true/\n=τ j)(b8: ∀j,Aj H0 j=true->klB j=true->τ j∈KL):
 PZ P g (AH (B0 τ k nx) args) h nx (r0.ren (B0 τ k nx)) {use:=U,kill:=KL,new:=AX (B0 τ k nx) H1,cnt:=cnt}:=by
 intro C S vs RR hW ci am bj a0 cb
 let σ:=B0 τ k nx
 let DD:Nat->Prop:=λj=>Aj H0 j=true\/k<=j
 have ai: ∀j e,hget H0 j=some e->Aj H0 j=true:=λj e he=>by unfold Aj;rw[he];rfl
 have aj: ∀j,Aj H0 j=true-> ∃e,hget H0 j=some e:=λj O=>by
  unfold Aj at O;cases hq:hget H0 j with
  |none=>rw[hq] at O;cases O
  |some e=>exact⟨e,rfl⟩
 have ao: ∀j,Aj H0 j=true->j<k:=λj O=>by
  obtain⟨e,he⟩:=aj j O;exact nV _ hkH j e he
 have hσlo: ∀j,j<k->σ j=τ j:=λj O=>Ai O
 have hσge: ∀j,k<=j->σ j=nx+(j - k):=λj O=>Af (by omega)
 have hσin: ∀j,Aj H0 j=true->σ j∈U:=λj O=>by rw[hσlo j (ao j O)];exact hU j O
 have hσlt: ∀j,Aj H0 j=true->σ j<nx:=λj O=>by rw[hσlo j (ao j O)];exact cy j O
 have hσinj: ∀i j,DD i->DD j->σ i=σ j->i=j:=by
  intro i j hi O h;rcases hi with hi|hi<;>rcases O with O|O
  .rw[hσlo i (ao i hi),hσlo j (ao j O)] at h;exact cc i j hi O h
  .have:=hσlt i hi
   rw[h,hσge j O] at this;omega
  .have:=hσlt j O
   rw[<-h,hσge i hi] at this;omega
  .rw[hσge i hi,hσge j O] at h;omega
 have hS: ∀j e,hget H0 j=some e->S.h (σ j)=some (e.1,e.2.ren σ):=by
  intro j e he;rw[ci (σ j) (Ki _ (hσin j (ai j e he)))];exact hH j e he
 refine calls_of_wp hf hb ?_;have cj:=I0 _ _ a0;have c8:vs.size=args.length:=by rw[Qsc] at cj;simpa using cj
 let S0:Ay:=⟨λj=>S.ρ (σ j),S.ok,hget H0,S.w⟩
 let M0:Nat->Prop:=λb=> ∃j e l,hget H0 j=some e/\e.1=true/\S.ρ (σ j)=some l/\l.b=b
 let C0:AZ:=⟨S.w,M0,S.ok,k,hget H0,λj=>S.ρ (σ j),[]⟩
 have bf: ∀n,NE S S0 σ (λn=>n) n:=by
  intro n;refine⟨λe' z=>⟨_,hS n e' z,rfl,?_,?_⟩⟩
  .exact (wT σ e'.2).symm
  .exact (xG σ e'.2).symm
 have bn: ∀b,S.ok b->S0.ok b/\S0.hp b=S.hp b:=λb hb=>⟨hb,rfl⟩
 have cq:Wf C0 S0:=by
  refine⟨rfl,rfl,rfl,AP _,AP _,λ_ _ _=>rfl,λ_ hb=>hb,λ_ hb=> .inl hb,hW.oks,?_,?_,?_,hW.glN (by rintro b ⟨j,e,l,G,Z,h3,rfl⟩;have h4:=(hW.loc _ _ l (hS j e G) h3).2;rw[show (e.1,e.2.ren σ).1=true from Z] at h4;simp only[B5] at h4;exact h4.1)⟩
  .intro j e he;have G:=hW.obj _ _ (hS j e he);have Z:=Qzw (τ:=λn=>n) bn (λ_ _=>rfl) e.2 (λn _=>bf n) G;rwa [Qwc] at Z
  .intro j e l he hl;obtain⟨G,Z⟩:=hW.loc _ _ l (hS j e he) hl;refine⟨G,?_⟩;cases hm:e.1 with
   |false=>
    rw[hm] at Z;have hv:(e.2.ren σ).isView=e.2.isView:=by cases e.2<;>rfl
    simpa[hv] using Z
   |true=>
    rw[hm] at Z;simp only[B5] at Z⊢;exact⟨Z.1,.inr ⟨j,e,l,he,hm,hl,rfl⟩⟩
  .intro i j e e' l l' he z hl bw af ak;exact hσinj _ _ (.inl (ai _ _ he)) (.inl (ai _ _ z)) (hW.inj _ _ _ _ l l' (hS i e he) (hS j e' z) hl bw af ak)
 have cr:BC C0 fn.ntmps ⟨entry 0 args,H0,k⟩ {tmps:=vs++Array.replicate (fn.ntmps - vs.size) undef,defers:=[]} S.w:=by
  have bg:AN S0 args vs.toList:=by
   have:=bW (τ:=λn=>n) bn args vs.toList (λn _=>bf n) a0
   rwa [YL] at this
  refine⟨S0,rfl,cq,λn=>rfl,?_,?_,λn e he=>⟨nV _ hkH n e he,cJ _ hbH n e he⟩,by simp;omega,rfl,AP _,λo _ e' z=>⟨e',z,rfl,rfl,rfl⟩⟩
  .intro t;have G:=gS (S:=S0) args vs.toList 0 t bg;simp only[Cz,B5,jO] at G
   have:({tmps:=vs++Array.replicate (fn.ntmps - vs.size) undef,defers:=[]}:Act).eval (.tmp t)=(vs.toList[t]?).getD undef:=by
    simp only[Act.eval,H5,rC,dP];by_cases ht:t<vs.size
    .simp[ht]
    .simp only[ht,CA]
     have:vs[t]? =none:=W7 (by omega)
     simp only[Kk,this]
     split<;>rfl
   rw[this];exact G
  .intro t m hm;exact YE args hbel m (gZ args 0 t m hm)
 refine wp_mono (Qo4 HM (qE hV) c b9 _ _ _ _ hk cr) ?_;have fin: ∀(s:Az) (a:Act) (w:World),HS P fn.results.toList k cnt H0 H1 klB exB R s->BC C0 fn.ntmps s a w->a.defers=[]/\ ∃v,(results fn a.tmps).run P w= .ok v w/\RR (.returned v) w:=by
  rintro s a w hr ⟨S1,rfl,hc⟩;unfold HS at hr;cases hxs:Aq (Ka P s) fn.results.toList with
  |none=>rw[hxs] at hr;exact hr.elim
  |some xs=>
   rw[hxs] at hr;simp only[M6] at hr;obtain⟨v,cg,br⟩:=nG hc hxs;refine⟨hc.defers,v,cg,?_⟩;obtain⟨cf,aw,az⟩:=hr;have co:hget s.h=S1.h:=(funext hc.h).symm;rw[co] at cf aw az
   let kx:=GU H0 k cnt exB
   let X:Nat->Bool:=λo=>(kx o).isSome
   have ab:Wf C0 (S1.ice X):=UZ hc.wf;have ba: ∀o,(S1.ice X).h o=(S1.h o).map λe=>(e.1 && X o,e.2):=λo=>rfl
   have bh: ∀o e l,kx o=none->(S1.ice X).h o=some e->e.2.isView=false->(S1.ice X).ρ o=some l->(S1.ice X).ok l.b:=by
    intro o e l ho he hv hl;exact iT hc.wf (by simp[X,ho]) he hv hl
   have bv: ∀(f:AV->Option D) (o:Nat),P7 f ((S1.ice X).h o)=P7 f (S1.h o)/\Ww ((S1.ice X).h o)=Ww (S1.h o)/\Wq f ((S1.ice X).h o)=Wq f (S1.h o):=by
    intro f o;rw[ba];cases S1.h o with
    |none=>exact⟨rfl,rfl,rfl⟩
    |some e=>obtain⟨mu,e⟩:=e;cases e<;>exact⟨rfl,rfl,rfl⟩
   have bl: ∀(n:Nat),Bd (S1.ice X).h kx n=Bd S1.h kx n:=by
    intro n;induction n with
    |zero=>funext x;simp[Bd]
    |succ n ih=>
     funext x;cases x with
     |own o=>simp only[Bd,ih,(bv _ o).1]
     |mp o=>simp only[Bd,(bv (λ_=>none) o).2.1]
     |ptr o p=>cases p<;>simp only[Bd,ih,(bv _ o).2.2]
     |_=>simp only[Bd,ih]
   rw[<-bl] at aw;have az:E5 S1.h (Bd (S1.ice X).h kx 9) H1:=by rw[bl];exact az
   cases hcv:Bd (S1.ice X).h kx 9 (CX xs) with
   |none=>rw[hcv] at aw;exact aw.elim
   |some r=>
    rw[hcv] at aw;simp only[M7] at aw;have cm:=hR _ aw;have bi: ∀o j,kx o=some j->j=o/\(Aj H0 o=true\/(k<=o/\o<k+cnt)):=by
     intro o j O;simp only[kx,GU] at O;cases hq:Aj H0 o<;>rw[hq] at O
     .cases hq2:(exB o && (Nat.ble k o && Nat.blt o (k+cnt)))<;>rw[hq2] at O
      .cases O
      .simp only[AW,Gi,Ed] at hq2;simp only[dR,BV,AM] at O;exact⟨O.symm,.inr hq2.2⟩
     .simp only[jF,BV,AM] at O;exact⟨O.symm,.inl rfl⟩
    have bc: ∀o,Aj H0 o=true->kx o=some o:=λo ho=>by simp only[kx,GU,ho,jF,BV]
    have ce: ∀o,exB o=true->k<=o->o<k+cnt->kx o=some o:=λo G Z h3=>by
     have:(exB o && (Nat.ble k o && Nat.blt o (k+cnt)))=true:=by simp[G,Z,h3]
     simp only[kx,GU,this,dR,BV]
    have ag: ∀j e',(j,e')∈H1->DD j/\j<k+cnt/\((j<k/\klB j=true/\Aj H0 j=true)\/(k<=j/\e'.1=true))/\kx j=some j/\ ∃e,S1.h j=some e/\e'.1=e.1/\Cd (Bd (S1.ice X).h kx 9) e.2=some e'.2:=by
     intro j e' hm;obtain⟨e0,g1,g2,g3⟩:=Qve H1 az j e' hm;rcases hH1 _ hm with ⟨G,Z,h3⟩|⟨G,Z,h3,h4⟩
     .exact⟨.inl h3,by simp only at G;omega,.inl ⟨G,Z,h3⟩,bc j h3,e0,g1,g2,g3⟩
     .exact⟨.inr G,Z,.inr ⟨G,h4⟩,ce j h3 G Z,e0,g1,g2,g3⟩
    let E:Bv:={use:=U,kill:=KL,new:=AX σ H1,cnt:=cnt}
    let S':Ay:=⟨λn=>if nx<=n/\n<nx+cnt then S1.ρ (n - nx+k) else S.ρ n,(S1.ice X).ok,E.appf S.h,S1.w⟩
    have hρ: ∀j,DD j->j<k+cnt->(∀e,S1.h j=some e->S'.ρ (σ j)=S1.ρ j):=by
     intro j hd O e he;simp only[S'];by_cases au:j<k
     .have cv:Aj H0 j=true:=hd.resolve_right (by omega);have G:=hσlt j cv;rw[Af (by omega)];obtain⟨_,_,h3,_⟩:=hc.pre j au e he;exact h3.symm
     .have G:=hσge j (by omega);rw[Ai (by rw[G];omega),G];congr 1;omega
    have ah: ∀n e',S'.h n=some e'->(∃j e,n=σ j/\(j,e)∈H1/\hget H1 j=some e/\e'=(e.1,e.2.ren σ))\/(S.h n=some e'/\ ∀j,Aj H0 j=true->klB j=true->n≠σ j):=by
     intro n e' z;have z:E.appf S.h n=some e':=z;simp only[Bv.appf,E] at z;cases hg:hget (AX σ H1) n with
     |some x=>
      rw[hg] at z;obtain rfl:=AB z;obtain⟨j,e,G,Z,h3⟩:=qO hg;subst Z;rw[Qv5 hσinj H1 (λp hp=>(ag p.1 p.2 hp).1) j (ag j e G).1] at hg;cases O:hget H1 j with
      |none=>rw[O] at hg;cases hg
      |some y=>
       rw[O] at hg;exact .inl ⟨j,y,rfl,cE O,O,by simpa using hg.symm⟩
     |none=>
      rw[hg] at z;cases hq:KL.contains n<;>rw[hq] at z
      .refine .inr ⟨z,?_⟩;rintro j O cd rfl
       have:=b8 j O cd
       rw[<-hσlo j (ao j O)] at this;rw[IC.2 this] at hq;cases hq
      .cases z
    have a8: ∀n e l,S.h n=some e->S.ρ n=some l->(∀j,Aj H0 j=true->n≠σ j)->l.b<S.w.heap.size/\ ¬M0 l.b:=by
     intro n e l he hl hn;refine⟨(hW.loc n e l he hl).1,?_⟩;rintro⟨j,e0,l0,G,h9,Z,h3⟩;exact hn j (ai j e0 G) (hW.inj _ _ _ _ l l0 he (hS j e0 G) hl Z h3.symm (by simp[h9]))
    have av: ∀b,b<S.w.heap.size-> ¬M0 b->S1.w.heap[b]? =S.w.heap[b]? :=λb hb hM=>hc.wf.keep b hb hM
    have bo: ∀b,S.ok b->S'.ok b/\S'.hp b=S.hp b:=by
     intro b hb;refine⟨ab.ok0 b hb,av b (hW.oks b hb) ?_⟩;rintro⟨j,e,l,G,Z,h3,h4⟩
     have:=(hW.loc _ _ l (hS j e G) h3).2
     rw[show (e.1,e.2.ren σ).1=true from Z] at this;simp only[B5] at this;exact this.1 (h4▸hb)
    have ay: ∀j e0,hget H0 j=some e0->klB j=false->S1.h j=some e0:=λj e0 G Z=>MB H0 cf j e0 (cE G) Z
    have bd: ∀j,Aj H0 j=true->(∀j',Aj H0 j'=true->klB j'=true->σ j≠σ j')->klB j=false:=by
     intro j O h;cases hq:klB j with
     |false=>rfl
     |true=>exact absurd rfl (h j O hq)
    have be: ∀o,¬Fr nx cnt o-> ∀e',S'.h o=some e'-> ∃e,S.h o=some e/\S'.ρ o=S.ρ o/\e'.2.esz=e.2.esz/\e'.2.len=e.2.len:=by
     intro o ho e' z;have hρo:S'.ρ o=S.ρ o:=by
      simp only[S'];rw[Af (by intro h;exact ho ⟨h.1,h.2⟩)]
     rcases ah o e' z with ⟨j,e,rfl,G,Z,rfl⟩|⟨G,_⟩
     .obtain⟨g0,g1,g2,g3,x,g4,g5,g6⟩:=ag j e G;have au:j<k:=by
       rcases g2 with g2|g2
       .exact g2.1
       .have:=hσge j g2.1
        exact absurd (show Fr nx cnt (σ j) from ⟨by omega,by omega⟩) ho
      obtain⟨e0,p1,p2,p3,p4⟩:=hc.pre j au x g4;have an:=(@Qti C0 (S1.ice X) (S1.ice X) ab kx (λj=>j) (λb hb=>⟨hb,rfl⟩) bh (by
       intro o j O e' z;obtain⟨q1,_⟩:=bi o j O;subst q1;exact⟨e',z,rfl,rfl,rfl⟩) 9 x.2 e.2 g6).1
      refine⟨_,hS j e0 p1,hρo,?_,?_⟩
      .simp only[wT];rw[<-p3,<-an.1]
      .simp only[xG];rw[<-p4,<-an.2]
     .exact⟨e',G,hρo,rfl,rfl⟩
    have ax: ∀o j,kx o=some j-> ∀e',S'.h (σ j)=some e'-> ∃e,(S1.ice X).h o=some e/\S'.ρ (σ j)=(S1.ice X).ρ o/\e'.2.esz=e.2.esz/\e'.2.len=e.2.len:=by
     intro o j O e' z;obtain⟨rfl,q2⟩:=bi o j O;have bt:DD j:=q2.imp id (λh=>h.1);have cw:j<k+cnt:=by
      rcases q2 with q2|q2
      .have:=ao j q2;omega
      .exact q2.2
     rcases ah (σ j) e' z with ⟨j',e,h0,G,Z,rfl⟩|⟨G,Z⟩
     .obtain⟨g0,g1,g2,g3,x,g4,g5,g6⟩:=ag j' e G;obtain rfl:=hσinj _ _ bt g0 h0;have an:=(@Qti C0 (S1.ice X) (S1.ice X) ab kx (λj=>j) (λb hb=>⟨hb,rfl⟩) bh (by
       intro o j O e' z;obtain⟨q1,_⟩:=bi o j O;subst q1;exact⟨e',z,rfl,rfl,rfl⟩) 9 x.2 e.2 g6).1
      have hr:=hρ j bt g1 x g4;refine⟨(x.1 && X j,x.2),by rw[ba,g4];rfl,hr,?_,?_⟩
      .simp only[wT];rw[<-an.1]
      .simp only[xG];rw[<-an.2]
     ·
      have aa:Aj H0 j=true:=by
       rcases q2 with h|h
       .exact h
       .have h5:=am (σ j) ⟨by rw[hσge j h.1];omega,by rw[hσge j h.1];show nx+(j - k)<nx+cnt;omega⟩;rw[h5] at G;cases G
      have bb:=bd j aa (λj' a b=>Z j' a b);obtain⟨e0,ad⟩:=aj j aa;have g4:=ay j e0 ad bb;have hr:=hρ j bt cw e0 g4
      have:=hS j e0 ad
      rw[G] at this;obtain rfl:=AB this;refine⟨(e0.1 && X j,e0.2),by rw[ba,g4];rfl,hr,?_,?_⟩
      .simp only[wT]
      .simp only[xG]
    have aq: ∀n e' l,S'.h n=some e'->S'.ρ n=some l->(∃j x,n=σ j/\S1.h j=some x/\e'.1=x.1/\S1.ρ j=some l/\(k<=j->x.1=true)/\DD j/\kx j=some j/\e'.2.isView=x.2.isView)\/(S.h n=some e'/\S.ρ n=some l/\ ∀j,Aj H0 j=true->n≠σ j):=by
     intro n e' l z hl;rcases ah n e' z with ⟨j,e,rfl,G,Z,rfl⟩|⟨G,Z⟩
     .obtain⟨g0,g1,g2,g3,x,g4,g5,g6⟩:=ag j e G;have hr:=hρ j g0 g1 x g4;refine .inl ⟨j,x,rfl,g4,g5,by rw[<-hr];exact hl,?_,g0,g3,?_⟩
      .intro cd;rcases g2 with g2|g2
       .omega
       .rw[<-g5];exact g2.2
      .have hv:(e.2.ren σ).isView=e.2.isView:=by cases e.2<;>rfl
       show (e.2.ren σ).isView=_;rw[hv];exact Of g6
     .by_cases hn: ∃j,Aj H0 j=true/\n=σ j
      .obtain⟨j,aa,rfl⟩:=hn;have bb:=bd j aa (λj' a b=>Z j' a b);obtain⟨e0,ad⟩:=aj j aa;have g4:=ay j e0 ad bb;have au:=ao j aa;have hr:=hρ j (.inl aa) (by omega) e0 g4
       have:=hS j e0 ad
       rw[G] at this;obtain rfl:=AB this;exact .inl ⟨j,e0,rfl,g4,rfl,by rw[<-hr];exact hl,λh=>by omega,.inl aa,bc j aa,by cases e0.2<;>rfl⟩
      .have bz: ∀j,Aj H0 j=true->n≠σ j:=λj O h=>hn ⟨j,O,h⟩
       refine .inr ⟨G,?_,bz⟩;have bx: ¬Fr nx cnt n:=by
        intro a9
        have:=am n a9
        rw[this] at G;cases G
       have hρo:S'.ρ n=S.ρ n:=by
        simp only[S'];rw[Af (by intro h;exact bx ⟨h.1,h.2⟩)]
       rw[<-hρo];exact hl
    have cp:Wf C S':=by
     refine⟨hc.wf.os.trans hW.os,hc.wf.tape.trans hW.tape,hc.wf.output.trans hW.output,CD hW.dr hc.wf.dr,CD hW.size hc.wf.size,?_,λb hb=>ab.ok0 b (hW.ok0 b hb),?_,ab.oks,?_,?_,?_,hW.gl⟩
     .intro b hb hM;have c2: ¬M0 b:=by
       rintro⟨j,e,l,G,Z,h3,h4⟩
       have:=(hW.loc _ _ l (hS j e G) h3).2
       rw[show (e.1,e.2.ren σ).1=true from Z] at this;simp only[B5] at this;rcases this.2 with h5|h5
       .omega
       .exact hM (h4▸h5)
      exact (av b (Fx hb hW.size) c2).trans (hW.keep b hb hM)
     .intro b hb;rcases ab.ok1 b hb with h|h|h
      .exact hW.ok1 b h
      .exact .inr (.inl (CD hW.size h))
      .obtain⟨j,e,l,G,Z,h3,h4⟩:=h
       have:=(hW.loc _ _ l (hS j e G) h3).2
       rw[show (e.1,e.2.ren σ).1=true from Z] at this;simp only[B5] at this;rw[<-h4];exact .inr this.2
     .intro n e' z;rcases ah n e' z with ⟨j,e,rfl,G,Z,rfl⟩|⟨G,Z⟩
      .obtain⟨g0,g1,g2,g3,x,g4,g5,g6⟩:=ag j e G;have an:=ab.obj j (x.1 && X j,x.2) (by rw[ba,g4];rfl);have hr:=hρ j g0 g1 x g4;have h5:=(Qti (S':=S') (τ:=σ) ab (λb hb=>⟨hb,rfl⟩) bh ax g6).2 _ (λ_ _=>rfl) an;rw[hr];exact h5
      .by_cases hn: ∃j,Aj H0 j=true/\n=σ j
       .obtain⟨j,aa,rfl⟩:=hn;have bb:=bd j aa (λj' a b=>Z j' a b);obtain⟨e0,ad⟩:=aj j aa;have g4:=ay j e0 ad bb;have au:=ao j aa;have hr:=hρ j (.inl aa) (by omega) e0 g4
        have:=hS j e0 ad
        rw[G] at this;obtain rfl:=AB this;rw[hr];have an:=hc.wf.obj j e0 g4;have h7:=Qzw (S:=S1) (S':=S') (σ:=λn=>n) (τ:=σ) (l:=S1.ρ j) (λb hb=>⟨.inl hb,rfl⟩) (λ_ _=>rfl) e0.2 ?_ (by rw[Qwc];exact an)
        .exact h7
        .intro m hm;refine⟨λe' z=> ?_⟩;have c7:m<k:=cJ _ hbH j e0 ad m hm;cases hkm:kx m with
         |some m'=>
          obtain⟨rfl,_⟩:=bi m m' hkm;obtain⟨x,q1,q2,q3,q4⟩:=ax m' m' hkm e' z;obtain⟨y,q5,q6⟩:=US q1;exact⟨y,q5,q2,by rw[q3,q6],by rw[q4,q6]⟩
         |none=>
          exfalso;have cz:Aj H0 m≠true:=λh=>by rw[bc m h] at hkm;cases hkm
          exact cz (bu j e0 ad m hm)
       .have bz: ∀j,Aj H0 j=true->n≠σ j:=λj O h=>hn ⟨j,O,h⟩
        have bx: ¬Fr nx cnt n:=by
         intro a9
         have:=am n a9
         rw[this] at G;cases G
        have hρo:S'.ρ n=S.ρ n:=by
         simp only[S'];rw[Af (by intro h;exact bx ⟨h.1,h.2⟩)]
        rw[hρo];refine Hd (X:=λm=> ¬Fr nx cnt m) ⟨bo,λo ho e' z=>be o ho e' z⟩ ?_ e'.2 (λm hm=>bj n e' G m hm) (hW.obj n e' G);intro lc cx;obtain⟨p1,p2⟩:=a8 n e' lc G cx bz;exact av lc.b p1 p2
     .intro n e' l z hl;rcases aq n e' l z hl with ⟨j,x,rfl,g4,g5,g6,g7,g8,ck,g9⟩|⟨G,Z,h3⟩
      .have cu:X j=true:=by simp only[X,ck];rfl
       have ac:=ab.loc j (x.1 && X j,x.2) l (by rw[ba,g4];rfl) g6;rw[cu,Ep] at ac;refine⟨ac.1,?_⟩;rw[g5];cases hm:x.1 with
       |false=>
        have h9:=ac.2;simp only[hm] at h9;simp only[CQ,CA] at h9⊢;rcases h9 with h9|h9
        .exact .inl h9
        .refine .inr ?_;rw[g9];exact h9
       |true=>
        have h9:=ac.2;simp only[hm,B5] at h9⊢;refine⟨h9.1,?_⟩;rcases h9.2 with bp|bp
        .exact .inl (CD hW.size bp)
        .obtain⟨j',e0,l0,p1,p2,p3,p4⟩:=bp
         have:=(hW.loc _ _ l0 (hS j' e0 p1) p3).2
         rw[show (e0.1,e0.2.ren σ).1=true from p2] at this;simp only[B5] at this;rw[<-p4];exact this.2
      .obtain⟨p1,p2⟩:=hW.loc n e' l G Z;obtain⟨p3,p4⟩:=a8 n e' l G Z h3;refine⟨Fx p1 hc.wf.size,?_⟩;cases hm:e'.1 with
       |false=>
        rw[hm] at p2;simp only[CQ,CA] at p2⊢;exact p2.imp (λh=>ab.ok0 _ h) id
       |true=>
        rw[hm] at p2;simp only[B5] at p2⊢;refine⟨λc3=> ?_,p2.2⟩;rcases ab.ok1 _ c3 with h|h|h
        .exact p2.1 h
        .have h:S.w.heap.size<=l.b:=h;omega
        .exact p4 h
     ·
      have bm: ∀j x l n' e2 l',S1.h j=some x->S1.ρ j=some l->(k<=j->x.1=true)->DD j->S.h n'=some e2->S.ρ n'=some l'->(∀i,Aj H0 i=true->n'≠σ i)->l.b=l'.b->(x.1||e2.1)=true->False:=by
       intro j x l n' e2 l' g1 g2 g3 g4 p1 p2 p3 af ak;obtain⟨q1,q2⟩:=a8 n' e2 l' p1 p2 p3;by_cases au:j<k
       .have aa:Aj H0 j=true:=g4.resolve_right (by omega);obtain⟨e0,r1,r2,_,_⟩:=hc.pre j au x g1;have hρj:S.ρ (σ j)=some l:=by rw[<-r2|>λh=>show S1.ρ j=S.ρ (σ j) from h];exact g2
        have c4:(e0.1||e2.1)=true:=by
         cases he2:e2.1 with
         |true=>simp
         |false=>
          rw[he2,PI] at ak;have ac:=(hc.wf.loc j x l g1 g2).2;rw[ak] at ac;simp only[B5] at ac;rcases ac.2 with h|h
          .have h:S.w.heap.size<=l.b:=h;omega
          .exact absurd (af▸h) q2
        exact p3 j aa (hW.inj _ _ _ _ l' l p1 (hS j e0 r1) p2 hρj af.symm (by rw[Bool.or_comm];exact c4))
       .have ac:=(hc.wf.loc j x l g1 g2).2;rw[g3 (by omega)] at ac;simp only[B5] at ac;rcases ac.2 with h|h
        .have h:S.w.heap.size<=l.b:=h;omega
        .exact q2 (af▸h)
      intro n n' e1 e2 l l' he z hl bw af ak;rcases aq n e1 l he hl with ⟨j,x,rfl,g1,g2,g3,g4,g5,_⟩|⟨g1,g2,g3⟩<;>rcases aq n' e2 l' z bw with ⟨j',x',rfl,p1,p2,p3,p4,p5,_⟩|⟨p1,p2,p3⟩
      .have cs:=hc.wf.inj j j' x x' l l' g1 p1 g3 p3 af (by rw[<-g2,<-p2];exact ak);rw[cs]
      .exact (bm j x l n' e2 l' g1 g3 g4 g5 p1 p2 p3 af (by rw[<-g2];exact ak)).elim
      .exact (bm j' x' l' n e1 l p1 p3 p4 p5 g1 g2 g3 af.symm (by rw[<-p2,Bool.or_comm];exact ak)).elim
      .exact hW.inj _ _ _ _ l l' g1 p1 g2 p2 af ak
    have ct:Aa S' (r.ren σ) v:=Qrr (S':=S') (τ:=σ) ab (λb hb=>⟨hb,rfl⟩) bh ax 9 (CX xs) r v hcv (I1 (Hc S1 X) _ _ (λ_ _=>trivial) br);exact cb v S' cp rfl ⟨bo,λo ho e' z=>be o ho e' z⟩ (cm σ S' v ct)
 intro e a w he;cases e<;>simp only[Gx] at he<;>simp only[bodyPost]
 .obtain⟨s,hs,hc⟩:=he;obtain⟨s',bq,b0⟩:=hQ C0 _ a w s rfl hc (.inl hs);exact fin s' a w b0 bq
 .obtain⟨s,hs,_⟩:=he;exact (cn _ _ hs).elim
 .obtain⟨s,hs,hc⟩:=he;obtain⟨s',bq,b0⟩:=hQ C0 _ a w s rfl hc (.inr hs);exact fin s' a w b0 bq
def T7{P:Program}{z:List ResultVar}{k cnt:Nat}{H0 H1:Ao}{klB exB:Nat->Bool}{R:AV->Prop}: ∀(C:AZ) (N:Nat) (a:Act) (w:World) (s:Az),C.n0=k->BC C N s a w->
 Nq P z k cnt H0 H1 klB exB R .normal s\/Nq P z k cnt H0 H1 klB exB R .ret s-> ∃s',BC C N s' a w/\HS P z k cnt H0 H1 klB exB R s':=by
 rintro C N a w s _ G (h|h)<;>exact⟨s,G,h⟩
def T8{P:Program}{z:List ResultVar}{k cnt:Nat}{H0 H1:Ao}{klB exB:Nat->Bool}{R:AV->Prop}: ∀(C:AZ) (N:Nat) (a:Act) (w:World) (s:Az),C.n0=k->BC C N s a w->
 Br P z k cnt H0 H1 klB exB R .normal s\/Br P z k cnt H0 H1 klB exB R .ret s-> ∃s',BC C N s' a w/\HS P z k cnt H0 H1 klB exB R s':=by
 rintro C N a w s hk Z (h|h)<;>obtain⟨F,π,s',G,O,h3,Q⟩:=h<;>exact⟨s',Qv (pM F Z) G O (by omega) (by omega),Q⟩
def D5(h:Nat->Option Am)(σ:Nat->Nat):Ao->Prop
 |[]=>True
 |(j,(z,e))::r=>h (σ j)=some (z,e.ren σ)/\D5 h σ r
def Qpk{h:Nat->Option Am}{σ:Nat->Nat}: ∀{H:Ao},D5 h σ H-> ∀j e,(j,e)∈H->h (σ j)=some (e.1,e.2.ren σ)
 |[],_,j,e,z=>by cases z
 |(i,(Q,x))::r,hH,j,e,z=>by
  obtain⟨G,O⟩:=hH;rcases Bt.1 z with z|z
  .cases z;exact G
  .exact Qpk O j e z
structure kK(H0:Ao)(klB:Nat->Bool)(τ:Nat->Nat)(nx:Nat)(U KL:List Nat):Prop where
 inj: ∀i j,Aj H0 i=true->Aj H0 j=true->τ i=τ j->i=j
 lt: ∀j,Aj H0 j=true->τ j<nx
 u: ∀j,Aj H0 j=true->τ j∈U
 k1: ∀n∈KL,∃j,Aj H0 j=true/\klB j=true/\n=τ j
 k2: ∀j,Aj H0 j=true->klB j=true->τ j∈KL
def AL{A:Type}(ca:A->List AV)(H0:A->Ao)(k:Nat)(pre:A->Prop)(klB:Nat->Bool)(r0:A->AV)(H1:A->Ao)(cnt:Nat):AE:=λargs h nx K=>
 ∃(a:A) (τ:Nat->Nat) (U KL:List Nat),pre a/\args=AH (B0 τ k nx) (ca a)/\D5 h (B0 τ k nx) (H0 a)/\kK (H0 a) klB τ nx U KL/\
  K ((r0 a).ren (B0 τ k nx)) {use:=U,kill:=KL,new:=AX (B0 τ k nx) (H1 a),cnt:=cnt}
def BU(H0:Ao):Ao->Prop
 |[]=>True
 |(_,(_,e))::r=>(∀m∈e.nms,Aj H0 m=true)/\BU H0 r
def Qo2{H0:Ao}: ∀{H:Ao},BU H0 H-> ∀j e,(j,e)∈H-> ∀m∈e.2.nms,Aj H0 m=true
 |[],_,j,e,z=>by cases z
 |(i,(Q,x))::r,hH,j,e,z=>by
  obtain⟨G,O⟩:=hH;rcases Bt.1 z with z|z
  .cases z;exact G
  .exact Qo2 O j e z
def IY(os:List Nat)(j:Nat):Nat:=os.getD j 0
def cF:List Nat->Bool
 |[]=>true
 |x::r=> !r.contains x && cF r
def Qjj: ∀(os:List Nat),cF os=true->os.Nodup
 |[],_=>List.nodup_nil
 |x::r,h=>by
  simp only[cF,AW,PL] at h;refine Zj.2 ⟨λz=> ?_,Qjj r h.2⟩;rw[IC.2 z] at h;cases h.1
def Zd(nx:Nat):List Nat->Bool
 |[]=>true
 |x::r=>Nat.blt x nx && Zd nx r
def Qvm{nx:Nat}: ∀(os:List Nat),Zd nx os=true-> ∀o∈os,o<nx
 |[],_,o,h=>by cases h
 |x::r,h,o,z=>by
  simp only[Zd,AW,Ed] at h;rcases Bt.1 z with rfl|z
  .exact h.1
  .exact Qvm r h.2 o z
def Vt(klB:Nat->Bool):List Nat->Nat->List Nat
 |[],_=>[]
 |x::r,j=>bif klB j then x::Vt klB r (j+1) else Vt klB r (j+1)
def Qx4{klB:Nat->Bool}: ∀(os:List Nat) (j n:Nat),n∈Vt klB os j↔ ∃i,i<os.length/\klB (j+i)=true/\os[i]? =some n
 |[],j,n=>by simp[Vt]
 |x::r,j,n=>by
  have ih:=Qx4 (klB:=klB) r (j+1) n;simp only[Vt];cases hq:klB j
  .simp only[Bs];rw[ih];constructor
   .rintro⟨i,O,z,G⟩;exact⟨i+1,by simp;omega,by rw[show j+(i+1)=j+1+i by omega];exact z,by simpa using G⟩
   .rintro⟨i,O,z,G⟩;cases i with
    |zero=>rw[FO,hq] at z;cases z
    |succ i=>exact⟨i,by simp at O;omega,by rw[show j+1+i=j+(i+1) by omega];exact z,by simpa using G⟩
  .simp only[BV,Bt];rw[ih];constructor
   .rintro (rfl|⟨i,O,z,G⟩)
    .exact⟨0,by simp,hq,by simp⟩
    .exact⟨i+1,by simp;omega,by rw[show j+(i+1)=j+1+i by omega];exact z,by simpa using G⟩
   .rintro⟨i,O,z,G⟩;cases i with
    |zero=>left;simpa using G.symm
    |succ i=>right;exact⟨i,by simp at O;omega,by rw[show j+1+i=j+(i+1) by omega];exact z,by simpa using G⟩
def X6{H0:Ao}{klB:Nat->Bool}{os:List Nat}{nx:Nat}(hd:cF os=true)(hl:Zd nx os=true)(hH: ∀j,Aj H0 j=true↔j<os.length):kK H0 klB (IY os) nx os (Vt klB os 0):=by
 have Z:=Qjj os hd;have O: ∀j,j<os.length->os[j]? =some (IY os j):=by
  intro j z;simp[IY,z]
 have hm: ∀j,j<os.length->IY os j∈os:=λj z=>Bf (O j z)
 refine⟨λi j hi z h=> ?_,λj z=>Qvm os hl _ (hm j ((hH j).1 z)),λj z=>hm j ((hH j).1 z),λn hn=> ?_,λj z hk=> ?_⟩
 .have G:=O i ((hH i).1 hi);have Q:=O j ((hH j).1 z);rw[h] at G;exact (List.getElem?_inj ((hH i).1 hi) Z).1 (G.trans Q.symm)
 .obtain⟨i,G,Q,h3⟩:=(Qx4 os 0 n).1 hn;refine⟨i,(hH i).2 G,by simpa using Q,?_⟩;rw[O i G] at h3;exact (AB h3).symm
 .exact (Qx4 os 0 _).2 ⟨j,(hH j).1 z,by simpa using hk,O j ((hH j).1 z)⟩
def AL.os{A:Type}{ca:A->List AV}{H0:A->Ao}{k:Nat}{pre:A->Prop}{klB:Nat->Bool}{r0:A->AV}{H1:A->Ao}{cnt:Nat}{args:List AV}{h:Nat->Option Am}{nx:Nat}{K:Ah}(a:A)(os:List Nat)(z:pre a)
 (hH: ∀j,Aj (H0 a) j=true↔j<os.length)(hd:cF os=true)(Q:Zd nx os=true)
 (G:args=AH (B0 (IY os) k nx) (ca a)/\D5 h (B0 (IY os) k nx) (H0 a))
 (O:K ((r0 a).ren (B0 (IY os) k nx)) {use:=os,kill:=Vt klB os 0,new:=AX (B0 (IY os) k nx) (H1 a),cnt:=cnt}):AL ca H0 k pre klB r0 H1 cnt args h nx K:=
 ⟨a,IY os,os,Vt klB os 0,z,G.1,G.2,X6 hd Q hH,O⟩
def orR(z r2:AE):AE:=λargs h nx K=>z args h nx K\/r2 args h nx K
def SX{P:Program}{g:Nat}{G r2:AE}(O:Hb P g G)(Q:Hb P g r2):Hb P g (orR G r2):=by
 rintro args h nx K (z|z)
 .exact O args h nx K z
 .exact Q args h nx K z
def BJ:List D->Bool
 |[]=>true
 |x::r=>x.sc && BJ r
def jX(K:D->Prop):Option Am->Prop
 |some (true,.arr _ k rows)=>Bl BJ rows/\K (.sl false k rows)
 |_=>False
def jW(h:Nat->Option Am)(K:D->Prop):AV->Prop
 | .im d=>d.scs=true/\K d
 | .own o=>jX K (h o)
 |_=>False
def IL(h:Nat->Option Am):List AV->(List D->Prop)->Prop
 |[],K=>K []
 |x::r,K=>jW h (λd=>IL h r λds=>K (d::ds)) x
def RH(h:Nat->Option Am)(K:D->Prop):AV->Prop
 | .im d=>d.scs=true/\K d
 | .own o=>jX K (h o)
 | .agg z=>IL h z λds=>K (.agg ds)
 |_=>False
def K1(h:Nat->Option Am):List AV->(List D->Prop)->Prop
 |[],K=>K []
 |x::r,K=>RH h (λd=>K1 h r λds=>K (d::ds)) x
def PQ(h:Nat->Option Am)(K:D->Prop):AV->Prop
 | .im d=>d.scs=true/\K d
 | .own o=>jX K (h o)
 | .agg z=>IL h z λds=>K (.agg ds)
 | .tup z=>K1 h z λds=>K (.tup ds)
 |_=>False
def M8(R:D->Prop)(s:Az):Option (List AV)->Prop
 |some xs=>PQ (hget s.h) R (CX xs)
 |none=>False
def KG(P:Program)(z:List ResultVar)(R:D->Prop)(s:Az):Prop:=M8 R s (Aq (Ka P s) z)
def Zc(P:Program)(z:List ResultVar)(R:D->Prop):Ci
 | .normal,s=>KG P z R s
 | .ret,s=>KG P z R s
 | .exit _,_=>False
def MC: ∀(r:List D),BJ r=true->r.all D.sc=true
 |[],_=>rfl
 |x::r,h=>by
  simp only[BJ,AW] at h;simp[h.1,MC r h.2]
def KF{ok ok':Nat->Prop}{hp hp':Nat->Option Obj}: ∀(ds:List D) (vs:List Value),ds.all D.sc=true->rdp ok hp ds vs->rdp ok' hp' ds vs
 |[],_,_,_=>by simp only[rdp]
 |d::ds,vs,h,hd=>by
  simp only[rdp,ET,AW] at hd h⊢;obtain⟨v,r,rfl,z,G⟩:=hd;exact⟨v,r,rfl,Dv h.1 z,KF ds r h.2 G⟩
def Ty{ok ok':Nat->Prop}{hp hp':Nat->Option Obj}{k:Nat}: ∀(z:List (List D)) (vs:List Value),Bl BJ z->rdr ok hp k z vs->rdr ok' hp' k z vs
 |[],_,_,_=>by simp only[rdr]
 |r::z,vs,h,hd=>by
  simp only[rdr] at hd⊢;exact⟨hd.1,KF r vs (MC r (h r (BQ ..))) hd.2.1,Ty z _ (λx G=>h x (BK _ G)) hd.2.2⟩
section
variable {C:AZ}{S:Ay}
def SS(C:AZ)(S:Ay)(b:Nat):Prop:=C.w.heap.size<=b/\b<S.w.heap.size/\ ¬S.ok b
def Qzs(hM: ∀b,¬C.M b)(hW:Wf C S){K:D->Prop}{o:Nat}{v:Value}(O:jX K (S.h o))(G:Aa S (.own o) v): ∃d,K d/\rd (SS C S) S.hp d v:=by
 cases he:S.h o with
 |none=>rw[he] at O;exact O.elim
 |some e=>
  obtain⟨mu,e⟩:=e;rw[he] at O;cases mu with
  |false=>cases e<;>exact O.elim
  |true=>
  cases e with
  |arr T k rows=>
   simp only[jX] at O;refine⟨_,O.2,?_⟩;have z:=hW.obj o _ he;simp only[Aa] at G;obtain⟨_,G⟩:=G;have G:=G _ he;simp only[An] at z;cases hl:S.ρ o with
   |none=>
    rw[hl] at G z;simp only[rd];exact .inl ⟨.inl G,z.2⟩
   |some l=>
    rw[hl] at G z;obtain⟨h0,Z,vs,h2,h3,h4⟩:=z;obtain⟨q1,Q⟩:=hW.loc o _ l he hl;simp only[B5] at Q;simp only[rd];refine .inr ⟨l.b,l.p,l.cap,vs,T,(0,0),G,by simp,Z,h0,⟨?_,q1,Q.1⟩,h2,Ty rows _ O.1 h4⟩;rcases Q.2 with h|h
    .exact h
    .exact absurd h (hM _)
  |_=>exact O.elim
def RG(O: ∀b,¬C.M b)(hW:Wf C S){K:D->Prop}{x:AV}{v:Value}(z:jW S.h K x)(G:Aa S x v): ∃d,K d/\rd (SS C S) S.hp d v:=by
 cases x with
 |im d=>
  simp only[jW] at z;simp only[Aa] at G;exact⟨d,z.2,VK z.1 G⟩
 |own o=>
  simp only[jW] at z;exact Qzs O hW z G
 |_=>exact z.elim
def Qvx(O: ∀b,¬C.M b)(hW:Wf C S): ∀(xs:List AV) (K:List D->Prop) (vs:List Value),IL S.h xs K->AN S xs vs-> ∃ds,K ds/\rdl (SS C S) S.hp ds vs
 |[],K,vs,G,z=>by
  simp only[IL] at G;simp only[AN] at z;exact⟨[],G,by simp only[rdl];exact z⟩
 |x::xs,K,vs,G,z=>by
  simp only[IL] at G;simp only[AN] at z;obtain⟨v,r,rfl,Q,Z⟩:=z;obtain⟨d,h3,h4⟩:=RG O hW G Q;obtain⟨ds,h5,h6⟩:=Qvx O hW xs _ r h3 Z;exact⟨d::ds,h5,by simp only[rdl];exact⟨v,r,rfl,h4,h6⟩⟩
def vR(O: ∀b,¬C.M b)(hW:Wf C S){K:D->Prop}{x:AV}{v:Value}(z:RH S.h K x)(G:Aa S x v): ∃d,K d/\rd (SS C S) S.hp d v:=by
 cases x with
 |im d=>
  simp only[RH] at z;simp only[Aa] at G;exact⟨d,z.2,VK z.1 G⟩
 |own o=>
  simp only[RH] at z;exact Qzs O hW z G
 |agg Q=>
  simp only[RH] at z;simp only[Aa] at G;obtain⟨vs,rfl,Z⟩:=G;obtain⟨ds,h2,h3⟩:=Qvx O hW Q _ _ z Z;exact⟨_,h2,by simp only[rd];exact⟨vs,rfl,h3⟩⟩
 |_=>exact z.elim
def Qvn(O: ∀b,¬C.M b)(hW:Wf C S): ∀(xs:List AV) (K:List D->Prop) (vs:List Value),K1 S.h xs K->AN S xs vs-> ∃ds,K ds/\rdl (SS C S) S.hp ds vs
 |[],K,vs,G,z=>by
  simp only[K1] at G;simp only[AN] at z;exact⟨[],G,by simp only[rdl];exact z⟩
 |x::xs,K,vs,G,z=>by
  simp only[K1] at G;simp only[AN] at z;obtain⟨v,r,rfl,Q,Z⟩:=z;obtain⟨d,h3,h4⟩:=vR O hW G Q;obtain⟨ds,h5,h6⟩:=Qvn O hW xs _ r h3 Z;exact⟨d::ds,h5,by simp only[rdl];exact⟨v,r,rfl,h4,h6⟩⟩
def Qzf(O: ∀b,¬C.M b)(hW:Wf C S){K:D->Prop}{x:AV}{v:Value}(z:PQ S.h K x)(G:Aa S x v): ∃d,K d/\rd (SS C S) S.hp d v:=by
 cases x with
 |tup Q=>
  simp only[PQ] at z;simp only[Aa] at G;obtain⟨vs,rfl,Z⟩:=G;obtain⟨ds,h2,h3⟩:=Qvn O hW Q _ _ z Z;exact⟨_,h2,by simp only[rd];exact⟨vs,rfl,h3⟩⟩
 |im d=>exact vR (x:= .im d) O hW (by simpa only[PQ,RH] using z) G
 |own o=>exact vR (x:= .own o) O hW (by simpa only[PQ,RH] using z) G
 |agg Q=>exact vR (x:= .agg Q) O hW (by simpa only[PQ,RH] using z) G
 |_=>exact z.elim
end
def ND(f:AV->Option D):Option Am->Option D
 |some (_,.arr _ k rows)=>some (.sl false k rows)
 |some (_,.arrA _ k rows)=>(Aq (Aq f) rows).map (.sl false k)
 |_=>none
def Lp:Option Am->Option D
 |some (_,.map G z)=>some (.mp G z)
 |_=>none
def YX(f:AV->Option D)(off:Nat):Option Am->Option (List D)
 |some (_,.cells _ z)=>Aq f (z.drop off)
 |some (_,.view z)=>some (z.drop off)
 |_=>none
def NW(g:FuncId):Option (List D)->Option (List D)->Option D
 |some a,some c=>some (.fn g a c)
 |some _,none=>none
 |none,_=>none
def bk(h:Nat->Option Am):Nat->AV->Option D
 |0,_=>none
 |_+1,.im d=>some d
 |n+1,.agg z=>(Aq (bk h n) z).map .agg
 |n+1,.tup z=>(Aq (bk h n) z).map .tup
 |n+1,.own o=>ND (bk h n) (h o)
 |_+1,.mp o=>Lp (h o)
 |n+1,.ptr o off=>(YX (bk h n) off (h o)).map .ref
 |n+1,.clo f a c=>NW f (Aq (bk h n) a) (Aq (bk h n) c)
 |_+1,.any=>none
 |_+1,.eptr _ _ _=>none
 |_+1,.ch _=>none
 |_+1,.it _=>none
 |_+1,.osl _ _ _=>none
def Jb(ds:Option (List D)):Option PK:=ds.map .ptr
def DU(d:Option D):Option PK:=d.map .val
def Lq(off:Nat):Option (List D)->Option (List D)
 |some r=>some (r.drop off)
 |none=>none
def WD(i off:Nat):Option Am->Option (List D)
 |some (_,.arr _ _ rows)=>Lq off rows[i]?
 |_=>none
def DN(h:Nat->Option Am):AV->Option PK
 | .im d=>some (F1 d)
 | .ptr o off=>Jb (YX (bk h 8) off (h o))
 | .own o=>DU (bk h 9 (.own o))
 | .mp o=>DU (bk h 9 (.mp o))
 | .agg z=>DU (bk h 9 (.agg z))
 | .tup z=>DU (bk h 9 (.tup z))
 | .clo f a c=>DU (bk h 9 (.clo f a c))
 | .any=>none
 | .eptr o i off=>Jb (WD i off (h o))
 | .ch _=>none
 | .it _=>none
 | .osl _ _ _=>none
def FT:Option PK->Option (List PK)->Option (List PK)
 |some p,some z=>some (p::z)
 |some _,none=>none
 |none,_=>none
def BR(h:Nat->Option Am):List AV->Option (List PK)
 |[]=>some []
 |x::r=>FT (DN h x) (BR h r)
def HR(f:AV->List Nat):Option Am->List Nat
 |some (_,.cells _ z)=>z.flatMap f
 |some (_,.arrA _ _ rows)=>rows.flatMap λr=>r.flatMap f
 |_=>[]
def Ab(h:Nat->Option Am):Nat->AV->List Nat
 |0,_=>[]
 |n+1,.agg z=>z.flatMap (Ab h n)
 |n+1,.tup z=>z.flatMap (Ab h n)
 |n+1,.own o=>o::HR (Ab h n) (h o)
 |_+1,.mp o=>[o]
 |n+1,.ptr o _=>o::HR (Ab h n) (h o)
 |n+1,.clo _ a c=>a.flatMap (Ab h n)++c.flatMap (Ab h n)
 |_+1,.eptr o _ _=>[o]
 |_+1,_=>[]
def DV(h:Nat->Option Am)(xs:List AV):List Nat:=xs.flatMap (Ab h 9)
def Ay.froz(S:Ay):Ay:=⟨S.ρ,λb=>S.ok b\/ ∃o e l,S.h o=some e/\S.ρ o=some l/\l.b=b,λo=>(S.h o).map λe=>(false,e.2),S.w⟩
def iD{S:Ay}{o:Nat}{e':Am}(h:S.froz.h o=some e'): ∃e,S.h o=some e/\e'=(false,e.2):=by
 simp only[Ay.froz,Dl] at h;obtain⟨e,z,rfl⟩:=h;exact⟨e,z,rfl⟩
def cD(S:Ay):BE (λ_=>True) S S.froz:=by
 refine⟨λb O=>⟨.inl O,rfl⟩,λo _ e' z=> ?_⟩;obtain⟨e,G,rfl⟩:=iD z;exact⟨e,G,rfl,rfl,rfl⟩
def Zv(S:Ay):AZ:=⟨S.w,λ_=>False,S.froz.ok,0,λ_=>none,λ_=>none,[]⟩
def iX{C:AZ}{S:Ay}(hW:Wf C S):Wf (Zv S) S.froz:=by
 refine⟨rfl,rfl,rfl,AP _,AP _,λ_ _ _=>rfl,λ_ G=>G,λ_ G=> .inl G,?_,?_,?_,?_,hW.gp.mono λb o G ho=>⟨⟨.inl G,λh=>h.elim⟩,ho⟩⟩
 .rintro b (G|⟨o,e,l,O,Z,rfl⟩)
  .exact hW.oks b G
  .exact (hW.loc o e l O Z).1
 .intro o e' z;obtain⟨e,O,rfl⟩:=iD z;exact Hd (cD S) (λ_ _=>rfl) _ (λ_ _=>trivial) (hW.obj o e O)
 .intro o e' l z Q;obtain⟨e,O,rfl⟩:=iD z;exact⟨(hW.loc o e l O Q).1,.inl (.inr ⟨o,e,l,O,Q,rfl⟩)⟩
 .intro o o' e e' l l' he z _ _ _ hf;obtain⟨x,_,rfl⟩:=iD he;obtain⟨x',_,rfl⟩:=iD z;simp at hf
section
variable {C:AZ}{S:Ay}{h:Nat->Option Am}
def Qql(hW:Wf C S){f:AV->Option D}{g:AV->List Nat}(hf: ∀x d v,(∀m∈g x,S.h m=h m)->f x=some d->Aa S x v->rd S.froz.ok S.froz.hp d v)
 {o off:Nat}{ds:List D}{v:Value}(h1:S.h o=h o)(hg: ∀m∈HR g (h o),S.h m=h m)(hd:YX f off (h o)=some ds)(G:Aa S (.ptr o off) v):
 ∃b p vs T fr,v= .pointer (some ⟨b,p,none⟩)/\S.froz.ok b/\S.froz.hp b=some (.cells vs T fr)/\rdp S.froz.ok S.froz.hp ds (vs.toList.drop p):=by
 have hL: ∀(cs:List AV) (ds:List D) (vs:List Value),(∀m∈cs.flatMap g,S.h m=h m)->Aq f cs=some ds->Cm S cs vs->rdp S.froz.ok S.froz.hp ds vs:=by
  intro cs;induction cs with
  |nil=>
   intro ds vs _ hd _;simp only[Aq,AM] at hd;subst hd;simp only[rdp]
  |cons x cs ih=>
   intro ds vs hh hd G;simp only[Aq] at hd;simp only[Cm] at G;obtain⟨v,r,rfl,h1,h2⟩:=G;split at hd
   .rename_i y ys hy aa;obtain rfl:=AB hd;simp only[rdp];exact⟨v,r,rfl,hf x y v (λm Q=>hh m (by rw[J1];exact Ki _ Q)) hy h1,ih ys r (λm Q=>hh m (by rw[J1];exact QG _ Q)) aa h2⟩
   .cases hd
 simp only[Aa] at G;obtain⟨_,G⟩:=G;rw[<-h1] at hd hg;cases he:S.h o with
 |none=>rw[he] at hd;cases hd
 |some e=>
  obtain⟨l,hl,rfl⟩:=G e he;have Z:S.froz.ok l.b:= .inr ⟨o,e,l,he,hl,rfl⟩;obtain⟨mu,e⟩:=e;rw[he] at hd hg;have z:=hW.obj o _ he;rw[hl] at z;cases e with
  |cells T cs=>
   simp only[YX] at hd;simp only[An] at z;obtain⟨lc,vs,h3,h4,h5,h6⟩:=z;cases h3;refine⟨l.b,l.p+off,vs,T,(0,0),rfl,Z,h5,?_⟩;rw[h4,FC];simp only[HR] at hg;rcases zH off cs.length with O|O
   .refine hL _ _ _ (λm Q=>hg m ?_) hd (gT off cs _ (VW _ _ h6) O);obtain⟨x,k1,k2⟩:=rE.1 Q;exact rE.2 ⟨x,Zfe k1,k2⟩
   .rw[DB O] at hd;simp only[Aq,AM] at hd;subst hd;simp only[rdp]
  |view cs=>
   simp only[YX,AM] at hd;subst hd;simp only[An] at z;obtain⟨lc,vs,T,fr,h3,h5,h6⟩:=z;cases h3;refine⟨l.b,l.p+off,vs,T,fr,rfl,Z,h5,?_⟩;have O:=UW (cD S).ok _ _ h6;rw[<-DS];rcases zH off cs.length with h|h
   .exact P4 off cs _ O h
   .rw[DB h];simp only[rdp]
  |_=>cases hd
def Zq(hW:Wf C S): ∀(n:Nat) (x:AV) (d:D) (v:Value),(∀m∈Ab h n x,S.h m=h m)->bk h n x=some d->Aa S x v->rd S.froz.ok S.froz.hp d v:=by
 intro n;induction n with
 |zero=>intro x d v _ hd;simp[bk] at hd
 |succ n ih=>
  have Z: ∀(cs:List AV) (ds:List D) (vs:List Value),(∀m∈cs.flatMap (Ab h n),S.h m=h m)->Aq (bk h n) cs=some ds->AN S cs vs->rdl S.froz.ok S.froz.hp ds vs:=by
   intro cs;induction cs with
   |nil=>
    intro ds vs _ hd z;simp only[Aq,AM] at hd;subst hd;simpa only[AN,rdl] using z
   |cons x cs ac=>
    intro ds vs O hd z;simp only[Aq] at hd;simp only[AN] at z;obtain⟨v,r,rfl,h1,h2⟩:=z;split at hd
    .rename_i y ys hy ab;obtain rfl:=AB hd;simp only[rdl];exact⟨v,r,rfl,ih x y v (λm Q=>O m (by rw[J1];exact Ki _ Q)) hy h1,ac ys r (λm Q=>O m (by rw[J1];exact QG _ Q)) ab h2⟩
    .cases hd
  have hp: ∀(cs:List AV) (ds:List D) (vs:List Value),(∀m∈cs.flatMap (Ab h n),S.h m=h m)->Aq (bk h n) cs=some ds->Cm S cs vs->rdp S.froz.ok S.froz.hp ds vs:=by
   intro cs;induction cs with
   |nil=>
    intro ds vs _ hd z;simp only[Aq,AM] at hd;subst hd;simp only[rdp]
   |cons x cs ac=>
    intro ds vs O hd z;simp only[Aq] at hd;simp only[Cm] at z;obtain⟨v,r,rfl,h1,h2⟩:=z;split at hd
    .rename_i y ys hy ab;obtain rfl:=AB hd;simp only[rdp];exact⟨v,r,rfl,ih x y v (λm Q=>O m (by rw[J1];exact Ki _ Q)) hy h1,ac ys r (λm Q=>O m (by rw[J1];exact QG _ Q)) ab h2⟩
    .cases hd
  have hr: ∀(k:Nat) (rs:List (List AV)) (ds:List (List D)) (vs:List Value),(∀m∈rs.flatMap (λr=>r.flatMap (Ab h n)),S.h m=h m)->Aq (Aq (bk h n)) rs=some ds->B7 S k rs vs->rdr S.froz.ok S.froz.hp k ds vs/\ds.length=rs.length:=by
   intro k rs;induction rs with
   |nil=>
    intro ds vs _ hd _;simp only[Aq,AM] at hd;subst hd;exact⟨by simp only[rdr],rfl⟩
   |cons x rs ac=>
    intro ds vs O hd z;simp only[Aq] at hd;simp only[B7] at z;split at hd
    .rename_i y ys hy ab;obtain rfl:=AB hd;obtain⟨k1,k2⟩:=ac ys _ (λm Q=>O m (by rw[J1];exact QG _ Q)) ab z.2.2;refine⟨?_,by simp[k2]⟩;simp only[rdr];exact⟨(cB _ _ hy).trans z.1,hp x y _ (λm Q=>O m (by rw[J1];exact Ki _ Q)) hy z.2.1,k1⟩
    .cases hd
  intro x d v O hd z;cases x with
  |im d'=>
   simp only[bk,AM] at hd;subst hd;simp only[Aa] at z;exact GI (cD S).ok _ _ z
  |agg cs=>
   simp only[bk,Dl] at hd;obtain⟨ds,h1,rfl⟩:=hd;simp only[Aa] at z;obtain⟨vs,rfl,h2⟩:=z;simp only[rd];exact⟨vs,rfl,Z cs ds _ O h1 h2⟩
  |tup cs=>
   simp only[bk,Dl] at hd;obtain⟨ds,h1,rfl⟩:=hd;simp only[Aa] at z;obtain⟨vs,rfl,h2⟩:=z;simp only[rd];exact⟨vs,rfl,Z cs ds _ O h1 h2⟩
  |own o=>
   simp only[Ab,Bt] at O;have h1:=O o (.inl rfl);simp only[bk] at hd;simp only[Aa] at z;rw[<-h1] at hd O;cases he:S.h o with
   |none=>rw[he] at hd;cases hd
   |some e=>
    have z:=z.2 e he;have G:=hW.obj o _ he;obtain⟨mu,e⟩:=e;rw[he] at hd O;have ag: ∀l,S.ρ o=some l->S.froz.ok l.b:=λl Z=> .inr ⟨o,_,l,he,Z,rfl⟩
    have ah:=cD S;cases e with
    |arr T k rows=>
     simp only[ND,AM] at hd;subst hd;simp only[An] at G;simp only[rd];cases Z:S.ρ o with
     |none=>rw[Z] at z G;exact .inl ⟨.inl z,G.2⟩
     |some l=>
      rw[Z] at z G;obtain⟨h0,h2,vs,h3,h4,h5⟩:=G;exact .inr ⟨l.b,l.p,l.cap,vs,T,(0,0),z,by simp,h2,h0,ag l Z,h3,YD ah.ok _ _ _ h5⟩
    |arrA T k rows=>
     simp only[ND,Dl] at hd;obtain⟨ds,hd,rfl⟩:=hd;simp only[An] at G;simp only[rd];have aa:=cB _ _ hd;cases Z:S.ρ o with
     |none=>
      rw[Z] at z G;obtain⟨_,G⟩:=G;subst G;exact .inl ⟨.inl z,rD (by simpa using aa)⟩
     |some l=>
      rw[Z] at z G;obtain⟨h0,h2,vs,h3,h4,h5⟩:=G;obtain⟨k1,k2⟩:=hr k rows ds _ (λm Q=>O m (.inr (by simpa only[HR] using Q))) hd h5;simp only[Ac.len] at z;exact .inr ⟨l.b,l.p,l.cap,vs,T,(0,0),by rw[aa];exact z,by simp,by rw[aa];exact h2,by rw[aa];exact h0,ag l Z,h3,k1⟩
    |_=>cases hd
  |mp o=>
   have h1:=O o (by simp[Ab]);simp only[bk] at hd;simp only[Aa] at z;rw[<-h1] at hd;cases he:S.h o with
   |none=>rw[he] at hd;cases hd
   |some e=>
    obtain⟨l,Z,rfl⟩:=z.2 e he;have G:=hW.obj o _ he;obtain⟨mu,e⟩:=e;rw[he] at hd;cases e with
    |map kt es=>
     simp only[Lp,AM] at hd;subst hd;rw[Z] at G;simp only[An] at G;obtain⟨lc,af,ad,h2,h3,h4,h5,h6⟩:=G;cases h2;simp only[rd];exact⟨l.b,af,ad,rfl,h3,.inr ⟨o,_,l,he,Z,rfl⟩,h4,KS (cD S).ok _ _ h5,h6⟩
    |_=>cases hd
  |ptr o off=>
   simp only[Ab,Bt] at O;simp only[bk,Dl] at hd;obtain⟨ds,hd,rfl⟩:=hd;simp only[rd];exact Qql hW (g:=Ab h n) (λx d v h1 h2 h3=>ih x d v h1 h2 h3) (O o (.inl rfl)) (λm Q=>O m (.inr Q)) hd z
  |clo f a c=>
   simp only[Ab,Bz] at O;simp only[bk] at hd;cases ha:Aq (bk h n) a with
   |none=>rw[ha] at hd;cases hd
   |some da=>
    cases hcc:Aq (bk h n) c with
    |none=>rw[ha,hcc] at hd;cases hd
    |some dc=>
     rw[ha,hcc] at hd;simp only[NW,AM] at hd;subst hd;simp only[Aa] at z;obtain⟨va,vc,rfl,h3,h4⟩:=z;simp only[rd];exact⟨va,vc,rfl,Z a da _ (λm Q=>O m (.inl Q)) ha h3,Z c dc _ (λm Q=>O m (.inr Q)) hcc h4⟩
  |_=>simp[bk] at hd
def oA(hW:Wf C S){x:AV}{p:PK}{v:Value}(O: ∀m∈Ab h 9 x,S.h m=h m)(hp:DU (bk h 9 x)=some p)(G:Aa S x v):Iq S.froz p v:=by
 simp only[DU,Dl] at hp;obtain⟨d,z,rfl⟩:=hp;simp only[Iq];exact Zq hW 9 x d v O z G
def NV(hW:Wf C S){o i off:Nat}{ds:List D}{v:Value}(h1:S.h o=h o)(hd:WD i off (h o)=some ds)(G:Aa S (.eptr o i off) v):
 ∃b p O T fr,v= .pointer (some ⟨b,p,none⟩)/\S.froz.ok b/\S.froz.hp b=some (.cells O T fr)/\rdp S.froz.ok S.froz.hp ds (O.toList.drop p):=by
 simp only[Aa] at G;obtain⟨_,G⟩:=G;rw[<-h1] at hd;cases he:S.h o with
 |none=>rw[he] at hd;cases hd
 |some e=>
  obtain⟨l,hl,rfl⟩:=G e he;have Z:S.froz.ok l.b:= .inr ⟨o,e,l,he,hl,rfl⟩;obtain⟨mu,e⟩:=e;rw[he] at hd;have z:=hW.obj o _ he;rw[hl] at z;cases e with
  |arr T k rows=>
   simp only[WD] at hd;cases hr:rows[i]? with
   |none=>rw[hr] at hd;cases hd
   |some r=>
    rw[hr] at hd;simp only[Lq,AM] at hd;subst hd;simp only[An] at z;obtain⟨_,_,O,h5,_,h6⟩:=z;obtain⟨g1,g2⟩:=aP rows _ i h6 hr;refine⟨l.b,l.p+i*k+off,O,T,(0,0),rfl,Z,h5,?_⟩;have h7:=UW (cD S).ok _ _ g2;rw[DS] at h7;rcases zH off r.length with Q|Q
    .have:=P4 off r _ h7 Q
     rwa [DS] at this
    .rw[DB Q];simp only[rdp]
  |_=>cases hd
def Th(hW:Wf C S){x:AV}{p:PK}{v:Value}(z: ∀m∈Ab h 9 x,S.h m=h m)(hp:DN h x=some p)(G:Aa S x v):Iq S.froz p v:=by
 cases x with
 |im d=>
  simp only[DN,AM] at hp;subst hp;simp only[Aa] at G;exact Qyv (iX hW) (GI (cD S).ok d v G)
 |ptr o off=>
  simp only[Ab,Bt] at z;simp only[DN,Jb,Dl] at hp;obtain⟨ds,O,rfl⟩:=hp;obtain⟨b,q,vs,T,fr,Q,Z,h4,h5⟩:=Qql hW (g:=Ab h 8) (λx d v O Q Z=>Zq hW 8 x d v O Q Z) (z o (.inl rfl)) (λm hm=>z m (.inr hm)) O G;simp only[Iq];exact⟨b,q,vs,T,fr,Q,(iX hW).oks b Z,h4,h5⟩
 |eptr o i off=>
  simp only[Ab,Bt,PM,Lk] at z;simp only[DN,Jb,Dl] at hp;obtain⟨ds,O,rfl⟩:=hp;obtain⟨b,q,vs,T,fr,Q,Z,h4,h5⟩:=NV hW (z o rfl) O G;simp only[Iq];exact⟨b,q,vs,T,fr,Q,(iX hW).oks b Z,h4,h5⟩
 |own o=>exact oA hW z hp G
 |mp o=>exact oA hW z hp G
 |agg cs=>exact oA hW z hp G
 |tup cs=>exact oA hW z hp G
 |clo f a c=>exact oA hW z hp G
 |_=>cases hp
def xU(hW:Wf C S): ∀(xs:List AV) (ps:List PK) (vs:List Value),(∀m∈DV h xs,S.h m=h m)->BR h xs=some ps->AN S xs vs->EA S.froz ps vs
 |[],ps,vs,_,hp,z=>by
  simp only[BR,AM] at hp;subst hp;simp only[AN] at z;simp only[EA];exact z
 |x::xs,ps,vs,O,hp,z=>by
  simp only[BR] at hp;simp only[AN] at z;obtain⟨v,r,rfl,Q,Z⟩:=z;cases hx:DN h x with
  |none=>rw[hx] at hp;cases hp
  |some p=>
   cases hr:BR h xs with
   |none=>rw[hx,hr] at hp;cases hp
   |some qs=>
    rw[hx,hr] at hp;simp only[FT,AM] at hp;subst hp;simp only[EA];refine⟨v,r,rfl,Th hW (λm G=>O m ?_) hx Q,xU hW xs qs r (λm G=>O m ?_) hr Z⟩
    .simp only[DV,J1];exact Ki _ G
    .simp only[DV,J1];exact QG _ G
end
def Px{P:Program}(HM:P.follows .mixedOrders=true){V:CT}(hV:Kf P V){g:FuncId}{fn:Func}{c:Code}(hf:P.funcs[g]? =some fn)(hb:fn.body=some c)(ab:DT fn.ntmps c=true)
 {ps:List PK}(ao:ps.length<=fn.ntmps){R:D->Prop}
 (hk:CR P V c (Zc P fn.results.toList R) ⟨entry 0 (CL 0 ps),CJ 0 ps,BH ps⟩)
 {C:AZ}{S:Ay}{vs:Array Value}{RR:Ending->World->Prop}(hW:Wf C S)(af:EA S ps vs.toList)
 (ac: ∀(v:Value) (G:AZ) (S1:Ay) (d:D),G.w=S.w->G.ok=S.ok->(∀b,¬G.M b)->Wf G S1->R d->rd (SS G S1) S1.hp d v->RR (.returned v) S1.w):Calls P g vs S.w RR:=by
 refine calls_of_wp hf hb ?_;have an:vs.size=(CL 0 ps).length:=by rw[YB];simpa using af.len
 obtain⟨ls,ad,hcl⟩:=iQ ps vs.toList 0 af
 let S0:Ay:=⟨ls,S.ok,hget (CJ 0 ps),S.w⟩
 let G:AZ:=⟨S.w,λ_=>False,S.ok,0,λ_=>none,λ_=>none,[]⟩
 have ai:Wf G S0:=by
  refine⟨rfl,rfl,rfl,AP _,AP _,λ_ _ _=>rfl,λ_ hb=>hb,λ_ hb=> .inl hb,hW.oks,?_,?_,?_,hW.glN λ_ h=>h.elim⟩
  .intro n e z;obtain⟨l,O,_,h3⟩:=ad n e z;have h4:S0.ρ n=some l:=O;rw[h4];obtain⟨_,cs,rfl⟩:=Gc 0 ps n e z;simp only[An] at h3⊢;exact h3
  .intro n e l z hl;obtain⟨l',O,h2,h3⟩:=ad n e z;have h4:S0.ρ n=some l':=O;rw[h4] at hl;obtain rfl:=AB hl;obtain⟨_,cs,rfl⟩:=Gc 0 ps n e z;exact⟨h2,.inr rfl⟩
  .intro n n' e e' l l' z ak hl av au am;obtain⟨_,cs,rfl⟩:=Gc 0 ps n e z;obtain⟨_,aq,rfl⟩:=Gc 0 ps n' e' ak;simp at am
 have aj:BC G fn.ntmps ⟨entry 0 (CL 0 ps),CJ 0 ps,BH ps⟩ {tmps:=vs++Array.replicate (fn.ntmps - vs.size) undef,defers:=[]} S.w:=by
  have Q:AN S0 (CL 0 ps) vs.toList:=hcl S0 rfl rfl (λn _=>⟨rfl,rfl⟩);refine⟨S0,rfl,ai,λn=>rfl,?_,?_,?_,by simp;rw[YB] at an;omega,rfl,Cz _,λo ho=>absurd ho (rJ _)⟩
  .intro t;have O:=gS (S:=S0) (CL 0 ps) vs.toList 0 t Q;simp only[Cz,B5,jO] at O
   have:({tmps:=vs++Array.replicate (fn.ntmps - vs.size) undef,defers:=[]}:Act).eval (.tmp t)=(vs.toList[t]?).getD undef:=by
    simp only[Act.eval,H5,rC,dP];by_cases ht:t<vs.size
    .simp[ht]
    .simp only[ht,CA]
     have:vs[t]? =none:=W7 (by omega)
     simp only[Kk,this]
     split<;>rfl
   rw[this];exact O
  .intro t m hm;exact nW 0 ps (BH ps) (by omega) m (gZ (CL 0 ps) 0 t m hm)
  .intro n e z;obtain⟨O,cs,rfl⟩:=Gc 0 ps n e z;exact⟨by show n<BH ps;omega,by simp[Ac.nms]⟩
 refine wp_mono (Qo4 HM (qE hV) c ab _ _ _ _ hk aj) ?_;have fin: ∀(s:Az) (a:Act) (w:World),KG P fn.results.toList R s->BC G fn.ntmps s a w->a.defers=[]/\ ∃v,(results fn a.tmps).run P w= .ok v w/\RR (.returned v) w:=by
  rintro s a w hr ⟨S1,rfl,Z⟩;unfold KG at hr;cases hxs:Aq (Ka P s) fn.results.toList with
  |none=>rw[hxs] at hr;exact hr.elim
  |some xs=>
   rw[hxs] at hr;simp only[M8] at hr;obtain⟨v,ag,aa⟩:=nG Z hxs;refine⟨Z.defers,v,ag,?_⟩;have ah:hget s.h=S1.h:=(funext Z.h).symm;rw[ah] at hr;obtain⟨d,O,h2⟩:=Qzf (λ_ h=>h) Z.wf hr aa;exact ac v G S1 d rfl rfl (λ_ h=>h) Z.wf O h2
 intro e a w z;cases e<;>simp only[Gx] at z<;>simp only[bodyPost]
 .obtain⟨s,hs,Z⟩:=z;exact fin s a w hs Z
 .obtain⟨s,hs,_⟩:=z;exact hs.elim
 .obtain⟨s,hs,Z⟩:=z;exact fin s a w hs Z
def UQ{A:Type}(ar:List PK->Option A)(pre:A->Prop)(re:A->D)(u:List Nat)(K:Ah):Option (List PK)->Prop
 |some z=>DE (λa=>pre a/\K (.im (re a)) {use:=u}) (ar z)
 |none=>False
def Q3{A:Type}(ar:List PK->Option A)(pre:A->Prop)(re:A->D):AE:=λargs h _ K=>UQ ar pre re (DV h args) K (BR h args)
def AQ{B:Type}(rc:D->Option B)(b:B)(d:D):Prop:=rc d=some b
def Quy{P:Program}{g:FuncId}(af:Gq P g=true)
 {A B:Type}{ar:List PK->Option A}{ae:A->List PK}(av: ∀ps a,ar ps=some a->Cl ps (ae a)){rc:D->Option B}{re:B->D}(ax: ∀d b,rc d=some b->Le d (re b))
 {pre:A->Prop}{f:A->B}
 (ai: ∀a,pre a-> ∀{C:AZ} {S:Ay} {vs:Array Value} {RR:Ending->World->Prop},Wf C S->EA S (ae a) vs.toList->
  (∀(v:Value) (C0:AZ) (S1:Ay) (d:D),C0.w=S.w->C0.ok=S.ok->(∀b,¬C0.M b)->Wf C0 S1->AQ rc (f a) d->rd (SS C0 S1) S1.hp d v->RR (.returned v) S1.w)->Calls P g vs S.w RR):
 Hb P g (Q3 ar pre λa=>re (f a)):=by
 intro args h nx K z;unfold Q3 at z;cases hp:BR h args with
 |none=>rw[hp] at z;exact z.elim
 |some ps=>
  rw[hp] at z;simp only[UQ] at z;cases ha:ar ps with
  |none=>rw[ha] at z;exact z.elim
  |some a=>
   rw[ha] at z;simp only[DE] at z;obtain⟨ah,hK⟩:=z;refine⟨YH af,_,_,?_,hK⟩;intro C S vs RR hW aj ak am ab ag;have aw:=xU hW args ps vs.toList (λm hm=>aj m (Ki _ hm)) hp ab;have aq:=iX hW;refine ai a ah (S:=S.froz) aq ((av ps a ha).c aw) ?_;intro v C0 S1 d G ad an Z hR ay;have G:C0.w=S.w:=G;have ad:C0.ok=S.froz.ok:=ad;have Q: ∀b,b<S.w.heap.size->S1.w.heap[b]? =S.w.heap[b]? :=λb O=>by
    have:=Z.keep b (by rw[G];exact O) (an b)
    rw[G] at this;exact this
   have ac:S.w.heap.size<=S1.w.heap.size:=by have:=Z.size;rw[G] at this;exact this
   let S':Ay:={S with ok:=λb=>S.ok b\/SS C0 S1 b,w:=S1.w}
   have hp':BE (λ_=>True) S S':=⟨λb O=>⟨.inl O,Q b (hW.oks b O)⟩,λo _ e' au=>⟨e',au,rfl,rfl,rfl⟩⟩;have aa: ∀b,SS C0 S1 b->S.w.heap.size<=b:=λb O=>by have:=O.1;rw[G] at this;exact this
   have ao:Wf C S':=by
    refine⟨?_,?_,?_,CD hW.dr (by have:=Z.dr;rw[G] at this;exact this),CD hW.size ac,?_,λb O=> .inl (hW.ok0 b O),?_,?_,?_,?_,hW.inj,hW.gl⟩
    .exact Z.os.trans (by rw[G];exact hW.os)
    .exact Z.tape.trans (by rw[G];exact hW.tape)
    .exact Z.output.trans (by rw[G];exact hW.output)
    .intro b O hM;exact (Q b (Fx O hW.size)).trans (hW.keep b O hM)
    .rintro b (O|O)
     .exact hW.ok1 b O
     .exact .inr (.inl (CD hW.size (aa b O)))
    .rintro b (O|O)
     .exact Fx (hW.oks b O) ac
     .exact O.2.1
    .intro o e he;exact Hd hp' (λlc hl=>Q lc.b (hW.loc o e lc he hl).1) _ (λ_ _=>trivial) (hW.obj o e he)
    .intro o e l he hl;obtain⟨h2,h3⟩:=hW.loc o e l he hl;refine⟨Fx h2 ac,?_⟩;cases hm:e.1 with
     |false=>
      rw[hm] at h3;simp only[CQ,CA] at h3⊢;exact h3.imp (λh=> .inl h) id
     |true=>
      rw[hm] at h3;simp only[B5] at h3⊢;refine⟨?_,h3.2⟩;rintro (h|h)
      .exact h3.1 h
      .have:=aa _ h;omega
   refine ag v S' ao ?_ ⟨hp'.ok,λo _=>hp'.nm o trivial⟩ ?_
   .show S.h=_;funext m;simp[Bv.appf,hget]
   .simp only[Aa];have h9:=ax _ _ hR _ _ _ ay;exact GI (λb O=>⟨.inr O,rfl⟩) _ _ h9
def Qbn{P:Program}(HM:P.follows .mixedOrders=true){V:CT}(hV:Kf P V){g:FuncId}{fn:Func}{c:Code}(hf:P.funcs[g]? =some fn)(hb:fn.body=some c)(G:DT fn.ntmps c=true)(z:Gq P g=true)
 {A B:Type}{ar:List PK->Option A}{ae:A->List PK}(Z: ∀ps a,ar ps=some a->Cl ps (ae a)){n:Nat}(hn: ∀a,(ae a).length=n)(aa:n<=fn.ntmps){rc:D->Option B}{re:B->D}(ac: ∀d b,rc d=some b->Le d (re b))
 {pre:A->Prop}{f:A->B}
 (hk: ∀a,pre a->CR P V c (Zc P fn.results.toList (AQ rc (f a))) ⟨entry 0 (CL 0 (ae a)),CJ 0 (ae a),BH (ae a)⟩):
 Hb P g (Q3 ar pre λa=>re (f a)):=
 Quy z Z ac (λa Q _ _ _ _ hW ab O=>Px HM hV hf hb G (by rw[hn];exact aa) (hk a Q) hW ab O)
end Go.Ae
