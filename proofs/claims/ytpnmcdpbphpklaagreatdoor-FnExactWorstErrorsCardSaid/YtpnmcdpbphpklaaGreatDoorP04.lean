/- Lemmas. Conditions: none. -/
import Derived.Test.YtpnmcdpbphpklaaGreatDoorP03
import Derived.Laws.BytesArg
set_option linter.all false
set_option maxHeartbeats 8000000
set_option maxRecDepth 100000
namespace Go.Ae
def oB{ok:Nat->Prop}{hp:Nat->Option Obj}: ∀(rows:List (List D)) (G:List Int) (L:List Value),Hr rows=some G->rdr ok hp 1 rows L->rows.length=G.length/\L.take G.length=G.map (Value.int .u8)
 |[],G,L,h,_=>by
  simp only[Hr,AI] at h;subst h;simp
 |row::r,G,L,h,Q=>by
  unfold Hr at h;split at h
  .rename_i z;cases z
  .rename_i n r' z;cases z;simp only[CX] at h;obtain⟨ms,h1,rfl⟩:=h;simp only[rdr,rdp,rd] at Q;obtain⟨_,⟨v,L1,rfl,rfl,_⟩,h3⟩:=Q;obtain⟨Z,O⟩:=oB r ms _ h1 h3;simp only[JN,FR] at O;refine⟨by simp[Z],?_⟩;simp[O]
  .cases h
section
variable {P:Program}{tm:List (Nat×AV)}{h:Nat->Option Ap}{nx:Nat}{o:Oper}{K:Ah}
def YL{x y:Operand}{c:Call}(ho:o.op= .call c)(G:c.callee= .builtin .max)(z:c.args= #[x,y])(O:ML K (Aq tm x) (Aq tm y)):BV P tm h nx o K:=by
 have Z:x∈o.op.operands:=by rw[ho];simp[Op.operands,Call.operands,z,G]
 have aa:y∈o.op.operands:=by rw[ho];simp[Op.operands,Call.operands,z,G]
 cases hx:Aq tm x<;>rw[hx] at O<;>try exact O.elim
 rename_i d;cases hy:Aq tm y<;>rw[hy] at O<;>try (cases d<;>exact O.elim)
 rename_i d';cases d<;>cases d'<;>try exact O.elim
 rename_i k a k' b;simp only[ML] at O;obtain⟨rfl,O⟩:=O;refine⟨_,_,B7.pure (u:=[]) ?_,O⟩;intro C S ac hW _ Q;have h1:=Q x Z;have h2:=Q y aa;rw[hx] at h1;rw[hy] at h2;simp only[Aa,rd] at h1 h2;refine⟨.int k (max a b),?_,by simp only[Aa,rd]⟩;simp only[execOp,ho,resolve,G,z,Sem.run_bind,Sem.run_pure,Result.andThen_ok,invoke,builtin];have e:(if a<b then b else a)=max a b:=by omega
 simp[h1,h2,Builtin.max_,Builtin.max2,e]
def Pk{Q T:TypeId}{x:Operand}(ho:o.op= .convert Q T x)(ht:isStr (Qo (tI P T))=true)(z:I9 P h K (Aq tm x) (tI P Q)):BV P tm h nx o K:=by
 cases hT:tI P T with
 |none=>rw[hT] at ht;cases ht
 |some ti=>
 rw[hT] at ht;simp only[Qo,isStr] at ht;cases hf:ti.kind<;>rw[hf] at ht<;>simp only[TK.isStr,CN] at ht;have hd:=Qz hT hf;cases hS:tI P Q with
 |none=>rw[hS] at z;exact z.elim
 |some si=>
 rw[hS] at z;simp only[I9] at z;cases hg:si.kind<;>rw[hg] at z<;>try exact z.elim
 rename_i e;have hs:=PO hS hg;simp only[fY] at z;cases hE:tI P e with
 |none=>rw[hE] at z;exact z.elim
 |some te=>
 rw[hE] at z;simp only[Qo] at z;cases hke:te.kind<;>rw[hke] at z<;>try exact z.elim
 rename_i ik;cases ik<;>try exact z.elim
 have he:=UO hE hke;simp only[fX] at z;cases hx:Aq tm x<;>rw[hx] at z<;>try exact z.elim
 rename_i n;simp only[fW] at z;cases hn:h n with
 |none=>rw[hn] at z;exact z.elim
 |some O=>
 rw[hn] at z;obtain⟨mu,O⟩:=O;cases O<;>try exact z.elim
 rename_i T' k rows;simp only[R0] at z;obtain⟨rfl,z⟩:=z;cases hb:Hr rows with
 |none=>rw[hb] at z;exact z.elim
 |some ns=>
 rw[hb] at z;simp only[Lg] at z;refine⟨_,_,B7.pure (u:=[n]) ?_,z⟩;intro C S ac hW hu ab;have h1:=ab x (by rw[ho];simp[Op.operands]);rw[hx] at h1;simp only[Aa] at h1;have aa:=(hu n (by simp)).trans hn;have Z:=h1.2 _ aa;have G:=hW.obj _ _ aa;refine⟨.string (P3 ns),?_,by simp only[Aa,rd]⟩;have af:(convert Q T (ac.eval x)).run P S.w= .ok (.string (P3 ns)) S.w:=by
  cases hl:S.ρ n with
  |none=>
   rw[hl] at Z G;simp only[Al] at G;simp only at Z;obtain rfl:=G.2;simp only[Hr,AI] at hb;subst hb;rw[Z,run_convert_bytes_string S.w Q T e none 0 0 hs he hd];simp[Conv.bytesToString,P3];rfl
  |some l=>
   rw[hl] at Z G;simp only[Al] at G;simp only[Ag.len] at Z;obtain⟨_,g1,vs,g2,g3,g4⟩:=G;obtain⟨e1,e2⟩:=oB rows ns _ hb g4;rw[Z,run_convert_bytes_string S.w Q T e _ _ _ hs he hd];have ad:(loadCells ⟨l.b,l.p,none⟩ rows.length).run P S.w= .ok (ns.map (Value.int .u8)).toArray S.w:=by
    rw[jP (w:=S.w) g2 (by omega),e1,e2]
   rw[run_bytesToString S.w ⟨l.b,l.p,none⟩ rows.length l.cap ns ad,foldl_push_bytes];simp[P3,ByteArray.empty,ByteArray.emptyWithCapacity]
   try rfl
 simp only[execOp,ho,Sem.run_bind,af];simp
def Pm{G T:TypeId}{x:Operand}(O:o.op= .convert G T x)(z:VT P h (Qo (tI P T)) (Aq tm x) K (tI P G)):BV P tm h nx o K:=by
 unfold VT at z;split at z
 .rename_i Q;exact Pk O Q z
 .exact Qwv O z
end
section
variable {P:Program}{tm:List (Nat×AV)}{h:Nat->Option Ap}{nx:Nat}{o:Oper}{K:Ah}
def Qalk{T:TypeId}(h:SB P T=true): ∃z,P.underlying T=some (.interface z):=by
 unfold SB at h;split at h
 .rename_i z G;exact⟨z,G⟩
 .cases h
def gJ{w:World}{T:TypeId}{O:Array (String×TypeId)}(z:P.underlying T=some (.interface O))(d:Nat){v:Value}{b:Bool}(G:v= .nilIface/\b=true\/(∃t x,v= .iface t x)/\b=false):(Op.equalIn (d+1) T v .nilIface).run P w= .ok b w:=by
 rcases G with ⟨rfl,rfl⟩|⟨⟨t,x,rfl⟩,rfl⟩<;>simp[Op.equalIn,run_underlying z]
def U7{op:BinOp}{T U:TypeId}{x y:Operand}{m:Nat}(ho:o.op= .binOp op T x y U)(hm:Fq y=m+4)(hk:Wc P T op (Aq tm x) K):BV P tm h nx o K:=by
 obtain⟨hT,hk⟩:=hk;obtain⟨ms,hu⟩:=Qalk hT;have Z:op= .eql\/op= .neq:=by cases op<;>first|exact .inl rfl|exact .inr rfl|exact hk.elim
 have G:Q3 (decide (op= .neq)) K (Aq tm x):=by rcases Z with rfl|rfl<;>exact hk
 have hy:y= .const .nilIface:=by
  cases y<;>simp only[Fq] at hm<;>try omega
  rename_i v;unfold FD at hm;split at hm<;>first|omega|rfl
 clear hk;have O: ∀b:Bool,K (.im (.bool ((decide (op= .neq)) !=b))) {}->(∀(C:AT) (S:Au) (v:Value),Wf C S->Aa S (Aq tm x) v->v= .nilIface/\b=true\/(∃t x,v= .iface t x)/\b=false)->BV P tm h nx o K:=by
  intro b ac hv;refine⟨_,_,B7.pure (u:=[]) ?_,ac⟩;intro C S a hW _ aa;have h1:=hv C S _ hW (aa x (by rw[ho];simp[Op.operands]));refine⟨.bool (decide (op= .neq) !=b),?_,by simp only[Aa,rd]⟩;have ab:a.eval y= .nilIface:=by rw[hy];rfl
  have hq:(Op.equal T (a.eval x) .nilIface).run P S.w= .ok b S.w:=gJ hu 9999 h1;subst hy;have hg:(eqGuard op T x (.const .nilIface) (a.eval x) .nilIface).run P S.w= .ok () S.w:=by
   clear hq;generalize a.eval x=v at h1⊢;rcases h1 with ⟨rfl,_⟩|⟨⟨t,z,rfl⟩,_⟩<;>rcases Z with rfl|rfl<;>simp[eqGuard]
  have hb:(binOp op T (a.eval x) .nilIface).run P S.w= .ok (.bool (decide (op= .neq) !=b)) S.w:=by
   generalize a.eval x=v at h1 hq⊢;rcases Z with rfl|rfl
   .have:binOp .eql T v .nilIface=(do pure (.bool (<-Op.equal T v .nilIface))):=by
     rcases h1 with ⟨rfl,_⟩|⟨⟨t,z,rfl⟩,_⟩<;>rfl
    rw[this];simp[hq]
   .have:binOp .neq T v .nilIface=(do pure (.bool (!(<-Op.equal T v .nilIface)))):=by
     rcases h1 with ⟨rfl,_⟩|⟨⟨t,z,rfl⟩,_⟩<;>rfl
    rw[this];simp[hq]
  simp only[execOp,ho,ab,Sem.run_bind,hg,Result.andThen_ok,hb,Sem.run_pure]
 cases hx:Aq tm x<;>rw[hx] at G<;>try exact G.elim
 rename_i d;cases d<;>try exact G.elim
 .refine O true G ?_;intro C S v _ Q;rw[hx] at Q;simp only[Aa,rd] at Q;exact .inl ⟨Q,rfl⟩
 .refine O false G ?_;intro C S v _ Q;rw[hx] at Q;simp only[Aa,rd] at Q;obtain⟨z,hz,_⟩:=Q;exact .inr ⟨⟨_,z,hz⟩,rfl⟩
def YI{T:TypeId}{x:Operand}(ho:o.op= .makeInterface T x)(z:UJ P T K (Aq tm x)):BV P tm h nx o K:=by
 cases hx:Aq tm x<;>rw[hx] at z<;>try exact z.elim
 rename_i d;obtain⟨Q,z⟩:=z;refine⟨_,_,B7.pure (u:=[]) ?_,z⟩;intro C S a _ _ G;have Z:=G x (by rw[ho];simp[Op.operands]);rw[hx] at Z;simp only[Aa] at Z;refine⟨.iface T (a.eval x),?_,by simp only[Aa,rd];exact⟨_,rfl,Z⟩⟩
 have:(Instr.makeInterface T (a.eval x)).run P S.w= .ok (.iface T (a.eval x)) S.w:=by
  unfold aG at Q;split at Q
  .cases Q
  .rename_i u aa hu;have O:(underlying T).run P S.w= .ok u S.w:=by simp[underlying,hu]
   unfold Instr.makeInterface;rw[Sem.run_bind,O];cases u<;>first|rfl|exact (aa _ rfl).elim
  .cases Q
 simp[execOp,ho,this]
def Qaln{T tk te:TypeId}{x:Operand}{kt:KT}{es:List (D×D)}(ho:o.op= .range T x)(hu:P.underlying T=some (.map tk te))(hx:Aq tm x= .im (.mp kt es))
 (hk:K (.it nx) {new:=[(nx,(true,.iter none es))],cnt:=1}):BV P tm h nx o K:=by
 refine⟨_,_,B7.one (u:=[]) (ks:=[]) (.inl ⟨rfl,rfl⟩) ?_,hk⟩;intro C S a hW _ Q hnm aa;have O:=aa x (by rw[ho];simp[Op.operands]);rw[hx] at O;simp only[Aa,rd] at O;obtain⟨b,G,z,hv,g2,Z,g3,g4,g5,g6⟩:=O;have hg:(getObj b).run P S.w= .ok (.map G z) S.w:=PN (w:=S.w) g3;have ab:(underlying T).run P S.w= .ok (.map tk te) S.w:=by simp[underlying,hu]
 refine⟨.pointer (some ⟨S.w.heap.size,0,none⟩),{S.w with heap:=S.w.heap.push (.mapIter (some b) z #[] z)},some ⟨S.w.heap.size,0,0⟩,.inl ?_,Vn (w':={S.w with heap:=S.w.heap.push (.mapIter (some b) z #[] z)}) (ob:= .mapIter (some b) z #[] z) rfl rfl rfl rfl (Q rfl) (λn f hf=>hnm n f hf rfl),?_⟩
 .simp only[execOp,ho,hv,Instr.range,Sem.run_bind,ab,Result.andThen_ok,hg,Sem.run_pure];simp
 intro hp;constructor
 .simp only[Al];obtain⟨p1,p2⟩:=hp.ok b Z;refine⟨_,b,G,z,#[],rfl,p1,trivial,p2.trans g3,Z5 rfl,g5,g6,?_⟩;have h9:G.toList.filter (λe=> !(#[]:Array Nat).contains e.born)=G.toList:=by
   rw[V9];intro e _;simp
  rw[h9];exact KA hp.ok _ _ g4
 .simp only[Aa];exact⟨rfl,λe he=>⟨⟨S.w.heap.size,0,0⟩,by simp[Au.one],rfl⟩⟩
end
def Hi(P:Program)(V:Df):Prop:=
 (∀(tm:List (Nat×AV)) (h:Nat->Option Ap) (nx:Nat) (o:Oper) (c:Call) (f:Operand) (K:Ah),o.op= .call c->c.callee= .value f->
  (∀x,∀m∈(Aq tm x).nms,m<nx)->Qw V (D9 tm c.args.toList) h nx K (Aq tm f)->BV P tm h nx o K)/\
 ∀(tm:List (Nat×AV)) (h:Nat->Option Ap) (nx:Nat) (o:Oper) (c:Call) (r:Operand) (m:String) (K:Ah),o.op= .call c->c.callee= .invoke r m->
  (∀x,∀m∈(Aq tm x).nms,m<nx)->MK P V (D9 tm c.args.toList) h nx K m (Aq tm r)->BV P tm h nx o K
def vW{tm:List (Nat×AV)}{c:Call}{x:AV}(h:D9 tm c.args.toList=[x]): ∃a,c.args= #[a]/\Aq tm a=x:=by
 cases hc:c.args.toList with
 |nil=>rw[hc] at h;cases h
 |cons a r=>
  rw[hc] at h;cases r with
  |nil=>
   simp only[D9,V7,vE] at h;exact⟨a,ZP.1 (by simpa using hc),h⟩
  |cons b r=>simp[D9] at h
def X8{tm:List (Nat×AV)}{c:Call}{x y:AV}(h:D9 tm c.args.toList=[x,y]): ∃a b,c.args= #[a,b]/\Aq tm a=x/\Aq tm b=y:=by
 cases hc:c.args.toList with
 |nil=>rw[hc] at h;cases h
 |cons a r=>
  rw[hc] at h;cases r with
  |nil=>simp[D9] at h
  |cons b r=>
   cases r with
   |nil=>
    simp only[D9,V7,vE] at h;exact⟨a,b,ZP.1 (by simpa using hc),h.1,h.2⟩
   |cons d r=>simp[D9] at h
section
variable {P:Program}{tm:List (Nat×AV)}{h:Nat->Option Ap}{nx:Nat}{o:Oper}{K:Ah}
def YE{op:BinOp}{T U:TypeId}{x y:Operand}(G:o.op= .binOp op T x y U)(z:ZC P T h op (Aq tm x) (Aq tm y) K (Fq y)):BV P tm h nx o K:=by
 cases hn:Fq y with
 |succ m=>
  rw[hn] at z;cases m with
  |zero=>exact bN G hn (by decide) z
  |succ m=>
   cases m with
   |zero=>exact bN G hn (by decide) z
   |succ m=>
    cases m with
    |zero=>exact bN G hn (by decide) z
    |succ m=>exact U7 (m:=m) G hn z
 |zero=>
  rw[hn] at z;simp only[ZC] at z;cases hx:Aq tm x<;>rw[hx] at z<;>try exact z.elim
  rename_i d;cases hy:Aq tm y<;>rw[hy] at z<;>try (cases d<;>exact z.elim)
  rename_i d';cases d<;>cases d'<;>try exact z.elim
  .simp only[eU] at z;exact UB G hx hy z
  .simp only[eU] at z;cases hT:tI P T with
   |none=>rw[hT] at z;exact z.elim
   |some ti=>
    rw[hT] at z;simp only[MJ] at z;exact YF G (YV hT z.1) hx hy z.2
  .exact YM G hx hy z
  .exact Ph G hx hy z
def Qrc{V:Df}(HV:Hi P V){sq:Bool}(Z: ∀x,∀m∈(Aq tm x).nms,m<nx)(z:step P V sq tm h nx o.type K o.op):WT P sq tm h nx o K:=by
 have ad: ∀x,∀m∈(Aq tm x).nms,m≠nx:=λx m hm=>Nat.ne_of_lt (Z x m hm)
 cases ho:o.op<;>rw[ho] at z<;>try exact z.elim
 case move x=>exact .inl (nV (.inl ho) z)
 case assign x=>exact .inl (Qabd ho z)
 case pick c a b=>exact .inl (UE ho z)
 case alloc T=>exact .inl (Pi ho z)
 case box T x=>exact .inl (YG ho z (λm hm=>ad x m (Qvz _ m hm)))
 case build T ps=>exact .inl (Pj ho z)
 case buildSlice T n ps=>exact .inl (Qp8 ho z ad)
 case load T x=>exact .inl (UC ho z)
 case store T x v=>exact .inl (Pv ho z)
 case nilCheck x=>exact .inl (Qvi ho z)
 case binOp op T x y U=>
  simp only[step,K1] at z;split at z
  .rename_i aa;simp only[unS,AO,Qd] at aa;exact .inr ⟨aa.1,.inr (UA ho aa.2.1 z)⟩
  .exact .inl (YE ho z)
 case slice T x lo hi mx=>
  cases mx<;>try exact z.elim
  exact .inl (Pu ho z)
 case range T x=>exact .inl (Pt (λ_ _ _ _ hu G z=>Qaln ho hu G z) ho z)
 case makeInterface T x=>exact .inl (YI ho z)
 case next x b=>
  cases b<;>try exact z.elim
  simp only[step] at z;cases sq with
  |false=>exact z.elim
  |true=>exact .inr ⟨rfl,.inr (UD ho z)⟩
 case entry x=>exact .inl (Pn ho z)
 case makeChan T x=>exact .inl (Qvf ho z)
 case unOp op T x=>exact .inl (UF ho z)
 case convert S T x=>exact .inl (Pm ho z)
 case makeFunc f first capt=>
  cases f<;>try exact z.elim
  exact .inl (YH (by simpa using z.1) ho z.2)
 case makeMap T r=>
  cases r<;>try exact z.elim
  exact .inl (Qyk ho z)
 case makeSlice T l c=>exact .inl (Qrx ho z)
 case fieldAddr T x f=>exact .inl (Qsq ho z)
 case indexAddr T x i=>exact .inl (Qsk ho z)
 case index T x i=>exact .inl (Pp ho z)
 case lookup T m k ok=>exact .inl (Qabg ho z)
 case mapUpdate T m k v=>exact .inl (Qr9 (.inl ho) z)
 case insert T m k v=>exact .inl (Qr9 (.inr ho) z)
 case extract x i=>exact .inl (Qyh ho z)
 case field U x f=>exact .inl (Po ho z)
 case call c=>
  simp only[step] at z;cases hc:c.callee<;>rw[hc] at z<;>try exact z.elim
  case value f=>exact .inl (HV.1 tm h nx o c f K ho hc Z z)
  case invoke r m=>exact .inl (HV.2 tm h nx o c r m K ho hc Z z)
  case builtin b=>
   simp only[sG] at z;unfold Zk at z;split at z
   .rename_i x T G Q;obtain⟨a,O,ac⟩:=vW G;have ab:c.argTypes= #[T]:=ZP.1 (by simpa using Q);cases x<;>simp only[KF] at z
    case ch q=>exact .inl (Pq ho hc O ab ac z)
    all_goals first
     |exact z.elim
     |(rw[<-ac] at z;exact YK ho hc O ab z)
   .rename_i s x T U G Q;obtain⟨a,b,O,rfl,rfl⟩:=X8 G;exact .inl (Qab5 ho hc O (ZP.1 (by simpa using Q)) z)
   .rename_i m k T af G Q;obtain⟨a,b,O,rfl,rfl⟩:=X8 G;exact .inl (Qabh ho hc O Q z)
   .rename_i d s T U G Q;obtain⟨a,b,O,rfl,rfl⟩:=X8 G;exact .inl (U9 ho hc O (ZP.1 (by simpa using Q)) z)
   .rename_i d T G Q;obtain⟨a,O,rfl⟩:=vW G;exact .inl (Pl ho hc O (ZP.1 (by simpa using Q)) z)
   .rename_i x y G;obtain⟨a,b,O,rfl,rfl⟩:=X8 G;exact .inl (YL ho hc O z)
   .exact z.elim
end
def Qu(P:Program)(ops:Array Oper)(i:Nat)(a:Act)(w:World)(next:Act->World->Prop):Prop:=
 ∀(b:Frame) (k:List Item) (cs:List Frame) (rest:List Nat),∃a' w',next a' w'/\Steps P (lone (b.at a (.inRegion ops (i::rest)::k)) cs w) (lone (b.at a' (.inRegion ops rest::k)) cs w')
def Op.comm:Op->Bool
 | .send _ _| .recv _ _ _=>true
 |_=>false
def J1(P:Program)(ops:Array Oper)(i:Nat)(a:Act)(w:World)(next:Act->World->Prop):Prop:=
 (∃o,ops[i]? =some o/\Region.wanted o (yielded ops a.tmps)=true/\o.wp P a w next (λ_ _ _=>False))\/((∀o,ops[i]? =some o->Go.Ae.Op.comm o.op=true)/\Qu P ops i a w next)
def KI(P:Program)(ops:Array Oper)(Q:Act->World->Prop):List Nat->Act->World->Prop
 |[],a,w=>Q a w
 |i::z,a,w=>
  match ops[i]? with
  |none=>KI P ops Q z a w
  |some o=>if Region.wanted o (yielded ops a.tmps) then J1 P ops i a w (KI P ops Q z) else KI P ops Q z (a.put o.dst undef) w
section
variable {P:Program}{ops:Array Oper}{i:Nat}{o:Oper}{a:Act}{w:World}{next:Act->World->Prop}
def Qx0(ho:ops[i]? =some o)(hw:Region.wanted o (yielded ops a.tmps)=true)(h:o.wp P a w next (λ_ _ _=>False)):Qu P ops i a w next:=by
 intro b k cs rest;have hg:=stepG_op (P:=P) (b:=b) (a:=a) (k:=k) (cs:=cs) (w:=w) (rest:=rest) ho hw;have z: ∀v,(b.at a (.inRegion ops (i::rest)::k)).finish v=b.at (a.put o.dst v) (.inRegion ops rest::k):=λv=>by
  rw[Frame.finish_at,ho];rfl
 unfold Oper.wp Oper.upon at h;split at h
 .rename_i v Z O;refine⟨_,_,h,.one (step_lone_go ?_)⟩;rw[hg,<-z];simp[stepG.apply,O]
 .rename_i Z O;refine⟨_,_,h,.one (step_lone_go ?_)⟩;rw[hg,<-z];simp[stepG.apply,O]
 .rename_i d Z O;refine⟨_,_,h,.one (step_lone_go ?_)⟩;have h1:({b.at a (.inRegion ops (i::rest)::k) with defers:=d::a.defers}:Frame).finish undef=b.at ({a with defers:=d::a.defers}.put o.dst undef) (.inRegion ops rest::k):=by
   have h2:=Frame.finish_at b {a with defers:=d::a.defers} ops i rest k undef;rw[ho] at h2;exact h2
  rw[hg];simp only[stepG.apply,Sem.runT_eq,O,GStep.bare_after];exact BY (λfr=>GStep.go {frame:=fr,callers:=cs,status:= .running,dying:=none} Z) h1
 .rename_i f G Z O;obtain⟨e,w2,fr,hR,hs,_,hl⟩:=h (b.at a (.inRegion ops (i::rest)::k)::cs);have Q:_root_.Go.step P (lone (b.at a (.inRegion ops (i::rest)::k)) cs w)= .next (lone (Frame.enter P f G .normal) (b.at a (.inRegion ops (i::rest)::k)::cs) Z):=
   step_lone_go (by rw[hg];simp[stepG.apply,O,Frame.at])
  cases e with
  |returned v=>
   refine⟨_,_,hR,.head Q (hs.trans (.one ?_))⟩;rw[<-z];exact step_leave_returned hl
  |panicked c=>exact hR.elim
  |outgrown=>obtain⟨_,_,hR⟩:=hR;exact hR.elim
 .rename_i row G Z O;obtain⟨v,w2,hR,hs⟩:=h (b.at a (.inRegion ops (i::rest)::k)) cs;have Q:_root_.Go.step P (lone (b.at a (.inRegion ops (i::rest)::k)) cs w)= .next (lone (Frame.ofRow P row G .normal) (b.at a (.inRegion ops (i::rest)::k)::cs) Z):=
   step_lone_go (by rw[hg];simp[stepG.apply,O,Frame.at])
  refine⟨_,_,hR,.head Q ?_⟩;rw[<-z];exact hs
 .exact h.elim
 .exact h.elim
def Qab1(z:ops[i]? =some o)(G:Region.wanted o (yielded ops a.tmps)=true)(h:o.wp P a w next (λ_ _ _=>False)):J1 P ops i a w next:= .inl ⟨o,z,G,h⟩
def Ty(h:J1 P ops i a w next):Qu P ops i a w next:=by
 rcases h with ⟨o,z,G,O⟩|⟨_,h⟩
 .exact Qx0 z G O
 .exact h
end
def zT{P:Program}{ops:Array Oper}{Q:Act->World->Prop}: ∀(l:List Nat) (a:Act) (w:World),KI P ops Q l a w-> ∀(b:Frame) (k:List Item) (cs:List Frame),
 ∃a' w',Q a' w'/\Steps P (lone (b.at a (.inRegion ops l::k)) cs w) (lone (b.at a' k) cs w')
 |[],a,w,h,b,k,cs=>⟨a,w,h,.one step_region_end⟩
 |i::rest,a,w,h,b,k,cs=>by
  simp only[KI] at h;cases ho:ops[i]? with
  |none=>
   rw[ho] at h;obtain⟨a',w',hq,G⟩:=zT rest a w h b k cs;have z:=step_op_skip (P:=P) (b:=b) (a:=a) (k:=k) (cs:=cs) (w:=w) (ops:=ops) (i:=i) (rest:=rest) (by simp[ho]);rw[ho] at z;exact⟨a',w',hq,.head z G⟩
  |some o=>
   rw[ho] at h;simp only at h;split at h
   .obtain⟨a1,w1,z,O⟩:=Ty h b k cs rest;obtain⟨a',w',hq,G⟩:=zT rest a1 w1 z b k cs;exact⟨a',w',hq,O.trans G⟩
   .rename_i Z;obtain⟨a',w',hq,G⟩:=zT rest _ w h b k cs;have z:=step_op_skip (P:=P) (b:=b) (a:=a) (k:=k) (cs:=cs) (w:=w) (ops:=ops) (i:=i) (rest:=rest) (by simp[ho,Z]);rw[ho] at z;exact⟨a',w',hq,.head z G⟩
def OT{P:Program}{id:Nat}{ops:Array Oper}{Q:Exit->Act->World->Prop}{a:Act}{w:World}(h:KI P ops (Q .normal) (List.range ops.size) a w):(Code.region id ops false).wp P Q a w:=by
 intro b k cs;obtain⟨a',w',hq,z⟩:=zT _ a w h b k cs;exact⟨.normal,a',w',hq,.head step_region z⟩
section
variable {P:Program}{ops:Array Oper}{i:Nat}{o:Oper}{a:Act}{w:World}{next:Act->World->Prop}
def Qjg{z:Frame}{cs:List Frame}{w Q:World}{cases:Array CommCase}{G:Bool}{O:CommShape}{g:Goroutine}
 (h:(stepG P true {frame:=z,callers:=cs,status:= .running,dying:=none} w).bare= .comm g cases G O Q):
 _root_.Go.step P (lone z cs w)=(communicate P {timers:= #[],alone:=none,slice:=none} #[{(default:Goroutine) with status:= .finished}] 0 g cases G O Q).1:=by
 generalize hs:stepG P true {frame:=z,callers:=cs,status:= .running,dying:=none} w=s at h;cases s<;>simp at h;obtain⟨rfl,rfl,rfl,rfl,rfl⟩:=h;rw[_root_.Go.step,stepT,move_lone];simp[runT,lone,Array.swapAt!,hs]
def Qon(c:Nat)(s:Bool):partners #[{(default:Goroutine) with status:= .finished}] c s=[]:=by
 simp[partners]
def Qp5{Q:Frame}{cs:List Frame}{w Z:World}{c cap s r:Nat}{G:Array Value}{tm:Bool}{v z:Value}
 (h:(stepG P true {frame:=Q,callers:=cs,status:= .running,dying:=none} w).bare= .comm {frame:=Q,callers:=cs,status:= .running,dying:=none} #[{chan:= .chan (some c),send:=some v,zero:=z}] true .send Z)
 (hc:Z.heap[c]? =some (.chan cap G false s r tm))(O:G.size<cap):
 _root_.Go.step P (lone Q cs w)= .next (lone (Q.finish undef) cs {Z with heap:=Z.heap.setIfInBounds c (.chan cap (G.push v) false (s+1) r tm)}):=by
 rw[Qjg h];simp[communicate,ways,hc,Qon,O,choose,Sem.run,Question.forced,bind,Sem.bind,pure,Goroutine.finishComm,commResult,lone]
def Qp7{Q:Frame}{cs:List Frame}{w Z:World}{c cap s r:Nat}{G:Array Value}{tm cl:Bool}{z:Value}
 (h:(stepG P true {frame:=Q,callers:=cs,status:= .running,dying:=none} w).bare= .comm {frame:=Q,callers:=cs,status:= .running,dying:=none} #[{chan:= .chan (some c),send:=none,zero:=z}] true (.recv false) Z)
 (hc:Z.heap[c]? =some (.chan cap G cl s r tm))(O:0<G.size):
 _root_.Go.step P (lone Q cs w)= .next (lone (Q.finish (G.getD 0 undef)) cs {Z with heap:=Z.heap.setIfInBounds c (.chan cap (G.extract 1 G.size) cl s (r+1) tm)}):=by
 rw[Qjg h];simp[communicate,ways,hc,Qon,O,choose,Sem.run,Question.forced,bind,Sem.bind,pure,Goroutine.finishComm,commResult,lone]
def OH{ch x:Operand}(ho:ops[i]? =some o)(hw:Region.wanted o (yielded ops a.tmps)=true)(aa:o.op= .send ch x){c cap s r:Nat}{G:Array Value}{tm:Bool}(ab:a.eval ch= .chan (some c))
 (hc:w.heap[c]? =some (.chan cap G false s r tm))(O:G.size<cap)(hn:next (a.put o.dst undef) {w with heap:=w.heap.setIfInBounds c (.chan cap (G.push (a.eval x)) false (s+1) r tm)}):J1 P ops i a w next:=by
 refine .inr ⟨λo' Z=>by rw[ho] at Z;obtain rfl:=Aw Z;rw[aa];rfl,?_⟩;intro b k cs rest;have hg:=stepG_op (P:=P) (b:=b) (a:=a) (k:=k) (cs:=cs) (w:=w) (rest:=rest) ho hw;have Q: ∀v,(b.at a (.inRegion ops (i::rest)::k)).finish v=b.at (a.put o.dst v) (.inRegion ops rest::k):=λv=>by
  rw[Frame.finish_at,ho];rfl
 refine⟨_,_,hn,.one ?_⟩;rw[<-Q];have hr:(execOp a.eval o).run P w= .ok (.comm #[{chan:= .chan (some c),send:=some (a.eval x),zero:= .tuple #[]}] true .send) w:=by
  simp[execOp,aa,ab]
 exact Qp5 (z:= .tuple #[]) (v:=a.eval x) (by rw[hg];simp[stepG.apply,hr,Frame.at]) hc O
def OG{ch:Operand}{T e:TypeId}{d:ChanDir}{z:Value}(ho:ops[i]? =some o)(hw:Region.wanted o (yielded ops a.tmps)=true)(aa:o.op= .recv T ch false)(hT:P.underlying T=some (.chan d e))(hz:(zeroValue e).run P w= .ok z w)
 {c cap s r:Nat}{G:Array Value}{tm cl:Bool}(ab:a.eval ch= .chan (some c))
 (hc:w.heap[c]? =some (.chan cap G cl s r tm))(O:0<G.size)(hn:next (a.put o.dst (G.getD 0 undef)) {w with heap:=w.heap.setIfInBounds c (.chan cap (G.extract 1 G.size) cl s (r+1) tm)}):J1 P ops i a w next:=by
 refine .inr ⟨λo' Z=>by rw[ho] at Z;obtain rfl:=Aw Z;rw[aa];rfl,?_⟩;intro b k cs rest;have hg:=stepG_op (P:=P) (b:=b) (a:=a) (k:=k) (cs:=cs) (w:=w) (rest:=rest) ho hw;have Q: ∀v,(b.at a (.inRegion ops (i::rest)::k)).finish v=b.at (a.put o.dst v) (.inRegion ops rest::k):=λv=>by
  rw[Frame.finish_at,ho];rfl
 refine⟨_,_,hn,.one ?_⟩;rw[<-Q];have hu:(underlying T).run P w= .ok (.chan d e) w:=by simp[underlying,hT]
 have hr:(execOp a.eval o).run P w= .ok (.comm #[{chan:= .chan (some c),send:=none,zero:=z}] true (.recv false)) w:=by
  simp[execOp,aa,ab,hu,hz]
 exact Qp7 (z:=z) (by rw[hg];simp[stepG.apply,hr,Frame.at]) hc O
end
structure CP(C:AT)(N:Nat)(s:Az)(S:Au)(a:Act):Prop where
 wf:Wf C S
 h: ∀n,S.h n=hget s.h n
 tm: ∀t,Aa S (Ay s.tm t) (a.eval (.tmp t))
 nmT: ∀t,∀m∈(Ay s.tm t).nms,m<s.nx
 nmH: ∀n e,hget s.h n=some e->n<s.nx/\ ∀m∈e.2.nms,m<s.nx
 size:a.tmps.size=N
 defers:a.defers=C.ds
 n0:C.n0<=s.nx
 pre:C.Pre S
def Qy2{C:AT}{S S':Au}{nx cnt:Nat}(h:C.Pre S)(hn:C.n0<=nx)(hp:B3 (λm=> ¬Fr nx cnt m) S S'):C.Pre S':=by
 intro o ho e' z;obtain⟨e,Q,Z,h3,h4⟩:=hp.nm o (λhf=>by have:=hf.1;omega) e' z;obtain⟨G,g1,g2,g3,O⟩:=h o ho e Q;exact⟨G,g1,Z.trans g2,h3.trans g3,h4.trans O⟩
def BL(C:AT)(N:Nat)(s:Az)(a:Act)(w:World):Prop:= ∃S,S.w=w/\CP C N s S a
def nH(S:Au)(tm:List (Nat×AV))(f:FuncId):Aa S (Aq tm (.func f)) (.func (.func f) #[] #[]):=by
 simp only[Aq];cases hb:Nat.blt f 1000000000 with
 |true=>simp only[C3,Aa,rd,rdl];exact⟨#[],#[],by rw[WL (by simpa using hb)],rfl,rfl⟩
 |false=>simp only[Ct,Aa]
def QG{C:AT}{N:Nat}{s:Az}{S:Au}{a:Act}(h:CP C N s S a)(x:Operand):Aa S (Aq s.tm x) (a.eval x):=by
 cases x with
 |tmp t=>exact h.tm t
 |const v=>exact cG S v
 |global g=>simp only[Aq,Aa,rd,Act.eval]
 |func f=>exact nH S s.tm f
def Lu{tm:List (Nat×AV)}{nx:Nat}(h: ∀t,∀m∈(Ay tm t).nms,m<nx)(x:Operand): ∀m∈(Aq tm x).nms,m<nx:=by
 cases x with
 |tmp t=>exact h t
 |const v=>
  intro m z;simp only[Aq] at z;unfold kD at z;split at z<;>simp[AV.nms] at z
 |global g=>intro m z;simp[Aq,AV.nms] at z
 |func f=>intro m z;simp only[Aq] at z;cases hb:Nat.blt f 1000000000<;>rw[hb] at z<;>simp[AV.nms] at z
mutual
def sX{n:Nat}: ∀(x:AV),x.bel n=true-> ∀m∈x.nms,m<n
 | .any,_=>by simp[AV.nms]
 | .im _,_=>by simp[AV.nms]
 | .agg cs,h=>by simpa only[AV.nms] using Zq cs (by simpa only[AV.bel] using h)
 | .tup cs,h=>by simpa only[AV.nms] using Zq cs (by simpa only[AV.bel] using h)
 | .ptr o _,h=>by simpa[AV.nms,AV.bel] using h
 | .eptr o _ _,h=>by simpa[AV.nms,AV.bel] using h
 | .own o,h=>by simpa[AV.nms,AV.bel] using h
 | .mp o,h=>by simpa[AV.nms,AV.bel] using h
 | .ch o,h=>by simpa[AV.nms,AV.bel] using h
 | .it o,h=>by simpa[AV.nms,AV.bel] using h
 | .osl o _ _,h=>by simpa[AV.nms,AV.bel] using h
 | .clo _ a c,h=>by
   simp only[AV.bel,AO] at h;simp only[AV.nms,Bp];rintro m (z|z)
   .exact Zq a h.1 m z
   .exact Zq c h.2 m z
def Zq{n:Nat}: ∀(xs:List AV),AN n xs=true-> ∀m∈A9 xs,m<n
 |[],_=>by simp[A9]
 |x::xs,h=>by
  simp only[AN,AO] at h;simp only[A9,Bp];rintro m (z|z)
  .exact sX x h.1 m z
  .exact Zq xs h.2 m z
end
def nP{n:Nat}: ∀(z:List (List AV)),z.all (AN n)=true-> ∀m∈BB z,m<n
 |[],_=>by simp[BB]
 |r::z,h=>by
  simp only[KP,AO] at h;simp only[BB,Bp];rintro m (G|G)
  .exact Zq r h.1 m G
  .exact nP z h.2 m G
def eI{n:Nat}: ∀(hs:Ar),AD n hs=true-> ∀o e,hget hs o=some e-> ∀m∈e.2.nms,m<n
 |[],_,o,e,h=>by simp[hget] at h
 |(q,Q,O)::hs,z,o,e,h=>by
  have G:(∀m∈O.nms,m<n)/\AD n hs=true:=by
   cases O<;>simp only[AD,AO] at z
   .exact⟨Zq _ z.1,z.2⟩
   .exact⟨by simp[Ag.nms],z⟩
   .exact⟨nP _ z.1,z.2⟩
   .exact⟨by simp[Ag.nms],z⟩
   .exact⟨by simp[Ag.nms],z⟩
   .exact⟨by simp[Ag.nms],z⟩
   .exact⟨by simp[Ag.nms],z⟩
  simp only[hget] at h;cases hq:q==o<;>rw[hq] at h
  .exact eI hs G.2 o e (by simpa using h)
  .simp only[C3,AI] at h;subst h;exact G.1
def Qlm{ks:List Nat}{nx cnt:Nat}: ∀(hs:Ar),NH ks nx cnt hs=true-> ∀o e,hget hs o=some e->(nx<=o/\o<nx+cnt)\/(o∈ks/\o<nx)
 |[],_,o,e,h=>by simp[hget] at h
 |(q,x)::hs,z,o,e,h=>by
  simp only[NH,AO] at z;simp only[hget] at h;cases hq:q==o<;>rw[hq] at h
  .exact Qlm hs z.2 o e (by simpa using h)
  .have G:q=o:=by simpa using hq
   subst G
   have:=z.1
   simp only[IR,HY,AO,Qc,H5,G6] at this;exact this
def zE(a b:Ar)(n:Nat):hget (a++b) n=match hget a n with|some e=>some e|none=>hget b n:=by
 induction a with
 |nil=>rfl
 |cons x a ih=>
  obtain⟨q,e⟩:=x;simp only[CW,hget];cases q==n<;>simp[ih]
def zH(ks:List Nat)(n:Nat): ∀(a:Ar),hget (Cn a ks) n=bif ks.contains n then none else hget a n
 |[]=>by simp[Cn,hget]
 |(q,e)::a=>by
  simp only[Cn];have ih:=zH ks n a;cases hq:ks.contains q
  .simp only[Ct,hget,ih];cases hqn:q==n
   .simp
   .have:q=n:=by simpa using hqn
    subst this;have z:q∉ks:=by simpa using hq
    simp[z]
  .simp only[C3,ih,hget];cases hqn:q==n
   .simp
   .have:q=n:=by simpa using hqn
    subst this;have z:q∈ks:=by simpa using hq
    simp[z]
def xO{a:Act}{dst:Option Nat}{v:Value}{t:Nat}(hd: ∀d,dst=some d->d<a.tmps.size):
 (a.put dst v).eval (.tmp t)=if dst=some t then v else a.eval (.tmp t):=by
 cases dst with
 |none=>simp[Act.put]
 |some d=>
  have:=hd d rfl
  simp only[Act.put,Act.eval,H2,WX,AI];by_cases h:d=t
  .subst h;simp[this]
  .simp[h]
def Vh{s:Az}{dst:Option Nat}{x:AV}{t:Nat}:Ay (s.put dst x).tm t=if dst=some t then x else Ay s.tm t:=by
 cases dst with
 |none=>simp[Az.put]
 |some d=>
  simp only[Az.put,Ay,AI];by_cases h:d=t
  .subst h;simp
  .have:(d==t)=false:=by simpa using h
   simp[this,h]
def Qxs{C:AT}{N:Nat}{s:Az}{S S':Au}{a:Act}{dst:Option Nat}{r:AV}{E:Bz}{v:Value}(z:CP C N s S a)(aa:E.ok s.nx r=true)(hd: ∀d,dst=some d->d<N)
 (hW:Wf C S')(hh:S'.h=E.appf S.h)(hp:B3 (λm=> ¬Fr s.nx E.cnt m) S S')(hv:Aa S' r v):CP C N (s.app dst r E) S' (a.put dst v):=by
 simp only[Bz.ok,AO] at aa;obtain⟨af,ag,ah⟩:=aa;have O: ∀n,hget (E.new++Cn s.h E.kill) n=E.appf (hget s.h) n:=by
  intro n;rw[zE,zH];simp only[Bz.appf];cases hget E.new n<;>rfl
 have ad:S.h=hget s.h:=funext z.h;have Q:(s.app dst r E).nx=s.nx+E.cnt:=by cases dst<;>rfl
 have ab:(s.app dst r E).h=E.new++Cn s.h E.kill:=by cases dst<;>rfl
 have ac: ∀t,Ay (s.app dst r E).tm t=if dst=some t then r else Ay s.tm t:=λt=>Vh
 refine⟨hW,?_,?_,?_,?_,?_,?_,?_,Qy2 z.pre z.n0 hp⟩
 .intro n;rw[ab,O,hh,ad]
 .intro t;rw[ac,xO (λd h=>by rw[z.size];exact hd d h)];split
  .exact hv
  .refine Hu hp _ _ ?_ (z.tm t);intro m Z ai
   have:=z.nmT t m Z
   have:=ai.1
   omega
 .intro t;rw[ac,Q];split
  .exact sX r af
  .intro m Z;have:=z.nmT t m Z;omega
 .intro n e G;rw[ab,zE] at G;rw[Q];cases hn:hget E.new n with
  |some e'=>
   rw[hn] at G;obtain rfl:=Aw G;refine⟨?_,eI _ ag n _ hn⟩;rcases Qlm _ ah n _ hn with h|h<;>omega
  |none=>
   rw[hn] at G;simp only[zH] at G;cases hk:E.kill.contains n<;>rw[hk] at G
   .obtain⟨h1,h2⟩:=z.nmH n e (by simpa using G);exact⟨by omega,λm Z=>by have:=h2 m Z;omega⟩
   .simp at G
 .cases dst<;>simp[Act.put,z.size]
 .cases dst<;>simp[Act.put,z.defers]
 .rw[Q];exact BR z.n0 (uL _ _)
def Qty{P:Program}{V:Df}(HV:Hi P V){C:AT}{N:Nat}{s:Az}{a:Act}{w:World}{ops:Array Oper}{i:Nat}{o:Oper}{go:Az->Prop}(au:ops[i]? =some o)(hw:Region.wanted o (yielded ops a.tmps)=true)(hd: ∀d,o.dst=some d->d<N)
 (G:Ji P V o.dst o.op o.type go s)(O:BL C N s a w){next:Act->World->Prop}(hn: ∀s' a' w',go s'->BL C N s' a' w'->next a' w'):J1 P ops i a w next:=by
 obtain⟨S,rfl,O⟩:=O;have bf:S.h=hget s.h:=funext O.h;unfold Ji at G;have az:step P V true s.tm (hget s.h) s.nx o.type (SN go s o.dst) o.op->J1 P ops i a S.w next:=by
  intro G;refine Qab1 au hw ?_;have am: ∀n,s.nx<=n->S.h n=none:=by
   intro n aj;cases hn:S.h n with
   |none=>rfl
   |some e=>
    have:=(O.nmH n e (by rw[<-O.h n];exact hn)).1
    omega
  have an: ∀n e,S.h n=some e-> ∀m∈e.2.nms,m<s.nx:=λn e he m hm=>(O.nmH n e (by rw[<-O.h n];exact he)).2 m hm
  rcases Qrc HV (Lu O.nmT) G with ⟨r,E,ai,ad,ag⟩|⟨_,⟨u,aw⟩|ba⟩
  .refine ai C S a next _ O.wf (λn _=>O.h n) (λn aj=>am n aj.1) ?_ (λx _=>QG O x) ?_
   .intro n e he m hm aj
    have:=an n e he m hm
    have:=aj.1
    omega
   .intro v S' hW hh hp hv;exact hn _ _ _ ag ⟨S',rfl,Qxs O ad hd hW hh hp hv⟩
  .exact absurd (aw C S a O.wf (λn _=>O.h n) (λx _=>QG O x)) id
  .refine ba C S a next _ O.wf O.h am an (λx _=>QG O x) ?_
   intro r E v S' hK hW hh hp hv;obtain⟨ad,ag⟩:=hK;exact hn _ _ _ ag ⟨S',rfl,Qxs O ad hd hW hh hp hv⟩
 have chan: ∀(q cap:Nat) (bu af:List D) (l:Fe) (aa:Array Value) (Z Q:Nat) (r:AV) (v:Value),S.h q=some (true,.chan bu cap)->S.ρ q=some l->rdl S.ok S.hp af aa.toList->
  (∀S':Au,(∀b,S.ok b->S'.ok b/\S'.hp b=S.hp b)->Aa S' r v)->
  SN go s o.dst r {use:=[q],kill:=[q],new:=[(q,(true,.chan af cap))]}->next (a.put o.dst v) {S.w with heap:=S.w.heap.setIfInBounds l.b (.chan cap aa false Z Q false)}:=by
  intro q cap bu af l aa Z Q r v hS hl hb hv hK
  let w':World:={S.w with heap:=S.w.heap.setIfInBounds l.b (.chan cap aa false Z Q false)}
  have ao:HW S q (.chan af cap) (some l) [q] w':=Zy O.wf hS hl (w':=w') (ob:= .chan cap aa false Z Q false) rfl rfl rfl rfl rfl rfl;have ak:=W6 O.wf ao;have ay:Al (S.one q (.chan af cap) (some l) [q] w') (some l) (.chan af cap):=by
   simp only[Al];exact⟨l,aa,Z,Q,rfl,eQ (O.wf.loc q _ l hS hl).1 rfl,KB ak.ok _ _ hb⟩
  have a0:=Z6 O.wf ao ay;obtain⟨ad,ag⟩:=hK;refine hn _ _ _ ag ⟨_,rfl,Qxs O ad hd a0 ?_ ⟨ak.ok,λn hX=>ak.nm n (.inl (by rw[hS];simp))⟩ (hv _ ak.ok)⟩;funext n;simp only[Au.one,Bz.appf,Go.Ae.hget];by_cases av:n=q
  .subst av;simp
  .have:(q==n)=false:=by rw[H4];exact λh=>av h.symm
   simp[this,av]
 unfold DO at G;split at G
 .rename_i c x ai;unfold K4 at G;split at G
  .rename_i q d aq bc;have h1:=QG O c;have h2:=QG O x;rw[aq] at h1;rw[bc] at h2;cases hq:hget s.h q with
   |none=>rw[hq] at G;exact G.elim
   |some ac=>
    obtain⟨mu,ac⟩:=ac;rw[hq] at G;cases mu<;>cases ac<;>try exact G.elim
    rename_i bu cap;simp only[iU] at G;obtain⟨a9,G⟩:=G;have hS:=(O.h q).trans hq;simp only[Aa] at h1 h2;obtain⟨l,hl,hv⟩:=h1.2 _ hS;have ah:=O.wf.obj _ _ hS;simp only[Al] at ah;obtain⟨lc,ab,Z,Q,g1,g2,g3⟩:=ah;rw[hl] at g1;obtain rfl:=Aw g1;have ax:=eL _ _ g3;simp only[Dm] at ax;refine OH au hw ai hv g2 (by omega) ?_;refine chan q cap bu (bu++[d]) l (ab.push (a.eval x)) (Z+1) Q .any undef hS hl ?_ (λ_ _=>by simp only[Aa]) G;rw[Zen]
    have: ∀(ds:List D) (vs:List Value),rdl S.ok S.hp ds vs->rdl S.ok S.hp (ds++[d]) (vs++[a.eval x]):=by
     intro ds;induction ds with
     |nil=>intro vs h;simp only[rdl] at h;subst h;simp only[Fb,rdl];exact⟨_,_,rfl,h2,rfl⟩
     |cons y ys ih=>
      intro vs h;simp only[rdl] at h;obtain⟨v,r,rfl,k1,k2⟩:=h;simp only[CW,rdl];exact⟨_,_,rfl,k1,ih r k2⟩
    exact this _ _ g3
  .exact G.elim
 .rename_i T c ai;unfold K3 at G;cases hce:Vt P T with
  |none=>rw[hce] at G;exact G.elim
  |some e=>
  rw[hce] at G;simp only[rvK] at G;cases hE:tI P e with
  |none=>rw[hE] at G;exact G.elim
  |some te=>
  rw[hE] at G;simp only[Bi,rvE] at G;obtain⟨bd,hz,G⟩:=G;obtain⟨z,be,_⟩:=dQ hE bd hz;obtain⟨dr,hu⟩:=Qpi hce;have h1:=QG O c;cases aq:Aq s.tm c<;>rw[aq] at G h1<;>try exact G.elim
  rename_i q;simp only[rvC] at G;cases hq:hget s.h q with
  |none=>rw[hq] at G;exact G.elim
  |some ac=>
   obtain⟨mu,ac⟩:=ac;rw[hq] at G;cases mu<;>cases ac<;>try exact G.elim
   rename_i bu cap;simp only[iS] at G;obtain⟨a8,G⟩:=G;obtain⟨d,r,rfl⟩:=ZdR a8;have G:=G d r rfl;have hS:=(O.h q).trans hq;simp only[Aa] at h1;obtain⟨l,hl,hv⟩:=h1.2 _ hS;have ah:=O.wf.obj _ _ hS;simp only[Al] at ah;obtain⟨lc,ab,Z,Q,g1,g2,g3⟩:=ah;rw[hl] at g1;obtain rfl:=Aw g1;simp only[rdl] at g3;obtain⟨v0,vr,k1,k2,k3⟩:=g3;have bb:0<ab.size:=by rw[<-Dm,k1];simp
   have h0:ab.getD 0 undef=v0:=by
    have:ab.toList[0]? =some v0:=by rw[k1];rfl
    rw[H2,<-GU,this];rfl
   have hx:(ab.extract 1 ab.size).toList=vr:=by
    rw[Zfv,k1];simp only[List.extract,JN,FR];apply DP;rw[<-Dm,k1];simp
   refine OG au hw ai hu (be _) hv g2 bb ?_;rw[h0];refine chan q cap (d::r) r l _ Z (Q+1) (.im d) v0 hS hl (by rw[hx];exact k3) (λS' ad=> ?_) G;simp only[Aa];exact FL ad _ _ k2
 .exact az G
def Lm{C:AT}{N:Nat}{s:Az}{a:Act}{w:World}(z:BL C N s a w){dst:Option Nat}(hd: ∀d,dst=some d->d<N){x:AV}{v:Value}(hx:x.nms=[])(hv: ∀S,Aa S x v):BL C N (s.put dst x) (a.put dst v) w:=by
 obtain⟨S,rfl,z⟩:=z;have Q:(s.put dst x).h=s.h:=by cases dst<;>rfl
 have G:(s.put dst x).nx=s.nx:=by cases dst<;>rfl
 refine⟨S,rfl,z.wf,λn=>by rw[Q];exact z.h n,?_,?_,?_,?_,?_,by rw[G];exact z.n0,z.pre⟩
 .intro t;rw[Vh,xO (λd h=>by rw[z.size];exact hd d h)];split
  .exact hv S
  .exact z.tm t
 .intro t;rw[Vh,G];split
  .rw[hx];intro m Z;cases Z
  .exact z.nmT t
 .intro n e O;rw[Q] at O;rw[G];exact z.nmH n e O
 .cases dst<;>simp[Act.put,z.size]
 .cases dst<;>simp[Act.put,z.defers]
def Js(N:Nat):List Oper->Bool
 |[]=>true
 |o::r=>(match o.dst with|some d=>Nat.blt d N|none=>true) && Js N r
def Qqk{C:AT}{N:Nat}{s:Az}{S:Au}{a:Act}(O:CP C N s S a){ops:Array Oper}{j t:Nat}(Q:(ops[j]?).bind (·.dst)=some t){b:Bool}(G:Ay s.tm t= .im (.bool b)):
 yielded ops a.tmps j=some b:=by
 have z:=O.tm t;rw[G] at z;simp only[Aa,rd,Act.eval] at z;unfold yielded;rw[Q];simp only[H3];rw[H2] at z;cases hq:a.tmps[t]? with
 |none=>rw[hq] at z;simp[undef] at z
 |some v=>rw[hq] at z;simp at z;rw[z]
def Qpr{P:Program}{V:Df}(HV:Hi P V){C:AT}{N:Nat}{ops:Array Oper}{K:Az->Prop}{Q:Exit->Act->World->Prop}(hQ: ∀s a w,K s->BL C N s a w->Q .normal a w):
 ∀(rest more:List Oper) (i:Nat),ops.toList.drop i=rest++more->Js N rest=true-> ∀(s:Az) (a:Act) (w:World),K0 P V (Gc ops rest) K s->BL C N s a w->KI P ops (Q .normal) (List.range' i rest.length) a w:=by
 intro rest more;induction rest with
 |nil=>
  intro i _ _ s a w G hc;simp only[Gc,K0] at G;simpa[KI] using hQ s a w G hc
 |cons o rest ih=>
  intro i hi hd s a w G hc;simp only[Js,AO] at hd;have ad:ops[i]? =some o:=by
   have:(ops.toList.drop i)[0]? =some o:=by rw[hi];rfl
   simpa using this
  have aj:ops.toList.drop (i+1)=rest++more:=by
   have:(ops.toList.drop i).drop 1=rest++more:=by rw[hi];rfl
   rwa [DX] at this
  have Z: ∀d,o.dst=some d->d<N:=by
   intro d ai
   have:=hd.1
   rw[ai] at this;simpa using this
  have O: ∀s' a' w',K0 P V (Gc ops rest) K s'->BL C N s' a' w'->KI P ops (Q .normal) (List.range' (i+1) rest.length) a' w':=λs' a' w' h1 h2=>ih (i+1) aj hd.2 s' a' w' h1 h2
  simp only[Cr,List.range'_succ,KI,ad];simp only[Gc,K0] at G;cases hg:o.guard with
  |none=>
   rw[hg] at G;simp only[WS,wX] at G;rw[Ai (by simp[Region.wanted,hg])];exact Qty HV ad (by simp[Region.wanted,hg]) Z G hc O
  |some g=>
   obtain⟨j,aa⟩:=g;rw[hg] at G;simp only[WS,wX] at G;cases ht:(ops[j]?).bind (·.dst) with
   |none=>rw[ht] at G;exact G.elim
   |some t=>
    rw[ht] at G;simp only[XM] at G;cases hb:Ay s.tm t<;>rw[hb] at G<;>try exact G.elim
    rename_i d;cases d<;>try exact G.elim
    case tup cs=>
     cases cs with
     |cons _ _=>exact G.elim
     |nil=>
      simp only[W7,ME] at G;have hy:yielded ops a.tmps j=none:=by
       obtain⟨S,_,z⟩:=hc;have h1:=z.tm t;rw[hb] at h1;simp only[Aa,rd,rdl,Act.eval] at h1;obtain⟨vs,h1,h2⟩:=h1;unfold yielded;rw[ht];simp only[H3];rw[H2] at h1;cases hq:a.tmps[t]? with
       |none=>rfl
       |some v=>rw[hq] at h1;simp at h1;rw[h1]
      rw[Ad (by simp[Region.wanted,hg,hy])];exact O _ _ _ G (Lm hc Z rfl (λS=>by simp only[Aa,rd,rdl];exact⟨#[],rfl,rfl⟩))
    case bool b=>
    simp only[W7] at G;obtain⟨S,ag,z⟩:=hc;have hy:=Qqk z ht hb;have ac: ∀b':Bool,b=b'->BL C N (s.put (some t) (.im (.bool b'))) a w:=by
     intro b' ah;subst ah;refine⟨S,ag,z.wf,z.h,?_,?_,z.nmH,z.size,z.defers,z.n0,z.pre⟩
     .intro t';rw[Vh];split
      .rename_i h;cases h;have:=z.tm t;rwa [hb] at this
      .exact z.tm t'
     .intro t';rw[Vh];split
      .intro m hm;simp[AV.nms] at hm
      .exact z.nmT t'
    by_cases ab:b=aa
    .rw[Ai (by simp[Region.wanted,hg,hy,ab])];exact Qty HV ad (by simp[Region.wanted,hg,hy,ab]) Z (G.1 ab) (ac aa ab) O
    .rw[Ad (by simp[Region.wanted,hg,hy,ab])];have af:b= !aa:=by cases b<;>cases aa<;>simp_all
     have h2:=G.2 af;simp only[ME] at h2;exact O _ _ _ h2 (Lm (ac _ af) Z rfl (λS=>by simp only[Aa,rd,rdl];exact⟨#[],rfl,rfl⟩))
def Qt0{P:Program}{V:Df}(z:Hi P V){C:AT}{N id:Nat}{ops:Array Oper}{K:Az->Prop}{Q:Exit->Act->World->Prop}(G: ∀s a w,K s->BL C N s a w->Q .normal a w)
 (hd:Js N ops.toList=true){s:Az}{a:Act}{w:World}(Z:K0 P V (Gc ops ops.toList) K s)(O:BL C N s a w):(Code.region id ops false).wp P Q a w:=by
 refine OT ?_
 have:=Qpr z (ops:=ops) G ops.toList [] 0 (by simp) hd s a w Z O
 rwa [Dm,<-Zev] at this
structure Ev where
 i:Nat
 o:Oper
 s:Az
 r:AV
 E:Bz
 skip:Bool
def HD(D:Nat->Bool):List Ev->(Nat->Option Ap)->(Nat->Option Ap)
 |[],h=>h
 |e::r,h=>HD D r (bif D e.i then e.E.appf h else h)
def TD(D:Nat->Bool):List Ev->(Nat->AV)->(Nat->AV)
 |[],f=>f
 |e::r,f=>TD D r (λt=>bif D e.i && (e.o.dst==some t) then e.r else f t)
def Qwh{n:Nat}: ∀(hs:Ar),n∉KC hs->hget hs n=none
 |[],_=>rfl
 |(q,e)::hs,h=>by
  simp only[KC,Bx,ZU] at h
  have:(q==n)=false:=by rw[H4];exact λh'=>h.1 h'.symm
  simp only[hget,this,Ct];exact Qwh hs h.2
def Qur{n:Nat}: ∀(hs:Ar),n∈KC hs-> ∃e,hget hs n=some e
 |[],h=>by simp[KC] at h
 |(q,e)::hs,h=>by
  simp only[KC,Bx] at h;simp only[hget];cases hq:q==n
  .have z:q≠n:=by simpa using hq
   rcases h with rfl|h
   .exact absurd rfl z
   .simpa using Qur hs h
  .exact⟨e,by simp⟩
def sC{E:Bz}{h:Nat->Option Ap}{n:Nat}(hn:n∉E.touch):E.appf h n=h n:=by
 simp only[Bz.touch,Bp,ZU] at hn;simp[Bz.appf,Qwh _ hn.2,hn.1]
def Xh{E:Bz}{h h':Nat->Option Ap}{n:Nat}(hn:n∈E.touch):E.appf h n=E.appf h' n:=by
 simp only[Bz.appf];cases hg:hget E.new n with
 |some e=>rfl
 |none=>
  simp only[Bz.touch,Bp] at hn;rcases hn with hn|hn
  .simp[hn]
  .obtain⟨e,z⟩:=Qur _ hn;rw[z] at hg;cases hg
def Qym{E:Bz}{h h':Nat->Option Ap}{n:Nat}(z:h n=h' n):E.appf h n=E.appf h' n:=by
 simp only[Bz.appf,z]
def kL{D D':Nat->Bool}{n:Nat}: ∀(evs:List Ev) (h h':Nat->Option Ap),h n=h' n->(∀e∈evs,D e.i≠D' e.i->n∉e.E.touch)->HD D evs h n=HD D' evs h' n
 |[],_,_,z,_=>z
 |e::r,h,h',z,hd=>by
  simp only[HD];refine kL r _ _ ?_ (λx G=>hd x (by simp[G]));cases h1:D e.i<;>cases h2:D' e.i
  .simpa using z
  .have:=hd e (by simp) (by rw[h1,h2];simp)
   simp only[Ct,C3];rw[sC this];exact z
  .have:=hd e (by simp) (by rw[h1,h2];simp)
   simp only[Ct,C3];rw[sC this];exact z
  .simp only[C3];exact Qym z
def kV{D D':Nat->Bool}{t:Nat}: ∀(evs:List Ev) (f f':Nat->AV),f t=f' t->(∀e∈evs,D e.i≠D' e.i->e.o.dst≠some t)->TD D evs f t=TD D' evs f' t
 |[],_,_,z,_=>z
 |e::r,f,f',z,hd=>by
  simp only[TD];refine kV r _ _ ?_ (λx G=>hd x (by simp[G]));by_cases hq:e.o.dst=some t
  .have:D e.i=D' e.i:=by
    rcases Decidable.em (D e.i=D' e.i) with h|h
    .exact h
    .exact absurd hq (hd e (by simp) h)
   rw[this,z]
  .have:(e.o.dst==some t)=false:=by rw[H4];exact hq
   simp[this,z]
def tQ(D:Nat->Bool): ∀(a b:List Ev) (h:Nat->Option Ap),HD D (a++b) h=HD D b (HD D a h)
 |[],_,_=>rfl
 |e::a,b,h=>by simp only[CW,HD];exact tQ D a b _
def tS(D:Nat->Bool): ∀(a b:List Ev) (f:Nat->AV),TD D (a++b) f=TD D b (TD D a f)
 |[],_,_=>rfl
 |e::a,b,f=>by simp only[CW,TD];exact tS D a b _
def Qw6{D:Nat->Bool}: ∀(evs:List Ev) (h:Nat->Option Ap) (n:Nat),(∀e∈evs,D e.i=true->n∉e.E.touch)->HD D evs h n=h n
 |[],_,_,_=>rfl
 |e::r,h,n,hd=>by
  simp only[HD];rw[Qw6 r _ n (λx z=>hd x (by simp[z]))];cases h1:D e.i
  .rfl
  .exact sC (hd e (by simp) h1)
def Qyr{D:Nat->Bool}: ∀(evs:List Ev) (f:Nat->AV) (t:Nat),(∀e∈evs,D e.i=true->e.o.dst≠some t)->TD D evs f t=f t
 |[],_,_,_=>rfl
 |e::r,f,t,hd=>by
  simp only[TD];rw[Qyr r _ t (λx z=>hd x (by simp[z]))];cases h1:D e.i
  .rfl
  .have:(e.o.dst==some t)=false:=by rw[H4];exact hd e (by simp) h1
   simp[this]
def Qtn{n:Nat}{x:Ap}: ∀(hs:Ar),hget hs n=some x->n∈KC hs/\ ∀m∈x.2.nms,m∈IS hs
 |[],h=>by simp[hget] at h
 |(q,Z,ob)::hs,h=>by
  simp only[hget] at h;simp only[KC,IS,Bx,Bp];cases hq:q==n<;>rw[hq] at h
  .obtain⟨O,Q⟩:=Qtn hs (by simpa using h);exact⟨.inr O,λm z=> .inr (Q m z)⟩
  .have G:q=n:=by simpa using hq
   simp only[C3,AI] at h;subst h;exact⟨.inl G.symm,λm z=> .inl z⟩
def Jz{D:Nat->Bool}{n:Nat}{x:Ap}: ∀(evs:List Ev) (h:Nat->Option Ap),HD D evs h n=some x->h n=some x\/ ∃e∈evs,D e.i=true/\hget e.E.new n=some x
 |[],_,G=> .inl G
 |e::r,h,G=>by
  simp only[HD] at G;rcases Jz r _ G with z|⟨f,hf,O⟩
  .cases hd:D e.i<;>rw[hd] at z
   .exact .inl z
   .simp only[C3,Bz.appf] at z;cases hg:hget e.E.new n with
    |some y=>
     rw[hg] at z;obtain rfl:=Aw z;exact .inr ⟨e,by simp,hd,hg⟩
    |none=>
     rw[hg] at z;cases hk:e.E.kill.contains n<;>rw[hk] at z
     .exact .inl z
     .cases z
  .exact .inr ⟨f,by simp[hf],O⟩
def QY{D:Nat->Bool}{t:Nat}: ∀(evs:List Ev) (f:Nat->AV),TD D evs f t=f t\/ ∃e∈evs,D e.i=true/\TD D evs f t=e.r
 |[],_=> .inl rfl
 |e::r,f=>by
  simp only[TD];rcases QY r (λt=>bif D e.i && (e.o.dst==some t) then e.r else f t) with z|⟨x,O,G⟩
  .rw[z];cases hd:D e.i
   .exact .inl rfl
   .cases hq:e.o.dst==some t
    .exact .inl rfl
    .exact .inr ⟨e,by simp,hd,rfl⟩
  .exact .inr ⟨x,by simp[O],G⟩
structure tY(e f:Ev):Prop where
 a: ∀n,n∈f.E.use++f.E.kill->n∉e.E.touch
 b: ∀n,n∈f.E.touch->n∉e.E.touch
 c: ∀n,n∈f.E.touch->n∉e.E.use++e.E.kill
 d: ∀n,n∈f.E.touch++(f.r.nms++IS f.E.new)-> ¬Fr e.s.nx e.E.cnt n
def Qlq: ∀(l k:List Nat),ND l k=true-> ∀n∈l,n∉k
 |[],_,_,n,hn=>by cases hn
 |x::l,k,h,n,hn=>by
  simp only[ND,AO,JP] at h;rcases Bx.1 hn with rfl|hn
  .intro z
   have:=h.1
   rw[G6.2 z] at this;cases this
  .exact Qlq l k h.2 n hn
def Qtw{nx cnt:Nat}: ∀(l:List Nat),Hc nx cnt l=true-> ∀n∈l,¬Fr nx cnt n
 |[],_,n,hn=>by cases hn
 |x::l,h,n,hn=>by
  simp only[Hc,AO,HY,H5,Qc] at h;rcases Bx.1 hn with rfl|hn
  .intro hf
   have:=hf.1
   have:=hf.2
   omega
  .exact Qtw l h.2 n hn
def VH(ops:Array Oper)(s:Az)(skip:Bool):Option (Nat×Bool)->Prop
 |none=>skip=false
 |some (g,z)=> ∃t,(ops[g]?).bind (·.dst)=some t/\((∃b,Ay s.tm t= .im (.bool b)/\skip=(b !=z))\/(Ay s.tm t= .im (.tup [])/\skip=true))
structure mV(P:Program)(ops:Array Oper)(e:Ev):Prop where
 op:ops[e.i]? =some e.o
 gd:VH ops e.s e.skip e.o.guard
 doo:e.skip=false->B7 P e.s.tm (hget e.s.h) e.s.nx e.o e.r e.E/\e.E.ok e.s.nx e.r=true
 skp:e.skip=true->e.r= .im (.tup [])/\e.E={}
abbrev NT:Nat->Bool:=λ_=>true
def Jx(j:Nat):Nat->Bool:=λi=>Nat.blt i j
def IN{i j:Nat}(h:Jx j i=true):i<j:=by simpa[Jx] using h
structure GT(P:Program)(ops:Array Oper)(cl:List (List Nat))(s0:Az)(evs:List Ev)(s:Az)(acc:List Fp):Prop where
 idx: ∀(k:Nat) (e:Ev),evs[k]? =some e->e.i=k
 tm: ∀t,Ay s.tm t=TD NT evs (Ay s0.tm) t
 h: ∀n,hget s.h n=HD NT evs (hget s0.h) n
 nx:s0.nx<=s.nx
 ev: ∀e∈evs,mV P ops e/\s0.nx<=e.s.nx/\e.s.nx+e.E.cnt<=s.nx
 atT: ∀e∈evs,∀t,Ay e.s.tm t=TD (Jx e.i) evs (Ay s0.tm) t
 atH: ∀e∈evs,∀n,hget e.s.h n=HD (Jx e.i) evs (hget s0.h) n
 ord: ∀e∈evs,∀f∈evs,e.i<f.i->e.s.nx+e.E.cnt<=f.s.nx
 pair: ∀e∈evs,∀f∈evs,e.i<f.i->EF cl e.i f.i=true\/tY e f
 acc: ∀e∈evs,e.skip=true\/(⟨e.i,e.E.use++e.E.kill,e.E.touch,e.s.nx,e.E.cnt⟩:Fp)∈acc
 nmT: ∀t,∀m∈(Ay s.tm t).nms,m<s.nx
section
variable {P:Program}{ops:Array Oper}{cl:List (List Nat)}{s0 s:Az}{evs:List Ev}{acc:List Fp}
def GT.lt(g:GT P ops cl s0 evs s acc): ∀e∈evs,e.i<evs.length:=by
 intro e G;obtain⟨k,O,z⟩:=fE.1 G
 have:=g.idx k e (by rw[Bd O,z])
 omega
def GT.nil(h: ∀t,∀m∈(Ay s0.tm t).nms,m<s0.nx):GT P ops cl s0 [] s0 []:=by
 refine⟨by simp,λt=>rfl,λn=>rfl,AF _,by simp,by simp,by simp,by simp,by simp,by simp,h⟩
def GT.snoc(g:GT P ops cl s0 evs s acc)(e:Ev)(hi:e.i=evs.length)(an:mV P ops e)(hs: ∀t,Ay e.s.tm t=Ay s.tm t)(hh: ∀n,hget e.s.h n=hget s.h n)(au:e.s.nx=s.nx)
 (ah: ∀f∈evs,EF cl f.i e.i=true\/tY f e){s':Az}{G:List Fp}(ak: ∀t,Ay s'.tm t=if e.o.dst=some t then e.r else Ay s.tm t)
 (am: ∀n,hget s'.h n=e.E.appf (hget s.h) n)(ao:s'.nx=s.nx+e.E.cnt)(aj: ∀f∈acc,f∈G)(af:e.skip=true\/(⟨e.i,e.E.use++e.E.kill,e.E.touch,e.s.nx,e.E.cnt⟩:Fp)∈G)
 (hr: ∀m∈e.r.nms,m<s'.nx):GT P ops cl s0 (evs++[e]) s' G:=by
 have O: ∀f∈evs,f.i<e.i:=λf hf=>by rw[hi];exact g.lt f hf
 have ad: ∀t,TD (Jx e.i) evs (Ay s0.tm) t=Ay s.tm t:=by
  intro t;rw[g.tm t];refine kV evs _ _ rfl ?_;intro f hf ag;exact absurd (by simp[Jx,O f hf]) ag
 have ac: ∀n,HD (Jx e.i) evs (hget s0.h) n=hget s.h n:=by
  intro n;rw[g.h n];refine kL evs _ _ rfl ?_;intro f hf ag;exact absurd (by simp[Jx,O f hf]) ag
 have ab: ∀f∈evs,Jx f.i e.i=false:=by
  intro f hf
  have:=O f hf
  rw[Rf];intro h
  have:=IN h
  omega
 have Q:Jx e.i e.i=false:=by
  rw[Rf];intro h
  have:=IN h
  omega
 have z: ∀f,f∈evs++[e]->f∈evs\/f=e:=by intro f hf;simpa using hf
 refine⟨?_,?_,?_,?_,?_,?_,?_,?_,?_,?_,?_⟩
 .intro k f hk;rcases lV k evs.length with h|h|h
  .rw[DQ h] at hk;exact g.idx k f hk
  .subst h;rw[E7 (AF _)] at hk;simp at hk;subst hk;exact hi
  .rw[E7 (by omega)] at hk
   have:(k - evs.length)≠0:=by omega
   cases hq:k - evs.length with
   |zero=>omega
   |succ q=>rw[hq] at hk;simp at hk
 .intro t;rw[ak,tS];simp only[TD,NT,F2];by_cases hq:e.o.dst=some t
  .simp[hq]
  .have:(e.o.dst==some t)=false:=by rw[H4];exact hq
   rw[Ad hq,this];exact g.tm t
 .intro n;rw[am,tQ];simp only[HD,NT,C3];exact Qym (g.h n)
 .have:=g.nx;omega
 .intro f hf;have aq:=g.nx;rcases z f hf with hf|rfl
  .obtain⟨h1,h2,h3⟩:=g.ev f hf;exact⟨h1,h2,by omega⟩
  .exact⟨an,by omega,by omega⟩
 .intro f hf t;rw[tS];rcases z f hf with hf|rfl
  .simp only[TD,ab f hf,Gf,Ct];exact g.atT f hf t
  .simp only[TD,Q,Gf,Ct];rw[ad,hs]
 .intro f hf n;rw[tQ];rcases z f hf with hf|rfl
  .simp only[HD,ab f hf,Ct];exact g.atH f hf n
  .simp only[HD,Q,Ct];rw[ac,hh]
 .intro x hx y hy ai;rcases z x hx with Z|rfl<;>rcases z y hy with aa|rfl
  .exact g.ord x Z y aa ai
  .have:=(g.ev x Z).2.2;omega
  .have:=O y aa;omega
  .omega
 .intro x hx y hy ai;rcases z x hx with Z|rfl<;>rcases z y hy with aa|rfl
  .exact g.pair x Z y aa ai
  .exact ah x Z
  .have:=O y aa;omega
  .omega
 .intro f hf;rcases z f hf with hf|rfl
  .rcases g.acc f hf with h|h
   .exact .inl h
   .exact .inr (aj _ h)
  .exact af
 .intro t m hm;rw[ak] at hm;split at hm
  .exact hr m hm
  .have:=g.nmT t m hm;omega
def Qrd{j:Nat}{use touch z:List Nat}: ∀(acc:List Fp),Nt cl j use touch z acc=true-> ∀f∈acc,vS cl j use touch z f=true
 |[],_,f,hf=>by cases hf
 |x::acc,h,f,hf=>by
  simp only[Nt,AO] at h;rcases Bx.1 hf with rfl|hf
  .exact h.1
  .exact Qrd acc h.2 f hf
def P9{V:Df}(HV:Hi P V){K:Az->Prop}: ∀(rest:List Oper) (i:Nat) (acc:List Fp) (s:Az) (evs:List Ev),ops.toList.drop i=rest->evs.length=i->
 GT P ops cl s0 evs s acc->VG P V cl (Gc ops rest) i K acc s-> ∃z s' G,z.length=i+rest.length/\GT P ops cl s0 z s' G/\K s':=by
 intro rest;induction rest with
 |nil=>intro i acc s evs _ hl g Q;exact⟨evs,s,acc,by simpa using hl,g,Q⟩
 |cons o rest ih=>
  intro i acc s evs hi hl g Q;have ao:ops[i]? =some o:=by
   have:(ops.toList.drop i)[0]? =some o:=by rw[hi];rfl
   simpa using this
  have an:ops.toList.drop (i+1)=rest:=by
   have:(ops.toList.drop i).drop 1=rest:=by rw[hi];rfl
   rwa [DX] at this
  have ak: ∀Z:Az,(∀t,Ay Z.tm t=Ay s.tm t)->Z.h=s.h->Z.nx=s.nx->VH ops Z false o.guard->MM P V cl i acc o.dst o.op o.type (VG P V cl (Gc ops rest) (i+1) K) Z->
   ∃z s' G,z.length=i+(rest.length+1)/\GT P ops cl s0 z s' G/\K s':=by
   intro Z ht hh ab ah af;have hnm: ∀x,∀m∈(Aq Z.tm x).nms,m<Z.nx:=Lu (λt m hm=>by rw[ht] at hm;rw[ab];exact g.nmT t m hm);rcases Qrc HV hnm af with ⟨r,E,ax,aq,av,aw⟩|⟨h,_⟩
   .have aj:=Qrd acc av;have af:(Z.app o.dst r E).nx=Z.nx+E.cnt:=by cases o.dst<;>rfl
    have hb:=aq;simp only[Bz.ok,AO] at hb;have g':GT P ops cl s0 (evs++[⟨i,o,Z,r,E,false⟩]) (Z.app o.dst r E) (⟨i,E.use++E.kill,E.touch,Z.nx,E.cnt⟩::acc):=by
     refine g.snoc ⟨i,o,Z,r,E,false⟩ hl.symm ⟨ao,ah,λ_=>⟨ax,aq⟩,λh=>by cases h⟩ ht (λn=>by rw[hh]) ab ?_ (λt=> ?_) (λn=> ?_) (by rw[af,ab]) (λf hf=>by simp[hf]) (.inr (by simp)) ?_
     .intro f hf;rcases g.acc f hf with hs|ha
      .obtain⟨h1,h2⟩:=((g.ev f hf).1).skp hs;refine .inr ⟨?_,?_,?_,?_⟩<;>rw[h2]
       .intro n _;simp[Bz.touch,KC]
       .intro n _;simp[Bz.touch,KC]
       .intro n _;simp
       .intro n _ am
        have:=am.1
        have:=am.2
        simp only at this;omega
      .have h:=aj _ ha;unfold vS at h;rw[Zff] at h;split at h
       .rename_i hx;simp only[AO] at hx;obtain⟨h1,h2,h3⟩:=hx;have ai:=Qlq _ _ h1;exact .inr ⟨λn hn=>ai n (by simp only[Bp] at hn⊢;exact .inl hn),λn hn=>ai n (PZ _ hn),Qlq _ _ h2,Qtw _ h3⟩
       .exact .inl h
     .have:Ay (Z.app o.dst r E).tm t=if o.dst=some t then r else Ay Z.tm t:=Vh
      rw[this,ht]
     .have:(Z.app o.dst r E).h=E.new++Cn Z.h E.kill:=by cases o.dst<;>rfl
      rw[this,zE,zH,hh];simp only[Bz.appf];cases hget E.new n<;>rfl
     .rw[af];exact sX r hb.1
    obtain⟨z,s',G,h1,h2,h3⟩:=ih (i+1) _ _ _ an (by simp[hl]) g' aw;exact⟨z,s',G,by omega,h2,h3⟩
   .cases h
  simp only[Gc,VG] at Q;simp only[Cr];cases hg:o.guard with
  |none=>
   rw[hg] at Q;simp only[WS,wW] at Q;exact ak s (λ_=>rfl) rfl rfl (by rw[hg];rfl) Q
  |some gw=>
   obtain⟨j,O⟩:=gw;rw[hg] at Q;simp only[WS,wW] at Q;cases ht:(ops[j]?).bind (·.dst) with
   |none=>rw[ht] at Q;exact Q.elim
   |some t=>
    rw[ht] at Q;simp only[XL] at Q;cases hb:Ay s.tm t<;>rw[hb] at Q<;>try exact Q.elim
    rename_i d;have ac: ∀s2:Az,(∀t',Ay s2.tm t'=Ay s.tm t')->s2.h=s.h->s2.nx=s.nx->VH ops s true o.guard->VG P V cl (Gc ops rest) (i+1) K acc (s2.put o.dst (.im (.tup [])))->
     ∃z s' G,z.length=i+(rest.length+1)/\GT P ops cl s0 z s' G/\K s':=by
     intro s2 aa hh ab ah h2;have g':GT P ops cl s0 (evs++[⟨i,o,s,.im (.tup []),{},true⟩]) (s2.put o.dst (.im (.tup []))) acc:=by
      refine g.snoc ⟨i,o,s,.im (.tup []),{},true⟩ hl.symm ⟨ao,ah,(λh=>by cases h),(λ_=>⟨rfl,rfl⟩)⟩ (λ_=>rfl) (λ_=>rfl) rfl ?_ (λt'=> ?_) (λn=> ?_) ?_ (λf hf=>hf) (.inl rfl) ?_
      .intro f hf;refine .inr ⟨?_,?_,?_,?_⟩<;>simp[Bz.touch,KC,AV.nms,IS]
      .rw[Vh,aa]
      .have:(s2.put o.dst (.im (.tup []))).h=s2.h:=by cases o.dst<;>rfl
       rw[this,hh];simp[Bz.appf,hget]
      .have:(s2.put o.dst (.im (.tup []))).nx=s2.nx:=by cases o.dst<;>rfl
       rw[this,ab];rfl
      .intro m hm;simp[AV.nms] at hm
     obtain⟨z,s',G,h1,h2,h3⟩:=ih (i+1) _ _ _ an (by simp[hl]) g' h2;exact⟨z,s',G,by omega,h2,h3⟩
    cases d<;>try exact Q.elim
    case tup cs=>
     cases cs with
     |cons _ _=>exact Q.elim
     |nil=>
      simp only[W7,MD] at Q;exact ac s (λ_=>rfl) rfl rfl (by rw[hg];exact⟨t,ht,.inr ⟨hb,rfl⟩⟩) Q
    case bool b=>
    simp only[W7] at Q;have aa: ∀b':Bool,b=b'-> ∀t',Ay (s.put (some t) (.im (.bool b'))).tm t'=Ay s.tm t':=by
     intro b' au t';subst au;rw[Vh];split
     .rename_i h;cases h;exact hb.symm
     .rfl
    by_cases ad:b=O
    .refine ak (s.put (some t) (.im (.bool O))) (aa O ad) rfl rfl ?_ (Q.1 ad);rw[hg];exact⟨t,ht,.inl ⟨b,by rw[aa O ad,hb],by simp[ad]⟩⟩
    .have ag:b= !O:=by cases b<;>cases O<;>simp_all
     have h2:=Q.2 ag;simp only[MD] at h2;refine ac (s.put (some t) (.im (.bool (!O)))) (aa _ ag) rfl rfl ?_ h2;rw[hg];exact⟨t,ht,.inl ⟨b,hb,by simp[ag]⟩⟩
end
def YO(ops:Array Oper)(cl:List (List Nat)):List Oper->Nat->List (Nat×Oper)->Bool
 |[],_,_=>true
 |o::r,j,acc=>(o.after.toList.all λe=> !Ib e.ground||Nat.blt e.on j) && (acc.all (λp=>EF cl p.1 j||p.2.apart ops o) && YO ops cl r (j+1) ((j,o)::acc))
def stOk(ops:Array Oper):Bool:=YO ops (EN ops.toList []) ops.toList 0 []
def Qup(e:Edge):Region.binds .any e=Ib e.ground:=by
 unfold Region.binds;cases e.ground<;>rfl
structure WU(ops:Array Oper)(cl:List (List Nat)):Prop where
 lo: ∀(j:Nat) (o:Oper),ops[j]? =some o-> ∀e∈o.after.toList,Ib e.ground=true->e.on<j
 ap: ∀(i j:Nat) (x y:Oper),i<j->ops[i]? =some x->ops[j]? =some y->EF cl i j=true\/x.apart ops y=true
def Pz{ops:Array Oper}{cl:List (List Nat)}: ∀(rest:List Oper) (j:Nat) (acc:List (Nat×Oper)),ops.toList.drop j=rest->(∀i x,i<j->ops[i]? =some x->(i,x)∈acc)->YO ops cl rest j acc=true->
 (∀(k:Nat) (o:Oper),j<=k->ops[k]? =some o-> ∀e∈o.after.toList,Ib e.ground=true->e.on<k)/\
 (∀(i k:Nat) (x y:Oper),j<=k->i<k->ops[i]? =some x->ops[k]? =some y->EF cl i k=true\/x.apart ops y=true):=by
 intro rest;induction rest with
 |nil=>
  intro j acc hd _ _;have hs:ops.size<=j:=by
   have:=BY List.length hd
   simp at this;omega
  refine⟨λk o hk ho=> ?_,λi k x y hk _ _ Z=> ?_⟩
  .have:=(NN.1 ho).1;omega
  .have:=(NN.1 Z).1;omega
 |cons o rest ih=>
  intro j acc hd z hs;have G:ops[j]? =some o:=by
   have:(ops.toList.drop j)[0]? =some o:=by rw[hd];rfl
   simpa using this
  have aa:ops.toList.drop (j+1)=rest:=by
   have:(ops.toList.drop j).drop 1=rest:=by rw[hd];rfl
   rwa [DX] at this
  simp only[YO,AO,DV,HY,JP,H5] at hs;obtain⟨h1,h2,h3⟩:=hs;obtain⟨r1,r2⟩:=ih (j+1) ((j,o)::acc) aa (by
   intro i x hi O;rcases EI i j with h|h
   .exact BZ _ (z i x h O)
   .have:i=j:=by omega
    subst this;rw[G] at O;cases O;exact Cb) h3
  refine⟨λk p hk hp=> ?_,λi k x y hk Q O Z=> ?_⟩
  .rcases EI j k with h|h
   .exact r1 k p h hp
   .have:k=j:=by omega
    subst this;rw[G] at hp;cases hp;intro e he hb;rcases h1 e he with h|h
    .rw[h] at hb;cases hb
    .exact h
  .rcases EI j k with h|h
   .exact r2 i k x y h Q O Z
   .have:k=j:=by omega
    subst this;rw[G] at Z;cases Z;exact h2 (i,x) (z i x Q O)
def P0{ops:Array Oper}(h:stOk ops=true):WU ops (EN ops.toList []):=by
 obtain⟨G,O⟩:=Pz (cl:=EN ops.toList []) ops.toList 0 [] rfl (by intro i x hi;omega) h;exact⟨λj o Q=>G j o (BP _) Q,λi j x y z Z hy=>O i j x y (BP _) z Z hy⟩
def Tq(a b:List (List Nat)): ∀(k:Nat),k<a.length->DI (a++b) k=DI a k:=by
 induction a with
 |nil=>intro k z;simp at z
 |cons x a ih=>
  intro k z;cases k with
  |zero=>rfl
  |succ k=>exact ih k (by simpa using z)
def Yk(a:List (List Nat))(x:List Nat)(b:List (List Nat)):DI (a++x::b) a.length=x:=by
 induction a with
 |nil=>rfl
 |cons y a ih=>exact ih
def nW: ∀(a:List (List Nat)) (k:Nat),a.length<=k->DI a k=[]
 |[],_,_=>rfl
 |_::a,0,h=>by simp at h
 |_::a,k+1,h=>nW a k (by simpa using h)
def Qnq: ∀(rest:List Oper) (acc:List (List Nat)) (k:Nat),k<acc.length->DI (EN rest acc) k=DI acc k
 |[],_,_,_=>rfl
 |o::r,acc,k,h=>by
  simp only[EN];rw[Qnq r _ k (by simp;omega),Tq _ _ _ h]
def Qy4: ∀(rest:List Oper) (acc:List (List Nat)) (k:Nat) (o:Oper),rest[k]? =some o-> ∃z:List (List Nat),z.length=acc.length+k/\(∀m,m<z.length->DI z m=DI (EN rest acc) m)/\
 DI (EN rest acc) (acc.length+k)=GX z o.after.toList
 |[],_,k,o,h=>by simp at h
 |x::r,acc,0,o,h=>by
  obtain rfl:x=o:=by simpa using h
  refine⟨acc,rfl,λm Z=>(Qnq _ _ m Z).symm,?_⟩;simp only[EN,Xd];rw[Qnq _ _ _ (by simp),Yk]
 |x::r,acc,k+1,o,h=>by
  obtain⟨z,O,Q,G⟩:=Qy4 r (acc++[GX acc x.after.toList]) k o (by simpa using h);simp only[BQ,Cr,F3] at O G;refine⟨z,by omega,Q,?_⟩;simp only[EN];rw[<-G];congr 1;omega
def XQ{x y:Nat}{l:List Nat}(h:y∈ins x l):y=x\/y∈l:=by
 unfold ins at h;cases hc:l.contains x<;>rw[hc] at h
 .simpa using h
 .exact .inr (by simpa using h)
def Qzy{y:Nat}: ∀(a l:List Nat),y∈S9 a l->y∈a\/y∈l
 |[],_,h=> .inr h
 |x::r,l,h=>by
  rcases XQ h with h|h
  .exact .inl (by simp[h])
  .rcases Qzy r l h with h|h
   .exact .inl (by simp[h])
   .exact .inr h
def Qsb{acc:List (List Nat)}{i:Nat}: ∀(es:List Edge),i∈GX acc es-> ∃e∈es,Ib e.ground=true/\(i=e.on\/i∈DI acc e.on)
 |[],h=>by simp[GX] at h
 |e::r,h=>by
  simp only[GX] at h;cases hb:Ib e.ground<;>rw[hb] at h
  .obtain⟨x,G,z⟩:=Qsb r h;exact⟨x,by simp[G],z⟩
  .simp only[C3] at h;have h:=Qzy _ _ h;simp only[Bx,or_assoc] at h;rcases h with h|h|h
   .exact⟨e,by simp,hb,.inl h⟩
   .exact⟨e,by simp,hb,.inr h⟩
   .obtain⟨x,G,z⟩:=Qsb r h;exact⟨x,by simp[G],z⟩
def Xr{ops:Array Oper}{i j:Nat}{o:Oper}(ho:ops[j]? =some o)(h:i∈DI (EN ops.toList []) j):
 ∃e∈o.after.toList,Ib e.ground=true/\(i=e.on\/(e.on<j/\i∈DI (EN ops.toList []) e.on)):=by
 obtain⟨G,Z,h2,Q⟩:=Qy4 ops.toList [] j o (by simpa using ho);simp only[F3,Fj] at Z Q;rw[Q] at h;obtain⟨e,he,hb,z⟩:=Qsb _ h;refine⟨e,he,hb,?_⟩;rcases z with z|z
 .exact .inl z
 .rcases EI e.on G.length with O|O
  .exact .inr ⟨by omega,by rw[<-h2 _ O];exact z⟩
  .rw[nW _ _ O] at z;cases z
def Jy(ops:Array Oper)(D:Nat->Bool):Prop:= ∀(j:Nat) (o:Oper),D j=true->ops[j]? =some o-> ∀e∈o.after.toList,Ib e.ground=true->D e.on=true
def Qqg{ops:Array Oper}{D:Nat->Bool}(hc:Jy ops D){i j:Nat}{o:Oper}(Q:ops[j]? =some o)(Z: ∀e∈o.after.toList,Ib e.ground=true->D e.on=true)
 (h:EF (EN ops.toList []) i j=true):D i=true:=by
 have hi:i∈DI (EN ops.toList []) j:=by simpa[EF] using h
 clear h;induction j using Nat.strongRecOn generalizing o with
 |_ j ih=>
  obtain⟨e,O,G,h|⟨h,h2⟩⟩:=Xr Q hi
  .rw[h];exact Z e O G
  .have aa:=(NN.1 Q).1;have z:ops[e.on]? =some ops[e.on]:=GR (by omega);exact ih e.on h z (hc e.on _ (Z e O G) z) h2
structure jI(C:AT)(N:Nat)(evs:List Ev)(s0:Az)(D:Nat->Bool)(S:Au)(a:Act):Prop where
 wf:Wf C S
 h: ∀n,S.h n=HD D evs (hget s0.h) n
 tm: ∀t,Aa S (TD D evs (Ay s0.tm) t) (a.eval (.tmp t))
 size:a.tmps.size=N
 defers:a.defers=C.ds
 n0:C.n0<=s0.nx
 pre:C.Pre S
section
variable {P:Program}{ops:Array Oper}{s0 s:Az}{evs:List Ev}{acc:List Fp}{C:AT}{N:Nat}
def Qzx{E:Bz}{nx:Nat}{r:AV}(z:E.ok nx r=true):(∀m∈r.nms,m<nx+E.cnt)/\(∀n x,hget E.new n=some x->(Fr nx E.cnt n\/(n∈E.kill/\n<nx))/\ ∀m∈x.2.nms,m<nx+E.cnt):=by
 simp only[Bz.ok,AO] at z;obtain⟨O,Q,Z⟩:=z;exact⟨sX r O,λn x G=>⟨Qlm _ Z n x G,eI _ Q n x G⟩⟩
def Xj(g:GT P ops (EN ops.toList []) s0 evs s acc)(bi: ∀n e,hget s0.h n=some e->n<s0.nx/\ ∀m∈e.2.nms,m<s0.nx)(a9: ∀t,∀m∈(Ay s0.tm t).nms,m<s0.nx)
 (st:WU ops (EN ops.toList []))(hN:Js N ops.toList=true){D:Nat->Bool}(hc:Jy ops D){e:Ev}(he:e∈evs)(hD:D e.i=false)
 (hr: ∀x∈e.o.after.toList,Ib x.ground=true->D x.on=true){S:Au}{a:Act}(hA:jI C N evs s0 D S a){K:Act->World->Prop}{Q:Exit->Act->World->Prop}
 (hK: ∀a' S',jI C N evs s0 (λi=>D i||i==e.i) S' a'->K a' S'.w):wpOp P ops Q e.i K a S.w:=by
 have ag:=((g.ev e he).1).op;have bh: ∀k,EF (EN ops.toList []) k e.i=true->D k=true:=λk hk=>Qqg hc ag hr hk
 have az: ∀d,e.o.dst=some d->d<N:=by
  have: ∀(l:List Oper),Js N l=true-> ∀o∈l,∀d,o.dst=some d->d<N:=by
   intro l;induction l with
   |nil=>intro _ o ho;cases ho
   |cons x l ih=>
    intro h o ho d hd;simp only[Js,AO] at h;rcases Bx.1 ho with rfl|ho
    .have:=h.1
     rw[hd] at this;simpa using this
    .exact ih h.2 o ho d hd
  exact this _ hN e.o (by
   have:=Zfl ag
   simpa using this)
 have aj: ∀f∈evs,D f.i≠Jx e.i f.i->(f.i<e.i/\D f.i=false/\tY f e/\f.o.apart ops e.o=true)\/(e.i<f.i/\D f.i=true/\tY e f/\e.o.apart ops f.o=true):=by
  intro f hf G;have ak:=((g.ev f hf).1).op;rcases lV f.i e.i with h|h|h
  .have hl:Jx e.i f.i=true:=by simpa[Jx] using h
   have O:D f.i=false:=by
    cases hq:D f.i
    .rfl
    .rw[hq,hl] at G;exact absurd rfl G
   have ai:EF (EN ops.toList []) f.i e.i=false:=by
    cases hq:EF (EN ops.toList []) f.i e.i
    .rfl
    .have:=bh _ hq;rw[O] at this;cases this
   refine .inl ⟨h,O,?_,?_⟩
   .rcases g.pair f hf e he h with z|z
    .rw[ai] at z;cases z
    .exact z
   .rcases st.ap f.i e.i f.o e.o h ak ag with z|z
    .rw[ai] at z;cases z
    .exact z
  .have hl:Jx e.i f.i=false:=by
    rw[h];rw[Rf];intro h';have:=IN h';omega
   rw[hl,h,hD] at G;exact absurd rfl G
  .have hl:Jx e.i f.i=false:=by
    rw[Rf];intro h';have:=IN h';omega
   have O:D f.i=true:=by
    cases hq:D f.i
    .rw[hq,hl] at G;exact absurd rfl G
    .rfl
   have ai:EF (EN ops.toList []) e.i f.i=false:=by
    cases hq:EF (EN ops.toList []) e.i f.i
    .rfl
    .have:=Qqg hc ak (hc f.i f.o O ak) hq
     rw[hD] at this;cases this
   refine .inr ⟨h,O,?_,?_⟩
   .rcases g.pair e he f hf h with z|z
    .rw[ai] at z;cases z
    .exact z
   .rcases st.ap e.i f.i e.o f.o h ag ak with z|z
    .rw[ai] at z;cases z
    .exact z
 have ac: ∀f∈evs,D f.i=true->f.i<e.i\/(e.i<f.i/\tY e f/\e.o.apart ops f.o=true):=by
  intro f hf O;rcases EI f.i e.i with h|h
  .exact .inl h
  .have hl:Jx e.i f.i=false:=by
    rw[Rf];intro h';have:=IN h';omega
   rcases aj f hf (by rw[O,hl];simp) with ⟨z,_⟩|⟨z,_,h2⟩
   .omega
   .exact .inr ⟨z,h2⟩
 have bb: ∀t,t∈e.o.looksAt ops->TD D evs (Ay s0.tm) t=Ay e.s.tm t:=by
  intro t ht;rw[g.atT e he t];refine kV evs _ _ rfl ?_;intro f hf G;rcases aj f hf G with ⟨_,_,_,h⟩|⟨_,_,_,h⟩
  .intro hd;exact (Oper.apart_spec h).1 t hd ht
  .intro hd;exact (Oper.apart_spec h).2.2 t hd ht
 have aa:evs=evs.take e.i++e::evs.drop (e.i+1):=by
  have hl:=g.lt e he;have hget:evs[e.i]? =some evs[e.i]:=Bd hl;obtain⟨k,hk,a8⟩:=fE.1 he;have bg:=g.idx k e (by rw[Bd hk,a8]);subst bg
  conv=>lhs;rw[<-HZ e.i evs]
  rw[WY hl,a8]
 have an: ∀f∈evs.take e.i,f∈evs/\f.i<e.i:=by
  intro f hf;refine⟨uV hf,?_⟩;obtain⟨k,hk,au⟩:=fE.1 hf;have bl:k<e.i:=by simp at hk;omega
  have:=g.idx k f (by
   rw[<-au,List.getElem_take];exact Bd _)
  omega
 have ab: ∀f∈evs.drop (e.i+1),f∈evs/\e.i<f.i:=by
  intro f hf;refine⟨ZdT hf,?_⟩;obtain⟨k,hk,au⟩:=fE.1 hf
  have:=g.idx (e.i+1+k) f (by
   rw[<-au,List.getElem_drop];exact Bd _)
  omega
 let D':Nat->Bool:=λi=>D i||i==e.i
 have ay:D' e.i=true:=by simp[D']
 have af: ∀f∈evs,f.i≠e.i->D f.i=D' f.i:=by
  intro f _ G
  have:(f.i==e.i)=false:=by rw[H4];exact G
  simp[D',this]
 have bd: ∀n,HD D' evs (hget s0.h) n=e.E.appf (HD D evs (hget s0.h)) n:=by
  intro n;have e1:HD D' evs (hget s0.h)=HD D' (evs.drop (e.i+1)) (e.E.appf (HD D' (evs.take e.i) (hget s0.h))):=by
   conv=>lhs;rw[aa]
   rw[tQ];simp only[HD,ay,C3]
  have e2:HD D evs (hget s0.h)=HD D (evs.drop (e.i+1)) (HD D (evs.take e.i) (hget s0.h)):=by
   conv=>lhs;rw[aa]
   rw[tQ];simp only[HD,hD,Ct]
  have e3:HD D' (evs.take e.i) (hget s0.h)=HD D (evs.take e.i) (hget s0.h):=by
   funext m;refine kL _ _ _ rfl ?_;intro f hf G
   have:=an f hf
   exact absurd (af f this.1 (by omega)).symm G
  rw[e1,e2,e3];by_cases hn:n∈e.E.touch
  .rw[Xh hn (h':=HD D (evs.take e.i) (hget s0.h))];refine Qw6 _ _ n ?_;intro f hf O;have z:=ab f hf;rw[<-af f z.1 (by omega)] at O;rcases ac f z.1 O with h2|⟨_,h2,_⟩
   .omega
   .intro av;exact h2.b n av hn
  .rw[sC hn];refine kL _ _ _ (sC hn) ?_;intro f hf G
   have:=ab f hf
   exact absurd (af f this.1 (by omega)).symm G
 have be: ∀t,TD D' evs (Ay s0.tm) t=if e.o.dst=some t then e.r else TD D evs (Ay s0.tm) t:=by
  intro t;have e1:TD D' evs (Ay s0.tm)=TD D' (evs.drop (e.i+1)) (λt=>bif e.o.dst==some t then e.r else TD D' (evs.take e.i) (Ay s0.tm) t):=by
   conv=>lhs;rw[aa]
   rw[tS];simp only[TD,ay,F2]
  have e2:TD D evs (Ay s0.tm)=TD D (evs.drop (e.i+1)) (TD D (evs.take e.i) (Ay s0.tm)):=by
   conv=>lhs;rw[aa]
   rw[tS];simp only[TD,hD,Gf,Ct]
  have e3:TD D' (evs.take e.i) (Ay s0.tm)=TD D (evs.take e.i) (Ay s0.tm):=by
   funext m;refine kV _ _ _ rfl ?_;intro f hf G
   have:=an f hf
   exact absurd (af f this.1 (by omega)).symm G
  rw[e1,e2,e3];by_cases hn:e.o.dst=some t
  .rw[Ai hn];rw[Qyr]
   .simp[hn]
   .intro f hf O;have z:=ab f hf;rw[<-af f z.1 (by omega)] at O;rcases ac f z.1 O with h2|⟨_,_,h2⟩
    .omega
    .exact (Oper.apart_spec h2).2.1 t hn
  .rw[Ad hn];have hq:(e.o.dst==some t)=false:=by rw[H4];exact hn
   refine kV _ _ _ (by simp[hq]) ?_;intro f hf G
   have:=ab f hf
   exact absurd (af f this.1 (by omega)).symm G
 have ba:s0.nx<=e.s.nx:=(g.ev e he).2.1;have ao: ∀f∈evs,D f.i=true->(∀m∈f.r.nms,¬Fr e.s.nx e.E.cnt m)/\(∀n x,hget f.E.new n=some x-> ¬Fr e.s.nx e.E.cnt n/\ ∀m∈x.2.nms,¬Fr e.s.nx e.E.cnt m):=by
  intro f hf O;rcases ac f hf O with h|⟨_,h,_⟩
  .have bm:=g.ord f hf e he h;obtain⟨aw,_⟩:=g.ev f hf;cases hs:f.skip
   .obtain⟨z,h2⟩:=Qzx (aw.doo hs).2;refine⟨λm hm Z=> ?_,λn x hx=>⟨λZ=> ?_,λm hm Z=> ?_⟩⟩
    .have:=z m hm;have:=Z.1;omega
    .have:=Z.1
     rcases (h2 n x hx).1 with h3|h3
     .have:=h3.2;omega
     .omega
    .have:=(h2 n x hx).2 m hm;have:=Z.1;omega
   .obtain⟨z,h2⟩:=aw.skp hs;rw[z,h2];exact⟨by simp[AV.nms],by simp[hget]⟩
  .refine⟨λm hm=>h.d m (by simp[hm]),λn x hx=>⟨h.d n ?_,λm hm=>h.d m ?_⟩⟩
   .have:=(Qtn _ hx).1
    simp[Bz.touch,this]
   .have:=(Qtn _ hx).2 m hm
    simp[this]
 have a0: ∀t,∀m∈(TD D evs (Ay s0.tm) t).nms,¬Fr e.s.nx e.E.cnt m:=by
  intro t m hm;rcases QY (D:=D) (t:=t) evs (Ay s0.tm) with h|⟨f,hf,O,h⟩
  .rw[h] at hm;intro Z
   have:=a9 t m hm
   have:=Z.1
   omega
  .rw[h] at hm;exact (ao f hf O).1 m hm
 have am: ∀n x,HD D evs (hget s0.h) n=some x-> ¬Fr e.s.nx e.E.cnt n/\ ∀m∈x.2.nms,¬Fr e.s.nx e.E.cnt m:=by
  intro n x hx;rcases Jz evs (hget s0.h) hx with h|⟨f,hf,O,h⟩
  .obtain⟨z,h2⟩:=bi n x h;exact⟨λZ=>by have:=Z.1;omega,λm hm Z=>by have:=Z.1;have:=h2 m hm;omega⟩
  .exact (ao f hf O).2 n x h
 have ah: ∀v S',Wf C S'->S'.h=e.E.appf S.h->B3 (λm=> ¬Fr e.s.nx e.E.cnt m) S S'->Aa S' e.r v->K (a.put e.o.dst v) S'.w:=by
  intro v S' hW hh hp hv;refine hK _ S' ⟨hW,λn=> ?_,λt=> ?_,?_,?_,hA.n0,Qy2 hA.pre (BR hA.n0 ba) hp⟩
  .rw[hh];exact (Qym (hA.h n)).trans (bd n).symm
  .have:=be t
   simp only[D'] at this;rw[this,xO (λd h=>by rw[hA.size];exact az d h)];split
   .exact hv
   .exact Hu hp _ _ (a0 t) (hA.tm t)
  .cases e.o.dst<;>simp[Act.put,hA.size]
  .cases e.o.dst<;>simp[Act.put,hA.defers]
 have aq:=(g.ev e he).1;have ax:Region.wanted e.o (yielded ops a.tmps)= !e.skip:=by
  have ad:=aq.gd;unfold Region.wanted;cases hg:e.o.guard with
  |none=>
   rw[hg] at ad;simp only[VH] at ad;simp[ad]
  |some gw=>
   obtain⟨q,bc⟩:=gw;rw[hg] at ad;obtain⟨t,ht,ad⟩:=ad;have bf:TD D evs (Ay s0.tm) t=Ay e.s.tm t:=bb t (by simp[Oper.looksAt,hg,ht]);have z:=hA.tm t;rw[bf] at z;rcases ad with ⟨b,hb,hs⟩|⟨hb,hs⟩
   .rw[hb] at z;simp only[Aa,rd,Act.eval] at z;have hy:yielded ops a.tmps q=some b:=by
     unfold yielded;rw[ht];simp only[H3];rw[H2] at z;cases hq:a.tmps[t]? with
     |none=>rw[hq] at z;simp[undef] at z
     |some v=>rw[hq] at z;simp at z;rw[z]
    simp only[hy,hs];cases b<;>cases bc<;>rfl
   .rw[hb] at z;simp only[Aa,rd,rdl,Act.eval] at z;obtain⟨vs,z,_⟩:=z;have hy:yielded ops a.tmps q=none:=by
     unfold yielded;rw[ht];simp only[H3];rw[H2] at z;cases hq:a.tmps[t]? with
     |none=>rfl
     |some v=>rw[hq] at z;simp at z;rw[z]
    simp only[hy,hs];rfl
 unfold wpOp;simp only[ag,ax];cases hs:e.skip
 .simp only[Xe,BF];refine .inl ?_;obtain⟨bj,aw⟩:=aq.doo hs;refine bj C S a K Q hA.wf ?_ ?_ ?_ ?_ ah
  .intro n hn;rw[hA.h n,g.atH e he n];refine kL evs _ _ rfl ?_;intro f hf G;rcases aj f hf G with ⟨_,_,h,_⟩|⟨_,_,h,_⟩
   .exact h.a n hn
   .intro av;exact h.c n av hn
  .intro n Z;cases hn:S.h n with
   |none=>rfl
   |some x=>
    rw[hA.h n] at hn;exact absurd Z (am n x hn).1
  .intro n x hx m hm;rw[hA.h n] at hx;exact (am n x hx).2 m hm
  .intro x hx;cases x with
   |tmp t=>
    simp only[Aq];rw[<-bb t (by
     simp only[Oper.looksAt,Bp,List.mem_filterMap];exact .inl ⟨.tmp t,by simpa using hx,rfl⟩)]
    exact hA.tm t
   |const v=>exact cG S v
   |global g=>simp only[Aq,Aa,rd,Act.eval]
   |func f=>exact nH _ _ f
 .simp only[mG,CN,Cu];obtain⟨z,h2⟩:=aq.skp hs;refine ah undef S hA.wf ?_ (B3.refl _ _) ?_
  .rw[h2];funext n;simp[Bz.appf,hget]
  .rw[z];simp only[Aa,rd,rdl];exact⟨#[],rfl,rfl⟩
abbrev dn(listed:Array Bool):Nat->Bool:=λi=>listed.getD i false
def xJ(listed:Array Bool):Nat:=listed.toList.countP (λb=> !b)
def gG{listed:Array Bool}{j:Nat}(z:j<listed.size):dn (listed.setIfInBounds j true)=λi=>dn listed i||i==j:=by
 funext i;simp only[dn];by_cases h:j=i
 .subst h;simp[z]
 .rw[getD_set_ne false h]
  have:(i==j)=false:=by rw[H4];exact λh'=>h h'.symm
  simp[this]
def MR{listed:Array Bool}{j:Nat}(G:j<listed.size)(O:listed.getD j true=false):xJ (listed.setIfInBounds j true)+1=xJ listed:=by
 unfold xJ;rw[Zdt];have z:j<listed.toList.length:=by simpa using G
 have Z:listed.toList[j]=false:=by
  rw[H2,GR G] at O;simpa using O
 have Q:0<listed.toList.countP (λb=> !b):=by
  rw[List.countP_pos_iff];exact⟨false,by rw[<-Z];exact Rh _,rfl⟩
 rw[List.countP_set z,Z];simp only[Xe,BF,mG,CN,Cu];omega
def Qabb{listed:Array Bool}(hs:listed.size=ops.size)(st:WU ops (EN ops.toList []))(Z:Region.ready .any ops listed=[]): ∀i,i<ops.size->dn listed i=true:=by
 intro i;induction i using Nat.strongRecOn with
 |_ i ih=>
  intro Q;cases hq:dn listed i with
  |true=>rfl
  |false=>
   exfalso
   have:i∈Region.ready .any ops listed:=by
    rw[mem_ready];have z:ops[i]? =some ops[i]:=GR Q;refine⟨?_,ops[i],z,?_⟩
    .simp only[dn] at hq;rw[H2,GR (by omega)] at hq⊢;simpa using hq
    .intro e O G;rw[Qup] at G
     have:=st.lo i _ z e (by simpa using O) G
     exact ih e.on this (by omega)
   rw[Z] at this;cases this
def fQ(g:GT P ops (EN ops.toList []) s0 evs s acc)(au:evs.length=ops.size)(an: ∀n e,hget s0.h n=some e->n<s0.nx/\ ∀m∈e.2.nms,m<s0.nx)(ai: ∀t,∀m∈(Ay s0.tm t).nms,m<s0.nx)
 (st:WU ops (EN ops.toList []))(hN:Js N ops.toList=true){Q:Exit->Act->World->Prop}(hQ: ∀a S,jI C N evs s0 NT S a->Q .normal a S.w):
 ∀(G:Nat) (listed:Array Bool) (S:Au) (a:Act),xJ listed<=G->listed.size=ops.size->Jy ops (dn listed)->jI C N evs s0 (dn listed) S a->wpAny P .any ops Q G listed a S.w:=by
 have ab: ∀(listed:Array Bool) (S:Au) (a:Act),listed.size=ops.size->(∀i,i<ops.size->dn listed i=true)->jI C N evs s0 (dn listed) S a->Q .normal a S.w:=by
  intro listed S a hs z Z;refine hQ a S ⟨Z.wf,λn=> ?_,λt=> ?_,Z.size,Z.defers,Z.n0,Z.pre⟩
  .rw[Z.h n];refine kL evs _ _ rfl ?_;intro f hf ad;exact absurd (z f.i (by have:=g.lt f hf;omega)) ad
  .have:TD NT evs (Ay s0.tm) t=TD (dn listed) evs (Ay s0.tm) t:=by
    refine kV evs _ _ rfl ?_;intro f hf ad;exact absurd (z f.i (by have:=g.lt f hf;omega)).symm ad
   rw[this];exact Z.tm t
 intro G;induction G with
 |zero=>
  intro listed S a hu hs hcl Z;have z: ∀i,i<ops.size->dn listed i=true:=by
   intro i hi;cases hq:dn listed i with
   |true=>rfl
   |false=>
    have:= @MR listed i (by omega) (by
     simp only[dn] at hq;rw[H2,GR (by omega)] at hq⊢;simpa using hq)
    omega
  refine⟨?_,ab listed S a hs z Z⟩;rw[List.eq_nil_iff_forall_not_mem];intro j hj;obtain⟨h0,o,ho,_⟩:=mem_ready.1 hj;have am:=(NN.1 ho).1
  have:=z j am
  simp only[dn] at this;rw[H2,GR (by omega)] at this h0;simp at this h0;rw[h0] at this;cases this
 |succ G ih=>
  intro listed S a hu hs hcl Z;refine⟨λhr=>ab listed S a hs (Qabb hs st hr) Z,λj hj=> ?_⟩;obtain⟨h0,o,ho,z⟩:=mem_ready.1 hj;have av:=(NN.1 ho).1;have ah:j<evs.length:=by omega
  have O:=g.idx j evs[j] (Bd ah);have ac:evs[j]∈evs:=Rh ah;have aj:=((g.ev _ ac).1).op;rw[O,ho] at aj;have ak:dn listed j=false:=by
   simp only[dn];rw[H2,GR (by omega)] at h0⊢;simpa using h0
  have aa: ∀e∈o.after.toList,Ib e.ground=true->dn listed e.on=true:=λe he hb=>z e (by simpa using he) (by rw[Qup];exact hb)
  have ao:evs[j].o=o:=(Aw aj).symm;have aq:=Xj g an ai st hN hcl ac (by rw[O];exact ak) (by rw[ao];exact aa) Z (Q:=Q) (K:=wpAny P .any ops Q G (listed.setIfInBounds j true)) ?_
  .rwa [O] at aq
  .intro a' S' af;rw[O] at af;have ag:=gG (listed:=listed) (j:=j) (by omega);refine ih (listed.setIfInBounds j true) S' a' ?_ (by simpa using hs) ?_ (by rw[ag];exact af)
   .have:= @MR listed j (by omega) h0
    omega
   .rw[ag];intro k p hk hp e he hb;simp only[HY,Qd] at hk⊢;rcases hk with hk|rfl
    .exact .inl (hcl k p hk hp e he hb)
    .rw[ho] at hp;cases hp;exact .inl (aa e he hb)
end
def Qog{P:Program}{V:Df}(HV:Hi P V){C:AT}{N:Nat}{ops:Array Oper}{K:Az->Prop}{Q:Exit->Act->World->Prop}(hQ: ∀s a w,K s->BL C N s a w->Q .normal a w)
 (hd:Js N ops.toList=true)(ad:stOk ops=true){s:Az}{a:Act}{w:World}(hk:VG P V (EN ops.toList []) (Gc ops ops.toList) 0 K [] s)(z:BL C N s a w):wpAny P .any ops Q ops.size (Array.replicate ops.size false) a {w with drawn:=w.drawn+1}:=by
 obtain⟨S,rfl,z⟩:=z;obtain⟨evs,s',acc,Z,g,hK⟩:=P9 HV ops.toList 0 [] s [] rfl rfl (GT.nil z.nmT) hk;have hW:=z.wf
 let S1:Au:={S with w:={S.w with drawn:=S.w.drawn+1}}
 have hp:B3 (λ_=>True) S S1:=⟨λb hb=>⟨hb,rfl⟩,λo _ e' ac=>⟨e',ac,rfl,rfl,rfl⟩⟩;have hA:jI C N evs s (dn (Array.replicate ops.size false)) S1 a:=by
  have aa: ∀i,dn (Array.replicate ops.size false) i=false:=by
   intro i;simp only[dn,H2,fH]
   split<;>rfl
  refine⟨⟨hW.os,hW.tape,hW.output,BR hW.dr (Rj _),hW.size,hW.keep,hW.ok0,hW.ok1,hW.oks,?_,hW.loc,hW.inj,hW.gl⟩,λn=> ?_,λt=> ?_,z.size,z.defers,z.n0,z.pre⟩
  .intro o e O;exact Hh hp (λ_ _=>rfl) _ (λ_ _=>trivial) (hW.obj o e O)
  .rw[Qw6]
   .exact z.h n
   .intro e _ h;rw[aa] at h;cases h
  .rw[Qyr]
   .exact Hu hp _ _ (λ_ _=>trivial) (z.tm t)
   .intro e _ h;rw[aa] at h;cases h
 have af:=fQ (C:=C) (N:=N) (Q:=Q) g (by simpa using Z) z.nmH z.nmT (P0 ad) hd ?_ ops.size (Array.replicate ops.size false) S1 a (by unfold xJ;exact BR List.countP_le_length (by simp)) (by simp) ?_ hA
 .exact af
 .intro a' S' G;refine hQ s' a' S'.w hK ⟨S',rfl,G.wf,λn=> ?_,λt=> ?_,g.nmT,?_,G.size,G.defers,BR z.n0 g.nx,G.pre⟩
  .rw[G.h n,g.h n]
  .rw[g.tm t];exact G.tm t
  .intro n e O;rw[g.h n] at O;rcases Jz evs _ O with h|⟨f,hf,_,h⟩
   .obtain⟨h1,h2⟩:=z.nmH n e h
    have:=g.nx
    exact⟨by omega,λm hm=>by have:=h2 m hm;omega⟩
   .obtain⟨ab,h2,h3⟩:=g.ev f hf;cases hs:f.skip
    .obtain⟨_,h5⟩:=Qzx (ab.doo hs).2;obtain⟨h6,h7⟩:=h5 n e h;refine⟨?_,λm hm=>by have:=h7 m hm;omega⟩;rcases h6 with h6|h6
     .have:=h6.2;omega
     .omega
    .rw[(ab.skp hs).2] at h;simp[hget] at h
 .intro j o hj _ e O hb
  have:dn (Array.replicate ops.size false) j=false:=by
   simp only[dn,H2,fH]
   split<;>rfl
  rw[this] at hj;cases hj
def Qtk{P:Program}(G:P.follows .mixedOrders=true){V:Df}(O:Hi P V){C:AT}{N id:Nat}{ops:Array Oper}{K:Az->Prop}{Q:Exit->Act->World->Prop}(Z: ∀s a w,K s->BL C N s a w->Q .normal a w)
 (hd:Js N ops.toList=true)(z:stOk ops=true){s:Az}{a:Act}{w:World}(hk:VG P V (EN ops.toList []) (Gc ops ops.toList) 0 K [] s)(hc:BL C N s a w):(Code.region id ops true).wp P Q a w:=
 wp_region_any G (Qog O Z hd z hk hc)
def Eg(N:Nat):Code->Bool
 | .skip=>true
 | .region _ ops z=>Js N ops.toList && (!z||stOk ops)
 | .seq a b=>Eg N a && Eg N b
 | .cond _ a b=>Eg N a && Eg N b
 | .block _ c=>Eg N c
 | .loop c=>Eg N c
 | .exit _=>true
 | .ret=>true
 |_=>false
def FU(C:AT)(N:Nat)(Q:Cq):Exit->Act->World->Prop
 | .normal,a,w=> ∃s,Q .normal s/\BL C N s a w
 | .exit i,a,w=> ∃s,Q (.exit i) s/\BL C N s a w
 | .ret,a,w=> ∃s,Q .ret s/\BL C N s a w
 |_,_,_=>False
def Qv7{s:Az}: ∀(tm:List (Nat×AV)),Gs s tm-> ∀t,Ay tm t= .any\/Ay tm t=Ay s.tm t
 |[],_,t=> .inl rfl
 |(q,x)::tm,h,t=>by
  simp only[Gs] at h;simp only[Ay];cases hq:q==t
  .simpa using Qv7 tm h.2 t
  .have:q=t:=by simpa using hq
   subst this;exact .inr (by simpa using h.1.symm)
def Qtu{s:Az}: ∀(hs:Ar),CE s hs-> ∀n e,hget hs n=some e->hget s.h n=some e
 |[],_,n,e,h=>by simp[hget] at h
 |(q,x)::hs,h,n,e,z=>by
  simp only[CE] at h;simp only[hget] at z;cases hq:q==n<;>rw[hq] at z
  .exact Qtu hs h.2 n e (by simpa using z)
  .have:q=n:=by simpa using hq
   subst this;simp only[C3,AI] at z;subst z;exact h.1
def rK{n:Nat}: ∀(tm:List (Nat×AV)),CQ n tm=true-> ∀t,∀m∈(Ay tm t).nms,m<n
 |[],_,t,m,z=>by simp[Ay,AV.nms] at z
 |(q,x)::tm,h,t,m,z=>by
  simp only[CQ,AO] at h;simp only[Ay] at z;cases hq:q==t<;>rw[hq] at z
  .exact rK tm h.2 t m (by simpa using z)
  .exact sX x h.1 m (by simpa using z)
def rG{n:Nat}: ∀(hs:Ar),Cg n hs=true-> ∀m e,hget hs m=some e->m<n
 |[],_,m,e,h=>by simp[hget] at h
 |(q,x)::hs,h,m,e,z=>by
  simp only[Cg,AO,H5] at h;simp only[hget] at z;cases hq:q==m<;>rw[hq] at z
  .exact rG hs h.2 m e (by simpa using z)
  .have:q=m:=by simpa using hq
   omega
def lG{C:AT}{N:Nat}{s s':Az}{a:Act}{w:World}(Q:BL C N s a w)(hs:sub s s')(hg:s'.good=true)(ag:C.n0<=s'.nx):BL C N s' a w:=by
 obtain⟨S,rfl,Q⟩:=Q;obtain⟨hT,hH⟩:=hs;simp only[Az.good,AO] at hg;obtain⟨ab,ac,ad⟩:=hg;have z: ∀n e,hget s'.h n=some e->S.h n=some e:=λn e O=>(Q.h n).trans (Qtu _ hH n e O)
 have hp:B3 (λ_=>True) S {S with h:=hget s'.h}:=⟨λb Z=>⟨Z,rfl⟩,λo _ e' G=>⟨e',z o e' G,rfl,rfl,rfl⟩⟩;have hW:=Q.wf;refine⟨{S with h:=hget s'.h},rfl,⟨hW.os,hW.tape,hW.output,hW.dr,hW.size,hW.keep,hW.ok0,hW.ok1,hW.oks,?_,?_,?_,hW.gl⟩,λn=>rfl,?_,rK _ ab,?_,Q.size,Q.defers,ag,?_⟩
 .intro o e O;exact Hh hp (λ_ _=>rfl) _ (λ_ _=>trivial) (hW.obj o e (z o e O))
 .intro o e l O hl;exact hW.loc o e l (z o e O) hl
 .intro o o' e e' l l' O G hl af Z aa;exact hW.inj o o' e e' l l' (z o e O) (z o' e' G) hl af Z aa
 .intro t;rcases Qv7 _ hT t with h|h
  .rw[h];simp only[Aa]
  .rw[h];exact Hu hp _ _ (λ_ _=>trivial) (Q.tm t)
 .intro n e O;exact⟨rG _ ad n e O,eI _ ac n e O⟩
 .intro o ho e' G;exact Q.pre o ho e' (z o e' G)
def aV{lo:Nat}: ∀(π:List (Nat×Option Nat)),VD lo π-> ∀n,n<lo->pm π n=some n
 |[],_,n,_=>rfl
 |(a,b)::r,h,n,hn=>by
  simp only[VD] at h;simp only[pm];rw[Ad (by omega)];exact aV r h.2 n hn
section
variable {S S':Au}{π:List (Nat×Option Nat)}
mutual
def Qyf(ab:S'.ok=S.ok)(aa:S'.hp=S.hp)(hρ: ∀n m,pm π n=some m->S'.ρ n=S.ρ m)(hρ0: ∀n,pm π n=none->S'.ρ n=none)
 (hh: ∀n m,pm π n=some m-> ∀e',S'.h n=some e'-> ∃e,S.h m=some e/\e.2.esz=e'.2.esz/\e.2.len=e'.2.len): ∀(x' x:AV) (v:Value),mt π x' x->Aa S x v->Aa S' x' v
 | .any,_,_,_,_=>by simp only[Aa]
 | .im d,x,v,h,z=>by
   simp only[mt] at h;subst h;simp only[Aa,ab,aa] at z⊢;exact z
 | .own n,x,v,h,z=>by
   simp only[mt] at h;cases hp:pm π n with
   |some m=>
    rw[hp] at h;simp only[He] at h;subst h;simp only[Aa] at z⊢;refine⟨z.1,λe' G=> ?_⟩;obtain⟨e,O,Q,Z⟩:=hh n m hp e' G;rw[hρ n m hp,<-Z];exact z.2 e O
   |none=>
    rw[hp] at h;simp only[He] at h;unfold gY at h;split at h
    .simp only[Aa,rd] at z;have hv:v= .slice none 0 0:=by
      rcases z with z|⟨_,_,_,_,_,_,_,Q,_⟩
      .exact Qr7 z.1
      .exact absurd rfl (Q trivial)
     subst hv;simp only[Aa];refine⟨rfl,λe' G=> ?_⟩;rw[hρ0 n hp];trivial
    .exact h.elim
 | .ptr n p,x,v,h,z=>by
   simp only[mt] at h;cases hp:pm π n with
   |none=>rw[hp] at h;exact h.elim
   |some m=>
    rw[hp] at h;simp only[GO] at h;subst h;simp only[Aa] at z⊢;refine⟨z.1,λe' G=> ?_⟩;obtain⟨e,O,Q,Z⟩:=hh n m hp e' G;rw[hρ n m hp];exact z.2 e O
 | .eptr n i p,x,v,h,z=>by
   simp only[mt] at h;cases hp:pm π n with
   |none=>rw[hp] at h;exact h.elim
   |some m=>
    rw[hp] at h;simp only[GO] at h;subst h;simp only[Aa] at z⊢;refine⟨z.1,λe' G=> ?_⟩;obtain⟨e,O,Q,Z⟩:=hh n m hp e' G;rw[hρ n m hp,<-Q];exact z.2 e O
 | .mp n,x,v,h,z=>by
   simp only[mt] at h;cases hp:pm π n with
   |none=>rw[hp] at h;exact h.elim
   |some m=>
    rw[hp] at h;simp only[GO] at h;subst h;simp only[Aa] at z⊢;refine⟨z.1,λe' G=> ?_⟩;obtain⟨e,O,Q,Z⟩:=hh n m hp e' G;rw[hρ n m hp];exact z.2 e O
 | .ch n,x,v,h,z=>by
   simp only[mt] at h;cases hp:pm π n with
   |none=>rw[hp] at h;exact h.elim
   |some m=>
    rw[hp] at h;simp only[GO] at h;subst h;simp only[Aa] at z⊢;refine⟨z.1,λe' G=> ?_⟩;obtain⟨e,O,Q,Z⟩:=hh n m hp e' G;rw[hρ n m hp];exact z.2 e O
 | .it n,x,v,h,z=>by
   simp only[mt] at h;cases hp:pm π n with
   |none=>rw[hp] at h;exact h.elim
   |some m=>
    rw[hp] at h;simp only[GO] at h;subst h;simp only[Aa] at z⊢;refine⟨z.1,λe' G=> ?_⟩;obtain⟨e,O,Q,Z⟩:=hh n m hp e' G;rw[hρ n m hp];exact z.2 e O
 | .osl n a k,x,v,h,z=>by
   simp only[mt] at h;cases hp:pm π n with
   |none=>rw[hp] at h;exact h.elim
   |some m=>
    rw[hp] at h;simp only[GO] at h;subst h;simp only[Aa] at z⊢;refine⟨z.1,λe' G=> ?_⟩;obtain⟨e,O,Q,Z⟩:=hh n m hp e' G;rw[hρ n m hp,<-Q,<-Z];exact z.2 e O
 | .agg cs,x,v,h,z=>by
   have ac: ∀ds,DZ π cs ds->Aa S (.agg ds) v->Aa S' (.agg cs) v:=by
    intro ds h z;simp only[Aa] at z⊢;obtain⟨vs,rfl,O⟩:=z;exact⟨vs,rfl,Qts ab aa hρ hρ0 hh cs ds _ h O⟩
   cases x<;>try (simp only[mt] at h;done)
   case agg ds=>
    simp only[mt] at h;exact ac ds h z
   case im d=>
    cases d<;>try (simp only[mt] at h;done)
    rename_i ds;simp only[mt] at h;refine ac _ h ?_;simp only[Aa,rd] at z⊢;obtain⟨vs,rfl,O⟩:=z;exact⟨vs,rfl,(Il _ _).2 O⟩
 | .tup cs,x,v,h,z=>by simp only[mt] at h
 | .clo f a c,x,v,h,z=>by simp only[mt] at h
def Qts(G:S'.ok=S.ok)(z:S'.hp=S.hp)(hρ: ∀n m,pm π n=some m->S'.ρ n=S.ρ m)(hρ0: ∀n,pm π n=none->S'.ρ n=none)
 (Z: ∀n m,pm π n=some m-> ∀e',S'.h n=some e'-> ∃e,S.h m=some e/\e.2.esz=e'.2.esz/\e.2.len=e'.2.len): ∀(O xs:List AV) (vs:List Value),DZ π O xs->AJ S xs vs->AJ S' O vs
 |[],[],vs,h,Q=>by simpa only[AJ] using Q
 |x::r,y::s,vs,h,Q=>by
  simp only[DZ] at h;simp only[AJ] at Q⊢;obtain⟨v,w,rfl,h1,h2⟩:=Q;exact⟨v,w,rfl,Qyf G z hρ hρ0 Z x y v h.1 h1,Qts G z hρ hρ0 Z r s w h.2 h2⟩
 |[],_::_,vs,h,_=>by simp only[DZ] at h
 |_::_,[],vs,h,_=>by simp only[DZ] at h
end
end
def Qya{π:List (Nat×Option Nat)}: ∀{a b:List (List AV)},GB π a b->b.length=a.length
 |[],[],_=>rfl
 |_::_,_::_,h=>by simp[Qya h.2]
 |[],_::_,h=>h.elim
 |_::_,[],h=>h.elim
def LX{π:List (Nat×Option Nat)}: ∀{a b:List AV},DZ π a b->b.length=a.length
 |[],[],_=>rfl
 |_::_,_::_,h=>by simp only[DZ] at h;simp[LX h.2]
 |[],_::_,h=>by simp only[DZ] at h
 |_::_,[],h=>by simp only[DZ] at h
def Qxn{π:List (Nat×Option Nat)}{e' e:Ag}(h:EK π e' e):e.esz=e'.esz/\e.len=e'.len/\e.isView=e'.isView:=by
 cases e'<;>cases e<;>simp only[EK,reduceCtorEq,Ag.arr.injEq,Ag.map.injEq,Ag.chan.injEq,Ag.iter.injEq,Ag.view.injEq] at h
 all_goals first
  |exact⟨rfl,rfl,rfl⟩
  |(obtain⟨rfl,rfl,rfl⟩:=h;exact⟨rfl,rfl,rfl⟩)
  |(obtain⟨rfl,rfl,h⟩:=h;exact⟨rfl,by simpa[Ag.len,Bm] using Qya h,rfl⟩)
  |(obtain⟨rfl,rfl⟩:=h;exact⟨rfl,rfl,rfl⟩)
def Yg{S S':Au}{π:List (Nat×Option Nat)}(ab:S'.ok=S.ok)(G:S'.hp=S.hp)(hρ: ∀n m,pm π n=some m->S'.ρ n=S.ρ m)(hρ0: ∀n,pm π n=none->S'.ρ n=none)
 (hh: ∀n m,pm π n=some m-> ∀e',S'.h n=some e'-> ∃e,S.h m=some e/\e.2.esz=e'.2.esz/\e.2.len=e'.2.len){l:Option Fe}{e' e:Ag}(h:EK π e' e)(O:Al S l e):Al S' l e':=by
 have hp:B3 (λ_=>False) S S':=⟨λb hb=>⟨by rw[ab];exact hb,by rw[G]⟩,λo h=>h.elim⟩;cases e' with
 |cells T cs=>
  cases e<;>simp only[EK] at h;obtain⟨rfl,h⟩:=h;simp only[Al] at O⊢;obtain⟨lc,vs,h1,Q,h3,h4⟩:=O;exact⟨lc,vs,h1,Q,by rw[G];exact h3,Qts ab G hρ hρ0 hh _ _ _ h h4⟩
 |arrA T k rows=>
  have hR: ∀(Z rs:List (List AV)) (vs:List Value),GB π Z rs->BE S k rs vs->BE S' k Z vs:=by
   intro Z;induction Z with
   |nil=>intro rs vs _ _;simp only[BE]
   |cons x r ih=>
    intro rs vs h hc;cases rs with
    |nil=>exact h.elim
    |cons y s=>
     simp only[BE] at hc⊢;have hP: ∀(xs ys:List AV) (vs:List Value),DZ π xs ys->Cy S ys vs->Cy S' xs vs:=by
      intro xs;induction xs with
      |nil=>intro ys vs _ _;simp only[Cy]
      |cons a l ac=>
       intro ys vs h hc;cases ys with
       |nil=>simp only[DZ] at h
       |cons b t=>
        simp only[DZ] at h;simp only[Cy] at hc⊢;obtain⟨v,w,rfl,h1,Q⟩:=hc;exact⟨v,w,rfl,Qyf ab G hρ hρ0 hh a b v h.1 h1,ac t w h.2 Q⟩
     exact⟨by rw[<-hc.1];exact (LX h.1).symm,hP _ _ _ h.1 hc.2.1,ih s _ h.2 hc.2.2⟩
  have aa: ∀(z:List (List AV)),GB π rows z->Al S l (.arrA T k z)->Al S' l (.arrA T k rows):=by
   intro z h O;simp only[Al] at O⊢;rw[<-Qya h];refine⟨O.1,?_⟩;cases l with
   |none=>
    have Q:=O.2;simp only at Q;subst Q;cases rows with
    |nil=>rfl
    |cons x r=>exact h.elim
   |some lc=>
    obtain⟨h0,h1,vs,Q,h3,h4⟩:=O;exact⟨h1,vs,by rw[G];exact Q,h3,hR _ _ _ h h4⟩
  cases e<;>simp only[EK] at h
  case arrA U k' z=>
   obtain⟨rfl,rfl,h⟩:=h;exact aa z h O
  case arr U k' z=>
   obtain⟨rfl,rfl,h⟩:=h;refine aa (Bm z) h ?_;simp only[Al] at O⊢;rw[show (Bm z).length=z.length by simp[Bm]];refine⟨O.1,?_⟩;cases l with
   |none=>have Q:=O.2;simp only at Q;subst Q;rfl
   |some lc=>
    obtain⟨h0,h1,vs,Q,h3,h4⟩:=O;exact⟨h1,vs,Q,h3,kG _ _ h4⟩
 |arr T k rows=>
  simp only[EK] at h;subst h;exact Hh hp (λlc _=>by rw[G]) _ (by simp[Ag.nms]) O
 |map kt es=>
  simp only[EK] at h;subst h;exact Hh hp (λlc _=>by rw[G]) _ (by simp[Ag.nms]) O
 |chan q c=>
  simp only[EK] at h;subst h;exact Hh hp (λlc _=>by rw[G]) _ (by simp[Ag.nms]) O
 |iter q0 q=>
  simp only[EK] at h;subst h;exact Hh hp (λlc _=>by rw[G]) _ (by simp[Ag.nms]) O
 |view q=>
  simp only[EK] at h;subst h;exact Hh hp (λlc _=>by rw[G]) _ (by simp[Ag.nms]) O
def nB{π:List (Nat×Option Nat)}: ∀(H:Ar),EW (O4 π H)=true-> ∀n n' e e' m,hget H n=some e->hget H n'=some e'->pm π n=some m->pm π n'=some m->n=n'
 |[],_,n,n',e,e',m,h,_,_,_=>by simp[hget] at h
 |(q,x)::H,hn,n,n',e,e',m,h,h',hp,hp'=>by
  have Q: ∀n e,hget H n=some e-> ∀m,pm π n=some m->some m∈O4 π H:=by
   intro n e;clear hn h h' hp hp';induction H with
   |nil=>intro h;simp[hget] at h
   |cons y H ih=>
    obtain⟨q',z⟩:=y;intro h m hm;simp only[hget] at h;simp only[O4,Bx];cases hq:q'==n<;>rw[hq] at h
    .exact .inr (ih (by simpa using h) m hm)
    .have:q'=n:=by simpa using hq
     subst this;exact .inl hm.symm
  have Z:EW (O4 π H)=true:=by
   simp only[O4] at hn;cases hq:pm π q<;>rw[hq] at hn<;>simp only[EW,AO] at hn
   .exact hn
   .exact hn.2
  simp only[hget] at h h';by_cases O:q=n<;>by_cases G:q=n'
  .rw[<-O,<-G]
  .subst O
   have:(q==n')=false:=by simpa using G
   rw[this] at h';have hm:=Q n' e' (by simpa using h') m hp';simp only[O4,hp,EW,AO,JP] at hn
   have:=hn.1
   rw[G6.2 hm] at this;cases this
  .subst G
   have:(q==n)=false:=by simpa using O
   rw[this] at h;have hm:=Q n e (by simpa using h) m hp;simp only[O4,hp',EW,AO,JP] at hn
   have:=hn.1
   rw[G6.2 hm] at this;cases this
  .have h1:(q==n)=false:=by simpa using O
   have h2:(q==n')=false:=by simpa using G
   rw[h1] at h;rw[h2] at h';exact nB H Z n n' e e' m (by simpa using h) (by simpa using h') hp hp'
def Qll{π:List (Nat×Option Nat)}{s:Az}: ∀(H:Ar),Hj π s H-> ∀n e',hget H n=some e'->EC s π e'.1 e'.2 (pm π n)
 |[],_,n,e',h=>by simp[hget] at h
 |(q,(G,x))::H,z,n,e',h=>by
  simp only[Hj] at z;simp only[hget] at h;cases hq:q==n<;>rw[hq] at h
  .exact Qll H z.2 n e' (by simpa using h)
  .have:q=n:=by simpa using hq
   subst this;simp only[C3,AI] at h;subst h;exact z.1
def Qqi{π:List (Nat×Option Nat)}{s:Az}: ∀(T:List (Nat×AV)),QW π s T-> ∀t,Ay T t= .any\/mt π (Ay T t) (Ay s.tm t)
 |[],_,t=> .inl rfl
 |(q,x)::T,z,t=>by
  simp only[QW] at z;simp only[Ay];cases hq:q==t
  .simpa using Qqi T z.2 t
  .have:q=t:=by simpa using hq
   subst this;exact .inr (by simpa using z.1)
def QL{C:AT}{N lo:Nat}{π:List (Nat×Option Nat)}{s s':Az}{a:Act}{w:World}(hc:BL C N s a w)(hs:Ak lo π s s')(hg:s'.good=true)(ao:C.n0<=lo)(am:C.n0<=s'.nx):BL C N s' a w:=by
 obtain⟨S,rfl,hc⟩:=hc;obtain⟨ak,ac,hT,hH⟩:=hs;simp only[Az.good,AO] at hg;obtain⟨ah,ai,aj⟩:=hg
 let S':Au:=⟨λn=>match pm π n with
  |some m=>S.ρ m
  |none=>none,S.ok,hget s'.h,S.w⟩
 have hρ: ∀n m,pm π n=some m->S'.ρ n=S.ρ m:=by intro n m h;simp only[S',h]
 have hρ0: ∀n,pm π n=none->S'.ρ n=none:=by intro n h;simp only[S',h]
 have O: ∀n m,pm π n=some m-> ∀e',S'.h n=some e'-> ∃e,S.h m=some e/\e.1=e'.1/\EK π e'.2 e.2:=by
  intro n m hp e' z;have G:=Qll _ hH n e' z;rw[hp] at G;simp only[EC] at G;cases hx:hget s.h m with
  |none=>rw[hx] at G;exact G.elim
  |some e=>
   obtain⟨mu,e⟩:=e;rw[hx] at G;exact⟨(mu,e),(hc.h m).trans hx,G.1,G.2⟩
 have hh: ∀n m,pm π n=some m-> ∀e',S'.h n=some e'-> ∃e,S.h m=some e/\e.2.esz=e'.2.esz/\e.2.len=e'.2.len:=by
  intro n m hp e' z;obtain⟨e,G,_,Z⟩:=O n m hp e' z;obtain⟨h3,h4,_⟩:=Qxn Z;exact⟨e,G,h3,h4⟩
 have hW:=hc.wf;refine⟨S',rfl,⟨hW.os,hW.tape,hW.output,hW.dr,hW.size,hW.keep,hW.ok0,hW.ok1,hW.oks,?_,?_,?_,hW.gl⟩,λn=>rfl,?_,rK _ ah,?_,hc.size,hc.defers,am,?_⟩
 .intro n e' z;cases hp:pm π n with
  |some m=>
   obtain⟨e,G,_,Z⟩:=O n m hp e' z;rw[hρ n m hp];exact Yg (S:=S) (S':=S') rfl rfl hρ hρ0 hh Z (hW.obj m e G)
  |none=>
   have G:=Qll _ hH n e' z;rw[hp] at G;simp only[EC] at G;rw[hρ0 n hp];obtain⟨mu,e'⟩:=e';unfold Tp at G;split at G
   .rename_i ab Q;simp only at Q;subst Q;simp[Al]
   .rename_i ab Q;simp only at Q;subst Q;simp[Al]
   .exact G.elim
 .intro n e' l z hl;cases hp:pm π n with
  |none=>rw[hρ0 n hp] at hl;cases hl
  |some m=>
   obtain⟨e,G,Z,h3⟩:=O n m hp e' z;rw[hρ n m hp] at hl
   have:=hW.loc m e l G hl
   rw[<-Z,<-(Qxn h3).2.2];exact this
 .intro n n' e e' l l' he z hl aa hb ag;cases hp:pm π n with
  |none=>rw[hρ0 n hp] at hl;cases hl
  |some m=>
   cases hp':pm π n' with
   |none=>rw[hρ0 n' hp'] at aa;cases aa
   |some m'=>
    obtain⟨x,G,Z,h3⟩:=O n m hp e he;obtain⟨x',ad,af,an⟩:=O n' m' hp' e' z;rw[hρ n m hp] at hl;rw[hρ n' m' hp'] at aa
    have:=hW.inj m m' x x' l l' G ad hl aa hb (by rw[Z,af];exact ag)
    subst this;exact nB _ ac n n' e e' m he z hp hp'
 .intro t;rcases Qqi _ hT t with h|h
  .rw[h];simp only[Aa]
  .exact Qyf (S:=S) (S':=S') rfl rfl hρ hρ0 hh _ _ _ h (hc.tm t)
 .intro n e he;exact⟨rG _ aj n e he,eI _ ai n e he⟩
 .intro o ho e' z;have hp:=aV π ak o (by omega);obtain⟨e,G,_,Z⟩:=O o o hp e' z;obtain⟨e0,g1,g2,g3,g4⟩:=hc.pre o ho e G;obtain⟨h3,h4,_⟩:=Qxn Z;exact⟨e0,g1,(hρ o o hp).trans g2,h3.symm.trans g3,h4.symm.trans g4⟩
def rY(F:List Nat): ∀(H:Ar) (n:Nat),hget (H7 F H) n=(hget H n).map λe=>(e.1 && !F.contains n,e.2)
 |[],n=>rfl
 |(q,(z,e))::H,n=>by
  simp only[H7,hget];cases hq:q==n
  .simpa using rY F H n
  .have:q=n:=by simpa using hq
   subst this;rfl
def Qxl{C:AT}{N:Nat}(F:List Nat){s:Az}{a:Act}{w:World}(z:BL C N s a w):BL C N (Sk F s) a w:=by
 obtain⟨S,rfl,z⟩:=z;have hp:=Hg S (λn=> !F.contains n);refine⟨S.ice (λn=> !F.contains n),rfl,Vp z.wf,λn=> ?_,λt=>Hu hp _ _ (λ_ _=>trivial) (z.tm t),z.nmT,?_,z.size,z.defers,z.n0,?_⟩
 .show (S.h n).map _=hget (H7 F s.h) n;rw[rY,z.h n]
 .intro n e G;have G:hget (H7 F s.h) n=some e:=G;rw[rY] at G;simp only[CX] at G;obtain⟨x,hx,rfl⟩:=G;exact z.nmH n x hx
 .intro o Z e' O;obtain⟨e,Q,rfl⟩:=Vi O;exact z.pre o Z e Q
def TE{o p:Nat}{x:Option Ap}: ∀m∈(Ft o p x).nms,m∈(AV.ptr o p).nms:=by
 intro m z;unfold Ft at z;split at z<;>try exact z
 rename_i cs;cases ha:D3 (cs.drop p) with
 |none=>rw[ha] at z;exact z
 |some ds=>rw[ha] at z;simp[IY,AV.nms] at z
mutual
def L9(F:List Nat)(H:Ar): ∀(x:AV),∀m∈(x.fzA F H).nms,m∈x.nms
 | .own n,m,z=>by
   simp only[AV.fzA] at z;cases hF:F.contains n<;>rw[hF] at z
   .simpa using z
   .simp only[C3] at z;cases hh:hget H n with
    |none=>rw[hh] at z;simpa[Ku] using z
    |some e=>
     obtain⟨G,e⟩:=e;rw[hh] at z;cases e<;>simp only[Ku,Hb] at z<;>first|exact z|(simp[AV.nms] at z)
 | .agg cs,m,z=>by
   simp only[AV.fzA,AV.nms] at z⊢;exact zQ F H cs m z
 | .any,m,z=>by simpa only[AV.fzA] using z
 | .im d,m,z=>by simpa only[AV.fzA] using z
 | .tup cs,m,z=>by simpa only[AV.fzA] using z
 | .ptr o p,m,z=>by
   simp only[AV.fzA] at z;cases hF:F.contains o<;>rw[hF] at z
   .exact z
   .simp only[C3] at z;cases hG:F.contains (o+4000000000)<;>rw[hG] at z
    .exact z
    .exact TE m z
 | .eptr o i p,m,z=>by simpa only[AV.fzA] using z
 | .mp o,m,z=>by simpa only[AV.fzA] using z
 | .ch o,m,z=>by simpa only[AV.fzA] using z
 | .it o,m,z=>by simpa only[AV.fzA] using z
 | .osl o a n,m,z=>by simpa only[AV.fzA] using z
 | .clo f a c,m,z=>by simpa only[AV.fzA] using z
def zQ(F:List Nat)(H:Ar): ∀(xs:List AV),∀m∈A9 (DB F H xs),m∈A9 xs
 |[],m,z=>by simpa[DB] using z
 |x::r,m,z=>by
  simp only[DB,A9,Bp] at z⊢;exact z.imp (L9 F H x m) (zQ F H r m)
end
def nJ(F:List Nat)(H:Ar): ∀(xs:List (List AV)),∀m∈BB (DC F H xs),m∈BB xs
 |[],m,z=>by simpa[DC] using z
 |x::r,m,z=>by
  simp only[DC,BB,Bp] at z⊢;exact z.imp (zQ F H x m) (nJ F H r m)
def Sq(F:List Nat)(H:Ar)(e:Ag): ∀m∈(e.fzA F H).nms,m∈e.nms:=by
 intro m z;cases e<;>simp only[Ag.fzA,Ag.nms] at z⊢ <;>try exact z
 .exact zQ F H _ m z
 .exact nJ F H _ m z
def Qrp(F:List Nat)(H:Ar): ∀(xs:List (List AV)),(DC F H xs).length=xs.length
 |[]=>rfl
 |x::r=>by simp only[DC,Cr,Qrp F H r]
def Qzt(F:List Nat)(H:Ar): ∀(xs:List AV),(DB F H xs).length=xs.length
 |[]=>rfl
 |x::r=>by simp only[DB,Cr,Qzt F H r]
def Qtj(F:List Nat)(H:Ar)(e:Ag):(e.fzA F H).esz=e.esz/\(e.fzA F H).len=e.len/\(e.fzA F H).isView=e.isView:=by
 cases e<;>simp[Ag.fzA,Ag.esz,Ag.len,Ag.isView,Qrp]
def Qrq(F:List Nat)(H:Ar): ∀(T:List (Nat×AV)) (t:Nat),Ay (H9 F H T) t=(Ay T t).fzA F H
 |[],t=>by simp only[H9,Ay,AV.fzA]
 |(q,x)::T,t=>by
  simp only[H9,Ay];cases hq:q==t
  .simpa using Qrq F H T t
  .rfl
def Qss(F:List Nat)(H0:Ar): ∀(H:Ar) (n:Nat),hget (H8 F H0 H) n=(hget H n).map λe=>(e.1 && !F.contains n,e.2.fzA F H0)
 |[],n=>rfl
 |(q,(z,e))::H,n=>by
  simp only[H8,hget];cases hq:q==n
  .simpa using Qss F H0 H n
  .have:q=n:=by simpa using hq
   subst this;rfl
section
variable {C:AT}{S:Au}{F:List Nat}{H:Ar}(hW:Wf C S)(hH: ∀n e,F.contains n=true->hget H n=some e->S.h n=some (false,e.2))
include hW hH
def OM{n:Nat}{v:Value}(hF:F.contains n=true)(h:Aa S (.own n) v):Aa S (Ku n (hget H n)) v:=by
 cases hh:hget H n with
 |none=>exact h
 |some e=>
  have G:=hH n e hF hh;obtain⟨mu,e⟩:=e;cases e<;>simp only[Ku,Hb]<;>try exact h
  rename_i U w rows;simp only[Aa] at h⊢;have Q:=h.2 _ G;have z:=hW.obj n _ G;have Z:=λl=>hW.loc n _ l G
  simp only[Al] at z;simp only[rd];cases hl:S.ρ n with
  |none=>
   rw[hl] at Q z;exact .inl ⟨.inl Q,z.2⟩
  |some l=>
   rw[hl] at Q z;have O:=(Z l hl).2;simp only[Ag.isView,CN,NR,Cu] at O;obtain⟨g0,g1,vs,g2,g3,g4⟩:=z;exact .inr ⟨l.b,l.p,l.cap,vs,U,(0,0),Q,by simp,g1,g0,O,g2,g4⟩
def OQ{n p:Nat}{v:Value}(hF:F.contains n=true)(h:Aa S (.ptr n p) v):Aa S (Ft n p (hget H n)) v:=by
 cases hh:hget H n with
 |none=>exact h
 |some e=>
  have z:=hH n e hF hh;obtain⟨mu,e⟩:=e;cases e<;>simp only[Ft]<;>try exact h
  rename_i T cs;cases ha:D3 (cs.drop p) with
  |none=>exact h
  |some ds=>
   simp only[IY,Aa,rd];simp only[Aa] at h;obtain⟨l,Q,rfl⟩:=h.2 _ z;have G:=hW.obj n _ z;rw[Q] at G;simp only[Al] at G;obtain⟨lc,vs,Z,h4,h5,h6⟩:=G;cases Z;have O:=(hW.loc n _ l z Q).2;simp only[Ag.isView,CN,NR,Cu] at O;refine⟨l.b,l.p+p,vs,T,(0,0),rfl,O,h5,?_⟩;rw[h4,Fj];have h7: ∀(n:Nat) (a:List AV) (b:List Value),AJ S a b->AJ S (a.drop n) (b.drop n):=by
    intro n;induction n with
    |zero=>intro a b h;simpa using h
    |succ n ih=>
     intro a b h;cases a with
     |nil=>simp only[AJ] at h;subst h;simp[AJ]
     |cons x a=>
      simp only[AJ] at h;obtain⟨v,r,rfl,_,h⟩:=h;simpa using ih a r h
   exact Qse ds _ (zZ _ ds _ ha (h7 p cs _ h6))
mutual
def Qte: ∀(x:AV) (v:Value),Aa S x v->Aa S (x.fzA F H) v
 | .own n,v,h=>by
   simp only[AV.fzA];cases hF:F.contains n
   .exact h
   .exact OM hW hH hF h
 | .agg cs,v,h=>by
   simp only[AV.fzA,Aa] at h⊢;obtain⟨vs,rfl,h⟩:=h;exact⟨vs,rfl,Qom _ _ h⟩
 | .any,v,h=>by simpa only[AV.fzA] using h
 | .im d,v,h=>by simpa only[AV.fzA] using h
 | .tup cs,v,h=>by simpa only[AV.fzA] using h
 | .ptr o p,v,h=>by
   simp only[AV.fzA];cases hF:F.contains o
   .exact h
   .simp only[C3];cases hG:F.contains (o+4000000000)
    .exact h
    .exact OQ hW hH hF h
 | .eptr o i p,v,h=>by simpa only[AV.fzA] using h
 | .mp o,v,h=>by simpa only[AV.fzA] using h
 | .ch o,v,h=>by simpa only[AV.fzA] using h
 | .it o,v,h=>by simpa only[AV.fzA] using h
 | .osl o a n,v,h=>by simpa only[AV.fzA] using h
 | .clo f a c,v,h=>by simpa only[AV.fzA] using h
def Qom: ∀(xs:List AV) (vs:List Value),AJ S xs vs->AJ S (DB F H xs) vs
 |[],_,h=>by simpa only[DB] using h
 |x::l,vs,h=>by
  simp only[DB,AJ] at h⊢;obtain⟨v,r,rfl,z,G⟩:=h;exact⟨v,r,rfl,Qte x v z,Qom l r G⟩
end
def Quw: ∀(xs:List AV) (vs:List Value),Cy S xs vs->Cy S (DB F H xs) vs
 |[],_,h=>by simp only[DB,Cy]
 |x::l,vs,h=>by
  simp only[DB,Cy] at h⊢;obtain⟨v,r,rfl,z,G⟩:=h;exact⟨v,r,rfl,Qte hW hH x v z,Quw l r G⟩
def Qu9(k:Nat): ∀(xs:List (List AV)) (vs:List Value),BE S k xs vs->BE S k (DC F H xs) vs
 |[],_,h=>by simp only[DC,BE]
 |x::l,vs,h=>by
  simp only[DC,BE] at h⊢;exact⟨by rw[Qzt];exact h.1,Quw hW hH x vs h.2.1,Qu9 k l _ h.2.2⟩
def O1{l:Option Fe}(e:Ag)(h:Al S l e):Al S l (e.fzA F H):=by
 cases e<;>simp only[Ag.fzA]<;>try exact h
 .simp only[Al] at h⊢;obtain⟨Z,vs,G,z,O,Q⟩:=h;exact⟨Z,vs,G,z,O,Qom hW hH _ _ Q⟩
 .rename_i T k rows;simp only[Al,Qrp] at h⊢;refine⟨h.1,?_⟩;cases l with
  |none=>
   have z:=h.2;simp only at z;subst z;rfl
  |some Z=>
   obtain⟨h0,G,vs,z,O,Q⟩:=h;exact⟨G,vs,z,O,Qu9 hW hH k _ _ Q⟩
end
def sW{C:AT}{N:Nat}(F:List Nat){s:Az}{a:Act}{w:World}(O:BL C N s a w):BL C N (Sr F s) a w:=by
 obtain⟨S,rfl,aa⟩:=Qxl F O;clear O;have O:=aa;clear aa
 let S':Au:=⟨S.ρ,S.ok,hget (H8 F s.h s.h),S.w⟩
 have Z: ∀n,S.h n=(hget s.h n).map λe=>(e.1 && !F.contains n,e.2):=by
  intro n;rw[O.h n];exact rY F s.h n
 have hH: ∀n e,F.contains n=true->hget s.h n=some e->S.h n=some (false,e.2):=by
  intro n e hF he;rw[Z,he];simp only[DW,hF,mG,lY]
 have G: ∀n e',S'.h n=some e'-> ∃e,S.h n=some e/\e'.1=e.1/\e'.2=e.2.fzA F s.h:=by
  intro n e' z;have z:hget (H8 F s.h s.h) n=some e':=z;rw[Qss] at z;simp only[CX] at z;obtain⟨x,hx,rfl⟩:=z;exact⟨(x.1 && !F.contains n,x.2),by rw[Z,hx];rfl,rfl,rfl⟩
 have hp:B3 (λ_=>True) S S':=⟨λb hb=>⟨hb,rfl⟩,λo _ e' z=>by
  obtain⟨e,Q,h2,h3⟩:=G o e' z;obtain⟨g1,g2,_⟩:=Qtj F s.h e.2;exact⟨e,Q,rfl,by rw[h3];exact g1,by rw[h3];exact g2⟩⟩
 have hW:=O.wf;refine⟨S',rfl,⟨hW.os,hW.tape,hW.output,hW.dr,hW.size,hW.keep,hW.ok0,hW.ok1,hW.oks,?_,?_,?_,hW.gl⟩,λn=>rfl,?_,?_,?_,O.size,O.defers,O.n0,?_⟩
 .intro o e' z;obtain⟨e,Q,h2,h3⟩:=G o e' z;rw[h3];exact Hh hp (λlc _=>rfl) _ (λ_ _=>trivial) (O1 hW hH e.2 (hW.obj o e Q))
 .intro o e' l z hl;obtain⟨e,Q,h2,h3⟩:=G o e' z
  have:=hW.loc o e l Q hl
  rw[h2,h3,(Qtj F s.h e.2).2.2];exact this
 .intro o o' e e' l l' he z hl af hb ad;obtain⟨x,Q,h2,h3⟩:=G o e he;obtain⟨x',ab,ac,ag⟩:=G o' e' z;exact hW.inj o o' x x' l l' Q ab hl af hb (by rw[<-h2,<-ac];exact ad)
 .intro t;show Aa S' (Ay (H9 F s.h s.tm) t) _;rw[Qrq];exact Hu hp _ _ (λ_ _=>trivial) (Qte hW hH _ _ (O.tm t))
 .intro t m hm;have hm:m∈(Ay (H9 F s.h s.tm) t).nms:=hm;rw[Qrq] at hm;exact O.nmT t m (L9 F s.h _ m hm)
 .intro n e he;have he:hget (H8 F s.h s.h) n=some e:=he;rw[Qss] at he;simp only[CX] at he;obtain⟨x,hx,rfl⟩:=he;have Q:hget (Sk F s).h n=some (x.1 && !F.contains n,x.2):=by
   show hget (H7 F s.h) n=_;rw[rY,hx];rfl
  obtain⟨g1,g2⟩:=O.nmH n _ Q;exact⟨g1,λm hm=>g2 m (Sq F s.h x.2 m hm)⟩
 .intro o ho e' z;obtain⟨e,Q,h2,h3⟩:=G o e' z;obtain⟨e0,g1,g2,g3,g4⟩:=O.pre o ho e Q;obtain⟨q1,q2,_⟩:=Qtj F s.h e.2;exact⟨e0,g1,g2,by rw[h3,q1];exact g3,by rw[h3,q2];exact g4⟩
def Nl{p:Nat->Prop}: ∀n,p n-> ∃m,p m/\ ∀k,k<m-> ¬p k:=by
 intro n;induction n using Nat.strongRecOn with
 |_ n ih=>
  intro hn;by_cases h: ∃k,k<n/\p k
  .obtain⟨k,G,z⟩:=h;exact ih k G z
  .exact⟨n,hn,λk G z=>h ⟨k,G,z⟩⟩
section
variable {P:Program}{V:Df}{C:AT}{N:Nat}
def Zr{x:Cq}{Q:Cq}{next:Act->World->Prop}(O: ∀s a w,x .normal s->BL C N s a w->next a w)(Z: ∀i s,x (.exit i) s->Q (.exit i) s)(h3: ∀s,x .ret s->Q .ret s):
 ∀e a w,FU C N x e a w->Exit.then next (FU C N Q) e a w:=by
 intro e a w h;cases e<;>simp only[FU] at h<;>simp only[Exit.then,FU]
 .obtain⟨s,G,z⟩:=h;exact O s a w G z
 .obtain⟨s,G,z⟩:=h;exact⟨s,Z _ s G,z⟩
 .obtain⟨s,G,z⟩:=h;exact⟨s,h3 s G,z⟩
def Qo4(HM:P.follows .mixedOrders=true)(HV:Hi P V): ∀(c:Code),Eg N c=true-> ∀(Q:Cq) (s:Az) (a:Act) (w:World),Dh P V c Q s->BL C N s a w->c.wp P (FU C N Q) a w:=by
 intro c;induction c with
 |skip=>intro _ Q s a w h G;exact wp_skip ⟨s,h,G⟩
 |region id ops an=>
  intro hk Q s a w h G;simp only[Eg,AO] at hk;cases an with
  |true=>exact Qtk HM HV (λs a w h1 h2=>⟨s,h1,h2⟩) hk.1 (by simpa using hk.2) h G
  |false=>exact Qt0 HV (λs a w h1 h2=>⟨s,h1,h2⟩) hk.1 h G
 |seq x y ak am=>
  intro hk Q s a w h G;simp only[Eg,AO] at hk;simp only[Dh] at h;refine wp_seq (wp_mono (ak hk.1 _ s a w h G) (Zr ?_ ?_ ?_))
  .intro s a w hs G;exact am hk.2 Q s a w hs G
  .intro i s hs;exact hs
  .intro s hs;exact hs
 |cond c x y ak am=>
  intro hk Q s a w h G;simp only[Eg,AO] at hk;simp only[Dh] at h;obtain⟨S,ao,aj⟩:=G;have h1:=QG aj c;cases hv:Aq s.tm c<;>rw[hv] at h<;>try exact h.elim
  rename_i d;cases d<;>try exact h.elim
  rename_i b;rw[hv] at h1;simp only[Aa,rd] at h1;simp only[tO] at h;refine wp_cond_split h1 (λhb=>ak hk.1 Q s a w (h.1 hb) ⟨S,ao,aj⟩) (λhb=>am hk.2 Q s a w (h.2 hb) ⟨S,ao,aj⟩)
 |block id c ih=>
  intro hk Q s a w h G;simp only[Dh] at h;refine wp_block (wp_mono (ih hk _ s a w h G) ?_);intro e a w he;cases e<;>simp only[FU] at he<;>simp only[Exit.inBlock,FU]
  .exact he
  .rename_i i;obtain⟨s,hs,G⟩:=he;simp only[lP] at hs;by_cases hi:i=id
   .subst hi;rw[Ai rfl];exact⟨s,by simpa[IE] using hs,G⟩
   .rw[Ad hi]
    have:(i==id)=false:=by simpa using hi
    rw[this] at hs;exact⟨s,hs,G⟩
  .exact he
 |loop c ih=>
  intro hk Q s a w h G;have ai: ∀(s:Az),Zx (Dh P V c) Q s->BL C N s a w->(Code.loop c).wp P (FU C N Q) a w:=by
   clear h G;intro s h G;simp only[Zx] at h;obtain⟨β,I,μ,z,⟨b0,ad⟩,O⟩:=h
   let p:Act->World->Nat->Prop:=λa w n=> ∃b,BL C N (I b) a w/\μ b=n
   let μ':Act->World->Nat:=λa w=>Classical.epsilon λn=>p a w n/\ ∀k,k<n-> ¬p a w k
   have hμ: ∀a w b,BL C N (I b) a w->p a w (μ' a w)/\ ∀k,k<μ' a w-> ¬p a w k:=by
    intro a w b hb;exact lZ (p:=λn=>p a w n/\ ∀k,k<n-> ¬p a w k) (Nl (μ b) ⟨b,hb,rfl⟩)
   have ab: ∀b,C.n0<=(I b).nx:=by
    intro b;obtain⟨S,_,h⟩:=G;exact BR h.n0 (z b).2
   refine wp_loop (λa w=> ∃b,BL C N (I b) a w) μ' ⟨b0,lG G ad (z b0).1 (ab b0)⟩ ?_;rintro a w ⟨b,hb⟩;obtain⟨⟨b1,af,au⟩,_⟩:=hμ a w b hb;refine wp_mono (ih hk _ _ a w (O b1) af) (Zr ?_ ?_ ?_)
   .rintro s' a' w' ⟨b',aq,ac⟩ ag;have Z:=lG ag ac (z b').1 (ab b');refine⟨⟨b',Z⟩,?_⟩;obtain⟨_,aa⟩:=hμ a' w' b' Z;rcases EI (μ b') (μ' a' w') with h1|h1
    .exact absurd ⟨b',Z,rfl⟩ (aa _ h1)
    .omega
   .intro i s hs;exact hs
   .intro s hs;exact hs
  simp only[Dh,AR] at h;rcases h with h|h|⟨F,h⟩|h
  .exact ai s h G
  .simp only[Qsi] at h;obtain⟨β,I,μ,z,⟨b0,π0,ad⟩,O⟩:=h
   let p:Act->World->Nat->Prop:=λa w n=> ∃b,BL C N (I b) a w/\μ b=n
   let μ':Act->World->Nat:=λa w=>Classical.epsilon λn=>p a w n/\ ∀k,k<n-> ¬p a w k
   have hμ: ∀a w b,BL C N (I b) a w->p a w (μ' a w)/\ ∀k,k<μ' a w-> ¬p a w k:=by
    intro a w b hb;exact lZ (p:=λn=>p a w n/\ ∀k,k<n-> ¬p a w k) (Nl (μ b) ⟨b,hb,rfl⟩)
   have ah:C.n0<=s.nx:=by
    obtain⟨S,_,h⟩:=G;exact h.n0
   have ab: ∀b,C.n0<=(I b).nx:=by
    intro b;obtain⟨S,_,h⟩:=G;exact BR h.n0 (z b).2
   refine wp_loop (λa w=> ∃b,BL C N (I b) a w) μ' ⟨b0,QL G ad (z b0).1 ah (ab b0)⟩ ?_;rintro a w ⟨b,hb⟩;obtain⟨⟨b1,af,au⟩,_⟩:=hμ a w b hb;refine wp_mono (ih hk _ _ a w (O b1) af) (Zr ?_ ?_ ?_)
   .rintro s' a' w' ⟨b',π,aq,ac⟩ ag;have Z:=QL ag ac (z b').1 ah (ab b');refine⟨⟨b',Z⟩,?_⟩;obtain⟨_,aa⟩:=hμ a' w' b' Z;rcases EI (μ b') (μ' a' w') with h1|h1
    .exact absurd ⟨b',Z,rfl⟩ (aa _ h1)
    .omega
   .intro i s hs;exact hs
   .intro s hs;exact hs
  .exact ai _ h (Qxl F G)
  .simp only[Qsf] at h;obtain⟨β,I,μ,z,⟨b0,F0,π0,ad⟩,O⟩:=h
   let p:Act->World->Nat->Prop:=λa w n=> ∃b,BL C N (I b) a w/\μ b=n
   let μ':Act->World->Nat:=λa w=>Classical.epsilon λn=>p a w n/\ ∀k,k<n-> ¬p a w k
   have hμ: ∀a w b,BL C N (I b) a w->p a w (μ' a w)/\ ∀k,k<μ' a w-> ¬p a w k:=by
    intro a w b hb;exact lZ (p:=λn=>p a w n/\ ∀k,k<n-> ¬p a w k) (Nl (μ b) ⟨b,hb,rfl⟩)
   have ah:C.n0<=s.nx:=by
    obtain⟨S,_,h⟩:=G;exact h.n0
   have ab: ∀b,C.n0<=(I b).nx:=by
    intro b;obtain⟨S,_,h⟩:=G;exact BR h.n0 (z b).2
   refine wp_loop (λa w=> ∃b,BL C N (I b) a w) μ' ⟨b0,QL (sW F0 G) ad (z b0).1 ah (ab b0)⟩ ?_;rintro a w ⟨b,hb⟩;obtain⟨⟨b1,af,au⟩,_⟩:=hμ a w b hb;refine wp_mono (ih hk _ _ a w (O b1) af) (Zr ?_ ?_ ?_)
   .rintro s' a' w' ⟨b',F,π,aq,ac⟩ ag;have Z:=QL (sW F ag) ac (z b').1 ah (ab b');refine⟨⟨b',Z⟩,?_⟩;obtain⟨_,aa⟩:=hμ a' w' b' Z;rcases EI (μ b') (μ' a' w') with h1|h1
    .exact absurd ⟨b',Z,rfl⟩ (aa _ h1)
    .omega
   .intro i s hs;exact hs
   .intro s hs;exact hs
 |exit id=>intro _ Q s a w h G;exact wp_exit ⟨s,h,G⟩
 |ret=>intro _ Q s a w h G;exact wp_ret ⟨s,h,G⟩
 |_=>intro hk;simp[Eg] at hk
end
def kW(P:Program)(g:FuncId):Prop:=g<1000000000/\ ∃fn,P.funcs[g]? =some fn/\(fn.name== "runtime.NumGoroutine")=false/\fn.body.isNone=false
def Qr(P:Program)(g:FuncId)(args:List AV)(h:Nat->Option Ap)(nx:Nat)(r:AV)(E:Bz):Prop:=
 ∀(C:AT) (S:Au) (vs:Array Value) (R:Ending->World->Prop),
  Wf C S->(∀n∈E.use++E.kill,S.h n=h n)->(∀n,Fr nx E.cnt n->S.h n=none)->
  (∀n e,S.h n=some e-> ∀m∈e.2.nms,¬Fr nx E.cnt m)->
  AJ S args vs.toList->
  (∀v S',Wf C S'->S'.h=E.appf S.h->B3 (λm=> ¬Fr nx E.cnt m) S S'->Aa S' r v->R (.returned v) S'.w)->
  Calls P g vs S.w R
def Jr(P:Program)(V:Df):Prop:= ∀g z h nx K,V g z h nx K->kW P g/\ ∃r E,Qr P g z h nx r E/\K r E
def rH{P:Program}{g:FuncId}(h:kW P g)(args:Array Value)(w:World):(callFunc g args).run P w= .ok (.enter g args) w:=by
 obtain⟨_,fn,O,Q,Z⟩:=h;have z:fn.name≠ "runtime.NumGoroutine" :=by simpa using Q
 have G:fn.body≠none:=by intro h;simp[h] at Z
 simp[callFunc,O,z,G]
def Qpe{S:Au}{tm:List (Nat×AV)}{a:Act}: ∀(xs:List Operand),(∀x∈xs,Aa S (Aq tm x) (a.eval x))->AJ S (D9 tm xs) (xs.map a.eval)
 |[],_=>by simp[D9,AJ]
 |x::xs,h=>by
  simp only[D9,Bb,AJ];exact⟨_,_,rfl,h x (by simp),Qpe xs (λy z=>h y (by simp[z]))⟩
def Xp{P:Program}{V:Df}(hV:Jr P V)(tm:List (Nat×AV))(h:Nat->Option Ap)(nx:Nat)(o:Oper)(c:Call)(f:Operand)(K:Ah)(ho:o.op= .call c)(z:c.callee= .value f)
 (hk:Qw V (D9 tm c.args.toList) h nx K (Aq tm f)):BV P tm h nx o K:=by
 have ag:f∈o.op.operands:=by rw[ho];simp[Op.operands,Call.operands,z]
 have af: ∀x∈c.args.toList,x∈o.op.operands:=by
  intro x hx;rw[ho];simp only[Op.operands,Call.operands,z];simp;exact .inr (by simpa using hx)
 have aa: ∀(g:FuncId) (fi ca:List AV),V g (fi++D9 tm c.args.toList++ca) h nx K->(∀(S:Au) (v:Value),Aa S (Aq tm f) v-> ∃a b:Array Value,v= .func (VB g) a b/\AJ S fi a.toList/\AJ S ca b.toList)->BV P tm h nx o K:=by
  intro g fi ca Z hf;obtain⟨G,r,E,hT,hK⟩:=hV _ _ _ _ _ Z;refine⟨r,E,?_,hK⟩;intro C S a next Q hW hu ai ad O hn
  obtain⟨x,y,ac,hx,hy⟩:=hf S _ (O f ag);rw[WL G.1] at ac;have ab:=Qpe c.args.toList (λx hx=>O x (af x hx));unfold Oper.wp;have ah:(execOp a.eval o).run P S.w= .ok (.enter g (x++c.args.map a.eval++y)) S.w:=by
   simp only[execOp,ho,resolve,z,ac,Sem.run_bind];simp[Deferred.ofValue,invoke,rH G]
  rw[ah,Oper.upon_enter];refine hT C S _ _ hW hu ai ad ?_ ?_
  .simp only[mC,V3];exact Qop _ _ _ _ (Qop _ _ _ _ hx ab) hy
  .intro v S' h1 h2 h3 h4;exact hn v S' h1 h2 h3 h4
 cases hf:Aq tm f<;>rw[hf] at hk<;>try exact hk.elim
 case im d=>
  cases d<;>try exact hk.elim
  rename_i g first capt
  refine aa g (first.map .im) (capt.map .im) hk ?_;intro S v Z;rw[hf] at Z;simp only[Aa,rd] at Z;obtain⟨a,b,h1,h2,h3⟩:=Z;exact⟨a,b,h1,(Il _ _).2 h2,(Il _ _).2 h3⟩
 case clo g first capt=>
  refine aa g first capt hk ?_
  intro S v Z;rw[hf] at Z;simpa only[Aa] using Z
def Tf{P:Program}{t:TypeId}{m:String}{f:FuncId}(h:VX P t m=some f)(n:Nat)(v:Value)(w:World):(method (n+1) t v m).run P w= .ok (f,v) w:=by
 unfold VX at h;split at h
 .cases h
 .rename_i u z hu;unfold aQ at h;split at h
  .rename_i i hi;split at h
   .rename_i mm hm;cases hp:mm.path.isEmpty with
    |false=>rw[hp] at h;cases h
    |true=>
     rw[hp,C3] at h;split at h
     .rename_i g hg;obtain rfl:=Aw h;have G:mm.path.toList=[]:=by simpa using hp
      have Q:(typeInfo t).run P w= .ok i w:=by simp[typeInfo,hi]
      have Z:(underlying t).run P w= .ok u w:=by simp[underlying,hu]
      have O:(receiverAt t (.val v) false (if mm.path.isEmpty then some ((m.splitOn ".").getLastD m) else none)).run P w= .ok v w:=by
       unfold receiverAt;rw[Sem.run_bind,Z];cases u<;>first|rfl|exact (z _ rfl).elim
      unfold method;simp only[Sem.run_bind,Q,Result.andThen_ok,hm,G,follow,Sem.run_pure,hg,O]
     .cases h
   .cases h
  .cases h
 .cases h
def eS{P:Program}{V:Df}(hV:Jr P V):Hi P V:=by
 refine⟨λtm h nx o c f K ho z _ G=>Xp hV tm h nx o c f K ho z G,?_⟩;intro tm h nx o c rc m K ho z hnm G;have ad:rc∈o.op.operands:=by rw[ho];simp[Op.operands,Call.operands,z]
 have ac: ∀x∈c.args.toList,x∈o.op.operands:=by
  intro x hx;rw[ho];simp only[Op.operands,Call.operands,z];simp;exact .inr (by simpa using hx)
 cases hr:Aq tm rc<;>rw[hr] at G<;>try exact G.elim
 rename_i d;cases d<;>try exact G.elim
 rename_i t d;simp only[MK] at G;cases hm:VX P t m with
 |none=>rw[hm] at G;exact G.elim
 |some g=>
 rw[hm] at G;simp only[Wb] at G;obtain⟨aa,r,E,hT,hK⟩:=hV _ _ _ _ _ G;refine⟨r,E,?_,hK⟩;intro C S a next Q hW hu ag ab O hn
 have h1:=O rc ad;rw[hr] at h1;simp only[Aa,rd] at h1;obtain⟨x,hx,ah⟩:=h1;have Z:=Qpe c.args.toList (λx hx=>O x (ac x hx));unfold Oper.wp;have af:(execOp a.eval o).run P S.w= .ok (.enter g (#[x]++c.args.map a.eval)) S.w:=by
  simp only[execOp,ho,resolve,z,hx,Sem.run_bind];simp[invoke,callMethod];have e0:(#[Value.iface t x]++Array.map a.eval c.args)[0]? =some (.iface t x):=by rw[Zds (by simp)];rfl
  obtain⟨n,hn1⟩: ∃n,P.types.size+Made.depth=n+1:=⟨P.types.size+99,by simp[Made.depth]⟩;have e1:(Array.map a.eval c.args).extract 0 c.args.size=Array.map a.eval c.args:=by
   have:=uH (xs:=Array.map a.eval c.args)
   rwa [Array.size_map] at this
  rw[e0];simp only[Sem.run_bind,run_program,Result.andThen_ok,hn1,Tf hm,e1];exact rH aa _ _
 rw[af,Oper.upon_enter];refine hT C S _ _ hW hu ag ab ?_ ?_
 .simp only[mC,V3];exact⟨x,_,rfl,ah,Z⟩
 .intro v S' h1 h2 h3 h4;exact hn v S' h1 h2 h3 h4
mutual
def AV.ren(σ:Nat->Nat):AV->AV
 | .any=> .any
 | .im d=> .im d
 | .agg cs=> .agg (AU σ cs)
 | .tup cs=> .tup (AU σ cs)
 | .ptr o p=> .ptr (σ o) p
 | .eptr o i p=> .eptr (σ o) i p
 | .own o=> .own (σ o)
 | .mp o=> .mp (σ o)
 | .ch o=> .ch (σ o)
 | .it o=> .it (σ o)
 | .osl o a n=> .osl (σ o) a n
 | .clo f a c=> .clo f (AU σ a) (AU σ c)
def AU(σ:Nat->Nat):List AV->List AV
 |[]=>[]
 |x::r=>x.ren σ::AU σ r
end
def Qze(σ:Nat->Nat): ∀(l:List AV),AU σ l=l.map (AV.ren σ)
 |[]=>rfl
 |x::r=>by simp only[AU,Bb,Qze σ r]
def Ag.ren(σ:Nat->Nat):Ag->Ag
 | .cells T cs=> .cells T (AU σ cs)
 | .arr T k rows=> .arr T k rows
 | .arrA T k rows=> .arrA T k (rows.map (AU σ))
 | .map G z=> .map G z
 | .chan q cap=> .chan q cap
 | .iter a l=> .iter a l
 | .view cs=> .view cs
def Qr6(σ:Nat->Nat)(e:Ag):(e.ren σ).esz=e.esz:=by cases e<;>rfl
def Qs6(σ:Nat->Nat)(e:Ag):(e.ren σ).len=e.len:=by cases e<;>simp[Ag.ren,Ag.len]
section
variable {S S':Au}{σ τ:Nat->Nat}
structure NI(S S':Au)(σ τ:Nat->Nat)(n:Nat):Prop where
 a: ∀e',S'.h (τ n)=some e'-> ∃e,S.h (σ n)=some e/\S'.ρ (τ n)=S.ρ (σ n)/\e'.2.esz=e.2.esz/\e'.2.len=e.2.len
mutual
def Qz8(aa: ∀b,S.ok b->S'.ok b/\S'.hp b=S.hp b): ∀(z:AV) (v:Value),(∀n∈z.nms,NI S S' σ τ n)->Aa S (z.ren σ) v->Aa S' (z.ren τ) v
 | .any,_,_,_=>by simp only[AV.ren,Aa]
 | .im d,v,_,h=>by
   simp only[AV.ren,Aa] at h⊢;exact FL aa d v h
 | .agg cs,v,O,h=>by
   simp only[AV.ren,Aa,AV.nms] at h O⊢;obtain⟨vs,rfl,h1⟩:=h;exact⟨vs,rfl,dV aa cs _ O h1⟩
 | .tup cs,v,O,h=>by
   simp only[AV.ren,Aa,AV.nms] at h O⊢;obtain⟨vs,rfl,h1⟩:=h;exact⟨vs,rfl,dV aa cs _ O h1⟩
 | .ptr o off,v,O,h=>by
   simp only[AV.ren,Aa,AV.nms,B4,KQ] at h O⊢;obtain⟨G,h⟩:=h;refine⟨G,?_⟩;intro e' Q;obtain⟨e,Z,hr,_,_⟩:=O.a e' Q;rw[hr];exact h e Z
 | .eptr o i off,v,O,h=>by
   simp only[AV.ren,Aa,AV.nms,B4,KQ] at h O⊢;obtain⟨G,h⟩:=h;refine⟨G,?_⟩;intro e' Q;obtain⟨e,Z,hr,hz,_⟩:=O.a e' Q;rw[hr,hz];exact h e Z
 | .own o,v,O,h=>by
   simp only[AV.ren,Aa,AV.nms,B4,KQ] at h O⊢;obtain⟨G,h⟩:=h;refine⟨G,?_⟩;intro e' Q;obtain⟨e,Z,hr,_,hl⟩:=O.a e' Q;rw[hr,hl];exact h e Z
 | .mp o,v,O,h=>by
   simp only[AV.ren,Aa,AV.nms,B4,KQ] at h O⊢;obtain⟨G,h⟩:=h;refine⟨G,?_⟩;intro e' Q;obtain⟨e,Z,hr,_,_⟩:=O.a e' Q;rw[hr];exact h e Z
 | .ch o,v,O,h=>by
   simp only[AV.ren,Aa,AV.nms,B4,KQ] at h O⊢;obtain⟨G,h⟩:=h;refine⟨G,?_⟩;intro e' Q;obtain⟨e,Z,hr,_,_⟩:=O.a e' Q;rw[hr];exact h e Z
 | .it o,v,O,h=>by
   simp only[AV.ren,Aa,AV.nms,B4,KQ] at h O⊢;obtain⟨G,h⟩:=h;refine⟨G,?_⟩;intro e' Q;obtain⟨e,Z,hr,_,_⟩:=O.a e' Q;rw[hr];exact h e Z
 | .osl o a n,v,O,h=>by
   simp only[AV.ren,Aa,AV.nms,B4,KQ] at h O⊢;obtain⟨G,h⟩:=h;refine⟨G,?_⟩;intro e' Q;obtain⟨e,Z,hr,hz,hl⟩:=O.a e' Q;rw[hr,hz,hl];exact h e Z
 | .clo f fi ca,v,O,h=>by
   simp only[AV.ren,Aa,AV.nms,Bp] at h O⊢;obtain⟨a,c,rfl,h1,h2⟩:=h;exact⟨a,c,rfl,dV aa fi _ (λo ho=>O o (.inl ho)) h1,dV aa ca _ (λo ho=>O o (.inr ho)) h2⟩
def dV(z: ∀b,S.ok b->S'.ok b/\S'.hp b=S.hp b): ∀(Q:List AV) (vs:List Value),(∀n∈A9 Q,NI S S' σ τ n)->AJ S (AU σ Q) vs->AJ S' (AU τ Q) vs
 |[],_,_,h=>by simpa only[AU,AJ] using h
 |x::xs,vs,O,h=>by
  simp only[AU,AJ,A9,Bp] at h O⊢;obtain⟨v,r,rfl,Z,h2⟩:=h;exact⟨v,r,rfl,Qz8 z x v (λo G=>O o (.inl G)) Z,dV z xs r (λo G=>O o (.inr G)) h2⟩
end
def Qt9(z: ∀b,S.ok b->S'.ok b/\S'.hp b=S.hp b): ∀(Q:List AV) (vs:List Value),(∀n∈A9 Q,NI S S' σ τ n)->Cy S (AU σ Q) vs->Cy S' (AU τ Q) vs
 |[],_,_,h=>by simp only[AU,Cy]
 |x::xs,vs,O,h=>by
  simp only[AU,Cy,A9,Bp] at h O⊢;obtain⟨v,r,rfl,Z,h2⟩:=h;exact⟨v,r,rfl,Qz8 z x v (λo G=>O o (.inl G)) Z,Qt9 z xs r (λo G=>O o (.inr G)) h2⟩
def Qsc(σ:Nat->Nat)(l:List AV):(AU σ l).length=l.length:=by rw[Qze];simp
def Qva(z: ∀b,S.ok b->S'.ok b/\S'.hp b=S.hp b)(k:Nat): ∀(G:List (List AV)) (vs:List Value),(∀n∈BB G,NI S S' σ τ n)->BE S k (G.map (AU σ)) vs->BE S' k (G.map (AU τ)) vs
 |[],_,_,h=>by simp only[Cs,BE]
 |r::G,vs,Q,h=>by
  simp only[Bb,BE,BB,Bp,Qsc] at h Q⊢;exact⟨h.1,Qt9 z r vs (λo O=>Q o (.inl O)) h.2.1,Qva z k G _ (λo O=>Q o (.inr O)) h.2.2⟩
def Qzw(G: ∀b,S.ok b->S'.ok b/\S'.hp b=S.hp b){l:Option Fe}(hl: ∀z,l=some z->S'.hp z.b=S.hp z.b): ∀(e:Ag),(∀n∈e.nms,NI S S' σ τ n)->Al S l (e.ren σ)->Al S' l (e.ren τ)
 | .cells T cs,hx,h=>by
   simp only[Ag.ren,Al,Ag.nms] at h hx⊢;obtain⟨z,vs,O,Z,h3,h4⟩:=h;exact⟨z,vs,O,Z,(hl z O).trans h3,dV G cs _ hx h4⟩
 | .arr T k rows,hx,h=>by
   simp only[Ag.ren,Al] at h⊢;refine⟨h.1,?_⟩;cases l with
   |none=>exact h.2
   |some z=>
    obtain⟨h0,O,vs,Z,h3,h4⟩:=h;exact⟨O,vs,(hl z rfl).trans Z,h3,Zp G k rows _ h4⟩
 | .arrA T k rows,hx,h=>by
   simp only[Ag.ren,Al,Ag.nms,EJ] at h hx⊢;refine⟨h.1,?_⟩;cases l with
   |none=>
    have:=h.2
    simp only[ZeC] at this⊢;exact this
   |some z=>
    obtain⟨h0,O,vs,Z,h3,h4⟩:=h;exact⟨O,vs,(hl z rfl).trans Z,h3,Qva G k rows _ hx h4⟩
 | .map kt es,_,h=>by
   simp only[Ag.ren,Al] at h⊢;obtain⟨z,aa,Q,O,h0,Z,h3,h4⟩:=h;exact⟨z,aa,Q,O,h0,(hl z O).trans Z,KA G es _ h3,h4⟩
 | .chan q cap,_,h=>by
   simp only[Ag.ren,Al] at h⊢;obtain⟨z,ag,af,ac,O,Z,h3⟩:=h;exact⟨z,ag,af,ac,O,(hl z O).trans Z,KB G q _ h3⟩
 | .iter ab left,_,h=>by
   simp only[Ag.ren,Al] at h⊢;obtain⟨z,mb,aa,Q,ad,O,Z,h0,h3,h4,h5,h6,h7⟩:=h;exact⟨z,mb,aa,Q,ad,O,(G mb Z).1,Qly G ab h0,(G mb Z).2.trans h3,(hl z O).trans h4,h5,h6,KA G left _ h7⟩
 | .view cs,_,h=>by
   simp only[Ag.ren,Al] at h⊢;obtain⟨z,vs,T,fr,O,Z,h3⟩:=h;exact⟨z,vs,T,fr,O,(hl z O).trans Z,Vm G cs _ h3⟩
mutual
def iR: ∀(z:AV),z.ren (λn=>n)=z
 | .any=>rfl
 | .im _=>rfl
 | .agg cs=>by simp only[AV.ren,Zu cs]
 | .tup cs=>by simp only[AV.ren,Zu cs]
 | .ptr _ _=>rfl
 | .eptr _ _ _=>rfl
 | .own _=>rfl
 | .mp _=>rfl
 | .ch _=>rfl
 | .it _=>rfl
 | .osl _ _ _=>rfl
 | .clo f a c=>by simp only[AV.ren,Zu a,Zu c]
def Zu: ∀(z:List AV),AU (λn=>n) z=z
 |[]=>rfl
 |x::r=>by simp only[AU,iR x,Zu r]
end
def Qwc(e:Ag):e.ren (λn=>n)=e:=by
 cases e<;>simp only[Ag.ren,Zu];rename_i T k rows
 have:(AU λn=>n)=(id:List AV->List AV):=funext Zu
 rw[this];simp
end
def A7{α β:Type}(f:α->Option β):List α->Option (List β)
 |[]=>some []
 |x::r=>match f x,A7 f r with
  |some y,some z=>some (y::z)
  |_,_=>none
def PS(f:AV->Option D):Option Ap->Option D
 |some (_,.arr _ k rows)=>some (.sl false k rows)
 |some (_,.arrA _ k rows)=>(A7 (A7 f) rows).map (.sl false k)
 |_=>none
def WP:Option Ap->Option D
 |some (_,.map G z)=>some (.mp G z)
 |_=>none
def WJ(f:AV->Option D):Option Ap->Option D
 |some (_,.cells _ cs)=>(A7 f cs).map .ref
 |_=>none
def mO(z:List AV):Option (List D)->AV
 |some ds=> .im (.tup ds)
 |none=> .tup z
def gU(g:FuncId)(a c:List AV):Option (List D)->Option (List D)->AV
 |some ds,some z=> .im (.fn g ds z)
 |some _,none=> .clo g a c
 |none,_=> .clo g a c
def IP(g:FuncId):Option (List AV)->Option (List AV)->Option AV
 |some a,some c=>some (gU g a c (D3 a) (D3 c))
 |_,_=>none
def kp(x:Nat->AV)(d:Option D):Option Nat->Option AV
 |some j=>some (x j)
 |none=>d.map .im
def Em:Option AV->Option D
 |some x=>x.asD
 |none=>none
def Bl(h:Nat->Option Ap)(kx:Nat->Option Nat):Nat->AV->Option AV
 |0,_=>none
 |_+1,.im d=>some (.im d)
 |_+1,.any=>some .any
 |n+1,.agg cs=>(A7 (Bl h kx n) cs).map λz=>Ye z (D3 z)
 |n+1,.tup cs=>(A7 (Bl h kx n) cs).map λz=>mO z (D3 z)
 |n+1,.own o=>kp .own (PS (λx=>Em (Bl h kx n x)) (h o)) (kx o)
 |_+1,.mp o=>kp .mp (WP (h o)) (kx o)
 |n+1,.ptr o 0=>kp (λj=> .ptr j 0) (WJ (λx=>Em (Bl h kx n x)) (h o)) (kx o)
 |_+1,.ptr o (p+1)=>kp (λj=> .ptr j (p+1)) none (kx o)
 |_+1,.eptr o i p=>kp (λj=> .eptr j i p) none (kx o)
 |_+1,.ch o=>kp .ch none (kx o)
 |_+1,.it o=>kp .it none (kx o)
 |_+1,.osl o a n=>kp (λj=> .osl j a n) none (kx o)
 |n+1,.clo g a c=>IP g (A7 (Bl h kx n) a) (A7 (Bl h kx n) c)
section
variable {S:Au}{f:AV->Option D}
def lM(hf: ∀x d v,f x=some d->Aa S x v->rd S.ok S.hp d v): ∀(cs:List AV) (ds:List D) (vs:List Value),A7 f cs=some ds->AJ S cs vs->rdl S.ok S.hp ds vs
 |[],ds,vs,h,z=>by
  simp only[A7,AI] at h;subst h;simp only[AJ] at z;simp only[rdl];exact z
 |x::cs,ds,vs,h,z=>by
  simp only[A7] at h;simp only[AJ] at z;obtain⟨v,r,rfl,O,Q⟩:=z;split at h
  .rename_i y ys Z G;obtain rfl:=Aw h;simp only[rdl];exact⟨v,r,rfl,hf x y v Z O,lM hf cs ys r G Q⟩
  .cases h
def Tc(hf: ∀x d v,f x=some d->Aa S x v->rd S.ok S.hp d v): ∀(cs:List AV) (ds:List D) (vs:List Value),A7 f cs=some ds->Cy S cs vs->rdp S.ok S.hp ds vs
 |[],ds,vs,h,z=>by
  simp only[A7,AI] at h;subst h;simp only[rdp]
 |x::cs,ds,vs,h,z=>by
  simp only[A7] at h;simp only[Cy] at z;obtain⟨v,r,rfl,O,Q⟩:=z;split at h
  .rename_i y ys Z G;obtain rfl:=Aw h;simp only[rdp];exact⟨v,r,rfl,hf x y v Z O,Tc hf cs ys r G Q⟩
  .cases h
def eA{α β:Type}{g:α->Option β}: ∀(cs:List α) (ds:List β),A7 g cs=some ds->ds.length=cs.length
 |[],ds,h=>by simp only[A7,AI] at h;subst h;rfl
 |x::cs,ds,h=>by
  simp only[A7] at h;split at h
  .rename_i y G O z;obtain rfl:=Aw h;simp[eA cs G z]
  .cases h
def Td(hf: ∀x d v,f x=some d->Aa S x v->rd S.ok S.hp d v){k:Nat}: ∀(Q:List (List AV)) (ds:List (List D)) (vs:List Value),A7 (A7 f) Q=some ds->BE S k Q vs->rdr S.ok S.hp k ds vs
 |[],ds,vs,h,z=>by
  simp only[A7,AI] at h;subst h;simp only[rdr]
 |x::cs,ds,vs,h,z=>by
  simp only[A7] at h;simp only[BE] at z;split at h
  .rename_i y Z O G;obtain rfl:=Aw h;simp only[rdr];exact⟨by rw[eA x y O];exact z.1,Tc hf x y vs O z.2.1,Td hf cs Z _ G z.2.2⟩
  .cases h
def Qv8{o:Nat}{e:Ap}{k:Nat}{rows:List (List D)}{v:Value}(he:S.h o=some e)(hl:e.2.len=rows.length)(O: ∀l,S.ρ o=some l->S.ok l.b)
 (z:match S.ρ o with|none=>rows=[]|some Q=>rows.length<=Hq/\rows.length<=Q.cap/\ ∃vs T,S.hp Q.b=some (.cells vs T (0,0))/\rdr S.ok S.hp k rows (vs.toList.drop Q.p))(G:Aa S (.own o) v):rd S.ok S.hp (.sl false k rows) v:=by
 simp only[Aa] at G;have G:=G.2 e he;simp only[rd];cases hr:S.ρ o with
 |none=>rw[hr] at G z;exact .inl ⟨.inl G,z⟩
 |some l=>
  rw[hr] at G z;obtain⟨h0,Z,vs,T,h2,h3⟩:=z;exact .inr ⟨l.b,l.p,l.cap,vs,T,(0,0),by rw[<-hl];exact G,by simp,Z,h0,O l hr,h2,h3⟩
end
def L4{C:AT}{S:Au}(hW:Wf C S){f:AV->Option D}(hf: ∀x d v,f x=some d->Aa S x v->rd S.ok S.hp d v){o:Nat}{d:D}{v:Value}(O: ∀e l,S.h o=some e->e.2.isView=false->S.ρ o=some l->S.ok l.b)
 (h:PS f (S.h o)=some d)(hc:Aa S (.own o) v):rd S.ok S.hp d v:=by
 cases ho:S.h o with
 |none=>rw[ho] at h;simp[PS] at h
 |some e=>
  rw[ho] at h;obtain⟨mu,e⟩:=e;have z:=hW.obj o _ ho;cases e<;>simp only[PS,reduceCtorEq] at h
  .obtain rfl:=Aw h;simp only[Al] at z;refine Qv8 ho rfl (λl hl=>O _ l ho rfl hl) ?_ hc;cases hr:S.ρ o with
   |none=>rw[hr] at z;exact z.2
   |some l=>
    rw[hr] at z;obtain⟨h0,Q,vs,h2,_,Z⟩:=z;exact⟨h0,Q,vs,_,h2,Z⟩
  .simp only[CX] at h;obtain⟨rows,Q,rfl⟩:=h;have G:=eA _ _ Q;simp only[Al] at z;refine Qv8 ho (by simp[Ag.len,G]) (λl hl=>O _ l ho rfl hl) ?_ hc;cases hr:S.ρ o with
   |none=>rw[hr] at z;rw[z.2] at G;exact Ra.1 (by simpa using G)
   |some l=>
    rw[hr] at z;obtain⟨h0,h2,vs,Z,_,h4⟩:=z;exact⟨by omega,by omega,vs,_,Z,Td hf _ _ _ Q h4⟩
def Sm{C:AT}{S:Au}(hW:Wf C S){o:Nat}{d:D}{v:Value}(Q: ∀e l,S.h o=some e->e.2.isView=false->S.ρ o=some l->S.ok l.b)
 (h:WP (S.h o)=some d)(hc:Aa S (.mp o) v):rd S.ok S.hp d v:=by
 cases ho:S.h o with
 |none=>rw[ho] at h;simp[WP] at h
 |some e=>
  rw[ho] at h;obtain⟨mu,e⟩:=e;have O:=hW.obj o _ ho;cases e<;>simp only[WP,reduceCtorEq] at h;obtain rfl:=Aw h;simp only[Al] at O;obtain⟨lc,G,z,Z,h2,h3,h4⟩:=O;simp only[Aa] at hc;obtain⟨l,hl,hv⟩:=hc.2 _ ho;rw[Z] at hl;obtain rfl:=Aw hl;simp only[rd];exact⟨lc.b,G,z,hv,h2,Q _ lc ho rfl Z,h3,h4⟩
def XG{C:AT}{S:Au}(hW:Wf C S){f:AV->Option D}(hf: ∀x d v,f x=some d->Aa S x v->rd S.ok S.hp d v){o:Nat}{d:D}{v:Value}(G: ∀e l,S.h o=some e->e.2.isView=false->S.ρ o=some l->S.ok l.b)
 (h:WJ f (S.h o)=some d)(Z:Aa S (.ptr o 0) v):rd S.ok S.hp d v:=by
 cases ho:S.h o with
 |none=>rw[ho] at h;simp[WJ] at h
 |some e=>
  rw[ho] at h;obtain⟨mu,e⟩:=e;have z:=hW.obj o _ ho;cases e<;>simp only[WJ,reduceCtorEq] at h;simp only[CX] at h;obtain⟨ds,h1,rfl⟩:=h;simp only[Al] at z;obtain⟨O,vs,Q,h3,h4,h5⟩:=z;simp only[Aa] at Z;obtain⟨l,hl,hv⟩:=Z.2 _ ho;rw[Q] at hl;obtain rfl:=Aw hl;simp only[rd];refine⟨O.b,O.p+0,vs,_,_,hv,G _ O ho rfl Q,h4,?_⟩;rw[h3];simpa using WC _ _ (lM hf _ _ _ h1 h5)
def sA{g:AV->Option AV}: ∀(cs O:List AV) (ds:List D),A7 g cs=some O->D3 O=some ds->A7 (λx=>Em (g x)) cs=some ds
 |[],O,ds,h,G=>by
  simp only[A7,AI] at h;subst h;simpa[D3,A7] using G
 |x::cs,O,ds,h,G=>by
  simp only[A7] at h;split at h
  .rename_i z Z hz Q;obtain rfl:=Aw h;simp only[D3] at G;cases hy:z.asD with
   |none=>rw[hy] at G;simp[NE] at G
   |some d=>
    cases hys:D3 Z with
    |none=>rw[hy,hys] at G;simp[NE] at G
    |some es=>
     rw[hy,hys] at G;simp only[NE,AI] at G;subst G;have h9:=sA cs Z es Q hys;have h8:Em (g x)=some d:=by rw[hz];exact hy
     simp only[A7,h8,h9]
  .cases h
def NW{x:Option AV}{d:D}(h:Em x=some d):x=some (.im d):=by
 cases x with
 |none=>cases h
 |some x=>
  simp only[Em] at h;cases x<;>simp only[AV.asD,reduceCtorEq] at h;obtain rfl:=Aw h;rfl
def ZB{x:Nat->AV}{d:Option D}{k:Option Nat}{e:D}(O: ∀j,x j≠ .im e)(h:kp x d k=some (.im e)):k=none/\d=some e:=by
 cases k with
 |some j=>
  simp only[kp,AI] at h;exact absurd h (O j)
 |none=>
  simp only[kp,CX] at h;obtain⟨d',z,G⟩:=h;cases G;exact⟨rfl,z⟩
def RE{C:AT}{S:Au}(hW:Wf C S){kx:Nat->Option Nat}(Q: ∀o e l,kx o=none->S.h o=some e->e.2.isView=false->S.ρ o=some l->S.ok l.b):
 ∀(n:Nat) (x:AV) (d:D) (v:Value),Bl S.h kx n x=some (.im d)->Aa S x v->rd S.ok S.hp d v:=by
 intro n;induction n with
 |zero=>intro x d v h;simp[Bl] at h
 |succ n ih=>
  have hf: ∀x d v,Em (Bl S.h kx n x)=some d->Aa S x v->rd S.ok S.hp d v:=λx d v h O=>ih x d v (NW h) O
  intro x d v h O;cases x with
  |im d'=>
   simp only[Bl,AI,AV.im.injEq] at h;subst h;simpa only[Aa] using O
  |any=>simp[Bl] at h
  |agg cs=>
   simp only[Bl,CX] at h;obtain⟨ys,G,z⟩:=h;simp only[Aa] at O;obtain⟨vs,rfl,Z⟩:=O;cases ha:D3 ys with
   |none=>rw[ha] at z;simp[Ye] at z
   |some ds=>
    rw[ha] at z;simp only[Ye,AV.im.injEq] at z;subst z;simp only[rd];exact⟨vs,rfl,lM hf cs ds _ (sA cs ys ds G ha) Z⟩
  |tup cs=>
   simp only[Bl,CX] at h;obtain⟨ys,G,z⟩:=h;simp only[Aa] at O;obtain⟨vs,rfl,Z⟩:=O;cases ha:D3 ys with
   |none=>rw[ha] at z;simp[mO] at z
   |some ds=>
    rw[ha] at z;simp only[mO,AV.im.injEq] at z;subst z;simp only[rd];exact⟨vs,rfl,lM hf cs ds _ (sA cs ys ds G ha) Z⟩
  |own o=>
   simp only[Bl] at h;obtain⟨G,z⟩:=ZB (by simp) h;exact L4 hW hf (λe l=>Q o e l G) z O
  |mp o=>
   simp only[Bl] at h;obtain⟨G,z⟩:=ZB (by simp) h;exact Sm hW (λe l=>Q o e l G) z O
  |ptr o p=>
   cases p with
   |zero=>
    simp only[Bl] at h;obtain⟨G,z⟩:=ZB (by simp) h;exact XG hW hf (λe l=>Q o e l G) z O
   |succ p=>
    simp only[Bl] at h;obtain⟨G,z⟩:=ZB (by simp) h;cases z
  |eptr o i p=>
   simp only[Bl] at h;obtain⟨G,z⟩:=ZB (by simp) h;cases z
  |ch o=>
   simp only[Bl] at h;obtain⟨G,z⟩:=ZB (by simp) h;cases z
  |it o=>
   simp only[Bl] at h;obtain⟨G,z⟩:=ZB (by simp) h;cases z
  |osl o a k=>
   simp only[Bl] at h;obtain⟨G,z⟩:=ZB (by simp) h;cases z
  |clo g a c=>
   simp only[Bl] at h;cases ha:A7 (Bl S.h kx n) a with
   |none=>rw[ha] at h;simp[IP] at h
   |some a'=>
    cases hcc:A7 (Bl S.h kx n) c with
    |none=>rw[ha,hcc] at h;simp[IP] at h
    |some c'=>
     rw[ha,hcc] at h;simp only[IP,AI] at h;cases G:D3 a' with
     |none=>rw[G] at h;simp[gU] at h
     |some ds=>
      cases z:D3 c' with
      |none=>rw[G,z] at h;simp[gU] at h
      |some es=>
       rw[G,z] at h;simp only[gU,AV.im.injEq] at h;subst h;simp only[Aa] at O;obtain⟨va,vc,rfl,Z,h4⟩:=O;simp only[rd];exact⟨va,vc,rfl,lM hf a ds _ (sA a a' ds ha G) Z,lM hf c es _ (sA c c' es hcc z) h4⟩
def Qrr{C:AT}{S S':Au}(hW:Wf C S){kx:Nat->Option Nat}{τ:Nat->Nat}(ac: ∀b,S.ok b->S'.ok b/\S'.hp b=S.hp b)(ab: ∀o e l,kx o=none->S.h o=some e->e.2.isView=false->S.ρ o=some l->S.ok l.b)
 (Q: ∀o j,kx o=some j-> ∀e',S'.h (τ j)=some e'-> ∃e,S.h o=some e/\S'.ρ (τ j)=S.ρ o/\e'.2.esz=e.2.esz/\e'.2.len=e.2.len):
 ∀(n:Nat) (x y:AV) (v:Value),Bl S.h kx n x=some y->Aa S x v->Aa S' (y.ren τ) v:=by
 intro n;induction n with
 |zero=>intro x y v h;simp[Bl] at h
 |succ n ih=>
  have hm: ∀(cs ys:List AV) (vs:List Value),A7 (Bl S.h kx n) cs=some ys->AJ S cs vs->AJ S' (AU τ ys) vs:=by
   intro cs;induction cs with
   |nil=>
    intro ys vs h G;simp only[A7,AI] at h;subst h;simpa only[AU,AJ] using G
   |cons x cs af=>
    intro ys vs h G;simp only[A7] at h;simp only[AJ] at G;obtain⟨v,r,rfl,Z,h2⟩:=G;split at h
    .rename_i z zs hz ad;obtain rfl:=Aw h;simp only[AU,AJ];exact⟨v,r,rfl,ih x z v hz Z,af zs r ad h2⟩
    .cases h
  intro x y v h G;have hB: ∀d,y= .im d->Aa S' (y.ren τ) v:=by
   intro d hd;subst hd;simp only[AV.ren,Aa];exact FL ac d v (RE hW ab (n+1) x d v h G)
  have hK: ∀(f:Nat->AV) (g:Option D) (o:Nat),kp f g (kx o)=some y->(∀j,kx o=some j->Aa S' ((f j).ren τ) v)->Aa S' (y.ren τ) v:=by
   intro f g o Z h2;cases hk:kx o with
   |none=>
    rw[hk] at Z;simp only[kp,CX] at Z;obtain⟨d,_,rfl⟩:=Z;exact hB d rfl
   |some j=>
    rw[hk] at Z;simp only[kp,AI] at Z;rw[<-Z];exact h2 j hk
  cases x with
  |im d=>
   simp only[Bl,AI] at h;exact hB d h.symm
  |any=>
   simp only[Bl,AI] at h;subst h;simp only[AV.ren,Aa]
  |agg cs=>
   have h0:=h;simp only[Bl,CX] at h0;obtain⟨ys,Z,h2⟩:=h0;cases ha:D3 ys with
   |some ds=>rw[ha] at h2;exact hB _ h2.symm
   |none=>
    rw[ha] at h2;simp only[Aa] at G;obtain⟨vs,rfl,h3⟩:=G;rw[<-h2];simp only[Ye,AV.ren,Aa];exact⟨vs,rfl,hm cs ys _ Z h3⟩
  |tup cs=>
   have h0:=h;simp only[Bl,CX] at h0;obtain⟨ys,Z,h2⟩:=h0;cases ha:D3 ys with
   |some ds=>rw[ha] at h2;exact hB _ h2.symm
   |none=>
    rw[ha] at h2;simp only[Aa] at G;obtain⟨vs,rfl,h3⟩:=G;rw[<-h2];simp only[mO,AV.ren,Aa];exact⟨vs,rfl,hm cs ys _ Z h3⟩
  |own o=>
   have h0:=h;simp only[Bl] at h0;refine hK _ _ o h0 ?_;intro j hj;simp only[Aa,AV.ren] at G⊢;refine⟨G.1,?_⟩;intro e' O;obtain⟨e,he,hr,_,hl⟩:=Q o j hj e' O;rw[hr,hl];exact G.2 e he
  |mp o=>
   have h0:=h;simp only[Bl] at h0;refine hK _ _ o h0 ?_;intro j hj;simp only[Aa,AV.ren] at G⊢;refine⟨G.1,?_⟩;intro e' O;obtain⟨e,he,hr,_,hl⟩:=Q o j hj e' O;rw[hr];exact G.2 e he
  |ptr o p=>
   have hp: ∀j,kx o=some j->Aa S' ((AV.ptr j p).ren τ) v:=by
    intro j hj;simp only[Aa,AV.ren] at G⊢;refine⟨G.1,?_⟩;intro e' O;obtain⟨e,he,hr,_,hl⟩:=Q o j hj e' O;rw[hr];exact G.2 e he
   cases p with
   |zero=>
    have h0:=h;simp only[Bl] at h0;exact hK _ _ o h0 hp
   |succ p=>
    have h0:=h;simp only[Bl] at h0;exact hK _ _ o h0 hp
  |eptr o i p=>
   have h0:=h;simp only[Bl] at h0;refine hK _ _ o h0 ?_;intro j hj;simp only[Aa,AV.ren] at G⊢;refine⟨G.1,?_⟩;intro e' O;obtain⟨e,he,hr,hz,hl⟩:=Q o j hj e' O;rw[hr,hz];exact G.2 e he
  |ch o=>
   have h0:=h;simp only[Bl] at h0;refine hK _ _ o h0 ?_;intro j hj;simp only[Aa,AV.ren] at G⊢;refine⟨G.1,?_⟩;intro e' O;obtain⟨e,he,hr,_,hl⟩:=Q o j hj e' O;rw[hr];exact G.2 e he
  |it o=>
   have h0:=h;simp only[Bl] at h0;refine hK _ _ o h0 ?_;intro j hj;simp only[Aa,AV.ren] at G⊢;refine⟨G.1,?_⟩;intro e' O;obtain⟨e,he,hr,_,hl⟩:=Q o j hj e' O;rw[hr];exact G.2 e he
  |osl o a k=>
   have h0:=h;simp only[Bl] at h0;refine hK _ _ o h0 ?_;intro j hj;simp only[Aa,AV.ren] at G⊢;refine⟨G.1,?_⟩;intro e' O;obtain⟨e,he,hr,hz,hl⟩:=Q o j hj e' O;rw[hr,hz,hl];exact G.2 e he
  |clo g a c=>
   have h0:=h;simp only[Bl] at h0;cases ha:A7 (Bl S.h kx n) a with
   |none=>rw[ha] at h0;simp[IP] at h0
   |some a'=>
    cases hcc:A7 (Bl S.h kx n) c with
    |none=>rw[ha,hcc] at h0;simp[IP] at h0
    |some c'=>
     rw[ha,hcc] at h0;simp only[IP,AI] at h0;have aa:y= .clo g a' c'->Aa S' (y.ren τ) v:=by
      intro hy;subst hy;simp only[Aa] at G;obtain⟨va,vc,rfl,h3,h4⟩:=G;simp only[AV.ren,Aa];exact⟨va,vc,rfl,hm a a' _ ha h3,hm c c' _ hcc h4⟩
     cases Z:D3 a' with
     |none=>rw[Z] at h0;exact aa (by rw[<-h0];rfl)
     |some ds=>
      cases h2:D3 c' with
      |none=>rw[Z,h2] at h0;exact aa (by rw[<-h0];rfl)
      |some es=>rw[Z,h2] at h0;exact hB _ h0.symm
def Lh(ti:TI):Option Ap->Option AV
 |some (_,.cells _ cs)=>bif (ti.agg||ti.size==1) && cs.length==ti.size then some (gV ti.agg cs) else none
 |_=>none
def IA(h:Ar)(x:AV):Option TI->Option AV
 |none=>none
 |some ti=>match x with
  | .ptr o 0=>Lh ti (hget h o)
  |_=>none
def JF(P:Program)(s:Az):ResultVar->Option AV
 | .tmp t=>some (Ay s.tm t)
 | .cell a T=>IA s.h (Ay s.tm a) (tI P T)
def Dr:List AV->AV
 |[x]=>x
 |xs=> .tup xs
def R4{P:Program}{C:AT}{N:Nat}{s:Az}{S:Au}{a:Act}(hc:CP C N s S a){x:ResultVar}{r:AV}(z:JF P s x=some r):
 ∃v,(match x with| .tmp t=>pure (a.tmps.getD t undef)| .cell c t=>do loadVar t (<-asAddr (a.tmps.getD c undef)):Sem Value).run P S.w= .ok v S.w/\Aa S r v:=by
 cases x with
 |tmp t=>
  simp only[JF,AI] at z;subst z;exact⟨a.eval (.tmp t),by simp[Act.eval],hc.tm t⟩
 |cell c T=>
  simp only[JF] at z;cases hT:tI P T with
  |none=>rw[hT] at z;simp[IA] at z
  |some ti=>
   rw[hT] at z;simp only[IA] at z;split at z
   .rename_i o ho;cases he:hget s.h o with
    |none=>rw[he] at z;simp[Lh] at z
    |some e=>
     rw[he] at z;obtain⟨mu,e⟩:=e;cases e<;>simp only[Lh,reduceCtorEq] at z;rename_i U cs;cases hb:(ti.agg||ti.size==1) && cs.length==ti.size<;>rw[hb] at z
     .simp at z
     .simp only[C3,AI] at z;subst z;simp only[AO,HY,Qd] at hb;have hS:S.h o=_:=(hc.h o).trans he;have Z:=hc.wf.obj o _ hS;simp only[Al] at Z;obtain⟨lc,vs,hl,ab,aa,hcs⟩:=Z;have h1:=hc.tm c;rw[ho] at h1;simp only[Aa] at h1;obtain⟨l,O,hv⟩:=h1.2 _ hS;rw[hl] at O;obtain rfl:=Aw O;have G:=Iu _ _ hcs;have Q:=dU hT (w:=S.w) (b:=lc.b) (p:=0) aa (by simp at G⊢;omega) hb.1;have ac:a.tmps.getD c undef= .pointer (some ⟨lc.b,0,none⟩):=by simpa[Act.eval,ab] using hv
      rw[FR,DP (by rw[G,hb.2];exact AF _)] at Q;refine⟨if ti.agg then .agg vs.toList.toArray else vs.toList.headD undef,?_,rR hcs hb.2 hb.1⟩;simp only[ac,asAddr,Sem.run_bind,Sem.run_pure,Result.andThen_ok];exact Q
   .cases z
def qM{P:Program}{C:AT}{N:Nat}{s:Az}{S:Au}{a:Act}(hc:CP C N s S a){fn:Func}{xs:List AV}(hx:A7 (JF P s) fn.results.toList=some xs):
 ∃v,(results fn a.tmps).run P S.w= .ok v S.w/\Aa S (Dr xs) v:=by
 have ab: ∀(G:List ResultVar) (xs:List AV),A7 (JF P s) G=some xs-> ∃vs:List Value,(G.mapM λx=>(match x with
  | .tmp t=>pure (a.tmps.getD t undef)| .cell c t=>do loadVar t (<-asAddr (a.tmps.getD c undef)):Sem Value)).run P S.w= .ok vs S.w/\AJ S xs vs:=by
  intro G;induction G with
  |nil=>
   intro xs h;simp only[A7,AI] at h;subst h;exact⟨[],by simp,by simp only[AJ]⟩
  |cons x G ih=>
   intro xs h;simp only[A7] at h;split at h
   .rename_i y ys hy aa;obtain rfl:=Aw h;obtain⟨v,O,z⟩:=R4 hc hy;obtain⟨vs,Q,h4⟩:=ih ys aa;refine⟨v::vs,?_,by simp only[AJ];exact⟨v,vs,rfl,z,h4⟩⟩;simp only[List.mapM_cons,Sem.run_bind,O,Q,Result.andThen_ok,Sem.run_pure]
   .cases h
 obtain⟨vs,O,z⟩:=ab _ _ hx;have hl:=Iu _ _ z;have Z:(results fn a.tmps).run P S.w= .ok (if h:vs.toArray.size=1 then vs.toArray[0] else .tuple vs.toArray) S.w:=by
  unfold results;rw[ZeU]
  have: ∀(m:Sem (List Value)),m.run P S.w= .ok vs S.w->((Functor.map List.toArray m)>>=λvs=>(pure (if h:vs.size=1 then vs[0] else .tuple vs):Sem Value)).run P S.w= .ok (if h:vs.toArray.size=1 then vs.toArray[0] else .tuple vs.toArray) S.w:=by
   intro m Z;rw[Sem.run_bind]
   have:(Functor.map List.toArray m).run P S.w= .ok vs.toArray S.w:=by
    rw[map_eq_pure_bind,Sem.run_bind,Z];rfl
   rw[this];rfl
  exact this _ O
 refine⟨_,Z,?_⟩;cases xs with
 |nil=>
  simp only[AJ] at z;subst z;simp only[Dr,Aa];exact⟨#[],by simp,by simp[AJ]⟩
 |cons x xs=>
  cases xs with
  |nil=>
   simp only[AJ] at z;obtain⟨v,r,rfl,Q,rfl⟩:=z;simpa[Dr] using Q
  |cons y xs=>
   have: ¬vs.toArray.size=1:=by simp only[VA];simp at hl;omega
   rw[dif_neg this];simp only[Dr,Aa];exact⟨_,rfl,z⟩
def entry:Nat->List AV->List (Nat×AV)
 |_,[]=>[]
 |i,x::r=>(i,x)::entry (i+1) r
def jR{S:Au}: ∀(args:List AV) (vs:List Value) (i t:Nat),AJ S args vs->Aa S (Ay (entry i args) t) (if i<=t then (vs[t - i]?).getD undef else undef)
 |[],vs,i,t,_=>by simp[entry,Ay,Aa]
 |x::args,vs,i,t,h=>by
  simp only[AJ] at h;obtain⟨v,r,rfl,G,O⟩:=h;simp only[entry,Ay];cases hq:i==t
  .have Q:i≠t:=by simpa using hq
   have:=jR args r (i+1) t O
   simp only[Ct];by_cases z:i+1<=t
   .rw[Ai z] at this;rw[Ai (by omega)];have e:t - i=(t - (i+1))+1:=by omega
    rw[e];simpa using this
   .rw[Ad z] at this;rw[Ad (by omega)];exact this
  .have:i=t:=by simpa using hq
   subst this;simpa using G
def jZ: ∀(args:List AV) (i t:Nat),∀m∈(Ay (entry i args) t).nms,m∈A9 args
 |[],i,t,m,h=>by simp[entry,Ay,AV.nms] at h
 |x::args,i,t,m,h=>by
  simp only[entry,Ay] at h;simp only[A9,Bp];cases hq:i==t<;>rw[hq] at h
  .exact .inr (jZ args (i+1) t m (by simpa using h))
  .exact .inl (by simpa using h)
def XP:List Nat->Nat->Nat->Option Nat
 |[],_,_=>none
 |x::r,o,k=>bif x==o then some k else XP r o (k+1)
def HA(k:Nat)(ex:List Nat)(o:Nat):Option Nat:=bif Nat.blt o k then some o else XP ex o k
def D8(f:AV->Option AV):Ag->Option Ag
 | .cells T cs=>(A7 f cs).map (.cells T)
 | .arr T k rows=>some (.arr T k rows)
 | .arrA T k rows=>(A7 (A7 f) rows).map (.arrA T k)
 | .map G z=>some (.map G z)
 | .chan q cap=>some (.chan q cap)
 | .iter a l=>some (.iter a l)
 | .view cs=>some (.view cs)
def IB(j:Nat)(z:Bool):Option Ag->Option Ar->Option Ar
 |some e,some r=>some ((j,(z,e))::r)
 |some _,none=>none
 |none,_=>none
def klE(f:AV->Option AV)(j:Nat)(r:Option Ar):Option Ap->Option Ar
 |none=>r
 |some (z,e)=>IB j z (D8 f e) r
def IU(h:Nat->Option Ap)(f:AV->Option AV):List Nat->Option Ar
 |[]=>some []
 |j::r=>klE f j (IU h f r) (h j)
def exE(f:AV->Option AV)(j:Nat)(r:Option Ar):Option Ap->Option Ar
 |none=>none
 |some (false,_)=>none
 |some (true,e)=>IB j true (D8 f e) r
def IT(h:Nat->Option Ap)(f:AV->Option AV):List Nat->Nat->Option Ar
 |[],_=>some []
 |x::r,j=>exE f j (IT h f r (j+1)) (h x)
def Rr:Option Ar->Option Ar->Option Ar
 |some a,some b=>some (a++b)
 |some _,none=>none
 |none,_=>none
def Y2(h:Nat->Option Ap)(z:List Nat):Ar->Prop
 |[]=>True
 |(j,e)::r=>(bif z.contains j then True else h j=some e)/\Y2 h z r
def X9(k:Nat):List Nat->Bool
 |[]=>true
 |x::r=>Nat.ble k x && (!r.contains x && X9 k r)
abbrev JL:=AV->Ar->Nat->Prop
def IZ(R:JL)(cnt:Nat):Option AV->Option Ar->Prop
 |some r,some H=>R r H cnt
 |some _,none=>False
 |none,_=>False
def aX(k:Nat)(z:List Nat)(H0:Ar)(R:JL)(s:Az)(ex:List Nat)(x:AV):Prop:=
 X9 k ex=true/\Y2 (hget s.h) z H0/\IZ R ex.length (Bl (hget s.h) (HA k ex) 9 x) (Rr (IU (hget s.h) (Bl (hget s.h) (HA k ex) 9) z) (IT (hget s.h) (Bl (hget s.h) (HA k ex) 9) ex k))
def M4(k:Nat)(G:List Nat)(z:Az->AV->List Nat)(H0:Ar)(R:JL)(s:Az):Option (List AV)->Prop
 |some xs=>aX k G H0 R s (z s (Dr xs)) (Dr xs)
 |none=>False
def TZ(P:Program)(O:List ResultVar)(k:Nat)(G:List Nat)(z:Az->AV->List Nat)(H0:Ar)(R:JL)(s:Az):Prop:=M4 k G z H0 R s (A7 (JF P s) O)
def OW(P:Program)(O:List ResultVar)(k:Nat)(G:List Nat)(z:Az->AV->List Nat)(H0:Ar)(R:JL):Cq
 | .normal,s=>TZ P O k G z H0 R s
 | .ret,s=>TZ P O k G z H0 R s
 | .exit _,_=>False
def Kd(_:Az)(_:AV):List Nat:=[]
def vZ(k:Nat):List Nat->List Nat
 |[]=>[]
 |x::r=>bif Nat.ble k x then x::vZ k r else vZ k r
def vX(k:Nat)(_:Az)(x:AV):List Nat:=vZ k x.nms
def DK(r r':AV):Prop:= ∀(σ:Nat->Nat) (S:Au) (v:Value),Aa S (r.ren σ) v->Aa S (r'.ren σ) v
def mY(e e':Ap):Prop:=e.1=e'.1/\e.2.esz=e'.2.esz/\e.2.len=e'.2.len/\e.2.isView=e'.2.isView/\ ∀(σ:Nat->Nat) (S:Au) (l:Option Fe),Al S l (e.2.ren σ)->Al S l (e'.2.ren σ)
def bJ:Ar->Ar->Prop
 |[],[]=>True
 |(j,e)::r,(j',e')::r'=>j=j'/\mY e e'/\bJ r r'
 |[],_::_=>False
 |_::_,[]=>False
def DK.refl(r:AV):DK r r:=λ_ _ _ h=>h
def mY.refl(e:Ap):mY e e:=⟨rfl,rfl,rfl,rfl,λ_ _ _ h=>h⟩
def bJ.refl: ∀(H:Ar),bJ H H
 |[]=>trivial
 |(_,e)::r=>⟨rfl,mY.refl e,bJ.refl r⟩
def bJ.get: ∀{H H':Ar},bJ H H'-> ∀n,(hget H' n=none/\hget H n=none)\/ ∃e e',hget H n=some e/\hget H' n=some e'/\mY e e'
 |[],[],_,n=> .inl ⟨rfl,rfl⟩
 |(j,e)::r,(j',e')::r',h,n=>by
  obtain⟨rfl,z,G⟩:=h;simp only[hget];cases hq:j==n
  .simpa using bJ.get G n
  .exact .inr ⟨e,e',by simp,by simp,z⟩
def sg(os:List Nat)(nx j:Nat):Nat:=match os[j]? with
 |some o=>o
 |none=>nx+(j - os.length)
def B1(σ:Nat->Nat):Ar->Ar
 |[]=>[]
 |(j,(z,e))::r=>(σ j,(z,e.ren σ))::B1 σ r
def Qzm{σ:Nat->Nat}: ∀{H:Ar} {n:Nat} {e':Ap},hget (B1 σ H) n=some e'-> ∃j e,(j,e)∈H/\σ j=n/\e'=(e.1,e.2.ren σ)
 |[],n,e',h=>by simp[B1,hget] at h
 |(j,(Q,e))::r,n,e',h=>by
  simp only[B1,hget] at h;cases hq:σ j==n<;>rw[hq] at h
  .obtain⟨j',x,z,G,O⟩:=Qzm (H:=r) (by simpa using h);exact⟨j',x,by simp[z],G,O⟩
  .simp only[C3,AI] at h;exact⟨j,(Q,e),by simp,by simpa using hq,h.symm⟩
def eD: ∀{H:Ar} {n:Nat} {e:Ap},hget H n=some e->(n,e)∈H
 |[],n,e,h=>by simp[hget] at h
 |(i,x)::r,n,e,h=>by
  simp only[hget] at h;cases hq:i==n<;>rw[hq] at h
  .exact BZ _ (eD (by simpa using h))
  .have:i=n:=by simpa using hq
   subst this;simp only[C3,AI] at h;subst h;simp
def Qti{C:AT}{S S':Au}(hW:Wf C S){kx:Nat->Option Nat}{τ:Nat->Nat}(Q: ∀b,S.ok b->S'.ok b/\S'.hp b=S.hp b)(ah: ∀o e l,kx o=none->S.h o=some e->e.2.isView=false->S.ρ o=some l->S.ok l.b)
 (ag: ∀o j,kx o=some j-> ∀e',S'.h (τ j)=some e'-> ∃e,S.h o=some e/\S'.ρ (τ j)=S.ρ o/\e'.2.esz=e.2.esz/\e'.2.len=e.2.len)
 {n:Nat}{e e':Ag}(h:D8 (Bl S.h kx n) e=some e'):(e'.esz=e.esz/\e'.len=e.len)/\ ∀l,(∀O,l=some O->S'.hp O.b=S.hp O.b)->Al S l e->Al S' l (e'.ren τ):=by
 have hm: ∀(cs Z:List AV) (vs:List Value),A7 (Bl S.h kx n) cs=some Z->AJ S cs vs->AJ S' (AU τ Z) vs:=by
  intro cs;induction cs with
  |nil=>
   intro Z vs h hc;simp only[A7,AI] at h;subst h;simpa only[AU,AJ] using hc
  |cons x cs ad=>
   intro Z vs h hc;simp only[A7] at h;simp only[AJ] at hc;obtain⟨v,r,rfl,G,h2⟩:=hc;split at h
   .rename_i z zs hz ac;obtain rfl:=Aw h;simp only[AU,AJ];exact⟨v,r,rfl,Qrr hW Q ah ag n x z v hz G,ad zs r ac h2⟩
   .cases h
 have an: ∀(cs Z:List AV) (vs:List Value),A7 (Bl S.h kx n) cs=some Z->Cy S cs vs->Cy S' (AU τ Z) vs:=by
  intro cs;induction cs with
  |nil=>
   intro Z vs h hc;simp only[A7,AI] at h;subst h;simp only[AU,Cy]
  |cons x cs ad=>
   intro Z vs h hc;simp only[A7] at h;simp only[Cy] at hc;obtain⟨v,r,rfl,G,h2⟩:=hc;split at h
   .rename_i z zs hz ac;obtain rfl:=Aw h;simp only[AU,Cy];exact⟨v,r,rfl,Qrr hW Q ah ag n x z v hz G,ad zs r ac h2⟩
   .cases h
 have ao: ∀(k:Nat) (rs Z:List (List AV)) (vs:List Value),A7 (A7 (Bl S.h kx n)) rs=some Z->BE S k rs vs->BE S' k (Z.map (AU τ)) vs:=by
  intro k rs;induction rs with
  |nil=>
   intro Z vs h hc;simp only[A7,AI] at h;subst h;simp only[Cs,BE]
  |cons x rs ad=>
   intro Z vs h hc;simp only[A7] at h;simp only[BE] at hc;split at h
   .rename_i z zs hz ac;obtain rfl:=Aw h;simp only[Bb,BE,Qsc];exact⟨(eA _ _ hz).trans hc.1,an x z _ hz hc.2.1,ad zs _ ac hc.2.2⟩
   .cases h
 cases e<;>simp only[D8] at h
 case view cs=>
  obtain rfl:=Aw h;refine⟨⟨rfl,rfl⟩,λl hl h=> ?_⟩;simp only[Ag.ren,Al] at h⊢;obtain⟨O,vs,T,fr,G,h2,h3⟩:=h;exact⟨O,vs,T,fr,G,(hl O G).trans h2,Vm Q cs _ h3⟩
 case cells T cs=>
  simp only[CX] at h;obtain⟨Z,G,rfl⟩:=h;refine⟨⟨rfl,rfl⟩,λl hl h=> ?_⟩;simp only[Ag.ren,Al] at h⊢;obtain⟨O,vs,g1,g2,g3,g4⟩:=h;exact⟨O,vs,g1,g2,(hl O g1).trans g3,hm cs Z _ G g4⟩
 case arr T k rows=>
  obtain rfl:=Aw h;refine⟨⟨rfl,rfl⟩,λl hl h=> ?_⟩;simp only[Ag.ren,Al] at h⊢;refine⟨h.1,?_⟩;cases l with
  |none=>exact h.2
  |some O=>
   obtain⟨h0,G,vs,h2,h3,h4⟩:=h;exact⟨G,vs,(hl O rfl).trans h2,h3,Zp Q k rows _ h4⟩
 case arrA T k rows=>
  simp only[CX] at h;obtain⟨Z,G,rfl⟩:=h;have af:=eA _ _ G;refine⟨⟨rfl,af⟩,λl hl h=> ?_⟩;simp only[Ag.ren,Al,EJ,af] at h⊢;refine⟨h.1,?_⟩;cases l with
  |none=>
   have:=h.2
   subst this;simp only[A7,AI] at G;subst G;rfl
  |some O=>
   obtain⟨h0,h2,vs,h3,h4,h5⟩:=h;exact⟨h2,vs,(hl O rfl).trans h3,h4,ao k rows Z _ G h5⟩
 case map kt es=>
  obtain rfl:=Aw h;refine⟨⟨rfl,rfl⟩,λl hl h=> ?_⟩;simp only[Ag.ren,Al] at h⊢;obtain⟨O,ab,aa,G,h0,h2,h3,h4⟩:=h;exact⟨O,ab,aa,G,h0,(hl O G).trans h2,KA Q es _ h3,h4⟩
 case chan q cap=>
  obtain rfl:=Aw h;refine⟨⟨rfl,rfl⟩,λl hl h=> ?_⟩;simp only[Ag.ren,Al] at h⊢;obtain⟨O,am,ak,ai,G,h2,h3⟩:=h;exact⟨O,am,ak,ai,G,(hl O G).trans h2,KB Q q _ h3⟩
 case iter last left=>
  obtain rfl:=Aw h;refine⟨⟨rfl,rfl⟩,λl hl h=> ?_⟩;simp only[Ag.ren,Al] at h⊢;obtain⟨O,mb,ab,aa,aj,G,h2,h0,h3,h4,h5,h6,h7⟩:=h;exact⟨O,mb,ab,aa,aj,G,(Q mb h2).1,Qly Q last h0,(Q mb h2).2.trans h3,(hl O G).trans h4,h5,h6,KA Q left _ h7⟩
def Oj{f:AV->Option AV}{e e':Ag}(h:D8 f e=some e'):e'.isView=e.isView:=by
 cases e<;>simp only[D8,CX,AI] at h
 .obtain⟨_,_,rfl⟩:=h;rfl
 .subst h;rfl
 .obtain⟨_,_,rfl⟩:=h;rfl
 all_goals subst h;rfl
def Le(d d':D):Prop:= ∀ok hp v,rd ok hp d v->rd ok hp d' v
def CM:List D->List D->Prop
 |[],[]=>True
 |d::r,d'::r'=>Le d d'/\CM r r'
 |[],_::_=>False
 |_::_,[]=>False
def Le.refl(d:D):Le d d:=λ_ _ _ h=>h
def CM.refl: ∀(ds:List D),CM ds ds
 |[]=>trivial
 |d::ds=>⟨Le.refl d,CM.refl ds⟩
def CM.len: ∀{a b:List D},CM a b->a.length=b.length
 |[],[],_=>rfl
 |_::_,_::_,h=>by simp[CM.len h.2]
def CM.rdl: ∀{a b:List D},CM a b-> ∀ok hp vs,Ae.rdl ok hp a vs->Ae.rdl ok hp b vs
 |[],[],_,ok,hp,vs,h=>h
 |_::_,_::_,z,ok,hp,vs,h=>by
  simp only[Ae.rdl] at h⊢;obtain⟨v,r,rfl,G,O⟩:=h;exact⟨v,r,rfl,z.1 _ _ _ G,CM.rdl z.2 _ _ _ O⟩
def GD:List D->List D->Prop
 |_,[]=>True
 |d::r,d'::r'=>Le d d'/\GD r r'
 |[],_::_=>False
def GD.rdp: ∀{a b:List D},GD a b-> ∀ok hp vs,Ae.rdp ok hp a vs->Ae.rdp ok hp b vs
 |_,[],_,ok,hp,vs,h=>by simp only[Ae.rdp]
 |_::_,_::_,z,ok,hp,vs,h=>by
  simp only[Ae.rdp] at h⊢;obtain⟨v,r,rfl,G,O⟩:=h;exact⟨v,r,rfl,z.1 _ _ _ G,GD.rdp z.2 _ _ _ O⟩
 |[],_::_,h,_,_,_,_=>h.elim
def CM.leP: ∀{a b:List D},CM a b->GD a b
 |[],[],_=>trivial
 |_::_,_::_,h=>⟨h.1,CM.leP h.2⟩
def GD.refl(a:List D):GD a a:=(CM.refl a).leP
def GD.trans_take: ∀{n:Nat} {a b:List D},CM (a.take n) b->GD a b
 |0,a,[],_=>by cases a<;>trivial
 |_+1,[],[],_=>trivial
 |n+1,x::a,y::b,h=>⟨h.1,GD.trans_take (n:=n) h.2⟩
 |n+1,x::a,[],h=>h.elim
 |n+1,[],y::b,h=>h.elim
 |0,a,y::b,h=>by cases a<;>exact h.elim
def Zf{a b:List D}(h:CM a b):Le (.agg a) (.agg b):=by
 intro ok hp v z;simp only[Ae.rd] at z⊢;obtain⟨vs,rfl,G⟩:=z;exact⟨vs,rfl,h.rdl _ _ _ G⟩
def Ki{a b:List D}(h:CM a b):Le (.tup a) (.tup b):=by
 intro ok hp v z;simp only[Ae.rd] at z⊢;obtain⟨vs,rfl,G⟩:=z;exact⟨vs,rfl,h.rdl _ _ _ G⟩
def VJ:List (List D)->List (List D)->Prop
 |[],[]=>True
 |r::G,r'::z=>CM r r'/\VJ G z
 |[],_::_=>False
 |_::_,[]=>False
def VJ.len: ∀{a b:List (List D)},VJ a b->a.length=b.length
 |[],[],_=>rfl
 |_::_,_::_,h=>by simp[VJ.len h.2]
def VJ.rdr: ∀{a b:List (List D)} {k k':Nat},VJ a b->(∀r∈b,r.length=k')-> ∀ok hp vs,Ae.rdr ok hp k a vs->Ae.rdr ok hp k' b vs
 |[],[],_,_,_,_,ok,hp,vs,h=>by simp only[Ae.rdr]
 |r::rs,r'::aa,k,k',z,O,ok,hp,vs,h=>by
  simp only[Ae.rdr] at h⊢;have Q:=z.1.len;have G:=O r' (by simp)
  have:k=k':=by rw[<-h.1,Q,G]
  subst this;exact⟨G,z.1.leP.rdp _ _ _ h.2.1,VJ.rdr z.2 (λx Z=>O x (by simp[Z])) _ _ _ h.2.2⟩
def E4{nz:Bool}{k k':Nat}{a b:List (List D)}(h:VJ a b)(hk: ∀r∈b,r.length=k'):Le (.sl nz k a) (.sl false k' b):=by
 intro ok hp v O;simp only[Ae.rd] at O⊢;rcases O with ⟨z,G⟩|⟨Q,p,cap,vs,T,Z,z,G,h3,h4,h5,h6,h7⟩
 .subst G;cases b with
  |nil=>exact .inl ⟨Pg z,rfl⟩
  |cons _ _=>exact h.elim
 .exact .inr ⟨Q,p,cap,vs,T,Z,by rw[<-h.len];exact z,by simp,by rw[<-h.len];exact h3,by rw[<-h.len];exact h4,h5,h6,h.rdr hk _ _ _ h7⟩
def WM{g:FuncId}{a b:List D}(h:CM a b):Le (.fn g [] a) (.fn g [] b):=by
 intro ok hp v z;simp only[Ae.rd] at z⊢;obtain⟨x,y,G,O,Q⟩:=z;exact⟨x,y,G,O,h.rdl _ _ _ Q⟩
def SQ{g:FuncId}{a b:List D}(h:CM a b):Le (.fn g a []) (.fn g b []):=by
 intro ok hp v z;simp only[rd] at z⊢;obtain⟨x,c,rfl,G,O⟩:=z;exact⟨x,c,rfl,h.rdl _ _ _ G,O⟩
def Vo{a b:List D}(h:GD a b):Le (.ref a) (.ref b):=by
 intro ok hp v z;simp only[Ae.rd] at z⊢;obtain⟨G,p,vs,T,O,Q,Z,h3,h4⟩:=z;exact⟨G,p,vs,T,O,Q,Z,h3,h.rdp _ _ _ h4⟩
def AQ{A:Type}(f:List D->Option A):List (List D)->Option (List A)
 |[]=>some []
 |r::z=>match f r,AQ f z with
  |some x,some xs=>some (x::xs)
  |_,_=>none
def PM{A:Type}{f:List D->Option A}{e:A->List D}(h: ∀x,f (e x)=some x): ∀(l:List A),AQ f (l.map e)=some l
 |[]=>rfl
 |x::l=>by simp only[Bb,AQ,h x,PM h l]
def Et{A:Type}{f:List D->Option A}{e:A->List D}(h: ∀ds x,f ds=some x->CM ds (e x)): ∀(rows:List (List D)) (l:List A),AQ f rows=some l->VJ rows (l.map e)
 |[],l,z=>by simp only[AQ,AI] at z;subst z;trivial
 |r::Q,l,z=>by
  simp only[AQ] at z;split at z
  .rename_i x xs O G;obtain rfl:=Aw z;exact⟨h r x O,Et h Q xs G⟩
  .cases z
abbrev Ax:=List AV->(Nat->Option Ap)->Nat->Ah->Prop
def Qn:List (Nat×Ax)->Df
 |[],_,_,_,_,_=>False
 |p::r,g,z,h,nx,K=>if p.1=g then p.2 z h nx K else Qn r g z h nx K
def Ga(P:Program)(g:Nat)(c:Ax):Prop:= ∀z h nx K,c z h nx K->kW P g/\ ∃r E,Qr P g z h nx r E/\K r E
def Qv{P:Program}: ∀(l:List (Nat×Ax)),(∀p∈l,Ga P p.1 p.2)->Jr P (Qn l)
 |[],_=>λ_ _ _ _ _ h=>h.elim
 |p::r,O=>by
  intro g z h nx K G;simp only[Qn] at G;split at G
  .rename_i Q;subst Q;exact O p (by simp) z h nx K G
  .exact Qv r (λq hq=>O q (by simp[hq])) g z h nx K G
def FA(P:Program)(g:Nat):Bool:=match P.funcs[g]? with
 |some fn=>Nat.blt g 1000000000 && (!(fn.name== "runtime.NumGoroutine") && !fn.body.isNone)
 |none=>false
def KH{P:Program}{g:Nat}(h:FA P g=true):kW P g:=by
 unfold FA at h;split at h
 .rename_i fn hf;simp only[AO,JP] at h;exact⟨by simpa using h.1,fn,hf,h.2.1,h.2.2⟩
 .cases h
inductive PK where
 |val (d:D)
 |ptr (cs:List D)
def CU:Nat->List PK->List AV
 |_,[]=>[]
 |j,.val d::r=> .im d::CU j r
 |j,.ptr _::r=> .ptr j 0::CU (j+1) r
def CT:Nat->List PK->Ar
 |_,[]=>[]
 |j,.val _::r=>CT j r
 |j,.ptr cs::r=>(j,(false,.view cs))::CT (j+1) r
def BN:List PK->Nat
 |[]=>0
 | .val _::r=>BN r
 | .ptr _::r=>BN r+1
def HK(S:Au):PK->Value->Prop
 | .val d,v=>rd S.ok S.hp d v
 | .ptr cs,v=> ∃b p vs T z,v= .pointer (some ⟨b,p,none⟩)/\b<S.w.heap.size/\S.hp b=some (.cells vs T z)/\rdp S.ok S.hp cs (vs.toList.drop p)
def Ec(S:Au):List PK->List Value->Prop
 |[],vs=>vs=[]
 |p::z,vs=> ∃v r,vs=v::r/\HK S p v/\Ec S z r
def C9:PK->PK->Prop
 | .val d,.val d'=>Le d d'
 | .ptr a,.ptr b=>GD a b
 | .val _,.ptr _=>False
 | .ptr _,.val _=>False
def BM:List PK->List PK->Prop
 |[],[]=>True
 |p::r,p'::r'=>C9 p p'/\BM r r'
 |[],_::_=>False
 |_::_,[]=>False
def C9.c{S:Au}{p p':PK}{v:Value}(h:C9 p p')(z:HK S p v):HK S p' v:=by
 cases p<;>cases p'<;>simp only[C9] at h<;>simp only[HK] at z⊢
 .exact h _ _ _ z
 .obtain⟨b,p,vs,T,G,O,Q,Z,h4⟩:=z;exact⟨b,p,vs,T,G,O,Q,Z,h.rdp _ _ _ h4⟩
def BM.c{S:Au}: ∀{a b:List PK} {vs:List Value},BM a b->Ec S a vs->Ec S b vs
 |[],[],_,_,h=>h
 |_::_,_::_,vs,z,h=>by
  simp only[Ec] at h⊢;obtain⟨v,r,rfl,G,O⟩:=h;exact⟨v,r,rfl,z.1.c G,BM.c z.2 O⟩
def C9.refl(p:PK):C9 p p:=by cases p;exact Le.refl _;exact GD.refl _
def BM.refl: ∀(a:List PK),BM a a
 |[]=>trivial
 |p::a=>⟨C9.refl p,BM.refl a⟩
def Ec.len{S:Au}: ∀{ps:List PK} {vs:List Value},Ec S ps vs->vs.length=ps.length
 |[],vs,h=>by simp only[Ec] at h;simp[h]
 |_::_,vs,h=>by
  simp only[Ec] at h;obtain⟨v,r,rfl,_,z⟩:=h;simp[Ec.len z]
def Zl: ∀(j:Nat) (ps:List PK),(CU j ps).length=ps.length
 |_,[]=>rfl
 |j,.val _::r=>by simp[CU,Zl j r]
 |j,.ptr _::r=>by simp[CU,Zl (j+1) r]
def Gb: ∀(j:Nat) (ps:List PK) (n:Nat) (e:Ap),hget (CT j ps) n=some e->(j<=n/\n<j+BN ps)/\ ∃cs,e=(false,.view cs)
 |_,[],n,e,h=>by simp[CT,hget] at h
 |j,.val _::r,n,e,h=>by simpa[CT,BN] using Gb j r n e h
 |j,.ptr cs::r,n,e,h=>by
  simp only[CT,hget] at h;simp only[BN];cases hq:j==n<;>rw[hq] at h
  .obtain⟨G,z⟩:=Gb (j+1) r n e (by simpa using h);exact⟨by omega,z⟩
  .have:j=n:=by simpa using hq
   simp only[C3,AI] at h;exact⟨by omega,cs,h.symm⟩
def rJ: ∀(j:Nat) (ps:List PK) (n:Nat),j+BN ps<=n-> ∀m∈A9 (CU j ps),m<n
 |_,[],n,_,m,z=>by simp[CU,A9] at z
 |j,.val _::r,n,h,m,z=>by
  simp only[CU,A9,AV.nms,Fb] at z;exact rJ j r n h m z
 |j,.ptr _::r,n,h,m,z=>by
  simp only[CU,A9,AV.nms,Bp,B4] at z;simp only[BN] at h;rcases z with rfl|z
  .omega
  .exact rJ (j+1) r n (by omega) m z
def lJ{S:Au}: ∀(ps:List PK) (vs:List Value) (j:Nat),Ec S ps vs-> ∃Q:Nat->Option Fe,
 (∀n e,hget (CT j ps) n=some e-> ∃l,Q n=some l/\l.b<S.w.heap.size/\Al S (some l) e.2)/\
 ∀(z:Au),z.ok=S.ok->z.w=S.w->(∀n,(∃e,hget (CT j ps) n=some e)->z.ρ n=Q n/\z.h n=hget (CT j ps) n)->AJ z (CU j ps) vs
 |[],vs,j,h=>by
  simp only[Ec] at h;exact⟨λ_=>none,λn e G=>by simp[CT,hget] at G,λz _ _ _=>by simp only[CU,AJ];exact h⟩
 | .val d::ps,vs,j,h=>by
   simp only[Ec] at h;obtain⟨v,r,rfl,h1,h2⟩:=h;obtain⟨Q,h3,h4⟩:=lJ ps r j h2;refine⟨Q,by simpa only[CT] using h3,?_⟩;intro z O hw hS;simp only[CU,AJ,Aa];refine⟨v,r,rfl,?_,h4 z O hw (by simpa only[CT] using hS)⟩
   have:z.hp=S.hp:=by unfold Au.hp;rw[hw]
   rw[O,this];exact h1
 | .ptr cs::ps,vs,j,h=>by
   simp only[Ec] at h;obtain⟨v,r,rfl,h1,h2⟩:=h;obtain⟨Q,h3,h4⟩:=lJ ps r (j+1) h2;obtain⟨b,p,cells,T,fr,rfl,hb,hc,hr⟩:=h1;refine⟨λn=>if n=j then some ⟨b,p,0⟩ else Q n,?_,?_⟩
   .intro n e G;simp only[CT,hget] at G;cases hq:j==n<;>rw[hq] at G
    .have:n≠j:=λh'=>by subst h';simp at hq
     simp only[Ad this];exact h3 n e (by simpa using G)
    .have:n=j:=(by simpa using hq:j=n).symm
     simp only[C3,AI] at G;subst G;simp only[Ai this];refine⟨_,rfl,hb,?_⟩;simp only[Al];exact⟨_,cells,T,fr,rfl,hc,hr⟩
   .intro z O hw hS;simp only[CU,AJ,Aa];refine⟨_,r,rfl,⟨rfl,?_⟩,h4 z O hw ?_⟩
    .intro e G;have hj:=hS j ⟨(false,.view cs),by simp only[CT,hget,lX,C3]⟩;rw[hj.1];simp
    .rintro n ⟨e,G⟩;have hn:=(Gb (j+1) ps n e G).1;have Z:n≠j:=by omega
     have hq:(j==n)=false:=by rw[H4];exact λh=>Z h.symm
     have:=hS n ⟨e,by simp only[CT,hget,hq,Ct];exact G⟩
     simp only[Ad Z,CT,hget,hq,Ct] at this;exact this
def UT{P:Program}(HM:P.follows .mixedOrders=true){V:Df}(hV:Jr P V){g:FuncId}{fn:Func}{c:Code}(hf:P.funcs[g]? =some fn)(O:fn.body=some c)(ah:Eg fn.ntmps c=true)
 {ps:List PK}(a0:ps.length<=fn.ntmps){R:JL}{r0:D}(hR: ∀r H n,R r H n-> ∃d,r= .im d/\Le d r0)
 (hk:Dh P V c (OW P fn.results.toList (BN ps) [] Kd (CT 0 ps) R) ⟨entry 0 (CU 0 ps),CT 0 ps,BN ps⟩)
 {C:AT}{S:Au}{vs:Array Value}{RR:Ending->World->Prop}(hW:Wf C S)(am:Ec S ps vs.toList)
 (aj: ∀v S',Wf C S'->S'.h=S.h->B3 (λ_=>True) S S'->rd S'.ok S'.hp r0 v->RR (.returned v) S'.w):Calls P g vs S.w RR:=by
 refine calls_of_wp hf O ?_;have hvs:vs.size=(CU 0 ps).length:=by rw[Zl];simpa using am.len
 obtain⟨ls,ak,hcl⟩:=lJ ps vs.toList 0 am
 let S0:Au:=⟨ls,S.ok,hget (CT 0 ps),S.w⟩
 let C0:AT:=⟨S.w,λ_=>False,S.ok,0,λ_=>none,λ_=>none,[]⟩
 have au:Wf C0 S0:=by
  refine⟨rfl,rfl,rfl,AF _,AF _,λ_ _ _=>rfl,λ_ O=>O,λ_ O=> .inl O,hW.oks,?_,?_,?_,hW.glN λ_ h=>h.elim⟩
  .intro n e z;obtain⟨l,G,_,h3⟩:=ak n e z;have h4:S0.ρ n=some l:=G;rw[h4];obtain⟨_,cs,rfl⟩:=Gb 0 ps n e z;simp only[Al] at h3⊢;exact h3
  .intro n e l z hl;obtain⟨l',G,h2,h3⟩:=ak n e z;have h4:S0.ρ n=some l':=G;rw[h4] at hl;obtain rfl:=Aw hl;obtain⟨_,cs,rfl⟩:=Gb 0 ps n e z;exact⟨h2,.inr rfl⟩
  .intro n n' e e' l l' z ad hl ba a9 aw;obtain⟨_,cs,rfl⟩:=Gb 0 ps n e z;obtain⟨_,a8,rfl⟩:=Gb 0 ps n' e' ad;simp at aw
 have av:BL C0 fn.ntmps ⟨entry 0 (CU 0 ps),CT 0 ps,BN ps⟩ {tmps:=vs++Array.replicate (fn.ntmps - vs.size) undef,defers:=[]} S.w:=by
  have aa:AJ S0 (CU 0 ps) vs.toList:=hcl S0 rfl rfl (λn _=>⟨rfl,rfl⟩);refine⟨S0,rfl,au,λn=>rfl,?_,?_,?_,by simp;rw[Zl] at hvs;omega,rfl,BP _,λo ho=>absurd ho (vA _)⟩
  .intro t;have G:=jR (S:=S0) (CU 0 ps) vs.toList 0 t aa;simp only[BP,BF,mI] at G
   have:({tmps:=vs++Array.replicate (fn.ntmps - vs.size) undef,defers:=[]}:Act).eval (.tmp t)=(vs.toList[t]?).getD undef:=by
    simp only[Act.eval,H2,mA,fH];by_cases ht:t<vs.size
    .simp[ht]
    .simp only[ht,Cu]
     have:vs[t]? =none:=Rb (by omega)
     simp only[GU,this]
     split<;>rfl
   rw[this];exact G
  .intro t m hm;exact rJ 0 ps (BN ps) (by omega) m (jZ (CU 0 ps) 0 t m hm)
  .intro n e z;obtain⟨G,cs,rfl⟩:=Gb 0 ps n e z;exact⟨by show n<BN ps;omega,by simp[Ag.nms]⟩
 refine wp_mono (Qo4 HM (eS hV) c ah _ _ _ _ hk av) ?_;have fin: ∀(s:Az) (a:Act) (w:World),TZ P fn.results.toList (BN ps) [] Kd (CT 0 ps) R s->BL C0 fn.ntmps s a w->a.defers=[]/\ ∃v,(results fn a.tmps).run P w= .ok v w/\RR (.returned v) w:=by
  rintro s a w hr ⟨S1,rfl,hc⟩;unfold TZ at hr;cases hxs:A7 (JF P s) fn.results.toList with
  |none=>rw[hxs] at hr;exact hr.elim
  |some xs=>
   rw[hxs] at hr;simp only[M4] at hr;obtain⟨v,an,ac⟩:=qM hc hxs;refine⟨hc.defers,v,an,?_⟩;obtain⟨_,_,Z⟩:=hr;have ao:hget s.h=S1.h:=(funext hc.h).symm;rw[ao] at Z
   let kx:=HA (BN ps) (Kd s (Dr xs))
   have ag:Wf C0 (S1.ice λ_=>false):=Vp hc.wf;have af: ∀(f:AV->Option D) (o:Nat),PS f ((S1.ice λ_=>false).h o)=PS f (S1.h o)/\WP ((S1.ice λ_=>false).h o)=WP (S1.h o)/\WJ f ((S1.ice λ_=>false).h o)=WJ f (S1.h o):=by
    intro f o;rw[show (S1.ice λ_=>false).h o=(S1.h o).map λe=>(e.1 && false,e.2) from rfl];cases S1.h o with
    |none=>exact⟨rfl,rfl,rfl⟩
    |some e=>obtain⟨mu,e⟩:=e;cases e<;>exact⟨rfl,rfl,rfl⟩
   have ai: ∀(n:Nat),Bl (S1.ice λ_=>false).h kx n=Bl S1.h kx n:=by
    intro n;induction n with
    |zero=>funext x;simp[Bl]
    |succ n ih=>
     funext x;cases x with
     |own o=>simp only[Bl,ih,(af _ o).1]
     |mp o=>simp only[Bl,(af (λ_=>none) o).2.1]
     |ptr o p=>cases p<;>simp only[Bl,ih,(af _ o).2.2]
     |_=>simp only[Bl,ih]
   cases hcv:Bl S1.h kx 9 (Dr xs) with
   |none=>rw[hcv] at Z;exact Z.elim
   |some r=>
    rw[hcv] at Z;have ab: ∃H n,R r H n:=by
     simp only[Kd,IU,IT,Rr,IZ] at Z;exact⟨_,_,Z⟩
    obtain⟨H,n,ab⟩:=ab;obtain⟨d,rfl,ax⟩:=hR _ _ _ ab;have az:=RE ag (kx:=kx) (λo e l _ z hv hl=>lN hc.wf rfl z hv hl) 9 (Dr xs) d v (by rw[ai];exact hcv) (Hu (Hg S1 _) _ _ (λ_ _=>trivial) ac);have G:=ag;have Q: ∀b,b<S.w.heap.size->S1.w.heap[b]? =S.w.heap[b]? :=λb O=>hc.wf.keep b O (λh=>h)
    let S':Au:={S with ok:=(S1.ice λ_=>false).ok,w:=S1.w}
    have hp:B3 (λ_=>True) S S':=⟨λb O=>⟨G.ok0 b O,Q b (hW.oks b O)⟩,λo _ e' ad=>⟨e',ad,rfl,rfl,rfl⟩⟩;have aq:Wf C S':=by
     refine⟨G.os.trans hW.os,G.tape.trans hW.tape,G.output.trans hW.output,BR hW.dr G.dr,BR hW.size G.size,?_,λb O=>G.ok0 b (hW.ok0 b O),?_,G.oks,?_,?_,hW.inj,hW.gl⟩
     .intro b O hM;exact (Q b (E8 O hW.size)).trans (hW.keep b O hM)
     .intro b O;rcases G.ok1 b O with h|h|h
      .exact hW.ok1 b h
      .exact .inr (.inl (BR hW.size h))
      .exact h.elim
     .intro o e z;exact Hh hp (λlc hl=>Q lc.b (hW.loc o e lc z hl).1) _ (λ_ _=>trivial) (hW.obj o e z)
     .intro o e l z hl;obtain⟨h2,h3⟩:=hW.loc o e l z hl;refine⟨E8 h2 G.size,?_⟩;cases hm:e.1 with
      |false=>
       rw[hm] at h3;simp only[CN,Cu] at h3⊢;exact h3.imp (G.ok0 _) id
      |true=>
       rw[hm] at h3;simp only[BF] at h3⊢;refine⟨λay=> ?_,h3.2⟩;rcases G.ok1 _ ay with h|h|h
       .exact h3.1 h
       .have h:S.w.heap.size<=l.b:=h;omega
       .exact h.elim
    exact aj v S' aq rfl hp (ax _ _ _ az)
 intro e a w z;cases e<;>simp only[FU] at z<;>simp only[bodyPost]
 .obtain⟨s,hs,hc⟩:=z;exact fin s a w hs hc
 .obtain⟨s,hs,_⟩:=z;exact hs.elim
 .obtain⟨s,hs,hc⟩:=z;exact fin s a w hs hc
def Qh(o:Nat):Option Ap->Option (D×Ar)
 |some (z,.arr T k rows)=>some (.sl false k rows,bif z then [(o,(false,.arr T k rows))] else [])
 |some (_,.cells _ _)=>none
 |some (_,.arrA _ _ _)=>none
 |some (_,.map _ _)=>none
 |some (_,.chan _ _)=>none
 |some (_,.iter _ _)=>none
 |some (_,.view _)=>none
 |none=>none
def Qg(o:Nat):Option Ap->Option (D×Ar)
 |some (O,.map G z)=>some (.mp G z,bif O then [(o,(false,.map G z))] else [])
 |some (_,.cells _ _)=>none
 |some (_,.arr _ _ _)=>none
 |some (_,.arrA _ _ _)=>none
 |some (_,.chan _ _)=>none
 |some (_,.iter _ _)=>none
 |some (_,.view _)=>none
 |none=>none
def mN(f:List D->D):Option (List D×Ar)->Option (D×Ar)
 |some (ds,F)=>some (f ds,F)
 |none=>none
mutual
def Eo(h:Nat->Option Ap):AV->Option (D×Ar)
 | .im d=>some (d,[])
 | .own o=>Qh o (h o)
 | .mp o=>Qg o (h o)
 | .agg cs=>mN .agg (Ss h cs)
 | .tup cs=>mN .tup (Ss h cs)
 | .any=>none
 | .ptr _ _=>none
 | .eptr _ _ _=>none
 | .ch _=>none
 | .it _=>none
 | .osl _ _ _=>none
 | .clo _ _ _=>none
def Ss(h:Nat->Option Ap):List AV->Option (List D×Ar)
 |[]=>some ([],[])
 |x::r=>BH (Eo h x) (Ss h r)
end
def aU:Option (D×Ar)->Option (PK×Ar)
 |some (d,F)=>some (.val d,F)
 |none=>none
def F5:D->PK
 | .ref cs=> .ptr cs
 | .int k n=> .val (.int k n)
 | .bool b=> .val (.bool b)
 | .str s=> .val (.str s)
 | .nilp=> .val .nilp
 | .nilf=> .val .nilf
 | .nili=> .val .nili
 | .nilc=> .val .nilc
 | .nilm=> .val .nilm
 | .agg cs=> .val (.agg cs)
 | .tup cs=> .val (.tup cs)
 | .sl O k rows=> .val (.sl O k rows)
 | .mp G z=> .val (.mp G z)
 | .fn f a b=> .val (.fn f a b)
 | .ifc t d=> .val (.ifc t d)
 | .gp g=> .val (.gp g)
 | .tok g=> .val (.tok g)
def pkC:Option (List D)->Option (PK×Ar)
 |some ds=>some (.ptr ds,[])
 |none=>none
def Ql(off:Nat):Option Ap->Option (PK×Ar)
 |some (_,.cells _ cs)=>pkC (D3 (cs.drop off))
 |some (_,.view cs)=>some (.ptr (cs.drop off),[])
 |some (_,.arr _ _ _)=>none
 |some (_,.arrA _ _ _)=>none
 |some (_,.map _ _)=>none
 |some (_,.chan _ _)=>none
 |some (_,.iter _ _)=>none
 |none=>none
def pkR(off:Nat):Option (List D)->Option (PK×Ar)
 |some r=>some (.ptr (r.drop off),[])
 |none=>none
def TA(i off:Nat):Option Ap->Option (PK×Ar)
 |some (_,.arr _ _ rows)=>pkR off rows[i]?
 |some (_,.cells _ _)=>none
 |some (_,.view _)=>none
 |some (_,.arrA _ _ _)=>none
 |some (_,.map _ _)=>none
 |some (_,.chan _ _)=>none
 |some (_,.iter _ _)=>none
 |none=>none
def Ih(h:Nat->Option Ap):AV->Option (PK×Ar)
 | .im d=>some (F5 d,[])
 | .ptr o off=>Ql off (h o)
 | .own o=>aU (Eo h (.own o))
 | .mp o=>aU (Eo h (.mp o))
 | .agg cs=>aU (Eo h (.agg cs))
 | .tup cs=>aU (Eo h (.tup cs))
 | .any=>none
 | .eptr o i off=>TA i off (h o)
 | .ch _=>none
 | .it _=>none
 | .osl _ _ _=>none
 | .clo _ _ _=>none
def WK:Option (PK×Ar)->Option (List PK×Ar)->Option (List PK×Ar)
 |some (p,F),some (z,G)=>some (p::z,F++G)
 |some _,none=>none
 |none,_=>none
def Mk(h:Nat->Option Ap):List AV->Option (List PK×Ar)
 |[]=>some ([],[])
 |x::r=>WK (Ih h x) (Mk h r)
def EA{A:Type}(K:A->Prop):Option A->Prop
 |some a=>K a
 |none=>False
def VC(u:List Nat):Ar->Bz
 |[]=>{use:=u}
 |e::r=>{use:=u,kill:=(e::r).map (·.1),new:=e::r}
def bL{A:Type}(ar:List PK->Option A)(pre:A->Prop)(re:A->D)(u:List Nat)(K:Ah):Option (List PK×Ar)->Prop
 |some (z,F)=>EA (λa=>pre a/\K (.im (re a)) (VC u F)) (ar z)
 |none=>False
def FH{A:Type}(ar:List PK->Option A)(pre:A->Prop)(re:A->D):Ax:=λz h _ K=>bL ar pre re (A9 z) K (Mk h z)
def FW(S:Au)(F:Ar):Prop:= ∀n e,(n,e)∈F-> ∃z,S.h n=some (z,e.2)/\e.1=false
def FW.app{S:Au}{F G:Ar}(O:FW S F)(Q:FW S G):FW S (F++G):=by
 intro n e z;rcases Bp.1 z with z|z
 .exact O n e z
 .exact Q n e z
def XF(F:Ar)(X:Nat->Bool):Prop:= ∀n∈F.map (·.1),X n=false
def XF.app{F G:Ar}{X:Nat->Bool}(h:XF (F++G) X):XF F X/\XF G X:=by
 unfold XF at*;simp only[Ei,Bp] at h;exact⟨λn hn=>h n (.inl hn),λn hn=>h n (.inr hn)⟩
section
variable {C:AT}{S:Au}{h:Nat->Option Ap}
def Su(hW:Wf C S){o:Nat}{d:D}{F:Ar}{v:Value}(hh:S.h o=h o)(hd:Qh o (h o)=some (d,F))(hc:Aa S (.own o) v):FW S F/\ ∀X,XF F X->rd (S.ice X).ok (S.ice X).hp d v:=by
 cases ho:h o with
 |none=>rw[ho] at hd;simp[Qh] at hd
 |some e=>
  obtain⟨mu,e⟩:=e;rw[ho] at hd hh;cases e<;>simp only[Qh,reduceCtorEq] at hd;rename_i T k rows;simp only[AI,Ej] at hd;obtain⟨rfl,rfl⟩:=hd;refine⟨?_,λX hX=> ?_⟩
  .cases mu with
   |false=>intro n e z;cases z
   |true=>
    intro n e z;simp only[C3,B4,Ej] at z;obtain⟨rfl,rfl⟩:=z;exact⟨true,hh,rfl⟩
  .have O:Wf C (S.ice X):=Vp hW;have Z:=Hu (Hg S X) _ _ (λ_ _=>trivial) hc;have z:(S.ice X).h o=some (mu && X o,.arr T k rows):=by
    show (S.h o).map _=_;rw[hh];rfl
   refine L4 (f:=λ_=>none) O (λx d v hx=>by cases hx) ?_ (by rw[z];rfl) Z;intro e' l G hv hl;cases mu with
   |true=>exact lN hW (hX o (by simp)) G hv hl
   |false=>
    rw[z] at G;obtain rfl:=Aw G
    have:=(O.loc o _ l z hl).2
    simp only[Gf,CN,Cu] at this;rcases this with Q|Q
    .exact Q
    .cases Q
def St(hW:Wf C S){o:Nat}{d:D}{F:Ar}{v:Value}(hh:S.h o=h o)(hd:Qg o (h o)=some (d,F))(hc:Aa S (.mp o) v):FW S F/\ ∀X,XF F X->rd (S.ice X).ok (S.ice X).hp d v:=by
 cases ho:h o with
 |none=>rw[ho] at hd;simp[Qg] at hd
 |some e=>
  obtain⟨mu,e⟩:=e;rw[ho] at hd hh;cases e<;>simp only[Qg,reduceCtorEq] at hd;rename_i kt es;simp only[AI,Ej] at hd;obtain⟨rfl,rfl⟩:=hd;refine⟨?_,λX hX=> ?_⟩
  .cases mu with
   |false=>intro n e z;cases z
   |true=>
    intro n e z;simp only[C3,B4,Ej] at z;obtain⟨rfl,rfl⟩:=z;exact⟨true,hh,rfl⟩
  .have O:Wf C (S.ice X):=Vp hW;have Z:=Hu (Hg S X) _ _ (λ_ _=>trivial) hc;have z:(S.ice X).h o=some (mu && X o,.map kt es):=by
    show (S.h o).map _=_;rw[hh];rfl
   refine Sm O ?_ (by rw[z];rfl) Z;intro e' l G hv hl;cases mu with
   |true=>exact lN hW (hX o (by simp)) G hv hl
   |false=>
    rw[z] at G;obtain rfl:=Aw G
    have:=(O.loc o _ l z hl).2
    simp only[Gf,CN,Cu] at this;rcases this with Q|Q
    .exact Q
    .cases Q
mutual
def nM(hW:Wf C S): ∀(x:AV) (d:D) (F:Ar) (v:Value),(∀n∈x.nms,S.h n=h n)->Eo h x=some (d,F)->Aa S x v->FW S F/\ ∀X,XF F X->rd (S.ice X).ok (S.ice X).hp d v
 | .im d',d,F,v,_,hd,z=>by
   simp only[Eo,AI,Ej] at hd;obtain⟨rfl,rfl⟩:=hd;simp only[Aa] at z;exact⟨(λn e he=>by cases he),λX _=>FL (Hg S X).ok _ _ z⟩
 | .own o,d,F,v,O,hd,z=>by
   simp only[Eo] at hd;exact Su hW (O o (by simp[AV.nms])) hd z
 | .mp o,d,F,v,O,hd,z=>by
   simp only[Eo] at hd;exact St hW (O o (by simp[AV.nms])) hd z
 | .agg cs,d,F,v,O,hd,z=>by
   simp only[Eo] at hd;cases hl:Ss h cs with
   |none=>rw[hl] at hd;cases hd
   |some q=>
    obtain⟨ds,G⟩:=q;rw[hl] at hd;simp only[mN,AI,Ej] at hd;obtain⟨rfl,rfl⟩:=hd;simp only[Aa] at z;obtain⟨vs,rfl,Q⟩:=z;obtain⟨Z,h3⟩:=Qtb hW cs ds G vs.toList (by simpa only[AV.nms] using O) hl Q;exact⟨Z,λX hX=>by simp only[rd];exact⟨vs,rfl,h3 X hX⟩⟩
 | .tup cs,d,F,v,O,hd,z=>by
   simp only[Eo] at hd;cases hl:Ss h cs with
   |none=>rw[hl] at hd;cases hd
   |some q=>
    obtain⟨ds,G⟩:=q;rw[hl] at hd;simp only[mN,AI,Ej] at hd;obtain⟨rfl,rfl⟩:=hd;simp only[Aa] at z;obtain⟨vs,rfl,Q⟩:=z;obtain⟨Z,h3⟩:=Qtb hW cs ds G vs.toList (by simpa only[AV.nms] using O) hl Q;exact⟨Z,λX hX=>by simp only[rd];exact⟨vs,rfl,h3 X hX⟩⟩
 | .any,d,F,v,_,hd,_=>by simp[Eo] at hd
 | .ptr _ _,d,F,v,_,hd,_=>by simp[Eo] at hd
 | .eptr _ _ _,d,F,v,_,hd,_=>by simp[Eo] at hd
 | .ch _,d,F,v,_,hd,_=>by simp[Eo] at hd
 | .it _,d,F,v,_,hd,_=>by simp[Eo] at hd
 | .osl _ _ _,d,F,v,_,hd,_=>by simp[Eo] at hd
 | .clo _ _ _,d,F,v,_,hd,_=>by simp[Eo] at hd
def Qtb(hW:Wf C S): ∀(xs:List AV) (ds:List D) (F:Ar) (vs:List Value),(∀n∈A9 xs,S.h n=h n)->Ss h xs=some (ds,F)->AJ S xs vs->FW S F/\ ∀X,XF F X->rdl (S.ice X).ok (S.ice X).hp ds vs
 |[],ds,F,vs,_,hd,z=>by
  simp only[Ss,AI,Ej] at hd;obtain⟨rfl,rfl⟩:=hd;simp only[AJ] at z;exact⟨(λn e he=>by cases he),λX _=>by simp only[rdl];exact z⟩
 |x::xs,ds,F,vs,Q,hd,z=>by
  simp only[A9,Bp] at Q;simp only[Ss] at hd;simp only[AJ] at z;obtain⟨v,r,rfl,h1,h2⟩:=z;cases hx:Eo h x with
  |none=>rw[hx] at hd;simp[BH] at hd
  |some q=>
   obtain⟨d,E⟩:=q;cases hl:Ss h xs with
   |none=>rw[hx,hl] at hd;simp[BH] at hd
   |some q2=>
    obtain⟨O,G⟩:=q2;rw[hx,hl] at hd;simp only[BH,AI,Ej] at hd;obtain⟨rfl,rfl⟩:=hd;obtain⟨a1,a2⟩:=nM hW x d E v (λn hn=>Q n (.inl hn)) hx h1;obtain⟨b1,b2⟩:=Qtb hW xs O G r (λn hn=>Q n (.inr hn)) hl h2;refine⟨a1.app b1,λX hX=> ?_⟩;obtain⟨c1,Z⟩:=hX.app;simp only[rdl];exact⟨v,r,rfl,a2 X c1,b2 X Z⟩
end
def Qyv(hW:Wf C S){d:D}{v:Value}(hd:rd S.ok S.hp d v):HK S (F5 d) v:=by
 cases d<;>try exact hd
 rename_i cs;simp only[rd] at hd;obtain⟨b,p,vs,T,z,G,O,Q,Z⟩:=hd;exact⟨b,p,vs,T,z,G,hW.oks b O,Q,Z⟩
def cP{ok:Nat->Prop}{hp:Nat->Option Obj}{k:Nat}{r:List D}: ∀(rows:List (List D)) (vs:List Value) (i:Nat),rdr ok hp k rows vs->rows[i]? =some r->r.length=k/\rdp ok hp r (vs.drop (i*k))
 |[],_,i,_,h=>by simp at h
 |q::rows,vs,i,h,z=>by
  simp only[rdr] at h;cases i with
  |zero=>
   simp only[G4,AI] at z;subst z;simpa using ⟨h.1,h.2.1⟩
  |succ i=>
   obtain⟨g1,g2⟩:=cP rows (vs.drop k) i h.2.2 (by simpa using z);rw[DX] at g2;refine⟨g1,?_⟩;rw[uY,fN (i*k) k];exact g2
def T9(hW:Wf C S){x:AV}{p:PK}{F:Ar}{v:Value}(hh: ∀n∈x.nms,S.h n=h n)(hp:Ih h x=some (p,F))(hc:Aa S x v):FW S F/\ ∀X,XF F X->HK (S.ice X) p v:=by
 have aa:aU (Eo h x)=some (p,F)->FW S F/\ ∀X,XF F X->HK (S.ice X) p v:=by
  intro hp;cases hx:Eo h x with
  |none=>rw[hx] at hp;cases hp
  |some q=>
   obtain⟨d,G⟩:=q;rw[hx] at hp;simp only[aU,AI,Ej] at hp;obtain⟨rfl,rfl⟩:=hp;obtain⟨Z,h2⟩:=nM hW x d G v hh hx hc;exact⟨Z,h2⟩
 cases x<;>simp only[Ih,reduceCtorEq] at hp
 case eptr o i off=>
  have Q:=hh o (by simp[AV.nms]);cases hn:h o with
  |none=>rw[hn] at hp;simp[TA] at hp
  |some e=>
   obtain⟨mu,e⟩:=e;rw[hn] at hp Q;have z:=hW.obj o _ Q;simp only[Aa] at hc;obtain⟨l,hl,hv⟩:=hc.2 _ Q;have O:=(hW.loc o _ l Q hl).1;cases e<;>simp only[TA,reduceCtorEq] at hp;rename_i T k rows;cases hr:rows[i]? with
   |none=>rw[hr] at hp;cases hp
   |some r=>
    rw[hr] at hp;simp only[pkR,AI,Ej] at hp;obtain⟨rfl,rfl⟩:=hp;refine⟨(λn e he=>by cases he),λX _=> ?_⟩;rw[hl] at z;simp only[Al] at z;obtain⟨_,_,vs,h5,_,h6⟩:=z;obtain⟨g1,g2⟩:=cP rows _ i h6 hr;simp only[HK];refine⟨l.b,l.p+i*k+off,vs,_,_,hv,O,h5,?_⟩;have h7:=Vm (Hg S X).ok _ _ g2;rw[DX] at h7;rcases Zfs off r.length with h8|h8
    .have:=PQ off r _ h7 h8
     rwa [DX] at this
    .rw[CO h8];simp only[rdp]
 case im d=>
  simp only[AI,Ej] at hp;obtain⟨rfl,rfl⟩:=hp;simp only[Aa] at hc;exact⟨(λn e he=>by cases he),λX _=>Qyv (Vp hW) (FL (Hg S X).ok _ _ hc)⟩
 case ptr o off=>
  have Q:=hh o (by simp[AV.nms]);cases hn:h o with
  |none=>rw[hn] at hp;simp[Ql] at hp
  |some e=>
   obtain⟨mu,e⟩:=e;rw[hn] at hp Q;have z:=hW.obj o _ Q;simp only[Aa] at hc;obtain⟨l,hl,hv⟩:=hc.2 _ Q;have O:=(hW.loc o _ l Q hl).1;cases e<;>simp only[Ql,reduceCtorEq] at hp
   case cells T cs=>
    cases ha:D3 (cs.drop off) with
    |none=>rw[ha] at hp;cases hp
    |some ds=>
     rw[ha] at hp;simp only[pkC,AI,Ej] at hp;obtain⟨rfl,rfl⟩:=hp;refine⟨(λn e he=>by cases he),λX _=> ?_⟩;simp only[Al] at z;obtain⟨lc,vs,Z,h2,h3,h4⟩:=z;rw[hl] at Z;obtain rfl:=Aw Z;simp only[HK];refine⟨l.b,l.p+off,vs,_,_,hv,O,h3,?_⟩;rw[h2,Fj];have h5:AJ S (cs.drop off) (vs.toList.drop off):=by
      have: ∀(n:Nat) (a:List AV) (b:List Value),AJ S a b->AJ S (a.drop n) (b.drop n):=by
       intro n;induction n with
       |zero=>intro a b h;simpa using h
       |succ n ih=>
        intro a b h;cases a with
        |nil=>simp only[AJ] at h;subst h;simp[AJ]
        |cons x a=>
         simp only[AJ] at h;obtain⟨v,r,rfl,_,h⟩:=h;simpa using ih a r h
      exact this off cs _ h4
     exact Qse ds _ (KB (Hg S X).ok _ _ (zZ _ ds _ ha h5))
   case view cs=>
    simp only[AI,Ej] at hp;obtain⟨rfl,rfl⟩:=hp;refine⟨(λn e he=>by cases he),λX _=> ?_⟩;simp only[Al] at z;obtain⟨lc,vs,T,fr,Z,h2,h3⟩:=z;rw[hl] at Z;obtain rfl:=Aw Z;simp only[HK];refine⟨l.b,l.p+off,vs,T,fr,hv,O,h2,?_⟩;rw[<-DX]
    have: ∀(n:Nat) (a:List D) (b:List Value),rdp S.ok S.hp a b->rdp S.ok S.hp (a.drop n) (b.drop n):=by
     intro n;induction n with
     |zero=>intro a b h;simpa using h
     |succ n ih=>
      intro a b h;cases a with
      |nil=>simp[rdp]
      |cons x a=>
       simp only[rdp] at h;obtain⟨v,r,rfl,_,h⟩:=h;simpa using ih a r h
    exact Vm (Hg S X).ok _ _ (this off cs _ h3)
 all_goals exact aa hp
def nX(hW:Wf C S): ∀(xs:List AV) (ps:List PK) (F:Ar) (vs:List Value),(∀n∈A9 xs,S.h n=h n)->Mk h xs=some (ps,F)->AJ S xs vs->FW S F/\ ∀X,XF F X->Ec (S.ice X) ps vs
 |[],ps,F,vs,_,hd,z=>by
  simp only[Mk,AI,Ej] at hd;obtain⟨rfl,rfl⟩:=hd;simp only[AJ] at z;exact⟨(λn e he=>by cases he),λX _=>by simp only[Ec];exact z⟩
 |x::xs,ps,F,vs,O,hd,z=>by
  simp only[A9,Bp] at O;simp only[Mk] at hd;simp only[AJ] at z;obtain⟨v,r,rfl,h1,h2⟩:=z;cases hx:Ih h x with
  |none=>rw[hx] at hd;simp[WK] at hd
  |some q=>
   obtain⟨p,E⟩:=q;cases hl:Mk h xs with
   |none=>rw[hx,hl] at hd;simp[WK] at hd
   |some q2=>
    obtain⟨Q,G⟩:=q2;rw[hx,hl] at hd;simp only[WK,AI,Ej] at hd;obtain⟨rfl,rfl⟩:=hd;obtain⟨a1,a2⟩:=T9 hW (λn hn=>O n (.inl hn)) hx h1;obtain⟨b1,b2⟩:=nX hW xs Q G r (λn hn=>O n (.inr hn)) hl h2;refine⟨a1.app b1,λX hX=> ?_⟩;obtain⟨c1,Z⟩:=hX.app;simp only[Ec];exact⟨v,r,rfl,a2 X c1,b2 X Z⟩
end
def Oy(u:List Nat)(F:Ar):(VC u F).use=u/\(VC u F).kill=F.map (·.1)/\(VC u F).new=F/\(VC u F).cnt=0:=by
 cases F<;>exact⟨rfl,rfl,rfl,rfl⟩
def ES{B:Type}(rc:D->Option B)(b:B):AV->Prop
 | .im d=>rc d=some b
 | .any=>False
 | .agg _=>False
 | .tup _=>False
 | .ptr _ _=>False
 | .eptr _ _ _=>False
 | .own _=>False
 | .mp _=>False
 | .ch _=>False
 | .it _=>False
 | .osl _ _ _=>False
 | .clo _ _ _=>False
def Mo{B:Type}(rc:D->Option B)(b:B):JL:=λr _ _=>ES rc b r
def bT{P:Program}(HM:P.follows .mixedOrders=true){V:Df}(hV:Jr P V){g:FuncId}{fn:Func}{c:Code}(hf:P.funcs[g]? =some fn)(hb:fn.body=some c)(ab:Eg fn.ntmps c=true)(aa:FA P g=true)
 {A B:Type}{ar:List PK->Option A}{ae:A->List PK}(ak: ∀ps a,ar ps=some a->BM ps (ae a)){n:Nat}(hn: ∀a,(ae a).length=n)(am:n<=fn.ntmps){rc:D->Option B}{re:B->D}(an: ∀d b,rc d=some b->Le d (re b))
 {pre:A->Prop}{f:A->B}
 (hk: ∀a,pre a->Dh P V c (OW P fn.results.toList (BN (ae a)) [] Kd (CT 0 (ae a)) (Mo rc (f a))) ⟨entry 0 (CU 0 (ae a)),CT 0 (ae a),BN (ae a)⟩):
 Ga P g (FH ar pre λa=>re (f a)):=by
 intro G h nx K z;unfold FH at z;cases hp:Mk h G with
 |none=>rw[hp] at z;exact z.elim
 |some q=>
  obtain⟨ps,F⟩:=q;rw[hp] at z;simp only[bL] at z;cases ha:ar ps with
  |none=>rw[ha] at z;exact z.elim
  |some a=>
   rw[ha] at z;simp only[EA] at z;obtain⟨ad,hK⟩:=z;refine⟨KH aa,_,_,?_,hK⟩;obtain⟨e1,e2,e3,e4⟩:=Oy (A9 G) F;intro C S vs RR hW O af ag Q ac;rw[e1,e2] at O;obtain⟨h1,h2⟩:=nX hW G ps F vs.toList (λn hn=>O n (G7 _ hn)) hp Q
   let X:Nat->Bool:=λn=> !(F.map (·.1)).contains n
   have hX:XF F X:=by
    intro n hn;simp only[X,G6.2 hn,mG]
   have ai:Wf C (S.ice X):=Vp hW;have Z:(S.ice X).h=(VC (A9 G) F).appf S.h:=by
    have:=S8 (S:=S) (F:=F) (u:=A9 G) h1
    rw[show (VC (A9 G) F).appf S.h=({use:=A9 G,kill:=F.map (·.1),new:=F}:Bz).appf S.h by
     funext m;simp only[Bz.appf,e2,e3]]
    exact this
   refine UT HM hV hf hb ab (S:=S.ice X) (ps:=ae a) (r0:=re (f a)) (by rw[hn];exact am) ?_ (hk a ad) ai ((ak ps a ha).c (h2 X hX)) ?_
   .intro r H n hr;unfold Mo at hr;cases r<;>simp only[ES] at hr;exact⟨_,rfl,an _ _ hr⟩
   .intro v S' ah hh hp' ao;refine ac v S' ah (by rw[hh,Z]) ?_ (by simp only[Aa];exact ao);refine⟨λb hb=> ?_,λo _ e' aj=> ?_⟩
    .obtain⟨q1,q2⟩:=(Hg S X).ok b hb;obtain⟨q3,q4⟩:=hp'.ok b q1;exact⟨q3,q4.trans q2⟩
    .obtain⟨e,q1,q2,q3,q4⟩:=hp'.nm o trivial e' aj;obtain⟨e0,q5,q6,q7,q8⟩:=(Hg S X).nm o trivial e q1;exact⟨e0,q5,q2.trans q6,q3.trans q7,q4.trans q8⟩
def Di(σ:Nat->Nat)(k nx j:Nat):Nat:=if j<k then σ j else nx+(j - k)
def An(H0:Ar)(o:Nat):Bool:=(hget H0 o).isSome
def XV(H0:Ar)(k cnt:Nat)(exB:Nat->Bool)(o:Nat):Option Nat:=bif An H0 o||(exB o && (Nat.ble k o && Nat.blt o (k+cnt))) then some o else none
def RY(f:AV->Option AV)(e:Ap):Option Ap->Prop
 |some (G,z)=>G=e.1/\D8 f z=some e.2
 |none=>False
def Hy(h:Nat->Option Ap)(f:AV->Option AV):Ar->Prop
 |[]=>True
 |(j,e)::r=>RY f e (h j)/\Hy h f r
def Ja(h:Nat->Option Ap)(klB:Nat->Bool):Ar->Prop
 |[]=>True
 |(j,e)::r=>(bif klB j then True else h j=some e)/\Ja h klB r
def Mz(R:AV->Prop):Option AV->Prop
 |some r=>R r
 |none=>False
def aW(k cnt:Nat)(H0 H1:Ar)(klB exB:Nat->Bool)(R:AV->Prop)(s:Az)(x:AV):Prop:=
 Ja (hget s.h) klB H0/\Mz R (Bl (hget s.h) (XV H0 k cnt exB) 9 x)/\Hy (hget s.h) (Bl (hget s.h) (XV H0 k cnt exB) 9) H1
def My(k cnt:Nat)(H0 H1:Ar)(klB exB:Nat->Bool)(R:AV->Prop)(s:Az):Option (List AV)->Prop
 |some xs=>aW k cnt H0 H1 klB exB R s (Dr xs)
 |none=>False
def HG(P:Program)(z:List ResultVar)(k cnt:Nat)(H0 H1:Ar)(klB exB:Nat->Bool)(R:AV->Prop)(s:Az):Prop:=My k cnt H0 H1 klB exB R s (A7 (JF P s) z)
def Nm(P:Program)(z:List ResultVar)(k cnt:Nat)(H0 H1:Ar)(klB exB:Nat->Bool)(R:AV->Prop):Cq
 | .normal,s=>HG P z k cnt H0 H1 klB exB R s
 | .ret,s=>HG P z k cnt H0 H1 klB exB R s
 | .exit _,_=>False
def xD(P:Program)(z:List ResultVar)(k cnt:Nat)(H0 H1:Ar)(klB exB:Nat->Bool)(R:AV->Prop)(s:Az):Prop:=
 ∃(F:List Nat) (π:List (Nat×Option Nat)) (s':Az),Ak k π (Sr F s) s'/\s'.good=true/\k<=s'.nx/\HG P z k cnt H0 H1 klB exB R s'
def AG(P:Program)(z:List ResultVar)(k cnt:Nat)(H0 H1:Ar)(klB exB:Nat->Bool)(R:AV->Prop):Cq
 | .normal,s=>xD P z k cnt H0 H1 klB exB R s
 | .ret,s=>xD P z k cnt H0 H1 klB exB R s
 | .exit _,_=>False
def M6{h:Nat->Option Ap}{klB:Nat->Bool}: ∀(H:Ar),Ja h klB H-> ∀j e,(j,e)∈H->klB j=false->h j=some e
 |[],_,j,e,z,_=>by cases z
 |(i,x)::r,G,j,e,z,Q=>by
  simp only[Ja] at G;rcases Bx.1 z with z|z
  .cases z;have O:=G.1;rw[Q] at O;exact O
  .exact M6 r G.2 j e z Q
def Qve{h:Nat->Option Ap}{f:AV->Option AV}: ∀(H:Ar),Hy h f H-> ∀j e,(j,e)∈H-> ∃G,h j=some G/\e.1=G.1/\D8 f G.2=some e.2
 |[],_,j,e,z=>by cases z
 |(i,x)::r,Q,j,e,z=>by
  simp only[Hy] at Q;rcases Bx.1 z with z|z
  .cases z;have O:=Q.1;cases hq:h i with
   |none=>rw[hq] at O;exact O.elim
   |some y=>
    obtain⟨Z,G⟩:=y;rw[hq] at O;exact⟨(Z,G),rfl,O.1.symm,O.2⟩
  .exact Qve r Q.2 j e z
def Qv5{σ:Nat->Nat}{D:Nat->Prop}(hσ: ∀i j,D i->D j->σ i=σ j->i=j): ∀(H:Ar),(∀p∈H,D p.1)-> ∀(j:Nat),D j->hget (B1 σ H) (σ j)=(hget H j).map λe=>(e.1,e.2.ren σ)
 |[],_,j,_=>rfl
 |(i,(Z,e))::r,hH,j,G=>by
  simp only[B1,hget];by_cases z:i=j
  .subst z;simp
  .have O:(i==j)=false:=by simpa using z
   have Q:(σ i==σ j)=false:=by rw[H4];exact λh=>z (hσ _ _ (hH _ (Cb ..)) G h)
   rw[O,Q];simpa using Qv5 hσ r (λp hp=>hH p (BZ _ hp)) j G
def wU{P:Program}(HM:P.follows .mixedOrders=true){V:Df}(hV:Jr P V){g:FuncId}{fn:Func}{c:Code}(hf:P.funcs[g]? =some fn)(hb:fn.body=some c)(b9:Eg fn.ntmps c=true)
 {args:List AV}{H0 H1:Ar}{k cnt:Nat}(c7:args.length<=fn.ntmps)(hbel:AN k args=true)(hbH:AD k H0=true)(hkH:Cg k H0=true)
 (bu: ∀j e,hget H0 j=some e-> ∀m∈e.2.nms,An H0 m=true)
 {klB exB:Nat->Bool}{R:AV->Prop}{r0:AV}
 (hR: ∀r,R r->DK r r0)
 (hH1: ∀p∈H1,(p.1<k/\klB p.1=true/\An H0 p.1=true)\/(k<=p.1/\p.1<k+cnt/\exB p.1=true/\p.2.1=true))
 {Q:Cq}(hQ: ∀(C:AT) (N:Nat) (a:Act) (w:World) (s:Az),C.n0=k->BL C N s a w->Q .normal s\/Q .ret s-> ∃s',BL C N s' a w/\HG P fn.results.toList k cnt H0 H1 klB exB R s')
 (cm: ∀i s,¬Q (.exit i) s)
 (hk:Dh P V c Q ⟨entry 0 args,H0,k⟩)
 {h:Nat->Option Ap}{nx:Nat}{τ:Nat->Nat}(cc: ∀i j,An H0 i=true->An H0 j=true->τ i=τ j->i=j)(cz: ∀j,An H0 j=true->τ j<nx)
 (hH: ∀j e,hget H0 j=some e->h (Di τ k nx j)=some (e.1,e.2.ren (Di τ k nx)))
 {U KL:List Nat}(hU: ∀j,An H0 j=true->τ j∈U)(c6: ∀n∈KL,∃j,An H0 j=true/\klB j=true/\n=τ j)(b8: ∀j,An H0 j=true->klB j=true->τ j∈KL):
 Qr P g (AU (Di τ k nx) args) h nx (r0.ren (Di τ k nx)) {use:=U,kill:=KL,new:=B1 (Di τ k nx) H1,cnt:=cnt}:=by
 intro C S vs RR hW ci am bj a0 cb
 let σ:=Di τ k nx
 let DD:Nat->Prop:=λj=>An H0 j=true\/k<=j
 have ai: ∀j e,hget H0 j=some e->An H0 j=true:=λj e he=>by unfold An;rw[he];rfl
 have aj: ∀j,An H0 j=true-> ∃e,hget H0 j=some e:=λj O=>by
  unfold An at O;cases hq:hget H0 j with
  |none=>rw[hq] at O;cases O
  |some e=>exact⟨e,rfl⟩
 have ao: ∀j,An H0 j=true->j<k:=λj O=>by
  obtain⟨e,he⟩:=aj j O;exact rG _ hkH j e he
 have hσlo: ∀j,j<k->σ j=τ j:=λj O=>Ai O
 have hσge: ∀j,k<=j->σ j=nx+(j - k):=λj O=>Ad (by omega)
 have hσin: ∀j,An H0 j=true->σ j∈U:=λj O=>by rw[hσlo j (ao j O)];exact hU j O
 have hσlt: ∀j,An H0 j=true->σ j<nx:=λj O=>by rw[hσlo j (ao j O)];exact cz j O
 have hσinj: ∀i j,DD i->DD j->σ i=σ j->i=j:=by
  intro i j hi O h;rcases hi with hi|hi<;>rcases O with O|O
  .rw[hσlo i (ao i hi),hσlo j (ao j O)] at h;exact cc i j hi O h
  .have:=hσlt i hi
   rw[h,hσge j O] at this;omega
  .have:=hσlt j O
   rw[<-h,hσge i hi] at this;omega
  .rw[hσge i hi,hσge j O] at h;omega
 have hS: ∀j e,hget H0 j=some e->S.h (σ j)=some (e.1,e.2.ren σ):=by
  intro j e he;rw[ci (σ j) (G7 _ (hσin j (ai j e he)))];exact hH j e he
 refine calls_of_wp hf hb ?_;have hvl:=Iu _ _ a0;have hvs:vs.size=args.length:=by rw[Qsc] at hvl;simpa using hvl
 let S0:Au:=⟨λj=>S.ρ (σ j),S.ok,hget H0,S.w⟩
 let M0:Nat->Prop:=λb=> ∃j e l,hget H0 j=some e/\e.1=true/\S.ρ (σ j)=some l/\l.b=b
 let C0:AT:=⟨S.w,M0,S.ok,k,hget H0,λj=>S.ρ (σ j),[]⟩
 have bf: ∀n,NI S S0 σ (λn=>n) n:=by
  intro n;refine⟨λe' z=>⟨_,hS n e' z,rfl,?_,?_⟩⟩
  .exact (Qr6 σ e'.2).symm
  .exact (Qs6 σ e'.2).symm
 have bn: ∀b,S.ok b->S0.ok b/\S0.hp b=S.hp b:=λb hb=>⟨hb,rfl⟩
 have cp:Wf C0 S0:=by
  refine⟨rfl,rfl,rfl,AF _,AF _,λ_ _ _=>rfl,λ_ hb=>hb,λ_ hb=> .inl hb,hW.oks,?_,?_,?_,hW.glN (by rintro b ⟨j,e,l,G,Z,h3,rfl⟩;have h4:=(hW.loc _ _ l (hS j e G) h3).2;rw[show (e.1,e.2.ren σ).1=true from Z] at h4;simp only[BF] at h4;exact h4.1)⟩
  .intro j e he;have G:=hW.obj _ _ (hS j e he);have Z:=Qzw (τ:=λn=>n) bn (λ_ _=>rfl) e.2 (λn _=>bf n) G;rwa [Qwc] at Z
  .intro j e l he hl;obtain⟨G,Z⟩:=hW.loc _ _ l (hS j e he) hl;refine⟨G,?_⟩;cases hm:e.1 with
   |false=>
    rw[hm] at Z;have hv:(e.2.ren σ).isView=e.2.isView:=by cases e.2<;>rfl
    simpa[hv] using Z
   |true=>
    rw[hm] at Z;simp only[BF] at Z⊢;exact⟨Z.1,.inr ⟨j,e,l,he,hm,hl,rfl⟩⟩
  .intro i j e e' l l' he z hl bw af ak;exact hσinj _ _ (.inl (ai _ _ he)) (.inl (ai _ _ z)) (hW.inj _ _ _ _ l l' (hS i e he) (hS j e' z) hl bw af ak)
 have cq:BL C0 fn.ntmps ⟨entry 0 args,H0,k⟩ {tmps:=vs++Array.replicate (fn.ntmps - vs.size) undef,defers:=[]} S.w:=by
  have bg:AJ S0 args vs.toList:=by
   have:=dV (τ:=λn=>n) bn args vs.toList (λn _=>bf n) a0
   rwa [Zu] at this
  refine⟨S0,rfl,cp,λn=>rfl,?_,?_,λn e he=>⟨rG _ hkH n e he,eI _ hbH n e he⟩,by simp;omega,rfl,AF _,λo _ e' z=>⟨e',z,rfl,rfl,rfl⟩⟩
  .intro t;have G:=jR (S:=S0) args vs.toList 0 t bg;simp only[BP,BF,mI] at G
   have:({tmps:=vs++Array.replicate (fn.ntmps - vs.size) undef,defers:=[]}:Act).eval (.tmp t)=(vs.toList[t]?).getD undef:=by
    simp only[Act.eval,H2,mA,fH];by_cases ht:t<vs.size
    .simp[ht]
    .simp only[ht,Cu]
     have:vs[t]? =none:=Rb (by omega)
     simp only[GU,this]
     split<;>rfl
   rw[this];exact G
  .intro t m hm;exact Zq args hbel m (jZ args 0 t m hm)
 refine wp_mono (Qo4 HM (eS hV) c b9 _ _ _ _ hk cq) ?_;have fin: ∀(s:Az) (a:Act) (w:World),HG P fn.results.toList k cnt H0 H1 klB exB R s->BL C0 fn.ntmps s a w->a.defers=[]/\ ∃v,(results fn a.tmps).run P w= .ok v w/\RR (.returned v) w:=by
  rintro s a w hr ⟨S1,rfl,hc⟩;unfold HG at hr;cases hxs:A7 (JF P s) fn.results.toList with
  |none=>rw[hxs] at hr;exact hr.elim
  |some xs=>
   rw[hxs] at hr;simp only[My] at hr;obtain⟨v,cg,br⟩:=qM hc hxs;refine⟨hc.defers,v,cg,?_⟩;obtain⟨cf,aw,az⟩:=hr;have cn:hget s.h=S1.h:=(funext hc.h).symm;rw[cn] at cf aw az
   let kx:=XV H0 k cnt exB
   let X:Nat->Bool:=λo=>(kx o).isSome
   have ab:Wf C0 (S1.ice X):=Vp hc.wf;have ba: ∀o,(S1.ice X).h o=(S1.h o).map λe=>(e.1 && X o,e.2):=λo=>rfl
   have bh: ∀o e l,kx o=none->(S1.ice X).h o=some e->e.2.isView=false->(S1.ice X).ρ o=some l->(S1.ice X).ok l.b:=by
    intro o e l ho he hv hl;exact lN hc.wf (by simp[X,ho]) he hv hl
   have bv: ∀(f:AV->Option D) (o:Nat),PS f ((S1.ice X).h o)=PS f (S1.h o)/\WP ((S1.ice X).h o)=WP (S1.h o)/\WJ f ((S1.ice X).h o)=WJ f (S1.h o):=by
    intro f o;rw[ba];cases S1.h o with
    |none=>exact⟨rfl,rfl,rfl⟩
    |some e=>obtain⟨mu,e⟩:=e;cases e<;>exact⟨rfl,rfl,rfl⟩
   have bl: ∀(n:Nat),Bl (S1.ice X).h kx n=Bl S1.h kx n:=by
    intro n;induction n with
    |zero=>funext x;simp[Bl]
    |succ n ih=>
     funext x;cases x with
     |own o=>simp only[Bl,ih,(bv _ o).1]
     |mp o=>simp only[Bl,(bv (λ_=>none) o).2.1]
     |ptr o p=>cases p<;>simp only[Bl,ih,(bv _ o).2.2]
     |_=>simp only[Bl,ih]
   rw[<-bl] at aw;have az:Hy S1.h (Bl (S1.ice X).h kx 9) H1:=by rw[bl];exact az
   cases hcv:Bl (S1.ice X).h kx 9 (Dr xs) with
   |none=>rw[hcv] at aw;exact aw.elim
   |some r=>
    rw[hcv] at aw;simp only[Mz] at aw;have ck:=hR _ aw;have bi: ∀o j,kx o=some j->j=o/\(An H0 o=true\/(k<=o/\o<k+cnt)):=by
     intro o j O;simp only[kx,XV] at O;cases hq:An H0 o<;>rw[hq] at O
     .cases hq2:(exB o && (Nat.ble k o && Nat.blt o (k+cnt)))<;>rw[hq2] at O
      .cases O
      .simp only[AO,Qc,H5] at hq2;simp only[uW,C3,AI] at O;exact⟨O.symm,.inr hq2.2⟩
     .simp only[Zfm,C3,AI] at O;exact⟨O.symm,.inl rfl⟩
    have bc: ∀o,An H0 o=true->kx o=some o:=λo ho=>by simp only[kx,XV,ho,Zfm,C3]
    have ce: ∀o,exB o=true->k<=o->o<k+cnt->kx o=some o:=λo G Z h3=>by
     have:(exB o && (Nat.ble k o && Nat.blt o (k+cnt)))=true:=by simp[G,Z,h3]
     simp only[kx,XV,this,uW,C3]
    have ag: ∀j e',(j,e')∈H1->DD j/\j<k+cnt/\((j<k/\klB j=true/\An H0 j=true)\/(k<=j/\e'.1=true))/\kx j=some j/\ ∃e,S1.h j=some e/\e'.1=e.1/\D8 (Bl (S1.ice X).h kx 9) e.2=some e'.2:=by
     intro j e' hm;obtain⟨e0,g1,g2,g3⟩:=Qve H1 az j e' hm;rcases hH1 _ hm with ⟨G,Z,h3⟩|⟨G,Z,h3,h4⟩
     .exact⟨.inl h3,by simp only at G;omega,.inl ⟨G,Z,h3⟩,bc j h3,e0,g1,g2,g3⟩
     .exact⟨.inr G,Z,.inr ⟨G,h4⟩,ce j h3 G Z,e0,g1,g2,g3⟩
    let E:Bz:={use:=U,kill:=KL,new:=B1 σ H1,cnt:=cnt}
    let S':Au:=⟨λn=>if nx<=n/\n<nx+cnt then S1.ρ (n - nx+k) else S.ρ n,(S1.ice X).ok,E.appf S.h,S1.w⟩
    have hρ: ∀j,DD j->j<k+cnt->(∀e,S1.h j=some e->S'.ρ (σ j)=S1.ρ j):=by
     intro j hd O e he;simp only[S'];by_cases au:j<k
     .have cw:An H0 j=true:=hd.resolve_right (by omega);have G:=hσlt j cw;rw[Ad (by omega)];obtain⟨_,_,h3,_⟩:=hc.pre j au e he;exact h3.symm
     .have G:=hσge j (by omega);rw[Ai (by rw[G];omega),G];congr 1;omega
    have ah: ∀n e',S'.h n=some e'->(∃j e,n=σ j/\(j,e)∈H1/\hget H1 j=some e/\e'=(e.1,e.2.ren σ))\/(S.h n=some e'/\ ∀j,An H0 j=true->klB j=true->n≠σ j):=by
     intro n e' z;have z:E.appf S.h n=some e':=z;simp only[Bz.appf,E] at z;cases hg:hget (B1 σ H1) n with
     |some x=>
      rw[hg] at z;obtain rfl:=Aw z;obtain⟨j,e,G,Z,h3⟩:=Qzm hg;subst Z;rw[Qv5 hσinj H1 (λp hp=>(ag p.1 p.2 hp).1) j (ag j e G).1] at hg;cases O:hget H1 j with
      |none=>rw[O] at hg;cases hg
      |some y=>
       rw[O] at hg;exact .inl ⟨j,y,rfl,eD O,O,by simpa using hg.symm⟩
     |none=>
      rw[hg] at z;cases hq:KL.contains n<;>rw[hq] at z
      .refine .inr ⟨z,?_⟩;rintro j O cd rfl
       have:=b8 j O cd
       rw[<-hσlo j (ao j O)] at this;rw[G6.2 this] at hq;cases hq
      .cases z
    have a8: ∀n e l,S.h n=some e->S.ρ n=some l->(∀j,An H0 j=true->n≠σ j)->l.b<S.w.heap.size/\ ¬M0 l.b:=by
     intro n e l he hl hn;refine⟨(hW.loc n e l he hl).1,?_⟩;rintro⟨j,e0,l0,G,h9,Z,h3⟩;exact hn j (ai j e0 G) (hW.inj _ _ _ _ l l0 he (hS j e0 G) hl Z h3.symm (by simp[h9]))
    have av: ∀b,b<S.w.heap.size-> ¬M0 b->S1.w.heap[b]? =S.w.heap[b]? :=λb hb hM=>hc.wf.keep b hb hM
    have bo: ∀b,S.ok b->S'.ok b/\S'.hp b=S.hp b:=by
     intro b hb;refine⟨ab.ok0 b hb,av b (hW.oks b hb) ?_⟩;rintro⟨j,e,l,G,Z,h3,h4⟩
     have:=(hW.loc _ _ l (hS j e G) h3).2
     rw[show (e.1,e.2.ren σ).1=true from Z] at this;simp only[BF] at this;exact this.1 (h4▸hb)
    have ay: ∀j e0,hget H0 j=some e0->klB j=false->S1.h j=some e0:=λj e0 G Z=>M6 H0 cf j e0 (eD G) Z
    have bd: ∀j,An H0 j=true->(∀j',An H0 j'=true->klB j'=true->σ j≠σ j')->klB j=false:=by
     intro j O h;cases hq:klB j with
     |false=>rfl
     |true=>exact absurd rfl (h j O hq)
    have be: ∀o,¬Fr nx cnt o-> ∀e',S'.h o=some e'-> ∃e,S.h o=some e/\S'.ρ o=S.ρ o/\e'.2.esz=e.2.esz/\e'.2.len=e.2.len:=by
     intro o ho e' z;have hρo:S'.ρ o=S.ρ o:=by
      simp only[S'];rw[Ad (by intro h;exact ho ⟨h.1,h.2⟩)]
     rcases ah o e' z with ⟨j,e,rfl,G,Z,rfl⟩|⟨G,_⟩
     .obtain⟨g0,g1,g2,g3,x,g4,g5,g6⟩:=ag j e G;have au:j<k:=by
       rcases g2 with g2|g2
       .exact g2.1
       .have:=hσge j g2.1
        exact absurd (show Fr nx cnt (σ j) from ⟨by omega,by omega⟩) ho
      obtain⟨e0,p1,p2,p3,p4⟩:=hc.pre j au x g4;have an:=(@Qti C0 (S1.ice X) (S1.ice X) ab kx (λj=>j) (λb hb=>⟨hb,rfl⟩) bh (by
       intro o j O e' z;obtain⟨q1,_⟩:=bi o j O;subst q1;exact⟨e',z,rfl,rfl,rfl⟩) 9 x.2 e.2 g6).1
      refine⟨_,hS j e0 p1,hρo,?_,?_⟩
      .simp only[Qr6];rw[<-p3,<-an.1]
      .simp only[Qs6];rw[<-p4,<-an.2]
     .exact⟨e',G,hρo,rfl,rfl⟩
    have ax: ∀o j,kx o=some j-> ∀e',S'.h (σ j)=some e'-> ∃e,(S1.ice X).h o=some e/\S'.ρ (σ j)=(S1.ice X).ρ o/\e'.2.esz=e.2.esz/\e'.2.len=e.2.len:=by
     intro o j O e' z;obtain⟨rfl,q2⟩:=bi o j O;have bt:DD j:=q2.imp id (λh=>h.1);have cx:j<k+cnt:=by
      rcases q2 with q2|q2
      .have:=ao j q2;omega
      .exact q2.2
     rcases ah (σ j) e' z with ⟨j',e,h0,G,Z,rfl⟩|⟨G,Z⟩
     .obtain⟨g0,g1,g2,g3,x,g4,g5,g6⟩:=ag j' e G;obtain rfl:=hσinj _ _ bt g0 h0;have an:=(@Qti C0 (S1.ice X) (S1.ice X) ab kx (λj=>j) (λb hb=>⟨hb,rfl⟩) bh (by
       intro o j O e' z;obtain⟨q1,_⟩:=bi o j O;subst q1;exact⟨e',z,rfl,rfl,rfl⟩) 9 x.2 e.2 g6).1
      have hr:=hρ j bt g1 x g4;refine⟨(x.1 && X j,x.2),by rw[ba,g4];rfl,hr,?_,?_⟩
      .simp only[Qr6];rw[<-an.1]
      .simp only[Qs6];rw[<-an.2]
     ·
      have aa:An H0 j=true:=by
       rcases q2 with h|h
       .exact h
       .have h5:=am (σ j) ⟨by rw[hσge j h.1];omega,by rw[hσge j h.1];show nx+(j - k)<nx+cnt;omega⟩;rw[h5] at G;cases G
      have bb:=bd j aa (λj' a b=>Z j' a b);obtain⟨e0,ad⟩:=aj j aa;have g4:=ay j e0 ad bb;have hr:=hρ j bt cx e0 g4
      have:=hS j e0 ad
      rw[G] at this;obtain rfl:=Aw this;refine⟨(e0.1 && X j,e0.2),by rw[ba,g4];rfl,hr,?_,?_⟩
      .simp only[Qr6]
      .simp only[Qs6]
    have aq: ∀n e' l,S'.h n=some e'->S'.ρ n=some l->(∃j x,n=σ j/\S1.h j=some x/\e'.1=x.1/\S1.ρ j=some l/\(k<=j->x.1=true)/\DD j/\kx j=some j/\e'.2.isView=x.2.isView)\/(S.h n=some e'/\S.ρ n=some l/\ ∀j,An H0 j=true->n≠σ j):=by
     intro n e' l z hl;rcases ah n e' z with ⟨j,e,rfl,G,Z,rfl⟩|⟨G,Z⟩
     .obtain⟨g0,g1,g2,g3,x,g4,g5,g6⟩:=ag j e G;have hr:=hρ j g0 g1 x g4;refine .inl ⟨j,x,rfl,g4,g5,by rw[<-hr];exact hl,?_,g0,g3,?_⟩
      .intro cd;rcases g2 with g2|g2
       .omega
       .rw[<-g5];exact g2.2
      .have hv:(e.2.ren σ).isView=e.2.isView:=by cases e.2<;>rfl
       show (e.2.ren σ).isView=_;rw[hv];exact Oj g6
     .by_cases hn: ∃j,An H0 j=true/\n=σ j
      .obtain⟨j,aa,rfl⟩:=hn;have bb:=bd j aa (λj' a b=>Z j' a b);obtain⟨e0,ad⟩:=aj j aa;have g4:=ay j e0 ad bb;have au:=ao j aa;have hr:=hρ j (.inl aa) (by omega) e0 g4
       have:=hS j e0 ad
       rw[G] at this;obtain rfl:=Aw this;exact .inl ⟨j,e0,rfl,g4,rfl,by rw[<-hr];exact hl,λh=>by omega,.inl aa,bc j aa,by cases e0.2<;>rfl⟩
      .have bz: ∀j,An H0 j=true->n≠σ j:=λj O h=>hn ⟨j,O,h⟩
       refine .inr ⟨G,?_,bz⟩;have bx: ¬Fr nx cnt n:=by
        intro a9
        have:=am n a9
        rw[this] at G;cases G
       have hρo:S'.ρ n=S.ρ n:=by
        simp only[S'];rw[Ad (by intro h;exact bx ⟨h.1,h.2⟩)]
       rw[<-hρo];exact hl
    have co:Wf C S':=by
     refine⟨hc.wf.os.trans hW.os,hc.wf.tape.trans hW.tape,hc.wf.output.trans hW.output,BR hW.dr hc.wf.dr,BR hW.size hc.wf.size,?_,λb hb=>ab.ok0 b (hW.ok0 b hb),?_,ab.oks,?_,?_,?_,hW.gl⟩
     .intro b hb hM;have c3: ¬M0 b:=by
       rintro⟨j,e,l,G,Z,h3,h4⟩
       have:=(hW.loc _ _ l (hS j e G) h3).2
       rw[show (e.1,e.2.ren σ).1=true from Z] at this;simp only[BF] at this;rcases this.2 with h5|h5
       .omega
       .exact hM (h4▸h5)
      exact (av b (E8 hb hW.size) c3).trans (hW.keep b hb hM)
     .intro b hb;rcases ab.ok1 b hb with h|h|h
      .exact hW.ok1 b h
      .exact .inr (.inl (BR hW.size h))
      .obtain⟨j,e,l,G,Z,h3,h4⟩:=h
       have:=(hW.loc _ _ l (hS j e G) h3).2
       rw[show (e.1,e.2.ren σ).1=true from Z] at this;simp only[BF] at this;rw[<-h4];exact .inr this.2
     .intro n e' z;rcases ah n e' z with ⟨j,e,rfl,G,Z,rfl⟩|⟨G,Z⟩
      .obtain⟨g0,g1,g2,g3,x,g4,g5,g6⟩:=ag j e G;have an:=ab.obj j (x.1 && X j,x.2) (by rw[ba,g4];rfl);have hr:=hρ j g0 g1 x g4;have h5:=(Qti (S':=S') (τ:=σ) ab (λb hb=>⟨hb,rfl⟩) bh ax g6).2 _ (λ_ _=>rfl) an;rw[hr];exact h5
      .by_cases hn: ∃j,An H0 j=true/\n=σ j
       .obtain⟨j,aa,rfl⟩:=hn;have bb:=bd j aa (λj' a b=>Z j' a b);obtain⟨e0,ad⟩:=aj j aa;have g4:=ay j e0 ad bb;have au:=ao j aa;have hr:=hρ j (.inl aa) (by omega) e0 g4
        have:=hS j e0 ad
        rw[G] at this;obtain rfl:=Aw this;rw[hr];have an:=hc.wf.obj j e0 g4;have h7:=Qzw (S:=S1) (S':=S') (σ:=λn=>n) (τ:=σ) (l:=S1.ρ j) (λb hb=>⟨.inl hb,rfl⟩) (λ_ _=>rfl) e0.2 ?_ (by rw[Qwc];exact an)
        .exact h7
        .intro m hm;refine⟨λe' z=> ?_⟩;have c8:m<k:=eI _ hbH j e0 ad m hm;cases hkm:kx m with
         |some m'=>
          obtain⟨rfl,_⟩:=bi m m' hkm;obtain⟨x,q1,q2,q3,q4⟩:=ax m' m' hkm e' z;obtain⟨y,q5,q6⟩:=Vi q1;exact⟨y,q5,q2,by rw[q3,q6],by rw[q4,q6]⟩
         |none=>
          exfalso;have c2:An H0 m≠true:=λh=>by rw[bc m h] at hkm;cases hkm
          exact c2 (bu j e0 ad m hm)
       .have bz: ∀j,An H0 j=true->n≠σ j:=λj O h=>hn ⟨j,O,h⟩
        have bx: ¬Fr nx cnt n:=by
         intro a9
         have:=am n a9
         rw[this] at G;cases G
        have hρo:S'.ρ n=S.ρ n:=by
         simp only[S'];rw[Ad (by intro h;exact bx ⟨h.1,h.2⟩)]
        rw[hρo];refine Hh (X:=λm=> ¬Fr nx cnt m) ⟨bo,λo ho e' z=>be o ho e' z⟩ ?_ e'.2 (λm hm=>bj n e' G m hm) (hW.obj n e' G);intro lc cy;obtain⟨p1,p2⟩:=a8 n e' lc G cy bz;exact av lc.b p1 p2
     .intro n e' l z hl;rcases aq n e' l z hl with ⟨j,x,rfl,g4,g5,g6,g7,g8,cj,g9⟩|⟨G,Z,h3⟩
      .have cu:X j=true:=by simp only[X,cj];rfl
       have ac:=ab.loc j (x.1 && X j,x.2) l (by rw[ba,g4];rfl) g6;rw[cu,F1] at ac;refine⟨ac.1,?_⟩;rw[g5];cases hm:x.1 with
       |false=>
        have h9:=ac.2;simp only[hm] at h9;simp only[CN,Cu] at h9⊢;rcases h9 with h9|h9
        .exact .inl h9
        .refine .inr ?_;rw[g9];exact h9
       |true=>
        have h9:=ac.2;simp only[hm,BF] at h9⊢;refine⟨h9.1,?_⟩;rcases h9.2 with bp|bp
        .exact .inl (BR hW.size bp)
        .obtain⟨j',e0,l0,p1,p2,p3,p4⟩:=bp
         have:=(hW.loc _ _ l0 (hS j' e0 p1) p3).2
         rw[show (e0.1,e0.2.ren σ).1=true from p2] at this;simp only[BF] at this;rw[<-p4];exact this.2
      .obtain⟨p1,p2⟩:=hW.loc n e' l G Z;obtain⟨p3,p4⟩:=a8 n e' l G Z h3;refine⟨E8 p1 hc.wf.size,?_⟩;cases hm:e'.1 with
       |false=>
        rw[hm] at p2;simp only[CN,Cu] at p2⊢;exact p2.imp (λh=>ab.ok0 _ h) id
       |true=>
        rw[hm] at p2;simp only[BF] at p2⊢;refine⟨λc4=> ?_,p2.2⟩;rcases ab.ok1 _ c4 with h|h|h
        .exact p2.1 h
        .have h:S.w.heap.size<=l.b:=h;omega
        .exact p4 h
     ·
      have bm: ∀j x l n' e2 l',S1.h j=some x->S1.ρ j=some l->(k<=j->x.1=true)->DD j->S.h n'=some e2->S.ρ n'=some l'->(∀i,An H0 i=true->n'≠σ i)->l.b=l'.b->(x.1||e2.1)=true->False:=by
       intro j x l n' e2 l' g1 g2 g3 g4 p1 p2 p3 af ak;obtain⟨q1,q2⟩:=a8 n' e2 l' p1 p2 p3;by_cases au:j<k
       .have aa:An H0 j=true:=g4.resolve_right (by omega);obtain⟨e0,r1,r2,_,_⟩:=hc.pre j au x g1;have hρj:S.ρ (σ j)=some l:=by rw[<-r2|>λh=>show S1.ρ j=S.ρ (σ j) from h];exact g2
        have c5:(e0.1||e2.1)=true:=by
         cases he2:e2.1 with
         |true=>simp
         |false=>
          rw[he2,JT] at ak;have ac:=(hc.wf.loc j x l g1 g2).2;rw[ak] at ac;simp only[BF] at ac;rcases ac.2 with h|h
          .have h:S.w.heap.size<=l.b:=h;omega
          .exact absurd (af▸h) q2
        exact p3 j aa (hW.inj _ _ _ _ l' l p1 (hS j e0 r1) p2 hρj af.symm (by rw[Bool.or_comm];exact c5))
       .have ac:=(hc.wf.loc j x l g1 g2).2;rw[g3 (by omega)] at ac;simp only[BF] at ac;rcases ac.2 with h|h
        .have h:S.w.heap.size<=l.b:=h;omega
        .exact q2 (af▸h)
      intro n n' e1 e2 l l' he z hl bw af ak;rcases aq n e1 l he hl with ⟨j,x,rfl,g1,g2,g3,g4,g5,_⟩|⟨g1,g2,g3⟩<;>rcases aq n' e2 l' z bw with ⟨j',x',rfl,p1,p2,p3,p4,p5,_⟩|⟨p1,p2,p3⟩
      .have cr:=hc.wf.inj j j' x x' l l' g1 p1 g3 p3 af (by rw[<-g2,<-p2];exact ak);rw[cr]
      .exact (bm j x l n' e2 l' g1 g3 g4 g5 p1 p2 p3 af (by rw[<-g2];exact ak)).elim
      .exact (bm j' x' l' n e1 l p1 p3 p4 p5 g1 g2 g3 af.symm (by rw[<-p2,Bool.or_comm];exact ak)).elim
      .exact hW.inj _ _ _ _ l l' g1 p1 g2 p2 af ak
    have ct:Aa S' (r.ren σ) v:=Qrr (S':=S') (τ:=σ) ab (λb hb=>⟨hb,rfl⟩) bh ax 9 (Dr xs) r v hcv (Hu (Hg S1 X) _ _ (λ_ _=>trivial) br);exact cb v S' co rfl ⟨bo,λo ho e' z=>be o ho e' z⟩ (ck σ S' v ct)
 intro e a w he;cases e<;>simp only[FU] at he<;>simp only[bodyPost]
 .obtain⟨s,hs,hc⟩:=he;obtain⟨s',bq,b0⟩:=hQ C0 _ a w s rfl hc (.inl hs);exact fin s' a w b0 bq
 .obtain⟨s,hs,_⟩:=he;exact (cm _ _ hs).elim
 .obtain⟨s,hs,hc⟩:=he;obtain⟨s',bq,b0⟩:=hQ C0 _ a w s rfl hc (.inr hs);exact fin s' a w b0 bq
def TX{P:Program}{z:List ResultVar}{k cnt:Nat}{H0 H1:Ar}{klB exB:Nat->Bool}{R:AV->Prop}: ∀(C:AT) (N:Nat) (a:Act) (w:World) (s:Az),C.n0=k->BL C N s a w->
 Nm P z k cnt H0 H1 klB exB R .normal s\/Nm P z k cnt H0 H1 klB exB R .ret s-> ∃s',BL C N s' a w/\HG P z k cnt H0 H1 klB exB R s':=by
 rintro C N a w s _ G (h|h)<;>exact⟨s,G,h⟩
def TY{P:Program}{z:List ResultVar}{k cnt:Nat}{H0 H1:Ar}{klB exB:Nat->Bool}{R:AV->Prop}: ∀(C:AT) (N:Nat) (a:Act) (w:World) (s:Az),C.n0=k->BL C N s a w->
 AG P z k cnt H0 H1 klB exB R .normal s\/AG P z k cnt H0 H1 klB exB R .ret s-> ∃s',BL C N s' a w/\HG P z k cnt H0 H1 klB exB R s':=by
 rintro C N a w s hk Z (h|h)<;>obtain⟨F,π,s',G,O,h3,Q⟩:=h<;>exact⟨s',QL (sW F Z) G O (by omega) (by omega),Q⟩
def CV(h:Nat->Option Ap)(σ:Nat->Nat):Ar->Prop
 |[]=>True
 |(j,(z,e))::r=>h (σ j)=some (z,e.ren σ)/\CV h σ r
def lL{h:Nat->Option Ap}{σ:Nat->Nat}: ∀{H:Ar},CV h σ H-> ∀j e,(j,e)∈H->h (σ j)=some (e.1,e.2.ren σ)
 |[],_,j,e,z=>by cases z
 |(i,(Q,x))::r,hH,j,e,z=>by
  obtain⟨G,O⟩:=hH;rcases Bx.1 z with z|z
  .cases z;exact G
  .exact lL O j e z
structure mZ(H0:Ar)(klB:Nat->Bool)(τ:Nat->Nat)(nx:Nat)(U KL:List Nat):Prop where
 inj: ∀i j,An H0 i=true->An H0 j=true->τ i=τ j->i=j
 lt: ∀j,An H0 j=true->τ j<nx
 u: ∀j,An H0 j=true->τ j∈U
 k1: ∀n∈KL,∃j,An H0 j=true/\klB j=true/\n=τ j
 k2: ∀j,An H0 j=true->klB j=true->τ j∈KL
def AE{A:Type}(ca:A->List AV)(H0:A->Ar)(k:Nat)(pre:A->Prop)(klB:Nat->Bool)(r0:A->AV)(H1:A->Ar)(cnt:Nat):Ax:=λz h nx K=>
 ∃(a:A) (τ:Nat->Nat) (U KL:List Nat),pre a/\z=AU (Di τ k nx) (ca a)/\CV h (Di τ k nx) (H0 a)/\mZ (H0 a) klB τ nx U KL/\
  K ((r0 a).ren (Di τ k nx)) {use:=U,kill:=KL,new:=B1 (Di τ k nx) (H1 a),cnt:=cnt}
def Cx(H0:Ar):Ar->Prop
 |[]=>True
 |(_,(_,e))::r=>(∀m∈e.nms,An H0 m=true)/\Cx H0 r
def Qo2{H0:Ar}: ∀{H:Ar},Cx H0 H-> ∀j e,(j,e)∈H-> ∀m∈e.2.nms,An H0 m=true
 |[],_,j,e,z=>by cases z
 |(i,(Q,x))::r,hH,j,e,z=>by
  obtain⟨G,O⟩:=hH;rcases Bx.1 z with z|z
  .cases z;exact G
  .exact Qo2 O j e z
def Qk(os:List Nat)(j:Nat):Nat:=os.getD j 0
def eE:List Nat->Bool
 |[]=>true
 |x::r=> !r.contains x && eE r
def Qjj: ∀(os:List Nat),eE os=true->os.Nodup
 |[],_=>List.nodup_nil
 |x::r,h=>by
  simp only[eE,AO,JP] at h;refine Hn.2 ⟨λz=> ?_,Qjj r h.2⟩;rw[G6.2 z] at h;cases h.1
def ZF(nx:Nat):List Nat->Bool
 |[]=>true
 |x::r=>Nat.blt x nx && ZF nx r
def Qvm{nx:Nat}: ∀(os:List Nat),ZF nx os=true-> ∀o∈os,o<nx
 |[],_,o,h=>by cases h
 |x::r,h,o,z=>by
  simp only[ZF,AO,H5] at h;rcases Bx.1 z with rfl|z
  .exact h.1
  .exact Qvm r h.2 o z
def VE(klB:Nat->Bool):List Nat->Nat->List Nat
 |[],_=>[]
 |x::r,j=>bif klB j then x::VE klB r (j+1) else VE klB r (j+1)
def Qx4{klB:Nat->Bool}: ∀(os:List Nat) (j n:Nat),n∈VE klB os j↔ ∃i,i<os.length/\klB (j+i)=true/\os[i]? =some n
 |[],j,n=>by simp[VE]
 |x::r,j,n=>by
  have ih:=Qx4 (klB:=klB) r (j+1) n;simp only[VE];cases hq:klB j
  .simp only[Ct];rw[ih];constructor
   .rintro⟨i,O,z,G⟩;exact⟨i+1,by simp;omega,by rw[show j+(i+1)=j+1+i by omega];exact z,by simpa using G⟩
   .rintro⟨i,O,z,G⟩;cases i with
    |zero=>rw[Xd,hq] at z;cases z
    |succ i=>exact⟨i,by simp at O;omega,by rw[show j+1+i=j+(i+1) by omega];exact z,by simpa using G⟩
  .simp only[C3,Bx];rw[ih];constructor
   .rintro (rfl|⟨i,O,z,G⟩)
    .exact⟨0,by simp,hq,by simp⟩
    .exact⟨i+1,by simp;omega,by rw[show j+(i+1)=j+1+i by omega];exact z,by simpa using G⟩
   .rintro⟨i,O,z,G⟩;cases i with
    |zero=>left;simpa using G.symm
    |succ i=>right;exact⟨i,by simp at O;omega,by rw[show j+1+i=j+(i+1) by omega];exact z,by simpa using G⟩
def Yi{H0:Ar}{klB:Nat->Bool}{os:List Nat}{nx:Nat}(hd:eE os=true)(hl:ZF nx os=true)(hH: ∀j,An H0 j=true↔j<os.length):mZ H0 klB (Qk os) nx os (VE klB os 0):=by
 have Z:=Qjj os hd;have O: ∀j,j<os.length->os[j]? =some (Qk os j):=by
  intro j z;simp[Qk,z]
 have hm: ∀j,j<os.length->Qk os j∈os:=λj z=>AP (O j z)
 refine⟨λi j hi z h=> ?_,λj z=>Qvm os hl _ (hm j ((hH j).1 z)),λj z=>hm j ((hH j).1 z),λn hn=> ?_,λj z hk=> ?_⟩
 .have G:=O i ((hH i).1 hi);have Q:=O j ((hH j).1 z);rw[h] at G;exact (List.getElem?_inj ((hH i).1 hi) Z).1 (G.trans Q.symm)
 .obtain⟨i,G,Q,h3⟩:=(Qx4 os 0 n).1 hn;refine⟨i,(hH i).2 G,by simpa using Q,?_⟩;rw[O i G] at h3;exact (Aw h3).symm
 .exact (Qx4 os 0 _).2 ⟨j,(hH j).1 z,by simpa using hk,O j ((hH j).1 z)⟩
def AE.os{A:Type}{ca:A->List AV}{H0:A->Ar}{k:Nat}{pre:A->Prop}{klB:Nat->Bool}{r0:A->AV}{H1:A->Ar}{cnt:Nat}{args:List AV}{h:Nat->Option Ap}{nx:Nat}{K:Ah}(a:A)(os:List Nat)(z:pre a)
 (hH: ∀j,An (H0 a) j=true↔j<os.length)(hd:eE os=true)(Q:ZF nx os=true)
 (G:args=AU (Di (Qk os) k nx) (ca a)/\CV h (Di (Qk os) k nx) (H0 a))
 (O:K ((r0 a).ren (Di (Qk os) k nx)) {use:=os,kill:=VE klB os 0,new:=B1 (Di (Qk os) k nx) (H1 a),cnt:=cnt}):AE ca H0 k pre klB r0 H1 cnt args h nx K:=
 ⟨a,Qk os,os,VE klB os 0,z,G.1,G.2,Yi hd Q hH,O⟩
def mQ(G r2:Ax):Ax:=λz h nx K=>G z h nx K\/r2 z h nx K
def T3{P:Program}{g:Nat}{O r2:Ax}(Q:Ga P g O)(Z:Ga P g r2):Ga P g (mQ O r2):=by
 rintro z h nx K (G|G)
 .exact Q z h nx K G
 .exact Z z h nx K G
def Fc:List D->Bool
 |[]=>true
 |x::r=>x.sc && Fc r
def gK(K:D->Prop):Option Ap->Prop
 |some (true,.arr _ k rows)=>Ce Fc rows/\K (.sl false k rows)
 |_=>False
def mM(h:Nat->Option Ap)(K:D->Prop):AV->Prop
 | .im d=>d.scs=true/\K d
 | .own o=>gK K (h o)
 |_=>False
def IH(h:Nat->Option Ap):List AV->(List D->Prop)->Prop
 |[],K=>K []
 |x::r,K=>mM h (λd=>IH h r λds=>K (d::ds)) x
def Sj(h:Nat->Option Ap)(K:D->Prop):AV->Prop
 | .im d=>d.scs=true/\K d
 | .own o=>gK K (h o)
 | .agg cs=>IH h cs λds=>K (.agg ds)
 |_=>False
def Kg(h:Nat->Option Ap):List AV->(List D->Prop)->Prop
 |[],K=>K []
 |x::r,K=>Sj h (λd=>Kg h r λds=>K (d::ds)) x
def Oz(h:Nat->Option Ap)(K:D->Prop):AV->Prop
 | .im d=>d.scs=true/\K d
 | .own o=>gK K (h o)
 | .agg cs=>IH h cs λds=>K (.agg ds)
 | .tup cs=>Kg h cs λds=>K (.tup ds)
 |_=>False
def M3(R:D->Prop)(s:Az):Option (List AV)->Prop
 |some xs=>Oz (hget s.h) R (Dr xs)
 |none=>False
def Kz(P:Program)(z:List ResultVar)(R:D->Prop)(s:Az):Prop:=M3 R s (A7 (JF P s) z)
def ZE(P:Program)(z:List ResultVar)(R:D->Prop):Cq
 | .normal,s=>Kz P z R s
 | .ret,s=>Kz P z R s
 | .exit _,_=>False
def M7: ∀(r:List D),Fc r=true->r.all D.sc=true
 |[],_=>rfl
 |x::r,h=>by
  simp only[Fc,AO] at h;simp[h.1,M7 r h.2]
def Ky{ok ok':Nat->Prop}{hp hp':Nat->Option Obj}: ∀(ds:List D) (vs:List Value),ds.all D.sc=true->rdp ok hp ds vs->rdp ok' hp' ds vs
 |[],_,_,_=>by simp only[rdp]
 |d::ds,vs,h,hd=>by
  simp only[rdp,KP,AO] at hd h⊢;obtain⟨v,r,rfl,z,G⟩:=hd;exact⟨v,r,rfl,Mq h.1 z,Ky ds r h.2 G⟩
def TQ{ok ok':Nat->Prop}{hp hp':Nat->Option Obj}{k:Nat}: ∀(z:List (List D)) (vs:List Value),Ce Fc z->rdr ok hp k z vs->rdr ok' hp' k z vs
 |[],_,_,_=>by simp only[rdr]
 |r::z,vs,h,hd=>by
  simp only[rdr] at hd⊢;exact⟨hd.1,Ky r vs (M7 r (h r (Cb ..))) hd.2.1,TQ z _ (λx G=>h x (BZ _ G)) hd.2.2⟩
section
variable {C:AT}{S:Au}
def Tx(C:AT)(S:Au)(b:Nat):Prop:=C.w.heap.size<=b/\b<S.w.heap.size/\ ¬S.ok b
def Qzs(hM: ∀b,¬C.M b)(hW:Wf C S){K:D->Prop}{o:Nat}{v:Value}(O:gK K (S.h o))(G:Aa S (.own o) v): ∃d,K d/\rd (Tx C S) S.hp d v:=by
 cases he:S.h o with
 |none=>rw[he] at O;exact O.elim
 |some e=>
  obtain⟨mu,e⟩:=e;rw[he] at O;cases mu with
  |false=>cases e<;>exact O.elim
  |true=>
  cases e with
  |arr T k rows=>
   simp only[gK] at O;refine⟨_,O.2,?_⟩;have z:=hW.obj o _ he;simp only[Aa] at G;obtain⟨_,G⟩:=G;have G:=G _ he;simp only[Al] at z;cases hl:S.ρ o with
   |none=>
    rw[hl] at G z;simp only[rd];exact .inl ⟨.inl G,z.2⟩
   |some l=>
    rw[hl] at G z;obtain⟨h0,Z,vs,h2,h3,h4⟩:=z;obtain⟨q1,Q⟩:=hW.loc o _ l he hl;simp only[BF] at Q;simp only[rd];refine .inr ⟨l.b,l.p,l.cap,vs,T,(0,0),G,by simp,Z,h0,⟨?_,q1,Q.1⟩,h2,TQ rows _ O.1 h4⟩;rcases Q.2 with h|h
    .exact h
    .exact absurd h (hM _)
  |_=>exact O.elim
def Si(O: ∀b,¬C.M b)(hW:Wf C S){K:D->Prop}{x:AV}{v:Value}(z:mM S.h K x)(G:Aa S x v): ∃d,K d/\rd (Tx C S) S.hp d v:=by
 cases x with
 |im d=>
  simp only[mM] at z;simp only[Aa] at G;exact⟨d,z.2,Wm z.1 G⟩
 |own o=>
  simp only[mM] at z;exact Qzs O hW z G
 |_=>exact z.elim
def Qvx(O: ∀b,¬C.M b)(hW:Wf C S): ∀(xs:List AV) (K:List D->Prop) (vs:List Value),IH S.h xs K->AJ S xs vs-> ∃ds,K ds/\rdl (Tx C S) S.hp ds vs
 |[],K,vs,G,z=>by
  simp only[IH] at G;simp only[AJ] at z;exact⟨[],G,by simp only[rdl];exact z⟩
 |x::xs,K,vs,G,z=>by
  simp only[IH] at G;simp only[AJ] at z;obtain⟨v,r,rfl,Q,Z⟩:=z;obtain⟨d,h3,h4⟩:=Si O hW G Q;obtain⟨ds,h5,h6⟩:=Qvx O hW xs _ r h3 Z;exact⟨d::ds,h5,by simp only[rdl];exact⟨v,r,rfl,h4,h6⟩⟩
def zC(O: ∀b,¬C.M b)(hW:Wf C S){K:D->Prop}{x:AV}{v:Value}(z:Sj S.h K x)(G:Aa S x v): ∃d,K d/\rd (Tx C S) S.hp d v:=by
 cases x with
 |im d=>
  simp only[Sj] at z;simp only[Aa] at G;exact⟨d,z.2,Wm z.1 G⟩
 |own o=>
  simp only[Sj] at z;exact Qzs O hW z G
 |agg cs=>
  simp only[Sj] at z;simp only[Aa] at G;obtain⟨vs,rfl,Q⟩:=G;obtain⟨ds,Z,h3⟩:=Qvx O hW cs _ _ z Q;exact⟨_,Z,by simp only[rd];exact⟨vs,rfl,h3⟩⟩
 |_=>exact z.elim
def Qvn(O: ∀b,¬C.M b)(hW:Wf C S): ∀(xs:List AV) (K:List D->Prop) (vs:List Value),Kg S.h xs K->AJ S xs vs-> ∃ds,K ds/\rdl (Tx C S) S.hp ds vs
 |[],K,vs,G,z=>by
  simp only[Kg] at G;simp only[AJ] at z;exact⟨[],G,by simp only[rdl];exact z⟩
 |x::xs,K,vs,G,z=>by
  simp only[Kg] at G;simp only[AJ] at z;obtain⟨v,r,rfl,Q,Z⟩:=z;obtain⟨d,h3,h4⟩:=zC O hW G Q;obtain⟨ds,h5,h6⟩:=Qvn O hW xs _ r h3 Z;exact⟨d::ds,h5,by simp only[rdl];exact⟨v,r,rfl,h4,h6⟩⟩
def Qzf(O: ∀b,¬C.M b)(hW:Wf C S){K:D->Prop}{x:AV}{v:Value}(z:Oz S.h K x)(G:Aa S x v): ∃d,K d/\rd (Tx C S) S.hp d v:=by
 cases x with
 |tup cs=>
  simp only[Oz] at z;simp only[Aa] at G;obtain⟨vs,rfl,Q⟩:=G;obtain⟨ds,Z,h3⟩:=Qvn O hW cs _ _ z Q;exact⟨_,Z,by simp only[rd];exact⟨vs,rfl,h3⟩⟩
 |im d=>exact zC (x:= .im d) O hW (by simpa only[Oz,Sj] using z) G
 |own o=>exact zC (x:= .own o) O hW (by simpa only[Oz,Sj] using z) G
 |agg cs=>exact zC (x:= .agg cs) O hW (by simpa only[Oz,Sj] using z) G
 |_=>exact z.elim
end
def WR(f:AV->Option D):Option Ap->Option D
 |some (_,.arr _ k rows)=>some (.sl false k rows)
 |some (_,.arrA _ k rows)=>(A7 (A7 f) rows).map (.sl false k)
 |_=>none
def Lb:Option Ap->Option D
 |some (_,.map G z)=>some (.mp G z)
 |_=>none
def Z8(f:AV->Option D)(off:Nat):Option Ap->Option (List D)
 |some (_,.cells _ cs)=>A7 f (cs.drop off)
 |some (_,.view cs)=>some (cs.drop off)
 |_=>none
def Od(g:FuncId):Option (List D)->Option (List D)->Option D
 |some a,some c=>some (.fn g a c)
 |some _,none=>none
 |none,_=>none
def bk(h:Nat->Option Ap):Nat->AV->Option D
 |0,_=>none
 |_+1,.im d=>some d
 |n+1,.agg cs=>(A7 (bk h n) cs).map .agg
 |n+1,.tup cs=>(A7 (bk h n) cs).map .tup
 |n+1,.own o=>WR (bk h n) (h o)
 |_+1,.mp o=>Lb (h o)
 |n+1,.ptr o off=>(Z8 (bk h n) off (h o)).map .ref
 |n+1,.clo f a c=>Od f (A7 (bk h n) a) (A7 (bk h n) c)
 |_+1,.any=>none
 |_+1,.eptr _ _ _=>none
 |_+1,.ch _=>none
 |_+1,.it _=>none
 |_+1,.osl _ _ _=>none
def IV(ds:Option (List D)):Option PK:=ds.map .ptr
def Er(d:Option D):Option PK:=d.map .val
def Lc(off:Nat):Option (List D)->Option (List D)
 |some r=>some (r.drop off)
 |none=>none
def Xl(i off:Nat):Option Ap->Option (List D)
 |some (_,.arr _ _ rows)=>Lc off rows[i]?
 |_=>none
def EL(h:Nat->Option Ap):AV->Option PK
 | .im d=>some (F5 d)
 | .ptr o off=>IV (Z8 (bk h 8) off (h o))
 | .own o=>Er (bk h 9 (.own o))
 | .mp o=>Er (bk h 9 (.mp o))
 | .agg cs=>Er (bk h 9 (.agg cs))
 | .tup cs=>Er (bk h 9 (.tup cs))
 | .clo f a c=>Er (bk h 9 (.clo f a c))
 | .any=>none
 | .eptr o i off=>IV (Xl i off (h o))
 | .ch _=>none
 | .it _=>none
 | .osl _ _ _=>none
def GE:Option PK->Option (List PK)->Option (List PK)
 |some p,some z=>some (p::z)
 |some _,none=>none
 |none,_=>none
def CK(h:Nat->Option Ap):List AV->Option (List PK)
 |[]=>some []
 |x::r=>GE (EL h x) (CK h r)
def HF(f:AV->List Nat):Option Ap->List Nat
 |some (_,.cells _ cs)=>cs.flatMap f
 |some (_,.arrA _ _ rows)=>rows.flatMap λr=>r.flatMap f
 |_=>[]
def rch(h:Nat->Option Ap):Nat->AV->List Nat
 |0,_=>[]
 |n+1,.agg cs=>cs.flatMap (rch h n)
 |n+1,.tup cs=>cs.flatMap (rch h n)
 |n+1,.own o=>o::HF (rch h n) (h o)
 |_+1,.mp o=>[o]
 |n+1,.ptr o _=>o::HF (rch h n) (h o)
 |n+1,.clo _ a c=>a.flatMap (rch h n)++c.flatMap (rch h n)
 |_+1,.eptr o _ _=>[o]
 |_+1,_=>[]
def Dz(h:Nat->Option Ap)(xs:List AV):List Nat:=xs.flatMap (rch h 9)
def Au.froz(S:Au):Au:=⟨S.ρ,λb=>S.ok b\/ ∃o e l,S.h o=some e/\S.ρ o=some l/\l.b=b,λo=>(S.h o).map λe=>(false,e.2),S.w⟩
def kJ{S:Au}{o:Nat}{e':Ap}(h:S.froz.h o=some e'): ∃e,S.h o=some e/\e'=(false,e.2):=by
 simp only[Au.froz,CX] at h;obtain⟨e,z,rfl⟩:=h;exact⟨e,z,rfl⟩
def eC(S:Au):B3 (λ_=>True) S S.froz:=by
 refine⟨λb O=>⟨.inl O,rfl⟩,λo _ e' z=> ?_⟩;obtain⟨e,G,rfl⟩:=kJ z;exact⟨e,G,rfl,rfl,rfl⟩
def aD(S:Au):AT:=⟨S.w,λ_=>False,S.froz.ok,0,λ_=>none,λ_=>none,[]⟩
def lR{C:AT}{S:Au}(hW:Wf C S):Wf (aD S) S.froz:=by
 refine⟨rfl,rfl,rfl,AF _,AF _,λ_ _ _=>rfl,λ_ G=>G,λ_ G=> .inl G,?_,?_,?_,?_,hW.gp.mono λb o G ho=>⟨⟨.inl G,λh=>h.elim⟩,ho⟩⟩
 .rintro b (G|⟨o,e,l,O,Z,rfl⟩)
  .exact hW.oks b G
  .exact (hW.loc o e l O Z).1
 .intro o e' z;obtain⟨e,O,rfl⟩:=kJ z;exact Hh (eC S) (λ_ _=>rfl) _ (λ_ _=>trivial) (hW.obj o e O)
 .intro o e' l z Q;obtain⟨e,O,rfl⟩:=kJ z;exact⟨(hW.loc o e l O Q).1,.inl (.inr ⟨o,e,l,O,Q,rfl⟩)⟩
 .intro o o' e e' l l' he z _ _ _ hf;obtain⟨x,_,rfl⟩:=kJ he;obtain⟨x',_,rfl⟩:=kJ z;simp at hf
section
variable {C:AT}{S:Au}{h:Nat->Option Ap}
def Qql(hW:Wf C S){f:AV->Option D}{g:AV->List Nat}(hf: ∀x d v,(∀m∈g x,S.h m=h m)->f x=some d->Aa S x v->rd S.froz.ok S.froz.hp d v)
 {o off:Nat}{ds:List D}{v:Value}(h1:S.h o=h o)(hg: ∀m∈HF g (h o),S.h m=h m)(hd:Z8 f off (h o)=some ds)(G:Aa S (.ptr o off) v):
 ∃b p vs T fr,v= .pointer (some ⟨b,p,none⟩)/\S.froz.ok b/\S.froz.hp b=some (.cells vs T fr)/\rdp S.froz.ok S.froz.hp ds (vs.toList.drop p):=by
 have hL: ∀(cs:List AV) (ds:List D) (vs:List Value),(∀m∈cs.flatMap g,S.h m=h m)->A7 f cs=some ds->Cy S cs vs->rdp S.froz.ok S.froz.hp ds vs:=by
  intro cs;induction cs with
  |nil=>
   intro ds vs _ hd _;simp only[A7,AI] at hd;subst hd;simp only[rdp]
  |cons x cs ih=>
   intro ds vs hh hd G;simp only[A7] at hd;simp only[Cy] at G;obtain⟨v,r,rfl,h1,h2⟩:=G;split at hd
   .rename_i y ys hy aa;obtain rfl:=Aw hd;simp only[rdp];exact⟨v,r,rfl,hf x y v (λm Q=>hh m (by rw[EQ];exact G7 _ Q)) hy h1,ih ys r (λm Q=>hh m (by rw[EQ];exact PZ _ Q)) aa h2⟩
   .cases hd
 simp only[Aa] at G;obtain⟨_,G⟩:=G;rw[<-h1] at hd hg;cases he:S.h o with
 |none=>rw[he] at hd;cases hd
 |some e=>
  obtain⟨l,hl,rfl⟩:=G e he;have Z:S.froz.ok l.b:= .inr ⟨o,e,l,he,hl,rfl⟩;obtain⟨mu,e⟩:=e;rw[he] at hd hg;have z:=hW.obj o _ he;rw[hl] at z;cases e with
  |cells T cs=>
   simp only[Z8] at hd;simp only[Al] at z;obtain⟨lc,vs,h3,h4,h5,h6⟩:=z;cases h3;refine⟨l.b,l.p+off,vs,T,(0,0),rfl,Z,h5,?_⟩;rw[h4,Fj];simp only[HF] at hg;rcases Zfs off cs.length with O|O
   .refine hL _ _ _ (λm Q=>hg m ?_) hd (jS off cs _ (Wx _ _ h6) O);obtain⟨x,k1,k2⟩:=V5.1 Q;exact V5.2 ⟨x,ZdT k1,k2⟩
   .rw[CO O] at hd;simp only[A7,AI] at hd;subst hd;simp only[rdp]
  |view cs=>
   simp only[Z8,AI] at hd;subst hd;simp only[Al] at z;obtain⟨lc,vs,T,fr,h3,h5,h6⟩:=z;cases h3;refine⟨l.b,l.p+off,vs,T,fr,rfl,Z,h5,?_⟩;have O:=Vm (eC S).ok _ _ h6;rw[<-DX];rcases Zfs off cs.length with h|h
   .exact PQ off cs _ O h
   .rw[CO h];simp only[rdp]
  |_=>cases hd
def ZY(hW:Wf C S): ∀(n:Nat) (x:AV) (d:D) (v:Value),(∀m∈rch h n x,S.h m=h m)->bk h n x=some d->Aa S x v->rd S.froz.ok S.froz.hp d v:=by
 intro n;induction n with
 |zero=>intro x d v _ hd;simp[bk] at hd
 |succ n ih=>
  have Z: ∀(cs:List AV) (ds:List D) (vs:List Value),(∀m∈cs.flatMap (rch h n),S.h m=h m)->A7 (bk h n) cs=some ds->AJ S cs vs->rdl S.froz.ok S.froz.hp ds vs:=by
   intro cs;induction cs with
   |nil=>
    intro ds vs _ hd z;simp only[A7,AI] at hd;subst hd;simpa only[AJ,rdl] using z
   |cons x cs ac=>
    intro ds vs O hd z;simp only[A7] at hd;simp only[AJ] at z;obtain⟨v,r,rfl,h1,h2⟩:=z;split at hd
    .rename_i y ys hy ab;obtain rfl:=Aw hd;simp only[rdl];exact⟨v,r,rfl,ih x y v (λm Q=>O m (by rw[EQ];exact G7 _ Q)) hy h1,ac ys r (λm Q=>O m (by rw[EQ];exact PZ _ Q)) ab h2⟩
    .cases hd
  have hp: ∀(cs:List AV) (ds:List D) (vs:List Value),(∀m∈cs.flatMap (rch h n),S.h m=h m)->A7 (bk h n) cs=some ds->Cy S cs vs->rdp S.froz.ok S.froz.hp ds vs:=by
   intro cs;induction cs with
   |nil=>
    intro ds vs _ hd z;simp only[A7,AI] at hd;subst hd;simp only[rdp]
   |cons x cs ac=>
    intro ds vs O hd z;simp only[A7] at hd;simp only[Cy] at z;obtain⟨v,r,rfl,h1,h2⟩:=z;split at hd
    .rename_i y ys hy ab;obtain rfl:=Aw hd;simp only[rdp];exact⟨v,r,rfl,ih x y v (λm Q=>O m (by rw[EQ];exact G7 _ Q)) hy h1,ac ys r (λm Q=>O m (by rw[EQ];exact PZ _ Q)) ab h2⟩
    .cases hd
  have hr: ∀(k:Nat) (rs:List (List AV)) (ds:List (List D)) (vs:List Value),(∀m∈rs.flatMap (λr=>r.flatMap (rch h n)),S.h m=h m)->A7 (A7 (bk h n)) rs=some ds->BE S k rs vs->rdr S.froz.ok S.froz.hp k ds vs/\ds.length=rs.length:=by
   intro k rs;induction rs with
   |nil=>
    intro ds vs _ hd _;simp only[A7,AI] at hd;subst hd;exact⟨by simp only[rdr],rfl⟩
   |cons x rs ac=>
    intro ds vs O hd z;simp only[A7] at hd;simp only[BE] at z;split at hd
    .rename_i y ys hy ab;obtain rfl:=Aw hd;obtain⟨k1,k2⟩:=ac ys _ (λm Q=>O m (by rw[EQ];exact PZ _ Q)) ab z.2.2;refine⟨?_,by simp[k2]⟩;simp only[rdr];exact⟨(eA _ _ hy).trans z.1,hp x y _ (λm Q=>O m (by rw[EQ];exact G7 _ Q)) hy z.2.1,k1⟩
    .cases hd
  intro x d v O hd z;cases x with
  |im d'=>
   simp only[bk,AI] at hd;subst hd;simp only[Aa] at z;exact FL (eC S).ok _ _ z
  |agg cs=>
   simp only[bk,CX] at hd;obtain⟨ds,h1,rfl⟩:=hd;simp only[Aa] at z;obtain⟨vs,rfl,h2⟩:=z;simp only[rd];exact⟨vs,rfl,Z cs ds _ O h1 h2⟩
  |tup cs=>
   simp only[bk,CX] at hd;obtain⟨ds,h1,rfl⟩:=hd;simp only[Aa] at z;obtain⟨vs,rfl,h2⟩:=z;simp only[rd];exact⟨vs,rfl,Z cs ds _ O h1 h2⟩
  |own o=>
   simp only[rch,Bx] at O;have h1:=O o (.inl rfl);simp only[bk] at hd;simp only[Aa] at z;rw[<-h1] at hd O;cases he:S.h o with
   |none=>rw[he] at hd;cases hd
   |some e=>
    have z:=z.2 e he;have G:=hW.obj o _ he;obtain⟨mu,e⟩:=e;rw[he] at hd O;have ag: ∀l,S.ρ o=some l->S.froz.ok l.b:=λl Z=> .inr ⟨o,_,l,he,Z,rfl⟩
    have ah:=eC S;cases e with
    |arr T k rows=>
     simp only[WR,AI] at hd;subst hd;simp only[Al] at G;simp only[rd];cases Z:S.ρ o with
     |none=>rw[Z] at z G;exact .inl ⟨.inl z,G.2⟩
     |some l=>
      rw[Z] at z G;obtain⟨h0,h2,vs,h3,h4,h5⟩:=G;exact .inr ⟨l.b,l.p,l.cap,vs,T,(0,0),z,by simp,h2,h0,ag l Z,h3,Zp ah.ok _ _ _ h5⟩
    |arrA T k rows=>
     simp only[WR,CX] at hd;obtain⟨ds,hd,rfl⟩:=hd;simp only[Al] at G;simp only[rd];have aa:=eA _ _ hd;cases Z:S.ρ o with
     |none=>
      rw[Z] at z G;obtain⟨_,G⟩:=G;subst G;exact .inl ⟨.inl z,uE (by simpa using aa)⟩
     |some l=>
      rw[Z] at z G;obtain⟨h0,h2,vs,h3,h4,h5⟩:=G;obtain⟨k1,k2⟩:=hr k rows ds _ (λm Q=>O m (.inr (by simpa only[HF] using Q))) hd h5;simp only[Ag.len] at z;exact .inr ⟨l.b,l.p,l.cap,vs,T,(0,0),by rw[aa];exact z,by simp,by rw[aa];exact h2,by rw[aa];exact h0,ag l Z,h3,k1⟩
    |_=>cases hd
  |mp o=>
   have h1:=O o (by simp[rch]);simp only[bk] at hd;simp only[Aa] at z;rw[<-h1] at hd;cases he:S.h o with
   |none=>rw[he] at hd;cases hd
   |some e=>
    obtain⟨l,Z,rfl⟩:=z.2 e he;have G:=hW.obj o _ he;obtain⟨mu,e⟩:=e;rw[he] at hd;cases e with
    |map kt es=>
     simp only[Lb,AI] at hd;subst hd;rw[Z] at G;simp only[Al] at G;obtain⟨lc,af,ad,h2,h3,h4,h5,h6⟩:=G;cases h2;simp only[rd];exact⟨l.b,af,ad,rfl,h3,.inr ⟨o,_,l,he,Z,rfl⟩,h4,KA (eC S).ok _ _ h5,h6⟩
    |_=>cases hd
  |ptr o off=>
   simp only[rch,Bx] at O;simp only[bk,CX] at hd;obtain⟨ds,hd,rfl⟩:=hd;simp only[rd];exact Qql hW (g:=rch h n) (λx d v h1 h2 h3=>ih x d v h1 h2 h3) (O o (.inl rfl)) (λm Q=>O m (.inr Q)) hd z
  |clo f a c=>
   simp only[rch,Bp] at O;simp only[bk] at hd;cases ha:A7 (bk h n) a with
   |none=>rw[ha] at hd;cases hd
   |some da=>
    cases hcc:A7 (bk h n) c with
    |none=>rw[ha,hcc] at hd;cases hd
    |some dc=>
     rw[ha,hcc] at hd;simp only[Od,AI] at hd;subst hd;simp only[Aa] at z;obtain⟨va,vc,rfl,h3,h4⟩:=z;simp only[rd];exact⟨va,vc,rfl,Z a da _ (λm Q=>O m (.inl Q)) ha h3,Z c dc _ (λm Q=>O m (.inr Q)) hcc h4⟩
  |_=>simp[bk] at hd
def kQ(hW:Wf C S){x:AV}{p:PK}{v:Value}(O: ∀m∈rch h 9 x,S.h m=h m)(hp:Er (bk h 9 x)=some p)(G:Aa S x v):HK S.froz p v:=by
 simp only[Er,CX] at hp;obtain⟨d,z,rfl⟩:=hp;simp only[HK];exact ZY hW 9 x d v O z G
def Oc(hW:Wf C S){o i off:Nat}{ds:List D}{v:Value}(h1:S.h o=h o)(hd:Xl i off (h o)=some ds)(G:Aa S (.eptr o i off) v):
 ∃b p vs T fr,v= .pointer (some ⟨b,p,none⟩)/\S.froz.ok b/\S.froz.hp b=some (.cells vs T fr)/\rdp S.froz.ok S.froz.hp ds (vs.toList.drop p):=by
 simp only[Aa] at G;obtain⟨_,G⟩:=G;rw[<-h1] at hd;cases he:S.h o with
 |none=>rw[he] at hd;cases hd
 |some e=>
  obtain⟨l,hl,rfl⟩:=G e he;have Q:S.froz.ok l.b:= .inr ⟨o,e,l,he,hl,rfl⟩;obtain⟨mu,e⟩:=e;rw[he] at hd;have z:=hW.obj o _ he;rw[hl] at z;cases e with
  |arr T k rows=>
   simp only[Xl] at hd;cases hr:rows[i]? with
   |none=>rw[hr] at hd;cases hd
   |some r=>
    rw[hr] at hd;simp only[Lc,AI] at hd;subst hd;simp only[Al] at z;obtain⟨_,_,vs,h5,_,h6⟩:=z;obtain⟨g1,g2⟩:=cP rows _ i h6 hr;refine⟨l.b,l.p+i*k+off,vs,T,(0,0),rfl,Q,h5,?_⟩;have Z:=Vm (eC S).ok _ _ g2;rw[DX] at Z;rcases Zfs off r.length with O|O
    .have:=PQ off r _ Z O
     rwa [DX] at this
    .rw[CO O];simp only[rdp]
  |_=>cases hd
def TB(hW:Wf C S){x:AV}{p:PK}{v:Value}(z: ∀m∈rch h 9 x,S.h m=h m)(hp:EL h x=some p)(G:Aa S x v):HK S.froz p v:=by
 cases x with
 |im d=>
  simp only[EL,AI] at hp;subst hp;simp only[Aa] at G;exact Qyv (lR hW) (FL (eC S).ok d v G)
 |ptr o off=>
  simp only[rch,Bx] at z;simp only[EL,IV,CX] at hp;obtain⟨ds,O,rfl⟩:=hp;obtain⟨b,q,vs,T,fr,Q,Z,h4,h5⟩:=Qql hW (g:=rch h 8) (λx d v O Q Z=>ZY hW 8 x d v O Q Z) (z o (.inl rfl)) (λm hm=>z m (.inr hm)) O G;simp only[HK];exact⟨b,q,vs,T,fr,Q,(lR hW).oks b Z,h4,h5⟩
 |eptr o i off=>
  simp only[rch,Bx,Ri,NR] at z;simp only[EL,IV,CX] at hp;obtain⟨ds,O,rfl⟩:=hp;obtain⟨b,q,vs,T,fr,Q,Z,h4,h5⟩:=Oc hW (z o rfl) O G;simp only[HK];exact⟨b,q,vs,T,fr,Q,(lR hW).oks b Z,h4,h5⟩
 |own o=>exact kQ hW z hp G
 |mp o=>exact kQ hW z hp G
 |agg cs=>exact kQ hW z hp G
 |tup cs=>exact kQ hW z hp G
 |clo f a c=>exact kQ hW z hp G
 |_=>cases hp
def Qtx(hW:Wf C S): ∀(xs:List AV) (ps:List PK) (vs:List Value),(∀m∈Dz h xs,S.h m=h m)->CK h xs=some ps->AJ S xs vs->Ec S.froz ps vs
 |[],ps,vs,_,hp,z=>by
  simp only[CK,AI] at hp;subst hp;simp only[AJ] at z;simp only[Ec];exact z
 |x::xs,ps,vs,O,hp,z=>by
  simp only[CK] at hp;simp only[AJ] at z;obtain⟨v,r,rfl,Q,Z⟩:=z;cases hx:EL h x with
  |none=>rw[hx] at hp;cases hp
  |some p=>
   cases hr:CK h xs with
   |none=>rw[hx,hr] at hp;cases hp
   |some qs=>
    rw[hx,hr] at hp;simp only[GE,AI] at hp;subst hp;simp only[Ec];refine⟨v,r,rfl,TB hW (λm G=>O m ?_) hx Q,Qtx hW xs qs r (λm G=>O m ?_) hr Z⟩
    .simp only[Dz,EQ];exact G7 _ G
    .simp only[Dz,EQ];exact PZ _ G
end
def PE{P:Program}(HM:P.follows .mixedOrders=true){V:Df}(hV:Jr P V){g:FuncId}{fn:Func}{c:Code}(hf:P.funcs[g]? =some fn)(hb:fn.body=some c)(ab:Eg fn.ntmps c=true)
 {ps:List PK}(an:ps.length<=fn.ntmps){R:D->Prop}
 (hk:Dh P V c (ZE P fn.results.toList R) ⟨entry 0 (CU 0 ps),CT 0 ps,BN ps⟩)
 {C:AT}{S:Au}{vs:Array Value}{RR:Ending->World->Prop}(hW:Wf C S)(af:Ec S ps vs.toList)
 (ac: ∀(v:Value) (G:AT) (S1:Au) (d:D),G.w=S.w->G.ok=S.ok->(∀b,¬G.M b)->Wf G S1->R d->rd (Tx G S1) S1.hp d v->RR (.returned v) S1.w):Calls P g vs S.w RR:=by
 refine calls_of_wp hf hb ?_;have hvs:vs.size=(CU 0 ps).length:=by rw[Zl];simpa using af.len
 obtain⟨ls,ad,hcl⟩:=lJ ps vs.toList 0 af
 let S0:Au:=⟨ls,S.ok,hget (CT 0 ps),S.w⟩
 let G:AT:=⟨S.w,λ_=>False,S.ok,0,λ_=>none,λ_=>none,[]⟩
 have ai:Wf G S0:=by
  refine⟨rfl,rfl,rfl,AF _,AF _,λ_ _ _=>rfl,λ_ hb=>hb,λ_ hb=> .inl hb,hW.oks,?_,?_,?_,hW.glN λ_ h=>h.elim⟩
  .intro n e z;obtain⟨l,O,_,h3⟩:=ad n e z;have h4:S0.ρ n=some l:=O;rw[h4];obtain⟨_,cs,rfl⟩:=Gb 0 ps n e z;simp only[Al] at h3⊢;exact h3
  .intro n e l z hl;obtain⟨l',O,h2,h3⟩:=ad n e z;have h4:S0.ρ n=some l':=O;rw[h4] at hl;obtain rfl:=Aw hl;obtain⟨_,cs,rfl⟩:=Gb 0 ps n e z;exact⟨h2,.inr rfl⟩
  .intro n n' e e' l l' z ak hl au aq am;obtain⟨_,cs,rfl⟩:=Gb 0 ps n e z;obtain⟨_,ao,rfl⟩:=Gb 0 ps n' e' ak;simp at am
 have aj:BL G fn.ntmps ⟨entry 0 (CU 0 ps),CT 0 ps,BN ps⟩ {tmps:=vs++Array.replicate (fn.ntmps - vs.size) undef,defers:=[]} S.w:=by
  have Q:AJ S0 (CU 0 ps) vs.toList:=hcl S0 rfl rfl (λn _=>⟨rfl,rfl⟩);refine⟨S0,rfl,ai,λn=>rfl,?_,?_,?_,by simp;rw[Zl] at hvs;omega,rfl,BP _,λo ho=>absurd ho (vA _)⟩
  .intro t;have O:=jR (S:=S0) (CU 0 ps) vs.toList 0 t Q;simp only[BP,BF,mI] at O
   have:({tmps:=vs++Array.replicate (fn.ntmps - vs.size) undef,defers:=[]}:Act).eval (.tmp t)=(vs.toList[t]?).getD undef:=by
    simp only[Act.eval,H2,mA,fH];by_cases ht:t<vs.size
    .simp[ht]
    .simp only[ht,Cu]
     have:vs[t]? =none:=Rb (by omega)
     simp only[GU,this]
     split<;>rfl
   rw[this];exact O
  .intro t m hm;exact rJ 0 ps (BN ps) (by omega) m (jZ (CU 0 ps) 0 t m hm)
  .intro n e z;obtain⟨O,cs,rfl⟩:=Gb 0 ps n e z;exact⟨by show n<BN ps;omega,by simp[Ag.nms]⟩
 refine wp_mono (Qo4 HM (eS hV) c ab _ _ _ _ hk aj) ?_;have fin: ∀(s:Az) (a:Act) (w:World),Kz P fn.results.toList R s->BL G fn.ntmps s a w->a.defers=[]/\ ∃v,(results fn a.tmps).run P w= .ok v w/\RR (.returned v) w:=by
  rintro s a w hr ⟨S1,rfl,Z⟩;unfold Kz at hr;cases hxs:A7 (JF P s) fn.results.toList with
  |none=>rw[hxs] at hr;exact hr.elim
  |some xs=>
   rw[hxs] at hr;simp only[M3] at hr;obtain⟨v,ag,aa⟩:=qM Z hxs;refine⟨Z.defers,v,ag,?_⟩;have ah:hget s.h=S1.h:=(funext Z.h).symm;rw[ah] at hr;obtain⟨d,O,h2⟩:=Qzf (λ_ h=>h) Z.wf hr aa;exact ac v G S1 d rfl rfl (λ_ h=>h) Z.wf O h2
 intro e a w z;cases e<;>simp only[FU] at z<;>simp only[bodyPost]
 .obtain⟨s,hs,Z⟩:=z;exact fin s a w hs Z
 .obtain⟨s,hs,_⟩:=z;exact hs.elim
 .obtain⟨s,hs,Z⟩:=z;exact fin s a w hs Z
def Wy{A:Type}(ar:List PK->Option A)(pre:A->Prop)(re:A->D)(u:List Nat)(K:Ah):Option (List PK)->Prop
 |some z=>EA (λa=>pre a/\K (.im (re a)) {use:=u}) (ar z)
 |none=>False
def KE{A:Type}(ar:List PK->Option A)(pre:A->Prop)(re:A->D):Ax:=λz h _ K=>Wy ar pre re (Dz h z) K (CK h z)
def Bt{B:Type}(rc:D->Option B)(b:B)(d:D):Prop:=rc d=some b
def Quy{P:Program}{g:FuncId}(ag:FA P g=true)
 {A B:Type}{ar:List PK->Option A}{ae:A->List PK}(aw: ∀ps a,ar ps=some a->BM ps (ae a)){rc:D->Option B}{re:B->D}(ay: ∀d b,rc d=some b->Le d (re b))
 {pre:A->Prop}{f:A->B}
 (aj: ∀a,pre a-> ∀{C:AT} {S:Au} {vs:Array Value} {RR:Ending->World->Prop},Wf C S->Ec S (ae a) vs.toList->
  (∀(v:Value) (C0:AT) (S1:Au) (d:D),C0.w=S.w->C0.ok=S.ok->(∀b,¬C0.M b)->Wf C0 S1->Bt rc (f a) d->rd (Tx C0 S1) S1.hp d v->RR (.returned v) S1.w)->Calls P g vs S.w RR):
 Ga P g (KE ar pre λa=>re (f a)):=by
 intro aa h nx K z;unfold KE at z;cases hp:CK h aa with
 |none=>rw[hp] at z;exact z.elim
 |some ps=>
  rw[hp] at z;simp only[Wy] at z;cases ha:ar ps with
  |none=>rw[ha] at z;exact z.elim
  |some a=>
   rw[ha] at z;simp only[EA] at z;obtain⟨ai,hK⟩:=z;refine⟨KH ag,_,_,?_,hK⟩;intro C S vs RR hW ak am an ac ah;have ax:=Qtx hW aa ps vs.toList (λm hm=>ak m (G7 _ hm)) hp ac;have au:=lR hW;refine aj a ai (S:=S.froz) au ((aw ps a ha).c ax) ?_;intro v C0 S1 d G af ao Z hR az;have G:C0.w=S.w:=G;have af:C0.ok=S.froz.ok:=af;have Q: ∀b,b<S.w.heap.size->S1.w.heap[b]? =S.w.heap[b]? :=λb O=>by
    have:=Z.keep b (by rw[G];exact O) (ao b)
    rw[G] at this;exact this
   have ad:S.w.heap.size<=S1.w.heap.size:=by have:=Z.size;rw[G] at this;exact this
   let S':Au:={S with ok:=λb=>S.ok b\/Tx C0 S1 b,w:=S1.w}
   have hp':B3 (λ_=>True) S S':=⟨λb O=>⟨.inl O,Q b (hW.oks b O)⟩,λo _ e' av=>⟨e',av,rfl,rfl,rfl⟩⟩;have ab: ∀b,Tx C0 S1 b->S.w.heap.size<=b:=λb O=>by have:=O.1;rw[G] at this;exact this
   have aq:Wf C S':=by
    refine⟨?_,?_,?_,BR hW.dr (by have:=Z.dr;rw[G] at this;exact this),BR hW.size ad,?_,λb O=> .inl (hW.ok0 b O),?_,?_,?_,?_,hW.inj,hW.gl⟩
    .exact Z.os.trans (by rw[G];exact hW.os)
    .exact Z.tape.trans (by rw[G];exact hW.tape)
    .exact Z.output.trans (by rw[G];exact hW.output)
    .intro b O hM;exact (Q b (E8 O hW.size)).trans (hW.keep b O hM)
    .rintro b (O|O)
     .exact hW.ok1 b O
     .exact .inr (.inl (BR hW.size (ab b O)))
    .rintro b (O|O)
     .exact E8 (hW.oks b O) ad
     .exact O.2.1
    .intro o e he;exact Hh hp' (λlc hl=>Q lc.b (hW.loc o e lc he hl).1) _ (λ_ _=>trivial) (hW.obj o e he)
    .intro o e l he hl;obtain⟨h2,h3⟩:=hW.loc o e l he hl;refine⟨E8 h2 ad,?_⟩;cases hm:e.1 with
     |false=>
      rw[hm] at h3;simp only[CN,Cu] at h3⊢;exact h3.imp (λh=> .inl h) id
     |true=>
      rw[hm] at h3;simp only[BF] at h3⊢;refine⟨?_,h3.2⟩;rintro (h|h)
      .exact h3.1 h
      .have:=ab _ h;omega
   refine ah v S' aq ?_ ⟨hp'.ok,λo _=>hp'.nm o trivial⟩ ?_
   .show S.h=_;funext m;simp[Bz.appf,hget]
   .simp only[Aa];have h9:=ay _ _ hR _ _ _ az;exact FL (λb O=>⟨.inr O,rfl⟩) _ _ h9
def jJ{P:Program}(HM:P.follows .mixedOrders=true){V:Df}(hV:Jr P V){g:FuncId}{fn:Func}{c:Code}(hf:P.funcs[g]? =some fn)(hb:fn.body=some c)(G:Eg fn.ntmps c=true)(z:FA P g=true)
 {A B:Type}{ar:List PK->Option A}{ae:A->List PK}(Z: ∀ps a,ar ps=some a->BM ps (ae a)){n:Nat}(hn: ∀a,(ae a).length=n)(aa:n<=fn.ntmps){rc:D->Option B}{re:B->D}(ac: ∀d b,rc d=some b->Le d (re b))
 {pre:A->Prop}{f:A->B}
 (hk: ∀a,pre a->Dh P V c (ZE P fn.results.toList (Bt rc (f a))) ⟨entry 0 (CU 0 (ae a)),CT 0 (ae a),BN (ae a)⟩):
 Ga P g (KE ar pre λa=>re (f a)):=
 Quy z Z ac (λa Q _ _ _ _ hW ab O=>PE HM hV hf hb G (by rw[hn];exact aa) (hk a Q) hW ab O)
end Go.Ae
