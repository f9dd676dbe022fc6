/- Lemmas. Conditions: none. -/
import Derived.Test.YtogafbdeamcpnaaGreatDoorP03
import Derived.Laws.BytesArg
set_option linter.all false
set_option maxHeartbeats 8000000
set_option maxRecDepth 100000
namespace Go.Ae
def oX{ok:Nat->Prop}{hp:Nat->Option Obj}: ∀(rows:List (List D)) (G:List Int) (L:List Value),H6 rows=some G->rdr ok hp 1 rows L->rows.length=G.length/\L.take G.length=G.map (Value.int .u8)
 |[],G,L,h,_=>by
  simp only[H6,AJ] at h;subst h;simp
 |row::r,G,L,h,Q=>by
  unfold H6 at h;split at h
  .rename_i z;cases z
  .rename_i n r' z;cases z;simp only[D4] at h;obtain⟨ms,h1,rfl⟩:=h;simp only[rdr,rdp,rd] at Q;obtain⟨_,⟨v,L1,rfl,rfl,_⟩,h3⟩:=Q;obtain⟨Z,O⟩:=oX r ms _ h1 h3;simp only[Qp,Hh] at O;refine⟨by simp[Z],?_⟩;simp[O]
  .cases h
section
variable {P:Program}{tm:List (Nat×AV)}{h:Nat->Option Au}{nx:Nat}{o:Oper}{K:Ah}
def Zc{x y:Operand}{c:Call}(ho:o.op= .call c)(G:c.callee= .builtin .max)(z:c.args= #[x,y])(O:Ni K (Az tm x) (Az tm y)):BS P tm h nx o K:=by
 have Z:x∈o.op.operands:=by rw[ho];simp[Op.operands,Call.operands,z,G]
 have aa:y∈o.op.operands:=by rw[ho];simp[Op.operands,Call.operands,z,G]
 cases hx:Az tm x<;>rw[hx] at O<;>try exact O.elim
 rename_i d;cases hy:Az tm y<;>rw[hy] at O<;>try (cases d<;>exact O.elim)
 rename_i d';cases d<;>cases d'<;>try exact O.elim
 rename_i k a k' b;simp only[Ni] at O;obtain⟨rfl,O⟩:=O;refine⟨_,_,BA.pure (u:=[]) ?_,O⟩;intro C S ac hW _ Q;have h1:=Q x Z;have h2:=Q y aa;rw[hx] at h1;rw[hy] at h2;simp only[Aa,rd] at h1 h2;refine⟨.int k (max a b),?_,by simp only[Aa,rd]⟩;simp only[execOp,ho,resolve,G,z,Sem.run_bind,Sem.run_pure,Result.andThen_ok,invoke,builtin];have e:(if a<b then b else a)=max a b:=by omega
 simp[h1,h2,Builtin.max_,Builtin.max2,e]
def P2{Q T:TypeId}{x:Operand}(ho:o.op= .convert Q T x)(Z:isStr (Q5 (tI P T))=true)(z:IM P h K (Az tm x) (tI P Q)):BS P tm h nx o K:=by
 cases hT:tI P T with
 |none=>rw[hT] at Z;cases Z
 |some ti=>
 rw[hT] at Z;simp only[Q5,isStr] at Z;cases hf:ti.kind<;>rw[hf] at Z<;>simp only[TK.isStr,Df] at Z;have hd:=Wu hT hf;cases hS:tI P Q with
 |none=>rw[hS] at z;exact z.elim
 |some si=>
 rw[hS] at z;simp only[IM] at z;cases hg:si.kind<;>rw[hg] at z<;>try exact z.elim
 rename_i e;have hs:=Qb hS hg;simp only[gX] at z;cases hE:tI P e with
 |none=>rw[hE] at z;exact z.elim
 |some te=>
 rw[hE] at z;simp only[Q5] at z;cases hke:te.kind<;>rw[hke] at z<;>try exact z.elim
 rename_i ik;cases ik<;>try exact z.elim
 have he:=Vk hE hke;simp only[gW] at z;cases hx:Az tm x<;>rw[hx] at z<;>try exact z.elim
 rename_i n;simp only[gV] at z;cases hn:h n with
 |none=>rw[hn] at z;exact z.elim
 |some O=>
 rw[hn] at z;obtain⟨mu,O⟩:=O;cases O<;>try exact z.elim
 rename_i T' k rows;simp only[RA] at z;obtain⟨rfl,z⟩:=z;cases hb:H6 rows with
 |none=>rw[hb] at z;exact z.elim
 |some ns=>
 rw[hb] at z;simp only[L8] at z;refine⟨_,_,BA.pure (u:=[n]) ?_,z⟩;intro C S ac hW hu ab;have h1:=ab x (by rw[ho];simp[Op.operands]);rw[hx] at h1;simp only[Aa] at h1;have aa:=(hu n (by simp)).trans hn;have hc:=h1.2 _ aa;have G:=hW.obj _ _ aa;refine⟨.string (Hp ns),?_,by simp only[Aa,rd]⟩;have af:(convert Q T (ac.eval x)).run P S.w= .ok (.string (Hp ns)) S.w:=by
  cases hl:S.ρ n with
  |none=>
   rw[hl] at hc G;simp only[Aw] at G;simp only at hc;obtain rfl:=G.2;simp only[H6,AJ] at hb;subst hb;rw[hc,run_convert_bytes_string S.w Q T e none 0 0 hs he hd];simp[Conv.bytesToString,Hp];rfl
  |some l=>
   rw[hl] at hc G;simp only[Aw] at G;simp only[Ad.len] at hc;obtain⟨_,g1,vs,g2,g3,g4⟩:=G;obtain⟨e1,e2⟩:=oX rows ns _ hb g4;rw[hc,run_convert_bytes_string S.w Q T e _ _ _ hs he hd];have ad:(loadCells ⟨l.b,l.p,none⟩ rows.length).run P S.w= .ok (ns.map (Value.int .u8)).toArray S.w:=by
    rw[kV (w:=S.w) g2 (by omega),e1,e2]
   rw[run_bytesToString S.w ⟨l.b,l.p,none⟩ rows.length l.cap ns ad,foldl_push_bytes];simp[Hp,ByteArray.empty,ByteArray.emptyWithCapacity]
   try rfl
 simp only[execOp,ho,Sem.run_bind,af];simp
def P4{G T:TypeId}{x:Operand}(O:o.op= .convert G T x)(z:Wr P h (Q5 (tI P T)) (Az tm x) K (tI P G)):BS P tm h nx o K:=by
 unfold Wr at z;split at z
 .rename_i Q;exact P2 O Q z
 .exact Qwv O z
end
section
variable {P:Program}{tm:List (Nat×AV)}{h:Nat->Option Au}{nx:Nat}{o:Oper}{K:Ah}
def Qalk{T:TypeId}(h:Mh P T=true): ∃z,P.underlying T=some (.interface z):=by
 unfold Mh at h;split at h
 .rename_i z G;exact⟨z,G⟩
 .cases h
def iC{w:World}{T:TypeId}{O:Array (String×TypeId)}(z:P.underlying T=some (.interface O))(d:Nat){v:Value}{b:Bool}(G:v= .nilIface/\b=true\/(∃t x,v= .iface t x)/\b=false):(Op.equalIn (d+1) T v .nilIface).run P w= .ok b w:=by
 rcases G with ⟨rfl,rfl⟩|⟨⟨t,x,rfl⟩,rfl⟩<;>simp[Op.equalIn,run_underlying z]
def UP{op:BinOp}{T U:TypeId}{x y:Operand}{m:Nat}(ho:o.op= .binOp op T x y U)(hm:Ft y=m+4)(hk:WA P T op (Az tm x) K):BS P tm h nx o K:=by
 obtain⟨hT,hk⟩:=hk;obtain⟨ms,hu⟩:=Qalk hT;have Q:op= .eql\/op= .neq:=by cases op<;>first|exact .inl rfl|exact .inr rfl|exact hk.elim
 have G:QH (decide (op= .neq)) K (Az tm x):=by rcases Q with rfl|rfl<;>exact hk
 have hy:y= .const .nilIface:=by
  cases y<;>simp only[Ft] at hm<;>try omega
  rename_i v;unfold FK at hm;split at hm<;>first|omega|rfl
 clear hk;have O: ∀b:Bool,K (.im (.bool ((decide (op= .neq)) !=b))) {}->(∀(C:AW) (S:A9) (v:Value),Wf C S->Aa S (Az tm x) v->v= .nilIface/\b=true\/(∃t x,v= .iface t x)/\b=false)->BS P tm h nx o K:=by
  intro b ac hv;refine⟨_,_,BA.pure (u:=[]) ?_,ac⟩;intro C S a hW _ aa;have Z:=hv C S _ hW (aa x (by rw[ho];simp[Op.operands]));refine⟨.bool (decide (op= .neq) !=b),?_,by simp only[Aa,rd]⟩;have ab:a.eval y= .nilIface:=by rw[hy];rfl
  have hq:(Op.equal T (a.eval x) .nilIface).run P S.w= .ok b S.w:=iC hu 9999 Z;subst hy;have hg:(eqGuard op T x (.const .nilIface) (a.eval x) .nilIface).run P S.w= .ok () S.w:=by
   clear hq;generalize a.eval x=v at Z⊢;rcases Z with ⟨rfl,_⟩|⟨⟨t,z,rfl⟩,_⟩<;>rcases Q with rfl|rfl<;>simp[eqGuard]
  have hb:(binOp op T (a.eval x) .nilIface).run P S.w= .ok (.bool (decide (op= .neq) !=b)) S.w:=by
   generalize a.eval x=v at Z hq⊢;rcases Q with rfl|rfl
   .have:binOp .eql T v .nilIface=(do pure (.bool (<-Op.equal T v .nilIface))):=by
     rcases Z with ⟨rfl,_⟩|⟨⟨t,z,rfl⟩,_⟩<;>rfl
    rw[this];simp[hq]
   .have:binOp .neq T v .nilIface=(do pure (.bool (!(<-Op.equal T v .nilIface)))):=by
     rcases Z with ⟨rfl,_⟩|⟨⟨t,z,rfl⟩,_⟩<;>rfl
    rw[this];simp[hq]
  simp only[execOp,ho,ab,Sem.run_bind,hg,Result.andThen_ok,hb,Sem.run_pure]
 cases hx:Az tm x<;>rw[hx] at G<;>try exact G.elim
 rename_i d;cases d<;>try exact G.elim
 .refine O true G ?_;intro C S v _ hc;rw[hx] at hc;simp only[Aa,rd] at hc;exact .inl ⟨hc,rfl⟩
 .refine O false G ?_;intro C S v _ hc;rw[hx] at hc;simp only[Aa,rd] at hc;obtain⟨z,hz,_⟩:=hc;exact .inr ⟨⟨_,z,hz⟩,rfl⟩
def YZ{T:TypeId}{x:Operand}(ho:o.op= .makeInterface T x)(z:Vc P T K (Az tm x)):BS P tm h nx o K:=by
 cases hx:Az tm x<;>rw[hx] at z<;>try exact z.elim
 rename_i d;obtain⟨hc,z⟩:=z;refine⟨_,_,BA.pure (u:=[]) ?_,z⟩;intro C S a _ _ G;have Q:=G x (by rw[ho];simp[Op.operands]);rw[hx] at Q;simp only[Aa] at Q;refine⟨.iface T (a.eval x),?_,by simp only[Aa,rd];exact⟨_,rfl,Q⟩⟩
 have:(Instr.makeInterface T (a.eval x)).run P S.w= .ok (.iface T (a.eval x)) S.w:=by
  unfold IW at hc;split at hc
  .cases hc
  .rename_i u Z hu;have O:(underlying T).run P S.w= .ok u S.w:=by simp[underlying,hu]
   unfold Instr.makeInterface;rw[Sem.run_bind,O];cases u<;>first|rfl|exact (Z _ rfl).elim
  .cases hc
 simp[execOp,ho,this]
def Qaln{T tk te:TypeId}{x:Operand}{kt:KT}{es:List (D×D)}(ho:o.op= .range T x)(hu:P.underlying T=some (.map tk te))(hx:Az tm x= .im (.mp kt es))
 (hk:K (.it nx) {new:=[(nx,(true,.iter none es))],cnt:=1}):BS P tm h nx o K:=by
 refine⟨_,_,BA.one (u:=[]) (ks:=[]) (.inl ⟨rfl,rfl⟩) ?_,hk⟩;intro C S a hW _ Q hnm aa;have O:=aa x (by rw[ho];simp[Op.operands]);rw[hx] at O;simp only[Aa,rd] at O;obtain⟨b,G,z,hv,g2,Z,g3,g4,g5,g6⟩:=O;have hg:(getObj b).run P S.w= .ok (.map G z) S.w:=PZ (w:=S.w) g3;have ab:(underlying T).run P S.w= .ok (.map tk te) S.w:=by simp[underlying,hu]
 refine⟨.pointer (some ⟨S.w.heap.size,0,none⟩),{S.w with heap:=S.w.heap.push (.mapIter (some b) z #[] z)},some ⟨S.w.heap.size,0,0⟩,.inl ?_,VB (w':={S.w with heap:=S.w.heap.push (.mapIter (some b) z #[] z)}) (ob:= .mapIter (some b) z #[] z) rfl rfl rfl rfl (Q rfl) (λn f hf=>hnm n f hf rfl),?_⟩
 .simp only[execOp,ho,hv,Instr.range,Sem.run_bind,ab,Result.andThen_ok,hg,Sem.run_pure];simp
 intro hp;constructor
 .simp only[Aw];obtain⟨p1,p2⟩:=hp.ok b Z;refine⟨_,b,G,z,#[],rfl,p1,trivial,p2.trans g3,ZQ rfl,g5,g6,?_⟩;have h9:G.toList.filter (λe=> !(#[]:Array Nat).contains e.born)=G.toList:=by
   rw[mL];intro e _;simp
  rw[h9];exact Lg hp.ok _ _ g4
 .simp only[Aa];exact⟨rfl,λe he=>⟨⟨S.w.heap.size,0,0⟩,by simp[A9.one],rfl⟩⟩
end
def Hs(P:Program)(V:Db):Prop:=
 (∀(tm:List (Nat×AV)) (h:Nat->Option Au) (nx:Nat) (o:Oper) (c:Call) (f:Operand) (K:Ah),o.op= .call c->c.callee= .value f->
  (∀x,∀m∈(Az tm x).nms,m<nx)->QD V (DB tm c.args.toList) h nx K (Az tm f)->BS P tm h nx o K)/\
 ∀(tm:List (Nat×AV)) (h:Nat->Option Au) (nx:Nat) (o:Oper) (c:Call) (r:Operand) (m:String) (K:Ah),o.op= .call c->c.callee= .invoke r m->
  (∀x,∀m∈(Az tm x).nms,m<nx)->Nh P V (DB tm c.args.toList) h nx K m (Az tm r)->BS P tm h nx o K
def wM{tm:List (Nat×AV)}{c:Call}{x:AV}(h:DB tm c.args.toList=[x]): ∃a,c.args= #[a]/\Az tm a=x:=by
 cases hc:c.args.toList with
 |nil=>rw[hc] at h;cases h
 |cons a r=>
  rw[hc] at h;cases r with
  |nil=>
   simp only[DB,gH,and_true] at h;exact⟨a,aI.1 (by simpa using hc),h⟩
  |cons b r=>simp[DB] at h
def XK{tm:List (Nat×AV)}{c:Call}{x y:AV}(h:DB tm c.args.toList=[x,y]): ∃a b,c.args= #[a,b]/\Az tm a=x/\Az tm b=y:=by
 cases hc:c.args.toList with
 |nil=>rw[hc] at h;cases h
 |cons a r=>
  rw[hc] at h;cases r with
  |nil=>simp[DB] at h
  |cons b r=>
   cases r with
   |nil=>
    simp only[DB,gH,and_true] at h;exact⟨a,b,aI.1 (by simpa using hc),h.1,h.2⟩
   |cons d r=>simp[DB] at h
section
variable {P:Program}{tm:List (Nat×AV)}{h:Nat->Option Au}{nx:Nat}{o:Oper}{K:Ah}
def YV{op:BinOp}{T U:TypeId}{x y:Operand}(G:o.op= .binOp op T x y U)(z:ZW P T h op (Az tm x) (Az tm y) K (Ft y)):BS P tm h nx o K:=by
 cases hn:Ft y with
 |succ m=>
  rw[hn] at z;cases m with
  |zero=>exact bV G hn (by decide) z
  |succ m=>
   cases m with
   |zero=>exact bV G hn (by decide) z
   |succ m=>
    cases m with
    |zero=>exact bV G hn (by decide) z
    |succ m=>exact UP (m:=m) G hn z
 |zero=>
  rw[hn] at z;simp only[ZW] at z;cases hx:Az tm x<;>rw[hx] at z<;>try exact z.elim
  rename_i d;cases hy:Az tm y<;>rw[hy] at z<;>try (cases d<;>exact z.elim)
  rename_i d';cases d<;>cases d'<;>try exact z.elim
  .simp only[fN] at z;exact UT G hx hy z
  .simp only[fN] at z;cases hT:tI P T with
   |none=>rw[hT] at z;exact z.elim
   |some ti=>
    rw[hT] at z;simp only[Ng] at z;exact YW G (Zm hT z.1) hx hy z.2
  .exact Zd G hx hy z
  .exact Pz G hx hy z
def Qrc{V:Db}(HV:Hs P V){sq:Bool}(Z: ∀x,∀m∈(Az tm x).nms,m<nx)(z:step P V sq tm h nx o.type K o.op):Xj P sq tm h nx o K:=by
 have ad: ∀x,∀m∈(Az tm x).nms,m≠nx:=λx m hm=>Nat.ne_of_lt (Z x m hm)
 cases ho:o.op<;>rw[ho] at z<;>try exact z.elim
 case move x=>exact .inl (oN (.inl ho) z)
 case assign x=>exact .inl (Qabd ho z)
 case pick c a b=>exact .inl (UW ho z)
 case alloc T=>exact .inl (P0 ho z)
 case box T x=>exact .inl (YX ho z (λm hm=>ad x m (Qvz _ m hm)))
 case build T ps=>exact .inl (P1 ho z)
 case buildSlice T n ps=>exact .inl (Qp8 ho z ad)
 case load T x=>exact .inl (UU ho z)
 case store T x v=>exact .inl (PB ho z)
 case nilCheck x=>exact .inl (Qvi ho z)
 case binOp op T x y U=>
  simp only[step,KU] at z;split at z
  .rename_i aa;simp only[unS,AS,Qu] at aa;exact .inr ⟨aa.1,.inr (US ho aa.2.1 z)⟩
  .exact .inl (YV ho z)
 case slice T x lo hi mx=>
  cases mx<;>try exact z.elim
  exact .inl (PA ho z)
 case range T x=>exact .inl (P9 (λ_ _ _ _ hu G z=>Qaln ho hu G z) ho z)
 case makeInterface T x=>exact .inl (YZ ho z)
 case next x b=>
  cases b<;>try exact z.elim
  simp only[step] at z;cases sq with
  |false=>exact z.elim
  |true=>exact .inr ⟨rfl,.inr (UV ho z)⟩
 case entry x=>exact .inl (P5 ho z)
 case makeChan T x=>exact .inl (Qvf ho z)
 case unOp op T x=>exact .inl (UX ho z)
 case convert S T x=>exact .inl (P4 ho z)
 case makeFunc f first capt=>
  cases f<;>try exact z.elim
  exact .inl (YY (by simpa using z.1) ho z.2)
 case makeMap T r=>
  cases r<;>try exact z.elim
  exact .inl (Qyk ho z)
 case makeSlice T l c=>exact .inl (Qrx ho z)
 case fieldAddr T x f=>exact .inl (Qsq ho z)
 case indexAddr T x i=>exact .inl (Qsk ho z)
 case index T x i=>exact .inl (P6 ho z)
 case lookup T m k ok=>exact .inl (Qabg ho z)
 case mapUpdate T m k v=>exact .inl (Qr9 ho z)
 case extract x i=>exact .inl (Qyh ho z)
 case call c=>
  simp only[step] at z;cases hc:c.callee<;>rw[hc] at z<;>try exact z.elim
  case value f=>exact .inl (HV.1 tm h nx o c f K ho hc Z z)
  case invoke r m=>exact .inl (HV.2 tm h nx o c r m K ho hc Z z)
  case builtin b=>
   simp only[tL] at z;unfold Z7 at z;split at z
   .rename_i x T G Q;obtain⟨a,O,ac⟩:=wM G;have ab:c.argTypes= #[T]:=aI.1 (by simpa using Q);cases x<;>simp only[Ln] at z
    case ch q=>exact .inl (P7 ho hc O ab ac z)
    all_goals first
     |exact z.elim
     |(rw[<-ac] at z;exact Zb ho hc O ab z)
   .rename_i s x T U G Q;obtain⟨a,b,O,rfl,rfl⟩:=XK G;exact .inl (Qab5 ho hc O (aI.1 (by simpa using Q)) z)
   .rename_i m k T af G Q;obtain⟨a,b,O,rfl,rfl⟩:=XK G;exact .inl (Qabh ho hc O Q z)
   .rename_i d s T U G Q;obtain⟨a,b,O,rfl,rfl⟩:=XK G;exact .inl (UR ho hc O (aI.1 (by simpa using Q)) z)
   .rename_i d T G Q;obtain⟨a,O,rfl⟩:=wM G;exact .inl (P3 ho hc O (aI.1 (by simpa using Q)) z)
   .rename_i x y G;obtain⟨a,b,O,rfl,rfl⟩:=XK G;exact .inl (Zc ho hc O z)
   .exact z.elim
end
def QB(P:Program)(ops:Array Oper)(i:Nat)(a:Act)(w:World)(next:Act->World->Prop):Prop:=
 ∀(b:Frame) (k:List Item) (cs:List Frame) (rest:List Nat),∃a' w',next a' w'/\Steps P (lone (b.at a (.inRegion ops (i::rest)::k)) cs w) (lone (b.at a' (.inRegion ops rest::k)) cs w')
def Op.comm:Op->Bool
 | .send _ _| .recv _ _ _=>true
 |_=>false
def JN(P:Program)(ops:Array Oper)(i:Nat)(a:Act)(w:World)(next:Act->World->Prop):Prop:=
 (∃o,ops[i]? =some o/\Region.wanted o (yielded ops a.tmps)=true/\o.wp P a w next (λ_ _ _=>False))\/((∀o,ops[i]? =some o->Go.Ae.Op.comm o.op=true)/\QB P ops i a w next)
def Lp(P:Program)(ops:Array Oper)(Q:Act->World->Prop):List Nat->Act->World->Prop
 |[],a,w=>Q a w
 |i::z,a,w=>
  match ops[i]? with
  |none=>Lp P ops Q z a w
  |some o=>if Region.wanted o (yielded ops a.tmps) then JN P ops i a w (Lp P ops Q z) else Lp P ops Q z (a.put o.dst undef) w
section
variable {P:Program}{ops:Array Oper}{i:Nat}{o:Oper}{a:Act}{w:World}{next:Act->World->Prop}
def Qx0(ho:ops[i]? =some o)(hw:Region.wanted o (yielded ops a.tmps)=true)(h:o.wp P a w next (λ_ _ _=>False)):QB P ops i a w next:=by
 intro b k cs rest;have Z:=stepG_op (P:=P) (b:=b) (a:=a) (k:=k) (cs:=cs) (w:=w) (rest:=rest) ho hw;have z: ∀v,(b.at a (.inRegion ops (i::rest)::k)).finish v=b.at (a.put o.dst v) (.inRegion ops rest::k):=λv=>by
  rw[Frame.finish_at,ho];rfl
 unfold Oper.wp Oper.upon at h;split at h
 .rename_i v Q G;refine⟨_,_,h,.one (step_lone_go ?_)⟩;rw[Z,<-z];simp[stepG.apply,G]
 .rename_i Q G;refine⟨_,_,h,.one (step_lone_go ?_)⟩;rw[Z,<-z];simp[stepG.apply,G]
 .rename_i d Q G;refine⟨_,_,h,.one (step_lone_go ?_)⟩;have h1:({b.at a (.inRegion ops (i::rest)::k) with defers:=d::a.defers}:Frame).finish undef=b.at ({a with defers:=d::a.defers}.put o.dst undef) (.inRegion ops rest::k):=by
   have h2:=Frame.finish_at b {a with defers:=d::a.defers} ops i rest k undef;rw[ho] at h2;exact h2
  rw[Z];simp only[stepG.apply,Sem.runT_eq,G,GStep.bare_after];exact CU (λfr=>GStep.go {frame:=fr,callers:=cs,status:= .running,dying:=none} Q) h1
 .rename_i f args Q G;obtain⟨e,w2,fr,hR,hs,_,hl⟩:=h (b.at a (.inRegion ops (i::rest)::k)::cs);have O:_root_.Go.step P (lone (b.at a (.inRegion ops (i::rest)::k)) cs w)= .next (lone (Frame.enter P f args .normal) (b.at a (.inRegion ops (i::rest)::k)::cs) Q):=
   step_lone_go (by rw[Z];simp[stepG.apply,G,Frame.at])
  cases e with
  |returned v=>
   refine⟨_,_,hR,.head O (hs.trans (.one ?_))⟩;rw[<-z];exact step_leave_returned hl
  |panicked c=>exact hR.elim
  |outgrown=>obtain⟨_,_,hR⟩:=hR;exact hR.elim
 .rename_i row args Q G;obtain⟨v,w2,hR,hs⟩:=h (b.at a (.inRegion ops (i::rest)::k)) cs;have O:_root_.Go.step P (lone (b.at a (.inRegion ops (i::rest)::k)) cs w)= .next (lone (Frame.ofRow P row args .normal) (b.at a (.inRegion ops (i::rest)::k)::cs) Q):=
   step_lone_go (by rw[Z];simp[stepG.apply,G,Frame.at])
  refine⟨_,_,hR,.head O ?_⟩;rw[<-z];exact hs
 .exact h.elim
 .exact h.elim
def Qab1(z:ops[i]? =some o)(G:Region.wanted o (yielded ops a.tmps)=true)(h:o.wp P a w next (λ_ _ _=>False)):JN P ops i a w next:= .inl ⟨o,z,G,h⟩
def TH(h:JN P ops i a w next):QB P ops i a w next:=by
 rcases h with ⟨o,z,G,O⟩|⟨_,h⟩
 .exact Qx0 z G O
 .exact h
end
def Qnk{P:Program}{ops:Array Oper}{Q:Act->World->Prop}: ∀(l:List Nat) (a:Act) (w:World),Lp P ops Q l a w-> ∀(b:Frame) (k:List Item) (cs:List Frame),
 ∃a' w',Q a' w'/\Steps P (lone (b.at a (.inRegion ops l::k)) cs w) (lone (b.at a' k) cs w')
 |[],a,w,h,b,k,cs=>⟨a,w,h,.one step_region_end⟩
 |i::rest,a,w,h,b,k,cs=>by
  simp only[Lp] at h;cases ho:ops[i]? with
  |none=>
   rw[ho] at h;obtain⟨a',w',hq,G⟩:=Qnk rest a w h b k cs;have z:=step_op_skip (P:=P) (b:=b) (a:=a) (k:=k) (cs:=cs) (w:=w) (ops:=ops) (i:=i) (rest:=rest) (by simp[ho]);rw[ho] at z;exact⟨a',w',hq,.head z G⟩
  |some o=>
   rw[ho] at h;simp only at h;split at h
   .obtain⟨a1,w1,z,O⟩:=TH h b k cs rest;obtain⟨a',w',hq,G⟩:=Qnk rest a1 w1 z b k cs;exact⟨a',w',hq,O.trans G⟩
   .rename_i Z;obtain⟨a',w',hq,G⟩:=Qnk rest _ w h b k cs;have z:=step_op_skip (P:=P) (b:=b) (a:=a) (k:=k) (cs:=cs) (w:=w) (ops:=ops) (i:=i) (rest:=rest) (by simp[ho,Z]);rw[ho] at z;exact⟨a',w',hq,.head z G⟩
def Pm{P:Program}{id:Nat}{ops:Array Oper}{Q:Exit->Act->World->Prop}{a:Act}{w:World}(h:Lp P ops (Q .normal) (List.range ops.size) a w):(Code.region id ops false).wp P Q a w:=by
 intro b k z;obtain⟨a',w',hq,G⟩:=Qnk _ a w h b k z;exact⟨.normal,a',w',hq,.head step_region G⟩
section
variable {P:Program}{ops:Array Oper}{i:Nat}{o:Oper}{a:Act}{w:World}{next:Act->World->Prop}
def Qjg{z:Frame}{cs:List Frame}{w Q:World}{cases:Array CommCase}{G:Bool}{O:CommShape}{g:Goroutine}
 (h:(stepG P true {frame:=z,callers:=cs,status:= .running,dying:=none} w).bare= .comm g cases G O Q):
 _root_.Go.step P (lone z cs w)=(communicate P {timers:= #[],alone:=none,slice:=none} #[{(default:Goroutine) with status:= .finished}] 0 g cases G O Q).1:=by
 generalize hs:stepG P true {frame:=z,callers:=cs,status:= .running,dying:=none} w=s at h;cases s<;>simp at h;obtain⟨rfl,rfl,rfl,rfl,rfl⟩:=h;rw[_root_.Go.step,stepT,move_lone];simp[runT,lone,Array.swapAt!,hs]
def Qon(c:Nat)(s:Bool):partners #[{(default:Goroutine) with status:= .finished}] c s=[]:=by
 simp[partners]
def Qp5{Q:Frame}{cs:List Frame}{w Z:World}{c cap s r:Nat}{G:Array Value}{tm:Bool}{v z:Value}
 (h:(stepG P true {frame:=Q,callers:=cs,status:= .running,dying:=none} w).bare= .comm {frame:=Q,callers:=cs,status:= .running,dying:=none} #[{chan:= .chan (some c),send:=some v,zero:=z}] true .send Z)
 (hc:Z.heap[c]? =some (.chan cap G false s r tm))(O:G.size<cap):
 _root_.Go.step P (lone Q cs w)= .next (lone (Q.finish undef) cs {Z with heap:=Z.heap.setIfInBounds c (.chan cap (G.push v) false (s+1) r tm)}):=by
 rw[Qjg h];simp[communicate,ways,hc,Qon,O,choose,Sem.run,Question.forced,bind,Sem.bind,pure,Goroutine.finishComm,commResult,lone]
def Qp7{Q:Frame}{cs:List Frame}{w Z:World}{c cap s r:Nat}{G:Array Value}{tm cl:Bool}{z:Value}
 (h:(stepG P true {frame:=Q,callers:=cs,status:= .running,dying:=none} w).bare= .comm {frame:=Q,callers:=cs,status:= .running,dying:=none} #[{chan:= .chan (some c),send:=none,zero:=z}] true (.recv false) Z)
 (hc:Z.heap[c]? =some (.chan cap G cl s r tm))(O:0<G.size):
 _root_.Go.step P (lone Q cs w)= .next (lone (Q.finish (G.getD 0 undef)) cs {Z with heap:=Z.heap.setIfInBounds c (.chan cap (G.extract 1 G.size) cl s (r+1) tm)}):=by
 rw[Qjg h];simp[communicate,ways,hc,Qon,O,choose,Sem.run,Question.forced,bind,Sem.bind,pure,Goroutine.finishComm,commResult,lone]
def Pc{ch x:Operand}(ho:ops[i]? =some o)(hw:Region.wanted o (yielded ops a.tmps)=true)(aa:o.op= .send ch x){c cap s r:Nat}{G:Array Value}{tm:Bool}(ab:a.eval ch= .chan (some c))
 (hc:w.heap[c]? =some (.chan cap G false s r tm))(O:G.size<cap)(hn:next (a.put o.dst undef) {w with heap:=w.heap.setIfInBounds c (.chan cap (G.push (a.eval x)) false (s+1) r tm)}):JN P ops i a w next:=by
 refine .inr ⟨λo' Z=>by rw[ho] at Z;obtain rfl:=AD Z;rw[aa];rfl,?_⟩;intro b k cs rest;have hg:=stepG_op (P:=P) (b:=b) (a:=a) (k:=k) (cs:=cs) (w:=w) (rest:=rest) ho hw;have Q: ∀v,(b.at a (.inRegion ops (i::rest)::k)).finish v=b.at (a.put o.dst v) (.inRegion ops rest::k):=λv=>by
  rw[Frame.finish_at,ho];rfl
 refine⟨_,_,hn,.one ?_⟩;rw[<-Q];have hr:(execOp a.eval o).run P w= .ok (.comm #[{chan:= .chan (some c),send:=some (a.eval x),zero:= .tuple #[]}] true .send) w:=by
  simp[execOp,aa,ab]
 exact Qp5 (z:= .tuple #[]) (v:=a.eval x) (by rw[hg];simp[stepG.apply,hr,Frame.at]) hc O
def Pb{ch:Operand}{T e:TypeId}{d:ChanDir}{z:Value}(ho:ops[i]? =some o)(hw:Region.wanted o (yielded ops a.tmps)=true)(aa:o.op= .recv T ch false)(hT:P.underlying T=some (.chan d e))(hz:(zeroValue e).run P w= .ok z w)
 {c cap s r:Nat}{G:Array Value}{tm cl:Bool}(ab:a.eval ch= .chan (some c))
 (hc:w.heap[c]? =some (.chan cap G cl s r tm))(O:0<G.size)(hn:next (a.put o.dst (G.getD 0 undef)) {w with heap:=w.heap.setIfInBounds c (.chan cap (G.extract 1 G.size) cl s (r+1) tm)}):JN P ops i a w next:=by
 refine .inr ⟨λo' Z=>by rw[ho] at Z;obtain rfl:=AD Z;rw[aa];rfl,?_⟩;intro b k cs rest;have hg:=stepG_op (P:=P) (b:=b) (a:=a) (k:=k) (cs:=cs) (w:=w) (rest:=rest) ho hw;have Q: ∀v,(b.at a (.inRegion ops (i::rest)::k)).finish v=b.at (a.put o.dst v) (.inRegion ops rest::k):=λv=>by
  rw[Frame.finish_at,ho];rfl
 refine⟨_,_,hn,.one ?_⟩;rw[<-Q];have hu:(underlying T).run P w= .ok (.chan d e) w:=by simp[underlying,hT]
 have hr:(execOp a.eval o).run P w= .ok (.comm #[{chan:= .chan (some c),send:=none,zero:=z}] true (.recv false)) w:=by
  simp[execOp,aa,ab,hu,hz]
 exact Qp7 (z:=z) (by rw[hg];simp[stepG.apply,hr,Frame.at]) hc O
end
structure CL(C:AW)(N:Nat)(s:Ai)(S:A9)(a:Act):Prop where
 wf:Wf C S
 h: ∀n,S.h n=hget s.h n
 tm: ∀t,Aa S (AF s.tm t) (a.eval (.tmp t))
 nmT: ∀t,∀m∈(AF s.tm t).nms,m<s.nx
 nmH: ∀n e,hget s.h n=some e->n<s.nx/\ ∀m∈e.2.nms,m<s.nx
 size:a.tmps.size=N
 defers:a.defers=C.ds
 n0:C.n0<=s.nx
 pre:C.Pre S
def Qy2{C:AW}{S S':A9}{nx cnt:Nat}(h:C.Pre S)(hn:C.n0<=nx)(hp:B3 (λm=> ¬Fr nx cnt m) S S'):C.Pre S':=by
 intro o ho e' z;obtain⟨e,Z,h2,h3,h4⟩:=hp.nm o (λhf=>by have:=hf.1;omega) e' z;obtain⟨G,g1,g2,O,Q⟩:=h o ho e Z;exact⟨G,g1,h2.trans g2,h3.trans O,h4.trans Q⟩
def BG(C:AW)(N:Nat)(s:Ai)(a:Act)(w:World):Prop:= ∃S,S.w=w/\CL C N s S a
def nY(S:A9)(tm:List (Nat×AV))(f:FuncId):Aa S (Az tm (.func f)) (.func (.func f) #[] #[]):=by
 simp only[Az];cases hb:Nat.blt f 1000000000 with
 |true=>simp only[Ck,Aa,rd,rdl];exact⟨#[],#[],by rw[Xc (by simpa using hb)],rfl,rfl⟩
 |false=>simp only[BC,Aa]
def QR{C:AW}{N:Nat}{s:Ai}{S:A9}{a:Act}(h:CL C N s S a)(x:Operand):Aa S (Az s.tm x) (a.eval x):=by
 cases x with
 |tmp t=>exact h.tm t
 |const v=>exact dM S v
 |global g=>simp only[Az,Aa,rd,Act.eval]
 |func f=>exact nY S s.tm f
def LG{tm:List (Nat×AV)}{nx:Nat}(h: ∀t,∀m∈(AF tm t).nms,m<nx)(x:Operand): ∀m∈(Az tm x).nms,m<nx:=by
 cases x with
 |tmp t=>exact h t
 |const v=>
  intro m z;simp only[Az] at z;unfold kD at z;split at z<;>simp[AV.nms] at z
 |global g=>intro m z;simp[Az,AV.nms] at z
 |func f=>intro m z;simp only[Az] at z;cases hb:Nat.blt f 1000000000<;>rw[hb] at z<;>simp[AV.nms] at z
mutual
def uG{n:Nat}: ∀(x:AV),x.bel n=true-> ∀m∈x.nms,m<n
 | .any,_=>by simp[AV.nms]
 | .im _,_=>by simp[AV.nms]
 | .agg z,h=>by simpa only[AV.nms] using ZD z (by simpa only[AV.bel] using h)
 | .tup z,h=>by simpa only[AV.nms] using ZD z (by simpa only[AV.bel] using h)
 | .ptr o _,h=>by simpa[AV.nms,AV.bel] using h
 | .eptr o _ _,h=>by simpa[AV.nms,AV.bel] using h
 | .own o,h=>by simpa[AV.nms,AV.bel] using h
 | .mp o,h=>by simpa[AV.nms,AV.bel] using h
 | .ch o,h=>by simpa[AV.nms,AV.bel] using h
 | .it o,h=>by simpa[AV.nms,AV.bel] using h
 | .osl o _ _,h=>by simpa[AV.nms,AV.bel] using h
 | .clo _ a c,h=>by
   simp only[AV.bel,AS] at h;simp only[AV.nms,Bx];rintro m (G|G)
   .exact ZD a h.1 m G
   .exact ZD c h.2 m G
def ZD{n:Nat}: ∀(xs:List AV),Aq n xs=true-> ∀m∈AH xs,m<n
 |[],_=>by simp[AH]
 |x::xs,h=>by
  simp only[Aq,AS] at h;simp only[AH,Bx];rintro m (z|z)
  .exact uG x h.1 m z
  .exact ZD xs h.2 m z
end
def oH{n:Nat}: ∀(z:List (List AV)),z.all (Aq n)=true-> ∀m∈B7 z,m<n
 |[],_=>by simp[B7]
 |r::z,h=>by
  simp only[Lw,AS] at h;simp only[B7,Bx];rintro m (G|G)
  .exact ZD r h.1 m G
  .exact oH z h.2 m G
def eU{n:Nat}: ∀(hs:Av),Ac n hs=true-> ∀o e,hget hs o=some e-> ∀m∈e.2.nms,m<n
 |[],_,o,e,h=>by simp[hget] at h
 |(q,O,G)::hs,hb,o,e,h=>by
  have z:(∀m∈G.nms,m<n)/\Ac n hs=true:=by
   cases G<;>simp only[Ac,AS] at hb
   .exact⟨ZD _ hb.1,hb.2⟩
   .exact⟨by simp[Ad.nms],hb⟩
   .exact⟨oH _ hb.1,hb.2⟩
   .exact⟨by simp[Ad.nms],hb⟩
   .exact⟨by simp[Ad.nms],hb⟩
   .exact⟨by simp[Ad.nms],hb⟩
   .exact⟨by simp[Ad.nms],hb⟩
  simp only[hget] at h;cases hq:q==o<;>rw[hq] at h
  .exact eU hs z.2 o e (by simpa using h)
  .simp only[Ck,AJ] at h;subst h;exact z.1
def Qlm{ks:List Nat}{nx cnt:Nat}: ∀(hs:Av),Hv ks nx cnt hs=true-> ∀o e,hget hs o=some e->(nx<=o/\o<nx+cnt)\/(o∈ks/\o<nx)
 |[],_,o,e,h=>by simp[hget] at h
 |(q,x)::hs,hb,o,e,h=>by
  simp only[Hv,AS] at hb;simp only[hget] at h;cases hq:q==o<;>rw[hq] at h
  .exact Qlm hs hb.2 o e (by simpa using h)
  .have z:q=o:=by simpa using hq
   subst z
   have:=hb.1
   simp only[JV,Hd,AS,Hy,E4,HK] at this;exact this
def zU(a b:Av)(n:Nat):hget (a++b) n=match hget a n with|some e=>some e|none=>hget b n:=by
 induction a with
 |nil=>rfl
 |cons x a ih=>
  obtain⟨q,e⟩:=x;simp only[CT,hget];cases q==n<;>simp[ih]
def zW(ks:List Nat)(n:Nat): ∀(a:Av),hget (Bh a ks) n=bif ks.contains n then none else hget a n
 |[]=>by simp[Bh,hget]
 |(q,e)::a=>by
  simp only[Bh];have ih:=zW ks n a;cases hq:ks.contains q
  .simp only[BC,hget,ih];cases hqn:q==n
   .simp
   .have:q=n:=by simpa using hqn
    subst this;have z:q∉ks:=by simpa using hq
    simp[z]
  .simp only[Ck,ih,hget];cases hqn:q==n
   .simp
   .have:q=n:=by simpa using hqn
    subst this;have z:q∈ks:=by simpa using hq
    simp[z]
def yM{a:Act}{dst:Option Nat}{v:Value}{t:Nat}(hd: ∀d,dst=some d->d<a.tmps.size):
 (a.put dst v).eval (.tmp t)=if dst=some t then v else a.eval (.tmp t):=by
 cases dst with
 |none=>simp[Act.put]
 |some d=>
  have:=hd d rfl
  simp only[Act.put,Act.eval,HI,fW,AJ];by_cases h:d=t
  .subst h;simp[this]
  .simp[h]
def V7{s:Ai}{dst:Option Nat}{x:AV}{t:Nat}:AF (s.put dst x).tm t=if dst=some t then x else AF s.tm t:=by
 cases dst with
 |none=>simp[Ai.put]
 |some d=>
  simp only[Ai.put,AF,AJ];by_cases h:d=t
  .subst h;simp
  .have:(d==t)=false:=by simpa using h
   simp[this,h]
def Qxs{C:AW}{N:Nat}{s:Ai}{S S':A9}{a:Act}{dst:Option Nat}{r:AV}{E:Br}{v:Value}(hc:CL C N s S a)(Z:E.ok s.nx r=true)(hd: ∀d,dst=some d->d<N)
 (hW:Wf C S')(hh:S'.h=E.appf S.h)(hp:B3 (λm=> ¬Fr s.nx E.cnt m) S S')(hv:Aa S' r v):CL C N (s.app dst r E) S' (a.put dst v):=by
 simp only[Br.ok,AS] at Z;obtain⟨ad,af,ag⟩:=Z;have G: ∀n,hget (E.new++Bh s.h E.kill) n=E.appf (hget s.h) n:=by
  intro n;rw[zU,zW];simp only[Br.appf];cases hget E.new n<;>rfl
 have ac:S.h=hget s.h:=funext hc.h;have O:(s.app dst r E).nx=s.nx+E.cnt:=by cases dst<;>rfl
 have aa:(s.app dst r E).h=E.new++Bh s.h E.kill:=by cases dst<;>rfl
 have ab: ∀t,AF (s.app dst r E).tm t=if dst=some t then r else AF s.tm t:=λt=>V7
 refine⟨hW,?_,?_,?_,?_,?_,?_,?_,Qy2 hc.pre hc.n0 hp⟩
 .intro n;rw[aa,G,hh,ac]
 .intro t;rw[ab,yM (λd h=>by rw[hc.size];exact hd d h)];split
  .exact hv
  .refine Ii hp _ _ ?_ (hc.tm t);intro m Q ah
   have:=hc.nmT t m Q
   have:=ah.1
   omega
 .intro t;rw[ab,O];split
  .exact uG r ad
  .intro m Q;have:=hc.nmT t m Q;omega
 .intro n e z;rw[aa,zU] at z;rw[O];cases hn:hget E.new n with
  |some e'=>
   rw[hn] at z;obtain rfl:=AD z;refine⟨?_,eU _ af n _ hn⟩;rcases Qlm _ ag n _ hn with h|h<;>omega
  |none=>
   rw[hn] at z;simp only[zW] at z;cases hk:E.kill.contains n<;>rw[hk] at z
   .obtain⟨h1,h2⟩:=hc.nmH n e (by simpa using z);exact⟨by omega,λm Q=>by have:=h2 m Q;omega⟩
   .simp at z
 .cases dst<;>simp[Act.put,hc.size]
 .cases dst<;>simp[Act.put,hc.defers]
 .rw[O];exact D9 hc.n0 (Nat.le_add_right _ _)
def Qty{P:Program}{V:Db}(HV:Hs P V){C:AW}{N:Nat}{s:Ai}{a:Act}{w:World}{ops:Array Oper}{i:Nat}{o:Oper}{go:Ai->Prop}(aq:ops[i]? =some o)(hw:Region.wanted o (yielded ops a.tmps)=true)(hd: ∀d,o.dst=some d->d<N)
 (G:Jv P V o.dst o.op o.type go s)(hc:BG C N s a w){next:Act->World->Prop}(hn: ∀s' a' w',go s'->BG C N s' a' w'->next a' w'):JN P ops i a w next:=by
 obtain⟨S,rfl,hc⟩:=hc;have be:S.h=hget s.h:=funext hc.h;unfold Jv at G;have ay:step P V true s.tm (hget s.h) s.nx o.type (DT go s o.dst) o.op->JN P ops i a S.w next:=by
  intro G;refine Qab1 aq hw ?_;have ak: ∀n,s.nx<=n->S.h n=none:=by
   intro n ai;cases hn:S.h n with
   |none=>rfl
   |some e=>
    have:=(hc.nmH n e (by rw[<-hc.h n];exact hn)).1
    omega
  have am: ∀n e,S.h n=some e-> ∀m∈e.2.nms,m<s.nx:=λn e he m hm=>(hc.nmH n e (by rw[<-hc.h n];exact he)).2 m hm
  rcases Qrc HV (LG hc.nmT) G with ⟨r,E,ah,ac,af⟩|⟨_,⟨u,av⟩|a9⟩
  .refine ah C S a next _ hc.wf (λn _=>hc.h n) (λn ai=>ak n ai.1) ?_ (λx _=>QR hc x) ?_
   .intro n e he m hm ai
    have:=am n e he m hm
    have:=ai.1
    omega
   .intro v S' hW hh hp hv;exact hn _ _ _ af ⟨S',rfl,Qxs hc ac hd hW hh hp hv⟩
  .exact absurd (av C S a hc.wf (λn _=>hc.h n) (λx _=>QR hc x)) id
  .refine a9 C S a next _ hc.wf hc.h ak am (λx _=>QR hc x) ?_
   intro r E v S' hK hW hh hp hv;obtain⟨ac,af⟩:=hK;exact hn _ _ _ af ⟨S',rfl,Qxs hc ac hd hW hh hp hv⟩
 have chan: ∀(q cap:Nat) (bu ad:List D) (l:F8) (Z:Array Value) (Q O:Nat) (r:AV) (v:Value),S.h q=some (true,.chan bu cap)->S.ρ q=some l->rdl S.ok S.hp ad Z.toList->
  (∀S':A9,(∀b,S.ok b->S'.ok b/\S'.hp b=S.hp b)->Aa S' r v)->
  DT go s o.dst r {use:=[q],kill:=[q],new:=[(q,(true,.chan ad cap))]}->next (a.put o.dst v) {S.w with heap:=S.w.heap.setIfInBounds l.b (.chan cap Z false Q O false)}:=by
  intro q cap bu ad l Z Q O r v hS hl hb hv hK
  let w':World:={S.w with heap:=S.w.heap.setIfInBounds l.b (.chan cap Z false Q O false)}
  have an:J3 S q (.chan ad cap) (some l) [q] w':=eY hc.wf hS hl (w':=w') (ob:= .chan cap Z false Q O false) rfl rfl rfl rfl rfl rfl;have aj:=eI hc.wf an;have ax:Aw (S.one q (.chan ad cap) (some l) [q] w') (some l) (.chan ad cap):=by
   simp only[Aw];exact⟨l,Z,Q,O,rfl,fK (hc.wf.loc q _ l hS hl).1 rfl,Li aj.ok _ _ hb⟩
  have az:=mE hc.wf an ax;obtain⟨ac,af⟩:=hK;refine hn _ _ _ af ⟨_,rfl,Qxs hc ac hd az ?_ ⟨aj.ok,λn hX=>aj.nm n (.inl (by rw[hS];simp))⟩ (hv _ aj.ok)⟩;funext n;simp only[A9.one,Br.appf,Go.Ae.hget];by_cases au:n=q
  .subst au;simp
  .have:(q==n)=false:=by rw[Iu];exact λh=>au h.symm
   simp[this,au]
 unfold DZ at G;split at G
 .rename_i c x ah;unfold KX at G;split at G
  .rename_i q d ao bb;have h1:=QR hc c;have h2:=QR hc x;rw[ao] at h1;rw[bb] at h2;cases hq:hget s.h q with
   |none=>rw[hq] at G;exact G.elim
   |some ab=>
    obtain⟨mu,ab⟩:=ab;rw[hq] at G;cases mu<;>cases ab<;>try exact G.elim
    rename_i bu cap;simp only[jU] at G;obtain⟨a8,G⟩:=G;have hS:=(hc.h q).trans hq;simp only[Aa] at h1 h2;obtain⟨l,hl,hv⟩:=h1.2 _ hS;have ag:=hc.wf.obj _ _ hS;simp only[Aw] at ag;obtain⟨lc,aa,Q,O,g1,g2,g3⟩:=ag;rw[hl] at g1;obtain rfl:=AD g1;have aw:=eX _ _ g3;simp only[EJ] at aw;refine Pc aq hw ah hv g2 (by omega) ?_;refine chan q cap bu (bu++[d]) l (aa.push (a.eval x)) (Q+1) O .any undef hS hl ?_ (λ_ _=>by simp only[Aa]) G;rw[ZdW]
    have: ∀(ds:List D) (vs:List Value),rdl S.ok S.hp ds vs->rdl S.ok S.hp (ds++[d]) (vs++[a.eval x]):=by
     intro ds;induction ds with
     |nil=>intro vs h;simp only[rdl] at h;subst h;simp only[Hg,rdl];exact⟨_,_,rfl,h2,rfl⟩
     |cons y ys ih=>
      intro vs h;simp only[rdl] at h;obtain⟨v,r,rfl,k1,k2⟩:=h;simp only[CT,rdl];exact⟨_,_,rfl,k1,ih r k2⟩
    exact this _ _ g3
  .exact G.elim
 .rename_i T c ah;unfold KW at G;cases hce:VI P T with
  |none=>rw[hce] at G;exact G.elim
  |some e=>
  rw[hce] at G;simp only[rvK] at G;cases hE:tI P e with
  |none=>rw[hE] at G;exact G.elim
  |some te=>
  rw[hE] at G;simp only[Bg,rvE] at G;obtain⟨bc,hz,G⟩:=G;obtain⟨z,bd,_⟩:=dZ hE bc hz;obtain⟨dr,hu⟩:=Qpi hce;have h1:=QR hc c;cases ao:Az s.tm c<;>rw[ao] at G h1<;>try exact G.elim
  rename_i q;simp only[rvC] at G;cases hq:hget s.h q with
  |none=>rw[hq] at G;exact G.elim
  |some ab=>
   obtain⟨mu,ab⟩:=ab;rw[hq] at G;cases mu<;>cases ab<;>try exact G.elim
   rename_i bu cap;simp only[jS] at G;obtain⟨a0,G⟩:=G;obtain⟨d,r,rfl⟩:=Zeq a0;have G:=G d r rfl;have hS:=(hc.h q).trans hq;simp only[Aa] at h1;obtain⟨l,hl,hv⟩:=h1.2 _ hS;have ag:=hc.wf.obj _ _ hS;simp only[Aw] at ag;obtain⟨lc,aa,Q,O,g1,g2,g3⟩:=ag;rw[hl] at g1;obtain rfl:=AD g1;simp only[rdl] at g3;obtain⟨v0,vr,k1,k2,k3⟩:=g3;have ba:0<aa.size:=by rw[<-EJ,k1];simp
   have h0:aa.getD 0 undef=v0:=by
    have:aa.toList[0]? =some v0:=by rw[k1];rfl
    rw[HI,<-Hc,this];rfl
   have hx:(aa.extract 1 aa.size).toList=vr:=by
    rw[Zfb,k1];simp only[List.extract,Qp,Hh];apply DQ;rw[<-EJ,k1];simp
   refine Pb aq hw ah hu (bd _) hv g2 ba ?_;rw[h0];refine chan q cap (d::r) r l _ Q (O+1) (.im d) v0 hS hl (by rw[hx];exact k3) (λS' ac=> ?_) G;simp only[Aa];exact GS ac _ _ k2
 .exact ay G
def LB{C:AW}{N:Nat}{s:Ai}{a:Act}{w:World}(hc:BG C N s a w){dst:Option Nat}(hd: ∀d,dst=some d->d<N){x:AV}{v:Value}(hx:x.nms=[])(Z: ∀S,Aa S x v):BG C N (s.put dst x) (a.put dst v) w:=by
 obtain⟨S,rfl,hc⟩:=hc;have O:(s.put dst x).h=s.h:=by cases dst<;>rfl
 have z:(s.put dst x).nx=s.nx:=by cases dst<;>rfl
 refine⟨S,rfl,hc.wf,λn=>by rw[O];exact hc.h n,?_,?_,?_,?_,?_,by rw[z];exact hc.n0,hc.pre⟩
 .intro t;rw[V7,yM (λd h=>by rw[hc.size];exact hd d h)];split
  .exact Z S
  .exact hc.tm t
 .intro t;rw[V7,z];split
  .rw[hx];intro m Q;cases Q
  .exact hc.nmT t
 .intro n e G;rw[O] at G;rw[z];exact hc.nmH n e G
 .cases dst<;>simp[Act.put,hc.size]
 .cases dst<;>simp[Act.put,hc.defers]
def J6(N:Nat):List Oper->Bool
 |[]=>true
 |o::r=>(match o.dst with|some d=>Nat.blt d N|none=>true) && J6 N r
def Qqk{C:AW}{N:Nat}{s:Ai}{S:A9}{a:Act}(hc:CL C N s S a){ops:Array Oper}{j t:Nat}(G:(ops[j]?).bind (·.dst)=some t){b:Bool}(hb:AF s.tm t= .im (.bool b)):
 yielded ops a.tmps j=some b:=by
 have z:=hc.tm t;rw[hb] at z;simp only[Aa,rd,Act.eval] at z;unfold yielded;rw[G];simp only[Eg];rw[HI] at z;cases hq:a.tmps[t]? with
 |none=>rw[hq] at z;simp[undef] at z
 |some v=>rw[hq] at z;simp at z;rw[z]
def Qpr{P:Program}{V:Db}(HV:Hs P V){C:AW}{N:Nat}{ops:Array Oper}{K:Ai->Prop}{Q:Exit->Act->World->Prop}(hQ: ∀s a w,K s->BG C N s a w->Q .normal a w):
 ∀(rest more:List Oper) (i:Nat),ops.toList.drop i=rest++more->J6 N rest=true-> ∀(s:Ai) (a:Act) (w:World),KR P V (Gl ops rest) K s->BG C N s a w->Lp P ops (Q .normal) (List.range' i rest.length) a w:=by
 intro rest more;induction rest with
 |nil=>
  intro i _ _ s a w G hc;simp only[Gl,KR] at G;simpa[Lp] using hQ s a w G hc
 |cons o rest ih=>
  intro i hi hd s a w G hc;simp only[J6,AS] at hd;have ad:ops[i]? =some o:=by
   have:(ops.toList.drop i)[0]? =some o:=by rw[hi];rfl
   simpa using this
  have aj:ops.toList.drop (i+1)=rest++more:=by
   have:(ops.toList.drop i).drop 1=rest++more:=by rw[hi];rfl
   rwa [EF] at this
  have Z: ∀d,o.dst=some d->d<N:=by
   intro d ai
   have:=hd.1
   rw[ai] at this;simpa using this
  have O: ∀s' a' w',KR P V (Gl ops rest) K s'->BG C N s' a' w'->Lp P ops (Q .normal) (List.range' (i+1) rest.length) a' w':=λs' a' w' h1 h2=>ih (i+1) aj hd.2 s' a' w' h1 h2
  simp only[CP,List.range'_succ,Lp,ad];simp only[Gl,KR] at G;cases hg:o.guard with
  |none=>
   rw[hg] at G;simp only[Xh,xP] at G;rw[An (by simp[Region.wanted,hg])];exact Qty HV ad (by simp[Region.wanted,hg]) Z G hc O
  |some g=>
   obtain⟨j,aa⟩:=g;rw[hg] at G;simp only[Xh,xP] at G;cases ht:(ops[j]?).bind (·.dst) with
   |none=>rw[ht] at G;exact G.elim
   |some t=>
    rw[ht] at G;simp only[Ya] at G;cases hb:AF s.tm t<;>rw[hb] at G<;>try exact G.elim
    rename_i d;cases d<;>try exact G.elim
    case tup cs=>
     cases cs with
     |cons _ _=>exact G.elim
     |nil=>
      simp only[WO,Nd] at G;have hy:yielded ops a.tmps j=none:=by
       obtain⟨S,_,z⟩:=hc;have h1:=z.tm t;rw[hb] at h1;simp only[Aa,rd,rdl,Act.eval] at h1;obtain⟨vs,h1,h2⟩:=h1;unfold yielded;rw[ht];simp only[Eg];rw[HI] at h1;cases hq:a.tmps[t]? with
       |none=>rfl
       |some v=>rw[hq] at h1;simp at h1;rw[h1]
      rw[Af (by simp[Region.wanted,hg,hy])];exact O _ _ _ G (LB hc Z rfl (λS=>by simp only[Aa,rd,rdl];exact⟨#[],rfl,rfl⟩))
    case bool b=>
    simp only[WO] at G;obtain⟨S,ag,z⟩:=hc;have hy:=Qqk z ht hb;have ac: ∀b':Bool,b=b'->BG C N (s.put (some t) (.im (.bool b'))) a w:=by
     intro b' ah;subst ah;refine⟨S,ag,z.wf,z.h,?_,?_,z.nmH,z.size,z.defers,z.n0,z.pre⟩
     .intro t';rw[V7];split
      .rename_i h;cases h;have:=z.tm t;rwa [hb] at this
      .exact z.tm t'
     .intro t';rw[V7];split
      .intro m hm;simp[AV.nms] at hm
      .exact z.nmT t'
    by_cases ab:b=aa
    .rw[An (by simp[Region.wanted,hg,hy,ab])];exact Qty HV ad (by simp[Region.wanted,hg,hy,ab]) Z (G.1 ab) (ac aa ab) O
    .rw[Af (by simp[Region.wanted,hg,hy,ab])];have af:b= !aa:=by cases b<;>cases aa<;>simp_all
     have h2:=G.2 af;simp only[Nd] at h2;exact O _ _ _ h2 (LB (ac _ af) Z rfl (λS=>by simp only[Aa,rd,rdl];exact⟨#[],rfl,rfl⟩))
def Qt0{P:Program}{V:Db}(z:Hs P V){C:AW}{N id:Nat}{ops:Array Oper}{K:Ai->Prop}{Q:Exit->Act->World->Prop}(G: ∀s a w,K s->BG C N s a w->Q .normal a w)
 (hd:J6 N ops.toList=true){s:Ai}{a:Act}{w:World}(O:KR P V (Gl ops ops.toList) K s)(hc:BG C N s a w):(Code.region id ops false).wp P Q a w:=by
 refine Pm ?_
 have:=Qpr z (ops:=ops) G ops.toList [] 0 (by simp) hd s a w O hc
 rwa [EJ,<-Zef] at this
structure Ev where
 i:Nat
 o:Oper
 s:Ai
 r:AV
 E:Br
 skip:Bool
def HD(D:Nat->Bool):List Ev->(Nat->Option Au)->(Nat->Option Au)
 |[],h=>h
 |e::r,h=>HD D r (bif D e.i then e.E.appf h else h)
def TD(D:Nat->Bool):List Ev->(Nat->AV)->(Nat->AV)
 |[],f=>f
 |e::r,f=>TD D r (λt=>bif D e.i && (e.o.dst==some t) then e.r else f t)
def Qwh{n:Nat}: ∀(hs:Av),n∉Lj hs->hget hs n=none
 |[],_=>rfl
 |(q,e)::hs,h=>by
  simp only[Lj,Bm,aN] at h
  have:(q==n)=false:=by rw[Iu];exact λh'=>h.1 h'.symm
  simp only[hget,this,BC];exact Qwh hs h.2
def Qur{n:Nat}: ∀(hs:Av),n∈Lj hs-> ∃e,hget hs n=some e
 |[],h=>by simp[Lj] at h
 |(q,e)::hs,h=>by
  simp only[Lj,Bm] at h;simp only[hget];cases hq:q==n
  .have z:q≠n:=by simpa using hq
   rcases h with rfl|h
   .exact absurd rfl z
   .simpa using Qur hs h
  .exact⟨e,by simp⟩
def tG{E:Br}{h:Nat->Option Au}{n:Nat}(hn:n∉E.touch):E.appf h n=h n:=by
 simp only[Br.touch,Bx,aN] at hn;simp[Br.appf,Qwh _ hn.2,hn.1]
def Xr{E:Br}{h h':Nat->Option Au}{n:Nat}(hn:n∈E.touch):E.appf h n=E.appf h' n:=by
 simp only[Br.appf];cases hg:hget E.new n with
 |some e=>rfl
 |none=>
  simp only[Br.touch,Bx] at hn;rcases hn with hn|hn
  .simp[hn]
  .obtain⟨e,z⟩:=Qur _ hn;rw[z] at hg;cases hg
def Qym{E:Br}{h h':Nat->Option Au}{n:Nat}(z:h n=h' n):E.appf h n=E.appf h' n:=by
 simp only[Br.appf,z]
def lM{D D':Nat->Bool}{n:Nat}: ∀(evs:List Ev) (h h':Nat->Option Au),h n=h' n->(∀e∈evs,D e.i≠D' e.i->n∉e.E.touch)->HD D evs h n=HD D' evs h' n
 |[],_,_,z,_=>z
 |e::r,h,h',z,hd=>by
  simp only[HD];refine lM r _ _ ?_ (λx G=>hd x (by simp[G]));cases h1:D e.i<;>cases h2:D' e.i
  .simpa using z
  .have:=hd e (by simp) (by rw[h1,h2];simp)
   simp only[BC,Ck];rw[tG this];exact z
  .have:=hd e (by simp) (by rw[h1,h2];simp)
   simp only[BC,Ck];rw[tG this];exact z
  .simp only[Ck];exact Qym z
def lP{D D':Nat->Bool}{t:Nat}: ∀(evs:List Ev) (f f':Nat->AV),f t=f' t->(∀e∈evs,D e.i≠D' e.i->e.o.dst≠some t)->TD D evs f t=TD D' evs f' t
 |[],_,_,z,_=>z
 |e::r,f,f',z,hd=>by
  simp only[TD];refine lP r _ _ ?_ (λx G=>hd x (by simp[G]));by_cases hq:e.o.dst=some t
  .have:D e.i=D' e.i:=by
    rcases Decidable.em (D e.i=D' e.i) with h|h
    .exact h
    .exact absurd hq (hd e (by simp) h)
   rw[this,z]
  .have:(e.o.dst==some t)=false:=by rw[Iu];exact hq
   simp[this,z]
def uW(D:Nat->Bool): ∀(a b:List Ev) (h:Nat->Option Au),HD D (a++b) h=HD D b (HD D a h)
 |[],_,_=>rfl
 |e::a,b,h=>by simp only[CT,HD];exact uW D a b _
def uY(D:Nat->Bool): ∀(a b:List Ev) (f:Nat->AV),TD D (a++b) f=TD D b (TD D a f)
 |[],_,_=>rfl
 |e::a,b,f=>by simp only[CT,TD];exact uY D a b _
def Qw6{D:Nat->Bool}: ∀(evs:List Ev) (h:Nat->Option Au) (n:Nat),(∀e∈evs,D e.i=true->n∉e.E.touch)->HD D evs h n=h n
 |[],_,_,_=>rfl
 |e::r,h,n,hd=>by
  simp only[HD];rw[Qw6 r _ n (λx z=>hd x (by simp[z]))];cases h1:D e.i
  .rfl
  .exact tG (hd e (by simp) h1)
def Qyr{D:Nat->Bool}: ∀(evs:List Ev) (f:Nat->AV) (t:Nat),(∀e∈evs,D e.i=true->e.o.dst≠some t)->TD D evs f t=f t
 |[],_,_,_=>rfl
 |e::r,f,t,hd=>by
  simp only[TD];rw[Qyr r _ t (λx z=>hd x (by simp[z]))];cases h1:D e.i
  .rfl
  .have:(e.o.dst==some t)=false:=by rw[Iu];exact hd e (by simp) h1
   simp[this]
def Qtn{n:Nat}{x:Au}: ∀(hs:Av),hget hs n=some x->n∈Lj hs/\ ∀m∈x.2.nms,m∈Jg hs
 |[],h=>by simp[hget] at h
 |(q,Z,ob)::hs,h=>by
  simp only[hget] at h;simp only[Lj,Jg,Bm,Bx];cases hq:q==n<;>rw[hq] at h
  .obtain⟨O,Q⟩:=Qtn hs (by simpa using h);exact⟨.inr O,λm z=> .inr (Q m z)⟩
  .have G:q=n:=by simpa using hq
   simp only[Ck,AJ] at h;subst h;exact⟨.inl G.symm,λm z=> .inl z⟩
def JL{D:Nat->Bool}{n:Nat}{x:Au}: ∀(evs:List Ev) (h:Nat->Option Au),HD D evs h n=some x->h n=some x\/ ∃e∈evs,D e.i=true/\hget e.E.new n=some x
 |[],_,G=> .inl G
 |e::r,h,G=>by
  simp only[HD] at G;rcases JL r _ G with z|⟨f,hf,O⟩
  .cases hd:D e.i<;>rw[hd] at z
   .exact .inl z
   .simp only[Ck,Br.appf] at z;cases hg:hget e.E.new n with
    |some y=>
     rw[hg] at z;obtain rfl:=AD z;exact .inr ⟨e,by simp,hd,hg⟩
    |none=>
     rw[hg] at z;cases hk:e.E.kill.contains n<;>rw[hk] at z
     .exact .inl z
     .cases z
  .exact .inr ⟨f,by simp[hf],O⟩
def Rk{D:Nat->Bool}{t:Nat}: ∀(evs:List Ev) (f:Nat->AV),TD D evs f t=f t\/ ∃e∈evs,D e.i=true/\TD D evs f t=e.r
 |[],_=> .inl rfl
 |e::r,f=>by
  simp only[TD];rcases Rk r (λt=>bif D e.i && (e.o.dst==some t) then e.r else f t) with z|⟨x,O,G⟩
  .rw[z];cases hd:D e.i
   .exact .inl rfl
   .cases hq:e.o.dst==some t
    .exact .inl rfl
    .exact .inr ⟨e,by simp,hd,rfl⟩
  .exact .inr ⟨x,by simp[O],G⟩
structure vH(e f:Ev):Prop where
 a: ∀n,n∈f.E.use++f.E.kill->n∉e.E.touch
 b: ∀n,n∈f.E.touch->n∉e.E.touch
 c: ∀n,n∈f.E.touch->n∉e.E.use++e.E.kill
 d: ∀n,n∈f.E.touch++(f.r.nms++Jg f.E.new)-> ¬Fr e.s.nx e.E.cnt n
def Qlq: ∀(l k:List Nat),J7 l k=true-> ∀n∈l,n∉k
 |[],_,_,n,hn=>by cases hn
 |x::l,k,h,n,hn=>by
  simp only[J7,AS,Kq] at h;rcases Bm.1 hn with rfl|hn
  .intro z
   have:=h.1
   rw[HK.2 z] at this;cases this
  .exact Qlq l k h.2 n hn
def Qtw{nx cnt:Nat}: ∀(l:List Nat),G3 nx cnt l=true-> ∀n∈l,¬Fr nx cnt n
 |[],_,n,hn=>by cases hn
 |x::l,h,n,hn=>by
  simp only[G3,AS,Hd,E4,Hy] at h;rcases Bm.1 hn with rfl|hn
  .intro hf
   have:=hf.1
   have:=hf.2
   omega
  .exact Qtw l h.2 n hn
def VX(ops:Array Oper)(s:Ai)(skip:Bool):Option (Nat×Bool)->Prop
 |none=>skip=false
 |some (g,z)=> ∃t,(ops[g]?).bind (·.dst)=some t/\((∃b,AF s.tm t= .im (.bool b)/\skip=(b !=z))\/(AF s.tm t= .im (.tup [])/\skip=true))
structure nN(P:Program)(ops:Array Oper)(e:Ev):Prop where
 op:ops[e.i]? =some e.o
 gd:VX ops e.s e.skip e.o.guard
 doo:e.skip=false->BA P e.s.tm (hget e.s.h) e.s.nx e.o e.r e.E/\e.E.ok e.s.nx e.r=true
 skp:e.skip=true->e.r= .im (.tup [])/\e.E={}
abbrev Oq:Nat->Bool:=λ_=>true
def JC(j:Nat):Nat->Bool:=λi=>Nat.blt i j
def Jc{i j:Nat}(h:JC j i=true):i<j:=by simpa[JC] using h
structure GT(P:Program)(ops:Array Oper)(cl:List (List Nat))(s0:Ai)(evs:List Ev)(s:Ai)(acc:List Fp):Prop where
 idx: ∀(k:Nat) (e:Ev),evs[k]? =some e->e.i=k
 tm: ∀t,AF s.tm t=TD Oq evs (AF s0.tm) t
 h: ∀n,hget s.h n=HD Oq evs (hget s0.h) n
 nx:s0.nx<=s.nx
 ev: ∀e∈evs,nN P ops e/\s0.nx<=e.s.nx/\e.s.nx+e.E.cnt<=s.nx
 atT: ∀e∈evs,∀t,AF e.s.tm t=TD (JC e.i) evs (AF s0.tm) t
 atH: ∀e∈evs,∀n,hget e.s.h n=HD (JC e.i) evs (hget s0.h) n
 ord: ∀e∈evs,∀f∈evs,e.i<f.i->e.s.nx+e.E.cnt<=f.s.nx
 pair: ∀e∈evs,∀f∈evs,e.i<f.i->E6 cl e.i f.i=true\/vH e f
 acc: ∀e∈evs,e.skip=true\/(⟨e.i,e.E.use++e.E.kill,e.E.touch,e.s.nx,e.E.cnt⟩:Fp)∈acc
 nmT: ∀t,∀m∈(AF s.tm t).nms,m<s.nx
section
variable {P:Program}{ops:Array Oper}{cl:List (List Nat)}{s0 s:Ai}{evs:List Ev}{acc:List Fp}
def GT.lt(g:GT P ops cl s0 evs s acc): ∀e∈evs,e.i<evs.length:=by
 intro e G;obtain⟨k,O,z⟩:=fU.1 G
 have:=g.idx k e (by rw[Bk O,z])
 omega
def GT.nil(h: ∀t,∀m∈(AF s0.tm t).nms,m<s0.nx):GT P ops cl s0 [] s0 []:=by
 refine⟨by simp,λt=>rfl,λn=>rfl,AQ _,by simp,by simp,by simp,by simp,by simp,by simp,h⟩
def GT.snoc(g:GT P ops cl s0 evs s acc)(e:Ev)(hi:e.i=evs.length)(an:nN P ops e)(hs: ∀t,AF e.s.tm t=AF s.tm t)(hh: ∀n,hget e.s.h n=hget s.h n)(au:e.s.nx=s.nx)
 (ah: ∀f∈evs,E6 cl f.i e.i=true\/vH f e){s':Ai}{G:List Fp}(ak: ∀t,AF s'.tm t=if e.o.dst=some t then e.r else AF s.tm t)
 (am: ∀n,hget s'.h n=e.E.appf (hget s.h) n)(ao:s'.nx=s.nx+e.E.cnt)(aj: ∀f∈acc,f∈G)(af:e.skip=true\/(⟨e.i,e.E.use++e.E.kill,e.E.touch,e.s.nx,e.E.cnt⟩:Fp)∈G)
 (hr: ∀m∈e.r.nms,m<s'.nx):GT P ops cl s0 (evs++[e]) s' G:=by
 have O: ∀f∈evs,f.i<e.i:=λf hf=>by rw[hi];exact g.lt f hf
 have ad: ∀t,TD (JC e.i) evs (AF s0.tm) t=AF s.tm t:=by
  intro t;rw[g.tm t];refine lP evs _ _ rfl ?_;intro f hf ag;exact absurd (by simp[JC,O f hf]) ag
 have ac: ∀n,HD (JC e.i) evs (hget s0.h) n=hget s.h n:=by
  intro n;rw[g.h n];refine lM evs _ _ rfl ?_;intro f hf ag;exact absurd (by simp[JC,O f hf]) ag
 have ab: ∀f∈evs,JC f.i e.i=false:=by
  intro f hf
  have:=O f hf
  rw[Qs];intro h
  have:=Jc h
  omega
 have Q:JC e.i e.i=false:=by
  rw[Qs];intro h
  have:=Jc h
  omega
 have z: ∀f,f∈evs++[e]->f∈evs\/f=e:=by intro f hf;simpa using hf
 refine⟨?_,?_,?_,?_,?_,?_,?_,?_,?_,?_,?_⟩
 .intro k f hk;rcases vM k evs.length with h|h|h
  .rw[ED h] at hk;exact g.idx k f hk
  .subst h;rw[F4 (AQ _)] at hk;simp at hk;subst hk;exact hi
  .rw[F4 (by omega)] at hk
   have:(k - evs.length)≠0:=by omega
   cases hq:k - evs.length with
   |zero=>omega
   |succ q=>rw[hq] at hk;simp at hk
 .intro t;rw[ak,uY];simp only[TD,Oq,Eb];by_cases hq:e.o.dst=some t
  .simp[hq]
  .have:(e.o.dst==some t)=false:=by rw[Iu];exact hq
   rw[Af hq,this];exact g.tm t
 .intro n;rw[am,uW];simp only[HD,Oq,Ck];exact Qym (g.h n)
 .have:=g.nx;omega
 .intro f hf;have aq:=g.nx;rcases z f hf with hf|rfl
  .obtain⟨h1,h2,h3⟩:=g.ev f hf;exact⟨h1,h2,by omega⟩
  .exact⟨an,by omega,by omega⟩
 .intro f hf t;rw[uY];rcases z f hf with hf|rfl
  .simp only[TD,ab f hf,F6,BC];exact g.atT f hf t
  .simp only[TD,Q,F6,BC];rw[ad,hs]
 .intro f hf n;rw[uW];rcases z f hf with hf|rfl
  .simp only[HD,ab f hf,BC];exact g.atH f hf n
  .simp only[HD,Q,BC];rw[ac,hh]
 .intro x hx y hy ai;rcases z x hx with Z|rfl<;>rcases z y hy with aa|rfl
  .exact g.ord x Z y aa ai
  .have:=(g.ev x Z).2.2;omega
  .have:=O y aa;omega
  .omega
 .intro x hx y hy ai;rcases z x hx with Z|rfl<;>rcases z y hy with aa|rfl
  .exact g.pair x Z y aa ai
  .exact ah x Z
  .have:=O y aa;omega
  .omega
 .intro f hf;rcases z f hf with hf|rfl
  .rcases g.acc f hf with h|h
   .exact .inl h
   .exact .inr (aj _ h)
  .exact af
 .intro t m hm;rw[ak] at hm;split at hm
  .exact hr m hm
  .have:=g.nmT t m hm;omega
def Qrd{j:Nat}{use touch z:List Nat}: ∀(acc:List Fp),I5 cl j use touch z acc=true-> ∀f∈acc,mY cl j use touch z f=true
 |[],_,f,hf=>by cases hf
 |x::acc,h,f,hf=>by
  simp only[I5,AS] at h;rcases Bm.1 hf with rfl|hf
  .exact h.1
  .exact Qrd acc h.2 f hf
def PP{V:Db}(HV:Hs P V){K:Ai->Prop}: ∀(rest:List Oper) (i:Nat) (acc:List Fp) (s:Ai) (evs:List Ev),ops.toList.drop i=rest->evs.length=i->
 GT P ops cl s0 evs s acc->VW P V cl (Gl ops rest) i K acc s-> ∃z s' G,z.length=i+rest.length/\GT P ops cl s0 z s' G/\K s':=by
 intro rest;induction rest with
 |nil=>intro i acc s evs _ hl g Q;exact⟨evs,s,acc,by simpa using hl,g,Q⟩
 |cons o rest ih=>
  intro i acc s evs hi hl g Q;have ao:ops[i]? =some o:=by
   have:(ops.toList.drop i)[0]? =some o:=by rw[hi];rfl
   simpa using this
  have an:ops.toList.drop (i+1)=rest:=by
   have:(ops.toList.drop i).drop 1=rest:=by rw[hi];rfl
   rwa [EF] at this
  have ak: ∀Z:Ai,(∀t,AF Z.tm t=AF s.tm t)->Z.h=s.h->Z.nx=s.nx->VX ops Z false o.guard->Nj P V cl i acc o.dst o.op o.type (VW P V cl (Gl ops rest) (i+1) K) Z->
   ∃z s' G,z.length=i+(rest.length+1)/\GT P ops cl s0 z s' G/\K s':=by
   intro Z ht hh ab ah af;have hnm: ∀x,∀m∈(Az Z.tm x).nms,m<Z.nx:=LG (λt m hm=>by rw[ht] at hm;rw[ab];exact g.nmT t m hm);rcases Qrc HV hnm af with ⟨r,E,ax,aq,av,aw⟩|⟨h,_⟩
   .have aj:=Qrd acc av;have af:(Z.app o.dst r E).nx=Z.nx+E.cnt:=by cases o.dst<;>rfl
    have hb:=aq;simp only[Br.ok,AS] at hb;have g':GT P ops cl s0 (evs++[⟨i,o,Z,r,E,false⟩]) (Z.app o.dst r E) (⟨i,E.use++E.kill,E.touch,Z.nx,E.cnt⟩::acc):=by
     refine g.snoc ⟨i,o,Z,r,E,false⟩ hl.symm ⟨ao,ah,λ_=>⟨ax,aq⟩,λh=>by cases h⟩ ht (λn=>by rw[hh]) ab ?_ (λt=> ?_) (λn=> ?_) (by rw[af,ab]) (λf hf=>by simp[hf]) (.inr (by simp)) ?_
     .intro f hf;rcases g.acc f hf with hs|ha
      .obtain⟨h1,h2⟩:=((g.ev f hf).1).skp hs;refine .inr ⟨?_,?_,?_,?_⟩<;>rw[h2]
       .intro n _;simp[Br.touch,Lj]
       .intro n _;simp[Br.touch,Lj]
       .intro n _;simp
       .intro n _ am
        have:=am.1
        have:=am.2
        simp only at this;omega
      .have h:=aj _ ha;unfold mY at h;rw[ZeI] at h;split at h
       .rename_i hx;simp only[AS] at hx;obtain⟨h1,h2,h3⟩:=hx;have ai:=Qlq _ _ h1;exact .inr ⟨λn hn=>ai n (by simp only[Bx] at hn⊢;exact .inl hn),λn hn=>ai n (Rl _ hn),Qlq _ _ h2,Qtw _ h3⟩
       .exact .inl h
     .have:AF (Z.app o.dst r E).tm t=if o.dst=some t then r else AF Z.tm t:=V7
      rw[this,ht]
     .have:(Z.app o.dst r E).h=E.new++Bh Z.h E.kill:=by cases o.dst<;>rfl
      rw[this,zU,zW,hh];simp only[Br.appf];cases hget E.new n<;>rfl
     .rw[af];exact uG r hb.1
    obtain⟨z,s',G,h1,h2,h3⟩:=ih (i+1) _ _ _ an (by simp[hl]) g' aw;exact⟨z,s',G,by omega,h2,h3⟩
   .cases h
  simp only[Gl,VW] at Q;simp only[CP];cases hg:o.guard with
  |none=>
   rw[hg] at Q;simp only[Xh,xO] at Q;exact ak s (λ_=>rfl) rfl rfl (by rw[hg];rfl) Q
  |some gw=>
   obtain⟨j,O⟩:=gw;rw[hg] at Q;simp only[Xh,xO] at Q;cases ht:(ops[j]?).bind (·.dst) with
   |none=>rw[ht] at Q;exact Q.elim
   |some t=>
    rw[ht] at Q;simp only[XZ] at Q;cases hb:AF s.tm t<;>rw[hb] at Q<;>try exact Q.elim
    rename_i d;have ac: ∀s2:Ai,(∀t',AF s2.tm t'=AF s.tm t')->s2.h=s.h->s2.nx=s.nx->VX ops s true o.guard->VW P V cl (Gl ops rest) (i+1) K acc (s2.put o.dst (.im (.tup [])))->
     ∃z s' G,z.length=i+(rest.length+1)/\GT P ops cl s0 z s' G/\K s':=by
     intro s2 aa hh ab ah h2;have g':GT P ops cl s0 (evs++[⟨i,o,s,.im (.tup []),{},true⟩]) (s2.put o.dst (.im (.tup []))) acc:=by
      refine g.snoc ⟨i,o,s,.im (.tup []),{},true⟩ hl.symm ⟨ao,ah,(λh=>by cases h),(λ_=>⟨rfl,rfl⟩)⟩ (λ_=>rfl) (λ_=>rfl) rfl ?_ (λt'=> ?_) (λn=> ?_) ?_ (λf hf=>hf) (.inl rfl) ?_
      .intro f hf;refine .inr ⟨?_,?_,?_,?_⟩<;>simp[Br.touch,Lj,AV.nms,Jg]
      .rw[V7,aa]
      .have:(s2.put o.dst (.im (.tup []))).h=s2.h:=by cases o.dst<;>rfl
       rw[this,hh];simp[Br.appf,hget]
      .have:(s2.put o.dst (.im (.tup []))).nx=s2.nx:=by cases o.dst<;>rfl
       rw[this,ab];rfl
      .intro m hm;simp[AV.nms] at hm
     obtain⟨z,s',G,h1,h2,h3⟩:=ih (i+1) _ _ _ an (by simp[hl]) g' h2;exact⟨z,s',G,by omega,h2,h3⟩
    cases d<;>try exact Q.elim
    case tup cs=>
     cases cs with
     |cons _ _=>exact Q.elim
     |nil=>
      simp only[WO,Nc] at Q;exact ac s (λ_=>rfl) rfl rfl (by rw[hg];exact⟨t,ht,.inr ⟨hb,rfl⟩⟩) Q
    case bool b=>
    simp only[WO] at Q;have aa: ∀b':Bool,b=b'-> ∀t',AF (s.put (some t) (.im (.bool b'))).tm t'=AF s.tm t':=by
     intro b' au t';subst au;rw[V7];split
     .rename_i h;cases h;exact hb.symm
     .rfl
    by_cases ad:b=O
    .refine ak (s.put (some t) (.im (.bool O))) (aa O ad) rfl rfl ?_ (Q.1 ad);rw[hg];exact⟨t,ht,.inl ⟨b,by rw[aa O ad,hb],by simp[ad]⟩⟩
    .have ag:b= !O:=by cases b<;>cases O<;>simp_all
     have h2:=Q.2 ag;simp only[Nc] at h2;refine ac (s.put (some t) (.im (.bool (!O)))) (aa _ ag) rfl rfl ?_ h2;rw[hg];exact⟨t,ht,.inl ⟨b,hb,by simp[ag]⟩⟩
end
def Zf(ops:Array Oper)(cl:List (List Nat)):List Oper->Nat->List (Nat×Oper)->Bool
 |[],_,_=>true
 |o::r,j,acc=>(o.after.toList.all λe=> !Ix e.ground||Nat.blt e.on j) && (acc.all (λp=>E6 cl p.1 j||p.2.apart ops o) && Zf ops cl r (j+1) ((j,o)::acc))
def stOk(ops:Array Oper):Bool:=Zf ops (EI ops.toList []) ops.toList 0 []
def Qup(e:Edge):Region.binds .any e=Ix e.ground:=by
 unfold Region.binds;cases e.ground<;>rfl
structure Xk(ops:Array Oper)(cl:List (List Nat)):Prop where
 lo: ∀(j:Nat) (o:Oper),ops[j]? =some o-> ∀e∈o.after.toList,Ix e.ground=true->e.on<j
 ap: ∀(i j:Nat) (x y:Oper),i<j->ops[i]? =some x->ops[j]? =some y->E6 cl i j=true\/x.apart ops y=true
def PF{ops:Array Oper}{cl:List (List Nat)}: ∀(rest:List Oper) (j:Nat) (acc:List (Nat×Oper)),ops.toList.drop j=rest->(∀i x,i<j->ops[i]? =some x->(i,x)∈acc)->Zf ops cl rest j acc=true->
 (∀(k:Nat) (o:Oper),j<=k->ops[k]? =some o-> ∀e∈o.after.toList,Ix e.ground=true->e.on<k)/\
 (∀(i k:Nat) (x y:Oper),j<=k->i<k->ops[i]? =some x->ops[k]? =some y->E6 cl i k=true\/x.apart ops y=true):=by
 intro rest;induction rest with
 |nil=>
  intro j acc hd _ _;have hs:ops.size<=j:=by
   have:=CU List.length hd
   simp at this;omega
  refine⟨λk o hk ho=> ?_,λi k x y hk _ _ Z=> ?_⟩
  .have:=(Rm.1 ho).1;omega
  .have:=(Rm.1 Z).1;omega
 |cons o rest ih=>
  intro j acc hd z hs;have G:ops[j]? =some o:=by
   have:(ops.toList.drop j)[0]? =some o:=by rw[hd];rfl
   simpa using this
  have aa:ops.toList.drop (j+1)=rest:=by
   have:(ops.toList.drop j).drop 1=rest:=by rw[hd];rfl
   rwa [EF] at this
  simp only[Zf,AS,D3,Hd,Kq,E4] at hs;obtain⟨h1,h2,h3⟩:=hs;obtain⟨r1,r2⟩:=ih (j+1) ((j,o)::acc) aa (by
   intro i x hi O;rcases Fj i j with h|h
   .exact BX _ (z i x h O)
   .have:i=j:=by omega
    subst this;rw[G] at O;cases O;exact BT) h3
  refine⟨λk p hk hp=> ?_,λi k x y hk Q O Z=> ?_⟩
  .rcases Fj j k with h|h
   .exact r1 k p h hp
   .have:k=j:=by omega
    subst this;rw[G] at hp;cases hp;intro e he hb;rcases h1 e he with h|h
    .rw[h] at hb;cases hb
    .exact h
  .rcases Fj j k with h|h
   .exact r2 i k x y h Q O Z
   .have:k=j:=by omega
    subst this;rw[G] at Z;cases Z;exact h2 (i,x) (z i x Q O)
def PG{ops:Array Oper}(h:stOk ops=true):Xk ops (EI ops.toList []):=by
 obtain⟨G,O⟩:=PF (cl:=EI ops.toList []) ops.toList 0 [] rfl (by intro i x hi;omega) h;exact⟨λj o Q=>G j o (Cz _) Q,λi j x y z Z hy=>O i j x y (Cz _) z Z hy⟩
def T8(a b:List (List Nat)): ∀(k:Nat),k<a.length->DI (a++b) k=DI a k:=by
 induction a with
 |nil=>intro k z;simp at z
 |cons x a ih=>
  intro k z;cases k with
  |zero=>rfl
  |succ k=>exact ih k (by simpa using z)
def Yy(a:List (List Nat))(x:List Nat)(b:List (List Nat)):DI (a++x::b) a.length=x:=by
 induction a with
 |nil=>rfl
 |cons y a ih=>exact ih
def oO: ∀(a:List (List Nat)) (k:Nat),a.length<=k->DI a k=[]
 |[],_,_=>rfl
 |_::a,0,h=>by simp at h
 |_::a,k+1,h=>oO a k (by simpa using h)
def Qnq: ∀(rest:List Oper) (acc:List (List Nat)) (k:Nat),k<acc.length->DI (EI rest acc) k=DI acc k
 |[],_,_,_=>rfl
 |o::r,acc,k,h=>by
  simp only[EI];rw[Qnq r _ k (by simp;omega),T8 _ _ _ h]
def Qy4: ∀(rest:List Oper) (acc:List (List Nat)) (k:Nat) (o:Oper),rest[k]? =some o-> ∃z:List (List Nat),z.length=acc.length+k/\(∀m,m<z.length->DI z m=DI (EI rest acc) m)/\
 DI (EI rest acc) (acc.length+k)=Hk z o.after.toList
 |[],_,k,o,h=>by simp at h
 |x::r,acc,0,o,h=>by
  obtain rfl:x=o:=by simpa using h
  refine⟨acc,rfl,λm Z=>(Qnq _ _ m Z).symm,?_⟩;simp only[EI,Qr];rw[Qnq _ _ _ (by simp),Yy]
 |x::r,acc,k+1,o,h=>by
  obtain⟨z,O,Q,G⟩:=Qy4 r (acc++[Hk acc x.after.toList]) k o (by simpa using h);simp only[Dq,CP,Hf] at O G;refine⟨z,by omega,Q,?_⟩;simp only[EI];rw[<-G];congr 1;omega
def Yf{x y:Nat}{l:List Nat}(h:y∈ins x l):y=x\/y∈l:=by
 unfold ins at h;cases hc:l.contains x<;>rw[hc] at h
 .simpa using h
 .exact .inr (by simpa using h)
def Qzy{y:Nat}: ∀(a l:List Nat),y∈SN a l->y∈a\/y∈l
 |[],_,h=> .inr h
 |x::r,l,h=>by
  rcases Yf h with h|h
  .exact .inl (by simp[h])
  .rcases Qzy r l h with h|h
   .exact .inl (by simp[h])
   .exact .inr h
def Qsb{acc:List (List Nat)}{i:Nat}: ∀(es:List Edge),i∈Hk acc es-> ∃e∈es,Ix e.ground=true/\(i=e.on\/i∈DI acc e.on)
 |[],h=>by simp[Hk] at h
 |e::r,h=>by
  simp only[Hk] at h;cases hb:Ix e.ground<;>rw[hb] at h
  .obtain⟨x,G,z⟩:=Qsb r h;exact⟨x,by simp[G],z⟩
  .simp only[Ck] at h;have h:=Qzy _ _ h;simp only[Bm,or_assoc] at h;rcases h with h|h|h
   .exact⟨e,by simp,hb,.inl h⟩
   .exact⟨e,by simp,hb,.inr h⟩
   .obtain⟨x,G,z⟩:=Qsb r h;exact⟨x,by simp[G],z⟩
def X2{ops:Array Oper}{i j:Nat}{o:Oper}(ho:ops[j]? =some o)(h:i∈DI (EI ops.toList []) j):
 ∃e∈o.after.toList,Ix e.ground=true/\(i=e.on\/(e.on<j/\i∈DI (EI ops.toList []) e.on)):=by
 obtain⟨G,Z,h2,Q⟩:=Qy4 ops.toList [] j o (by simpa using ho);simp only[Hf,FV] at Z Q;rw[Q] at h;obtain⟨e,he,hb,z⟩:=Qsb _ h;refine⟨e,he,hb,?_⟩;rcases z with z|z
 .exact .inl z
 .rcases Fj e.on G.length with O|O
  .exact .inr ⟨by omega,by rw[<-h2 _ O];exact z⟩
  .rw[oO _ _ O] at z;cases z
def JK(ops:Array Oper)(D:Nat->Bool):Prop:= ∀(j:Nat) (o:Oper),D j=true->ops[j]? =some o-> ∀e∈o.after.toList,Ix e.ground=true->D e.on=true
def Qqg{ops:Array Oper}{D:Nat->Bool}(hc:JK ops D){i j:Nat}{o:Oper}(O:ops[j]? =some o)(Q: ∀e∈o.after.toList,Ix e.ground=true->D e.on=true)
 (h:E6 (EI ops.toList []) i j=true):D i=true:=by
 have hi:i∈DI (EI ops.toList []) j:=by simpa[E6] using h
 clear h;induction j using Nat.strongRecOn generalizing o with
 |_ j ih=>
  obtain⟨e,G,hb,h|⟨h,Z⟩⟩:=X2 O hi
  .rw[h];exact Q e G hb
  .have aa:=(Rm.1 O).1;have z:ops[e.on]? =some ops[e.on]:=J8 (by omega);exact ih e.on h z (hc e.on _ (Q e G hb) z) Z
structure kM(C:AW)(N:Nat)(evs:List Ev)(s0:Ai)(D:Nat->Bool)(S:A9)(a:Act):Prop where
 wf:Wf C S
 h: ∀n,S.h n=HD D evs (hget s0.h) n
 tm: ∀t,Aa S (TD D evs (AF s0.tm) t) (a.eval (.tmp t))
 size:a.tmps.size=N
 defers:a.defers=C.ds
 n0:C.n0<=s0.nx
 pre:C.Pre S
section
variable {P:Program}{ops:Array Oper}{s0 s:Ai}{evs:List Ev}{acc:List Fp}{C:AW}{N:Nat}
def Qzx{E:Br}{nx:Nat}{r:AV}(z:E.ok nx r=true):(∀m∈r.nms,m<nx+E.cnt)/\(∀n x,hget E.new n=some x->(Fr nx E.cnt n\/(n∈E.kill/\n<nx))/\ ∀m∈x.2.nms,m<nx+E.cnt):=by
 simp only[Br.ok,AS] at z;obtain⟨O,Q,Z⟩:=z;exact⟨uG r O,λn x G=>⟨Qlm _ Z n x G,eU _ Q n x G⟩⟩
def Xt(g:GT P ops (EI ops.toList []) s0 evs s acc)(bi: ∀n e,hget s0.h n=some e->n<s0.nx/\ ∀m∈e.2.nms,m<s0.nx)(a9: ∀t,∀m∈(AF s0.tm t).nms,m<s0.nx)
 (st:Xk ops (EI ops.toList []))(hN:J6 N ops.toList=true){D:Nat->Bool}(hc:JK ops D){e:Ev}(he:e∈evs)(hD:D e.i=false)
 (hr: ∀x∈e.o.after.toList,Ix x.ground=true->D x.on=true){S:A9}{a:Act}(hA:kM C N evs s0 D S a){K:Act->World->Prop}{Q:Exit->Act->World->Prop}
 (hK: ∀a' S',kM C N evs s0 (λi=>D i||i==e.i) S' a'->K a' S'.w):wpOp P ops Q e.i K a S.w:=by
 have ag:=((g.ev e he).1).op;have bh: ∀k,E6 (EI ops.toList []) k e.i=true->D k=true:=λk hk=>Qqg hc ag hr hk
 have az: ∀d,e.o.dst=some d->d<N:=by
  have: ∀(l:List Oper),J6 N l=true-> ∀o∈l,∀d,o.dst=some d->d<N:=by
   intro l;induction l with
   |nil=>intro _ o ho;cases ho
   |cons x l ih=>
    intro h o ho d hd;simp only[J6,AS] at h;rcases Bm.1 ho with rfl|ho
    .have:=h.1
     rw[hd] at this;simpa using this
    .exact ih h.2 o ho d hd
  exact this _ hN e.o (by
   have:=ZeM ag
   simpa using this)
 have aj: ∀f∈evs,D f.i≠JC e.i f.i->(f.i<e.i/\D f.i=false/\vH f e/\f.o.apart ops e.o=true)\/(e.i<f.i/\D f.i=true/\vH e f/\e.o.apart ops f.o=true):=by
  intro f hf G;have ak:=((g.ev f hf).1).op;rcases vM f.i e.i with h|h|h
  .have hl:JC e.i f.i=true:=by simpa[JC] using h
   have O:D f.i=false:=by
    cases hq:D f.i
    .rfl
    .rw[hq,hl] at G;exact absurd rfl G
   have ai:E6 (EI ops.toList []) f.i e.i=false:=by
    cases hq:E6 (EI ops.toList []) f.i e.i
    .rfl
    .have:=bh _ hq;rw[O] at this;cases this
   refine .inl ⟨h,O,?_,?_⟩
   .rcases g.pair f hf e he h with z|z
    .rw[ai] at z;cases z
    .exact z
   .rcases st.ap f.i e.i f.o e.o h ak ag with z|z
    .rw[ai] at z;cases z
    .exact z
  .have hl:JC e.i f.i=false:=by
    rw[h];rw[Qs];intro h';have:=Jc h';omega
   rw[hl,h,hD] at G;exact absurd rfl G
  .have hl:JC e.i f.i=false:=by
    rw[Qs];intro h';have:=Jc h';omega
   have O:D f.i=true:=by
    cases hq:D f.i
    .rw[hq,hl] at G;exact absurd rfl G
    .rfl
   have ai:E6 (EI ops.toList []) e.i f.i=false:=by
    cases hq:E6 (EI ops.toList []) e.i f.i
    .rfl
    .have:=Qqg hc ak (hc f.i f.o O ak) hq
     rw[hD] at this;cases this
   refine .inr ⟨h,O,?_,?_⟩
   .rcases g.pair e he f hf h with z|z
    .rw[ai] at z;cases z
    .exact z
   .rcases st.ap e.i f.i e.o f.o h ag ak with z|z
    .rw[ai] at z;cases z
    .exact z
 have ac: ∀f∈evs,D f.i=true->f.i<e.i\/(e.i<f.i/\vH e f/\e.o.apart ops f.o=true):=by
  intro f hf O;rcases Fj f.i e.i with h|h
  .exact .inl h
  .have hl:JC e.i f.i=false:=by
    rw[Qs];intro h';have:=Jc h';omega
   rcases aj f hf (by rw[O,hl];simp) with ⟨z,_⟩|⟨z,_,h2⟩
   .omega
   .exact .inr ⟨z,h2⟩
 have bb: ∀t,t∈e.o.looksAt ops->TD D evs (AF s0.tm) t=AF e.s.tm t:=by
  intro t ht;rw[g.atT e he t];refine lP evs _ _ rfl ?_;intro f hf G;rcases aj f hf G with ⟨_,_,_,h⟩|⟨_,_,_,h⟩
  .intro hd;exact (Oper.apart_spec h).1 t hd ht
  .intro hd;exact (Oper.apart_spec h).2.2 t hd ht
 have aa:evs=evs.take e.i++e::evs.drop (e.i+1):=by
  have hl:=g.lt e he;have hget:evs[e.i]? =some evs[e.i]:=Bk hl;obtain⟨k,hk,a8⟩:=fU.1 he;have bg:=g.idx k e (by rw[Bk hk,a8]);subst bg
  conv=>lhs;rw[<-Oi e.i evs]
  rw[VK hl,a8]
 have an: ∀f∈evs.take e.i,f∈evs/\f.i<e.i:=by
  intro f hf;refine⟨ZdJ hf,?_⟩;obtain⟨k,hk,au⟩:=fU.1 hf;have bl:k<e.i:=by simp at hk;omega
  have:=g.idx k f (by
   rw[<-au,List.getElem_take];exact Bk _)
  omega
 have ab: ∀f∈evs.drop (e.i+1),f∈evs/\e.i<f.i:=by
  intro f hf;refine⟨Zfc hf,?_⟩;obtain⟨k,hk,au⟩:=fU.1 hf
  have:=g.idx (e.i+1+k) f (by
   rw[<-au,List.getElem_drop];exact Bk _)
  omega
 let D':Nat->Bool:=λi=>D i||i==e.i
 have ay:D' e.i=true:=by simp[D']
 have af: ∀f∈evs,f.i≠e.i->D f.i=D' f.i:=by
  intro f _ G
  have:(f.i==e.i)=false:=by rw[Iu];exact G
  simp[D',this]
 have bd: ∀n,HD D' evs (hget s0.h) n=e.E.appf (HD D evs (hget s0.h)) n:=by
  intro n;have e1:HD D' evs (hget s0.h)=HD D' (evs.drop (e.i+1)) (e.E.appf (HD D' (evs.take e.i) (hget s0.h))):=by
   conv=>lhs;rw[aa]
   rw[uW];simp only[HD,ay,Ck]
  have e2:HD D evs (hget s0.h)=HD D (evs.drop (e.i+1)) (HD D (evs.take e.i) (hget s0.h)):=by
   conv=>lhs;rw[aa]
   rw[uW];simp only[HD,hD,BC]
  have e3:HD D' (evs.take e.i) (hget s0.h)=HD D (evs.take e.i) (hget s0.h):=by
   funext m;refine lM _ _ _ rfl ?_;intro f hf G
   have:=an f hf
   exact absurd (af f this.1 (by omega)).symm G
  rw[e1,e2,e3];by_cases hn:n∈e.E.touch
  .rw[Xr hn (h':=HD D (evs.take e.i) (hget s0.h))];refine Qw6 _ _ n ?_;intro f hf O;have z:=ab f hf;rw[<-af f z.1 (by omega)] at O;rcases ac f z.1 O with h2|⟨_,h2,_⟩
   .omega
   .intro av;exact h2.b n av hn
  .rw[tG hn];refine lM _ _ _ (tG hn) ?_;intro f hf G
   have:=ab f hf
   exact absurd (af f this.1 (by omega)).symm G
 have be: ∀t,TD D' evs (AF s0.tm) t=if e.o.dst=some t then e.r else TD D evs (AF s0.tm) t:=by
  intro t;have e1:TD D' evs (AF s0.tm)=TD D' (evs.drop (e.i+1)) (λt=>bif e.o.dst==some t then e.r else TD D' (evs.take e.i) (AF s0.tm) t):=by
   conv=>lhs;rw[aa]
   rw[uY];simp only[TD,ay,Eb]
  have e2:TD D evs (AF s0.tm)=TD D (evs.drop (e.i+1)) (TD D (evs.take e.i) (AF s0.tm)):=by
   conv=>lhs;rw[aa]
   rw[uY];simp only[TD,hD,F6,BC]
  have e3:TD D' (evs.take e.i) (AF s0.tm)=TD D (evs.take e.i) (AF s0.tm):=by
   funext m;refine lP _ _ _ rfl ?_;intro f hf G
   have:=an f hf
   exact absurd (af f this.1 (by omega)).symm G
  rw[e1,e2,e3];by_cases hn:e.o.dst=some t
  .rw[An hn];rw[Qyr]
   .simp[hn]
   .intro f hf O;have z:=ab f hf;rw[<-af f z.1 (by omega)] at O;rcases ac f z.1 O with h2|⟨_,_,h2⟩
    .omega
    .exact (Oper.apart_spec h2).2.1 t hn
  .rw[Af hn];have hq:(e.o.dst==some t)=false:=by rw[Iu];exact hn
   refine lP _ _ _ (by simp[hq]) ?_;intro f hf G
   have:=ab f hf
   exact absurd (af f this.1 (by omega)).symm G
 have ba:s0.nx<=e.s.nx:=(g.ev e he).2.1;have ao: ∀f∈evs,D f.i=true->(∀m∈f.r.nms,¬Fr e.s.nx e.E.cnt m)/\(∀n x,hget f.E.new n=some x-> ¬Fr e.s.nx e.E.cnt n/\ ∀m∈x.2.nms,¬Fr e.s.nx e.E.cnt m):=by
  intro f hf O;rcases ac f hf O with h|⟨_,h,_⟩
  .have bm:=g.ord f hf e he h;obtain⟨aw,_⟩:=g.ev f hf;cases hs:f.skip
   .obtain⟨z,h2⟩:=Qzx (aw.doo hs).2;refine⟨λm hm Z=> ?_,λn x hx=>⟨λZ=> ?_,λm hm Z=> ?_⟩⟩
    .have:=z m hm;have:=Z.1;omega
    .have:=Z.1
     rcases (h2 n x hx).1 with h3|h3
     .have:=h3.2;omega
     .omega
    .have:=(h2 n x hx).2 m hm;have:=Z.1;omega
   .obtain⟨z,h2⟩:=aw.skp hs;rw[z,h2];exact⟨by simp[AV.nms],by simp[hget]⟩
  .refine⟨λm hm=>h.d m (by simp[hm]),λn x hx=>⟨h.d n ?_,λm hm=>h.d m ?_⟩⟩
   .have:=(Qtn _ hx).1
    simp[Br.touch,this]
   .have:=(Qtn _ hx).2 m hm
    simp[this]
 have a0: ∀t,∀m∈(TD D evs (AF s0.tm) t).nms,¬Fr e.s.nx e.E.cnt m:=by
  intro t m hm;rcases Rk (D:=D) (t:=t) evs (AF s0.tm) with h|⟨f,hf,O,h⟩
  .rw[h] at hm;intro Z
   have:=a9 t m hm
   have:=Z.1
   omega
  .rw[h] at hm;exact (ao f hf O).1 m hm
 have am: ∀n x,HD D evs (hget s0.h) n=some x-> ¬Fr e.s.nx e.E.cnt n/\ ∀m∈x.2.nms,¬Fr e.s.nx e.E.cnt m:=by
  intro n x hx;rcases JL evs (hget s0.h) hx with h|⟨f,hf,O,h⟩
  .obtain⟨z,h2⟩:=bi n x h;exact⟨λZ=>by have:=Z.1;omega,λm hm Z=>by have:=Z.1;have:=h2 m hm;omega⟩
  .exact (ao f hf O).2 n x h
 have ah: ∀v S',Wf C S'->S'.h=e.E.appf S.h->B3 (λm=> ¬Fr e.s.nx e.E.cnt m) S S'->Aa S' e.r v->K (a.put e.o.dst v) S'.w:=by
  intro v S' hW hh hp hv;refine hK _ S' ⟨hW,λn=> ?_,λt=> ?_,?_,?_,hA.n0,Qy2 hA.pre (D9 hA.n0 ba) hp⟩
  .rw[hh];exact (Qym (hA.h n)).trans (bd n).symm
  .have:=be t
   simp only[D'] at this;rw[this,yM (λd h=>by rw[hA.size];exact az d h)];split
   .exact hv
   .exact Ii hp _ _ (a0 t) (hA.tm t)
  .cases e.o.dst<;>simp[Act.put,hA.size]
  .cases e.o.dst<;>simp[Act.put,hA.defers]
 have aq:=(g.ev e he).1;have ax:Region.wanted e.o (yielded ops a.tmps)= !e.skip:=by
  have ad:=aq.gd;unfold Region.wanted;cases hg:e.o.guard with
  |none=>
   rw[hg] at ad;simp only[VX] at ad;simp[ad]
  |some gw=>
   obtain⟨q,bc⟩:=gw;rw[hg] at ad;obtain⟨t,ht,ad⟩:=ad;have bf:TD D evs (AF s0.tm) t=AF e.s.tm t:=bb t (by simp[Oper.looksAt,hg,ht]);have z:=hA.tm t;rw[bf] at z;rcases ad with ⟨b,hb,hs⟩|⟨hb,hs⟩
   .rw[hb] at z;simp only[Aa,rd,Act.eval] at z;have hy:yielded ops a.tmps q=some b:=by
     unfold yielded;rw[ht];simp only[Eg];rw[HI] at z;cases hq:a.tmps[t]? with
     |none=>rw[hq] at z;simp[undef] at z
     |some v=>rw[hq] at z;simp at z;rw[z]
    simp only[hy,hs];cases b<;>cases bc<;>rfl
   .rw[hb] at z;simp only[Aa,rd,rdl,Act.eval] at z;obtain⟨vs,z,_⟩:=z;have hy:yielded ops a.tmps q=none:=by
     unfold yielded;rw[ht];simp only[Eg];rw[HI] at z;cases hq:a.tmps[t]? with
     |none=>rfl
     |some v=>rw[hq] at z;simp at z;rw[z]
    simp only[hy,hs];rfl
 unfold wpOp;simp only[ag,ax];cases hs:e.skip
 .simp only[Xo,BM];refine .inl ?_;obtain⟨bj,aw⟩:=aq.doo hs;refine bj C S a K Q hA.wf ?_ ?_ ?_ ?_ ah
  .intro n hn;rw[hA.h n,g.atH e he n];refine lM evs _ _ rfl ?_;intro f hf G;rcases aj f hf G with ⟨_,_,h,_⟩|⟨_,_,h,_⟩
   .exact h.a n hn
   .intro av;exact h.c n av hn
  .intro n Z;cases hn:S.h n with
   |none=>rfl
   |some x=>
    rw[hA.h n] at hn;exact absurd Z (am n x hn).1
  .intro n x hx m hm;rw[hA.h n] at hx;exact (am n x hx).2 m hm
  .intro x hx;cases x with
   |tmp t=>
    simp only[Az];rw[<-bb t (by
     simp only[Oper.looksAt,Bx,List.mem_filterMap];exact .inl ⟨.tmp t,by simpa using hx,rfl⟩)]
    exact hA.tm t
   |const v=>exact dM S v
   |global g=>simp only[Az,Aa,rd,Act.eval]
   |func f=>exact nY _ _ f
 .simp only[mQ,Df,CK];obtain⟨z,h2⟩:=aq.skp hs;refine ah undef S hA.wf ?_ (B3.refl _ _) ?_
  .rw[h2];funext n;simp[Br.appf,hget]
  .rw[z];simp only[Aa,rd,rdl];exact⟨#[],rfl,rfl⟩
abbrev dn(listed:Array Bool):Nat->Bool:=λi=>listed.getD i false
def yE(listed:Array Bool):Nat:=listed.toList.countP (λb=> !b)
def iA{listed:Array Bool}{j:Nat}(z:j<listed.size):dn (listed.setIfInBounds j true)=λi=>dn listed i||i==j:=by
 funext i;simp only[dn];by_cases h:j=i
 .subst h;simp[z]
 .rw[getD_set_ne false h]
  have:(i==j)=false:=by rw[Iu];exact λh'=>h h'.symm
  simp[this]
def Nx{listed:Array Bool}{j:Nat}(G:j<listed.size)(O:listed.getD j true=false):yE (listed.setIfInBounds j true)+1=yE listed:=by
 unfold yE;rw[ZdH];have z:j<listed.toList.length:=by simpa using G
 have Z:listed.toList[j]=false:=by
  rw[HI,J8 G] at O;simpa using O
 have Q:0<listed.toList.countP (λb=> !b):=by
  rw[List.countP_pos_iff];exact⟨false,by rw[<-Z];exact Ro _,rfl⟩
 rw[List.countP_set z,Z];simp only[Xo,BM,mQ,Df,CK];omega
def Qabb{listed:Array Bool}(hs:listed.size=ops.size)(st:Xk ops (EI ops.toList []))(Q:Region.ready .any ops listed=[]): ∀i,i<ops.size->dn listed i=true:=by
 intro i;induction i using Nat.strongRecOn with
 |_ i ih=>
  intro O;cases hq:dn listed i with
  |true=>rfl
  |false=>
   exfalso
   have:i∈Region.ready .any ops listed:=by
    rw[mem_ready];have z:ops[i]? =some ops[i]:=J8 O;refine⟨?_,ops[i],z,?_⟩
    .simp only[dn] at hq;rw[HI,J8 (by omega)] at hq⊢;simpa using hq
    .intro e G hb;rw[Qup] at hb
     have:=st.lo i _ z e (by simpa using G) hb
     exact ih e.on this (by omega)
   rw[Q] at this;cases this
def gP(g:GT P ops (EI ops.toList []) s0 evs s acc)(aq:evs.length=ops.size)(am: ∀n e,hget s0.h n=some e->n<s0.nx/\ ∀m∈e.2.nms,m<s0.nx)(ah: ∀t,∀m∈(AF s0.tm t).nms,m<s0.nx)
 (st:Xk ops (EI ops.toList []))(hN:J6 N ops.toList=true){Q:Exit->Act->World->Prop}(hQ: ∀a S,kM C N evs s0 Oq S a->Q .normal a S.w):
 ∀(fuel:Nat) (listed:Array Bool) (S:A9) (a:Act),yE listed<=fuel->listed.size=ops.size->JK ops (dn listed)->kM C N evs s0 (dn listed) S a->wpAny P .any ops Q fuel listed a S.w:=by
 have aa: ∀(listed:Array Bool) (S:A9) (a:Act),listed.size=ops.size->(∀i,i<ops.size->dn listed i=true)->kM C N evs s0 (dn listed) S a->Q .normal a S.w:=by
  intro listed S a hs z O;refine hQ a S ⟨O.wf,λn=> ?_,λt=> ?_,O.size,O.defers,O.n0,O.pre⟩
  .rw[O.h n];refine lM evs _ _ rfl ?_;intro f hf ac;exact absurd (z f.i (by have:=g.lt f hf;omega)) ac
  .have:TD Oq evs (AF s0.tm) t=TD (dn listed) evs (AF s0.tm) t:=by
    refine lP evs _ _ rfl ?_;intro f hf ac;exact absurd (z f.i (by have:=g.lt f hf;omega)).symm ac
   rw[this];exact O.tm t
 intro fuel;induction fuel with
 |zero=>
  intro listed S a hu hs hcl O;have z: ∀i,i<ops.size->dn listed i=true:=by
   intro i hi;cases hq:dn listed i with
   |true=>rfl
   |false=>
    have:= @Nx listed i (by omega) (by
     simp only[dn] at hq;rw[HI,J8 (by omega)] at hq⊢;simpa using hq)
    omega
  refine⟨?_,aa listed S a hs z O⟩;rw[List.eq_nil_iff_forall_not_mem];intro j hj;obtain⟨h0,o,ho,_⟩:=mem_ready.1 hj;have ak:=(Rm.1 ho).1
  have:=z j ak
  simp only[dn] at this;rw[HI,J8 (by omega)] at this h0;simp at this h0;rw[h0] at this;cases this
 |succ fuel ih=>
  intro listed S a hu hs hcl O;refine⟨λhr=>aa listed S a hs (Qabb hs st hr) O,λj hj=> ?_⟩;obtain⟨h0,o,ho,z⟩:=mem_ready.1 hj;have au:=(Rm.1 ho).1;have ag:j<evs.length:=by omega
  have G:=g.idx j evs[j] (Bk ag);have ab:evs[j]∈evs:=Ro ag;have ai:=((g.ev _ ab).1).op;rw[G,ho] at ai;have aj:dn listed j=false:=by
   simp only[dn];rw[HI,J8 (by omega)] at h0⊢;simpa using h0
  have Z: ∀e∈o.after.toList,Ix e.ground=true->dn listed e.on=true:=λe he hb=>z e (by simpa using he) (by rw[Qup];exact hb)
  have an:evs[j].o=o:=(AD ai).symm;have ao:=Xt g am ah st hN hcl ab (by rw[G];exact aj) (by rw[an];exact Z) O (Q:=Q) (K:=wpAny P .any ops Q fuel (listed.setIfInBounds j true)) ?_
  .rwa [G] at ao
  .intro a' S' ad;rw[G] at ad;have af:=iA (listed:=listed) (j:=j) (by omega);refine ih (listed.setIfInBounds j true) S' a' ?_ (by simpa using hs) ?_ (by rw[af];exact ad)
   .have:= @Nx listed j (by omega) h0
    omega
   .rw[af];intro k p hk hp e he hb;simp only[Hd,Qu] at hk⊢;rcases hk with hk|rfl
    .exact .inl (hcl k p hk hp e he hb)
    .rw[ho] at hp;cases hp;exact .inl (Z e he hb)
end
def Qog{P:Program}{V:Db}(HV:Hs P V){C:AW}{N:Nat}{ops:Array Oper}{K:Ai->Prop}{Q:Exit->Act->World->Prop}(hQ: ∀s a w,K s->BG C N s a w->Q .normal a w)
 (hd:J6 N ops.toList=true)(ac:stOk ops=true){s:Ai}{a:Act}{w:World}(hk:VW P V (EI ops.toList []) (Gl ops ops.toList) 0 K [] s)(hc:BG C N s a w):wpAny P .any ops Q ops.size (Array.replicate ops.size false) a {w with drawn:=w.drawn+1}:=by
 obtain⟨S,rfl,hc⟩:=hc;obtain⟨evs,s',acc,O,g,hK⟩:=PP HV ops.toList 0 [] s [] rfl rfl (GT.nil hc.nmT) hk;have hW:=hc.wf
 let S1:A9:={S with w:={S.w with drawn:=S.w.drawn+1}}
 have hp:B3 (λ_=>True) S S1:=⟨λb hb=>⟨hb,rfl⟩,λo _ e' ab=>⟨e',ab,rfl,rfl,rfl⟩⟩;have hA:kM C N evs s (dn (Array.replicate ops.size false)) S1 a:=by
  have Z: ∀i,dn (Array.replicate ops.size false) i=false:=by
   intro i;simp only[dn,HI,fZ]
   split<;>rfl
  refine⟨⟨hW.os,hW.tape,hW.output,hW.size,hW.keep,hW.ok0,hW.ok1,hW.oks,?_,hW.loc,hW.inj,hW.gl⟩,λn=> ?_,λt=> ?_,hc.size,hc.defers,hc.n0,hc.pre⟩
  .intro o e G;exact Ih hp (λ_ _=>rfl) _ (λ_ _=>trivial) (hW.obj o e G)
  .rw[Qw6]
   .exact hc.h n
   .intro e _ h;rw[Z] at h;cases h
  .rw[Qyr]
   .exact Ii hp _ _ (λ_ _=>trivial) (hc.tm t)
   .intro e _ h;rw[Z] at h;cases h
 have ad:=gP (C:=C) (N:=N) (Q:=Q) g (by simpa using O) hc.nmH hc.nmT (PG ac) hd ?_ ops.size (Array.replicate ops.size false) S1 a (by unfold yE;exact D9 List.countP_le_length (by simp)) (by simp) ?_ hA
 .exact ad
 .intro a' S' z;refine hQ s' a' S'.w hK ⟨S',rfl,z.wf,λn=> ?_,λt=> ?_,g.nmT,?_,z.size,z.defers,D9 hc.n0 g.nx,z.pre⟩
  .rw[z.h n,g.h n]
  .rw[g.tm t];exact z.tm t
  .intro n e G;rw[g.h n] at G;rcases JL evs _ G with h|⟨f,hf,_,h⟩
   .obtain⟨h1,h2⟩:=hc.nmH n e h
    have:=g.nx
    exact⟨by omega,λm hm=>by have:=h2 m hm;omega⟩
   .obtain⟨aa,h2,h3⟩:=g.ev f hf;cases hs:f.skip
    .obtain⟨_,h5⟩:=Qzx (aa.doo hs).2;obtain⟨h6,h7⟩:=h5 n e h;refine⟨?_,λm hm=>by have:=h7 m hm;omega⟩;rcases h6 with h6|h6
     .have:=h6.2;omega
     .omega
    .rw[(aa.skp hs).2] at h;simp[hget] at h
 .intro j o hj _ e G hb
  have:dn (Array.replicate ops.size false) j=false:=by
   simp only[dn,HI,fZ]
   split<;>rfl
  rw[this] at hj;cases hj
def Qtk{P:Program}(G:P.follows .mixedOrders=true){V:Db}(O:Hs P V){C:AW}{N id:Nat}{ops:Array Oper}{K:Ai->Prop}{Q:Exit->Act->World->Prop}(Z: ∀s a w,K s->BG C N s a w->Q .normal a w)
 (hd:J6 N ops.toList=true)(z:stOk ops=true){s:Ai}{a:Act}{w:World}(hk:VW P V (EI ops.toList []) (Gl ops ops.toList) 0 K [] s)(hc:BG C N s a w):(Code.region id ops true).wp P Q a w:=
 wp_region_any G (Qog O Z hd z hk hc)
def Em(N:Nat):Code->Bool
 | .skip=>true
 | .region _ ops z=>J6 N ops.toList && (!z||stOk ops)
 | .seq a b=>Em N a && Em N b
 | .cond _ a b=>Em N a && Em N b
 | .block _ c=>Em N c
 | .loop c=>Em N c
 | .exit _=>true
 | .ret=>true
 |_=>false
def FZ(C:AW)(N:Nat)(Q:Cq):Exit->Act->World->Prop
 | .normal,a,w=> ∃s,Q .normal s/\BG C N s a w
 | .exit i,a,w=> ∃s,Q (.exit i) s/\BG C N s a w
 | .ret,a,w=> ∃s,Q .ret s/\BG C N s a w
 |_,_,_=>False
def Qv7{s:Ai}: ∀(tm:List (Nat×AV)),G6 s tm-> ∀t,AF tm t= .any\/AF tm t=AF s.tm t
 |[],_,t=> .inl rfl
 |(q,x)::tm,h,t=>by
  simp only[G6] at h;simp only[AF];cases hq:q==t
  .simpa using Qv7 tm h.2 t
  .have:q=t:=by simpa using hq
   subst this;exact .inr (by simpa using h.1.symm)
def Qtu{s:Ai}: ∀(hs:Av),Cb s hs-> ∀n e,hget hs n=some e->hget s.h n=some e
 |[],_,n,e,h=>by simp[hget] at h
 |(q,x)::hs,h,n,e,z=>by
  simp only[Cb] at h;simp only[hget] at z;cases hq:q==n<;>rw[hq] at z
  .exact Qtu hs h.2 n e (by simpa using z)
  .have:q=n:=by simpa using hq
   subst this;simp only[Ck,AJ] at z;subst z;exact h.1
def sO{n:Nat}: ∀(tm:List (Nat×AV)),Am n tm=true-> ∀t,∀m∈(AF tm t).nms,m<n
 |[],_,t,m,z=>by simp[AF,AV.nms] at z
 |(q,x)::tm,h,t,m,z=>by
  simp only[Am,AS] at h;simp only[AF] at z;cases hq:q==t<;>rw[hq] at z
  .exact sO tm h.2 t m (by simpa using z)
  .exact uG x h.1 m (by simpa using z)
def sL{n:Nat}: ∀(hs:Av),A8 n hs=true-> ∀m e,hget hs m=some e->m<n
 |[],_,m,e,h=>by simp[hget] at h
 |(q,x)::hs,h,m,e,z=>by
  simp only[A8,AS,E4] at h;simp only[hget] at z;cases hq:q==m<;>rw[hq] at z
  .exact sL hs h.2 m e (by simpa using z)
  .have:q=m:=by simpa using hq
   omega
def lY{C:AW}{N:Nat}{s s':Ai}{a:Act}{w:World}(hc:BG C N s a w)(hs:sub s s')(hg:s'.good=true)(ad:C.n0<=s'.nx):BG C N s' a w:=by
 obtain⟨S,rfl,hc⟩:=hc;obtain⟨hT,hH⟩:=hs;simp only[Ai.good,AS] at hg;obtain⟨Z,aa,ab⟩:=hg;have z: ∀n e,hget s'.h n=some e->S.h n=some e:=λn e O=>(hc.h n).trans (Qtu _ hH n e O)
 have hp:B3 (λ_=>True) S {S with h:=hget s'.h}:=⟨λb hb=>⟨hb,rfl⟩,λo _ e' G=>⟨e',z o e' G,rfl,rfl,rfl⟩⟩;have hW:=hc.wf;refine⟨{S with h:=hget s'.h},rfl,⟨hW.os,hW.tape,hW.output,hW.size,hW.keep,hW.ok0,hW.ok1,hW.oks,?_,?_,?_,hW.gl⟩,λn=>rfl,?_,sO _ Z,?_,hc.size,hc.defers,ad,?_⟩
 .intro o e O;exact Ih hp (λ_ _=>rfl) _ (λ_ _=>trivial) (hW.obj o e (z o e O))
 .intro o e l O hl;exact hW.loc o e l (z o e O) hl
 .intro o o' e e' l l' O G hl ac hb Q;exact hW.inj o o' e e' l l' (z o e O) (z o' e' G) hl ac hb Q
 .intro t;rcases Qv7 _ hT t with h|h
  .rw[h];simp only[Aa]
  .rw[h];exact Ii hp _ _ (λ_ _=>trivial) (hc.tm t)
 .intro n e O;exact⟨sL _ ab n e O,eU _ aa n e O⟩
 .intro o ho e' G;exact hc.pre o ho e' (z o e' G)
def bI{lo:Nat}: ∀(π:List (Nat×Option Nat)),VS lo π-> ∀n,n<lo->pm π n=some n
 |[],_,n,_=>rfl
 |(a,b)::r,h,n,hn=>by
  simp only[VS] at h;simp only[pm];rw[Af (by omega)];exact bI r h.2 n hn
section
variable {S S':A9}{π:List (Nat×Option Nat)}
mutual
def Qyf(ab:S'.ok=S.ok)(aa:S'.hp=S.hp)(hρ: ∀n m,pm π n=some m->S'.ρ n=S.ρ m)(hρ0: ∀n,pm π n=none->S'.ρ n=none)
 (Z: ∀n m,pm π n=some m-> ∀e',S'.h n=some e'-> ∃e,S.h m=some e/\e.2.esz=e'.2.esz/\e.2.len=e'.2.len): ∀(x' x:AV) (v:Value),mt π x' x->Aa S x v->Aa S' x' v
 | .any,_,_,_,_=>by simp only[Aa]
 | .im d,x,v,h,hc=>by
   simp only[mt] at h;subst h;simp only[Aa,ab,aa] at hc⊢;exact hc
 | .own n,x,v,h,hc=>by
   simp only[mt] at h;cases hp:pm π n with
   |some m=>
    rw[hp] at h;simp only[FN] at h;subst h;simp only[Aa] at hc⊢;refine⟨hc.1,λe' z=> ?_⟩;obtain⟨e,G,O,Q⟩:=Z n m hp e' z;rw[hρ n m hp,<-Q];exact hc.2 e G
   |none=>
    rw[hp] at h;simp only[FN] at h;unfold iY at h;split at h
    .simp only[Aa,rd] at hc;have hv:v= .slice none 0 0:=by
      rcases hc with hc|⟨_,_,_,_,_,_,_,O,_⟩
      .exact Qr7 hc.1
      .exact absurd rfl (O trivial)
     subst hv;simp only[Aa];refine⟨rfl,λe' z=> ?_⟩;rw[hρ0 n hp];trivial
    .exact h.elim
 | .ptr n p,x,v,h,hc=>by
   simp only[mt] at h;cases hp:pm π n with
   |none=>rw[hp] at h;exact h.elim
   |some m=>
    rw[hp] at h;simp only[GZ] at h;subst h;simp only[Aa] at hc⊢;refine⟨hc.1,λe' z=> ?_⟩;obtain⟨e,G,O,Q⟩:=Z n m hp e' z;rw[hρ n m hp];exact hc.2 e G
 | .eptr n i p,x,v,h,hc=>by
   simp only[mt] at h;cases hp:pm π n with
   |none=>rw[hp] at h;exact h.elim
   |some m=>
    rw[hp] at h;simp only[GZ] at h;subst h;simp only[Aa] at hc⊢;refine⟨hc.1,λe' z=> ?_⟩;obtain⟨e,G,O,Q⟩:=Z n m hp e' z;rw[hρ n m hp,<-O];exact hc.2 e G
 | .mp n,x,v,h,hc=>by
   simp only[mt] at h;cases hp:pm π n with
   |none=>rw[hp] at h;exact h.elim
   |some m=>
    rw[hp] at h;simp only[GZ] at h;subst h;simp only[Aa] at hc⊢;refine⟨hc.1,λe' z=> ?_⟩;obtain⟨e,G,O,Q⟩:=Z n m hp e' z;rw[hρ n m hp];exact hc.2 e G
 | .ch n,x,v,h,hc=>by
   simp only[mt] at h;cases hp:pm π n with
   |none=>rw[hp] at h;exact h.elim
   |some m=>
    rw[hp] at h;simp only[GZ] at h;subst h;simp only[Aa] at hc⊢;refine⟨hc.1,λe' z=> ?_⟩;obtain⟨e,G,O,Q⟩:=Z n m hp e' z;rw[hρ n m hp];exact hc.2 e G
 | .it n,x,v,h,hc=>by
   simp only[mt] at h;cases hp:pm π n with
   |none=>rw[hp] at h;exact h.elim
   |some m=>
    rw[hp] at h;simp only[GZ] at h;subst h;simp only[Aa] at hc⊢;refine⟨hc.1,λe' z=> ?_⟩;obtain⟨e,G,O,Q⟩:=Z n m hp e' z;rw[hρ n m hp];exact hc.2 e G
 | .osl n a k,x,v,h,hc=>by
   simp only[mt] at h;cases hp:pm π n with
   |none=>rw[hp] at h;exact h.elim
   |some m=>
    rw[hp] at h;simp only[GZ] at h;subst h;simp only[Aa] at hc⊢;refine⟨hc.1,λe' z=> ?_⟩;obtain⟨e,G,O,Q⟩:=Z n m hp e' z;rw[hρ n m hp,<-O,<-Q];exact hc.2 e G
 | .agg cs,x,v,h,hc=>by
   have ac: ∀ds,DG π cs ds->Aa S (.agg ds) v->Aa S' (.agg cs) v:=by
    intro ds h hc;simp only[Aa] at hc⊢;obtain⟨vs,rfl,G⟩:=hc;exact⟨vs,rfl,Qts ab aa hρ hρ0 Z cs ds _ h G⟩
   cases x<;>try (simp only[mt] at h;done)
   case agg ds=>
    simp only[mt] at h;exact ac ds h hc
   case im d=>
    cases d<;>try (simp only[mt] at h;done)
    rename_i ds;simp only[mt] at h;refine ac _ h ?_;simp only[Aa,rd] at hc⊢;obtain⟨vs,rfl,G⟩:=hc;exact⟨vs,rfl,(I2 _ _).2 G⟩
 | .tup cs,x,v,h,hc=>by simp only[mt] at h
 | .clo f a c,x,v,h,hc=>by simp only[mt] at h
def Qts(G:S'.ok=S.ok)(z:S'.hp=S.hp)(hρ: ∀n m,pm π n=some m->S'.ρ n=S.ρ m)(hρ0: ∀n,pm π n=none->S'.ρ n=none)
 (Q: ∀n m,pm π n=some m-> ∀e',S'.h n=some e'-> ∃e,S.h m=some e/\e.2.esz=e'.2.esz/\e.2.len=e'.2.len): ∀(O xs:List AV) (vs:List Value),DG π O xs->AN S xs vs->AN S' O vs
 |[],[],vs,h,hc=>by simpa only[AN] using hc
 |x::r,y::s,vs,h,hc=>by
  simp only[DG] at h;simp only[AN] at hc⊢;obtain⟨v,w,rfl,Z,h2⟩:=hc;exact⟨v,w,rfl,Qyf G z hρ hρ0 Q x y v h.1 Z,Qts G z hρ hρ0 Q r s w h.2 h2⟩
 |[],_::_,vs,h,_=>by simp only[DG] at h
 |_::_,[],vs,h,_=>by simp only[DG] at h
end
end
def Qya{π:List (Nat×Option Nat)}: ∀{a b:List (List AV)},GJ π a b->b.length=a.length
 |[],[],_=>rfl
 |_::_,_::_,h=>by simp[Qya h.2]
 |[],_::_,h=>h.elim
 |_::_,[],h=>h.elim
def Mx{π:List (Nat×Option Nat)}: ∀{a b:List AV},DG π a b->b.length=a.length
 |[],[],_=>rfl
 |_::_,_::_,h=>by simp only[DG] at h;simp[Mx h.2]
 |[],_::_,h=>by simp only[DG] at h
 |_::_,[],h=>by simp only[DG] at h
def Qxn{π:List (Nat×Option Nat)}{e' e:Ad}(h:EG π e' e):e.esz=e'.esz/\e.len=e'.len/\e.isView=e'.isView:=by
 cases e'<;>cases e<;>simp only[EG,reduceCtorEq,Ad.arr.injEq,Ad.map.injEq,Ad.chan.injEq,Ad.iter.injEq,Ad.view.injEq] at h
 all_goals first
  |exact⟨rfl,rfl,rfl⟩
  |(obtain⟨rfl,rfl,rfl⟩:=h;exact⟨rfl,rfl,rfl⟩)
  |(obtain⟨rfl,rfl,h⟩:=h;exact⟨rfl,by simpa[Ad.len,Bq] using Qya h,rfl⟩)
  |(obtain⟨rfl,rfl⟩:=h;exact⟨rfl,rfl,rfl⟩)
def Yu{S S':A9}{π:List (Nat×Option Nat)}(ab:S'.ok=S.ok)(G:S'.hp=S.hp)(hρ: ∀n m,pm π n=some m->S'.ρ n=S.ρ m)(hρ0: ∀n,pm π n=none->S'.ρ n=none)
 (hh: ∀n m,pm π n=some m-> ∀e',S'.h n=some e'-> ∃e,S.h m=some e/\e.2.esz=e'.2.esz/\e.2.len=e'.2.len){l:Option F8}{e' e:Ad}(h:EG π e' e)(O:Aw S l e):Aw S' l e':=by
 have hp:B3 (λ_=>False) S S':=⟨λb hb=>⟨by rw[ab];exact hb,by rw[G]⟩,λo h=>h.elim⟩;cases e' with
 |cells T cs=>
  cases e<;>simp only[EG] at h;obtain⟨rfl,h⟩:=h;simp only[Aw] at O⊢;obtain⟨lc,vs,h1,Q,h3,h4⟩:=O;exact⟨lc,vs,h1,Q,by rw[G];exact h3,Qts ab G hρ hρ0 hh _ _ _ h h4⟩
 |arrA T k rows=>
  have hR: ∀(Z rs:List (List AV)) (vs:List Value),GJ π Z rs->BH S k rs vs->BH S' k Z vs:=by
   intro Z;induction Z with
   |nil=>intro rs vs _ _;simp only[BH]
   |cons x r ih=>
    intro rs vs h hc;cases rs with
    |nil=>exact h.elim
    |cons y s=>
     simp only[BH] at hc⊢;have hP: ∀(xs ys:List AV) (vs:List Value),DG π xs ys->Cy S ys vs->Cy S' xs vs:=by
      intro xs;induction xs with
      |nil=>intro ys vs _ _;simp only[Cy]
      |cons a l ac=>
       intro ys vs h hc;cases ys with
       |nil=>simp only[DG] at h
       |cons b t=>
        simp only[DG] at h;simp only[Cy] at hc⊢;obtain⟨v,w,rfl,h1,Q⟩:=hc;exact⟨v,w,rfl,Qyf ab G hρ hρ0 hh a b v h.1 h1,ac t w h.2 Q⟩
     exact⟨by rw[<-hc.1];exact (Mx h.1).symm,hP _ _ _ h.1 hc.2.1,ih s _ h.2 hc.2.2⟩
  have aa: ∀(z:List (List AV)),GJ π rows z->Aw S l (.arrA T k z)->Aw S' l (.arrA T k rows):=by
   intro z h O;simp only[Aw] at O⊢;rw[<-Qya h];refine⟨O.1,?_⟩;cases l with
   |none=>
    have Q:=O.2;simp only at Q;subst Q;cases rows with
    |nil=>rfl
    |cons x r=>exact h.elim
   |some lc=>
    obtain⟨h0,h1,vs,Q,h3,h4⟩:=O;exact⟨h1,vs,by rw[G];exact Q,h3,hR _ _ _ h h4⟩
  cases e<;>simp only[EG] at h
  case arrA U k' z=>
   obtain⟨rfl,rfl,h⟩:=h;exact aa z h O
  case arr U k' z=>
   obtain⟨rfl,rfl,h⟩:=h;refine aa (Bq z) h ?_;simp only[Aw] at O⊢;rw[show (Bq z).length=z.length by simp[Bq]];refine⟨O.1,?_⟩;cases l with
   |none=>have Q:=O.2;simp only at Q;subst Q;rfl
   |some lc=>
    obtain⟨h0,h1,vs,Q,h3,h4⟩:=O;exact⟨h1,vs,Q,h3,lI _ _ h4⟩
 |arr T k rows=>
  simp only[EG] at h;subst h;exact Ih hp (λlc _=>by rw[G]) _ (by simp[Ad.nms]) O
 |map kt es=>
  simp only[EG] at h;subst h;exact Ih hp (λlc _=>by rw[G]) _ (by simp[Ad.nms]) O
 |chan q c=>
  simp only[EG] at h;subst h;exact Ih hp (λlc _=>by rw[G]) _ (by simp[Ad.nms]) O
 |iter q0 q=>
  simp only[EG] at h;subst h;exact Ih hp (λlc _=>by rw[G]) _ (by simp[Ad.nms]) O
 |view q=>
  simp only[EG] at h;subst h;exact Ih hp (λlc _=>by rw[G]) _ (by simp[Ad.nms]) O
def nU{π:List (Nat×Option Nat)}: ∀(H:Av),EP (OM π H)=true-> ∀n n' e e' m,hget H n=some e->hget H n'=some e'->pm π n=some m->pm π n'=some m->n=n'
 |[],_,n,n',e,e',m,h,_,_,_=>by simp[hget] at h
 |(q,x)::H,hn,n,n',e,e',m,h,h',hp,hp'=>by
  have Q: ∀n e,hget H n=some e-> ∀m,pm π n=some m->some m∈OM π H:=by
   intro n e;clear hn h h' hp hp';induction H with
   |nil=>intro h;simp[hget] at h
   |cons y H ih=>
    obtain⟨q',z⟩:=y;intro h m hm;simp only[hget] at h;simp only[OM,Bm];cases hq:q'==n<;>rw[hq] at h
    .exact .inr (ih (by simpa using h) m hm)
    .have:q'=n:=by simpa using hq
     subst this;exact .inl hm.symm
  have Z:EP (OM π H)=true:=by
   simp only[OM] at hn;cases hq:pm π q<;>rw[hq] at hn<;>simp only[EP,AS] at hn
   .exact hn
   .exact hn.2
  simp only[hget] at h h';by_cases O:q=n<;>by_cases G:q=n'
  .rw[<-O,<-G]
  .subst O
   have:(q==n')=false:=by simpa using G
   rw[this] at h';have hm:=Q n' e' (by simpa using h') m hp';simp only[OM,hp,EP,AS,Kq] at hn
   have:=hn.1
   rw[HK.2 hm] at this;cases this
  .subst G
   have:(q==n)=false:=by simpa using O
   rw[this] at h;have hm:=Q n e (by simpa using h) m hp;simp only[OM,hp',EP,AS,Kq] at hn
   have:=hn.1
   rw[HK.2 hm] at this;cases this
  .have h1:(q==n)=false:=by simpa using O
   have h2:(q==n')=false:=by simpa using G
   rw[h1] at h;rw[h2] at h';exact nU H Z n n' e e' m (by simpa using h) (by simpa using h') hp hp'
def Qll{π:List (Nat×Option Nat)}{s:Ai}: ∀(H:Av),Ha π s H-> ∀n e',hget H n=some e'->Ep s π e'.1 e'.2 (pm π n)
 |[],_,n,e',h=>by simp[hget] at h
 |(q,(G,x))::H,z,n,e',h=>by
  simp only[Ha] at z;simp only[hget] at h;cases hq:q==n<;>rw[hq] at h
  .exact Qll H z.2 n e' (by simpa using h)
  .have:q=n:=by simpa using hq
   subst this;simp only[Ck,AJ] at h;subst h;exact z.1
def Qqi{π:List (Nat×Option Nat)}{s:Ai}: ∀(T:List (Nat×AV)),Qn π s T-> ∀t,AF T t= .any\/mt π (AF T t) (AF s.tm t)
 |[],_,t=> .inl rfl
 |(q,x)::T,z,t=>by
  simp only[Qn] at z;simp only[AF];cases hq:q==t
  .simpa using Qqi T z.2 t
  .have:q=t:=by simpa using hq
   subst this;exact .inr (by simpa using z.1)
def QU{C:AW}{N lo:Nat}{π:List (Nat×Option Nat)}{s s':Ai}{a:Act}{w:World}(hc:BG C N s a w)(hs:Ay lo π s s')(hg:s'.good=true)(ao:C.n0<=lo)(am:C.n0<=s'.nx):BG C N s' a w:=by
 obtain⟨S,rfl,hc⟩:=hc;obtain⟨ak,ac,hT,hH⟩:=hs;simp only[Ai.good,AS] at hg;obtain⟨ah,ai,aj⟩:=hg
 let S':A9:=⟨λn=>match pm π n with
  |some m=>S.ρ m
  |none=>none,S.ok,hget s'.h,S.w⟩
 have hρ: ∀n m,pm π n=some m->S'.ρ n=S.ρ m:=by intro n m h;simp only[S',h]
 have hρ0: ∀n,pm π n=none->S'.ρ n=none:=by intro n h;simp only[S',h]
 have O: ∀n m,pm π n=some m-> ∀e',S'.h n=some e'-> ∃e,S.h m=some e/\e.1=e'.1/\EG π e'.2 e.2:=by
  intro n m hp e' z;have G:=Qll _ hH n e' z;rw[hp] at G;simp only[Ep] at G;cases hx:hget s.h m with
  |none=>rw[hx] at G;exact G.elim
  |some e=>
   obtain⟨mu,e⟩:=e;rw[hx] at G;exact⟨(mu,e),(hc.h m).trans hx,G.1,G.2⟩
 have hh: ∀n m,pm π n=some m-> ∀e',S'.h n=some e'-> ∃e,S.h m=some e/\e.2.esz=e'.2.esz/\e.2.len=e'.2.len:=by
  intro n m hp e' z;obtain⟨e,G,_,Z⟩:=O n m hp e' z;obtain⟨h3,h4,_⟩:=Qxn Z;exact⟨e,G,h3,h4⟩
 have hW:=hc.wf;refine⟨S',rfl,⟨hW.os,hW.tape,hW.output,hW.size,hW.keep,hW.ok0,hW.ok1,hW.oks,?_,?_,?_,hW.gl⟩,λn=>rfl,?_,sO _ ah,?_,hc.size,hc.defers,am,?_⟩
 .intro n e' z;cases hp:pm π n with
  |some m=>
   obtain⟨e,G,_,Z⟩:=O n m hp e' z;rw[hρ n m hp];exact Yu (S:=S) (S':=S') rfl rfl hρ hρ0 hh Z (hW.obj m e G)
  |none=>
   have G:=Qll _ hH n e' z;rw[hp] at G;simp only[Ep] at G;rw[hρ0 n hp];obtain⟨mu,e'⟩:=e';unfold T6 at G;split at G
   .rename_i ab Q;simp only at Q;subst Q;simp[Aw]
   .rename_i ab Q;simp only at Q;subst Q;simp[Aw]
   .exact G.elim
 .intro n e' l z hl;cases hp:pm π n with
  |none=>rw[hρ0 n hp] at hl;cases hl
  |some m=>
   obtain⟨e,G,Z,h3⟩:=O n m hp e' z;rw[hρ n m hp] at hl
   have:=hW.loc m e l G hl
   rw[<-Z,<-(Qxn h3).2.2];exact this
 .intro n n' e e' l l' he z hl aa hb ag;cases hp:pm π n with
  |none=>rw[hρ0 n hp] at hl;cases hl
  |some m=>
   cases hp':pm π n' with
   |none=>rw[hρ0 n' hp'] at aa;cases aa
   |some m'=>
    obtain⟨x,G,Z,h3⟩:=O n m hp e he;obtain⟨x',ad,af,an⟩:=O n' m' hp' e' z;rw[hρ n m hp] at hl;rw[hρ n' m' hp'] at aa
    have:=hW.inj m m' x x' l l' G ad hl aa hb (by rw[Z,af];exact ag)
    subst this;exact nU _ ac n n' e e' m he z hp hp'
 .intro t;rcases Qqi _ hT t with h|h
  .rw[h];simp only[Aa]
  .exact Qyf (S:=S) (S':=S') rfl rfl hρ hρ0 hh _ _ _ h (hc.tm t)
 .intro n e he;exact⟨sL _ aj n e he,eU _ ai n e he⟩
 .intro o ho e' z;have hp:=bI π ak o (by omega);obtain⟨e,G,_,Z⟩:=O o o hp e' z;obtain⟨e0,g1,g2,g3,g4⟩:=hc.pre o ho e G;obtain⟨h3,h4,_⟩:=Qxn Z;exact⟨e0,g1,(hρ o o hp).trans g2,h3.symm.trans g3,h4.symm.trans g4⟩
def tA(F:List Nat): ∀(H:Av) (n:Nat),hget (HR F H) n=(hget H n).map λe=>(e.1 && !F.contains n,e.2)
 |[],n=>rfl
 |(q,(z,e))::H,n=>by
  simp only[HR,hget];cases hq:q==n
  .simpa using tA F H n
  .have:q=n:=by simpa using hq
   subst this;rfl
def Qxl{C:AW}{N:Nat}(F:List Nat){s:Ai}{a:Act}{w:World}(hc:BG C N s a w):BG C N (Sw F s) a w:=by
 obtain⟨S,rfl,hc⟩:=hc;have hp:=HA S (λn=> !F.contains n);refine⟨S.ice (λn=> !F.contains n),rfl,VC hc.wf,λn=> ?_,λt=>Ii hp _ _ (λ_ _=>trivial) (hc.tm t),hc.nmT,?_,hc.size,hc.defers,hc.n0,?_⟩
 .show (S.h n).map _=hget (HR F s.h) n;rw[tA,hc.h n]
 .intro n e z;have z:hget (HR F s.h) n=some e:=z;rw[tA] at z;simp only[D4] at z;obtain⟨x,Z,rfl⟩:=z;exact hc.nmH n x Z
 .intro o Q e' G;obtain⟨e,O,rfl⟩:=V8 G;exact hc.pre o Q e O
mutual
def LS(F:List Nat)(H:Av): ∀(x:AV),∀m∈(x.fzA F H).nms,m∈x.nms
 | .own n,m,z=>by
   simp only[AV.fzA] at z;cases hF:F.contains n<;>rw[hF] at z
   .simpa using z
   .simp only[Ck] at z;cases hh:hget H n with
    |none=>rw[hh] at z;simpa[KI] using z
    |some e=>
     obtain⟨O,e⟩:=e;rw[hh] at z;cases e<;>simp only[KI,Hn] at z<;>first|exact z|(simp[AV.nms] at z)
 | .agg G,m,z=>by
   simp only[AV.fzA,AV.nms] at z⊢;exact Qng F H G m z
 | .any,m,z=>by simpa only[AV.fzA] using z
 | .im d,m,z=>by simpa only[AV.fzA] using z
 | .tup G,m,z=>by simpa only[AV.fzA] using z
 | .ptr o p,m,z=>by simpa only[AV.fzA] using z
 | .eptr o i p,m,z=>by simpa only[AV.fzA] using z
 | .mp o,m,z=>by simpa only[AV.fzA] using z
 | .ch o,m,z=>by simpa only[AV.fzA] using z
 | .it o,m,z=>by simpa only[AV.fzA] using z
 | .osl o a n,m,z=>by simpa only[AV.fzA] using z
 | .clo f a c,m,z=>by simpa only[AV.fzA] using z
def Qng(F:List Nat)(H:Av): ∀(xs:List AV),∀m∈AH (DE F H xs),m∈AH xs
 |[],m,z=>by simpa[DE] using z
 |x::r,m,z=>by
  simp only[DE,AH,Bx] at z⊢;exact z.imp (LS F H x m) (Qng F H r m)
end
def oA(F:List Nat)(H:Av): ∀(xs:List (List AV)),∀m∈B7 (DF F H xs),m∈B7 xs
 |[],m,z=>by simpa[DF] using z
 |x::r,m,z=>by
  simp only[DF,B7,Bx] at z⊢;exact z.imp (Qng F H x m) (oA F H r m)
def Sy(F:List Nat)(H:Av)(e:Ad): ∀m∈(e.fzA F H).nms,m∈e.nms:=by
 intro m z;cases e<;>simp only[Ad.fzA,Ad.nms] at z⊢ <;>try exact z
 .exact Qng F H _ m z
 .exact oA F H _ m z
def Qrp(F:List Nat)(H:Av): ∀(xs:List (List AV)),(DF F H xs).length=xs.length
 |[]=>rfl
 |x::r=>by simp only[DF,CP,Qrp F H r]
def Qzt(F:List Nat)(H:Av): ∀(xs:List AV),(DE F H xs).length=xs.length
 |[]=>rfl
 |x::r=>by simp only[DE,CP,Qzt F H r]
def Qtj(F:List Nat)(H:Av)(e:Ad):(e.fzA F H).esz=e.esz/\(e.fzA F H).len=e.len/\(e.fzA F H).isView=e.isView:=by
 cases e<;>simp[Ad.fzA,Ad.esz,Ad.len,Ad.isView,Qrp]
def Qrq(F:List Nat)(H:Av): ∀(T:List (Nat×AV)) (t:Nat),AF (HT F H T) t=(AF T t).fzA F H
 |[],t=>by simp only[HT,AF,AV.fzA]
 |(q,x)::T,t=>by
  simp only[HT,AF];cases hq:q==t
  .simpa using Qrq F H T t
  .rfl
def Qss(F:List Nat)(H0:Av): ∀(H:Av) (n:Nat),hget (HS F H0 H) n=(hget H n).map λe=>(e.1 && !F.contains n,e.2.fzA F H0)
 |[],n=>rfl
 |(q,(z,e))::H,n=>by
  simp only[HS,hget];cases hq:q==n
  .simpa using Qss F H0 H n
  .have:q=n:=by simpa using hq
   subst this;rfl
section
variable {C:AW}{S:A9}{F:List Nat}{H:Av}(hW:Wf C S)(hH: ∀n e,F.contains n=true->hget H n=some e->S.h n=some (false,e.2))
include hW hH
def Pf{n:Nat}{v:Value}(hF:F.contains n=true)(h:Aa S (.own n) v):Aa S (KI n (hget H n)) v:=by
 cases hh:hget H n with
 |none=>exact h
 |some e=>
  have G:=hH n e hF hh;obtain⟨mu,e⟩:=e;cases e<;>simp only[KI,Hn]<;>try exact h
  rename_i U w rows;simp only[Aa] at h⊢;have Q:=h.2 _ G;have z:=hW.obj n _ G;have Z:=λl=>hW.loc n _ l G
  simp only[Aw] at z;simp only[rd];cases hl:S.ρ n with
  |none=>
   rw[hl] at Q z;exact .inl ⟨.inl Q,z.2⟩
  |some l=>
   rw[hl] at Q z;have O:=(Z l hl).2;simp only[Ad.isView,Df,gO,CK] at O;obtain⟨g0,g1,vs,g2,g3,g4⟩:=z;exact .inr ⟨l.b,l.p,l.cap,vs,U,(0,0),Q,by simp,g1,g0,O,g2,g4⟩
mutual
def Qte: ∀(x:AV) (v:Value),Aa S x v->Aa S (x.fzA F H) v
 | .own n,v,h=>by
   simp only[AV.fzA];cases hF:F.contains n
   .exact h
   .exact Pf hW hH hF h
 | .agg z,v,h=>by
   simp only[AV.fzA,Aa] at h⊢;obtain⟨G,rfl,h⟩:=h;exact⟨G,rfl,Qom _ _ h⟩
 | .any,v,h=>by simpa only[AV.fzA] using h
 | .im d,v,h=>by simpa only[AV.fzA] using h
 | .tup z,v,h=>by simpa only[AV.fzA] using h
 | .ptr o p,v,h=>by simpa only[AV.fzA] using h
 | .eptr o i p,v,h=>by simpa only[AV.fzA] using h
 | .mp o,v,h=>by simpa only[AV.fzA] using h
 | .ch o,v,h=>by simpa only[AV.fzA] using h
 | .it o,v,h=>by simpa only[AV.fzA] using h
 | .osl o a n,v,h=>by simpa only[AV.fzA] using h
 | .clo f a c,v,h=>by simpa only[AV.fzA] using h
def Qom: ∀(xs:List AV) (vs:List Value),AN S xs vs->AN S (DE F H xs) vs
 |[],_,h=>by simpa only[DE] using h
 |x::l,vs,h=>by
  simp only[DE,AN] at h⊢;obtain⟨v,r,rfl,z,G⟩:=h;exact⟨v,r,rfl,Qte x v z,Qom l r G⟩
end
def Quw: ∀(xs:List AV) (vs:List Value),Cy S xs vs->Cy S (DE F H xs) vs
 |[],_,h=>by simp only[DE,Cy]
 |x::l,vs,h=>by
  simp only[DE,Cy] at h⊢;obtain⟨v,r,rfl,z,G⟩:=h;exact⟨v,r,rfl,Qte hW hH x v z,Quw l r G⟩
def Qu9(k:Nat): ∀(xs:List (List AV)) (vs:List Value),BH S k xs vs->BH S k (DF F H xs) vs
 |[],_,h=>by simp only[DF,BH]
 |x::l,vs,h=>by
  simp only[DF,BH] at h⊢;exact⟨by rw[Qzt];exact h.1,Quw hW hH x vs h.2.1,Qu9 k l _ h.2.2⟩
def OH{l:Option F8}(e:Ad)(h:Aw S l e):Aw S l (e.fzA F H):=by
 cases e<;>simp only[Ad.fzA]<;>try exact h
 .simp only[Aw] at h⊢;obtain⟨lc,Z,G,z,O,Q⟩:=h;exact⟨lc,Z,G,z,O,Qom hW hH _ _ Q⟩
 .rename_i T k rows;simp only[Aw,Qrp] at h⊢;refine⟨h.1,?_⟩;cases l with
  |none=>
   have z:=h.2;simp only at z;subst z;rfl
  |some lc=>
   obtain⟨h0,G,Z,z,O,Q⟩:=h;exact⟨G,Z,z,O,Qu9 hW hH k _ _ Q⟩
end
def uF{C:AW}{N:Nat}(F:List Nat){s:Ai}{a:Act}{w:World}(hc:BG C N s a w):BG C N (Sz F s) a w:=by
 obtain⟨S,rfl,aa⟩:=Qxl F hc;clear hc;have hc:=aa;clear aa
 let S':A9:=⟨S.ρ,S.ok,hget (HS F s.h s.h),S.w⟩
 have Q: ∀n,S.h n=(hget s.h n).map λe=>(e.1 && !F.contains n,e.2):=by
  intro n;rw[hc.h n];exact tA F s.h n
 have hH: ∀n e,F.contains n=true->hget s.h n=some e->S.h n=some (false,e.2):=by
  intro n e hF he;rw[Q,he];simp only[CQ,hF,mQ,gK]
 have G: ∀n e',S'.h n=some e'-> ∃e,S.h n=some e/\e'.1=e.1/\e'.2=e.2.fzA F s.h:=by
  intro n e' z;have z:hget (HS F s.h s.h) n=some e':=z;rw[Qss] at z;simp only[D4] at z;obtain⟨x,hx,rfl⟩:=z;exact⟨(x.1 && !F.contains n,x.2),by rw[Q,hx];rfl,rfl,rfl⟩
 have hp:B3 (λ_=>True) S S':=⟨λb hb=>⟨hb,rfl⟩,λo _ e' z=>by
  obtain⟨e,O,h2,Z⟩:=G o e' z;obtain⟨g1,g2,_⟩:=Qtj F s.h e.2;exact⟨e,O,rfl,by rw[Z];exact g1,by rw[Z];exact g2⟩⟩
 have hW:=hc.wf;refine⟨S',rfl,⟨hW.os,hW.tape,hW.output,hW.size,hW.keep,hW.ok0,hW.ok1,hW.oks,?_,?_,?_,hW.gl⟩,λn=>rfl,?_,?_,?_,hc.size,hc.defers,hc.n0,?_⟩
 .intro o e' z;obtain⟨e,O,h2,Z⟩:=G o e' z;rw[Z];exact Ih hp (λlc _=>rfl) _ (λ_ _=>trivial) (OH hW hH e.2 (hW.obj o e O))
 .intro o e' l z hl;obtain⟨e,O,h2,Z⟩:=G o e' z
  have:=hW.loc o e l O hl
  rw[h2,Z,(Qtj F s.h e.2).2.2];exact this
 .intro o o' e e' l l' he z hl af hb ad;obtain⟨x,O,h2,Z⟩:=G o e he;obtain⟨x',ab,ac,ag⟩:=G o' e' z;exact hW.inj o o' x x' l l' O ab hl af hb (by rw[<-h2,<-ac];exact ad)
 .intro t;show Aa S' (AF (HT F s.h s.tm) t) _;rw[Qrq];exact Ii hp _ _ (λ_ _=>trivial) (Qte hW hH _ _ (hc.tm t))
 .intro t m hm;have hm:m∈(AF (HT F s.h s.tm) t).nms:=hm;rw[Qrq] at hm;exact hc.nmT t m (LS F s.h _ m hm)
 .intro n e he;have he:hget (HS F s.h s.h) n=some e:=he;rw[Qss] at he;simp only[D4] at he;obtain⟨x,hx,rfl⟩:=he;have O:hget (Sw F s).h n=some (x.1 && !F.contains n,x.2):=by
   show hget (HR F s.h) n=_;rw[tA,hx];rfl
  obtain⟨g1,g2⟩:=hc.nmH n _ O;exact⟨g1,λm hm=>g2 m (Sy F s.h x.2 m hm)⟩
 .intro o ho e' z;obtain⟨e,O,h2,Z⟩:=G o e' z;obtain⟨e0,g1,g2,g3,g4⟩:=hc.pre o ho e O;obtain⟨q1,q2,_⟩:=Qtj F s.h e.2;exact⟨e0,g1,g2,by rw[Z,q1];exact g3,by rw[Z,q2];exact g4⟩
def NC{p:Nat->Prop}: ∀n,p n-> ∃m,p m/\ ∀k,k<m-> ¬p k:=by
 intro n;induction n using Nat.strongRecOn with
 |_ n ih=>
  intro hn;by_cases h: ∃k,k<n/\p k
  .obtain⟨k,G,z⟩:=h;exact ih k G z
  .exact⟨n,hn,λk G z=>h ⟨k,G,z⟩⟩
section
variable {P:Program}{V:Db}{C:AW}{N:Nat}
def ZE{x:Cq}{Q:Cq}{next:Act->World->Prop}(G: ∀s a w,x .normal s->BG C N s a w->next a w)(O: ∀i s,x (.exit i) s->Q (.exit i) s)(Z: ∀s,x .ret s->Q .ret s):
 ∀e a w,FZ C N x e a w->Exit.then next (FZ C N Q) e a w:=by
 intro e a w h;cases e<;>simp only[FZ] at h<;>simp only[Exit.then,FZ]
 .obtain⟨s,z,hc⟩:=h;exact G s a w z hc
 .obtain⟨s,z,hc⟩:=h;exact⟨s,O _ s z,hc⟩
 .obtain⟨s,z,hc⟩:=h;exact⟨s,Z s z,hc⟩
def Qo4(HM:P.follows .mixedOrders=true)(HV:Hs P V): ∀(c:Code),Em N c=true-> ∀(Q:Cq) (s:Ai) (a:Act) (w:World),Dc P V c Q s->BG C N s a w->c.wp P (FZ C N Q) a w:=by
 intro c;induction c with
 |skip=>intro _ Q s a w h hc;exact wp_skip ⟨s,h,hc⟩
 |region id ops an=>
  intro hk Q s a w h hc;simp only[Em,AS] at hk;cases an with
  |true=>exact Qtk HM HV (λs a w h1 h2=>⟨s,h1,h2⟩) hk.1 (by simpa using hk.2) h hc
  |false=>exact Qt0 HV (λs a w h1 h2=>⟨s,h1,h2⟩) hk.1 h hc
 |seq x y ak am=>
  intro hk Q s a w h hc;simp only[Em,AS] at hk;simp only[Dc] at h;refine wp_seq (wp_mono (ak hk.1 _ s a w h hc) (ZE ?_ ?_ ?_))
  .intro s a w Z hc;exact am hk.2 Q s a w Z hc
  .intro i s Z;exact Z
  .intro s Z;exact Z
 |cond c x y ak am=>
  intro hk Q s a w h hc;simp only[Em,AS] at hk;simp only[Dc] at h;obtain⟨S,ao,aj⟩:=hc;have h1:=QR aj c;cases hv:Az s.tm c<;>rw[hv] at h<;>try exact h.elim
  rename_i d;cases d<;>try exact h.elim
  rename_i b;rw[hv] at h1;simp only[Aa,rd] at h1;simp only[uU] at h;refine wp_cond_split h1 (λhb=>ak hk.1 Q s a w (h.1 hb) ⟨S,ao,aj⟩) (λhb=>am hk.2 Q s a w (h.2 hb) ⟨S,ao,aj⟩)
 |block id c ih=>
  intro hk Q s a w h hc;simp only[Dc] at h;refine wp_block (wp_mono (ih hk _ s a w h hc) ?_);intro e a w he;cases e<;>simp only[FZ] at he<;>simp only[Exit.inBlock,FZ]
  .exact he
  .rename_i i;obtain⟨s,Z,hc⟩:=he;simp only[mD] at Z;by_cases hi:i=id
   .subst hi;rw[An rfl];exact⟨s,by simpa[IT] using Z,hc⟩
   .rw[Af hi]
    have:(i==id)=false:=by simpa using hi
    rw[this] at Z;exact⟨s,Z,hc⟩
  .exact he
 |loop c ih=>
  intro hk Q s a w h hc;have ai: ∀(s:Ai),ZI (Dc P V c) Q s->BG C N s a w->(Code.loop c).wp P (FZ C N Q) a w:=by
   clear h hc;intro s h hc;simp only[ZI] at h;obtain⟨β,I,μ,z,⟨b0,ad⟩,G⟩:=h
   let p:Act->World->Nat->Prop:=λa w n=> ∃b,BG C N (I b) a w/\μ b=n
   let μ':Act->World->Nat:=λa w=>Classical.epsilon λn=>p a w n/\ ∀k,k<n-> ¬p a w k
   have hμ: ∀a w b,BG C N (I b) a w->p a w (μ' a w)/\ ∀k,k<μ' a w-> ¬p a w k:=by
    intro a w b hb;exact mI (p:=λn=>p a w n/\ ∀k,k<n-> ¬p a w k) (NC (μ b) ⟨b,hb,rfl⟩)
   have ab: ∀b,C.n0<=(I b).nx:=by
    intro b;obtain⟨S,_,h⟩:=hc;exact D9 h.n0 (z b).2
   refine wp_loop (λa w=> ∃b,BG C N (I b) a w) μ' ⟨b0,lY hc ad (z b0).1 (ab b0)⟩ ?_;rintro a w ⟨b,hb⟩;obtain⟨⟨b1,af,au⟩,_⟩:=hμ a w b hb;refine wp_mono (ih hk _ _ a w (G b1) af) (ZE ?_ ?_ ?_)
   .rintro s' a' w' ⟨b',aq,ac⟩ ag;have O:=lY ag ac (z b').1 (ab b');refine⟨⟨b',O⟩,?_⟩;obtain⟨_,aa⟩:=hμ a' w' b' O;rcases Fj (μ b') (μ' a' w') with h1|h1
    .exact absurd ⟨b',O,rfl⟩ (aa _ h1)
    .omega
   .intro i s Z;exact Z
   .intro s Z;exact Z
  simp only[Dc,AP] at h;rcases h with h|h|⟨F,h⟩|h
  .exact ai s h hc
  .simp only[Qsi] at h;obtain⟨β,I,μ,z,⟨b0,π0,ad⟩,G⟩:=h
   let p:Act->World->Nat->Prop:=λa w n=> ∃b,BG C N (I b) a w/\μ b=n
   let μ':Act->World->Nat:=λa w=>Classical.epsilon λn=>p a w n/\ ∀k,k<n-> ¬p a w k
   have hμ: ∀a w b,BG C N (I b) a w->p a w (μ' a w)/\ ∀k,k<μ' a w-> ¬p a w k:=by
    intro a w b hb;exact mI (p:=λn=>p a w n/\ ∀k,k<n-> ¬p a w k) (NC (μ b) ⟨b,hb,rfl⟩)
   have ah:C.n0<=s.nx:=by
    obtain⟨S,_,h⟩:=hc;exact h.n0
   have ab: ∀b,C.n0<=(I b).nx:=by
    intro b;obtain⟨S,_,h⟩:=hc;exact D9 h.n0 (z b).2
   refine wp_loop (λa w=> ∃b,BG C N (I b) a w) μ' ⟨b0,QU hc ad (z b0).1 ah (ab b0)⟩ ?_;rintro a w ⟨b,hb⟩;obtain⟨⟨b1,af,au⟩,_⟩:=hμ a w b hb;refine wp_mono (ih hk _ _ a w (G b1) af) (ZE ?_ ?_ ?_)
   .rintro s' a' w' ⟨b',π,aq,ac⟩ ag;have O:=QU ag ac (z b').1 ah (ab b');refine⟨⟨b',O⟩,?_⟩;obtain⟨_,aa⟩:=hμ a' w' b' O;rcases Fj (μ b') (μ' a' w') with h1|h1
    .exact absurd ⟨b',O,rfl⟩ (aa _ h1)
    .omega
   .intro i s Z;exact Z
   .intro s Z;exact Z
  .exact ai _ h (Qxl F hc)
  .simp only[Qsf] at h;obtain⟨β,I,μ,z,⟨b0,F0,π0,ad⟩,G⟩:=h
   let p:Act->World->Nat->Prop:=λa w n=> ∃b,BG C N (I b) a w/\μ b=n
   let μ':Act->World->Nat:=λa w=>Classical.epsilon λn=>p a w n/\ ∀k,k<n-> ¬p a w k
   have hμ: ∀a w b,BG C N (I b) a w->p a w (μ' a w)/\ ∀k,k<μ' a w-> ¬p a w k:=by
    intro a w b hb;exact mI (p:=λn=>p a w n/\ ∀k,k<n-> ¬p a w k) (NC (μ b) ⟨b,hb,rfl⟩)
   have ah:C.n0<=s.nx:=by
    obtain⟨S,_,h⟩:=hc;exact h.n0
   have ab: ∀b,C.n0<=(I b).nx:=by
    intro b;obtain⟨S,_,h⟩:=hc;exact D9 h.n0 (z b).2
   refine wp_loop (λa w=> ∃b,BG C N (I b) a w) μ' ⟨b0,QU (uF F0 hc) ad (z b0).1 ah (ab b0)⟩ ?_;rintro a w ⟨b,hb⟩;obtain⟨⟨b1,af,au⟩,_⟩:=hμ a w b hb;refine wp_mono (ih hk _ _ a w (G b1) af) (ZE ?_ ?_ ?_)
   .rintro s' a' w' ⟨b',F,π,aq,ac⟩ ag;have O:=QU (uF F ag) ac (z b').1 ah (ab b');refine⟨⟨b',O⟩,?_⟩;obtain⟨_,aa⟩:=hμ a' w' b' O;rcases Fj (μ b') (μ' a' w') with h1|h1
    .exact absurd ⟨b',O,rfl⟩ (aa _ h1)
    .omega
   .intro i s Z;exact Z
   .intro s Z;exact Z
 |exit id=>intro _ Q s a w h hc;exact wp_exit ⟨s,h,hc⟩
 |ret=>intro _ Q s a w h hc;exact wp_ret ⟨s,h,hc⟩
 |_=>intro hk;simp[Em] at hk
end
def lQ(P:Program)(g:FuncId):Prop:=g<1000000000/\ ∃fn,P.funcs[g]? =some fn/\(fn.name== "runtime.NumGoroutine")=false/\fn.body.isNone=false
def Q7(P:Program)(g:FuncId)(args:List AV)(h:Nat->Option Au)(nx:Nat)(r:AV)(E:Br):Prop:=
 ∀(C:AW) (S:A9) (vs:Array Value) (R:Ending->World->Prop),
  Wf C S->(∀n∈E.use++E.kill,S.h n=h n)->(∀n,Fr nx E.cnt n->S.h n=none)->
  (∀n e,S.h n=some e-> ∀m∈e.2.nms,¬Fr nx E.cnt m)->
  AN S args vs.toList->
  (∀v S',Wf C S'->S'.h=E.appf S.h->B3 (λm=> ¬Fr nx E.cnt m) S S'->Aa S' r v->R (.returned v) S'.w)->
  Calls P g vs S.w R
def J5(P:Program)(V:Db):Prop:= ∀g args h nx K,V g args h nx K->lQ P g/\ ∃r E,Q7 P g args h nx r E/\K r E
def sM{P:Program}{g:FuncId}(h:lQ P g)(args:Array Value)(w:World):(callFunc g args).run P w= .ok (.enter g args) w:=by
 obtain⟨_,fn,O,Q,Z⟩:=h;have z:fn.name≠ "runtime.NumGoroutine" :=by simpa using Q
 have G:fn.body≠none:=by intro h;simp[h] at Z
 simp[callFunc,O,z,G]
def Qpe{S:A9}{tm:List (Nat×AV)}{a:Act}: ∀(xs:List Operand),(∀x∈xs,Aa S (Az tm x) (a.eval x))->AN S (DB tm xs) (xs.map a.eval)
 |[],_=>by simp[DB,AN]
 |x::xs,h=>by
  simp only[DB,Bd,AN];exact⟨_,_,rfl,h x (by simp),Qpe xs (λy z=>h y (by simp[z]))⟩
def X0{P:Program}{V:Db}(hV:J5 P V)(tm:List (Nat×AV))(h:Nat->Option Au)(nx:Nat)(o:Oper)(c:Call)(f:Operand)(K:Ah)(ho:o.op= .call c)(z:c.callee= .value f)
 (hk:QD V (DB tm c.args.toList) h nx K (Az tm f)):BS P tm h nx o K:=by
 have ag:f∈o.op.operands:=by rw[ho];simp[Op.operands,Call.operands,z]
 have af: ∀x∈c.args.toList,x∈o.op.operands:=by
  intro x hx;rw[ho];simp only[Op.operands,Call.operands,z];simp;exact .inr (by simpa using hx)
 have aa: ∀(g:FuncId) (fi ca:List AV),V g (fi++DB tm c.args.toList++ca) h nx K->(∀(S:A9) (v:Value),Aa S (Az tm f) v-> ∃a b:Array Value,v= .func (VR g) a b/\AN S fi a.toList/\AN S ca b.toList)->BS P tm h nx o K:=by
  intro g fi ca Z hf;obtain⟨G,r,E,hT,hK⟩:=hV _ _ _ _ _ Z;refine⟨r,E,?_,hK⟩;intro C S a next Q hW hu ai ad O hn
  obtain⟨x,y,ac,hx,hy⟩:=hf S _ (O f ag);rw[Xc G.1] at ac;have ab:=Qpe c.args.toList (λx hx=>O x (af x hx));unfold Oper.wp;have ah:(execOp a.eval o).run P S.w= .ok (.enter g (x++c.args.map a.eval++y)) S.w:=by
   simp only[execOp,ho,resolve,z,ac,Sem.run_bind];simp[Deferred.ofValue,invoke,sM G]
  rw[ah,Oper.upon_enter];refine hT C S _ _ hW hu ai ad ?_ ?_
  .simp only[Zeh,VO];exact Qop _ _ _ _ (Qop _ _ _ _ hx ab) hy
  .intro v S' h1 h2 h3 h4;exact hn v S' h1 h2 h3 h4
 cases hf:Az tm f<;>rw[hf] at hk<;>try exact hk.elim
 case im d=>
  cases d<;>try exact hk.elim
  rename_i g first capt
  refine aa g (first.map .im) (capt.map .im) hk ?_;intro S v Z;rw[hf] at Z;simp only[Aa,rd] at Z;obtain⟨a,b,h1,h2,h3⟩:=Z;exact⟨a,b,h1,(I2 _ _).2 h2,(I2 _ _).2 h3⟩
 case clo g first capt=>
  refine aa g first capt hk ?_
  intro S v Z;rw[hf] at Z;simpa only[Aa] using Z
def Ts{P:Program}{t:TypeId}{m:String}{f:FuncId}(h:GO P t m=some f)(n:Nat)(v:Value)(w:World):(method (n+1) t v m).run P w= .ok (f,v) w:=by
 unfold GO at h;split at h
 .cases h
 .rename_i u z hu;unfold bD at h;split at h
  .rename_i i hi;split at h
   .rename_i mm hm;cases hp:mm.path.isEmpty with
    |false=>rw[hp] at h;cases h
    |true=>
     rw[hp,Ck] at h;split at h
     .rename_i g hg;obtain rfl:=AD h;have G:mm.path.toList=[]:=by simpa using hp
      have Q:(typeInfo t).run P w= .ok i w:=by simp[typeInfo,hi]
      have Z:(underlying t).run P w= .ok u w:=by simp[underlying,hu]
      have O:(receiverAt t (.val v) false (if mm.path.isEmpty then some ((m.splitOn ".").getLastD m) else none)).run P w= .ok v w:=by
       unfold receiverAt;rw[Sem.run_bind,Z];cases u<;>first|rfl|exact (z _ rfl).elim
      unfold method;simp only[Sem.run_bind,Q,Result.andThen_ok,hm,G,follow,Sem.run_pure,hg,O]
     .cases h
   .cases h
  .cases h
 .cases h
def fL{P:Program}{V:Db}(hV:J5 P V):Hs P V:=by
 refine⟨λtm h nx o c f K ho z _ G=>X0 hV tm h nx o c f K ho z G,?_⟩;intro tm h nx o c rc m K ho z hnm G;have ad:rc∈o.op.operands:=by rw[ho];simp[Op.operands,Call.operands,z]
 have ac: ∀x∈c.args.toList,x∈o.op.operands:=by
  intro x hx;rw[ho];simp only[Op.operands,Call.operands,z];simp;exact .inr (by simpa using hx)
 cases hr:Az tm rc<;>rw[hr] at G<;>try exact G.elim
 rename_i d;cases d<;>try exact G.elim
 rename_i t d;simp only[Nh] at G;cases hm:GO P t m with
 |none=>rw[hm] at G;exact G.elim
 |some g=>
 rw[hm] at G;simp only[W9] at G;obtain⟨aa,r,E,hT,hK⟩:=hV _ _ _ _ _ G;refine⟨r,E,?_,hK⟩;intro C S a next Q hW hu ag ab O hn
 have h1:=O rc ad;rw[hr] at h1;simp only[Aa,rd] at h1;obtain⟨x,hx,ah⟩:=h1;have Z:=Qpe c.args.toList (λx hx=>O x (ac x hx));unfold Oper.wp;have af:(execOp a.eval o).run P S.w= .ok (.enter g (#[x]++c.args.map a.eval)) S.w:=by
  simp only[execOp,ho,resolve,z,hx,Sem.run_bind];simp[invoke,callMethod];have e0:(#[Value.iface t x]++Array.map a.eval c.args)[0]? =some (.iface t x):=by rw[ZdG (by simp)];rfl
  obtain⟨n,hn1⟩: ∃n,P.types.size+Made.depth=n+1:=⟨P.types.size+99,by simp[Made.depth]⟩;have e1:(Array.map a.eval c.args).extract 0 c.args.size=Array.map a.eval c.args:=by
   have:=vU (xs:=Array.map a.eval c.args)
   rwa [Array.size_map] at this
  rw[e0];simp only[Sem.run_bind,run_program,Result.andThen_ok,hn1,Ts hm,e1];exact sM aa _ _
 rw[af,Oper.upon_enter];refine hT C S _ _ hW hu ag ab ?_ ?_
 .simp only[Zeh,VO];exact⟨x,_,rfl,ah,Z⟩
 .intro v S' h1 h2 h3 h4;exact hn v S' h1 h2 h3 h4
mutual
def AV.ren(σ:Nat->Nat):AV->AV
 | .any=> .any
 | .im d=> .im d
 | .agg z=> .agg (AL σ z)
 | .tup z=> .tup (AL σ z)
 | .ptr o p=> .ptr (σ o) p
 | .eptr o i p=> .eptr (σ o) i p
 | .own o=> .own (σ o)
 | .mp o=> .mp (σ o)
 | .ch o=> .ch (σ o)
 | .it o=> .it (σ o)
 | .osl o a n=> .osl (σ o) a n
 | .clo f a c=> .clo f (AL σ a) (AL σ c)
def AL(σ:Nat->Nat):List AV->List AV
 |[]=>[]
 |x::r=>x.ren σ::AL σ r
end
def Qze(σ:Nat->Nat): ∀(l:List AV),AL σ l=l.map (AV.ren σ)
 |[]=>rfl
 |x::r=>by simp only[AL,Bd,Qze σ r]
def Ad.ren(σ:Nat->Nat):Ad->Ad
 | .cells T z=> .cells T (AL σ z)
 | .arr T k rows=> .arr T k rows
 | .arrA T k rows=> .arrA T k (rows.map (AL σ))
 | .map O G=> .map O G
 | .chan q cap=> .chan q cap
 | .iter a l=> .iter a l
 | .view z=> .view z
def Qr6(σ:Nat->Nat)(e:Ad):(e.ren σ).esz=e.esz:=by cases e<;>rfl
def Qs6(σ:Nat->Nat)(e:Ad):(e.ren σ).len=e.len:=by cases e<;>simp[Ad.ren,Ad.len]
section
variable {S S':A9}{σ τ:Nat->Nat}
structure Of(S S':A9)(σ τ:Nat->Nat)(n:Nat):Prop where
 a: ∀e',S'.h (τ n)=some e'-> ∃e,S.h (σ n)=some e/\S'.ρ (τ n)=S.ρ (σ n)/\e'.2.esz=e.2.esz/\e'.2.len=e.2.len
mutual
def Qz8(aa: ∀b,S.ok b->S'.ok b/\S'.hp b=S.hp b): ∀(z:AV) (v:Value),(∀n∈z.nms,Of S S' σ τ n)->Aa S (z.ren σ) v->Aa S' (z.ren τ) v
 | .any,_,_,_=>by simp only[AV.ren,Aa]
 | .im d,v,_,h=>by
   simp only[AV.ren,Aa] at h⊢;exact GS aa d v h
 | .agg cs,v,O,h=>by
   simp only[AV.ren,Aa,AV.nms] at h O⊢;obtain⟨vs,rfl,h1⟩:=h;exact⟨vs,rfl,eE aa cs _ O h1⟩
 | .tup cs,v,O,h=>by
   simp only[AV.ren,Aa,AV.nms] at h O⊢;obtain⟨vs,rfl,h1⟩:=h;exact⟨vs,rfl,eE aa cs _ O h1⟩
 | .ptr o off,v,O,h=>by
   simp only[AV.ren,Aa,AV.nms,BK,Lz] at h O⊢;obtain⟨G,h⟩:=h;refine⟨G,?_⟩;intro e' Q;obtain⟨e,Z,hr,_,_⟩:=O.a e' Q;rw[hr];exact h e Z
 | .eptr o i off,v,O,h=>by
   simp only[AV.ren,Aa,AV.nms,BK,Lz] at h O⊢;obtain⟨G,h⟩:=h;refine⟨G,?_⟩;intro e' Q;obtain⟨e,Z,hr,hz,_⟩:=O.a e' Q;rw[hr,hz];exact h e Z
 | .own o,v,O,h=>by
   simp only[AV.ren,Aa,AV.nms,BK,Lz] at h O⊢;obtain⟨G,h⟩:=h;refine⟨G,?_⟩;intro e' Q;obtain⟨e,Z,hr,_,hl⟩:=O.a e' Q;rw[hr,hl];exact h e Z
 | .mp o,v,O,h=>by
   simp only[AV.ren,Aa,AV.nms,BK,Lz] at h O⊢;obtain⟨G,h⟩:=h;refine⟨G,?_⟩;intro e' Q;obtain⟨e,Z,hr,_,_⟩:=O.a e' Q;rw[hr];exact h e Z
 | .ch o,v,O,h=>by
   simp only[AV.ren,Aa,AV.nms,BK,Lz] at h O⊢;obtain⟨G,h⟩:=h;refine⟨G,?_⟩;intro e' Q;obtain⟨e,Z,hr,_,_⟩:=O.a e' Q;rw[hr];exact h e Z
 | .it o,v,O,h=>by
   simp only[AV.ren,Aa,AV.nms,BK,Lz] at h O⊢;obtain⟨G,h⟩:=h;refine⟨G,?_⟩;intro e' Q;obtain⟨e,Z,hr,_,_⟩:=O.a e' Q;rw[hr];exact h e Z
 | .osl o a n,v,O,h=>by
   simp only[AV.ren,Aa,AV.nms,BK,Lz] at h O⊢;obtain⟨G,h⟩:=h;refine⟨G,?_⟩;intro e' Q;obtain⟨e,Z,hr,hz,hl⟩:=O.a e' Q;rw[hr,hz,hl];exact h e Z
 | .clo f fi ca,v,O,h=>by
   simp only[AV.ren,Aa,AV.nms,Bx] at h O⊢;obtain⟨a,c,rfl,h1,h2⟩:=h;exact⟨a,c,rfl,eE aa fi _ (λo ho=>O o (.inl ho)) h1,eE aa ca _ (λo ho=>O o (.inr ho)) h2⟩
def eE(z: ∀b,S.ok b->S'.ok b/\S'.hp b=S.hp b): ∀(Q:List AV) (vs:List Value),(∀n∈AH Q,Of S S' σ τ n)->AN S (AL σ Q) vs->AN S' (AL τ Q) vs
 |[],_,_,h=>by simpa only[AL,AN] using h
 |x::xs,vs,O,h=>by
  simp only[AL,AN,AH,Bx] at h O⊢;obtain⟨v,r,rfl,Z,h2⟩:=h;exact⟨v,r,rfl,Qz8 z x v (λo G=>O o (.inl G)) Z,eE z xs r (λo G=>O o (.inr G)) h2⟩
end
def Qt9(z: ∀b,S.ok b->S'.ok b/\S'.hp b=S.hp b): ∀(Q:List AV) (vs:List Value),(∀n∈AH Q,Of S S' σ τ n)->Cy S (AL σ Q) vs->Cy S' (AL τ Q) vs
 |[],_,_,h=>by simp only[AL,Cy]
 |x::xs,vs,O,h=>by
  simp only[AL,Cy,AH,Bx] at h O⊢;obtain⟨v,r,rfl,Z,h2⟩:=h;exact⟨v,r,rfl,Qz8 z x v (λo G=>O o (.inl G)) Z,Qt9 z xs r (λo G=>O o (.inr G)) h2⟩
def Qsc(σ:Nat->Nat)(l:List AV):(AL σ l).length=l.length:=by rw[Qze];simp
def Qva(z: ∀b,S.ok b->S'.ok b/\S'.hp b=S.hp b)(k:Nat): ∀(G:List (List AV)) (vs:List Value),(∀n∈B7 G,Of S S' σ τ n)->BH S k (G.map (AL σ)) vs->BH S' k (G.map (AL τ)) vs
 |[],_,_,h=>by simp only[Gq,BH]
 |r::G,vs,Q,h=>by
  simp only[Bd,BH,B7,Bx,Qsc] at h Q⊢;exact⟨h.1,Qt9 z r vs (λo O=>Q o (.inl O)) h.2.1,Qva z k G _ (λo O=>Q o (.inr O)) h.2.2⟩
def Qzw(G: ∀b,S.ok b->S'.ok b/\S'.hp b=S.hp b){l:Option F8}(hl: ∀z,l=some z->S'.hp z.b=S.hp z.b): ∀(e:Ad),(∀n∈e.nms,Of S S' σ τ n)->Aw S l (e.ren σ)->Aw S' l (e.ren τ)
 | .cells T cs,hx,h=>by
   simp only[Ad.ren,Aw,Ad.nms] at h hx⊢;obtain⟨z,vs,O,Z,h3,h4⟩:=h;exact⟨z,vs,O,Z,(hl z O).trans h3,eE G cs _ hx h4⟩
 | .arr T k rows,hx,h=>by
   simp only[Ad.ren,Aw] at h⊢;refine⟨h.1,?_⟩;cases l with
   |none=>exact h.2
   |some z=>
    obtain⟨h0,O,vs,Z,h3,h4⟩:=h;exact⟨O,vs,(hl z rfl).trans Z,h3,ZC G k rows _ h4⟩
 | .arrA T k rows,hx,h=>by
   simp only[Ad.ren,Aw,Ad.nms,He] at h hx⊢;refine⟨h.1,?_⟩;cases l with
   |none=>
    have:=h.2
    simp only[List.map_eq_nil_iff] at this⊢;exact this
   |some z=>
    obtain⟨h0,O,vs,Z,h3,h4⟩:=h;exact⟨O,vs,(hl z rfl).trans Z,h3,Qva G k rows _ hx h4⟩
 | .map kt es,_,h=>by
   simp only[Ad.ren,Aw] at h⊢;obtain⟨z,aa,Q,O,h0,Z,h3,h4⟩:=h;exact⟨z,aa,Q,O,h0,(hl z O).trans Z,Lg G es _ h3,h4⟩
 | .chan q cap,_,h=>by
   simp only[Ad.ren,Aw] at h⊢;obtain⟨z,ag,af,ac,O,Z,h3⟩:=h;exact⟨z,ag,af,ac,O,(hl z O).trans Z,Li G q _ h3⟩
 | .iter ab left,_,h=>by
   simp only[Ad.ren,Aw] at h⊢;obtain⟨z,mb,aa,Q,ad,O,Z,h0,h3,h4,h5,h6,h7⟩:=h;exact⟨z,mb,aa,Q,ad,O,(G mb Z).1,Qly G ab h0,(G mb Z).2.trans h3,(hl z O).trans h4,h5,h6,Lg G left _ h7⟩
 | .view cs,_,h=>by
   simp only[Ad.ren,Aw] at h⊢;obtain⟨z,vs,T,fr,O,Z,h3⟩:=h;exact⟨z,vs,T,fr,O,(hl z O).trans Z,ZB G cs _ h3⟩
mutual
def jR: ∀(z:AV),z.ren (λn=>n)=z
 | .any=>rfl
 | .im _=>rfl
 | .agg G=>by simp only[AV.ren,ZG G]
 | .tup G=>by simp only[AV.ren,ZG G]
 | .ptr _ _=>rfl
 | .eptr _ _ _=>rfl
 | .own _=>rfl
 | .mp _=>rfl
 | .ch _=>rfl
 | .it _=>rfl
 | .osl _ _ _=>rfl
 | .clo f a c=>by simp only[AV.ren,ZG a,ZG c]
def ZG: ∀(z:List AV),AL (λn=>n) z=z
 |[]=>rfl
 |x::r=>by simp only[AL,jR x,ZG r]
end
def Qwc(e:Ad):e.ren (λn=>n)=e:=by
 cases e<;>simp only[Ad.ren,ZG];rename_i T k rows
 have:(AL λn=>n)=(id:List AV->List AV):=funext ZG
 rw[this];simp
end
def A7{α β:Type}(f:α->Option β):List α->Option (List β)
 |[]=>some []
 |x::r=>match f x,A7 f r with
  |some y,some z=>some (y::z)
  |_,_=>none
def Qh(f:AV->Option D):Option Au->Option D
 |some (_,.arr _ k rows)=>some (.sl false k rows)
 |some (_,.arrA _ k rows)=>(A7 (A7 f) rows).map (.sl false k)
 |_=>none
def Xf:Option Au->Option D
 |some (_,.map G z)=>some (.mp G z)
 |_=>none
def Xa(f:AV->Option D):Option Au->Option D
 |some (_,.cells _ z)=>(A7 f z).map .ref
 |_=>none
def nG(z:List AV):Option (List D)->AV
 |some ds=> .im (.tup ds)
 |none=> .tup z
def iU(g:FuncId)(a c:List AV):Option (List D)->Option (List D)->AV
 |some ds,some z=> .im (.fn g ds z)
 |some _,none=> .clo g a c
 |none,_=> .clo g a c
def Jd(g:FuncId):Option (List AV)->Option (List AV)->Option AV
 |some a,some c=>some (iU g a c (DO a) (DO c))
 |_,_=>none
def kp(x:Nat->AV)(d:Option D):Option Nat->Option AV
 |some j=>some (x j)
 |none=>d.map .im
def Ek:Option AV->Option D
 |some x=>x.asD
 |none=>none
def Be(h:Nat->Option Au)(kx:Nat->Option Nat):Nat->AV->Option AV
 |0,_=>none
 |_+1,.im d=>some (.im d)
 |_+1,.any=>some .any
 |n+1,.agg G=>(A7 (Be h kx n) G).map λz=>Ys z (DO z)
 |n+1,.tup G=>(A7 (Be h kx n) G).map λz=>nG z (DO z)
 |n+1,.own o=>kp .own (Qh (λx=>Ek (Be h kx n x)) (h o)) (kx o)
 |_+1,.mp o=>kp .mp (Xf (h o)) (kx o)
 |n+1,.ptr o 0=>kp (λj=> .ptr j 0) (Xa (λx=>Ek (Be h kx n x)) (h o)) (kx o)
 |_+1,.ptr o (p+1)=>kp (λj=> .ptr j (p+1)) none (kx o)
 |_+1,.eptr o i p=>kp (λj=> .eptr j i p) none (kx o)
 |_+1,.ch o=>kp .ch none (kx o)
 |_+1,.it o=>kp .it none (kx o)
 |_+1,.osl o a n=>kp (λj=> .osl j a n) none (kx o)
 |n+1,.clo g a c=>Jd g (A7 (Be h kx n) a) (A7 (Be h kx n) c)
section
variable {S:A9}{f:AV->Option D}
def mA(hf: ∀x d v,f x=some d->Aa S x v->rd S.ok S.hp d v): ∀(cs:List AV) (ds:List D) (vs:List Value),A7 f cs=some ds->AN S cs vs->rdl S.ok S.hp ds vs
 |[],ds,vs,h,hc=>by
  simp only[A7,AJ] at h;subst h;simp only[AN] at hc;simp only[rdl];exact hc
 |x::cs,ds,vs,h,hc=>by
  simp only[A7] at h;simp only[AN] at hc;obtain⟨v,r,rfl,G,O⟩:=hc;split at h
  .rename_i y Z Q z;obtain rfl:=AD h;simp only[rdl];exact⟨v,r,rfl,hf x y v Q G,mA hf cs Z r z O⟩
  .cases h
def Tp(hf: ∀x d v,f x=some d->Aa S x v->rd S.ok S.hp d v): ∀(cs:List AV) (ds:List D) (vs:List Value),A7 f cs=some ds->Cy S cs vs->rdp S.ok S.hp ds vs
 |[],ds,vs,h,hc=>by
  simp only[A7,AJ] at h;subst h;simp only[rdp]
 |x::cs,ds,vs,h,hc=>by
  simp only[A7] at h;simp only[Cy] at hc;obtain⟨v,r,rfl,G,O⟩:=hc;split at h
  .rename_i y Z Q z;obtain rfl:=AD h;simp only[rdp];exact⟨v,r,rfl,hf x y v Q G,Tp hf cs Z r z O⟩
  .cases h
def eJ{α β:Type}{g:α->Option β}: ∀(cs:List α) (ds:List β),A7 g cs=some ds->ds.length=cs.length
 |[],ds,h=>by simp only[A7,AJ] at h;subst h;rfl
 |x::cs,ds,h=>by
  simp only[A7] at h;split at h
  .rename_i y G O z;obtain rfl:=AD h;simp[eJ cs G z]
  .cases h
def Tq(hf: ∀x d v,f x=some d->Aa S x v->rd S.ok S.hp d v){k:Nat}: ∀(O:List (List AV)) (ds:List (List D)) (vs:List Value),A7 (A7 f) O=some ds->BH S k O vs->rdr S.ok S.hp k ds vs
 |[],ds,vs,h,hc=>by
  simp only[A7,AJ] at h;subst h;simp only[rdr]
 |x::Q,ds,vs,h,hc=>by
  simp only[A7] at h;simp only[BH] at hc;split at h
  .rename_i y Z G z;obtain rfl:=AD h;simp only[rdr];exact⟨by rw[eJ x y G];exact hc.1,Tp hf x y vs G hc.2.1,Tq hf Q Z _ z hc.2.2⟩
  .cases h
def Qv8{o:Nat}{e:Au}{k:Nat}{rows:List (List D)}{v:Value}(he:S.h o=some e)(hl:e.2.len=rows.length)(O: ∀l,S.ρ o=some l->S.ok l.b)
 (z:match S.ρ o with|none=>rows=[]|some Q=>rows.length<=Lc/\rows.length<=Q.cap/\ ∃G T,S.hp Q.b=some (.cells G T (0,0))/\rdr S.ok S.hp k rows (G.toList.drop Q.p))(hc:Aa S (.own o) v):rd S.ok S.hp (.sl false k rows) v:=by
 simp only[Aa] at hc;have hc:=hc.2 e he;simp only[rd];cases hr:S.ρ o with
 |none=>rw[hr] at hc z;exact .inl ⟨.inl hc,z⟩
 |some l=>
  rw[hr] at hc z;obtain⟨h0,Z,G,T,h2,h3⟩:=z;exact .inr ⟨l.b,l.p,l.cap,G,T,(0,0),by rw[<-hl];exact hc,by simp,Z,h0,O l hr,h2,h3⟩
end
def LO{C:AW}{S:A9}(hW:Wf C S){f:AV->Option D}(hf: ∀x d v,f x=some d->Aa S x v->rd S.ok S.hp d v){o:Nat}{d:D}{v:Value}(O: ∀e l,S.h o=some e->e.2.isView=false->S.ρ o=some l->S.ok l.b)
 (h:Qh f (S.h o)=some d)(hc:Aa S (.own o) v):rd S.ok S.hp d v:=by
 cases ho:S.h o with
 |none=>rw[ho] at h;simp[Qh] at h
 |some e=>
  rw[ho] at h;obtain⟨mu,e⟩:=e;have z:=hW.obj o _ ho;cases e<;>simp only[Qh,reduceCtorEq] at h
  .obtain rfl:=AD h;simp only[Aw] at z;refine Qv8 ho rfl (λl hl=>O _ l ho rfl hl) ?_ hc;cases hr:S.ρ o with
   |none=>rw[hr] at z;exact z.2
   |some l=>
    rw[hr] at z;obtain⟨h0,Q,vs,h2,_,Z⟩:=z;exact⟨h0,Q,vs,_,h2,Z⟩
  .simp only[D4] at h;obtain⟨rows,Q,rfl⟩:=h;have G:=eJ _ _ Q;simp only[Aw] at z;refine Qv8 ho (by simp[Ad.len,G]) (λl hl=>O _ l ho rfl hl) ?_ hc;cases hr:S.ρ o with
   |none=>rw[hr] at z;rw[z.2] at G;exact Qo.1 (by simpa using G)
   |some l=>
    rw[hr] at z;obtain⟨h0,h2,vs,Z,_,h4⟩:=z;exact⟨by omega,by omega,vs,_,Z,Tq hf _ _ _ Q h4⟩
def Sx{C:AW}{S:A9}(hW:Wf C S){o:Nat}{d:D}{v:Value}(Q: ∀e l,S.h o=some e->e.2.isView=false->S.ρ o=some l->S.ok l.b)
 (h:Xf (S.h o)=some d)(hc:Aa S (.mp o) v):rd S.ok S.hp d v:=by
 cases ho:S.h o with
 |none=>rw[ho] at h;simp[Xf] at h
 |some e=>
  rw[ho] at h;obtain⟨mu,e⟩:=e;have O:=hW.obj o _ ho;cases e<;>simp only[Xf,reduceCtorEq] at h;obtain rfl:=AD h;simp only[Aw] at O;obtain⟨lc,G,z,Z,h2,h3,h4⟩:=O;simp only[Aa] at hc;obtain⟨l,hl,hv⟩:=hc.2 _ ho;rw[Z] at hl;obtain rfl:=AD hl;simp only[rd];exact⟨lc.b,G,z,hv,h2,Q _ lc ho rfl Z,h3,h4⟩
def XT{C:AW}{S:A9}(hW:Wf C S){f:AV->Option D}(hf: ∀x d v,f x=some d->Aa S x v->rd S.ok S.hp d v){o:Nat}{d:D}{v:Value}(G: ∀e l,S.h o=some e->e.2.isView=false->S.ρ o=some l->S.ok l.b)
 (h:Xa f (S.h o)=some d)(hc:Aa S (.ptr o 0) v):rd S.ok S.hp d v:=by
 cases ho:S.h o with
 |none=>rw[ho] at h;simp[Xa] at h
 |some e=>
  rw[ho] at h;obtain⟨mu,e⟩:=e;have z:=hW.obj o _ ho;cases e<;>simp only[Xa,reduceCtorEq] at h;simp only[D4] at h;obtain⟨ds,h1,rfl⟩:=h;simp only[Aw] at z;obtain⟨O,vs,Q,h3,h4,h5⟩:=z;simp only[Aa] at hc;obtain⟨l,Z,hv⟩:=hc.2 _ ho;rw[Q] at Z;obtain rfl:=AD Z;simp only[rd];refine⟨O.b,O.p+0,vs,_,_,hv,G _ O ho rfl Q,h4,?_⟩;rw[h3];simpa using WT _ _ (mA hf _ _ _ h1 h5)
def tD{g:AV->Option AV}: ∀(cs O:List AV) (ds:List D),A7 g cs=some O->DO O=some ds->A7 (λx=>Ek (g x)) cs=some ds
 |[],O,ds,h,G=>by
  simp only[A7,AJ] at h;subst h;simpa[DO,A7] using G
 |x::cs,O,ds,h,G=>by
  simp only[A7] at h;split at h
  .rename_i z Z hz Q;obtain rfl:=AD h;simp only[DO] at G;cases hy:z.asD with
   |none=>rw[hy] at G;simp[Oc] at G
   |some d=>
    cases hys:DO Z with
    |none=>rw[hy,hys] at G;simp[Oc] at G
    |some es=>
     rw[hy,hys] at G;simp only[Oc,AJ] at G;subst G;have h9:=tD cs Z es Q hys;have h8:Ek (g x)=some d:=by rw[hz];exact hy
     simp only[A7,h8,h9]
  .cases h
def Ow{x:Option AV}{d:D}(h:Ek x=some d):x=some (.im d):=by
 cases x with
 |none=>cases h
 |some x=>
  simp only[Ek] at h;cases x<;>simp only[AV.asD,reduceCtorEq] at h;obtain rfl:=AD h;rfl
def ZV{x:Nat->AV}{d:Option D}{k:Option Nat}{e:D}(O: ∀j,x j≠ .im e)(h:kp x d k=some (.im e)):k=none/\d=some e:=by
 cases k with
 |some j=>
  simp only[kp,AJ] at h;exact absurd h (O j)
 |none=>
  simp only[kp,D4] at h;obtain⟨d',z,G⟩:=h;cases G;exact⟨rfl,z⟩
def RO{C:AW}{S:A9}(hW:Wf C S){kx:Nat->Option Nat}(O: ∀o e l,kx o=none->S.h o=some e->e.2.isView=false->S.ρ o=some l->S.ok l.b):
 ∀(n:Nat) (x:AV) (d:D) (v:Value),Be S.h kx n x=some (.im d)->Aa S x v->rd S.ok S.hp d v:=by
 intro n;induction n with
 |zero=>intro x d v h;simp[Be] at h
 |succ n ih=>
  have hf: ∀x d v,Ek (Be S.h kx n x)=some d->Aa S x v->rd S.ok S.hp d v:=λx d v h hc=>ih x d v (Ow h) hc
  intro x d v h hc;cases x with
  |im d'=>
   simp only[Be,AJ,AV.im.injEq] at h;subst h;simpa only[Aa] using hc
  |any=>simp[Be] at h
  |agg Q=>
   simp only[Be,D4] at h;obtain⟨ys,G,z⟩:=h;simp only[Aa] at hc;obtain⟨vs,rfl,Z⟩:=hc;cases ha:DO ys with
   |none=>rw[ha] at z;simp[Ys] at z
   |some ds=>
    rw[ha] at z;simp only[Ys,AV.im.injEq] at z;subst z;simp only[rd];exact⟨vs,rfl,mA hf Q ds _ (tD Q ys ds G ha) Z⟩
  |tup Q=>
   simp only[Be,D4] at h;obtain⟨ys,G,z⟩:=h;simp only[Aa] at hc;obtain⟨vs,rfl,Z⟩:=hc;cases ha:DO ys with
   |none=>rw[ha] at z;simp[nG] at z
   |some ds=>
    rw[ha] at z;simp only[nG,AV.im.injEq] at z;subst z;simp only[rd];exact⟨vs,rfl,mA hf Q ds _ (tD Q ys ds G ha) Z⟩
  |own o=>
   simp only[Be] at h;obtain⟨G,z⟩:=ZV (by simp) h;exact LO hW hf (λe l=>O o e l G) z hc
  |mp o=>
   simp only[Be] at h;obtain⟨G,z⟩:=ZV (by simp) h;exact Sx hW (λe l=>O o e l G) z hc
  |ptr o p=>
   cases p with
   |zero=>
    simp only[Be] at h;obtain⟨G,z⟩:=ZV (by simp) h;exact XT hW hf (λe l=>O o e l G) z hc
   |succ p=>
    simp only[Be] at h;obtain⟨G,z⟩:=ZV (by simp) h;cases z
  |eptr o i p=>
   simp only[Be] at h;obtain⟨G,z⟩:=ZV (by simp) h;cases z
  |ch o=>
   simp only[Be] at h;obtain⟨G,z⟩:=ZV (by simp) h;cases z
  |it o=>
   simp only[Be] at h;obtain⟨G,z⟩:=ZV (by simp) h;cases z
  |osl o a k=>
   simp only[Be] at h;obtain⟨G,z⟩:=ZV (by simp) h;cases z
  |clo g a c=>
   simp only[Be] at h;cases ha:A7 (Be S.h kx n) a with
   |none=>rw[ha] at h;simp[Jd] at h
   |some a'=>
    cases hcc:A7 (Be S.h kx n) c with
    |none=>rw[ha,hcc] at h;simp[Jd] at h
    |some c'=>
     rw[ha,hcc] at h;simp only[Jd,AJ] at h;cases G:DO a' with
     |none=>rw[G] at h;simp[iU] at h
     |some ds=>
      cases z:DO c' with
      |none=>rw[G,z] at h;simp[iU] at h
      |some es=>
       rw[G,z] at h;simp only[iU,AV.im.injEq] at h;subst h;simp only[Aa] at hc;obtain⟨va,vc,rfl,Z,h4⟩:=hc;simp only[rd];exact⟨va,vc,rfl,mA hf a ds _ (tD a a' ds ha G) Z,mA hf c es _ (tD c c' es hcc z) h4⟩
def Qrr{C:AW}{S S':A9}(hW:Wf C S){kx:Nat->Option Nat}{τ:Nat->Nat}(ac: ∀b,S.ok b->S'.ok b/\S'.hp b=S.hp b)(ab: ∀o e l,kx o=none->S.h o=some e->e.2.isView=false->S.ρ o=some l->S.ok l.b)
 (O: ∀o j,kx o=some j-> ∀e',S'.h (τ j)=some e'-> ∃e,S.h o=some e/\S'.ρ (τ j)=S.ρ o/\e'.2.esz=e.2.esz/\e'.2.len=e.2.len):
 ∀(n:Nat) (x y:AV) (v:Value),Be S.h kx n x=some y->Aa S x v->Aa S' (y.ren τ) v:=by
 intro n;induction n with
 |zero=>intro x y v h;simp[Be] at h
 |succ n ih=>
  have hm: ∀(cs ys:List AV) (vs:List Value),A7 (Be S.h kx n) cs=some ys->AN S cs vs->AN S' (AL τ ys) vs:=by
   intro cs;induction cs with
   |nil=>
    intro ys vs h hc;simp only[A7,AJ] at h;subst h;simpa only[AL,AN] using hc
   |cons x cs af=>
    intro ys vs h hc;simp only[A7] at h;simp only[AN] at hc;obtain⟨v,r,rfl,Q,Z⟩:=hc;split at h
    .rename_i z zs hz ad;obtain rfl:=AD h;simp only[AL,AN];exact⟨v,r,rfl,ih x z v hz Q,af zs r ad Z⟩
    .cases h
  intro x y v h hc;have hB: ∀d,y= .im d->Aa S' (y.ren τ) v:=by
   intro d hd;subst hd;simp only[AV.ren,Aa];exact GS ac d v (RO hW ab (n+1) x d v h hc)
  have hK: ∀(f:Nat->AV) (g:Option D) (o:Nat),kp f g (kx o)=some y->(∀j,kx o=some j->Aa S' ((f j).ren τ) v)->Aa S' (y.ren τ) v:=by
   intro f g o Q Z;cases hk:kx o with
   |none=>
    rw[hk] at Q;simp only[kp,D4] at Q;obtain⟨d,_,rfl⟩:=Q;exact hB d rfl
   |some j=>
    rw[hk] at Q;simp only[kp,AJ] at Q;rw[<-Q];exact Z j hk
  cases x with
  |im d=>
   simp only[Be,AJ] at h;exact hB d h.symm
  |any=>
   simp only[Be,AJ] at h;subst h;simp only[AV.ren,Aa]
  |agg cs=>
   have h0:=h;simp only[Be,D4] at h0;obtain⟨ys,Q,Z⟩:=h0;cases ha:DO ys with
   |some ds=>rw[ha] at Z;exact hB _ Z.symm
   |none=>
    rw[ha] at Z;simp only[Aa] at hc;obtain⟨vs,rfl,h3⟩:=hc;rw[<-Z];simp only[Ys,AV.ren,Aa];exact⟨vs,rfl,hm cs ys _ Q h3⟩
  |tup cs=>
   have h0:=h;simp only[Be,D4] at h0;obtain⟨ys,Q,Z⟩:=h0;cases ha:DO ys with
   |some ds=>rw[ha] at Z;exact hB _ Z.symm
   |none=>
    rw[ha] at Z;simp only[Aa] at hc;obtain⟨vs,rfl,h3⟩:=hc;rw[<-Z];simp only[nG,AV.ren,Aa];exact⟨vs,rfl,hm cs ys _ Q h3⟩
  |own o=>
   have h0:=h;simp only[Be] at h0;refine hK _ _ o h0 ?_;intro j hj;simp only[Aa,AV.ren] at hc⊢;refine⟨hc.1,?_⟩;intro e' G;obtain⟨e,he,hr,_,hl⟩:=O o j hj e' G;rw[hr,hl];exact hc.2 e he
  |mp o=>
   have h0:=h;simp only[Be] at h0;refine hK _ _ o h0 ?_;intro j hj;simp only[Aa,AV.ren] at hc⊢;refine⟨hc.1,?_⟩;intro e' G;obtain⟨e,he,hr,_,hl⟩:=O o j hj e' G;rw[hr];exact hc.2 e he
  |ptr o p=>
   have hp: ∀j,kx o=some j->Aa S' ((AV.ptr j p).ren τ) v:=by
    intro j hj;simp only[Aa,AV.ren] at hc⊢;refine⟨hc.1,?_⟩;intro e' G;obtain⟨e,he,hr,_,hl⟩:=O o j hj e' G;rw[hr];exact hc.2 e he
   cases p with
   |zero=>
    have h0:=h;simp only[Be] at h0;exact hK _ _ o h0 hp
   |succ p=>
    have h0:=h;simp only[Be] at h0;exact hK _ _ o h0 hp
  |eptr o i p=>
   have h0:=h;simp only[Be] at h0;refine hK _ _ o h0 ?_;intro j hj;simp only[Aa,AV.ren] at hc⊢;refine⟨hc.1,?_⟩;intro e' G;obtain⟨e,he,hr,hz,hl⟩:=O o j hj e' G;rw[hr,hz];exact hc.2 e he
  |ch o=>
   have h0:=h;simp only[Be] at h0;refine hK _ _ o h0 ?_;intro j hj;simp only[Aa,AV.ren] at hc⊢;refine⟨hc.1,?_⟩;intro e' G;obtain⟨e,he,hr,_,hl⟩:=O o j hj e' G;rw[hr];exact hc.2 e he
  |it o=>
   have h0:=h;simp only[Be] at h0;refine hK _ _ o h0 ?_;intro j hj;simp only[Aa,AV.ren] at hc⊢;refine⟨hc.1,?_⟩;intro e' G;obtain⟨e,he,hr,_,hl⟩:=O o j hj e' G;rw[hr];exact hc.2 e he
  |osl o a k=>
   have h0:=h;simp only[Be] at h0;refine hK _ _ o h0 ?_;intro j hj;simp only[Aa,AV.ren] at hc⊢;refine⟨hc.1,?_⟩;intro e' G;obtain⟨e,he,hr,hz,hl⟩:=O o j hj e' G;rw[hr,hz,hl];exact hc.2 e he
  |clo g a c=>
   have h0:=h;simp only[Be] at h0;cases ha:A7 (Be S.h kx n) a with
   |none=>rw[ha] at h0;simp[Jd] at h0
   |some a'=>
    cases hcc:A7 (Be S.h kx n) c with
    |none=>rw[ha,hcc] at h0;simp[Jd] at h0
    |some c'=>
     rw[ha,hcc] at h0;simp only[Jd,AJ] at h0;have aa:y= .clo g a' c'->Aa S' (y.ren τ) v:=by
      intro hy;subst hy;simp only[Aa] at hc;obtain⟨va,vc,rfl,h3,h4⟩:=hc;simp only[AV.ren,Aa];exact⟨va,vc,rfl,hm a a' _ ha h3,hm c c' _ hcc h4⟩
     cases Q:DO a' with
     |none=>rw[Q] at h0;exact aa (by rw[<-h0];rfl)
     |some ds=>
      cases Z:DO c' with
      |none=>rw[Q,Z] at h0;exact aa (by rw[<-h0];rfl)
      |some es=>rw[Q,Z] at h0;exact hB _ h0.symm
def L9(ti:TI):Option Au->Option AV
 |some (_,.cells _ z)=>bif (ti.agg||ti.size==1) && z.length==ti.size then some (iV ti.agg z) else none
 |_=>none
def IP(h:Av)(x:AV):Option TI->Option AV
 |none=>none
 |some ti=>match x with
  | .ptr o 0=>L9 ti (hget h o)
  |_=>none
def Kf(P:Program)(s:Ai):ResultVar->Option AV
 | .tmp t=>some (AF s.tm t)
 | .cell a T=>IP s.h (AF s.tm a) (tI P T)
def Di:List AV->AV
 |[x]=>x
 |xs=> .tup xs
def RD{P:Program}{C:AW}{N:Nat}{s:Ai}{S:A9}{a:Act}(hc:CL C N s S a){x:ResultVar}{r:AV}(z:Kf P s x=some r):
 ∃v,(match x with| .tmp t=>pure (a.tmps.getD t undef)| .cell c t=>do loadVar t (<-asAddr (a.tmps.getD c undef)):Sem Value).run P S.w= .ok v S.w/\Aa S r v:=by
 cases x with
 |tmp t=>
  simp only[Kf,AJ] at z;subst z;exact⟨a.eval (.tmp t),by simp[Act.eval],hc.tm t⟩
 |cell c T=>
  simp only[Kf] at z;cases hT:tI P T with
  |none=>rw[hT] at z;simp[IP] at z
  |some ti=>
   rw[hT] at z;simp only[IP] at z;split at z
   .rename_i o ho;cases he:hget s.h o with
    |none=>rw[he] at z;simp[L9] at z
    |some e=>
     rw[he] at z;obtain⟨mu,e⟩:=e;cases e<;>simp only[L9,reduceCtorEq] at z;rename_i U cs;cases hb:(ti.agg||ti.size==1) && cs.length==ti.size<;>rw[hb] at z
     .simp at z
     .simp only[Ck,AJ] at z;subst z;simp only[AS,Hd,Qu] at hb;have hS:S.h o=_:=(hc.h o).trans he;have aa:=hc.wf.obj o _ hS;simp only[Aw] at aa;obtain⟨lc,vs,hl,ac,ab,O⟩:=aa;have h1:=hc.tm c;rw[ho] at h1;simp only[Aa] at h1;obtain⟨l,Q,hv⟩:=h1.2 _ hS;rw[hl] at Q;obtain rfl:=AD Q;have G:=IB _ _ O;have Z:=eD hT (w:=S.w) (b:=lc.b) (p:=0) ab (by simp at G⊢;omega) hb.1;have ad:a.tmps.getD c undef= .pointer (some ⟨lc.b,0,none⟩):=by simpa[Act.eval,ac] using hv
      rw[Hh,DQ (by rw[G,hb.2];exact AQ _)] at Z;refine⟨if ti.agg then .agg vs.toList.toArray else vs.toList.headD undef,?_,sW O hb.2 hb.1⟩;simp only[ad,asAddr,Sem.run_bind,Sem.run_pure,Result.andThen_ok];exact Z
   .cases z
def rY{P:Program}{C:AW}{N:Nat}{s:Ai}{S:A9}{a:Act}(hc:CL C N s S a){fn:Func}{xs:List AV}(hx:A7 (Kf P s) fn.results.toList=some xs):
 ∃v,(results fn a.tmps).run P S.w= .ok v S.w/\Aa S (Di xs) v:=by
 have ab: ∀(O:List ResultVar) (xs:List AV),A7 (Kf P s) O=some xs-> ∃z:List Value,(O.mapM λx=>(match x with
  | .tmp t=>pure (a.tmps.getD t undef)| .cell c t=>do loadVar t (<-asAddr (a.tmps.getD c undef)):Sem Value)).run P S.w= .ok z S.w/\AN S xs z:=by
  intro O;induction O with
  |nil=>
   intro xs h;simp only[A7,AJ] at h;subst h;exact⟨[],by simp,by simp only[AN]⟩
  |cons x O ih=>
   intro xs h;simp only[A7] at h;split at h
   .rename_i y ys hy aa;obtain rfl:=AD h;obtain⟨v,Q,G⟩:=RD hc hy;obtain⟨z,Z,h4⟩:=ih ys aa;refine⟨v::z,?_,by simp only[AN];exact⟨v,z,rfl,G,h4⟩⟩;simp only[List.mapM_cons,Sem.run_bind,Q,Z,Result.andThen_ok,Sem.run_pure]
   .cases h
 obtain⟨z,Q,G⟩:=ab _ _ hx;have hl:=IB _ _ G;have hm:(results fn a.tmps).run P S.w= .ok (if h:z.toArray.size=1 then z.toArray[0] else .tuple z.toArray) S.w:=by
  unfold results;rw[Zey]
  have: ∀(m:Sem (List Value)),m.run P S.w= .ok z S.w->((Functor.map List.toArray m)>>=λz=>(pure (if h:z.size=1 then z[0] else .tuple z):Sem Value)).run P S.w= .ok (if h:z.toArray.size=1 then z.toArray[0] else .tuple z.toArray) S.w:=by
   intro m hm;rw[Sem.run_bind]
   have:(Functor.map List.toArray m).run P S.w= .ok z.toArray S.w:=by
    rw[map_eq_pure_bind,Sem.run_bind,hm];rfl
   rw[this];rfl
  exact this _ Q
 refine⟨_,hm,?_⟩;cases xs with
 |nil=>
  simp only[AN] at G;subst G;simp only[Di,Aa];exact⟨#[],by simp,by simp[AN]⟩
 |cons x xs=>
  cases xs with
  |nil=>
   simp only[AN] at G;obtain⟨v,r,rfl,Z,rfl⟩:=G;simpa[Di] using Z
  |cons y xs=>
   have: ¬z.toArray.size=1:=by simp only[Om];simp at hl;omega
   rw[dif_neg this];simp only[Di,Aa];exact⟨_,rfl,G⟩
def entry:Nat->List AV->List (Nat×AV)
 |_,[]=>[]
 |i,x::r=>(i,x)::entry (i+1) r
def kX{S:A9}: ∀(args:List AV) (vs:List Value) (i t:Nat),AN S args vs->Aa S (AF (entry i args) t) (if i<=t then (vs[t - i]?).getD undef else undef)
 |[],vs,i,t,_=>by simp[entry,AF,Aa]
 |x::args,vs,i,t,h=>by
  simp only[AN] at h;obtain⟨v,r,rfl,G,O⟩:=h;simp only[entry,AF];cases hq:i==t
  .have Q:i≠t:=by simpa using hq
   have:=kX args r (i+1) t O
   simp only[BC];by_cases z:i+1<=t
   .rw[An z] at this;rw[An (by omega)];have e:t - i=(t - (i+1))+1:=by omega
    rw[e];simpa using this
   .rw[Af z] at this;rw[Af (by omega)];exact this
  .have:i=t:=by simpa using hq
   subst this;simpa using G
def lF: ∀(args:List AV) (i t:Nat),∀m∈(AF (entry i args) t).nms,m∈AH args
 |[],i,t,m,h=>by simp[entry,AF,AV.nms] at h
 |x::args,i,t,m,h=>by
  simp only[entry,AF] at h;simp only[AH,Bx];cases hq:i==t<;>rw[hq] at h
  .exact .inr (lF args (i+1) t m (by simpa using h))
  .exact .inl (by simpa using h)
def Ye:List Nat->Nat->Nat->Option Nat
 |[],_,_=>none
 |x::r,o,k=>bif x==o then some k else Ye r o (k+1)
def HU(k:Nat)(ex:List Nat)(o:Nat):Option Nat:=bif Nat.blt o k then some o else Ye ex o k
def C5(f:AV->Option AV):Ad->Option Ad
 | .cells T z=>(A7 f z).map (.cells T)
 | .arr T k rows=>some (.arr T k rows)
 | .arrA T k rows=>(A7 (A7 f) rows).map (.arrA T k)
 | .map O G=>some (.map O G)
 | .chan q cap=>some (.chan q cap)
 | .iter a l=>some (.iter a l)
 | .view z=>some (.view z)
def IQ(j:Nat)(z:Bool):Option Ad->Option Av->Option Av
 |some e,some r=>some ((j,(z,e))::r)
 |some _,none=>none
 |none,_=>none
def klE(f:AV->Option AV)(j:Nat)(r:Option Av):Option Au->Option Av
 |none=>r
 |some (z,e)=>IQ j z (C5 f e) r
def Jj(h:Nat->Option Au)(f:AV->Option AV):List Nat->Option Av
 |[]=>some []
 |j::r=>klE f j (Jj h f r) (h j)
def exE(f:AV->Option AV)(j:Nat)(r:Option Av):Option Au->Option Av
 |none=>none
 |some (false,_)=>none
 |some (true,e)=>IQ j true (C5 f e) r
def Ji(h:Nat->Option Au)(f:AV->Option AV):List Nat->Nat->Option Av
 |[],_=>some []
 |x::r,j=>exE f j (Ji h f r (j+1)) (h x)
def Rx:Option Av->Option Av->Option Av
 |some a,some b=>some (a++b)
 |some _,none=>none
 |none,_=>none
def YK(h:Nat->Option Au)(z:List Nat):Av->Prop
 |[]=>True
 |(j,e)::r=>(bif z.contains j then True else h j=some e)/\YK h z r
def XL(k:Nat):List Nat->Bool
 |[]=>true
 |x::r=>Nat.ble k x && (!r.contains x && XL k r)
abbrev Ko:=AV->Av->Nat->Prop
def Jn(R:Ko)(cnt:Nat):Option AV->Option Av->Prop
 |some r,some H=>R r H cnt
 |some _,none=>False
 |none,_=>False
def bM(k:Nat)(z:List Nat)(H0:Av)(R:Ko)(s:Ai)(ex:List Nat)(x:AV):Prop:=
 XL k ex=true/\YK (hget s.h) z H0/\Jn R ex.length (Be (hget s.h) (HU k ex) 9 x) (Rx (Jj (hget s.h) (Be (hget s.h) (HU k ex) 9) z) (Ji (hget s.h) (Be (hget s.h) (HU k ex) 9) ex k))
def MR(k:Nat)(G:List Nat)(z:Ai->AV->List Nat)(H0:Av)(R:Ko)(s:Ai):Option (List AV)->Prop
 |some xs=>bM k G H0 R s (z s (Di xs)) (Di xs)
 |none=>False
def Uw(P:Program)(O:List ResultVar)(k:Nat)(G:List Nat)(z:Ai->AV->List Nat)(H0:Av)(R:Ko)(s:Ai):Prop:=MR k G z H0 R s (A7 (Kf P s) O)
def Pp(P:Program)(O:List ResultVar)(k:Nat)(G:List Nat)(z:Ai->AV->List Nat)(H0:Av)(R:Ko):Cq
 | .normal,s=>Uw P O k G z H0 R s
 | .ret,s=>Uw P O k G z H0 R s
 | .exit _,_=>False
def K3(_:Ai)(_:AV):List Nat:=[]
def wO(k:Nat):List Nat->List Nat
 |[]=>[]
 |x::r=>bif Nat.ble k x then x::wO k r else wO k r
def wN(k:Nat)(_:Ai)(x:AV):List Nat:=wO k x.nms
def CF(r r':AV):Prop:= ∀(σ:Nat->Nat) (S:A9) (v:Value),Aa S (r.ren σ) v->Aa S (r'.ren σ) v
def nQ(e e':Au):Prop:=e.1=e'.1/\e.2.esz=e'.2.esz/\e.2.len=e'.2.len/\e.2.isView=e'.2.isView/\ ∀(σ:Nat->Nat) (S:A9) (l:Option F8),Aw S l (e.2.ren σ)->Aw S l (e'.2.ren σ)
def bU:Av->Av->Prop
 |[],[]=>True
 |(j,e)::r,(j',e')::r'=>j=j'/\nQ e e'/\bU r r'
 |[],_::_=>False
 |_::_,[]=>False
def CF.refl(r:AV):CF r r:=λ_ _ _ h=>h
def nQ.refl(e:Au):nQ e e:=⟨rfl,rfl,rfl,rfl,λ_ _ _ h=>h⟩
def bU.refl: ∀(H:Av),bU H H
 |[]=>trivial
 |(_,e)::r=>⟨rfl,nQ.refl e,bU.refl r⟩
def bU.get: ∀{H H':Av},bU H H'-> ∀n,(hget H' n=none/\hget H n=none)\/ ∃e e',hget H n=some e/\hget H' n=some e'/\nQ e e'
 |[],[],_,n=> .inl ⟨rfl,rfl⟩
 |(j,e)::r,(j',e')::r',h,n=>by
  obtain⟨rfl,z,G⟩:=h;simp only[hget];cases hq:j==n
  .simpa using bU.get G n
  .exact .inr ⟨e,e',by simp,by simp,z⟩
def sg(os:List Nat)(nx j:Nat):Nat:=match os[j]? with
 |some o=>o
 |none=>nx+(j - os.length)
def AY(σ:Nat->Nat):Av->Av
 |[]=>[]
 |(j,(z,e))::r=>(σ j,(z,e.ren σ))::AY σ r
def vG{σ:Nat->Nat}: ∀{H:Av} {n:Nat} {e':Au},hget (AY σ H) n=some e'-> ∃j e,(j,e)∈H/\σ j=n/\e'=(e.1,e.2.ren σ)
 |[],n,e',h=>by simp[AY,hget] at h
 |(j,(Q,e))::r,n,e',h=>by
  simp only[AY,hget] at h;cases hq:σ j==n<;>rw[hq] at h
  .obtain⟨j',x,z,G,O⟩:=vG (H:=r) (by simpa using h);exact⟨j',x,by simp[z],G,O⟩
  .simp only[Ck,AJ] at h;exact⟨j,(Q,e),by simp,by simpa using hq,h.symm⟩
def pM{σ:Nat->Nat}(hσ: ∀i j,σ i=σ j->i=j): ∀(H:Av) (j:Nat),hget (AY σ H) (σ j)=(hget H j).map λe=>(e.1,e.2.ren σ)
 |[],j=>rfl
 |(i,(Q,e))::r,j=>by
  simp only[AY,hget];by_cases z:i=j
  .subst z;simp
  .have G:(i==j)=false:=by simpa using z
   have O:(σ i==σ j)=false:=by rw[Iu];exact λh=>z (hσ _ _ h)
   rw[G,O];simpa using pM hσ r j
def eN: ∀{H:Av} {n:Nat} {e:Au},hget H n=some e->(n,e)∈H
 |[],n,e,h=>by simp[hget] at h
 |(i,x)::r,n,e,h=>by
  simp only[hget] at h;cases hq:i==n<;>rw[hq] at h
  .exact BX _ (eN (by simpa using h))
  .have:i=n:=by simpa using hq
   subst this;simp only[Ck,AJ] at h;subst h;simp
def Qti{C:AW}{S S':A9}(hW:Wf C S){kx:Nat->Option Nat}{τ:Nat->Nat}(Q: ∀b,S.ok b->S'.ok b/\S'.hp b=S.hp b)(ah: ∀o e l,kx o=none->S.h o=some e->e.2.isView=false->S.ρ o=some l->S.ok l.b)
 (ag: ∀o j,kx o=some j-> ∀e',S'.h (τ j)=some e'-> ∃e,S.h o=some e/\S'.ρ (τ j)=S.ρ o/\e'.2.esz=e.2.esz/\e'.2.len=e.2.len)
 {n:Nat}{e e':Ad}(h:C5 (Be S.h kx n) e=some e'):(e'.esz=e.esz/\e'.len=e.len)/\ ∀l,(∀O,l=some O->S'.hp O.b=S.hp O.b)->Aw S l e->Aw S' l (e'.ren τ):=by
 have hm: ∀(cs Z:List AV) (vs:List Value),A7 (Be S.h kx n) cs=some Z->AN S cs vs->AN S' (AL τ Z) vs:=by
  intro cs;induction cs with
  |nil=>
   intro Z vs h hc;simp only[A7,AJ] at h;subst h;simpa only[AL,AN] using hc
  |cons x cs ad=>
   intro Z vs h hc;simp only[A7] at h;simp only[AN] at hc;obtain⟨v,r,rfl,G,h2⟩:=hc;split at h
   .rename_i z zs hz ac;obtain rfl:=AD h;simp only[AL,AN];exact⟨v,r,rfl,Qrr hW Q ah ag n x z v hz G,ad zs r ac h2⟩
   .cases h
 have an: ∀(cs Z:List AV) (vs:List Value),A7 (Be S.h kx n) cs=some Z->Cy S cs vs->Cy S' (AL τ Z) vs:=by
  intro cs;induction cs with
  |nil=>
   intro Z vs h hc;simp only[A7,AJ] at h;subst h;simp only[AL,Cy]
  |cons x cs ad=>
   intro Z vs h hc;simp only[A7] at h;simp only[Cy] at hc;obtain⟨v,r,rfl,G,h2⟩:=hc;split at h
   .rename_i z zs hz ac;obtain rfl:=AD h;simp only[AL,Cy];exact⟨v,r,rfl,Qrr hW Q ah ag n x z v hz G,ad zs r ac h2⟩
   .cases h
 have ao: ∀(k:Nat) (rs Z:List (List AV)) (vs:List Value),A7 (A7 (Be S.h kx n)) rs=some Z->BH S k rs vs->BH S' k (Z.map (AL τ)) vs:=by
  intro k rs;induction rs with
  |nil=>
   intro Z vs h hc;simp only[A7,AJ] at h;subst h;simp only[Gq,BH]
  |cons x rs ad=>
   intro Z vs h hc;simp only[A7] at h;simp only[BH] at hc;split at h
   .rename_i z zs hz ac;obtain rfl:=AD h;simp only[Bd,BH,Qsc];exact⟨(eJ _ _ hz).trans hc.1,an x z _ hz hc.2.1,ad zs _ ac hc.2.2⟩
   .cases h
 cases e<;>simp only[C5] at h
 case view cs=>
  obtain rfl:=AD h;refine⟨⟨rfl,rfl⟩,λl hl h=> ?_⟩;simp only[Ad.ren,Aw] at h⊢;obtain⟨O,vs,T,fr,G,h2,h3⟩:=h;exact⟨O,vs,T,fr,G,(hl O G).trans h2,ZB Q cs _ h3⟩
 case cells T cs=>
  simp only[D4] at h;obtain⟨Z,G,rfl⟩:=h;refine⟨⟨rfl,rfl⟩,λl hl h=> ?_⟩;simp only[Ad.ren,Aw] at h⊢;obtain⟨O,vs,g1,g2,g3,g4⟩:=h;exact⟨O,vs,g1,g2,(hl O g1).trans g3,hm cs Z _ G g4⟩
 case arr T k rows=>
  obtain rfl:=AD h;refine⟨⟨rfl,rfl⟩,λl hl h=> ?_⟩;simp only[Ad.ren,Aw] at h⊢;refine⟨h.1,?_⟩;cases l with
  |none=>exact h.2
  |some O=>
   obtain⟨h0,G,vs,h2,h3,h4⟩:=h;exact⟨G,vs,(hl O rfl).trans h2,h3,ZC Q k rows _ h4⟩
 case arrA T k rows=>
  simp only[D4] at h;obtain⟨Z,G,rfl⟩:=h;have af:=eJ _ _ G;refine⟨⟨rfl,af⟩,λl hl h=> ?_⟩;simp only[Ad.ren,Aw,He,af] at h⊢;refine⟨h.1,?_⟩;cases l with
  |none=>
   have:=h.2
   subst this;simp only[A7,AJ] at G;subst G;rfl
  |some O=>
   obtain⟨h0,h2,vs,h3,h4,h5⟩:=h;exact⟨h2,vs,(hl O rfl).trans h3,h4,ao k rows Z _ G h5⟩
 case map kt es=>
  obtain rfl:=AD h;refine⟨⟨rfl,rfl⟩,λl hl h=> ?_⟩;simp only[Ad.ren,Aw] at h⊢;obtain⟨O,ab,aa,G,h0,h2,h3,h4⟩:=h;exact⟨O,ab,aa,G,h0,(hl O G).trans h2,Lg Q es _ h3,h4⟩
 case chan q cap=>
  obtain rfl:=AD h;refine⟨⟨rfl,rfl⟩,λl hl h=> ?_⟩;simp only[Ad.ren,Aw] at h⊢;obtain⟨O,am,ak,ai,G,h2,h3⟩:=h;exact⟨O,am,ak,ai,G,(hl O G).trans h2,Li Q q _ h3⟩
 case iter last left=>
  obtain rfl:=AD h;refine⟨⟨rfl,rfl⟩,λl hl h=> ?_⟩;simp only[Ad.ren,Aw] at h⊢;obtain⟨O,mb,ab,aa,aj,G,h2,h0,h3,h4,h5,h6,h7⟩:=h;exact⟨O,mb,ab,aa,aj,G,(Q mb h2).1,Qly Q last h0,(Q mb h2).2.trans h3,(hl O G).trans h4,h5,h6,Lg Q left _ h7⟩
def O6{f:AV->Option AV}{e e':Ad}(h:C5 f e=some e'):e'.isView=e.isView:=by
 cases e<;>simp only[C5,D4,AJ] at h
 .obtain⟨_,_,rfl⟩:=h;rfl
 .subst h;rfl
 .obtain⟨_,_,rfl⟩:=h;rfl
 all_goals subst h;rfl
def Le(d d':D):Prop:= ∀ok hp v,rd ok hp d v->rd ok hp d' v
def CE:List D->List D->Prop
 |[],[]=>True
 |d::r,d'::r'=>Le d d'/\CE r r'
 |[],_::_=>False
 |_::_,[]=>False
def Le.refl(d:D):Le d d:=λ_ _ _ h=>h
def CE.refl: ∀(ds:List D),CE ds ds
 |[]=>trivial
 |d::ds=>⟨Le.refl d,CE.refl ds⟩
def CE.len: ∀{a b:List D},CE a b->a.length=b.length
 |[],[],_=>rfl
 |_::_,_::_,h=>by simp[CE.len h.2]
def CE.rdl: ∀{a b:List D},CE a b-> ∀ok hp z,Ae.rdl ok hp a z->Ae.rdl ok hp b z
 |[],[],_,ok,hp,z,h=>h
 |_::_,_::_,G,ok,hp,z,h=>by
  simp only[Ae.rdl] at h⊢;obtain⟨v,r,rfl,O,Q⟩:=h;exact⟨v,r,rfl,G.1 _ _ _ O,CE.rdl G.2 _ _ _ Q⟩
def G9:List D->List D->Prop
 |_,[]=>True
 |d::r,d'::r'=>Le d d'/\G9 r r'
 |[],_::_=>False
def G9.rdp: ∀{a b:List D},G9 a b-> ∀ok hp z,Ae.rdp ok hp a z->Ae.rdp ok hp b z
 |_,[],_,ok,hp,z,h=>by simp only[Ae.rdp]
 |_::_,_::_,G,ok,hp,z,h=>by
  simp only[Ae.rdp] at h⊢;obtain⟨v,r,rfl,O,Q⟩:=h;exact⟨v,r,rfl,G.1 _ _ _ O,G9.rdp G.2 _ _ _ Q⟩
 |[],_::_,h,_,_,_,_=>h.elim
def CE.leP: ∀{a b:List D},CE a b->G9 a b
 |[],[],_=>trivial
 |_::_,_::_,h=>⟨h.1,CE.leP h.2⟩
def G9.refl(a:List D):G9 a a:=(CE.refl a).leP
def G9.trans_take: ∀{n:Nat} {a b:List D},CE (a.take n) b->G9 a b
 |0,a,[],_=>by cases a<;>trivial
 |_+1,[],[],_=>trivial
 |n+1,x::a,y::b,h=>⟨h.1,G9.trans_take (n:=n) h.2⟩
 |n+1,x::a,[],h=>h.elim
 |n+1,[],y::b,h=>h.elim
 |0,a,y::b,h=>by cases a<;>exact h.elim
def QO{a b:List D}(h:CE a b):Le (.agg a) (.agg b):=by
 intro ok hp v z;simp only[Ae.rd] at z⊢;obtain⟨O,rfl,G⟩:=z;exact⟨O,rfl,h.rdl _ _ _ G⟩
def K9{a b:List D}(h:CE a b):Le (.tup a) (.tup b):=by
 intro ok hp v z;simp only[Ae.rd] at z⊢;obtain⟨O,rfl,G⟩:=z;exact⟨O,rfl,h.rdl _ _ _ G⟩
def VZ:List (List D)->List (List D)->Prop
 |[],[]=>True
 |r::G,r'::z=>CE r r'/\VZ G z
 |[],_::_=>False
 |_::_,[]=>False
def VZ.len: ∀{a b:List (List D)},VZ a b->a.length=b.length
 |[],[],_=>rfl
 |_::_,_::_,h=>by simp[VZ.len h.2]
def VZ.rdr: ∀{a b:List (List D)} {k k':Nat},VZ a b->(∀r∈b,r.length=k')-> ∀ok hp z,Ae.rdr ok hp k a z->Ae.rdr ok hp k' b z
 |[],[],_,_,_,_,ok,hp,z,h=>by simp only[Ae.rdr]
 |r::rs,r'::aa,k,k',G,Q,ok,hp,z,h=>by
  simp only[Ae.rdr] at h⊢;have Z:=G.1.len;have O:=Q r' (by simp)
  have:k=k':=by rw[<-h.1,Z,O]
  subst this;exact⟨O,G.1.leP.rdp _ _ _ h.2.1,VZ.rdr G.2 (λx hx=>Q x (by simp[hx])) _ _ _ h.2.2⟩
def Dn{nz:Bool}{k k':Nat}{a b:List (List D)}(h:VZ a b)(hk: ∀r∈b,r.length=k'):Le (.sl nz k a) (.sl false k' b):=by
 intro ok hp v O;simp only[Ae.rd] at O⊢;rcases O with ⟨z,G⟩|⟨Q,p,cap,vs,T,Z,z,G,h3,h4,h5,h6,h7⟩
 .subst G;cases b with
  |nil=>exact .inl ⟨Py z,rfl⟩
  |cons _ _=>exact h.elim
 .exact .inr ⟨Q,p,cap,vs,T,Z,by rw[<-h.len];exact z,by simp,by rw[<-h.len];exact h3,by rw[<-h.len];exact h4,h5,h6,h.rdr hk _ _ _ h7⟩
def VF{g:FuncId}{a b:List D}(h:CE a b):Le (.fn g [] a) (.fn g [] b):=by
 intro ok hp v z;simp only[Ae.rd] at z⊢;obtain⟨x,y,G,O,Q⟩:=z;exact⟨x,y,G,O,h.rdl _ _ _ Q⟩
def Te{g:FuncId}{a b:List D}(h:CE a b):Le (.fn g a []) (.fn g b []):=by
 intro ok hp v z;simp only[rd] at z⊢;obtain⟨x,c,rfl,G,O⟩:=z;exact⟨x,c,rfl,h.rdl _ _ _ G,O⟩
def Rd{a b:List D}(h:G9 a b):Le (.ref a) (.ref b):=by
 intro ok hp v z;simp only[Ae.rd] at z⊢;obtain⟨G,p,vs,T,O,Q,Z,h3,h4⟩:=z;exact⟨G,p,vs,T,O,Q,Z,h3,h.rdp _ _ _ h4⟩
def AR{A:Type}(f:List D->Option A):List (List D)->Option (List A)
 |[]=>some []
 |r::z=>match f r,AR f z with
  |some x,some xs=>some (x::xs)
  |_,_=>none
def NX{A:Type}{f:List D->Option A}{e:A->List D}(h: ∀x,f (e x)=some x): ∀(l:List A),AR f (l.map e)=some l
 |[]=>rfl
 |x::l=>by simp only[Bd,AR,h x,NX h l]
def Dd{A:Type}{f:List D->Option A}{e:A->List D}(h: ∀ds x,f ds=some x->CE ds (e x)): ∀(rows:List (List D)) (l:List A),AR f rows=some l->VZ rows (l.map e)
 |[],l,z=>by simp only[AR,AJ] at z;subst z;trivial
 |r::Q,l,z=>by
  simp only[AR] at z;split at z
  .rename_i x xs O G;obtain rfl:=AD z;exact⟨h r x O,Dd h Q xs G⟩
  .cases z
abbrev AA:=List AV->(Nat->Option Au)->Nat->Ah->Prop
def Q4:List (Nat×AA)->Db
 |[],_,_,_,_,_=>False
 |p::r,g,args,h,nx,K=>if p.1=g then p.2 args h nx K else Q4 r g args h nx K
def AB(P:Program)(g:Nat)(c:AA):Prop:= ∀args h nx K,c args h nx K->lQ P g/\ ∃r E,Q7 P g args h nx r E/\K r E
def QC{P:Program}: ∀(l:List (Nat×AA)),(∀p∈l,AB P p.1 p.2)->J5 P (Q4 l)
 |[],_=>λ_ _ _ _ _ h=>h.elim
 |p::r,G=>by
  intro g args h nx K z;simp only[Q4] at z;split at z
  .rename_i O;subst O;exact G p (by simp) args h nx K z
  .exact QC r (λq hq=>G q (by simp[hq])) g args h nx K z
def IN(P:Program)(g:Nat):Bool:=match P.funcs[g]? with
 |some fn=>Nat.blt g 1000000000 && (!(fn.name== "runtime.NumGoroutine") && !fn.body.isNone)
 |none=>false
def Oa{P:Program}{g:Nat}(h:IN P g=true):lQ P g:=by
 unfold IN at h;split at h
 .rename_i fn hf;simp only[AS,Kq] at h;exact⟨by simpa using h.1,fn,hf,h.2.1,h.2.2⟩
 .cases h
inductive PK where
 |val (d:D)
 |ptr (cs:List D)
def Dt:Nat->List PK->List AV
 |_,[]=>[]
 |j,.val d::r=> .im d::Dt j r
 |j,.ptr _::r=> .ptr j 0::Dt (j+1) r
def D7:Nat->List PK->Av
 |_,[]=>[]
 |j,.val _::r=>D7 j r
 |j,.ptr z::r=>(j,(false,.view z))::D7 (j+1) r
def BJ:List PK->Nat
 |[]=>0
 | .val _::r=>BJ r
 | .ptr _::r=>BJ r+1
def JP(S:A9):PK->Value->Prop
 | .val d,v=>rd S.ok S.hp d v
 | .ptr G,v=> ∃b p z T O,v= .pointer (some ⟨b,p,none⟩)/\b<S.w.heap.size/\S.hp b=some (.cells z T O)/\rdp S.ok S.hp G (z.toList.drop p)
def EC(S:A9):List PK->List Value->Prop
 |[],z=>z=[]
 |p::G,z=> ∃v r,z=v::r/\JP S p v/\EC S G r
def Cr:PK->PK->Prop
 | .val d,.val d'=>Le d d'
 | .ptr a,.ptr b=>G9 a b
 | .val _,.ptr _=>False
 | .ptr _,.val _=>False
def BN:List PK->List PK->Prop
 |[],[]=>True
 |p::r,p'::r'=>Cr p p'/\BN r r'
 |[],_::_=>False
 |_::_,[]=>False
def Cr.c{S:A9}{p p':PK}{v:Value}(h:Cr p p')(z:JP S p v):JP S p' v:=by
 cases p<;>cases p'<;>simp only[Cr] at h<;>simp only[JP] at z⊢
 .exact h _ _ _ z
 .obtain⟨b,p,vs,T,G,O,Q,Z,h4⟩:=z;exact⟨b,p,vs,T,G,O,Q,Z,h.rdp _ _ _ h4⟩
def BN.c{S:A9}: ∀{a b:List PK} {vs:List Value},BN a b->EC S a vs->EC S b vs
 |[],[],_,_,h=>h
 |_::_,_::_,vs,z,h=>by
  simp only[EC] at h⊢;obtain⟨v,r,rfl,G,O⟩:=h;exact⟨v,r,rfl,z.1.c G,BN.c z.2 O⟩
def Cr.refl(p:PK):Cr p p:=by cases p;exact Le.refl _;exact G9.refl _
def BN.refl: ∀(a:List PK),BN a a
 |[]=>trivial
 |p::a=>⟨Cr.refl p,BN.refl a⟩
def EC.len{S:A9}: ∀{ps:List PK} {vs:List Value},EC S ps vs->vs.length=ps.length
 |[],vs,h=>by simp only[EC] at h;simp[h]
 |_::_,vs,h=>by
  simp only[EC] at h;obtain⟨v,r,rfl,_,z⟩:=h;simp[EC.len z]
def Z8: ∀(j:Nat) (ps:List PK),(Dt j ps).length=ps.length
 |_,[]=>rfl
 |j,.val _::r=>by simp[Dt,Z8 j r]
 |j,.ptr _::r=>by simp[Dt,Z8 (j+1) r]
def Ig: ∀(j:Nat) (ps:List PK) (n:Nat) (e:Au),hget (D7 j ps) n=some e->(j<=n/\n<j+BJ ps)/\ ∃z,e=(false,.view z)
 |_,[],n,e,h=>by simp[D7,hget] at h
 |j,.val _::r,n,e,h=>by simpa[D7,BJ] using Ig j r n e h
 |j,.ptr z::r,n,e,h=>by
  simp only[D7,hget] at h;simp only[BJ];cases hq:j==n<;>rw[hq] at h
  .obtain⟨O,G⟩:=Ig (j+1) r n e (by simpa using h);exact⟨by omega,G⟩
  .have:j=n:=by simpa using hq
   simp only[Ck,AJ] at h;exact⟨by omega,z,h.symm⟩
def sN: ∀(j:Nat) (ps:List PK) (n:Nat),j+BJ ps<=n-> ∀m∈AH (Dt j ps),m<n
 |_,[],n,_,m,z=>by simp[Dt,AH] at z
 |j,.val _::r,n,h,m,z=>by
  simp only[Dt,AH,AV.nms,Hg] at z;exact sN j r n h m z
 |j,.ptr _::r,n,h,m,z=>by
  simp only[Dt,AH,AV.nms,Bx,BK] at z;simp only[BJ] at h;rcases z with rfl|z
  .omega
  .exact sN (j+1) r n (by omega) m z
def tX{S:A9}: ∀(ps:List PK) (vs:List Value) (j:Nat),EC S ps vs-> ∃Q:Nat->Option F8,
 (∀n e,hget (D7 j ps) n=some e-> ∃l,Q n=some l/\l.b<S.w.heap.size/\Aw S (some l) e.2)/\
 ∀(z:A9),z.ok=S.ok->z.w=S.w->(∀n,(∃e,hget (D7 j ps) n=some e)->z.ρ n=Q n/\z.h n=hget (D7 j ps) n)->AN z (Dt j ps) vs
 |[],vs,j,h=>by
  simp only[EC] at h;exact⟨λ_=>none,λn e G=>by simp[D7,hget] at G,λz _ _ _=>by simp only[Dt,AN];exact h⟩
 | .val d::ps,vs,j,h=>by
   simp only[EC] at h;obtain⟨v,r,rfl,h1,h2⟩:=h;obtain⟨Q,h3,h4⟩:=tX ps r j h2;refine⟨Q,by simpa only[D7] using h3,?_⟩;intro z O hw hS;simp only[Dt,AN,Aa];refine⟨v,r,rfl,?_,h4 z O hw (by simpa only[D7] using hS)⟩
   have:z.hp=S.hp:=by unfold A9.hp;rw[hw]
   rw[O,this];exact h1
 | .ptr cs::ps,vs,j,h=>by
   simp only[EC] at h;obtain⟨v,r,rfl,h1,h2⟩:=h;obtain⟨Q,h3,h4⟩:=tX ps r (j+1) h2;obtain⟨b,p,cells,T,fr,rfl,hb,hc,hr⟩:=h1;refine⟨λn=>if n=j then some ⟨b,p,0⟩ else Q n,?_,?_⟩
   .intro n e G;simp only[D7,hget] at G;cases hq:j==n<;>rw[hq] at G
    .have:n≠j:=λh'=>by subst h';simp at hq
     simp only[Af this];exact h3 n e (by simpa using G)
    .have:n=j:=(by simpa using hq:j=n).symm
     simp only[Ck,AJ] at G;subst G;simp only[An this];refine⟨_,rfl,hb,?_⟩;simp only[Aw];exact⟨_,cells,T,fr,rfl,hc,hr⟩
   .intro z O hw hS;simp only[Dt,AN,Aa];refine⟨_,r,rfl,⟨rfl,?_⟩,h4 z O hw ?_⟩
    .intro e G;have hj:=hS j ⟨(false,.view cs),by simp only[D7,hget,vO,Ck]⟩;rw[hj.1];simp
    .rintro n ⟨e,G⟩;have hn:=(Ig (j+1) ps n e G).1;have Z:n≠j:=by omega
     have hq:(j==n)=false:=by rw[Iu];exact λh=>Z h.symm
     have:=hS n ⟨e,by simp only[D7,hget,hq,BC];exact G⟩
     simp only[Af Z,D7,hget,hq,BC] at this;exact this
def Vw{P:Program}(HM:P.follows .mixedOrders=true){V:Db}(hV:J5 P V){g:FuncId}{fn:Func}{c:Code}(hf:P.funcs[g]? =some fn)(hb:fn.body=some c)(ah:Em fn.ntmps c=true)
 {ps:List PK}(a8:ps.length<=fn.ntmps){R:Ko}{r0:D}(hR: ∀r H n,R r H n-> ∃d,r= .im d/\Le d r0)
 (hk:Dc P V c (Pp P fn.results.toList (BJ ps) [] K3 (D7 0 ps) R) ⟨entry 0 (Dt 0 ps),D7 0 ps,BJ ps⟩)
 {C:AW}{S:A9}{vs:Array Value}{RR:Ending->World->Prop}(hW:Wf C S)(am:EC S ps vs.toList)
 (aj: ∀v S',Wf C S'->S'.h=S.h->B3 (λ_=>True) S S'->rd S'.ok S'.hp r0 v->RR (.returned v) S'.w):Calls P g vs S.w RR:=by
 refine calls_of_wp hf hb ?_;have a0:vs.size=(Dt 0 ps).length:=by rw[Z8];simpa using am.len
 obtain⟨ls,ak,hcl⟩:=tX ps vs.toList 0 am
 let S0:A9:=⟨ls,S.ok,hget (D7 0 ps),S.w⟩
 let C0:AW:=⟨S.w,λ_=>False,S.ok,0,λ_=>none,λ_=>none,[]⟩
 have au:Wf C0 S0:=by
  refine⟨rfl,rfl,rfl,AQ _,λ_ _ _=>rfl,λ_ hb=>hb,λ_ hb=> .inl hb,hW.oks,?_,?_,?_,hW.glN λ_ h=>h.elim⟩
  .intro n e z;obtain⟨l,G,_,Z⟩:=ak n e z;have h4:S0.ρ n=some l:=G;rw[h4];obtain⟨_,cs,rfl⟩:=Ig 0 ps n e z;simp only[Aw] at Z⊢;exact Z
  .intro n e l z hl;obtain⟨l',G,h2,Z⟩:=ak n e z;have h4:S0.ρ n=some l':=G;rw[h4] at hl;obtain rfl:=AD hl;obtain⟨_,cs,rfl⟩:=Ig 0 ps n e z;exact⟨h2,.inr rfl⟩
  .intro n n' e e' l l' z ad hl bb ba aw;obtain⟨_,cs,rfl⟩:=Ig 0 ps n e z;obtain⟨_,a9,rfl⟩:=Ig 0 ps n' e' ad;simp at aw
 have av:BG C0 fn.ntmps ⟨entry 0 (Dt 0 ps),D7 0 ps,BJ ps⟩ {tmps:=vs++Array.replicate (fn.ntmps - vs.size) undef,defers:=[]} S.w:=by
  have aa:AN S0 (Dt 0 ps) vs.toList:=hcl S0 rfl rfl (λn _=>⟨rfl,rfl⟩);refine⟨S0,rfl,au,λn=>rfl,?_,?_,?_,by simp;rw[Z8] at a0;omega,rfl,Cz _,λo ho=>absurd ho (mP _)⟩
  .intro t;have G:=kX (S:=S0) (Dt 0 ps) vs.toList 0 t aa;simp only[Cz,BM,aJ] at G
   have:({tmps:=vs++Array.replicate (fn.ntmps - vs.size) undef,defers:=[]}:Act).eval (.tmp t)=(vs.toList[t]?).getD undef:=by
    simp only[Act.eval,HI,vR,fZ];by_cases ht:t<vs.size
    .simp[ht]
    .simp only[ht,CK]
     have:vs[t]? =none:=Xp (by omega)
     simp only[Hc,this]
     split<;>rfl
   rw[this];exact G
  .intro t m hm;exact sN 0 ps (BJ ps) (by omega) m (lF (Dt 0 ps) 0 t m hm)
  .intro n e z;obtain⟨G,cs,rfl⟩:=Ig 0 ps n e z;exact⟨by show n<BJ ps;omega,by simp[Ad.nms]⟩
 refine wp_mono (Qo4 HM (fL hV) c ah _ _ _ _ hk av) ?_;have fin: ∀(s:Ai) (a:Act) (w:World),Uw P fn.results.toList (BJ ps) [] K3 (D7 0 ps) R s->BG C0 fn.ntmps s a w->a.defers=[]/\ ∃v,(results fn a.tmps).run P w= .ok v w/\RR (.returned v) w:=by
  rintro s a w hr ⟨S1,rfl,hc⟩;unfold Uw at hr;cases hxs:A7 (Kf P s) fn.results.toList with
  |none=>rw[hxs] at hr;exact hr.elim
  |some xs=>
   rw[hxs] at hr;simp only[MR] at hr;obtain⟨v,an,ac⟩:=rY hc hxs;refine⟨hc.defers,v,an,?_⟩;obtain⟨_,_,Q⟩:=hr;have ao:hget s.h=S1.h:=(funext hc.h).symm;rw[ao] at Q
   let kx:=HU (BJ ps) (K3 s (Di xs))
   have ag:Wf C0 (S1.ice λ_=>false):=VC hc.wf;have af: ∀(f:AV->Option D) (o:Nat),Qh f ((S1.ice λ_=>false).h o)=Qh f (S1.h o)/\Xf ((S1.ice λ_=>false).h o)=Xf (S1.h o)/\Xa f ((S1.ice λ_=>false).h o)=Xa f (S1.h o):=by
    intro f o;rw[show (S1.ice λ_=>false).h o=(S1.h o).map λe=>(e.1 && false,e.2) from rfl];cases S1.h o with
    |none=>exact⟨rfl,rfl,rfl⟩
    |some e=>obtain⟨mu,e⟩:=e;cases e<;>exact⟨rfl,rfl,rfl⟩
   have ai: ∀(n:Nat),Be (S1.ice λ_=>false).h kx n=Be S1.h kx n:=by
    intro n;induction n with
    |zero=>funext x;simp[Be]
    |succ n ih=>
     funext x;cases x with
     |own o=>simp only[Be,ih,(af _ o).1]
     |mp o=>simp only[Be,(af (λ_=>none) o).2.1]
     |ptr o p=>cases p<;>simp only[Be,ih,(af _ o).2.2]
     |_=>simp only[Be,ih]
   cases hcv:Be S1.h kx 9 (Di xs) with
   |none=>rw[hcv] at Q;exact Q.elim
   |some r=>
    rw[hcv] at Q;have ab: ∃H n,R r H n:=by
     simp only[K3,Jj,Ji,Rx,Jn] at Q;exact⟨_,_,Q⟩
    obtain⟨H,n,ab⟩:=ab;obtain⟨d,rfl,ax⟩:=hR _ _ _ ab;have az:=RO ag (kx:=kx) (λo e l _ z hv hl=>mB hc.wf rfl z hv hl) 9 (Di xs) d v (by rw[ai];exact hcv) (Ii (HA S1 _) _ _ (λ_ _=>trivial) ac);have G:=ag;have O: ∀b,b<S.w.heap.size->S1.w.heap[b]? =S.w.heap[b]? :=λb hb=>hc.wf.keep b hb (λh=>h)
    let S':A9:={S with ok:=(S1.ice λ_=>false).ok,w:=S1.w}
    have hp:B3 (λ_=>True) S S':=⟨λb hb=>⟨G.ok0 b hb,O b (hW.oks b hb)⟩,λo _ e' ad=>⟨e',ad,rfl,rfl,rfl⟩⟩;have aq:Wf C S':=by
     refine⟨G.os.trans hW.os,G.tape.trans hW.tape,G.output.trans hW.output,D9 hW.size G.size,?_,λb hb=>G.ok0 b (hW.ok0 b hb),?_,G.oks,?_,?_,hW.inj,hW.gl⟩
     .intro b hb hM;exact (O b (Gr hb hW.size)).trans (hW.keep b hb hM)
     .intro b hb;rcases G.ok1 b hb with h|h|h
      .exact hW.ok1 b h
      .exact .inr (.inl (D9 hW.size h))
      .exact h.elim
     .intro o e z;exact Ih hp (λlc hl=>O lc.b (hW.loc o e lc z hl).1) _ (λ_ _=>trivial) (hW.obj o e z)
     .intro o e l z hl;obtain⟨h2,Z⟩:=hW.loc o e l z hl;refine⟨Gr h2 G.size,?_⟩;cases hm:e.1 with
      |false=>
       rw[hm] at Z;simp only[Df,CK] at Z⊢;exact Z.imp (G.ok0 _) id
      |true=>
       rw[hm] at Z;simp only[BM] at Z⊢;refine⟨λay=> ?_,Z.2⟩;rcases G.ok1 _ ay with h|h|h
       .exact Z.1 h
       .have h:S.w.heap.size<=l.b:=h;omega
       .exact h.elim
    exact aj v S' aq rfl hp (ax _ _ _ az)
 intro e a w z;cases e<;>simp only[FZ] at z<;>simp only[bodyPost]
 .obtain⟨s,hs,hc⟩:=z;exact fin s a w hs hc
 .obtain⟨s,hs,_⟩:=z;exact hs.elim
 .obtain⟨s,hs,hc⟩:=z;exact fin s a w hs hc
def Qy(o:Nat):Option Au->Option (D×Av)
 |some (z,.arr T k rows)=>some (.sl false k rows,bif z then [(o,(false,.arr T k rows))] else [])
 |some (_,.cells _ _)=>none
 |some (_,.arrA _ _ _)=>none
 |some (_,.map _ _)=>none
 |some (_,.chan _ _)=>none
 |some (_,.iter _ _)=>none
 |some (_,.view _)=>none
 |none=>none
def Qw(o:Nat):Option Au->Option (D×Av)
 |some (O,.map G z)=>some (.mp G z,bif O then [(o,(false,.map G z))] else [])
 |some (_,.cells _ _)=>none
 |some (_,.arr _ _ _)=>none
 |some (_,.arrA _ _ _)=>none
 |some (_,.chan _ _)=>none
 |some (_,.iter _ _)=>none
 |some (_,.view _)=>none
 |none=>none
def nB(f:List D->D):Option (List D×Av)->Option (D×Av)
 |some (ds,F)=>some (f ds,F)
 |none=>none
mutual
def Er(h:Nat->Option Au):AV->Option (D×Av)
 | .im d=>some (d,[])
 | .own o=>Qy o (h o)
 | .mp o=>Qw o (h o)
 | .agg z=>nB .agg (S4 h z)
 | .tup z=>nB .tup (S4 h z)
 | .any=>none
 | .ptr _ _=>none
 | .eptr _ _ _=>none
 | .ch _=>none
 | .it _=>none
 | .osl _ _ _=>none
 | .clo _ _ _=>none
def S4(h:Nat->Option Au):List AV->Option (List D×Av)
 |[]=>some ([],[])
 |x::r=>RI (Er h x) (S4 h r)
end
def bH:Option (D×Av)->Option (PK×Av)
 |some (d,F)=>some (.val d,F)
 |none=>none
def FY:D->PK
 | .ref z=> .ptr z
 | .int k n=> .val (.int k n)
 | .bool b=> .val (.bool b)
 | .str s=> .val (.str s)
 | .nilp=> .val .nilp
 | .nilf=> .val .nilf
 | .nili=> .val .nili
 | .nilc=> .val .nilc
 | .nilm=> .val .nilm
 | .agg z=> .val (.agg z)
 | .tup z=> .val (.tup z)
 | .sl Q k rows=> .val (.sl Q k rows)
 | .mp O G=> .val (.mp O G)
 | .fn f a b=> .val (.fn f a b)
 | .ifc t d=> .val (.ifc t d)
 | .gp g=> .val (.gp g)
 | .tok g=> .val (.tok g)
def pkC:Option (List D)->Option (PK×Av)
 |some ds=>some (.ptr ds,[])
 |none=>none
def TW(off:Nat):Option Au->Option (PK×Av)
 |some (_,.cells _ z)=>pkC (DO (z.drop off))
 |some (_,.view z)=>some (.ptr (z.drop off),[])
 |some (_,.arr _ _ _)=>none
 |some (_,.arrA _ _ _)=>none
 |some (_,.map _ _)=>none
 |some (_,.chan _ _)=>none
 |some (_,.iter _ _)=>none
 |none=>none
def JG(h:Nat->Option Au):AV->Option (PK×Av)
 | .im d=>some (FY d,[])
 | .ptr o off=>TW off (h o)
 | .own o=>bH (Er h (.own o))
 | .mp o=>bH (Er h (.mp o))
 | .agg z=>bH (Er h (.agg z))
 | .tup z=>bH (Er h (.tup z))
 | .any=>none
 | .eptr _ _ _=>none
 | .ch _=>none
 | .it _=>none
 | .osl _ _ _=>none
 | .clo _ _ _=>none
def fH:Option (PK×Av)->Option (List PK×Av)->Option (List PK×Av)
 |some (p,F),some (z,G)=>some (p::z,F++G)
 |some _,none=>none
 |none,_=>none
def KJ(h:Nat->Option Au):List AV->Option (List PK×Av)
 |[]=>some ([],[])
 |x::r=>fH (JG h x) (KJ h r)
def Eo{A:Type}(K:A->Prop):Option A->Prop
 |some a=>K a
 |none=>False
def Sv(u:List Nat):Av->Br
 |[]=>{use:=u}
 |e::r=>{use:=u,kill:=(e::r).map (·.1),new:=e::r}
def Zz{A:Type}(ar:List PK->Option A)(pre:A->Prop)(re:A->D)(u:List Nat)(K:Ah):Option (List PK×Av)->Prop
 |some (z,F)=>Eo (λa=>pre a/\K (.im (re a)) (Sv u F)) (ar z)
 |none=>False
def Ee{A:Type}(ar:List PK->Option A)(pre:A->Prop)(re:A->D):AA:=λargs h _ K=>Zz ar pre re (AH args) K (KJ h args)
def Ga(S:A9)(F:Av):Prop:= ∀n e,(n,e)∈F-> ∃z,S.h n=some (z,e.2)/\e.1=false
def Ga.app{S:A9}{F G:Av}(O:Ga S F)(Q:Ga S G):Ga S (F++G):=by
 intro n e z;rcases Bx.1 z with z|z
 .exact O n e z
 .exact Q n e z
def XF(F:Av)(X:Nat->Bool):Prop:= ∀n∈F.map (·.1),X n=false
def XF.app{F G:Av}{X:Nat->Bool}(h:XF (F++G) X):XF F X/\XF G X:=by
 unfold XF at*;simp only[GH,Bx] at h;exact⟨λn hn=>h n (.inl hn),λn hn=>h n (.inr hn)⟩
section
variable {C:AW}{S:A9}{h:Nat->Option Au}
def S6(hW:Wf C S){o:Nat}{d:D}{F:Av}{v:Value}(hh:S.h o=h o)(hd:Qy o (h o)=some (d,F))(hc:Aa S (.own o) v):Ga S F/\ ∀X,XF F X->rd (S.ice X).ok (S.ice X).hp d v:=by
 cases ho:h o with
 |none=>rw[ho] at hd;simp[Qy] at hd
 |some e=>
  obtain⟨mu,e⟩:=e;rw[ho] at hd hh;cases e<;>simp only[Qy,reduceCtorEq] at hd;rename_i T k rows;simp only[AJ,E0] at hd;obtain⟨rfl,rfl⟩:=hd;refine⟨?_,λX hX=> ?_⟩
  .cases mu with
   |false=>intro n e z;cases z
   |true=>
    intro n e z;simp only[Ck,BK,E0] at z;obtain⟨rfl,rfl⟩:=z;exact⟨true,hh,rfl⟩
  .have O:Wf C (S.ice X):=VC hW;have Z:=Ii (HA S X) _ _ (λ_ _=>trivial) hc;have z:(S.ice X).h o=some (mu && X o,.arr T k rows):=by
    show (S.h o).map _=_;rw[hh];rfl
   refine LO (f:=λ_=>none) O (λx d v hx=>by cases hx) ?_ (by rw[z];rfl) Z;intro e' l G hv hl;cases mu with
   |true=>exact mB hW (hX o (by simp)) G hv hl
   |false=>
    rw[z] at G;obtain rfl:=AD G
    have:=(O.loc o _ l z hl).2
    simp only[F6,Df,CK] at this;rcases this with Q|Q
    .exact Q
    .cases Q
def S5(hW:Wf C S){o:Nat}{d:D}{F:Av}{v:Value}(hh:S.h o=h o)(hd:Qw o (h o)=some (d,F))(hc:Aa S (.mp o) v):Ga S F/\ ∀X,XF F X->rd (S.ice X).ok (S.ice X).hp d v:=by
 cases ho:h o with
 |none=>rw[ho] at hd;simp[Qw] at hd
 |some e=>
  obtain⟨mu,e⟩:=e;rw[ho] at hd hh;cases e<;>simp only[Qw,reduceCtorEq] at hd;rename_i kt es;simp only[AJ,E0] at hd;obtain⟨rfl,rfl⟩:=hd;refine⟨?_,λX hX=> ?_⟩
  .cases mu with
   |false=>intro n e z;cases z
   |true=>
    intro n e z;simp only[Ck,BK,E0] at z;obtain⟨rfl,rfl⟩:=z;exact⟨true,hh,rfl⟩
  .have O:Wf C (S.ice X):=VC hW;have Z:=Ii (HA S X) _ _ (λ_ _=>trivial) hc;have z:(S.ice X).h o=some (mu && X o,.map kt es):=by
    show (S.h o).map _=_;rw[hh];rfl
   refine Sx O ?_ (by rw[z];rfl) Z;intro e' l G hv hl;cases mu with
   |true=>exact mB hW (hX o (by simp)) G hv hl
   |false=>
    rw[z] at G;obtain rfl:=AD G
    have:=(O.loc o _ l z hl).2
    simp only[F6,Df,CK] at this;rcases this with Q|Q
    .exact Q
    .cases Q
mutual
def oD(hW:Wf C S): ∀(x:AV) (d:D) (F:Av) (v:Value),(∀n∈x.nms,S.h n=h n)->Er h x=some (d,F)->Aa S x v->Ga S F/\ ∀X,XF F X->rd (S.ice X).ok (S.ice X).hp d v
 | .im d',d,F,v,_,hd,hc=>by
   simp only[Er,AJ,E0] at hd;obtain⟨rfl,rfl⟩:=hd;simp only[Aa] at hc;exact⟨(λn e he=>by cases he),λX _=>GS (HA S X).ok _ _ hc⟩
 | .own o,d,F,v,z,hd,hc=>by
   simp only[Er] at hd;exact S6 hW (z o (by simp[AV.nms])) hd hc
 | .mp o,d,F,v,z,hd,hc=>by
   simp only[Er] at hd;exact S5 hW (z o (by simp[AV.nms])) hd hc
 | .agg O,d,F,v,z,hd,hc=>by
   simp only[Er] at hd;cases hl:S4 h O with
   |none=>rw[hl] at hd;cases hd
   |some q=>
    obtain⟨ds,G⟩:=q;rw[hl] at hd;simp only[nB,AJ,E0] at hd;obtain⟨rfl,rfl⟩:=hd;simp only[Aa] at hc;obtain⟨Q,rfl,Z⟩:=hc;obtain⟨h2,h3⟩:=Qtb hW O ds G Q.toList (by simpa only[AV.nms] using z) hl Z;exact⟨h2,λX hX=>by simp only[rd];exact⟨Q,rfl,h3 X hX⟩⟩
 | .tup O,d,F,v,z,hd,hc=>by
   simp only[Er] at hd;cases hl:S4 h O with
   |none=>rw[hl] at hd;cases hd
   |some q=>
    obtain⟨ds,G⟩:=q;rw[hl] at hd;simp only[nB,AJ,E0] at hd;obtain⟨rfl,rfl⟩:=hd;simp only[Aa] at hc;obtain⟨Q,rfl,Z⟩:=hc;obtain⟨h2,h3⟩:=Qtb hW O ds G Q.toList (by simpa only[AV.nms] using z) hl Z;exact⟨h2,λX hX=>by simp only[rd];exact⟨Q,rfl,h3 X hX⟩⟩
 | .any,d,F,v,_,hd,_=>by simp[Er] at hd
 | .ptr _ _,d,F,v,_,hd,_=>by simp[Er] at hd
 | .eptr _ _ _,d,F,v,_,hd,_=>by simp[Er] at hd
 | .ch _,d,F,v,_,hd,_=>by simp[Er] at hd
 | .it _,d,F,v,_,hd,_=>by simp[Er] at hd
 | .osl _ _ _,d,F,v,_,hd,_=>by simp[Er] at hd
 | .clo _ _ _,d,F,v,_,hd,_=>by simp[Er] at hd
def Qtb(hW:Wf C S): ∀(xs:List AV) (ds:List D) (F:Av) (vs:List Value),(∀n∈AH xs,S.h n=h n)->S4 h xs=some (ds,F)->AN S xs vs->Ga S F/\ ∀X,XF F X->rdl (S.ice X).ok (S.ice X).hp ds vs
 |[],ds,F,vs,_,hd,hc=>by
  simp only[S4,AJ,E0] at hd;obtain⟨rfl,rfl⟩:=hd;simp only[AN] at hc;exact⟨(λn e he=>by cases he),λX _=>by simp only[rdl];exact hc⟩
 |x::xs,ds,F,vs,O,hd,hc=>by
  simp only[AH,Bx] at O;simp only[S4] at hd;simp only[AN] at hc;obtain⟨v,r,rfl,Z,h2⟩:=hc;cases hx:Er h x with
  |none=>rw[hx] at hd;simp[RI] at hd
  |some q=>
   obtain⟨d,E⟩:=q;cases hl:S4 h xs with
   |none=>rw[hx,hl] at hd;simp[RI] at hd
   |some q2=>
    obtain⟨z,G⟩:=q2;rw[hx,hl] at hd;simp only[RI,AJ,E0] at hd;obtain⟨rfl,rfl⟩:=hd;obtain⟨a1,a2⟩:=oD hW x d E v (λn hn=>O n (.inl hn)) hx Z;obtain⟨b1,b2⟩:=Qtb hW xs z G r (λn hn=>O n (.inr hn)) hl h2;refine⟨a1.app b1,λX hX=> ?_⟩;obtain⟨c1,Q⟩:=hX.app;simp only[rdl];exact⟨v,r,rfl,a2 X c1,b2 X Q⟩
end
def Qyv(hW:Wf C S){d:D}{v:Value}(hd:rd S.ok S.hp d v):JP S (FY d) v:=by
 cases d<;>try exact hd
 rename_i cs;simp only[rd] at hd;obtain⟨b,p,vs,T,z,G,O,Q,Z⟩:=hd;exact⟨b,p,vs,T,z,G,hW.oks b O,Q,Z⟩
def TU(hW:Wf C S){x:AV}{p:PK}{F:Av}{v:Value}(hh: ∀n∈x.nms,S.h n=h n)(hp:JG h x=some (p,F))(hc:Aa S x v):Ga S F/\ ∀X,XF F X->JP (S.ice X) p v:=by
 have ab:bH (Er h x)=some (p,F)->Ga S F/\ ∀X,XF F X->JP (S.ice X) p v:=by
  intro hp;cases hx:Er h x with
  |none=>rw[hx] at hp;cases hp
  |some q=>
   obtain⟨d,G⟩:=q;rw[hx] at hp;simp only[bH,AJ,E0] at hp;obtain⟨rfl,rfl⟩:=hp;obtain⟨O,Q⟩:=oD hW x d G v hh hx hc;exact⟨O,Q⟩
 cases x<;>simp only[JG,reduceCtorEq] at hp
 case im d=>
  simp only[AJ,E0] at hp;obtain⟨rfl,rfl⟩:=hp;simp only[Aa] at hc;exact⟨(λn e Z=>by cases Z),λX _=>Qyv (VC hW) (GS (HA S X).ok _ _ hc)⟩
 case ptr o off=>
  have ho:=hh o (by simp[AV.nms]);cases hn:h o with
  |none=>rw[hn] at hp;simp[TW] at hp
  |some e=>
   obtain⟨mu,e⟩:=e;rw[hn] at hp ho;have z:=hW.obj o _ ho;simp only[Aa] at hc;obtain⟨l,hl,hv⟩:=hc.2 _ ho;have aa:=(hW.loc o _ l ho hl).1;cases e<;>simp only[TW,reduceCtorEq] at hp
   case cells T cs=>
    cases ha:DO (cs.drop off) with
    |none=>rw[ha] at hp;cases hp
    |some ds=>
     rw[ha] at hp;simp only[pkC,AJ,E0] at hp;obtain⟨rfl,rfl⟩:=hp;refine⟨(λn e Z=>by cases Z),λX _=> ?_⟩;simp only[Aw] at z;obtain⟨lc,vs,O,Q,h3,h4⟩:=z;rw[hl] at O;obtain rfl:=AD O;simp only[JP];refine⟨l.b,l.p+off,vs,_,_,hv,aa,h3,?_⟩;rw[Q,FV];have h5:AN S (cs.drop off) (vs.toList.drop off):=by
      have: ∀(n:Nat) (a:List AV) (b:List Value),AN S a b->AN S (a.drop n) (b.drop n):=by
       intro n;induction n with
       |zero=>intro a b h;simpa using h
       |succ n ih=>
        intro a b h;cases a with
        |nil=>simp only[AN] at h;subst h;simp[AN]
        |cons x a=>
         simp only[AN] at h;obtain⟨v,r,rfl,_,h⟩:=h;simpa using ih a r h
      exact this off cs _ h4
     exact Qse ds _ (Li (HA S X).ok _ _ (Qov _ ds _ ha h5))
   case view cs=>
    simp only[AJ,E0] at hp;obtain⟨rfl,rfl⟩:=hp;refine⟨(λn e Z=>by cases Z),λX _=> ?_⟩;simp only[Aw] at z;obtain⟨lc,vs,T,fr,O,Q,h3⟩:=z;rw[hl] at O;obtain rfl:=AD O;simp only[JP];refine⟨l.b,l.p+off,vs,T,fr,hv,aa,Q,?_⟩;rw[<-EF]
    have: ∀(n:Nat) (a:List D) (b:List Value),rdp S.ok S.hp a b->rdp S.ok S.hp (a.drop n) (b.drop n):=by
     intro n;induction n with
     |zero=>intro a b h;simpa using h
     |succ n ih=>
      intro a b h;cases a with
      |nil=>simp[rdp]
      |cons x a=>
       simp only[rdp] at h;obtain⟨v,r,rfl,_,h⟩:=h;simpa using ih a r h
    exact ZB (HA S X).ok _ _ (this off cs _ h3)
 all_goals exact ab hp
def oP(hW:Wf C S): ∀(xs:List AV) (ps:List PK) (F:Av) (vs:List Value),(∀n∈AH xs,S.h n=h n)->KJ h xs=some (ps,F)->AN S xs vs->Ga S F/\ ∀X,XF F X->EC (S.ice X) ps vs
 |[],ps,F,vs,_,hd,hc=>by
  simp only[KJ,AJ,E0] at hd;obtain⟨rfl,rfl⟩:=hd;simp only[AN] at hc;exact⟨(λn e he=>by cases he),λX _=>by simp only[EC];exact hc⟩
 |x::xs,ps,F,vs,z,hd,hc=>by
  simp only[AH,Bx] at z;simp only[KJ] at hd;simp only[AN] at hc;obtain⟨v,r,rfl,Z,h2⟩:=hc;cases hx:JG h x with
  |none=>rw[hx] at hd;simp[fH] at hd
  |some q=>
   obtain⟨p,E⟩:=q;cases hl:KJ h xs with
   |none=>rw[hx,hl] at hd;simp[fH] at hd
   |some q2=>
    obtain⟨O,G⟩:=q2;rw[hx,hl] at hd;simp only[fH,AJ,E0] at hd;obtain⟨rfl,rfl⟩:=hd;obtain⟨a1,a2⟩:=TU hW (λn hn=>z n (.inl hn)) hx Z;obtain⟨b1,b2⟩:=oP hW xs O G r (λn hn=>z n (.inr hn)) hl h2;refine⟨a1.app b1,λX hX=> ?_⟩;obtain⟨c1,Q⟩:=hX.app;simp only[EC];exact⟨v,r,rfl,a2 X c1,b2 X Q⟩
end
def OF(u:List Nat)(F:Av):(Sv u F).use=u/\(Sv u F).kill=F.map (·.1)/\(Sv u F).new=F/\(Sv u F).cnt=0:=by
 cases F<;>exact⟨rfl,rfl,rfl,rfl⟩
def EL{B:Type}(rc:D->Option B)(b:B):AV->Prop
 | .im d=>rc d=some b
 | .any=>False
 | .agg _=>False
 | .tup _=>False
 | .ptr _ _=>False
 | .eptr _ _ _=>False
 | .own _=>False
 | .mp _=>False
 | .ch _=>False
 | .it _=>False
 | .osl _ _ _=>False
 | .clo _ _ _=>False
def MD{B:Type}(rc:D->Option B)(b:B):Ko:=λr _ _=>EL rc b r
def Ww{P:Program}(HM:P.follows .mixedOrders=true){V:Db}(hV:J5 P V){g:FuncId}{fn:Func}{c:Code}(hf:P.funcs[g]? =some fn)(hb:fn.body=some c)(aa:Em fn.ntmps c=true)(Z:IN P g=true)
 {A B:Type}{ar:List PK->Option A}{ae:A->List PK}(aj: ∀ps a,ar ps=some a->BN ps (ae a)){n:Nat}(hn: ∀a,(ae a).length=n)(ak:n<=fn.ntmps){rc:D->Option B}{re:B->D}(am: ∀d b,rc d=some b->Le d (re b))
 {pre:A->Prop}{f:A->B}
 (hk: ∀a,pre a->Dc P V c (Pp P fn.results.toList (BJ (ae a)) [] K3 (D7 0 (ae a)) (MD rc (f a))) ⟨entry 0 (Dt 0 (ae a)),D7 0 (ae a),BJ (ae a)⟩):
 AB P g (Ee ar pre λa=>re (f a)):=by
 intro args h nx K z;unfold Ee at z;cases hp:KJ h args with
 |none=>rw[hp] at z;exact z.elim
 |some q=>
  obtain⟨ps,F⟩:=q;rw[hp] at z;simp only[Zz] at z;cases ha:ar ps with
  |none=>rw[ha] at z;exact z.elim
  |some a=>
   rw[ha] at z;simp only[Eo] at z;obtain⟨ac,hK⟩:=z;refine⟨Oa Z,_,_,?_,hK⟩;obtain⟨e1,e2,e3,e4⟩:=OF (AH args) F;intro C S vs RR hW G ad af O ab;rw[e1,e2] at G;obtain⟨h1,h2⟩:=oP hW args ps F vs.toList (λn hn=>G n (Kv _ hn)) hp O
   let X:Nat->Bool:=λn=> !(F.map (·.1)).contains n
   have hX:XF F X:=by
    intro n hn;simp only[X,HK.2 hn,mQ]
   have ah:Wf C (S.ice X):=VC hW;have Q:(S.ice X).h=(Sv (AH args) F).appf S.h:=by
    have:=SL (S:=S) (F:=F) (u:=AH args) h1
    rw[show (Sv (AH args) F).appf S.h=({use:=AH args,kill:=F.map (·.1),new:=F}:Br).appf S.h by
     funext m;simp only[Br.appf,e2,e3]]
    exact this
   refine Vw HM hV hf hb aa (S:=S.ice X) (ps:=ae a) (r0:=re (f a)) (by rw[hn];exact ak) ?_ (hk a ac) ah ((aj ps a ha).c (h2 X hX)) ?_
   .intro r H n hr;unfold MD at hr;cases r<;>simp only[EL] at hr;exact⟨_,rfl,am _ _ hr⟩
   .intro v S' ag hh hp' an;refine ab v S' ag (by rw[hh,Q]) ?_ (by simp only[Aa];exact an);refine⟨λb hb=> ?_,λo _ e' ai=> ?_⟩
    .obtain⟨q1,q2⟩:=(HA S X).ok b hb;obtain⟨q3,q4⟩:=hp'.ok b q1;exact⟨q3,q4.trans q2⟩
    .obtain⟨e,q1,q2,q3,q4⟩:=hp'.nm o trivial e' ai;obtain⟨e0,q5,q6,q7,q8⟩:=(HA S X).nm o trivial e q1;exact⟨e0,q5,q2.trans q6,q3.trans q7,q4.trans q8⟩
def Cm(σ:Nat->Nat)(k nx j:Nat):Nat:=if j<k then σ j else nx+(j - k)
def Ao(H0:Av)(o:Nat):Bool:=(hget H0 o).isSome
def IZ(H0:Av)(k cnt:Nat)(exB:Nat->Bool)(o:Nat):Option Nat:=bif Ao H0 o||(exB o && (Nat.ble k o && Nat.blt o (k+cnt))) then some o else none
def Sg(f:AV->Option AV)(e:Au):Option Au->Prop
 |some (G,z)=>G=e.1/\C5 f z=some e.2
 |none=>False
def EY(h:Nat->Option Au)(f:AV->Option AV):Av->Prop
 |[]=>True
 |(j,e)::r=>Sg f e (h j)/\EY h f r
def Ia(h:Nat->Option Au)(klB:Nat->Bool):Av->Prop
 |[]=>True
 |(j,e)::r=>(bif klB j then True else h j=some e)/\Ia h klB r
def MP(R:AV->Prop):Option AV->Prop
 |some r=>R r
 |none=>False
def bL(k cnt:Nat)(H0 H1:Av)(klB exB:Nat->Bool)(R:AV->Prop)(s:Ai)(x:AV):Prop:=
 Ia (hget s.h) klB H0/\MP R (Be (hget s.h) (IZ H0 k cnt exB) 9 x)/\EY (hget s.h) (Be (hget s.h) (IZ H0 k cnt exB) 9) H1
def MO(k cnt:Nat)(H0 H1:Av)(klB exB:Nat->Bool)(R:AV->Prop)(s:Ai):Option (List AV)->Prop
 |some xs=>bL k cnt H0 H1 klB exB R s (Di xs)
 |none=>False
def HZ(P:Program)(z:List ResultVar)(k cnt:Nat)(H0 H1:Av)(klB exB:Nat->Bool)(R:AV->Prop)(s:Ai):Prop:=MO k cnt H0 H1 klB exB R s (A7 (Kf P s) z)
def ND(P:Program)(z:List ResultVar)(k cnt:Nat)(H0 H1:Av)(klB exB:Nat->Bool)(R:AV->Prop):Cq
 | .normal,s=>HZ P z k cnt H0 H1 klB exB R s
 | .ret,s=>HZ P z k cnt H0 H1 klB exB R s
 | .exit _,_=>False
def xU(P:Program)(z:List ResultVar)(k cnt:Nat)(H0 H1:Av)(klB exB:Nat->Bool)(R:AV->Prop)(s:Ai):Prop:=
 ∃(F:List Nat) (π:List (Nat×Option Nat)) (s':Ai),Ay k π (Sz F s) s'/\s'.good=true/\k<=s'.nx/\HZ P z k cnt H0 H1 klB exB R s'
def Fe(P:Program)(z:List ResultVar)(k cnt:Nat)(H0 H1:Av)(klB exB:Nat->Bool)(R:AV->Prop):Cq
 | .normal,s=>xU P z k cnt H0 H1 klB exB R s
 | .ret,s=>xU P z k cnt H0 H1 klB exB R s
 | .exit _,_=>False
def MU{h:Nat->Option Au}{klB:Nat->Bool}: ∀(H:Av),Ia h klB H-> ∀j e,(j,e)∈H->klB j=false->h j=some e
 |[],_,j,e,z,_=>by cases z
 |(i,x)::r,G,j,e,z,Q=>by
  simp only[Ia] at G;rcases Bm.1 z with z|z
  .cases z;have O:=G.1;rw[Q] at O;exact O
  .exact MU r G.2 j e z Q
def Qve{h:Nat->Option Au}{f:AV->Option AV}: ∀(H:Av),EY h f H-> ∀j e,(j,e)∈H-> ∃G,h j=some G/\e.1=G.1/\C5 f G.2=some e.2
 |[],_,j,e,z=>by cases z
 |(i,x)::r,Q,j,e,z=>by
  simp only[EY] at Q;rcases Bm.1 z with z|z
  .cases z;have O:=Q.1;cases hq:h i with
   |none=>rw[hq] at O;exact O.elim
   |some y=>
    obtain⟨Z,G⟩:=y;rw[hq] at O;exact⟨(Z,G),rfl,O.1.symm,O.2⟩
  .exact Qve r Q.2 j e z
def Qv5{σ:Nat->Nat}{D:Nat->Prop}(hσ: ∀i j,D i->D j->σ i=σ j->i=j): ∀(H:Av),(∀p∈H,D p.1)-> ∀(j:Nat),D j->hget (AY σ H) (σ j)=(hget H j).map λe=>(e.1,e.2.ren σ)
 |[],_,j,_=>rfl
 |(i,(Z,e))::r,hH,j,G=>by
  simp only[AY,hget];by_cases z:i=j
  .subst z;simp
  .have O:(i==j)=false:=by simpa using z
   have Q:(σ i==σ j)=false:=by rw[Iu];exact λh=>z (hσ _ _ (hH _ (BT ..)) G h)
   rw[O,Q];simpa using Qv5 hσ r (λp hp=>hH p (BX _ hp)) j G
def xN{P:Program}(HM:P.follows .mixedOrders=true){V:Db}(hV:J5 P V){g:FuncId}{fn:Func}{c:Code}(hf:P.funcs[g]? =some fn)(hb:fn.body=some c)(b9:Em fn.ntmps c=true)
 {args:List AV}{H0 H1:Av}{k cnt:Nat}(c6:args.length<=fn.ntmps)(hbel:Aq k args=true)(hbH:Ac k H0=true)(hkH:A8 k H0=true)
 (bu: ∀j e,hget H0 j=some e-> ∀m∈e.2.nms,Ao H0 m=true)
 {klB exB:Nat->Bool}{R:AV->Prop}{r0:AV}
 (hR: ∀r,R r->CF r r0)
 (hH1: ∀p∈H1,(p.1<k/\klB p.1=true/\Ao H0 p.1=true)\/(k<=p.1/\p.1<k+cnt/\exB p.1=true/\p.2.1=true))
 {Q:Cq}(hQ: ∀(C:AW) (N:Nat) (a:Act) (w:World) (s:Ai),C.n0=k->BG C N s a w->Q .normal s\/Q .ret s-> ∃s',BG C N s' a w/\HZ P fn.results.toList k cnt H0 H1 klB exB R s')
 (cn: ∀i s,¬Q (.exit i) s)
 (hk:Dc P V c Q ⟨entry 0 args,H0,k⟩)
 {h:Nat->Option Au}{nx:Nat}{τ:Nat->Nat}(cc: ∀i j,Ao H0 i=true->Ao H0 j=true->τ i=τ j->i=j)(cy: ∀j,Ao H0 j=true->τ j<nx)
 (hH: ∀j e,hget H0 j=some e->h (Cm τ k nx j)=some (e.1,e.2.ren (Cm τ k nx)))
 {U KL:List Nat}(hU: ∀j,Ao H0 j=true->τ j∈U)(c5: ∀n∈KL,∃j,Ao H0 j=true/\klB j=true/\n=τ j)(b8: ∀j,Ao H0 j=true->klB j=true->τ j∈KL):
 Q7 P g (AL (Cm τ k nx) args) h nx (r0.ren (Cm τ k nx)) {use:=U,kill:=KL,new:=AY (Cm τ k nx) H1,cnt:=cnt}:=by
 intro C S vs RR hW ci am bj a0 cb
 let σ:=Cm τ k nx
 let DD:Nat->Prop:=λj=>Ao H0 j=true\/k<=j
 have ai: ∀j e,hget H0 j=some e->Ao H0 j=true:=λj e he=>by unfold Ao;rw[he];rfl
 have aj: ∀j,Ao H0 j=true-> ∃e,hget H0 j=some e:=λj O=>by
  unfold Ao at O;cases hq:hget H0 j with
  |none=>rw[hq] at O;cases O
  |some e=>exact⟨e,rfl⟩
 have ao: ∀j,Ao H0 j=true->j<k:=λj O=>by
  obtain⟨e,he⟩:=aj j O;exact sL _ hkH j e he
 have hσlo: ∀j,j<k->σ j=τ j:=λj O=>An O
 have hσge: ∀j,k<=j->σ j=nx+(j - k):=λj O=>Af (by omega)
 have hσin: ∀j,Ao H0 j=true->σ j∈U:=λj O=>by rw[hσlo j (ao j O)];exact hU j O
 have hσlt: ∀j,Ao H0 j=true->σ j<nx:=λj O=>by rw[hσlo j (ao j O)];exact cy j O
 have hσinj: ∀i j,DD i->DD j->σ i=σ j->i=j:=by
  intro i j hi O h;rcases hi with hi|hi<;>rcases O with O|O
  .rw[hσlo i (ao i hi),hσlo j (ao j O)] at h;exact cc i j hi O h
  .have:=hσlt i hi
   rw[h,hσge j O] at this;omega
  .have:=hσlt j O
   rw[<-h,hσge i hi] at this;omega
  .rw[hσge i hi,hσge j O] at h;omega
 have hS: ∀j e,hget H0 j=some e->S.h (σ j)=some (e.1,e.2.ren σ):=by
  intro j e he;rw[ci (σ j) (Kv _ (hσin j (ai j e he)))];exact hH j e he
 refine calls_of_wp hf hb ?_;have cj:=IB _ _ a0;have c8:vs.size=args.length:=by rw[Qsc] at cj;simpa using cj
 let S0:A9:=⟨λj=>S.ρ (σ j),S.ok,hget H0,S.w⟩
 let M0:Nat->Prop:=λb=> ∃j e l,hget H0 j=some e/\e.1=true/\S.ρ (σ j)=some l/\l.b=b
 let C0:AW:=⟨S.w,M0,S.ok,k,hget H0,λj=>S.ρ (σ j),[]⟩
 have bf: ∀n,Of S S0 σ (λn=>n) n:=by
  intro n;refine⟨λe' z=>⟨_,hS n e' z,rfl,?_,?_⟩⟩
  .exact (Qr6 σ e'.2).symm
  .exact (Qs6 σ e'.2).symm
 have bn: ∀b,S.ok b->S0.ok b/\S0.hp b=S.hp b:=λb hb=>⟨hb,rfl⟩
 have cq:Wf C0 S0:=by
  refine⟨rfl,rfl,rfl,AQ _,λ_ _ _=>rfl,λ_ hb=>hb,λ_ hb=> .inl hb,hW.oks,?_,?_,?_,hW.glN (by rintro b ⟨j,e,l,G,Z,h3,rfl⟩;have h4:=(hW.loc _ _ l (hS j e G) h3).2;rw[show (e.1,e.2.ren σ).1=true from Z] at h4;simp only[BM] at h4;exact h4.1)⟩
  .intro j e he;have G:=hW.obj _ _ (hS j e he);have Z:=Qzw (τ:=λn=>n) bn (λ_ _=>rfl) e.2 (λn _=>bf n) G;rwa [Qwc] at Z
  .intro j e l he hl;obtain⟨G,Z⟩:=hW.loc _ _ l (hS j e he) hl;refine⟨G,?_⟩;cases hm:e.1 with
   |false=>
    rw[hm] at Z;have hv:(e.2.ren σ).isView=e.2.isView:=by cases e.2<;>rfl
    simpa[hv] using Z
   |true=>
    rw[hm] at Z;simp only[BM] at Z⊢;exact⟨Z.1,.inr ⟨j,e,l,he,hm,hl,rfl⟩⟩
  .intro i j e e' l l' he z hl bw af ak;exact hσinj _ _ (.inl (ai _ _ he)) (.inl (ai _ _ z)) (hW.inj _ _ _ _ l l' (hS i e he) (hS j e' z) hl bw af ak)
 have cr:BG C0 fn.ntmps ⟨entry 0 args,H0,k⟩ {tmps:=vs++Array.replicate (fn.ntmps - vs.size) undef,defers:=[]} S.w:=by
  have bg:AN S0 args vs.toList:=by
   have:=eE (τ:=λn=>n) bn args vs.toList (λn _=>bf n) a0
   rwa [ZG] at this
  refine⟨S0,rfl,cq,λn=>rfl,?_,?_,λn e he=>⟨sL _ hkH n e he,eU _ hbH n e he⟩,by simp;omega,rfl,AQ _,λo _ e' z=>⟨e',z,rfl,rfl,rfl⟩⟩
  .intro t;have G:=kX (S:=S0) args vs.toList 0 t bg;simp only[Cz,BM,aJ] at G
   have:({tmps:=vs++Array.replicate (fn.ntmps - vs.size) undef,defers:=[]}:Act).eval (.tmp t)=(vs.toList[t]?).getD undef:=by
    simp only[Act.eval,HI,vR,fZ];by_cases ht:t<vs.size
    .simp[ht]
    .simp only[ht,CK]
     have:vs[t]? =none:=Xp (by omega)
     simp only[Hc,this]
     split<;>rfl
   rw[this];exact G
  .intro t m hm;exact ZD args hbel m (lF args 0 t m hm)
 refine wp_mono (Qo4 HM (fL hV) c b9 _ _ _ _ hk cr) ?_;have fin: ∀(s:Ai) (a:Act) (w:World),HZ P fn.results.toList k cnt H0 H1 klB exB R s->BG C0 fn.ntmps s a w->a.defers=[]/\ ∃v,(results fn a.tmps).run P w= .ok v w/\RR (.returned v) w:=by
  rintro s a w hr ⟨S1,rfl,hc⟩;unfold HZ at hr;cases hxs:A7 (Kf P s) fn.results.toList with
  |none=>rw[hxs] at hr;exact hr.elim
  |some xs=>
   rw[hxs] at hr;simp only[MO] at hr;obtain⟨v,cg,br⟩:=rY hc hxs;refine⟨hc.defers,v,cg,?_⟩;obtain⟨cf,aw,az⟩:=hr;have co:hget s.h=S1.h:=(funext hc.h).symm;rw[co] at cf aw az
   let kx:=IZ H0 k cnt exB
   let X:Nat->Bool:=λo=>(kx o).isSome
   have ab:Wf C0 (S1.ice X):=VC hc.wf;have ba: ∀o,(S1.ice X).h o=(S1.h o).map λe=>(e.1 && X o,e.2):=λo=>rfl
   have bh: ∀o e l,kx o=none->(S1.ice X).h o=some e->e.2.isView=false->(S1.ice X).ρ o=some l->(S1.ice X).ok l.b:=by
    intro o e l ho he hv hl;exact mB hc.wf (by simp[X,ho]) he hv hl
   have bv: ∀(f:AV->Option D) (o:Nat),Qh f ((S1.ice X).h o)=Qh f (S1.h o)/\Xf ((S1.ice X).h o)=Xf (S1.h o)/\Xa f ((S1.ice X).h o)=Xa f (S1.h o):=by
    intro f o;rw[ba];cases S1.h o with
    |none=>exact⟨rfl,rfl,rfl⟩
    |some e=>obtain⟨mu,e⟩:=e;cases e<;>exact⟨rfl,rfl,rfl⟩
   have bl: ∀(n:Nat),Be (S1.ice X).h kx n=Be S1.h kx n:=by
    intro n;induction n with
    |zero=>funext x;simp[Be]
    |succ n ih=>
     funext x;cases x with
     |own o=>simp only[Be,ih,(bv _ o).1]
     |mp o=>simp only[Be,(bv (λ_=>none) o).2.1]
     |ptr o p=>cases p<;>simp only[Be,ih,(bv _ o).2.2]
     |_=>simp only[Be,ih]
   rw[<-bl] at aw;have az:EY S1.h (Be (S1.ice X).h kx 9) H1:=by rw[bl];exact az
   cases hcv:Be (S1.ice X).h kx 9 (Di xs) with
   |none=>rw[hcv] at aw;exact aw.elim
   |some r=>
    rw[hcv] at aw;simp only[MP] at aw;have cm:=hR _ aw;have bi: ∀o j,kx o=some j->j=o/\(Ao H0 o=true\/(k<=o/\o<k+cnt)):=by
     intro o j O;simp only[kx,IZ] at O;cases hq:Ao H0 o<;>rw[hq] at O
     .cases hq2:(exB o && (Nat.ble k o && Nat.blt o (k+cnt)))<;>rw[hq2] at O
      .cases O
      .simp only[AS,Hy,E4] at hq2;simp only[ZeN,Ck,AJ] at O;exact⟨O.symm,.inr hq2.2⟩
     .simp only[gD,Ck,AJ] at O;exact⟨O.symm,.inl rfl⟩
    have bc: ∀o,Ao H0 o=true->kx o=some o:=λo ho=>by simp only[kx,IZ,ho,gD,Ck]
    have ce: ∀o,exB o=true->k<=o->o<k+cnt->kx o=some o:=λo G Z h3=>by
     have:(exB o && (Nat.ble k o && Nat.blt o (k+cnt)))=true:=by simp[G,Z,h3]
     simp only[kx,IZ,this,ZeN,Ck]
    have ag: ∀j e',(j,e')∈H1->DD j/\j<k+cnt/\((j<k/\klB j=true/\Ao H0 j=true)\/(k<=j/\e'.1=true))/\kx j=some j/\ ∃e,S1.h j=some e/\e'.1=e.1/\C5 (Be (S1.ice X).h kx 9) e.2=some e'.2:=by
     intro j e' hm;obtain⟨e0,g1,g2,g3⟩:=Qve H1 az j e' hm;rcases hH1 _ hm with ⟨G,Z,h3⟩|⟨G,Z,h3,h4⟩
     .exact⟨.inl h3,by simp only at G;omega,.inl ⟨G,Z,h3⟩,bc j h3,e0,g1,g2,g3⟩
     .exact⟨.inr G,Z,.inr ⟨G,h4⟩,ce j h3 G Z,e0,g1,g2,g3⟩
    let E:Br:={use:=U,kill:=KL,new:=AY σ H1,cnt:=cnt}
    let S':A9:=⟨λn=>if nx<=n/\n<nx+cnt then S1.ρ (n - nx+k) else S.ρ n,(S1.ice X).ok,E.appf S.h,S1.w⟩
    have hρ: ∀j,DD j->j<k+cnt->(∀e,S1.h j=some e->S'.ρ (σ j)=S1.ρ j):=by
     intro j hd O e he;simp only[S'];by_cases au:j<k
     .have cv:Ao H0 j=true:=hd.resolve_right (by omega);have G:=hσlt j cv;rw[Af (by omega)];obtain⟨_,_,h3,_⟩:=hc.pre j au e he;exact h3.symm
     .have G:=hσge j (by omega);rw[An (by rw[G];omega),G];congr 1;omega
    have ah: ∀n e',S'.h n=some e'->(∃j e,n=σ j/\(j,e)∈H1/\hget H1 j=some e/\e'=(e.1,e.2.ren σ))\/(S.h n=some e'/\ ∀j,Ao H0 j=true->klB j=true->n≠σ j):=by
     intro n e' z;have z:E.appf S.h n=some e':=z;simp only[Br.appf,E] at z;cases hg:hget (AY σ H1) n with
     |some x=>
      rw[hg] at z;obtain rfl:=AD z;obtain⟨j,e,G,Z,h3⟩:=vG hg;subst Z;rw[Qv5 hσinj H1 (λp hp=>(ag p.1 p.2 hp).1) j (ag j e G).1] at hg;cases O:hget H1 j with
      |none=>rw[O] at hg;cases hg
      |some y=>
       rw[O] at hg;exact .inl ⟨j,y,rfl,eN O,O,by simpa using hg.symm⟩
     |none=>
      rw[hg] at z;cases hq:KL.contains n<;>rw[hq] at z
      .refine .inr ⟨z,?_⟩;rintro j O cd rfl
       have:=b8 j O cd
       rw[<-hσlo j (ao j O)] at this;rw[HK.2 this] at hq;cases hq
      .cases z
    have a8: ∀n e l,S.h n=some e->S.ρ n=some l->(∀j,Ao H0 j=true->n≠σ j)->l.b<S.w.heap.size/\ ¬M0 l.b:=by
     intro n e l he hl hn;refine⟨(hW.loc n e l he hl).1,?_⟩;rintro⟨j,e0,l0,G,h9,Z,h3⟩;exact hn j (ai j e0 G) (hW.inj _ _ _ _ l l0 he (hS j e0 G) hl Z h3.symm (by simp[h9]))
    have av: ∀b,b<S.w.heap.size-> ¬M0 b->S1.w.heap[b]? =S.w.heap[b]? :=λb hb hM=>hc.wf.keep b hb hM
    have bo: ∀b,S.ok b->S'.ok b/\S'.hp b=S.hp b:=by
     intro b hb;refine⟨ab.ok0 b hb,av b (hW.oks b hb) ?_⟩;rintro⟨j,e,l,G,Z,h3,h4⟩
     have:=(hW.loc _ _ l (hS j e G) h3).2
     rw[show (e.1,e.2.ren σ).1=true from Z] at this;simp only[BM] at this;exact this.1 (h4▸hb)
    have ay: ∀j e0,hget H0 j=some e0->klB j=false->S1.h j=some e0:=λj e0 G Z=>MU H0 cf j e0 (eN G) Z
    have bd: ∀j,Ao H0 j=true->(∀j',Ao H0 j'=true->klB j'=true->σ j≠σ j')->klB j=false:=by
     intro j O h;cases hq:klB j with
     |false=>rfl
     |true=>exact absurd rfl (h j O hq)
    have be: ∀o,¬Fr nx cnt o-> ∀e',S'.h o=some e'-> ∃e,S.h o=some e/\S'.ρ o=S.ρ o/\e'.2.esz=e.2.esz/\e'.2.len=e.2.len:=by
     intro o ho e' z;have hρo:S'.ρ o=S.ρ o:=by
      simp only[S'];rw[Af (by intro h;exact ho ⟨h.1,h.2⟩)]
     rcases ah o e' z with ⟨j,e,rfl,G,Z,rfl⟩|⟨G,_⟩
     .obtain⟨g0,g1,g2,g3,x,g4,g5,g6⟩:=ag j e G;have au:j<k:=by
       rcases g2 with g2|g2
       .exact g2.1
       .have:=hσge j g2.1
        exact absurd (show Fr nx cnt (σ j) from ⟨by omega,by omega⟩) ho
      obtain⟨e0,p1,p2,p3,p4⟩:=hc.pre j au x g4;have an:=(@Qti C0 (S1.ice X) (S1.ice X) ab kx (λj=>j) (λb hb=>⟨hb,rfl⟩) bh (by
       intro o j O e' z;obtain⟨q1,_⟩:=bi o j O;subst q1;exact⟨e',z,rfl,rfl,rfl⟩) 9 x.2 e.2 g6).1
      refine⟨_,hS j e0 p1,hρo,?_,?_⟩
      .simp only[Qr6];rw[<-p3,<-an.1]
      .simp only[Qs6];rw[<-p4,<-an.2]
     .exact⟨e',G,hρo,rfl,rfl⟩
    have ax: ∀o j,kx o=some j-> ∀e',S'.h (σ j)=some e'-> ∃e,(S1.ice X).h o=some e/\S'.ρ (σ j)=(S1.ice X).ρ o/\e'.2.esz=e.2.esz/\e'.2.len=e.2.len:=by
     intro o j O e' z;obtain⟨rfl,q2⟩:=bi o j O;have bt:DD j:=q2.imp id (λh=>h.1);have cw:j<k+cnt:=by
      rcases q2 with q2|q2
      .have:=ao j q2;omega
      .exact q2.2
     rcases ah (σ j) e' z with ⟨j',e,h0,G,Z,rfl⟩|⟨G,Z⟩
     .obtain⟨g0,g1,g2,g3,x,g4,g5,g6⟩:=ag j' e G;obtain rfl:=hσinj _ _ bt g0 h0;have an:=(@Qti C0 (S1.ice X) (S1.ice X) ab kx (λj=>j) (λb hb=>⟨hb,rfl⟩) bh (by
       intro o j O e' z;obtain⟨q1,_⟩:=bi o j O;subst q1;exact⟨e',z,rfl,rfl,rfl⟩) 9 x.2 e.2 g6).1
      have hr:=hρ j bt g1 x g4;refine⟨(x.1 && X j,x.2),by rw[ba,g4];rfl,hr,?_,?_⟩
      .simp only[Qr6];rw[<-an.1]
      .simp only[Qs6];rw[<-an.2]
     ·
      have aa:Ao H0 j=true:=by
       rcases q2 with h|h
       .exact h
       .have h5:=am (σ j) ⟨by rw[hσge j h.1];omega,by rw[hσge j h.1];show nx+(j - k)<nx+cnt;omega⟩;rw[h5] at G;cases G
      have bb:=bd j aa (λj' a b=>Z j' a b);obtain⟨e0,ad⟩:=aj j aa;have g4:=ay j e0 ad bb;have hr:=hρ j bt cw e0 g4
      have:=hS j e0 ad
      rw[G] at this;obtain rfl:=AD this;refine⟨(e0.1 && X j,e0.2),by rw[ba,g4];rfl,hr,?_,?_⟩
      .simp only[Qr6]
      .simp only[Qs6]
    have aq: ∀n e' l,S'.h n=some e'->S'.ρ n=some l->(∃j x,n=σ j/\S1.h j=some x/\e'.1=x.1/\S1.ρ j=some l/\(k<=j->x.1=true)/\DD j/\kx j=some j/\e'.2.isView=x.2.isView)\/(S.h n=some e'/\S.ρ n=some l/\ ∀j,Ao H0 j=true->n≠σ j):=by
     intro n e' l z hl;rcases ah n e' z with ⟨j,e,rfl,G,Z,rfl⟩|⟨G,Z⟩
     .obtain⟨g0,g1,g2,g3,x,g4,g5,g6⟩:=ag j e G;have hr:=hρ j g0 g1 x g4;refine .inl ⟨j,x,rfl,g4,g5,by rw[<-hr];exact hl,?_,g0,g3,?_⟩
      .intro cd;rcases g2 with g2|g2
       .omega
       .rw[<-g5];exact g2.2
      .have hv:(e.2.ren σ).isView=e.2.isView:=by cases e.2<;>rfl
       show (e.2.ren σ).isView=_;rw[hv];exact O6 g6
     .by_cases hn: ∃j,Ao H0 j=true/\n=σ j
      .obtain⟨j,aa,rfl⟩:=hn;have bb:=bd j aa (λj' a b=>Z j' a b);obtain⟨e0,ad⟩:=aj j aa;have g4:=ay j e0 ad bb;have au:=ao j aa;have hr:=hρ j (.inl aa) (by omega) e0 g4
       have:=hS j e0 ad
       rw[G] at this;obtain rfl:=AD this;exact .inl ⟨j,e0,rfl,g4,rfl,by rw[<-hr];exact hl,λh=>by omega,.inl aa,bc j aa,by cases e0.2<;>rfl⟩
      .have bz: ∀j,Ao H0 j=true->n≠σ j:=λj O h=>hn ⟨j,O,h⟩
       refine .inr ⟨G,?_,bz⟩;have bx: ¬Fr nx cnt n:=by
        intro a9
        have:=am n a9
        rw[this] at G;cases G
       have hρo:S'.ρ n=S.ρ n:=by
        simp only[S'];rw[Af (by intro h;exact bx ⟨h.1,h.2⟩)]
       rw[<-hρo];exact hl
    have cp:Wf C S':=by
     refine⟨hc.wf.os.trans hW.os,hc.wf.tape.trans hW.tape,hc.wf.output.trans hW.output,D9 hW.size hc.wf.size,?_,λb hb=>ab.ok0 b (hW.ok0 b hb),?_,ab.oks,?_,?_,?_,hW.gl⟩
     .intro b hb hM;have c2: ¬M0 b:=by
       rintro⟨j,e,l,G,Z,h3,h4⟩
       have:=(hW.loc _ _ l (hS j e G) h3).2
       rw[show (e.1,e.2.ren σ).1=true from Z] at this;simp only[BM] at this;rcases this.2 with h5|h5
       .omega
       .exact hM (h4▸h5)
      exact (av b (Gr hb hW.size) c2).trans (hW.keep b hb hM)
     .intro b hb;rcases ab.ok1 b hb with h|h|h
      .exact hW.ok1 b h
      .exact .inr (.inl (D9 hW.size h))
      .obtain⟨j,e,l,G,Z,h3,h4⟩:=h
       have:=(hW.loc _ _ l (hS j e G) h3).2
       rw[show (e.1,e.2.ren σ).1=true from Z] at this;simp only[BM] at this;rw[<-h4];exact .inr this.2
     .intro n e' z;rcases ah n e' z with ⟨j,e,rfl,G,Z,rfl⟩|⟨G,Z⟩
      .obtain⟨g0,g1,g2,g3,x,g4,g5,g6⟩:=ag j e G;have an:=ab.obj j (x.1 && X j,x.2) (by rw[ba,g4];rfl);have hr:=hρ j g0 g1 x g4;have h5:=(Qti (S':=S') (τ:=σ) ab (λb hb=>⟨hb,rfl⟩) bh ax g6).2 _ (λ_ _=>rfl) an;rw[hr];exact h5
      .by_cases hn: ∃j,Ao H0 j=true/\n=σ j
       .obtain⟨j,aa,rfl⟩:=hn;have bb:=bd j aa (λj' a b=>Z j' a b);obtain⟨e0,ad⟩:=aj j aa;have g4:=ay j e0 ad bb;have au:=ao j aa;have hr:=hρ j (.inl aa) (by omega) e0 g4
        have:=hS j e0 ad
        rw[G] at this;obtain rfl:=AD this;rw[hr];have an:=hc.wf.obj j e0 g4;have h7:=Qzw (S:=S1) (S':=S') (σ:=λn=>n) (τ:=σ) (l:=S1.ρ j) (λb hb=>⟨.inl hb,rfl⟩) (λ_ _=>rfl) e0.2 ?_ (by rw[Qwc];exact an)
        .exact h7
        .intro m hm;refine⟨λe' z=> ?_⟩;have c7:m<k:=eU _ hbH j e0 ad m hm;cases hkm:kx m with
         |some m'=>
          obtain⟨rfl,_⟩:=bi m m' hkm;obtain⟨x,q1,q2,q3,q4⟩:=ax m' m' hkm e' z;obtain⟨y,q5,q6⟩:=V8 q1;exact⟨y,q5,q2,by rw[q3,q6],by rw[q4,q6]⟩
         |none=>
          exfalso;have cz:Ao H0 m≠true:=λh=>by rw[bc m h] at hkm;cases hkm
          exact cz (bu j e0 ad m hm)
       .have bz: ∀j,Ao H0 j=true->n≠σ j:=λj O h=>hn ⟨j,O,h⟩
        have bx: ¬Fr nx cnt n:=by
         intro a9
         have:=am n a9
         rw[this] at G;cases G
        have hρo:S'.ρ n=S.ρ n:=by
         simp only[S'];rw[Af (by intro h;exact bx ⟨h.1,h.2⟩)]
        rw[hρo];refine Ih (X:=λm=> ¬Fr nx cnt m) ⟨bo,λo ho e' z=>be o ho e' z⟩ ?_ e'.2 (λm hm=>bj n e' G m hm) (hW.obj n e' G);intro lc cx;obtain⟨p1,p2⟩:=a8 n e' lc G cx bz;exact av lc.b p1 p2
     .intro n e' l z hl;rcases aq n e' l z hl with ⟨j,x,rfl,g4,g5,g6,g7,g8,ck,g9⟩|⟨G,Z,h3⟩
      .have cu:X j=true:=by simp only[X,ck];rfl
       have ac:=ab.loc j (x.1 && X j,x.2) l (by rw[ba,g4];rfl) g6;rw[cu,F7] at ac;refine⟨ac.1,?_⟩;rw[g5];cases hm:x.1 with
       |false=>
        have h9:=ac.2;simp only[hm] at h9;simp only[Df,CK] at h9⊢;rcases h9 with h9|h9
        .exact .inl h9
        .refine .inr ?_;rw[g9];exact h9
       |true=>
        have h9:=ac.2;simp only[hm,BM] at h9⊢;refine⟨h9.1,?_⟩;rcases h9.2 with bp|bp
        .exact .inl (D9 hW.size bp)
        .obtain⟨j',e0,l0,p1,p2,p3,p4⟩:=bp
         have:=(hW.loc _ _ l0 (hS j' e0 p1) p3).2
         rw[show (e0.1,e0.2.ren σ).1=true from p2] at this;simp only[BM] at this;rw[<-p4];exact this.2
      .obtain⟨p1,p2⟩:=hW.loc n e' l G Z;obtain⟨p3,p4⟩:=a8 n e' l G Z h3;refine⟨Gr p1 hc.wf.size,?_⟩;cases hm:e'.1 with
       |false=>
        rw[hm] at p2;simp only[Df,CK] at p2⊢;exact p2.imp (λh=>ab.ok0 _ h) id
       |true=>
        rw[hm] at p2;simp only[BM] at p2⊢;refine⟨λc3=> ?_,p2.2⟩;rcases ab.ok1 _ c3 with h|h|h
        .exact p2.1 h
        .have h:S.w.heap.size<=l.b:=h;omega
        .exact p4 h
     ·
      have bm: ∀j x l n' e2 l',S1.h j=some x->S1.ρ j=some l->(k<=j->x.1=true)->DD j->S.h n'=some e2->S.ρ n'=some l'->(∀i,Ao H0 i=true->n'≠σ i)->l.b=l'.b->(x.1||e2.1)=true->False:=by
       intro j x l n' e2 l' g1 g2 g3 g4 p1 p2 p3 af ak;obtain⟨q1,q2⟩:=a8 n' e2 l' p1 p2 p3;by_cases au:j<k
       .have aa:Ao H0 j=true:=g4.resolve_right (by omega);obtain⟨e0,r1,r2,_,_⟩:=hc.pre j au x g1;have hρj:S.ρ (σ j)=some l:=by rw[<-r2|>λh=>show S1.ρ j=S.ρ (σ j) from h];exact g2
        have c4:(e0.1||e2.1)=true:=by
         cases he2:e2.1 with
         |true=>simp
         |false=>
          rw[he2,Qt] at ak;have ac:=(hc.wf.loc j x l g1 g2).2;rw[ak] at ac;simp only[BM] at ac;rcases ac.2 with h|h
          .have h:S.w.heap.size<=l.b:=h;omega
          .exact absurd (af▸h) q2
        exact p3 j aa (hW.inj _ _ _ _ l' l p1 (hS j e0 r1) p2 hρj af.symm (by rw[Bool.or_comm];exact c4))
       .have ac:=(hc.wf.loc j x l g1 g2).2;rw[g3 (by omega)] at ac;simp only[BM] at ac;rcases ac.2 with h|h
        .have h:S.w.heap.size<=l.b:=h;omega
        .exact q2 (af▸h)
      intro n n' e1 e2 l l' he z hl bw af ak;rcases aq n e1 l he hl with ⟨j,x,rfl,g1,g2,g3,g4,g5,_⟩|⟨g1,g2,g3⟩<;>rcases aq n' e2 l' z bw with ⟨j',x',rfl,p1,p2,p3,p4,p5,_⟩|⟨p1,p2,p3⟩
      .have cs:=hc.wf.inj j j' x x' l l' g1 p1 g3 p3 af (by rw[<-g2,<-p2];exact ak);rw[cs]
      .exact (bm j x l n' e2 l' g1 g3 g4 g5 p1 p2 p3 af (by rw[<-g2];exact ak)).elim
      .exact (bm j' x' l' n e1 l p1 p3 p4 p5 g1 g2 g3 af.symm (by rw[<-p2,Bool.or_comm];exact ak)).elim
      .exact hW.inj _ _ _ _ l l' g1 p1 g2 p2 af ak
    have ct:Aa S' (r.ren σ) v:=Qrr (S':=S') (τ:=σ) ab (λb hb=>⟨hb,rfl⟩) bh ax 9 (Di xs) r v hcv (Ii (HA S1 X) _ _ (λ_ _=>trivial) br);exact cb v S' cp rfl ⟨bo,λo ho e' z=>be o ho e' z⟩ (cm σ S' v ct)
 intro e a w he;cases e<;>simp only[FZ] at he<;>simp only[bodyPost]
 .obtain⟨s,hs,hc⟩:=he;obtain⟨s',bq,b0⟩:=hQ C0 _ a w s rfl hc (.inl hs);exact fin s' a w b0 bq
 .obtain⟨s,hs,_⟩:=he;exact (cn _ _ hs).elim
 .obtain⟨s,hs,hc⟩:=he;obtain⟨s',bq,b0⟩:=hQ C0 _ a w s rfl hc (.inr hs);exact fin s' a w b0 bq
def Uu{P:Program}{z:List ResultVar}{k cnt:Nat}{H0 H1:Av}{klB exB:Nat->Bool}{R:AV->Prop}: ∀(C:AW) (N:Nat) (a:Act) (w:World) (s:Ai),C.n0=k->BG C N s a w->
 ND P z k cnt H0 H1 klB exB R .normal s\/ND P z k cnt H0 H1 klB exB R .ret s-> ∃s',BG C N s' a w/\HZ P z k cnt H0 H1 klB exB R s':=by
 rintro C N a w s _ hc (h|h)<;>exact⟨s,hc,h⟩
def Uv{P:Program}{z:List ResultVar}{k cnt:Nat}{H0 H1:Av}{klB exB:Nat->Bool}{R:AV->Prop}: ∀(C:AW) (N:Nat) (a:Act) (w:World) (s:Ai),C.n0=k->BG C N s a w->
 Fe P z k cnt H0 H1 klB exB R .normal s\/Fe P z k cnt H0 H1 klB exB R .ret s-> ∃s',BG C N s' a w/\HZ P z k cnt H0 H1 klB exB R s':=by
 rintro C N a w s hk hc (h|h)<;>obtain⟨F,π,s',G,O,Z,Q⟩:=h<;>exact⟨s',QU (uF F hc) G O (by omega) (by omega),Q⟩
def CO(h:Nat->Option Au)(σ:Nat->Nat):Av->Prop
 |[]=>True
 |(j,(z,e))::r=>h (σ j)=some (z,e.ren σ)/\CO h σ r
def Qpk{h:Nat->Option Au}{σ:Nat->Nat}: ∀{H:Av},CO h σ H-> ∀j e,(j,e)∈H->h (σ j)=some (e.1,e.2.ren σ)
 |[],_,j,e,z=>by cases z
 |(i,(Q,x))::r,hH,j,e,z=>by
  obtain⟨G,O⟩:=hH;rcases Bm.1 z with z|z
  .cases z;exact G
  .exact Qpk O j e z
structure nR(H0:Av)(klB:Nat->Bool)(τ:Nat->Nat)(nx:Nat)(U KL:List Nat):Prop where
 inj: ∀i j,Ao H0 i=true->Ao H0 j=true->τ i=τ j->i=j
 lt: ∀j,Ao H0 j=true->τ j<nx
 u: ∀j,Ao H0 j=true->τ j∈U
 k1: ∀n∈KL,∃j,Ao H0 j=true/\klB j=true/\n=τ j
 k2: ∀j,Ao H0 j=true->klB j=true->τ j∈KL
def AE{A:Type}(ca:A->List AV)(H0:A->Av)(k:Nat)(pre:A->Prop)(klB:Nat->Bool)(r0:A->AV)(H1:A->Av)(cnt:Nat):AA:=λargs h nx K=>
 ∃(a:A) (τ:Nat->Nat) (U KL:List Nat),pre a/\args=AL (Cm τ k nx) (ca a)/\CO h (Cm τ k nx) (H0 a)/\nR (H0 a) klB τ nx U KL/\
  K ((r0 a).ren (Cm τ k nx)) {use:=U,kill:=KL,new:=AY (Cm τ k nx) (H1 a),cnt:=cnt}
def BO(H0:Av):Av->Prop
 |[]=>True
 |(_,(_,e))::r=>(∀m∈e.nms,Ao H0 m=true)/\BO H0 r
def Qo2{H0:Av}: ∀{H:Av},BO H0 H-> ∀j e,(j,e)∈H-> ∀m∈e.2.nms,Ao H0 m=true
 |[],_,j,e,z=>by cases z
 |(i,(Q,x))::r,hH,j,e,z=>by
  obtain⟨G,O⟩:=hH;rcases Bm.1 z with z|z
  .cases z;exact G
  .exact Qo2 O j e z
def Iz(os:List Nat)(j:Nat):Nat:=os.getD j 0
def eO:List Nat->Bool
 |[]=>true
 |x::r=> !r.contains x && eO r
def Qjj: ∀(os:List Nat),eO os=true->os.Nodup
 |[],_=>List.nodup_nil
 |x::r,h=>by
  simp only[eO,AS,Kq] at h;refine Ir.2 ⟨λz=> ?_,Qjj r h.2⟩;rw[HK.2 z] at h;cases h.1
def Xi(nx:Nat):List Nat->Bool
 |[]=>true
 |x::r=>Nat.blt x nx && Xi nx r
def Qvm{nx:Nat}: ∀(os:List Nat),Xi nx os=true-> ∀o∈os,o<nx
 |[],_,o,h=>by cases h
 |x::r,h,o,z=>by
  simp only[Xi,AS,E4] at h;rcases Bm.1 z with rfl|z
  .exact h.1
  .exact Qvm r h.2 o z
def VT(klB:Nat->Bool):List Nat->Nat->List Nat
 |[],_=>[]
 |x::r,j=>bif klB j then x::VT klB r (j+1) else VT klB r (j+1)
def Qx4{klB:Nat->Bool}: ∀(os:List Nat) (j n:Nat),n∈VT klB os j↔ ∃i,i<os.length/\klB (j+i)=true/\os[i]? =some n
 |[],j,n=>by simp[VT]
 |x::r,j,n=>by
  have ih:=Qx4 (klB:=klB) r (j+1) n;simp only[VT];cases hq:klB j
  .simp only[BC];rw[ih];constructor
   .rintro⟨i,O,z,G⟩;exact⟨i+1,by simp;omega,by rw[show j+(i+1)=j+1+i by omega];exact z,by simpa using G⟩
   .rintro⟨i,O,z,G⟩;cases i with
    |zero=>rw[Qr,hq] at z;cases z
    |succ i=>exact⟨i,by simp at O;omega,by rw[show j+1+i=j+(i+1) by omega];exact z,by simpa using G⟩
  .simp only[Ck,Bm];rw[ih];constructor
   .rintro (rfl|⟨i,O,z,G⟩)
    .exact⟨0,by simp,hq,by simp⟩
    .exact⟨i+1,by simp;omega,by rw[show j+(i+1)=j+1+i by omega];exact z,by simpa using G⟩
   .rintro⟨i,O,z,G⟩;cases i with
    |zero=>left;simpa using G.symm
    |succ i=>right;exact⟨i,by simp at O;omega,by rw[show j+1+i=j+(i+1) by omega];exact z,by simpa using G⟩
def Yw{H0:Av}{klB:Nat->Bool}{os:List Nat}{nx:Nat}(hd:eO os=true)(hl:Xi nx os=true)(hH: ∀j,Ao H0 j=true↔j<os.length):nR H0 klB (Iz os) nx os (VT klB os 0):=by
 have Z:=Qjj os hd;have O: ∀j,j<os.length->os[j]? =some (Iz os j):=by
  intro j z;simp[Iz,z]
 have hm: ∀j,j<os.length->Iz os j∈os:=λj z=>AZ (O j z)
 refine⟨λi j hi z h=> ?_,λj z=>Qvm os hl _ (hm j ((hH j).1 z)),λj z=>hm j ((hH j).1 z),λn hn=> ?_,λj z hk=> ?_⟩
 .have G:=O i ((hH i).1 hi);have Q:=O j ((hH j).1 z);rw[h] at G;exact (List.getElem?_inj ((hH i).1 hi) Z).1 (G.trans Q.symm)
 .obtain⟨i,G,Q,h3⟩:=(Qx4 os 0 n).1 hn;refine⟨i,(hH i).2 G,by simpa using Q,?_⟩;rw[O i G] at h3;exact (AD h3).symm
 .exact (Qx4 os 0 _).2 ⟨j,(hH j).1 z,by simpa using hk,O j ((hH j).1 z)⟩
def AE.os{A:Type}{ca:A->List AV}{H0:A->Av}{k:Nat}{pre:A->Prop}{klB:Nat->Bool}{r0:A->AV}{H1:A->Av}{cnt:Nat}{args:List AV}{h:Nat->Option Au}{nx:Nat}{K:Ah}(a:A)(os:List Nat)(z:pre a)
 (hH: ∀j,Ao (H0 a) j=true↔j<os.length)(hd:eO os=true)(Q:Xi nx os=true)
 (G:args=AL (Cm (Iz os) k nx) (ca a)/\CO h (Cm (Iz os) k nx) (H0 a))
 (O:K ((r0 a).ren (Cm (Iz os) k nx)) {use:=os,kill:=VT klB os 0,new:=AY (Cm (Iz os) k nx) (H1 a),cnt:=cnt}):AE ca H0 k pre klB r0 H1 cnt args h nx K:=
 ⟨a,Iz os,os,VT klB os 0,z,G.1,G.2,Yw hd Q hH,O⟩
def nH(z r2:AA):AA:=λargs h nx K=>z args h nx K\/r2 args h nx K
def W5{P:Program}{g:Nat}{G r2:AA}(O:AB P g G)(Q:AB P g r2):AB P g (nH G r2):=by
 rintro args h nx K (z|z)
 .exact O args h nx K z
 .exact Q args h nx K z
def JH:List D->Bool
 |[]=>true
 |x::r=>x.sc && JH r
def iI(K:D->Prop):Option Au->Prop
 |some (true,.arr _ k rows)=>BE JH rows/\K (.sl false k rows)
 |_=>False
def nA(h:Nat->Option Au)(K:D->Prop):AV->Prop
 | .im d=>d.scs=true/\K d
 | .own o=>iI K (h o)
 |_=>False
def IV(h:Nat->Option Au):List AV->(List D->Prop)->Prop
 |[],K=>K []
 |x::r,K=>nA h (λd=>IV h r λds=>K (d::ds)) x
def Su(h:Nat->Option Au)(K:D->Prop):AV->Prop
 | .im d=>d.scs=true/\K d
 | .own o=>iI K (h o)
 | .agg z=>IV h z λds=>K (.agg ds)
 |_=>False
def K6(h:Nat->Option Au):List AV->(List D->Prop)->Prop
 |[],K=>K []
 |x::r,K=>Su h (λd=>K6 h r λds=>K (d::ds)) x
def OG(h:Nat->Option Au)(K:D->Prop):AV->Prop
 | .im d=>d.scs=true/\K d
 | .own o=>iI K (h o)
 | .agg z=>IV h z λds=>K (.agg ds)
 | .tup z=>K6 h z λds=>K (.tup ds)
 |_=>False
def MQ(R:D->Prop)(s:Ai):Option (List AV)->Prop
 |some xs=>OG (hget s.h) R (Di xs)
 |none=>False
def KQ(P:Program)(z:List ResultVar)(R:D->Prop)(s:Ai):Prop:=MQ R s (A7 (Kf P s) z)
def ZY(P:Program)(z:List ResultVar)(R:D->Prop):Cq
 | .normal,s=>KQ P z R s
 | .ret,s=>KQ P z R s
 | .exit _,_=>False
def MV: ∀(r:List D),JH r=true->r.all D.sc=true
 |[],_=>rfl
 |x::r,h=>by
  simp only[JH,AS] at h;simp[h.1,MV r h.2]
def KP{ok ok':Nat->Prop}{hp hp':Nat->Option Obj}: ∀(ds:List D) (vs:List Value),ds.all D.sc=true->rdp ok hp ds vs->rdp ok' hp' ds vs
 |[],_,_,_=>by simp only[rdp]
 |d::ds,vs,h,hd=>by
  simp only[rdp,Lw,AS] at hd h⊢;obtain⟨v,r,rfl,z,G⟩:=hd;exact⟨v,r,rfl,MG h.1 z,KP ds r h.2 G⟩
def Ul{ok ok':Nat->Prop}{hp hp':Nat->Option Obj}{k:Nat}: ∀(z:List (List D)) (vs:List Value),BE JH z->rdr ok hp k z vs->rdr ok' hp' k z vs
 |[],_,_,_=>by simp only[rdr]
 |r::z,vs,h,hd=>by
  simp only[rdr] at hd⊢;exact⟨hd.1,KP r vs (MV r (h r (BT ..))) hd.2.1,Ul z _ (λx G=>h x (BX _ G)) hd.2.2⟩
section
variable {C:AW}{S:A9}
def TG(C:AW)(S:A9)(b:Nat):Prop:=C.w.heap.size<=b/\b<S.w.heap.size/\ ¬S.ok b
def Qzs(hM: ∀b,¬C.M b)(hW:Wf C S){K:D->Prop}{o:Nat}{v:Value}(G:iI K (S.h o))(hc:Aa S (.own o) v): ∃d,K d/\rd (TG C S) S.hp d v:=by
 cases he:S.h o with
 |none=>rw[he] at G;exact G.elim
 |some e=>
  obtain⟨mu,e⟩:=e;rw[he] at G;cases mu with
  |false=>cases e<;>exact G.elim
  |true=>
  cases e with
  |arr T k rows=>
   simp only[iI] at G;refine⟨_,G.2,?_⟩;have z:=hW.obj o _ he;simp only[Aa] at hc;obtain⟨_,hc⟩:=hc;have hc:=hc _ he;simp only[Aw] at z;cases hl:S.ρ o with
   |none=>
    rw[hl] at hc z;simp only[rd];exact .inl ⟨.inl hc,z.2⟩
   |some l=>
    rw[hl] at hc z;obtain⟨h0,Q,vs,Z,h3,h4⟩:=z;obtain⟨q1,O⟩:=hW.loc o _ l he hl;simp only[BM] at O;simp only[rd];refine .inr ⟨l.b,l.p,l.cap,vs,T,(0,0),hc,by simp,Q,h0,⟨?_,q1,O.1⟩,Z,Ul rows _ G.1 h4⟩;rcases O.2 with h|h
    .exact h
    .exact absurd h (hM _)
  |_=>exact G.elim
def St(G: ∀b,¬C.M b)(hW:Wf C S){K:D->Prop}{x:AV}{v:Value}(z:nA S.h K x)(hc:Aa S x v): ∃d,K d/\rd (TG C S) S.hp d v:=by
 cases x with
 |im d=>
  simp only[nA] at z;simp only[Aa] at hc;exact⟨d,z.2,KO z.1 hc⟩
 |own o=>
  simp only[nA] at z;exact Qzs G hW z hc
 |_=>exact z.elim
def Qvx(G: ∀b,¬C.M b)(hW:Wf C S): ∀(xs:List AV) (K:List D->Prop) (vs:List Value),IV S.h xs K->AN S xs vs-> ∃ds,K ds/\rdl (TG C S) S.hp ds vs
 |[],K,vs,z,hc=>by
  simp only[IV] at z;simp only[AN] at hc;exact⟨[],z,by simp only[rdl];exact hc⟩
 |x::xs,K,vs,z,hc=>by
  simp only[IV] at z;simp only[AN] at hc;obtain⟨v,r,rfl,O,Q⟩:=hc;obtain⟨d,Z,h4⟩:=St G hW z O;obtain⟨ds,h5,h6⟩:=Qvx G hW xs _ r Z Q;exact⟨d::ds,h5,by simp only[rdl];exact⟨v,r,rfl,h4,h6⟩⟩
def zT(G: ∀b,¬C.M b)(hW:Wf C S){K:D->Prop}{x:AV}{v:Value}(z:Su S.h K x)(hc:Aa S x v): ∃d,K d/\rd (TG C S) S.hp d v:=by
 cases x with
 |im d=>
  simp only[Su] at z;simp only[Aa] at hc;exact⟨d,z.2,KO z.1 hc⟩
 |own o=>
  simp only[Su] at z;exact Qzs G hW z hc
 |agg O=>
  simp only[Su] at z;simp only[Aa] at hc;obtain⟨vs,rfl,Q⟩:=hc;obtain⟨ds,Z,h3⟩:=Qvx G hW O _ _ z Q;exact⟨_,Z,by simp only[rd];exact⟨vs,rfl,h3⟩⟩
 |_=>exact z.elim
def Qvn(G: ∀b,¬C.M b)(hW:Wf C S): ∀(xs:List AV) (K:List D->Prop) (vs:List Value),K6 S.h xs K->AN S xs vs-> ∃ds,K ds/\rdl (TG C S) S.hp ds vs
 |[],K,vs,z,hc=>by
  simp only[K6] at z;simp only[AN] at hc;exact⟨[],z,by simp only[rdl];exact hc⟩
 |x::xs,K,vs,z,hc=>by
  simp only[K6] at z;simp only[AN] at hc;obtain⟨v,r,rfl,O,Q⟩:=hc;obtain⟨d,Z,h4⟩:=zT G hW z O;obtain⟨ds,h5,h6⟩:=Qvn G hW xs _ r Z Q;exact⟨d::ds,h5,by simp only[rdl];exact⟨v,r,rfl,h4,h6⟩⟩
def Qzf(G: ∀b,¬C.M b)(hW:Wf C S){K:D->Prop}{x:AV}{v:Value}(z:OG S.h K x)(hc:Aa S x v): ∃d,K d/\rd (TG C S) S.hp d v:=by
 cases x with
 |tup O=>
  simp only[OG] at z;simp only[Aa] at hc;obtain⟨vs,rfl,Q⟩:=hc;obtain⟨ds,Z,h3⟩:=Qvn G hW O _ _ z Q;exact⟨_,Z,by simp only[rd];exact⟨vs,rfl,h3⟩⟩
 |im d=>exact zT (x:= .im d) G hW (by simpa only[OG,Su] using z) hc
 |own o=>exact zT (x:= .own o) G hW (by simpa only[OG,Su] using z) hc
 |agg O=>exact zT (x:= .agg O) G hW (by simpa only[OG,Su] using z) hc
 |_=>exact z.elim
end
def Km(f:AV->Option D):Option Au->Option D
 |some (_,.arr _ k rows)=>some (.sl false k rows)
 |some (_,.arrA _ k rows)=>(A7 (A7 f) rows).map (.sl false k)
 |_=>none
def R9:Option Au->Option D
 |some (_,.map G z)=>some (.mp G z)
 |_=>none
def ZS(f:AV->Option D)(off:Nat):Option Au->Option (List D)
 |some (_,.cells _ z)=>A7 f (z.drop off)
 |some (_,.view z)=>some (z.drop off)
 |_=>none
def R8(g:FuncId):Option (List D)->Option (List D)->Option D
 |some a,some c=>some (.fn g a c)
 |some _,none=>none
 |none,_=>none
def bk(h:Nat->Option Au):Nat->AV->Option D
 |0,_=>none
 |_+1,.im d=>some d
 |n+1,.agg z=>(A7 (bk h n) z).map .agg
 |n+1,.tup z=>(A7 (bk h n) z).map .tup
 |n+1,.own o=>Km (bk h n) (h o)
 |_+1,.mp o=>R9 (h o)
 |n+1,.ptr o off=>(ZS (bk h n) off (h o)).map .ref
 |n+1,.clo f a c=>R8 f (A7 (bk h n) a) (A7 (bk h n) c)
 |_+1,.any=>none
 |_+1,.eptr _ _ _=>none
 |_+1,.ch _=>none
 |_+1,.it _=>none
 |_+1,.osl _ _ _=>none
def Y9(ds:Option (List D)):Option PK:=ds.map .ptr
def ES(d:Option D):Option PK:=d.map .val
def E7(h:Nat->Option Au):AV->Option PK
 | .im d=>some (FY d)
 | .ptr o off=>Y9 (ZS (bk h 8) off (h o))
 | .own o=>ES (bk h 9 (.own o))
 | .mp o=>ES (bk h 9 (.mp o))
 | .agg z=>ES (bk h 9 (.agg z))
 | .tup z=>ES (bk h 9 (.tup z))
 | .clo f a c=>ES (bk h 9 (.clo f a c))
 | .any=>none
 | .eptr _ _ _=>none
 | .ch _=>none
 | .it _=>none
 | .osl _ _ _=>none
def I3:Option PK->Option (List PK)->Option (List PK)
 |some p,some z=>some (p::z)
 |some _,none=>none
 |none,_=>none
def CB(h:Nat->Option Au):List AV->Option (List PK)
 |[]=>some []
 |x::r=>I3 (E7 h x) (CB h r)
def Jm(f:AV->List Nat):Option Au->List Nat
 |some (_,.cells _ z)=>z.flatMap f
 |some (_,.arrA _ _ rows)=>rows.flatMap λr=>r.flatMap f
 |_=>[]
def Cl(h:Nat->Option Au):Nat->AV->List Nat
 |0,_=>[]
 |n+1,.agg z=>z.flatMap (Cl h n)
 |n+1,.tup z=>z.flatMap (Cl h n)
 |n+1,.own o=>o::Jm (Cl h n) (h o)
 |_+1,.mp o=>[o]
 |n+1,.ptr o _=>o::Jm (Cl h n) (h o)
 |n+1,.clo _ a c=>a.flatMap (Cl h n)++c.flatMap (Cl h n)
 |_+1,_=>[]
def Fv(h:Nat->Option Au)(xs:List AV):List Nat:=xs.flatMap (Cl h 9)
def A9.froz(S:A9):A9:=⟨S.ρ,λb=>S.ok b\/ ∃o e l,S.h o=some e/\S.ρ o=some l/\l.b=b,λo=>(S.h o).map λe=>(false,e.2),S.w⟩
def lL{S:A9}{o:Nat}{e':Au}(h:S.froz.h o=some e'): ∃e,S.h o=some e/\e'=(false,e.2):=by
 simp only[A9.froz,D4] at h;obtain⟨e,z,rfl⟩:=h;exact⟨e,z,rfl⟩
def lK(S:A9):B3 (λ_=>True) S S.froz:=by
 refine⟨λb hb=>⟨.inl hb,rfl⟩,λo _ e' z=> ?_⟩;obtain⟨e,G,rfl⟩:=lL z;exact⟨e,G,rfl,rfl,rfl⟩
def aV(S:A9):AW:=⟨S.w,λ_=>False,S.froz.ok,0,λ_=>none,λ_=>none,[]⟩
def Qxy{C:AW}{S:A9}(hW:Wf C S):Wf (aV S) S.froz:=by
 refine⟨rfl,rfl,rfl,AQ _,λ_ _ _=>rfl,λ_ hb=>hb,λ_ hb=> .inl hb,?_,?_,?_,?_,hW.gp.mono λb o hb ho=>⟨⟨.inl hb,λh=>h.elim⟩,ho⟩⟩
 .rintro b (hb|⟨o,e,l,G,Q,rfl⟩)
  .exact hW.oks b hb
  .exact (hW.loc o e l G Q).1
 .intro o e' z;obtain⟨e,G,rfl⟩:=lL z;exact Ih (lK S) (λ_ _=>rfl) _ (λ_ _=>trivial) (hW.obj o e G)
 .intro o e' l z O;obtain⟨e,G,rfl⟩:=lL z;exact⟨(hW.loc o e l G O).1,.inl (.inr ⟨o,e,l,G,O,rfl⟩)⟩
 .intro o o' e e' l l' Z z _ _ _ hf;obtain⟨x,_,rfl⟩:=lL Z;obtain⟨x',_,rfl⟩:=lL z;simp at hf
section
variable {C:AW}{S:A9}{h:Nat->Option Au}
def Qql(hW:Wf C S){f:AV->Option D}{g:AV->List Nat}(hf: ∀x d v,(∀m∈g x,S.h m=h m)->f x=some d->Aa S x v->rd S.froz.ok S.froz.hp d v)
 {o off:Nat}{ds:List D}{v:Value}(h1:S.h o=h o)(Z: ∀m∈Jm g (h o),S.h m=h m)(hd:ZS f off (h o)=some ds)(hc:Aa S (.ptr o off) v):
 ∃b p vs T fr,v= .pointer (some ⟨b,p,none⟩)/\S.froz.ok b/\S.froz.hp b=some (.cells vs T fr)/\rdp S.froz.ok S.froz.hp ds (vs.toList.drop p):=by
 have hL: ∀(cs:List AV) (ds:List D) (vs:List Value),(∀m∈cs.flatMap g,S.h m=h m)->A7 f cs=some ds->Cy S cs vs->rdp S.froz.ok S.froz.hp ds vs:=by
  intro cs;induction cs with
  |nil=>
   intro ds vs _ hd _;simp only[A7,AJ] at hd;subst hd;simp only[rdp]
  |cons x cs ih=>
   intro ds vs hh hd hc;simp only[A7] at hd;simp only[Cy] at hc;obtain⟨v,r,rfl,h1,h2⟩:=hc;split at hd
   .rename_i y ys hy aa;obtain rfl:=AD hd;simp only[rdp];exact⟨v,r,rfl,hf x y v (λm O=>hh m (by rw[GG];exact Kv _ O)) hy h1,ih ys r (λm O=>hh m (by rw[GG];exact Rl _ O)) aa h2⟩
   .cases hd
 simp only[Aa] at hc;obtain⟨_,hc⟩:=hc;rw[<-h1] at hd Z;cases he:S.h o with
 |none=>rw[he] at hd;cases hd
 |some e=>
  obtain⟨l,hl,rfl⟩:=hc e he;have Q:S.froz.ok l.b:= .inr ⟨o,e,l,he,hl,rfl⟩;obtain⟨mu,e⟩:=e;rw[he] at hd Z;have z:=hW.obj o _ he;rw[hl] at z;cases e with
  |cells T cs=>
   simp only[ZS] at hd;simp only[Aw] at z;obtain⟨lc,vs,h3,h4,h5,h6⟩:=z;cases h3;refine⟨l.b,l.p+off,vs,T,(0,0),rfl,Q,h5,?_⟩;rw[h4,FV];simp only[Jm] at Z;rcases Nat.le_total off cs.length with G|G
   .refine hL _ _ _ (λm O=>Z m ?_) hd (kZ off cs _ (WI _ _ h6) G);obtain⟨x,k1,k2⟩:=ZeK.1 O;exact ZeK.2 ⟨x,Zfc k1,k2⟩
   .rw[Dr G] at hd;simp only[A7,AJ] at hd;subst hd;simp only[rdp]
  |view cs=>
   simp only[ZS,AJ] at hd;subst hd;simp only[Aw] at z;obtain⟨lc,vs,T,fr,h3,h5,h6⟩:=z;cases h3;refine⟨l.b,l.p+off,vs,T,fr,rfl,Q,h5,?_⟩;have G:=ZB (lK S).ok _ _ h6;rw[<-EF];rcases Nat.le_total off cs.length with h|h
   .exact V6 off cs _ G h
   .rw[Dr h];simp only[rdp]
  |_=>cases hd
def aQ(hW:Wf C S): ∀(n:Nat) (x:AV) (d:D) (v:Value),(∀m∈Cl h n x,S.h m=h m)->bk h n x=some d->Aa S x v->rd S.froz.ok S.froz.hp d v:=by
 intro n;induction n with
 |zero=>intro x d v _ hd;simp[bk] at hd
 |succ n ih=>
  have Q: ∀(cs:List AV) (ds:List D) (vs:List Value),(∀m∈cs.flatMap (Cl h n),S.h m=h m)->A7 (bk h n) cs=some ds->AN S cs vs->rdl S.froz.ok S.froz.hp ds vs:=by
   intro cs;induction cs with
   |nil=>
    intro ds vs _ hd hc;simp only[A7,AJ] at hd;subst hd;simpa only[AN,rdl] using hc
   |cons x cs ac=>
    intro ds vs G hd hc;simp only[A7] at hd;simp only[AN] at hc;obtain⟨v,r,rfl,h1,Z⟩:=hc;split at hd
    .rename_i y ys hy ab;obtain rfl:=AD hd;simp only[rdl];exact⟨v,r,rfl,ih x y v (λm O=>G m (by rw[GG];exact Kv _ O)) hy h1,ac ys r (λm O=>G m (by rw[GG];exact Rl _ O)) ab Z⟩
    .cases hd
  have hp: ∀(cs:List AV) (ds:List D) (vs:List Value),(∀m∈cs.flatMap (Cl h n),S.h m=h m)->A7 (bk h n) cs=some ds->Cy S cs vs->rdp S.froz.ok S.froz.hp ds vs:=by
   intro cs;induction cs with
   |nil=>
    intro ds vs _ hd hc;simp only[A7,AJ] at hd;subst hd;simp only[rdp]
   |cons x cs ac=>
    intro ds vs G hd hc;simp only[A7] at hd;simp only[Cy] at hc;obtain⟨v,r,rfl,h1,Z⟩:=hc;split at hd
    .rename_i y ys hy ab;obtain rfl:=AD hd;simp only[rdp];exact⟨v,r,rfl,ih x y v (λm O=>G m (by rw[GG];exact Kv _ O)) hy h1,ac ys r (λm O=>G m (by rw[GG];exact Rl _ O)) ab Z⟩
    .cases hd
  have hr: ∀(k:Nat) (rs:List (List AV)) (ds:List (List D)) (vs:List Value),(∀m∈rs.flatMap (λr=>r.flatMap (Cl h n)),S.h m=h m)->A7 (A7 (bk h n)) rs=some ds->BH S k rs vs->rdr S.froz.ok S.froz.hp k ds vs/\ds.length=rs.length:=by
   intro k rs;induction rs with
   |nil=>
    intro ds vs _ hd _;simp only[A7,AJ] at hd;subst hd;exact⟨by simp only[rdr],rfl⟩
   |cons x rs ac=>
    intro ds vs G hd hc;simp only[A7] at hd;simp only[BH] at hc;split at hd
    .rename_i y ys hy ab;obtain rfl:=AD hd;obtain⟨k1,k2⟩:=ac ys _ (λm O=>G m (by rw[GG];exact Rl _ O)) ab hc.2.2;refine⟨?_,by simp[k2]⟩;simp only[rdr];exact⟨(eJ _ _ hy).trans hc.1,hp x y _ (λm O=>G m (by rw[GG];exact Kv _ O)) hy hc.2.1,k1⟩
    .cases hd
  intro x d v G hd hc;cases x with
  |im d'=>
   simp only[bk,AJ] at hd;subst hd;simp only[Aa] at hc;exact GS (lK S).ok _ _ hc
  |agg cs=>
   simp only[bk,D4] at hd;obtain⟨ds,h1,rfl⟩:=hd;simp only[Aa] at hc;obtain⟨vs,rfl,Z⟩:=hc;simp only[rd];exact⟨vs,rfl,Q cs ds _ G h1 Z⟩
  |tup cs=>
   simp only[bk,D4] at hd;obtain⟨ds,h1,rfl⟩:=hd;simp only[Aa] at hc;obtain⟨vs,rfl,Z⟩:=hc;simp only[rd];exact⟨vs,rfl,Q cs ds _ G h1 Z⟩
  |own o=>
   simp only[Cl,Bm] at G;have h1:=G o (.inl rfl);simp only[bk] at hd;simp only[Aa] at hc;rw[<-h1] at hd G;cases he:S.h o with
   |none=>rw[he] at hd;cases hd
   |some e=>
    have hc:=hc.2 e he;have z:=hW.obj o _ he;obtain⟨mu,e⟩:=e;rw[he] at hd G;have ag: ∀l,S.ρ o=some l->S.froz.ok l.b:=λl Q=> .inr ⟨o,_,l,he,Q,rfl⟩
    have ah:=lK S;cases e with
    |arr T k rows=>
     simp only[Km,AJ] at hd;subst hd;simp only[Aw] at z;simp only[rd];cases Q:S.ρ o with
     |none=>rw[Q] at hc z;exact .inl ⟨.inl hc,z.2⟩
     |some l=>
      rw[Q] at hc z;obtain⟨h0,Z,vs,h3,h4,h5⟩:=z;exact .inr ⟨l.b,l.p,l.cap,vs,T,(0,0),hc,by simp,Z,h0,ag l Q,h3,ZC ah.ok _ _ _ h5⟩
    |arrA T k rows=>
     simp only[Km,D4] at hd;obtain⟨ds,hd,rfl⟩:=hd;simp only[Aw] at z;simp only[rd];have aa:=eJ _ _ hd;cases Q:S.ρ o with
     |none=>
      rw[Q] at hc z;obtain⟨_,z⟩:=z;subst z;exact .inl ⟨.inl hc,vL (by simpa using aa)⟩
     |some l=>
      rw[Q] at hc z;obtain⟨h0,Z,vs,h3,h4,h5⟩:=z;obtain⟨k1,k2⟩:=hr k rows ds _ (λm O=>G m (.inr (by simpa only[Jm] using O))) hd h5;simp only[Ad.len] at hc;exact .inr ⟨l.b,l.p,l.cap,vs,T,(0,0),by rw[aa];exact hc,by simp,by rw[aa];exact Z,by rw[aa];exact h0,ag l Q,h3,k1⟩
    |_=>cases hd
  |mp o=>
   have h1:=G o (by simp[Cl]);simp only[bk] at hd;simp only[Aa] at hc;rw[<-h1] at hd;cases he:S.h o with
   |none=>rw[he] at hd;cases hd
   |some e=>
    obtain⟨l,Q,rfl⟩:=hc.2 e he;have z:=hW.obj o _ he;obtain⟨mu,e⟩:=e;rw[he] at hd;cases e with
    |map kt es=>
     simp only[R9,AJ] at hd;subst hd;rw[Q] at z;simp only[Aw] at z;obtain⟨lc,af,ad,Z,h3,h4,h5,h6⟩:=z;cases Z;simp only[rd];exact⟨l.b,af,ad,rfl,h3,.inr ⟨o,_,l,he,Q,rfl⟩,h4,Lg (lK S).ok _ _ h5,h6⟩
    |_=>cases hd
  |ptr o off=>
   simp only[Cl,Bm] at G;simp only[bk,D4] at hd;obtain⟨ds,hd,rfl⟩:=hd;simp only[rd];exact Qql hW (g:=Cl h n) (λx d v h1 Z h3=>ih x d v h1 Z h3) (G o (.inl rfl)) (λm O=>G m (.inr O)) hd hc
  |clo f a c=>
   simp only[Cl,Bx] at G;simp only[bk] at hd;cases ha:A7 (bk h n) a with
   |none=>rw[ha] at hd;cases hd
   |some da=>
    cases hcc:A7 (bk h n) c with
    |none=>rw[ha,hcc] at hd;cases hd
    |some dc=>
     rw[ha,hcc] at hd;simp only[R8,AJ] at hd;subst hd;simp only[Aa] at hc;obtain⟨va,vc,rfl,h3,h4⟩:=hc;simp only[rd];exact⟨va,vc,rfl,Q a da _ (λm O=>G m (.inl O)) ha h3,Q c dc _ (λm O=>G m (.inr O)) hcc h4⟩
  |_=>simp[bk] at hd
def sR(hW:Wf C S){x:AV}{p:PK}{v:Value}(G: ∀m∈Cl h 9 x,S.h m=h m)(hp:ES (bk h 9 x)=some p)(hc:Aa S x v):JP S.froz p v:=by
 simp only[ES,D4] at hp;obtain⟨d,z,rfl⟩:=hp;simp only[JP];exact aQ hW 9 x d v G z hc
def TV(hW:Wf C S){x:AV}{p:PK}{v:Value}(z: ∀m∈Cl h 9 x,S.h m=h m)(hp:E7 h x=some p)(hc:Aa S x v):JP S.froz p v:=by
 cases x with
 |im d=>
  simp only[E7,AJ] at hp;subst hp;simp only[Aa] at hc;exact Qyv (Qxy hW) (GS (lK S).ok d v hc)
 |ptr o off=>
  simp only[Cl,Bm] at z;simp only[E7,Y9,D4] at hp;obtain⟨ds,G,rfl⟩:=hp;obtain⟨b,q,vs,T,fr,O,Q,h4,h5⟩:=Qql hW (g:=Cl h 8) (λx d v G O Q=>aQ hW 8 x d v G O Q) (z o (.inl rfl)) (λm hm=>z m (.inr hm)) G hc;simp only[JP];exact⟨b,q,vs,T,fr,O,(Qxy hW).oks b Q,h4,h5⟩
 |own o=>exact sR hW z hp hc
 |mp o=>exact sR hW z hp hc
 |agg Z=>exact sR hW z hp hc
 |tup Z=>exact sR hW z hp hc
 |clo f a c=>exact sR hW z hp hc
 |_=>cases hp
def Qtx(hW:Wf C S): ∀(xs:List AV) (ps:List PK) (vs:List Value),(∀m∈Fv h xs,S.h m=h m)->CB h xs=some ps->AN S xs vs->EC S.froz ps vs
 |[],ps,vs,_,hp,hc=>by
  simp only[CB,AJ] at hp;subst hp;simp only[AN] at hc;simp only[EC];exact hc
 |x::xs,ps,vs,G,hp,hc=>by
  simp only[CB] at hp;simp only[AN] at hc;obtain⟨v,r,rfl,O,Q⟩:=hc;cases hx:E7 h x with
  |none=>rw[hx] at hp;cases hp
  |some p=>
   cases hr:CB h xs with
   |none=>rw[hx,hr] at hp;cases hp
   |some qs=>
    rw[hx,hr] at hp;simp only[I3,AJ] at hp;subst hp;simp only[EC];refine⟨v,r,rfl,TV hW (λm z=>G m ?_) hx O,Qtx hW xs qs r (λm z=>G m ?_) hr Q⟩
    .simp only[Fv,GG];exact Kv _ z
    .simp only[Fv,GG];exact Rl _ z
end
def PU{P:Program}(HM:P.follows .mixedOrders=true){V:Db}(hV:J5 P V){g:FuncId}{fn:Func}{c:Code}(hf:P.funcs[g]? =some fn)(hb:fn.body=some c)(ab:Em fn.ntmps c=true)
 {ps:List PK}(ao:ps.length<=fn.ntmps){R:D->Prop}
 (hk:Dc P V c (ZY P fn.results.toList R) ⟨entry 0 (Dt 0 ps),D7 0 ps,BJ ps⟩)
 {C:AW}{S:A9}{vs:Array Value}{RR:Ending->World->Prop}(hW:Wf C S)(af:EC S ps vs.toList)
 (ac: ∀(v:Value) (G:AW) (S1:A9) (d:D),G.w=S.w->G.ok=S.ok->(∀b,¬G.M b)->Wf G S1->R d->rd (TG G S1) S1.hp d v->RR (.returned v) S1.w):Calls P g vs S.w RR:=by
 refine calls_of_wp hf hb ?_;have an:vs.size=(Dt 0 ps).length:=by rw[Z8];simpa using af.len
 obtain⟨ls,ad,hcl⟩:=tX ps vs.toList 0 af
 let Z:A9:=⟨ls,S.ok,hget (D7 0 ps),S.w⟩
 let G:AW:=⟨S.w,λ_=>False,S.ok,0,λ_=>none,λ_=>none,[]⟩
 have ai:Wf G Z:=by
  refine⟨rfl,rfl,rfl,AQ _,λ_ _ _=>rfl,λ_ hb=>hb,λ_ hb=> .inl hb,hW.oks,?_,?_,?_,hW.glN λ_ h=>h.elim⟩
  .intro n e z;obtain⟨l,O,_,h3⟩:=ad n e z;have h4:Z.ρ n=some l:=O;rw[h4];obtain⟨_,cs,rfl⟩:=Ig 0 ps n e z;simp only[Aw] at h3⊢;exact h3
  .intro n e l z hl;obtain⟨l',O,h2,h3⟩:=ad n e z;have h4:Z.ρ n=some l':=O;rw[h4] at hl;obtain rfl:=AD hl;obtain⟨_,cs,rfl⟩:=Ig 0 ps n e z;exact⟨h2,.inr rfl⟩
  .intro n n' e e' l l' z ak hl av au am;obtain⟨_,cs,rfl⟩:=Ig 0 ps n e z;obtain⟨_,aq,rfl⟩:=Ig 0 ps n' e' ak;simp at am
 have aj:BG G fn.ntmps ⟨entry 0 (Dt 0 ps),D7 0 ps,BJ ps⟩ {tmps:=vs++Array.replicate (fn.ntmps - vs.size) undef,defers:=[]} S.w:=by
  have Q:AN Z (Dt 0 ps) vs.toList:=hcl Z rfl rfl (λn _=>⟨rfl,rfl⟩);refine⟨Z,rfl,ai,λn=>rfl,?_,?_,?_,by simp;rw[Z8] at an;omega,rfl,Cz _,λo ho=>absurd ho (mP _)⟩
  .intro t;have O:=kX (S:=Z) (Dt 0 ps) vs.toList 0 t Q;simp only[Cz,BM,aJ] at O
   have:({tmps:=vs++Array.replicate (fn.ntmps - vs.size) undef,defers:=[]}:Act).eval (.tmp t)=(vs.toList[t]?).getD undef:=by
    simp only[Act.eval,HI,vR,fZ];by_cases ht:t<vs.size
    .simp[ht]
    .simp only[ht,CK]
     have:vs[t]? =none:=Xp (by omega)
     simp only[Hc,this]
     split<;>rfl
   rw[this];exact O
  .intro t m hm;exact sN 0 ps (BJ ps) (by omega) m (lF (Dt 0 ps) 0 t m hm)
  .intro n e z;obtain⟨O,cs,rfl⟩:=Ig 0 ps n e z;exact⟨by show n<BJ ps;omega,by simp[Ad.nms]⟩
 refine wp_mono (Qo4 HM (fL hV) c ab _ _ _ _ hk aj) ?_;have fin: ∀(s:Ai) (a:Act) (w:World),KQ P fn.results.toList R s->BG G fn.ntmps s a w->a.defers=[]/\ ∃v,(results fn a.tmps).run P w= .ok v w/\RR (.returned v) w:=by
  rintro s a w hr ⟨S1,rfl,hc⟩;unfold KQ at hr;cases hxs:A7 (Kf P s) fn.results.toList with
  |none=>rw[hxs] at hr;exact hr.elim
  |some xs=>
   rw[hxs] at hr;simp only[MQ] at hr;obtain⟨v,ag,aa⟩:=rY hc hxs;refine⟨hc.defers,v,ag,?_⟩;have ah:hget s.h=S1.h:=(funext hc.h).symm;rw[ah] at hr;obtain⟨d,O,h2⟩:=Qzf (λ_ h=>h) hc.wf hr aa;exact ac v G S1 d rfl rfl (λ_ h=>h) hc.wf O h2
 intro e a w z;cases e<;>simp only[FZ] at z<;>simp only[bodyPost]
 .obtain⟨s,hs,hc⟩:=z;exact fin s a w hs hc
 .obtain⟨s,hs,_⟩:=z;exact hs.elim
 .obtain⟨s,hs,hc⟩:=z;exact fin s a w hs hc
def WJ{A:Type}(ar:List PK->Option A)(pre:A->Prop)(re:A->D)(u:List Nat)(K:Ah):Option (List PK)->Prop
 |some z=>Eo (λa=>pre a/\K (.im (re a)) {use:=u}) (ar z)
 |none=>False
def Lm{A:Type}(ar:List PK->Option A)(pre:A->Prop)(re:A->D):AA:=λargs h _ K=>WJ ar pre re (Fv h args) K (CB h args)
def Bn{B:Type}(rc:D->Option B)(b:B)(d:D):Prop:=rc d=some b
def Quy{P:Program}{g:FuncId}(af:IN P g=true)
 {A B:Type}{ar:List PK->Option A}{ae:A->List PK}(av: ∀ps a,ar ps=some a->BN ps (ae a)){rc:D->Option B}{re:B->D}(ax: ∀d b,rc d=some b->Le d (re b))
 {pre:A->Prop}{f:A->B}
 (ai: ∀a,pre a-> ∀{C:AW} {S:A9} {vs:Array Value} {RR:Ending->World->Prop},Wf C S->EC S (ae a) vs.toList->
  (∀(v:Value) (Z:AW) (S1:A9) (d:D),Z.w=S.w->Z.ok=S.ok->(∀b,¬Z.M b)->Wf Z S1->Bn rc (f a) d->rd (TG Z S1) S1.hp d v->RR (.returned v) S1.w)->Calls P g vs S.w RR):
 AB P g (Lm ar pre λa=>re (f a)):=by
 intro args h nx K z;unfold Lm at z;cases hp:CB h args with
 |none=>rw[hp] at z;exact z.elim
 |some ps=>
  rw[hp] at z;simp only[WJ] at z;cases ha:ar ps with
  |none=>rw[ha] at z;exact z.elim
  |some a=>
   rw[ha] at z;simp only[Eo] at z;obtain⟨ah,hK⟩:=z;refine⟨Oa af,_,_,?_,hK⟩;intro C S vs RR hW aj ak am ab ag;have aw:=Qtx hW args ps vs.toList (λm hm=>aj m (Kv _ hm)) hp ab;have aq:=Qxy hW;refine ai a ah (S:=S.froz) aq ((av ps a ha).c aw) ?_;intro v Z S1 d G ad an Q hR ay;have G:Z.w=S.w:=G;have ad:Z.ok=S.froz.ok:=ad;have O: ∀b,b<S.w.heap.size->S1.w.heap[b]? =S.w.heap[b]? :=λb hb=>by
    have:=Q.keep b (by rw[G];exact hb) (an b)
    rw[G] at this;exact this
   have ac:S.w.heap.size<=S1.w.heap.size:=by have:=Q.size;rw[G] at this;exact this
   let S':A9:={S with ok:=λb=>S.ok b\/TG Z S1 b,w:=S1.w}
   have hp':B3 (λ_=>True) S S':=⟨λb hb=>⟨.inl hb,O b (hW.oks b hb)⟩,λo _ e' au=>⟨e',au,rfl,rfl,rfl⟩⟩;have aa: ∀b,TG Z S1 b->S.w.heap.size<=b:=λb hb=>by have:=hb.1;rw[G] at this;exact this
   have ao:Wf C S':=by
    refine⟨?_,?_,?_,D9 hW.size ac,?_,λb hb=> .inl (hW.ok0 b hb),?_,?_,?_,?_,hW.inj,hW.gl⟩
    .exact Q.os.trans (by rw[G];exact hW.os)
    .exact Q.tape.trans (by rw[G];exact hW.tape)
    .exact Q.output.trans (by rw[G];exact hW.output)
    .intro b hb hM;exact (O b (Gr hb hW.size)).trans (hW.keep b hb hM)
    .rintro b (hb|hb)
     .exact hW.ok1 b hb
     .exact .inr (.inl (D9 hW.size (aa b hb)))
    .rintro b (hb|hb)
     .exact Gr (hW.oks b hb) ac
     .exact hb.2.1
    .intro o e he;exact Ih hp' (λlc hl=>O lc.b (hW.loc o e lc he hl).1) _ (λ_ _=>trivial) (hW.obj o e he)
    .intro o e l he hl;obtain⟨h2,h3⟩:=hW.loc o e l he hl;refine⟨Gr h2 ac,?_⟩;cases hm:e.1 with
     |false=>
      rw[hm] at h3;simp only[Df,CK] at h3⊢;exact h3.imp (λh=> .inl h) id
     |true=>
      rw[hm] at h3;simp only[BM] at h3⊢;refine⟨?_,h3.2⟩;rintro (h|h)
      .exact h3.1 h
      .have:=aa _ h;omega
   refine ag v S' ao ?_ ⟨hp'.ok,λo _=>hp'.nm o trivial⟩ ?_
   .show S.h=_;funext m;simp[Br.appf,hget]
   .simp only[Aa];have h9:=ax _ _ hR _ _ _ ay;exact GS (λb hb=>⟨.inr hb,rfl⟩) _ _ h9
def rX{P:Program}(HM:P.follows .mixedOrders=true){V:Db}(hV:J5 P V){g:FuncId}{fn:Func}{c:Code}(hf:P.funcs[g]? =some fn)(hb:fn.body=some c)(G:Em fn.ntmps c=true)(z:IN P g=true)
 {A B:Type}{ar:List PK->Option A}{ae:A->List PK}(Z: ∀ps a,ar ps=some a->BN ps (ae a)){n:Nat}(hn: ∀a,(ae a).length=n)(aa:n<=fn.ntmps){rc:D->Option B}{re:B->D}(ac: ∀d b,rc d=some b->Le d (re b))
 {pre:A->Prop}{f:A->B}
 (hk: ∀a,pre a->Dc P V c (ZY P fn.results.toList (Bn rc (f a))) ⟨entry 0 (Dt 0 (ae a)),D7 0 (ae a),BJ (ae a)⟩):
 AB P g (Lm ar pre λa=>re (f a)):=
 Quy z Z ac (λa Q _ _ _ _ hW ab O=>PU HM hV hf hb G (by rw[hn];exact aa) (hk a Q) hW ab O)
end Go.Ae
