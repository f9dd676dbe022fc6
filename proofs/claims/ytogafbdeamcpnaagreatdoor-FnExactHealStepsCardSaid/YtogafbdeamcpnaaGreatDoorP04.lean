/- Lemmas. Conditions: none. -/
import Derived.Test.YtogafbdeamcpnaaGreatDoorP03
import Derived.Laws.BytesArg
set_option linter.all false
set_option maxHeartbeats 8000000
set_option maxRecDepth 100000
namespace Go.Ae
def lI{ok:Nat->Prop}{hp:Nat->Option Obj}: ∀(rows:List (List D)) (G:List Int) (L:List Value),GZ rows=some G->rdr ok hp 1 rows L->rows.length=G.length/\L.take G.length=G.map (Value.int .u8)
 |[],G,L,h,_=>by
  simp only[GZ,AI] at h;subst h;simp
 |row::r,G,L,h,Q=>by
  unfold GZ at h;split at h
  .rename_i z;cases z
  .rename_i n r' z;cases z;simp only[Df] at h;obtain⟨ms,h1,rfl⟩:=h;simp only[rdr,rdp,rd] at Q;obtain⟨_,⟨v,L1,rfl,rfl,_⟩,h3⟩:=Q;obtain⟨Z,O⟩:=lI r ms _ h1 h3;simp only[P8,GN] at O;refine⟨by simp[Z],?_⟩;simp[O]
  .cases h
section
variable {P:Program}{tm:List (Nat×AV)}{h:Nat->Option Aq}{nx:Nat}{o:Oper}{K:Ai}
def Yb{x y:Operand}{c:Call}(ho:o.op= .call c)(G:c.callee= .builtin .max)(z:c.args= #[x,y])(O:M3 K (Aw tm x) (Aw tm y)):BJ P tm h nx o K:=by
 have Z:x∈o.op.operands:=by rw[ho];simp[Op.operands,Call.operands,z,G]
 have aa:y∈o.op.operands:=by rw[ho];simp[Op.operands,Call.operands,z,G]
 cases hx:Aw tm x<;>rw[hx] at O<;>try exact O.elim
 rename_i d;cases hy:Aw tm y<;>rw[hy] at O<;>try (cases d<;>exact O.elim)
 rename_i d';cases d<;>cases d'<;>try exact O.elim
 rename_i k a k' b;simp only[M3] at O;obtain⟨rfl,O⟩:=O;refine⟨_,_,B5.pure (u:=[]) ?_,O⟩;intro C S ac hW _ Q;have h1:=Q x Z;have h2:=Q y aa;rw[hx] at h1;rw[hy] at h2;simp only[Aa,rd] at h1 h2;refine⟨.int k (max a b),?_,by simp only[Aa,rd]⟩;simp only[execOp,ho,resolve,G,z,Sem.run_bind,Sem.run_pure,Result.andThen_ok,invoke,builtin];have e:(if a<b then b else a)=max a b:=by omega
 simp[h1,h2,Builtin.max_,Builtin.max2,e]
def OJ{Q T:TypeId}{x:Operand}(ho:o.op= .convert Q T x)(Z:isStr (PJ (tI P T))=true)(z:Iw P h K (Aw tm x) (tI P Q)):BJ P tm h nx o K:=by
 cases hT:tI P T with
 |none=>rw[hT] at Z;cases Z
 |some ti=>
 rw[hT] at Z;simp only[PJ,isStr] at Z;cases hf:ti.kind<;>rw[hf] at Z<;>simp only[TK.isStr,CE] at Z;have hd:=V0 hT hf;cases hS:tI P Q with
 |none=>rw[hS] at z;exact z.elim
 |some si=>
 rw[hS] at z;simp only[Iw] at z;cases hg:si.kind<;>rw[hg] at z<;>try exact z.elim
 rename_i e;have hs:=Pt hS hg;simp only[dW] at z;cases hE:tI P e with
 |none=>rw[hE] at z;exact z.elim
 |some te=>
 rw[hE] at z;simp only[PJ] at z;cases hke:te.kind<;>rw[hke] at z<;>try exact z.elim
 rename_i ik;cases ik<;>try exact z.elim
 have he:=Uo hE hke;simp only[dV] at z;cases hx:Aw tm x<;>rw[hx] at z<;>try exact z.elim
 rename_i n;simp only[dU] at z;cases hn:h n with
 |none=>rw[hn] at z;exact z.elim
 |some O=>
 rw[hn] at z;obtain⟨mu,O⟩:=O;cases O<;>try exact z.elim
 rename_i T' k rows;simp only[QN] at z;obtain⟨rfl,z⟩:=z;cases hb:GZ rows with
 |none=>rw[hb] at z;exact z.elim
 |some ns=>
 rw[hb] at z;simp only[KP] at z;refine⟨_,_,B5.pure (u:=[n]) ?_,z⟩;intro C S ac hW hu ab;have h1:=ab x (by rw[ho];simp[Op.operands]);rw[hx] at h1;simp only[Aa] at h1;have aa:=(hu n (by simp)).trans hn;have hc:=h1.2 _ aa;have G:=hW.obj _ _ aa;refine⟨.string (GF ns),?_,by simp only[Aa,rd]⟩;have af:(convert Q T (ac.eval x)).run P S.w= .ok (.string (GF ns)) S.w:=by
  cases hl:S.ρ n with
  |none=>
   rw[hl] at hc G;simp only[Au] at G;simp only at hc;obtain rfl:=G.2;simp only[GZ,AI] at hb;subst hb;rw[hc,run_convert_bytes_string S.w Q T e none 0 0 hs he hd];simp[Conv.bytesToString,GF];rfl
  |some l=>
   rw[hl] at hc G;simp only[Au] at G;simp only[Ad.len] at hc;obtain⟨_,g1,vs,g2,g3,g4⟩:=G;obtain⟨e1,e2⟩:=lI rows ns _ hb g4;rw[hc,run_convert_bytes_string S.w Q T e _ _ _ hs he hd];have ad:(loadCells ⟨l.b,l.p,none⟩ rows.length).run P S.w= .ok (ns.map (Value.int .u8)).toArray S.w:=by
    rw[gK (w:=S.w) g2 (by omega),e1,e2]
   rw[run_bytesToString S.w ⟨l.b,l.p,none⟩ rows.length l.cap ns ad,foldl_push_bytes];simp[GF,ByteArray.empty,ByteArray.emptyWithCapacity]
   try rfl
 simp only[execOp,ho,Sem.run_bind,af];simp
def OL{G T:TypeId}{x:Operand}(O:o.op= .convert G T x)(z:Vw P h (PJ (tI P T)) (Aw tm x) K (tI P G)):BJ P tm h nx o K:=by
 unfold Vw at z;split at z
 .rename_i Q;exact OJ O Q z
 .exact Qwv O z
end
section
variable {P:Program}{tm:List (Nat×AV)}{h:Nat->Option Aq}{nx:Nat}{o:Oper}{K:Ai}
def Qalk{T:TypeId}(h:RQ P T=true): ∃z,P.underlying T=some (.interface z):=by
 unfold RQ at h;split at h
 .rename_i z G;exact⟨z,G⟩
 .cases h
def eD{w:World}{T:TypeId}{O:Array (String×TypeId)}(z:P.underlying T=some (.interface O))(d:Nat){v:Value}{b:Bool}(G:v= .nilIface/\b=true\/(∃t x,v= .iface t x)/\b=false):(Op.equalIn (d+1) T v .nilIface).run P w= .ok b w:=by
 rcases G with ⟨rfl,rfl⟩|⟨⟨t,x,rfl⟩,rfl⟩<;>simp[Op.equalIn,run_underlying z]
def TQ{op:BinOp}{T U:TypeId}{x y:Operand}{m:Nat}(ho:o.op= .binOp op T x y U)(hm:EX y=m+4)(hk:VD P T op (Aw tm x) K):BJ P tm h nx o K:=by
 obtain⟨hT,hk⟩:=hk;obtain⟨ms,hu⟩:=Qalk hT;have Q:op= .eql\/op= .neq:=by cases op<;>first|exact .inl rfl|exact .inr rfl|exact hk.elim
 have G:PU (decide (op= .neq)) K (Aw tm x):=by rcases Q with rfl|rfl<;>exact hk
 have hy:y= .const .nilIface:=by
  cases y<;>simp only[EX] at hm<;>try omega
  rename_i v;unfold Fu at hm;split at hm<;>first|omega|rfl
 clear hk;have O: ∀b:Bool,K (.im (.bool ((decide (op= .neq)) !=b))) {}->(∀(C:AX) (S:Ay) (v:Value),Wf C S->Aa S (Aw tm x) v->v= .nilIface/\b=true\/(∃t x,v= .iface t x)/\b=false)->BJ P tm h nx o K:=by
  intro b ac hv;refine⟨_,_,B5.pure (u:=[]) ?_,ac⟩;intro C S a hW _ aa;have Z:=hv C S _ hW (aa x (by rw[ho];simp[Op.operands]));refine⟨.bool (decide (op= .neq) !=b),?_,by simp only[Aa,rd]⟩;have ab:a.eval y= .nilIface:=by rw[hy];rfl
  have hq:(Op.equal T (a.eval x) .nilIface).run P S.w= .ok b S.w:=eD hu 9999 Z;subst hy;have hg:(eqGuard op T x (.const .nilIface) (a.eval x) .nilIface).run P S.w= .ok () S.w:=by
   clear hq;generalize a.eval x=v at Z⊢;rcases Z with ⟨rfl,_⟩|⟨⟨t,z,rfl⟩,_⟩<;>rcases Q with rfl|rfl<;>simp[eqGuard]
  have hb:(binOp op T (a.eval x) .nilIface).run P S.w= .ok (.bool (decide (op= .neq) !=b)) S.w:=by
   generalize a.eval x=v at Z hq⊢;rcases Q with rfl|rfl
   .have:binOp .eql T v .nilIface=(do pure (.bool (<-Op.equal T v .nilIface))):=by
     rcases Z with ⟨rfl,_⟩|⟨⟨t,z,rfl⟩,_⟩<;>rfl
    rw[this];simp[hq]
   .have:binOp .neq T v .nilIface=(do pure (.bool (!(<-Op.equal T v .nilIface)))):=by
     rcases Z with ⟨rfl,_⟩|⟨⟨t,z,rfl⟩,_⟩<;>rfl
    rw[this];simp[hq]
  simp only[execOp,ho,ab,Sem.run_bind,hg,Result.andThen_ok,hb,Sem.run_pure]
 cases hx:Aw tm x<;>rw[hx] at G<;>try exact G.elim
 rename_i d;cases d<;>try exact G.elim
 .refine O true G ?_;intro C S v _ hc;rw[hx] at hc;simp only[Aa,rd] at hc;exact .inl ⟨hc,rfl⟩
 .refine O false G ?_;intro C S v _ hc;rw[hx] at hc;simp only[Aa,rd] at hc;obtain⟨z,hz,_⟩:=hc;exact .inr ⟨⟨_,z,hz⟩,rfl⟩
def XY{T:TypeId}{x:Operand}(ho:o.op= .makeInterface T x)(z:Uf P T K (Aw tm x)):BJ P tm h nx o K:=by
 cases hx:Aw tm x<;>rw[hx] at z<;>try exact z.elim
 rename_i d;obtain⟨hc,z⟩:=z;refine⟨_,_,B5.pure (u:=[]) ?_,z⟩;intro C S a _ _ G;have Q:=G x (by rw[ho];simp[Op.operands]);rw[hx] at Q;simp only[Aa] at Q;refine⟨.iface T (a.eval x),?_,by simp only[Aa,rd];exact⟨_,rfl,Q⟩⟩
 have:(Instr.makeInterface T (a.eval x)).run P S.w= .ok (.iface T (a.eval x)) S.w:=by
  unfold Zx at hc;split at hc
  .cases hc
  .rename_i u Z hu;have O:(underlying T).run P S.w= .ok u S.w:=by simp[underlying,hu]
   unfold Instr.makeInterface;rw[Sem.run_bind,O];cases u<;>first|rfl|exact (Z _ rfl).elim
  .cases hc
 simp[execOp,ho,this]
def Qaln{T tk te:TypeId}{x:Operand}{kt:KT}{es:List (D×D)}(ho:o.op= .range T x)(hu:P.underlying T=some (.map tk te))(hx:Aw tm x= .im (.mp kt es))
 (hk:K (.it nx) {new:=[(nx,(true,.iter none es))],cnt:=1}):BJ P tm h nx o K:=by
 refine⟨_,_,B5.one (u:=[]) (ks:=[]) (.inl ⟨rfl,rfl⟩) ?_,hk⟩;intro C S a hW _ Q hnm aa;have O:=aa x (by rw[ho];simp[Op.operands]);rw[hx] at O;simp only[Aa,rd] at O;obtain⟨b,G,z,hv,g2,Z,g3,g4,g5,g6⟩:=O;have hg:(getObj b).run P S.w= .ok (.map G z) S.w:=Pq (w:=S.w) g3;have ab:(underlying T).run P S.w= .ok (.map tk te) S.w:=by simp[underlying,hu]
 refine⟨.pointer (some ⟨S.w.heap.size,0,none⟩),{S.w with heap:=S.w.heap.push (.mapIter (some b) z #[] z)},some ⟨S.w.heap.size,0,0⟩,.inl ?_,UH (w':={S.w with heap:=S.w.heap.push (.mapIter (some b) z #[] z)}) (ob:= .mapIter (some b) z #[] z) rfl rfl rfl rfl (Q rfl) (λn f hf=>hnm n f hf rfl),?_⟩
 .simp only[execOp,ho,hv,Instr.range,Sem.run_bind,ab,Result.andThen_ok,hg,Sem.run_pure];simp
 intro hp;constructor
 .simp only[Au];obtain⟨p1,p2⟩:=hp.ok b Z;refine⟨_,b,G,z,#[],rfl,p1,trivial,p2.trans g3,YO rfl,g5,g6,?_⟩;have h9:G.toList.filter (λe=> !(#[]:Array Nat).contains e.born)=G.toList:=by
   rw[Ze];intro e _;simp
  rw[h9];exact Kw hp.ok _ _ g4
 .simp only[Aa];exact⟨rfl,λe he=>⟨⟨S.w.heap.size,0,0⟩,by simp[Ay.one],rfl⟩⟩
end
def GI(P:Program)(V:CK):Prop:=
 (∀(tm:List (Nat×AV)) (h:Nat->Option Aq) (nx:Nat) (o:Oper) (c:Call) (f:Operand) (K:Ai),o.op= .call c->c.callee= .value f->
  (∀x,∀m∈(Aw tm x).nms,m<nx)->PR V (Du tm c.args.toList) h nx K (Aw tm f)->BJ P tm h nx o K)/\
 ∀(tm:List (Nat×AV)) (h:Nat->Option Aq) (nx:Nat) (o:Oper) (c:Call) (r:Operand) (m:String) (K:Ai),o.op= .call c->c.callee= .invoke r m->
  (∀x,∀m∈(Aw tm x).nms,m<nx)->M2 P V (Du tm c.args.toList) h nx K m (Aw tm r)->BJ P tm h nx o K
def sJ{tm:List (Nat×AV)}{c:Call}{x:AV}(h:Du tm c.args.toList=[x]): ∃a,c.args= #[a]/\Aw tm a=x:=by
 cases hc:c.args.toList with
 |nil=>rw[hc] at h;cases h
 |cons a r=>
  rw[hc] at h;cases r with
  |nil=>
   simp only[Du,dM,and_true] at h;exact⟨a,Zd.1 (by simpa using hc),h⟩
  |cons b r=>simp[Du] at h
def WU{tm:List (Nat×AV)}{c:Call}{x y:AV}(h:Du tm c.args.toList=[x,y]): ∃a b,c.args= #[a,b]/\Aw tm a=x/\Aw tm b=y:=by
 cases hc:c.args.toList with
 |nil=>rw[hc] at h;cases h
 |cons a r=>
  rw[hc] at h;cases r with
  |nil=>simp[Du] at h
  |cons b r=>
   cases r with
   |nil=>
    simp only[Du,dM,and_true] at h;exact⟨a,b,Zd.1 (by simpa using hc),h.1,h.2⟩
   |cons d r=>simp[Du] at h
section
variable {P:Program}{tm:List (Nat×AV)}{h:Nat->Option Aq}{nx:Nat}{o:Oper}{K:Ai}
def XU{op:BinOp}{T U:TypeId}{x y:Operand}(G:o.op= .binOp op T x y U)(z:YU P T h op (Aw tm x) (Aw tm y) K (EX y)):BJ P tm h nx o K:=by
 cases hn:EX y with
 |succ m=>
  rw[hn] at z;cases m with
  |zero=>exact ZO G hn (by decide) z
  |succ m=>
   cases m with
   |zero=>exact ZO G hn (by decide) z
   |succ m=>
    cases m with
    |zero=>exact ZO G hn (by decide) z
    |succ m=>exact TQ (m:=m) G hn z
 |zero=>
  rw[hn] at z;simp only[YU] at z;cases hx:Aw tm x<;>rw[hx] at z<;>try exact z.elim
  rename_i d;cases hy:Aw tm y<;>rw[hy] at z<;>try (cases d<;>exact z.elim)
  rename_i d';cases d<;>cases d'<;>try exact z.elim
  .simp only[cO] at z;exact TU G hx hy z
  .simp only[cO] at z;cases hT:tI P T with
   |none=>rw[hT] at z;exact z.elim
   |some ti=>
    rw[hT] at z;simp only[M1] at z;exact XV G (Ym hT z.1) hx hy z.2
  .exact Yc G hx hy z
  .exact OG G hx hy z
def Qrc{V:CK}(HV:GI P V){sq:Bool}(Z: ∀x,∀m∈(Aw tm x).nms,m<nx)(z:step P V sq tm h nx o.type K o.op):Wt P sq tm h nx o K:=by
 have ad: ∀x,∀m∈(Aw tm x).nms,m≠nx:=λx m hm=>Nat.ne_of_lt (Z x m hm)
 cases ho:o.op<;>rw[ho] at z<;>try exact z.elim
 case move x=>exact .inl (lA (.inl ho) z)
 case assign x=>exact .inl (Qabd ho z)
 case pick c a b=>exact .inl (TX ho z)
 case alloc T=>exact .inl (OH ho z)
 case box T x=>exact .inl (XW ho z (λm hm=>ad x m (Qvz _ m hm)))
 case build T ps=>exact .inl (OI ho z)
 case buildSlice T n ps=>exact .inl (Qp8 ho z ad)
 case load T x=>exact .inl (TV ho z)
 case store T x v=>exact .inl (OS ho z)
 case nilCheck x=>exact .inl (Qvi ho z)
 case binOp op T x y U=>
  simp only[step,Kj] at z;split at z
  .rename_i aa;simp only[unS,AS,N5] at aa;exact .inr ⟨aa.1,.inr (TT ho aa.2.1 z)⟩
  .exact .inl (XU ho z)
 case slice T x lo hi mx=>
  cases mx<;>try exact z.elim
  exact .inl (OR ho z)
 case range T x=>exact .inl (OQ (λ_ _ _ _ hu G z=>Qaln ho hu G z) ho z)
 case makeInterface T x=>exact .inl (XY ho z)
 case next x b=>
  cases b<;>try exact z.elim
  simp only[step] at z;cases sq with
  |false=>exact z.elim
  |true=>exact .inr ⟨rfl,.inr (TW ho z)⟩
 case entry x=>exact .inl (OM ho z)
 case makeChan T x=>exact .inl (Qvf ho z)
 case unOp op T x=>exact .inl (TY ho z)
 case convert S T x=>exact .inl (OL ho z)
 case makeFunc f first capt=>
  cases f<;>try exact z.elim
  exact .inl (XX (by simpa using z.1) ho z.2)
 case makeMap T r=>
  cases r<;>try exact z.elim
  exact .inl (Qyk ho z)
 case makeSlice T l c=>exact .inl (Qrx ho z)
 case fieldAddr T x f=>exact .inl (Qsq ho z)
 case indexAddr T x i=>exact .inl (Qsk ho z)
 case index T x i=>exact .inl (ON ho z)
 case lookup T m k ok=>exact .inl (Qabg ho z)
 case mapUpdate T m k v=>exact .inl (Qr9 ho z)
 case extract x i=>exact .inl (Qyh ho z)
 case call c=>
  simp only[step] at z;cases hc:c.callee<;>rw[hc] at z<;>try exact z.elim
  case value f=>exact .inl (HV.1 tm h nx o c f K ho hc Z z)
  case invoke r m=>exact .inl (HV.2 tm h nx o c r m K ho hc Z z)
  case builtin b=>
   simp only[pH] at z;unfold Y8 at z;split at z
   .rename_i x T G Q;obtain⟨a,O,ac⟩:=sJ G;have ab:c.argTypes= #[T]:=Zd.1 (by simpa using Q);cases x<;>simp only[K4] at z
    case ch q=>exact .inl (OO ho hc O ab ac z)
    all_goals first
     |exact z.elim
     |(rw[<-ac] at z;exact Ya ho hc O ab z)
   .rename_i s x T U G Q;obtain⟨a,b,O,rfl,rfl⟩:=WU G;exact .inl (Qab5 ho hc O (Zd.1 (by simpa using Q)) z)
   .rename_i m k T af G Q;obtain⟨a,b,O,rfl,rfl⟩:=WU G;exact .inl (Qabh ho hc O Q z)
   .rename_i d s T U G Q;obtain⟨a,b,O,rfl,rfl⟩:=WU G;exact .inl (TS ho hc O (Zd.1 (by simpa using Q)) z)
   .rename_i d T G Q;obtain⟨a,O,rfl⟩:=sJ G;exact .inl (OK ho hc O (Zd.1 (by simpa using Q)) z)
   .rename_i x y G;obtain⟨a,b,O,rfl,rfl⟩:=WU G;exact .inl (Yb ho hc O z)
   .exact z.elim
end
def PP(P:Program)(ops:Array Oper)(i:Nat)(a:Act)(w:World)(next:Act->World->Prop):Prop:=
 ∀(b:Frame) (k:List Item) (cs:List Frame) (rest:List Nat),∃a' w',next a' w'/\Steps P (lone (b.at a (.inRegion ops (i::rest)::k)) cs w) (lone (b.at a' (.inRegion ops rest::k)) cs w')
def Op.comm:Op->Bool
 | .send _ _| .recv _ _ _=>true
 |_=>false
def Jr(P:Program)(ops:Array Oper)(i:Nat)(a:Act)(w:World)(next:Act->World->Prop):Prop:=
 (∃o,ops[i]? =some o/\Region.wanted o (yielded ops a.tmps)=true/\o.wp P a w next (λ_ _ _=>False))\/((∀o,ops[i]? =some o->Go.Ae.Op.comm o.op=true)/\PP P ops i a w next)
def K6(P:Program)(ops:Array Oper)(Q:Act->World->Prop):List Nat->Act->World->Prop
 |[],a,w=>Q a w
 |i::z,a,w=>
  match ops[i]? with
  |none=>K6 P ops Q z a w
  |some o=>if Region.wanted o (yielded ops a.tmps) then Jr P ops i a w (K6 P ops Q z) else K6 P ops Q z (a.put o.dst undef) w
section
variable {P:Program}{ops:Array Oper}{i:Nat}{o:Oper}{a:Act}{w:World}{next:Act->World->Prop}
def Qx0(ho:ops[i]? =some o)(hw:Region.wanted o (yielded ops a.tmps)=true)(h:o.wp P a w next (λ_ _ _=>False)):PP P ops i a w next:=by
 intro b k cs rest;have Z:=stepG_op (P:=P) (b:=b) (a:=a) (k:=k) (cs:=cs) (w:=w) (rest:=rest) ho hw;have z: ∀v,(b.at a (.inRegion ops (i::rest)::k)).finish v=b.at (a.put o.dst v) (.inRegion ops rest::k):=λv=>by
  rw[Frame.finish_at,ho];rfl
 unfold Oper.wp Oper.upon at h;split at h
 .rename_i v Q G;refine⟨_,_,h,.one (step_lone_go ?_)⟩;rw[Z,<-z];simp[stepG.apply,G]
 .rename_i Q G;refine⟨_,_,h,.one (step_lone_go ?_)⟩;rw[Z,<-z];simp[stepG.apply,G]
 .rename_i d Q G;refine⟨_,_,h,.one (step_lone_go ?_)⟩;have h1:({b.at a (.inRegion ops (i::rest)::k) with defers:=d::a.defers}:Frame).finish undef=b.at ({a with defers:=d::a.defers}.put o.dst undef) (.inRegion ops rest::k):=by
   have h2:=Frame.finish_at b {a with defers:=d::a.defers} ops i rest k undef;rw[ho] at h2;exact h2
  rw[Z];simp only[stepG.apply,Sem.runT_eq,G,GStep.bare_after];exact CL (λfr=>GStep.go {frame:=fr,callers:=cs,status:= .running,dying:=none} Q) h1
 .rename_i f args Q G;obtain⟨e,w2,fr,hR,hs,_,hl⟩:=h (b.at a (.inRegion ops (i::rest)::k)::cs);have O:_root_.Go.step P (lone (b.at a (.inRegion ops (i::rest)::k)) cs w)= .next (lone (Frame.enter P f args .normal) (b.at a (.inRegion ops (i::rest)::k)::cs) Q):=
   step_lone_go (by rw[Z];simp[stepG.apply,G,Frame.at])
  cases e with
  |returned v=>
   refine⟨_,_,hR,.head O (hs.trans (.one ?_))⟩;rw[<-z];exact step_leave_returned hl
  |panicked c=>exact hR.elim
  |outgrown=>obtain⟨_,_,hR⟩:=hR;exact hR.elim
 .rename_i row args Q G;obtain⟨v,w2,hR,hs⟩:=h (b.at a (.inRegion ops (i::rest)::k)) cs;have O:_root_.Go.step P (lone (b.at a (.inRegion ops (i::rest)::k)) cs w)= .next (lone (Frame.ofRow P row args .normal) (b.at a (.inRegion ops (i::rest)::k)::cs) Q):=
   step_lone_go (by rw[Z];simp[stepG.apply,G,Frame.at])
  refine⟨_,_,hR,.head O ?_⟩;rw[<-z];exact hs
 .exact h.elim
 .exact h.elim
def Qab1(z:ops[i]? =some o)(G:Region.wanted o (yielded ops a.tmps)=true)(h:o.wp P a w next (λ_ _ _=>False)):Jr P ops i a w next:= .inl ⟨o,z,G,h⟩
def SH(h:Jr P ops i a w next):PP P ops i a w next:=by
 rcases h with ⟨o,z,G,O⟩|⟨_,h⟩
 .exact Qx0 z G O
 .exact h
end
def wM{P:Program}{ops:Array Oper}{Q:Act->World->Prop}: ∀(l:List Nat) (a:Act) (w:World),K6 P ops Q l a w-> ∀(b:Frame) (k:List Item) (cs:List Frame),
 ∃a' w',Q a' w'/\Steps P (lone (b.at a (.inRegion ops l::k)) cs w) (lone (b.at a' k) cs w')
 |[],a,w,h,b,k,cs=>⟨a,w,h,.one step_region_end⟩
 |i::rest,a,w,h,b,k,cs=>by
  simp only[K6] at h;cases ho:ops[i]? with
  |none=>
   rw[ho] at h;obtain⟨a',w',hq,G⟩:=wM rest a w h b k cs;have z:=step_op_skip (P:=P) (b:=b) (a:=a) (k:=k) (cs:=cs) (w:=w) (ops:=ops) (i:=i) (rest:=rest) (by simp[ho]);rw[ho] at z;exact⟨a',w',hq,.head z G⟩
  |some o=>
   rw[ho] at h;simp only at h;split at h
   .obtain⟨a1,w1,z,O⟩:=SH h b k cs rest;obtain⟨a',w',hq,G⟩:=wM rest a1 w1 z b k cs;exact⟨a',w',hq,O.trans G⟩
   .rename_i Z;obtain⟨a',w',hq,G⟩:=wM rest _ w h b k cs;have z:=step_op_skip (P:=P) (b:=b) (a:=a) (k:=k) (cs:=cs) (w:=w) (ops:=ops) (i:=i) (rest:=rest) (by simp[ho,Z]);rw[ho] at z;exact⟨a',w',hq,.head z G⟩
def O4{P:Program}{id:Nat}{ops:Array Oper}{Q:Exit->Act->World->Prop}{a:Act}{w:World}(h:K6 P ops (Q .normal) (List.range ops.size) a w):(Code.region id ops false).wp P Q a w:=by
 intro b k z;obtain⟨a',w',hq,G⟩:=wM _ a w h b k z;exact⟨.normal,a',w',hq,.head step_region G⟩
section
variable {P:Program}{ops:Array Oper}{i:Nat}{o:Oper}{a:Act}{w:World}{next:Act->World->Prop}
def Qjg{z:Frame}{cs:List Frame}{w Q:World}{cases:Array CommCase}{G:Bool}{O:CommShape}{g:Goroutine}
 (h:(stepG P true {frame:=z,callers:=cs,status:= .running,dying:=none} w).bare= .comm g cases G O Q):
 _root_.Go.step P (lone z cs w)=(communicate P {timers:= #[],alone:=none,slice:=none} #[{(default:Goroutine) with status:= .finished}] 0 g cases G O Q).1:=by
 generalize hs:stepG P true {frame:=z,callers:=cs,status:= .running,dying:=none} w=s at h;cases s<;>simp at h;obtain⟨rfl,rfl,rfl,rfl,rfl⟩:=h;rw[_root_.Go.step,stepT,move_lone];simp[runT,lone,Array.swapAt!,hs]
def Qon(c:Nat)(s:Bool):partners #[{(default:Goroutine) with status:= .finished}] c s=[]:=by
 simp[partners]
def Qp5{Q:Frame}{cs:List Frame}{w Z:World}{c cap s r:Nat}{G:Array Value}{tm:Bool}{v z:Value}
 (h:(stepG P true {frame:=Q,callers:=cs,status:= .running,dying:=none} w).bare= .comm {frame:=Q,callers:=cs,status:= .running,dying:=none} #[{chan:= .chan (some c),send:=some v,zero:=z}] true .send Z)
 (hc:Z.heap[c]? =some (.chan cap G false s r tm))(O:G.size<cap):
 _root_.Go.step P (lone Q cs w)= .next (lone (Q.finish undef) cs {Z with heap:=Z.heap.setIfInBounds c (.chan cap (G.push v) false (s+1) r tm)}):=by
 rw[Qjg h];simp[communicate,ways,hc,Qon,O,choose,Sem.run,Question.forced,bind,Sem.bind,pure,Goroutine.finishComm,commResult,lone]
def Qp7{Q:Frame}{cs:List Frame}{w Z:World}{c cap s r:Nat}{G:Array Value}{tm cl:Bool}{z:Value}
 (h:(stepG P true {frame:=Q,callers:=cs,status:= .running,dying:=none} w).bare= .comm {frame:=Q,callers:=cs,status:= .running,dying:=none} #[{chan:= .chan (some c),send:=none,zero:=z}] true (.recv false) Z)
 (hc:Z.heap[c]? =some (.chan cap G cl s r tm))(O:0<G.size):
 _root_.Go.step P (lone Q cs w)= .next (lone (Q.finish (G.getD 0 undef)) cs {Z with heap:=Z.heap.setIfInBounds c (.chan cap (G.extract 1 G.size) cl s (r+1) tm)}):=by
 rw[Qjg h];simp[communicate,ways,hc,Qon,O,choose,Sem.run,Question.forced,bind,Sem.bind,pure,Goroutine.finishComm,commResult,lone]
def Ov{ch x:Operand}(ho:ops[i]? =some o)(hw:Region.wanted o (yielded ops a.tmps)=true)(aa:o.op= .send ch x){c cap s r:Nat}{G:Array Value}{tm:Bool}(ab:a.eval ch= .chan (some c))
 (hc:w.heap[c]? =some (.chan cap G false s r tm))(O:G.size<cap)(hn:next (a.put o.dst undef) {w with heap:=w.heap.setIfInBounds c (.chan cap (G.push (a.eval x)) false (s+1) r tm)}):Jr P ops i a w next:=by
 refine .inr ⟨λo' Z=>by rw[ho] at Z;obtain rfl:=AE Z;rw[aa];rfl,?_⟩;intro b k cs rest;have hg:=stepG_op (P:=P) (b:=b) (a:=a) (k:=k) (cs:=cs) (w:=w) (rest:=rest) ho hw;have Q: ∀v,(b.at a (.inRegion ops (i::rest)::k)).finish v=b.at (a.put o.dst v) (.inRegion ops rest::k):=λv=>by
  rw[Frame.finish_at,ho];rfl
 refine⟨_,_,hn,.one ?_⟩;rw[<-Q];have hr:(execOp a.eval o).run P w= .ok (.comm #[{chan:= .chan (some c),send:=some (a.eval x),zero:= .tuple #[]}] true .send) w:=by
  simp[execOp,aa,ab]
 exact Qp5 (z:= .tuple #[]) (v:=a.eval x) (by rw[hg];simp[stepG.apply,hr,Frame.at]) hc O
def Ou{ch:Operand}{T e:TypeId}{d:ChanDir}{z:Value}(ho:ops[i]? =some o)(hw:Region.wanted o (yielded ops a.tmps)=true)(aa:o.op= .recv T ch false)(hT:P.underlying T=some (.chan d e))(hz:(zeroValue e).run P w= .ok z w)
 {c cap s r:Nat}{G:Array Value}{tm cl:Bool}(ab:a.eval ch= .chan (some c))
 (hc:w.heap[c]? =some (.chan cap G cl s r tm))(O:0<G.size)(hn:next (a.put o.dst (G.getD 0 undef)) {w with heap:=w.heap.setIfInBounds c (.chan cap (G.extract 1 G.size) cl s (r+1) tm)}):Jr P ops i a w next:=by
 refine .inr ⟨λo' Z=>by rw[ho] at Z;obtain rfl:=AE Z;rw[aa];rfl,?_⟩;intro b k cs rest;have hg:=stepG_op (P:=P) (b:=b) (a:=a) (k:=k) (cs:=cs) (w:=w) (rest:=rest) ho hw;have Q: ∀v,(b.at a (.inRegion ops (i::rest)::k)).finish v=b.at (a.put o.dst v) (.inRegion ops rest::k):=λv=>by
  rw[Frame.finish_at,ho];rfl
 refine⟨_,_,hn,.one ?_⟩;rw[<-Q];have hu:(underlying T).run P w= .ok (.chan d e) w:=by simp[underlying,hT]
 have hr:(execOp a.eval o).run P w= .ok (.comm #[{chan:= .chan (some c),send:=none,zero:=z}] true (.recv false)) w:=by
  simp[execOp,aa,ab,hu,hz]
 exact Qp7 (z:=z) (by rw[hg];simp[stepG.apply,hr,Frame.at]) hc O
end
structure C5(C:AX)(N:Nat)(s:Aj)(S:Ay)(a:Act):Prop where
 wf:Wf C S
 h: ∀n,S.h n=hget s.h n
 tm: ∀t,Aa S (AD s.tm t) (a.eval (.tmp t))
 nmT: ∀t,∀m∈(AD s.tm t).nms,m<s.nx
 nmH: ∀n e,hget s.h n=some e->n<s.nx/\ ∀m∈e.2.nms,m<s.nx
 size:a.tmps.size=N
 defers:a.defers=C.ds
 n0:C.n0<=s.nx
 pre:C.Pre S
def Qy2{C:AX}{S S':Ay}{nx cnt:Nat}(h:C.Pre S)(hn:C.n0<=nx)(hp:Bx (λm=> ¬Fr nx cnt m) S S'):C.Pre S':=by
 intro o ho e' z;obtain⟨e,Z,h2,h3,h4⟩:=hp.nm o (λhf=>by have:=hf.1;omega) e' z;obtain⟨G,g1,g2,O,Q⟩:=h o ho e Z;exact⟨G,g1,h2.trans g2,h3.trans O,h4.trans Q⟩
def B9(C:AX)(N:Nat)(s:Aj)(a:Act)(w:World):Prop:= ∃S,S.w=w/\C5 C N s S a
def kF(S:Ay)(tm:List (Nat×AV))(f:FuncId):Aa S (Aw tm (.func f)) (.func (.func f) #[] #[]):=by
 simp only[Aw];cases hb:Nat.blt f 1000000000 with
 |true=>simp only[Ca,Aa,rd,rdl];exact⟨#[],#[],by rw[Wm (by simpa using hb)],rfl,rfl⟩
 |false=>simp only[B8,Aa]
def Qb{C:AX}{N:Nat}{s:Aj}{S:Ay}{a:Act}(h:C5 C N s S a)(x:Operand):Aa S (Aw s.tm x) (a.eval x):=by
 cases x with
 |tmp t=>exact h.tm t
 |const v=>exact aT S v
 |global g=>simp only[Aw,Aa,rd,Act.eval]
 |func f=>exact kF S s.tm f
def KY{tm:List (Nat×AV)}{nx:Nat}(h: ∀t,∀m∈(AD tm t).nms,m<nx)(x:Operand): ∀m∈(Aw tm x).nms,m<nx:=by
 cases x with
 |tmp t=>exact h t
 |const v=>
  intro m z;simp only[Aw] at z;unfold kD at z;split at z<;>simp[AV.nms] at z
 |global g=>intro m z;simp[Aw,AV.nms] at z
 |func f=>intro m z;simp only[Aw] at z;cases hb:Nat.blt f 1000000000<;>rw[hb] at z<;>simp[AV.nms] at z
mutual
def pZ{n:Nat}: ∀(x:AV),x.bel n=true-> ∀m∈x.nms,m<n
 | .any,_=>by simp[AV.nms]
 | .im _,_=>by simp[AV.nms]
 | .agg z,h=>by simpa only[AV.nms] using YD z (by simpa only[AV.bel] using h)
 | .tup z,h=>by simpa only[AV.nms] using YD z (by simpa only[AV.bel] using h)
 | .ptr o _,h=>by simpa[AV.nms,AV.bel] using h
 | .eptr o _ _,h=>by simpa[AV.nms,AV.bel] using h
 | .own o,h=>by simpa[AV.nms,AV.bel] using h
 | .mp o,h=>by simpa[AV.nms,AV.bel] using h
 | .ch o,h=>by simpa[AV.nms,AV.bel] using h
 | .it o,h=>by simpa[AV.nms,AV.bel] using h
 | .osl o _ _,h=>by simpa[AV.nms,AV.bel] using h
 | .clo _ a c,h=>by
   simp only[AV.bel,AS] at h;simp only[AV.nms,Br];rintro m (G|G)
   .exact YD a h.1 m G
   .exact YD c h.2 m G
def YD{n:Nat}: ∀(xs:List AV),Av n xs=true-> ∀m∈AC xs,m<n
 |[],_=>by simp[AC]
 |x::xs,h=>by
  simp only[Av,AS] at h;simp only[AC,Br];rintro m (z|z)
  .exact pZ x h.1 m z
  .exact YD xs h.2 m z
end
def kO{n:Nat}: ∀(z:List (List AV)),z.all (Av n)=true-> ∀m∈B2 z,m<n
 |[],_=>by simp[B2]
 |r::z,h=>by
  simp only[Je,AS] at h;simp only[B2,Br];rintro m (G|G)
  .exact YD r h.1 m G
  .exact kO z h.2 m G
def bZ{n:Nat}: ∀(hs:Ap),Ac n hs=true-> ∀o e,hget hs o=some e-> ∀m∈e.2.nms,m<n
 |[],_,o,e,h=>by simp[hget] at h
 |(q,O,G)::hs,hb,o,e,h=>by
  have z:(∀m∈G.nms,m<n)/\Ac n hs=true:=by
   cases G<;>simp only[Ac,AS] at hb
   .exact⟨YD _ hb.1,hb.2⟩
   .exact⟨by simp[Ad.nms],hb⟩
   .exact⟨kO _ hb.1,hb.2⟩
   .exact⟨by simp[Ad.nms],hb⟩
   .exact⟨by simp[Ad.nms],hb⟩
   .exact⟨by simp[Ad.nms],hb⟩
   .exact⟨by simp[Ad.nms],hb⟩
  simp only[hget] at h;cases hq:q==o<;>rw[hq] at h
  .exact bZ hs z.2 o e (by simpa using h)
  .simp only[Ca,AI] at h;subst h;exact z.1
def Qlm{ks:List Nat}{nx cnt:Nat}: ∀(hs:Ap),G1 ks nx cnt hs=true-> ∀o e,hget hs o=some e->(nx<=o/\o<nx+cnt)\/(o∈ks/\o<nx)
 |[],_,o,e,h=>by simp[hget] at h
 |(q,x)::hs,hb,o,e,h=>by
  simp only[G1,AS] at hb;simp only[hget] at h;cases hq:q==o<;>rw[hq] at h
  .exact Qlm hs hb.2 o e (by simpa using h)
  .have z:q=o:=by simpa using hq
   subst z
   have:=hb.1
   simp only[Jy,Hp,AS,GU,El,Gi] at this;exact this
def vZ(a b:Ap)(n:Nat):hget (a++b) n=match hget a n with|some e=>some e|none=>hget b n:=by
 induction a with
 |nil=>rfl
 |cons x a ih=>
  obtain⟨q,e⟩:=x;simp only[CX,hget];cases q==n<;>simp[ih]
def wB(ks:List Nat)(n:Nat): ∀(a:Ap),hget (Bg a ks) n=bif ks.contains n then none else hget a n
 |[]=>by simp[Bg,hget]
 |(q,e)::a=>by
  simp only[Bg];have ih:=wB ks n a;cases hq:ks.contains q
  .simp only[B8,hget,ih];cases hqn:q==n
   .simp
   .have:q=n:=by simpa using hqn
    subst this;have z:q∉ks:=by simpa using hq
    simp[z]
  .simp only[Ca,ih,hget];cases hqn:q==n
   .simp
   .have:q=n:=by simpa using hqn
    subst this;have z:q∈ks:=by simpa using hq
    simp[z]
def uN{a:Act}{dst:Option Nat}{v:Value}{t:Nat}(hd: ∀d,dst=some d->d<a.tmps.size):
 (a.put dst v).eval (.tmp t)=if dst=some t then v else a.eval (.tmp t):=by
 cases dst with
 |none=>simp[Act.put]
 |some d=>
  have:=hd d rfl
  simp only[Act.put,Act.eval,Ho,dB,AI];by_cases h:d=t
  .subst h;simp[this]
  .simp[h]
def UC{s:Aj}{dst:Option Nat}{x:AV}{t:Nat}:AD (s.put dst x).tm t=if dst=some t then x else AD s.tm t:=by
 cases dst with
 |none=>simp[Aj.put]
 |some d=>
  simp only[Aj.put,AD,AI];by_cases h:d=t
  .subst h;simp
  .have:(d==t)=false:=by simpa using h
   simp[this,h]
def Qxs{C:AX}{N:Nat}{s:Aj}{S S':Ay}{a:Act}{dst:Option Nat}{r:AV}{E:Bk}{v:Value}(hc:C5 C N s S a)(Z:E.ok s.nx r=true)(hd: ∀d,dst=some d->d<N)
 (hW:Wf C S')(hh:S'.h=E.appf S.h)(hp:Bx (λm=> ¬Fr s.nx E.cnt m) S S')(hv:Aa S' r v):C5 C N (s.app dst r E) S' (a.put dst v):=by
 simp only[Bk.ok,AS] at Z;obtain⟨ad,af,ag⟩:=Z;have G: ∀n,hget (E.new++Bg s.h E.kill) n=E.appf (hget s.h) n:=by
  intro n;rw[vZ,wB];simp only[Bk.appf];cases hget E.new n<;>rfl
 have ac:S.h=hget s.h:=funext hc.h;have O:(s.app dst r E).nx=s.nx+E.cnt:=by cases dst<;>rfl
 have aa:(s.app dst r E).h=E.new++Bg s.h E.kill:=by cases dst<;>rfl
 have ab: ∀t,AD (s.app dst r E).tm t=if dst=some t then r else AD s.tm t:=λt=>UC
 refine⟨hW,?_,?_,?_,?_,?_,?_,?_,Qy2 hc.pre hc.n0 hp⟩
 .intro n;rw[aa,G,hh,ac]
 .intro t;rw[ab,uN (λd h=>by rw[hc.size];exact hd d h)];split
  .exact hv
  .refine H9 hp _ _ ?_ (hc.tm t);intro m Q ah
   have:=hc.nmT t m Q
   have:=ah.1
   omega
 .intro t;rw[ab,O];split
  .exact pZ r ad
  .intro m Q;have:=hc.nmT t m Q;omega
 .intro n e z;rw[aa,vZ] at z;rw[O];cases hn:hget E.new n with
  |some e'=>
   rw[hn] at z;obtain rfl:=AE z;refine⟨?_,bZ _ af n _ hn⟩;rcases Qlm _ ag n _ hn with h|h<;>omega
  |none=>
   rw[hn] at z;simp only[wB] at z;cases hk:E.kill.contains n<;>rw[hk] at z
   .obtain⟨h1,h2⟩:=hc.nmH n e (by simpa using z);exact⟨by omega,λm Q=>by have:=h2 m Q;omega⟩
   .simp at z
 .cases dst<;>simp[Act.put,hc.size]
 .cases dst<;>simp[Act.put,hc.defers]
 .rw[O];exact Dt hc.n0 (Nat.le_add_right _ _)
def Qty{P:Program}{V:CK}(HV:GI P V){C:AX}{N:Nat}{s:Aj}{a:Act}{w:World}{ops:Array Oper}{i:Nat}{o:Oper}{go:Aj->Prop}(aq:ops[i]? =some o)(hw:Region.wanted o (yielded ops a.tmps)=true)(hd: ∀d,o.dst=some d->d<N)
 (G:IR P V o.dst o.op o.type go s)(hc:B9 C N s a w){next:Act->World->Prop}(hn: ∀s' a' w',go s'->B9 C N s' a' w'->next a' w'):Jr P ops i a w next:=by
 obtain⟨S,rfl,hc⟩:=hc;have be:S.h=hget s.h:=funext hc.h;unfold IR at G;have ay:step P V true s.tm (hget s.h) s.nx o.type (CR go s o.dst) o.op->Jr P ops i a S.w next:=by
  intro G;refine Qab1 aq hw ?_;have ak: ∀n,s.nx<=n->S.h n=none:=by
   intro n ai;cases hn:S.h n with
   |none=>rfl
   |some e=>
    have:=(hc.nmH n e (by rw[<-hc.h n];exact hn)).1
    omega
  have am: ∀n e,S.h n=some e-> ∀m∈e.2.nms,m<s.nx:=λn e he m hm=>(hc.nmH n e (by rw[<-hc.h n];exact he)).2 m hm
  rcases Qrc HV (KY hc.nmT) G with ⟨r,E,ah,ac,af⟩|⟨_,⟨u,av⟩|a9⟩
  .refine ah C S a next _ hc.wf (λn _=>hc.h n) (λn ai=>ak n ai.1) ?_ (λx _=>Qb hc x) ?_
   .intro n e he m hm ai
    have:=am n e he m hm
    have:=ai.1
    omega
   .intro v S' hW hh hp hv;exact hn _ _ _ af ⟨S',rfl,Qxs hc ac hd hW hh hp hv⟩
  .exact absurd (av C S a hc.wf (λn _=>hc.h n) (λx _=>Qb hc x)) id
  .refine a9 C S a next _ hc.wf hc.h ak am (λx _=>Qb hc x) ?_
   intro r E v S' hK hW hh hp hv;obtain⟨ac,af⟩:=hK;exact hn _ _ _ af ⟨S',rfl,Qxs hc ac hd hW hh hp hv⟩
 have chan: ∀(q cap:Nat) (bu ad:List D) (l:Fj) (Z:Array Value) (Q O:Nat) (r:AV) (v:Value),S.h q=some (true,.chan bu cap)->S.ρ q=some l->rdl S.ok S.hp ad Z.toList->
  (∀S':Ay,(∀b,S.ok b->S'.ok b/\S'.hp b=S.hp b)->Aa S' r v)->
  CR go s o.dst r {use:=[q],kill:=[q],new:=[(q,(true,.chan ad cap))]}->next (a.put o.dst v) {S.w with heap:=S.w.heap.setIfInBounds l.b (.chan cap Z false Q O false)}:=by
  intro q cap bu ad l Z Q O r v hS hl hb hv hK
  let w':World:={S.w with heap:=S.w.heap.setIfInBounds l.b (.chan cap Z false Q O false)}
  have an:IZ S q (.chan ad cap) (some l) [q] w':=cD hc.wf hS hl (w':=w') (ob:= .chan cap Z false Q O false) rfl rfl rfl rfl rfl rfl;have aj:=bQ hc.wf an;have ax:Au (S.one q (.chan ad cap) (some l) [q] w') (some l) (.chan ad cap):=by
   simp only[Au];exact⟨l,Z,Q,O,rfl,cL (hc.wf.loc q _ l hS hl).1 rfl,Ky aj.ok _ _ hb⟩
  have az:=iQ hc.wf an ax;obtain⟨ac,af⟩:=hK;refine hn _ _ _ af ⟨_,rfl,Qxs hc ac hd az ?_ ⟨aj.ok,λn hX=>aj.nm n (.inl (by rw[hS];simp))⟩ (hv _ aj.ok)⟩;funext n;simp only[Ay.one,Bk.appf,Go.Ae.hget];by_cases au:n=q
  .subst au;simp
  .have:(q==n)=false:=by rw[HL];exact λh=>au h.symm
   simp[this,au]
 unfold DI at G;split at G
 .rename_i c x ah;unfold Km at G;split at G
  .rename_i q d ao bb;have h1:=Qb hc c;have h2:=Qb hc x;rw[ao] at h1;rw[bb] at h2;cases hq:hget s.h q with
   |none=>rw[hq] at G;exact G.elim
   |some ab=>
    obtain⟨mu,ab⟩:=ab;rw[hq] at G;cases mu<;>cases ab<;>try exact G.elim
    rename_i bu cap;simp only[fT] at G;obtain⟨a8,G⟩:=G;have hS:=(hc.h q).trans hq;simp only[Aa] at h1 h2;obtain⟨l,hl,hv⟩:=h1.2 _ hS;have ag:=hc.wf.obj _ _ hS;simp only[Au] at ag;obtain⟨lc,aa,Q,O,g1,g2,g3⟩:=ag;rw[hl] at g1;obtain rfl:=AE g1;have aw:=cC _ _ g3;simp only[E8] at aw;refine Ov aq hw ah hv g2 (by omega) ?_;refine chan q cap bu (bu++[d]) l (aa.push (a.eval x)) (Q+1) O .any undef hS hl ?_ (λ_ _=>by simp only[Aa]) G;rw[yR]
    have: ∀(ds:List D) (vs:List Value),rdl S.ok S.hp ds vs->rdl S.ok S.hp (ds++[d]) (vs++[a.eval x]):=by
     intro ds;induction ds with
     |nil=>intro vs h;simp only[rdl] at h;subst h;simp only[GM,rdl];exact⟨_,_,rfl,h2,rfl⟩
     |cons y ys ih=>
      intro vs h;simp only[rdl] at h;obtain⟨v,r,rfl,k1,k2⟩:=h;simp only[CX,rdl];exact⟨_,_,rfl,k1,ih r k2⟩
    exact this _ _ g3
  .exact G.elim
 .rename_i T c ah;unfold Kl at G;cases hce:UN P T with
  |none=>rw[hce] at G;exact G.elim
  |some e=>
  rw[hce] at G;simp only[zV] at G;cases hE:tI P e with
  |none=>rw[hE] at G;exact G.elim
  |some te=>
  rw[hE] at G;simp only[Bc,rvE] at G;obtain⟨bc,hz,G⟩:=G;obtain⟨z,bd,_⟩:=bG hE bc hz;obtain⟨dr,hu⟩:=Qpi hce;have h1:=Qb hc c;cases ao:Aw s.tm c<;>rw[ao] at G h1<;>try exact G.elim
  rename_i q;simp only[rvC] at G;cases hq:hget s.h q with
  |none=>rw[hq] at G;exact G.elim
  |some ab=>
   obtain⟨mu,ab⟩:=ab;rw[hq] at G;cases mu<;>cases ab<;>try exact G.elim
   rename_i bu cap;simp only[fR] at G;obtain⟨a0,G⟩:=G;obtain⟨d,r,rfl⟩:=Zek a0;have G:=G d r rfl;have hS:=(hc.h q).trans hq;simp only[Aa] at h1;obtain⟨l,hl,hv⟩:=h1.2 _ hS;have ag:=hc.wf.obj _ _ hS;simp only[Au] at ag;obtain⟨lc,aa,Q,O,g1,g2,g3⟩:=ag;rw[hl] at g1;obtain rfl:=AE g1;simp only[rdl] at g3;obtain⟨v0,vr,k1,k2,k3⟩:=g3;have ba:0<aa.size:=by rw[<-E8,k1];simp
   have h0:aa.getD 0 undef=v0:=by
    have:aa.toList[0]? =some v0:=by rw[k1];rfl
    rw[Ho,<-G4,this];rfl
   have hx:(aa.extract 1 aa.size).toList=vr:=by
    rw[ZeX,k1];simp only[List.extract,P8,GN];apply DB;rw[<-E8,k1];simp
   refine Ou aq hw ah hu (bd _) hv g2 ba ?_;rw[h0];refine chan q cap (d::r) r l _ Q (O+1) (.im d) v0 hS hl (by rw[hx];exact k3) (λS' ac=> ?_) G;simp only[Aa];exact Gs ac _ _ k2
 .exact ay G
def KS{C:AX}{N:Nat}{s:Aj}{a:Act}{w:World}(hc:B9 C N s a w){dst:Option Nat}(hd: ∀d,dst=some d->d<N){x:AV}{v:Value}(hx:x.nms=[])(Z: ∀S,Aa S x v):B9 C N (s.put dst x) (a.put dst v) w:=by
 obtain⟨S,rfl,hc⟩:=hc;have O:(s.put dst x).h=s.h:=by cases dst<;>rfl
 have z:(s.put dst x).nx=s.nx:=by cases dst<;>rfl
 refine⟨S,rfl,hc.wf,λn=>by rw[O];exact hc.h n,?_,?_,?_,?_,?_,by rw[z];exact hc.n0,hc.pre⟩
 .intro t;rw[UC,uN (λd h=>by rw[hc.size];exact hd d h)];split
  .exact Z S
  .exact hc.tm t
 .intro t;rw[UC,z];split
  .rw[hx];intro m Q;cases Q
  .exact hc.nmT t
 .intro n e G;rw[O] at G;rw[z];exact hc.nmH n e G
 .cases dst<;>simp[Act.put,hc.size]
 .cases dst<;>simp[Act.put,hc.defers]
def Jb(N:Nat):List Oper->Bool
 |[]=>true
 |o::r=>(match o.dst with|some d=>Nat.blt d N|none=>true) && Jb N r
def Qqk{C:AX}{N:Nat}{s:Aj}{S:Ay}{a:Act}(hc:C5 C N s S a){ops:Array Oper}{j t:Nat}(G:(ops[j]?).bind (·.dst)=some t){b:Bool}(hb:AD s.tm t= .im (.bool b)):
 yielded ops a.tmps j=some b:=by
 have z:=hc.tm t;rw[hb] at z;simp only[Aa,rd,Act.eval] at z;unfold yielded;rw[G];simp only[EN];rw[Ho] at z;cases hq:a.tmps[t]? with
 |none=>rw[hq] at z;simp[undef] at z
 |some v=>rw[hq] at z;simp at z;rw[z]
def Qpr{P:Program}{V:CK}(HV:GI P V){C:AX}{N:Nat}{ops:Array Oper}{K:Aj->Prop}{Q:Exit->Act->World->Prop}(hQ: ∀s a w,K s->B9 C N s a w->Q .normal a w):
 ∀(rest more:List Oper) (i:Nat),ops.toList.drop i=rest++more->Jb N rest=true-> ∀(s:Aj) (a:Act) (w:World),Ki P V (FJ ops rest) K s->B9 C N s a w->K6 P ops (Q .normal) (List.range' i rest.length) a w:=by
 intro rest more;induction rest with
 |nil=>
  intro i _ _ s a w G hc;simp only[FJ,Ki] at G;simpa[K6] using hQ s a w G hc
 |cons o rest ih=>
  intro i hi hd s a w G hc;simp only[Jb,AS] at hd;have ad:ops[i]? =some o:=by
   have:(ops.toList.drop i)[0]? =some o:=by rw[hi];rfl
   simpa using this
  have aj:ops.toList.drop (i+1)=rest++more:=by
   have:(ops.toList.drop i).drop 1=rest++more:=by rw[hi];rfl
   rwa [Ey] at this
  have Z: ∀d,o.dst=some d->d<N:=by
   intro d ai
   have:=hd.1
   rw[ai] at this;simpa using this
  have O: ∀s' a' w',Ki P V (FJ ops rest) K s'->B9 C N s' a' w'->K6 P ops (Q .normal) (List.range' (i+1) rest.length) a' w':=λs' a' w' h1 h2=>ih (i+1) aj hd.2 s' a' w' h1 h2
  simp only[CY,List.range'_succ,K6,ad];simp only[FJ,Ki] at G;cases hg:o.guard with
  |none=>
   rw[hg] at G;simp only[Wr,tP] at G;rw[Ao (by simp[Region.wanted,hg])];exact Qty HV ad (by simp[Region.wanted,hg]) Z G hc O
  |some g=>
   obtain⟨j,aa⟩:=g;rw[hg] at G;simp only[Wr,tP] at G;cases ht:(ops[j]?).bind (·.dst) with
   |none=>rw[ht] at G;exact G.elim
   |some t=>
    rw[ht] at G;simp only[Xe] at G;cases hb:AD s.tm t<;>rw[hb] at G<;>try exact G.elim
    rename_i d;cases d<;>try exact G.elim
    case tup cs=>
     cases cs with
     |cons _ _=>exact G.elim
     |nil=>
      simp only[VT,Mx] at G;have hy:yielded ops a.tmps j=none:=by
       obtain⟨S,_,z⟩:=hc;have h1:=z.tm t;rw[hb] at h1;simp only[Aa,rd,rdl,Act.eval] at h1;obtain⟨vs,h1,h2⟩:=h1;unfold yielded;rw[ht];simp only[EN];rw[Ho] at h1;cases hq:a.tmps[t]? with
       |none=>rfl
       |some v=>rw[hq] at h1;simp at h1;rw[h1]
      rw[Ag (by simp[Region.wanted,hg,hy])];exact O _ _ _ G (KS hc Z rfl (λS=>by simp only[Aa,rd,rdl];exact⟨#[],rfl,rfl⟩))
    case bool b=>
    simp only[VT] at G;obtain⟨S,ag,z⟩:=hc;have hy:=Qqk z ht hb;have ac: ∀b':Bool,b=b'->B9 C N (s.put (some t) (.im (.bool b'))) a w:=by
     intro b' ah;subst ah;refine⟨S,ag,z.wf,z.h,?_,?_,z.nmH,z.size,z.defers,z.n0,z.pre⟩
     .intro t';rw[UC];split
      .rename_i h;cases h;have:=z.tm t;rwa [hb] at this
      .exact z.tm t'
     .intro t';rw[UC];split
      .intro m hm;simp[AV.nms] at hm
      .exact z.nmT t'
    by_cases ab:b=aa
    .rw[Ao (by simp[Region.wanted,hg,hy,ab])];exact Qty HV ad (by simp[Region.wanted,hg,hy,ab]) Z (G.1 ab) (ac aa ab) O
    .rw[Ag (by simp[Region.wanted,hg,hy,ab])];have af:b= !aa:=by cases b<;>cases aa<;>simp_all
     have h2:=G.2 af;simp only[Mx] at h2;exact O _ _ _ h2 (KS (ac _ af) Z rfl (λS=>by simp only[Aa,rd,rdl];exact⟨#[],rfl,rfl⟩))
def Qt0{P:Program}{V:CK}(z:GI P V){C:AX}{N id:Nat}{ops:Array Oper}{K:Aj->Prop}{Q:Exit->Act->World->Prop}(G: ∀s a w,K s->B9 C N s a w->Q .normal a w)
 (hd:Jb N ops.toList=true){s:Aj}{a:Act}{w:World}(O:Ki P V (FJ ops ops.toList) K s)(hc:B9 C N s a w):(Code.region id ops false).wp P Q a w:=by
 refine O4 ?_
 have:=Qpr z (ops:=ops) G ops.toList [] 0 (by simp) hd s a w O hc
 rwa [E8,<-Zea] at this
structure Ev where
 i:Nat
 o:Oper
 s:Aj
 r:AV
 E:Bk
 skip:Bool
def HD(D:Nat->Bool):List Ev->(Nat->Option Aq)->(Nat->Option Aq)
 |[],h=>h
 |e::r,h=>HD D r (bif D e.i then e.E.appf h else h)
def TD(D:Nat->Bool):List Ev->(Nat->AV)->(Nat->AV)
 |[],f=>f
 |e::r,f=>TD D r (λt=>bif D e.i && (e.o.dst==some t) then e.r else f t)
def Qwh{n:Nat}: ∀(hs:Ap),n∉IW hs->hget hs n=none
 |[],_=>rfl
 |(q,e)::hs,h=>by
  simp only[IW,Bi,Zl] at h
  have:(q==n)=false:=by rw[HL];exact λh'=>h.1 h'.symm
  simp only[hget,this,B8];exact Qwh hs h.2
def Qur{n:Nat}: ∀(hs:Ap),n∈IW hs-> ∃e,hget hs n=some e
 |[],h=>by simp[IW] at h
 |(q,e)::hs,h=>by
  simp only[IW,Bi] at h;simp only[hget];cases hq:q==n
  .have z:q≠n:=by simpa using hq
   rcases h with rfl|h
   .exact absurd rfl z
   .simpa using Qur hs h
  .exact⟨e,by simp⟩
def pD{E:Bk}{h:Nat->Option Aq}{n:Nat}(hn:n∉E.touch):E.appf h n=h n:=by
 simp only[Bk.touch,Br,Zl] at hn;simp[Bk.appf,Qwh _ hn.2,hn.1]
def W3{E:Bk}{h h':Nat->Option Aq}{n:Nat}(hn:n∈E.touch):E.appf h n=E.appf h' n:=by
 simp only[Bk.appf];cases hg:hget E.new n with
 |some e=>rfl
 |none=>
  simp only[Bk.touch,Br] at hn;rcases hn with hn|hn
  .simp[hn]
  .obtain⟨e,z⟩:=Qur _ hn;rw[z] at hg;cases hg
def Qym{E:Bk}{h h':Nat->Option Aq}{n:Nat}(z:h n=h' n):E.appf h n=E.appf h' n:=by
 simp only[Bk.appf,z]
def hZ{D D':Nat->Bool}{n:Nat}: ∀(evs:List Ev) (h h':Nat->Option Aq),h n=h' n->(∀e∈evs,D e.i≠D' e.i->n∉e.E.touch)->HD D evs h n=HD D' evs h' n
 |[],_,_,z,_=>z
 |e::r,h,h',z,hd=>by
  simp only[HD];refine hZ r _ _ ?_ (λx G=>hd x (by simp[G]));cases h1:D e.i<;>cases h2:D' e.i
  .simpa using z
  .have:=hd e (by simp) (by rw[h1,h2];simp)
   simp only[B8,Ca];rw[pD this];exact z
  .have:=hd e (by simp) (by rw[h1,h2];simp)
   simp only[B8,Ca];rw[pD this];exact z
  .simp only[Ca];exact Qym z
def iC{D D':Nat->Bool}{t:Nat}: ∀(evs:List Ev) (f f':Nat->AV),f t=f' t->(∀e∈evs,D e.i≠D' e.i->e.o.dst≠some t)->TD D evs f t=TD D' evs f' t
 |[],_,_,z,_=>z
 |e::r,f,f',z,hd=>by
  simp only[TD];refine iC r _ _ ?_ (λx G=>hd x (by simp[G]));by_cases hq:e.o.dst=some t
  .have:D e.i=D' e.i:=by
    rcases Decidable.em (D e.i=D' e.i) with h|h
    .exact h
    .exact absurd hq (hd e (by simp) h)
   rw[this,z]
  .have:(e.o.dst==some t)=false:=by rw[HL];exact hq
   simp[this,z]
def qW(D:Nat->Bool): ∀(a b:List Ev) (h:Nat->Option Aq),HD D (a++b) h=HD D b (HD D a h)
 |[],_,_=>rfl
 |e::a,b,h=>by simp only[CX,HD];exact qW D a b _
def qZ(D:Nat->Bool): ∀(a b:List Ev) (f:Nat->AV),TD D (a++b) f=TD D b (TD D a f)
 |[],_,_=>rfl
 |e::a,b,f=>by simp only[CX,TD];exact qZ D a b _
def Qw6{D:Nat->Bool}: ∀(evs:List Ev) (h:Nat->Option Aq) (n:Nat),(∀e∈evs,D e.i=true->n∉e.E.touch)->HD D evs h n=h n
 |[],_,_,_=>rfl
 |e::r,h,n,hd=>by
  simp only[HD];rw[Qw6 r _ n (λx z=>hd x (by simp[z]))];cases h1:D e.i
  .rfl
  .exact pD (hd e (by simp) h1)
def Qyr{D:Nat->Bool}: ∀(evs:List Ev) (f:Nat->AV) (t:Nat),(∀e∈evs,D e.i=true->e.o.dst≠some t)->TD D evs f t=f t
 |[],_,_,_=>rfl
 |e::r,f,t,hd=>by
  simp only[TD];rw[Qyr r _ t (λx z=>hd x (by simp[z]))];cases h1:D e.i
  .rfl
  .have:(e.o.dst==some t)=false:=by rw[HL];exact hd e (by simp) h1
   simp[this]
def Qtn{n:Nat}{x:Aq}: ∀(hs:Ap),hget hs n=some x->n∈IW hs/\ ∀m∈x.2.nms,m∈IE hs
 |[],h=>by simp[hget] at h
 |(q,Z,ob)::hs,h=>by
  simp only[hget] at h;simp only[IW,IE,Bi,Br];cases hq:q==n<;>rw[hq] at h
  .obtain⟨O,Q⟩:=Qtn hs (by simpa using h);exact⟨.inr O,λm z=> .inr (Q m z)⟩
  .have G:q=n:=by simpa using hq
   simp only[Ca,AI] at h;subst h;exact⟨.inl G.symm,λm z=> .inl z⟩
def Jo{D:Nat->Bool}{n:Nat}{x:Aq}: ∀(evs:List Ev) (h:Nat->Option Aq),HD D evs h n=some x->h n=some x\/ ∃e∈evs,D e.i=true/\hget e.E.new n=some x
 |[],_,G=> .inl G
 |e::r,h,G=>by
  simp only[HD] at G;rcases Jo r _ G with z|⟨f,hf,O⟩
  .cases hd:D e.i<;>rw[hd] at z
   .exact .inl z
   .simp only[Ca,Bk.appf] at z;cases hg:hget e.E.new n with
    |some y=>
     rw[hg] at z;obtain rfl:=AE z;exact .inr ⟨e,by simp,hd,hg⟩
    |none=>
     rw[hg] at z;cases hk:e.E.kill.contains n<;>rw[hk] at z
     .exact .inl z
     .cases z
  .exact .inr ⟨f,by simp[hf],O⟩
def Qu{D:Nat->Bool}{t:Nat}: ∀(evs:List Ev) (f:Nat->AV),TD D evs f t=f t\/ ∃e∈evs,D e.i=true/\TD D evs f t=e.r
 |[],_=> .inl rfl
 |e::r,f=>by
  simp only[TD];rcases Qu r (λt=>bif D e.i && (e.o.dst==some t) then e.r else f t) with z|⟨x,O,G⟩
  .rw[z];cases hd:D e.i
   .exact .inl rfl
   .cases hq:e.o.dst==some t
    .exact .inl rfl
    .exact .inr ⟨e,by simp,hd,rfl⟩
  .exact .inr ⟨x,by simp[O],G⟩
structure rH(e f:Ev):Prop where
 a: ∀n,n∈f.E.use++f.E.kill->n∉e.E.touch
 b: ∀n,n∈f.E.touch->n∉e.E.touch
 c: ∀n,n∈f.E.touch->n∉e.E.use++e.E.kill
 d: ∀n,n∈f.E.touch++(f.r.nms++IE f.E.new)-> ¬Fr e.s.nx e.E.cnt n
def Qlq: ∀(l k:List Nat),HI l k=true-> ∀n∈l,n∉k
 |[],_,_,n,hn=>by cases hn
 |x::l,k,h,n,hn=>by
  simp only[HI,AS,Nz] at h;rcases Bi.1 hn with rfl|hn
  .intro z
   have:=h.1
   rw[Gi.2 z] at this;cases this
  .exact Qlq l k h.2 n hn
def Qtw{nx cnt:Nat}: ∀(l:List Nat),Fx nx cnt l=true-> ∀n∈l,¬Fr nx cnt n
 |[],_,n,hn=>by cases hn
 |x::l,h,n,hn=>by
  simp only[Fx,AS,Hp,El,GU] at h;rcases Bi.1 hn with rfl|hn
  .intro hf
   have:=hf.1
   have:=hf.2
   omega
  .exact Qtw l h.2 n hn
def Ve(ops:Array Oper)(s:Aj)(skip:Bool):Option (Nat×Bool)->Prop
 |none=>skip=false
 |some (g,z)=> ∃t,(ops[g]?).bind (·.dst)=some t/\((∃b,AD s.tm t= .im (.bool b)/\skip=(b !=z))\/(AD s.tm t= .im (.tup [])/\skip=true))
structure jT(P:Program)(ops:Array Oper)(e:Ev):Prop where
 op:ops[e.i]? =some e.o
 gd:Ve ops e.s e.skip e.o.guard
 doo:e.skip=false->B5 P e.s.tm (hget e.s.h) e.s.nx e.o e.r e.E/\e.E.ok e.s.nx e.r=true
 skp:e.skip=true->e.r= .im (.tup [])/\e.E={}
abbrev N6:Nat->Bool:=λ_=>true
def Jj(j:Nat):Nat->Bool:=λi=>Nat.blt i j
def IB{i j:Nat}(h:Jj j i=true):i<j:=by simpa[Jj] using h
structure GT(P:Program)(ops:Array Oper)(cl:List (List Nat))(s0:Aj)(evs:List Ev)(s:Aj)(acc:List Fp):Prop where
 idx: ∀(k:Nat) (e:Ev),evs[k]? =some e->e.i=k
 tm: ∀t,AD s.tm t=TD N6 evs (AD s0.tm) t
 h: ∀n,hget s.h n=HD N6 evs (hget s0.h) n
 nx:s0.nx<=s.nx
 ev: ∀e∈evs,jT P ops e/\s0.nx<=e.s.nx/\e.s.nx+e.E.cnt<=s.nx
 atT: ∀e∈evs,∀t,AD e.s.tm t=TD (Jj e.i) evs (AD s0.tm) t
 atH: ∀e∈evs,∀n,hget e.s.h n=HD (Jj e.i) evs (hget s0.h) n
 ord: ∀e∈evs,∀f∈evs,e.i<f.i->e.s.nx+e.E.cnt<=f.s.nx
 pair: ∀e∈evs,∀f∈evs,e.i<f.i->DN cl e.i f.i=true\/rH e f
 acc: ∀e∈evs,e.skip=true\/(⟨e.i,e.E.use++e.E.kill,e.E.touch,e.s.nx,e.E.cnt⟩:Fp)∈acc
 nmT: ∀t,∀m∈(AD s.tm t).nms,m<s.nx
section
variable {P:Program}{ops:Array Oper}{cl:List (List Nat)}{s0 s:Aj}{evs:List Ev}{acc:List Fp}
def GT.lt(g:GT P ops cl s0 evs s acc): ∀e∈evs,e.i<evs.length:=by
 intro e G;obtain⟨k,O,z⟩:=Wz.1 G
 have:=g.idx k e (by rw[Bh O,z])
 omega
def GT.nil(h: ∀t,∀m∈(AD s0.tm t).nms,m<s0.nx):GT P ops cl s0 [] s0 []:=by
 refine⟨by simp,λt=>rfl,λn=>rfl,AN _,by simp,by simp,by simp,by simp,by simp,by simp,h⟩
def GT.snoc(g:GT P ops cl s0 evs s acc)(e:Ev)(hi:e.i=evs.length)(an:jT P ops e)(hs: ∀t,AD e.s.tm t=AD s.tm t)(hh: ∀n,hget e.s.h n=hget s.h n)(au:e.s.nx=s.nx)
 (ah: ∀f∈evs,DN cl f.i e.i=true\/rH f e){s':Aj}{G:List Fp}(ak: ∀t,AD s'.tm t=if e.o.dst=some t then e.r else AD s.tm t)
 (am: ∀n,hget s'.h n=e.E.appf (hget s.h) n)(ao:s'.nx=s.nx+e.E.cnt)(aj: ∀f∈acc,f∈G)(af:e.skip=true\/(⟨e.i,e.E.use++e.E.kill,e.E.touch,e.s.nx,e.E.cnt⟩:Fp)∈G)
 (hr: ∀m∈e.r.nms,m<s'.nx):GT P ops cl s0 (evs++[e]) s' G:=by
 have O: ∀f∈evs,f.i<e.i:=λf hf=>by rw[hi];exact g.lt f hf
 have ad: ∀t,TD (Jj e.i) evs (AD s0.tm) t=AD s.tm t:=by
  intro t;rw[g.tm t];refine iC evs _ _ rfl ?_;intro f hf ag;exact absurd (by simp[Jj,O f hf]) ag
 have ac: ∀n,HD (Jj e.i) evs (hget s0.h) n=hget s.h n:=by
  intro n;rw[g.h n];refine hZ evs _ _ rfl ?_;intro f hf ag;exact absurd (by simp[Jj,O f hf]) ag
 have ab: ∀f∈evs,Jj f.i e.i=false:=by
  intro f hf
  have:=O f hf
  rw[Ny];intro h
  have:=IB h
  omega
 have Q:Jj e.i e.i=false:=by
  rw[Ny];intro h
  have:=IB h
  omega
 have z: ∀f,f∈evs++[e]->f∈evs\/f=e:=by intro f hf;simpa using hf
 refine⟨?_,?_,?_,?_,?_,?_,?_,?_,?_,?_,?_⟩
 .intro k f hk;rcases dA k evs.length with h|h|h
  .rw[E7 h] at hk;exact g.idx k f hk
  .subst h;rw[Fo (AN _)] at hk;simp at hk;subst hk;exact hi
  .rw[Fo (by omega)] at hk
   have:(k - evs.length)≠0:=by omega
   cases hq:k - evs.length with
   |zero=>omega
   |succ q=>rw[hq] at hk;simp at hk
 .intro t;rw[ak,qZ];simp only[TD,N6,CP];by_cases hq:e.o.dst=some t
  .simp[hq]
  .have:(e.o.dst==some t)=false:=by rw[HL];exact hq
   rw[Ag hq,this];exact g.tm t
 .intro n;rw[am,qW];simp only[HD,N6,Ca];exact Qym (g.h n)
 .have:=g.nx;omega
 .intro f hf;have aq:=g.nx;rcases z f hf with hf|rfl
  .obtain⟨h1,h2,h3⟩:=g.ev f hf;exact⟨h1,h2,by omega⟩
  .exact⟨an,by omega,by omega⟩
 .intro f hf t;rw[qZ];rcases z f hf with hf|rfl
  .simp only[TD,ab f hf,Ei,B8];exact g.atT f hf t
  .simp only[TD,Q,Ei,B8];rw[ad,hs]
 .intro f hf n;rw[qW];rcases z f hf with hf|rfl
  .simp only[HD,ab f hf,B8];exact g.atH f hf n
  .simp only[HD,Q,B8];rw[ac,hh]
 .intro x hx y hy ai;rcases z x hx with Z|rfl<;>rcases z y hy with aa|rfl
  .exact g.ord x Z y aa ai
  .have:=(g.ev x Z).2.2;omega
  .have:=O y aa;omega
  .omega
 .intro x hx y hy ai;rcases z x hx with Z|rfl<;>rcases z y hy with aa|rfl
  .exact g.pair x Z y aa ai
  .exact ah x Z
  .have:=O y aa;omega
  .omega
 .intro f hf;rcases z f hf with hf|rfl
  .rcases g.acc f hf with h|h
   .exact .inl h
   .exact .inr (aj _ h)
  .exact af
 .intro t m hm;rw[ak] at hm;split at hm
  .exact hr m hm
  .have:=g.nmT t m hm;omega
def Qrd{j:Nat}{use touch z:List Nat}: ∀(acc:List Fp),Gp cl j use touch z acc=true-> ∀f∈acc,dX cl j use touch z f=true
 |[],_,f,hf=>by cases hf
 |x::acc,h,f,hf=>by
  simp only[Gp,AS] at h;rcases Bi.1 hf with rfl|hf
  .exact h.1
  .exact Qrd acc h.2 f hf
def Pe{V:CK}(HV:GI P V){K:Aj->Prop}: ∀(rest:List Oper) (i:Nat) (acc:List Fp) (s:Aj) (evs:List Ev),ops.toList.drop i=rest->evs.length=i->
 GT P ops cl s0 evs s acc->Vc P V cl (FJ ops rest) i K acc s-> ∃z s' G,z.length=i+rest.length/\GT P ops cl s0 z s' G/\K s':=by
 intro rest;induction rest with
 |nil=>intro i acc s evs _ hl g Q;exact⟨evs,s,acc,by simpa using hl,g,Q⟩
 |cons o rest ih=>
  intro i acc s evs hi hl g Q;have ao:ops[i]? =some o:=by
   have:(ops.toList.drop i)[0]? =some o:=by rw[hi];rfl
   simpa using this
  have an:ops.toList.drop (i+1)=rest:=by
   have:(ops.toList.drop i).drop 1=rest:=by rw[hi];rfl
   rwa [Ey] at this
  have ak: ∀Z:Aj,(∀t,AD Z.tm t=AD s.tm t)->Z.h=s.h->Z.nx=s.nx->Ve ops Z false o.guard->M4 P V cl i acc o.dst o.op o.type (Vc P V cl (FJ ops rest) (i+1) K) Z->
   ∃z s' G,z.length=i+(rest.length+1)/\GT P ops cl s0 z s' G/\K s':=by
   intro Z ht hh ab ah af;have hnm: ∀x,∀m∈(Aw Z.tm x).nms,m<Z.nx:=KY (λt m hm=>by rw[ht] at hm;rw[ab];exact g.nmT t m hm);rcases Qrc HV hnm af with ⟨r,E,ax,aq,av,aw⟩|⟨h,_⟩
   .have aj:=Qrd acc av;have af:(Z.app o.dst r E).nx=Z.nx+E.cnt:=by cases o.dst<;>rfl
    have hb:=aq;simp only[Bk.ok,AS] at hb;have g':GT P ops cl s0 (evs++[⟨i,o,Z,r,E,false⟩]) (Z.app o.dst r E) (⟨i,E.use++E.kill,E.touch,Z.nx,E.cnt⟩::acc):=by
     refine g.snoc ⟨i,o,Z,r,E,false⟩ hl.symm ⟨ao,ah,λ_=>⟨ax,aq⟩,λh=>by cases h⟩ ht (λn=>by rw[hh]) ab ?_ (λt=> ?_) (λn=> ?_) (by rw[af,ab]) (λf hf=>by simp[hf]) (.inr (by simp)) ?_
     .intro f hf;rcases g.acc f hf with hs|ha
      .obtain⟨h1,h2⟩:=((g.ev f hf).1).skp hs;refine .inr ⟨?_,?_,?_,?_⟩<;>rw[h2]
       .intro n _;simp[Bk.touch,IW]
       .intro n _;simp[Bk.touch,IW]
       .intro n _;simp
       .intro n _ am
        have:=am.1
        have:=am.2
        simp only at this;omega
      .have h:=aj _ ha;unfold dX at h;rw[ZeF] at h;split at h
       .rename_i hx;simp only[AS] at hx;obtain⟨h1,h2,h3⟩:=hx;have ai:=Qlq _ _ h1;exact .inr ⟨λn hn=>ai n (by simp only[Br] at hn⊢;exact .inl hn),λn hn=>ai n (Qw _ hn),Qlq _ _ h2,Qtw _ h3⟩
       .exact .inl h
     .have:AD (Z.app o.dst r E).tm t=if o.dst=some t then r else AD Z.tm t:=UC
      rw[this,ht]
     .have:(Z.app o.dst r E).h=E.new++Bg Z.h E.kill:=by cases o.dst<;>rfl
      rw[this,vZ,wB,hh];simp only[Bk.appf];cases hget E.new n<;>rfl
     .rw[af];exact pZ r hb.1
    obtain⟨z,s',G,h1,h2,h3⟩:=ih (i+1) _ _ _ an (by simp[hl]) g' aw;exact⟨z,s',G,by omega,h2,h3⟩
   .cases h
  simp only[FJ,Vc] at Q;simp only[CY];cases hg:o.guard with
  |none=>
   rw[hg] at Q;simp only[Wr,tO] at Q;exact ak s (λ_=>rfl) rfl rfl (by rw[hg];rfl) Q
  |some gw=>
   obtain⟨j,O⟩:=gw;rw[hg] at Q;simp only[Wr,tO] at Q;cases ht:(ops[j]?).bind (·.dst) with
   |none=>rw[ht] at Q;exact Q.elim
   |some t=>
    rw[ht] at Q;simp only[Xd] at Q;cases hb:AD s.tm t<;>rw[hb] at Q<;>try exact Q.elim
    rename_i d;have ac: ∀s2:Aj,(∀t',AD s2.tm t'=AD s.tm t')->s2.h=s.h->s2.nx=s.nx->Ve ops s true o.guard->Vc P V cl (FJ ops rest) (i+1) K acc (s2.put o.dst (.im (.tup [])))->
     ∃z s' G,z.length=i+(rest.length+1)/\GT P ops cl s0 z s' G/\K s':=by
     intro s2 aa hh ab ah h2;have g':GT P ops cl s0 (evs++[⟨i,o,s,.im (.tup []),{},true⟩]) (s2.put o.dst (.im (.tup []))) acc:=by
      refine g.snoc ⟨i,o,s,.im (.tup []),{},true⟩ hl.symm ⟨ao,ah,(λh=>by cases h),(λ_=>⟨rfl,rfl⟩)⟩ (λ_=>rfl) (λ_=>rfl) rfl ?_ (λt'=> ?_) (λn=> ?_) ?_ (λf hf=>hf) (.inl rfl) ?_
      .intro f hf;refine .inr ⟨?_,?_,?_,?_⟩<;>simp[Bk.touch,IW,AV.nms,IE]
      .rw[UC,aa]
      .have:(s2.put o.dst (.im (.tup []))).h=s2.h:=by cases o.dst<;>rfl
       rw[this,hh];simp[Bk.appf,hget]
      .have:(s2.put o.dst (.im (.tup []))).nx=s2.nx:=by cases o.dst<;>rfl
       rw[this,ab];rfl
      .intro m hm;simp[AV.nms] at hm
     obtain⟨z,s',G,h1,h2,h3⟩:=ih (i+1) _ _ _ an (by simp[hl]) g' h2;exact⟨z,s',G,by omega,h2,h3⟩
    cases d<;>try exact Q.elim
    case tup cs=>
     cases cs with
     |cons _ _=>exact Q.elim
     |nil=>
      simp only[VT,Mw] at Q;exact ac s (λ_=>rfl) rfl rfl (by rw[hg];exact⟨t,ht,.inr ⟨hb,rfl⟩⟩) Q
    case bool b=>
    simp only[VT] at Q;have aa: ∀b':Bool,b=b'-> ∀t',AD (s.put (some t) (.im (.bool b'))).tm t'=AD s.tm t':=by
     intro b' au t';subst au;rw[UC];split
     .rename_i h;cases h;exact hb.symm
     .rfl
    by_cases ad:b=O
    .refine ak (s.put (some t) (.im (.bool O))) (aa O ad) rfl rfl ?_ (Q.1 ad);rw[hg];exact⟨t,ht,.inl ⟨b,by rw[aa O ad,hb],by simp[ad]⟩⟩
    .have ag:b= !O:=by cases b<;>cases O<;>simp_all
     have h2:=Q.2 ag;simp only[Mw] at h2;refine ac (s.put (some t) (.im (.bool (!O)))) (aa _ ag) rfl rfl ?_ h2;rw[hg];exact⟨t,ht,.inl ⟨b,hb,by simp[ag]⟩⟩
end
def Ye(ops:Array Oper)(cl:List (List Nat)):List Oper->Nat->List (Nat×Oper)->Bool
 |[],_,_=>true
 |o::r,j,acc=>(o.after.toList.all λe=> !HR e.ground||Nat.blt e.on j) && (acc.all (λp=>DN cl p.1 j||p.2.apart ops o) && Ye ops cl r (j+1) ((j,o)::acc))
def stOk(ops:Array Oper):Bool:=Ye ops (E6 ops.toList []) ops.toList 0 []
def Qup(e:Edge):Region.binds .any e=HR e.ground:=by
 unfold Region.binds;cases e.ground<;>rfl
structure Wu(ops:Array Oper)(cl:List (List Nat)):Prop where
 lo: ∀(j:Nat) (o:Oper),ops[j]? =some o-> ∀e∈o.after.toList,HR e.ground=true->e.on<j
 ap: ∀(i j:Nat) (x y:Oper),i<j->ops[i]? =some x->ops[j]? =some y->DN cl i j=true\/x.apart ops y=true
def OW{ops:Array Oper}{cl:List (List Nat)}: ∀(rest:List Oper) (j:Nat) (acc:List (Nat×Oper)),ops.toList.drop j=rest->(∀i x,i<j->ops[i]? =some x->(i,x)∈acc)->Ye ops cl rest j acc=true->
 (∀(k:Nat) (o:Oper),j<=k->ops[k]? =some o-> ∀e∈o.after.toList,HR e.ground=true->e.on<k)/\
 (∀(i k:Nat) (x y:Oper),j<=k->i<k->ops[i]? =some x->ops[k]? =some y->DN cl i k=true\/x.apart ops y=true):=by
 intro rest;induction rest with
 |nil=>
  intro j acc hd _ _;have hs:ops.size<=j:=by
   have:=CL List.length hd
   simp at this;omega
  refine⟨λk o hk ho=> ?_,λi k x y hk _ _ Z=> ?_⟩
  .have:=(Qy.1 ho).1;omega
  .have:=(Qy.1 Z).1;omega
 |cons o rest ih=>
  intro j acc hd z hs;have G:ops[j]? =some o:=by
   have:(ops.toList.drop j)[0]? =some o:=by rw[hd];rfl
   simpa using this
  have aa:ops.toList.drop (j+1)=rest:=by
   have:(ops.toList.drop j).drop 1=rest:=by rw[hd];rfl
   rwa [Ey] at this
  simp only[Ye,AS,Dp,Hp,Nz,El] at hs;obtain⟨h1,h2,h3⟩:=hs;obtain⟨r1,r2⟩:=ih (j+1) ((j,o)::acc) aa (by
   intro i x hi O;rcases EO i j with h|h
   .exact BR _ (z i x h O)
   .have:i=j:=by omega
    subst this;rw[G] at O;cases O;exact BM) h3
  refine⟨λk p hk hp=> ?_,λi k x y hk Q O Z=> ?_⟩
  .rcases EO j k with h|h
   .exact r1 k p h hp
   .have:k=j:=by omega
    subst this;rw[G] at hp;cases hp;intro e he hb;rcases h1 e he with h|h
    .rw[h] at hb;cases hb
    .exact h
  .rcases EO j k with h|h
   .exact r2 i k x y h Q O Z
   .have:k=j:=by omega
    subst this;rw[G] at Z;cases Z;exact h2 (i,x) (z i x Q O)
def OX{ops:Array Oper}(h:stOk ops=true):Wu ops (E6 ops.toList []):=by
 obtain⟨G,O⟩:=OW (cl:=E6 ops.toList []) ops.toList 0 [] rfl (by intro i x hi;omega) h;exact⟨λj o Q=>G j o (CF _) Q,λi j x y z Z hy=>O i j x y (CF _) z Z hy⟩
def S9(a b:List (List Nat)): ∀(k:Nat),k<a.length->D1 (a++b) k=D1 a k:=by
 induction a with
 |nil=>intro k z;simp at z
 |cons x a ih=>
  intro k z;cases k with
  |zero=>rfl
  |succ k=>exact ih k (by simpa using z)
def X1(a:List (List Nat))(x:List Nat)(b:List (List Nat)):D1 (a++x::b) a.length=x:=by
 induction a with
 |nil=>rfl
 |cons y a ih=>exact ih
def lB: ∀(a:List (List Nat)) (k:Nat),a.length<=k->D1 a k=[]
 |[],_,_=>rfl
 |_::a,0,h=>by simp at h
 |_::a,k+1,h=>lB a k (by simpa using h)
def Qnq: ∀(rest:List Oper) (acc:List (List Nat)) (k:Nat),k<acc.length->D1 (E6 rest acc) k=D1 acc k
 |[],_,_,_=>rfl
 |o::r,acc,k,h=>by
  simp only[E6];rw[Qnq r _ k (by simp;omega),S9 _ _ _ h]
def Qy4: ∀(rest:List Oper) (acc:List (List Nat)) (k:Nat) (o:Oper),rest[k]? =some o-> ∃z:List (List Nat),z.length=acc.length+k/\(∀m,m<z.length->D1 z m=D1 (E6 rest acc) m)/\
 D1 (E6 rest acc) (acc.length+k)=G8 z o.after.toList
 |[],_,k,o,h=>by simp at h
 |x::r,acc,0,o,h=>by
  obtain rfl:x=o:=by simpa using h
  refine⟨acc,rfl,λm Z=>(Qnq _ _ m Z).symm,?_⟩;simp only[E6,N2];rw[Qnq _ _ _ (by simp),X1]
 |x::r,acc,k+1,o,h=>by
  obtain⟨z,O,Q,G⟩:=Qy4 r (acc++[G8 acc x.after.toList]) k o (by simpa using h);simp only[Dn,CY,G5] at O G;refine⟨z,by omega,Q,?_⟩;simp only[E6];rw[<-G];congr 1;omega
def Xj{x y:Nat}{l:List Nat}(h:y∈zN x l):y=x\/y∈l:=by
 unfold zN at h;cases hc:l.contains x<;>rw[hc] at h
 .simpa using h
 .exact .inr (by simpa using h)
def Qzy{y:Nat}: ∀(a l:List Nat),y∈RO a l->y∈a\/y∈l
 |[],_,h=> .inr h
 |x::r,l,h=>by
  rcases Xj h with h|h
  .exact .inl (by simp[h])
  .rcases Qzy r l h with h|h
   .exact .inl (by simp[h])
   .exact .inr h
def Qsb{acc:List (List Nat)}{i:Nat}: ∀(es:List Edge),i∈G8 acc es-> ∃e∈es,HR e.ground=true/\(i=e.on\/i∈D1 acc e.on)
 |[],h=>by simp[G8] at h
 |e::r,h=>by
  simp only[G8] at h;cases hb:HR e.ground<;>rw[hb] at h
  .obtain⟨x,G,z⟩:=Qsb r h;exact⟨x,by simp[G],z⟩
  .simp only[Ca] at h;have h:=Qzy _ _ h;simp only[Bi,or_assoc] at h;rcases h with h|h|h
   .exact⟨e,by simp,hb,.inl h⟩
   .exact⟨e,by simp,hb,.inr h⟩
   .obtain⟨x,G,z⟩:=Qsb r h;exact⟨x,by simp[G],z⟩
def WE{ops:Array Oper}{i j:Nat}{o:Oper}(ho:ops[j]? =some o)(h:i∈D1 (E6 ops.toList []) j):
 ∃e∈o.after.toList,HR e.ground=true/\(i=e.on\/(e.on<j/\i∈D1 (E6 ops.toList []) e.on)):=by
 obtain⟨G,Z,h2,Q⟩:=Qy4 ops.toList [] j o (by simpa using ho);simp only[G5,Fh] at Z Q;rw[Q] at h;obtain⟨e,he,hb,z⟩:=Qsb _ h;refine⟨e,he,hb,?_⟩;rcases z with z|z
 .exact .inl z
 .rcases EO e.on G.length with O|O
  .exact .inr ⟨by omega,by rw[<-h2 _ O];exact z⟩
  .rw[lB _ _ O] at z;cases z
def Jn(ops:Array Oper)(D:Nat->Bool):Prop:= ∀(j:Nat) (o:Oper),D j=true->ops[j]? =some o-> ∀e∈o.after.toList,HR e.ground=true->D e.on=true
def Qqg{ops:Array Oper}{D:Nat->Bool}(hc:Jn ops D){i j:Nat}{o:Oper}(O:ops[j]? =some o)(Q: ∀e∈o.after.toList,HR e.ground=true->D e.on=true)
 (h:DN (E6 ops.toList []) i j=true):D i=true:=by
 have hi:i∈D1 (E6 ops.toList []) j:=by simpa[DN] using h
 clear h;induction j using Nat.strongRecOn generalizing o with
 |_ j ih=>
  obtain⟨e,G,hb,h|⟨h,Z⟩⟩:=WE O hi
  .rw[h];exact Q e G hb
  .have aa:=(Qy.1 O).1;have z:ops[e.on]? =some ops[e.on]:=Jc (by omega);exact ih e.on h z (hc e.on _ (Q e G hb) z) Z
structure gH(C:AX)(N:Nat)(evs:List Ev)(s0:Aj)(D:Nat->Bool)(S:Ay)(a:Act):Prop where
 wf:Wf C S
 h: ∀n,S.h n=HD D evs (hget s0.h) n
 tm: ∀t,Aa S (TD D evs (AD s0.tm) t) (a.eval (.tmp t))
 size:a.tmps.size=N
 defers:a.defers=C.ds
 n0:C.n0<=s0.nx
 pre:C.Pre S
section
variable {P:Program}{ops:Array Oper}{s0 s:Aj}{evs:List Ev}{acc:List Fp}{C:AX}{N:Nat}
def Qzx{E:Bk}{nx:Nat}{r:AV}(z:E.ok nx r=true):(∀m∈r.nms,m<nx+E.cnt)/\(∀n x,hget E.new n=some x->(Fr nx E.cnt n\/(n∈E.kill/\n<nx))/\ ∀m∈x.2.nms,m<nx+E.cnt):=by
 simp only[Bk.ok,AS] at z;obtain⟨O,Q,Z⟩:=z;exact⟨pZ r O,λn x G=>⟨Qlm _ Z n x G,bZ _ Q n x G⟩⟩
def W7(g:GT P ops (E6 ops.toList []) s0 evs s acc)(bi: ∀n e,hget s0.h n=some e->n<s0.nx/\ ∀m∈e.2.nms,m<s0.nx)(a9: ∀t,∀m∈(AD s0.tm t).nms,m<s0.nx)
 (st:Wu ops (E6 ops.toList []))(hN:Jb N ops.toList=true){D:Nat->Bool}(hc:Jn ops D){e:Ev}(he:e∈evs)(hD:D e.i=false)
 (hr: ∀x∈e.o.after.toList,HR x.ground=true->D x.on=true){S:Ay}{a:Act}(hA:gH C N evs s0 D S a){K:Act->World->Prop}{Q:Exit->Act->World->Prop}
 (hK: ∀a' S',gH C N evs s0 (λi=>D i||i==e.i) S' a'->K a' S'.w):wpOp P ops Q e.i K a S.w:=by
 have ag:=((g.ev e he).1).op;have bh: ∀k,DN (E6 ops.toList []) k e.i=true->D k=true:=λk hk=>Qqg hc ag hr hk
 have az: ∀d,e.o.dst=some d->d<N:=by
  have: ∀(l:List Oper),Jb N l=true-> ∀o∈l,∀d,o.dst=some d->d<N:=by
   intro l;induction l with
   |nil=>intro _ o ho;cases ho
   |cons x l ih=>
    intro h o ho d hd;simp only[Jb,AS] at h;rcases Bi.1 ho with rfl|ho
    .have:=h.1
     rw[hd] at this;simpa using this
    .exact ih h.2 o ho d hd
  exact this _ hN e.o (by
   have:=ZeK ag
   simpa using this)
 have aj: ∀f∈evs,D f.i≠Jj e.i f.i->(f.i<e.i/\D f.i=false/\rH f e/\f.o.apart ops e.o=true)\/(e.i<f.i/\D f.i=true/\rH e f/\e.o.apart ops f.o=true):=by
  intro f hf G;have ak:=((g.ev f hf).1).op;rcases dA f.i e.i with h|h|h
  .have hl:Jj e.i f.i=true:=by simpa[Jj] using h
   have O:D f.i=false:=by
    cases hq:D f.i
    .rfl
    .rw[hq,hl] at G;exact absurd rfl G
   have ai:DN (E6 ops.toList []) f.i e.i=false:=by
    cases hq:DN (E6 ops.toList []) f.i e.i
    .rfl
    .have:=bh _ hq;rw[O] at this;cases this
   refine .inl ⟨h,O,?_,?_⟩
   .rcases g.pair f hf e he h with z|z
    .rw[ai] at z;cases z
    .exact z
   .rcases st.ap f.i e.i f.o e.o h ak ag with z|z
    .rw[ai] at z;cases z
    .exact z
  .have hl:Jj e.i f.i=false:=by
    rw[h];rw[Ny];intro h';have:=IB h';omega
   rw[hl,h,hD] at G;exact absurd rfl G
  .have hl:Jj e.i f.i=false:=by
    rw[Ny];intro h';have:=IB h';omega
   have O:D f.i=true:=by
    cases hq:D f.i
    .rw[hq,hl] at G;exact absurd rfl G
    .rfl
   have ai:DN (E6 ops.toList []) e.i f.i=false:=by
    cases hq:DN (E6 ops.toList []) e.i f.i
    .rfl
    .have:=Qqg hc ak (hc f.i f.o O ak) hq
     rw[hD] at this;cases this
   refine .inr ⟨h,O,?_,?_⟩
   .rcases g.pair e he f hf h with z|z
    .rw[ai] at z;cases z
    .exact z
   .rcases st.ap e.i f.i e.o f.o h ag ak with z|z
    .rw[ai] at z;cases z
    .exact z
 have ac: ∀f∈evs,D f.i=true->f.i<e.i\/(e.i<f.i/\rH e f/\e.o.apart ops f.o=true):=by
  intro f hf O;rcases EO f.i e.i with h|h
  .exact .inl h
  .have hl:Jj e.i f.i=false:=by
    rw[Ny];intro h';have:=IB h';omega
   rcases aj f hf (by rw[O,hl];simp) with ⟨z,_⟩|⟨z,_,h2⟩
   .omega
   .exact .inr ⟨z,h2⟩
 have bb: ∀t,t∈e.o.looksAt ops->TD D evs (AD s0.tm) t=AD e.s.tm t:=by
  intro t ht;rw[g.atT e he t];refine iC evs _ _ rfl ?_;intro f hf G;rcases aj f hf G with ⟨_,_,_,h⟩|⟨_,_,_,h⟩
  .intro hd;exact (Oper.apart_spec h).1 t hd ht
  .intro hd;exact (Oper.apart_spec h).2.2 t hd ht
 have aa:evs=evs.take e.i++e::evs.drop (e.i+1):=by
  have hl:=g.lt e he;have hget:evs[e.i]? =some evs[e.i]:=Bh hl;obtain⟨k,hk,a8⟩:=Wz.1 he;have bg:=g.idx k e (by rw[Bh hk,a8]);subst bg
  conv=>lhs;rw[<-KA e.i evs]
  rw[UP hl,a8]
 have an: ∀f∈evs.take e.i,f∈evs/\f.i<e.i:=by
  intro f hf;refine⟨yN hf,?_⟩;obtain⟨k,hk,au⟩:=Wz.1 hf;have bl:k<e.i:=by simp at hk;omega
  have:=g.idx k f (by
   rw[<-au,List.getElem_take];exact Bh _)
  omega
 have ab: ∀f∈evs.drop (e.i+1),f∈evs/\e.i<f.i:=by
  intro f hf;refine⟨ZeZ hf,?_⟩;obtain⟨k,hk,au⟩:=Wz.1 hf
  have:=g.idx (e.i+1+k) f (by
   rw[<-au,List.getElem_drop];exact Bh _)
  omega
 let D':Nat->Bool:=λi=>D i||i==e.i
 have ay:D' e.i=true:=by simp[D']
 have af: ∀f∈evs,f.i≠e.i->D f.i=D' f.i:=by
  intro f _ G
  have:(f.i==e.i)=false:=by rw[HL];exact G
  simp[D',this]
 have bd: ∀n,HD D' evs (hget s0.h) n=e.E.appf (HD D evs (hget s0.h)) n:=by
  intro n;have e1:HD D' evs (hget s0.h)=HD D' (evs.drop (e.i+1)) (e.E.appf (HD D' (evs.take e.i) (hget s0.h))):=by
   conv=>lhs;rw[aa]
   rw[qW];simp only[HD,ay,Ca]
  have e2:HD D evs (hget s0.h)=HD D (evs.drop (e.i+1)) (HD D (evs.take e.i) (hget s0.h)):=by
   conv=>lhs;rw[aa]
   rw[qW];simp only[HD,hD,B8]
  have e3:HD D' (evs.take e.i) (hget s0.h)=HD D (evs.take e.i) (hget s0.h):=by
   funext m;refine hZ _ _ _ rfl ?_;intro f hf G
   have:=an f hf
   exact absurd (af f this.1 (by omega)).symm G
  rw[e1,e2,e3];by_cases hn:n∈e.E.touch
  .rw[W3 hn (h':=HD D (evs.take e.i) (hget s0.h))];refine Qw6 _ _ n ?_;intro f hf O;have z:=ab f hf;rw[<-af f z.1 (by omega)] at O;rcases ac f z.1 O with h2|⟨_,h2,_⟩
   .omega
   .intro av;exact h2.b n av hn
  .rw[pD hn];refine hZ _ _ _ (pD hn) ?_;intro f hf G
   have:=ab f hf
   exact absurd (af f this.1 (by omega)).symm G
 have be: ∀t,TD D' evs (AD s0.tm) t=if e.o.dst=some t then e.r else TD D evs (AD s0.tm) t:=by
  intro t;have e1:TD D' evs (AD s0.tm)=TD D' (evs.drop (e.i+1)) (λt=>bif e.o.dst==some t then e.r else TD D' (evs.take e.i) (AD s0.tm) t):=by
   conv=>lhs;rw[aa]
   rw[qZ];simp only[TD,ay,CP]
  have e2:TD D evs (AD s0.tm)=TD D (evs.drop (e.i+1)) (TD D (evs.take e.i) (AD s0.tm)):=by
   conv=>lhs;rw[aa]
   rw[qZ];simp only[TD,hD,Ei,B8]
  have e3:TD D' (evs.take e.i) (AD s0.tm)=TD D (evs.take e.i) (AD s0.tm):=by
   funext m;refine iC _ _ _ rfl ?_;intro f hf G
   have:=an f hf
   exact absurd (af f this.1 (by omega)).symm G
  rw[e1,e2,e3];by_cases hn:e.o.dst=some t
  .rw[Ao hn];rw[Qyr]
   .simp[hn]
   .intro f hf O;have z:=ab f hf;rw[<-af f z.1 (by omega)] at O;rcases ac f z.1 O with h2|⟨_,_,h2⟩
    .omega
    .exact (Oper.apart_spec h2).2.1 t hn
  .rw[Ag hn];have hq:(e.o.dst==some t)=false:=by rw[HL];exact hn
   refine iC _ _ _ (by simp[hq]) ?_;intro f hf G
   have:=ab f hf
   exact absurd (af f this.1 (by omega)).symm G
 have ba:s0.nx<=e.s.nx:=(g.ev e he).2.1;have ao: ∀f∈evs,D f.i=true->(∀m∈f.r.nms,¬Fr e.s.nx e.E.cnt m)/\(∀n x,hget f.E.new n=some x-> ¬Fr e.s.nx e.E.cnt n/\ ∀m∈x.2.nms,¬Fr e.s.nx e.E.cnt m):=by
  intro f hf O;rcases ac f hf O with h|⟨_,h,_⟩
  .have bm:=g.ord f hf e he h;obtain⟨aw,_⟩:=g.ev f hf;cases hs:f.skip
   .obtain⟨z,h2⟩:=Qzx (aw.doo hs).2;refine⟨λm hm Z=> ?_,λn x hx=>⟨λZ=> ?_,λm hm Z=> ?_⟩⟩
    .have:=z m hm;have:=Z.1;omega
    .have:=Z.1
     rcases (h2 n x hx).1 with h3|h3
     .have:=h3.2;omega
     .omega
    .have:=(h2 n x hx).2 m hm;have:=Z.1;omega
   .obtain⟨z,h2⟩:=aw.skp hs;rw[z,h2];exact⟨by simp[AV.nms],by simp[hget]⟩
  .refine⟨λm hm=>h.d m (by simp[hm]),λn x hx=>⟨h.d n ?_,λm hm=>h.d m ?_⟩⟩
   .have:=(Qtn _ hx).1
    simp[Bk.touch,this]
   .have:=(Qtn _ hx).2 m hm
    simp[this]
 have a0: ∀t,∀m∈(TD D evs (AD s0.tm) t).nms,¬Fr e.s.nx e.E.cnt m:=by
  intro t m hm;rcases Qu (D:=D) (t:=t) evs (AD s0.tm) with h|⟨f,hf,O,h⟩
  .rw[h] at hm;intro Z
   have:=a9 t m hm
   have:=Z.1
   omega
  .rw[h] at hm;exact (ao f hf O).1 m hm
 have am: ∀n x,HD D evs (hget s0.h) n=some x-> ¬Fr e.s.nx e.E.cnt n/\ ∀m∈x.2.nms,¬Fr e.s.nx e.E.cnt m:=by
  intro n x hx;rcases Jo evs (hget s0.h) hx with h|⟨f,hf,O,h⟩
  .obtain⟨z,h2⟩:=bi n x h;exact⟨λZ=>by have:=Z.1;omega,λm hm Z=>by have:=Z.1;have:=h2 m hm;omega⟩
  .exact (ao f hf O).2 n x h
 have ah: ∀v S',Wf C S'->S'.h=e.E.appf S.h->Bx (λm=> ¬Fr e.s.nx e.E.cnt m) S S'->Aa S' e.r v->K (a.put e.o.dst v) S'.w:=by
  intro v S' hW hh hp hv;refine hK _ S' ⟨hW,λn=> ?_,λt=> ?_,?_,?_,hA.n0,Qy2 hA.pre (Dt hA.n0 ba) hp⟩
  .rw[hh];exact (Qym (hA.h n)).trans (bd n).symm
  .have:=be t
   simp only[D'] at this;rw[this,uN (λd h=>by rw[hA.size];exact az d h)];split
   .exact hv
   .exact H9 hp _ _ (a0 t) (hA.tm t)
  .cases e.o.dst<;>simp[Act.put,hA.size]
  .cases e.o.dst<;>simp[Act.put,hA.defers]
 have aq:=(g.ev e he).1;have ax:Region.wanted e.o (yielded ops a.tmps)= !e.skip:=by
  have ad:=aq.gd;unfold Region.wanted;cases hg:e.o.guard with
  |none=>
   rw[hg] at ad;simp only[Ve] at ad;simp[ad]
  |some gw=>
   obtain⟨q,bc⟩:=gw;rw[hg] at ad;obtain⟨t,ht,ad⟩:=ad;have bf:TD D evs (AD s0.tm) t=AD e.s.tm t:=bb t (by simp[Oper.looksAt,hg,ht]);have z:=hA.tm t;rw[bf] at z;rcases ad with ⟨b,hb,hs⟩|⟨hb,hs⟩
   .rw[hb] at z;simp only[Aa,rd,Act.eval] at z;have hy:yielded ops a.tmps q=some b:=by
     unfold yielded;rw[ht];simp only[EN];rw[Ho] at z;cases hq:a.tmps[t]? with
     |none=>rw[hq] at z;simp[undef] at z
     |some v=>rw[hq] at z;simp at z;rw[z]
    simp only[hy,hs];cases b<;>cases bc<;>rfl
   .rw[hb] at z;simp only[Aa,rd,rdl,Act.eval] at z;obtain⟨vs,z,_⟩:=z;have hy:yielded ops a.tmps q=none:=by
     unfold yielded;rw[ht];simp only[EN];rw[Ho] at z;cases hq:a.tmps[t]? with
     |none=>rfl
     |some v=>rw[hq] at z;simp at z;rw[z]
    simp only[hy,hs];rfl
 unfold wpOp;simp only[ag,ax];cases hs:e.skip
 .simp only[Q6,BI];refine .inl ?_;obtain⟨bj,aw⟩:=aq.doo hs;refine bj C S a K Q hA.wf ?_ ?_ ?_ ?_ ah
  .intro n hn;rw[hA.h n,g.atH e he n];refine hZ evs _ _ rfl ?_;intro f hf G;rcases aj f hf G with ⟨_,_,h,_⟩|⟨_,_,h,_⟩
   .exact h.a n hn
   .intro av;exact h.c n av hn
  .intro n Z;cases hn:S.h n with
   |none=>rfl
   |some x=>
    rw[hA.h n] at hn;exact absurd Z (am n x hn).1
  .intro n x hx m hm;rw[hA.h n] at hx;exact (am n x hx).2 m hm
  .intro x hx;cases x with
   |tmp t=>
    simp only[Aw];rw[<-bb t (by
     simp only[Oper.looksAt,Br,List.mem_filterMap];exact .inl ⟨.tmp t,by simpa using hx,rfl⟩)]
    exact hA.tm t
   |const v=>exact aT S v
   |global g=>simp only[Aw,Aa,rd,Act.eval]
   |func f=>exact kF _ _ f
 .simp only[Zj,CE,Cy];obtain⟨z,h2⟩:=aq.skp hs;refine ah undef S hA.wf ?_ (Bx.refl _ _) ?_
  .rw[h2];funext n;simp[Bk.appf,hget]
  .rw[z];simp only[Aa,rd,rdl];exact⟨#[],rfl,rfl⟩
abbrev dn(listed:Array Bool):Nat->Bool:=λi=>listed.getD i false
def uF(listed:Array Bool):Nat:=listed.toList.countP (λb=> !b)
def eB{listed:Array Bool}{j:Nat}(z:j<listed.size):dn (listed.setIfInBounds j true)=λi=>dn listed i||i==j:=by
 funext i;simp only[dn];by_cases h:j=i
 .subst h;simp[z]
 .rw[getD_set_ne false h]
  have:(i==j)=false:=by rw[HL];exact λh'=>h h'.symm
  simp[this]
def MD{listed:Array Bool}{j:Nat}(G:j<listed.size)(O:listed.getD j true=false):uF (listed.setIfInBounds j true)+1=uF listed:=by
 unfold uF;rw[ZdD];have z:j<listed.toList.length:=by simpa using G
 have Z:listed.toList[j]=false:=by
  rw[Ho,Jc G] at O;simpa using O
 have Q:0<listed.toList.countP (λb=> !b):=by
  rw[List.countP_pos_iff];exact⟨false,by rw[<-Z];exact Q4 _,rfl⟩
 rw[List.countP_set z,Z];simp only[Q6,BI,Zj,CE,Cy];omega
def Qabb{listed:Array Bool}(hs:listed.size=ops.size)(st:Wu ops (E6 ops.toList []))(Q:Region.ready .any ops listed=[]): ∀i,i<ops.size->dn listed i=true:=by
 intro i;induction i using Nat.strongRecOn with
 |_ i ih=>
  intro O;cases hq:dn listed i with
  |true=>rfl
  |false=>
   exfalso
   have:i∈Region.ready .any ops listed:=by
    rw[mem_ready];have z:ops[i]? =some ops[i]:=Jc O;refine⟨?_,ops[i],z,?_⟩
    .simp only[dn] at hq;rw[Ho,Jc (by omega)] at hq⊢;simpa using hq
    .intro e G hb;rw[Qup] at hb
     have:=st.lo i _ z e (by simpa using G) hb
     exact ih e.on this (by omega)
   rw[Q] at this;cases this
def dQ(g:GT P ops (E6 ops.toList []) s0 evs s acc)(aq:evs.length=ops.size)(am: ∀n e,hget s0.h n=some e->n<s0.nx/\ ∀m∈e.2.nms,m<s0.nx)(ah: ∀t,∀m∈(AD s0.tm t).nms,m<s0.nx)
 (st:Wu ops (E6 ops.toList []))(hN:Jb N ops.toList=true){Q:Exit->Act->World->Prop}(hQ: ∀a S,gH C N evs s0 N6 S a->Q .normal a S.w):
 ∀(fuel:Nat) (listed:Array Bool) (S:Ay) (a:Act),uF listed<=fuel->listed.size=ops.size->Jn ops (dn listed)->gH C N evs s0 (dn listed) S a->wpAny P .any ops Q fuel listed a S.w:=by
 have aa: ∀(listed:Array Bool) (S:Ay) (a:Act),listed.size=ops.size->(∀i,i<ops.size->dn listed i=true)->gH C N evs s0 (dn listed) S a->Q .normal a S.w:=by
  intro listed S a hs z O;refine hQ a S ⟨O.wf,λn=> ?_,λt=> ?_,O.size,O.defers,O.n0,O.pre⟩
  .rw[O.h n];refine hZ evs _ _ rfl ?_;intro f hf ac;exact absurd (z f.i (by have:=g.lt f hf;omega)) ac
  .have:TD N6 evs (AD s0.tm) t=TD (dn listed) evs (AD s0.tm) t:=by
    refine iC evs _ _ rfl ?_;intro f hf ac;exact absurd (z f.i (by have:=g.lt f hf;omega)).symm ac
   rw[this];exact O.tm t
 intro fuel;induction fuel with
 |zero=>
  intro listed S a hu hs hcl O;have z: ∀i,i<ops.size->dn listed i=true:=by
   intro i hi;cases hq:dn listed i with
   |true=>rfl
   |false=>
    have:= @MD listed i (by omega) (by
     simp only[dn] at hq;rw[Ho,Jc (by omega)] at hq⊢;simpa using hq)
    omega
  refine⟨?_,aa listed S a hs z O⟩;rw[List.eq_nil_iff_forall_not_mem];intro j hj;obtain⟨h0,o,ho,_⟩:=mem_ready.1 hj;have ak:=(Qy.1 ho).1
  have:=z j ak
  simp only[dn] at this;rw[Ho,Jc (by omega)] at this h0;simp at this h0;rw[h0] at this;cases this
 |succ fuel ih=>
  intro listed S a hu hs hcl O;refine⟨λhr=>aa listed S a hs (Qabb hs st hr) O,λj hj=> ?_⟩;obtain⟨h0,o,ho,z⟩:=mem_ready.1 hj;have au:=(Qy.1 ho).1;have ag:j<evs.length:=by omega
  have G:=g.idx j evs[j] (Bh ag);have ab:evs[j]∈evs:=Q4 ag;have ai:=((g.ev _ ab).1).op;rw[G,ho] at ai;have aj:dn listed j=false:=by
   simp only[dn];rw[Ho,Jc (by omega)] at h0⊢;simpa using h0
  have Z: ∀e∈o.after.toList,HR e.ground=true->dn listed e.on=true:=λe he hb=>z e (by simpa using he) (by rw[Qup];exact hb)
  have an:evs[j].o=o:=(AE ai).symm;have ao:=W7 g am ah st hN hcl ab (by rw[G];exact aj) (by rw[an];exact Z) O (Q:=Q) (K:=wpAny P .any ops Q fuel (listed.setIfInBounds j true)) ?_
  .rwa [G] at ao
  .intro a' S' ad;rw[G] at ad;have af:=eB (listed:=listed) (j:=j) (by omega);refine ih (listed.setIfInBounds j true) S' a' ?_ (by simpa using hs) ?_ (by rw[af];exact ad)
   .have:= @MD listed j (by omega) h0
    omega
   .rw[af];intro k p hk hp e he hb;simp only[Hp,N5] at hk⊢;rcases hk with hk|rfl
    .exact .inl (hcl k p hk hp e he hb)
    .rw[ho] at hp;cases hp;exact .inl (Z e he hb)
end
def Qog{P:Program}{V:CK}(HV:GI P V){C:AX}{N:Nat}{ops:Array Oper}{K:Aj->Prop}{Q:Exit->Act->World->Prop}(hQ: ∀s a w,K s->B9 C N s a w->Q .normal a w)
 (hd:Jb N ops.toList=true)(ac:stOk ops=true){s:Aj}{a:Act}{w:World}(hk:Vc P V (E6 ops.toList []) (FJ ops ops.toList) 0 K [] s)(hc:B9 C N s a w):wpAny P .any ops Q ops.size (Array.replicate ops.size false) a {w with drawn:=w.drawn+1}:=by
 obtain⟨S,rfl,hc⟩:=hc;obtain⟨evs,s',acc,O,g,hK⟩:=Pe HV ops.toList 0 [] s [] rfl rfl (GT.nil hc.nmT) hk;have hW:=hc.wf
 let S1:Ay:={S with w:={S.w with drawn:=S.w.drawn+1}}
 have hp:Bx (λ_=>True) S S1:=⟨λb hb=>⟨hb,rfl⟩,λo _ e' ab=>⟨e',ab,rfl,rfl,rfl⟩⟩;have hA:gH C N evs s (dn (Array.replicate ops.size false)) S1 a:=by
  have Z: ∀i,dn (Array.replicate ops.size false) i=false:=by
   intro i;simp only[dn,Ho,dF]
   split<;>rfl
  refine⟨⟨hW.os,hW.tape,hW.output,hW.size,hW.keep,hW.ok0,hW.ok1,hW.oks,?_,hW.loc,hW.inj,hW.gl⟩,λn=> ?_,λt=> ?_,hc.size,hc.defers,hc.n0,hc.pre⟩
  .intro o e G;exact H8 hp (λ_ _=>rfl) _ (λ_ _=>trivial) (hW.obj o e G)
  .rw[Qw6]
   .exact hc.h n
   .intro e _ h;rw[Z] at h;cases h
  .rw[Qyr]
   .exact H9 hp _ _ (λ_ _=>trivial) (hc.tm t)
   .intro e _ h;rw[Z] at h;cases h
 have ad:=dQ (C:=C) (N:=N) (Q:=Q) g (by simpa using O) hc.nmH hc.nmT (OX ac) hd ?_ ops.size (Array.replicate ops.size false) S1 a (by unfold uF;exact Dt List.countP_le_length (by simp)) (by simp) ?_ hA
 .exact ad
 .intro a' S' z;refine hQ s' a' S'.w hK ⟨S',rfl,z.wf,λn=> ?_,λt=> ?_,g.nmT,?_,z.size,z.defers,Dt hc.n0 g.nx,z.pre⟩
  .rw[z.h n,g.h n]
  .rw[g.tm t];exact z.tm t
  .intro n e G;rw[g.h n] at G;rcases Jo evs _ G with h|⟨f,hf,_,h⟩
   .obtain⟨h1,h2⟩:=hc.nmH n e h
    have:=g.nx
    exact⟨by omega,λm hm=>by have:=h2 m hm;omega⟩
   .obtain⟨aa,h2,h3⟩:=g.ev f hf;cases hs:f.skip
    .obtain⟨_,h5⟩:=Qzx (aa.doo hs).2;obtain⟨h6,h7⟩:=h5 n e h;refine⟨?_,λm hm=>by have:=h7 m hm;omega⟩;rcases h6 with h6|h6
     .have:=h6.2;omega
     .omega
    .rw[(aa.skp hs).2] at h;simp[hget] at h
 .intro j o hj _ e G hb
  have:dn (Array.replicate ops.size false) j=false:=by
   simp only[dn,Ho,dF]
   split<;>rfl
  rw[this] at hj;cases hj
def Qtk{P:Program}(G:P.follows .mixedOrders=true){V:CK}(O:GI P V){C:AX}{N id:Nat}{ops:Array Oper}{K:Aj->Prop}{Q:Exit->Act->World->Prop}(Z: ∀s a w,K s->B9 C N s a w->Q .normal a w)
 (hd:Jb N ops.toList=true)(z:stOk ops=true){s:Aj}{a:Act}{w:World}(hk:Vc P V (E6 ops.toList []) (FJ ops ops.toList) 0 K [] s)(hc:B9 C N s a w):(Code.region id ops true).wp P Q a w:=
 wp_region_any G (Qog O Z hd z hk hc)
def DY(N:Nat):Code->Bool
 | .skip=>true
 | .region _ ops z=>Jb N ops.toList && (!z||stOk ops)
 | .seq a b=>DY N a && DY N b
 | .cond _ a b=>DY N a && DY N b
 | .block _ c=>DY N c
 | .loop c=>DY N c
 | .exit _=>true
 | .ret=>true
 |_=>false
def FB(C:AX)(N:Nat)(Q:Cb):Exit->Act->World->Prop
 | .normal,a,w=> ∃s,Q .normal s/\B9 C N s a w
 | .exit i,a,w=> ∃s,Q (.exit i) s/\B9 C N s a w
 | .ret,a,w=> ∃s,Q .ret s/\B9 C N s a w
 |_,_,_=>False
def Qv7{s:Aj}: ∀(tm:List (Nat×AV)),FX s tm-> ∀t,AD tm t= .any\/AD tm t=AD s.tm t
 |[],_,t=> .inl rfl
 |(q,x)::tm,h,t=>by
  simp only[FX] at h;simp only[AD];cases hq:q==t
  .simpa using Qv7 tm h.2 t
  .have:q=t:=by simpa using hq
   subst this;exact .inr (by simpa using h.1.symm)
def Qtu{s:Aj}: ∀(hs:Ap),BU s hs-> ∀n e,hget hs n=some e->hget s.h n=some e
 |[],_,n,e,h=>by simp[hget] at h
 |(q,x)::hs,h,n,e,z=>by
  simp only[BU] at h;simp only[hget] at z;cases hq:q==n<;>rw[hq] at z
  .exact Qtu hs h.2 n e (by simpa using z)
  .have:q=n:=by simpa using hq
   subst this;simp only[Ca,AI] at z;subst z;exact h.1
def oK{n:Nat}: ∀(tm:List (Nat×AV)),An n tm=true-> ∀t,∀m∈(AD tm t).nms,m<n
 |[],_,t,m,z=>by simp[AD,AV.nms] at z
 |(q,x)::tm,h,t,m,z=>by
  simp only[An,AS] at h;simp only[AD] at z;cases hq:q==t<;>rw[hq] at z
  .exact oK tm h.2 t m (by simpa using z)
  .exact pZ x h.1 m (by simpa using z)
def oG{n:Nat}: ∀(hs:Ap),A9 n hs=true-> ∀m e,hget hs m=some e->m<n
 |[],_,m,e,h=>by simp[hget] at h
 |(q,x)::hs,h,m,e,z=>by
  simp only[A9,AS,El] at h;simp only[hget] at z;cases hq:q==m<;>rw[hq] at z
  .exact oG hs h.2 m e (by simpa using z)
  .have:q=m:=by simpa using hq
   omega
def iK{C:AX}{N:Nat}{s s':Aj}{a:Act}{w:World}(hc:B9 C N s a w)(hs:sub s s')(hg:s'.good=true)(ad:C.n0<=s'.nx):B9 C N s' a w:=by
 obtain⟨S,rfl,hc⟩:=hc;obtain⟨hT,hH⟩:=hs;simp only[Aj.good,AS] at hg;obtain⟨Z,aa,ab⟩:=hg;have z: ∀n e,hget s'.h n=some e->S.h n=some e:=λn e O=>(hc.h n).trans (Qtu _ hH n e O)
 have hp:Bx (λ_=>True) S {S with h:=hget s'.h}:=⟨λb hb=>⟨hb,rfl⟩,λo _ e' G=>⟨e',z o e' G,rfl,rfl,rfl⟩⟩;have hW:=hc.wf;refine⟨{S with h:=hget s'.h},rfl,⟨hW.os,hW.tape,hW.output,hW.size,hW.keep,hW.ok0,hW.ok1,hW.oks,?_,?_,?_,hW.gl⟩,λn=>rfl,?_,oK _ Z,?_,hc.size,hc.defers,ad,?_⟩
 .intro o e O;exact H8 hp (λ_ _=>rfl) _ (λ_ _=>trivial) (hW.obj o e (z o e O))
 .intro o e l O hl;exact hW.loc o e l (z o e O) hl
 .intro o o' e e' l l' O G hl ac hb Q;exact hW.inj o o' e e' l l' (z o e O) (z o' e' G) hl ac hb Q
 .intro t;rcases Qv7 _ hT t with h|h
  .rw[h];simp only[Aa]
  .rw[h];exact H9 hp _ _ (λ_ _=>trivial) (hc.tm t)
 .intro n e O;exact⟨oG _ ab n e O,bZ _ aa n e O⟩
 .intro o ho e' G;exact hc.pre o ho e' (z o e' G)
def Z9{lo:Nat}: ∀(π:List (Nat×Option Nat)),UW lo π-> ∀n,n<lo->pm π n=some n
 |[],_,n,_=>rfl
 |(a,b)::r,h,n,hn=>by
  simp only[UW] at h;simp only[pm];rw[Ag (by omega)];exact Z9 r h.2 n hn
section
variable {S S':Ay}{π:List (Nat×Option Nat)}
mutual
def Qyf(ab:S'.ok=S.ok)(aa:S'.hp=S.hp)(hρ: ∀n m,pm π n=some m->S'.ρ n=S.ρ m)(hρ0: ∀n,pm π n=none->S'.ρ n=none)
 (Z: ∀n m,pm π n=some m-> ∀e',S'.h n=some e'-> ∃e,S.h m=some e/\e.2.esz=e'.2.esz/\e.2.len=e'.2.len): ∀(x' x:AV) (v:Value),mt π x' x->Aa S x v->Aa S' x' v
 | .any,_,_,_,_=>by simp only[Aa]
 | .im d,x,v,h,hc=>by
   simp only[mt] at h;subst h;simp only[Aa,ab,aa] at hc⊢;exact hc
 | .own n,x,v,h,hc=>by
   simp only[mt] at h;cases hp:pm π n with
   |some m=>
    rw[hp] at h;simp only[Fy] at h;subst h;simp only[Aa] at hc⊢;refine⟨hc.1,λe' z=> ?_⟩;obtain⟨e,G,O,Q⟩:=Z n m hp e' z;rw[hρ n m hp,<-Q];exact hc.2 e G
   |none=>
    rw[hp] at h;simp only[Fy] at h;unfold eX at h;split at h
    .simp only[Aa,rd] at hc;have hv:v= .slice none 0 0:=by
      rcases hc with hc|⟨_,_,_,_,_,_,_,O,_⟩
      .exact wX hc.1
      .exact absurd rfl (O trivial)
     subst hv;simp only[Aa];refine⟨rfl,λe' z=> ?_⟩;rw[hρ0 n hp];trivial
    .exact h.elim
 | .ptr n p,x,v,h,hc=>by
   simp only[mt] at h;cases hp:pm π n with
   |none=>rw[hp] at h;exact h.elim
   |some m=>
    rw[hp] at h;simp only[Gz] at h;subst h;simp only[Aa] at hc⊢;refine⟨hc.1,λe' z=> ?_⟩;obtain⟨e,G,O,Q⟩:=Z n m hp e' z;rw[hρ n m hp];exact hc.2 e G
 | .eptr n i p,x,v,h,hc=>by
   simp only[mt] at h;cases hp:pm π n with
   |none=>rw[hp] at h;exact h.elim
   |some m=>
    rw[hp] at h;simp only[Gz] at h;subst h;simp only[Aa] at hc⊢;refine⟨hc.1,λe' z=> ?_⟩;obtain⟨e,G,O,Q⟩:=Z n m hp e' z;rw[hρ n m hp,<-O];exact hc.2 e G
 | .mp n,x,v,h,hc=>by
   simp only[mt] at h;cases hp:pm π n with
   |none=>rw[hp] at h;exact h.elim
   |some m=>
    rw[hp] at h;simp only[Gz] at h;subst h;simp only[Aa] at hc⊢;refine⟨hc.1,λe' z=> ?_⟩;obtain⟨e,G,O,Q⟩:=Z n m hp e' z;rw[hρ n m hp];exact hc.2 e G
 | .ch n,x,v,h,hc=>by
   simp only[mt] at h;cases hp:pm π n with
   |none=>rw[hp] at h;exact h.elim
   |some m=>
    rw[hp] at h;simp only[Gz] at h;subst h;simp only[Aa] at hc⊢;refine⟨hc.1,λe' z=> ?_⟩;obtain⟨e,G,O,Q⟩:=Z n m hp e' z;rw[hρ n m hp];exact hc.2 e G
 | .it n,x,v,h,hc=>by
   simp only[mt] at h;cases hp:pm π n with
   |none=>rw[hp] at h;exact h.elim
   |some m=>
    rw[hp] at h;simp only[Gz] at h;subst h;simp only[Aa] at hc⊢;refine⟨hc.1,λe' z=> ?_⟩;obtain⟨e,G,O,Q⟩:=Z n m hp e' z;rw[hρ n m hp];exact hc.2 e G
 | .osl n a k,x,v,h,hc=>by
   simp only[mt] at h;cases hp:pm π n with
   |none=>rw[hp] at h;exact h.elim
   |some m=>
    rw[hp] at h;simp only[Gz] at h;subst h;simp only[Aa] at hc⊢;refine⟨hc.1,λe' z=> ?_⟩;obtain⟨e,G,O,Q⟩:=Z n m hp e' z;rw[hρ n m hp,<-O,<-Q];exact hc.2 e G
 | .agg cs,x,v,h,hc=>by
   have ac: ∀ds,Dz π cs ds->Aa S (.agg ds) v->Aa S' (.agg cs) v:=by
    intro ds h hc;simp only[Aa] at hc⊢;obtain⟨vs,rfl,G⟩:=hc;exact⟨vs,rfl,Qts ab aa hρ hρ0 Z cs ds _ h G⟩
   cases x<;>try (simp only[mt] at h;done)
   case agg ds=>
    simp only[mt] at h;exact ac ds h hc
   case im d=>
    cases d<;>try (simp only[mt] at h;done)
    rename_i ds;simp only[mt] at h;refine ac _ h ?_;simp only[Aa,rd] at hc⊢;obtain⟨vs,rfl,G⟩:=hc;exact⟨vs,rfl,(Ia _ _).2 G⟩
 | .tup cs,x,v,h,hc=>by simp only[mt] at h
 | .clo f a c,x,v,h,hc=>by simp only[mt] at h
def Qts(G:S'.ok=S.ok)(z:S'.hp=S.hp)(hρ: ∀n m,pm π n=some m->S'.ρ n=S.ρ m)(hρ0: ∀n,pm π n=none->S'.ρ n=none)
 (Q: ∀n m,pm π n=some m-> ∀e',S'.h n=some e'-> ∃e,S.h m=some e/\e.2.esz=e'.2.esz/\e.2.len=e'.2.len): ∀(O xs:List AV) (vs:List Value),Dz π O xs->AM S xs vs->AM S' O vs
 |[],[],vs,h,hc=>by simpa only[AM] using hc
 |x::r,y::s,vs,h,hc=>by
  simp only[Dz] at h;simp only[AM] at hc⊢;obtain⟨v,w,rfl,Z,h2⟩:=hc;exact⟨v,w,rfl,Qyf G z hρ hρ0 Q x y v h.1 Z,Qts G z hρ hρ0 Q r s w h.2 h2⟩
 |[],_::_,vs,h,_=>by simp only[Dz] at h
 |_::_,[],vs,h,_=>by simp only[Dz] at h
end
end
def Qya{π:List (Nat×Option Nat)}: ∀{a b:List (List AV)},Gk π a b->b.length=a.length
 |[],[],_=>rfl
 |_::_,_::_,h=>by simp[Qya h.2]
 |[],_::_,h=>h.elim
 |_::_,[],h=>h.elim
def LJ{π:List (Nat×Option Nat)}: ∀{a b:List AV},Dz π a b->b.length=a.length
 |[],[],_=>rfl
 |_::_,_::_,h=>by simp only[Dz] at h;simp[LJ h.2]
 |[],_::_,h=>by simp only[Dz] at h
 |_::_,[],h=>by simp only[Dz] at h
def Qxn{π:List (Nat×Option Nat)}{e' e:Ad}(h:Ez π e' e):e.esz=e'.esz/\e.len=e'.len/\e.isView=e'.isView:=by
 cases e'<;>cases e<;>simp only[Ez,reduceCtorEq,Ad.arr.injEq,Ad.map.injEq,Ad.chan.injEq,Ad.iter.injEq,Ad.view.injEq] at h
 all_goals first
  |exact⟨rfl,rfl,rfl⟩
  |(obtain⟨rfl,rfl,rfl⟩:=h;exact⟨rfl,rfl,rfl⟩)
  |(obtain⟨rfl,rfl,h⟩:=h;exact⟨rfl,by simpa[Ad.len,Bl] using Qya h,rfl⟩)
  |(obtain⟨rfl,rfl⟩:=h;exact⟨rfl,rfl,rfl⟩)
def Xx{S S':Ay}{π:List (Nat×Option Nat)}(ab:S'.ok=S.ok)(G:S'.hp=S.hp)(hρ: ∀n m,pm π n=some m->S'.ρ n=S.ρ m)(hρ0: ∀n,pm π n=none->S'.ρ n=none)
 (hh: ∀n m,pm π n=some m-> ∀e',S'.h n=some e'-> ∃e,S.h m=some e/\e.2.esz=e'.2.esz/\e.2.len=e'.2.len){l:Option Fj}{e' e:Ad}(h:Ez π e' e)(O:Au S l e):Au S' l e':=by
 have hp:Bx (λ_=>False) S S':=⟨λb hb=>⟨by rw[ab];exact hb,by rw[G]⟩,λo h=>h.elim⟩;cases e' with
 |cells T cs=>
  cases e<;>simp only[Ez] at h;obtain⟨rfl,h⟩:=h;simp only[Au] at O⊢;obtain⟨lc,vs,h1,Q,h3,h4⟩:=O;exact⟨lc,vs,h1,Q,by rw[G];exact h3,Qts ab G hρ hρ0 hh _ _ _ h h4⟩
 |arrA T k rows=>
  have hR: ∀(Z rs:List (List AV)) (vs:List Value),Gk π Z rs->BB S k rs vs->BB S' k Z vs:=by
   intro Z;induction Z with
   |nil=>intro rs vs _ _;simp only[BB]
   |cons x r ih=>
    intro rs vs h hc;cases rs with
    |nil=>exact h.elim
    |cons y s=>
     simp only[BB] at hc⊢;have hP: ∀(xs ys:List AV) (vs:List Value),Dz π xs ys->Cn S ys vs->Cn S' xs vs:=by
      intro xs;induction xs with
      |nil=>intro ys vs _ _;simp only[Cn]
      |cons a l ac=>
       intro ys vs h hc;cases ys with
       |nil=>simp only[Dz] at h
       |cons b t=>
        simp only[Dz] at h;simp only[Cn] at hc⊢;obtain⟨v,w,rfl,h1,Q⟩:=hc;exact⟨v,w,rfl,Qyf ab G hρ hρ0 hh a b v h.1 h1,ac t w h.2 Q⟩
     exact⟨by rw[<-hc.1];exact (LJ h.1).symm,hP _ _ _ h.1 hc.2.1,ih s _ h.2 hc.2.2⟩
  have aa: ∀(z:List (List AV)),Gk π rows z->Au S l (.arrA T k z)->Au S' l (.arrA T k rows):=by
   intro z h O;simp only[Au] at O⊢;rw[<-Qya h];refine⟨O.1,?_⟩;cases l with
   |none=>
    have Q:=O.2;simp only at Q;subst Q;cases rows with
    |nil=>rfl
    |cons x r=>exact h.elim
   |some lc=>
    obtain⟨h0,h1,vs,Q,h3,h4⟩:=O;exact⟨h1,vs,by rw[G];exact Q,h3,hR _ _ _ h h4⟩
  cases e<;>simp only[Ez] at h
  case arrA U k' z=>
   obtain⟨rfl,rfl,h⟩:=h;exact aa z h O
  case arr U k' z=>
   obtain⟨rfl,rfl,h⟩:=h;refine aa (Bl z) h ?_;simp only[Au] at O⊢;rw[show (Bl z).length=z.length by simp[Bl]];refine⟨O.1,?_⟩;cases l with
   |none=>have Q:=O.2;simp only at Q;subst Q;rfl
   |some lc=>
    obtain⟨h0,h1,vs,Q,h3,h4⟩:=O;exact⟨h1,vs,Q,h3,gW _ _ h4⟩
 |arr T k rows=>
  simp only[Ez] at h;subst h;exact H8 hp (λlc _=>by rw[G]) _ (by simp[Ad.nms]) O
 |map kt es=>
  simp only[Ez] at h;subst h;exact H8 hp (λlc _=>by rw[G]) _ (by simp[Ad.nms]) O
 |chan q c=>
  simp only[Ez] at h;subst h;exact H8 hp (λlc _=>by rw[G]) _ (by simp[Ad.nms]) O
 |iter q0 q=>
  simp only[Ez] at h;subst h;exact H8 hp (λlc _=>by rw[G]) _ (by simp[Ad.nms]) O
 |view q=>
  simp only[Ez] at h;subst h;exact H8 hp (λlc _=>by rw[G]) _ (by simp[Ad.nms]) O
def jZ{π:List (Nat×Option Nat)}: ∀(H:Ap),ED (NY π H)=true-> ∀n n' e e' m,hget H n=some e->hget H n'=some e'->pm π n=some m->pm π n'=some m->n=n'
 |[],_,n,n',e,e',m,h,_,_,_=>by simp[hget] at h
 |(q,x)::H,hn,n,n',e,e',m,h,h',hp,hp'=>by
  have Q: ∀n e,hget H n=some e-> ∀m,pm π n=some m->some m∈NY π H:=by
   intro n e;clear hn h h' hp hp';induction H with
   |nil=>intro h;simp[hget] at h
   |cons y H ih=>
    obtain⟨q',z⟩:=y;intro h m hm;simp only[hget] at h;simp only[NY,Bi];cases hq:q'==n<;>rw[hq] at h
    .exact .inr (ih (by simpa using h) m hm)
    .have:q'=n:=by simpa using hq
     subst this;exact .inl hm.symm
  have Z:ED (NY π H)=true:=by
   simp only[NY] at hn;cases hq:pm π q<;>rw[hq] at hn<;>simp only[ED,AS] at hn
   .exact hn
   .exact hn.2
  simp only[hget] at h h';by_cases O:q=n<;>by_cases G:q=n'
  .rw[<-O,<-G]
  .subst O
   have:(q==n')=false:=by simpa using G
   rw[this] at h';have hm:=Q n' e' (by simpa using h') m hp';simp only[NY,hp,ED,AS,Nz] at hn
   have:=hn.1
   rw[Gi.2 hm] at this;cases this
  .subst G
   have:(q==n)=false:=by simpa using O
   rw[this] at h;have hm:=Q n e (by simpa using h) m hp;simp only[NY,hp',ED,AS,Nz] at hn
   have:=hn.1
   rw[Gi.2 hm] at this;cases this
  .have h1:(q==n)=false:=by simpa using O
   have h2:(q==n')=false:=by simpa using G
   rw[h1] at h;rw[h2] at h';exact jZ H Z n n' e e' m (by simpa using h) (by simpa using h') hp hp'
def Qll{π:List (Nat×Option Nat)}{s:Aj}: ∀(H:Ap),G0 π s H-> ∀n e',hget H n=some e'->Ea s π e'.1 e'.2 (pm π n)
 |[],_,n,e',h=>by simp[hget] at h
 |(q,(G,x))::H,z,n,e',h=>by
  simp only[G0] at z;simp only[hget] at h;cases hq:q==n<;>rw[hq] at h
  .exact Qll H z.2 n e' (by simpa using h)
  .have:q=n:=by simpa using hq
   subst this;simp only[Ca,AI] at h;subst h;exact z.1
def Qqi{π:List (Nat×Option Nat)}{s:Aj}: ∀(T:List (Nat×AV)),P4 π s T-> ∀t,AD T t= .any\/mt π (AD T t) (AD s.tm t)
 |[],_,t=> .inl rfl
 |(q,x)::T,z,t=>by
  simp only[P4] at z;simp only[AD];cases hq:q==t
  .simpa using Qqi T z.2 t
  .have:q=t:=by simpa using hq
   subst this;exact .inr (by simpa using z.1)
def Qe{C:AX}{N lo:Nat}{π:List (Nat×Option Nat)}{s s':Aj}{a:Act}{w:World}(hc:B9 C N s a w)(hs:A8 lo π s s')(hg:s'.good=true)(ao:C.n0<=lo)(am:C.n0<=s'.nx):B9 C N s' a w:=by
 obtain⟨S,rfl,hc⟩:=hc;obtain⟨ak,ac,hT,hH⟩:=hs;simp only[Aj.good,AS] at hg;obtain⟨ah,ai,aj⟩:=hg
 let S':Ay:=⟨λn=>match pm π n with
  |some m=>S.ρ m
  |none=>none,S.ok,hget s'.h,S.w⟩
 have hρ: ∀n m,pm π n=some m->S'.ρ n=S.ρ m:=by intro n m h;simp only[S',h]
 have hρ0: ∀n,pm π n=none->S'.ρ n=none:=by intro n h;simp only[S',h]
 have O: ∀n m,pm π n=some m-> ∀e',S'.h n=some e'-> ∃e,S.h m=some e/\e.1=e'.1/\Ez π e'.2 e.2:=by
  intro n m hp e' z;have G:=Qll _ hH n e' z;rw[hp] at G;simp only[Ea] at G;cases hx:hget s.h m with
  |none=>rw[hx] at G;exact G.elim
  |some e=>
   obtain⟨mu,e⟩:=e;rw[hx] at G;exact⟨(mu,e),(hc.h m).trans hx,G.1,G.2⟩
 have hh: ∀n m,pm π n=some m-> ∀e',S'.h n=some e'-> ∃e,S.h m=some e/\e.2.esz=e'.2.esz/\e.2.len=e'.2.len:=by
  intro n m hp e' z;obtain⟨e,G,_,Z⟩:=O n m hp e' z;obtain⟨h3,h4,_⟩:=Qxn Z;exact⟨e,G,h3,h4⟩
 have hW:=hc.wf;refine⟨S',rfl,⟨hW.os,hW.tape,hW.output,hW.size,hW.keep,hW.ok0,hW.ok1,hW.oks,?_,?_,?_,hW.gl⟩,λn=>rfl,?_,oK _ ah,?_,hc.size,hc.defers,am,?_⟩
 .intro n e' z;cases hp:pm π n with
  |some m=>
   obtain⟨e,G,_,Z⟩:=O n m hp e' z;rw[hρ n m hp];exact Xx (S:=S) (S':=S') rfl rfl hρ hρ0 hh Z (hW.obj m e G)
  |none=>
   have G:=Qll _ hH n e' z;rw[hp] at G;simp only[Ea] at G;rw[hρ0 n hp];obtain⟨mu,e'⟩:=e';unfold S8 at G;split at G
   .rename_i ab Q;simp only at Q;subst Q;simp[Au]
   .rename_i ab Q;simp only at Q;subst Q;simp[Au]
   .exact G.elim
 .intro n e' l z hl;cases hp:pm π n with
  |none=>rw[hρ0 n hp] at hl;cases hl
  |some m=>
   obtain⟨e,G,Z,h3⟩:=O n m hp e' z;rw[hρ n m hp] at hl
   have:=hW.loc m e l G hl
   rw[<-Z,<-(Qxn h3).2.2];exact this
 .intro n n' e e' l l' he z hl aa hb ag;cases hp:pm π n with
  |none=>rw[hρ0 n hp] at hl;cases hl
  |some m=>
   cases hp':pm π n' with
   |none=>rw[hρ0 n' hp'] at aa;cases aa
   |some m'=>
    obtain⟨x,G,Z,h3⟩:=O n m hp e he;obtain⟨x',ad,af,an⟩:=O n' m' hp' e' z;rw[hρ n m hp] at hl;rw[hρ n' m' hp'] at aa
    have:=hW.inj m m' x x' l l' G ad hl aa hb (by rw[Z,af];exact ag)
    subst this;exact jZ _ ac n n' e e' m he z hp hp'
 .intro t;rcases Qqi _ hT t with h|h
  .rw[h];simp only[Aa]
  .exact Qyf (S:=S) (S':=S') rfl rfl hρ hρ0 hh _ _ _ h (hc.tm t)
 .intro n e he;exact⟨oG _ aj n e he,bZ _ ai n e he⟩
 .intro o ho e' z;have hp:=Z9 π ak o (by omega);obtain⟨e,G,_,Z⟩:=O o o hp e' z;obtain⟨e0,g1,g2,g3,g4⟩:=hc.pre o ho e G;obtain⟨h3,h4,_⟩:=Qxn Z;exact⟨e0,g1,(hρ o o hp).trans g2,h3.symm.trans g3,h4.symm.trans g4⟩
def oZ(F:List Nat): ∀(H:Ap) (n:Nat),hget (Hu F H) n=(hget H n).map λe=>(e.1 && !F.contains n,e.2)
 |[],n=>rfl
 |(q,(z,e))::H,n=>by
  simp only[Hu,hget];cases hq:q==n
  .simpa using oZ F H n
  .have:q=n:=by simpa using hq
   subst this;rfl
def Qxl{C:AX}{N:Nat}(F:List Nat){s:Aj}{a:Act}{w:World}(hc:B9 C N s a w):B9 C N (R3 F s) a w:=by
 obtain⟨S,rfl,hc⟩:=hc;have hp:=He S (λn=> !F.contains n);refine⟨S.ice (λn=> !F.contains n),rfl,UI hc.wf,λn=> ?_,λt=>H9 hp _ _ (λ_ _=>trivial) (hc.tm t),hc.nmT,?_,hc.size,hc.defers,hc.n0,?_⟩
 .show (S.h n).map _=hget (Hu F s.h) n;rw[oZ,hc.h n]
 .intro n e z;have z:hget (Hu F s.h) n=some e:=z;rw[oZ] at z;simp only[Df] at z;obtain⟨x,Z,rfl⟩:=z;exact hc.nmH n x Z
 .intro o Q e' G;obtain⟨e,O,rfl⟩:=UD G;exact hc.pre o Q e O
mutual
def Ll(F:List Nat)(H:Ap): ∀(x:AV),∀m∈(x.fzA F H).nms,m∈x.nms
 | .own n,m,z=>by
   simp only[AV.fzA] at z;cases hF:F.contains n<;>rw[hF] at z
   .simpa using z
   .simp only[Ca] at z;cases hh:hget H n with
    |none=>rw[hh] at z;simpa[Kc] using z
    |some e=>
     obtain⟨O,e⟩:=e;rw[hh] at z;cases e<;>simp only[Kc,GC] at z<;>first|exact z|(simp[AV.nms] at z)
 | .agg G,m,z=>by
   simp only[AV.fzA,AV.nms] at z⊢;exact wJ F H G m z
 | .any,m,z=>by simpa only[AV.fzA] using z
 | .im d,m,z=>by simpa only[AV.fzA] using z
 | .tup G,m,z=>by simpa only[AV.fzA] using z
 | .ptr o p,m,z=>by simpa only[AV.fzA] using z
 | .eptr o i p,m,z=>by simpa only[AV.fzA] using z
 | .mp o,m,z=>by simpa only[AV.fzA] using z
 | .ch o,m,z=>by simpa only[AV.fzA] using z
 | .it o,m,z=>by simpa only[AV.fzA] using z
 | .osl o a n,m,z=>by simpa only[AV.fzA] using z
 | .clo f a c,m,z=>by simpa only[AV.fzA] using z
def wJ(F:List Nat)(H:Ap): ∀(xs:List AV),∀m∈AC (Dw F H xs),m∈AC xs
 |[],m,z=>by simpa[Dw] using z
 |x::r,m,z=>by
  simp only[Dw,AC,Br] at z⊢;exact z.imp (Ll F H x m) (wJ F H r m)
end
def kH(F:List Nat)(H:Ap): ∀(xs:List (List AV)),∀m∈B2 (Dx F H xs),m∈B2 xs
 |[],m,z=>by simpa[Dx] using z
 |x::r,m,z=>by
  simp only[Dx,B2,Br] at z⊢;exact z.imp (wJ F H x m) (kH F H r m)
def R5(F:List Nat)(H:Ap)(e:Ad): ∀m∈(e.fzA F H).nms,m∈e.nms:=by
 intro m z;cases e<;>simp only[Ad.fzA,Ad.nms] at z⊢ <;>try exact z
 .exact wJ F H _ m z
 .exact kH F H _ m z
def Qrp(F:List Nat)(H:Ap): ∀(xs:List (List AV)),(Dx F H xs).length=xs.length
 |[]=>rfl
 |x::r=>by simp only[Dx,CY,Qrp F H r]
def Qzt(F:List Nat)(H:Ap): ∀(xs:List AV),(Dw F H xs).length=xs.length
 |[]=>rfl
 |x::r=>by simp only[Dw,CY,Qzt F H r]
def Qtj(F:List Nat)(H:Ap)(e:Ad):(e.fzA F H).esz=e.esz/\(e.fzA F H).len=e.len/\(e.fzA F H).isView=e.isView:=by
 cases e<;>simp[Ad.fzA,Ad.esz,Ad.len,Ad.isView,Qrp]
def Qrq(F:List Nat)(H:Ap): ∀(T:List (Nat×AV)) (t:Nat),AD (Hw F H T) t=(AD T t).fzA F H
 |[],t=>by simp only[Hw,AD,AV.fzA]
 |(q,x)::T,t=>by
  simp only[Hw,AD];cases hq:q==t
  .simpa using Qrq F H T t
  .rfl
def Qss(F:List Nat)(H0:Ap): ∀(H:Ap) (n:Nat),hget (Hv F H0 H) n=(hget H n).map λe=>(e.1 && !F.contains n,e.2.fzA F H0)
 |[],n=>rfl
 |(q,(z,e))::H,n=>by
  simp only[Hv,hget];cases hq:q==n
  .simpa using Qss F H0 H n
  .have:q=n:=by simpa using hq
   subst this;rfl
section
variable {C:AX}{S:Ay}{F:List Nat}{H:Ap}(hW:Wf C S)(hH: ∀n e,F.contains n=true->hget H n=some e->S.h n=some (false,e.2))
include hW hH
def Oy{n:Nat}{v:Value}(hF:F.contains n=true)(h:Aa S (.own n) v):Aa S (Kc n (hget H n)) v:=by
 cases hh:hget H n with
 |none=>exact h
 |some e=>
  have G:=hH n e hF hh;obtain⟨mu,e⟩:=e;cases e<;>simp only[Kc,GC]<;>try exact h
  rename_i U w rows;simp only[Aa] at h⊢;have Q:=h.2 _ G;have z:=hW.obj n _ G;have Z:=λl=>hW.loc n _ l G
  simp only[Au] at z;simp only[rd];cases hl:S.ρ n with
  |none=>
   rw[hl] at Q z;exact .inl ⟨.inl Q,z.2⟩
  |some l=>
   rw[hl] at Q z;have O:=(Z l hl).2;simp only[Ad.isView,CE,dP,Cy] at O;obtain⟨g0,g1,vs,g2,g3,g4⟩:=z;exact .inr ⟨l.b,l.p,l.cap,vs,U,(0,0),Q,by simp,g1,g0,O,g2,g4⟩
mutual
def Qte: ∀(x:AV) (v:Value),Aa S x v->Aa S (x.fzA F H) v
 | .own n,v,h=>by
   simp only[AV.fzA];cases hF:F.contains n
   .exact h
   .exact Oy hW hH hF h
 | .agg z,v,h=>by
   simp only[AV.fzA,Aa] at h⊢;obtain⟨G,rfl,h⟩:=h;exact⟨G,rfl,Qom _ _ h⟩
 | .any,v,h=>by simpa only[AV.fzA] using h
 | .im d,v,h=>by simpa only[AV.fzA] using h
 | .tup z,v,h=>by simpa only[AV.fzA] using h
 | .ptr o p,v,h=>by simpa only[AV.fzA] using h
 | .eptr o i p,v,h=>by simpa only[AV.fzA] using h
 | .mp o,v,h=>by simpa only[AV.fzA] using h
 | .ch o,v,h=>by simpa only[AV.fzA] using h
 | .it o,v,h=>by simpa only[AV.fzA] using h
 | .osl o a n,v,h=>by simpa only[AV.fzA] using h
 | .clo f a c,v,h=>by simpa only[AV.fzA] using h
def Qom: ∀(xs:List AV) (vs:List Value),AM S xs vs->AM S (Dw F H xs) vs
 |[],_,h=>by simpa only[Dw] using h
 |x::l,vs,h=>by
  simp only[Dw,AM] at h⊢;obtain⟨v,r,rfl,z,G⟩:=h;exact⟨v,r,rfl,Qte x v z,Qom l r G⟩
end
def Quw: ∀(xs:List AV) (vs:List Value),Cn S xs vs->Cn S (Dw F H xs) vs
 |[],_,h=>by simp only[Dw,Cn]
 |x::l,vs,h=>by
  simp only[Dw,Cn] at h⊢;obtain⟨v,r,rfl,z,G⟩:=h;exact⟨v,r,rfl,Qte hW hH x v z,Quw l r G⟩
def Qu9(k:Nat): ∀(xs:List (List AV)) (vs:List Value),BB S k xs vs->BB S k (Dx F H xs) vs
 |[],_,h=>by simp only[Dx,BB]
 |x::l,vs,h=>by
  simp only[Dx,BB] at h⊢;exact⟨by rw[Qzt];exact h.1,Quw hW hH x vs h.2.1,Qu9 k l _ h.2.2⟩
def NV{l:Option Fj}(e:Ad)(h:Au S l e):Au S l (e.fzA F H):=by
 cases e<;>simp only[Ad.fzA]<;>try exact h
 .simp only[Au] at h⊢;obtain⟨lc,Z,G,z,O,Q⟩:=h;exact⟨lc,Z,G,z,O,Qom hW hH _ _ Q⟩
 .rename_i T k rows;simp only[Au,Qrp] at h⊢;refine⟨h.1,?_⟩;cases l with
  |none=>
   have z:=h.2;simp only at z;subst z;rfl
  |some lc=>
   obtain⟨h0,G,Z,z,O,Q⟩:=h;exact⟨G,Z,z,O,Qu9 hW hH k _ _ Q⟩
end
def pY{C:AX}{N:Nat}(F:List Nat){s:Aj}{a:Act}{w:World}(hc:B9 C N s a w):B9 C N (R6 F s) a w:=by
 obtain⟨S,rfl,aa⟩:=Qxl F hc;clear hc;have hc:=aa;clear aa
 let S':Ay:=⟨S.ρ,S.ok,hget (Hv F s.h s.h),S.w⟩
 have Q: ∀n,S.h n=(hget s.h n).map λe=>(e.1 && !F.contains n,e.2):=by
  intro n;rw[hc.h n];exact oZ F s.h n
 have hH: ∀n e,F.contains n=true->hget s.h n=some e->S.h n=some (false,e.2):=by
  intro n e hF he;rw[Q,he];simp only[Ds,hF,Zj,Zg]
 have G: ∀n e',S'.h n=some e'-> ∃e,S.h n=some e/\e'.1=e.1/\e'.2=e.2.fzA F s.h:=by
  intro n e' z;have z:hget (Hv F s.h s.h) n=some e':=z;rw[Qss] at z;simp only[Df] at z;obtain⟨x,hx,rfl⟩:=z;exact⟨(x.1 && !F.contains n,x.2),by rw[Q,hx];rfl,rfl,rfl⟩
 have hp:Bx (λ_=>True) S S':=⟨λb hb=>⟨hb,rfl⟩,λo _ e' z=>by
  obtain⟨e,O,h2,Z⟩:=G o e' z;obtain⟨g1,g2,_⟩:=Qtj F s.h e.2;exact⟨e,O,rfl,by rw[Z];exact g1,by rw[Z];exact g2⟩⟩
 have hW:=hc.wf;refine⟨S',rfl,⟨hW.os,hW.tape,hW.output,hW.size,hW.keep,hW.ok0,hW.ok1,hW.oks,?_,?_,?_,hW.gl⟩,λn=>rfl,?_,?_,?_,hc.size,hc.defers,hc.n0,?_⟩
 .intro o e' z;obtain⟨e,O,h2,Z⟩:=G o e' z;rw[Z];exact H8 hp (λlc _=>rfl) _ (λ_ _=>trivial) (NV hW hH e.2 (hW.obj o e O))
 .intro o e' l z hl;obtain⟨e,O,h2,Z⟩:=G o e' z
  have:=hW.loc o e l O hl
  rw[h2,Z,(Qtj F s.h e.2).2.2];exact this
 .intro o o' e e' l l' he z hl af hb ad;obtain⟨x,O,h2,Z⟩:=G o e he;obtain⟨x',ab,ac,ag⟩:=G o' e' z;exact hW.inj o o' x x' l l' O ab hl af hb (by rw[<-h2,<-ac];exact ad)
 .intro t;show Aa S' (AD (Hw F s.h s.tm) t) _;rw[Qrq];exact H9 hp _ _ (λ_ _=>trivial) (Qte hW hH _ _ (hc.tm t))
 .intro t m hm;have hm:m∈(AD (Hw F s.h s.tm) t).nms:=hm;rw[Qrq] at hm;exact hc.nmT t m (Ll F s.h _ m hm)
 .intro n e he;have he:hget (Hv F s.h s.h) n=some e:=he;rw[Qss] at he;simp only[Df] at he;obtain⟨x,hx,rfl⟩:=he;have O:hget (R3 F s).h n=some (x.1 && !F.contains n,x.2):=by
   show hget (Hu F s.h) n=_;rw[oZ,hx];rfl
  obtain⟨g1,g2⟩:=hc.nmH n _ O;exact⟨g1,λm hm=>g2 m (R5 F s.h x.2 m hm)⟩
 .intro o ho e' z;obtain⟨e,O,h2,Z⟩:=G o e' z;obtain⟨e0,g1,g2,g3,g4⟩:=hc.pre o ho e O;obtain⟨q1,q2,_⟩:=Qtj F s.h e.2;exact⟨e0,g1,g2,by rw[Z,q1];exact g3,by rw[Z,q2];exact g4⟩
def MU{p:Nat->Prop}: ∀n,p n-> ∃m,p m/\ ∀k,k<m-> ¬p k:=by
 intro n;induction n using Nat.strongRecOn with
 |_ n ih=>
  intro hn;by_cases h: ∃k,k<n/\p k
  .obtain⟨k,G,z⟩:=h;exact ih k G z
  .exact⟨n,hn,λk G z=>h ⟨k,G,z⟩⟩
section
variable {P:Program}{V:CK}{C:AX}{N:Nat}
def YE{x:Cb}{Q:Cb}{next:Act->World->Prop}(G: ∀s a w,x .normal s->B9 C N s a w->next a w)(O: ∀i s,x (.exit i) s->Q (.exit i) s)(Z: ∀s,x .ret s->Q .ret s):
 ∀e a w,FB C N x e a w->Exit.then next (FB C N Q) e a w:=by
 intro e a w h;cases e<;>simp only[FB] at h<;>simp only[Exit.then,FB]
 .obtain⟨s,z,hc⟩:=h;exact G s a w z hc
 .obtain⟨s,z,hc⟩:=h;exact⟨s,O _ s z,hc⟩
 .obtain⟨s,z,hc⟩:=h;exact⟨s,Z s z,hc⟩
def Qo4(HM:P.follows .mixedOrders=true)(HV:GI P V): ∀(c:Code),DY N c=true-> ∀(Q:Cb) (s:Aj) (a:Act) (w:World),CM P V c Q s->B9 C N s a w->c.wp P (FB C N Q) a w:=by
 intro c;induction c with
 |skip=>intro _ Q s a w h hc;exact wp_skip ⟨s,h,hc⟩
 |region id ops an=>
  intro hk Q s a w h hc;simp only[DY,AS] at hk;cases an with
  |true=>exact Qtk HM HV (λs a w h1 h2=>⟨s,h1,h2⟩) hk.1 (by simpa using hk.2) h hc
  |false=>exact Qt0 HV (λs a w h1 h2=>⟨s,h1,h2⟩) hk.1 h hc
 |seq x y ak am=>
  intro hk Q s a w h hc;simp only[DY,AS] at hk;simp only[CM] at h;refine wp_seq (wp_mono (ak hk.1 _ s a w h hc) (YE ?_ ?_ ?_))
  .intro s a w Z hc;exact am hk.2 Q s a w Z hc
  .intro i s Z;exact Z
  .intro s Z;exact Z
 |cond c x y ak am=>
  intro hk Q s a w h hc;simp only[DY,AS] at hk;simp only[CM] at h;obtain⟨S,ao,aj⟩:=hc;have h1:=Qb aj c;cases hv:Aw s.tm c<;>rw[hv] at h<;>try exact h.elim
  rename_i d;cases d<;>try exact h.elim
  rename_i b;rw[hv] at h1;simp only[Aa,rd] at h1;simp only[qQ] at h;refine wp_cond_split h1 (λhb=>ak hk.1 Q s a w (h.1 hb) ⟨S,ao,aj⟩) (λhb=>am hk.2 Q s a w (h.2 hb) ⟨S,ao,aj⟩)
 |block id c ih=>
  intro hk Q s a w h hc;simp only[CM] at h;refine wp_block (wp_mono (ih hk _ s a w h hc) ?_);intro e a w he;cases e<;>simp only[FB] at he<;>simp only[Exit.inBlock,FB]
  .exact he
  .rename_i i;obtain⟨s,Z,hc⟩:=he;simp only[iP] at Z;by_cases hi:i=id
   .subst hi;rw[Ao rfl];exact⟨s,by simpa[I2] using Z,hc⟩
   .rw[Ag hi]
    have:(i==id)=false:=by simpa using hi
    rw[this] at Z;exact⟨s,Z,hc⟩
  .exact he
 |loop c ih=>
  intro hk Q s a w h hc;have ai: ∀(s:Aj),YI (CM P V c) Q s->B9 C N s a w->(Code.loop c).wp P (FB C N Q) a w:=by
   clear h hc;intro s h hc;simp only[YI] at h;obtain⟨β,I,μ,z,⟨b0,ad⟩,G⟩:=h
   let p:Act->World->Nat->Prop:=λa w n=> ∃b,B9 C N (I b) a w/\μ b=n
   let μ':Act->World->Nat:=λa w=>Classical.epsilon λn=>p a w n/\ ∀k,k<n-> ¬p a w k
   have hμ: ∀a w b,B9 C N (I b) a w->p a w (μ' a w)/\ ∀k,k<μ' a w-> ¬p a w k:=by
    intro a w b hb;exact iU (p:=λn=>p a w n/\ ∀k,k<n-> ¬p a w k) (MU (μ b) ⟨b,hb,rfl⟩)
   have ab: ∀b,C.n0<=(I b).nx:=by
    intro b;obtain⟨S,_,h⟩:=hc;exact Dt h.n0 (z b).2
   refine wp_loop (λa w=> ∃b,B9 C N (I b) a w) μ' ⟨b0,iK hc ad (z b0).1 (ab b0)⟩ ?_;rintro a w ⟨b,hb⟩;obtain⟨⟨b1,af,au⟩,_⟩:=hμ a w b hb;refine wp_mono (ih hk _ _ a w (G b1) af) (YE ?_ ?_ ?_)
   .rintro s' a' w' ⟨b',aq,ac⟩ ag;have O:=iK ag ac (z b').1 (ab b');refine⟨⟨b',O⟩,?_⟩;obtain⟨_,aa⟩:=hμ a' w' b' O;rcases EO (μ b') (μ' a' w') with h1|h1
    .exact absurd ⟨b',O,rfl⟩ (aa _ h1)
    .omega
   .intro i s Z;exact Z
   .intro s Z;exact Z
  simp only[CM,AR] at h;rcases h with h|h|⟨F,h⟩|h
  .exact ai s h hc
  .simp only[xK] at h;obtain⟨β,I,μ,z,⟨b0,π0,ad⟩,G⟩:=h
   let p:Act->World->Nat->Prop:=λa w n=> ∃b,B9 C N (I b) a w/\μ b=n
   let μ':Act->World->Nat:=λa w=>Classical.epsilon λn=>p a w n/\ ∀k,k<n-> ¬p a w k
   have hμ: ∀a w b,B9 C N (I b) a w->p a w (μ' a w)/\ ∀k,k<μ' a w-> ¬p a w k:=by
    intro a w b hb;exact iU (p:=λn=>p a w n/\ ∀k,k<n-> ¬p a w k) (MU (μ b) ⟨b,hb,rfl⟩)
   have ah:C.n0<=s.nx:=by
    obtain⟨S,_,h⟩:=hc;exact h.n0
   have ab: ∀b,C.n0<=(I b).nx:=by
    intro b;obtain⟨S,_,h⟩:=hc;exact Dt h.n0 (z b).2
   refine wp_loop (λa w=> ∃b,B9 C N (I b) a w) μ' ⟨b0,Qe hc ad (z b0).1 ah (ab b0)⟩ ?_;rintro a w ⟨b,hb⟩;obtain⟨⟨b1,af,au⟩,_⟩:=hμ a w b hb;refine wp_mono (ih hk _ _ a w (G b1) af) (YE ?_ ?_ ?_)
   .rintro s' a' w' ⟨b',π,aq,ac⟩ ag;have O:=Qe ag ac (z b').1 ah (ab b');refine⟨⟨b',O⟩,?_⟩;obtain⟨_,aa⟩:=hμ a' w' b' O;rcases EO (μ b') (μ' a' w') with h1|h1
    .exact absurd ⟨b',O,rfl⟩ (aa _ h1)
    .omega
   .intro i s Z;exact Z
   .intro s Z;exact Z
  .exact ai _ h (Qxl F hc)
  .simp only[xI] at h;obtain⟨β,I,μ,z,⟨b0,F0,π0,ad⟩,G⟩:=h
   let p:Act->World->Nat->Prop:=λa w n=> ∃b,B9 C N (I b) a w/\μ b=n
   let μ':Act->World->Nat:=λa w=>Classical.epsilon λn=>p a w n/\ ∀k,k<n-> ¬p a w k
   have hμ: ∀a w b,B9 C N (I b) a w->p a w (μ' a w)/\ ∀k,k<μ' a w-> ¬p a w k:=by
    intro a w b hb;exact iU (p:=λn=>p a w n/\ ∀k,k<n-> ¬p a w k) (MU (μ b) ⟨b,hb,rfl⟩)
   have ah:C.n0<=s.nx:=by
    obtain⟨S,_,h⟩:=hc;exact h.n0
   have ab: ∀b,C.n0<=(I b).nx:=by
    intro b;obtain⟨S,_,h⟩:=hc;exact Dt h.n0 (z b).2
   refine wp_loop (λa w=> ∃b,B9 C N (I b) a w) μ' ⟨b0,Qe (pY F0 hc) ad (z b0).1 ah (ab b0)⟩ ?_;rintro a w ⟨b,hb⟩;obtain⟨⟨b1,af,au⟩,_⟩:=hμ a w b hb;refine wp_mono (ih hk _ _ a w (G b1) af) (YE ?_ ?_ ?_)
   .rintro s' a' w' ⟨b',F,π,aq,ac⟩ ag;have O:=Qe (pY F ag) ac (z b').1 ah (ab b');refine⟨⟨b',O⟩,?_⟩;obtain⟨_,aa⟩:=hμ a' w' b' O;rcases EO (μ b') (μ' a' w') with h1|h1
    .exact absurd ⟨b',O,rfl⟩ (aa _ h1)
    .omega
   .intro i s Z;exact Z
   .intro s Z;exact Z
 |exit id=>intro _ Q s a w h hc;exact wp_exit ⟨s,h,hc⟩
 |ret=>intro _ Q s a w h hc;exact wp_ret ⟨s,h,hc⟩
 |_=>intro hk;simp[DY] at hk
end
def iD(P:Program)(g:FuncId):Prop:=g<1000000000/\ ∃fn,P.funcs[g]? =some fn/\(fn.name== "runtime.NumGoroutine")=false/\fn.body.isNone=false
def PM(P:Program)(g:FuncId)(args:List AV)(h:Nat->Option Aq)(nx:Nat)(r:AV)(E:Bk):Prop:=
 ∀(C:AX) (S:Ay) (vs:Array Value) (R:Ending->World->Prop),
  Wf C S->(∀n∈E.use++E.kill,S.h n=h n)->(∀n,Fr nx E.cnt n->S.h n=none)->
  (∀n e,S.h n=some e-> ∀m∈e.2.nms,¬Fr nx E.cnt m)->
  AM S args vs.toList->
  (∀v S',Wf C S'->S'.h=E.appf S.h->Bx (λm=> ¬Fr nx E.cnt m) S S'->Aa S' r v->R (.returned v) S'.w)->
  Calls P g vs S.w R
def Ja(P:Program)(V:CK):Prop:= ∀g args h nx K,V g args h nx K->iD P g/\ ∃r E,PM P g args h nx r E/\K r E
def oH{P:Program}{g:FuncId}(h:iD P g)(args:Array Value)(w:World):(callFunc g args).run P w= .ok (.enter g args) w:=by
 obtain⟨_,fn,O,Q,Z⟩:=h;have z:fn.name≠ "runtime.NumGoroutine" :=by simpa using Q
 have G:fn.body≠none:=by intro h;simp[h] at Z
 simp[callFunc,O,z,G]
def wS{S:Ay}{tm:List (Nat×AV)}{a:Act}: ∀(xs:List Operand),(∀x∈xs,Aa S (Aw tm x) (a.eval x))->AM S (Du tm xs) (xs.map a.eval)
 |[],_=>by simp[Du,AM]
 |x::xs,h=>by
  simp only[Du,Bd,AM];exact⟨_,_,rfl,h x (by simp),wS xs (λy z=>h y (by simp[z]))⟩
def WC{P:Program}{V:CK}(hV:Ja P V)(tm:List (Nat×AV))(h:Nat->Option Aq)(nx:Nat)(o:Oper)(c:Call)(f:Operand)(K:Ai)(ho:o.op= .call c)(z:c.callee= .value f)
 (hk:PR V (Du tm c.args.toList) h nx K (Aw tm f)):BJ P tm h nx o K:=by
 have ag:f∈o.op.operands:=by rw[ho];simp[Op.operands,Call.operands,z]
 have af: ∀x∈c.args.toList,x∈o.op.operands:=by
  intro x hx;rw[ho];simp only[Op.operands,Call.operands,z];simp;exact .inr (by simpa using hx)
 have aa: ∀(g:FuncId) (fi ca:List AV),V g (fi++Du tm c.args.toList++ca) h nx K->(∀(S:Ay) (v:Value),Aa S (Aw tm f) v-> ∃a b:Array Value,v= .func (UV g) a b/\AM S fi a.toList/\AM S ca b.toList)->BJ P tm h nx o K:=by
  intro g fi ca Z hf;obtain⟨G,r,E,hT,hK⟩:=hV _ _ _ _ _ Z;refine⟨r,E,?_,hK⟩;intro C S a next Q hW hu ai ad O hn
  obtain⟨x,y,ac,hx,hy⟩:=hf S _ (O f ag);rw[Wm G.1] at ac;have ab:=wS c.args.toList (λx hx=>O x (af x hx));unfold Oper.wp;have ah:(execOp a.eval o).run P S.w= .ok (.enter g (x++c.args.map a.eval++y)) S.w:=by
   simp only[execOp,ho,resolve,z,ac,Sem.run_bind];simp[Deferred.ofValue,invoke,oH G]
  rw[ah,Oper.upon_enter];refine hT C S _ _ hW hu ai ad ?_ ?_
  .simp only[Zec,UT];exact Qop _ _ _ _ (Qop _ _ _ _ hx ab) hy
  .intro v S' h1 h2 h3 h4;exact hn v S' h1 h2 h3 h4
 cases hf:Aw tm f<;>rw[hf] at hk<;>try exact hk.elim
 case im d=>
  cases d<;>try exact hk.elim
  rename_i g first capt
  refine aa g (first.map .im) (capt.map .im) hk ?_;intro S v Z;rw[hf] at Z;simp only[Aa,rd] at Z;obtain⟨a,b,h1,h2,h3⟩:=Z;exact⟨a,b,h1,(Ia _ _).2 h2,(Ia _ _).2 h3⟩
 case clo g first capt=>
  refine aa g first capt hk ?_
  intro S v Z;rw[hf] at Z;simpa only[Aa] using Z
def Sq{P:Program}{t:TypeId}{m:String}{f:FuncId}(h:V7 P t m=some f)(n:Nat)(v:Value)(w:World):(method (n+1) t v m).run P w= .ok (f,v) w:=by
 unfold V7 at h;split at h
 .cases h
 .rename_i u z hu;unfold Z4 at h;split at h
  .rename_i i hi;split at h
   .rename_i mm hm;cases hp:mm.path.isEmpty with
    |false=>rw[hp] at h;cases h
    |true=>
     rw[hp,Ca] at h;split at h
     .rename_i g hg;obtain rfl:=AE h;have G:mm.path.toList=[]:=by simpa using hp
      have Q:(typeInfo t).run P w= .ok i w:=by simp[typeInfo,hi]
      have Z:(underlying t).run P w= .ok u w:=by simp[underlying,hu]
      have O:(receiverAt t (.val v) false (if mm.path.isEmpty then some ((m.splitOn ".").getLastD m) else none)).run P w= .ok v w:=by
       unfold receiverAt;rw[Sem.run_bind,Z];cases u<;>first|rfl|exact (z _ rfl).elim
      unfold method;simp only[Sem.run_bind,Q,Result.andThen_ok,hm,G,follow,Sem.run_pure,hg,O]
     .cases h
   .cases h
  .cases h
 .cases h
def cM{P:Program}{V:CK}(hV:Ja P V):GI P V:=by
 refine⟨λtm h nx o c f K ho z _ G=>WC hV tm h nx o c f K ho z G,?_⟩;intro tm h nx o c rc m K ho z hnm G;have ad:rc∈o.op.operands:=by rw[ho];simp[Op.operands,Call.operands,z]
 have ac: ∀x∈c.args.toList,x∈o.op.operands:=by
  intro x hx;rw[ho];simp only[Op.operands,Call.operands,z];simp;exact .inr (by simpa using hx)
 cases hr:Aw tm rc<;>rw[hr] at G<;>try exact G.elim
 rename_i d;cases d<;>try exact G.elim
 rename_i t d;simp only[M2] at G;cases hm:V7 P t m with
 |none=>rw[hm] at G;exact G.elim
 |some g=>
 rw[hm] at G;simp only[VC] at G;obtain⟨aa,r,E,hT,hK⟩:=hV _ _ _ _ _ G;refine⟨r,E,?_,hK⟩;intro C S a next Q hW hu ag ab O hn
 have h1:=O rc ad;rw[hr] at h1;simp only[Aa,rd] at h1;obtain⟨x,hx,ah⟩:=h1;have Z:=wS c.args.toList (λx hx=>O x (ac x hx));unfold Oper.wp;have af:(execOp a.eval o).run P S.w= .ok (.enter g (#[x]++c.args.map a.eval)) S.w:=by
  simp only[execOp,ho,resolve,z,hx,Sem.run_bind];simp[invoke,callMethod];have e0:(#[Value.iface t x]++Array.map a.eval c.args)[0]? =some (.iface t x):=by rw[ZdC (by simp)];rfl
  obtain⟨n,hn1⟩: ∃n,P.types.size+Made.depth=n+1:=⟨P.types.size+99,by simp[Made.depth]⟩;have e1:(Array.map a.eval c.args).extract 0 c.args.size=Array.map a.eval c.args:=by
   have:=rU (xs:=Array.map a.eval c.args)
   rwa [Array.size_map] at this
  rw[e0];simp only[Sem.run_bind,run_program,Result.andThen_ok,hn1,Sq hm,e1];exact oH aa _ _
 rw[af,Oper.upon_enter];refine hT C S _ _ hW hu ag ab ?_ ?_
 .simp only[Zec,UT];exact⟨x,_,rfl,ah,Z⟩
 .intro v S' h1 h2 h3 h4;exact hn v S' h1 h2 h3 h4
mutual
def AV.ren(σ:Nat->Nat):AV->AV
 | .any=> .any
 | .im d=> .im d
 | .agg z=> .agg (AL σ z)
 | .tup z=> .tup (AL σ z)
 | .ptr o p=> .ptr (σ o) p
 | .eptr o i p=> .eptr (σ o) i p
 | .own o=> .own (σ o)
 | .mp o=> .mp (σ o)
 | .ch o=> .ch (σ o)
 | .it o=> .it (σ o)
 | .osl o a n=> .osl (σ o) a n
 | .clo f a c=> .clo f (AL σ a) (AL σ c)
def AL(σ:Nat->Nat):List AV->List AV
 |[]=>[]
 |x::r=>x.ren σ::AL σ r
end
def Qze(σ:Nat->Nat): ∀(l:List AV),AL σ l=l.map (AV.ren σ)
 |[]=>rfl
 |x::r=>by simp only[AL,Bd,Qze σ r]
def Ad.ren(σ:Nat->Nat):Ad->Ad
 | .cells T z=> .cells T (AL σ z)
 | .arr T k rows=> .arr T k rows
 | .arrA T k rows=> .arrA T k (rows.map (AL σ))
 | .map O G=> .map O G
 | .chan q cap=> .chan q cap
 | .iter a l=> .iter a l
 | .view z=> .view z
def wW(σ:Nat->Nat)(e:Ad):(e.ren σ).esz=e.esz:=by cases e<;>rfl
def xH(σ:Nat->Nat)(e:Ad):(e.ren σ).len=e.len:=by cases e<;>simp[Ad.ren,Ad.len]
section
variable {S S':Ay}{σ τ:Nat->Nat}
structure Nu(S S':Ay)(σ τ:Nat->Nat)(n:Nat):Prop where
 a: ∀e',S'.h (τ n)=some e'-> ∃e,S.h (σ n)=some e/\S'.ρ (τ n)=S.ρ (σ n)/\e'.2.esz=e.2.esz/\e'.2.len=e.2.len
mutual
def Qz8(aa: ∀b,S.ok b->S'.ok b/\S'.hp b=S.hp b): ∀(z:AV) (v:Value),(∀n∈z.nms,Nu S S' σ τ n)->Aa S (z.ren σ) v->Aa S' (z.ren τ) v
 | .any,_,_,_=>by simp only[AV.ren,Aa]
 | .im d,v,_,h=>by
   simp only[AV.ren,Aa] at h⊢;exact Gs aa d v h
 | .agg cs,v,O,h=>by
   simp only[AV.ren,Aa,AV.nms] at h O⊢;obtain⟨vs,rfl,h1⟩:=h;exact⟨vs,rfl,bM aa cs _ O h1⟩
 | .tup cs,v,O,h=>by
   simp only[AV.ren,Aa,AV.nms] at h O⊢;obtain⟨vs,rfl,h1⟩:=h;exact⟨vs,rfl,bM aa cs _ O h1⟩
 | .ptr o off,v,O,h=>by
   simp only[AV.ren,Aa,AV.nms,BE,KF] at h O⊢;obtain⟨G,h⟩:=h;refine⟨G,?_⟩;intro e' Q;obtain⟨e,Z,hr,_,_⟩:=O.a e' Q;rw[hr];exact h e Z
 | .eptr o i off,v,O,h=>by
   simp only[AV.ren,Aa,AV.nms,BE,KF] at h O⊢;obtain⟨G,h⟩:=h;refine⟨G,?_⟩;intro e' Q;obtain⟨e,Z,hr,hz,_⟩:=O.a e' Q;rw[hr,hz];exact h e Z
 | .own o,v,O,h=>by
   simp only[AV.ren,Aa,AV.nms,BE,KF] at h O⊢;obtain⟨G,h⟩:=h;refine⟨G,?_⟩;intro e' Q;obtain⟨e,Z,hr,_,hl⟩:=O.a e' Q;rw[hr,hl];exact h e Z
 | .mp o,v,O,h=>by
   simp only[AV.ren,Aa,AV.nms,BE,KF] at h O⊢;obtain⟨G,h⟩:=h;refine⟨G,?_⟩;intro e' Q;obtain⟨e,Z,hr,_,_⟩:=O.a e' Q;rw[hr];exact h e Z
 | .ch o,v,O,h=>by
   simp only[AV.ren,Aa,AV.nms,BE,KF] at h O⊢;obtain⟨G,h⟩:=h;refine⟨G,?_⟩;intro e' Q;obtain⟨e,Z,hr,_,_⟩:=O.a e' Q;rw[hr];exact h e Z
 | .it o,v,O,h=>by
   simp only[AV.ren,Aa,AV.nms,BE,KF] at h O⊢;obtain⟨G,h⟩:=h;refine⟨G,?_⟩;intro e' Q;obtain⟨e,Z,hr,_,_⟩:=O.a e' Q;rw[hr];exact h e Z
 | .osl o a n,v,O,h=>by
   simp only[AV.ren,Aa,AV.nms,BE,KF] at h O⊢;obtain⟨G,h⟩:=h;refine⟨G,?_⟩;intro e' Q;obtain⟨e,Z,hr,hz,hl⟩:=O.a e' Q;rw[hr,hz,hl];exact h e Z
 | .clo f fi ca,v,O,h=>by
   simp only[AV.ren,Aa,AV.nms,Br] at h O⊢;obtain⟨a,c,rfl,h1,h2⟩:=h;exact⟨a,c,rfl,bM aa fi _ (λo ho=>O o (.inl ho)) h1,bM aa ca _ (λo ho=>O o (.inr ho)) h2⟩
def bM(z: ∀b,S.ok b->S'.ok b/\S'.hp b=S.hp b): ∀(Q:List AV) (vs:List Value),(∀n∈AC Q,Nu S S' σ τ n)->AM S (AL σ Q) vs->AM S' (AL τ Q) vs
 |[],_,_,h=>by simpa only[AL,AM] using h
 |x::xs,vs,O,h=>by
  simp only[AL,AM,AC,Br] at h O⊢;obtain⟨v,r,rfl,Z,h2⟩:=h;exact⟨v,r,rfl,Qz8 z x v (λo G=>O o (.inl G)) Z,bM z xs r (λo G=>O o (.inr G)) h2⟩
end
def Qt9(z: ∀b,S.ok b->S'.ok b/\S'.hp b=S.hp b): ∀(Q:List AV) (vs:List Value),(∀n∈AC Q,Nu S S' σ τ n)->Cn S (AL σ Q) vs->Cn S' (AL τ Q) vs
 |[],_,_,h=>by simp only[AL,Cn]
 |x::xs,vs,O,h=>by
  simp only[AL,Cn,AC,Br] at h O⊢;obtain⟨v,r,rfl,Z,h2⟩:=h;exact⟨v,r,rfl,Qz8 z x v (λo G=>O o (.inl G)) Z,Qt9 z xs r (λo G=>O o (.inr G)) h2⟩
def Qsc(σ:Nat->Nat)(l:List AV):(AL σ l).length=l.length:=by rw[Qze];simp
def Qva(z: ∀b,S.ok b->S'.ok b/\S'.hp b=S.hp b)(k:Nat): ∀(G:List (List AV)) (vs:List Value),(∀n∈B2 G,Nu S S' σ τ n)->BB S k (G.map (AL σ)) vs->BB S' k (G.map (AL τ)) vs
 |[],_,_,h=>by simp only[GR,BB]
 |r::G,vs,Q,h=>by
  simp only[Bd,BB,B2,Br,Qsc] at h Q⊢;exact⟨h.1,Qt9 z r vs (λo O=>Q o (.inl O)) h.2.1,Qva z k G _ (λo O=>Q o (.inr O)) h.2.2⟩
def Qzw(G: ∀b,S.ok b->S'.ok b/\S'.hp b=S.hp b){l:Option Fj}(hl: ∀z,l=some z->S'.hp z.b=S.hp z.b): ∀(e:Ad),(∀n∈e.nms,Nu S S' σ τ n)->Au S l (e.ren σ)->Au S' l (e.ren τ)
 | .cells T cs,hx,h=>by
   simp only[Ad.ren,Au,Ad.nms] at h hx⊢;obtain⟨z,vs,O,Z,h3,h4⟩:=h;exact⟨z,vs,O,Z,(hl z O).trans h3,bM G cs _ hx h4⟩
 | .arr T k rows,hx,h=>by
   simp only[Ad.ren,Au] at h⊢;refine⟨h.1,?_⟩;cases l with
   |none=>exact h.2
   |some z=>
    obtain⟨h0,O,vs,Z,h3,h4⟩:=h;exact⟨O,vs,(hl z rfl).trans Z,h3,YC G k rows _ h4⟩
 | .arrA T k rows,hx,h=>by
   simp only[Ad.ren,Au,Ad.nms,FM] at h hx⊢;refine⟨h.1,?_⟩;cases l with
   |none=>
    have:=h.2
    simp only[List.map_eq_nil_iff] at this⊢;exact this
   |some z=>
    obtain⟨h0,O,vs,Z,h3,h4⟩:=h;exact⟨O,vs,(hl z rfl).trans Z,h3,Qva G k rows _ hx h4⟩
 | .map kt es,_,h=>by
   simp only[Ad.ren,Au] at h⊢;obtain⟨z,aa,Q,O,h0,Z,h3,h4⟩:=h;exact⟨z,aa,Q,O,h0,(hl z O).trans Z,Kw G es _ h3,h4⟩
 | .chan q cap,_,h=>by
   simp only[Ad.ren,Au] at h⊢;obtain⟨z,ag,af,ac,O,Z,h3⟩:=h;exact⟨z,ag,af,ac,O,(hl z O).trans Z,Ky G q _ h3⟩
 | .iter ab left,_,h=>by
   simp only[Ad.ren,Au] at h⊢;obtain⟨z,mb,aa,Q,ad,O,Z,h0,h3,h4,h5,h6,h7⟩:=h;exact⟨z,mb,aa,Q,ad,O,(G mb Z).1,Qly G ab h0,(G mb Z).2.trans h3,(hl z O).trans h4,h5,h6,Kw G left _ h7⟩
 | .view cs,_,h=>by
   simp only[Ad.ren,Au] at h⊢;obtain⟨z,vs,T,fr,O,Z,h3⟩:=h;exact⟨z,vs,T,fr,O,(hl z O).trans Z,YB G cs _ h3⟩
mutual
def fQ: ∀(z:AV),z.ren (λn=>n)=z
 | .any=>rfl
 | .im _=>rfl
 | .agg G=>by simp only[AV.ren,YG G]
 | .tup G=>by simp only[AV.ren,YG G]
 | .ptr _ _=>rfl
 | .eptr _ _ _=>rfl
 | .own _=>rfl
 | .mp _=>rfl
 | .ch _=>rfl
 | .it _=>rfl
 | .osl _ _ _=>rfl
 | .clo f a c=>by simp only[AV.ren,YG a,YG c]
def YG: ∀(z:List AV),AL (λn=>n) z=z
 |[]=>rfl
 |x::r=>by simp only[AL,fQ x,YG r]
end
def Qwc(e:Ad):e.ren (λn=>n)=e:=by
 cases e<;>simp only[Ad.ren,YG];rename_i T k rows
 have:(AL λn=>n)=(id:List AV->List AV):=funext YG
 rw[this];simp
end
def Ax{α β:Type}(f:α->Option β):List α->Option (List β)
 |[]=>some []
 |x::r=>match f x,Ax f r with
  |some y,some z=>some (y::z)
  |_,_=>none
def Pz(f:AV->Option D):Option Aq->Option D
 |some (_,.arr _ k rows)=>some (.sl false k rows)
 |some (_,.arrA _ k rows)=>(Ax (Ax f) rows).map (.sl false k)
 |_=>none
def Wp:Option Aq->Option D
 |some (_,.map G z)=>some (.mp G z)
 |_=>none
def Wk(f:AV->Option D):Option Aq->Option D
 |some (_,.cells _ z)=>(Ax f z).map .ref
 |_=>none
def jP(z:List AV):Option (List D)->AV
 |some ds=> .im (.tup ds)
 |none=> .tup z
def eS(g:FuncId)(a c:List AV):Option (List D)->Option (List D)->AV
 |some ds,some z=> .im (.fn g ds z)
 |some _,none=> .clo g a c
 |none,_=> .clo g a c
def IC(g:FuncId):Option (List AV)->Option (List AV)->Option AV
 |some a,some c=>some (eS g a c (D8 a) (D8 c))
 |_,_=>none
def kp(x:Nat->AV)(d:Option D):Option Nat->Option AV
 |some j=>some (x j)
 |none=>d.map .im
def DW:Option AV->Option D
 |some x=>x.asD
 |none=>none
def Bb(h:Nat->Option Aq)(kx:Nat->Option Nat):Nat->AV->Option AV
 |0,_=>none
 |_+1,.im d=>some (.im d)
 |_+1,.any=>some .any
 |n+1,.agg G=>(Ax (Bb h kx n) G).map λz=>Xv z (D8 z)
 |n+1,.tup G=>(Ax (Bb h kx n) G).map λz=>jP z (D8 z)
 |n+1,.own o=>kp .own (Pz (λx=>DW (Bb h kx n x)) (h o)) (kx o)
 |_+1,.mp o=>kp .mp (Wp (h o)) (kx o)
 |n+1,.ptr o 0=>kp (λj=> .ptr j 0) (Wk (λx=>DW (Bb h kx n x)) (h o)) (kx o)
 |_+1,.ptr o (p+1)=>kp (λj=> .ptr j (p+1)) none (kx o)
 |_+1,.eptr o i p=>kp (λj=> .eptr j i p) none (kx o)
 |_+1,.ch o=>kp .ch none (kx o)
 |_+1,.it o=>kp .it none (kx o)
 |_+1,.osl o a n=>kp (λj=> .osl j a n) none (kx o)
 |n+1,.clo g a c=>IC g (Ax (Bb h kx n) a) (Ax (Bb h kx n) c)
section
variable {S:Ay}{f:AV->Option D}
def iM(hf: ∀x d v,f x=some d->Aa S x v->rd S.ok S.hp d v): ∀(cs:List AV) (ds:List D) (vs:List Value),Ax f cs=some ds->AM S cs vs->rdl S.ok S.hp ds vs
 |[],ds,vs,h,hc=>by
  simp only[Ax,AI] at h;subst h;simp only[AM] at hc;simp only[rdl];exact hc
 |x::cs,ds,vs,h,hc=>by
  simp only[Ax] at h;simp only[AM] at hc;obtain⟨v,r,rfl,G,O⟩:=hc;split at h
  .rename_i y Z Q z;obtain rfl:=AE h;simp only[rdl];exact⟨v,r,rfl,hf x y v Q G,iM hf cs Z r z O⟩
  .cases h
def Sm(hf: ∀x d v,f x=some d->Aa S x v->rd S.ok S.hp d v): ∀(cs:List AV) (ds:List D) (vs:List Value),Ax f cs=some ds->Cn S cs vs->rdp S.ok S.hp ds vs
 |[],ds,vs,h,hc=>by
  simp only[Ax,AI] at h;subst h;simp only[rdp]
 |x::cs,ds,vs,h,hc=>by
  simp only[Ax] at h;simp only[Cn] at hc;obtain⟨v,r,rfl,G,O⟩:=hc;split at h
  .rename_i y Z Q z;obtain rfl:=AE h;simp only[rdp];exact⟨v,r,rfl,hf x y v Q G,Sm hf cs Z r z O⟩
  .cases h
def bR{α β:Type}{g:α->Option β}: ∀(cs:List α) (ds:List β),Ax g cs=some ds->ds.length=cs.length
 |[],ds,h=>by simp only[Ax,AI] at h;subst h;rfl
 |x::cs,ds,h=>by
  simp only[Ax] at h;split at h
  .rename_i y G O z;obtain rfl:=AE h;simp[bR cs G z]
  .cases h
def Sn(hf: ∀x d v,f x=some d->Aa S x v->rd S.ok S.hp d v){k:Nat}: ∀(O:List (List AV)) (ds:List (List D)) (vs:List Value),Ax (Ax f) O=some ds->BB S k O vs->rdr S.ok S.hp k ds vs
 |[],ds,vs,h,hc=>by
  simp only[Ax,AI] at h;subst h;simp only[rdr]
 |x::Q,ds,vs,h,hc=>by
  simp only[Ax] at h;simp only[BB] at hc;split at h
  .rename_i y Z G z;obtain rfl:=AE h;simp only[rdr];exact⟨by rw[bR x y G];exact hc.1,Sm hf x y vs G hc.2.1,Sn hf Q Z _ z hc.2.2⟩
  .cases h
def Qv8{o:Nat}{e:Aq}{k:Nat}{rows:List (List D)}{v:Value}(he:S.h o=some e)(hl:e.2.len=rows.length)(O: ∀l,S.ρ o=some l->S.ok l.b)
 (z:match S.ρ o with|none=>rows=[]|some Q=>rows.length<=Kr/\rows.length<=Q.cap/\ ∃G T,S.hp Q.b=some (.cells G T (0,0))/\rdr S.ok S.hp k rows (G.toList.drop Q.p))(hc:Aa S (.own o) v):rd S.ok S.hp (.sl false k rows) v:=by
 simp only[Aa] at hc;have hc:=hc.2 e he;simp only[rd];cases hr:S.ρ o with
 |none=>rw[hr] at hc z;exact .inl ⟨.inl hc,z⟩
 |some l=>
  rw[hr] at hc z;obtain⟨h0,Z,G,T,h2,h3⟩:=z;exact .inr ⟨l.b,l.p,l.cap,G,T,(0,0),by rw[<-hl];exact hc,by simp,Z,h0,O l hr,h2,h3⟩
end
def Li{C:AX}{S:Ay}(hW:Wf C S){f:AV->Option D}(hf: ∀x d v,f x=some d->Aa S x v->rd S.ok S.hp d v){o:Nat}{d:D}{v:Value}(O: ∀e l,S.h o=some e->e.2.isView=false->S.ρ o=some l->S.ok l.b)
 (h:Pz f (S.h o)=some d)(hc:Aa S (.own o) v):rd S.ok S.hp d v:=by
 cases ho:S.h o with
 |none=>rw[ho] at h;simp[Pz] at h
 |some e=>
  rw[ho] at h;obtain⟨mu,e⟩:=e;have z:=hW.obj o _ ho;cases e<;>simp only[Pz,reduceCtorEq] at h
  .obtain rfl:=AE h;simp only[Au] at z;refine Qv8 ho rfl (λl hl=>O _ l ho rfl hl) ?_ hc;cases hr:S.ρ o with
   |none=>rw[hr] at z;exact z.2
   |some l=>
    rw[hr] at z;obtain⟨h0,Q,vs,h2,_,Z⟩:=z;exact⟨h0,Q,vs,_,h2,Z⟩
  .simp only[Df] at h;obtain⟨rows,Q,rfl⟩:=h;have G:=bR _ _ Q;simp only[Au] at z;refine Qv8 ho (by simp[Ad.len,G]) (λl hl=>O _ l ho rfl hl) ?_ hc;cases hr:S.ρ o with
   |none=>rw[hr] at z;rw[z.2] at G;exact Qv.1 (by simpa using G)
   |some l=>
    rw[hr] at z;obtain⟨h0,h2,vs,Z,_,h4⟩:=z;exact⟨by omega,by omega,vs,_,Z,Sn hf _ _ _ Q h4⟩
def R4{C:AX}{S:Ay}(hW:Wf C S){o:Nat}{d:D}{v:Value}(Q: ∀e l,S.h o=some e->e.2.isView=false->S.ρ o=some l->S.ok l.b)
 (h:Wp (S.h o)=some d)(hc:Aa S (.mp o) v):rd S.ok S.hp d v:=by
 cases ho:S.h o with
 |none=>rw[ho] at h;simp[Wp] at h
 |some e=>
  rw[ho] at h;obtain⟨mu,e⟩:=e;have O:=hW.obj o _ ho;cases e<;>simp only[Wp,reduceCtorEq] at h;obtain rfl:=AE h;simp only[Au] at O;obtain⟨lc,G,z,Z,h2,h3,h4⟩:=O;simp only[Aa] at hc;obtain⟨l,hl,hv⟩:=hc.2 _ ho;rw[Z] at hl;obtain rfl:=AE hl;simp only[rd];exact⟨lc.b,G,z,hv,h2,Q _ lc ho rfl Z,h3,h4⟩
def WY{C:AX}{S:Ay}(hW:Wf C S){f:AV->Option D}(hf: ∀x d v,f x=some d->Aa S x v->rd S.ok S.hp d v){o:Nat}{d:D}{v:Value}(G: ∀e l,S.h o=some e->e.2.isView=false->S.ρ o=some l->S.ok l.b)
 (h:Wk f (S.h o)=some d)(hc:Aa S (.ptr o 0) v):rd S.ok S.hp d v:=by
 cases ho:S.h o with
 |none=>rw[ho] at h;simp[Wk] at h
 |some e=>
  rw[ho] at h;obtain⟨mu,e⟩:=e;have z:=hW.obj o _ ho;cases e<;>simp only[Wk,reduceCtorEq] at h;simp only[Df] at h;obtain⟨ds,h1,rfl⟩:=h;simp only[Au] at z;obtain⟨O,vs,Q,h3,h4,h5⟩:=z;simp only[Aa] at hc;obtain⟨l,Z,hv⟩:=hc.2 _ ho;rw[Q] at Z;obtain rfl:=AE Z;simp only[rd];refine⟨O.b,O.p+0,vs,_,_,hv,G _ O ho rfl Q,h4,?_⟩;rw[h3];simpa using VY _ _ (iM hf _ _ _ h1 h5)
def pB{g:AV->Option AV}: ∀(cs O:List AV) (ds:List D),Ax g cs=some O->D8 O=some ds->Ax (λx=>DW (g x)) cs=some ds
 |[],O,ds,h,G=>by
  simp only[Ax,AI] at h;subst h;simpa[D8,Ax] using G
 |x::cs,O,ds,h,G=>by
  simp only[Ax] at h;split at h
  .rename_i z Z hz Q;obtain rfl:=AE h;simp only[D8] at G;cases hy:z.asD with
   |none=>rw[hy] at G;simp[Nq] at G
   |some d=>
    cases hys:D8 Z with
    |none=>rw[hy,hys] at G;simp[Nq] at G
    |some es=>
     rw[hy,hys] at G;simp only[Nq,AI] at G;subst G;have h9:=pB cs Z es Q hys;have h8:DW (g x)=some d:=by rw[hz];exact hy
     simp only[Ax,h8,h9]
  .cases h
def N9{x:Option AV}{d:D}(h:DW x=some d):x=some (.im d):=by
 cases x with
 |none=>cases h
 |some x=>
  simp only[DW] at h;cases x<;>simp only[AV.asD,reduceCtorEq] at h;obtain rfl:=AE h;rfl
def YT{x:Nat->AV}{d:Option D}{k:Option Nat}{e:D}(O: ∀j,x j≠ .im e)(h:kp x d k=some (.im e)):k=none/\d=some e:=by
 cases k with
 |some j=>
  simp only[kp,AI] at h;exact absurd h (O j)
 |none=>
  simp only[kp,Df] at h;obtain⟨d',z,G⟩:=h;cases G;exact⟨rfl,z⟩
def Ra{C:AX}{S:Ay}(hW:Wf C S){kx:Nat->Option Nat}(O: ∀o e l,kx o=none->S.h o=some e->e.2.isView=false->S.ρ o=some l->S.ok l.b):
 ∀(n:Nat) (x:AV) (d:D) (v:Value),Bb S.h kx n x=some (.im d)->Aa S x v->rd S.ok S.hp d v:=by
 intro n;induction n with
 |zero=>intro x d v h;simp[Bb] at h
 |succ n ih=>
  have hf: ∀x d v,DW (Bb S.h kx n x)=some d->Aa S x v->rd S.ok S.hp d v:=λx d v h hc=>ih x d v (N9 h) hc
  intro x d v h hc;cases x with
  |im d'=>
   simp only[Bb,AI,AV.im.injEq] at h;subst h;simpa only[Aa] using hc
  |any=>simp[Bb] at h
  |agg Q=>
   simp only[Bb,Df] at h;obtain⟨ys,G,z⟩:=h;simp only[Aa] at hc;obtain⟨vs,rfl,Z⟩:=hc;cases ha:D8 ys with
   |none=>rw[ha] at z;simp[Xv] at z
   |some ds=>
    rw[ha] at z;simp only[Xv,AV.im.injEq] at z;subst z;simp only[rd];exact⟨vs,rfl,iM hf Q ds _ (pB Q ys ds G ha) Z⟩
  |tup Q=>
   simp only[Bb,Df] at h;obtain⟨ys,G,z⟩:=h;simp only[Aa] at hc;obtain⟨vs,rfl,Z⟩:=hc;cases ha:D8 ys with
   |none=>rw[ha] at z;simp[jP] at z
   |some ds=>
    rw[ha] at z;simp only[jP,AV.im.injEq] at z;subst z;simp only[rd];exact⟨vs,rfl,iM hf Q ds _ (pB Q ys ds G ha) Z⟩
  |own o=>
   simp only[Bb] at h;obtain⟨G,z⟩:=YT (by simp) h;exact Li hW hf (λe l=>O o e l G) z hc
  |mp o=>
   simp only[Bb] at h;obtain⟨G,z⟩:=YT (by simp) h;exact R4 hW (λe l=>O o e l G) z hc
  |ptr o p=>
   cases p with
   |zero=>
    simp only[Bb] at h;obtain⟨G,z⟩:=YT (by simp) h;exact WY hW hf (λe l=>O o e l G) z hc
   |succ p=>
    simp only[Bb] at h;obtain⟨G,z⟩:=YT (by simp) h;cases z
  |eptr o i p=>
   simp only[Bb] at h;obtain⟨G,z⟩:=YT (by simp) h;cases z
  |ch o=>
   simp only[Bb] at h;obtain⟨G,z⟩:=YT (by simp) h;cases z
  |it o=>
   simp only[Bb] at h;obtain⟨G,z⟩:=YT (by simp) h;cases z
  |osl o a k=>
   simp only[Bb] at h;obtain⟨G,z⟩:=YT (by simp) h;cases z
  |clo g a c=>
   simp only[Bb] at h;cases ha:Ax (Bb S.h kx n) a with
   |none=>rw[ha] at h;simp[IC] at h
   |some a'=>
    cases hcc:Ax (Bb S.h kx n) c with
    |none=>rw[ha,hcc] at h;simp[IC] at h
    |some c'=>
     rw[ha,hcc] at h;simp only[IC,AI] at h;cases G:D8 a' with
     |none=>rw[G] at h;simp[eS] at h
     |some ds=>
      cases z:D8 c' with
      |none=>rw[G,z] at h;simp[eS] at h
      |some es=>
       rw[G,z] at h;simp only[eS,AV.im.injEq] at h;subst h;simp only[Aa] at hc;obtain⟨va,vc,rfl,Z,h4⟩:=hc;simp only[rd];exact⟨va,vc,rfl,iM hf a ds _ (pB a a' ds ha G) Z,iM hf c es _ (pB c c' es hcc z) h4⟩
def Qrr{C:AX}{S S':Ay}(hW:Wf C S){kx:Nat->Option Nat}{τ:Nat->Nat}(ac: ∀b,S.ok b->S'.ok b/\S'.hp b=S.hp b)(ab: ∀o e l,kx o=none->S.h o=some e->e.2.isView=false->S.ρ o=some l->S.ok l.b)
 (O: ∀o j,kx o=some j-> ∀e',S'.h (τ j)=some e'-> ∃e,S.h o=some e/\S'.ρ (τ j)=S.ρ o/\e'.2.esz=e.2.esz/\e'.2.len=e.2.len):
 ∀(n:Nat) (x y:AV) (v:Value),Bb S.h kx n x=some y->Aa S x v->Aa S' (y.ren τ) v:=by
 intro n;induction n with
 |zero=>intro x y v h;simp[Bb] at h
 |succ n ih=>
  have hm: ∀(cs ys:List AV) (vs:List Value),Ax (Bb S.h kx n) cs=some ys->AM S cs vs->AM S' (AL τ ys) vs:=by
   intro cs;induction cs with
   |nil=>
    intro ys vs h hc;simp only[Ax,AI] at h;subst h;simpa only[AL,AM] using hc
   |cons x cs af=>
    intro ys vs h hc;simp only[Ax] at h;simp only[AM] at hc;obtain⟨v,r,rfl,Q,Z⟩:=hc;split at h
    .rename_i z zs hz ad;obtain rfl:=AE h;simp only[AL,AM];exact⟨v,r,rfl,ih x z v hz Q,af zs r ad Z⟩
    .cases h
  intro x y v h hc;have hB: ∀d,y= .im d->Aa S' (y.ren τ) v:=by
   intro d hd;subst hd;simp only[AV.ren,Aa];exact Gs ac d v (Ra hW ab (n+1) x d v h hc)
  have hK: ∀(f:Nat->AV) (g:Option D) (o:Nat),kp f g (kx o)=some y->(∀j,kx o=some j->Aa S' ((f j).ren τ) v)->Aa S' (y.ren τ) v:=by
   intro f g o Q Z;cases hk:kx o with
   |none=>
    rw[hk] at Q;simp only[kp,Df] at Q;obtain⟨d,_,rfl⟩:=Q;exact hB d rfl
   |some j=>
    rw[hk] at Q;simp only[kp,AI] at Q;rw[<-Q];exact Z j hk
  cases x with
  |im d=>
   simp only[Bb,AI] at h;exact hB d h.symm
  |any=>
   simp only[Bb,AI] at h;subst h;simp only[AV.ren,Aa]
  |agg cs=>
   have h0:=h;simp only[Bb,Df] at h0;obtain⟨ys,Q,Z⟩:=h0;cases ha:D8 ys with
   |some ds=>rw[ha] at Z;exact hB _ Z.symm
   |none=>
    rw[ha] at Z;simp only[Aa] at hc;obtain⟨vs,rfl,h3⟩:=hc;rw[<-Z];simp only[Xv,AV.ren,Aa];exact⟨vs,rfl,hm cs ys _ Q h3⟩
  |tup cs=>
   have h0:=h;simp only[Bb,Df] at h0;obtain⟨ys,Q,Z⟩:=h0;cases ha:D8 ys with
   |some ds=>rw[ha] at Z;exact hB _ Z.symm
   |none=>
    rw[ha] at Z;simp only[Aa] at hc;obtain⟨vs,rfl,h3⟩:=hc;rw[<-Z];simp only[jP,AV.ren,Aa];exact⟨vs,rfl,hm cs ys _ Q h3⟩
  |own o=>
   have h0:=h;simp only[Bb] at h0;refine hK _ _ o h0 ?_;intro j hj;simp only[Aa,AV.ren] at hc⊢;refine⟨hc.1,?_⟩;intro e' G;obtain⟨e,he,hr,_,hl⟩:=O o j hj e' G;rw[hr,hl];exact hc.2 e he
  |mp o=>
   have h0:=h;simp only[Bb] at h0;refine hK _ _ o h0 ?_;intro j hj;simp only[Aa,AV.ren] at hc⊢;refine⟨hc.1,?_⟩;intro e' G;obtain⟨e,he,hr,_,hl⟩:=O o j hj e' G;rw[hr];exact hc.2 e he
  |ptr o p=>
   have hp: ∀j,kx o=some j->Aa S' ((AV.ptr j p).ren τ) v:=by
    intro j hj;simp only[Aa,AV.ren] at hc⊢;refine⟨hc.1,?_⟩;intro e' G;obtain⟨e,he,hr,_,hl⟩:=O o j hj e' G;rw[hr];exact hc.2 e he
   cases p with
   |zero=>
    have h0:=h;simp only[Bb] at h0;exact hK _ _ o h0 hp
   |succ p=>
    have h0:=h;simp only[Bb] at h0;exact hK _ _ o h0 hp
  |eptr o i p=>
   have h0:=h;simp only[Bb] at h0;refine hK _ _ o h0 ?_;intro j hj;simp only[Aa,AV.ren] at hc⊢;refine⟨hc.1,?_⟩;intro e' G;obtain⟨e,he,hr,hz,hl⟩:=O o j hj e' G;rw[hr,hz];exact hc.2 e he
  |ch o=>
   have h0:=h;simp only[Bb] at h0;refine hK _ _ o h0 ?_;intro j hj;simp only[Aa,AV.ren] at hc⊢;refine⟨hc.1,?_⟩;intro e' G;obtain⟨e,he,hr,_,hl⟩:=O o j hj e' G;rw[hr];exact hc.2 e he
  |it o=>
   have h0:=h;simp only[Bb] at h0;refine hK _ _ o h0 ?_;intro j hj;simp only[Aa,AV.ren] at hc⊢;refine⟨hc.1,?_⟩;intro e' G;obtain⟨e,he,hr,_,hl⟩:=O o j hj e' G;rw[hr];exact hc.2 e he
  |osl o a k=>
   have h0:=h;simp only[Bb] at h0;refine hK _ _ o h0 ?_;intro j hj;simp only[Aa,AV.ren] at hc⊢;refine⟨hc.1,?_⟩;intro e' G;obtain⟨e,he,hr,hz,hl⟩:=O o j hj e' G;rw[hr,hz,hl];exact hc.2 e he
  |clo g a c=>
   have h0:=h;simp only[Bb] at h0;cases ha:Ax (Bb S.h kx n) a with
   |none=>rw[ha] at h0;simp[IC] at h0
   |some a'=>
    cases hcc:Ax (Bb S.h kx n) c with
    |none=>rw[ha,hcc] at h0;simp[IC] at h0
    |some c'=>
     rw[ha,hcc] at h0;simp only[IC,AI] at h0;have aa:y= .clo g a' c'->Aa S' (y.ren τ) v:=by
      intro hy;subst hy;simp only[Aa] at hc;obtain⟨va,vc,rfl,h3,h4⟩:=hc;simp only[AV.ren,Aa];exact⟨va,vc,rfl,hm a a' _ ha h3,hm c c' _ hcc h4⟩
     cases Q:D8 a' with
     |none=>rw[Q] at h0;exact aa (by rw[<-h0];rfl)
     |some ds=>
      cases Z:D8 c' with
      |none=>rw[Q,Z] at h0;exact aa (by rw[<-h0];rfl)
      |some es=>rw[Q,Z] at h0;exact hB _ h0.symm
def KQ(ti:TI):Option Aq->Option AV
 |some (_,.cells _ z)=>bif (ti.agg||ti.size==1) && z.length==ti.size then some (eU ti.agg z) else none
 |_=>none
def Iy(h:Ap)(x:AV):Option TI->Option AV
 |none=>none
 |some ti=>match x with
  | .ptr o 0=>KQ ti (hget h o)
  |_=>none
def J7(P:Program)(s:Aj):ResultVar->Option AV
 | .tmp t=>some (AD s.tm t)
 | .cell a T=>Iy s.h (AD s.tm a) (tI P T)
def CT:List AV->AV
 |[x]=>x
 |xs=> .tup xs
def QR{P:Program}{C:AX}{N:Nat}{s:Aj}{S:Ay}{a:Act}(hc:C5 C N s S a){x:ResultVar}{r:AV}(z:J7 P s x=some r):
 ∃v,(match x with| .tmp t=>pure (a.tmps.getD t undef)| .cell c t=>do loadVar t (<-asAddr (a.tmps.getD c undef)):Sem Value).run P S.w= .ok v S.w/\Aa S r v:=by
 cases x with
 |tmp t=>
  simp only[J7,AI] at z;subst z;exact⟨a.eval (.tmp t),by simp[Act.eval],hc.tm t⟩
 |cell c T=>
  simp only[J7] at z;cases hT:tI P T with
  |none=>rw[hT] at z;simp[Iy] at z
  |some ti=>
   rw[hT] at z;simp only[Iy] at z;split at z
   .rename_i o ho;cases he:hget s.h o with
    |none=>rw[he] at z;simp[KQ] at z
    |some e=>
     rw[he] at z;obtain⟨mu,e⟩:=e;cases e<;>simp only[KQ,reduceCtorEq] at z;rename_i U cs;cases hb:(ti.agg||ti.size==1) && cs.length==ti.size<;>rw[hb] at z
     .simp at z
     .simp only[Ca,AI] at z;subst z;simp only[AS,Hp,N5] at hb;have hS:S.h o=_:=(hc.h o).trans he;have aa:=hc.wf.obj o _ hS;simp only[Au] at aa;obtain⟨lc,vs,hl,ac,ab,O⟩:=aa;have h1:=hc.tm c;rw[ho] at h1;simp only[Aa] at h1;obtain⟨l,Q,hv⟩:=h1.2 _ hS;rw[hl] at Q;obtain rfl:=AE Q;have G:=Ii _ _ O;have Z:=bK hT (w:=S.w) (b:=lc.b) (p:=0) ab (by simp at G⊢;omega) hb.1;have ad:a.tmps.getD c undef= .pointer (some ⟨lc.b,0,none⟩):=by simpa[Act.eval,ac] using hv
      rw[GN,DB (by rw[G,hb.2];exact AN _)] at Z;refine⟨if ti.agg then .agg vs.toList.toArray else vs.toList.headD undef,?_,oS O hb.2 hb.1⟩;simp only[ad,asAddr,Sem.run_bind,Sem.run_pure,Result.andThen_ok];exact Z
   .cases z
def nS{P:Program}{C:AX}{N:Nat}{s:Aj}{S:Ay}{a:Act}(hc:C5 C N s S a){fn:Func}{xs:List AV}(hx:Ax (J7 P s) fn.results.toList=some xs):
 ∃v,(results fn a.tmps).run P S.w= .ok v S.w/\Aa S (CT xs) v:=by
 have ab: ∀(O:List ResultVar) (xs:List AV),Ax (J7 P s) O=some xs-> ∃z:List Value,(O.mapM λx=>(match x with
  | .tmp t=>pure (a.tmps.getD t undef)| .cell c t=>do loadVar t (<-asAddr (a.tmps.getD c undef)):Sem Value)).run P S.w= .ok z S.w/\AM S xs z:=by
  intro O;induction O with
  |nil=>
   intro xs h;simp only[Ax,AI] at h;subst h;exact⟨[],by simp,by simp only[AM]⟩
  |cons x O ih=>
   intro xs h;simp only[Ax] at h;split at h
   .rename_i y ys hy aa;obtain rfl:=AE h;obtain⟨v,Q,G⟩:=QR hc hy;obtain⟨z,Z,h4⟩:=ih ys aa;refine⟨v::z,?_,by simp only[AM];exact⟨v,z,rfl,G,h4⟩⟩;simp only[List.mapM_cons,Sem.run_bind,Q,Z,Result.andThen_ok,Sem.run_pure]
   .cases h
 obtain⟨z,Q,G⟩:=ab _ _ hx;have hl:=Ii _ _ G;have hm:(results fn a.tmps).run P S.w= .ok (if h:z.toArray.size=1 then z.toArray[0] else .tuple z.toArray) S.w:=by
  unfold results;rw[Zes]
  have: ∀(m:Sem (List Value)),m.run P S.w= .ok z S.w->((Functor.map List.toArray m)>>=λz=>(pure (if h:z.size=1 then z[0] else .tuple z):Sem Value)).run P S.w= .ok (if h:z.toArray.size=1 then z.toArray[0] else .tuple z.toArray) S.w:=by
   intro m hm;rw[Sem.run_bind]
   have:(Functor.map List.toArray m).run P S.w= .ok z.toArray S.w:=by
    rw[map_eq_pure_bind,Sem.run_bind,hm];rfl
   rw[this];rfl
  exact this _ Q
 refine⟨_,hm,?_⟩;cases xs with
 |nil=>
  simp only[AM] at G;subst G;simp only[CT,Aa];exact⟨#[],by simp,by simp[AM]⟩
 |cons x xs=>
  cases xs with
  |nil=>
   simp only[AM] at G;obtain⟨v,r,rfl,Z,rfl⟩:=G;simpa[CT] using Z
  |cons y xs=>
   have: ¬z.toArray.size=1:=by simp only[N0];simp at hl;omega
   rw[dif_neg this];simp only[CT,Aa];exact⟨_,rfl,G⟩
def entry:Nat->List AV->List (Nat×AV)
 |_,[]=>[]
 |i,x::r=>(i,x)::entry (i+1) r
def gL{S:Ay}: ∀(args:List AV) (vs:List Value) (i t:Nat),AM S args vs->Aa S (AD (entry i args) t) (if i<=t then (vs[t - i]?).getD undef else undef)
 |[],vs,i,t,_=>by simp[entry,AD,Aa]
 |x::args,vs,i,t,h=>by
  simp only[AM] at h;obtain⟨v,r,rfl,G,O⟩:=h;simp only[entry,AD];cases hq:i==t
  .have Q:i≠t:=by simpa using hq
   have:=gL args r (i+1) t O
   simp only[B8];by_cases z:i+1<=t
   .rw[Ao z] at this;rw[Ao (by omega)];have e:t - i=(t - (i+1))+1:=by omega
    rw[e];simpa using this
   .rw[Ag z] at this;rw[Ag (by omega)];exact this
  .have:i=t:=by simpa using hq
   subst this;simpa using G
def gS: ∀(args:List AV) (i t:Nat),∀m∈(AD (entry i args) t).nms,m∈AC args
 |[],i,t,m,h=>by simp[entry,AD,AV.nms] at h
 |x::args,i,t,m,h=>by
  simp only[entry,AD] at h;simp only[AC,Br];cases hq:i==t<;>rw[hq] at h
  .exact .inr (gS args (i+1) t m (by simpa using h))
  .exact .inl (by simpa using h)
def Xi:List Nat->Nat->Nat->Option Nat
 |[],_,_=>none
 |x::r,o,k=>bif x==o then some k else Xi r o (k+1)
def Hx(k:Nat)(ex:List Nat)(o:Nat):Option Nat:=bif Nat.blt o k then some o else Xi ex o k
def Ct(f:AV->Option AV):Ad->Option Ad
 | .cells T z=>(Ax f z).map (.cells T)
 | .arr T k rows=>some (.arr T k rows)
 | .arrA T k rows=>(Ax (Ax f) rows).map (.arrA T k)
 | .map O G=>some (.map O G)
 | .chan q cap=>some (.chan q cap)
 | .iter a l=>some (.iter a l)
 | .view z=>some (.view z)
def Iz(j:Nat)(z:Bool):Option Ad->Option Ap->Option Ap
 |some e,some r=>some ((j,(z,e))::r)
 |some _,none=>none
 |none,_=>none
def klE(f:AV->Option AV)(j:Nat)(r:Option Ap):Option Aq->Option Ap
 |none=>r
 |some (z,e)=>Iz j z (Ct f e) r
def IG(h:Nat->Option Aq)(f:AV->Option AV):List Nat->Option Ap
 |[]=>some []
 |j::r=>klE f j (IG h f r) (h j)
def zJ(f:AV->Option AV)(j:Nat)(r:Option Ap):Option Aq->Option Ap
 |none=>none
 |some (false,_)=>none
 |some (true,e)=>Iz j true (Ct f e) r
def IF(h:Nat->Option Aq)(f:AV->Option AV):List Nat->Nat->Option Ap
 |[],_=>some []
 |x::r,j=>zJ f j (IF h f r (j+1)) (h x)
def QB:Option Ap->Option Ap->Option Ap
 |some a,some b=>some (a++b)
 |some _,none=>none
 |none,_=>none
def XL(h:Nat->Option Aq)(z:List Nat):Ap->Prop
 |[]=>True
 |(j,e)::r=>(bif z.contains j then True else h j=some e)/\XL h z r
def WV(k:Nat):List Nat->Bool
 |[]=>true
 |x::r=>Nat.ble k x && (!r.contains x && WV k r)
abbrev JC:=AV->Ap->Nat->Prop
def IK(R:JC)(cnt:Nat):Option AV->Option Ap->Prop
 |some r,some H=>R r H cnt
 |some _,none=>False
 |none,_=>False
def ZD(k:Nat)(z:List Nat)(H0:Ap)(R:JC)(s:Aj)(ex:List Nat)(x:AV):Prop:=
 WV k ex=true/\XL (hget s.h) z H0/\IK R ex.length (Bb (hget s.h) (Hx k ex) 9 x) (QB (IG (hget s.h) (Bb (hget s.h) (Hx k ex) 9) z) (IF (hget s.h) (Bb (hget s.h) (Hx k ex) 9) ex k))
def Mm(k:Nat)(G:List Nat)(z:Aj->AV->List Nat)(H0:Ap)(R:JC)(s:Aj):Option (List AV)->Prop
 |some xs=>ZD k G H0 R s (z s (CT xs)) (CT xs)
 |none=>False
def Tt(P:Program)(O:List ResultVar)(k:Nat)(G:List Nat)(z:Aj->AV->List Nat)(H0:Ap)(R:JC)(s:Aj):Prop:=Mm k G z H0 R s (Ax (J7 P s) O)
def O7(P:Program)(O:List ResultVar)(k:Nat)(G:List Nat)(z:Aj->AV->List Nat)(H0:Ap)(R:JC):Cb
 | .normal,s=>Tt P O k G z H0 R s
 | .ret,s=>Tt P O k G z H0 R s
 | .exit _,_=>False
def JO(_:Aj)(_:AV):List Nat:=[]
def sL(k:Nat):List Nat->List Nat
 |[]=>[]
 |x::r=>bif Nat.ble k x then x::sL k r else sL k r
def sK(k:Nat)(_:Aj)(x:AV):List Nat:=sL k x.nms
def C8(r r':AV):Prop:= ∀(σ:Nat->Nat) (S:Ay) (v:Value),Aa S (r.ren σ) v->Aa S (r'.ren σ) v
def jW(e e':Aq):Prop:=e.1=e'.1/\e.2.esz=e'.2.esz/\e.2.len=e'.2.len/\e.2.isView=e'.2.isView/\ ∀(σ:Nat->Nat) (S:Ay) (l:Option Fj),Au S l (e.2.ren σ)->Au S l (e'.2.ren σ)
def ZN:Ap->Ap->Prop
 |[],[]=>True
 |(j,e)::r,(j',e')::r'=>j=j'/\jW e e'/\ZN r r'
 |[],_::_=>False
 |_::_,[]=>False
def C8.refl(r:AV):C8 r r:=λ_ _ _ h=>h
def jW.refl(e:Aq):jW e e:=⟨rfl,rfl,rfl,rfl,λ_ _ _ h=>h⟩
def ZN.refl: ∀(H:Ap),ZN H H
 |[]=>trivial
 |(_,e)::r=>⟨rfl,jW.refl e,ZN.refl r⟩
def ZN.get: ∀{H H':Ap},ZN H H'-> ∀n,(hget H' n=none/\hget H n=none)\/ ∃e e',hget H n=some e/\hget H' n=some e'/\jW e e'
 |[],[],_,n=> .inl ⟨rfl,rfl⟩
 |(j,e)::r,(j',e')::r',h,n=>by
  obtain⟨rfl,z,G⟩:=h;simp only[hget];cases hq:j==n
  .simpa using ZN.get G n
  .exact .inr ⟨e,e',by simp,by simp,z⟩
def sg(os:List Nat)(nx j:Nat):Nat:=match os[j]? with
 |some o=>o
 |none=>nx+(j - os.length)
def AW(σ:Nat->Nat):Ap->Ap
 |[]=>[]
 |(j,(z,e))::r=>(σ j,(z,e.ren σ))::AW σ r
def rG{σ:Nat->Nat}: ∀{H:Ap} {n:Nat} {e':Aq},hget (AW σ H) n=some e'-> ∃j e,(j,e)∈H/\σ j=n/\e'=(e.1,e.2.ren σ)
 |[],n,e',h=>by simp[AW,hget] at h
 |(j,(Q,e))::r,n,e',h=>by
  simp only[AW,hget] at h;cases hq:σ j==n<;>rw[hq] at h
  .obtain⟨j',x,z,G,O⟩:=rG (H:=r) (by simpa using h);exact⟨j',x,by simp[z],G,O⟩
  .simp only[Ca,AI] at h;exact⟨j,(Q,e),by simp,by simpa using hq,h.symm⟩
def lU{σ:Nat->Nat}(hσ: ∀i j,σ i=σ j->i=j): ∀(H:Ap) (j:Nat),hget (AW σ H) (σ j)=(hget H j).map λe=>(e.1,e.2.ren σ)
 |[],j=>rfl
 |(i,(Q,e))::r,j=>by
  simp only[AW,hget];by_cases z:i=j
  .subst z;simp
  .have G:(i==j)=false:=by simpa using z
   have O:(σ i==σ j)=false:=by rw[HL];exact λh=>z (hσ _ _ h)
   rw[G,O];simpa using lU hσ r j
def bU: ∀{H:Ap} {n:Nat} {e:Aq},hget H n=some e->(n,e)∈H
 |[],n,e,h=>by simp[hget] at h
 |(i,x)::r,n,e,h=>by
  simp only[hget] at h;cases hq:i==n<;>rw[hq] at h
  .exact BR _ (bU (by simpa using h))
  .have:i=n:=by simpa using hq
   subst this;simp only[Ca,AI] at h;subst h;simp
def Qti{C:AX}{S S':Ay}(hW:Wf C S){kx:Nat->Option Nat}{τ:Nat->Nat}(Q: ∀b,S.ok b->S'.ok b/\S'.hp b=S.hp b)(ah: ∀o e l,kx o=none->S.h o=some e->e.2.isView=false->S.ρ o=some l->S.ok l.b)
 (ag: ∀o j,kx o=some j-> ∀e',S'.h (τ j)=some e'-> ∃e,S.h o=some e/\S'.ρ (τ j)=S.ρ o/\e'.2.esz=e.2.esz/\e'.2.len=e.2.len)
 {n:Nat}{e e':Ad}(h:Ct (Bb S.h kx n) e=some e'):(e'.esz=e.esz/\e'.len=e.len)/\ ∀l,(∀O,l=some O->S'.hp O.b=S.hp O.b)->Au S l e->Au S' l (e'.ren τ):=by
 have hm: ∀(cs Z:List AV) (vs:List Value),Ax (Bb S.h kx n) cs=some Z->AM S cs vs->AM S' (AL τ Z) vs:=by
  intro cs;induction cs with
  |nil=>
   intro Z vs h hc;simp only[Ax,AI] at h;subst h;simpa only[AL,AM] using hc
  |cons x cs ad=>
   intro Z vs h hc;simp only[Ax] at h;simp only[AM] at hc;obtain⟨v,r,rfl,G,h2⟩:=hc;split at h
   .rename_i z zs hz ac;obtain rfl:=AE h;simp only[AL,AM];exact⟨v,r,rfl,Qrr hW Q ah ag n x z v hz G,ad zs r ac h2⟩
   .cases h
 have an: ∀(cs Z:List AV) (vs:List Value),Ax (Bb S.h kx n) cs=some Z->Cn S cs vs->Cn S' (AL τ Z) vs:=by
  intro cs;induction cs with
  |nil=>
   intro Z vs h hc;simp only[Ax,AI] at h;subst h;simp only[AL,Cn]
  |cons x cs ad=>
   intro Z vs h hc;simp only[Ax] at h;simp only[Cn] at hc;obtain⟨v,r,rfl,G,h2⟩:=hc;split at h
   .rename_i z zs hz ac;obtain rfl:=AE h;simp only[AL,Cn];exact⟨v,r,rfl,Qrr hW Q ah ag n x z v hz G,ad zs r ac h2⟩
   .cases h
 have ao: ∀(k:Nat) (rs Z:List (List AV)) (vs:List Value),Ax (Ax (Bb S.h kx n)) rs=some Z->BB S k rs vs->BB S' k (Z.map (AL τ)) vs:=by
  intro k rs;induction rs with
  |nil=>
   intro Z vs h hc;simp only[Ax,AI] at h;subst h;simp only[GR,BB]
  |cons x rs ad=>
   intro Z vs h hc;simp only[Ax] at h;simp only[BB] at hc;split at h
   .rename_i z zs hz ac;obtain rfl:=AE h;simp only[Bd,BB,Qsc];exact⟨(bR _ _ hz).trans hc.1,an x z _ hz hc.2.1,ad zs _ ac hc.2.2⟩
   .cases h
 cases e<;>simp only[Ct] at h
 case view cs=>
  obtain rfl:=AE h;refine⟨⟨rfl,rfl⟩,λl hl h=> ?_⟩;simp only[Ad.ren,Au] at h⊢;obtain⟨O,vs,T,fr,G,h2,h3⟩:=h;exact⟨O,vs,T,fr,G,(hl O G).trans h2,YB Q cs _ h3⟩
 case cells T cs=>
  simp only[Df] at h;obtain⟨Z,G,rfl⟩:=h;refine⟨⟨rfl,rfl⟩,λl hl h=> ?_⟩;simp only[Ad.ren,Au] at h⊢;obtain⟨O,vs,g1,g2,g3,g4⟩:=h;exact⟨O,vs,g1,g2,(hl O g1).trans g3,hm cs Z _ G g4⟩
 case arr T k rows=>
  obtain rfl:=AE h;refine⟨⟨rfl,rfl⟩,λl hl h=> ?_⟩;simp only[Ad.ren,Au] at h⊢;refine⟨h.1,?_⟩;cases l with
  |none=>exact h.2
  |some O=>
   obtain⟨h0,G,vs,h2,h3,h4⟩:=h;exact⟨G,vs,(hl O rfl).trans h2,h3,YC Q k rows _ h4⟩
 case arrA T k rows=>
  simp only[Df] at h;obtain⟨Z,G,rfl⟩:=h;have af:=bR _ _ G;refine⟨⟨rfl,af⟩,λl hl h=> ?_⟩;simp only[Ad.ren,Au,FM,af] at h⊢;refine⟨h.1,?_⟩;cases l with
  |none=>
   have:=h.2
   subst this;simp only[Ax,AI] at G;subst G;rfl
  |some O=>
   obtain⟨h0,h2,vs,h3,h4,h5⟩:=h;exact⟨h2,vs,(hl O rfl).trans h3,h4,ao k rows Z _ G h5⟩
 case map kt es=>
  obtain rfl:=AE h;refine⟨⟨rfl,rfl⟩,λl hl h=> ?_⟩;simp only[Ad.ren,Au] at h⊢;obtain⟨O,ab,aa,G,h0,h2,h3,h4⟩:=h;exact⟨O,ab,aa,G,h0,(hl O G).trans h2,Kw Q es _ h3,h4⟩
 case chan q cap=>
  obtain rfl:=AE h;refine⟨⟨rfl,rfl⟩,λl hl h=> ?_⟩;simp only[Ad.ren,Au] at h⊢;obtain⟨O,am,ak,ai,G,h2,h3⟩:=h;exact⟨O,am,ak,ai,G,(hl O G).trans h2,Ky Q q _ h3⟩
 case iter last left=>
  obtain rfl:=AE h;refine⟨⟨rfl,rfl⟩,λl hl h=> ?_⟩;simp only[Ad.ren,Au] at h⊢;obtain⟨O,mb,ab,aa,aj,G,h2,h0,h3,h4,h5,h6,h7⟩:=h;exact⟨O,mb,ab,aa,aj,G,(Q mb h2).1,Qly Q last h0,(Q mb h2).2.trans h3,(hl O G).trans h4,h5,h6,Kw Q left _ h7⟩
def NK{f:AV->Option AV}{e e':Ad}(h:Ct f e=some e'):e'.isView=e.isView:=by
 cases e<;>simp only[Ct,Df,AI] at h
 .obtain⟨_,_,rfl⟩:=h;rfl
 .subst h;rfl
 .obtain⟨_,_,rfl⟩:=h;rfl
 all_goals subst h;rfl
def Le(d d':D):Prop:= ∀ok hp v,rd ok hp d v->rd ok hp d' v
def C6:List D->List D->Prop
 |[],[]=>True
 |d::r,d'::r'=>Le d d'/\C6 r r'
 |[],_::_=>False
 |_::_,[]=>False
def Le.refl(d:D):Le d d:=λ_ _ _ h=>h
def C6.refl: ∀(ds:List D),C6 ds ds
 |[]=>trivial
 |d::ds=>⟨Le.refl d,C6.refl ds⟩
def C6.len: ∀{a b:List D},C6 a b->a.length=b.length
 |[],[],_=>rfl
 |_::_,_::_,h=>by simp[C6.len h.2]
def C6.rdl: ∀{a b:List D},C6 a b-> ∀ok hp z,Ae.rdl ok hp a z->Ae.rdl ok hp b z
 |[],[],_,ok,hp,z,h=>h
 |_::_,_::_,G,ok,hp,z,h=>by
  simp only[Ae.rdl] at h⊢;obtain⟨v,r,rfl,O,Q⟩:=h;exact⟨v,r,rfl,G.1 _ _ _ O,C6.rdl G.2 _ _ _ Q⟩
def Gb:List D->List D->Prop
 |_,[]=>True
 |d::r,d'::r'=>Le d d'/\Gb r r'
 |[],_::_=>False
def Gb.rdp: ∀{a b:List D},Gb a b-> ∀ok hp z,Ae.rdp ok hp a z->Ae.rdp ok hp b z
 |_,[],_,ok,hp,z,h=>by simp only[Ae.rdp]
 |_::_,_::_,G,ok,hp,z,h=>by
  simp only[Ae.rdp] at h⊢;obtain⟨v,r,rfl,O,Q⟩:=h;exact⟨v,r,rfl,G.1 _ _ _ O,Gb.rdp G.2 _ _ _ Q⟩
 |[],_::_,h,_,_,_,_=>h.elim
def C6.leP: ∀{a b:List D},C6 a b->Gb a b
 |[],[],_=>trivial
 |_::_,_::_,h=>⟨h.1,C6.leP h.2⟩
def Gb.refl(a:List D):Gb a a:=(C6.refl a).leP
def Gb.trans_take: ∀{n:Nat} {a b:List D},C6 (a.take n) b->Gb a b
 |0,a,[],_=>by cases a<;>trivial
 |_+1,[],[],_=>trivial
 |n+1,x::a,y::b,h=>⟨h.1,Gb.trans_take (n:=n) h.2⟩
 |n+1,x::a,[],h=>h.elim
 |n+1,[],y::b,h=>h.elim
 |0,a,y::b,h=>by cases a<;>exact h.elim
def VK{a b:List D}(h:C6 a b):Le (.agg a) (.agg b):=by
 intro ok hp v z;simp only[Ae.rd] at z⊢;obtain⟨O,rfl,G⟩:=z;exact⟨O,rfl,h.rdl _ _ _ G⟩
def JT{a b:List D}(h:C6 a b):Le (.tup a) (.tup b):=by
 intro ok hp v z;simp only[Ae.rd] at z⊢;obtain⟨O,rfl,G⟩:=z;exact⟨O,rfl,h.rdl _ _ _ G⟩
def Vg:List (List D)->List (List D)->Prop
 |[],[]=>True
 |r::G,r'::z=>C6 r r'/\Vg G z
 |[],_::_=>False
 |_::_,[]=>False
def Vg.len: ∀{a b:List (List D)},Vg a b->a.length=b.length
 |[],[],_=>rfl
 |_::_,_::_,h=>by simp[Vg.len h.2]
def Vg.rdr: ∀{a b:List (List D)} {k k':Nat},Vg a b->(∀r∈b,r.length=k')-> ∀ok hp z,Ae.rdr ok hp k a z->Ae.rdr ok hp k' b z
 |[],[],_,_,_,_,ok,hp,z,h=>by simp only[Ae.rdr]
 |r::rs,r'::aa,k,k',G,Q,ok,hp,z,h=>by
  simp only[Ae.rdr] at h⊢;have Z:=G.1.len;have O:=Q r' (by simp)
  have:k=k':=by rw[<-h.1,Z,O]
  subst this;exact⟨O,G.1.leP.rdp _ _ _ h.2.1,Vg.rdr G.2 (λx hx=>Q x (by simp[hx])) _ _ _ h.2.2⟩
def DV{nz:Bool}{k k':Nat}{a b:List (List D)}(h:Vg a b)(hk: ∀r∈b,r.length=k'):Le (.sl nz k a) (.sl false k' b):=by
 intro ok hp v O;simp only[Ae.rd] at O⊢;rcases O with ⟨z,G⟩|⟨Q,p,cap,vs,T,Z,z,G,h3,h4,h5,h6,h7⟩
 .subst G;cases b with
  |nil=>exact .inl ⟨OF z,rfl⟩
  |cons _ _=>exact h.elim
 .exact .inr ⟨Q,p,cap,vs,T,Z,by rw[<-h.len];exact z,by simp,by rw[<-h.len];exact h3,by rw[<-h.len];exact h4,h5,h6,h.rdr hk _ _ _ h7⟩
def Qq{g:FuncId}{a b:List D}(h:C6 a b):Le (.fn g [] a) (.fn g [] b):=by
 intro ok hp v z;simp only[Ae.rd] at z⊢;obtain⟨x,y,G,O,Q⟩:=z;exact⟨x,y,G,O,h.rdl _ _ _ Q⟩
def Se{g:FuncId}{a b:List D}(h:C6 a b):Le (.fn g a []) (.fn g b []):=by
 intro ok hp v z;simp only[rd] at z⊢;obtain⟨x,c,rfl,G,O⟩:=z;exact⟨x,c,rfl,h.rdl _ _ _ G,O⟩
def Qm{a b:List D}(h:Gb a b):Le (.ref a) (.ref b):=by
 intro ok hp v z;simp only[Ae.rd] at z⊢;obtain⟨G,p,vs,T,O,Q,Z,h3,h4⟩:=z;exact⟨G,p,vs,T,O,Q,Z,h3,h.rdp _ _ _ h4⟩
def AO{A:Type}(f:List D->Option A):List (List D)->Option (List A)
 |[]=>some []
 |r::z=>match f r,AO f z with
  |some x,some xs=>some (x::xs)
  |_,_=>none
def Ku{A:Type}{f:List D->Option A}{e:A->List D}(h: ∀x,f (e x)=some x): ∀(l:List A),AO f (l.map e)=some l
 |[]=>rfl
 |x::l=>by simp only[Bd,AO,h x,Ku h l]
def DP{A:Type}{f:List D->Option A}{e:A->List D}(h: ∀ds x,f ds=some x->C6 ds (e x)): ∀(rows:List (List D)) (l:List A),AO f rows=some l->Vg rows (l.map e)
 |[],l,z=>by simp only[AO,AI] at z;subst z;trivial
 |r::Q,l,z=>by
  simp only[AO] at z;split at z
  .rename_i x xs O G;obtain rfl:=AE z;exact⟨h r x O,DP h Q xs G⟩
  .cases z
abbrev A7:=List AV->(Nat->Option Aq)->Nat->Ai->Prop
def PI:List (Nat×A7)->CK
 |[],_,_,_,_,_=>False
 |p::r,g,args,h,nx,K=>if p.1=g then p.2 args h nx K else PI r g args h nx K
def AA(P:Program)(g:Nat)(c:A7):Prop:= ∀args h nx K,c args h nx K->iD P g/\ ∃r E,PM P g args h nx r E/\K r E
def PQ{P:Program}: ∀(l:List (Nat×A7)),(∀p∈l,AA P p.1 p.2)->Ja P (PI l)
 |[],_=>λ_ _ _ _ _ h=>h.elim
 |p::r,G=>by
  intro g args h nx K z;simp only[PI] at z;split at z
  .rename_i O;subst O;exact G p (by simp) args h nx K z
  .exact PQ r (λq hq=>G q (by simp[hq])) g args h nx K z
def Ix(P:Program)(g:Nat):Bool:=match P.funcs[g]? with
 |some fn=>Nat.blt g 1000000000 && (!(fn.name== "runtime.NumGoroutine") && !fn.body.isNone)
 |none=>false
def Nn{P:Program}{g:Nat}(h:Ix P g=true):iD P g:=by
 unfold Ix at h;split at h
 .rename_i fn hf;simp only[AS,Nz] at h;exact⟨by simpa using h.1,fn,hf,h.2.1,h.2.2⟩
 .cases h
inductive PK where
 |val (d:D)
 |ptr (cs:List D)
def De:Nat->List PK->List AV
 |_,[]=>[]
 |j,.val d::r=> .im d::De j r
 |j,.ptr _::r=> .ptr j 0::De (j+1) r
def Dr:Nat->List PK->Ap
 |_,[]=>[]
 |j,.val _::r=>Dr j r
 |j,.ptr z::r=>(j,(false,.view z))::Dr (j+1) r
def BF:List PK->Nat
 |[]=>0
 | .val _::r=>BF r
 | .ptr _::r=>BF r+1
def Js(S:Ay):PK->Value->Prop
 | .val d,v=>rd S.ok S.hp d v
 | .ptr G,v=> ∃b p z T O,v= .pointer (some ⟨b,p,none⟩)/\b<S.w.heap.size/\S.hp b=some (.cells z T O)/\rdp S.ok S.hp G (z.toList.drop p)
def Es(S:Ay):List PK->List Value->Prop
 |[],z=>z=[]
 |p::G,z=> ∃v r,z=v::r/\Js S p v/\Es S G r
def Cg:PK->PK->Prop
 | .val d,.val d'=>Le d d'
 | .ptr a,.ptr b=>Gb a b
 | .val _,.ptr _=>False
 | .ptr _,.val _=>False
def BA:List PK->List PK->Prop
 |[],[]=>True
 |p::r,p'::r'=>Cg p p'/\BA r r'
 |[],_::_=>False
 |_::_,[]=>False
def Cg.c{S:Ay}{p p':PK}{v:Value}(h:Cg p p')(z:Js S p v):Js S p' v:=by
 cases p<;>cases p'<;>simp only[Cg] at h<;>simp only[Js] at z⊢
 .exact h _ _ _ z
 .obtain⟨b,p,vs,T,G,O,Q,Z,h4⟩:=z;exact⟨b,p,vs,T,G,O,Q,Z,h.rdp _ _ _ h4⟩
def BA.c{S:Ay}: ∀{a b:List PK} {vs:List Value},BA a b->Es S a vs->Es S b vs
 |[],[],_,_,h=>h
 |_::_,_::_,vs,z,h=>by
  simp only[Es] at h⊢;obtain⟨v,r,rfl,G,O⟩:=h;exact⟨v,r,rfl,z.1.c G,BA.c z.2 O⟩
def Cg.refl(p:PK):Cg p p:=by cases p;exact Le.refl _;exact Gb.refl _
def BA.refl: ∀(a:List PK),BA a a
 |[]=>trivial
 |p::a=>⟨Cg.refl p,BA.refl a⟩
def Es.len{S:Ay}: ∀{ps:List PK} {vs:List Value},Es S ps vs->vs.length=ps.length
 |[],vs,h=>by simp only[Es] at h;simp[h]
 |_::_,vs,h=>by
  simp only[Es] at h;obtain⟨v,r,rfl,_,z⟩:=h;simp[Es.len z]
def Y9: ∀(j:Nat) (ps:List PK),(De j ps).length=ps.length
 |_,[]=>rfl
 |j,.val _::r=>by simp[De,Y9 j r]
 |j,.ptr _::r=>by simp[De,Y9 (j+1) r]
def H7: ∀(j:Nat) (ps:List PK) (n:Nat) (e:Aq),hget (Dr j ps) n=some e->(j<=n/\n<j+BF ps)/\ ∃z,e=(false,.view z)
 |_,[],n,e,h=>by simp[Dr,hget] at h
 |j,.val _::r,n,e,h=>by simpa[Dr,BF] using H7 j r n e h
 |j,.ptr z::r,n,e,h=>by
  simp only[Dr,hget] at h;simp only[BF];cases hq:j==n<;>rw[hq] at h
  .obtain⟨O,G⟩:=H7 (j+1) r n e (by simpa using h);exact⟨by omega,G⟩
  .have:j=n:=by simpa using hq
   simp only[Ca,AI] at h;exact⟨by omega,z,h.symm⟩
def oJ: ∀(j:Nat) (ps:List PK) (n:Nat),j+BF ps<=n-> ∀m∈AC (De j ps),m<n
 |_,[],n,_,m,z=>by simp[De,AC] at z
 |j,.val _::r,n,h,m,z=>by
  simp only[De,AC,AV.nms,GM] at z;exact oJ j r n h m z
 |j,.ptr _::r,n,h,m,z=>by
  simp only[De,AC,AV.nms,Br,BE] at z;simp only[BF] at h;rcases z with rfl|z
  .omega
  .exact oJ (j+1) r n (by omega) m z
def pS{S:Ay}: ∀(ps:List PK) (vs:List Value) (j:Nat),Es S ps vs-> ∃Q:Nat->Option Fj,
 (∀n e,hget (Dr j ps) n=some e-> ∃l,Q n=some l/\l.b<S.w.heap.size/\Au S (some l) e.2)/\
 ∀(z:Ay),z.ok=S.ok->z.w=S.w->(∀n,(∃e,hget (Dr j ps) n=some e)->z.ρ n=Q n/\z.h n=hget (Dr j ps) n)->AM z (De j ps) vs
 |[],vs,j,h=>by
  simp only[Es] at h;exact⟨λ_=>none,λn e G=>by simp[Dr,hget] at G,λz _ _ _=>by simp only[De,AM];exact h⟩
 | .val d::ps,vs,j,h=>by
   simp only[Es] at h;obtain⟨v,r,rfl,h1,h2⟩:=h;obtain⟨Q,h3,h4⟩:=pS ps r j h2;refine⟨Q,by simpa only[Dr] using h3,?_⟩;intro z O hw hS;simp only[De,AM,Aa];refine⟨v,r,rfl,?_,h4 z O hw (by simpa only[Dr] using hS)⟩
   have:z.hp=S.hp:=by unfold Ay.hp;rw[hw]
   rw[O,this];exact h1
 | .ptr cs::ps,vs,j,h=>by
   simp only[Es] at h;obtain⟨v,r,rfl,h1,h2⟩:=h;obtain⟨Q,h3,h4⟩:=pS ps r (j+1) h2;obtain⟨b,p,cells,T,fr,rfl,hb,hc,hr⟩:=h1;refine⟨λn=>if n=j then some ⟨b,p,0⟩ else Q n,?_,?_⟩
   .intro n e G;simp only[Dr,hget] at G;cases hq:j==n<;>rw[hq] at G
    .have:n≠j:=λh'=>by subst h';simp at hq
     simp only[Ag this];exact h3 n e (by simpa using G)
    .have:n=j:=(by simpa using hq:j=n).symm
     simp only[Ca,AI] at G;subst G;simp only[Ao this];refine⟨_,rfl,hb,?_⟩;simp only[Au];exact⟨_,cells,T,fr,rfl,hc,hr⟩
   .intro z O hw hS;simp only[De,AM,Aa];refine⟨_,r,rfl,⟨rfl,?_⟩,h4 z O hw ?_⟩
    .intro e G;have hj:=hS j ⟨(false,.view cs),by simp only[Dr,hget,rO,Ca]⟩;rw[hj.1];simp
    .rintro n ⟨e,G⟩;have hn:=(H7 (j+1) ps n e G).1;have Z:n≠j:=by omega
     have hq:(j==n)=false:=by rw[HL];exact λh=>Z h.symm
     have:=hS n ⟨e,by simp only[Dr,hget,hq,B8];exact G⟩
     simp only[Ag Z,Dr,hget,hq,B8] at this;exact this
def U3{P:Program}(HM:P.follows .mixedOrders=true){V:CK}(hV:Ja P V){g:FuncId}{fn:Func}{c:Code}(hf:P.funcs[g]? =some fn)(hb:fn.body=some c)(ah:DY fn.ntmps c=true)
 {ps:List PK}(a8:ps.length<=fn.ntmps){R:JC}{r0:D}(hR: ∀r H n,R r H n-> ∃d,r= .im d/\Le d r0)
 (hk:CM P V c (O7 P fn.results.toList (BF ps) [] JO (Dr 0 ps) R) ⟨entry 0 (De 0 ps),Dr 0 ps,BF ps⟩)
 {C:AX}{S:Ay}{vs:Array Value}{RR:Ending->World->Prop}(hW:Wf C S)(am:Es S ps vs.toList)
 (aj: ∀v S',Wf C S'->S'.h=S.h->Bx (λ_=>True) S S'->rd S'.ok S'.hp r0 v->RR (.returned v) S'.w):Calls P g vs S.w RR:=by
 refine calls_of_wp hf hb ?_;have a0:vs.size=(De 0 ps).length:=by rw[Y9];simpa using am.len
 obtain⟨ls,ak,hcl⟩:=pS ps vs.toList 0 am
 let S0:Ay:=⟨ls,S.ok,hget (Dr 0 ps),S.w⟩
 let C0:AX:=⟨S.w,λ_=>False,S.ok,0,λ_=>none,λ_=>none,[]⟩
 have au:Wf C0 S0:=by
  refine⟨rfl,rfl,rfl,AN _,λ_ _ _=>rfl,λ_ hb=>hb,λ_ hb=> .inl hb,hW.oks,?_,?_,?_,hW.glN λ_ h=>h.elim⟩
  .intro n e z;obtain⟨l,G,_,Z⟩:=ak n e z;have h4:S0.ρ n=some l:=G;rw[h4];obtain⟨_,cs,rfl⟩:=H7 0 ps n e z;simp only[Au] at Z⊢;exact Z
  .intro n e l z hl;obtain⟨l',G,h2,Z⟩:=ak n e z;have h4:S0.ρ n=some l':=G;rw[h4] at hl;obtain rfl:=AE hl;obtain⟨_,cs,rfl⟩:=H7 0 ps n e z;exact⟨h2,.inr rfl⟩
  .intro n n' e e' l l' z ad hl bb ba aw;obtain⟨_,cs,rfl⟩:=H7 0 ps n e z;obtain⟨_,a9,rfl⟩:=H7 0 ps n' e' ad;simp at aw
 have av:B9 C0 fn.ntmps ⟨entry 0 (De 0 ps),Dr 0 ps,BF ps⟩ {tmps:=vs++Array.replicate (fn.ntmps - vs.size) undef,defers:=[]} S.w:=by
  have aa:AM S0 (De 0 ps) vs.toList:=hcl S0 rfl rfl (λn _=>⟨rfl,rfl⟩);refine⟨S0,rfl,au,λn=>rfl,?_,?_,?_,by simp;rw[Y9] at a0;omega,rfl,CF _,λo ho=>absurd ho (jI _)⟩
  .intro t;have G:=gL (S:=S0) (De 0 ps) vs.toList 0 t aa;simp only[CF,BI,Zf] at G
   have:({tmps:=vs++Array.replicate (fn.ntmps - vs.size) undef,defers:=[]}:Act).eval (.tmp t)=(vs.toList[t]?).getD undef:=by
    simp only[Act.eval,Ho,rQ,dF];by_cases ht:t<vs.size
    .simp[ht]
    .simp only[ht,Cy]
     have:vs[t]? =none:=Wy (by omega)
     simp only[G4,this]
     split<;>rfl
   rw[this];exact G
  .intro t m hm;exact oJ 0 ps (BF ps) (by omega) m (gS (De 0 ps) 0 t m hm)
  .intro n e z;obtain⟨G,cs,rfl⟩:=H7 0 ps n e z;exact⟨by show n<BF ps;omega,by simp[Ad.nms]⟩
 refine wp_mono (Qo4 HM (cM hV) c ah _ _ _ _ hk av) ?_;have fin: ∀(s:Aj) (a:Act) (w:World),Tt P fn.results.toList (BF ps) [] JO (Dr 0 ps) R s->B9 C0 fn.ntmps s a w->a.defers=[]/\ ∃v,(results fn a.tmps).run P w= .ok v w/\RR (.returned v) w:=by
  rintro s a w hr ⟨S1,rfl,hc⟩;unfold Tt at hr;cases hxs:Ax (J7 P s) fn.results.toList with
  |none=>rw[hxs] at hr;exact hr.elim
  |some xs=>
   rw[hxs] at hr;simp only[Mm] at hr;obtain⟨v,an,ac⟩:=nS hc hxs;refine⟨hc.defers,v,an,?_⟩;obtain⟨_,_,Q⟩:=hr;have ao:hget s.h=S1.h:=(funext hc.h).symm;rw[ao] at Q
   let kx:=Hx (BF ps) (JO s (CT xs))
   have ag:Wf C0 (S1.ice λ_=>false):=UI hc.wf;have af: ∀(f:AV->Option D) (o:Nat),Pz f ((S1.ice λ_=>false).h o)=Pz f (S1.h o)/\Wp ((S1.ice λ_=>false).h o)=Wp (S1.h o)/\Wk f ((S1.ice λ_=>false).h o)=Wk f (S1.h o):=by
    intro f o;rw[show (S1.ice λ_=>false).h o=(S1.h o).map λe=>(e.1 && false,e.2) from rfl];cases S1.h o with
    |none=>exact⟨rfl,rfl,rfl⟩
    |some e=>obtain⟨mu,e⟩:=e;cases e<;>exact⟨rfl,rfl,rfl⟩
   have ai: ∀(n:Nat),Bb (S1.ice λ_=>false).h kx n=Bb S1.h kx n:=by
    intro n;induction n with
    |zero=>funext x;simp[Bb]
    |succ n ih=>
     funext x;cases x with
     |own o=>simp only[Bb,ih,(af _ o).1]
     |mp o=>simp only[Bb,(af (λ_=>none) o).2.1]
     |ptr o p=>cases p<;>simp only[Bb,ih,(af _ o).2.2]
     |_=>simp only[Bb,ih]
   cases hcv:Bb S1.h kx 9 (CT xs) with
   |none=>rw[hcv] at Q;exact Q.elim
   |some r=>
    rw[hcv] at Q;have ab: ∃H n,R r H n:=by
     simp only[JO,IG,IF,QB,IK] at Q;exact⟨_,_,Q⟩
    obtain⟨H,n,ab⟩:=ab;obtain⟨d,rfl,ax⟩:=hR _ _ _ ab;have az:=Ra ag (kx:=kx) (λo e l _ z hv hl=>iN hc.wf rfl z hv hl) 9 (CT xs) d v (by rw[ai];exact hcv) (H9 (He S1 _) _ _ (λ_ _=>trivial) ac);have G:=ag;have O: ∀b,b<S.w.heap.size->S1.w.heap[b]? =S.w.heap[b]? :=λb hb=>hc.wf.keep b hb (λh=>h)
    let S':Ay:={S with ok:=(S1.ice λ_=>false).ok,w:=S1.w}
    have hp:Bx (λ_=>True) S S':=⟨λb hb=>⟨G.ok0 b hb,O b (hW.oks b hb)⟩,λo _ e' ad=>⟨e',ad,rfl,rfl,rfl⟩⟩;have aq:Wf C S':=by
     refine⟨G.os.trans hW.os,G.tape.trans hW.tape,G.output.trans hW.output,Dt hW.size G.size,?_,λb hb=>G.ok0 b (hW.ok0 b hb),?_,G.oks,?_,?_,hW.inj,hW.gl⟩
     .intro b hb hM;exact (O b (FL hb hW.size)).trans (hW.keep b hb hM)
     .intro b hb;rcases G.ok1 b hb with h|h|h
      .exact hW.ok1 b h
      .exact .inr (.inl (Dt hW.size h))
      .exact h.elim
     .intro o e z;exact H8 hp (λlc hl=>O lc.b (hW.loc o e lc z hl).1) _ (λ_ _=>trivial) (hW.obj o e z)
     .intro o e l z hl;obtain⟨h2,Z⟩:=hW.loc o e l z hl;refine⟨FL h2 G.size,?_⟩;cases hm:e.1 with
      |false=>
       rw[hm] at Z;simp only[CE,Cy] at Z⊢;exact Z.imp (G.ok0 _) id
      |true=>
       rw[hm] at Z;simp only[BI] at Z⊢;refine⟨λay=> ?_,Z.2⟩;rcases G.ok1 _ ay with h|h|h
       .exact Z.1 h
       .have h:S.w.heap.size<=l.b:=h;omega
       .exact h.elim
    exact aj v S' aq rfl hp (ax _ _ _ az)
 intro e a w z;cases e<;>simp only[FB] at z<;>simp only[bodyPost]
 .obtain⟨s,hs,hc⟩:=z;exact fin s a w hs hc
 .obtain⟨s,hs,_⟩:=z;exact hs.elim
 .obtain⟨s,hs,hc⟩:=z;exact fin s a w hs hc
def PF(o:Nat):Option Aq->Option (D×Ap)
 |some (z,.arr T k rows)=>some (.sl false k rows,bif z then [(o,(false,.arr T k rows))] else [])
 |some (_,.cells _ _)=>none
 |some (_,.arrA _ _ _)=>none
 |some (_,.map _ _)=>none
 |some (_,.chan _ _)=>none
 |some (_,.iter _ _)=>none
 |some (_,.view _)=>none
 |none=>none
def PE(o:Nat):Option Aq->Option (D×Ap)
 |some (O,.map G z)=>some (.mp G z,bif O then [(o,(false,.map G z))] else [])
 |some (_,.cells _ _)=>none
 |some (_,.arr _ _ _)=>none
 |some (_,.arrA _ _ _)=>none
 |some (_,.chan _ _)=>none
 |some (_,.iter _ _)=>none
 |some (_,.view _)=>none
 |none=>none
def jO(f:List D->D):Option (List D×Ap)->Option (D×Ap)
 |some (ds,F)=>some (f ds,F)
 |none=>none
mutual
def Eb(h:Nat->Option Aq):AV->Option (D×Ap)
 | .im d=>some (d,[])
 | .own o=>PF o (h o)
 | .mp o=>PE o (h o)
 | .agg z=>jO .agg (R7 h z)
 | .tup z=>jO .tup (R7 h z)
 | .any=>none
 | .ptr _ _=>none
 | .eptr _ _ _=>none
 | .ch _=>none
 | .it _=>none
 | .osl _ _ _=>none
 | .clo _ _ _=>none
def R7(h:Nat->Option Aq):List AV->Option (List D×Ap)
 |[]=>some ([],[])
 |x::r=>QW (Eb h x) (R7 h r)
end
def Z8:Option (D×Ap)->Option (PK×Ap)
 |some (d,F)=>some (.val d,F)
 |none=>none
def FU:D->PK
 | .ref z=> .ptr z
 | .int k n=> .val (.int k n)
 | .bool b=> .val (.bool b)
 | .str s=> .val (.str s)
 | .nilp=> .val .nilp
 | .nilf=> .val .nilf
 | .nili=> .val .nili
 | .nilc=> .val .nilc
 | .nilm=> .val .nilm
 | .agg z=> .val (.agg z)
 | .tup z=> .val (.tup z)
 | .sl Q k rows=> .val (.sl Q k rows)
 | .mp O G=> .val (.mp O G)
 | .fn f a b=> .val (.fn f a b)
 | .ifc t d=> .val (.ifc t d)
 | .gp g=> .val (.gp g)
 | .tok g=> .val (.tok g)
def zT:Option (List D)->Option (PK×Ap)
 |some ds=>some (.ptr ds,[])
 |none=>none
def SV(off:Nat):Option Aq->Option (PK×Ap)
 |some (_,.cells _ z)=>zT (D8 (z.drop off))
 |some (_,.view z)=>some (.ptr (z.drop off),[])
 |some (_,.arr _ _ _)=>none
 |some (_,.arrA _ _ _)=>none
 |some (_,.map _ _)=>none
 |some (_,.chan _ _)=>none
 |some (_,.iter _ _)=>none
 |none=>none
def Jl(h:Nat->Option Aq):AV->Option (PK×Ap)
 | .im d=>some (FU d,[])
 | .ptr o off=>SV off (h o)
 | .own o=>Z8 (Eb h (.own o))
 | .mp o=>Z8 (Eb h (.mp o))
 | .agg z=>Z8 (Eb h (.agg z))
 | .tup z=>Z8 (Eb h (.tup z))
 | .any=>none
 | .eptr _ _ _=>none
 | .ch _=>none
 | .it _=>none
 | .osl _ _ _=>none
 | .clo _ _ _=>none
def cI:Option (PK×Ap)->Option (List PK×Ap)->Option (List PK×Ap)
 |some (p,F),some (z,G)=>some (p::z,F++G)
 |some _,none=>none
 |none,_=>none
def IH(h:Nat->Option Aq):List AV->Option (List PK×Ap)
 |[]=>some ([],[])
 |x::r=>cI (Jl h x) (IH h r)
def DK{A:Type}(K:A->Prop):Option A->Prop
 |some a=>K a
 |none=>False
def PD(u:List Nat):Ap->Bk
 |[]=>{use:=u}
 |e::r=>{use:=u,kill:=(e::r).map (·.1),new:=e::r}
def Vi{A:Type}(ar:List PK->Option A)(pre:A->Prop)(re:A->D)(u:List Nat)(K:Ai):Option (List PK×Ap)->Prop
 |some (z,F)=>DK (λa=>pre a/\K (.im (re a)) (PD u F)) (ar z)
 |none=>False
def CU{A:Type}(ar:List PK->Option A)(pre:A->Prop)(re:A->D):A7:=λargs h _ K=>Vi ar pre re (AC args) K (IH h args)
def FC(S:Ay)(F:Ap):Prop:= ∀n e,(n,e)∈F-> ∃z,S.h n=some (z,e.2)/\e.1=false
def FC.app{S:Ay}{F G:Ap}(O:FC S F)(Q:FC S G):FC S (F++G):=by
 intro n e z;rcases Br.1 z with z|z
 .exact O n e z
 .exact Q n e z
def XF(F:Ap)(X:Nat->Bool):Prop:= ∀n∈F.map (·.1),X n=false
def XF.app{F G:Ap}{X:Nat->Bool}(h:XF (F++G) X):XF F X/\XF G X:=by
 unfold XF at*;simp only[F9,Br] at h;exact⟨λn hn=>h n (.inl hn),λn hn=>h n (.inr hn)⟩
section
variable {C:AX}{S:Ay}{h:Nat->Option Aq}
def R9(hW:Wf C S){o:Nat}{d:D}{F:Ap}{v:Value}(hh:S.h o=h o)(hd:PF o (h o)=some (d,F))(hc:Aa S (.own o) v):FC S F/\ ∀X,XF F X->rd (S.ice X).ok (S.ice X).hp d v:=by
 cases ho:h o with
 |none=>rw[ho] at hd;simp[PF] at hd
 |some e=>
  obtain⟨mu,e⟩:=e;rw[ho] at hd hh;cases e<;>simp only[PF,reduceCtorEq] at hd;rename_i T k rows;simp only[AI,Ej] at hd;obtain⟨rfl,rfl⟩:=hd;refine⟨?_,λX hX=> ?_⟩
  .cases mu with
   |false=>intro n e z;cases z
   |true=>
    intro n e z;simp only[Ca,BE,Ej] at z;obtain⟨rfl,rfl⟩:=z;exact⟨true,hh,rfl⟩
  .have O:Wf C (S.ice X):=UI hW;have Z:=H9 (He S X) _ _ (λ_ _=>trivial) hc;have z:(S.ice X).h o=some (mu && X o,.arr T k rows):=by
    show (S.h o).map _=_;rw[hh];rfl
   refine Li (f:=λ_=>none) O (λx d v hx=>by cases hx) ?_ (by rw[z];rfl) Z;intro e' l G hv hl;cases mu with
   |true=>exact iN hW (hX o (by simp)) G hv hl
   |false=>
    rw[z] at G;obtain rfl:=AE G
    have:=(O.loc o _ l z hl).2
    simp only[Ei,CE,Cy] at this;rcases this with Q|Q
    .exact Q
    .cases Q
def R8(hW:Wf C S){o:Nat}{d:D}{F:Ap}{v:Value}(hh:S.h o=h o)(hd:PE o (h o)=some (d,F))(hc:Aa S (.mp o) v):FC S F/\ ∀X,XF F X->rd (S.ice X).ok (S.ice X).hp d v:=by
 cases ho:h o with
 |none=>rw[ho] at hd;simp[PE] at hd
 |some e=>
  obtain⟨mu,e⟩:=e;rw[ho] at hd hh;cases e<;>simp only[PE,reduceCtorEq] at hd;rename_i kt es;simp only[AI,Ej] at hd;obtain⟨rfl,rfl⟩:=hd;refine⟨?_,λX hX=> ?_⟩
  .cases mu with
   |false=>intro n e z;cases z
   |true=>
    intro n e z;simp only[Ca,BE,Ej] at z;obtain⟨rfl,rfl⟩:=z;exact⟨true,hh,rfl⟩
  .have O:Wf C (S.ice X):=UI hW;have Z:=H9 (He S X) _ _ (λ_ _=>trivial) hc;have z:(S.ice X).h o=some (mu && X o,.map kt es):=by
    show (S.h o).map _=_;rw[hh];rfl
   refine R4 O ?_ (by rw[z];rfl) Z;intro e' l G hv hl;cases mu with
   |true=>exact iN hW (hX o (by simp)) G hv hl
   |false=>
    rw[z] at G;obtain rfl:=AE G
    have:=(O.loc o _ l z hl).2
    simp only[Ei,CE,Cy] at this;rcases this with Q|Q
    .exact Q
    .cases Q
mutual
def kL(hW:Wf C S): ∀(x:AV) (d:D) (F:Ap) (v:Value),(∀n∈x.nms,S.h n=h n)->Eb h x=some (d,F)->Aa S x v->FC S F/\ ∀X,XF F X->rd (S.ice X).ok (S.ice X).hp d v
 | .im d',d,F,v,_,hd,hc=>by
   simp only[Eb,AI,Ej] at hd;obtain⟨rfl,rfl⟩:=hd;simp only[Aa] at hc;exact⟨(λn e he=>by cases he),λX _=>Gs (He S X).ok _ _ hc⟩
 | .own o,d,F,v,z,hd,hc=>by
   simp only[Eb] at hd;exact R9 hW (z o (by simp[AV.nms])) hd hc
 | .mp o,d,F,v,z,hd,hc=>by
   simp only[Eb] at hd;exact R8 hW (z o (by simp[AV.nms])) hd hc
 | .agg O,d,F,v,z,hd,hc=>by
   simp only[Eb] at hd;cases hl:R7 h O with
   |none=>rw[hl] at hd;cases hd
   |some q=>
    obtain⟨ds,G⟩:=q;rw[hl] at hd;simp only[jO,AI,Ej] at hd;obtain⟨rfl,rfl⟩:=hd;simp only[Aa] at hc;obtain⟨Q,rfl,Z⟩:=hc;obtain⟨h2,h3⟩:=Qtb hW O ds G Q.toList (by simpa only[AV.nms] using z) hl Z;exact⟨h2,λX hX=>by simp only[rd];exact⟨Q,rfl,h3 X hX⟩⟩
 | .tup O,d,F,v,z,hd,hc=>by
   simp only[Eb] at hd;cases hl:R7 h O with
   |none=>rw[hl] at hd;cases hd
   |some q=>
    obtain⟨ds,G⟩:=q;rw[hl] at hd;simp only[jO,AI,Ej] at hd;obtain⟨rfl,rfl⟩:=hd;simp only[Aa] at hc;obtain⟨Q,rfl,Z⟩:=hc;obtain⟨h2,h3⟩:=Qtb hW O ds G Q.toList (by simpa only[AV.nms] using z) hl Z;exact⟨h2,λX hX=>by simp only[rd];exact⟨Q,rfl,h3 X hX⟩⟩
 | .any,d,F,v,_,hd,_=>by simp[Eb] at hd
 | .ptr _ _,d,F,v,_,hd,_=>by simp[Eb] at hd
 | .eptr _ _ _,d,F,v,_,hd,_=>by simp[Eb] at hd
 | .ch _,d,F,v,_,hd,_=>by simp[Eb] at hd
 | .it _,d,F,v,_,hd,_=>by simp[Eb] at hd
 | .osl _ _ _,d,F,v,_,hd,_=>by simp[Eb] at hd
 | .clo _ _ _,d,F,v,_,hd,_=>by simp[Eb] at hd
def Qtb(hW:Wf C S): ∀(xs:List AV) (ds:List D) (F:Ap) (vs:List Value),(∀n∈AC xs,S.h n=h n)->R7 h xs=some (ds,F)->AM S xs vs->FC S F/\ ∀X,XF F X->rdl (S.ice X).ok (S.ice X).hp ds vs
 |[],ds,F,vs,_,hd,hc=>by
  simp only[R7,AI,Ej] at hd;obtain⟨rfl,rfl⟩:=hd;simp only[AM] at hc;exact⟨(λn e he=>by cases he),λX _=>by simp only[rdl];exact hc⟩
 |x::xs,ds,F,vs,O,hd,hc=>by
  simp only[AC,Br] at O;simp only[R7] at hd;simp only[AM] at hc;obtain⟨v,r,rfl,Z,h2⟩:=hc;cases hx:Eb h x with
  |none=>rw[hx] at hd;simp[QW] at hd
  |some q=>
   obtain⟨d,E⟩:=q;cases hl:R7 h xs with
   |none=>rw[hx,hl] at hd;simp[QW] at hd
   |some q2=>
    obtain⟨z,G⟩:=q2;rw[hx,hl] at hd;simp only[QW,AI,Ej] at hd;obtain⟨rfl,rfl⟩:=hd;obtain⟨a1,a2⟩:=kL hW x d E v (λn hn=>O n (.inl hn)) hx Z;obtain⟨b1,b2⟩:=Qtb hW xs z G r (λn hn=>O n (.inr hn)) hl h2;refine⟨a1.app b1,λX hX=> ?_⟩;obtain⟨c1,Q⟩:=hX.app;simp only[rdl];exact⟨v,r,rfl,a2 X c1,b2 X Q⟩
end
def Qyv(hW:Wf C S){d:D}{v:Value}(hd:rd S.ok S.hp d v):Js S (FU d) v:=by
 cases d<;>try exact hd
 rename_i cs;simp only[rd] at hd;obtain⟨b,p,vs,T,z,G,O,Q,Z⟩:=hd;exact⟨b,p,vs,T,z,G,hW.oks b O,Q,Z⟩
def SS(hW:Wf C S){x:AV}{p:PK}{F:Ap}{v:Value}(hh: ∀n∈x.nms,S.h n=h n)(hp:Jl h x=some (p,F))(hc:Aa S x v):FC S F/\ ∀X,XF F X->Js (S.ice X) p v:=by
 have ab:Z8 (Eb h x)=some (p,F)->FC S F/\ ∀X,XF F X->Js (S.ice X) p v:=by
  intro hp;cases hx:Eb h x with
  |none=>rw[hx] at hp;cases hp
  |some q=>
   obtain⟨d,G⟩:=q;rw[hx] at hp;simp only[Z8,AI,Ej] at hp;obtain⟨rfl,rfl⟩:=hp;obtain⟨O,Q⟩:=kL hW x d G v hh hx hc;exact⟨O,Q⟩
 cases x<;>simp only[Jl,reduceCtorEq] at hp
 case im d=>
  simp only[AI,Ej] at hp;obtain⟨rfl,rfl⟩:=hp;simp only[Aa] at hc;exact⟨(λn e Z=>by cases Z),λX _=>Qyv (UI hW) (Gs (He S X).ok _ _ hc)⟩
 case ptr o off=>
  have ho:=hh o (by simp[AV.nms]);cases hn:h o with
  |none=>rw[hn] at hp;simp[SV] at hp
  |some e=>
   obtain⟨mu,e⟩:=e;rw[hn] at hp ho;have z:=hW.obj o _ ho;simp only[Aa] at hc;obtain⟨l,hl,hv⟩:=hc.2 _ ho;have aa:=(hW.loc o _ l ho hl).1;cases e<;>simp only[SV,reduceCtorEq] at hp
   case cells T cs=>
    cases ha:D8 (cs.drop off) with
    |none=>rw[ha] at hp;cases hp
    |some ds=>
     rw[ha] at hp;simp only[zT,AI,Ej] at hp;obtain⟨rfl,rfl⟩:=hp;refine⟨(λn e Z=>by cases Z),λX _=> ?_⟩;simp only[Au] at z;obtain⟨lc,vs,O,Q,h3,h4⟩:=z;rw[hl] at O;obtain rfl:=AE O;simp only[Js];refine⟨l.b,l.p+off,vs,_,_,hv,aa,h3,?_⟩;rw[Q,Fh];have h5:AM S (cs.drop off) (vs.toList.drop off):=by
      have: ∀(n:Nat) (a:List AV) (b:List Value),AM S a b->AM S (a.drop n) (b.drop n):=by
       intro n;induction n with
       |zero=>intro a b h;simpa using h
       |succ n ih=>
        intro a b h;cases a with
        |nil=>simp only[AM] at h;subst h;simp[AM]
        |cons x a=>
         simp only[AM] at h;obtain⟨v,r,rfl,_,h⟩:=h;simpa using ih a r h
      exact this off cs _ h4
     exact Qse ds _ (Ky (He S X).ok _ _ (Qov _ ds _ ha h5))
   case view cs=>
    simp only[AI,Ej] at hp;obtain⟨rfl,rfl⟩:=hp;refine⟨(λn e Z=>by cases Z),λX _=> ?_⟩;simp only[Au] at z;obtain⟨lc,vs,T,fr,O,Q,h3⟩:=z;rw[hl] at O;obtain rfl:=AE O;simp only[Js];refine⟨l.b,l.p+off,vs,T,fr,hv,aa,Q,?_⟩;rw[<-Ey]
    have: ∀(n:Nat) (a:List D) (b:List Value),rdp S.ok S.hp a b->rdp S.ok S.hp (a.drop n) (b.drop n):=by
     intro n;induction n with
     |zero=>intro a b h;simpa using h
     |succ n ih=>
      intro a b h;cases a with
      |nil=>simp[rdp]
      |cons x a=>
       simp only[rdp] at h;obtain⟨v,r,rfl,_,h⟩:=h;simpa using ih a r h
    exact YB (He S X).ok _ _ (this off cs _ h3)
 all_goals exact ab hp
def lC(hW:Wf C S): ∀(xs:List AV) (ps:List PK) (F:Ap) (vs:List Value),(∀n∈AC xs,S.h n=h n)->IH h xs=some (ps,F)->AM S xs vs->FC S F/\ ∀X,XF F X->Es (S.ice X) ps vs
 |[],ps,F,vs,_,hd,hc=>by
  simp only[IH,AI,Ej] at hd;obtain⟨rfl,rfl⟩:=hd;simp only[AM] at hc;exact⟨(λn e he=>by cases he),λX _=>by simp only[Es];exact hc⟩
 |x::xs,ps,F,vs,z,hd,hc=>by
  simp only[AC,Br] at z;simp only[IH] at hd;simp only[AM] at hc;obtain⟨v,r,rfl,Z,h2⟩:=hc;cases hx:Jl h x with
  |none=>rw[hx] at hd;simp[cI] at hd
  |some q=>
   obtain⟨p,E⟩:=q;cases hl:IH h xs with
   |none=>rw[hx,hl] at hd;simp[cI] at hd
   |some q2=>
    obtain⟨O,G⟩:=q2;rw[hx,hl] at hd;simp only[cI,AI,Ej] at hd;obtain⟨rfl,rfl⟩:=hd;obtain⟨a1,a2⟩:=SS hW (λn hn=>z n (.inl hn)) hx Z;obtain⟨b1,b2⟩:=lC hW xs O G r (λn hn=>z n (.inr hn)) hl h2;refine⟨a1.app b1,λX hX=> ?_⟩;obtain⟨c1,Q⟩:=hX.app;simp only[Es];exact⟨v,r,rfl,a2 X c1,b2 X Q⟩
end
def NT(u:List Nat)(F:Ap):(PD u F).use=u/\(PD u F).kill=F.map (·.1)/\(PD u F).new=F/\(PD u F).cnt=0:=by
 cases F<;>exact⟨rfl,rfl,rfl,rfl⟩
def EA{B:Type}(rc:D->Option B)(b:B):AV->Prop
 | .im d=>rc d=some b
 | .any=>False
 | .agg _=>False
 | .tup _=>False
 | .ptr _ _=>False
 | .eptr _ _ _=>False
 | .own _=>False
 | .mp _=>False
 | .ch _=>False
 | .it _=>False
 | .osl _ _ _=>False
 | .clo _ _ _=>False
def LZ{B:Type}(rc:D->Option B)(b:B):JC:=λr _ _=>EA rc b r
def PS{P:Program}(HM:P.follows .mixedOrders=true){V:CK}(hV:Ja P V){g:FuncId}{fn:Func}{c:Code}(hf:P.funcs[g]? =some fn)(hb:fn.body=some c)(aa:DY fn.ntmps c=true)(Z:Ix P g=true)
 {A B:Type}{ar:List PK->Option A}{ae:A->List PK}(aj: ∀ps a,ar ps=some a->BA ps (ae a)){n:Nat}(hn: ∀a,(ae a).length=n)(ak:n<=fn.ntmps){rc:D->Option B}{re:B->D}(am: ∀d b,rc d=some b->Le d (re b))
 {pre:A->Prop}{f:A->B}
 (hk: ∀a,pre a->CM P V c (O7 P fn.results.toList (BF (ae a)) [] JO (Dr 0 (ae a)) (LZ rc (f a))) ⟨entry 0 (De 0 (ae a)),Dr 0 (ae a),BF (ae a)⟩):
 AA P g (CU ar pre λa=>re (f a)):=by
 intro args h nx K z;unfold CU at z;cases hp:IH h args with
 |none=>rw[hp] at z;exact z.elim
 |some q=>
  obtain⟨ps,F⟩:=q;rw[hp] at z;simp only[Vi] at z;cases ha:ar ps with
  |none=>rw[ha] at z;exact z.elim
  |some a=>
   rw[ha] at z;simp only[DK] at z;obtain⟨ac,hK⟩:=z;refine⟨Nn Z,_,_,?_,hK⟩;obtain⟨e1,e2,e3,e4⟩:=NT (AC args) F;intro C S vs RR hW G ad af O ab;rw[e1,e2] at G;obtain⟨h1,h2⟩:=lC hW args ps F vs.toList (λn hn=>G n (JF _ hn)) hp O
   let X:Nat->Bool:=λn=> !(F.map (·.1)).contains n
   have hX:XF F X:=by
    intro n hn;simp only[X,Gi.2 hn,Zj]
   have ah:Wf C (S.ice X):=UI hW;have Q:(S.ice X).h=(PD (AC args) F).appf S.h:=by
    have:=RN (S:=S) (F:=F) (u:=AC args) h1
    rw[show (PD (AC args) F).appf S.h=({use:=AC args,kill:=F.map (·.1),new:=F}:Bk).appf S.h by
     funext m;simp only[Bk.appf,e2,e3]]
    exact this
   refine U3 HM hV hf hb aa (S:=S.ice X) (ps:=ae a) (r0:=re (f a)) (by rw[hn];exact ak) ?_ (hk a ac) ah ((aj ps a ha).c (h2 X hX)) ?_
   .intro r H n hr;unfold LZ at hr;cases r<;>simp only[EA] at hr;exact⟨_,rfl,am _ _ hr⟩
   .intro v S' ag hh hp' an;refine ab v S' ag (by rw[hh,Q]) ?_ (by simp only[Aa];exact an);refine⟨λb hb=> ?_,λo _ e' ai=> ?_⟩
    .obtain⟨q1,q2⟩:=(He S X).ok b hb;obtain⟨q3,q4⟩:=hp'.ok b q1;exact⟨q3,q4.trans q2⟩
    .obtain⟨e,q1,q2,q3,q4⟩:=hp'.nm o trivial e' ai;obtain⟨e0,q5,q6,q7,q8⟩:=(He S X).nm o trivial e q1;exact⟨e0,q5,q2.trans q6,q3.trans q7,q4.trans q8⟩
def BT(σ:Nat->Nat)(k nx j:Nat):Nat:=if j<k then σ j else nx+(j - k)
def Am(H0:Ap)(o:Nat):Bool:=(hget H0 o).isSome
def I8(H0:Ap)(k cnt:Nat)(exB:Nat->Bool)(o:Nat):Option Nat:=bif Am H0 o||(exB o && (Nat.ble k o && Nat.blt o (k+cnt))) then some o else none
def Rs(f:AV->Option AV)(e:Aq):Option Aq->Prop
 |some (G,z)=>G=e.1/\Ct f z=some e.2
 |none=>False
def EK(h:Nat->Option Aq)(f:AV->Option AV):Ap->Prop
 |[]=>True
 |(j,e)::r=>Rs f e (h j)/\EK h f r
def H3(h:Nat->Option Aq)(klB:Nat->Bool):Ap->Prop
 |[]=>True
 |(j,e)::r=>(bif klB j then True else h j=some e)/\H3 h klB r
def Mk(R:AV->Prop):Option AV->Prop
 |some r=>R r
 |none=>False
def ZC(k cnt:Nat)(H0 H1:Ap)(klB exB:Nat->Bool)(R:AV->Prop)(s:Aj)(x:AV):Prop:=
 H3 (hget s.h) klB H0/\Mk R (Bb (hget s.h) (I8 H0 k cnt exB) 9 x)/\EK (hget s.h) (Bb (hget s.h) (I8 H0 k cnt exB) 9) H1
def Mj(k cnt:Nat)(H0 H1:Ap)(klB exB:Nat->Bool)(R:AV->Prop)(s:Aj):Option (List AV)->Prop
 |some xs=>ZC k cnt H0 H1 klB exB R s (CT xs)
 |none=>False
def H2(P:Program)(z:List ResultVar)(k cnt:Nat)(H0 H1:Ap)(klB exB:Nat->Bool)(R:AV->Prop)(s:Aj):Prop:=Mj k cnt H0 H1 klB exB R s (Ax (J7 P s) z)
def MV(P:Program)(z:List ResultVar)(k cnt:Nat)(H0 H1:Ap)(klB exB:Nat->Bool)(R:AV->Prop):Cb
 | .normal,s=>H2 P z k cnt H0 H1 klB exB R s
 | .ret,s=>H2 P z k cnt H0 H1 klB exB R s
 | .exit _,_=>False
def tW(P:Program)(z:List ResultVar)(k cnt:Nat)(H0 H1:Ap)(klB exB:Nat->Bool)(R:AV->Prop)(s:Aj):Prop:=
 ∃(F:List Nat) (π:List (Nat×Option Nat)) (s':Aj),A8 k π (R6 F s) s'/\s'.good=true/\k<=s'.nx/\H2 P z k cnt H0 H1 klB exB R s'
def F3(P:Program)(z:List ResultVar)(k cnt:Nat)(H0 H1:Ap)(klB exB:Nat->Bool)(R:AV->Prop):Cb
 | .normal,s=>tW P z k cnt H0 H1 klB exB R s
 | .ret,s=>tW P z k cnt H0 H1 klB exB R s
 | .exit _,_=>False
def Mo{h:Nat->Option Aq}{klB:Nat->Bool}: ∀(H:Ap),H3 h klB H-> ∀j e,(j,e)∈H->klB j=false->h j=some e
 |[],_,j,e,z,_=>by cases z
 |(i,x)::r,G,j,e,z,Q=>by
  simp only[H3] at G;rcases Bi.1 z with z|z
  .cases z;have O:=G.1;rw[Q] at O;exact O
  .exact Mo r G.2 j e z Q
def Qve{h:Nat->Option Aq}{f:AV->Option AV}: ∀(H:Ap),EK h f H-> ∀j e,(j,e)∈H-> ∃G,h j=some G/\e.1=G.1/\Ct f G.2=some e.2
 |[],_,j,e,z=>by cases z
 |(i,x)::r,Q,j,e,z=>by
  simp only[EK] at Q;rcases Bi.1 z with z|z
  .cases z;have O:=Q.1;cases hq:h i with
   |none=>rw[hq] at O;exact O.elim
   |some y=>
    obtain⟨Z,G⟩:=y;rw[hq] at O;exact⟨(Z,G),rfl,O.1.symm,O.2⟩
  .exact Qve r Q.2 j e z
def Qv5{σ:Nat->Nat}{D:Nat->Prop}(hσ: ∀i j,D i->D j->σ i=σ j->i=j): ∀(H:Ap),(∀p∈H,D p.1)-> ∀(j:Nat),D j->hget (AW σ H) (σ j)=(hget H j).map λe=>(e.1,e.2.ren σ)
 |[],_,j,_=>rfl
 |(i,(Z,e))::r,hH,j,G=>by
  simp only[AW,hget];by_cases z:i=j
  .subst z;simp
  .have O:(i==j)=false:=by simpa using z
   have Q:(σ i==σ j)=false:=by rw[HL];exact λh=>z (hσ _ _ (hH _ (BM ..)) G h)
   rw[O,Q];simpa using Qv5 hσ r (λp hp=>hH p (BR _ hp)) j G
def tM{P:Program}(HM:P.follows .mixedOrders=true){V:CK}(hV:Ja P V){g:FuncId}{fn:Func}{c:Code}(hf:P.funcs[g]? =some fn)(hb:fn.body=some c)(b9:DY fn.ntmps c=true)
 {args:List AV}{H0 H1:Ap}{k cnt:Nat}(c6:args.length<=fn.ntmps)(hbel:Av k args=true)(hbH:Ac k H0=true)(hkH:A9 k H0=true)
 (bu: ∀j e,hget H0 j=some e-> ∀m∈e.2.nms,Am H0 m=true)
 {klB exB:Nat->Bool}{R:AV->Prop}{r0:AV}
 (hR: ∀r,R r->C8 r r0)
 (hH1: ∀p∈H1,(p.1<k/\klB p.1=true/\Am H0 p.1=true)\/(k<=p.1/\p.1<k+cnt/\exB p.1=true/\p.2.1=true))
 {Q:Cb}(hQ: ∀(C:AX) (N:Nat) (a:Act) (w:World) (s:Aj),C.n0=k->B9 C N s a w->Q .normal s\/Q .ret s-> ∃s',B9 C N s' a w/\H2 P fn.results.toList k cnt H0 H1 klB exB R s')
 (cn: ∀i s,¬Q (.exit i) s)
 (hk:CM P V c Q ⟨entry 0 args,H0,k⟩)
 {h:Nat->Option Aq}{nx:Nat}{τ:Nat->Nat}(cc: ∀i j,Am H0 i=true->Am H0 j=true->τ i=τ j->i=j)(cy: ∀j,Am H0 j=true->τ j<nx)
 (hH: ∀j e,hget H0 j=some e->h (BT τ k nx j)=some (e.1,e.2.ren (BT τ k nx)))
 {U KL:List Nat}(hU: ∀j,Am H0 j=true->τ j∈U)(c5: ∀n∈KL,∃j,Am H0 j=true/\klB j=true/\n=τ j)(b8: ∀j,Am H0 j=true->klB j=true->τ j∈KL):
 PM P g (AL (BT τ k nx) args) h nx (r0.ren (BT τ k nx)) {use:=U,kill:=KL,new:=AW (BT τ k nx) H1,cnt:=cnt}:=by
 intro C S vs RR hW ci am bj a0 cb
 let σ:=BT τ k nx
 let DD:Nat->Prop:=λj=>Am H0 j=true\/k<=j
 have ai: ∀j e,hget H0 j=some e->Am H0 j=true:=λj e he=>by unfold Am;rw[he];rfl
 have aj: ∀j,Am H0 j=true-> ∃e,hget H0 j=some e:=λj O=>by
  unfold Am at O;cases hq:hget H0 j with
  |none=>rw[hq] at O;cases O
  |some e=>exact⟨e,rfl⟩
 have ao: ∀j,Am H0 j=true->j<k:=λj O=>by
  obtain⟨e,he⟩:=aj j O;exact oG _ hkH j e he
 have hσlo: ∀j,j<k->σ j=τ j:=λj O=>Ao O
 have hσge: ∀j,k<=j->σ j=nx+(j - k):=λj O=>Ag (by omega)
 have hσin: ∀j,Am H0 j=true->σ j∈U:=λj O=>by rw[hσlo j (ao j O)];exact hU j O
 have hσlt: ∀j,Am H0 j=true->σ j<nx:=λj O=>by rw[hσlo j (ao j O)];exact cy j O
 have hσinj: ∀i j,DD i->DD j->σ i=σ j->i=j:=by
  intro i j hi O h;rcases hi with hi|hi<;>rcases O with O|O
  .rw[hσlo i (ao i hi),hσlo j (ao j O)] at h;exact cc i j hi O h
  .have:=hσlt i hi
   rw[h,hσge j O] at this;omega
  .have:=hσlt j O
   rw[<-h,hσge i hi] at this;omega
  .rw[hσge i hi,hσge j O] at h;omega
 have hS: ∀j e,hget H0 j=some e->S.h (σ j)=some (e.1,e.2.ren σ):=by
  intro j e he;rw[ci (σ j) (JF _ (hσin j (ai j e he)))];exact hH j e he
 refine calls_of_wp hf hb ?_;have cj:=Ii _ _ a0;have c8:vs.size=args.length:=by rw[Qsc] at cj;simpa using cj
 let S0:Ay:=⟨λj=>S.ρ (σ j),S.ok,hget H0,S.w⟩
 let M0:Nat->Prop:=λb=> ∃j e l,hget H0 j=some e/\e.1=true/\S.ρ (σ j)=some l/\l.b=b
 let C0:AX:=⟨S.w,M0,S.ok,k,hget H0,λj=>S.ρ (σ j),[]⟩
 have bf: ∀n,Nu S S0 σ (λn=>n) n:=by
  intro n;refine⟨λe' z=>⟨_,hS n e' z,rfl,?_,?_⟩⟩
  .exact (wW σ e'.2).symm
  .exact (xH σ e'.2).symm
 have bn: ∀b,S.ok b->S0.ok b/\S0.hp b=S.hp b:=λb hb=>⟨hb,rfl⟩
 have cq:Wf C0 S0:=by
  refine⟨rfl,rfl,rfl,AN _,λ_ _ _=>rfl,λ_ hb=>hb,λ_ hb=> .inl hb,hW.oks,?_,?_,?_,hW.glN (by rintro b ⟨j,e,l,G,Z,h3,rfl⟩;have h4:=(hW.loc _ _ l (hS j e G) h3).2;rw[show (e.1,e.2.ren σ).1=true from Z] at h4;simp only[BI] at h4;exact h4.1)⟩
  .intro j e he;have G:=hW.obj _ _ (hS j e he);have Z:=Qzw (τ:=λn=>n) bn (λ_ _=>rfl) e.2 (λn _=>bf n) G;rwa [Qwc] at Z
  .intro j e l he hl;obtain⟨G,Z⟩:=hW.loc _ _ l (hS j e he) hl;refine⟨G,?_⟩;cases hm:e.1 with
   |false=>
    rw[hm] at Z;have hv:(e.2.ren σ).isView=e.2.isView:=by cases e.2<;>rfl
    simpa[hv] using Z
   |true=>
    rw[hm] at Z;simp only[BI] at Z⊢;exact⟨Z.1,.inr ⟨j,e,l,he,hm,hl,rfl⟩⟩
  .intro i j e e' l l' he z hl bw af ak;exact hσinj _ _ (.inl (ai _ _ he)) (.inl (ai _ _ z)) (hW.inj _ _ _ _ l l' (hS i e he) (hS j e' z) hl bw af ak)
 have cr:B9 C0 fn.ntmps ⟨entry 0 args,H0,k⟩ {tmps:=vs++Array.replicate (fn.ntmps - vs.size) undef,defers:=[]} S.w:=by
  have bg:AM S0 args vs.toList:=by
   have:=bM (τ:=λn=>n) bn args vs.toList (λn _=>bf n) a0
   rwa [YG] at this
  refine⟨S0,rfl,cq,λn=>rfl,?_,?_,λn e he=>⟨oG _ hkH n e he,bZ _ hbH n e he⟩,by simp;omega,rfl,AN _,λo _ e' z=>⟨e',z,rfl,rfl,rfl⟩⟩
  .intro t;have G:=gL (S:=S0) args vs.toList 0 t bg;simp only[CF,BI,Zf] at G
   have:({tmps:=vs++Array.replicate (fn.ntmps - vs.size) undef,defers:=[]}:Act).eval (.tmp t)=(vs.toList[t]?).getD undef:=by
    simp only[Act.eval,Ho,rQ,dF];by_cases ht:t<vs.size
    .simp[ht]
    .simp only[ht,Cy]
     have:vs[t]? =none:=Wy (by omega)
     simp only[G4,this]
     split<;>rfl
   rw[this];exact G
  .intro t m hm;exact YD args hbel m (gS args 0 t m hm)
 refine wp_mono (Qo4 HM (cM hV) c b9 _ _ _ _ hk cr) ?_;have fin: ∀(s:Aj) (a:Act) (w:World),H2 P fn.results.toList k cnt H0 H1 klB exB R s->B9 C0 fn.ntmps s a w->a.defers=[]/\ ∃v,(results fn a.tmps).run P w= .ok v w/\RR (.returned v) w:=by
  rintro s a w hr ⟨S1,rfl,hc⟩;unfold H2 at hr;cases hxs:Ax (J7 P s) fn.results.toList with
  |none=>rw[hxs] at hr;exact hr.elim
  |some xs=>
   rw[hxs] at hr;simp only[Mj] at hr;obtain⟨v,cg,br⟩:=nS hc hxs;refine⟨hc.defers,v,cg,?_⟩;obtain⟨cf,aw,az⟩:=hr;have co:hget s.h=S1.h:=(funext hc.h).symm;rw[co] at cf aw az
   let kx:=I8 H0 k cnt exB
   let X:Nat->Bool:=λo=>(kx o).isSome
   have ab:Wf C0 (S1.ice X):=UI hc.wf;have ba: ∀o,(S1.ice X).h o=(S1.h o).map λe=>(e.1 && X o,e.2):=λo=>rfl
   have bh: ∀o e l,kx o=none->(S1.ice X).h o=some e->e.2.isView=false->(S1.ice X).ρ o=some l->(S1.ice X).ok l.b:=by
    intro o e l ho he hv hl;exact iN hc.wf (by simp[X,ho]) he hv hl
   have bv: ∀(f:AV->Option D) (o:Nat),Pz f ((S1.ice X).h o)=Pz f (S1.h o)/\Wp ((S1.ice X).h o)=Wp (S1.h o)/\Wk f ((S1.ice X).h o)=Wk f (S1.h o):=by
    intro f o;rw[ba];cases S1.h o with
    |none=>exact⟨rfl,rfl,rfl⟩
    |some e=>obtain⟨mu,e⟩:=e;cases e<;>exact⟨rfl,rfl,rfl⟩
   have bl: ∀(n:Nat),Bb (S1.ice X).h kx n=Bb S1.h kx n:=by
    intro n;induction n with
    |zero=>funext x;simp[Bb]
    |succ n ih=>
     funext x;cases x with
     |own o=>simp only[Bb,ih,(bv _ o).1]
     |mp o=>simp only[Bb,(bv (λ_=>none) o).2.1]
     |ptr o p=>cases p<;>simp only[Bb,ih,(bv _ o).2.2]
     |_=>simp only[Bb,ih]
   rw[<-bl] at aw;have az:EK S1.h (Bb (S1.ice X).h kx 9) H1:=by rw[bl];exact az
   cases hcv:Bb (S1.ice X).h kx 9 (CT xs) with
   |none=>rw[hcv] at aw;exact aw.elim
   |some r=>
    rw[hcv] at aw;simp only[Mk] at aw;have cm:=hR _ aw;have bi: ∀o j,kx o=some j->j=o/\(Am H0 o=true\/(k<=o/\o<k+cnt)):=by
     intro o j O;simp only[kx,I8] at O;cases hq:Am H0 o<;>rw[hq] at O
     .cases hq2:(exB o && (Nat.ble k o && Nat.blt o (k+cnt)))<;>rw[hq2] at O
      .cases O
      .simp only[AS,GU,El] at hq2;simp only[yW,Ca,AI] at O;exact⟨O.symm,.inr hq2.2⟩
     .simp only[dJ,Ca,AI] at O;exact⟨O.symm,.inl rfl⟩
    have bc: ∀o,Am H0 o=true->kx o=some o:=λo ho=>by simp only[kx,I8,ho,dJ,Ca]
    have ce: ∀o,exB o=true->k<=o->o<k+cnt->kx o=some o:=λo G Z h3=>by
     have:(exB o && (Nat.ble k o && Nat.blt o (k+cnt)))=true:=by simp[G,Z,h3]
     simp only[kx,I8,this,yW,Ca]
    have ag: ∀j e',(j,e')∈H1->DD j/\j<k+cnt/\((j<k/\klB j=true/\Am H0 j=true)\/(k<=j/\e'.1=true))/\kx j=some j/\ ∃e,S1.h j=some e/\e'.1=e.1/\Ct (Bb (S1.ice X).h kx 9) e.2=some e'.2:=by
     intro j e' hm;obtain⟨e0,g1,g2,g3⟩:=Qve H1 az j e' hm;rcases hH1 _ hm with ⟨G,Z,h3⟩|⟨G,Z,h3,h4⟩
     .exact⟨.inl h3,by simp only at G;omega,.inl ⟨G,Z,h3⟩,bc j h3,e0,g1,g2,g3⟩
     .exact⟨.inr G,Z,.inr ⟨G,h4⟩,ce j h3 G Z,e0,g1,g2,g3⟩
    let E:Bk:={use:=U,kill:=KL,new:=AW σ H1,cnt:=cnt}
    let S':Ay:=⟨λn=>if nx<=n/\n<nx+cnt then S1.ρ (n - nx+k) else S.ρ n,(S1.ice X).ok,E.appf S.h,S1.w⟩
    have hρ: ∀j,DD j->j<k+cnt->(∀e,S1.h j=some e->S'.ρ (σ j)=S1.ρ j):=by
     intro j hd O e he;simp only[S'];by_cases au:j<k
     .have cv:Am H0 j=true:=hd.resolve_right (by omega);have G:=hσlt j cv;rw[Ag (by omega)];obtain⟨_,_,h3,_⟩:=hc.pre j au e he;exact h3.symm
     .have G:=hσge j (by omega);rw[Ao (by rw[G];omega),G];congr 1;omega
    have ah: ∀n e',S'.h n=some e'->(∃j e,n=σ j/\(j,e)∈H1/\hget H1 j=some e/\e'=(e.1,e.2.ren σ))\/(S.h n=some e'/\ ∀j,Am H0 j=true->klB j=true->n≠σ j):=by
     intro n e' z;have z:E.appf S.h n=some e':=z;simp only[Bk.appf,E] at z;cases hg:hget (AW σ H1) n with
     |some x=>
      rw[hg] at z;obtain rfl:=AE z;obtain⟨j,e,G,Z,h3⟩:=rG hg;subst Z;rw[Qv5 hσinj H1 (λp hp=>(ag p.1 p.2 hp).1) j (ag j e G).1] at hg;cases O:hget H1 j with
      |none=>rw[O] at hg;cases hg
      |some y=>
       rw[O] at hg;exact .inl ⟨j,y,rfl,bU O,O,by simpa using hg.symm⟩
     |none=>
      rw[hg] at z;cases hq:KL.contains n<;>rw[hq] at z
      .refine .inr ⟨z,?_⟩;rintro j O cd rfl
       have:=b8 j O cd
       rw[<-hσlo j (ao j O)] at this;rw[Gi.2 this] at hq;cases hq
      .cases z
    have a8: ∀n e l,S.h n=some e->S.ρ n=some l->(∀j,Am H0 j=true->n≠σ j)->l.b<S.w.heap.size/\ ¬M0 l.b:=by
     intro n e l he hl hn;refine⟨(hW.loc n e l he hl).1,?_⟩;rintro⟨j,e0,l0,G,h9,Z,h3⟩;exact hn j (ai j e0 G) (hW.inj _ _ _ _ l l0 he (hS j e0 G) hl Z h3.symm (by simp[h9]))
    have av: ∀b,b<S.w.heap.size-> ¬M0 b->S1.w.heap[b]? =S.w.heap[b]? :=λb hb hM=>hc.wf.keep b hb hM
    have bo: ∀b,S.ok b->S'.ok b/\S'.hp b=S.hp b:=by
     intro b hb;refine⟨ab.ok0 b hb,av b (hW.oks b hb) ?_⟩;rintro⟨j,e,l,G,Z,h3,h4⟩
     have:=(hW.loc _ _ l (hS j e G) h3).2
     rw[show (e.1,e.2.ren σ).1=true from Z] at this;simp only[BI] at this;exact this.1 (h4▸hb)
    have ay: ∀j e0,hget H0 j=some e0->klB j=false->S1.h j=some e0:=λj e0 G Z=>Mo H0 cf j e0 (bU G) Z
    have bd: ∀j,Am H0 j=true->(∀j',Am H0 j'=true->klB j'=true->σ j≠σ j')->klB j=false:=by
     intro j O h;cases hq:klB j with
     |false=>rfl
     |true=>exact absurd rfl (h j O hq)
    have be: ∀o,¬Fr nx cnt o-> ∀e',S'.h o=some e'-> ∃e,S.h o=some e/\S'.ρ o=S.ρ o/\e'.2.esz=e.2.esz/\e'.2.len=e.2.len:=by
     intro o ho e' z;have hρo:S'.ρ o=S.ρ o:=by
      simp only[S'];rw[Ag (by intro h;exact ho ⟨h.1,h.2⟩)]
     rcases ah o e' z with ⟨j,e,rfl,G,Z,rfl⟩|⟨G,_⟩
     .obtain⟨g0,g1,g2,g3,x,g4,g5,g6⟩:=ag j e G;have au:j<k:=by
       rcases g2 with g2|g2
       .exact g2.1
       .have:=hσge j g2.1
        exact absurd (show Fr nx cnt (σ j) from ⟨by omega,by omega⟩) ho
      obtain⟨e0,p1,p2,p3,p4⟩:=hc.pre j au x g4;have an:=(@Qti C0 (S1.ice X) (S1.ice X) ab kx (λj=>j) (λb hb=>⟨hb,rfl⟩) bh (by
       intro o j O e' z;obtain⟨q1,_⟩:=bi o j O;subst q1;exact⟨e',z,rfl,rfl,rfl⟩) 9 x.2 e.2 g6).1
      refine⟨_,hS j e0 p1,hρo,?_,?_⟩
      .simp only[wW];rw[<-p3,<-an.1]
      .simp only[xH];rw[<-p4,<-an.2]
     .exact⟨e',G,hρo,rfl,rfl⟩
    have ax: ∀o j,kx o=some j-> ∀e',S'.h (σ j)=some e'-> ∃e,(S1.ice X).h o=some e/\S'.ρ (σ j)=(S1.ice X).ρ o/\e'.2.esz=e.2.esz/\e'.2.len=e.2.len:=by
     intro o j O e' z;obtain⟨rfl,q2⟩:=bi o j O;have bt:DD j:=q2.imp id (λh=>h.1);have cw:j<k+cnt:=by
      rcases q2 with q2|q2
      .have:=ao j q2;omega
      .exact q2.2
     rcases ah (σ j) e' z with ⟨j',e,h0,G,Z,rfl⟩|⟨G,Z⟩
     .obtain⟨g0,g1,g2,g3,x,g4,g5,g6⟩:=ag j' e G;obtain rfl:=hσinj _ _ bt g0 h0;have an:=(@Qti C0 (S1.ice X) (S1.ice X) ab kx (λj=>j) (λb hb=>⟨hb,rfl⟩) bh (by
       intro o j O e' z;obtain⟨q1,_⟩:=bi o j O;subst q1;exact⟨e',z,rfl,rfl,rfl⟩) 9 x.2 e.2 g6).1
      have hr:=hρ j bt g1 x g4;refine⟨(x.1 && X j,x.2),by rw[ba,g4];rfl,hr,?_,?_⟩
      .simp only[wW];rw[<-an.1]
      .simp only[xH];rw[<-an.2]
     ·
      have aa:Am H0 j=true:=by
       rcases q2 with h|h
       .exact h
       .have h5:=am (σ j) ⟨by rw[hσge j h.1];omega,by rw[hσge j h.1];show nx+(j - k)<nx+cnt;omega⟩;rw[h5] at G;cases G
      have bb:=bd j aa (λj' a b=>Z j' a b);obtain⟨e0,ad⟩:=aj j aa;have g4:=ay j e0 ad bb;have hr:=hρ j bt cw e0 g4
      have:=hS j e0 ad
      rw[G] at this;obtain rfl:=AE this;refine⟨(e0.1 && X j,e0.2),by rw[ba,g4];rfl,hr,?_,?_⟩
      .simp only[wW]
      .simp only[xH]
    have aq: ∀n e' l,S'.h n=some e'->S'.ρ n=some l->(∃j x,n=σ j/\S1.h j=some x/\e'.1=x.1/\S1.ρ j=some l/\(k<=j->x.1=true)/\DD j/\kx j=some j/\e'.2.isView=x.2.isView)\/(S.h n=some e'/\S.ρ n=some l/\ ∀j,Am H0 j=true->n≠σ j):=by
     intro n e' l z hl;rcases ah n e' z with ⟨j,e,rfl,G,Z,rfl⟩|⟨G,Z⟩
     .obtain⟨g0,g1,g2,g3,x,g4,g5,g6⟩:=ag j e G;have hr:=hρ j g0 g1 x g4;refine .inl ⟨j,x,rfl,g4,g5,by rw[<-hr];exact hl,?_,g0,g3,?_⟩
      .intro cd;rcases g2 with g2|g2
       .omega
       .rw[<-g5];exact g2.2
      .have hv:(e.2.ren σ).isView=e.2.isView:=by cases e.2<;>rfl
       show (e.2.ren σ).isView=_;rw[hv];exact NK g6
     .by_cases hn: ∃j,Am H0 j=true/\n=σ j
      .obtain⟨j,aa,rfl⟩:=hn;have bb:=bd j aa (λj' a b=>Z j' a b);obtain⟨e0,ad⟩:=aj j aa;have g4:=ay j e0 ad bb;have au:=ao j aa;have hr:=hρ j (.inl aa) (by omega) e0 g4
       have:=hS j e0 ad
       rw[G] at this;obtain rfl:=AE this;exact .inl ⟨j,e0,rfl,g4,rfl,by rw[<-hr];exact hl,λh=>by omega,.inl aa,bc j aa,by cases e0.2<;>rfl⟩
      .have bz: ∀j,Am H0 j=true->n≠σ j:=λj O h=>hn ⟨j,O,h⟩
       refine .inr ⟨G,?_,bz⟩;have bx: ¬Fr nx cnt n:=by
        intro a9
        have:=am n a9
        rw[this] at G;cases G
       have hρo:S'.ρ n=S.ρ n:=by
        simp only[S'];rw[Ag (by intro h;exact bx ⟨h.1,h.2⟩)]
       rw[<-hρo];exact hl
    have cp:Wf C S':=by
     refine⟨hc.wf.os.trans hW.os,hc.wf.tape.trans hW.tape,hc.wf.output.trans hW.output,Dt hW.size hc.wf.size,?_,λb hb=>ab.ok0 b (hW.ok0 b hb),?_,ab.oks,?_,?_,?_,hW.gl⟩
     .intro b hb hM;have c2: ¬M0 b:=by
       rintro⟨j,e,l,G,Z,h3,h4⟩
       have:=(hW.loc _ _ l (hS j e G) h3).2
       rw[show (e.1,e.2.ren σ).1=true from Z] at this;simp only[BI] at this;rcases this.2 with h5|h5
       .omega
       .exact hM (h4▸h5)
      exact (av b (FL hb hW.size) c2).trans (hW.keep b hb hM)
     .intro b hb;rcases ab.ok1 b hb with h|h|h
      .exact hW.ok1 b h
      .exact .inr (.inl (Dt hW.size h))
      .obtain⟨j,e,l,G,Z,h3,h4⟩:=h
       have:=(hW.loc _ _ l (hS j e G) h3).2
       rw[show (e.1,e.2.ren σ).1=true from Z] at this;simp only[BI] at this;rw[<-h4];exact .inr this.2
     .intro n e' z;rcases ah n e' z with ⟨j,e,rfl,G,Z,rfl⟩|⟨G,Z⟩
      .obtain⟨g0,g1,g2,g3,x,g4,g5,g6⟩:=ag j e G;have an:=ab.obj j (x.1 && X j,x.2) (by rw[ba,g4];rfl);have hr:=hρ j g0 g1 x g4;have h5:=(Qti (S':=S') (τ:=σ) ab (λb hb=>⟨hb,rfl⟩) bh ax g6).2 _ (λ_ _=>rfl) an;rw[hr];exact h5
      .by_cases hn: ∃j,Am H0 j=true/\n=σ j
       .obtain⟨j,aa,rfl⟩:=hn;have bb:=bd j aa (λj' a b=>Z j' a b);obtain⟨e0,ad⟩:=aj j aa;have g4:=ay j e0 ad bb;have au:=ao j aa;have hr:=hρ j (.inl aa) (by omega) e0 g4
        have:=hS j e0 ad
        rw[G] at this;obtain rfl:=AE this;rw[hr];have an:=hc.wf.obj j e0 g4;have h7:=Qzw (S:=S1) (S':=S') (σ:=λn=>n) (τ:=σ) (l:=S1.ρ j) (λb hb=>⟨.inl hb,rfl⟩) (λ_ _=>rfl) e0.2 ?_ (by rw[Qwc];exact an)
        .exact h7
        .intro m hm;refine⟨λe' z=> ?_⟩;have c7:m<k:=bZ _ hbH j e0 ad m hm;cases hkm:kx m with
         |some m'=>
          obtain⟨rfl,_⟩:=bi m m' hkm;obtain⟨x,q1,q2,q3,q4⟩:=ax m' m' hkm e' z;obtain⟨y,q5,q6⟩:=UD q1;exact⟨y,q5,q2,by rw[q3,q6],by rw[q4,q6]⟩
         |none=>
          exfalso;have cz:Am H0 m≠true:=λh=>by rw[bc m h] at hkm;cases hkm
          exact cz (bu j e0 ad m hm)
       .have bz: ∀j,Am H0 j=true->n≠σ j:=λj O h=>hn ⟨j,O,h⟩
        have bx: ¬Fr nx cnt n:=by
         intro a9
         have:=am n a9
         rw[this] at G;cases G
        have hρo:S'.ρ n=S.ρ n:=by
         simp only[S'];rw[Ag (by intro h;exact bx ⟨h.1,h.2⟩)]
        rw[hρo];refine H8 (X:=λm=> ¬Fr nx cnt m) ⟨bo,λo ho e' z=>be o ho e' z⟩ ?_ e'.2 (λm hm=>bj n e' G m hm) (hW.obj n e' G);intro lc cx;obtain⟨p1,p2⟩:=a8 n e' lc G cx bz;exact av lc.b p1 p2
     .intro n e' l z hl;rcases aq n e' l z hl with ⟨j,x,rfl,g4,g5,g6,g7,g8,ck,g9⟩|⟨G,Z,h3⟩
      .have cu:X j=true:=by simp only[X,ck];rfl
       have ac:=ab.loc j (x.1 && X j,x.2) l (by rw[ba,g4];rfl) g6;rw[cu,ET] at ac;refine⟨ac.1,?_⟩;rw[g5];cases hm:x.1 with
       |false=>
        have h9:=ac.2;simp only[hm] at h9;simp only[CE,Cy] at h9⊢;rcases h9 with h9|h9
        .exact .inl h9
        .refine .inr ?_;rw[g9];exact h9
       |true=>
        have h9:=ac.2;simp only[hm,BI] at h9⊢;refine⟨h9.1,?_⟩;rcases h9.2 with bp|bp
        .exact .inl (Dt hW.size bp)
        .obtain⟨j',e0,l0,p1,p2,p3,p4⟩:=bp
         have:=(hW.loc _ _ l0 (hS j' e0 p1) p3).2
         rw[show (e0.1,e0.2.ren σ).1=true from p2] at this;simp only[BI] at this;rw[<-p4];exact this.2
      .obtain⟨p1,p2⟩:=hW.loc n e' l G Z;obtain⟨p3,p4⟩:=a8 n e' l G Z h3;refine⟨FL p1 hc.wf.size,?_⟩;cases hm:e'.1 with
       |false=>
        rw[hm] at p2;simp only[CE,Cy] at p2⊢;exact p2.imp (λh=>ab.ok0 _ h) id
       |true=>
        rw[hm] at p2;simp only[BI] at p2⊢;refine⟨λc3=> ?_,p2.2⟩;rcases ab.ok1 _ c3 with h|h|h
        .exact p2.1 h
        .have h:S.w.heap.size<=l.b:=h;omega
        .exact p4 h
     ·
      have bm: ∀j x l n' e2 l',S1.h j=some x->S1.ρ j=some l->(k<=j->x.1=true)->DD j->S.h n'=some e2->S.ρ n'=some l'->(∀i,Am H0 i=true->n'≠σ i)->l.b=l'.b->(x.1||e2.1)=true->False:=by
       intro j x l n' e2 l' g1 g2 g3 g4 p1 p2 p3 af ak;obtain⟨q1,q2⟩:=a8 n' e2 l' p1 p2 p3;by_cases au:j<k
       .have aa:Am H0 j=true:=g4.resolve_right (by omega);obtain⟨e0,r1,r2,_,_⟩:=hc.pre j au x g1;have hρj:S.ρ (σ j)=some l:=by rw[<-r2|>λh=>show S1.ρ j=S.ρ (σ j) from h];exact g2
        have c4:(e0.1||e2.1)=true:=by
         cases he2:e2.1 with
         |true=>simp
         |false=>
          rw[he2,Qz] at ak;have ac:=(hc.wf.loc j x l g1 g2).2;rw[ak] at ac;simp only[BI] at ac;rcases ac.2 with h|h
          .have h:S.w.heap.size<=l.b:=h;omega
          .exact absurd (af▸h) q2
        exact p3 j aa (hW.inj _ _ _ _ l' l p1 (hS j e0 r1) p2 hρj af.symm (by rw[Bool.or_comm];exact c4))
       .have ac:=(hc.wf.loc j x l g1 g2).2;rw[g3 (by omega)] at ac;simp only[BI] at ac;rcases ac.2 with h|h
        .have h:S.w.heap.size<=l.b:=h;omega
        .exact q2 (af▸h)
      intro n n' e1 e2 l l' he z hl bw af ak;rcases aq n e1 l he hl with ⟨j,x,rfl,g1,g2,g3,g4,g5,_⟩|⟨g1,g2,g3⟩<;>rcases aq n' e2 l' z bw with ⟨j',x',rfl,p1,p2,p3,p4,p5,_⟩|⟨p1,p2,p3⟩
      .have cs:=hc.wf.inj j j' x x' l l' g1 p1 g3 p3 af (by rw[<-g2,<-p2];exact ak);rw[cs]
      .exact (bm j x l n' e2 l' g1 g3 g4 g5 p1 p2 p3 af (by rw[<-g2];exact ak)).elim
      .exact (bm j' x' l' n e1 l p1 p3 p4 p5 g1 g2 g3 af.symm (by rw[<-p2,Bool.or_comm];exact ak)).elim
      .exact hW.inj _ _ _ _ l l' g1 p1 g2 p2 af ak
    have ct:Aa S' (r.ren σ) v:=Qrr (S':=S') (τ:=σ) ab (λb hb=>⟨hb,rfl⟩) bh ax 9 (CT xs) r v hcv (H9 (He S1 X) _ _ (λ_ _=>trivial) br);exact cb v S' cp rfl ⟨bo,λo ho e' z=>be o ho e' z⟩ (cm σ S' v ct)
 intro e a w he;cases e<;>simp only[FB] at he<;>simp only[bodyPost]
 .obtain⟨s,hs,hc⟩:=he;obtain⟨s',bq,b0⟩:=hQ C0 _ a w s rfl hc (.inl hs);exact fin s' a w b0 bq
 .obtain⟨s,hs,_⟩:=he;exact (cn _ _ hs).elim
 .obtain⟨s,hs,hc⟩:=he;obtain⟨s',bq,b0⟩:=hQ C0 _ a w s rfl hc (.inr hs);exact fin s' a w b0 bq
def Tr{P:Program}{z:List ResultVar}{k cnt:Nat}{H0 H1:Ap}{klB exB:Nat->Bool}{R:AV->Prop}: ∀(C:AX) (N:Nat) (a:Act) (w:World) (s:Aj),C.n0=k->B9 C N s a w->
 MV P z k cnt H0 H1 klB exB R .normal s\/MV P z k cnt H0 H1 klB exB R .ret s-> ∃s',B9 C N s' a w/\H2 P z k cnt H0 H1 klB exB R s':=by
 rintro C N a w s _ hc (h|h)<;>exact⟨s,hc,h⟩
def Ts{P:Program}{z:List ResultVar}{k cnt:Nat}{H0 H1:Ap}{klB exB:Nat->Bool}{R:AV->Prop}: ∀(C:AX) (N:Nat) (a:Act) (w:World) (s:Aj),C.n0=k->B9 C N s a w->
 F3 P z k cnt H0 H1 klB exB R .normal s\/F3 P z k cnt H0 H1 klB exB R .ret s-> ∃s',B9 C N s' a w/\H2 P z k cnt H0 H1 klB exB R s':=by
 rintro C N a w s hk hc (h|h)<;>obtain⟨F,π,s',G,O,Z,Q⟩:=h<;>exact⟨s',Qe (pY F hc) G O (by omega) (by omega),Q⟩
def D3(h:Nat->Option Aq)(σ:Nat->Nat):Ap->Prop
 |[]=>True
 |(j,(z,e))::r=>h (σ j)=some (z,e.ren σ)/\D3 h σ r
def Qpk{h:Nat->Option Aq}{σ:Nat->Nat}: ∀{H:Ap},D3 h σ H-> ∀j e,(j,e)∈H->h (σ j)=some (e.1,e.2.ren σ)
 |[],_,j,e,z=>by cases z
 |(i,(Q,x))::r,hH,j,e,z=>by
  obtain⟨G,O⟩:=hH;rcases Bi.1 z with z|z
  .cases z;exact G
  .exact Qpk O j e z
structure jX(H0:Ap)(klB:Nat->Bool)(τ:Nat->Nat)(nx:Nat)(U KL:List Nat):Prop where
 inj: ∀i j,Am H0 i=true->Am H0 j=true->τ i=τ j->i=j
 lt: ∀j,Am H0 j=true->τ j<nx
 u: ∀j,Am H0 j=true->τ j∈U
 k1: ∀n∈KL,∃j,Am H0 j=true/\klB j=true/\n=τ j
 k2: ∀j,Am H0 j=true->klB j=true->τ j∈KL
def AF{A:Type}(ca:A->List AV)(H0:A->Ap)(k:Nat)(pre:A->Prop)(klB:Nat->Bool)(r0:A->AV)(H1:A->Ap)(cnt:Nat):A7:=λargs h nx K=>
 ∃(a:A) (τ:Nat->Nat) (U KL:List Nat),pre a/\args=AL (BT τ k nx) (ca a)/\D3 h (BT τ k nx) (H0 a)/\jX (H0 a) klB τ nx U KL/\
  K ((r0 a).ren (BT τ k nx)) {use:=U,kill:=KL,new:=AW (BT τ k nx) (H1 a),cnt:=cnt}
def BK(H0:Ap):Ap->Prop
 |[]=>True
 |(_,(_,e))::r=>(∀m∈e.nms,Am H0 m=true)/\BK H0 r
def Qo2{H0:Ap}: ∀{H:Ap},BK H0 H-> ∀j e,(j,e)∈H-> ∀m∈e.2.nms,Am H0 m=true
 |[],_,j,e,z=>by cases z
 |(i,(Q,x))::r,hH,j,e,z=>by
  obtain⟨G,O⟩:=hH;rcases Bi.1 z with z|z
  .cases z;exact G
  .exact Qo2 O j e z
def HT(os:List Nat)(j:Nat):Nat:=os.getD j 0
def bV:List Nat->Bool
 |[]=>true
 |x::r=> !r.contains x && bV r
def Qjj: ∀(os:List Nat),bV os=true->os.Nodup
 |[],_=>List.nodup_nil
 |x::r,h=>by
  simp only[bV,AS,Nz] at h;refine Ip.2 ⟨λz=> ?_,Qjj r h.2⟩;rw[Gi.2 z] at h;cases h.1
def Ws(nx:Nat):List Nat->Bool
 |[]=>true
 |x::r=>Nat.blt x nx && Ws nx r
def Qvm{nx:Nat}: ∀(os:List Nat),Ws nx os=true-> ∀o∈os,o<nx
 |[],_,o,h=>by cases h
 |x::r,h,o,z=>by
  simp only[Ws,AS,El] at h;rcases Bi.1 z with rfl|z
  .exact h.1
  .exact Qvm r h.2 o z
def UZ(klB:Nat->Bool):List Nat->Nat->List Nat
 |[],_=>[]
 |x::r,j=>bif klB j then x::UZ klB r (j+1) else UZ klB r (j+1)
def Qx4{klB:Nat->Bool}: ∀(os:List Nat) (j n:Nat),n∈UZ klB os j↔ ∃i,i<os.length/\klB (j+i)=true/\os[i]? =some n
 |[],j,n=>by simp[UZ]
 |x::r,j,n=>by
  have ih:=Qx4 (klB:=klB) r (j+1) n;simp only[UZ];cases hq:klB j
  .simp only[B8];rw[ih];constructor
   .rintro⟨i,O,z,G⟩;exact⟨i+1,by simp;omega,by rw[show j+(i+1)=j+1+i by omega];exact z,by simpa using G⟩
   .rintro⟨i,O,z,G⟩;cases i with
    |zero=>rw[N2,hq] at z;cases z
    |succ i=>exact⟨i,by simp at O;omega,by rw[show j+1+i=j+(i+1) by omega];exact z,by simpa using G⟩
  .simp only[Ca,Bi];rw[ih];constructor
   .rintro (rfl|⟨i,O,z,G⟩)
    .exact⟨0,by simp,hq,by simp⟩
    .exact⟨i+1,by simp;omega,by rw[show j+(i+1)=j+1+i by omega];exact z,by simpa using G⟩
   .rintro⟨i,O,z,G⟩;cases i with
    |zero=>left;simpa using G.symm
    |succ i=>right;exact⟨i,by simp at O;omega,by rw[show j+1+i=j+(i+1) by omega];exact z,by simpa using G⟩
def Xz{H0:Ap}{klB:Nat->Bool}{os:List Nat}{nx:Nat}(hd:bV os=true)(hl:Ws nx os=true)(hH: ∀j,Am H0 j=true↔j<os.length):jX H0 klB (HT os) nx os (UZ klB os 0):=by
 have Z:=Qjj os hd;have O: ∀j,j<os.length->os[j]? =some (HT os j):=by
  intro j z;simp[HT,z]
 have hm: ∀j,j<os.length->HT os j∈os:=λj z=>AY (O j z)
 refine⟨λi j hi z h=> ?_,λj z=>Qvm os hl _ (hm j ((hH j).1 z)),λj z=>hm j ((hH j).1 z),λn hn=> ?_,λj z hk=> ?_⟩
 .have G:=O i ((hH i).1 hi);have Q:=O j ((hH j).1 z);rw[h] at G;exact (List.getElem?_inj ((hH i).1 hi) Z).1 (G.trans Q.symm)
 .obtain⟨i,G,Q,h3⟩:=(Qx4 os 0 n).1 hn;refine⟨i,(hH i).2 G,by simpa using Q,?_⟩;rw[O i G] at h3;exact (AE h3).symm
 .exact (Qx4 os 0 _).2 ⟨j,(hH j).1 z,by simpa using hk,O j ((hH j).1 z)⟩
def AF.os{A:Type}{ca:A->List AV}{H0:A->Ap}{k:Nat}{pre:A->Prop}{klB:Nat->Bool}{r0:A->AV}{H1:A->Ap}{cnt:Nat}{args:List AV}{h:Nat->Option Aq}{nx:Nat}{K:Ai}(a:A)(os:List Nat)(z:pre a)
 (hH: ∀j,Am (H0 a) j=true↔j<os.length)(hd:bV os=true)(Q:Ws nx os=true)
 (G:args=AL (BT (HT os) k nx) (ca a)/\D3 h (BT (HT os) k nx) (H0 a))
 (O:K ((r0 a).ren (BT (HT os) k nx)) {use:=os,kill:=UZ klB os 0,new:=AW (BT (HT os) k nx) (H1 a),cnt:=cnt}):AF ca H0 k pre klB r0 H1 cnt args h nx K:=
 ⟨a,HT os,os,UZ klB os 0,z,G.1,G.2,Xz hd Q hH,O⟩
def fK(z r2:A7):A7:=λargs h nx K=>z args h nx K\/r2 args h nx K
def PV{P:Program}{g:Nat}{G r2:A7}(O:AA P g G)(Q:AA P g r2):AA P g (fK G r2):=by
 rintro args h nx K (z|z)
 .exact O args h nx K z
 .exact Q args h nx K z
def T7:List D->Bool
 |[]=>true
 |x::r=>x.sc && T7 r
def eF(K:D->Prop):Option Aq->Prop
 |some (true,.arr _ k rows)=>BL T7 rows/\K (.sl false k rows)
 |_=>False
def jN(h:Nat->Option Aq)(K:D->Prop):AV->Prop
 | .im d=>d.scs=true/\K d
 | .own o=>eF K (h o)
 |_=>False
def I4(h:Nat->Option Aq):List AV->(List D->Prop)->Prop
 |[],K=>K []
 |x::r,K=>jN h (λd=>I4 h r λds=>K (d::ds)) x
def R2(h:Nat->Option Aq)(K:D->Prop):AV->Prop
 | .im d=>d.scs=true/\K d
 | .own o=>eF K (h o)
 | .agg z=>I4 h z λds=>K (.agg ds)
 |_=>False
def JR(h:Nat->Option Aq):List AV->(List D->Prop)->Prop
 |[],K=>K []
 |x::r,K=>R2 h (λd=>JR h r λds=>K (d::ds)) x
def NU(h:Nat->Option Aq)(K:D->Prop):AV->Prop
 | .im d=>d.scs=true/\K d
 | .own o=>eF K (h o)
 | .agg z=>I4 h z λds=>K (.agg ds)
 | .tup z=>JR h z λds=>K (.tup ds)
 |_=>False
def Ml(R:D->Prop)(s:Aj):Option (List AV)->Prop
 |some xs=>NU (hget s.h) R (CT xs)
 |none=>False
def Kh(P:Program)(z:List ResultVar)(R:D->Prop)(s:Aj):Prop:=Ml R s (Ax (J7 P s) z)
def YX(P:Program)(z:List ResultVar)(R:D->Prop):Cb
 | .normal,s=>Kh P z R s
 | .ret,s=>Kh P z R s
 | .exit _,_=>False
def Mp: ∀(r:List D),T7 r=true->r.all D.sc=true
 |[],_=>rfl
 |x::r,h=>by
  simp only[T7,AS] at h;simp[h.1,Mp r h.2]
def Kg{ok ok':Nat->Prop}{hp hp':Nat->Option Obj}: ∀(ds:List D) (vs:List Value),ds.all D.sc=true->rdp ok hp ds vs->rdp ok' hp' ds vs
 |[],_,_,_=>by simp only[rdp]
 |d::ds,vs,h,hd=>by
  simp only[rdp,Je,AS] at hd h⊢;obtain⟨v,r,rfl,z,G⟩:=hd;exact⟨v,r,rfl,Mb h.1 z,Kg ds r h.2 G⟩
def Th{ok ok':Nat->Prop}{hp hp':Nat->Option Obj}{k:Nat}: ∀(z:List (List D)) (vs:List Value),BL T7 z->rdr ok hp k z vs->rdr ok' hp' k z vs
 |[],_,_,_=>by simp only[rdr]
 |r::z,vs,h,hd=>by
  simp only[rdr] at hd⊢;exact⟨hd.1,Kg r vs (Mp r (h r (BM ..))) hd.2.1,Th z _ (λx G=>h x (BR _ G)) hd.2.2⟩
section
variable {C:AX}{S:Ay}
def SG(C:AX)(S:Ay)(b:Nat):Prop:=C.w.heap.size<=b/\b<S.w.heap.size/\ ¬S.ok b
def Qzs(hM: ∀b,¬C.M b)(hW:Wf C S){K:D->Prop}{o:Nat}{v:Value}(G:eF K (S.h o))(hc:Aa S (.own o) v): ∃d,K d/\rd (SG C S) S.hp d v:=by
 cases he:S.h o with
 |none=>rw[he] at G;exact G.elim
 |some e=>
  obtain⟨mu,e⟩:=e;rw[he] at G;cases mu with
  |false=>cases e<;>exact G.elim
  |true=>
  cases e with
  |arr T k rows=>
   simp only[eF] at G;refine⟨_,G.2,?_⟩;have z:=hW.obj o _ he;simp only[Aa] at hc;obtain⟨_,hc⟩:=hc;have hc:=hc _ he;simp only[Au] at z;cases hl:S.ρ o with
   |none=>
    rw[hl] at hc z;simp only[rd];exact .inl ⟨.inl hc,z.2⟩
   |some l=>
    rw[hl] at hc z;obtain⟨h0,Q,vs,Z,h3,h4⟩:=z;obtain⟨q1,O⟩:=hW.loc o _ l he hl;simp only[BI] at O;simp only[rd];refine .inr ⟨l.b,l.p,l.cap,vs,T,(0,0),hc,by simp,Q,h0,⟨?_,q1,O.1⟩,Z,Th rows _ G.1 h4⟩;rcases O.2 with h|h
    .exact h
    .exact absurd h (hM _)
  |_=>exact G.elim
def R1(G: ∀b,¬C.M b)(hW:Wf C S){K:D->Prop}{x:AV}{v:Value}(z:jN S.h K x)(hc:Aa S x v): ∃d,K d/\rd (SG C S) S.hp d v:=by
 cases x with
 |im d=>
  simp only[jN] at z;simp only[Aa] at hc;exact⟨d,z.2,Kf z.1 hc⟩
 |own o=>
  simp only[jN] at z;exact Qzs G hW z hc
 |_=>exact z.elim
def Qvx(G: ∀b,¬C.M b)(hW:Wf C S): ∀(xs:List AV) (K:List D->Prop) (vs:List Value),I4 S.h xs K->AM S xs vs-> ∃ds,K ds/\rdl (SG C S) S.hp ds vs
 |[],K,vs,z,hc=>by
  simp only[I4] at z;simp only[AM] at hc;exact⟨[],z,by simp only[rdl];exact hc⟩
 |x::xs,K,vs,z,hc=>by
  simp only[I4] at z;simp only[AM] at hc;obtain⟨v,r,rfl,O,Q⟩:=hc;obtain⟨d,Z,h4⟩:=R1 G hW z O;obtain⟨ds,h5,h6⟩:=Qvx G hW xs _ r Z Q;exact⟨d::ds,h5,by simp only[rdl];exact⟨v,r,rfl,h4,h6⟩⟩
def vY(G: ∀b,¬C.M b)(hW:Wf C S){K:D->Prop}{x:AV}{v:Value}(z:R2 S.h K x)(hc:Aa S x v): ∃d,K d/\rd (SG C S) S.hp d v:=by
 cases x with
 |im d=>
  simp only[R2] at z;simp only[Aa] at hc;exact⟨d,z.2,Kf z.1 hc⟩
 |own o=>
  simp only[R2] at z;exact Qzs G hW z hc
 |agg O=>
  simp only[R2] at z;simp only[Aa] at hc;obtain⟨vs,rfl,Q⟩:=hc;obtain⟨ds,Z,h3⟩:=Qvx G hW O _ _ z Q;exact⟨_,Z,by simp only[rd];exact⟨vs,rfl,h3⟩⟩
 |_=>exact z.elim
def Qvn(G: ∀b,¬C.M b)(hW:Wf C S): ∀(xs:List AV) (K:List D->Prop) (vs:List Value),JR S.h xs K->AM S xs vs-> ∃ds,K ds/\rdl (SG C S) S.hp ds vs
 |[],K,vs,z,hc=>by
  simp only[JR] at z;simp only[AM] at hc;exact⟨[],z,by simp only[rdl];exact hc⟩
 |x::xs,K,vs,z,hc=>by
  simp only[JR] at z;simp only[AM] at hc;obtain⟨v,r,rfl,O,Q⟩:=hc;obtain⟨d,Z,h4⟩:=vY G hW z O;obtain⟨ds,h5,h6⟩:=Qvn G hW xs _ r Z Q;exact⟨d::ds,h5,by simp only[rdl];exact⟨v,r,rfl,h4,h6⟩⟩
def Qzf(G: ∀b,¬C.M b)(hW:Wf C S){K:D->Prop}{x:AV}{v:Value}(z:NU S.h K x)(hc:Aa S x v): ∃d,K d/\rd (SG C S) S.hp d v:=by
 cases x with
 |tup O=>
  simp only[NU] at z;simp only[Aa] at hc;obtain⟨vs,rfl,Q⟩:=hc;obtain⟨ds,Z,h3⟩:=Qvn G hW O _ _ z Q;exact⟨_,Z,by simp only[rd];exact⟨vs,rfl,h3⟩⟩
 |im d=>exact vY (x:= .im d) G hW (by simpa only[NU,R2] using z) hc
 |own o=>exact vY (x:= .own o) G hW (by simpa only[NU,R2] using z) hc
 |agg O=>exact vY (x:= .agg O) G hW (by simpa only[NU,R2] using z) hc
 |_=>exact z.elim
end
def K9(f:AV->Option D):Option Aq->Option D
 |some (_,.arr _ k rows)=>some (.sl false k rows)
 |some (_,.arrA _ k rows)=>(Ax (Ax f) rows).map (.sl false k)
 |_=>none
def QM:Option Aq->Option D
 |some (_,.map G z)=>some (.mp G z)
 |_=>none
def YQ(f:AV->Option D)(off:Nat):Option Aq->Option (List D)
 |some (_,.cells _ z)=>Ax f (z.drop off)
 |some (_,.view z)=>some (z.drop off)
 |_=>none
def QL(g:FuncId):Option (List D)->Option (List D)->Option D
 |some a,some c=>some (.fn g a c)
 |some _,none=>none
 |none,_=>none
def bk(h:Nat->Option Aq):Nat->AV->Option D
 |0,_=>none
 |_+1,.im d=>some d
 |n+1,.agg z=>(Ax (bk h n) z).map .agg
 |n+1,.tup z=>(Ax (bk h n) z).map .tup
 |n+1,.own o=>K9 (bk h n) (h o)
 |_+1,.mp o=>QM (h o)
 |n+1,.ptr o off=>(YQ (bk h n) off (h o)).map .ref
 |n+1,.clo f a c=>QL f (Ax (bk h n) a) (Ax (bk h n) c)
 |_+1,.any=>none
 |_+1,.eptr _ _ _=>none
 |_+1,.ch _=>none
 |_+1,.it _=>none
 |_+1,.osl _ _ _=>none
def X9(ds:Option (List D)):Option PK:=ds.map .ptr
def EZ(d:Option D):Option PK:=d.map .val
def Ed(h:Nat->Option Aq):AV->Option PK
 | .im d=>some (FU d)
 | .ptr o off=>X9 (YQ (bk h 8) off (h o))
 | .own o=>EZ (bk h 9 (.own o))
 | .mp o=>EZ (bk h 9 (.mp o))
 | .agg z=>EZ (bk h 9 (.agg z))
 | .tup z=>EZ (bk h 9 (.tup z))
 | .clo f a c=>EZ (bk h 9 (.clo f a c))
 | .any=>none
 | .eptr _ _ _=>none
 | .ch _=>none
 | .it _=>none
 | .osl _ _ _=>none
def GY:Option PK->Option (List PK)->Option (List PK)
 |some p,some z=>some (p::z)
 |some _,none=>none
 |none,_=>none
def Ce(h:Nat->Option Aq):List AV->Option (List PK)
 |[]=>some []
 |x::r=>GY (Ed h x) (Ce h r)
def IJ(f:AV->List Nat):Option Aq->List Nat
 |some (_,.cells _ z)=>z.flatMap f
 |some (_,.arrA _ _ rows)=>rows.flatMap λr=>r.flatMap f
 |_=>[]
def CB(h:Nat->Option Aq):Nat->AV->List Nat
 |0,_=>[]
 |n+1,.agg z=>z.flatMap (CB h n)
 |n+1,.tup z=>z.flatMap (CB h n)
 |n+1,.own o=>o::IJ (CB h n) (h o)
 |_+1,.mp o=>[o]
 |n+1,.ptr o _=>o::IJ (CB h n) (h o)
 |n+1,.clo _ a c=>a.flatMap (CB h n)++c.flatMap (CB h n)
 |_+1,_=>[]
def EG(h:Nat->Option Aq)(xs:List AV):List Nat:=xs.flatMap (CB h 9)
def Ay.froz(S:Ay):Ay:=⟨S.ρ,λb=>S.ok b\/ ∃o e l,S.h o=some e/\S.ρ o=some l/\l.b=b,λo=>(S.h o).map λe=>(false,e.2),S.w⟩
def hC{S:Ay}{o:Nat}{e':Aq}(h:S.froz.h o=some e'): ∃e,S.h o=some e/\e'=(false,e.2):=by
 simp only[Ay.froz,Df] at h;obtain⟨e,z,rfl⟩:=h;exact⟨e,z,rfl⟩
def gY(S:Ay):Bx (λ_=>True) S S.froz:=by
 refine⟨λb hb=>⟨.inl hb,rfl⟩,λo _ e' z=> ?_⟩;obtain⟨e,G,rfl⟩:=hC z;exact⟨e,G,rfl,rfl,rfl⟩
def Zv(S:Ay):AX:=⟨S.w,λ_=>False,S.froz.ok,0,λ_=>none,λ_=>none,[]⟩
def xZ{C:AX}{S:Ay}(hW:Wf C S):Wf (Zv S) S.froz:=by
 refine⟨rfl,rfl,rfl,AN _,λ_ _ _=>rfl,λ_ hb=>hb,λ_ hb=> .inl hb,?_,?_,?_,?_,hW.gp.mono λb o hb ho=>⟨⟨.inl hb,λh=>h.elim⟩,ho⟩⟩
 .rintro b (hb|⟨o,e,l,G,Q,rfl⟩)
  .exact hW.oks b hb
  .exact (hW.loc o e l G Q).1
 .intro o e' z;obtain⟨e,G,rfl⟩:=hC z;exact H8 (gY S) (λ_ _=>rfl) _ (λ_ _=>trivial) (hW.obj o e G)
 .intro o e' l z O;obtain⟨e,G,rfl⟩:=hC z;exact⟨(hW.loc o e l G O).1,.inl (.inr ⟨o,e,l,G,O,rfl⟩)⟩
 .intro o o' e e' l l' Z z _ _ _ hf;obtain⟨x,_,rfl⟩:=hC Z;obtain⟨x',_,rfl⟩:=hC z;simp at hf
section
variable {C:AX}{S:Ay}{h:Nat->Option Aq}
def Qql(hW:Wf C S){f:AV->Option D}{g:AV->List Nat}(hf: ∀x d v,(∀m∈g x,S.h m=h m)->f x=some d->Aa S x v->rd S.froz.ok S.froz.hp d v)
 {o off:Nat}{ds:List D}{v:Value}(h1:S.h o=h o)(Z: ∀m∈IJ g (h o),S.h m=h m)(hd:YQ f off (h o)=some ds)(hc:Aa S (.ptr o off) v):
 ∃b p vs T fr,v= .pointer (some ⟨b,p,none⟩)/\S.froz.ok b/\S.froz.hp b=some (.cells vs T fr)/\rdp S.froz.ok S.froz.hp ds (vs.toList.drop p):=by
 have hL: ∀(cs:List AV) (ds:List D) (vs:List Value),(∀m∈cs.flatMap g,S.h m=h m)->Ax f cs=some ds->Cn S cs vs->rdp S.froz.ok S.froz.hp ds vs:=by
  intro cs;induction cs with
  |nil=>
   intro ds vs _ hd _;simp only[Ax,AI] at hd;subst hd;simp only[rdp]
  |cons x cs ih=>
   intro ds vs hh hd hc;simp only[Ax] at hd;simp only[Cn] at hc;obtain⟨v,r,rfl,h1,h2⟩:=hc;split at hd
   .rename_i y ys hy aa;obtain rfl:=AE hd;simp only[rdp];exact⟨v,r,rfl,hf x y v (λm O=>hh m (by rw[Gj];exact JF _ O)) hy h1,ih ys r (λm O=>hh m (by rw[Gj];exact Qw _ O)) aa h2⟩
   .cases hd
 simp only[Aa] at hc;obtain⟨_,hc⟩:=hc;rw[<-h1] at hd Z;cases he:S.h o with
 |none=>rw[he] at hd;cases hd
 |some e=>
  obtain⟨l,hl,rfl⟩:=hc e he;have Q:S.froz.ok l.b:= .inr ⟨o,e,l,he,hl,rfl⟩;obtain⟨mu,e⟩:=e;rw[he] at hd Z;have z:=hW.obj o _ he;rw[hl] at z;cases e with
  |cells T cs=>
   simp only[YQ] at hd;simp only[Au] at z;obtain⟨lc,vs,h3,h4,h5,h6⟩:=z;cases h3;refine⟨l.b,l.p+off,vs,T,(0,0),rfl,Q,h5,?_⟩;rw[h4,Fh];simp only[IJ] at Z;rcases Nat.le_total off cs.length with G|G
   .refine hL _ _ _ (λm O=>Z m ?_) hd (gM off cs _ (VM _ _ h6) G);obtain⟨x,k1,k2⟩:=ZeH.1 O;exact ZeH.2 ⟨x,ZeZ k1,k2⟩
   .rw[CZ G] at hd;simp only[Ax,AI] at hd;subst hd;simp only[rdp]
  |view cs=>
   simp only[YQ,AI] at hd;subst hd;simp only[Au] at z;obtain⟨lc,vs,T,fr,h3,h5,h6⟩:=z;cases h3;refine⟨l.b,l.p+off,vs,T,fr,rfl,Q,h5,?_⟩;have G:=YB (gY S).ok _ _ h6;rw[<-Ey];rcases Nat.le_total off cs.length with h|h
   .exact UB off cs _ G h
   .rw[CZ h];simp only[rdp]
  |_=>cases hd
def Zr(hW:Wf C S): ∀(n:Nat) (x:AV) (d:D) (v:Value),(∀m∈CB h n x,S.h m=h m)->bk h n x=some d->Aa S x v->rd S.froz.ok S.froz.hp d v:=by
 intro n;induction n with
 |zero=>intro x d v _ hd;simp[bk] at hd
 |succ n ih=>
  have Q: ∀(cs:List AV) (ds:List D) (vs:List Value),(∀m∈cs.flatMap (CB h n),S.h m=h m)->Ax (bk h n) cs=some ds->AM S cs vs->rdl S.froz.ok S.froz.hp ds vs:=by
   intro cs;induction cs with
   |nil=>
    intro ds vs _ hd hc;simp only[Ax,AI] at hd;subst hd;simpa only[AM,rdl] using hc
   |cons x cs ac=>
    intro ds vs G hd hc;simp only[Ax] at hd;simp only[AM] at hc;obtain⟨v,r,rfl,h1,Z⟩:=hc;split at hd
    .rename_i y ys hy ab;obtain rfl:=AE hd;simp only[rdl];exact⟨v,r,rfl,ih x y v (λm O=>G m (by rw[Gj];exact JF _ O)) hy h1,ac ys r (λm O=>G m (by rw[Gj];exact Qw _ O)) ab Z⟩
    .cases hd
  have hp: ∀(cs:List AV) (ds:List D) (vs:List Value),(∀m∈cs.flatMap (CB h n),S.h m=h m)->Ax (bk h n) cs=some ds->Cn S cs vs->rdp S.froz.ok S.froz.hp ds vs:=by
   intro cs;induction cs with
   |nil=>
    intro ds vs _ hd hc;simp only[Ax,AI] at hd;subst hd;simp only[rdp]
   |cons x cs ac=>
    intro ds vs G hd hc;simp only[Ax] at hd;simp only[Cn] at hc;obtain⟨v,r,rfl,h1,Z⟩:=hc;split at hd
    .rename_i y ys hy ab;obtain rfl:=AE hd;simp only[rdp];exact⟨v,r,rfl,ih x y v (λm O=>G m (by rw[Gj];exact JF _ O)) hy h1,ac ys r (λm O=>G m (by rw[Gj];exact Qw _ O)) ab Z⟩
    .cases hd
  have hr: ∀(k:Nat) (rs:List (List AV)) (ds:List (List D)) (vs:List Value),(∀m∈rs.flatMap (λr=>r.flatMap (CB h n)),S.h m=h m)->Ax (Ax (bk h n)) rs=some ds->BB S k rs vs->rdr S.froz.ok S.froz.hp k ds vs/\ds.length=rs.length:=by
   intro k rs;induction rs with
   |nil=>
    intro ds vs _ hd _;simp only[Ax,AI] at hd;subst hd;exact⟨by simp only[rdr],rfl⟩
   |cons x rs ac=>
    intro ds vs G hd hc;simp only[Ax] at hd;simp only[BB] at hc;split at hd
    .rename_i y ys hy ab;obtain rfl:=AE hd;obtain⟨k1,k2⟩:=ac ys _ (λm O=>G m (by rw[Gj];exact Qw _ O)) ab hc.2.2;refine⟨?_,by simp[k2]⟩;simp only[rdr];exact⟨(bR _ _ hy).trans hc.1,hp x y _ (λm O=>G m (by rw[Gj];exact JF _ O)) hy hc.2.1,k1⟩
    .cases hd
  intro x d v G hd hc;cases x with
  |im d'=>
   simp only[bk,AI] at hd;subst hd;simp only[Aa] at hc;exact Gs (gY S).ok _ _ hc
  |agg cs=>
   simp only[bk,Df] at hd;obtain⟨ds,h1,rfl⟩:=hd;simp only[Aa] at hc;obtain⟨vs,rfl,Z⟩:=hc;simp only[rd];exact⟨vs,rfl,Q cs ds _ G h1 Z⟩
  |tup cs=>
   simp only[bk,Df] at hd;obtain⟨ds,h1,rfl⟩:=hd;simp only[Aa] at hc;obtain⟨vs,rfl,Z⟩:=hc;simp only[rd];exact⟨vs,rfl,Q cs ds _ G h1 Z⟩
  |own o=>
   simp only[CB,Bi] at G;have h1:=G o (.inl rfl);simp only[bk] at hd;simp only[Aa] at hc;rw[<-h1] at hd G;cases he:S.h o with
   |none=>rw[he] at hd;cases hd
   |some e=>
    have hc:=hc.2 e he;have z:=hW.obj o _ he;obtain⟨mu,e⟩:=e;rw[he] at hd G;have ag: ∀l,S.ρ o=some l->S.froz.ok l.b:=λl Q=> .inr ⟨o,_,l,he,Q,rfl⟩
    have ah:=gY S;cases e with
    |arr T k rows=>
     simp only[K9,AI] at hd;subst hd;simp only[Au] at z;simp only[rd];cases Q:S.ρ o with
     |none=>rw[Q] at hc z;exact .inl ⟨.inl hc,z.2⟩
     |some l=>
      rw[Q] at hc z;obtain⟨h0,Z,vs,h3,h4,h5⟩:=z;exact .inr ⟨l.b,l.p,l.cap,vs,T,(0,0),hc,by simp,Z,h0,ag l Q,h3,YC ah.ok _ _ _ h5⟩
    |arrA T k rows=>
     simp only[K9,Df] at hd;obtain⟨ds,hd,rfl⟩:=hd;simp only[Au] at z;simp only[rd];have aa:=bR _ _ hd;cases Q:S.ρ o with
     |none=>
      rw[Q] at hc z;obtain⟨_,z⟩:=z;subst z;exact .inl ⟨.inl hc,rM (by simpa using aa)⟩
     |some l=>
      rw[Q] at hc z;obtain⟨h0,Z,vs,h3,h4,h5⟩:=z;obtain⟨k1,k2⟩:=hr k rows ds _ (λm O=>G m (.inr (by simpa only[IJ] using O))) hd h5;simp only[Ad.len] at hc;exact .inr ⟨l.b,l.p,l.cap,vs,T,(0,0),by rw[aa];exact hc,by simp,by rw[aa];exact Z,by rw[aa];exact h0,ag l Q,h3,k1⟩
    |_=>cases hd
  |mp o=>
   have h1:=G o (by simp[CB]);simp only[bk] at hd;simp only[Aa] at hc;rw[<-h1] at hd;cases he:S.h o with
   |none=>rw[he] at hd;cases hd
   |some e=>
    obtain⟨l,Q,rfl⟩:=hc.2 e he;have z:=hW.obj o _ he;obtain⟨mu,e⟩:=e;rw[he] at hd;cases e with
    |map kt es=>
     simp only[QM,AI] at hd;subst hd;rw[Q] at z;simp only[Au] at z;obtain⟨lc,af,ad,Z,h3,h4,h5,h6⟩:=z;cases Z;simp only[rd];exact⟨l.b,af,ad,rfl,h3,.inr ⟨o,_,l,he,Q,rfl⟩,h4,Kw (gY S).ok _ _ h5,h6⟩
    |_=>cases hd
  |ptr o off=>
   simp only[CB,Bi] at G;simp only[bk,Df] at hd;obtain⟨ds,hd,rfl⟩:=hd;simp only[rd];exact Qql hW (g:=CB h n) (λx d v h1 Z h3=>ih x d v h1 Z h3) (G o (.inl rfl)) (λm O=>G m (.inr O)) hd hc
  |clo f a c=>
   simp only[CB,Br] at G;simp only[bk] at hd;cases ha:Ax (bk h n) a with
   |none=>rw[ha] at hd;cases hd
   |some da=>
    cases hcc:Ax (bk h n) c with
    |none=>rw[ha,hcc] at hd;cases hd
    |some dc=>
     rw[ha,hcc] at hd;simp only[QL,AI] at hd;subst hd;simp only[Aa] at hc;obtain⟨va,vc,rfl,h3,h4⟩:=hc;simp only[rd];exact⟨va,vc,rfl,Q a da _ (λm O=>G m (.inl O)) ha h3,Q c dc _ (λm O=>G m (.inr O)) hcc h4⟩
  |_=>simp[bk] at hd
def oN(hW:Wf C S){x:AV}{p:PK}{v:Value}(G: ∀m∈CB h 9 x,S.h m=h m)(hp:EZ (bk h 9 x)=some p)(hc:Aa S x v):Js S.froz p v:=by
 simp only[EZ,Df] at hp;obtain⟨d,z,rfl⟩:=hp;simp only[Js];exact Zr hW 9 x d v G z hc
def SU(hW:Wf C S){x:AV}{p:PK}{v:Value}(z: ∀m∈CB h 9 x,S.h m=h m)(hp:Ed h x=some p)(hc:Aa S x v):Js S.froz p v:=by
 cases x with
 |im d=>
  simp only[Ed,AI] at hp;subst hp;simp only[Aa] at hc;exact Qyv (xZ hW) (Gs (gY S).ok d v hc)
 |ptr o off=>
  simp only[CB,Bi] at z;simp only[Ed,X9,Df] at hp;obtain⟨ds,G,rfl⟩:=hp;obtain⟨b,q,vs,T,fr,O,Q,h4,h5⟩:=Qql hW (g:=CB h 8) (λx d v G O Q=>Zr hW 8 x d v G O Q) (z o (.inl rfl)) (λm hm=>z m (.inr hm)) G hc;simp only[Js];exact⟨b,q,vs,T,fr,O,(xZ hW).oks b Q,h4,h5⟩
 |own o=>exact oN hW z hp hc
 |mp o=>exact oN hW z hp hc
 |agg Z=>exact oN hW z hp hc
 |tup Z=>exact oN hW z hp hc
 |clo f a c=>exact oN hW z hp hc
 |_=>cases hp
def Qtx(hW:Wf C S): ∀(xs:List AV) (ps:List PK) (vs:List Value),(∀m∈EG h xs,S.h m=h m)->Ce h xs=some ps->AM S xs vs->Es S.froz ps vs
 |[],ps,vs,_,hp,hc=>by
  simp only[Ce,AI] at hp;subst hp;simp only[AM] at hc;simp only[Es];exact hc
 |x::xs,ps,vs,G,hp,hc=>by
  simp only[Ce] at hp;simp only[AM] at hc;obtain⟨v,r,rfl,O,Q⟩:=hc;cases hx:Ed h x with
  |none=>rw[hx] at hp;cases hp
  |some p=>
   cases hr:Ce h xs with
   |none=>rw[hx,hr] at hp;cases hp
   |some qs=>
    rw[hx,hr] at hp;simp only[GY,AI] at hp;subst hp;simp only[Es];refine⟨v,r,rfl,SU hW (λm z=>G m ?_) hx O,Qtx hW xs qs r (λm z=>G m ?_) hr Q⟩
    .simp only[EG,Gj];exact JF _ z
    .simp only[EG,Gj];exact Qw _ z
end
def Pk{P:Program}(HM:P.follows .mixedOrders=true){V:CK}(hV:Ja P V){g:FuncId}{fn:Func}{c:Code}(hf:P.funcs[g]? =some fn)(hb:fn.body=some c)(ab:DY fn.ntmps c=true)
 {ps:List PK}(ao:ps.length<=fn.ntmps){R:D->Prop}
 (hk:CM P V c (YX P fn.results.toList R) ⟨entry 0 (De 0 ps),Dr 0 ps,BF ps⟩)
 {C:AX}{S:Ay}{vs:Array Value}{RR:Ending->World->Prop}(hW:Wf C S)(af:Es S ps vs.toList)
 (ac: ∀(v:Value) (G:AX) (S1:Ay) (d:D),G.w=S.w->G.ok=S.ok->(∀b,¬G.M b)->Wf G S1->R d->rd (SG G S1) S1.hp d v->RR (.returned v) S1.w):Calls P g vs S.w RR:=by
 refine calls_of_wp hf hb ?_;have an:vs.size=(De 0 ps).length:=by rw[Y9];simpa using af.len
 obtain⟨ls,ad,hcl⟩:=pS ps vs.toList 0 af
 let Z:Ay:=⟨ls,S.ok,hget (Dr 0 ps),S.w⟩
 let G:AX:=⟨S.w,λ_=>False,S.ok,0,λ_=>none,λ_=>none,[]⟩
 have ai:Wf G Z:=by
  refine⟨rfl,rfl,rfl,AN _,λ_ _ _=>rfl,λ_ hb=>hb,λ_ hb=> .inl hb,hW.oks,?_,?_,?_,hW.glN λ_ h=>h.elim⟩
  .intro n e z;obtain⟨l,O,_,h3⟩:=ad n e z;have h4:Z.ρ n=some l:=O;rw[h4];obtain⟨_,cs,rfl⟩:=H7 0 ps n e z;simp only[Au] at h3⊢;exact h3
  .intro n e l z hl;obtain⟨l',O,h2,h3⟩:=ad n e z;have h4:Z.ρ n=some l':=O;rw[h4] at hl;obtain rfl:=AE hl;obtain⟨_,cs,rfl⟩:=H7 0 ps n e z;exact⟨h2,.inr rfl⟩
  .intro n n' e e' l l' z ak hl av au am;obtain⟨_,cs,rfl⟩:=H7 0 ps n e z;obtain⟨_,aq,rfl⟩:=H7 0 ps n' e' ak;simp at am
 have aj:B9 G fn.ntmps ⟨entry 0 (De 0 ps),Dr 0 ps,BF ps⟩ {tmps:=vs++Array.replicate (fn.ntmps - vs.size) undef,defers:=[]} S.w:=by
  have Q:AM Z (De 0 ps) vs.toList:=hcl Z rfl rfl (λn _=>⟨rfl,rfl⟩);refine⟨Z,rfl,ai,λn=>rfl,?_,?_,?_,by simp;rw[Y9] at an;omega,rfl,CF _,λo ho=>absurd ho (jI _)⟩
  .intro t;have O:=gL (S:=Z) (De 0 ps) vs.toList 0 t Q;simp only[CF,BI,Zf] at O
   have:({tmps:=vs++Array.replicate (fn.ntmps - vs.size) undef,defers:=[]}:Act).eval (.tmp t)=(vs.toList[t]?).getD undef:=by
    simp only[Act.eval,Ho,rQ,dF];by_cases ht:t<vs.size
    .simp[ht]
    .simp only[ht,Cy]
     have:vs[t]? =none:=Wy (by omega)
     simp only[G4,this]
     split<;>rfl
   rw[this];exact O
  .intro t m hm;exact oJ 0 ps (BF ps) (by omega) m (gS (De 0 ps) 0 t m hm)
  .intro n e z;obtain⟨O,cs,rfl⟩:=H7 0 ps n e z;exact⟨by show n<BF ps;omega,by simp[Ad.nms]⟩
 refine wp_mono (Qo4 HM (cM hV) c ab _ _ _ _ hk aj) ?_;have fin: ∀(s:Aj) (a:Act) (w:World),Kh P fn.results.toList R s->B9 G fn.ntmps s a w->a.defers=[]/\ ∃v,(results fn a.tmps).run P w= .ok v w/\RR (.returned v) w:=by
  rintro s a w hr ⟨S1,rfl,hc⟩;unfold Kh at hr;cases hxs:Ax (J7 P s) fn.results.toList with
  |none=>rw[hxs] at hr;exact hr.elim
  |some xs=>
   rw[hxs] at hr;simp only[Ml] at hr;obtain⟨v,ag,aa⟩:=nS hc hxs;refine⟨hc.defers,v,ag,?_⟩;have ah:hget s.h=S1.h:=(funext hc.h).symm;rw[ah] at hr;obtain⟨d,O,h2⟩:=Qzf (λ_ h=>h) hc.wf hr aa;exact ac v G S1 d rfl rfl (λ_ h=>h) hc.wf O h2
 intro e a w z;cases e<;>simp only[FB] at z<;>simp only[bodyPost]
 .obtain⟨s,hs,hc⟩:=z;exact fin s a w hs hc
 .obtain⟨s,hs,_⟩:=z;exact hs.elim
 .obtain⟨s,hs,hc⟩:=z;exact fin s a w hs hc
def VN{A:Type}(ar:List PK->Option A)(pre:A->Prop)(re:A->D)(u:List Nat)(K:Ai):Option (List PK)->Prop
 |some z=>DK (λa=>pre a/\K (.im (re a)) {use:=u}) (ar z)
 |none=>False
def K2{A:Type}(ar:List PK->Option A)(pre:A->Prop)(re:A->D):A7:=λargs h _ K=>VN ar pre re (EG h args) K (Ce h args)
def Bv{B:Type}(rc:D->Option B)(b:B)(d:D):Prop:=rc d=some b
def Quy{P:Program}{g:FuncId}(af:Ix P g=true)
 {A B:Type}{ar:List PK->Option A}{ae:A->List PK}(av: ∀ps a,ar ps=some a->BA ps (ae a)){rc:D->Option B}{re:B->D}(ax: ∀d b,rc d=some b->Le d (re b))
 {pre:A->Prop}{f:A->B}
 (ai: ∀a,pre a-> ∀{C:AX} {S:Ay} {vs:Array Value} {RR:Ending->World->Prop},Wf C S->Es S (ae a) vs.toList->
  (∀(v:Value) (Z:AX) (S1:Ay) (d:D),Z.w=S.w->Z.ok=S.ok->(∀b,¬Z.M b)->Wf Z S1->Bv rc (f a) d->rd (SG Z S1) S1.hp d v->RR (.returned v) S1.w)->Calls P g vs S.w RR):
 AA P g (K2 ar pre λa=>re (f a)):=by
 intro args h nx K z;unfold K2 at z;cases hp:Ce h args with
 |none=>rw[hp] at z;exact z.elim
 |some ps=>
  rw[hp] at z;simp only[VN] at z;cases ha:ar ps with
  |none=>rw[ha] at z;exact z.elim
  |some a=>
   rw[ha] at z;simp only[DK] at z;obtain⟨ah,hK⟩:=z;refine⟨Nn af,_,_,?_,hK⟩;intro C S vs RR hW aj ak am ab ag;have aw:=Qtx hW args ps vs.toList (λm hm=>aj m (JF _ hm)) hp ab;have aq:=xZ hW;refine ai a ah (S:=S.froz) aq ((av ps a ha).c aw) ?_;intro v Z S1 d G ad an Q hR ay;have G:Z.w=S.w:=G;have ad:Z.ok=S.froz.ok:=ad;have O: ∀b,b<S.w.heap.size->S1.w.heap[b]? =S.w.heap[b]? :=λb hb=>by
    have:=Q.keep b (by rw[G];exact hb) (an b)
    rw[G] at this;exact this
   have ac:S.w.heap.size<=S1.w.heap.size:=by have:=Q.size;rw[G] at this;exact this
   let S':Ay:={S with ok:=λb=>S.ok b\/SG Z S1 b,w:=S1.w}
   have hp':Bx (λ_=>True) S S':=⟨λb hb=>⟨.inl hb,O b (hW.oks b hb)⟩,λo _ e' au=>⟨e',au,rfl,rfl,rfl⟩⟩;have aa: ∀b,SG Z S1 b->S.w.heap.size<=b:=λb hb=>by have:=hb.1;rw[G] at this;exact this
   have ao:Wf C S':=by
    refine⟨?_,?_,?_,Dt hW.size ac,?_,λb hb=> .inl (hW.ok0 b hb),?_,?_,?_,?_,hW.inj,hW.gl⟩
    .exact Q.os.trans (by rw[G];exact hW.os)
    .exact Q.tape.trans (by rw[G];exact hW.tape)
    .exact Q.output.trans (by rw[G];exact hW.output)
    .intro b hb hM;exact (O b (FL hb hW.size)).trans (hW.keep b hb hM)
    .rintro b (hb|hb)
     .exact hW.ok1 b hb
     .exact .inr (.inl (Dt hW.size (aa b hb)))
    .rintro b (hb|hb)
     .exact FL (hW.oks b hb) ac
     .exact hb.2.1
    .intro o e he;exact H8 hp' (λlc hl=>O lc.b (hW.loc o e lc he hl).1) _ (λ_ _=>trivial) (hW.obj o e he)
    .intro o e l he hl;obtain⟨h2,h3⟩:=hW.loc o e l he hl;refine⟨FL h2 ac,?_⟩;cases hm:e.1 with
     |false=>
      rw[hm] at h3;simp only[CE,Cy] at h3⊢;exact h3.imp (λh=> .inl h) id
     |true=>
      rw[hm] at h3;simp only[BI] at h3⊢;refine⟨?_,h3.2⟩;rintro (h|h)
      .exact h3.1 h
      .have:=aa _ h;omega
   refine ag v S' ao ?_ ⟨hp'.ok,λo _=>hp'.nm o trivial⟩ ?_
   .show S.h=_;funext m;simp[Bk.appf,hget]
   .simp only[Aa];have h9:=ax _ _ hR _ _ _ ay;exact Gs (λb hb=>⟨.inr hb,rfl⟩) _ _ h9
def nR{P:Program}(HM:P.follows .mixedOrders=true){V:CK}(hV:Ja P V){g:FuncId}{fn:Func}{c:Code}(hf:P.funcs[g]? =some fn)(hb:fn.body=some c)(G:DY fn.ntmps c=true)(z:Ix P g=true)
 {A B:Type}{ar:List PK->Option A}{ae:A->List PK}(Z: ∀ps a,ar ps=some a->BA ps (ae a)){n:Nat}(hn: ∀a,(ae a).length=n)(aa:n<=fn.ntmps){rc:D->Option B}{re:B->D}(ac: ∀d b,rc d=some b->Le d (re b))
 {pre:A->Prop}{f:A->B}
 (hk: ∀a,pre a->CM P V c (YX P fn.results.toList (Bv rc (f a))) ⟨entry 0 (De 0 (ae a)),Dr 0 (ae a),BF (ae a)⟩):
 AA P g (K2 ar pre λa=>re (f a)):=
 Quy z Z ac (λa Q _ _ _ _ hW ab O=>Pk HM hV hf hb G (by rw[hn];exact aa) (hk a Q) hW ab O)
end Go.Ae
