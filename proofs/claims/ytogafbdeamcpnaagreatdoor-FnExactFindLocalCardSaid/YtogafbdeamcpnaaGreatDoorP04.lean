/- Lemmas. Conditions: none. -/
import Derived.Test.YtogafbdeamcpnaaGreatDoorP03
import Derived.Laws.BytesArg
set_option linter.all false
set_option maxHeartbeats 8000000
set_option maxRecDepth 100000
namespace Go.Ae
def Nc{ok:Nat->Prop}{hp:Nat->Option Obj}: ∀(rows:List (List D)) (G:List Int) (L:List Value),DF rows=some G->rdr ok hp 1 rows L->rows.length=G.length/\L.take G.length=G.map (Value.int .u8)
 |[],G,L,h,_=>by
  simp only[DF,An] at h;subst h;simp
 |row::r,G,L,h,Q=>by
  unfold DF at h;split at h
  .rename_i z;cases z
  .rename_i n r' z;cases z;simp only[BF] at h;obtain⟨ms,h1,rfl⟩:=h;simp only[rdr,rdp,rd] at Q;obtain⟨_,⟨v,L1,rfl,rfl,_⟩,h3⟩:=Q;obtain⟨Z,O⟩:=Nc r ms _ h1 h3;simp only[Gz,D9] at O;refine⟨by simp[Z],?_⟩;simp[O]
  .cases h
section
variable {P:Program}{tm:List (Nat×AV)}{h:Nat->Option Ent}{nx:Nat}{o:Oper}{K:Kont}
def snd_max{x y:Operand}{c:Call}(ho:o.op= .call c)(G:c.callee= .builtin .max)(z:c.args= #[x,y])(O:stMax K (evO tm x) (evO tm y)):AS P tm h nx o K:=by
 have Z:x∈o.op.operands:=by rw[ho];simp[Op.operands,Call.operands,z,G]
 have aa:y∈o.op.operands:=by rw[ho];simp[Op.operands,Call.operands,z,G]
 cases hx:evO tm x<;>rw[hx] at O<;>try exact O.elim
 rename_i d;cases hy:evO tm y<;>rw[hy] at O<;>try (cases d<;>exact O.elim)
 rename_i d';cases d<;>cases d'<;>try exact O.elim
 rename_i k a k' b;simp only[stMax] at O;obtain⟨rfl,O⟩:=O;refine⟨_,_,OpT.pure (u:=[]) ?_,O⟩;intro C S ac hW _ Q;have h1:=Q x Z;have h2:=Q y aa;rw[hx] at h1;rw[hy] at h2;simp only[conc,rd] at h1 h2;refine⟨.int k (max a b),?_,by simp only[conc,rd]⟩;simp only[execOp,ho,resolve,G,z,Sem.run_bind,Sem.run_pure,Result.andThen_ok,invoke,builtin];have e:(if a<b then b else a)=max a b:=by omega
 simp[h1,h2,Builtin.max_,Builtin.max2,e]
def snd_bytes{Q T:TypeId}{x:Operand}(ho:o.op= .convert Q T x)(Z:isStr (tkO (tI P T))=true)(z:bySrc P h K (evO tm x) (tI P Q)):AS P tm h nx o K:=by
 cases hT:tI P T with
 |none=>rw[hT] at Z;cases Z
 |some ti=>
 rw[hT] at Z;simp only[tkO,isStr] at Z;cases hf:ti.kind<;>rw[hf] at Z<;>simp only[TK.isStr,B1] at Z;have hd:=HY hT hf;cases hS:tI P Q with
 |none=>rw[hS] at z;exact z.elim
 |some si=>
 rw[hS] at z;simp only[bySrc] at z;cases hg:si.kind<;>rw[hg] at z<;>try exact z.elim
 rename_i e;have hs:=Gl hS hg;simp only[byKd] at z;cases hE:tI P e with
 |none=>rw[hE] at z;exact z.elim
 |some te=>
 rw[hE] at z;simp only[tkO] at z;cases hke:te.kind<;>rw[hke] at z<;>try exact z.elim
 rename_i ik;cases ik<;>try exact z.elim
 have he:=tk_int hE hke;simp only[byEl] at z;cases hx:evO tm x<;>rw[hx] at z<;>try exact z.elim
 rename_i n;simp only[byAV] at z;cases hn:h n with
 |none=>rw[hn] at z;exact z.elim
 |some O=>
 rw[hn] at z;obtain⟨mu,O⟩:=O;cases O<;>try exact z.elim
 rename_i T' k rows;simp only[byObj] at z;obtain⟨rfl,z⟩:=z;cases hb:DF rows with
 |none=>rw[hb] at z;exact z.elim
 |some ns=>
 rw[hb] at z;simp only[byEnd] at z;refine⟨_,_,OpT.pure (u:=[n]) ?_,z⟩;intro C S ac hW hu ab;have h1:=ab x (by rw[ho];simp[Op.operands]);rw[hx] at h1;simp only[conc] at h1;have aa:=(hu n (by simp)).trans hn;have hc:=h1.2 _ aa;have G:=hW.obj _ _ aa;refine⟨.string (strI ns),?_,by simp only[conc,rd]⟩;have af:(convert Q T (ac.eval x)).run P S.w= .ok (.string (strI ns)) S.w:=by
  cases hl:S.ρ n with
  |none=>
   rw[hl] at hc G;simp only[objc] at G;simp only at hc;obtain rfl:=G.2;simp only[DF,An] at hb;subst hb;rw[hc,run_convert_bytes_string S.w Q T e none 0 0 hs he hd];simp[Conv.bytesToString,strI];rfl
  |some l=>
   rw[hl] at hc G;simp only[objc] at G;simp only[AObj.len] at hc;obtain⟨_,g1,vs,g2,g3,g4⟩:=G;obtain⟨e1,e2⟩:=Nc rows ns _ hb g4;rw[hc,run_convert_bytes_string S.w Q T e _ _ _ hs he hd];have ad:(loadCells ⟨l.b,l.p,none⟩ rows.length).run P S.w= .ok (ns.map (Value.int .u8)).toArray S.w:=by
    rw[LI (w:=S.w) g2 (by omega),e1,e2]
   rw[run_bytesToString S.w ⟨l.b,l.p,none⟩ rows.length l.cap ns ad,foldl_push_bytes];simp[strI,ByteArray.empty,ByteArray.emptyWithCapacity]
   try rfl
 simp only[execOp,ho,Sem.run_bind,af];simp
def snd_convX{G T:TypeId}{x:Operand}(O:o.op= .convert G T x)(z:HU P h (tkO (tI P T)) (evO tm x) K (tI P G)):AS P tm h nx o K:=by
 unfold HU at z;split at z
 .rename_i Q;exact snd_bytes O Q z
 .exact YK O z
end
section
variable {P:Program}{tm:List (Nat×AV)}{h:Nat->Option Ent}{nx:Nat}{o:Oper}{K:Kont}
def Sk{T:TypeId}(h:isIfc P T=true): ∃z,P.underlying T=some (.interface z):=by
 unfold isIfc at h;split at h
 .rename_i z G;exact⟨z,G⟩
 .cases h
def eqn_if{w:World}{T:TypeId}{O:Array (String×TypeId)}(z:P.underlying T=some (.interface O))(d:Nat){v:Value}{b:Bool}(G:v= .nilIface/\b=true\/(∃t x,v= .iface t x)/\b=false):(Op.equalIn (d+1) T v .nilIface).run P w= .ok b w:=by
 rcases G with ⟨rfl,rfl⟩|⟨⟨t,x,rfl⟩,rfl⟩<;>simp[Op.equalIn,run_underlying z]
def snd_binI{op:BinOp}{T U:TypeId}{x y:Operand}{m:Nat}(ho:o.op= .binOp op T x y U)(hm:nilC y=m+4)(hk:Io P T op (evO tm x) K):AS P tm h nx o K:=by
 obtain⟨hT,hk⟩:=hk;obtain⟨ms,hu⟩:=Sk hT;have Q:op= .eql\/op= .neq:=by cases op<;>first|exact .inl rfl|exact .inr rfl|exact hk.elim
 have G:GB (decide (op= .neq)) K (evO tm x):=by rcases Q with rfl|rfl<;>exact hk
 have hy:y= .const .nilIface:=by
  cases y<;>simp only[nilC] at hm<;>try omega
  rename_i v;unfold nilV at hm;split at hm<;>first|omega|rfl
 clear hk;have O: ∀b:Bool,K (.im (.bool ((decide (op= .neq)) !=b))) {}->(∀(C:Ctx) (S:Env) (v:Value),Wf C S->conc S (evO tm x) v->v= .nilIface/\b=true\/(∃t x,v= .iface t x)/\b=false)->AS P tm h nx o K:=by
  intro b ac hv;refine⟨_,_,OpT.pure (u:=[]) ?_,ac⟩;intro C S a hW _ aa;have Z:=hv C S _ hW (aa x (by rw[ho];simp[Op.operands]));refine⟨.bool (decide (op= .neq) !=b),?_,by simp only[conc,rd]⟩;have ab:a.eval y= .nilIface:=by rw[hy];rfl
  have hq:(Op.equal T (a.eval x) .nilIface).run P S.w= .ok b S.w:=eqn_if hu 9999 Z;subst hy;have hg:(eqGuard op T x (.const .nilIface) (a.eval x) .nilIface).run P S.w= .ok () S.w:=by
   clear hq;generalize a.eval x=v at Z⊢;rcases Z with ⟨rfl,_⟩|⟨⟨t,z,rfl⟩,_⟩<;>rcases Q with rfl|rfl<;>simp[eqGuard]
  have hb:(binOp op T (a.eval x) .nilIface).run P S.w= .ok (.bool (decide (op= .neq) !=b)) S.w:=by
   generalize a.eval x=v at Z hq⊢;rcases Q with rfl|rfl
   .have:binOp .eql T v .nilIface=(do pure (.bool (<-Op.equal T v .nilIface))):=by
     rcases Z with ⟨rfl,_⟩|⟨⟨t,z,rfl⟩,_⟩<;>rfl
    rw[this];simp[hq]
   .have:binOp .neq T v .nilIface=(do pure (.bool (!(<-Op.equal T v .nilIface)))):=by
     rcases Z with ⟨rfl,_⟩|⟨⟨t,z,rfl⟩,_⟩<;>rfl
    rw[this];simp[hq]
  simp only[execOp,ho,ab,Sem.run_bind,hg,Result.andThen_ok,hb,Sem.run_pure]
 cases hx:evO tm x<;>rw[hx] at G<;>try exact G.elim
 rename_i d;cases d<;>try exact G.elim
 .refine O true G ?_;intro C S v _ hc;rw[hx] at hc;simp only[conc,rd] at hc;exact .inl ⟨hc,rfl⟩
 .refine O false G ?_;intro C S v _ hc;rw[hx] at hc;simp only[conc,rd] at hc;obtain⟨z,hz,_⟩:=hc;exact .inr ⟨⟨_,z,hz⟩,rfl⟩
def snd_ifc{T:TypeId}{x:Operand}(ho:o.op= .makeInterface T x)(z:stIfc P T K (evO tm x)):AS P tm h nx o K:=by
 cases hx:evO tm x<;>rw[hx] at z<;>try exact z.elim
 rename_i d;obtain⟨hc,z⟩:=z;refine⟨_,_,OpT.pure (u:=[]) ?_,z⟩;intro C S a _ _ G;have Q:=G x (by rw[ho];simp[Op.operands]);rw[hx] at Q;simp only[conc] at Q;refine⟨.iface T (a.eval x),?_,by simp only[conc,rd];exact⟨_,rfl,Q⟩⟩
 have:(Instr.makeInterface T (a.eval x)).run P S.w= .ok (.iface T (a.eval x)) S.w:=by
  unfold isCon at hc;split at hc
  .cases hc
  .rename_i u Z hu;have O:(underlying T).run P S.w= .ok u S.w:=by simp[underlying,hu]
   unfold Instr.makeInterface;rw[Sem.run_bind,O];cases u<;>first|rfl|exact (Z _ rfl).elim
  .cases hc
 simp[execOp,ho,this]
def Sl{T tk te:TypeId}{x:Operand}{kt:KT}{es:List (D×D)}(ho:o.op= .range T x)(hu:P.underlying T=some (.map tk te))(hx:evO tm x= .im (.mp kt es))
 (hk:K (.it nx) {new:=[(nx,(true,.iter none es))],cnt:=1}):AS P tm h nx o K:=by
 refine⟨_,_,OpT.one (u:=[]) (ks:=[]) (.inl ⟨rfl,rfl⟩) ?_,hk⟩;intro C S a hW _ Q hnm aa;have O:=aa x (by rw[ho];simp[Op.operands]);rw[hx] at O;simp only[conc,rd] at O;obtain⟨b,G,z,hv,g2,Z,g3,g4,g5,g6⟩:=O;have hg:(getObj b).run P S.w= .ok (.map G z) S.w:=Gj (w:=S.w) g3;have ab:(underlying T).run P S.w= .ok (.map tk te) S.w:=by simp[underlying,hu]
 refine⟨.pointer (some ⟨S.w.heap.size,0,none⟩),{S.w with heap:=S.w.heap.push (.mapIter (some b) z #[] z)},some ⟨S.w.heap.size,0,0⟩,.inl ?_,Hu (w':={S.w with heap:=S.w.heap.push (.mapIter (some b) z #[] z)}) (ob:= .mapIter (some b) z #[] z) rfl rfl rfl rfl (Q rfl) (λn f hf=>hnm n f hf rfl),?_⟩
 .simp only[execOp,ho,hv,Instr.range,Sem.run_bind,ab,Result.andThen_ok,hg,Sem.run_pure];simp
 intro hp;constructor
 .simp only[objc];obtain⟨p1,p2⟩:=hp.ok b Z;refine⟨_,b,G,z,#[],rfl,p1,trivial,p2.trans g3,Ju rfl,g5,g6,?_⟩;have h9:G.toList.filter (λe=> !(#[]:Array Nat).contains e.born)=G.toList:=by
   rw[Mz];intro e _;simp
  rw[h9];exact Fe hp.ok _ _ g4
 .simp only[conc];exact⟨rfl,λe he=>⟨⟨S.w.heap.size,0,0⟩,by simp[Env.one],rfl⟩⟩
end
def D5(P:Program)(V:B0):Prop:=
 (∀(tm:List (Nat×AV)) (h:Nat->Option Ent) (nx:Nat) (o:Oper) (c:Call) (f:Operand) (K:Kont),o.op= .call c->c.callee= .value f->
  (∀x,∀m∈(evO tm x).nms,m<nx)->G6 V (evL tm c.args.toList) h nx K (evO tm f)->AS P tm h nx o K)/\
 ∀(tm:List (Nat×AV)) (h:Nat->Option Ent) (nx:Nat) (o:Oper) (c:Call) (r:Operand) (m:String) (K:Kont),o.op= .call c->c.callee= .invoke r m->
  (∀x,∀m∈(evO tm x).nms,m<nx)->stInv P V (evL tm c.args.toList) h nx K m (evO tm r)->AS P tm h nx o K
def evL1{tm:List (Nat×AV)}{c:Call}{x:AV}(h:evL tm c.args.toList=[x]): ∃a,c.args= #[a]/\evO tm a=x:=by
 cases hc:c.args.toList with
 |nil=>rw[hc] at h;cases h
 |cons a r=>
  rw[hc] at h;cases r with
  |nil=>
   simp only[evL,L8,and_true] at h;exact⟨a,J9.1 (by simpa using hc),h⟩
  |cons b r=>simp[evL] at h
def evL2{tm:List (Nat×AV)}{c:Call}{x y:AV}(h:evL tm c.args.toList=[x,y]): ∃a b,c.args= #[a,b]/\evO tm a=x/\evO tm b=y:=by
 cases hc:c.args.toList with
 |nil=>rw[hc] at h;cases h
 |cons a r=>
  rw[hc] at h;cases r with
  |nil=>simp[evL] at h
  |cons b r=>
   cases r with
   |nil=>
    simp only[evL,L8,and_true] at h;exact⟨a,b,J9.1 (by simpa using hc),h.1,h.2⟩
   |cons d r=>simp[evL] at h
section
variable {P:Program}{tm:List (Nat×AV)}{h:Nat->Option Ent}{nx:Nat}{o:Oper}{K:Kont}
def snd_bin{op:BinOp}{T U:TypeId}{x y:Operand}(G:o.op= .binOp op T x y U)(z:Jz P T h op (evO tm x) (evO tm y) K (nilC y)):AS P tm h nx o K:=by
 cases hn:nilC y with
 |succ m=>
  rw[hn] at z;cases m with
  |zero=>exact JF G hn (by decide) z
  |succ m=>
   cases m with
   |zero=>exact JF G hn (by decide) z
   |succ m=>
    cases m with
    |zero=>exact JF G hn (by decide) z
    |succ m=>exact snd_binI (m:=m) G hn z
 |zero=>
  rw[hn] at z;simp only[Jz] at z;cases hx:evO tm x<;>rw[hx] at z<;>try exact z.elim
  rename_i d;cases hy:evO tm y<;>rw[hy] at z<;>try (cases d<;>exact z.elim)
  rename_i d';cases d<;>cases d'<;>try exact z.elim
  .simp only[Ln] at z;exact snd_int2 G hx hy z
  .simp only[Ln] at z;cases hT:tI P T with
   |none=>rw[hT] at z;exact z.elim
   |some ti=>
    rw[hT] at z;simp only[stBoK] at z;exact snd_boo G (tk_bool hT z.1) hx hy z.2
  .exact snd_str G hx hy z
  .exact snd_aggEq G hx hy z
def Wr{V:B0}(HV:D5 P V){sq:Bool}(Z: ∀x,∀m∈(evO tm x).nms,m<nx)(z:step P V sq tm h nx o.type K o.op):SndO P sq tm h nx o K:=by
 have ad: ∀x,∀m∈(evO tm x).nms,m≠nx:=λx m hm=>Nat.ne_of_lt (Z x m hm)
 cases ho:o.op<;>rw[ho] at z<;>try exact z.elim
 case move x=>exact .inl (MT (.inl ho) z)
 case assign x=>exact .inl (RW ho z)
 case pick c a b=>exact .inl (snd_pick ho z)
 case alloc T=>exact .inl (snd_alloc ho z)
 case box T x=>exact .inl (snd_box ho z (λm hm=>ad x m (Xo _ m hm)))
 case build T ps=>exact .inl (snd_build ho z)
 case buildSlice T n ps=>exact .inl (Ys ho z ad)
 case load T x=>exact .inl (snd_load ho z)
 case store T x v=>exact .inl (snd_store ho z)
 case nilCheck x=>exact .inl (YB ho z)
 case binOp op T x y U=>
  simp only[step,stBinS] at z;split at z
  .rename_i aa;simp only[unS,Av,G4] at aa;exact .inr ⟨aa.1,.inr (snd_eqUn ho aa.2.1 z)⟩
  .exact .inl (snd_bin ho z)
 case slice T x lo hi mx=>
  cases mx<;>try exact z.elim
  exact .inl (snd_slice ho z)
 case range T x=>exact .inl (snd_range (λ_ _ _ _ hu G z=>Sl ho hu G z) ho z)
 case makeInterface T x=>exact .inl (snd_ifc ho z)
 case next x b=>
  cases b<;>try exact z.elim
  simp only[step] at z;cases sq with
  |false=>exact z.elim
  |true=>exact .inr ⟨rfl,.inr (snd_next ho z)⟩
 case entry x=>exact .inl (snd_entry ho z)
 case makeChan T x=>exact .inl (YA ho z)
 case unOp op T x=>exact .inl (snd_unOp ho z)
 case convert S T x=>exact .inl (snd_convX ho z)
 case makeFunc f first capt=>
  cases f<;>try exact z.elim
  exact .inl (snd_clo (by simpa using z.1) ho z.2)
 case makeMap T r=>
  cases r<;>try exact z.elim
  exact .inl (YV ho z)
 case makeSlice T l c=>exact .inl (Yw ho z)
 case fieldAddr T x f=>exact .inl (Y2 ho z)
 case indexAddr T x i=>exact .inl (Yz ho z)
 case index T x i=>exact .inl (snd_index ho z)
 case lookup T m k ok=>exact .inl (RY ho z)
 case mapUpdate T m k v=>exact .inl (Yv ho z)
 case extract x i=>exact .inl (YS ho z)
 case call c=>
  simp only[step] at z;cases hc:c.callee<;>rw[hc] at z<;>try exact z.elim
  case value f=>exact .inl (HV.1 tm h nx o c f K ho hc Z z)
  case invoke r m=>exact .inl (HV.2 tm h nx o c r m K ho hc Z z)
  case builtin b=>
   simp only[OL] at z;unfold Jd at z;split at z
   .rename_i x T G Q;obtain⟨a,O,ac⟩:=evL1 G;have ab:c.argTypes= #[T]:=J9.1 (by simpa using Q);cases x<;>simp only[Fk] at z
    case ch q=>exact .inl (snd_lenCh ho hc O ab ac z)
    all_goals first
     |exact z.elim
     |(rw[<-ac] at z;exact snd_len ho hc O ab z)
   .rename_i s x T U G Q;obtain⟨a,b,O,rfl,rfl⟩:=evL2 G;exact .inl (RQ ho hc O (J9.1 (by simpa using Q)) z)
   .rename_i m k T af G Q;obtain⟨a,b,O,rfl,rfl⟩:=evL2 G;exact .inl (RZ ho hc O Q z)
   .rename_i d s T U G Q;obtain⟨a,b,O,rfl,rfl⟩:=evL2 G;exact .inl (snd_copy ho hc O (J9.1 (by simpa using Q)) z)
   .rename_i d T G Q;obtain⟨a,O,rfl⟩:=evL1 G;exact .inl (snd_clear ho hc O (J9.1 (by simpa using Q)) z)
   .rename_i x y G;obtain⟨a,b,O,rfl,rfl⟩:=evL2 G;exact .inl (snd_max ho hc O z)
   .exact z.elim
end
def OpGoS(P:Program)(ops:Array Oper)(i:Nat)(a:Act)(w:World)(next:Act->World->Prop):Prop:=
 ∀(b:Frame) (k:List Item) (cs:List Frame) (rest:List Nat),∃a' w',next a' w'/\Steps P (lone (b.at a (.inRegion ops (i::rest)::k)) cs w) (lone (b.at a' (.inRegion ops rest::k)) cs w')
def Op.comm:Op->Bool
 | .send _ _| .recv _ _ _=>true
 |_=>false
def OpGo(P:Program)(ops:Array Oper)(i:Nat)(a:Act)(w:World)(next:Act->World->Prop):Prop:=
 (∃o,ops[i]? =some o/\Region.wanted o (yielded ops a.tmps)=true/\o.wp P a w next (λ_ _ _=>False))\/((∀o,ops[i]? =some o->Go.Ae.Op.comm o.op=true)/\OpGoS P ops i a w next)
def Fm(P:Program)(ops:Array Oper)(Q:Act->World->Prop):List Nat->Act->World->Prop
 |[],a,w=>Q a w
 |i::z,a,w=>
  match ops[i]? with
  |none=>Fm P ops Q z a w
  |some o=>if Region.wanted o (yielded ops a.tmps) then OpGo P ops i a w (Fm P ops Q z) else Fm P ops Q z (a.put o.dst undef) w
section
variable {P:Program}{ops:Array Oper}{i:Nat}{o:Oper}{a:Act}{w:World}{next:Act->World->Prop}
def YM(ho:ops[i]? =some o)(hw:Region.wanted o (yielded ops a.tmps)=true)(h:o.wp P a w next (λ_ _ _=>False)):OpGoS P ops i a w next:=by
 intro b k cs rest;have Z:=stepG_op (P:=P) (b:=b) (a:=a) (k:=k) (cs:=cs) (w:=w) (rest:=rest) ho hw;have z: ∀v,(b.at a (.inRegion ops (i::rest)::k)).finish v=b.at (a.put o.dst v) (.inRegion ops rest::k):=λv=>by
  rw[Frame.finish_at,ho];rfl
 unfold Oper.wp Oper.upon at h;split at h
 .rename_i v Q G;refine⟨_,_,h,.one (step_lone_go ?_)⟩;rw[Z,<-z];simp[stepG.apply,G]
 .rename_i Q G;refine⟨_,_,h,.one (step_lone_go ?_)⟩;rw[Z,<-z];simp[stepG.apply,G]
 .rename_i d Q G;refine⟨_,_,h,.one (step_lone_go ?_)⟩;have h1:({b.at a (.inRegion ops (i::rest)::k) with defers:=d::a.defers}:Frame).finish undef=b.at ({a with defers:=d::a.defers}.put o.dst undef) (.inRegion ops rest::k):=by
   have h2:=Frame.finish_at b {a with defers:=d::a.defers} ops i rest k undef;rw[ho] at h2;exact h2
  rw[Z];simp only[stepG.apply,Sem.runT_eq,G,GStep.bare_after];exact Bx (λfr=>GStep.go {frame:=fr,callers:=cs,status:= .running,dying:=none} Q) h1
 .rename_i f args Q G;obtain⟨e,w2,fr,hR,hs,_,hl⟩:=h (b.at a (.inRegion ops (i::rest)::k)::cs);have O:_root_.Go.step P (lone (b.at a (.inRegion ops (i::rest)::k)) cs w)= .next (lone (Frame.enter P f args .normal) (b.at a (.inRegion ops (i::rest)::k)::cs) Q):=
   step_lone_go (by rw[Z];simp[stepG.apply,G,Frame.at])
  cases e with
  |returned v=>
   refine⟨_,_,hR,.head O (hs.trans (.one ?_))⟩;rw[<-z];exact step_leave_returned hl
  |panicked c=>exact hR.elim
  |outgrown=>obtain⟨_,_,hR⟩:=hR;exact hR.elim
 .rename_i row args Q G;obtain⟨v,w2,hR,hs⟩:=h (b.at a (.inRegion ops (i::rest)::k)) cs;have O:_root_.Go.step P (lone (b.at a (.inRegion ops (i::rest)::k)) cs w)= .next (lone (Frame.ofRow P row args .normal) (b.at a (.inRegion ops (i::rest)::k)::cs) Q):=
   step_lone_go (by rw[Z];simp[stepG.apply,G,Frame.at])
  refine⟨_,_,hR,.head O ?_⟩;rw[<-z];exact hs
 .exact h.elim
 .exact h.elim
def RO(z:ops[i]? =some o)(G:Region.wanted o (yielded ops a.tmps)=true)(h:o.wp P a w next (λ_ _ _=>False)):OpGo P ops i a w next:= .inl ⟨o,z,G,h⟩
def opGoS_of(h:OpGo P ops i a w next):OpGoS P ops i a w next:=by
 rcases h with ⟨o,z,G,O⟩|⟨_,h⟩
 .exact YM z G O
 .exact h
end
def QA{P:Program}{ops:Array Oper}{Q:Act->World->Prop}: ∀(l:List Nat) (a:Act) (w:World),Fm P ops Q l a w-> ∀(b:Frame) (k:List Item) (cs:List Frame),
 ∃a' w',Q a' w'/\Steps P (lone (b.at a (.inRegion ops l::k)) cs w) (lone (b.at a' k) cs w')
 |[],a,w,h,b,k,cs=>⟨a,w,h,.one step_region_end⟩
 |i::rest,a,w,h,b,k,cs=>by
  simp only[Fm] at h;cases ho:ops[i]? with
  |none=>
   rw[ho] at h;obtain⟨a',w',hq,G⟩:=QA rest a w h b k cs;have z:=step_op_skip (P:=P) (b:=b) (a:=a) (k:=k) (cs:=cs) (w:=w) (ops:=ops) (i:=i) (rest:=rest) (by simp[ho]);rw[ho] at z;exact⟨a',w',hq,.head z G⟩
  |some o=>
   rw[ho] at h;simp only at h;split at h
   .obtain⟨a1,w1,z,O⟩:=opGoS_of h b k cs rest;obtain⟨a',w',hq,G⟩:=QA rest a1 w1 z b k cs;exact⟨a',w',hq,O.trans G⟩
   .rename_i Z;obtain⟨a',w',hq,G⟩:=QA rest _ w h b k cs;have z:=step_op_skip (P:=P) (b:=b) (a:=a) (k:=k) (cs:=cs) (w:=w) (ops:=ops) (i:=i) (rest:=rest) (by simp[ho,Z]);rw[ho] at z;exact⟨a',w',hq,.head z G⟩
def region_ch{P:Program}{id:Nat}{ops:Array Oper}{Q:Exit->Act->World->Prop}{a:Act}{w:World}(h:Fm P ops (Q .normal) (List.range ops.size) a w):(Code.region id ops false).wp P Q a w:=by
 intro b k z;obtain⟨a',w',hq,G⟩:=QA _ a w h b k z;exact⟨.normal,a',w',hq,.head step_region G⟩
section
variable {P:Program}{ops:Array Oper}{i:Nat}{o:Oper}{a:Act}{w:World}{next:Act->World->Prop}
def V3{z:Frame}{cs:List Frame}{w Q:World}{cases:Array CommCase}{G:Bool}{O:CommShape}{g:Goroutine}
 (h:(stepG P true {frame:=z,callers:=cs,status:= .running,dying:=none} w).bare= .comm g cases G O Q):
 _root_.Go.step P (lone z cs w)=(communicate P {timers:= #[],alone:=none,slice:=none} #[{(default:Goroutine) with status:= .finished}] 0 g cases G O Q).1:=by
 generalize hs:stepG P true {frame:=z,callers:=cs,status:= .running,dying:=none} w=s at h;cases s<;>simp at h;obtain⟨rfl,rfl,rfl,rfl,rfl⟩:=h;rw[_root_.Go.step,stepT,move_lone];simp[runT,lone,Array.swapAt!,hs]
def VP(c:Nat)(s:Bool):partners #[{(default:Goroutine) with status:= .finished}] c s=[]:=by
 simp[partners]
def Yq{Q:Frame}{cs:List Frame}{w Z:World}{c cap s r:Nat}{G:Array Value}{tm:Bool}{v z:Value}
 (h:(stepG P true {frame:=Q,callers:=cs,status:= .running,dying:=none} w).bare= .comm {frame:=Q,callers:=cs,status:= .running,dying:=none} #[{chan:= .chan (some c),send:=some v,zero:=z}] true .send Z)
 (hc:Z.heap[c]? =some (.chan cap G false s r tm))(O:G.size<cap):
 _root_.Go.step P (lone Q cs w)= .next (lone (Q.finish undef) cs {Z with heap:=Z.heap.setIfInBounds c (.chan cap (G.push v) false (s+1) r tm)}):=by
 rw[V3 h];simp[communicate,ways,hc,VP,O,choose,Sem.run,Question.forced,bind,Sem.bind,pure,Goroutine.finishComm,commResult,lone]
def Yr{Q:Frame}{cs:List Frame}{w Z:World}{c cap s r:Nat}{G:Array Value}{tm cl:Bool}{z:Value}
 (h:(stepG P true {frame:=Q,callers:=cs,status:= .running,dying:=none} w).bare= .comm {frame:=Q,callers:=cs,status:= .running,dying:=none} #[{chan:= .chan (some c),send:=none,zero:=z}] true (.recv false) Z)
 (hc:Z.heap[c]? =some (.chan cap G cl s r tm))(O:0<G.size):
 _root_.Go.step P (lone Q cs w)= .next (lone (Q.finish (G.getD 0 undef)) cs {Z with heap:=Z.heap.setIfInBounds c (.chan cap (G.extract 1 G.size) cl s (r+1) tm)}):=by
 rw[V3 h];simp[communicate,ways,hc,VP,O,choose,Sem.run,Question.forced,bind,Sem.bind,pure,Goroutine.finishComm,commResult,lone]
def opGo_send{ch x:Operand}(ho:ops[i]? =some o)(hw:Region.wanted o (yielded ops a.tmps)=true)(aa:o.op= .send ch x){c cap s r:Nat}{G:Array Value}{tm:Bool}(ab:a.eval ch= .chan (some c))
 (hc:w.heap[c]? =some (.chan cap G false s r tm))(O:G.size<cap)(hn:next (a.put o.dst undef) {w with heap:=w.heap.setIfInBounds c (.chan cap (G.push (a.eval x)) false (s+1) r tm)}):OpGo P ops i a w next:=by
 refine .inr ⟨λo' Z=>by rw[ho] at Z;obtain rfl:=Al Z;rw[aa];rfl,?_⟩;intro b k cs rest;have hg:=stepG_op (P:=P) (b:=b) (a:=a) (k:=k) (cs:=cs) (w:=w) (rest:=rest) ho hw;have Q: ∀v,(b.at a (.inRegion ops (i::rest)::k)).finish v=b.at (a.put o.dst v) (.inRegion ops rest::k):=λv=>by
  rw[Frame.finish_at,ho];rfl
 refine⟨_,_,hn,.one ?_⟩;rw[<-Q];have hr:(execOp a.eval o).run P w= .ok (.comm #[{chan:= .chan (some c),send:=some (a.eval x),zero:= .tuple #[]}] true .send) w:=by
  simp[execOp,aa,ab]
 exact Yq (z:= .tuple #[]) (v:=a.eval x) (by rw[hg];simp[stepG.apply,hr,Frame.at]) hc O
def opGo_recv{ch:Operand}{T e:TypeId}{d:ChanDir}{z:Value}(ho:ops[i]? =some o)(hw:Region.wanted o (yielded ops a.tmps)=true)(aa:o.op= .recv T ch false)(hT:P.underlying T=some (.chan d e))(hz:(zeroValue e).run P w= .ok z w)
 {c cap s r:Nat}{G:Array Value}{tm cl:Bool}(ab:a.eval ch= .chan (some c))
 (hc:w.heap[c]? =some (.chan cap G cl s r tm))(O:0<G.size)(hn:next (a.put o.dst (G.getD 0 undef)) {w with heap:=w.heap.setIfInBounds c (.chan cap (G.extract 1 G.size) cl s (r+1) tm)}):OpGo P ops i a w next:=by
 refine .inr ⟨λo' Z=>by rw[ho] at Z;obtain rfl:=Al Z;rw[aa];rfl,?_⟩;intro b k cs rest;have hg:=stepG_op (P:=P) (b:=b) (a:=a) (k:=k) (cs:=cs) (w:=w) (rest:=rest) ho hw;have Q: ∀v,(b.at a (.inRegion ops (i::rest)::k)).finish v=b.at (a.put o.dst v) (.inRegion ops rest::k):=λv=>by
  rw[Frame.finish_at,ho];rfl
 refine⟨_,_,hn,.one ?_⟩;rw[<-Q];have hu:(underlying T).run P w= .ok (.chan d e) w:=by simp[underlying,hT]
 have hr:(execOp a.eval o).run P w= .ok (.comm #[{chan:= .chan (some c),send:=none,zero:=z}] true (.recv false)) w:=by
  simp[execOp,aa,ab,hu,hz]
 exact Yr (z:=z) (by rw[hg];simp[stepG.apply,hr,Frame.at]) hc O
end
structure ConE(C:Ctx)(N:Nat)(s:Ac)(S:Env)(a:Act):Prop where
 wf:Wf C S
 h: ∀n,S.h n=hget s.h n
 tm: ∀t,conc S (tget s.tm t) (a.eval (.tmp t))
 nmT: ∀t,∀m∈(tget s.tm t).nms,m<s.nx
 nmH: ∀n e,hget s.h n=some e->n<s.nx/\ ∀m∈e.2.nms,m<s.nx
 size:a.tmps.size=N
 defers:a.defers=C.ds
 n0:C.n0<=s.nx
 pre:C.Pre S
def Xx{C:Ctx}{S S':Env}{nx cnt:Nat}(h:C.Pre S)(hn:C.n0<=nx)(hp:Pres (λm=> ¬Fr nx cnt m) S S'):C.Pre S':=by
 intro o ho e' z;obtain⟨e,Z,h2,h3,h4⟩:=hp.nm o (λhf=>by have:=hf.1;omega) e' z;obtain⟨G,g1,g2,O,Q⟩:=h o ho e Z;exact⟨G,g1,h2.trans g2,h3.trans O,h4.trans Q⟩
def Con(C:Ctx)(N:Nat)(s:Ac)(a:Act)(w:World):Prop:= ∃S,S.w=w/\ConE C N s S a
def MF(S:Env)(tm:List (Nat×AV))(f:FuncId):conc S (evO tm (.func f)) (.func (.func f) #[] #[]):=by
 simp only[evO];cases hb:Nat.blt f 1000000000 with
 |true=>simp only[Bc,conc,rd,rdl];exact⟨#[],#[],by rw[II (by simpa using hb)],rfl,rfl⟩
 |false=>simp only[AM,conc]
def GL{C:Ctx}{N:Nat}{s:Ac}{S:Env}{a:Act}(h:ConE C N s S a)(x:Operand):conc S (evO s.tm x) (a.eval x):=by
 cases x with
 |tmp t=>exact h.tm t
 |const v=>exact Kt S v
 |global g=>simp only[evO,conc,rd,Act.eval]
 |func f=>exact MF S s.tm f
def evO_nms{tm:List (Nat×AV)}{nx:Nat}(h: ∀t,∀m∈(tget tm t).nms,m<nx)(x:Operand): ∀m∈(evO tm x).nms,m<nx:=by
 cases x with
 |tmp t=>exact h t
 |const v=>
  intro m z;simp only[evO] at z;unfold kD at z;split at z<;>simp[AV.nms] at z
 |global g=>intro m z;simp[evO,AV.nms] at z
 |func f=>intro m z;simp only[evO] at z;cases hb:Nat.blt f 1000000000<;>rw[hb] at z<;>simp[AV.nms] at z
mutual
def Pd{n:Nat}: ∀(x:AV),x.bel n=true-> ∀m∈x.nms,m<n
 | .any,_=>by simp[AV.nms]
 | .im _,_=>by simp[AV.nms]
 | .agg z,h=>by simpa only[AV.nms] using Ji z (by simpa only[AV.bel] using h)
 | .tup z,h=>by simpa only[AV.nms] using Ji z (by simpa only[AV.bel] using h)
 | .ptr o _,h=>by simpa[AV.nms,AV.bel] using h
 | .eptr o _ _,h=>by simpa[AV.nms,AV.bel] using h
 | .own o,h=>by simpa[AV.nms,AV.bel] using h
 | .mp o,h=>by simpa[AV.nms,AV.bel] using h
 | .ch o,h=>by simpa[AV.nms,AV.bel] using h
 | .it o,h=>by simpa[AV.nms,AV.bel] using h
 | .osl o _ _,h=>by simpa[AV.nms,AV.bel] using h
 | .clo _ a c,h=>by
   simp only[AV.bel,Av] at h;simp only[AV.nms,AG];rintro m (G|G)
   .exact Ji a h.1 m G
   .exact Ji c h.2 m G
def Ji{n:Nat}: ∀(xs:List AV),belL n xs=true-> ∀m∈nmsL xs,m<n
 |[],_=>by simp[nmsL]
 |x::xs,h=>by
  simp only[belL,Av] at h;simp only[nmsL,AG];rintro m (z|z)
  .exact Pd x h.1 m z
  .exact Ji xs h.2 m z
end
def MN{n:Nat}: ∀(z:List (List AV)),z.all (belL n)=true-> ∀m∈nmsR z,m<n
 |[],_=>by simp[nmsR]
 |r::z,h=>by
  simp only[Fx,Av] at h;simp only[nmsR,AG];rintro m (G|G)
  .exact Ji r h.1 m G
  .exact MN z h.2 m G
def KP{n:Nat}: ∀(hs:Ag),belH n hs=true-> ∀o e,hget hs o=some e-> ∀m∈e.2.nms,m<n
 |[],_,o,e,h=>by simp[hget] at h
 |(q,O,G)::hs,hb,o,e,h=>by
  have z:(∀m∈G.nms,m<n)/\belH n hs=true:=by
   cases G<;>simp only[belH,Av] at hb
   .exact⟨Ji _ hb.1,hb.2⟩
   .exact⟨by simp[AObj.nms],hb⟩
   .exact⟨MN _ hb.1,hb.2⟩
   .exact⟨by simp[AObj.nms],hb⟩
   .exact⟨by simp[AObj.nms],hb⟩
   .exact⟨by simp[AObj.nms],hb⟩
   .exact⟨by simp[AObj.nms],hb⟩
  simp only[hget] at h;cases hq:q==o<;>rw[hq] at h
  .exact KP hs z.2 o e (by simpa using h)
  .simp only[Bc,An] at h;subst h;exact z.1
def SI{ks:List Nat}{nx cnt:Nat}: ∀(hs:Ag),D8 ks nx cnt hs=true-> ∀o e,hget hs o=some e->(nx<=o/\o<nx+cnt)\/(o∈ks/\o<nx)
 |[],_,o,e,h=>by simp[hget] at h
 |(q,x)::hs,hb,o,e,h=>by
  simp only[D8,Av] at hb;simp only[hget] at h;cases hq:q==o<;>rw[hq] at h
  .exact SI hs hb.2 o e (by simpa using h)
  .have z:q=o:=by simpa using hq
   subst z
   have:=hb.1
   simp only[EH,Dy,Av,DC,Ch,DQ] at this;exact this
def Qt(a b:Ag)(n:Nat):hget (a++b) n=match hget a n with|some e=>some e|none=>hget b n:=by
 induction a with
 |nil=>rfl
 |cons x a ih=>
  obtain⟨q,e⟩:=x;simp only[Bv,hget];cases q==n<;>simp[ih]
def Qv(ks:List Nat)(n:Nat): ∀(a:Ag),hget (hdel a ks) n=bif ks.contains n then none else hget a n
 |[]=>by simp[hdel,hget]
 |(q,e)::a=>by
  simp only[hdel];have ih:=Qv ks n a;cases hq:ks.contains q
  .simp only[AM,hget,ih];cases hqn:q==n
   .simp
   .have:q=n:=by simpa using hqn
    subst this;have z:q∉ks:=by simpa using hq
    simp[z]
  .simp only[Bc,ih,hget];cases hqn:q==n
   .simp
   .have:q=n:=by simpa using hqn
    subst this;have z:q∈ks:=by simpa using hq
    simp[z]
def PM{a:Act}{dst:Option Nat}{v:Value}{t:Nat}(hd: ∀d,dst=some d->d<a.tmps.size):
 (a.put dst v).eval (.tmp t)=if dst=some t then v else a.eval (.tmp t):=by
 cases dst with
 |none=>simp[Act.put]
 |some d=>
  have:=hd d rfl
  simp only[Act.put,Act.eval,DO,Lx,An];by_cases h:d=t
  .subst h;simp[this]
  .simp[h]
def Hq{s:Ac}{dst:Option Nat}{x:AV}{t:Nat}:tget (s.put dst x).tm t=if dst=some t then x else tget s.tm t:=by
 cases dst with
 |none=>simp[Ac.put]
 |some d=>
  simp only[Ac.put,tget,An];by_cases h:d=t
  .subst h;simp
  .have:(d==t)=false:=by simpa using h
   simp[this,h]
def UA{C:Ctx}{N:Nat}{s:Ac}{S S':Env}{a:Act}{dst:Option Nat}{r:AV}{E:Eff}{v:Value}(hc:ConE C N s S a)(Z:E.ok s.nx r=true)(hd: ∀d,dst=some d->d<N)
 (hW:Wf C S')(hh:S'.h=E.appf S.h)(hp:Pres (λm=> ¬Fr s.nx E.cnt m) S S')(hv:conc S' r v):ConE C N (s.app dst r E) S' (a.put dst v):=by
 simp only[Eff.ok,Av] at Z;obtain⟨ad,af,ag⟩:=Z;have G: ∀n,hget (E.new++hdel s.h E.kill) n=E.appf (hget s.h) n:=by
  intro n;rw[Qt,Qv];simp only[Eff.appf];cases hget E.new n<;>rfl
 have ac:S.h=hget s.h:=funext hc.h;have O:(s.app dst r E).nx=s.nx+E.cnt:=by cases dst<;>rfl
 have aa:(s.app dst r E).h=E.new++hdel s.h E.kill:=by cases dst<;>rfl
 have ab: ∀t,tget (s.app dst r E).tm t=if dst=some t then r else tget s.tm t:=λt=>Hq
 refine⟨hW,?_,?_,?_,?_,?_,?_,?_,Xx hc.pre hc.n0 hp⟩
 .intro n;rw[aa,G,hh,ac]
 .intro t;rw[ab,PM (λd h=>by rw[hc.size];exact hd d h)];split
  .exact hv
  .refine DV hp _ _ ?_ (hc.tm t);intro m Q ah
   have:=hc.nmT t m Q
   have:=ah.1
   omega
 .intro t;rw[ab,O];split
  .exact Pd r ad
  .intro m Q;have:=hc.nmT t m Q;omega
 .intro n e z;rw[aa,Qt] at z;rw[O];cases hn:hget E.new n with
  |some e'=>
   rw[hn] at z;obtain rfl:=Al z;refine⟨?_,KP _ af n _ hn⟩;rcases SI _ ag n _ hn with h|h<;>omega
  |none=>
   rw[hn] at z;simp only[Qv] at z;cases hk:E.kill.contains n<;>rw[hk] at z
   .obtain⟨h1,h2⟩:=hc.nmH n e (by simpa using z);exact⟨by omega,λm Q=>by have:=h2 m Q;omega⟩
   .simp at z
 .cases dst<;>simp[Act.put,hc.size]
 .cases dst<;>simp[Act.put,hc.defers]
 .rw[O];exact BK hc.n0 (Nat.le_add_right _ _)
def W4{P:Program}{V:B0}(HV:D5 P V){C:Ctx}{N:Nat}{s:Ac}{a:Act}{w:World}{ops:Array Oper}{i:Nat}{o:Oper}{go:Ac->Prop}(aq:ops[i]? =some o)(hw:Region.wanted o (yielded ops a.tmps)=true)(hd: ∀d,o.dst=some d->d<N)
 (G:stepS P V o.dst o.op o.type go s)(hc:Con C N s a w){next:Act->World->Prop}(hn: ∀s' a' w',go s'->Con C N s' a' w'->next a' w'):OpGo P ops i a w next:=by
 obtain⟨S,rfl,hc⟩:=hc;have bd:S.h=hget s.h:=funext hc.h;unfold stepS at G;have ax:step P V true s.tm (hget s.h) s.nx o.type (kont go s o.dst) o.op->OpGo P ops i a S.w next:=by
  intro G;refine RO aq hw ?_;have ak: ∀n,s.nx<=n->S.h n=none:=by
   intro n ai;cases hn:S.h n with
   |none=>rfl
   |some e=>
    have:=(hc.nmH n e (by rw[<-hc.h n];exact hn)).1
    omega
  have am: ∀n e,S.h n=some e-> ∀m∈e.2.nms,m<s.nx:=λn e he m hm=>(hc.nmH n e (by rw[<-hc.h n];exact he)).2 m hm
  rcases Wr HV (evO_nms hc.nmT) G with ⟨r,E,ah,ac,af⟩|⟨_,⟨u,au⟩|a8⟩
  .refine ah C S a next _ hc.wf (λn _=>hc.h n) (λn ai=>ak n ai.1) ?_ (λx _=>GL hc x) ?_
   .intro n e he m hm ai
    have:=am n e he m hm
    have:=ai.1
    omega
   .intro v S' hW hh hp hv;exact hn _ _ _ af ⟨S',rfl,UA hc ac hd hW hh hp hv⟩
  .exact absurd (au C S a hc.wf (λn _=>hc.h n) (λx _=>GL hc x)) id
  .refine a8 C S a next _ hc.wf hc.h ak am (λx _=>GL hc x) ?_
   intro r E v S' hK hW hh hp hv;obtain⟨ac,af⟩:=hK;exact hn _ _ _ af ⟨S',rfl,UA hc ac hd hW hh hp hv⟩
 have chan: ∀(q cap:Nat) (bu ad:List D) (l:Loc) (Z:Array Value) (Q O:Nat) (r:AV) (v:Value),S.h q=some (true,.chan bu cap)->S.ρ q=some l->rdl S.ok S.hp ad Z.toList->
  (∀S':Env,(∀b,S.ok b->S'.ok b/\S'.hp b=S.hp b)->conc S' r v)->
  kont go s o.dst r {use:=[q],kill:=[q],new:=[(q,(true,.chan ad cap))]}->next (a.put o.dst v) {S.w with heap:=S.w.heap.setIfInBounds l.b (.chan cap Z false Q O false)}:=by
  intro q cap bu ad l Z Q O r v hS hl hb hv hK
  let w':World:={S.w with heap:=S.w.heap.setIfInBounds l.b (.chan cap Z false Q O false)}
  have an:E5 S q (.chan ad cap) (some l) [q] w':=KV hc.wf hS hl (w':=w') (ob:= .chan cap Z false Q O false) rfl rfl rfl rfl rfl rfl;have aj:=KE hc.wf an;have aw:objc (S.one q (.chan ad cap) (some l) [q] w') (some l) (.chan ad cap):=by
   simp only[objc];exact⟨l,Z,Q,O,rfl,Lk (hc.wf.loc q _ l hS hl).1 rfl,Ff aj.ok _ _ hb⟩
  have ay:=Ms hc.wf an aw;obtain⟨ac,af⟩:=hK;refine hn _ _ _ af ⟨_,rfl,UA hc ac hd ay ?_ ⟨aj.ok,λn hX=>aj.nm n (.inl (by rw[hS];simp))⟩ (hv _ aj.ok)⟩;funext n;simp only[Env.one,Eff.appf,Go.Ae.hget];by_cases as:n=q
  .subst as;simp
  .have:(q==n)=false:=by rw[Ef];exact λh=>as h.symm
   simp[this,as]
 unfold BV at G;split at G
 .rename_i c x ah;unfold stSend at G;split at G
  .rename_i q d ao ba;have h1:=GL hc c;have h2:=GL hc x;rw[ao] at h1;rw[ba] at h2;cases hq:hget s.h q with
   |none=>rw[hq] at G;exact G.elim
   |some ab=>
    obtain⟨mu,ab⟩:=ab;rw[hq] at G;cases mu<;>cases ab<;>try exact G.elim
    rename_i bu cap;simp only[sdGo] at G;obtain⟨a0,G⟩:=G;have hS:=(hc.h q).trans hq;simp only[conc] at h1 h2;obtain⟨l,hl,hv⟩:=h1.2 _ hS;have ag:=hc.wf.obj _ _ hS;simp only[objc] at ag;obtain⟨lc,aa,Q,O,g1,g2,g3⟩:=ag;rw[hl] at g1;obtain rfl:=Al g1;have av:=KU _ _ g3;simp only[Cm] at av;refine opGo_send aq hw ah hv g2 (by omega) ?_;refine chan q cap bu (bu++[d]) l (aa.push (a.eval x)) (Q+1) O .any undef hS hl ?_ (λ_ _=>by simp only[conc]) G;rw[Rz]
    have: ∀(ds:List D) (vs:List Value),rdl S.ok S.hp ds vs->rdl S.ok S.hp (ds++[d]) (vs++[a.eval x]):=by
     intro ds;induction ds with
     |nil=>intro vs h;simp only[rdl] at h;subst h;simp only[D1,rdl];exact⟨_,_,rfl,h2,rfl⟩
     |cons y ys ih=>
      intro vs h;simp only[rdl] at h;obtain⟨v,r,rfl,k1,k2⟩:=h;simp only[Bv,rdl];exact⟨_,_,rfl,k1,ih r k2⟩
    exact this _ _ g3
  .exact G.elim
 .rename_i T c ah;unfold stRecv at G;cases hce:H4 P T with
  |none=>rw[hce] at G;exact G.elim
  |some e=>
  rw[hce] at G;simp only[rvK] at G;cases hE:tI P e with
  |none=>rw[hE] at G;exact G.elim
  |some te=>
  rw[hE] at G;simp only[Az,rvE] at G;obtain⟨bb,hz,G⟩:=G;obtain⟨z,bc,_⟩:=K6 hE bb hz;obtain⟨dr,hu⟩:=Tp hce;have h1:=GL hc c;cases ao:evO s.tm c<;>rw[ao] at G h1<;>try exact G.elim
  rename_i q;simp only[rvC] at G;cases hq:hget s.h q with
  |none=>rw[hq] at G;exact G.elim
  |some ab=>
   obtain⟨mu,ab⟩:=ab;rw[hq] at G;cases mu<;>cases ab<;>try exact G.elim
   rename_i bu cap;simp only[rvGo] at G;obtain⟨az,G⟩:=G;obtain⟨d,r,rfl⟩:=Yh az;have G:=G d r rfl;have hS:=(hc.h q).trans hq;simp only[conc] at h1;obtain⟨l,hl,hv⟩:=h1.2 _ hS;have ag:=hc.wf.obj _ _ hS;simp only[objc] at ag;obtain⟨lc,aa,Q,O,g1,g2,g3⟩:=ag;rw[hl] at g1;obtain rfl:=Al g1;simp only[rdl] at g3;obtain⟨v0,vr,k1,k2,k3⟩:=g3;have a9:0<aa.size:=by rw[<-Cm,k1];simp
   have h0:aa.getD 0 undef=v0:=by
    have:aa.toList[0]? =some v0:=by rw[k1];rfl
    rw[DO,<-Dx,this];rfl
   have hx:(aa.extract 1 aa.size).toList=vr:=by
    rw[Yl,k1];simp only[List.extract,Gz,D9];apply BX;rw[<-Cm,k1];simp
   refine opGo_recv aq hw ah hu (bc _) hv g2 a9 ?_;rw[h0];refine chan q cap (d::r) r l _ Q (O+1) (.im d) v0 hS hl (by rw[hx];exact k3) (λS' ac=> ?_) G;simp only[conc];exact Dp ac _ _ k2
 .exact ax G
def con_put{C:Ctx}{N:Nat}{s:Ac}{a:Act}{w:World}(hc:Con C N s a w){dst:Option Nat}(hd: ∀d,dst=some d->d<N){x:AV}{v:Value}(hx:x.nms=[])(Z: ∀S,conc S x v):Con C N (s.put dst x) (a.put dst v) w:=by
 obtain⟨S,rfl,hc⟩:=hc;have O:(s.put dst x).h=s.h:=by cases dst<;>rfl
 have z:(s.put dst x).nx=s.nx:=by cases dst<;>rfl
 refine⟨S,rfl,hc.wf,λn=>by rw[O];exact hc.h n,?_,?_,?_,?_,?_,by rw[z];exact hc.n0,hc.pre⟩
 .intro t;rw[Hq,PM (λd h=>by rw[hc.size];exact hd d h)];split
  .exact Z S
  .exact hc.tm t
 .intro t;rw[Hq,z];split
  .rw[hx];intro m Q;cases Q
  .exact hc.nmT t
 .intro n e G;rw[O] at G;rw[z];exact hc.nmH n e G
 .cases dst<;>simp[Act.put,hc.size]
 .cases dst<;>simp[Act.put,hc.defers]
def E8(N:Nat):List Oper->Bool
 |[]=>true
 |o::r=>(match o.dst with|some d=>Nat.blt d N|none=>true) && E8 N r
def Wk{C:Ctx}{N:Nat}{s:Ac}{S:Env}{a:Act}(hc:ConE C N s S a){ops:Array Oper}{j t:Nat}(G:(ops[j]?).bind (·.dst)=some t){b:Bool}(hb:tget s.tm t= .im (.bool b)):
 yielded ops a.tmps j=some b:=by
 have z:=hc.tm t;rw[hb] at z;simp only[conc,rd,Act.eval] at z;unfold yielded;rw[G];simp only[Ce];rw[DO] at z;cases hq:a.tmps[t]? with
 |none=>rw[hq] at z;simp[undef] at z
 |some v=>rw[hq] at z;simp at z;rw[z]
def Tt{P:Program}{V:B0}(HV:D5 P V){C:Ctx}{N:Nat}{ops:Array Oper}{K:Ac->Prop}{Q:Exit->Act->World->Prop}(hQ: ∀s a w,K s->Con C N s a w->Q .normal a w):
 ∀(rest more:List Oper) (i:Nat),ops.toList.drop i=rest++more->E8 N rest=true-> ∀(s:Ac) (a:Act) (w:World),rgS P V (CU ops rest) K s->Con C N s a w->Fm P ops (Q .normal) (List.range' i rest.length) a w:=by
 intro rest more;induction rest with
 |nil=>
  intro i _ _ s a w G hc;simp only[CU,rgS] at G;simpa[Fm] using hQ s a w G hc
 |cons o rest ih=>
  intro i hi hd s a w G hc;simp only[E8,Av] at hd;have ad:ops[i]? =some o:=by
   have:(ops.toList.drop i)[0]? =some o:=by rw[hi];rfl
   simpa using this
  have aj:ops.toList.drop (i+1)=rest++more:=by
   have:(ops.toList.drop i).drop 1=rest++more:=by rw[hi];rfl
   rwa [Cj] at this
  have Z: ∀d,o.dst=some d->d<N:=by
   intro d ai
   have:=hd.1
   rw[ai] at this;simpa using this
  have O: ∀s' a' w',rgS P V (CU ops rest) K s'->Con C N s' a' w'->Fm P ops (Q .normal) (List.range' (i+1) rest.length) a' w':=λs' a' w' h1 h2=>ih (i+1) aj hd.2 s' a' w' h1 h2
  simp only[Bs,List.range'_succ,Fm,ad];simp only[CU,rgS] at G;cases hg:o.guard with
  |none=>
   rw[hg] at G;simp only[IN,opS] at G;rw[Af (by simp[Region.wanted,hg])];exact W4 HV ad (by simp[Region.wanted,hg]) Z G hc O
  |some g=>
   obtain⟨j,aa⟩:=g;rw[hg] at G;simp only[IN,opS] at G;cases ht:(ops[j]?).bind (·.dst) with
   |none=>rw[ht] at G;exact G.elim
   |some t=>
    rw[ht] at G;simp only[grdS] at G;cases hb:tget s.tm t<;>rw[hb] at G<;>try exact G.elim
    rename_i d;cases d<;>try exact G.elim
    case tup cs=>
     cases cs with
     |cons _ _=>exact G.elim
     |nil=>
      simp only[I4,skipS] at G;have hy:yielded ops a.tmps j=none:=by
       obtain⟨S,_,z⟩:=hc;have h1:=z.tm t;rw[hb] at h1;simp only[conc,rd,rdl,Act.eval] at h1;obtain⟨vs,h1,h2⟩:=h1;unfold yielded;rw[ht];simp only[Ce];rw[DO] at h1;cases hq:a.tmps[t]? with
       |none=>rfl
       |some v=>rw[hq] at h1;simp at h1;rw[h1]
      rw[Ab (by simp[Region.wanted,hg,hy])];exact O _ _ _ G (con_put hc Z rfl (λS=>by simp only[conc,rd,rdl];exact⟨#[],rfl,rfl⟩))
    case bool b=>
    simp only[I4] at G;obtain⟨S,ag,z⟩:=hc;have hy:=Wk z ht hb;have ac: ∀b':Bool,b=b'->Con C N (s.put (some t) (.im (.bool b'))) a w:=by
     intro b' ah;subst ah;refine⟨S,ag,z.wf,z.h,?_,?_,z.nmH,z.size,z.defers,z.n0,z.pre⟩
     .intro t';rw[Hq];split
      .rename_i h;cases h;have:=z.tm t;rwa [hb] at this
      .exact z.tm t'
     .intro t';rw[Hq];split
      .intro m hm;simp[AV.nms] at hm
      .exact z.nmT t'
    by_cases ab:b=aa
    .rw[Af (by simp[Region.wanted,hg,hy,ab])];exact W4 HV ad (by simp[Region.wanted,hg,hy,ab]) Z (G.1 ab) (ac aa ab) O
    .rw[Ab (by simp[Region.wanted,hg,hy,ab])];have af:b= !aa:=by cases b<;>cases aa<;>simp_all
     have h2:=G.2 af;simp only[skipS] at h2;exact O _ _ _ h2 (con_put (ac _ af) Z rfl (λS=>by simp only[conc,rd,rdl];exact⟨#[],rfl,rfl⟩))
def Y3{P:Program}{V:B0}(z:D5 P V){C:Ctx}{N id:Nat}{ops:Array Oper}{K:Ac->Prop}{Q:Exit->Act->World->Prop}(G: ∀s a w,K s->Con C N s a w->Q .normal a w)
 (hd:E8 N ops.toList=true){s:Ac}{a:Act}{w:World}(O:rgS P V (CU ops ops.toList) K s)(hc:Con C N s a w):(Code.region id ops false).wp P Q a w:=by
 refine region_ch ?_
 have:=Tt z (ops:=ops) G ops.toList [] 0 (by simp) hd s a w O hc
 rwa [Cm,<-Vk] at this
structure Ev where
 i:Nat
 o:Oper
 s:Ac
 r:AV
 E:Eff
 skip:Bool
def HD(D:Nat->Bool):List Ev->(Nat->Option Ent)->(Nat->Option Ent)
 |[],h=>h
 |e::r,h=>HD D r (bif D e.i then e.E.appf h else h)
def TD(D:Nat->Bool):List Ev->(Nat->AV)->(Nat->AV)
 |[],f=>f
 |e::r,f=>TD D r (λt=>bif D e.i && (e.o.dst==some t) then e.r else f t)
def Xq{n:Nat}: ∀(hs:Ag),n∉Fg hs->hget hs n=none
 |[],_=>rfl
 |(q,e)::hs,h=>by
  simp only[Fg,A9,JE] at h
  have:(q==n)=false:=by rw[Ef];exact λh'=>h.1 h'.symm
  simp only[hget,this,AM];exact Xq hs h.2
def WN{n:Nat}: ∀(hs:Ag),n∈Fg hs-> ∃e,hget hs n=some e
 |[],h=>by simp[Fg] at h
 |(q,e)::hs,h=>by
  simp only[Fg,A9] at h;simp only[hget];cases hq:q==n
  .have z:q≠n:=by simpa using hq
   rcases h with rfl|h
   .exact absurd rfl z
   .simpa using WN hs h
  .exact⟨e,by simp⟩
def OH{E:Eff}{h:Nat->Option Ent}{n:Nat}(hn:n∉E.touch):E.appf h n=h n:=by
 simp only[Eff.touch,AG,JE] at hn;simp[Eff.appf,Xq _ hn.2,hn.1]
def appf_in{E:Eff}{h h':Nat->Option Ent}{n:Nat}(hn:n∈E.touch):E.appf h n=E.appf h' n:=by
 simp only[Eff.appf];cases hg:hget E.new n with
 |some e=>rfl
 |none=>
  simp only[Eff.touch,AG] at hn;rcases hn with hn|hn
  .simp[hn]
  .obtain⟨e,z⟩:=WN _ hn;rw[z] at hg;cases hg
def UG{E:Eff}{h h':Nat->Option Ent}{n:Nat}(z:h n=h' n):E.appf h n=E.appf h' n:=by
 simp only[Eff.appf,z]
def Ma{D D':Nat->Bool}{n:Nat}: ∀(evs:List Ev) (h h':Nat->Option Ent),h n=h' n->(∀e∈evs,D e.i≠D' e.i->n∉e.E.touch)->HD D evs h n=HD D' evs h' n
 |[],_,_,z,_=>z
 |e::r,h,h',z,hd=>by
  simp only[HD];refine Ma r _ _ ?_ (λx G=>hd x (by simp[G]));cases h1:D e.i<;>cases h2:D' e.i
  .simpa using z
  .have:=hd e (by simp) (by rw[h1,h2];simp)
   simp only[AM,Bc];rw[OH this];exact z
  .have:=hd e (by simp) (by rw[h1,h2];simp)
   simp only[AM,Bc];rw[OH this];exact z
  .simp only[Bc];exact UG z
def Md{D D':Nat->Bool}{t:Nat}: ∀(evs:List Ev) (f f':Nat->AV),f t=f' t->(∀e∈evs,D e.i≠D' e.i->e.o.dst≠some t)->TD D evs f t=TD D' evs f' t
 |[],_,_,z,_=>z
 |e::r,f,f',z,hd=>by
  simp only[TD];refine Md r _ _ ?_ (λx G=>hd x (by simp[G]));by_cases hq:e.o.dst=some t
  .have:D e.i=D' e.i:=by
    rcases Decidable.em (D e.i=D' e.i) with h|h
    .exact h
    .exact absurd hq (hd e (by simp) h)
   rw[this,z]
  .have:(e.o.dst==some t)=false:=by rw[Ef];exact hq
   simp[this,z]
def Pt(D:Nat->Bool): ∀(a b:List Ev) (h:Nat->Option Ent),HD D (a++b) h=HD D b (HD D a h)
 |[],_,_=>rfl
 |e::a,b,h=>by simp only[Bv,HD];exact Pt D a b _
def Pv(D:Nat->Bool): ∀(a b:List Ev) (f:Nat->AV),TD D (a++b) f=TD D b (TD D a f)
 |[],_,_=>rfl
 |e::a,b,f=>by simp only[Bv,TD];exact Pv D a b _
def Um{D:Nat->Bool}: ∀(evs:List Ev) (h:Nat->Option Ent) (n:Nat),(∀e∈evs,D e.i=true->n∉e.E.touch)->HD D evs h n=h n
 |[],_,_,_=>rfl
 |e::r,h,n,hd=>by
  simp only[HD];rw[Um r _ n (λx z=>hd x (by simp[z]))];cases h1:D e.i
  .rfl
  .exact OH (hd e (by simp) h1)
def UK{D:Nat->Bool}: ∀(evs:List Ev) (f:Nat->AV) (t:Nat),(∀e∈evs,D e.i=true->e.o.dst≠some t)->TD D evs f t=f t
 |[],_,_,_=>rfl
 |e::r,f,t,hd=>by
  simp only[TD];rw[UK r _ t (λx z=>hd x (by simp[z]))];cases h1:D e.i
  .rfl
  .have:(e.o.dst==some t)=false:=by rw[Ef];exact hd e (by simp) h1
   simp[this]
def Ub{n:Nat}{x:Ent}: ∀(hs:Ag),hget hs n=some x->n∈Fg hs/\ ∀m∈x.2.nms,m∈nmsH hs
 |[],h=>by simp[hget] at h
 |(q,Z,ob)::hs,h=>by
  simp only[hget] at h;simp only[Fg,nmsH,A9,AG];cases hq:q==n<;>rw[hq] at h
  .obtain⟨O,Q⟩:=Ub hs (by simpa using h);exact⟨.inr O,λm z=> .inr (Q m z)⟩
  .have G:q=n:=by simpa using hq
   simp only[Bc,An] at h;subst h;exact⟨.inl G.symm,λm z=> .inl z⟩
def HD_src{D:Nat->Bool}{n:Nat}{x:Ent}: ∀(evs:List Ev) (h:Nat->Option Ent),HD D evs h n=some x->h n=some x\/ ∃e∈evs,D e.i=true/\hget e.E.new n=some x
 |[],_,G=> .inl G
 |e::r,h,G=>by
  simp only[HD] at G;rcases HD_src r _ G with z|⟨f,hf,O⟩
  .cases hd:D e.i<;>rw[hd] at z
   .exact .inl z
   .simp only[Bc,Eff.appf] at z;cases hg:hget e.E.new n with
    |some y=>
     rw[hg] at z;obtain rfl:=Al z;exact .inr ⟨e,by simp,hd,hg⟩
    |none=>
     rw[hg] at z;cases hk:e.E.kill.contains n<;>rw[hk] at z
     .exact .inl z
     .cases z
  .exact .inr ⟨f,by simp[hf],O⟩
def TD_src{D:Nat->Bool}{t:Nat}: ∀(evs:List Ev) (f:Nat->AV),TD D evs f t=f t\/ ∃e∈evs,D e.i=true/\TD D evs f t=e.r
 |[],_=> .inl rfl
 |e::r,f=>by
  simp only[TD];rcases TD_src r (λt=>bif D e.i && (e.o.dst==some t) then e.r else f t) with z|⟨x,O,G⟩
  .rw[z];cases hd:D e.i
   .exact .inl rfl
   .cases hq:e.o.dst==some t
    .exact .inl rfl
    .exact .inr ⟨e,by simp,hd,rfl⟩
  .exact .inr ⟨x,by simp[O],G⟩
structure Sep(e f:Ev):Prop where
 a: ∀n,n∈f.E.use++f.E.kill->n∉e.E.touch
 b: ∀n,n∈f.E.touch->n∉e.E.touch
 c: ∀n,n∈f.E.touch->n∉e.E.use++e.E.kill
 d: ∀n,n∈f.E.touch++(f.r.nms++nmsH f.E.new)-> ¬Fr e.s.nx e.E.cnt n
def SK: ∀(l k:List Nat),E9 l k=true-> ∀n∈l,n∉k
 |[],_,_,n,hn=>by cases hn
 |x::l,k,h,n,hn=>by
  simp only[E9,Av,EX] at h;rcases A9.1 hn with rfl|hn
  .intro z
   have:=h.1
   rw[DQ.2 z] at this;cases this
  .exact SK l k h.2 n hn
def W3{nx cnt:Nat}: ∀(l:List Nat),outN nx cnt l=true-> ∀n∈l,¬Fr nx cnt n
 |[],_,n,hn=>by cases hn
 |x::l,h,n,hn=>by
  simp only[outN,Av,Dy,Ch,DC] at h;rcases A9.1 hn with rfl|hn
  .intro hf
   have:=hf.1
   have:=hf.2
   omega
  .exact W3 l h.2 n hn
def GdOk(ops:Array Oper)(s:Ac)(skip:Bool):Option (Nat×Bool)->Prop
 |none=>skip=false
 |some (g,z)=> ∃t,(ops[g]?).bind (·.dst)=some t/\((∃b,tget s.tm t= .im (.bool b)/\skip=(b !=z))\/(tget s.tm t= .im (.tup [])/\skip=true))
structure EvOk(P:Program)(ops:Array Oper)(e:Ev):Prop where
 op:ops[e.i]? =some e.o
 gd:GdOk ops e.s e.skip e.o.guard
 doo:e.skip=false->OpT P e.s.tm (hget e.s.h) e.s.nx e.o e.r e.E/\e.E.ok e.s.nx e.r=true
 skp:e.skip=true->e.r= .im (.tup [])/\e.E={}
abbrev allB:Nat->Bool:=λ_=>true
def ltB(j:Nat):Nat->Bool:=λi=>Nat.blt i j
def ltB_t{i j:Nat}(h:ltB j i=true):i<j:=by simpa[ltB] using h
structure GT(P:Program)(ops:Array Oper)(cl:List (List Nat))(s0:Ac)(evs:List Ev)(s:Ac)(acc:List Fp):Prop where
 idx: ∀(k:Nat) (e:Ev),evs[k]? =some e->e.i=k
 tm: ∀t,tget s.tm t=TD allB evs (tget s0.tm) t
 h: ∀n,hget s.h n=HD allB evs (hget s0.h) n
 nx:s0.nx<=s.nx
 ev: ∀e∈evs,EvOk P ops e/\s0.nx<=e.s.nx/\e.s.nx+e.E.cnt<=s.nx
 atT: ∀e∈evs,∀t,tget e.s.tm t=TD (ltB e.i) evs (tget s0.tm) t
 atH: ∀e∈evs,∀n,hget e.s.h n=HD (ltB e.i) evs (hget s0.h) n
 ord: ∀e∈evs,∀f∈evs,e.i<f.i->e.s.nx+e.E.cnt<=f.s.nx
 pair: ∀e∈evs,∀f∈evs,e.i<f.i->ordB cl e.i f.i=true\/Sep e f
 acc: ∀e∈evs,e.skip=true\/(⟨e.i,e.E.use++e.E.kill,e.E.touch,e.s.nx,e.E.cnt⟩:Fp)∈acc
 nmT: ∀t,∀m∈(tget s.tm t).nms,m<s.nx
section
variable {P:Program}{ops:Array Oper}{cl:List (List Nat)}{s0 s:Ac}{evs:List Ev}{acc:List Fp}
def GT.lt(g:GT P ops cl s0 evs s acc): ∀e∈evs,e.i<evs.length:=by
 intro e G;obtain⟨k,O,z⟩:=Lv.1 G
 have:=g.idx k e (by rw[A8 O,z])
 omega
def GT.nil(h: ∀t,∀m∈(tget s0.tm t).nms,m<s0.nx):GT P ops cl s0 [] s0 []:=by
 refine⟨by simp,λt=>rfl,λn=>rfl,Ar _,by simp,by simp,by simp,by simp,by simp,by simp,h⟩
def GT.snoc(g:GT P ops cl s0 evs s acc)(e:Ev)(hi:e.i=evs.length)(an:EvOk P ops e)(hs: ∀t,tget e.s.tm t=tget s.tm t)(hh: ∀n,hget e.s.h n=hget s.h n)(as:e.s.nx=s.nx)
 (ah: ∀f∈evs,ordB cl f.i e.i=true\/Sep f e){s':Ac}{G:List Fp}(ak: ∀t,tget s'.tm t=if e.o.dst=some t then e.r else tget s.tm t)
 (am: ∀n,hget s'.h n=e.E.appf (hget s.h) n)(ao:s'.nx=s.nx+e.E.cnt)(aj: ∀f∈acc,f∈G)(af:e.skip=true\/(⟨e.i,e.E.use++e.E.kill,e.E.touch,e.s.nx,e.E.cnt⟩:Fp)∈G)
 (hr: ∀m∈e.r.nms,m<s'.nx):GT P ops cl s0 (evs++[e]) s' G:=by
 have O: ∀f∈evs,f.i<e.i:=λf hf=>by rw[hi];exact g.lt f hf
 have ad: ∀t,TD (ltB e.i) evs (tget s0.tm) t=tget s.tm t:=by
  intro t;rw[g.tm t];refine Md evs _ _ rfl ?_;intro f hf ag;exact absurd (by simp[ltB,O f hf]) ag
 have ac: ∀n,HD (ltB e.i) evs (hget s0.h) n=hget s.h n:=by
  intro n;rw[g.h n];refine Ma evs _ _ rfl ?_;intro f hf ag;exact absurd (by simp[ltB,O f hf]) ag
 have ab: ∀f∈evs,ltB f.i e.i=false:=by
  intro f hf
  have:=O f hf
  rw[G2];intro h
  have:=ltB_t h
  omega
 have Q:ltB e.i e.i=false:=by
  rw[G2];intro h
  have:=ltB_t h
  omega
 have z: ∀f,f∈evs++[e]->f∈evs\/f=e:=by intro f hf;simpa using hf
 refine⟨?_,?_,?_,?_,?_,?_,?_,?_,?_,?_,?_⟩
 .intro k f hk;rcases P5 k evs.length with h|h|h
  .rw[Ci h] at hk;exact g.idx k f hk
  .subst h;rw[C8 (Ar _)] at hk;simp at hk;subst hk;exact hi
  .rw[C8 (by omega)] at hk
   have:(k - evs.length)≠0:=by omega
   cases hq:k - evs.length with
   |zero=>omega
   |succ q=>rw[hq] at hk;simp at hk
 .intro t;rw[ak,Pv];simp only[TD,allB,BY];by_cases hq:e.o.dst=some t
  .simp[hq]
  .have:(e.o.dst==some t)=false:=by rw[Ef];exact hq
   rw[Ab hq,this];exact g.tm t
 .intro n;rw[am,Pt];simp only[HD,allB,Bc];exact UG (g.h n)
 .have:=g.nx;omega
 .intro f hf;have aq:=g.nx;rcases z f hf with hf|rfl
  .obtain⟨h1,h2,h3⟩:=g.ev f hf;exact⟨h1,h2,by omega⟩
  .exact⟨an,by omega,by omega⟩
 .intro f hf t;rw[Pv];rcases z f hf with hf|rfl
  .simp only[TD,ab f hf,CA,AM];exact g.atT f hf t
  .simp only[TD,Q,CA,AM];rw[ad,hs]
 .intro f hf n;rw[Pt];rcases z f hf with hf|rfl
  .simp only[HD,ab f hf,AM];exact g.atH f hf n
  .simp only[HD,Q,AM];rw[ac,hh]
 .intro x hx y hy ai;rcases z x hx with Z|rfl<;>rcases z y hy with aa|rfl
  .exact g.ord x Z y aa ai
  .have:=(g.ev x Z).2.2;omega
  .have:=O y aa;omega
  .omega
 .intro x hx y hy ai;rcases z x hx with Z|rfl<;>rcases z y hy with aa|rfl
  .exact g.pair x Z y aa ai
  .exact ah x Z
  .have:=O y aa;omega
  .omega
 .intro f hf;rcases z f hf with hf|rfl
  .rcases g.acc f hf with h|h
   .exact .inl h
   .exact .inr (aj _ h)
  .exact af
 .intro t m hm;rw[ak] at hm;split at hm
  .exact hr m hm
  .have:=g.nmT t m hm;omega
def Ws{j:Nat}{use touch z:List Nat}: ∀(acc:List Fp),Ek cl j use touch z acc=true-> ∀f∈acc,ckP cl j use touch z f=true
 |[],_,f,hf=>by cases hf
 |x::acc,h,f,hf=>by
  simp only[Ek,Av] at h;rcases A9.1 hf with rfl|hf
  .exact h.1
  .exact Ws acc h.2 f hf
def tr_of_rgA{V:B0}(HV:D5 P V){K:Ac->Prop}: ∀(rest:List Oper) (i:Nat) (acc:List Fp) (s:Ac) (evs:List Ev),ops.toList.drop i=rest->evs.length=i->
 GT P ops cl s0 evs s acc->rgA P V cl (CU ops rest) i K acc s-> ∃z s' G,z.length=i+rest.length/\GT P ops cl s0 z s' G/\K s':=by
 intro rest;induction rest with
 |nil=>intro i acc s evs _ hl g Q;exact⟨evs,s,acc,by simpa using hl,g,Q⟩
 |cons o rest ih=>
  intro i acc s evs hi hl g Q;have ao:ops[i]? =some o:=by
   have:(ops.toList.drop i)[0]? =some o:=by rw[hi];rfl
   simpa using this
  have an:ops.toList.drop (i+1)=rest:=by
   have:(ops.toList.drop i).drop 1=rest:=by rw[hi];rfl
   rwa [Cj] at this
  have ak: ∀Z:Ac,(∀t,tget Z.tm t=tget s.tm t)->Z.h=s.h->Z.nx=s.nx->GdOk ops Z false o.guard->stepA P V cl i acc o.dst o.op o.type (rgA P V cl (CU ops rest) (i+1) K) Z->
   ∃z s' G,z.length=i+(rest.length+1)/\GT P ops cl s0 z s' G/\K s':=by
   intro Z ht hh ab ah af;have hnm: ∀x,∀m∈(evO Z.tm x).nms,m<Z.nx:=evO_nms (λt m hm=>by rw[ht] at hm;rw[ab];exact g.nmT t m hm);rcases Wr HV hnm af with ⟨r,E,aw,aq,au,av⟩|⟨h,_⟩
   .have aj:=Ws acc au;have af:(Z.app o.dst r E).nx=Z.nx+E.cnt:=by cases o.dst<;>rfl
    have hb:=aq;simp only[Eff.ok,Av] at hb;have g':GT P ops cl s0 (evs++[⟨i,o,Z,r,E,false⟩]) (Z.app o.dst r E) (⟨i,E.use++E.kill,E.touch,Z.nx,E.cnt⟩::acc):=by
     refine g.snoc ⟨i,o,Z,r,E,false⟩ hl.symm ⟨ao,ah,λ_=>⟨aw,aq⟩,λh=>by cases h⟩ ht (λn=>by rw[hh]) ab ?_ (λt=> ?_) (λn=> ?_) (by rw[af,ab]) (λf hf=>by simp[hf]) (.inr (by simp)) ?_
     .intro f hf;rcases g.acc f hf with hs|ha
      .obtain⟨h1,h2⟩:=((g.ev f hf).1).skp hs;refine .inr ⟨?_,?_,?_,?_⟩<;>rw[h2]
       .intro n _;simp[Eff.touch,Fg]
       .intro n _;simp[Eff.touch,Fg]
       .intro n _;simp
       .intro n _ am
        have:=am.1
        have:=am.2
        simp only at this;omega
      .have h:=aj _ ha;unfold ckP at h;rw[Vc] at h;split at h
       .rename_i hx;simp only[Av] at hx;obtain⟨h1,h2,h3⟩:=hx;have ai:=SK _ _ h1;exact .inr ⟨λn hn=>ai n (by simp only[AG] at hn⊢;exact .inl hn),λn hn=>ai n (Hh _ hn),SK _ _ h2,W3 _ h3⟩
       .exact .inl h
     .have:tget (Z.app o.dst r E).tm t=if o.dst=some t then r else tget Z.tm t:=Hq
      rw[this,ht]
     .have:(Z.app o.dst r E).h=E.new++hdel Z.h E.kill:=by cases o.dst<;>rfl
      rw[this,Qt,Qv,hh];simp only[Eff.appf];cases hget E.new n<;>rfl
     .rw[af];exact Pd r hb.1
    obtain⟨z,s',G,h1,h2,h3⟩:=ih (i+1) _ _ _ an (by simp[hl]) g' av;exact⟨z,s',G,by omega,h2,h3⟩
   .cases h
  simp only[CU,rgA] at Q;simp only[Bs];cases hg:o.guard with
  |none=>
   rw[hg] at Q;simp only[IN,opA] at Q;exact ak s (λ_=>rfl) rfl rfl (by rw[hg];rfl) Q
  |some gw=>
   obtain⟨j,O⟩:=gw;rw[hg] at Q;simp only[IN,opA] at Q;cases ht:(ops[j]?).bind (·.dst) with
   |none=>rw[ht] at Q;exact Q.elim
   |some t=>
    rw[ht] at Q;simp only[grdA] at Q;cases hb:tget s.tm t<;>rw[hb] at Q<;>try exact Q.elim
    rename_i d;have ac: ∀s2:Ac,(∀t',tget s2.tm t'=tget s.tm t')->s2.h=s.h->s2.nx=s.nx->GdOk ops s true o.guard->rgA P V cl (CU ops rest) (i+1) K acc (s2.put o.dst (.im (.tup [])))->
     ∃z s' G,z.length=i+(rest.length+1)/\GT P ops cl s0 z s' G/\K s':=by
     intro s2 aa hh ab ah h2;have g':GT P ops cl s0 (evs++[⟨i,o,s,.im (.tup []),{},true⟩]) (s2.put o.dst (.im (.tup []))) acc:=by
      refine g.snoc ⟨i,o,s,.im (.tup []),{},true⟩ hl.symm ⟨ao,ah,(λh=>by cases h),(λ_=>⟨rfl,rfl⟩)⟩ (λ_=>rfl) (λ_=>rfl) rfl ?_ (λt'=> ?_) (λn=> ?_) ?_ (λf hf=>hf) (.inl rfl) ?_
      .intro f hf;refine .inr ⟨?_,?_,?_,?_⟩<;>simp[Eff.touch,Fg,AV.nms,nmsH]
      .rw[Hq,aa]
      .have:(s2.put o.dst (.im (.tup []))).h=s2.h:=by cases o.dst<;>rfl
       rw[this,hh];simp[Eff.appf,hget]
      .have:(s2.put o.dst (.im (.tup []))).nx=s2.nx:=by cases o.dst<;>rfl
       rw[this,ab];rfl
      .intro m hm;simp[AV.nms] at hm
     obtain⟨z,s',G,h1,h2,h3⟩:=ih (i+1) _ _ _ an (by simp[hl]) g' h2;exact⟨z,s',G,by omega,h2,h3⟩
    cases d<;>try exact Q.elim
    case tup cs=>
     cases cs with
     |cons _ _=>exact Q.elim
     |nil=>
      simp only[I4,skipA] at Q;exact ac s (λ_=>rfl) rfl rfl (by rw[hg];exact⟨t,ht,.inr ⟨hb,rfl⟩⟩) Q
    case bool b=>
    simp only[I4] at Q;have aa: ∀b':Bool,b=b'-> ∀t',tget (s.put (some t) (.im (.bool b'))).tm t'=tget s.tm t':=by
     intro b' as t';subst as;rw[Hq];split
     .rename_i h;cases h;exact hb.symm
     .rfl
    by_cases ad:b=O
    .refine ak (s.put (some t) (.im (.bool O))) (aa O ad) rfl rfl ?_ (Q.1 ad);rw[hg];exact⟨t,ht,.inl ⟨b,by rw[aa O ad,hb],by simp[ad]⟩⟩
    .have ag:b= !O:=by cases b<;>cases O<;>simp_all
     have h2:=Q.2 ag;simp only[skipA] at h2;refine ac (s.put (some t) (.im (.bool (!O)))) (aa _ ag) rfl rfl ?_ h2;rw[hg];exact⟨t,ht,.inl ⟨b,hb,by simp[ag]⟩⟩
end
def stGo(ops:Array Oper)(cl:List (List Nat)):List Oper->Nat->List (Nat×Oper)->Bool
 |[],_,_=>true
 |o::r,j,acc=>(o.after.toList.all λe=> !bnd e.ground||Nat.blt e.on j) && (acc.all (λp=>ordB cl p.1 j||p.2.apart ops o) && stGo ops cl r (j+1) ((j,o)::acc))
def stOk(ops:Array Oper):Bool:=stGo ops (Cl ops.toList []) ops.toList 0 []
def WM(e:Edge):Region.binds .any e=bnd e.ground:=by
 unfold Region.binds;cases e.ground<;>rfl
structure StOk(ops:Array Oper)(cl:List (List Nat)):Prop where
 lo: ∀(j:Nat) (o:Oper),ops[j]? =some o-> ∀e∈o.after.toList,bnd e.ground=true->e.on<j
 ap: ∀(i j:Nat) (x y:Oper),i<j->ops[i]? =some x->ops[j]? =some y->ordB cl i j=true\/x.apart ops y=true
def stGo_spec{ops:Array Oper}{cl:List (List Nat)}: ∀(rest:List Oper) (j:Nat) (acc:List (Nat×Oper)),ops.toList.drop j=rest->(∀i x,i<j->ops[i]? =some x->(i,x)∈acc)->stGo ops cl rest j acc=true->
 (∀(k:Nat) (o:Oper),j<=k->ops[k]? =some o-> ∀e∈o.after.toList,bnd e.ground=true->e.on<k)/\
 (∀(i k:Nat) (x y:Oper),j<=k->i<k->ops[i]? =some x->ops[k]? =some y->ordB cl i k=true\/x.apart ops y=true):=by
 intro rest;induction rest with
 |nil=>
  intro j acc hd _ _;have hs:ops.size<=j:=by
   have:=Bx List.length hd
   simp at this;omega
  refine⟨λk o hk ho=> ?_,λi k x y hk _ _ Z=> ?_⟩
  .have:=(Hi.1 ho).1;omega
  .have:=(Hi.1 Z).1;omega
 |cons o rest ih=>
  intro j acc hd z hs;have G:ops[j]? =some o:=by
   have:(ops.toList.drop j)[0]? =some o:=by rw[hd];rfl
   simpa using this
  have aa:ops.toList.drop (j+1)=rest:=by
   have:(ops.toList.drop j).drop 1=rest:=by rw[hd];rfl
   rwa [Cj] at this
  simp only[stGo,Av,BE,Dy,EX,Ch] at hs;obtain⟨h1,h2,h3⟩:=hs;obtain⟨r1,r2⟩:=ih (j+1) ((j,o)::acc) aa (by
   intro i x hi O;rcases Cz i j with h|h
   .exact AX _ (z i x h O)
   .have:i=j:=by omega
    subst this;rw[G] at O;cases O;exact AU) h3
  refine⟨λk p hk hp=> ?_,λi k x y hk Q O Z=> ?_⟩
  .rcases Cz j k with h|h
   .exact r1 k p h hp
   .have:k=j:=by omega
    subst this;rw[G] at hp;cases hp;intro e he hb;rcases h1 e he with h|h
    .rw[h] at hb;cases hb
    .exact h
  .rcases Cz j k with h|h
   .exact r2 i k x y h Q O Z
   .have:k=j:=by omega
    subst this;rw[G] at Z;cases Z;exact h2 (i,x) (z i x Q O)
def stOk_spec{ops:Array Oper}(h:stOk ops=true):StOk ops (Cl ops.toList []):=by
 obtain⟨G,O⟩:=stGo_spec (cl:=Cl ops.toList []) ops.toList 0 [] rfl (by intro i x hi;omega) h;exact⟨λj o Q=>G j o (Bj _) Q,λi j x y z Z hy=>O i j x y (Bj _) z Z hy⟩
def nthL_app(a b:List (List Nat)): ∀(k:Nat),k<a.length->nthL (a++b) k=nthL a k:=by
 induction a with
 |nil=>intro k z;simp at z
 |cons x a ih=>
  intro k z;cases k with
  |zero=>rfl
  |succ k=>exact ih k (by simpa using z)
def nthL_at(a:List (List Nat))(x:List Nat)(b:List (List Nat)):nthL (a++x::b) a.length=x:=by
 induction a with
 |nil=>rfl
 |cons y a ih=>exact ih
def MU: ∀(a:List (List Nat)) (k:Nat),a.length<=k->nthL a k=[]
 |[],_,_=>rfl
 |_::a,0,h=>by simp at h
 |_::a,k+1,h=>MU a k (by simpa using h)
def SU: ∀(rest:List Oper) (acc:List (List Nat)) (k:Nat),k<acc.length->nthL (Cl rest acc) k=nthL acc k
 |[],_,_,_=>rfl
 |o::r,acc,k,h=>by
  simp only[Cl];rw[SU r _ k (by simp;omega),nthL_app _ _ _ h]
def Xy: ∀(rest:List Oper) (acc:List (List Nat)) (k:Nat) (o:Oper),rest[k]? =some o-> ∃z:List (List Nat),z.length=acc.length+k/\(∀m,m<z.length->nthL z m=nthL (Cl rest acc) m)/\
 nthL (Cl rest acc) (acc.length+k)=cloE z o.after.toList
 |[],_,k,o,h=>by simp at h
 |x::r,acc,0,o,h=>by
  obtain rfl:x=o:=by simpa using h
  refine⟨acc,rfl,λm Z=>(SU _ _ m Z).symm,?_⟩;simp only[Cl,G1];rw[SU _ _ _ (by simp),nthL_at]
 |x::r,acc,k+1,o,h=>by
  obtain⟨z,O,Q,G⟩:=Xy r (acc++[cloE acc x.after.toList]) k o (by simpa using h);simp only[B5,Bs,D0] at O G;refine⟨z,by omega,Q,?_⟩;simp only[Cl];rw[<-G];congr 1;omega
def ins_mem{x y:Nat}{l:List Nat}(h:y∈ins x l):y=x\/y∈l:=by
 unfold ins at h;cases hc:l.contains x<;>rw[hc] at h
 .simpa using h
 .exact .inr (by simpa using h)
def XS{y:Nat}: ∀(a l:List Nat),y∈insL a l->y∈a\/y∈l
 |[],_,h=> .inr h
 |x::r,l,h=>by
  rcases ins_mem h with h|h
  .exact .inl (by simp[h])
  .rcases XS r l h with h|h
   .exact .inl (by simp[h])
   .exact .inr h
def TF{acc:List (List Nat)}{i:Nat}: ∀(es:List Edge),i∈cloE acc es-> ∃e∈es,bnd e.ground=true/\(i=e.on\/i∈nthL acc e.on)
 |[],h=>by simp[cloE] at h
 |e::r,h=>by
  simp only[cloE] at h;cases hb:bnd e.ground<;>rw[hb] at h
  .obtain⟨x,G,z⟩:=TF r h;exact⟨x,by simp[G],z⟩
  .simp only[Bc] at h;have h:=XS _ _ h;simp only[A9,or_assoc] at h;rcases h with h|h|h
   .exact⟨e,by simp,hb,.inl h⟩
   .exact⟨e,by simp,hb,.inr h⟩
   .obtain⟨x,G,z⟩:=TF r h;exact⟨x,by simp[G],z⟩
def clo_mem{ops:Array Oper}{i j:Nat}{o:Oper}(ho:ops[j]? =some o)(h:i∈nthL (Cl ops.toList []) j):
 ∃e∈o.after.toList,bnd e.ground=true/\(i=e.on\/(e.on<j/\i∈nthL (Cl ops.toList []) e.on)):=by
 obtain⟨G,Z,h2,Q⟩:=Xy ops.toList [] j o (by simpa using ho);simp only[D0,CM] at Z Q;rw[Q] at h;obtain⟨e,he,hb,z⟩:=TF _ h;refine⟨e,he,hb,?_⟩;rcases z with z|z
 .exact .inl z
 .rcases Cz e.on G.length with O|O
  .exact .inr ⟨by omega,by rw[<-h2 _ O];exact z⟩
  .rw[MU _ _ O] at z;cases z
def Closed(ops:Array Oper)(D:Nat->Bool):Prop:= ∀(j:Nat) (o:Oper),D j=true->ops[j]? =some o-> ∀e∈o.after.toList,bnd e.ground=true->D e.on=true
def Wg{ops:Array Oper}{D:Nat->Bool}(hc:Closed ops D){i j:Nat}{o:Oper}(O:ops[j]? =some o)(Q: ∀e∈o.after.toList,bnd e.ground=true->D e.on=true)
 (h:ordB (Cl ops.toList []) i j=true):D i=true:=by
 have hi:i∈nthL (Cl ops.toList []) j:=by simpa[ordB] using h
 clear h;induction j using Nat.strongRecOn generalizing o with
 |_ j ih=>
  obtain⟨e,G,hb,h|⟨h,Z⟩⟩:=clo_mem O hi
  .rw[h];exact Q e G hb
  .have aa:=(Hi.1 O).1;have z:ops[e.on]? =some ops[e.on]:=EA (by omega);exact ih e.on h z (hc e.on _ (Q e G hb) z) Z
structure AtE(C:Ctx)(N:Nat)(evs:List Ev)(s0:Ac)(D:Nat->Bool)(S:Env)(a:Act):Prop where
 wf:Wf C S
 h: ∀n,S.h n=HD D evs (hget s0.h) n
 tm: ∀t,conc S (TD D evs (tget s0.tm) t) (a.eval (.tmp t))
 size:a.tmps.size=N
 defers:a.defers=C.ds
 n0:C.n0<=s0.nx
 pre:C.Pre S
section
variable {P:Program}{ops:Array Oper}{s0 s:Ac}{evs:List Ev}{acc:List Fp}{C:Ctx}{N:Nat}
def XR{E:Eff}{nx:Nat}{r:AV}(z:E.ok nx r=true):(∀m∈r.nms,m<nx+E.cnt)/\(∀n x,hget E.new n=some x->(Fr nx E.cnt n\/(n∈E.kill/\n<nx))/\ ∀m∈x.2.nms,m<nx+E.cnt):=by
 simp only[Eff.ok,Av] at z;obtain⟨O,Q,Z⟩:=z;exact⟨Pd r O,λn x G=>⟨SI _ Z n x G,KP _ Q n x G⟩⟩
def at_step(g:GT P ops (Cl ops.toList []) s0 evs s acc)(bh: ∀n e,hget s0.h n=some e->n<s0.nx/\ ∀m∈e.2.nms,m<s0.nx)(a8: ∀t,∀m∈(tget s0.tm t).nms,m<s0.nx)
 (st:StOk ops (Cl ops.toList []))(hN:E8 N ops.toList=true){D:Nat->Bool}(hc:Closed ops D){e:Ev}(he:e∈evs)(hD:D e.i=false)
 (hr: ∀x∈e.o.after.toList,bnd x.ground=true->D x.on=true){S:Env}{a:Act}(hA:AtE C N evs s0 D S a){K:Act->World->Prop}{Q:Exit->Act->World->Prop}
 (hK: ∀a' S',AtE C N evs s0 (λi=>D i||i==e.i) S' a'->K a' S'.w):wpOp P ops Q e.i K a S.w:=by
 have ag:=((g.ev e he).1).op;have bg: ∀k,ordB (Cl ops.toList []) k e.i=true->D k=true:=λk hk=>Wg hc ag hr hk
 have ay: ∀d,e.o.dst=some d->d<N:=by
  have: ∀(l:List Oper),E8 N l=true-> ∀o∈l,∀d,o.dst=some d->d<N:=by
   intro l;induction l with
   |nil=>intro _ o ho;cases ho
   |cons x l ih=>
    intro h o ho d hd;simp only[E8,Av] at h;rcases A9.1 ho with rfl|ho
    .have:=h.1
     rw[hd] at this;simpa using this
    .exact ih h.2 o ho d hd
  exact this _ hN e.o (by
   have:=XZ ag
   simpa using this)
 have aj: ∀f∈evs,D f.i≠ltB e.i f.i->(f.i<e.i/\D f.i=false/\Sep f e/\f.o.apart ops e.o=true)\/(e.i<f.i/\D f.i=true/\Sep e f/\e.o.apart ops f.o=true):=by
  intro f hf G;have ak:=((g.ev f hf).1).op;rcases P5 f.i e.i with h|h|h
  .have hl:ltB e.i f.i=true:=by simpa[ltB] using h
   have O:D f.i=false:=by
    cases hq:D f.i
    .rfl
    .rw[hq,hl] at G;exact absurd rfl G
   have ai:ordB (Cl ops.toList []) f.i e.i=false:=by
    cases hq:ordB (Cl ops.toList []) f.i e.i
    .rfl
    .have:=bg _ hq;rw[O] at this;cases this
   refine .inl ⟨h,O,?_,?_⟩
   .rcases g.pair f hf e he h with z|z
    .rw[ai] at z;cases z
    .exact z
   .rcases st.ap f.i e.i f.o e.o h ak ag with z|z
    .rw[ai] at z;cases z
    .exact z
  .have hl:ltB e.i f.i=false:=by
    rw[h];rw[G2];intro h';have:=ltB_t h';omega
   rw[hl,h,hD] at G;exact absurd rfl G
  .have hl:ltB e.i f.i=false:=by
    rw[G2];intro h';have:=ltB_t h';omega
   have O:D f.i=true:=by
    cases hq:D f.i
    .rw[hq,hl] at G;exact absurd rfl G
    .rfl
   have ai:ordB (Cl ops.toList []) e.i f.i=false:=by
    cases hq:ordB (Cl ops.toList []) e.i f.i
    .rfl
    .have:=Wg hc ak (hc f.i f.o O ak) hq
     rw[hD] at this;cases this
   refine .inr ⟨h,O,?_,?_⟩
   .rcases g.pair e he f hf h with z|z
    .rw[ai] at z;cases z
    .exact z
   .rcases st.ap e.i f.i e.o f.o h ag ak with z|z
    .rw[ai] at z;cases z
    .exact z
 have ac: ∀f∈evs,D f.i=true->f.i<e.i\/(e.i<f.i/\Sep e f/\e.o.apart ops f.o=true):=by
  intro f hf O;rcases Cz f.i e.i with h|h
  .exact .inl h
  .have hl:ltB e.i f.i=false:=by
    rw[G2];intro h';have:=ltB_t h';omega
   rcases aj f hf (by rw[O,hl];simp) with ⟨z,_⟩|⟨z,_,h2⟩
   .omega
   .exact .inr ⟨z,h2⟩
 have ba: ∀t,t∈e.o.looksAt ops->TD D evs (tget s0.tm) t=tget e.s.tm t:=by
  intro t ht;rw[g.atT e he t];refine Md evs _ _ rfl ?_;intro f hf G;rcases aj f hf G with ⟨_,_,_,h⟩|⟨_,_,_,h⟩
  .intro hd;exact (Oper.apart_spec h).1 t hd ht
  .intro hd;exact (Oper.apart_spec h).2.2 t hd ht
 have aa:evs=evs.take e.i++e::evs.drop (e.i+1):=by
  have hl:=g.lt e he;have hget:evs[e.i]? =some evs[e.i]:=A8 hl;obtain⟨k,hk,a0⟩:=Lv.1 he;have bf:=g.idx k e (by rw[A8 hk,a0]);subst bf
  conv=>lhs;rw[<-Gc e.i evs]
  rw[H6 hl,a0]
 have an: ∀f∈evs.take e.i,f∈evs/\f.i<e.i:=by
  intro f hf;refine⟨Rw hf,?_⟩;obtain⟨k,hk,as⟩:=Lv.1 hf;have bj:k<e.i:=by simp at hk;omega
  have:=g.idx k f (by
   rw[<-as,List.getElem_take];exact A8 _)
  omega
 have ab: ∀f∈evs.drop (e.i+1),f∈evs/\e.i<f.i:=by
  intro f hf;refine⟨Ym hf,?_⟩;obtain⟨k,hk,as⟩:=Lv.1 hf
  have:=g.idx (e.i+1+k) f (by
   rw[<-as,List.getElem_drop];exact A8 _)
  omega
 let D':Nat->Bool:=λi=>D i||i==e.i
 have ax:D' e.i=true:=by simp[D']
 have af: ∀f∈evs,f.i≠e.i->D f.i=D' f.i:=by
  intro f _ G
  have:(f.i==e.i)=false:=by rw[Ef];exact G
  simp[D',this]
 have bc: ∀n,HD D' evs (hget s0.h) n=e.E.appf (HD D evs (hget s0.h)) n:=by
  intro n;have e1:HD D' evs (hget s0.h)=HD D' (evs.drop (e.i+1)) (e.E.appf (HD D' (evs.take e.i) (hget s0.h))):=by
   conv=>lhs;rw[aa]
   rw[Pt];simp only[HD,ax,Bc]
  have e2:HD D evs (hget s0.h)=HD D (evs.drop (e.i+1)) (HD D (evs.take e.i) (hget s0.h)):=by
   conv=>lhs;rw[aa]
   rw[Pt];simp only[HD,hD,AM]
  have e3:HD D' (evs.take e.i) (hget s0.h)=HD D (evs.take e.i) (hget s0.h):=by
   funext m;refine Ma _ _ _ rfl ?_;intro f hf G
   have:=an f hf
   exact absurd (af f this.1 (by omega)).symm G
  rw[e1,e2,e3];by_cases hn:n∈e.E.touch
  .rw[appf_in hn (h':=HD D (evs.take e.i) (hget s0.h))];refine Um _ _ n ?_;intro f hf O;have z:=ab f hf;rw[<-af f z.1 (by omega)] at O;rcases ac f z.1 O with h2|⟨_,h2,_⟩
   .omega
   .intro au;exact h2.b n au hn
  .rw[OH hn];refine Ma _ _ _ (OH hn) ?_;intro f hf G
   have:=ab f hf
   exact absurd (af f this.1 (by omega)).symm G
 have bd: ∀t,TD D' evs (tget s0.tm) t=if e.o.dst=some t then e.r else TD D evs (tget s0.tm) t:=by
  intro t;have e1:TD D' evs (tget s0.tm)=TD D' (evs.drop (e.i+1)) (λt=>bif e.o.dst==some t then e.r else TD D' (evs.take e.i) (tget s0.tm) t):=by
   conv=>lhs;rw[aa]
   rw[Pv];simp only[TD,ax,BY]
  have e2:TD D evs (tget s0.tm)=TD D (evs.drop (e.i+1)) (TD D (evs.take e.i) (tget s0.tm)):=by
   conv=>lhs;rw[aa]
   rw[Pv];simp only[TD,hD,CA,AM]
  have e3:TD D' (evs.take e.i) (tget s0.tm)=TD D (evs.take e.i) (tget s0.tm):=by
   funext m;refine Md _ _ _ rfl ?_;intro f hf G
   have:=an f hf
   exact absurd (af f this.1 (by omega)).symm G
  rw[e1,e2,e3];by_cases hn:e.o.dst=some t
  .rw[Af hn];rw[UK]
   .simp[hn]
   .intro f hf O;have z:=ab f hf;rw[<-af f z.1 (by omega)] at O;rcases ac f z.1 O with h2|⟨_,_,h2⟩
    .omega
    .exact (Oper.apart_spec h2).2.1 t hn
  .rw[Ab hn];have hq:(e.o.dst==some t)=false:=by rw[Ef];exact hn
   refine Md _ _ _ (by simp[hq]) ?_;intro f hf G
   have:=ab f hf
   exact absurd (af f this.1 (by omega)).symm G
 have a9:s0.nx<=e.s.nx:=(g.ev e he).2.1;have ao: ∀f∈evs,D f.i=true->(∀m∈f.r.nms,¬Fr e.s.nx e.E.cnt m)/\(∀n x,hget f.E.new n=some x-> ¬Fr e.s.nx e.E.cnt n/\ ∀m∈x.2.nms,¬Fr e.s.nx e.E.cnt m):=by
  intro f hf O;rcases ac f hf O with h|⟨_,h,_⟩
  .have bl:=g.ord f hf e he h;obtain⟨av,_⟩:=g.ev f hf;cases hs:f.skip
   .obtain⟨z,h2⟩:=XR (av.doo hs).2;refine⟨λm hm Z=> ?_,λn x hx=>⟨λZ=> ?_,λm hm Z=> ?_⟩⟩
    .have:=z m hm;have:=Z.1;omega
    .have:=Z.1
     rcases (h2 n x hx).1 with h3|h3
     .have:=h3.2;omega
     .omega
    .have:=(h2 n x hx).2 m hm;have:=Z.1;omega
   .obtain⟨z,h2⟩:=av.skp hs;rw[z,h2];exact⟨by simp[AV.nms],by simp[hget]⟩
  .refine⟨λm hm=>h.d m (by simp[hm]),λn x hx=>⟨h.d n ?_,λm hm=>h.d m ?_⟩⟩
   .have:=(Ub _ hx).1
    simp[Eff.touch,this]
   .have:=(Ub _ hx).2 m hm
    simp[this]
 have az: ∀t,∀m∈(TD D evs (tget s0.tm) t).nms,¬Fr e.s.nx e.E.cnt m:=by
  intro t m hm;rcases TD_src (D:=D) (t:=t) evs (tget s0.tm) with h|⟨f,hf,O,h⟩
  .rw[h] at hm;intro Z
   have:=a8 t m hm
   have:=Z.1
   omega
  .rw[h] at hm;exact (ao f hf O).1 m hm
 have am: ∀n x,HD D evs (hget s0.h) n=some x-> ¬Fr e.s.nx e.E.cnt n/\ ∀m∈x.2.nms,¬Fr e.s.nx e.E.cnt m:=by
  intro n x hx;rcases HD_src evs (hget s0.h) hx with h|⟨f,hf,O,h⟩
  .obtain⟨z,h2⟩:=bh n x h;exact⟨λZ=>by have:=Z.1;omega,λm hm Z=>by have:=Z.1;have:=h2 m hm;omega⟩
  .exact (ao f hf O).2 n x h
 have ah: ∀v S',Wf C S'->S'.h=e.E.appf S.h->Pres (λm=> ¬Fr e.s.nx e.E.cnt m) S S'->conc S' e.r v->K (a.put e.o.dst v) S'.w:=by
  intro v S' hW hh hp hv;refine hK _ S' ⟨hW,λn=> ?_,λt=> ?_,?_,?_,hA.n0,Xx hA.pre (BK hA.n0 a9) hp⟩
  .rw[hh];exact (UG (hA.h n)).trans (bc n).symm
  .have:=bd t
   simp only[D'] at this;rw[this,PM (λd h=>by rw[hA.size];exact ay d h)];split
   .exact hv
   .exact DV hp _ _ (az t) (hA.tm t)
  .cases e.o.dst<;>simp[Act.put,hA.size]
  .cases e.o.dst<;>simp[Act.put,hA.defers]
 have aq:=(g.ev e he).1;have aw:Region.wanted e.o (yielded ops a.tmps)= !e.skip:=by
  have ad:=aq.gd;unfold Region.wanted;cases hg:e.o.guard with
  |none=>
   rw[hg] at ad;simp only[GdOk] at ad;simp[ad]
  |some gw=>
   obtain⟨q,bb⟩:=gw;rw[hg] at ad;obtain⟨t,ht,ad⟩:=ad;have be:TD D evs (tget s0.tm) t=tget e.s.tm t:=ba t (by simp[Oper.looksAt,hg,ht]);have z:=hA.tm t;rw[be] at z;rcases ad with ⟨b,hb,hs⟩|⟨hb,hs⟩
   .rw[hb] at z;simp only[conc,rd,Act.eval] at z;have hy:yielded ops a.tmps q=some b:=by
     unfold yielded;rw[ht];simp only[Ce];rw[DO] at z;cases hq:a.tmps[t]? with
     |none=>rw[hq] at z;simp[undef] at z
     |some v=>rw[hq] at z;simp at z;rw[z]
    simp only[hy,hs];cases b<;>cases bb<;>rfl
   .rw[hb] at z;simp only[conc,rd,rdl,Act.eval] at z;obtain⟨vs,z,_⟩:=z;have hy:yielded ops a.tmps q=none:=by
     unfold yielded;rw[ht];simp only[Ce];rw[DO] at z;cases hq:a.tmps[t]? with
     |none=>rfl
     |some v=>rw[hq] at z;simp at z;rw[z]
    simp only[hy,hs];rfl
 unfold wpOp;simp only[ag,aw];cases hs:e.skip
 .simp only[IS,AQ];refine .inl ?_;obtain⟨bi,av⟩:=aq.doo hs;refine bi C S a K Q hA.wf ?_ ?_ ?_ ?_ ah
  .intro n hn;rw[hA.h n,g.atH e he n];refine Ma evs _ _ rfl ?_;intro f hf G;rcases aj f hf G with ⟨_,_,h,_⟩|⟨_,_,h,_⟩
   .exact h.a n hn
   .intro au;exact h.c n au hn
  .intro n Z;cases hn:S.h n with
   |none=>rfl
   |some x=>
    rw[hA.h n] at hn;exact absurd Z (am n x hn).1
  .intro n x hx m hm;rw[hA.h n] at hx;exact (am n x hx).2 m hm
  .intro x hx;cases x with
   |tmp t=>
    simp only[evO];rw[<-ba t (by
     simp only[Oper.looksAt,AG,List.mem_filterMap];exact .inl ⟨.tmp t,by simpa using hx,rfl⟩)]
    exact hA.tm t
   |const v=>exact Kt S v
   |global g=>simp only[evO,conc,rd,Act.eval]
   |func f=>exact MF _ _ f
 .simp only[M5,B1,Bp];obtain⟨z,h2⟩:=aq.skp hs;refine ah undef S hA.wf ?_ (Pres.refl _ _) ?_
  .rw[h2];funext n;simp[Eff.appf,hget]
  .rw[z];simp only[conc,rd,rdl];exact⟨#[],rfl,rfl⟩
abbrev dn(listed:Array Bool):Nat->Bool:=λi=>listed.getD i false
def unl(listed:Array Bool):Nat:=listed.toList.countP (λb=> !b)
def dn_set{listed:Array Bool}{j:Nat}(z:j<listed.size):dn (listed.setIfInBounds j true)=λi=>dn listed i||i==j:=by
 funext i;simp only[dn];by_cases h:j=i
 .subst h;simp[z]
 .rw[getD_set_ne false h]
  have:(i==j)=false:=by rw[Ef];exact λh'=>h h'.symm
  simp[this]
def unl_set{listed:Array Bool}{j:Nat}(G:j<listed.size)(O:listed.getD j true=false):unl (listed.setIfInBounds j true)+1=unl listed:=by
 unfold unl;rw[UR];have z:j<listed.toList.length:=by simpa using G
 have Z:listed.toList[j]=false:=by
  rw[DO,EA G] at O;simpa using O
 have Q:0<listed.toList.countP (λb=> !b):=by
  rw[List.countP_pos_iff];exact⟨false,by rw[<-Z];exact Hk _,rfl⟩
 rw[List.countP_set z,Z];simp only[IS,AQ,M5,B1,Bp];omega
def RU{listed:Array Bool}(hs:listed.size=ops.size)(st:StOk ops (Cl ops.toList []))(Q:Region.ready .any ops listed=[]): ∀i,i<ops.size->dn listed i=true:=by
 intro i;induction i using Nat.strongRecOn with
 |_ i ih=>
  intro O;cases hq:dn listed i with
  |true=>rfl
  |false=>
   exfalso
   have:i∈Region.ready .any ops listed:=by
    rw[mem_ready];have z:ops[i]? =some ops[i]:=EA O;refine⟨?_,ops[i],z,?_⟩
    .simp only[dn] at hq;rw[DO,EA (by omega)] at hq⊢;simpa using hq
    .intro e G hb;rw[WM] at hb
     have:=st.lo i _ z e (by simpa using G) hb
     exact ih e.on this (by omega)
   rw[Q] at this;cases this
def any_go(g:GT P ops (Cl ops.toList []) s0 evs s acc)(aq:evs.length=ops.size)(am: ∀n e,hget s0.h n=some e->n<s0.nx/\ ∀m∈e.2.nms,m<s0.nx)(ah: ∀t,∀m∈(tget s0.tm t).nms,m<s0.nx)
 (st:StOk ops (Cl ops.toList []))(hN:E8 N ops.toList=true){Q:Exit->Act->World->Prop}(hQ: ∀a S,AtE C N evs s0 allB S a->Q .normal a S.w):
 ∀(fuel:Nat) (listed:Array Bool) (S:Env) (a:Act),unl listed<=fuel->listed.size=ops.size->Closed ops (dn listed)->AtE C N evs s0 (dn listed) S a->wpAny P .any ops Q fuel listed a S.w:=by
 have aa: ∀(listed:Array Bool) (S:Env) (a:Act),listed.size=ops.size->(∀i,i<ops.size->dn listed i=true)->AtE C N evs s0 (dn listed) S a->Q .normal a S.w:=by
  intro listed S a hs z O;refine hQ a S ⟨O.wf,λn=> ?_,λt=> ?_,O.size,O.defers,O.n0,O.pre⟩
  .rw[O.h n];refine Ma evs _ _ rfl ?_;intro f hf ac;exact absurd (z f.i (by have:=g.lt f hf;omega)) ac
  .have:TD allB evs (tget s0.tm) t=TD (dn listed) evs (tget s0.tm) t:=by
    refine Md evs _ _ rfl ?_;intro f hf ac;exact absurd (z f.i (by have:=g.lt f hf;omega)).symm ac
   rw[this];exact O.tm t
 intro fuel;induction fuel with
 |zero=>
  intro listed S a hu hs hcl O;have z: ∀i,i<ops.size->dn listed i=true:=by
   intro i hi;cases hq:dn listed i with
   |true=>rfl
   |false=>
    have:= @unl_set listed i (by omega) (by
     simp only[dn] at hq;rw[DO,EA (by omega)] at hq⊢;simpa using hq)
    omega
  refine⟨?_,aa listed S a hs z O⟩;rw[List.eq_nil_iff_forall_not_mem];intro j hj;obtain⟨h0,o,ho,_⟩:=mem_ready.1 hj;have ak:=(Hi.1 ho).1
  have:=z j ak
  simp only[dn] at this;rw[DO,EA (by omega)] at this h0;simp at this h0;rw[h0] at this;cases this
 |succ fuel ih=>
  intro listed S a hu hs hcl O;refine⟨λhr=>aa listed S a hs (RU hs st hr) O,λj hj=> ?_⟩;obtain⟨h0,o,ho,z⟩:=mem_ready.1 hj;have as:=(Hi.1 ho).1;have ag:j<evs.length:=by omega
  have G:=g.idx j evs[j] (A8 ag);have ab:evs[j]∈evs:=Hk ag;have ai:=((g.ev _ ab).1).op;rw[G,ho] at ai;have aj:dn listed j=false:=by
   simp only[dn];rw[DO,EA (by omega)] at h0⊢;simpa using h0
  have Z: ∀e∈o.after.toList,bnd e.ground=true->dn listed e.on=true:=λe he hb=>z e (by simpa using he) (by rw[WM];exact hb)
  have an:evs[j].o=o:=(Al ai).symm;have ao:=at_step g am ah st hN hcl ab (by rw[G];exact aj) (by rw[an];exact Z) O (Q:=Q) (K:=wpAny P .any ops Q fuel (listed.setIfInBounds j true)) ?_
  .rwa [G] at ao
  .intro a' S' ad;rw[G] at ad;have af:=dn_set (listed:=listed) (j:=j) (by omega);refine ih (listed.setIfInBounds j true) S' a' ?_ (by simpa using hs) ?_ (by rw[af];exact ad)
   .have:= @unl_set listed j (by omega) h0
    omega
   .rw[af];intro k p hk hp e he hb;simp only[Dy,G4] at hk⊢;rcases hk with hk|rfl
    .exact .inl (hcl k p hk hp e he hb)
    .rw[ho] at hp;cases hp;exact .inl (Z e he hb)
end
def VO{P:Program}{V:B0}(HV:D5 P V){C:Ctx}{N:Nat}{ops:Array Oper}{K:Ac->Prop}{Q:Exit->Act->World->Prop}(hQ: ∀s a w,K s->Con C N s a w->Q .normal a w)
 (hd:E8 N ops.toList=true)(ac:stOk ops=true){s:Ac}{a:Act}{w:World}(hk:rgA P V (Cl ops.toList []) (CU ops ops.toList) 0 K [] s)(hc:Con C N s a w):wpAny P .any ops Q ops.size (Array.replicate ops.size false) a {w with drawn:=w.drawn+1}:=by
 obtain⟨S,rfl,hc⟩:=hc;obtain⟨evs,s',acc,O,g,hK⟩:=tr_of_rgA HV ops.toList 0 [] s [] rfl rfl (GT.nil hc.nmT) hk;have hW:=hc.wf
 let S1:Env:={S with w:={S.w with drawn:=S.w.drawn+1}}
 have hp:Pres (λ_=>True) S S1:=⟨λb hb=>⟨hb,rfl⟩,λo _ e' ab=>⟨e',ab,rfl,rfl,rfl⟩⟩;have hA:AtE C N evs s (dn (Array.replicate ops.size false)) S1 a:=by
  have Z: ∀i,dn (Array.replicate ops.size false) i=false:=by
   intro i;simp only[dn,DO,L0]
   split<;>rfl
  refine⟨⟨hW.os,hW.tape,hW.output,hW.size,hW.keep,hW.ok0,hW.ok1,hW.oks,?_,hW.loc,hW.inj,hW.gl⟩,λn=> ?_,λt=> ?_,hc.size,hc.defers,hc.n0,hc.pre⟩
  .intro o e G;exact DU hp (λ_ _=>rfl) _ (λ_ _=>trivial) (hW.obj o e G)
  .rw[Um]
   .exact hc.h n
   .intro e _ h;rw[Z] at h;cases h
  .rw[UK]
   .exact DV hp _ _ (λ_ _=>trivial) (hc.tm t)
   .intro e _ h;rw[Z] at h;cases h
 have ad:=any_go (C:=C) (N:=N) (Q:=Q) g (by simpa using O) hc.nmH hc.nmT (stOk_spec ac) hd ?_ ops.size (Array.replicate ops.size false) S1 a (by unfold unl;exact BK List.countP_le_length (by simp)) (by simp) ?_ hA
 .exact ad
 .intro a' S' z;refine hQ s' a' S'.w hK ⟨S',rfl,z.wf,λn=> ?_,λt=> ?_,g.nmT,?_,z.size,z.defers,BK hc.n0 g.nx,z.pre⟩
  .rw[z.h n,g.h n]
  .rw[g.tm t];exact z.tm t
  .intro n e G;rw[g.h n] at G;rcases HD_src evs _ G with h|⟨f,hf,_,h⟩
   .obtain⟨h1,h2⟩:=hc.nmH n e h
    have:=g.nx
    exact⟨by omega,λm hm=>by have:=h2 m hm;omega⟩
   .obtain⟨aa,h2,h3⟩:=g.ev f hf;cases hs:f.skip
    .obtain⟨_,h5⟩:=XR (aa.doo hs).2;obtain⟨h6,h7⟩:=h5 n e h;refine⟨?_,λm hm=>by have:=h7 m hm;omega⟩;rcases h6 with h6|h6
     .have:=h6.2;omega
     .omega
    .rw[(aa.skp hs).2] at h;simp[hget] at h
 .intro j o hj _ e G hb
  have:dn (Array.replicate ops.size false) j=false:=by
   simp only[dn,DO,L0]
   split<;>rfl
  rw[this] at hj;cases hj
def Y4{P:Program}(G:P.follows .mixedOrders=true){V:B0}(O:D5 P V){C:Ctx}{N id:Nat}{ops:Array Oper}{K:Ac->Prop}{Q:Exit->Act->World->Prop}(Z: ∀s a w,K s->Con C N s a w->Q .normal a w)
 (hd:E8 N ops.toList=true)(z:stOk ops=true){s:Ac}{a:Act}{w:World}(hk:rgA P V (Cl ops.toList []) (CU ops ops.toList) 0 K [] s)(hc:Con C N s a w):(Code.region id ops true).wp P Q a w:=
 wp_region_any G (VO O Z hd z hk hc)
def chk(N:Nat):Code->Bool
 | .skip=>true
 | .region _ ops z=>E8 N ops.toList && (!z||stOk ops)
 | .seq a b=>chk N a && chk N b
 | .cond _ a b=>chk N a && chk N b
 | .block _ c=>chk N c
 | .loop c=>chk N c
 | .exit _=>true
 | .ret=>true
 |_=>false
def toQ(C:Ctx)(N:Nat)(Q:Be):Exit->Act->World->Prop
 | .normal,a,w=> ∃s,Q .normal s/\Con C N s a w
 | .exit i,a,w=> ∃s,Q (.exit i) s/\Con C N s a w
 | .ret,a,w=> ∃s,Q .ret s/\Con C N s a w
 |_,_,_=>False
def WV{s:Ac}: ∀(tm:List (Nat×AV)),subT s tm-> ∀t,tget tm t= .any\/tget tm t=tget s.tm t
 |[],_,t=> .inl rfl
 |(q,x)::tm,h,t=>by
  simp only[subT] at h;simp only[tget];cases hq:q==t
  .simpa using WV tm h.2 t
  .have:q=t:=by simpa using hq
   subst this;exact .inr (by simpa using h.1.symm)
def W1{s:Ac}: ∀(hs:Ag),subH s hs-> ∀n e,hget hs n=some e->hget s.h n=some e
 |[],_,n,e,h=>by simp[hget] at h
 |(q,x)::hs,h,n,e,z=>by
  simp only[subH] at h;simp only[hget] at z;cases hq:q==n<;>rw[hq] at z
  .exact W1 hs h.2 n e (by simpa using z)
  .have:q=n:=by simpa using hq
   subst this;simp only[Bc,An] at z;subst z;exact h.1
def O1{n:Nat}: ∀(tm:List (Nat×AV)),belT n tm=true-> ∀t,∀m∈(tget tm t).nms,m<n
 |[],_,t,m,z=>by simp[tget,AV.nms] at z
 |(q,x)::tm,h,t,m,z=>by
  simp only[belT,Av] at h;simp only[tget] at z;cases hq:q==t<;>rw[hq] at z
  .exact O1 tm h.2 t m (by simpa using z)
  .exact Pd x h.1 m (by simpa using z)
def Oy{n:Nat}: ∀(hs:Ag),Ai n hs=true-> ∀m e,hget hs m=some e->m<n
 |[],_,m,e,h=>by simp[hget] at h
 |(q,x)::hs,h,m,e,z=>by
  simp only[Ai,Av,Ch] at h;simp only[hget] at z;cases hq:q==m<;>rw[hq] at z
  .exact Oy hs h.2 m e (by simpa using z)
  .have:q=m:=by simpa using hq
   omega
def Mm{C:Ctx}{N:Nat}{s s':Ac}{a:Act}{w:World}(hc:Con C N s a w)(hs:sub s s')(hg:s'.good=true)(ad:C.n0<=s'.nx):Con C N s' a w:=by
 obtain⟨S,rfl,hc⟩:=hc;obtain⟨hT,hH⟩:=hs;simp only[Ac.good,Av] at hg;obtain⟨Z,aa,ab⟩:=hg;have z: ∀n e,hget s'.h n=some e->S.h n=some e:=λn e O=>(hc.h n).trans (W1 _ hH n e O)
 have hp:Pres (λ_=>True) S {S with h:=hget s'.h}:=⟨λb hb=>⟨hb,rfl⟩,λo _ e' G=>⟨e',z o e' G,rfl,rfl,rfl⟩⟩;have hW:=hc.wf;refine⟨{S with h:=hget s'.h},rfl,⟨hW.os,hW.tape,hW.output,hW.size,hW.keep,hW.ok0,hW.ok1,hW.oks,?_,?_,?_,hW.gl⟩,λn=>rfl,?_,O1 _ Z,?_,hc.size,hc.defers,ad,?_⟩
 .intro o e O;exact DU hp (λ_ _=>rfl) _ (λ_ _=>trivial) (hW.obj o e (z o e O))
 .intro o e l O hl;exact hW.loc o e l (z o e O) hl
 .intro o o' e e' l l' O G hl ac hb Q;exact hW.inj o o' e e' l l' (z o e O) (z o' e' G) hl ac hb Q
 .intro t;rcases WV _ hT t with h|h
  .rw[h];simp only[conc]
  .rw[h];exact DV hp _ _ (λ_ _=>trivial) (hc.tm t)
 .intro n e O;exact⟨Oy _ ab n e O,KP _ aa n e O⟩
 .intro o ho e' G;exact hc.pre o ho e' (z o e' G)
def pm_ge{lo:Nat}: ∀(π:List (Nat×Option Nat)),geP lo π-> ∀n,n<lo->pm π n=some n
 |[],_,n,_=>rfl
 |(a,b)::r,h,n,hn=>by
  simp only[geP] at h;simp only[pm];rw[Ab (by omega)];exact pm_ge r h.2 n hn
section
variable {S S':Env}{π:List (Nat×Option Nat)}
mutual
def UF(ab:S'.ok=S.ok)(aa:S'.hp=S.hp)(hρ: ∀n m,pm π n=some m->S'.ρ n=S.ρ m)(hρ0: ∀n,pm π n=none->S'.ρ n=none)
 (Z: ∀n m,pm π n=some m-> ∀e',S'.h n=some e'-> ∃e,S.h m=some e/\e.2.esz=e'.2.esz/\e.2.len=e'.2.len): ∀(x' x:AV) (v:Value),mt π x' x->conc S x v->conc S' x' v
 | .any,_,_,_,_=>by simp only[conc]
 | .im d,x,v,h,hc=>by
   simp only[mt] at h;subst h;simp only[conc,ab,aa] at hc⊢;exact hc
 | .own n,x,v,h,hc=>by
   simp only[mt] at h;cases hp:pm π n with
   |some m=>
    rw[hp] at h;simp only[ownM] at h;subst h;simp only[conc] at hc⊢;refine⟨hc.1,λe' z=> ?_⟩;obtain⟨e,G,O,Q⟩:=Z n m hp e' z;rw[hρ n m hp,<-Q];exact hc.2 e G
   |none=>
    rw[hp] at h;simp only[ownM] at h;unfold nilA at h;split at h
    .simp only[conc,rd] at hc;have hv:v= .slice none 0 0:=by
      rcases hc with hc|⟨_,_,_,_,_,_,_,O,_⟩
      .exact QL hc.1
      .exact absurd rfl (O trivial)
     subst hv;simp only[conc];refine⟨rfl,λe' z=> ?_⟩;rw[hρ0 n hp];trivial
    .exact h.elim
 | .ptr n p,x,v,h,hc=>by
   simp only[mt] at h;cases hp:pm π n with
   |none=>rw[hp] at h;exact h.elim
   |some m=>
    rw[hp] at h;simp only[Dv] at h;subst h;simp only[conc] at hc⊢;refine⟨hc.1,λe' z=> ?_⟩;obtain⟨e,G,O,Q⟩:=Z n m hp e' z;rw[hρ n m hp];exact hc.2 e G
 | .eptr n i p,x,v,h,hc=>by
   simp only[mt] at h;cases hp:pm π n with
   |none=>rw[hp] at h;exact h.elim
   |some m=>
    rw[hp] at h;simp only[Dv] at h;subst h;simp only[conc] at hc⊢;refine⟨hc.1,λe' z=> ?_⟩;obtain⟨e,G,O,Q⟩:=Z n m hp e' z;rw[hρ n m hp,<-O];exact hc.2 e G
 | .mp n,x,v,h,hc=>by
   simp only[mt] at h;cases hp:pm π n with
   |none=>rw[hp] at h;exact h.elim
   |some m=>
    rw[hp] at h;simp only[Dv] at h;subst h;simp only[conc] at hc⊢;refine⟨hc.1,λe' z=> ?_⟩;obtain⟨e,G,O,Q⟩:=Z n m hp e' z;rw[hρ n m hp];exact hc.2 e G
 | .ch n,x,v,h,hc=>by
   simp only[mt] at h;cases hp:pm π n with
   |none=>rw[hp] at h;exact h.elim
   |some m=>
    rw[hp] at h;simp only[Dv] at h;subst h;simp only[conc] at hc⊢;refine⟨hc.1,λe' z=> ?_⟩;obtain⟨e,G,O,Q⟩:=Z n m hp e' z;rw[hρ n m hp];exact hc.2 e G
 | .it n,x,v,h,hc=>by
   simp only[mt] at h;cases hp:pm π n with
   |none=>rw[hp] at h;exact h.elim
   |some m=>
    rw[hp] at h;simp only[Dv] at h;subst h;simp only[conc] at hc⊢;refine⟨hc.1,λe' z=> ?_⟩;obtain⟨e,G,O,Q⟩:=Z n m hp e' z;rw[hρ n m hp];exact hc.2 e G
 | .osl n a k,x,v,h,hc=>by
   simp only[mt] at h;cases hp:pm π n with
   |none=>rw[hp] at h;exact h.elim
   |some m=>
    rw[hp] at h;simp only[Dv] at h;subst h;simp only[conc] at hc⊢;refine⟨hc.1,λe' z=> ?_⟩;obtain⟨e,G,O,Q⟩:=Z n m hp e' z;rw[hρ n m hp,<-O,<-Q];exact hc.2 e G
 | .agg cs,x,v,h,hc=>by
   have ac: ∀ds,mtL π cs ds->conc S (.agg ds) v->conc S' (.agg cs) v:=by
    intro ds h hc;simp only[conc] at hc⊢;obtain⟨vs,rfl,G⟩:=hc;exact⟨vs,rfl,Ue ab aa hρ hρ0 Z cs ds _ h G⟩
   cases x<;>try (simp only[mt] at h;done)
   case agg ds=>
    simp only[mt] at h;exact ac ds h hc
   case im d=>
    cases d<;>try (simp only[mt] at h;done)
    rename_i ds;simp only[mt] at h;refine ac _ h ?_;simp only[conc,rd] at hc⊢;obtain⟨vs,rfl,G⟩:=hc;exact⟨vs,rfl,(Eh _ _).2 G⟩
 | .tup cs,x,v,h,hc=>by simp only[mt] at h
 | .clo f a c,x,v,h,hc=>by simp only[mt] at h
def Ue(G:S'.ok=S.ok)(z:S'.hp=S.hp)(hρ: ∀n m,pm π n=some m->S'.ρ n=S.ρ m)(hρ0: ∀n,pm π n=none->S'.ρ n=none)
 (Q: ∀n m,pm π n=some m-> ∀e',S'.h n=some e'-> ∃e,S.h m=some e/\e.2.esz=e'.2.esz/\e.2.len=e'.2.len): ∀(O xs:List AV) (vs:List Value),mtL π O xs->Ap S xs vs->Ap S' O vs
 |[],[],vs,h,hc=>by simpa only[Ap] using hc
 |x::r,y::s,vs,h,hc=>by
  simp only[mtL] at h;simp only[Ap] at hc⊢;obtain⟨v,w,rfl,Z,h2⟩:=hc;exact⟨v,w,rfl,UF G z hρ hρ0 Q x y v h.1 Z,Ue G z hρ hρ0 Q r s w h.2 h2⟩
 |[],_::_,vs,h,_=>by simp only[mtL] at h
 |_::_,[],vs,h,_=>by simp only[mtL] at h
end
end
def UE{π:List (Nat×Option Nat)}: ∀{a b:List (List AV)},mtR π a b->b.length=a.length
 |[],[],_=>rfl
 |_::_,_::_,h=>by simp[UE h.2]
 |[],_::_,h=>h.elim
 |_::_,[],h=>h.elim
def mtL_len{π:List (Nat×Option Nat)}: ∀{a b:List AV},mtL π a b->b.length=a.length
 |[],[],_=>rfl
 |_::_,_::_,h=>by simp only[mtL] at h;simp[mtL_len h.2]
 |[],_::_,h=>by simp only[mtL] at h
 |_::_,[],h=>by simp only[mtL] at h
def U6{π:List (Nat×Option Nat)}{e' e:AObj}(h:mtE π e' e):e.esz=e'.esz/\e.len=e'.len/\e.isView=e'.isView:=by
 cases e'<;>cases e<;>simp only[mtE,reduceCtorEq,AObj.arr.injEq,AObj.map.injEq,AObj.chan.injEq,AObj.iter.injEq,AObj.view.injEq] at h
 all_goals first
  |exact⟨rfl,rfl,rfl⟩
  |(obtain⟨rfl,rfl,rfl⟩:=h;exact⟨rfl,rfl,rfl⟩)
  |(obtain⟨rfl,rfl,h⟩:=h;exact⟨rfl,by simpa[AObj.len,imR] using UE h,rfl⟩)
  |(obtain⟨rfl,rfl⟩:=h;exact⟨rfl,rfl,rfl⟩)
def mtE_obj{S S':Env}{π:List (Nat×Option Nat)}(ab:S'.ok=S.ok)(G:S'.hp=S.hp)(hρ: ∀n m,pm π n=some m->S'.ρ n=S.ρ m)(hρ0: ∀n,pm π n=none->S'.ρ n=none)
 (hh: ∀n m,pm π n=some m-> ∀e',S'.h n=some e'-> ∃e,S.h m=some e/\e.2.esz=e'.2.esz/\e.2.len=e'.2.len){l:Option Loc}{e' e:AObj}(h:mtE π e' e)(O:objc S l e):objc S' l e':=by
 have hp:Pres (λ_=>False) S S':=⟨λb hb=>⟨by rw[ab];exact hb,by rw[G]⟩,λo h=>h.elim⟩;cases e' with
 |cells T cs=>
  cases e<;>simp only[mtE] at h;obtain⟨rfl,h⟩:=h;simp only[objc] at O⊢;obtain⟨lc,vs,h1,Q,h3,h4⟩:=O;exact⟨lc,vs,h1,Q,by rw[G];exact h3,Ue ab G hρ hρ0 hh _ _ _ h h4⟩
 |arrA T k rows=>
  have hR: ∀(Z rs:List (List AV)) (vs:List Value),mtR π Z rs->AN S k rs vs->AN S' k Z vs:=by
   intro Z;induction Z with
   |nil=>intro rs vs _ _;simp only[AN]
   |cons x r ih=>
    intro rs vs h hc;cases rs with
    |nil=>exact h.elim
    |cons y s=>
     simp only[AN] at hc⊢;have hP: ∀(xs ys:List AV) (vs:List Value),mtL π xs ys->Bg S ys vs->Bg S' xs vs:=by
      intro xs;induction xs with
      |nil=>intro ys vs _ _;simp only[Bg]
      |cons a l ac=>
       intro ys vs h hc;cases ys with
       |nil=>simp only[mtL] at h
       |cons b t=>
        simp only[mtL] at h;simp only[Bg] at hc⊢;obtain⟨v,w,rfl,h1,Q⟩:=hc;exact⟨v,w,rfl,UF ab G hρ hρ0 hh a b v h.1 h1,ac t w h.2 Q⟩
     exact⟨by rw[<-hc.1];exact (mtL_len h.1).symm,hP _ _ _ h.1 hc.2.1,ih s _ h.2 hc.2.2⟩
  have aa: ∀(z:List (List AV)),mtR π rows z->objc S l (.arrA T k z)->objc S' l (.arrA T k rows):=by
   intro z h O;simp only[objc] at O⊢;rw[<-UE h];refine⟨O.1,?_⟩;cases l with
   |none=>
    have Q:=O.2;simp only at Q;subst Q;cases rows with
    |nil=>rfl
    |cons x r=>exact h.elim
   |some lc=>
    obtain⟨h0,h1,vs,Q,h3,h4⟩:=O;exact⟨h1,vs,by rw[G];exact Q,h3,hR _ _ _ h h4⟩
  cases e<;>simp only[mtE] at h
  case arrA U k' z=>
   obtain⟨rfl,rfl,h⟩:=h;exact aa z h O
  case arr U k' z=>
   obtain⟨rfl,rfl,h⟩:=h;refine aa (imR z) h ?_;simp only[objc] at O⊢;rw[show (imR z).length=z.length by simp[imR]];refine⟨O.1,?_⟩;cases l with
   |none=>have Q:=O.2;simp only at Q;subst Q;rfl
   |some lc=>
    obtain⟨h0,h1,vs,Q,h3,h4⟩:=O;exact⟨h1,vs,Q,h3,LW _ _ h4⟩
 |arr T k rows=>
  simp only[mtE] at h;subst h;exact DU hp (λlc _=>by rw[G]) _ (by simp[AObj.nms]) O
 |map kt es=>
  simp only[mtE] at h;subst h;exact DU hp (λlc _=>by rw[G]) _ (by simp[AObj.nms]) O
 |chan q c=>
  simp only[mtE] at h;subst h;exact DU hp (λlc _=>by rw[G]) _ (by simp[AObj.nms]) O
 |iter q0 q=>
  simp only[mtE] at h;subst h;exact DU hp (λlc _=>by rw[G]) _ (by simp[AObj.nms]) O
 |view q=>
  simp only[mtE] at h;subst h;exact DU hp (λlc _=>by rw[G]) _ (by simp[AObj.nms]) O
def MB{π:List (Nat×Option Nat)}: ∀(H:Ag),nodS (imP π H)=true-> ∀n n' e e' m,hget H n=some e->hget H n'=some e'->pm π n=some m->pm π n'=some m->n=n'
 |[],_,n,n',e,e',m,h,_,_,_=>by simp[hget] at h
 |(q,x)::H,hn,n,n',e,e',m,h,h',hp,hp'=>by
  have Q: ∀n e,hget H n=some e-> ∀m,pm π n=some m->some m∈imP π H:=by
   intro n e;clear hn h h' hp hp';induction H with
   |nil=>intro h;simp[hget] at h
   |cons y H ih=>
    obtain⟨q',z⟩:=y;intro h m hm;simp only[hget] at h;simp only[imP,A9];cases hq:q'==n<;>rw[hq] at h
    .exact .inr (ih (by simpa using h) m hm)
    .have:q'=n:=by simpa using hq
     subst this;exact .inl hm.symm
  have Z:nodS (imP π H)=true:=by
   simp only[imP] at hn;cases hq:pm π q<;>rw[hq] at hn<;>simp only[nodS,Av] at hn
   .exact hn
   .exact hn.2
  simp only[hget] at h h';by_cases O:q=n<;>by_cases G:q=n'
  .rw[<-O,<-G]
  .subst O
   have:(q==n')=false:=by simpa using G
   rw[this] at h';have hm:=Q n' e' (by simpa using h') m hp';simp only[imP,hp,nodS,Av,EX] at hn
   have:=hn.1
   rw[DQ.2 hm] at this;cases this
  .subst G
   have:(q==n)=false:=by simpa using O
   rw[this] at h;have hm:=Q n e (by simpa using h) m hp;simp only[imP,hp',nodS,Av,EX] at hn
   have:=hn.1
   rw[DQ.2 hm] at this;cases this
  .have h1:(q==n)=false:=by simpa using O
   have h2:(q==n')=false:=by simpa using G
   rw[h1] at h;rw[h2] at h';exact MB H Z n n' e e' m (by simpa using h) (by simpa using h') hp hp'
def SH{π:List (Nat×Option Nat)}{s:Ac}: ∀(H:Ag),Dw π s H-> ∀n e',hget H n=some e'->entN s π e'.1 e'.2 (pm π n)
 |[],_,n,e',h=>by simp[hget] at h
 |(q,(G,x))::H,z,n,e',h=>by
  simp only[Dw] at z;simp only[hget] at h;cases hq:q==n<;>rw[hq] at h
  .exact SH H z.2 n e' (by simpa using h)
  .have:q=n:=by simpa using hq
   subst this;simp only[Bc,An] at h;subst h;exact z.1
def Wi{π:List (Nat×Option Nat)}{s:Ac}: ∀(T:List (Nat×AV)),Gx π s T-> ∀t,tget T t= .any\/mt π (tget T t) (tget s.tm t)
 |[],_,t=> .inl rfl
 |(q,x)::T,z,t=>by
  simp only[Gx] at z;simp only[tget];cases hq:q==t
  .simpa using Wi T z.2 t
  .have:q=t:=by simpa using hq
   subst this;exact .inr (by simpa using z.1)
def GO{C:Ctx}{N lo:Nat}{π:List (Nat×Option Nat)}{s s':Ac}{a:Act}{w:World}(hc:Con C N s a w)(hs:subP lo π s s')(hg:s'.good=true)(ao:C.n0<=lo)(am:C.n0<=s'.nx):Con C N s' a w:=by
 obtain⟨S,rfl,hc⟩:=hc;obtain⟨ak,ac,hT,hH⟩:=hs;simp only[Ac.good,Av] at hg;obtain⟨ah,ai,aj⟩:=hg
 let S':Env:=⟨λn=>match pm π n with
  |some m=>S.ρ m
  |none=>none,S.ok,hget s'.h,S.w⟩
 have hρ: ∀n m,pm π n=some m->S'.ρ n=S.ρ m:=by intro n m h;simp only[S',h]
 have hρ0: ∀n,pm π n=none->S'.ρ n=none:=by intro n h;simp only[S',h]
 have O: ∀n m,pm π n=some m-> ∀e',S'.h n=some e'-> ∃e,S.h m=some e/\e.1=e'.1/\mtE π e'.2 e.2:=by
  intro n m hp e' z;have G:=SH _ hH n e' z;rw[hp] at G;simp only[entN] at G;cases hx:hget s.h m with
  |none=>rw[hx] at G;exact G.elim
  |some e=>
   obtain⟨mu,e⟩:=e;rw[hx] at G;exact⟨(mu,e),(hc.h m).trans hx,G.1,G.2⟩
 have hh: ∀n m,pm π n=some m-> ∀e',S'.h n=some e'-> ∃e,S.h m=some e/\e.2.esz=e'.2.esz/\e.2.len=e'.2.len:=by
  intro n m hp e' z;obtain⟨e,G,_,Z⟩:=O n m hp e' z;obtain⟨h3,h4,_⟩:=U6 Z;exact⟨e,G,h3,h4⟩
 have hW:=hc.wf;refine⟨S',rfl,⟨hW.os,hW.tape,hW.output,hW.size,hW.keep,hW.ok0,hW.ok1,hW.oks,?_,?_,?_,hW.gl⟩,λn=>rfl,?_,O1 _ ah,?_,hc.size,hc.defers,am,?_⟩
 .intro n e' z;cases hp:pm π n with
  |some m=>
   obtain⟨e,G,_,Z⟩:=O n m hp e' z;rw[hρ n m hp];exact mtE_obj (S:=S) (S':=S') rfl rfl hρ hρ0 hh Z (hW.obj m e G)
  |none=>
   have G:=SH _ hH n e' z;rw[hp] at G;simp only[entN] at G;rw[hρ0 n hp];obtain⟨mu,e'⟩:=e';unfold nilE at G;split at G
   .rename_i ab Q;simp only at Q;subst Q;simp[objc]
   .rename_i ab Q;simp only at Q;subst Q;simp[objc]
   .exact G.elim
 .intro n e' l z hl;cases hp:pm π n with
  |none=>rw[hρ0 n hp] at hl;cases hl
  |some m=>
   obtain⟨e,G,Z,h3⟩:=O n m hp e' z;rw[hρ n m hp] at hl
   have:=hW.loc m e l G hl
   rw[<-Z,<-(U6 h3).2.2];exact this
 .intro n n' e e' l l' he z hl aa hb ag;cases hp:pm π n with
  |none=>rw[hρ0 n hp] at hl;cases hl
  |some m=>
   cases hp':pm π n' with
   |none=>rw[hρ0 n' hp'] at aa;cases aa
   |some m'=>
    obtain⟨x,G,Z,h3⟩:=O n m hp e he;obtain⟨x',ad,af,an⟩:=O n' m' hp' e' z;rw[hρ n m hp] at hl;rw[hρ n' m' hp'] at aa
    have:=hW.inj m m' x x' l l' G ad hl aa hb (by rw[Z,af];exact ag)
    subst this;exact MB _ ac n n' e e' m he z hp hp'
 .intro t;rcases Wi _ hT t with h|h
  .rw[h];simp only[conc]
  .exact UF (S:=S) (S':=S') rfl rfl hρ hρ0 hh _ _ _ h (hc.tm t)
 .intro n e he;exact⟨Oy _ aj n e he,KP _ ai n e he⟩
 .intro o ho e' z;have hp:=pm_ge π ak o (by omega);obtain⟨e,G,_,Z⟩:=O o o hp e' z;obtain⟨e0,g1,g2,g3,g4⟩:=hc.pre o ho e G;obtain⟨h3,h4,_⟩:=U6 Z;exact⟨e0,g1,(hρ o o hp).trans g2,h3.symm.trans g3,h4.symm.trans g4⟩
def OC(F:List Nat): ∀(H:Ag) (n:Nat),hget (frzH F H) n=(hget H n).map λe=>(e.1 && !F.contains n,e.2)
 |[],n=>rfl
 |(q,(z,e))::H,n=>by
  simp only[frzH,hget];cases hq:q==n
  .simpa using OC F H n
  .have:q=n:=by simpa using hq
   subst this;rfl
def U5{C:Ctx}{N:Nat}(F:List Nat){s:Ac}{a:Act}{w:World}(hc:Con C N s a w):Con C N (frzS F s) a w:=by
 obtain⟨S,rfl,hc⟩:=hc;have hp:=DI S (λn=> !F.contains n);refine⟨S.ice (λn=> !F.contains n),rfl,Hv hc.wf,λn=> ?_,λt=>DV hp _ _ (λ_ _=>trivial) (hc.tm t),hc.nmT,?_,hc.size,hc.defers,hc.n0,?_⟩
 .show (S.h n).map _=hget (frzH F s.h) n;rw[OC,hc.h n]
 .intro n e z;have z:hget (frzH F s.h) n=some e:=z;rw[OC] at z;simp only[BF] at z;obtain⟨x,Z,rfl⟩:=z;exact hc.nmH n x Z
 .intro o Q e' G;obtain⟨e,O,rfl⟩:=Hr G;exact hc.pre o Q e O
mutual
def fzA_nms(F:List Nat)(H:Ag): ∀(x:AV),∀m∈(x.fzA F H).nms,m∈x.nms
 | .own n,m,z=>by
   simp only[AV.fzA] at z;cases hF:F.contains n<;>rw[hF] at z
   .simpa using z
   .simp only[Bc] at z;cases hh:hget H n with
    |none=>rw[hh] at z;simpa[ownD] using z
    |some e=>
     obtain⟨O,e⟩:=e;rw[hh] at z;cases e<;>simp only[ownD,objD] at z<;>first|exact z|(simp[AV.nms] at z)
 | .agg G,m,z=>by
   simp only[AV.fzA,AV.nms] at z⊢;exact Q7 F H G m z
 | .any,m,z=>by simpa only[AV.fzA] using z
 | .im d,m,z=>by simpa only[AV.fzA] using z
 | .tup G,m,z=>by simpa only[AV.fzA] using z
 | .ptr o p,m,z=>by simpa only[AV.fzA] using z
 | .eptr o i p,m,z=>by simpa only[AV.fzA] using z
 | .mp o,m,z=>by simpa only[AV.fzA] using z
 | .ch o,m,z=>by simpa only[AV.fzA] using z
 | .it o,m,z=>by simpa only[AV.fzA] using z
 | .osl o a n,m,z=>by simpa only[AV.fzA] using z
 | .clo f a c,m,z=>by simpa only[AV.fzA] using z
def Q7(F:List Nat)(H:Ag): ∀(xs:List AV),∀m∈nmsL (fzAL F H xs),m∈nmsL xs
 |[],m,z=>by simpa[fzAL] using z
 |x::r,m,z=>by
  simp only[fzAL,nmsL,AG] at z⊢;exact z.imp (fzA_nms F H x m) (Q7 F H r m)
end
def MH(F:List Nat)(H:Ag): ∀(xs:List (List AV)),∀m∈nmsR (fzAR F H xs),m∈nmsR xs
 |[],m,z=>by simpa[fzAR] using z
 |x::r,m,z=>by
  simp only[fzAR,nmsR,AG] at z⊢;exact z.imp (Q7 F H x m) (MH F H r m)
def fzAO_nms(F:List Nat)(H:Ag)(e:AObj): ∀m∈(e.fzA F H).nms,m∈e.nms:=by
 intro m z;cases e<;>simp only[AObj.fzA,AObj.nms] at z⊢ <;>try exact z
 .exact Q7 F H _ m z
 .exact MH F H _ m z
def T4(F:List Nat)(H:Ag): ∀(xs:List (List AV)),(fzAR F H xs).length=xs.length
 |[]=>rfl
 |x::r=>by simp only[fzAR,Bs,T4 F H r]
def XN(F:List Nat)(H:Ag): ∀(xs:List AV),(fzAL F H xs).length=xs.length
 |[]=>rfl
 |x::r=>by simp only[fzAL,Bs,XN F H r]
def TY(F:List Nat)(H:Ag)(e:AObj):(e.fzA F H).esz=e.esz/\(e.fzA F H).len=e.len/\(e.fzA F H).isView=e.isView:=by
 cases e<;>simp[AObj.fzA,AObj.esz,AObj.len,AObj.isView,T4]
def T5(F:List Nat)(H:Ag): ∀(T:List (Nat×AV)) (t:Nat),tget (fzAT F H T) t=(tget T t).fzA F H
 |[],t=>by simp only[fzAT,tget,AV.fzA]
 |(q,x)::T,t=>by
  simp only[fzAT,tget];cases hq:q==t
  .simpa using T5 F H T t
  .rfl
def TO(F:List Nat)(H0:Ag): ∀(H:Ag) (n:Nat),hget (fzAH F H0 H) n=(hget H n).map λe=>(e.1 && !F.contains n,e.2.fzA F H0)
 |[],n=>rfl
 |(q,(z,e))::H,n=>by
  simp only[fzAH,hget];cases hq:q==n
  .simpa using TO F H0 H n
  .have:q=n:=by simpa using hq
   subst this;rfl
section
variable {C:Ctx}{S:Env}{F:List Nat}{H:Ag}(hW:Wf C S)(hH: ∀n e,F.contains n=true->hget H n=some e->S.h n=some (false,e.2))
include hW hH
def ownD_conc{n:Nat}{v:Value}(hF:F.contains n=true)(h:conc S (.own n) v):conc S (ownD n (hget H n)) v:=by
 cases hh:hget H n with
 |none=>exact h
 |some e=>
  have G:=hH n e hF hh;obtain⟨mu,e⟩:=e;cases e<;>simp only[ownD,objD]<;>try exact h
  rename_i U w rows;simp only[conc] at h⊢;have Q:=h.2 _ G;have z:=hW.obj n _ G;have Z:=λl=>hW.loc n _ l G
  simp only[objc] at z;simp only[rd];cases hl:S.ρ n with
  |none=>
   rw[hl] at Q z;exact .inl ⟨.inl Q,z.2⟩
  |some l=>
   rw[hl] at Q z;have O:=(Z l hl).2;simp only[AObj.isView,B1,LD,Bp] at O;obtain⟨g0,g1,vs,g2,g3,g4⟩:=z;exact .inr ⟨l.b,l.p,l.cap,vs,U,(0,0),Q,by simp,g1,g0,O,g2,g4⟩
mutual
def TT: ∀(x:AV) (v:Value),conc S x v->conc S (x.fzA F H) v
 | .own n,v,h=>by
   simp only[AV.fzA];cases hF:F.contains n
   .exact h
   .exact ownD_conc hW hH hF h
 | .agg z,v,h=>by
   simp only[AV.fzA,conc] at h⊢;obtain⟨G,rfl,h⟩:=h;exact⟨G,rfl,Td _ _ h⟩
 | .any,v,h=>by simpa only[AV.fzA] using h
 | .im d,v,h=>by simpa only[AV.fzA] using h
 | .tup z,v,h=>by simpa only[AV.fzA] using h
 | .ptr o p,v,h=>by simpa only[AV.fzA] using h
 | .eptr o i p,v,h=>by simpa only[AV.fzA] using h
 | .mp o,v,h=>by simpa only[AV.fzA] using h
 | .ch o,v,h=>by simpa only[AV.fzA] using h
 | .it o,v,h=>by simpa only[AV.fzA] using h
 | .osl o a n,v,h=>by simpa only[AV.fzA] using h
 | .clo f a c,v,h=>by simpa only[AV.fzA] using h
def Td: ∀(xs:List AV) (vs:List Value),Ap S xs vs->Ap S (fzAL F H xs) vs
 |[],_,h=>by simpa only[fzAL] using h
 |x::l,vs,h=>by
  simp only[fzAL,Ap] at h⊢;obtain⟨v,r,rfl,z,G⟩:=h;exact⟨v,r,rfl,TT x v z,Td l r G⟩
end
def WP: ∀(xs:List AV) (vs:List Value),Bg S xs vs->Bg S (fzAL F H xs) vs
 |[],_,h=>by simp only[fzAL,Bg]
 |x::l,vs,h=>by
  simp only[fzAL,Bg] at h⊢;obtain⟨v,r,rfl,z,G⟩:=h;exact⟨v,r,rfl,TT hW hH x v z,WP l r G⟩
def WC(k:Nat): ∀(xs:List (List AV)) (vs:List Value),AN S k xs vs->AN S k (fzAR F H xs) vs
 |[],_,h=>by simp only[fzAR,AN]
 |x::l,vs,h=>by
  simp only[fzAR,AN] at h⊢;exact⟨by rw[XN];exact h.1,WP hW hH x vs h.2.1,WC k l _ h.2.2⟩
def fzAO_conc{l:Option Loc}(e:AObj)(h:objc S l e):objc S l (e.fzA F H):=by
 cases e<;>simp only[AObj.fzA]<;>try exact h
 .simp only[objc] at h⊢;obtain⟨lc,Z,G,z,O,Q⟩:=h;exact⟨lc,Z,G,z,O,Td hW hH _ _ Q⟩
 .rename_i T k rows;simp only[objc,T4] at h⊢;refine⟨h.1,?_⟩;cases l with
  |none=>
   have z:=h.2;simp only at z;subst z;rfl
  |some lc=>
   obtain⟨h0,G,Z,z,O,Q⟩:=h;exact⟨G,Z,z,O,WC hW hH k _ _ Q⟩
end
def Pc{C:Ctx}{N:Nat}(F:List Nat){s:Ac}{a:Act}{w:World}(hc:Con C N s a w):Con C N (fzAS F s) a w:=by
 obtain⟨S,rfl,aa⟩:=U5 F hc;clear hc;have hc:=aa;clear aa
 let S':Env:=⟨S.ρ,S.ok,hget (fzAH F s.h s.h),S.w⟩
 have Q: ∀n,S.h n=(hget s.h n).map λe=>(e.1 && !F.contains n,e.2):=by
  intro n;rw[hc.h n];exact OC F s.h n
 have hH: ∀n e,F.contains n=true->hget s.h n=some e->S.h n=some (false,e.2):=by
  intro n e hF he;rw[Q,he];simp only[Bw,hF,M5,LA]
 have G: ∀n e',S'.h n=some e'-> ∃e,S.h n=some e/\e'.1=e.1/\e'.2=e.2.fzA F s.h:=by
  intro n e' z;have z:hget (fzAH F s.h s.h) n=some e':=z;rw[TO] at z;simp only[BF] at z;obtain⟨x,hx,rfl⟩:=z;exact⟨(x.1 && !F.contains n,x.2),by rw[Q,hx];rfl,rfl,rfl⟩
 have hp:Pres (λ_=>True) S S':=⟨λb hb=>⟨hb,rfl⟩,λo _ e' z=>by
  obtain⟨e,O,h2,Z⟩:=G o e' z;obtain⟨g1,g2,_⟩:=TY F s.h e.2;exact⟨e,O,rfl,by rw[Z];exact g1,by rw[Z];exact g2⟩⟩
 have hW:=hc.wf;refine⟨S',rfl,⟨hW.os,hW.tape,hW.output,hW.size,hW.keep,hW.ok0,hW.ok1,hW.oks,?_,?_,?_,hW.gl⟩,λn=>rfl,?_,?_,?_,hc.size,hc.defers,hc.n0,?_⟩
 .intro o e' z;obtain⟨e,O,h2,Z⟩:=G o e' z;rw[Z];exact DU hp (λlc _=>rfl) _ (λ_ _=>trivial) (fzAO_conc hW hH e.2 (hW.obj o e O))
 .intro o e' l z hl;obtain⟨e,O,h2,Z⟩:=G o e' z
  have:=hW.loc o e l O hl
  rw[h2,Z,(TY F s.h e.2).2.2];exact this
 .intro o o' e e' l l' he z hl af hb ad;obtain⟨x,O,h2,Z⟩:=G o e he;obtain⟨x',ab,ac,ag⟩:=G o' e' z;exact hW.inj o o' x x' l l' O ab hl af hb (by rw[<-h2,<-ac];exact ad)
 .intro t;show conc S' (tget (fzAT F s.h s.tm) t) _;rw[T5];exact DV hp _ _ (λ_ _=>trivial) (TT hW hH _ _ (hc.tm t))
 .intro t m hm;have hm:m∈(tget (fzAT F s.h s.tm) t).nms:=hm;rw[T5] at hm;exact hc.nmT t m (fzA_nms F s.h _ m hm)
 .intro n e he;have he:hget (fzAH F s.h s.h) n=some e:=he;rw[TO] at he;simp only[BF] at he;obtain⟨x,hx,rfl⟩:=he;have O:hget (frzS F s).h n=some (x.1 && !F.contains n,x.2):=by
   show hget (frzH F s.h) n=_;rw[OC,hx];rfl
  obtain⟨g1,g2⟩:=hc.nmH n _ O;exact⟨g1,λm hm=>g2 m (fzAO_nms F s.h x.2 m hm)⟩
 .intro o ho e' z;obtain⟨e,O,h2,Z⟩:=G o e' z;obtain⟨e0,g1,g2,g3,g4⟩:=hc.pre o ho e O;obtain⟨q1,q2,_⟩:=TY F s.h e.2;exact⟨e0,g1,g2,by rw[Z,q1];exact g3,by rw[Z,q2];exact g4⟩
def F7{p:Nat->Prop}: ∀n,p n-> ∃m,p m/\ ∀k,k<m-> ¬p k:=by
 intro n;induction n using Nat.strongRecOn with
 |_ n ih=>
  intro hn;by_cases h: ∃k,k<n/\p k
  .obtain⟨k,G,z⟩:=h;exact ih k G z
  .exact⟨n,hn,λk G z=>h ⟨k,G,z⟩⟩
section
variable {P:Program}{V:B0}{C:Ctx}{N:Nat}
def Jj{x:Be}{Q:Be}{next:Act->World->Prop}(G: ∀s a w,x .normal s->Con C N s a w->next a w)(O: ∀i s,x (.exit i) s->Q (.exit i) s)(Z: ∀s,x .ret s->Q .ret s):
 ∀e a w,toQ C N x e a w->Exit.then next (toQ C N Q) e a w:=by
 intro e a w h;cases e<;>simp only[toQ] at h<;>simp only[Exit.then,toQ]
 .obtain⟨s,z,hc⟩:=h;exact G s a w z hc
 .obtain⟨s,z,hc⟩:=h;exact⟨s,O _ s z,hc⟩
 .obtain⟨s,z,hc⟩:=h;exact⟨s,Z s z,hc⟩
def SZ(HM:P.follows .mixedOrders=true)(HV:D5 P V): ∀(c:Code),chk N c=true-> ∀(Q:Be) (s:Ac) (a:Act) (w:World),awp P V c Q s->Con C N s a w->c.wp P (toQ C N Q) a w:=by
 intro c;induction c with
 |skip=>intro _ Q s a w h hc;exact wp_skip ⟨s,h,hc⟩
 |region id ops an=>
  intro hk Q s a w h hc;simp only[chk,Av] at hk;cases an with
  |true=>exact Y4 HM HV (λs a w h1 h2=>⟨s,h1,h2⟩) hk.1 (by simpa using hk.2) h hc
  |false=>exact Y3 HV (λs a w h1 h2=>⟨s,h1,h2⟩) hk.1 h hc
 |seq x y ak am=>
  intro hk Q s a w h hc;simp only[chk,Av] at hk;simp only[awp] at h;refine wp_seq (wp_mono (ak hk.1 _ s a w h hc) (Jj ?_ ?_ ?_))
  .intro s a w Z hc;exact am hk.2 Q s a w Z hc
  .intro i s Z;exact Z
  .intro s Z;exact Z
 |cond c x y ak am=>
  intro hk Q s a w h hc;simp only[chk,Av] at hk;simp only[awp] at h;obtain⟨S,ao,aj⟩:=hc;have h1:=GL aj c;cases hv:evO s.tm c<;>rw[hv] at h<;>try exact h.elim
  rename_i d;cases d<;>try exact h.elim
  rename_i b;rw[hv] at h1;simp only[conc,rd] at h1;simp only[Pq] at h;refine wp_cond_split h1 (λhb=>ak hk.1 Q s a w (h.1 hb) ⟨S,ao,aj⟩) (λhb=>am hk.2 Q s a w (h.2 hb) ⟨S,ao,aj⟩)
 |block id c ih=>
  intro hk Q s a w h hc;simp only[awp] at h;refine wp_block (wp_mono (ih hk _ s a w h hc) ?_);intro e a w he;cases e<;>simp only[toQ] at he<;>simp only[Exit.inBlock,toQ]
  .exact he
  .rename_i i;obtain⟨s,Z,hc⟩:=he;simp only[Mr] at Z;by_cases hi:i=id
   .subst hi;rw[Af rfl];exact⟨s,by simpa[exitQ] using Z,hc⟩
   .rw[Ab hi]
    have:(i==id)=false:=by simpa using hi
    rw[this] at Z;exact⟨s,Z,hc⟩
  .exact he
 |loop c ih=>
  intro hk Q s a w h hc;have ai: ∀(s:Ac),Jn (awp P V c) Q s->Con C N s a w->(Code.loop c).wp P (toQ C N Q) a w:=by
   clear h hc;intro s h hc;simp only[Jn] at h;obtain⟨β,I,μ,z,⟨b0,ad⟩,G⟩:=h
   let p:Act->World->Nat->Prop:=λa w n=> ∃b,Con C N (I b) a w/\μ b=n
   let μ':Act->World->Nat:=λa w=>Classical.epsilon λn=>p a w n/\ ∀k,k<n-> ¬p a w k
   have hμ: ∀a w b,Con C N (I b) a w->p a w (μ' a w)/\ ∀k,k<μ' a w-> ¬p a w k:=by
    intro a w b hb;exact Mw (p:=λn=>p a w n/\ ∀k,k<n-> ¬p a w k) (F7 (μ b) ⟨b,hb,rfl⟩)
   have ab: ∀b,C.n0<=(I b).nx:=by
    intro b;obtain⟨S,_,h⟩:=hc;exact BK h.n0 (z b).2
   refine wp_loop (λa w=> ∃b,Con C N (I b) a w) μ' ⟨b0,Mm hc ad (z b0).1 (ab b0)⟩ ?_;rintro a w ⟨b,hb⟩;obtain⟨⟨b1,af,as⟩,_⟩:=hμ a w b hb;refine wp_mono (ih hk _ _ a w (G b1) af) (Jj ?_ ?_ ?_)
   .rintro s' a' w' ⟨b',aq,ac⟩ ag;have O:=Mm ag ac (z b').1 (ab b');refine⟨⟨b',O⟩,?_⟩;obtain⟨_,aa⟩:=hμ a' w' b' O;rcases Cz (μ b') (μ' a' w') with h1|h1
    .exact absurd ⟨b',O,rfl⟩ (aa _ h1)
    .omega
   .intro i s Z;exact Z
   .intro s Z;exact Z
  simp only[awp,Au] at h;rcases h with h|h|⟨F,h⟩|h
  .exact ai s h hc
  .simp only[QY] at h;obtain⟨β,I,μ,z,⟨b0,π0,ad⟩,G⟩:=h
   let p:Act->World->Nat->Prop:=λa w n=> ∃b,Con C N (I b) a w/\μ b=n
   let μ':Act->World->Nat:=λa w=>Classical.epsilon λn=>p a w n/\ ∀k,k<n-> ¬p a w k
   have hμ: ∀a w b,Con C N (I b) a w->p a w (μ' a w)/\ ∀k,k<μ' a w-> ¬p a w k:=by
    intro a w b hb;exact Mw (p:=λn=>p a w n/\ ∀k,k<n-> ¬p a w k) (F7 (μ b) ⟨b,hb,rfl⟩)
   have ah:C.n0<=s.nx:=by
    obtain⟨S,_,h⟩:=hc;exact h.n0
   have ab: ∀b,C.n0<=(I b).nx:=by
    intro b;obtain⟨S,_,h⟩:=hc;exact BK h.n0 (z b).2
   refine wp_loop (λa w=> ∃b,Con C N (I b) a w) μ' ⟨b0,GO hc ad (z b0).1 ah (ab b0)⟩ ?_;rintro a w ⟨b,hb⟩;obtain⟨⟨b1,af,as⟩,_⟩:=hμ a w b hb;refine wp_mono (ih hk _ _ a w (G b1) af) (Jj ?_ ?_ ?_)
   .rintro s' a' w' ⟨b',π,aq,ac⟩ ag;have O:=GO ag ac (z b').1 ah (ab b');refine⟨⟨b',O⟩,?_⟩;obtain⟨_,aa⟩:=hμ a' w' b' O;rcases Cz (μ b') (μ' a' w') with h1|h1
    .exact absurd ⟨b',O,rfl⟩ (aa _ h1)
    .omega
   .intro i s Z;exact Z
   .intro s Z;exact Z
  .exact ai _ h (U5 F hc)
  .simp only[QW] at h;obtain⟨β,I,μ,z,⟨b0,F0,π0,ad⟩,G⟩:=h
   let p:Act->World->Nat->Prop:=λa w n=> ∃b,Con C N (I b) a w/\μ b=n
   let μ':Act->World->Nat:=λa w=>Classical.epsilon λn=>p a w n/\ ∀k,k<n-> ¬p a w k
   have hμ: ∀a w b,Con C N (I b) a w->p a w (μ' a w)/\ ∀k,k<μ' a w-> ¬p a w k:=by
    intro a w b hb;exact Mw (p:=λn=>p a w n/\ ∀k,k<n-> ¬p a w k) (F7 (μ b) ⟨b,hb,rfl⟩)
   have ah:C.n0<=s.nx:=by
    obtain⟨S,_,h⟩:=hc;exact h.n0
   have ab: ∀b,C.n0<=(I b).nx:=by
    intro b;obtain⟨S,_,h⟩:=hc;exact BK h.n0 (z b).2
   refine wp_loop (λa w=> ∃b,Con C N (I b) a w) μ' ⟨b0,GO (Pc F0 hc) ad (z b0).1 ah (ab b0)⟩ ?_;rintro a w ⟨b,hb⟩;obtain⟨⟨b1,af,as⟩,_⟩:=hμ a w b hb;refine wp_mono (ih hk _ _ a w (G b1) af) (Jj ?_ ?_ ?_)
   .rintro s' a' w' ⟨b',F,π,aq,ac⟩ ag;have O:=GO (Pc F ag) ac (z b').1 ah (ab b');refine⟨⟨b',O⟩,?_⟩;obtain⟨_,aa⟩:=hμ a' w' b' O;rcases Cz (μ b') (μ' a' w') with h1|h1
    .exact absurd ⟨b',O,rfl⟩ (aa _ h1)
    .omega
   .intro i s Z;exact Z
   .intro s Z;exact Z
 |exit id=>intro _ Q s a w h hc;exact wp_exit ⟨s,h,hc⟩
 |ret=>intro _ Q s a w h hc;exact wp_ret ⟨s,h,hc⟩
 |_=>intro hk;simp[chk] at hk
end
def Me(P:Program)(g:FuncId):Prop:=g<1000000000/\ ∃fn,P.funcs[g]? =some fn/\(fn.name== "runtime.NumGoroutine")=false/\fn.body.isNone=false
def CallT(P:Program)(g:FuncId)(args:List AV)(h:Nat->Option Ent)(nx:Nat)(r:AV)(E:Eff):Prop:=
 ∀(C:Ctx) (S:Env) (vs:Array Value) (R:Ending->World->Prop),
  Wf C S->(∀n∈E.use++E.kill,S.h n=h n)->(∀n,Fr nx E.cnt n->S.h n=none)->
  (∀n e,S.h n=some e-> ∀m∈e.2.nms,¬Fr nx E.cnt m)->
  Ap S args vs.toList->
  (∀v S',Wf C S'->S'.h=E.appf S.h->Pres (λm=> ¬Fr nx E.cnt m) S S'->conc S' r v->R (.returned v) S'.w)->
  Calls P g vs S.w R
def E7(P:Program)(V:B0):Prop:= ∀g args h nx K,V g args h nx K->Me P g/\ ∃r E,CallT P g args h nx r E/\K r E
def Oz{P:Program}{g:FuncId}(h:Me P g)(args:Array Value)(w:World):(callFunc g args).run P w= .ok (.enter g args) w:=by
 obtain⟨_,fn,O,Q,Z⟩:=h;have z:fn.name≠ "runtime.NumGoroutine" :=by simpa using Q
 have G:fn.body≠none:=by intro h;simp[h] at Z
 simp[callFunc,O,z,G]
def QF{S:Env}{tm:List (Nat×AV)}{a:Act}: ∀(xs:List Operand),(∀x∈xs,conc S (evO tm x) (a.eval x))->Ap S (evL tm xs) (xs.map a.eval)
 |[],_=>by simp[evL,Ap]
 |x::xs,h=>by
  simp only[evL,Ay,Ap];exact⟨_,_,rfl,h x (by simp),QF xs (λy z=>h y (by simp[z]))⟩
def callOk1{P:Program}{V:B0}(hV:E7 P V)(tm:List (Nat×AV))(h:Nat->Option Ent)(nx:Nat)(o:Oper)(c:Call)(f:Operand)(K:Kont)(ho:o.op= .call c)(z:c.callee= .value f)
 (hk:G6 V (evL tm c.args.toList) h nx K (evO tm f)):AS P tm h nx o K:=by
 have ag:f∈o.op.operands:=by rw[ho];simp[Op.operands,Call.operands,z]
 have af: ∀x∈c.args.toList,x∈o.op.operands:=by
  intro x hx;rw[ho];simp only[Op.operands,Call.operands,z];simp;exact .inr (by simpa using hx)
 have aa: ∀(g:FuncId) (fi ca:List AV),V g (fi++evL tm c.args.toList++ca) h nx K->(∀(S:Env) (v:Value),conc S (evO tm f) v-> ∃a b:Array Value,v= .func (fnV g) a b/\Ap S fi a.toList/\Ap S ca b.toList)->AS P tm h nx o K:=by
  intro g fi ca Z hf;obtain⟨G,r,E,hT,hK⟩:=hV _ _ _ _ _ Z;refine⟨r,E,?_,hK⟩;intro C S a next Q hW hu ai ad O hn
  obtain⟨x,y,ac,hx,hy⟩:=hf S _ (O f ag);rw[II G.1] at ac;have ab:=QF c.args.toList (λx hx=>O x (af x hx));unfold Oper.wp;have ah:(execOp a.eval o).run P S.w= .ok (.enter g (x++c.args.map a.eval++y)) S.w:=by
   simp only[execOp,ho,resolve,z,ac,Sem.run_bind];simp[Deferred.ofValue,invoke,Oz G]
  rw[ah,Oper.upon_enter];refine hT C S _ _ hW hu ai ad ?_ ?_
  .simp only[Vl,HA];exact Tf _ _ _ _ (Tf _ _ _ _ hx ab) hy
  .intro v S' h1 h2 h3 h4;exact hn v S' h1 h2 h3 h4
 cases hf:evO tm f<;>rw[hf] at hk<;>try exact hk.elim
 case im d=>
  cases d<;>try exact hk.elim
  rename_i g first capt
  refine aa g (first.map .im) (capt.map .im) hk ?_;intro S v Z;rw[hf] at Z;simp only[conc,rd] at Z;obtain⟨a,b,h1,h2,h3⟩:=Z;exact⟨a,b,h1,(Eh _ _).2 h2,(Eh _ _).2 h3⟩
 case clo g first capt=>
  refine aa g first capt hk ?_
  intro S v Z;rw[hf] at Z;simpa only[conc] using Z
def meth_run{P:Program}{t:TypeId}{m:String}{f:FuncId}(h:Dl P t m=some f)(n:Nat)(v:Value)(w:World):(method (n+1) t v m).run P w= .ok (f,v) w:=by
 unfold Dl at h;split at h
 .cases h
 .rename_i u z hu;unfold methT at h;split at h
  .rename_i i hi;split at h
   .rename_i mm hm;cases hp:mm.path.isEmpty with
    |false=>rw[hp] at h;cases h
    |true=>
     rw[hp,Bc] at h;split at h
     .rename_i g hg;obtain rfl:=Al h;have G:mm.path.toList=[]:=by simpa using hp
      have Q:(typeInfo t).run P w= .ok i w:=by simp[typeInfo,hi]
      have Z:(underlying t).run P w= .ok u w:=by simp[underlying,hu]
      have O:(receiverAt t (.val v) false (if mm.path.isEmpty then some ((m.splitOn ".").getLastD m) else none)).run P w= .ok v w:=by
       unfold receiverAt;rw[Sem.run_bind,Z];cases u<;>first|rfl|exact (z _ rfl).elim
      unfold method;simp only[Sem.run_bind,Q,Result.andThen_ok,hm,G,follow,Sem.run_pure,hg,O]
     .cases h
   .cases h
  .cases h
 .cases h
def Ll{P:Program}{V:B0}(hV:E7 P V):D5 P V:=by
 refine⟨λtm h nx o c f K ho z _ G=>callOk1 hV tm h nx o c f K ho z G,?_⟩;intro tm h nx o c rc m K ho z hnm G;have ad:rc∈o.op.operands:=by rw[ho];simp[Op.operands,Call.operands,z]
 have ac: ∀x∈c.args.toList,x∈o.op.operands:=by
  intro x hx;rw[ho];simp only[Op.operands,Call.operands,z];simp;exact .inr (by simpa using hx)
 cases hr:evO tm rc<;>rw[hr] at G<;>try exact G.elim
 rename_i d;cases d<;>try exact G.elim
 rename_i t d;simp only[stInv] at G;cases hm:Dl P t m with
 |none=>rw[hm] at G;exact G.elim
 |some g=>
 rw[hm] at G;simp only[Im] at G;obtain⟨aa,r,E,hT,hK⟩:=hV _ _ _ _ _ G;refine⟨r,E,?_,hK⟩;intro C S a next Q hW hu ag ab O hn
 have h1:=O rc ad;rw[hr] at h1;simp only[conc,rd] at h1;obtain⟨x,hx,ah⟩:=h1;have Z:=QF c.args.toList (λx hx=>O x (ac x hx));unfold Oper.wp;have af:(execOp a.eval o).run P S.w= .ok (.enter g (#[x]++c.args.map a.eval)) S.w:=by
  simp only[execOp,ho,resolve,z,hx,Sem.run_bind];simp[invoke,callMethod];have e0:(#[Value.iface t x]++Array.map a.eval c.args)[0]? =some (.iface t x):=by rw[UQ (by simp)];rfl
  obtain⟨n,hn1⟩: ∃n,P.types.size+Made.depth=n+1:=⟨P.types.size+99,by simp[Made.depth]⟩;have e1:(Array.map a.eval c.args).extract 0 c.args.size=Array.map a.eval c.args:=by
   have:=PC (xs:=Array.map a.eval c.args)
   rwa [Array.size_map] at this
  rw[e0];simp only[Sem.run_bind,run_program,Result.andThen_ok,hn1,meth_run hm,e1];exact Oz aa _ _
 rw[af,Oper.upon_enter];refine hT C S _ _ hW hu ag ab ?_ ?_
 .simp only[Vl,HA];exact⟨x,_,rfl,ah,Z⟩
 .intro v S' h1 h2 h3 h4;exact hn v S' h1 h2 h3 h4
mutual
def AV.ren(σ:Nat->Nat):AV->AV
 | .any=> .any
 | .im d=> .im d
 | .agg z=> .agg (renL σ z)
 | .tup z=> .tup (renL σ z)
 | .ptr o p=> .ptr (σ o) p
 | .eptr o i p=> .eptr (σ o) i p
 | .own o=> .own (σ o)
 | .mp o=> .mp (σ o)
 | .ch o=> .ch (σ o)
 | .it o=> .it (σ o)
 | .osl o a n=> .osl (σ o) a n
 | .clo f a c=> .clo f (renL σ a) (renL σ c)
def renL(σ:Nat->Nat):List AV->List AV
 |[]=>[]
 |x::r=>x.ren σ::renL σ r
end
def XD(σ:Nat->Nat): ∀(l:List AV),renL σ l=l.map (AV.ren σ)
 |[]=>rfl
 |x::r=>by simp only[renL,Ay,XD σ r]
def AObj.ren(σ:Nat->Nat):AObj->AObj
 | .cells T z=> .cells T (renL σ z)
 | .arr T k rows=> .arr T k rows
 | .arrA T k rows=> .arrA T k (rows.map (renL σ))
 | .map O G=> .map O G
 | .chan q cap=> .chan q cap
 | .iter a l=> .iter a l
 | .view z=> .view z
def QJ(σ:Nat->Nat)(e:AObj):(e.ren σ).esz=e.esz:=by cases e<;>rfl
def QV(σ:Nat->Nat)(e:AObj):(e.ren σ).len=e.len:=by cases e<;>simp[AObj.ren,AObj.len]
section
variable {S S':Env}{σ τ:Nat->Nat}
structure RenP(S S':Env)(σ τ:Nat->Nat)(n:Nat):Prop where
 a: ∀e',S'.h (τ n)=some e'-> ∃e,S.h (σ n)=some e/\S'.ρ (τ n)=S.ρ (σ n)/\e'.2.esz=e.2.esz/\e'.2.len=e.2.len
mutual
def XA(aa: ∀b,S.ok b->S'.ok b/\S'.hp b=S.hp b): ∀(z:AV) (v:Value),(∀n∈z.nms,RenP S S' σ τ n)->conc S (z.ren σ) v->conc S' (z.ren τ) v
 | .any,_,_,_=>by simp only[AV.ren,conc]
 | .im d,v,_,h=>by
   simp only[AV.ren,conc] at h⊢;exact Dp aa d v h
 | .agg cs,v,O,h=>by
   simp only[AV.ren,conc,AV.nms] at h O⊢;obtain⟨vs,rfl,h1⟩:=h;exact⟨vs,rfl,KA aa cs _ O h1⟩
 | .tup cs,v,O,h=>by
   simp only[AV.ren,conc,AV.nms] at h O⊢;obtain⟨vs,rfl,h1⟩:=h;exact⟨vs,rfl,KA aa cs _ O h1⟩
 | .ptr o off,v,O,h=>by
   simp only[AV.ren,conc,AV.nms,AO,F1] at h O⊢;obtain⟨G,h⟩:=h;refine⟨G,?_⟩;intro e' Q;obtain⟨e,Z,hr,_,_⟩:=O.a e' Q;rw[hr];exact h e Z
 | .eptr o i off,v,O,h=>by
   simp only[AV.ren,conc,AV.nms,AO,F1] at h O⊢;obtain⟨G,h⟩:=h;refine⟨G,?_⟩;intro e' Q;obtain⟨e,Z,hr,hz,_⟩:=O.a e' Q;rw[hr,hz];exact h e Z
 | .own o,v,O,h=>by
   simp only[AV.ren,conc,AV.nms,AO,F1] at h O⊢;obtain⟨G,h⟩:=h;refine⟨G,?_⟩;intro e' Q;obtain⟨e,Z,hr,_,hl⟩:=O.a e' Q;rw[hr,hl];exact h e Z
 | .mp o,v,O,h=>by
   simp only[AV.ren,conc,AV.nms,AO,F1] at h O⊢;obtain⟨G,h⟩:=h;refine⟨G,?_⟩;intro e' Q;obtain⟨e,Z,hr,_,_⟩:=O.a e' Q;rw[hr];exact h e Z
 | .ch o,v,O,h=>by
   simp only[AV.ren,conc,AV.nms,AO,F1] at h O⊢;obtain⟨G,h⟩:=h;refine⟨G,?_⟩;intro e' Q;obtain⟨e,Z,hr,_,_⟩:=O.a e' Q;rw[hr];exact h e Z
 | .it o,v,O,h=>by
   simp only[AV.ren,conc,AV.nms,AO,F1] at h O⊢;obtain⟨G,h⟩:=h;refine⟨G,?_⟩;intro e' Q;obtain⟨e,Z,hr,_,_⟩:=O.a e' Q;rw[hr];exact h e Z
 | .osl o a n,v,O,h=>by
   simp only[AV.ren,conc,AV.nms,AO,F1] at h O⊢;obtain⟨G,h⟩:=h;refine⟨G,?_⟩;intro e' Q;obtain⟨e,Z,hr,hz,hl⟩:=O.a e' Q;rw[hr,hz,hl];exact h e Z
 | .clo f fi ca,v,O,h=>by
   simp only[AV.ren,conc,AV.nms,AG] at h O⊢;obtain⟨a,c,rfl,h1,h2⟩:=h;exact⟨a,c,rfl,KA aa fi _ (λo ho=>O o (.inl ho)) h1,KA aa ca _ (λo ho=>O o (.inr ho)) h2⟩
def KA(z: ∀b,S.ok b->S'.ok b/\S'.hp b=S.hp b): ∀(Q:List AV) (vs:List Value),(∀n∈nmsL Q,RenP S S' σ τ n)->Ap S (renL σ Q) vs->Ap S' (renL τ Q) vs
 |[],_,_,h=>by simpa only[renL,Ap] using h
 |x::xs,vs,O,h=>by
  simp only[renL,Ap,nmsL,AG] at h O⊢;obtain⟨v,r,rfl,Z,h2⟩:=h;exact⟨v,r,rfl,XA z x v (λo G=>O o (.inl G)) Z,KA z xs r (λo G=>O o (.inr G)) h2⟩
end
def Wz(z: ∀b,S.ok b->S'.ok b/\S'.hp b=S.hp b): ∀(Q:List AV) (vs:List Value),(∀n∈nmsL Q,RenP S S' σ τ n)->Bg S (renL σ Q) vs->Bg S' (renL τ Q) vs
 |[],_,_,h=>by simp only[renL,Bg]
 |x::xs,vs,O,h=>by
  simp only[renL,Bg,nmsL,AG] at h O⊢;obtain⟨v,r,rfl,Z,h2⟩:=h;exact⟨v,r,rfl,XA z x v (λo G=>O o (.inl G)) Z,Wz z xs r (λo G=>O o (.inr G)) h2⟩
def TG(σ:Nat->Nat)(l:List AV):(renL σ l).length=l.length:=by rw[XD];simp
def WY(z: ∀b,S.ok b->S'.ok b/\S'.hp b=S.hp b)(k:Nat): ∀(G:List (List AV)) (vs:List Value),(∀n∈nmsR G,RenP S S' σ τ n)->AN S k (G.map (renL σ)) vs->AN S' k (G.map (renL τ)) vs
 |[],_,_,h=>by simp only[D2,AN]
 |r::G,vs,Q,h=>by
  simp only[Ay,AN,nmsR,AG,TG] at h Q⊢;exact⟨h.1,Wz z r vs (λo O=>Q o (.inl O)) h.2.1,WY z k G _ (λo O=>Q o (.inr O)) h.2.2⟩
def XQ(G: ∀b,S.ok b->S'.ok b/\S'.hp b=S.hp b){l:Option Loc}(hl: ∀z,l=some z->S'.hp z.b=S.hp z.b): ∀(e:AObj),(∀n∈e.nms,RenP S S' σ τ n)->objc S l (e.ren σ)->objc S' l (e.ren τ)
 | .cells T cs,hx,h=>by
   simp only[AObj.ren,objc,AObj.nms] at h hx⊢;obtain⟨z,vs,O,Z,h3,h4⟩:=h;exact⟨z,vs,O,Z,(hl z O).trans h3,KA G cs _ hx h4⟩
 | .arr T k rows,hx,h=>by
   simp only[AObj.ren,objc] at h⊢;refine⟨h.1,?_⟩;cases l with
   |none=>exact h.2
   |some z=>
    obtain⟨h0,O,vs,Z,h3,h4⟩:=h;exact⟨O,vs,(hl z rfl).trans Z,h3,Jh G k rows _ h4⟩
 | .arrA T k rows,hx,h=>by
   simp only[AObj.ren,objc,AObj.nms,Dz] at h hx⊢;refine⟨h.1,?_⟩;cases l with
   |none=>
    have:=h.2
    simp only[List.map_eq_nil_iff] at this⊢;exact this
   |some z=>
    obtain⟨h0,O,vs,Z,h3,h4⟩:=h;exact⟨O,vs,(hl z rfl).trans Z,h3,WY G k rows _ hx h4⟩
 | .map kt es,_,h=>by
   simp only[AObj.ren,objc] at h⊢;obtain⟨z,aa,Q,O,h0,Z,h3,h4⟩:=h;exact⟨z,aa,Q,O,h0,(hl z O).trans Z,Fe G es _ h3,h4⟩
 | .chan q cap,_,h=>by
   simp only[AObj.ren,objc] at h⊢;obtain⟨z,ag,af,ac,O,Z,h3⟩:=h;exact⟨z,ag,af,ac,O,(hl z O).trans Z,Ff G q _ h3⟩
 | .iter ab left,_,h=>by
   simp only[AObj.ren,objc] at h⊢;obtain⟨z,mb,aa,Q,ad,O,Z,h0,h3,h4,h5,h6,h7⟩:=h;exact⟨z,mb,aa,Q,ad,O,(G mb Z).1,SO G ab h0,(G mb Z).2.trans h3,(hl z O).trans h4,h5,h6,Fe G left _ h7⟩
 | .view cs,_,h=>by
   simp only[AObj.ren,objc] at h⊢;obtain⟨z,vs,T,fr,O,Z,h3⟩:=h;exact⟨z,vs,T,fr,O,(hl z O).trans Z,Jg G cs _ h3⟩
mutual
def ren_id: ∀(z:AV),z.ren (λn=>n)=z
 | .any=>rfl
 | .im _=>rfl
 | .agg G=>by simp only[AV.ren,Jl G]
 | .tup G=>by simp only[AV.ren,Jl G]
 | .ptr _ _=>rfl
 | .eptr _ _ _=>rfl
 | .own _=>rfl
 | .mp _=>rfl
 | .ch _=>rfl
 | .it _=>rfl
 | .osl _ _ _=>rfl
 | .clo f a c=>by simp only[AV.ren,Jl a,Jl c]
def Jl: ∀(z:List AV),renL (λn=>n) z=z
 |[]=>rfl
 |x::r=>by simp only[renL,ren_id x,Jl r]
end
def Xp(e:AObj):e.ren (λn=>n)=e:=by
 cases e<;>simp only[AObj.ren,Jl];rename_i T k rows
 have:(renL λn=>n)=(id:List AV->List AV):=funext Jl
 rw[this];simp
end
def mapO{α β:Type}(f:α->Option β):List α->Option (List β)
 |[]=>some []
 |x::r=>match f x,mapO f r with
  |some y,some z=>some (y::z)
  |_,_=>none
def Gr(f:AV->Option D):Option Ent->Option D
 |some (_,.arr _ k rows)=>some (.sl false k rows)
 |some (_,.arrA _ k rows)=>(mapO (mapO f) rows).map (.sl false k)
 |_=>none
def IL:Option Ent->Option D
 |some (_,.map G z)=>some (.mp G z)
 |_=>none
def IG(f:AV->Option D):Option Ent->Option D
 |some (_,.cells _ z)=>(mapO f z).map .ref
 |_=>none
def mkT(z:List AV):Option (List D)->AV
 |some ds=> .im (.tup ds)
 |none=> .tup z
def mkC(g:FuncId)(a c:List AV):Option (List D)->Option (List D)->AV
 |some ds,some z=> .im (.fn g ds z)
 |some _,none=> .clo g a c
 |none,_=> .clo g a c
def mkCO(g:FuncId):Option (List AV)->Option (List AV)->Option AV
 |some a,some c=>some (mkC g a c (BQ a) (BQ c))
 |_,_=>none
def kp(x:Nat->AV)(d:Option D):Option Nat->Option AV
 |some j=>some (x j)
 |none=>d.map .im
def asDO:Option AV->Option D
 |some x=>x.asD
 |none=>none
def cvt(h:Nat->Option Ent)(kx:Nat->Option Nat):Nat->AV->Option AV
 |0,_=>none
 |_+1,.im d=>some (.im d)
 |_+1,.any=>some .any
 |n+1,.agg G=>(mapO (cvt h kx n) G).map λz=>mkO z (BQ z)
 |n+1,.tup G=>(mapO (cvt h kx n) G).map λz=>mkT z (BQ z)
 |n+1,.own o=>kp .own (Gr (λx=>asDO (cvt h kx n x)) (h o)) (kx o)
 |_+1,.mp o=>kp .mp (IL (h o)) (kx o)
 |n+1,.ptr o 0=>kp (λj=> .ptr j 0) (IG (λx=>asDO (cvt h kx n x)) (h o)) (kx o)
 |_+1,.ptr o (p+1)=>kp (λj=> .ptr j (p+1)) none (kx o)
 |_+1,.eptr o i p=>kp (λj=> .eptr j i p) none (kx o)
 |_+1,.ch o=>kp .ch none (kx o)
 |_+1,.it o=>kp .it none (kx o)
 |_+1,.osl o a n=>kp (λj=> .osl j a n) none (kx o)
 |n+1,.clo g a c=>mkCO g (mapO (cvt h kx n) a) (mapO (cvt h kx n) c)
section
variable {S:Env}{f:AV->Option D}
def Mo(hf: ∀x d v,f x=some d->conc S x v->rd S.ok S.hp d v): ∀(cs:List AV) (ds:List D) (vs:List Value),mapO f cs=some ds->Ap S cs vs->rdl S.ok S.hp ds vs
 |[],ds,vs,h,hc=>by
  simp only[mapO,An] at h;subst h;simp only[Ap] at hc;simp only[rdl];exact hc
 |x::cs,ds,vs,h,hc=>by
  simp only[mapO] at h;simp only[Ap] at hc;obtain⟨v,r,rfl,G,O⟩:=hc;split at h
  .rename_i y Z Q z;obtain rfl:=Al h;simp only[rdl];exact⟨v,r,rfl,hf x y v Q G,Mo hf cs Z r z O⟩
  .cases h
def mapO_p(hf: ∀x d v,f x=some d->conc S x v->rd S.ok S.hp d v): ∀(cs:List AV) (ds:List D) (vs:List Value),mapO f cs=some ds->Bg S cs vs->rdp S.ok S.hp ds vs
 |[],ds,vs,h,hc=>by
  simp only[mapO,An] at h;subst h;simp only[rdp]
 |x::cs,ds,vs,h,hc=>by
  simp only[mapO] at h;simp only[Bg] at hc;obtain⟨v,r,rfl,G,O⟩:=hc;split at h
  .rename_i y Z Q z;obtain rfl:=Al h;simp only[rdp];exact⟨v,r,rfl,hf x y v Q G,mapO_p hf cs Z r z O⟩
  .cases h
def KF{α β:Type}{g:α->Option β}: ∀(cs:List α) (ds:List β),mapO g cs=some ds->ds.length=cs.length
 |[],ds,h=>by simp only[mapO,An] at h;subst h;rfl
 |x::cs,ds,h=>by
  simp only[mapO] at h;split at h
  .rename_i y G O z;obtain rfl:=Al h;simp[KF cs G z]
  .cases h
def mapO_r(hf: ∀x d v,f x=some d->conc S x v->rd S.ok S.hp d v){k:Nat}: ∀(O:List (List AV)) (ds:List (List D)) (vs:List Value),mapO (mapO f) O=some ds->AN S k O vs->rdr S.ok S.hp k ds vs
 |[],ds,vs,h,hc=>by
  simp only[mapO,An] at h;subst h;simp only[rdr]
 |x::Q,ds,vs,h,hc=>by
  simp only[mapO] at h;simp only[AN] at hc;split at h
  .rename_i y Z G z;obtain rfl:=Al h;simp only[rdr];exact⟨by rw[KF x y G];exact hc.1,mapO_p hf x y vs G hc.2.1,mapO_r hf Q Z _ z hc.2.2⟩
  .cases h
def WW{o:Nat}{e:Ent}{k:Nat}{rows:List (List D)}{v:Value}(he:S.h o=some e)(hl:e.2.len=rows.length)(O: ∀l,S.ρ o=some l->S.ok l.b)
 (z:match S.ρ o with|none=>rows=[]|some Q=>rows.length<=LIM/\rows.length<=Q.cap/\ ∃G T,S.hp Q.b=some (.cells G T (0,0))/\rdr S.ok S.hp k rows (G.toList.drop Q.p))(hc:conc S (.own o) v):rd S.ok S.hp (.sl false k rows) v:=by
 simp only[conc] at hc;have hc:=hc.2 e he;simp only[rd];cases hr:S.ρ o with
 |none=>rw[hr] at hc z;exact .inl ⟨.inl hc,z⟩
 |some l=>
  rw[hr] at hc z;obtain⟨h0,Z,G,T,h2,h3⟩:=z;exact .inr ⟨l.b,l.p,l.cap,G,T,(0,0),by rw[<-hl];exact hc,by simp,Z,h0,O l hr,h2,h3⟩
end
def frz_own{C:Ctx}{S:Env}(hW:Wf C S){f:AV->Option D}(hf: ∀x d v,f x=some d->conc S x v->rd S.ok S.hp d v){o:Nat}{d:D}{v:Value}(O: ∀e l,S.h o=some e->e.2.isView=false->S.ρ o=some l->S.ok l.b)
 (h:Gr f (S.h o)=some d)(hc:conc S (.own o) v):rd S.ok S.hp d v:=by
 cases ho:S.h o with
 |none=>rw[ho] at h;simp[Gr] at h
 |some e=>
  rw[ho] at h;obtain⟨mu,e⟩:=e;have z:=hW.obj o _ ho;cases e<;>simp only[Gr,reduceCtorEq] at h
  .obtain rfl:=Al h;simp only[objc] at z;refine WW ho rfl (λl hl=>O _ l ho rfl hl) ?_ hc;cases hr:S.ρ o with
   |none=>rw[hr] at z;exact z.2
   |some l=>
    rw[hr] at z;obtain⟨h0,Q,vs,h2,_,Z⟩:=z;exact⟨h0,Q,vs,_,h2,Z⟩
  .simp only[BF] at h;obtain⟨rows,Q,rfl⟩:=h;have G:=KF _ _ Q;simp only[objc] at z;refine WW ho (by simp[AObj.len,G]) (λl hl=>O _ l ho rfl hl) ?_ hc;cases hr:S.ρ o with
   |none=>rw[hr] at z;rw[z.2] at G;exact Gy.1 (by simpa using G)
   |some l=>
    rw[hr] at z;obtain⟨h0,h2,vs,Z,_,h4⟩:=z;exact⟨by omega,by omega,vs,_,Z,mapO_r hf _ _ _ Q h4⟩
def frz_mp{C:Ctx}{S:Env}(hW:Wf C S){o:Nat}{d:D}{v:Value}(Q: ∀e l,S.h o=some e->e.2.isView=false->S.ρ o=some l->S.ok l.b)
 (h:IL (S.h o)=some d)(hc:conc S (.mp o) v):rd S.ok S.hp d v:=by
 cases ho:S.h o with
 |none=>rw[ho] at h;simp[IL] at h
 |some e=>
  rw[ho] at h;obtain⟨mu,e⟩:=e;have O:=hW.obj o _ ho;cases e<;>simp only[IL,reduceCtorEq] at h;obtain rfl:=Al h;simp only[objc] at O;obtain⟨lc,G,z,Z,h2,h3,h4⟩:=O;simp only[conc] at hc;obtain⟨l,hl,hv⟩:=hc.2 _ ho;rw[Z] at hl;obtain rfl:=Al hl;simp only[rd];exact⟨lc.b,G,z,hv,h2,Q _ lc ho rfl Z,h3,h4⟩
def frz_ptr{C:Ctx}{S:Env}(hW:Wf C S){f:AV->Option D}(hf: ∀x d v,f x=some d->conc S x v->rd S.ok S.hp d v){o:Nat}{d:D}{v:Value}(G: ∀e l,S.h o=some e->e.2.isView=false->S.ρ o=some l->S.ok l.b)
 (h:IG f (S.h o)=some d)(hc:conc S (.ptr o 0) v):rd S.ok S.hp d v:=by
 cases ho:S.h o with
 |none=>rw[ho] at h;simp[IG] at h
 |some e=>
  rw[ho] at h;obtain⟨mu,e⟩:=e;have z:=hW.obj o _ ho;cases e<;>simp only[IG,reduceCtorEq] at h;simp only[BF] at h;obtain⟨ds,h1,rfl⟩:=h;simp only[objc] at z;obtain⟨O,vs,Q,h3,h4,h5⟩:=z;simp only[conc] at hc;obtain⟨l,Z,hv⟩:=hc.2 _ ho;rw[Q] at Z;obtain rfl:=Al Z;simp only[rd];refine⟨O.b,O.p+0,vs,_,_,hv,G _ O ho rfl Q,h4,?_⟩;rw[h3];simpa using I9 _ _ (Mo hf _ _ _ h1 h5)
def OE{g:AV->Option AV}: ∀(cs O:List AV) (ds:List D),mapO g cs=some O->BQ O=some ds->mapO (λx=>asDO (g x)) cs=some ds
 |[],O,ds,h,G=>by
  simp only[mapO,An] at h;subst h;simpa[BQ,mapO] using G
 |x::cs,O,ds,h,G=>by
  simp only[mapO] at h;split at h
  .rename_i z Z hz Q;obtain rfl:=Al h;simp only[BQ] at G;cases hy:z.asD with
   |none=>rw[hy] at G;simp[FY] at G
   |some d=>
    cases hys:BQ Z with
    |none=>rw[hy,hys] at G;simp[FY] at G
    |some es=>
     rw[hy,hys] at G;simp only[FY,An] at G;subst G;have h9:=OE cs Z es Q hys;have h8:asDO (g x)=some d:=by rw[hz];exact hy
     simp only[mapO,h8,h9]
  .cases h
def asDO_some{x:Option AV}{d:D}(h:asDO x=some d):x=some (.im d):=by
 cases x with
 |none=>cases h
 |some x=>
  simp only[asDO] at h;cases x<;>simp only[AV.asD,reduceCtorEq] at h;obtain rfl:=Al h;rfl
def Jy{x:Nat->AV}{d:Option D}{k:Option Nat}{e:D}(O: ∀j,x j≠ .im e)(h:kp x d k=some (.im e)):k=none/\d=some e:=by
 cases k with
 |some j=>
  simp only[kp,An] at h;exact absurd h (O j)
 |none=>
  simp only[kp,BF] at h;obtain⟨d',z,G⟩:=h;cases G;exact⟨rfl,z⟩
def cvt_rd{C:Ctx}{S:Env}(hW:Wf C S){kx:Nat->Option Nat}(O: ∀o e l,kx o=none->S.h o=some e->e.2.isView=false->S.ρ o=some l->S.ok l.b):
 ∀(n:Nat) (x:AV) (d:D) (v:Value),cvt S.h kx n x=some (.im d)->conc S x v->rd S.ok S.hp d v:=by
 intro n;induction n with
 |zero=>intro x d v h;simp[cvt] at h
 |succ n ih=>
  have hf: ∀x d v,asDO (cvt S.h kx n x)=some d->conc S x v->rd S.ok S.hp d v:=λx d v h hc=>ih x d v (asDO_some h) hc
  intro x d v h hc;cases x with
  |im d'=>
   simp only[cvt,An,AV.im.injEq] at h;subst h;simpa only[conc] using hc
  |any=>simp[cvt] at h
  |agg Q=>
   simp only[cvt,BF] at h;obtain⟨ys,G,z⟩:=h;simp only[conc] at hc;obtain⟨vs,rfl,Z⟩:=hc;cases ha:BQ ys with
   |none=>rw[ha] at z;simp[mkO] at z
   |some ds=>
    rw[ha] at z;simp only[mkO,AV.im.injEq] at z;subst z;simp only[rd];exact⟨vs,rfl,Mo hf Q ds _ (OE Q ys ds G ha) Z⟩
  |tup Q=>
   simp only[cvt,BF] at h;obtain⟨ys,G,z⟩:=h;simp only[conc] at hc;obtain⟨vs,rfl,Z⟩:=hc;cases ha:BQ ys with
   |none=>rw[ha] at z;simp[mkT] at z
   |some ds=>
    rw[ha] at z;simp only[mkT,AV.im.injEq] at z;subst z;simp only[rd];exact⟨vs,rfl,Mo hf Q ds _ (OE Q ys ds G ha) Z⟩
  |own o=>
   simp only[cvt] at h;obtain⟨G,z⟩:=Jy (by simp) h;exact frz_own hW hf (λe l=>O o e l G) z hc
  |mp o=>
   simp only[cvt] at h;obtain⟨G,z⟩:=Jy (by simp) h;exact frz_mp hW (λe l=>O o e l G) z hc
  |ptr o p=>
   cases p with
   |zero=>
    simp only[cvt] at h;obtain⟨G,z⟩:=Jy (by simp) h;exact frz_ptr hW hf (λe l=>O o e l G) z hc
   |succ p=>
    simp only[cvt] at h;obtain⟨G,z⟩:=Jy (by simp) h;cases z
  |eptr o i p=>
   simp only[cvt] at h;obtain⟨G,z⟩:=Jy (by simp) h;cases z
  |ch o=>
   simp only[cvt] at h;obtain⟨G,z⟩:=Jy (by simp) h;cases z
  |it o=>
   simp only[cvt] at h;obtain⟨G,z⟩:=Jy (by simp) h;cases z
  |osl o a k=>
   simp only[cvt] at h;obtain⟨G,z⟩:=Jy (by simp) h;cases z
  |clo g a c=>
   simp only[cvt] at h;cases ha:mapO (cvt S.h kx n) a with
   |none=>rw[ha] at h;simp[mkCO] at h
   |some a'=>
    cases hcc:mapO (cvt S.h kx n) c with
    |none=>rw[ha,hcc] at h;simp[mkCO] at h
    |some c'=>
     rw[ha,hcc] at h;simp only[mkCO,An] at h;cases G:BQ a' with
     |none=>rw[G] at h;simp[mkC] at h
     |some ds=>
      cases z:BQ c' with
      |none=>rw[G,z] at h;simp[mkC] at h
      |some es=>
       rw[G,z] at h;simp only[mkC,AV.im.injEq] at h;subst h;simp only[conc] at hc;obtain⟨va,vc,rfl,Z,h4⟩:=hc;simp only[rd];exact⟨va,vc,rfl,Mo hf a ds _ (OE a a' ds ha G) Z,Mo hf c es _ (OE c c' es hcc z) h4⟩
def T6{C:Ctx}{S S':Env}(hW:Wf C S){kx:Nat->Option Nat}{τ:Nat->Nat}(ac: ∀b,S.ok b->S'.ok b/\S'.hp b=S.hp b)(ab: ∀o e l,kx o=none->S.h o=some e->e.2.isView=false->S.ρ o=some l->S.ok l.b)
 (O: ∀o j,kx o=some j-> ∀e',S'.h (τ j)=some e'-> ∃e,S.h o=some e/\S'.ρ (τ j)=S.ρ o/\e'.2.esz=e.2.esz/\e'.2.len=e.2.len):
 ∀(n:Nat) (x y:AV) (v:Value),cvt S.h kx n x=some y->conc S x v->conc S' (y.ren τ) v:=by
 intro n;induction n with
 |zero=>intro x y v h;simp[cvt] at h
 |succ n ih=>
  have hm: ∀(cs ys:List AV) (vs:List Value),mapO (cvt S.h kx n) cs=some ys->Ap S cs vs->Ap S' (renL τ ys) vs:=by
   intro cs;induction cs with
   |nil=>
    intro ys vs h hc;simp only[mapO,An] at h;subst h;simpa only[renL,Ap] using hc
   |cons x cs af=>
    intro ys vs h hc;simp only[mapO] at h;simp only[Ap] at hc;obtain⟨v,r,rfl,Q,Z⟩:=hc;split at h
    .rename_i z zs hz ad;obtain rfl:=Al h;simp only[renL,Ap];exact⟨v,r,rfl,ih x z v hz Q,af zs r ad Z⟩
    .cases h
  intro x y v h hc;have hB: ∀d,y= .im d->conc S' (y.ren τ) v:=by
   intro d hd;subst hd;simp only[AV.ren,conc];exact Dp ac d v (cvt_rd hW ab (n+1) x d v h hc)
  have hK: ∀(f:Nat->AV) (g:Option D) (o:Nat),kp f g (kx o)=some y->(∀j,kx o=some j->conc S' ((f j).ren τ) v)->conc S' (y.ren τ) v:=by
   intro f g o Q Z;cases hk:kx o with
   |none=>
    rw[hk] at Q;simp only[kp,BF] at Q;obtain⟨d,_,rfl⟩:=Q;exact hB d rfl
   |some j=>
    rw[hk] at Q;simp only[kp,An] at Q;rw[<-Q];exact Z j hk
  cases x with
  |im d=>
   simp only[cvt,An] at h;exact hB d h.symm
  |any=>
   simp only[cvt,An] at h;subst h;simp only[AV.ren,conc]
  |agg cs=>
   have h0:=h;simp only[cvt,BF] at h0;obtain⟨ys,Q,Z⟩:=h0;cases ha:BQ ys with
   |some ds=>rw[ha] at Z;exact hB _ Z.symm
   |none=>
    rw[ha] at Z;simp only[conc] at hc;obtain⟨vs,rfl,h3⟩:=hc;rw[<-Z];simp only[mkO,AV.ren,conc];exact⟨vs,rfl,hm cs ys _ Q h3⟩
  |tup cs=>
   have h0:=h;simp only[cvt,BF] at h0;obtain⟨ys,Q,Z⟩:=h0;cases ha:BQ ys with
   |some ds=>rw[ha] at Z;exact hB _ Z.symm
   |none=>
    rw[ha] at Z;simp only[conc] at hc;obtain⟨vs,rfl,h3⟩:=hc;rw[<-Z];simp only[mkT,AV.ren,conc];exact⟨vs,rfl,hm cs ys _ Q h3⟩
  |own o=>
   have h0:=h;simp only[cvt] at h0;refine hK _ _ o h0 ?_;intro j hj;simp only[conc,AV.ren] at hc⊢;refine⟨hc.1,?_⟩;intro e' G;obtain⟨e,he,hr,_,hl⟩:=O o j hj e' G;rw[hr,hl];exact hc.2 e he
  |mp o=>
   have h0:=h;simp only[cvt] at h0;refine hK _ _ o h0 ?_;intro j hj;simp only[conc,AV.ren] at hc⊢;refine⟨hc.1,?_⟩;intro e' G;obtain⟨e,he,hr,_,hl⟩:=O o j hj e' G;rw[hr];exact hc.2 e he
  |ptr o p=>
   have hp: ∀j,kx o=some j->conc S' ((AV.ptr j p).ren τ) v:=by
    intro j hj;simp only[conc,AV.ren] at hc⊢;refine⟨hc.1,?_⟩;intro e' G;obtain⟨e,he,hr,_,hl⟩:=O o j hj e' G;rw[hr];exact hc.2 e he
   cases p with
   |zero=>
    have h0:=h;simp only[cvt] at h0;exact hK _ _ o h0 hp
   |succ p=>
    have h0:=h;simp only[cvt] at h0;exact hK _ _ o h0 hp
  |eptr o i p=>
   have h0:=h;simp only[cvt] at h0;refine hK _ _ o h0 ?_;intro j hj;simp only[conc,AV.ren] at hc⊢;refine⟨hc.1,?_⟩;intro e' G;obtain⟨e,he,hr,hz,hl⟩:=O o j hj e' G;rw[hr,hz];exact hc.2 e he
  |ch o=>
   have h0:=h;simp only[cvt] at h0;refine hK _ _ o h0 ?_;intro j hj;simp only[conc,AV.ren] at hc⊢;refine⟨hc.1,?_⟩;intro e' G;obtain⟨e,he,hr,_,hl⟩:=O o j hj e' G;rw[hr];exact hc.2 e he
  |it o=>
   have h0:=h;simp only[cvt] at h0;refine hK _ _ o h0 ?_;intro j hj;simp only[conc,AV.ren] at hc⊢;refine⟨hc.1,?_⟩;intro e' G;obtain⟨e,he,hr,_,hl⟩:=O o j hj e' G;rw[hr];exact hc.2 e he
  |osl o a k=>
   have h0:=h;simp only[cvt] at h0;refine hK _ _ o h0 ?_;intro j hj;simp only[conc,AV.ren] at hc⊢;refine⟨hc.1,?_⟩;intro e' G;obtain⟨e,he,hr,hz,hl⟩:=O o j hj e' G;rw[hr,hz,hl];exact hc.2 e he
  |clo g a c=>
   have h0:=h;simp only[cvt] at h0;cases ha:mapO (cvt S.h kx n) a with
   |none=>rw[ha] at h0;simp[mkCO] at h0
   |some a'=>
    cases hcc:mapO (cvt S.h kx n) c with
    |none=>rw[ha,hcc] at h0;simp[mkCO] at h0
    |some c'=>
     rw[ha,hcc] at h0;simp only[mkCO,An] at h0;have aa:y= .clo g a' c'->conc S' (y.ren τ) v:=by
      intro hy;subst hy;simp only[conc] at hc;obtain⟨va,vc,rfl,h3,h4⟩:=hc;simp only[AV.ren,conc];exact⟨va,vc,rfl,hm a a' _ ha h3,hm c c' _ hcc h4⟩
     cases Q:BQ a' with
     |none=>rw[Q] at h0;exact aa (by rw[<-h0];rfl)
     |some ds=>
      cases Z:BQ c' with
      |none=>rw[Q,Z] at h0;exact aa (by rw[<-h0];rfl)
      |some es=>rw[Q,Z] at h0;exact hB _ h0.symm
def cellC(ti:TI):Option Ent->Option AV
 |some (_,.cells _ z)=>bif (ti.agg||ti.size==1) && z.length==ti.size then some (mkV ti.agg z) else none
 |_=>none
def cellP(h:Ag)(x:AV):Option TI->Option AV
 |none=>none
 |some ti=>match x with
  | .ptr o 0=>cellC ti (hget h o)
  |_=>none
def ER(P:Program)(s:Ac):ResultVar->Option AV
 | .tmp t=>some (tget s.tm t)
 | .cell a T=>cellP s.h (tget s.tm a) (tI P T)
def resV:List AV->AV
 |[x]=>x
 |xs=> .tup xs
def cell_run{P:Program}{C:Ctx}{N:Nat}{s:Ac}{S:Env}{a:Act}(hc:ConE C N s S a){x:ResultVar}{r:AV}(z:ER P s x=some r):
 ∃v,(match x with| .tmp t=>pure (a.tmps.getD t undef)| .cell c t=>do loadVar t (<-asAddr (a.tmps.getD c undef)):Sem Value).run P S.w= .ok v S.w/\conc S r v:=by
 cases x with
 |tmp t=>
  simp only[ER,An] at z;subst z;exact⟨a.eval (.tmp t),by simp[Act.eval],hc.tm t⟩
 |cell c T=>
  simp only[ER] at z;cases hT:tI P T with
  |none=>rw[hT] at z;simp[cellP] at z
  |some ti=>
   rw[hT] at z;simp only[cellP] at z;split at z
   .rename_i o ho;cases he:hget s.h o with
    |none=>rw[he] at z;simp[cellC] at z
    |some e=>
     rw[he] at z;obtain⟨mu,e⟩:=e;cases e<;>simp only[cellC,reduceCtorEq] at z;rename_i U cs;cases hb:(ti.agg||ti.size==1) && cs.length==ti.size<;>rw[hb] at z
     .simp at z
     .simp only[Bc,An] at z;subst z;simp only[Av,Dy,G4] at hb;have hS:S.h o=_:=(hc.h o).trans he;have aa:=hc.wf.obj o _ hS;simp only[objc] at aa;obtain⟨lc,vs,hl,ac,ab,O⟩:=aa;have h1:=hc.tm c;rw[ho] at h1;simp only[conc] at h1;obtain⟨l,Q,hv⟩:=h1.2 _ hS;rw[hl] at Q;obtain rfl:=Al Q;have G:=Ep _ _ O;have Z:=K9 hT (w:=S.w) (b:=lc.b) (p:=0) ab (by simp at G⊢;omega) hb.1;have ad:a.tmps.getD c undef= .pointer (some ⟨lc.b,0,none⟩):=by simpa[Act.eval,ac] using hv
      rw[D9,BX (by rw[G,hb.2];exact Ar _)] at Z;refine⟨if ti.agg then .agg vs.toList.toArray else vs.toList.headD undef,?_,O8 O hb.2 hb.1⟩;simp only[ad,asAddr,Sem.run_bind,Sem.run_pure,Result.andThen_ok];exact Z
   .cases z
def Og{P:Program}{C:Ctx}{N:Nat}{s:Ac}{S:Env}{a:Act}(hc:ConE C N s S a){fn:Func}{xs:List AV}(hx:mapO (ER P s) fn.results.toList=some xs):
 ∃v,(results fn a.tmps).run P S.w= .ok v S.w/\conc S (resV xs) v:=by
 have ab: ∀(O:List ResultVar) (xs:List AV),mapO (ER P s) O=some xs-> ∃z:List Value,(O.mapM λx=>(match x with
  | .tmp t=>pure (a.tmps.getD t undef)| .cell c t=>do loadVar t (<-asAddr (a.tmps.getD c undef)):Sem Value)).run P S.w= .ok z S.w/\Ap S xs z:=by
  intro O;induction O with
  |nil=>
   intro xs h;simp only[mapO,An] at h;subst h;exact⟨[],by simp,by simp only[Ap]⟩
  |cons x O ih=>
   intro xs h;simp only[mapO] at h;split at h
   .rename_i y ys hy aa;obtain rfl:=Al h;obtain⟨v,Q,G⟩:=cell_run hc hy;obtain⟨z,Z,h4⟩:=ih ys aa;refine⟨v::z,?_,by simp only[Ap];exact⟨v,z,rfl,G,h4⟩⟩;simp only[List.mapM_cons,Sem.run_bind,Q,Z,Result.andThen_ok,Sem.run_pure]
   .cases h
 obtain⟨z,Q,G⟩:=ab _ _ hx;have hl:=Ep _ _ G;have hm:(results fn a.tmps).run P S.w= .ok (if h:z.toArray.size=1 then z.toArray[0] else .tuple z.toArray) S.w:=by
  unfold results;rw[Yk]
  have: ∀(m:Sem (List Value)),m.run P S.w= .ok z S.w->((Functor.map List.toArray m)>>=λz=>(pure (if h:z.size=1 then z[0] else .tuple z):Sem Value)).run P S.w= .ok (if h:z.toArray.size=1 then z.toArray[0] else .tuple z.toArray) S.w:=by
   intro m hm;rw[Sem.run_bind]
   have:(Functor.map List.toArray m).run P S.w= .ok z.toArray S.w:=by
    rw[map_eq_pure_bind,Sem.run_bind,hm];rfl
   rw[this];rfl
  exact this _ Q
 refine⟨_,hm,?_⟩;cases xs with
 |nil=>
  simp only[Ap] at G;subst G;simp only[resV,conc];exact⟨#[],by simp,by simp[Ap]⟩
 |cons x xs=>
  cases xs with
  |nil=>
   simp only[Ap] at G;obtain⟨v,r,rfl,Z,rfl⟩:=G;simpa[resV] using Z
  |cons y xs=>
   have: ¬z.toArray.size=1:=by simp only[Gg];simp at hl;omega
   rw[dif_neg this];simp only[resV,conc];exact⟨_,rfl,G⟩
def entry:Nat->List AV->List (Nat×AV)
 |_,[]=>[]
 |i,x::r=>(i,x)::entry (i+1) r
def LK{S:Env}: ∀(args:List AV) (vs:List Value) (i t:Nat),Ap S args vs->conc S (tget (entry i args) t) (if i<=t then (vs[t - i]?).getD undef else undef)
 |[],vs,i,t,_=>by simp[entry,tget,conc]
 |x::args,vs,i,t,h=>by
  simp only[Ap] at h;obtain⟨v,r,rfl,G,O⟩:=h;simp only[entry,tget];cases hq:i==t
  .have Q:i≠t:=by simpa using hq
   have:=LK args r (i+1) t O
   simp only[AM];by_cases z:i+1<=t
   .rw[Af z] at this;rw[Af (by omega)];have e:t - i=(t - (i+1))+1:=by omega
    rw[e];simpa using this
   .rw[Ab z] at this;rw[Ab (by omega)];exact this
  .have:i=t:=by simpa using hq
   subst this;simpa using G
def LS: ∀(args:List AV) (i t:Nat),∀m∈(tget (entry i args) t).nms,m∈nmsL args
 |[],i,t,m,h=>by simp[entry,tget,AV.nms] at h
 |x::args,i,t,m,h=>by
  simp only[entry,tget] at h;simp only[nmsL,AG];cases hq:i==t<;>rw[hq] at h
  .exact .inr (LS args (i+1) t m (by simpa using h))
  .exact .inl (by simpa using h)
def idxL:List Nat->Nat->Nat->Option Nat
 |[],_,_=>none
 |x::r,o,k=>bif x==o then some k else idxL r o (k+1)
def kxOf(k:Nat)(ex:List Nat)(o:Nat):Option Nat:=bif Nat.blt o k then some o else idxL ex o k
def cvtE(f:AV->Option AV):AObj->Option AObj
 | .cells T z=>(mapO f z).map (.cells T)
 | .arr T k rows=>some (.arr T k rows)
 | .arrA T k rows=>(mapO (mapO f) rows).map (.arrA T k)
 | .map O G=>some (.map O G)
 | .chan q cap=>some (.chan q cap)
 | .iter a l=>some (.iter a l)
 | .view z=>some (.view z)
def consE(j:Nat)(z:Bool):Option AObj->Option Ag->Option Ag
 |some e,some r=>some ((j,(z,e))::r)
 |some _,none=>none
 |none,_=>none
def klE(f:AV->Option AV)(j:Nat)(r:Option Ag):Option Ent->Option Ag
 |none=>r
 |some (z,e)=>consE j z (cvtE f e) r
def outKl(h:Nat->Option Ent)(f:AV->Option AV):List Nat->Option Ag
 |[]=>some []
 |j::r=>klE f j (outKl h f r) (h j)
def exE(f:AV->Option AV)(j:Nat)(r:Option Ag):Option Ent->Option Ag
 |none=>none
 |some (false,_)=>none
 |some (true,e)=>consE j true (cvtE f e) r
def outEx(h:Nat->Option Ent)(f:AV->Option AV):List Nat->Nat->Option Ag
 |[],_=>some []
 |x::r,j=>exE f j (outEx h f r (j+1)) (h x)
def appO:Option Ag->Option Ag->Option Ag
 |some a,some b=>some (a++b)
 |some _,none=>none
 |none,_=>none
def roOk(h:Nat->Option Ent)(z:List Nat):Ag->Prop
 |[]=>True
 |(j,e)::r=>(bif z.contains j then True else h j=some e)/\roOk h z r
def exOk(k:Nat):List Nat->Bool
 |[]=>true
 |x::r=>Nat.ble k x && (!r.contains x && exOk k r)
abbrev RetR:=AV->Ag->Nat->Prop
def retO3(R:RetR)(cnt:Nat):Option AV->Option Ag->Prop
 |some r,some H=>R r H cnt
 |some _,none=>False
 |none,_=>False
def retO2(k:Nat)(z:List Nat)(H0:Ag)(R:RetR)(s:Ac)(ex:List Nat)(x:AV):Prop:=
 exOk k ex=true/\roOk (hget s.h) z H0/\retO3 R ex.length (cvt (hget s.h) (kxOf k ex) 9 x) (appO (outKl (hget s.h) (cvt (hget s.h) (kxOf k ex) 9) z) (outEx (hget s.h) (cvt (hget s.h) (kxOf k ex) 9) ex k))
def retO1(k:Nat)(G:List Nat)(z:Ac->AV->List Nat)(H0:Ag)(R:RetR)(s:Ac):Option (List AV)->Prop
 |some xs=>retO2 k G H0 R s (z s (resV xs)) (resV xs)
 |none=>False
def retO(P:Program)(O:List ResultVar)(k:Nat)(G:List Nat)(z:Ac->AV->List Nat)(H0:Ag)(R:RetR)(s:Ac):Prop:=retO1 k G z H0 R s (mapO (ER P s) O)
def retQ(P:Program)(O:List ResultVar)(k:Nat)(G:List Nat)(z:Ac->AV->List Nat)(H0:Ag)(R:RetR):Be
 | .normal,s=>retO P O k G z H0 R s
 | .ret,s=>retO P O k G z H0 R s
 | .exit _,_=>False
def exNo(_:Ac)(_:AV):List Nat:=[]
def geK(k:Nat):List Nat->List Nat
 |[]=>[]
 |x::r=>bif Nat.ble k x then x::geK k r else geK k r
def exRes(k:Nat)(_:Ac)(x:AV):List Nat:=geK k x.nms
def LeV(r r':AV):Prop:= ∀(σ:Nat->Nat) (S:Env) (v:Value),conc S (r.ren σ) v->conc S (r'.ren σ) v
def LeE(e e':Ent):Prop:=e.1=e'.1/\e.2.esz=e'.2.esz/\e.2.len=e'.2.len/\e.2.isView=e'.2.isView/\ ∀(σ:Nat->Nat) (S:Env) (l:Option Loc),objc S l (e.2.ren σ)->objc S l (e'.2.ren σ)
def LeH:Ag->Ag->Prop
 |[],[]=>True
 |(j,e)::r,(j',e')::r'=>j=j'/\LeE e e'/\LeH r r'
 |[],_::_=>False
 |_::_,[]=>False
def LeV.refl(r:AV):LeV r r:=λ_ _ _ h=>h
def LeE.refl(e:Ent):LeE e e:=⟨rfl,rfl,rfl,rfl,λ_ _ _ h=>h⟩
def LeH.refl: ∀(H:Ag),LeH H H
 |[]=>trivial
 |(_,e)::r=>⟨rfl,LeE.refl e,LeH.refl r⟩
def LeH.get: ∀{H H':Ag},LeH H H'-> ∀n,(hget H' n=none/\hget H n=none)\/ ∃e e',hget H n=some e/\hget H' n=some e'/\LeE e e'
 |[],[],_,n=> .inl ⟨rfl,rfl⟩
 |(j,e)::r,(j',e')::r',h,n=>by
  obtain⟨rfl,z,G⟩:=h;simp only[hget];cases hq:j==n
  .simpa using LeH.get G n
  .exact .inr ⟨e,e',by simp,by simp,z⟩
def sg(os:List Nat)(nx j:Nat):Nat:=match os[j]? with
 |some o=>o
 |none=>nx+(j - os.length)
def renH(σ:Nat->Nat):Ag->Ag
 |[]=>[]
 |(j,(z,e))::r=>(σ j,(z,e.ren σ))::renH σ r
def P1{σ:Nat->Nat}: ∀{H:Ag} {n:Nat} {e':Ent},hget (renH σ H) n=some e'-> ∃j e,(j,e)∈H/\σ j=n/\e'=(e.1,e.2.ren σ)
 |[],n,e',h=>by simp[renH,hget] at h
 |(j,(Q,e))::r,n,e',h=>by
  simp only[renH,hget] at h;cases hq:σ j==n<;>rw[hq] at h
  .obtain⟨j',x,z,G,O⟩:=P1 (H:=r) (by simpa using h);exact⟨j',x,by simp[z],G,O⟩
  .simp only[Bc,An] at h;exact⟨j,(Q,e),by simp,by simpa using hq,h.symm⟩
def Nr{σ:Nat->Nat}(hσ: ∀i j,σ i=σ j->i=j): ∀(H:Ag) (j:Nat),hget (renH σ H) (σ j)=(hget H j).map λe=>(e.1,e.2.ren σ)
 |[],j=>rfl
 |(i,(Q,e))::r,j=>by
  simp only[renH,hget];by_cases z:i=j
  .subst z;simp
  .have G:(i==j)=false:=by simpa using z
   have O:(σ i==σ j)=false:=by rw[Ef];exact λh=>z (hσ _ _ h)
   rw[G,O];simpa using Nr hσ r j
def KI: ∀{H:Ag} {n:Nat} {e:Ent},hget H n=some e->(n,e)∈H
 |[],n,e,h=>by simp[hget] at h
 |(i,x)::r,n,e,h=>by
  simp only[hget] at h;cases hq:i==n<;>rw[hq] at h
  .exact AX _ (KI (by simpa using h))
  .have:i=n:=by simpa using hq
   subst this;simp only[Bc,An] at h;subst h;simp
def TX{C:Ctx}{S S':Env}(hW:Wf C S){kx:Nat->Option Nat}{τ:Nat->Nat}(Q: ∀b,S.ok b->S'.ok b/\S'.hp b=S.hp b)(ah: ∀o e l,kx o=none->S.h o=some e->e.2.isView=false->S.ρ o=some l->S.ok l.b)
 (ag: ∀o j,kx o=some j-> ∀e',S'.h (τ j)=some e'-> ∃e,S.h o=some e/\S'.ρ (τ j)=S.ρ o/\e'.2.esz=e.2.esz/\e'.2.len=e.2.len)
 {n:Nat}{e e':AObj}(h:cvtE (cvt S.h kx n) e=some e'):(e'.esz=e.esz/\e'.len=e.len)/\ ∀l,(∀O,l=some O->S'.hp O.b=S.hp O.b)->objc S l e->objc S' l (e'.ren τ):=by
 have hm: ∀(cs Z:List AV) (vs:List Value),mapO (cvt S.h kx n) cs=some Z->Ap S cs vs->Ap S' (renL τ Z) vs:=by
  intro cs;induction cs with
  |nil=>
   intro Z vs h hc;simp only[mapO,An] at h;subst h;simpa only[renL,Ap] using hc
  |cons x cs ad=>
   intro Z vs h hc;simp only[mapO] at h;simp only[Ap] at hc;obtain⟨v,r,rfl,G,h2⟩:=hc;split at h
   .rename_i z zs hz ac;obtain rfl:=Al h;simp only[renL,Ap];exact⟨v,r,rfl,T6 hW Q ah ag n x z v hz G,ad zs r ac h2⟩
   .cases h
 have an: ∀(cs Z:List AV) (vs:List Value),mapO (cvt S.h kx n) cs=some Z->Bg S cs vs->Bg S' (renL τ Z) vs:=by
  intro cs;induction cs with
  |nil=>
   intro Z vs h hc;simp only[mapO,An] at h;subst h;simp only[renL,Bg]
  |cons x cs ad=>
   intro Z vs h hc;simp only[mapO] at h;simp only[Bg] at hc;obtain⟨v,r,rfl,G,h2⟩:=hc;split at h
   .rename_i z zs hz ac;obtain rfl:=Al h;simp only[renL,Bg];exact⟨v,r,rfl,T6 hW Q ah ag n x z v hz G,ad zs r ac h2⟩
   .cases h
 have ao: ∀(k:Nat) (rs Z:List (List AV)) (vs:List Value),mapO (mapO (cvt S.h kx n)) rs=some Z->AN S k rs vs->AN S' k (Z.map (renL τ)) vs:=by
  intro k rs;induction rs with
  |nil=>
   intro Z vs h hc;simp only[mapO,An] at h;subst h;simp only[D2,AN]
  |cons x rs ad=>
   intro Z vs h hc;simp only[mapO] at h;simp only[AN] at hc;split at h
   .rename_i z zs hz ac;obtain rfl:=Al h;simp only[Ay,AN,TG];exact⟨(KF _ _ hz).trans hc.1,an x z _ hz hc.2.1,ad zs _ ac hc.2.2⟩
   .cases h
 cases e<;>simp only[cvtE] at h
 case view cs=>
  obtain rfl:=Al h;refine⟨⟨rfl,rfl⟩,λl hl h=> ?_⟩;simp only[AObj.ren,objc] at h⊢;obtain⟨O,vs,T,fr,G,h2,h3⟩:=h;exact⟨O,vs,T,fr,G,(hl O G).trans h2,Jg Q cs _ h3⟩
 case cells T cs=>
  simp only[BF] at h;obtain⟨Z,G,rfl⟩:=h;refine⟨⟨rfl,rfl⟩,λl hl h=> ?_⟩;simp only[AObj.ren,objc] at h⊢;obtain⟨O,vs,g1,g2,g3,g4⟩:=h;exact⟨O,vs,g1,g2,(hl O g1).trans g3,hm cs Z _ G g4⟩
 case arr T k rows=>
  obtain rfl:=Al h;refine⟨⟨rfl,rfl⟩,λl hl h=> ?_⟩;simp only[AObj.ren,objc] at h⊢;refine⟨h.1,?_⟩;cases l with
  |none=>exact h.2
  |some O=>
   obtain⟨h0,G,vs,h2,h3,h4⟩:=h;exact⟨G,vs,(hl O rfl).trans h2,h3,Jh Q k rows _ h4⟩
 case arrA T k rows=>
  simp only[BF] at h;obtain⟨Z,G,rfl⟩:=h;have af:=KF _ _ G;refine⟨⟨rfl,af⟩,λl hl h=> ?_⟩;simp only[AObj.ren,objc,Dz,af] at h⊢;refine⟨h.1,?_⟩;cases l with
  |none=>
   have:=h.2
   subst this;simp only[mapO,An] at G;subst G;rfl
  |some O=>
   obtain⟨h0,h2,vs,h3,h4,h5⟩:=h;exact⟨h2,vs,(hl O rfl).trans h3,h4,ao k rows Z _ G h5⟩
 case map kt es=>
  obtain rfl:=Al h;refine⟨⟨rfl,rfl⟩,λl hl h=> ?_⟩;simp only[AObj.ren,objc] at h⊢;obtain⟨O,ab,aa,G,h0,h2,h3,h4⟩:=h;exact⟨O,ab,aa,G,h0,(hl O G).trans h2,Fe Q es _ h3,h4⟩
 case chan q cap=>
  obtain rfl:=Al h;refine⟨⟨rfl,rfl⟩,λl hl h=> ?_⟩;simp only[AObj.ren,objc] at h⊢;obtain⟨O,am,ak,ai,G,h2,h3⟩:=h;exact⟨O,am,ak,ai,G,(hl O G).trans h2,Ff Q q _ h3⟩
 case iter last left=>
  obtain rfl:=Al h;refine⟨⟨rfl,rfl⟩,λl hl h=> ?_⟩;simp only[AObj.ren,objc] at h⊢;obtain⟨O,mb,ab,aa,aj,G,h2,h0,h3,h4,h5,h6,h7⟩:=h;exact⟨O,mb,ab,aa,aj,G,(Q mb h2).1,SO Q last h0,(Q mb h2).2.trans h3,(hl O G).trans h4,h5,h6,Fe Q left _ h7⟩
def cvtE_view{f:AV->Option AV}{e e':AObj}(h:cvtE f e=some e'):e'.isView=e.isView:=by
 cases e<;>simp only[cvtE,BF,An] at h
 .obtain⟨_,_,rfl⟩:=h;rfl
 .subst h;rfl
 .obtain⟨_,_,rfl⟩:=h;rfl
 all_goals subst h;rfl
def Le(d d':D):Prop:= ∀ok hp v,rd ok hp d v->rd ok hp d' v
def LeS:List D->List D->Prop
 |[],[]=>True
 |d::r,d'::r'=>Le d d'/\LeS r r'
 |[],_::_=>False
 |_::_,[]=>False
def Le.refl(d:D):Le d d:=λ_ _ _ h=>h
def LeS.refl: ∀(ds:List D),LeS ds ds
 |[]=>trivial
 |d::ds=>⟨Le.refl d,LeS.refl ds⟩
def LeS.len: ∀{a b:List D},LeS a b->a.length=b.length
 |[],[],_=>rfl
 |_::_,_::_,h=>by simp[LeS.len h.2]
def LeS.rdl: ∀{a b:List D},LeS a b-> ∀ok hp z,Ae.rdl ok hp a z->Ae.rdl ok hp b z
 |[],[],_,ok,hp,z,h=>h
 |_::_,_::_,G,ok,hp,z,h=>by
  simp only[Ae.rdl] at h⊢;obtain⟨v,r,rfl,O,Q⟩:=h;exact⟨v,r,rfl,G.1 _ _ _ O,LeS.rdl G.2 _ _ _ Q⟩
def LeP:List D->List D->Prop
 |_,[]=>True
 |d::r,d'::r'=>Le d d'/\LeP r r'
 |[],_::_=>False
def LeP.rdp: ∀{a b:List D},LeP a b-> ∀ok hp z,Ae.rdp ok hp a z->Ae.rdp ok hp b z
 |_,[],_,ok,hp,z,h=>by simp only[Ae.rdp]
 |_::_,_::_,G,ok,hp,z,h=>by
  simp only[Ae.rdp] at h⊢;obtain⟨v,r,rfl,O,Q⟩:=h;exact⟨v,r,rfl,G.1 _ _ _ O,LeP.rdp G.2 _ _ _ Q⟩
 |[],_::_,h,_,_,_,_=>h.elim
def LeS.leP: ∀{a b:List D},LeS a b->LeP a b
 |[],[],_=>trivial
 |_::_,_::_,h=>⟨h.1,LeS.leP h.2⟩
def LeP.refl(a:List D):LeP a a:=(LeS.refl a).leP
def LeP.trans_take: ∀{n:Nat} {a b:List D},LeS (a.take n) b->LeP a b
 |0,a,[],_=>by cases a<;>trivial
 |_+1,[],[],_=>trivial
 |n+1,x::a,y::b,h=>⟨h.1,LeP.trans_take (n:=n) h.2⟩
 |n+1,x::a,[],h=>h.elim
 |n+1,[],y::b,h=>h.elim
 |0,a,y::b,h=>by cases a<;>exact h.elim
def GI{a b:List D}(h:LeS a b):Le (.agg a) (.agg b):=by
 intro ok hp v z;simp only[Ae.rd] at z⊢;obtain⟨O,rfl,G⟩:=z;exact⟨O,rfl,h.rdl _ _ _ G⟩
def le_tup{a b:List D}(h:LeS a b):Le (.tup a) (.tup b):=by
 intro ok hp v z;simp only[Ae.rd] at z⊢;obtain⟨O,rfl,G⟩:=z;exact⟨O,rfl,h.rdl _ _ _ G⟩
def LeR:List (List D)->List (List D)->Prop
 |[],[]=>True
 |r::G,r'::z=>LeS r r'/\LeR G z
 |[],_::_=>False
 |_::_,[]=>False
def LeR.len: ∀{a b:List (List D)},LeR a b->a.length=b.length
 |[],[],_=>rfl
 |_::_,_::_,h=>by simp[LeR.len h.2]
def LeR.rdr: ∀{a b:List (List D)} {k k':Nat},LeR a b->(∀r∈b,r.length=k')-> ∀ok hp z,Ae.rdr ok hp k a z->Ae.rdr ok hp k' b z
 |[],[],_,_,_,_,ok,hp,z,h=>by simp only[Ae.rdr]
 |r::rs,r'::aa,k,k',G,Q,ok,hp,z,h=>by
  simp only[Ae.rdr] at h⊢;have Z:=G.1.len;have O:=Q r' (by simp)
  have:k=k':=by rw[<-h.1,Z,O]
  subst this;exact⟨O,G.1.leP.rdp _ _ _ h.2.1,LeR.rdr G.2 (λx hx=>Q x (by simp[hx])) _ _ _ h.2.2⟩
def BL{nz:Bool}{k k':Nat}{a b:List (List D)}(h:LeR a b)(hk: ∀r∈b,r.length=k'):Le (.sl nz k a) (.sl false k' b):=by
 intro ok hp v O;simp only[Ae.rd] at O⊢;rcases O with ⟨z,G⟩|⟨Q,p,cap,vs,T,Z,z,G,h3,h4,h5,h6,h7⟩
 .subst G;cases b with
  |nil=>exact .inl ⟨slM_false z,rfl⟩
  |cons _ _=>exact h.elim
 .exact .inr ⟨Q,p,cap,vs,T,Z,by rw[<-h.len];exact z,by simp,by rw[<-h.len];exact h3,by rw[<-h.len];exact h4,h5,h6,h.rdr hk _ _ _ h7⟩
def Hy{g:FuncId}{a b:List D}(h:LeS a b):Le (.fn g [] a) (.fn g [] b):=by
 intro ok hp v z;simp only[Ae.rd] at z⊢;obtain⟨x,y,G,O,Q⟩:=z;exact⟨x,y,G,O,h.rdl _ _ _ Q⟩
def le_fn1{g:FuncId}{a b:List D}(h:LeS a b):Le (.fn g a []) (.fn g b []):=by
 intro ok hp v z;simp only[rd] at z⊢;obtain⟨x,c,rfl,G,O⟩:=z;exact⟨x,c,rfl,h.rdl _ _ _ G,O⟩
def Ha{a b:List D}(h:LeP a b):Le (.ref a) (.ref b):=by
 intro ok hp v z;simp only[Ae.rd] at z⊢;obtain⟨G,p,vs,T,O,Q,Z,h3,h4⟩:=z;exact⟨G,p,vs,T,O,Q,Z,h3,h.rdp _ _ _ h4⟩
def decR{A:Type}(f:List D->Option A):List (List D)->Option (List A)
 |[]=>some []
 |r::z=>match f r,decR f z with
  |some x,some xs=>some (x::xs)
  |_,_=>none
def FS{A:Type}{f:List D->Option A}{e:A->List D}(h: ∀x,f (e x)=some x): ∀(l:List A),decR f (l.map e)=some l
 |[]=>rfl
 |x::l=>by simp only[Ay,decR,h x,FS h l]
def BG{A:Type}{f:List D->Option A}{e:A->List D}(h: ∀ds x,f ds=some x->LeS ds (e x)): ∀(rows:List (List D)) (l:List A),decR f rows=some l->LeR rows (l.map e)
 |[],l,z=>by simp only[decR,An] at z;subst z;trivial
 |r::Q,l,z=>by
  simp only[decR] at z;split at z
  .rename_i x xs O G;obtain rfl:=Al z;exact⟨h r x O,BG h Q xs G⟩
  .cases z
abbrev Row:=List AV->(Nat->Option Ent)->Nat->Kont->Prop
def tab:List (Nat×Row)->B0
 |[],_,_,_,_,_=>False
 |p::r,g,args,h,nx,K=>if p.1=g then p.2 args h nx K else tab r g args h nx K
def Ak(P:Program)(g:Nat)(c:Row):Prop:= ∀args h nx K,c args h nx K->Me P g/\ ∃r E,CallT P g args h nx r E/\K r E
def G5{P:Program}: ∀(l:List (Nat×Row)),(∀p∈l,Ak P p.1 p.2)->E7 P (tab l)
 |[],_=>λ_ _ _ _ _ h=>h.elim
 |p::r,G=>by
  intro g args h nx K z;simp only[tab] at z;split at z
  .rename_i O;subst O;exact G p (by simp) args h nx K z
  .exact G5 r (λq hq=>G q (by simp[hq])) g args h nx K z
def calb(P:Program)(g:Nat):Bool:=match P.funcs[g]? with
 |some fn=>Nat.blt g 1000000000 && (!(fn.name== "runtime.NumGoroutine") && !fn.body.isNone)
 |none=>false
def FW{P:Program}{g:Nat}(h:calb P g=true):Me P g:=by
 unfold calb at h;split at h
 .rename_i fn hf;simp only[Av,EX] at h;exact⟨by simpa using h.1,fn,hf,h.2.1,h.2.2⟩
 .cases h
inductive PK where
 |val (d:D)
 |ptr (cs:List D)
def B7:Nat->List PK->List AV
 |_,[]=>[]
 |j,.val d::r=> .im d::B7 j r
 |j,.ptr _::r=> .ptr j 0::B7 (j+1) r
def BH:Nat->List PK->Ag
 |_,[]=>[]
 |j,.val _::r=>BH j r
 |j,.ptr z::r=>(j,(false,.view z))::BH (j+1) r
def cnum:List PK->Nat
 |[]=>0
 | .val _::r=>cnum r
 | .ptr _::r=>cnum r+1
def PKc(S:Env):PK->Value->Prop
 | .val d,v=>rd S.ok S.hp d v
 | .ptr G,v=> ∃b p z T O,v= .pointer (some ⟨b,p,none⟩)/\b<S.w.heap.size/\S.hp b=some (.cells z T O)/\rdp S.ok S.hp G (z.toList.drop p)
def PKL(S:Env):List PK->List Value->Prop
 |[],z=>z=[]
 |p::G,z=> ∃v r,z=v::r/\PKc S p v/\PKL S G r
def LeK:PK->PK->Prop
 | .val d,.val d'=>Le d d'
 | .ptr a,.ptr b=>LeP a b
 | .val _,.ptr _=>False
 | .ptr _,.val _=>False
def LeKL:List PK->List PK->Prop
 |[],[]=>True
 |p::r,p'::r'=>LeK p p'/\LeKL r r'
 |[],_::_=>False
 |_::_,[]=>False
def LeK.c{S:Env}{p p':PK}{v:Value}(h:LeK p p')(z:PKc S p v):PKc S p' v:=by
 cases p<;>cases p'<;>simp only[LeK] at h<;>simp only[PKc] at z⊢
 .exact h _ _ _ z
 .obtain⟨b,p,vs,T,G,O,Q,Z,h4⟩:=z;exact⟨b,p,vs,T,G,O,Q,Z,h.rdp _ _ _ h4⟩
def LeKL.c{S:Env}: ∀{a b:List PK} {vs:List Value},LeKL a b->PKL S a vs->PKL S b vs
 |[],[],_,_,h=>h
 |_::_,_::_,vs,z,h=>by
  simp only[PKL] at h⊢;obtain⟨v,r,rfl,G,O⟩:=h;exact⟨v,r,rfl,z.1.c G,LeKL.c z.2 O⟩
def LeK.refl(p:PK):LeK p p:=by cases p;exact Le.refl _;exact LeP.refl _
def LeKL.refl: ∀(a:List PK),LeKL a a
 |[]=>trivial
 |p::a=>⟨LeK.refl p,LeKL.refl a⟩
def PKL.len{S:Env}: ∀{ps:List PK} {vs:List Value},PKL S ps vs->vs.length=ps.length
 |[],vs,h=>by simp only[PKL] at h;simp[h]
 |_::_,vs,h=>by
  simp only[PKL] at h;obtain⟨v,r,rfl,_,z⟩:=h;simp[PKL.len z]
def Je: ∀(j:Nat) (ps:List PK),(B7 j ps).length=ps.length
 |_,[]=>rfl
 |j,.val _::r=>by simp[B7,Je j r]
 |j,.ptr _::r=>by simp[B7,Je (j+1) r]
def DT: ∀(j:Nat) (ps:List PK) (n:Nat) (e:Ent),hget (BH j ps) n=some e->(j<=n/\n<j+cnum ps)/\ ∃z,e=(false,.view z)
 |_,[],n,e,h=>by simp[BH,hget] at h
 |j,.val _::r,n,e,h=>by simpa[BH,cnum] using DT j r n e h
 |j,.ptr z::r,n,e,h=>by
  simp only[BH,hget] at h;simp only[cnum];cases hq:j==n<;>rw[hq] at h
  .obtain⟨O,G⟩:=DT (j+1) r n e (by simpa using h);exact⟨by omega,G⟩
  .have:j=n:=by simpa using hq
   simp only[Bc,An] at h;exact⟨by omega,z,h.symm⟩
def O0: ∀(j:Nat) (ps:List PK) (n:Nat),j+cnum ps<=n-> ∀m∈nmsL (B7 j ps),m<n
 |_,[],n,_,m,z=>by simp[B7,nmsL] at z
 |j,.val _::r,n,h,m,z=>by
  simp only[B7,nmsL,AV.nms,D1] at z;exact O0 j r n h m z
 |j,.ptr _::r,n,h,m,z=>by
  simp only[B7,nmsL,AV.nms,AG,AO] at z;simp only[cnum] at h;rcases z with rfl|z
  .omega
  .exact O0 (j+1) r n (by omega) m z
def OV{S:Env}: ∀(ps:List PK) (vs:List Value) (j:Nat),PKL S ps vs-> ∃Q:Nat->Option Loc,
 (∀n e,hget (BH j ps) n=some e-> ∃l,Q n=some l/\l.b<S.w.heap.size/\objc S (some l) e.2)/\
 ∀(z:Env),z.ok=S.ok->z.w=S.w->(∀n,(∃e,hget (BH j ps) n=some e)->z.ρ n=Q n/\z.h n=hget (BH j ps) n)->Ap z (B7 j ps) vs
 |[],vs,j,h=>by
  simp only[PKL] at h;exact⟨λ_=>none,λn e G=>by simp[BH,hget] at G,λz _ _ _=>by simp only[B7,Ap];exact h⟩
 | .val d::ps,vs,j,h=>by
   simp only[PKL] at h;obtain⟨v,r,rfl,h1,h2⟩:=h;obtain⟨Q,h3,h4⟩:=OV ps r j h2;refine⟨Q,by simpa only[BH] using h3,?_⟩;intro z O hw hS;simp only[B7,Ap,conc];refine⟨v,r,rfl,?_,h4 z O hw (by simpa only[BH] using hS)⟩
   have:z.hp=S.hp:=by unfold Env.hp;rw[hw]
   rw[O,this];exact h1
 | .ptr cs::ps,vs,j,h=>by
   simp only[PKL] at h;obtain⟨v,r,rfl,h1,h2⟩:=h;obtain⟨Q,h3,h4⟩:=OV ps r (j+1) h2;obtain⟨b,p,cells,T,fr,rfl,hb,hc,hr⟩:=h1;refine⟨λn=>if n=j then some ⟨b,p,0⟩ else Q n,?_,?_⟩
   .intro n e G;simp only[BH,hget] at G;cases hq:j==n<;>rw[hq] at G
    .have:n≠j:=λh'=>by subst h';simp at hq
     simp only[Ab this];exact h3 n e (by simpa using G)
    .have:n=j:=(by simpa using hq:j=n).symm
     simp only[Bc,An] at G;subst G;simp only[Af this];refine⟨_,rfl,hb,?_⟩;simp only[objc];exact⟨_,cells,T,fr,rfl,hc,hr⟩
   .intro z O hw hS;simp only[B7,Ap,conc];refine⟨_,r,rfl,⟨rfl,?_⟩,h4 z O hw ?_⟩
    .intro e G;have hj:=hS j ⟨(false,.view cs),by simp only[BH,hget,P6,Bc]⟩;rw[hj.1];simp
    .rintro n ⟨e,G⟩;have hn:=(DT (j+1) ps n e G).1;have Z:n≠j:=by omega
     have hq:(j==n)=false:=by rw[Ef];exact λh=>Z h.symm
     have:=hS n ⟨e,by simp only[BH,hget,hq,AM];exact G⟩
     simp only[Ab Z,BH,hget,hq,AM] at this;exact this
def view_run{P:Program}(HM:P.follows .mixedOrders=true){V:B0}(hV:E7 P V){g:FuncId}{fn:Func}{c:Code}(hf:P.funcs[g]? =some fn)(hb:fn.body=some c)(ah:chk fn.ntmps c=true)
 {ps:List PK}(a0:ps.length<=fn.ntmps){R:RetR}{r0:D}(hR: ∀r H n,R r H n-> ∃d,r= .im d/\Le d r0)
 (hk:awp P V c (retQ P fn.results.toList (cnum ps) [] exNo (BH 0 ps) R) ⟨entry 0 (B7 0 ps),BH 0 ps,cnum ps⟩)
 {C:Ctx}{S:Env}{vs:Array Value}{RR:Ending->World->Prop}(hW:Wf C S)(am:PKL S ps vs.toList)
 (aj: ∀v S',Wf C S'->S'.h=S.h->Pres (λ_=>True) S S'->rd S'.ok S'.hp r0 v->RR (.returned v) S'.w):Calls P g vs S.w RR:=by
 refine calls_of_wp hf hb ?_;have az:vs.size=(B7 0 ps).length:=by rw[Je];simpa using am.len
 obtain⟨ls,ak,hcl⟩:=OV ps vs.toList 0 am
 let S0:Env:=⟨ls,S.ok,hget (BH 0 ps),S.w⟩
 let C0:Ctx:=⟨S.w,λ_=>False,S.ok,0,λ_=>none,λ_=>none,[]⟩
 have as:Wf C0 S0:=by
  refine⟨rfl,rfl,rfl,Ar _,λ_ _ _=>rfl,λ_ hb=>hb,λ_ hb=> .inl hb,hW.oks,?_,?_,?_,hW.glN λ_ h=>h.elim⟩
  .intro n e z;obtain⟨l,G,_,Z⟩:=ak n e z;have h4:S0.ρ n=some l:=G;rw[h4];obtain⟨_,cs,rfl⟩:=DT 0 ps n e z;simp only[objc] at Z⊢;exact Z
  .intro n e l z hl;obtain⟨l',G,h2,Z⟩:=ak n e z;have h4:S0.ρ n=some l':=G;rw[h4] at hl;obtain rfl:=Al hl;obtain⟨_,cs,rfl⟩:=DT 0 ps n e z;exact⟨h2,.inr rfl⟩
  .intro n n' e e' l l' z ad hl ba a9 av;obtain⟨_,cs,rfl⟩:=DT 0 ps n e z;obtain⟨_,a8,rfl⟩:=DT 0 ps n' e' ad;simp at av
 have au:Con C0 fn.ntmps ⟨entry 0 (B7 0 ps),BH 0 ps,cnum ps⟩ {tmps:=vs++Array.replicate (fn.ntmps - vs.size) undef,defers:=[]} S.w:=by
  have aa:Ap S0 (B7 0 ps) vs.toList:=hcl S0 rfl rfl (λn _=>⟨rfl,rfl⟩);refine⟨S0,rfl,as,λn=>rfl,?_,?_,?_,by simp;rw[Je] at az;omega,rfl,Bj _,λo ho=>absurd ho (M4 _)⟩
  .intro t;have G:=LK (S:=S0) (B7 0 ps) vs.toList 0 t aa;simp only[Bj,AQ,JA] at G
   have:({tmps:=vs++Array.replicate (fn.ntmps - vs.size) undef,defers:=[]}:Act).eval (.tmp t)=(vs.toList[t]?).getD undef:=by
    simp only[Act.eval,DO,P9,L0];by_cases ht:t<vs.size
    .simp[ht]
    .simp only[ht,Bp]
     have:vs[t]? =none:=IT (by omega)
     simp only[Dx,this]
     split<;>rfl
   rw[this];exact G
  .intro t m hm;exact O0 0 ps (cnum ps) (by omega) m (LS (B7 0 ps) 0 t m hm)
  .intro n e z;obtain⟨G,cs,rfl⟩:=DT 0 ps n e z;exact⟨by show n<cnum ps;omega,by simp[AObj.nms]⟩
 refine wp_mono (SZ HM (Ll hV) c ah _ _ _ _ hk au) ?_;have fin: ∀(s:Ac) (a:Act) (w:World),retO P fn.results.toList (cnum ps) [] exNo (BH 0 ps) R s->Con C0 fn.ntmps s a w->a.defers=[]/\ ∃v,(results fn a.tmps).run P w= .ok v w/\RR (.returned v) w:=by
  rintro s a w hr ⟨S1,rfl,hc⟩;unfold retO at hr;cases hxs:mapO (ER P s) fn.results.toList with
  |none=>rw[hxs] at hr;exact hr.elim
  |some xs=>
   rw[hxs] at hr;simp only[retO1] at hr;obtain⟨v,an,ac⟩:=Og hc hxs;refine⟨hc.defers,v,an,?_⟩;obtain⟨_,_,Q⟩:=hr;have ao:hget s.h=S1.h:=(funext hc.h).symm;rw[ao] at Q
   let kx:=kxOf (cnum ps) (exNo s (resV xs))
   have ag:Wf C0 (S1.ice λ_=>false):=Hv hc.wf;have af: ∀(f:AV->Option D) (o:Nat),Gr f ((S1.ice λ_=>false).h o)=Gr f (S1.h o)/\IL ((S1.ice λ_=>false).h o)=IL (S1.h o)/\IG f ((S1.ice λ_=>false).h o)=IG f (S1.h o):=by
    intro f o;rw[show (S1.ice λ_=>false).h o=(S1.h o).map λe=>(e.1 && false,e.2) from rfl];cases S1.h o with
    |none=>exact⟨rfl,rfl,rfl⟩
    |some e=>obtain⟨mu,e⟩:=e;cases e<;>exact⟨rfl,rfl,rfl⟩
   have ai: ∀(n:Nat),cvt (S1.ice λ_=>false).h kx n=cvt S1.h kx n:=by
    intro n;induction n with
    |zero=>funext x;simp[cvt]
    |succ n ih=>
     funext x;cases x with
     |own o=>simp only[cvt,ih,(af _ o).1]
     |mp o=>simp only[cvt,(af (λ_=>none) o).2.1]
     |ptr o p=>cases p<;>simp only[cvt,ih,(af _ o).2.2]
     |_=>simp only[cvt,ih]
   cases hcv:cvt S1.h kx 9 (resV xs) with
   |none=>rw[hcv] at Q;exact Q.elim
   |some r=>
    rw[hcv] at Q;have ab: ∃H n,R r H n:=by
     simp only[exNo,outKl,outEx,appO,retO3] at Q;exact⟨_,_,Q⟩
    obtain⟨H,n,ab⟩:=ab;obtain⟨d,rfl,aw⟩:=hR _ _ _ ab;have ay:=cvt_rd ag (kx:=kx) (λo e l _ z hv hl=>Mp hc.wf rfl z hv hl) 9 (resV xs) d v (by rw[ai];exact hcv) (DV (DI S1 _) _ _ (λ_ _=>trivial) ac);have G:=ag;have O: ∀b,b<S.w.heap.size->S1.w.heap[b]? =S.w.heap[b]? :=λb hb=>hc.wf.keep b hb (λh=>h)
    let S':Env:={S with ok:=(S1.ice λ_=>false).ok,w:=S1.w}
    have hp:Pres (λ_=>True) S S':=⟨λb hb=>⟨G.ok0 b hb,O b (hW.oks b hb)⟩,λo _ e' ad=>⟨e',ad,rfl,rfl,rfl⟩⟩;have aq:Wf C S':=by
     refine⟨G.os.trans hW.os,G.tape.trans hW.tape,G.output.trans hW.output,BK hW.size G.size,?_,λb hb=>G.ok0 b (hW.ok0 b hb),?_,G.oks,?_,?_,hW.inj,hW.gl⟩
     .intro b hb hM;exact (O b (CY hb hW.size)).trans (hW.keep b hb hM)
     .intro b hb;rcases G.ok1 b hb with h|h|h
      .exact hW.ok1 b h
      .exact .inr (.inl (BK hW.size h))
      .exact h.elim
     .intro o e z;exact DU hp (λlc hl=>O lc.b (hW.loc o e lc z hl).1) _ (λ_ _=>trivial) (hW.obj o e z)
     .intro o e l z hl;obtain⟨h2,Z⟩:=hW.loc o e l z hl;refine⟨CY h2 G.size,?_⟩;cases hm:e.1 with
      |false=>
       rw[hm] at Z;simp only[B1,Bp] at Z⊢;exact Z.imp (G.ok0 _) id
      |true=>
       rw[hm] at Z;simp only[AQ] at Z⊢;refine⟨λax=> ?_,Z.2⟩;rcases G.ok1 _ ax with h|h|h
       .exact Z.1 h
       .have h:S.w.heap.size<=l.b:=h;omega
       .exact h.elim
    exact aj v S' aq rfl hp (aw _ _ _ ay)
 intro e a w z;cases e<;>simp only[toQ] at z<;>simp only[bodyPost]
 .obtain⟨s,hs,hc⟩:=z;exact fin s a w hs hc
 .obtain⟨s,hs,_⟩:=z;exact hs.elim
 .obtain⟨s,hs,hc⟩:=z;exact fin s a w hs hc
def fzO(o:Nat):Option Ent->Option (D×Ag)
 |some (z,.arr T k rows)=>some (.sl false k rows,bif z then [(o,(false,.arr T k rows))] else [])
 |some (_,.cells _ _)=>none
 |some (_,.arrA _ _ _)=>none
 |some (_,.map _ _)=>none
 |some (_,.chan _ _)=>none
 |some (_,.iter _ _)=>none
 |some (_,.view _)=>none
 |none=>none
def fzM(o:Nat):Option Ent->Option (D×Ag)
 |some (O,.map G z)=>some (.mp G z,bif O then [(o,(false,.map G z))] else [])
 |some (_,.cells _ _)=>none
 |some (_,.arr _ _ _)=>none
 |some (_,.arrA _ _ _)=>none
 |some (_,.chan _ _)=>none
 |some (_,.iter _ _)=>none
 |some (_,.view _)=>none
 |none=>none
def fzG(f:List D->D):Option (List D×Ag)->Option (D×Ag)
 |some (ds,F)=>some (f ds,F)
 |none=>none
mutual
def fzD(h:Nat->Option Ent):AV->Option (D×Ag)
 | .im d=>some (d,[])
 | .own o=>fzO o (h o)
 | .mp o=>fzM o (h o)
 | .agg z=>fzG .agg (fzL h z)
 | .tup z=>fzG .tup (fzL h z)
 | .any=>none
 | .ptr _ _=>none
 | .eptr _ _ _=>none
 | .ch _=>none
 | .it _=>none
 | .osl _ _ _=>none
 | .clo _ _ _=>none
def fzL(h:Nat->Option Ent):List AV->Option (List D×Ag)
 |[]=>some ([],[])
 |x::r=>cpC (fzD h x) (fzL h r)
end
def pkD:Option (D×Ag)->Option (PK×Ag)
 |some (d,F)=>some (.val d,F)
 |none=>none
def pkI:D->PK
 | .ref z=> .ptr z
 | .int k n=> .val (.int k n)
 | .bool b=> .val (.bool b)
 | .str s=> .val (.str s)
 | .nilp=> .val .nilp
 | .nilf=> .val .nilf
 | .nili=> .val .nili
 | .nilc=> .val .nilc
 | .nilm=> .val .nilm
 | .agg z=> .val (.agg z)
 | .tup z=> .val (.tup z)
 | .sl Q k rows=> .val (.sl Q k rows)
 | .mp O G=> .val (.mp O G)
 | .fn f a b=> .val (.fn f a b)
 | .ifc t d=> .val (.ifc t d)
 | .gp g=> .val (.gp g)
 | .tok g=> .val (.tok g)
def pkC:Option (List D)->Option (PK×Ag)
 |some ds=>some (.ptr ds,[])
 |none=>none
def pkO(off:Nat):Option Ent->Option (PK×Ag)
 |some (_,.cells _ z)=>pkC (BQ (z.drop off))
 |some (_,.view z)=>some (.ptr (z.drop off),[])
 |some (_,.arr _ _ _)=>none
 |some (_,.arrA _ _ _)=>none
 |some (_,.map _ _)=>none
 |some (_,.chan _ _)=>none
 |some (_,.iter _ _)=>none
 |none=>none
def pk1(h:Nat->Option Ent):AV->Option (PK×Ag)
 | .im d=>some (pkI d,[])
 | .ptr o off=>pkO off (h o)
 | .own o=>pkD (fzD h (.own o))
 | .mp o=>pkD (fzD h (.mp o))
 | .agg z=>pkD (fzD h (.agg z))
 | .tup z=>pkD (fzD h (.tup z))
 | .any=>none
 | .eptr _ _ _=>none
 | .ch _=>none
 | .it _=>none
 | .osl _ _ _=>none
 | .clo _ _ _=>none
def Lh:Option (PK×Ag)->Option (List PK×Ag)->Option (List PK×Ag)
 |some (p,F),some (z,G)=>some (p::z,F++G)
 |some _,none=>none
 |none,_=>none
def pkL(h:Nat->Option Ent):List AV->Option (List PK×Ag)
 |[]=>some ([],[])
 |x::r=>Lh (pk1 h x) (pkL h r)
def decK{A:Type}(K:A->Prop):Option A->Prop
 |some a=>K a
 |none=>False
def frE(u:List Nat):Ag->Eff
 |[]=>{use:=u}
 |e::r=>{use:=u,kill:=(e::r).map (·.1),new:=e::r}
def IV{A:Type}(ar:List PK->Option A)(pre:A->Prop)(re:A->D)(u:List Nat)(K:Kont):Option (List PK×Ag)->Prop
 |some (z,F)=>decK (λa=>pre a/\K (.im (re a)) (frE u F)) (ar z)
 |none=>False
def vrow{A:Type}(ar:List PK->Option A)(pre:A->Prop)(re:A->D):Row:=λargs h _ K=>IV ar pre re (nmsL args) K (pkL h args)
def FzOk(S:Env)(F:Ag):Prop:= ∀n e,(n,e)∈F-> ∃z,S.h n=some (z,e.2)/\e.1=false
def FzOk.app{S:Env}{F G:Ag}(O:FzOk S F)(Q:FzOk S G):FzOk S (F++G):=by
 intro n e z;rcases AG.1 z with z|z
 .exact O n e z
 .exact Q n e z
def XF(F:Ag)(X:Nat->Bool):Prop:= ∀n∈F.map (·.1),X n=false
def XF.app{F G:Ag}{X:Nat->Bool}(h:XF (F++G) X):XF F X/\XF G X:=by
 unfold XF at*;simp only[Di,AG] at h;exact⟨λn hn=>h n (.inl hn),λn hn=>h n (.inr hn)⟩
section
variable {C:Ctx}{S:Env}{h:Nat->Option Ent}
def fzO_spec(hW:Wf C S){o:Nat}{d:D}{F:Ag}{v:Value}(hh:S.h o=h o)(hd:fzO o (h o)=some (d,F))(hc:conc S (.own o) v):FzOk S F/\ ∀X,XF F X->rd (S.ice X).ok (S.ice X).hp d v:=by
 cases ho:h o with
 |none=>rw[ho] at hd;simp[fzO] at hd
 |some e=>
  obtain⟨mu,e⟩:=e;rw[ho] at hd hh;cases e<;>simp only[fzO,reduceCtorEq] at hd;rename_i T k rows;simp only[An,Cf] at hd;obtain⟨rfl,rfl⟩:=hd;refine⟨?_,λX hX=> ?_⟩
  .cases mu with
   |false=>intro n e z;cases z
   |true=>
    intro n e z;simp only[Bc,AO,Cf] at z;obtain⟨rfl,rfl⟩:=z;exact⟨true,hh,rfl⟩
  .have O:Wf C (S.ice X):=Hv hW;have Z:=DV (DI S X) _ _ (λ_ _=>trivial) hc;have z:(S.ice X).h o=some (mu && X o,.arr T k rows):=by
    show (S.h o).map _=_;rw[hh];rfl
   refine frz_own (f:=λ_=>none) O (λx d v hx=>by cases hx) ?_ (by rw[z];rfl) Z;intro e' l G hv hl;cases mu with
   |true=>exact Mp hW (hX o (by simp)) G hv hl
   |false=>
    rw[z] at G;obtain rfl:=Al G
    have:=(O.loc o _ l z hl).2
    simp only[CA,B1,Bp] at this;rcases this with Q|Q
    .exact Q
    .cases Q
def fzM_spec(hW:Wf C S){o:Nat}{d:D}{F:Ag}{v:Value}(hh:S.h o=h o)(hd:fzM o (h o)=some (d,F))(hc:conc S (.mp o) v):FzOk S F/\ ∀X,XF F X->rd (S.ice X).ok (S.ice X).hp d v:=by
 cases ho:h o with
 |none=>rw[ho] at hd;simp[fzM] at hd
 |some e=>
  obtain⟨mu,e⟩:=e;rw[ho] at hd hh;cases e<;>simp only[fzM,reduceCtorEq] at hd;rename_i kt es;simp only[An,Cf] at hd;obtain⟨rfl,rfl⟩:=hd;refine⟨?_,λX hX=> ?_⟩
  .cases mu with
   |false=>intro n e z;cases z
   |true=>
    intro n e z;simp only[Bc,AO,Cf] at z;obtain⟨rfl,rfl⟩:=z;exact⟨true,hh,rfl⟩
  .have O:Wf C (S.ice X):=Hv hW;have Z:=DV (DI S X) _ _ (λ_ _=>trivial) hc;have z:(S.ice X).h o=some (mu && X o,.map kt es):=by
    show (S.h o).map _=_;rw[hh];rfl
   refine frz_mp O ?_ (by rw[z];rfl) Z;intro e' l G hv hl;cases mu with
   |true=>exact Mp hW (hX o (by simp)) G hv hl
   |false=>
    rw[z] at G;obtain rfl:=Al G
    have:=(O.loc o _ l z hl).2
    simp only[CA,B1,Bp] at this;rcases this with Q|Q
    .exact Q
    .cases Q
mutual
def MK(hW:Wf C S): ∀(x:AV) (d:D) (F:Ag) (v:Value),(∀n∈x.nms,S.h n=h n)->fzD h x=some (d,F)->conc S x v->FzOk S F/\ ∀X,XF F X->rd (S.ice X).ok (S.ice X).hp d v
 | .im d',d,F,v,_,hd,hc=>by
   simp only[fzD,An,Cf] at hd;obtain⟨rfl,rfl⟩:=hd;simp only[conc] at hc;exact⟨(λn e he=>by cases he),λX _=>Dp (DI S X).ok _ _ hc⟩
 | .own o,d,F,v,z,hd,hc=>by
   simp only[fzD] at hd;exact fzO_spec hW (z o (by simp[AV.nms])) hd hc
 | .mp o,d,F,v,z,hd,hc=>by
   simp only[fzD] at hd;exact fzM_spec hW (z o (by simp[AV.nms])) hd hc
 | .agg O,d,F,v,z,hd,hc=>by
   simp only[fzD] at hd;cases hl:fzL h O with
   |none=>rw[hl] at hd;cases hd
   |some q=>
    obtain⟨ds,G⟩:=q;rw[hl] at hd;simp only[fzG,An,Cf] at hd;obtain⟨rfl,rfl⟩:=hd;simp only[conc] at hc;obtain⟨Q,rfl,Z⟩:=hc;obtain⟨h2,h3⟩:=TS hW O ds G Q.toList (by simpa only[AV.nms] using z) hl Z;exact⟨h2,λX hX=>by simp only[rd];exact⟨Q,rfl,h3 X hX⟩⟩
 | .tup O,d,F,v,z,hd,hc=>by
   simp only[fzD] at hd;cases hl:fzL h O with
   |none=>rw[hl] at hd;cases hd
   |some q=>
    obtain⟨ds,G⟩:=q;rw[hl] at hd;simp only[fzG,An,Cf] at hd;obtain⟨rfl,rfl⟩:=hd;simp only[conc] at hc;obtain⟨Q,rfl,Z⟩:=hc;obtain⟨h2,h3⟩:=TS hW O ds G Q.toList (by simpa only[AV.nms] using z) hl Z;exact⟨h2,λX hX=>by simp only[rd];exact⟨Q,rfl,h3 X hX⟩⟩
 | .any,d,F,v,_,hd,_=>by simp[fzD] at hd
 | .ptr _ _,d,F,v,_,hd,_=>by simp[fzD] at hd
 | .eptr _ _ _,d,F,v,_,hd,_=>by simp[fzD] at hd
 | .ch _,d,F,v,_,hd,_=>by simp[fzD] at hd
 | .it _,d,F,v,_,hd,_=>by simp[fzD] at hd
 | .osl _ _ _,d,F,v,_,hd,_=>by simp[fzD] at hd
 | .clo _ _ _,d,F,v,_,hd,_=>by simp[fzD] at hd
def TS(hW:Wf C S): ∀(xs:List AV) (ds:List D) (F:Ag) (vs:List Value),(∀n∈nmsL xs,S.h n=h n)->fzL h xs=some (ds,F)->Ap S xs vs->FzOk S F/\ ∀X,XF F X->rdl (S.ice X).ok (S.ice X).hp ds vs
 |[],ds,F,vs,_,hd,hc=>by
  simp only[fzL,An,Cf] at hd;obtain⟨rfl,rfl⟩:=hd;simp only[Ap] at hc;exact⟨(λn e he=>by cases he),λX _=>by simp only[rdl];exact hc⟩
 |x::xs,ds,F,vs,O,hd,hc=>by
  simp only[nmsL,AG] at O;simp only[fzL] at hd;simp only[Ap] at hc;obtain⟨v,r,rfl,Z,h2⟩:=hc;cases hx:fzD h x with
  |none=>rw[hx] at hd;simp[cpC] at hd
  |some q=>
   obtain⟨d,E⟩:=q;cases hl:fzL h xs with
   |none=>rw[hx,hl] at hd;simp[cpC] at hd
   |some q2=>
    obtain⟨z,G⟩:=q2;rw[hx,hl] at hd;simp only[cpC,An,Cf] at hd;obtain⟨rfl,rfl⟩:=hd;obtain⟨a1,a2⟩:=MK hW x d E v (λn hn=>O n (.inl hn)) hx Z;obtain⟨b1,b2⟩:=TS hW xs z G r (λn hn=>O n (.inr hn)) hl h2;refine⟨a1.app b1,λX hX=> ?_⟩;obtain⟨c1,Q⟩:=hX.app;simp only[rdl];exact⟨v,r,rfl,a2 X c1,b2 X Q⟩
end
def X4(hW:Wf C S){d:D}{v:Value}(hd:rd S.ok S.hp d v):PKc S (pkI d) v:=by
 cases d<;>try exact hd
 rename_i cs;simp only[rd] at hd;obtain⟨b,p,vs,T,z,G,O,Q,Z⟩:=hd;exact⟨b,p,vs,T,z,G,hW.oks b O,Q,Z⟩
def pk1_spec(hW:Wf C S){x:AV}{p:PK}{F:Ag}{v:Value}(hh: ∀n∈x.nms,S.h n=h n)(hp:pk1 h x=some (p,F))(hc:conc S x v):FzOk S F/\ ∀X,XF F X->PKc (S.ice X) p v:=by
 have ab:pkD (fzD h x)=some (p,F)->FzOk S F/\ ∀X,XF F X->PKc (S.ice X) p v:=by
  intro hp;cases hx:fzD h x with
  |none=>rw[hx] at hp;cases hp
  |some q=>
   obtain⟨d,G⟩:=q;rw[hx] at hp;simp only[pkD,An,Cf] at hp;obtain⟨rfl,rfl⟩:=hp;obtain⟨O,Q⟩:=MK hW x d G v hh hx hc;exact⟨O,Q⟩
 cases x<;>simp only[pk1,reduceCtorEq] at hp
 case im d=>
  simp only[An,Cf] at hp;obtain⟨rfl,rfl⟩:=hp;simp only[conc] at hc;exact⟨(λn e Z=>by cases Z),λX _=>X4 (Hv hW) (Dp (DI S X).ok _ _ hc)⟩
 case ptr o off=>
  have ho:=hh o (by simp[AV.nms]);cases hn:h o with
  |none=>rw[hn] at hp;simp[pkO] at hp
  |some e=>
   obtain⟨mu,e⟩:=e;rw[hn] at hp ho;have z:=hW.obj o _ ho;simp only[conc] at hc;obtain⟨l,hl,hv⟩:=hc.2 _ ho;have aa:=(hW.loc o _ l ho hl).1;cases e<;>simp only[pkO,reduceCtorEq] at hp
   case cells T cs=>
    cases ha:BQ (cs.drop off) with
    |none=>rw[ha] at hp;cases hp
    |some ds=>
     rw[ha] at hp;simp only[pkC,An,Cf] at hp;obtain⟨rfl,rfl⟩:=hp;refine⟨(λn e Z=>by cases Z),λX _=> ?_⟩;simp only[objc] at z;obtain⟨lc,vs,O,Q,h3,h4⟩:=z;rw[hl] at O;obtain rfl:=Al O;simp only[PKc];refine⟨l.b,l.p+off,vs,_,_,hv,aa,h3,?_⟩;rw[Q,CM];have h5:Ap S (cs.drop off) (vs.toList.drop off):=by
      have: ∀(n:Nat) (a:List AV) (b:List Value),Ap S a b->Ap S (a.drop n) (b.drop n):=by
       intro n;induction n with
       |zero=>intro a b h;simpa using h
       |succ n ih=>
        intro a b h;cases a with
        |nil=>simp only[Ap] at h;subst h;simp[Ap]
        |cons x a=>
         simp only[Ap] at h;obtain⟨v,r,rfl,_,h⟩:=h;simpa using ih a r h
      exact this off cs _ h4
     exact TJ ds _ (Ff (DI S X).ok _ _ (Ti _ ds _ ha h5))
   case view cs=>
    simp only[An,Cf] at hp;obtain⟨rfl,rfl⟩:=hp;refine⟨(λn e Z=>by cases Z),λX _=> ?_⟩;simp only[objc] at z;obtain⟨lc,vs,T,fr,O,Q,h3⟩:=z;rw[hl] at O;obtain rfl:=Al O;simp only[PKc];refine⟨l.b,l.p+off,vs,T,fr,hv,aa,Q,?_⟩;rw[<-Cj]
    have: ∀(n:Nat) (a:List D) (b:List Value),rdp S.ok S.hp a b->rdp S.ok S.hp (a.drop n) (b.drop n):=by
     intro n;induction n with
     |zero=>intro a b h;simpa using h
     |succ n ih=>
      intro a b h;cases a with
      |nil=>simp[rdp]
      |cons x a=>
       simp only[rdp] at h;obtain⟨v,r,rfl,_,h⟩:=h;simpa using ih a r h
    exact Jg (DI S X).ok _ _ (this off cs _ h3)
 all_goals exact ab hp
def MV(hW:Wf C S): ∀(xs:List AV) (ps:List PK) (F:Ag) (vs:List Value),(∀n∈nmsL xs,S.h n=h n)->pkL h xs=some (ps,F)->Ap S xs vs->FzOk S F/\ ∀X,XF F X->PKL (S.ice X) ps vs
 |[],ps,F,vs,_,hd,hc=>by
  simp only[pkL,An,Cf] at hd;obtain⟨rfl,rfl⟩:=hd;simp only[Ap] at hc;exact⟨(λn e he=>by cases he),λX _=>by simp only[PKL];exact hc⟩
 |x::xs,ps,F,vs,z,hd,hc=>by
  simp only[nmsL,AG] at z;simp only[pkL] at hd;simp only[Ap] at hc;obtain⟨v,r,rfl,Z,h2⟩:=hc;cases hx:pk1 h x with
  |none=>rw[hx] at hd;simp[Lh] at hd
  |some q=>
   obtain⟨p,E⟩:=q;cases hl:pkL h xs with
   |none=>rw[hx,hl] at hd;simp[Lh] at hd
   |some q2=>
    obtain⟨O,G⟩:=q2;rw[hx,hl] at hd;simp only[Lh,An,Cf] at hd;obtain⟨rfl,rfl⟩:=hd;obtain⟨a1,a2⟩:=pk1_spec hW (λn hn=>z n (.inl hn)) hx Z;obtain⟨b1,b2⟩:=MV hW xs O G r (λn hn=>z n (.inr hn)) hl h2;refine⟨a1.app b1,λX hX=> ?_⟩;obtain⟨c1,Q⟩:=hX.app;simp only[PKL];exact⟨v,r,rfl,a2 X c1,b2 X Q⟩
end
def frE_parts(u:List Nat)(F:Ag):(frE u F).use=u/\(frE u F).kill=F.map (·.1)/\(frE u F).new=F/\(frE u F).cnt=0:=by
 cases F<;>exact⟨rfl,rfl,rfl,rfl⟩
def decA{B:Type}(rc:D->Option B)(b:B):AV->Prop
 | .im d=>rc d=some b
 | .any=>False
 | .agg _=>False
 | .tup _=>False
 | .ptr _ _=>False
 | .eptr _ _ _=>False
 | .own _=>False
 | .mp _=>False
 | .ch _=>False
 | .it _=>False
 | .osl _ _ _=>False
 | .clo _ _ _=>False
def pureR{B:Type}(rc:D->Option B)(b:B):RetR:=λr _ _=>decA rc b r
def Ia{P:Program}(HM:P.follows .mixedOrders=true){V:B0}(hV:E7 P V){g:FuncId}{fn:Func}{c:Code}(hf:P.funcs[g]? =some fn)(hb:fn.body=some c)(aa:chk fn.ntmps c=true)(Z:calb P g=true)
 {A B:Type}{ar:List PK->Option A}{ae:A->List PK}(aj: ∀ps a,ar ps=some a->LeKL ps (ae a)){n:Nat}(hn: ∀a,(ae a).length=n)(ak:n<=fn.ntmps){rc:D->Option B}{re:B->D}(am: ∀d b,rc d=some b->Le d (re b))
 {pre:A->Prop}{f:A->B}
 (hk: ∀a,pre a->awp P V c (retQ P fn.results.toList (cnum (ae a)) [] exNo (BH 0 (ae a)) (pureR rc (f a))) ⟨entry 0 (B7 0 (ae a)),BH 0 (ae a),cnum (ae a)⟩):
 Ak P g (vrow ar pre λa=>re (f a)):=by
 intro args h nx K z;unfold vrow at z;cases hp:pkL h args with
 |none=>rw[hp] at z;exact z.elim
 |some q=>
  obtain⟨ps,F⟩:=q;rw[hp] at z;simp only[IV] at z;cases ha:ar ps with
  |none=>rw[ha] at z;exact z.elim
  |some a=>
   rw[ha] at z;simp only[decK] at z;obtain⟨ac,hK⟩:=z;refine⟨FW Z,_,_,?_,hK⟩;obtain⟨e1,e2,e3,e4⟩:=frE_parts (nmsL args) F;intro C S vs RR hW G ad af O ab;rw[e1,e2] at G;obtain⟨h1,h2⟩:=MV hW args ps F vs.toList (λn hn=>G n (Fb _ hn)) hp O
   let X:Nat->Bool:=λn=> !(F.map (·.1)).contains n
   have hX:XF F X:=by
    intro n hn;simp only[X,DQ.2 hn,M5]
   have ah:Wf C (S.ice X):=Hv hW;have Q:(S.ice X).h=(frE (nmsL args) F).appf S.h:=by
    have:=ice_appf (S:=S) (F:=F) (u:=nmsL args) h1
    rw[show (frE (nmsL args) F).appf S.h=({use:=nmsL args,kill:=F.map (·.1),new:=F}:Eff).appf S.h by
     funext m;simp only[Eff.appf,e2,e3]]
    exact this
   refine view_run HM hV hf hb aa (S:=S.ice X) (ps:=ae a) (r0:=re (f a)) (by rw[hn];exact ak) ?_ (hk a ac) ah ((aj ps a ha).c (h2 X hX)) ?_
   .intro r H n hr;unfold pureR at hr;cases r<;>simp only[decA] at hr;exact⟨_,rfl,am _ _ hr⟩
   .intro v S' ag hh hp' an;refine ab v S' ag (by rw[hh,Q]) ?_ (by simp only[conc];exact an);refine⟨λb hb=> ?_,λo _ e' ai=> ?_⟩
    .obtain⟨q1,q2⟩:=(DI S X).ok b hb;obtain⟨q3,q4⟩:=hp'.ok b q1;exact⟨q3,q4.trans q2⟩
    .obtain⟨e,q1,q2,q3,q4⟩:=hp'.nm o trivial e' ai;obtain⟨e0,q5,q6,q7,q8⟩:=(DI S X).nm o trivial e q1;exact⟨e0,q5,q2.trans q6,q3.trans q7,q4.trans q8⟩
def sgx(σ:Nat->Nat)(k nx j:Nat):Nat:=if j<k then σ j else nx+(j - k)
def domB(H0:Ag)(o:Nat):Bool:=(hget H0 o).isSome
def kxB(H0:Ag)(k cnt:Nat)(exB:Nat->Bool)(o:Nat):Option Nat:=bif domB H0 o||(exB o && (Nat.ble k o && Nat.blt o (k+cnt))) then some o else none
def entOk(f:AV->Option AV)(e:Ent):Option Ent->Prop
 |some (G,z)=>G=e.1/\cvtE f z=some e.2
 |none=>False
def Cq(h:Nat->Option Ent)(f:AV->Option AV):Ag->Prop
 |[]=>True
 |(j,e)::r=>entOk f e (h j)/\Cq h f r
def roB(h:Nat->Option Ent)(klB:Nat->Bool):Ag->Prop
 |[]=>True
 |(j,e)::r=>(bif klB j then True else h j=some e)/\roB h klB r
def retB3(R:AV->Prop):Option AV->Prop
 |some r=>R r
 |none=>False
def retB2(k cnt:Nat)(H0 H1:Ag)(klB exB:Nat->Bool)(R:AV->Prop)(s:Ac)(x:AV):Prop:=
 roB (hget s.h) klB H0/\retB3 R (cvt (hget s.h) (kxB H0 k cnt exB) 9 x)/\Cq (hget s.h) (cvt (hget s.h) (kxB H0 k cnt exB) 9) H1
def retB1(k cnt:Nat)(H0 H1:Ag)(klB exB:Nat->Bool)(R:AV->Prop)(s:Ac):Option (List AV)->Prop
 |some xs=>retB2 k cnt H0 H1 klB exB R s (resV xs)
 |none=>False
def retB(P:Program)(z:List ResultVar)(k cnt:Nat)(H0 H1:Ag)(klB exB:Nat->Bool)(R:AV->Prop)(s:Ac):Prop:=retB1 k cnt H0 H1 klB exB R s (mapO (ER P s) z)
def F8(P:Program)(z:List ResultVar)(k cnt:Nat)(H0 H1:Ag)(klB exB:Nat->Bool)(R:AV->Prop):Be
 | .normal,s=>retB P z k cnt H0 H1 klB exB R s
 | .ret,s=>retB P z k cnt H0 H1 klB exB R s
 | .exit _,_=>False
def retN(P:Program)(z:List ResultVar)(k cnt:Nat)(H0 H1:Ag)(klB exB:Nat->Bool)(R:AV->Prop)(s:Ac):Prop:=
 ∃(F:List Nat) (π:List (Nat×Option Nat)) (s':Ac),subP k π (fzAS F s) s'/\s'.good=true/\k<=s'.nx/\retB P z k cnt H0 H1 klB exB R s'
def C4(P:Program)(z:List ResultVar)(k cnt:Nat)(H0 H1:Ag)(klB exB:Nat->Bool)(R:AV->Prop):Be
 | .normal,s=>retN P z k cnt H0 H1 klB exB R s
 | .ret,s=>retN P z k cnt H0 H1 klB exB R s
 | .exit _,_=>False
def roB_mem{h:Nat->Option Ent}{klB:Nat->Bool}: ∀(H:Ag),roB h klB H-> ∀j e,(j,e)∈H->klB j=false->h j=some e
 |[],_,j,e,z,_=>by cases z
 |(i,x)::r,G,j,e,z,Q=>by
  simp only[roB] at G;rcases A9.1 z with z|z
  .cases z;have O:=G.1;rw[Q] at O;exact O
  .exact roB_mem r G.2 j e z Q
def Xb{h:Nat->Option Ent}{f:AV->Option AV}: ∀(H:Ag),Cq h f H-> ∀j e,(j,e)∈H-> ∃G,h j=some G/\e.1=G.1/\cvtE f G.2=some e.2
 |[],_,j,e,z=>by cases z
 |(i,x)::r,Q,j,e,z=>by
  simp only[Cq] at Q;rcases A9.1 z with z|z
  .cases z;have O:=Q.1;cases hq:h i with
   |none=>rw[hq] at O;exact O.elim
   |some y=>
    obtain⟨Z,G⟩:=y;rw[hq] at O;exact⟨(Z,G),rfl,O.1.symm,O.2⟩
  .exact Xb r Q.2 j e z
def Ui{σ:Nat->Nat}{D:Nat->Prop}(hσ: ∀i j,D i->D j->σ i=σ j->i=j): ∀(H:Ag),(∀p∈H,D p.1)-> ∀(j:Nat),D j->hget (renH σ H) (σ j)=(hget H j).map λe=>(e.1,e.2.ren σ)
 |[],_,j,_=>rfl
 |(i,(Z,e))::r,hH,j,G=>by
  simp only[renH,hget];by_cases z:i=j
  .subst z;simp
  .have O:(i==j)=false:=by simpa using z
   have Q:(σ i==σ j)=false:=by rw[Ef];exact λh=>z (hσ _ _ (hH _ (AU ..)) G h)
   rw[O,Q];simpa using Ui hσ r (λp hp=>hH p (AX _ hp)) j G
def objG{P:Program}(HM:P.follows .mixedOrders=true){V:B0}(hV:E7 P V){g:FuncId}{fn:Func}{c:Code}(hf:P.funcs[g]? =some fn)(hb:fn.body=some c)(b8:chk fn.ntmps c=true)
 {args:List AV}{H0 H1:Ag}{k cnt:Nat}(c5:args.length<=fn.ntmps)(hbel:belL k args=true)(hbH:belH k H0=true)(hkH:Ai k H0=true)
 (bt: ∀j e,hget H0 j=some e-> ∀m∈e.2.nms,domB H0 m=true)
 {klB exB:Nat->Bool}{R:AV->Prop}{r0:AV}
 (hR: ∀r,R r->LeV r r0)
 (hH1: ∀p∈H1,(p.1<k/\klB p.1=true/\domB H0 p.1=true)\/(k<=p.1/\p.1<k+cnt/\exB p.1=true/\p.2.1=true))
 {Q:Be}(hQ: ∀(C:Ctx) (N:Nat) (a:Act) (w:World) (s:Ac),C.n0=k->Con C N s a w->Q .normal s\/Q .ret s-> ∃s',Con C N s' a w/\retB P fn.results.toList k cnt H0 H1 klB exB R s')
 (cm: ∀i s,¬Q (.exit i) s)
 (hk:awp P V c Q ⟨entry 0 args,H0,k⟩)
 {h:Nat->Option Ent}{nx:Nat}{τ:Nat->Nat}(cb: ∀i j,domB H0 i=true->domB H0 j=true->τ i=τ j->i=j)(cx: ∀j,domB H0 j=true->τ j<nx)
 (hH: ∀j e,hget H0 j=some e->h (sgx τ k nx j)=some (e.1,e.2.ren (sgx τ k nx)))
 {U KL:List Nat}(hU: ∀j,domB H0 j=true->τ j∈U)(c4: ∀n∈KL,∃j,domB H0 j=true/\klB j=true/\n=τ j)(b0: ∀j,domB H0 j=true->klB j=true->τ j∈KL):
 CallT P g (renL (sgx τ k nx) args) h nx (r0.ren (sgx τ k nx)) {use:=U,kill:=KL,new:=renH (sgx τ k nx) H1,cnt:=cnt}:=by
 intro C S vs RR hW cg am bi az b9
 let σ:=sgx τ k nx
 let DD:Nat->Prop:=λj=>domB H0 j=true\/k<=j
 have ai: ∀j e,hget H0 j=some e->domB H0 j=true:=λj e he=>by unfold domB;rw[he];rfl
 have aj: ∀j,domB H0 j=true-> ∃e,hget H0 j=some e:=λj O=>by
  unfold domB at O;cases hq:hget H0 j with
  |none=>rw[hq] at O;cases O
  |some e=>exact⟨e,rfl⟩
 have ao: ∀j,domB H0 j=true->j<k:=λj O=>by
  obtain⟨e,he⟩:=aj j O;exact Oy _ hkH j e he
 have hσlo: ∀j,j<k->σ j=τ j:=λj O=>Af O
 have hσge: ∀j,k<=j->σ j=nx+(j - k):=λj O=>Ab (by omega)
 have hσin: ∀j,domB H0 j=true->σ j∈U:=λj O=>by rw[hσlo j (ao j O)];exact hU j O
 have hσlt: ∀j,domB H0 j=true->σ j<nx:=λj O=>by rw[hσlo j (ao j O)];exact cx j O
 have hσinj: ∀i j,DD i->DD j->σ i=σ j->i=j:=by
  intro i j hi O h;rcases hi with hi|hi<;>rcases O with O|O
  .rw[hσlo i (ao i hi),hσlo j (ao j O)] at h;exact cb i j hi O h
  .have:=hσlt i hi
   rw[h,hσge j O] at this;omega
  .have:=hσlt j O
   rw[<-h,hσge i hi] at this;omega
  .rw[hσge i hi,hσge j O] at h;omega
 have hS: ∀j e,hget H0 j=some e->S.h (σ j)=some (e.1,e.2.ren σ):=by
  intro j e he;rw[cg (σ j) (Fb _ (hσin j (ai j e he)))];exact hH j e he
 refine calls_of_wp hf hb ?_;have ci:=Ep _ _ az;have c7:vs.size=args.length:=by rw[TG] at ci;simpa using ci
 let S0:Env:=⟨λj=>S.ρ (σ j),S.ok,hget H0,S.w⟩
 let M0:Nat->Prop:=λb=> ∃j e l,hget H0 j=some e/\e.1=true/\S.ρ (σ j)=some l/\l.b=b
 let C0:Ctx:=⟨S.w,M0,S.ok,k,hget H0,λj=>S.ρ (σ j),[]⟩
 have be: ∀n,RenP S S0 σ (λn=>n) n:=by
  intro n;refine⟨λe' z=>⟨_,hS n e' z,rfl,?_,?_⟩⟩
  .exact (QJ σ e'.2).symm
  .exact (QV σ e'.2).symm
 have bm: ∀b,S.ok b->S0.ok b/\S0.hp b=S.hp b:=λb hb=>⟨hb,rfl⟩
 have cp:Wf C0 S0:=by
  refine⟨rfl,rfl,rfl,Ar _,λ_ _ _=>rfl,λ_ hb=>hb,λ_ hb=> .inl hb,hW.oks,?_,?_,?_,hW.glN (by rintro b ⟨j,e,l,G,Z,h3,rfl⟩;have h4:=(hW.loc _ _ l (hS j e G) h3).2;rw[show (e.1,e.2.ren σ).1=true from Z] at h4;simp only[AQ] at h4;exact h4.1)⟩
  .intro j e he;have G:=hW.obj _ _ (hS j e he);have Z:=XQ (τ:=λn=>n) bm (λ_ _=>rfl) e.2 (λn _=>be n) G;rwa [Xp] at Z
  .intro j e l he hl;obtain⟨G,Z⟩:=hW.loc _ _ l (hS j e he) hl;refine⟨G,?_⟩;cases hm:e.1 with
   |false=>
    rw[hm] at Z;have hv:(e.2.ren σ).isView=e.2.isView:=by cases e.2<;>rfl
    simpa[hv] using Z
   |true=>
    rw[hm] at Z;simp only[AQ] at Z⊢;exact⟨Z.1,.inr ⟨j,e,l,he,hm,hl,rfl⟩⟩
  .intro i j e e' l l' he z hl bv af ak;exact hσinj _ _ (.inl (ai _ _ he)) (.inl (ai _ _ z)) (hW.inj _ _ _ _ l l' (hS i e he) (hS j e' z) hl bv af ak)
 have cq:Con C0 fn.ntmps ⟨entry 0 args,H0,k⟩ {tmps:=vs++Array.replicate (fn.ntmps - vs.size) undef,defers:=[]} S.w:=by
  have bf:Ap S0 args vs.toList:=by
   have:=KA (τ:=λn=>n) bm args vs.toList (λn _=>be n) az
   rwa [Jl] at this
  refine⟨S0,rfl,cp,λn=>rfl,?_,?_,λn e he=>⟨Oy _ hkH n e he,KP _ hbH n e he⟩,by simp;omega,rfl,Ar _,λo _ e' z=>⟨e',z,rfl,rfl,rfl⟩⟩
  .intro t;have G:=LK (S:=S0) args vs.toList 0 t bf;simp only[Bj,AQ,JA] at G
   have:({tmps:=vs++Array.replicate (fn.ntmps - vs.size) undef,defers:=[]}:Act).eval (.tmp t)=(vs.toList[t]?).getD undef:=by
    simp only[Act.eval,DO,P9,L0];by_cases ht:t<vs.size
    .simp[ht]
    .simp only[ht,Bp]
     have:vs[t]? =none:=IT (by omega)
     simp only[Dx,this]
     split<;>rfl
   rw[this];exact G
  .intro t m hm;exact Ji args hbel m (LS args 0 t m hm)
 refine wp_mono (SZ HM (Ll hV) c b8 _ _ _ _ hk cq) ?_;have fin: ∀(s:Ac) (a:Act) (w:World),retB P fn.results.toList k cnt H0 H1 klB exB R s->Con C0 fn.ntmps s a w->a.defers=[]/\ ∃v,(results fn a.tmps).run P w= .ok v w/\RR (.returned v) w:=by
  rintro s a w hr ⟨S1,rfl,hc⟩;unfold retB at hr;cases hxs:mapO (ER P s) fn.results.toList with
  |none=>rw[hxs] at hr;exact hr.elim
  |some xs=>
   rw[hxs] at hr;simp only[retB1] at hr;obtain⟨v,cf,bq⟩:=Og hc hxs;refine⟨hc.defers,v,cf,?_⟩;obtain⟨ce,av,ay⟩:=hr;have cn:hget s.h=S1.h:=(funext hc.h).symm;rw[cn] at ce av ay
   let kx:=kxB H0 k cnt exB
   let X:Nat->Bool:=λo=>(kx o).isSome
   have ab:Wf C0 (S1.ice X):=Hv hc.wf;have a9: ∀o,(S1.ice X).h o=(S1.h o).map λe=>(e.1 && X o,e.2):=λo=>rfl
   have bg: ∀o e l,kx o=none->(S1.ice X).h o=some e->e.2.isView=false->(S1.ice X).ρ o=some l->(S1.ice X).ok l.b:=by
    intro o e l ho he hv hl;exact Mp hc.wf (by simp[X,ho]) he hv hl
   have bu: ∀(f:AV->Option D) (o:Nat),Gr f ((S1.ice X).h o)=Gr f (S1.h o)/\IL ((S1.ice X).h o)=IL (S1.h o)/\IG f ((S1.ice X).h o)=IG f (S1.h o):=by
    intro f o;rw[a9];cases S1.h o with
    |none=>exact⟨rfl,rfl,rfl⟩
    |some e=>obtain⟨mu,e⟩:=e;cases e<;>exact⟨rfl,rfl,rfl⟩
   have bj: ∀(n:Nat),cvt (S1.ice X).h kx n=cvt S1.h kx n:=by
    intro n;induction n with
    |zero=>funext x;simp[cvt]
    |succ n ih=>
     funext x;cases x with
     |own o=>simp only[cvt,ih,(bu _ o).1]
     |mp o=>simp only[cvt,(bu (λ_=>none) o).2.1]
     |ptr o p=>cases p<;>simp only[cvt,ih,(bu _ o).2.2]
     |_=>simp only[cvt,ih]
   rw[<-bj] at av;have ay:Cq S1.h (cvt (S1.ice X).h kx 9) H1:=by rw[bj];exact ay
   cases hcv:cvt (S1.ice X).h kx 9 (resV xs) with
   |none=>rw[hcv] at av;exact av.elim
   |some r=>
    rw[hcv] at av;simp only[retB3] at av;have ck:=hR _ av;have bh: ∀o j,kx o=some j->j=o/\(domB H0 o=true\/(k<=o/\o<k+cnt)):=by
     intro o j O;simp only[kx,kxB] at O;cases hq:domB H0 o<;>rw[hq] at O
     .cases hq2:(exB o && (Nat.ble k o && Nat.blt o (k+cnt)))<;>rw[hq2] at O
      .cases O
      .simp only[Av,DC,Ch] at hq2;simp only[R8,Bc,An] at O;exact⟨O.symm,.inr hq2.2⟩
     .simp only[L5,Bc,An] at O;exact⟨O.symm,.inl rfl⟩
    have bb: ∀o,domB H0 o=true->kx o=some o:=λo ho=>by simp only[kx,kxB,ho,L5,Bc]
    have cd: ∀o,exB o=true->k<=o->o<k+cnt->kx o=some o:=λo G Z h3=>by
     have:(exB o && (Nat.ble k o && Nat.blt o (k+cnt)))=true:=by simp[G,Z,h3]
     simp only[kx,kxB,this,R8,Bc]
    have ag: ∀j e',(j,e')∈H1->DD j/\j<k+cnt/\((j<k/\klB j=true/\domB H0 j=true)\/(k<=j/\e'.1=true))/\kx j=some j/\ ∃e,S1.h j=some e/\e'.1=e.1/\cvtE (cvt (S1.ice X).h kx 9) e.2=some e'.2:=by
     intro j e' hm;obtain⟨e0,g1,g2,g3⟩:=Xb H1 ay j e' hm;rcases hH1 _ hm with ⟨G,Z,h3⟩|⟨G,Z,h3,h4⟩
     .exact⟨.inl h3,by simp only at G;omega,.inl ⟨G,Z,h3⟩,bb j h3,e0,g1,g2,g3⟩
     .exact⟨.inr G,Z,.inr ⟨G,h4⟩,cd j h3 G Z,e0,g1,g2,g3⟩
    let E:Eff:={use:=U,kill:=KL,new:=renH σ H1,cnt:=cnt}
    let S':Env:=⟨λn=>if nx<=n/\n<nx+cnt then S1.ρ (n - nx+k) else S.ρ n,(S1.ice X).ok,E.appf S.h,S1.w⟩
    have hρ: ∀j,DD j->j<k+cnt->(∀e,S1.h j=some e->S'.ρ (σ j)=S1.ρ j):=by
     intro j hd O e he;simp only[S'];by_cases as:j<k
     .have cu:domB H0 j=true:=hd.resolve_right (by omega);have G:=hσlt j cu;rw[Ab (by omega)];obtain⟨_,_,h3,_⟩:=hc.pre j as e he;exact h3.symm
     .have G:=hσge j (by omega);rw[Af (by rw[G];omega),G];congr 1;omega
    have ah: ∀n e',S'.h n=some e'->(∃j e,n=σ j/\(j,e)∈H1/\hget H1 j=some e/\e'=(e.1,e.2.ren σ))\/(S.h n=some e'/\ ∀j,domB H0 j=true->klB j=true->n≠σ j):=by
     intro n e' z;have z:E.appf S.h n=some e':=z;simp only[Eff.appf,E] at z;cases hg:hget (renH σ H1) n with
     |some x=>
      rw[hg] at z;obtain rfl:=Al z;obtain⟨j,e,G,Z,h3⟩:=P1 hg;subst Z;rw[Ui hσinj H1 (λp hp=>(ag p.1 p.2 hp).1) j (ag j e G).1] at hg;cases O:hget H1 j with
      |none=>rw[O] at hg;cases hg
      |some y=>
       rw[O] at hg;exact .inl ⟨j,y,rfl,KI O,O,by simpa using hg.symm⟩
     |none=>
      rw[hg] at z;cases hq:KL.contains n<;>rw[hq] at z
      .refine .inr ⟨z,?_⟩;rintro j O cc rfl
       have:=b0 j O cc
       rw[<-hσlo j (ao j O)] at this;rw[DQ.2 this] at hq;cases hq
      .cases z
    have a0: ∀n e l,S.h n=some e->S.ρ n=some l->(∀j,domB H0 j=true->n≠σ j)->l.b<S.w.heap.size/\ ¬M0 l.b:=by
     intro n e l he hl hn;refine⟨(hW.loc n e l he hl).1,?_⟩;rintro⟨j,e0,l0,G,h9,Z,h3⟩;exact hn j (ai j e0 G) (hW.inj _ _ _ _ l l0 he (hS j e0 G) hl Z h3.symm (by simp[h9]))
    have au: ∀b,b<S.w.heap.size-> ¬M0 b->S1.w.heap[b]? =S.w.heap[b]? :=λb hb hM=>hc.wf.keep b hb hM
    have bn: ∀b,S.ok b->S'.ok b/\S'.hp b=S.hp b:=by
     intro b hb;refine⟨ab.ok0 b hb,au b (hW.oks b hb) ?_⟩;rintro⟨j,e,l,G,Z,h3,h4⟩
     have:=(hW.loc _ _ l (hS j e G) h3).2
     rw[show (e.1,e.2.ren σ).1=true from Z] at this;simp only[AQ] at this;exact this.1 (h4▸hb)
    have ax: ∀j e0,hget H0 j=some e0->klB j=false->S1.h j=some e0:=λj e0 G Z=>roB_mem H0 ce j e0 (KI G) Z
    have bc: ∀j,domB H0 j=true->(∀j',domB H0 j'=true->klB j'=true->σ j≠σ j')->klB j=false:=by
     intro j O h;cases hq:klB j with
     |false=>rfl
     |true=>exact absurd rfl (h j O hq)
    have bd: ∀o,¬Fr nx cnt o-> ∀e',S'.h o=some e'-> ∃e,S.h o=some e/\S'.ρ o=S.ρ o/\e'.2.esz=e.2.esz/\e'.2.len=e.2.len:=by
     intro o ho e' z;have hρo:S'.ρ o=S.ρ o:=by
      simp only[S'];rw[Ab (by intro h;exact ho ⟨h.1,h.2⟩)]
     rcases ah o e' z with ⟨j,e,rfl,G,Z,rfl⟩|⟨G,_⟩
     .obtain⟨g0,g1,g2,g3,x,g4,g5,g6⟩:=ag j e G;have as:j<k:=by
       rcases g2 with g2|g2
       .exact g2.1
       .have:=hσge j g2.1
        exact absurd (show Fr nx cnt (σ j) from ⟨by omega,by omega⟩) ho
      obtain⟨e0,p1,p2,p3,p4⟩:=hc.pre j as x g4;have an:=(@TX C0 (S1.ice X) (S1.ice X) ab kx (λj=>j) (λb hb=>⟨hb,rfl⟩) bg (by
       intro o j O e' z;obtain⟨q1,_⟩:=bh o j O;subst q1;exact⟨e',z,rfl,rfl,rfl⟩) 9 x.2 e.2 g6).1
      refine⟨_,hS j e0 p1,hρo,?_,?_⟩
      .simp only[QJ];rw[<-p3,<-an.1]
      .simp only[QV];rw[<-p4,<-an.2]
     .exact⟨e',G,hρo,rfl,rfl⟩
    have aw: ∀o j,kx o=some j-> ∀e',S'.h (σ j)=some e'-> ∃e,(S1.ice X).h o=some e/\S'.ρ (σ j)=(S1.ice X).ρ o/\e'.2.esz=e.2.esz/\e'.2.len=e.2.len:=by
     intro o j O e' z;obtain⟨rfl,q2⟩:=bh o j O;have br:DD j:=q2.imp id (λh=>h.1);have cv:j<k+cnt:=by
      rcases q2 with q2|q2
      .have:=ao j q2;omega
      .exact q2.2
     rcases ah (σ j) e' z with ⟨j',e,h0,G,Z,rfl⟩|⟨G,Z⟩
     .obtain⟨g0,g1,g2,g3,x,g4,g5,g6⟩:=ag j' e G;obtain rfl:=hσinj _ _ br g0 h0;have an:=(@TX C0 (S1.ice X) (S1.ice X) ab kx (λj=>j) (λb hb=>⟨hb,rfl⟩) bg (by
       intro o j O e' z;obtain⟨q1,_⟩:=bh o j O;subst q1;exact⟨e',z,rfl,rfl,rfl⟩) 9 x.2 e.2 g6).1
      have hr:=hρ j br g1 x g4;refine⟨(x.1 && X j,x.2),by rw[a9,g4];rfl,hr,?_,?_⟩
      .simp only[QJ];rw[<-an.1]
      .simp only[QV];rw[<-an.2]
     ·
      have aa:domB H0 j=true:=by
       rcases q2 with h|h
       .exact h
       .have h5:=am (σ j) ⟨by rw[hσge j h.1];omega,by rw[hσge j h.1];show nx+(j - k)<nx+cnt;omega⟩;rw[h5] at G;cases G
      have ba:=bc j aa (λj' a b=>Z j' a b);obtain⟨e0,ad⟩:=aj j aa;have g4:=ax j e0 ad ba;have hr:=hρ j br cv e0 g4
      have:=hS j e0 ad
      rw[G] at this;obtain rfl:=Al this;refine⟨(e0.1 && X j,e0.2),by rw[a9,g4];rfl,hr,?_,?_⟩
      .simp only[QJ]
      .simp only[QV]
    have aq: ∀n e' l,S'.h n=some e'->S'.ρ n=some l->(∃j x,n=σ j/\S1.h j=some x/\e'.1=x.1/\S1.ρ j=some l/\(k<=j->x.1=true)/\DD j/\kx j=some j/\e'.2.isView=x.2.isView)\/(S.h n=some e'/\S.ρ n=some l/\ ∀j,domB H0 j=true->n≠σ j):=by
     intro n e' l z hl;rcases ah n e' z with ⟨j,e,rfl,G,Z,rfl⟩|⟨G,Z⟩
     .obtain⟨g0,g1,g2,g3,x,g4,g5,g6⟩:=ag j e G;have hr:=hρ j g0 g1 x g4;refine .inl ⟨j,x,rfl,g4,g5,by rw[<-hr];exact hl,?_,g0,g3,?_⟩
      .intro cc;rcases g2 with g2|g2
       .omega
       .rw[<-g5];exact g2.2
      .have hv:(e.2.ren σ).isView=e.2.isView:=by cases e.2<;>rfl
       show (e.2.ren σ).isView=_;rw[hv];exact cvtE_view g6
     .by_cases hn: ∃j,domB H0 j=true/\n=σ j
      .obtain⟨j,aa,rfl⟩:=hn;have ba:=bc j aa (λj' a b=>Z j' a b);obtain⟨e0,ad⟩:=aj j aa;have g4:=ax j e0 ad ba;have as:=ao j aa;have hr:=hρ j (.inl aa) (by omega) e0 g4
       have:=hS j e0 ad
       rw[G] at this;obtain rfl:=Al this;exact .inl ⟨j,e0,rfl,g4,rfl,by rw[<-hr];exact hl,λh=>by omega,.inl aa,bb j aa,by cases e0.2<;>rfl⟩
      .have bx: ∀j,domB H0 j=true->n≠σ j:=λj O h=>hn ⟨j,O,h⟩
       refine .inr ⟨G,?_,bx⟩;have bw: ¬Fr nx cnt n:=by
        intro a8
        have:=am n a8
        rw[this] at G;cases G
       have hρo:S'.ρ n=S.ρ n:=by
        simp only[S'];rw[Ab (by intro h;exact bw ⟨h.1,h.2⟩)]
       rw[<-hρo];exact hl
    have co:Wf C S':=by
     refine⟨hc.wf.os.trans hW.os,hc.wf.tape.trans hW.tape,hc.wf.output.trans hW.output,BK hW.size hc.wf.size,?_,λb hb=>ab.ok0 b (hW.ok0 b hb),?_,ab.oks,?_,?_,?_,hW.gl⟩
     .intro b hb hM;have cz: ¬M0 b:=by
       rintro⟨j,e,l,G,Z,h3,h4⟩
       have:=(hW.loc _ _ l (hS j e G) h3).2
       rw[show (e.1,e.2.ren σ).1=true from Z] at this;simp only[AQ] at this;rcases this.2 with h5|h5
       .omega
       .exact hM (h4▸h5)
      exact (au b (CY hb hW.size) cz).trans (hW.keep b hb hM)
     .intro b hb;rcases ab.ok1 b hb with h|h|h
      .exact hW.ok1 b h
      .exact .inr (.inl (BK hW.size h))
      .obtain⟨j,e,l,G,Z,h3,h4⟩:=h
       have:=(hW.loc _ _ l (hS j e G) h3).2
       rw[show (e.1,e.2.ren σ).1=true from Z] at this;simp only[AQ] at this;rw[<-h4];exact .inr this.2
     .intro n e' z;rcases ah n e' z with ⟨j,e,rfl,G,Z,rfl⟩|⟨G,Z⟩
      .obtain⟨g0,g1,g2,g3,x,g4,g5,g6⟩:=ag j e G;have an:=ab.obj j (x.1 && X j,x.2) (by rw[a9,g4];rfl);have hr:=hρ j g0 g1 x g4;have h5:=(TX (S':=S') (τ:=σ) ab (λb hb=>⟨hb,rfl⟩) bg aw g6).2 _ (λ_ _=>rfl) an;rw[hr];exact h5
      .by_cases hn: ∃j,domB H0 j=true/\n=σ j
       .obtain⟨j,aa,rfl⟩:=hn;have ba:=bc j aa (λj' a b=>Z j' a b);obtain⟨e0,ad⟩:=aj j aa;have g4:=ax j e0 ad ba;have as:=ao j aa;have hr:=hρ j (.inl aa) (by omega) e0 g4
        have:=hS j e0 ad
        rw[G] at this;obtain rfl:=Al this;rw[hr];have an:=hc.wf.obj j e0 g4;have h7:=XQ (S:=S1) (S':=S') (σ:=λn=>n) (τ:=σ) (l:=S1.ρ j) (λb hb=>⟨.inl hb,rfl⟩) (λ_ _=>rfl) e0.2 ?_ (by rw[Xp];exact an)
        .exact h7
        .intro m hm;refine⟨λe' z=> ?_⟩;have c6:m<k:=KP _ hbH j e0 ad m hm;cases hkm:kx m with
         |some m'=>
          obtain⟨rfl,_⟩:=bh m m' hkm;obtain⟨x,q1,q2,q3,q4⟩:=aw m' m' hkm e' z;obtain⟨y,q5,q6⟩:=Hr q1;exact⟨y,q5,q2,by rw[q3,q6],by rw[q4,q6]⟩
         |none=>
          exfalso;have cy:domB H0 m≠true:=λh=>by rw[bb m h] at hkm;cases hkm
          exact cy (bt j e0 ad m hm)
       .have bx: ∀j,domB H0 j=true->n≠σ j:=λj O h=>hn ⟨j,O,h⟩
        have bw: ¬Fr nx cnt n:=by
         intro a8
         have:=am n a8
         rw[this] at G;cases G
        have hρo:S'.ρ n=S.ρ n:=by
         simp only[S'];rw[Ab (by intro h;exact bw ⟨h.1,h.2⟩)]
        rw[hρo];refine DU (X:=λm=> ¬Fr nx cnt m) ⟨bn,λo ho e' z=>bd o ho e' z⟩ ?_ e'.2 (λm hm=>bi n e' G m hm) (hW.obj n e' G);intro lc cw;obtain⟨p1,p2⟩:=a0 n e' lc G cw bx;exact au lc.b p1 p2
     .intro n e' l z hl;rcases aq n e' l z hl with ⟨j,x,rfl,g4,g5,g6,g7,g8,cj,g9⟩|⟨G,Z,h3⟩
      .have ct:X j=true:=by simp only[X,cj];rfl
       have ac:=ab.loc j (x.1 && X j,x.2) l (by rw[a9,g4];rfl) g6;rw[ct,CB] at ac;refine⟨ac.1,?_⟩;rw[g5];cases hm:x.1 with
       |false=>
        have h9:=ac.2;simp only[hm] at h9;simp only[B1,Bp] at h9⊢;rcases h9 with h9|h9
        .exact .inl h9
        .refine .inr ?_;rw[g9];exact h9
       |true=>
        have h9:=ac.2;simp only[hm,AQ] at h9⊢;refine⟨h9.1,?_⟩;rcases h9.2 with bo|bo
        .exact .inl (BK hW.size bo)
        .obtain⟨j',e0,l0,p1,p2,p3,p4⟩:=bo
         have:=(hW.loc _ _ l0 (hS j' e0 p1) p3).2
         rw[show (e0.1,e0.2.ren σ).1=true from p2] at this;simp only[AQ] at this;rw[<-p4];exact this.2
      .obtain⟨p1,p2⟩:=hW.loc n e' l G Z;obtain⟨p3,p4⟩:=a0 n e' l G Z h3;refine⟨CY p1 hc.wf.size,?_⟩;cases hm:e'.1 with
       |false=>
        rw[hm] at p2;simp only[B1,Bp] at p2⊢;exact p2.imp (λh=>ab.ok0 _ h) id
       |true=>
        rw[hm] at p2;simp only[AQ] at p2⊢;refine⟨λc2=> ?_,p2.2⟩;rcases ab.ok1 _ c2 with h|h|h
        .exact p2.1 h
        .have h:S.w.heap.size<=l.b:=h;omega
        .exact p4 h
     ·
      have bl: ∀j x l n' e2 l',S1.h j=some x->S1.ρ j=some l->(k<=j->x.1=true)->DD j->S.h n'=some e2->S.ρ n'=some l'->(∀i,domB H0 i=true->n'≠σ i)->l.b=l'.b->(x.1||e2.1)=true->False:=by
       intro j x l n' e2 l' g1 g2 g3 g4 p1 p2 p3 af ak;obtain⟨q1,q2⟩:=a0 n' e2 l' p1 p2 p3;by_cases as:j<k
       .have aa:domB H0 j=true:=g4.resolve_right (by omega);obtain⟨e0,r1,r2,_,_⟩:=hc.pre j as x g1;have hρj:S.ρ (σ j)=some l:=by rw[<-r2|>λh=>show S1.ρ j=S.ρ (σ j) from h];exact g2
        have c3:(e0.1||e2.1)=true:=by
         cases he2:e2.1 with
         |true=>simp
         |false=>
          rw[he2,G3] at ak;have ac:=(hc.wf.loc j x l g1 g2).2;rw[ak] at ac;simp only[AQ] at ac;rcases ac.2 with h|h
          .have h:S.w.heap.size<=l.b:=h;omega
          .exact absurd (af▸h) q2
        exact p3 j aa (hW.inj _ _ _ _ l' l p1 (hS j e0 r1) p2 hρj af.symm (by rw[Bool.or_comm];exact c3))
       .have ac:=(hc.wf.loc j x l g1 g2).2;rw[g3 (by omega)] at ac;simp only[AQ] at ac;rcases ac.2 with h|h
        .have h:S.w.heap.size<=l.b:=h;omega
        .exact q2 (af▸h)
      intro n n' e1 e2 l l' he z hl bv af ak;rcases aq n e1 l he hl with ⟨j,x,rfl,g1,g2,g3,g4,g5,_⟩|⟨g1,g2,g3⟩<;>rcases aq n' e2 l' z bv with ⟨j',x',rfl,p1,p2,p3,p4,p5,_⟩|⟨p1,p2,p3⟩
      .have cr:=hc.wf.inj j j' x x' l l' g1 p1 g3 p3 af (by rw[<-g2,<-p2];exact ak);rw[cr]
      .exact (bl j x l n' e2 l' g1 g3 g4 g5 p1 p2 p3 af (by rw[<-g2];exact ak)).elim
      .exact (bl j' x' l' n e1 l p1 p3 p4 p5 g1 g2 g3 af.symm (by rw[<-p2,Bool.or_comm];exact ak)).elim
      .exact hW.inj _ _ _ _ l l' g1 p1 g2 p2 af ak
    have cs:conc S' (r.ren σ) v:=T6 (S':=S') (τ:=σ) ab (λb hb=>⟨hb,rfl⟩) bg aw 9 (resV xs) r v hcv (DV (DI S1 X) _ _ (λ_ _=>trivial) bq);exact b9 v S' co rfl ⟨bn,λo ho e' z=>bd o ho e' z⟩ (ck σ S' v cs)
 intro e a w he;cases e<;>simp only[toQ] at he<;>simp only[bodyPost]
 .obtain⟨s,hs,hc⟩:=he;obtain⟨s',bp,bz⟩:=hQ C0 _ a w s rfl hc (.inl hs);exact fin s' a w bz bp
 .obtain⟨s,hs,_⟩:=he;exact (cm _ _ hs).elim
 .obtain⟨s,hs,hc⟩:=he;obtain⟨s',bp,bz⟩:=hQ C0 _ a w s rfl hc (.inr hs);exact fin s' a w bz bp
def retBQ_ok{P:Program}{z:List ResultVar}{k cnt:Nat}{H0 H1:Ag}{klB exB:Nat->Bool}{R:AV->Prop}: ∀(C:Ctx) (N:Nat) (a:Act) (w:World) (s:Ac),C.n0=k->Con C N s a w->
 F8 P z k cnt H0 H1 klB exB R .normal s\/F8 P z k cnt H0 H1 klB exB R .ret s-> ∃s',Con C N s' a w/\retB P z k cnt H0 H1 klB exB R s':=by
 rintro C N a w s _ hc (h|h)<;>exact⟨s,hc,h⟩
def retNQ_ok{P:Program}{z:List ResultVar}{k cnt:Nat}{H0 H1:Ag}{klB exB:Nat->Bool}{R:AV->Prop}: ∀(C:Ctx) (N:Nat) (a:Act) (w:World) (s:Ac),C.n0=k->Con C N s a w->
 C4 P z k cnt H0 H1 klB exB R .normal s\/C4 P z k cnt H0 H1 klB exB R .ret s-> ∃s',Con C N s' a w/\retB P z k cnt H0 H1 klB exB R s':=by
 rintro C N a w s hk hc (h|h)<;>obtain⟨F,π,s',G,O,Z,Q⟩:=h<;>exact⟨s',GO (Pc F hc) G O (by omega) (by omega),Q⟩
def Bu(h:Nat->Option Ent)(σ:Nat->Nat):Ag->Prop
 |[]=>True
 |(j,(z,e))::r=>h (σ j)=some (z,e.ren σ)/\Bu h σ r
def Tr{h:Nat->Option Ent}{σ:Nat->Nat}: ∀{H:Ag},Bu h σ H-> ∀j e,(j,e)∈H->h (σ j)=some (e.1,e.2.ren σ)
 |[],_,j,e,z=>by cases z
 |(i,(Q,x))::r,hH,j,e,z=>by
  obtain⟨G,O⟩:=hH;rcases A9.1 z with z|z
  .cases z;exact G
  .exact Tr O j e z
structure NmOk(H0:Ag)(klB:Nat->Bool)(τ:Nat->Nat)(nx:Nat)(U KL:List Nat):Prop where
 inj: ∀i j,domB H0 i=true->domB H0 j=true->τ i=τ j->i=j
 lt: ∀j,domB H0 j=true->τ j<nx
 u: ∀j,domB H0 j=true->τ j∈U
 k1: ∀n∈KL,∃j,domB H0 j=true/\klB j=true/\n=τ j
 k2: ∀j,domB H0 j=true->klB j=true->τ j∈KL
def orow{A:Type}(ca:A->List AV)(H0:A->Ag)(k:Nat)(pre:A->Prop)(klB:Nat->Bool)(r0:A->AV)(H1:A->Ag)(cnt:Nat):Row:=λargs h nx K=>
 ∃(a:A) (τ:Nat->Nat) (U KL:List Nat),pre a/\args=renL (sgx τ k nx) (ca a)/\Bu h (sgx τ k nx) (H0 a)/\NmOk (H0 a) klB τ nx U KL/\
  K ((r0 a).ren (sgx τ k nx)) {use:=U,kill:=KL,new:=renH (sgx τ k nx) (H1 a),cnt:=cnt}
def AT(H0:Ag):Ag->Prop
 |[]=>True
 |(_,(_,e))::r=>(∀m∈e.nms,domB H0 m=true)/\AT H0 r
def SY{H0:Ag}: ∀{H:Ag},AT H0 H-> ∀j e,(j,e)∈H-> ∀m∈e.2.nms,domB H0 m=true
 |[],_,j,e,z=>by cases z
 |(i,(Q,x))::r,hH,j,e,z=>by
  obtain⟨G,O⟩:=hH;rcases A9.1 z with z|z
  .cases z;exact G
  .exact SY O j e z
def osn(os:List Nat)(j:Nat):Nat:=os.getD j 0
def KJ:List Nat->Bool
 |[]=>true
 |x::r=> !r.contains x && KJ r
def V5: ∀(os:List Nat),KJ os=true->os.Nodup
 |[],_=>List.nodup_nil
 |x::r,h=>by
  simp only[KJ,Av,EX] at h;refine Ed.2 ⟨λz=> ?_,V5 r h.2⟩;rw[DQ.2 z] at h;cases h.1
def IP(nx:Nat):List Nat->Bool
 |[]=>true
 |x::r=>Nat.blt x nx && IP nx r
def Xf{nx:Nat}: ∀(os:List Nat),IP nx os=true-> ∀o∈os,o<nx
 |[],_,o,h=>by cases h
 |x::r,h,o,z=>by
  simp only[IP,Av,Ch] at h;rcases A9.1 z with rfl|z
  .exact h.1
  .exact Xf r h.2 o z
def klO(klB:Nat->Bool):List Nat->Nat->List Nat
 |[],_=>[]
 |x::r,j=>bif klB j then x::klO klB r (j+1) else klO klB r (j+1)
def Ut{klB:Nat->Bool}: ∀(os:List Nat) (j n:Nat),n∈klO klB os j↔ ∃i,i<os.length/\klB (j+i)=true/\os[i]? =some n
 |[],j,n=>by simp[klO]
 |x::r,j,n=>by
  have ih:=Ut (klB:=klB) r (j+1) n;simp only[klO];cases hq:klB j
  .simp only[AM];rw[ih];constructor
   .rintro⟨i,O,z,G⟩;exact⟨i+1,by simp;omega,by rw[show j+(i+1)=j+1+i by omega];exact z,by simpa using G⟩
   .rintro⟨i,O,z,G⟩;cases i with
    |zero=>rw[G1,hq] at z;cases z
    |succ i=>exact⟨i,by simp at O;omega,by rw[show j+1+i=j+(i+1) by omega];exact z,by simpa using G⟩
  .simp only[Bc,A9];rw[ih];constructor
   .rintro (rfl|⟨i,O,z,G⟩)
    .exact⟨0,by simp,hq,by simp⟩
    .exact⟨i+1,by simp;omega,by rw[show j+(i+1)=j+1+i by omega];exact z,by simpa using G⟩
   .rintro⟨i,O,z,G⟩;cases i with
    |zero=>left;simpa using G.symm
    |succ i=>right;exact⟨i,by simp at O;omega,by rw[show j+1+i=j+(i+1) by omega];exact z,by simpa using G⟩
def nmOk_os{H0:Ag}{klB:Nat->Bool}{os:List Nat}{nx:Nat}(hd:KJ os=true)(hl:IP nx os=true)(hH: ∀j,domB H0 j=true↔j<os.length):NmOk H0 klB (osn os) nx os (klO klB os 0):=by
 have Z:=V5 os hd;have O: ∀j,j<os.length->os[j]? =some (osn os j):=by
  intro j z;simp[osn,z]
 have hm: ∀j,j<os.length->osn os j∈os:=λj z=>Ax (O j z)
 refine⟨λi j hi z h=> ?_,λj z=>Xf os hl _ (hm j ((hH j).1 z)),λj z=>hm j ((hH j).1 z),λn hn=> ?_,λj z hk=> ?_⟩
 .have G:=O i ((hH i).1 hi);have Q:=O j ((hH j).1 z);rw[h] at G;exact (List.getElem?_inj ((hH i).1 hi) Z).1 (G.trans Q.symm)
 .obtain⟨i,G,Q,h3⟩:=(Ut os 0 n).1 hn;refine⟨i,(hH i).2 G,by simpa using Q,?_⟩;rw[O i G] at h3;exact (Al h3).symm
 .exact (Ut os 0 _).2 ⟨j,(hH j).1 z,by simpa using hk,O j ((hH j).1 z)⟩
def orow.os{A:Type}{ca:A->List AV}{H0:A->Ag}{k:Nat}{pre:A->Prop}{klB:Nat->Bool}{r0:A->AV}{H1:A->Ag}{cnt:Nat}{args:List AV}{h:Nat->Option Ent}{nx:Nat}{K:Kont}(a:A)(os:List Nat)(z:pre a)
 (hH: ∀j,domB (H0 a) j=true↔j<os.length)(hd:KJ os=true)(Q:IP nx os=true)
 (G:args=renL (sgx (osn os) k nx) (ca a)/\Bu h (sgx (osn os) k nx) (H0 a))
 (O:K ((r0 a).ren (sgx (osn os) k nx)) {use:=os,kill:=klO klB os 0,new:=renH (sgx (osn os) k nx) (H1 a),cnt:=cnt}):orow ca H0 k pre klB r0 H1 cnt args h nx K:=
 ⟨a,osn os,os,klO klB os 0,z,G.1,G.2,nmOk_os hd Q hH,O⟩
def orR(z r2:Row):Row:=λargs h nx K=>z args h nx K\/r2 args h nx K
def orR_ok{P:Program}{g:Nat}{G r2:Row}(O:Ak P g G)(Q:Ak P g r2):Ak P g (orR G r2):=by
 rintro args h nx K (z|z)
 .exact O args h nx K z
 .exact Q args h nx K z
def scL:List D->Bool
 |[]=>true
 |x::r=>x.sc && scL r
def frO(K:D->Prop):Option Ent->Prop
 |some (true,.arr _ k rows)=>OneR scL rows/\K (.sl false k rows)
 |_=>False
def frA(h:Nat->Option Ent)(K:D->Prop):AV->Prop
 | .im d=>d.scs=true/\K d
 | .own o=>frO K (h o)
 |_=>False
def frAL(h:Nat->Option Ent):List AV->(List D->Prop)->Prop
 |[],K=>K []
 |x::r,K=>frA h (λd=>frAL h r λds=>K (d::ds)) x
def frB(h:Nat->Option Ent)(K:D->Prop):AV->Prop
 | .im d=>d.scs=true/\K d
 | .own o=>frO K (h o)
 | .agg z=>frAL h z λds=>K (.agg ds)
 |_=>False
def frBL(h:Nat->Option Ent):List AV->(List D->Prop)->Prop
 |[],K=>K []
 |x::r,K=>frB h (λd=>frBL h r λds=>K (d::ds)) x
def frP(h:Nat->Option Ent)(K:D->Prop):AV->Prop
 | .im d=>d.scs=true/\K d
 | .own o=>frO K (h o)
 | .agg z=>frAL h z λds=>K (.agg ds)
 | .tup z=>frBL h z λds=>K (.tup ds)
 |_=>False
def retF1(R:D->Prop)(s:Ac):Option (List AV)->Prop
 |some xs=>frP (hget s.h) R (resV xs)
 |none=>False
def retF(P:Program)(z:List ResultVar)(R:D->Prop)(s:Ac):Prop:=retF1 R s (mapO (ER P s) z)
def J1(P:Program)(z:List ResultVar)(R:D->Prop):Be
 | .normal,s=>retF P z R s
 | .ret,s=>retF P z R s
 | .exit _,_=>False
def scL_all: ∀(r:List D),scL r=true->r.all D.sc=true
 |[],_=>rfl
 |x::r,h=>by
  simp only[scL,Av] at h;simp[h.1,scL_all r h.2]
def rdp_sc{ok ok':Nat->Prop}{hp hp':Nat->Option Obj}: ∀(ds:List D) (vs:List Value),ds.all D.sc=true->rdp ok hp ds vs->rdp ok' hp' ds vs
 |[],_,_,_=>by simp only[rdp]
 |d::ds,vs,h,hd=>by
  simp only[rdp,Fx,Av] at hd h⊢;obtain⟨v,r,rfl,z,G⟩:=hd;exact⟨v,r,rfl,rd_sc h.1 z,rdp_sc ds r h.2 G⟩
def rdr_sc{ok ok':Nat->Prop}{hp hp':Nat->Option Obj}{k:Nat}: ∀(z:List (List D)) (vs:List Value),OneR scL z->rdr ok hp k z vs->rdr ok' hp' k z vs
 |[],_,_,_=>by simp only[rdr]
 |r::z,vs,h,hd=>by
  simp only[rdr] at hd⊢;exact⟨hd.1,rdp_sc r vs (scL_all r (h r (AU ..))) hd.2.1,rdr_sc z _ (λx G=>h x (AX _ G)) hd.2.2⟩
section
variable {C:Ctx}{S:Env}
def okF(C:Ctx)(S:Env)(b:Nat):Prop:=C.w.heap.size<=b/\b<S.w.heap.size/\ ¬S.ok b
def XM(hM: ∀b,¬C.M b)(hW:Wf C S){K:D->Prop}{o:Nat}{v:Value}(G:frO K (S.h o))(hc:conc S (.own o) v): ∃d,K d/\rd (okF C S) S.hp d v:=by
 cases he:S.h o with
 |none=>rw[he] at G;exact G.elim
 |some e=>
  obtain⟨mu,e⟩:=e;rw[he] at G;cases mu with
  |false=>cases e<;>exact G.elim
  |true=>
  cases e with
  |arr T k rows=>
   simp only[frO] at G;refine⟨_,G.2,?_⟩;have z:=hW.obj o _ he;simp only[conc] at hc;obtain⟨_,hc⟩:=hc;have hc:=hc _ he;simp only[objc] at z;cases hl:S.ρ o with
   |none=>
    rw[hl] at hc z;simp only[rd];exact .inl ⟨.inl hc,z.2⟩
   |some l=>
    rw[hl] at hc z;obtain⟨h0,Q,vs,Z,h3,h4⟩:=z;obtain⟨q1,O⟩:=hW.loc o _ l he hl;simp only[AQ] at O;simp only[rd];refine .inr ⟨l.b,l.p,l.cap,vs,T,(0,0),hc,by simp,Q,h0,⟨?_,q1,O.1⟩,Z,rdr_sc rows _ G.1 h4⟩;rcases O.2 with h|h
    .exact h
    .exact absurd h (hM _)
  |_=>exact G.elim
def frA_spec(G: ∀b,¬C.M b)(hW:Wf C S){K:D->Prop}{x:AV}{v:Value}(z:frA S.h K x)(hc:conc S x v): ∃d,K d/\rd (okF C S) S.hp d v:=by
 cases x with
 |im d=>
  simp only[frA] at z;simp only[conc] at hc;exact⟨d,z.2,rd_scs z.1 hc⟩
 |own o=>
  simp only[frA] at z;exact XM G hW z hc
 |_=>exact z.elim
def Xn(G: ∀b,¬C.M b)(hW:Wf C S): ∀(xs:List AV) (K:List D->Prop) (vs:List Value),frAL S.h xs K->Ap S xs vs-> ∃ds,K ds/\rdl (okF C S) S.hp ds vs
 |[],K,vs,z,hc=>by
  simp only[frAL] at z;simp only[Ap] at hc;exact⟨[],z,by simp only[rdl];exact hc⟩
 |x::xs,K,vs,z,hc=>by
  simp only[frAL] at z;simp only[Ap] at hc;obtain⟨v,r,rfl,O,Q⟩:=hc;obtain⟨d,Z,h4⟩:=frA_spec G hW z O;obtain⟨ds,h5,h6⟩:=Xn G hW xs _ r Z Q;exact⟨d::ds,h5,by simp only[rdl];exact⟨v,r,rfl,h4,h6⟩⟩
def Qs(G: ∀b,¬C.M b)(hW:Wf C S){K:D->Prop}{x:AV}{v:Value}(z:frB S.h K x)(hc:conc S x v): ∃d,K d/\rd (okF C S) S.hp d v:=by
 cases x with
 |im d=>
  simp only[frB] at z;simp only[conc] at hc;exact⟨d,z.2,rd_scs z.1 hc⟩
 |own o=>
  simp only[frB] at z;exact XM G hW z hc
 |agg O=>
  simp only[frB] at z;simp only[conc] at hc;obtain⟨vs,rfl,Q⟩:=hc;obtain⟨ds,Z,h3⟩:=Xn G hW O _ _ z Q;exact⟨_,Z,by simp only[rd];exact⟨vs,rfl,h3⟩⟩
 |_=>exact z.elim
def Xg(G: ∀b,¬C.M b)(hW:Wf C S): ∀(xs:List AV) (K:List D->Prop) (vs:List Value),frBL S.h xs K->Ap S xs vs-> ∃ds,K ds/\rdl (okF C S) S.hp ds vs
 |[],K,vs,z,hc=>by
  simp only[frBL] at z;simp only[Ap] at hc;exact⟨[],z,by simp only[rdl];exact hc⟩
 |x::xs,K,vs,z,hc=>by
  simp only[frBL] at z;simp only[Ap] at hc;obtain⟨v,r,rfl,O,Q⟩:=hc;obtain⟨d,Z,h4⟩:=Qs G hW z O;obtain⟨ds,h5,h6⟩:=Xg G hW xs _ r Z Q;exact⟨d::ds,h5,by simp only[rdl];exact⟨v,r,rfl,h4,h6⟩⟩
def UN(G: ∀b,¬C.M b)(hW:Wf C S){K:D->Prop}{x:AV}{v:Value}(z:frP S.h K x)(hc:conc S x v): ∃d,K d/\rd (okF C S) S.hp d v:=by
 cases x with
 |tup O=>
  simp only[frP] at z;simp only[conc] at hc;obtain⟨vs,rfl,Q⟩:=hc;obtain⟨ds,Z,h3⟩:=Xg G hW O _ _ z Q;exact⟨_,Z,by simp only[rd];exact⟨vs,rfl,h3⟩⟩
 |im d=>exact Qs (x:= .im d) G hW (by simpa only[frP,frB] using z) hc
 |own o=>exact Qs (x:= .own o) G hW (by simpa only[frP,frB] using z) hc
 |agg O=>exact Qs (x:= .agg O) G hW (by simpa only[frP,frB] using z) hc
 |_=>exact z.elim
end
def Fs(f:AV->Option D):Option Ent->Option D
 |some (_,.arr _ k rows)=>some (.sl false k rows)
 |some (_,.arrA _ k rows)=>(mapO (mapO f) rows).map (.sl false k)
 |_=>none
def bkMap:Option Ent->Option D
 |some (_,.map G z)=>some (.mp G z)
 |_=>none
def Jw(f:AV->Option D)(off:Nat):Option Ent->Option (List D)
 |some (_,.cells _ z)=>mapO f (z.drop off)
 |some (_,.view z)=>some (z.drop off)
 |_=>none
def bkFn(g:FuncId):Option (List D)->Option (List D)->Option D
 |some a,some c=>some (.fn g a c)
 |some _,none=>none
 |none,_=>none
def bk(h:Nat->Option Ent):Nat->AV->Option D
 |0,_=>none
 |_+1,.im d=>some d
 |n+1,.agg z=>(mapO (bk h n) z).map .agg
 |n+1,.tup z=>(mapO (bk h n) z).map .tup
 |n+1,.own o=>Fs (bk h n) (h o)
 |_+1,.mp o=>bkMap (h o)
 |n+1,.ptr o off=>(Jw (bk h n) off (h o)).map .ref
 |n+1,.clo f a c=>bkFn f (mapO (bk h n) a) (mapO (bk h n) c)
 |_+1,.any=>none
 |_+1,.eptr _ _ _=>none
 |_+1,.ch _=>none
 |_+1,.it _=>none
 |_+1,.osl _ _ _=>none
def pkFP(ds:Option (List D)):Option PK:=ds.map .ptr
def pkFV(d:Option D):Option PK:=d.map .val
def pkF(h:Nat->Option Ent):AV->Option PK
 | .im d=>some (pkI d)
 | .ptr o off=>pkFP (Jw (bk h 8) off (h o))
 | .own o=>pkFV (bk h 9 (.own o))
 | .mp o=>pkFV (bk h 9 (.mp o))
 | .agg z=>pkFV (bk h 9 (.agg z))
 | .tup z=>pkFV (bk h 9 (.tup z))
 | .clo f a c=>pkFV (bk h 9 (.clo f a c))
 | .any=>none
 | .eptr _ _ _=>none
 | .ch _=>none
 | .it _=>none
 | .osl _ _ _=>none
def Ei:Option PK->Option (List PK)->Option (List PK)
 |some p,some z=>some (p::z)
 |some _,none=>none
 |none,_=>none
def pkFL(h:Nat->Option Ent):List AV->Option (List PK)
 |[]=>some []
 |x::r=>Ei (pkF h x) (pkFL h r)
def rchE(f:AV->List Nat):Option Ent->List Nat
 |some (_,.cells _ z)=>z.flatMap f
 |some (_,.arrA _ _ rows)=>rows.flatMap λr=>r.flatMap f
 |_=>[]
def rch(h:Nat->Option Ent):Nat->AV->List Nat
 |0,_=>[]
 |n+1,.agg z=>z.flatMap (rch h n)
 |n+1,.tup z=>z.flatMap (rch h n)
 |n+1,.own o=>o::rchE (rch h n) (h o)
 |_+1,.mp o=>[o]
 |n+1,.ptr o _=>o::rchE (rch h n) (h o)
 |n+1,.clo _ a c=>a.flatMap (rch h n)++c.flatMap (rch h n)
 |_+1,_=>[]
def rchL(h:Nat->Option Ent)(xs:List AV):List Nat:=xs.flatMap (rch h 9)
def Env.froz(S:Env):Env:=⟨S.ρ,λb=>S.ok b\/ ∃o e l,S.h o=some e/\S.ρ o=some l/\l.b=b,λo=>(S.h o).map λe=>(false,e.2),S.w⟩
def LZ{S:Env}{o:Nat}{e':Ent}(h:S.froz.h o=some e'): ∃e,S.h o=some e/\e'=(false,e.2):=by
 simp only[Env.froz,BF] at h;obtain⟨e,z,rfl⟩:=h;exact⟨e,z,rfl⟩
def LY(S:Env):Pres (λ_=>True) S S.froz:=by
 refine⟨λb hb=>⟨.inl hb,rfl⟩,λo _ e' z=> ?_⟩;obtain⟨e,G,rfl⟩:=LZ z;exact⟨e,G,rfl,rfl,rfl⟩
def frozC(S:Env):Ctx:=⟨S.w,λ_=>False,S.froz.ok,0,λ_=>none,λ_=>none,[]⟩
def Rk{C:Ctx}{S:Env}(hW:Wf C S):Wf (frozC S) S.froz:=by
 refine⟨rfl,rfl,rfl,Ar _,λ_ _ _=>rfl,λ_ hb=>hb,λ_ hb=> .inl hb,?_,?_,?_,?_,hW.gp.mono λb o hb ho=>⟨⟨.inl hb,λh=>h.elim⟩,ho⟩⟩
 .rintro b (hb|⟨o,e,l,G,Q,rfl⟩)
  .exact hW.oks b hb
  .exact (hW.loc o e l G Q).1
 .intro o e' z;obtain⟨e,G,rfl⟩:=LZ z;exact DU (LY S) (λ_ _=>rfl) _ (λ_ _=>trivial) (hW.obj o e G)
 .intro o e' l z O;obtain⟨e,G,rfl⟩:=LZ z;exact⟨(hW.loc o e l G O).1,.inl (.inr ⟨o,e,l,G,O,rfl⟩)⟩
 .intro o o' e e' l l' Z z _ _ _ hf;obtain⟨x,_,rfl⟩:=LZ Z;obtain⟨x',_,rfl⟩:=LZ z;simp at hf
section
variable {C:Ctx}{S:Env}{h:Nat->Option Ent}
def Wl(hW:Wf C S){f:AV->Option D}{g:AV->List Nat}(hf: ∀x d v,(∀m∈g x,S.h m=h m)->f x=some d->conc S x v->rd S.froz.ok S.froz.hp d v)
 {o off:Nat}{ds:List D}{v:Value}(h1:S.h o=h o)(Z: ∀m∈rchE g (h o),S.h m=h m)(hd:Jw f off (h o)=some ds)(hc:conc S (.ptr o off) v):
 ∃b p vs T fr,v= .pointer (some ⟨b,p,none⟩)/\S.froz.ok b/\S.froz.hp b=some (.cells vs T fr)/\rdp S.froz.ok S.froz.hp ds (vs.toList.drop p):=by
 have hL: ∀(cs:List AV) (ds:List D) (vs:List Value),(∀m∈cs.flatMap g,S.h m=h m)->mapO f cs=some ds->Bg S cs vs->rdp S.froz.ok S.froz.hp ds vs:=by
  intro cs;induction cs with
  |nil=>
   intro ds vs _ hd _;simp only[mapO,An] at hd;subst hd;simp only[rdp]
  |cons x cs ih=>
   intro ds vs hh hd hc;simp only[mapO] at hd;simp only[Bg] at hc;obtain⟨v,r,rfl,h1,h2⟩:=hc;split at hd
   .rename_i y ys hy aa;obtain rfl:=Al hd;simp only[rdp];exact⟨v,r,rfl,hf x y v (λm O=>hh m (by rw[Dg];exact Fb _ O)) hy h1,ih ys r (λm O=>hh m (by rw[Dg];exact Hh _ O)) aa h2⟩
   .cases hd
 simp only[conc] at hc;obtain⟨_,hc⟩:=hc;rw[<-h1] at hd Z;cases he:S.h o with
 |none=>rw[he] at hd;cases hd
 |some e=>
  obtain⟨l,hl,rfl⟩:=hc e he;have Q:S.froz.ok l.b:= .inr ⟨o,e,l,he,hl,rfl⟩;obtain⟨mu,e⟩:=e;rw[he] at hd Z;have z:=hW.obj o _ he;rw[hl] at z;cases e with
  |cells T cs=>
   simp only[Jw] at hd;simp only[objc] at z;obtain⟨lc,vs,h3,h4,h5,h6⟩:=z;cases h3;refine⟨l.b,l.p+off,vs,T,(0,0),rfl,Q,h5,?_⟩;rw[h4,CM];simp only[rchE] at Z;rcases Nat.le_total off cs.length with G|G
   .refine hL _ _ _ (λm O=>Z m ?_) hd (LM off cs _ (Iy _ _ h6) G);obtain⟨x,k1,k2⟩:=Ve.1 O;exact Ve.2 ⟨x,Ym k1,k2⟩
   .rw[B9 G] at hd;simp only[mapO,An] at hd;subst hd;simp only[rdp]
  |view cs=>
   simp only[Jw,An] at hd;subst hd;simp only[objc] at z;obtain⟨lc,vs,T,fr,h3,h5,h6⟩:=z;cases h3;refine⟨l.b,l.p+off,vs,T,fr,rfl,Q,h5,?_⟩;have G:=Jg (LY S).ok _ _ h6;rw[<-Cj];rcases Nat.le_total off cs.length with h|h
   .exact Hp off cs _ G h
   .rw[B9 h];simp only[rdp]
  |_=>cases hd
def bk_rd(hW:Wf C S): ∀(n:Nat) (x:AV) (d:D) (v:Value),(∀m∈rch h n x,S.h m=h m)->bk h n x=some d->conc S x v->rd S.froz.ok S.froz.hp d v:=by
 intro n;induction n with
 |zero=>intro x d v _ hd;simp[bk] at hd
 |succ n ih=>
  have Q: ∀(cs:List AV) (ds:List D) (vs:List Value),(∀m∈cs.flatMap (rch h n),S.h m=h m)->mapO (bk h n) cs=some ds->Ap S cs vs->rdl S.froz.ok S.froz.hp ds vs:=by
   intro cs;induction cs with
   |nil=>
    intro ds vs _ hd hc;simp only[mapO,An] at hd;subst hd;simpa only[Ap,rdl] using hc
   |cons x cs ac=>
    intro ds vs G hd hc;simp only[mapO] at hd;simp only[Ap] at hc;obtain⟨v,r,rfl,h1,Z⟩:=hc;split at hd
    .rename_i y ys hy ab;obtain rfl:=Al hd;simp only[rdl];exact⟨v,r,rfl,ih x y v (λm O=>G m (by rw[Dg];exact Fb _ O)) hy h1,ac ys r (λm O=>G m (by rw[Dg];exact Hh _ O)) ab Z⟩
    .cases hd
  have hp: ∀(cs:List AV) (ds:List D) (vs:List Value),(∀m∈cs.flatMap (rch h n),S.h m=h m)->mapO (bk h n) cs=some ds->Bg S cs vs->rdp S.froz.ok S.froz.hp ds vs:=by
   intro cs;induction cs with
   |nil=>
    intro ds vs _ hd hc;simp only[mapO,An] at hd;subst hd;simp only[rdp]
   |cons x cs ac=>
    intro ds vs G hd hc;simp only[mapO] at hd;simp only[Bg] at hc;obtain⟨v,r,rfl,h1,Z⟩:=hc;split at hd
    .rename_i y ys hy ab;obtain rfl:=Al hd;simp only[rdp];exact⟨v,r,rfl,ih x y v (λm O=>G m (by rw[Dg];exact Fb _ O)) hy h1,ac ys r (λm O=>G m (by rw[Dg];exact Hh _ O)) ab Z⟩
    .cases hd
  have hr: ∀(k:Nat) (rs:List (List AV)) (ds:List (List D)) (vs:List Value),(∀m∈rs.flatMap (λr=>r.flatMap (rch h n)),S.h m=h m)->mapO (mapO (bk h n)) rs=some ds->AN S k rs vs->rdr S.froz.ok S.froz.hp k ds vs/\ds.length=rs.length:=by
   intro k rs;induction rs with
   |nil=>
    intro ds vs _ hd _;simp only[mapO,An] at hd;subst hd;exact⟨by simp only[rdr],rfl⟩
   |cons x rs ac=>
    intro ds vs G hd hc;simp only[mapO] at hd;simp only[AN] at hc;split at hd
    .rename_i y ys hy ab;obtain rfl:=Al hd;obtain⟨k1,k2⟩:=ac ys _ (λm O=>G m (by rw[Dg];exact Hh _ O)) ab hc.2.2;refine⟨?_,by simp[k2]⟩;simp only[rdr];exact⟨(KF _ _ hy).trans hc.1,hp x y _ (λm O=>G m (by rw[Dg];exact Fb _ O)) hy hc.2.1,k1⟩
    .cases hd
  intro x d v G hd hc;cases x with
  |im d'=>
   simp only[bk,An] at hd;subst hd;simp only[conc] at hc;exact Dp (LY S).ok _ _ hc
  |agg cs=>
   simp only[bk,BF] at hd;obtain⟨ds,h1,rfl⟩:=hd;simp only[conc] at hc;obtain⟨vs,rfl,Z⟩:=hc;simp only[rd];exact⟨vs,rfl,Q cs ds _ G h1 Z⟩
  |tup cs=>
   simp only[bk,BF] at hd;obtain⟨ds,h1,rfl⟩:=hd;simp only[conc] at hc;obtain⟨vs,rfl,Z⟩:=hc;simp only[rd];exact⟨vs,rfl,Q cs ds _ G h1 Z⟩
  |own o=>
   simp only[rch,A9] at G;have h1:=G o (.inl rfl);simp only[bk] at hd;simp only[conc] at hc;rw[<-h1] at hd G;cases he:S.h o with
   |none=>rw[he] at hd;cases hd
   |some e=>
    have hc:=hc.2 e he;have z:=hW.obj o _ he;obtain⟨mu,e⟩:=e;rw[he] at hd G;have ag: ∀l,S.ρ o=some l->S.froz.ok l.b:=λl Q=> .inr ⟨o,_,l,he,Q,rfl⟩
    have ah:=LY S;cases e with
    |arr T k rows=>
     simp only[Fs,An] at hd;subst hd;simp only[objc] at z;simp only[rd];cases Q:S.ρ o with
     |none=>rw[Q] at hc z;exact .inl ⟨.inl hc,z.2⟩
     |some l=>
      rw[Q] at hc z;obtain⟨h0,Z,vs,h3,h4,h5⟩:=z;exact .inr ⟨l.b,l.p,l.cap,vs,T,(0,0),hc,by simp,Z,h0,ag l Q,h3,Jh ah.ok _ _ _ h5⟩
    |arrA T k rows=>
     simp only[Fs,BF] at hd;obtain⟨ds,hd,rfl⟩:=hd;simp only[objc] at z;simp only[rd];have aa:=KF _ _ hd;cases Q:S.ρ o with
     |none=>
      rw[Q] at hc z;obtain⟨_,z⟩:=z;subst z;exact .inl ⟨.inl hc,P4 (by simpa using aa)⟩
     |some l=>
      rw[Q] at hc z;obtain⟨h0,Z,vs,h3,h4,h5⟩:=z;obtain⟨k1,k2⟩:=hr k rows ds _ (λm O=>G m (.inr (by simpa only[rchE] using O))) hd h5;simp only[AObj.len] at hc;exact .inr ⟨l.b,l.p,l.cap,vs,T,(0,0),by rw[aa];exact hc,by simp,by rw[aa];exact Z,by rw[aa];exact h0,ag l Q,h3,k1⟩
    |_=>cases hd
  |mp o=>
   have h1:=G o (by simp[rch]);simp only[bk] at hd;simp only[conc] at hc;rw[<-h1] at hd;cases he:S.h o with
   |none=>rw[he] at hd;cases hd
   |some e=>
    obtain⟨l,Q,rfl⟩:=hc.2 e he;have z:=hW.obj o _ he;obtain⟨mu,e⟩:=e;rw[he] at hd;cases e with
    |map kt es=>
     simp only[bkMap,An] at hd;subst hd;rw[Q] at z;simp only[objc] at z;obtain⟨lc,af,ad,Z,h3,h4,h5,h6⟩:=z;cases Z;simp only[rd];exact⟨l.b,af,ad,rfl,h3,.inr ⟨o,_,l,he,Q,rfl⟩,h4,Fe (LY S).ok _ _ h5,h6⟩
    |_=>cases hd
  |ptr o off=>
   simp only[rch,A9] at G;simp only[bk,BF] at hd;obtain⟨ds,hd,rfl⟩:=hd;simp only[rd];exact Wl hW (g:=rch h n) (λx d v h1 Z h3=>ih x d v h1 Z h3) (G o (.inl rfl)) (λm O=>G m (.inr O)) hd hc
  |clo f a c=>
   simp only[rch,AG] at G;simp only[bk] at hd;cases ha:mapO (bk h n) a with
   |none=>rw[ha] at hd;cases hd
   |some da=>
    cases hcc:mapO (bk h n) c with
    |none=>rw[ha,hcc] at hd;cases hd
    |some dc=>
     rw[ha,hcc] at hd;simp only[bkFn,An] at hd;subst hd;simp only[conc] at hc;obtain⟨va,vc,rfl,h3,h4⟩:=hc;simp only[rd];exact⟨va,vc,rfl,Q a da _ (λm O=>G m (.inl O)) ha h3,Q c dc _ (λm O=>G m (.inr O)) hcc h4⟩
  |_=>simp[bk] at hd
def O4(hW:Wf C S){x:AV}{p:PK}{v:Value}(G: ∀m∈rch h 9 x,S.h m=h m)(hp:pkFV (bk h 9 x)=some p)(hc:conc S x v):PKc S.froz p v:=by
 simp only[pkFV,BF] at hp;obtain⟨d,z,rfl⟩:=hp;simp only[PKc];exact bk_rd hW 9 x d v G z hc
def pkF_spec(hW:Wf C S){x:AV}{p:PK}{v:Value}(z: ∀m∈rch h 9 x,S.h m=h m)(hp:pkF h x=some p)(hc:conc S x v):PKc S.froz p v:=by
 cases x with
 |im d=>
  simp only[pkF,An] at hp;subst hp;simp only[conc] at hc;exact X4 (Rk hW) (Dp (LY S).ok d v hc)
 |ptr o off=>
  simp only[rch,A9] at z;simp only[pkF,pkFP,BF] at hp;obtain⟨ds,G,rfl⟩:=hp;obtain⟨b,q,vs,T,fr,O,Q,h4,h5⟩:=Wl hW (g:=rch h 8) (λx d v G O Q=>bk_rd hW 8 x d v G O Q) (z o (.inl rfl)) (λm hm=>z m (.inr hm)) G hc;simp only[PKc];exact⟨b,q,vs,T,fr,O,(Rk hW).oks b Q,h4,h5⟩
 |own o=>exact O4 hW z hp hc
 |mp o=>exact O4 hW z hp hc
 |agg Z=>exact O4 hW z hp hc
 |tup Z=>exact O4 hW z hp hc
 |clo f a c=>exact O4 hW z hp hc
 |_=>cases hp
def Uf(hW:Wf C S): ∀(xs:List AV) (ps:List PK) (vs:List Value),(∀m∈rchL h xs,S.h m=h m)->pkFL h xs=some ps->Ap S xs vs->PKL S.froz ps vs
 |[],ps,vs,_,hp,hc=>by
  simp only[pkFL,An] at hp;subst hp;simp only[Ap] at hc;simp only[PKL];exact hc
 |x::xs,ps,vs,G,hp,hc=>by
  simp only[pkFL] at hp;simp only[Ap] at hc;obtain⟨v,r,rfl,O,Q⟩:=hc;cases hx:pkF h x with
  |none=>rw[hx] at hp;cases hp
  |some p=>
   cases hr:pkFL h xs with
   |none=>rw[hx,hr] at hp;cases hp
   |some qs=>
    rw[hx,hr] at hp;simp only[Ei,An] at hp;subst hp;simp only[PKL];refine⟨v,r,rfl,pkF_spec hW (λm z=>G m ?_) hx O,Uf hW xs qs r (λm z=>G m ?_) hr Q⟩
    .simp only[rchL,Dg];exact Fb _ z
    .simp only[rchL,Dg];exact Hh _ z
end
def view_runF{P:Program}(HM:P.follows .mixedOrders=true){V:B0}(hV:E7 P V){g:FuncId}{fn:Func}{c:Code}(hf:P.funcs[g]? =some fn)(hb:fn.body=some c)(ab:chk fn.ntmps c=true)
 {ps:List PK}(ao:ps.length<=fn.ntmps){R:D->Prop}
 (hk:awp P V c (J1 P fn.results.toList R) ⟨entry 0 (B7 0 ps),BH 0 ps,cnum ps⟩)
 {C:Ctx}{S:Env}{vs:Array Value}{RR:Ending->World->Prop}(hW:Wf C S)(af:PKL S ps vs.toList)
 (ac: ∀(v:Value) (G:Ctx) (S1:Env) (d:D),G.w=S.w->G.ok=S.ok->(∀b,¬G.M b)->Wf G S1->R d->rd (okF G S1) S1.hp d v->RR (.returned v) S1.w):Calls P g vs S.w RR:=by
 refine calls_of_wp hf hb ?_;have an:vs.size=(B7 0 ps).length:=by rw[Je];simpa using af.len
 obtain⟨ls,ad,hcl⟩:=OV ps vs.toList 0 af
 let Z:Env:=⟨ls,S.ok,hget (BH 0 ps),S.w⟩
 let G:Ctx:=⟨S.w,λ_=>False,S.ok,0,λ_=>none,λ_=>none,[]⟩
 have ai:Wf G Z:=by
  refine⟨rfl,rfl,rfl,Ar _,λ_ _ _=>rfl,λ_ hb=>hb,λ_ hb=> .inl hb,hW.oks,?_,?_,?_,hW.glN λ_ h=>h.elim⟩
  .intro n e z;obtain⟨l,O,_,h3⟩:=ad n e z;have h4:Z.ρ n=some l:=O;rw[h4];obtain⟨_,cs,rfl⟩:=DT 0 ps n e z;simp only[objc] at h3⊢;exact h3
  .intro n e l z hl;obtain⟨l',O,h2,h3⟩:=ad n e z;have h4:Z.ρ n=some l':=O;rw[h4] at hl;obtain rfl:=Al hl;obtain⟨_,cs,rfl⟩:=DT 0 ps n e z;exact⟨h2,.inr rfl⟩
  .intro n n' e e' l l' z ak hl au as am;obtain⟨_,cs,rfl⟩:=DT 0 ps n e z;obtain⟨_,aq,rfl⟩:=DT 0 ps n' e' ak;simp at am
 have aj:Con G fn.ntmps ⟨entry 0 (B7 0 ps),BH 0 ps,cnum ps⟩ {tmps:=vs++Array.replicate (fn.ntmps - vs.size) undef,defers:=[]} S.w:=by
  have Q:Ap Z (B7 0 ps) vs.toList:=hcl Z rfl rfl (λn _=>⟨rfl,rfl⟩);refine⟨Z,rfl,ai,λn=>rfl,?_,?_,?_,by simp;rw[Je] at an;omega,rfl,Bj _,λo ho=>absurd ho (M4 _)⟩
  .intro t;have O:=LK (S:=Z) (B7 0 ps) vs.toList 0 t Q;simp only[Bj,AQ,JA] at O
   have:({tmps:=vs++Array.replicate (fn.ntmps - vs.size) undef,defers:=[]}:Act).eval (.tmp t)=(vs.toList[t]?).getD undef:=by
    simp only[Act.eval,DO,P9,L0];by_cases ht:t<vs.size
    .simp[ht]
    .simp only[ht,Bp]
     have:vs[t]? =none:=IT (by omega)
     simp only[Dx,this]
     split<;>rfl
   rw[this];exact O
  .intro t m hm;exact O0 0 ps (cnum ps) (by omega) m (LS (B7 0 ps) 0 t m hm)
  .intro n e z;obtain⟨O,cs,rfl⟩:=DT 0 ps n e z;exact⟨by show n<cnum ps;omega,by simp[AObj.nms]⟩
 refine wp_mono (SZ HM (Ll hV) c ab _ _ _ _ hk aj) ?_;have fin: ∀(s:Ac) (a:Act) (w:World),retF P fn.results.toList R s->Con G fn.ntmps s a w->a.defers=[]/\ ∃v,(results fn a.tmps).run P w= .ok v w/\RR (.returned v) w:=by
  rintro s a w hr ⟨S1,rfl,hc⟩;unfold retF at hr;cases hxs:mapO (ER P s) fn.results.toList with
  |none=>rw[hxs] at hr;exact hr.elim
  |some xs=>
   rw[hxs] at hr;simp only[retF1] at hr;obtain⟨v,ag,aa⟩:=Og hc hxs;refine⟨hc.defers,v,ag,?_⟩;have ah:hget s.h=S1.h:=(funext hc.h).symm;rw[ah] at hr;obtain⟨d,O,h2⟩:=UN (λ_ h=>h) hc.wf hr aa;exact ac v G S1 d rfl rfl (λ_ h=>h) hc.wf O h2
 intro e a w z;cases e<;>simp only[toQ] at z<;>simp only[bodyPost]
 .obtain⟨s,hs,hc⟩:=z;exact fin s a w hs hc
 .obtain⟨s,hs,_⟩:=z;exact hs.elim
 .obtain⟨s,hs,hc⟩:=z;exact fin s a w hs hc
def Iz{A:Type}(ar:List PK->Option A)(pre:A->Prop)(re:A->D)(u:List Nat)(K:Kont):Option (List PK)->Prop
 |some z=>decK (λa=>pre a/\K (.im (re a)) {use:=u}) (ar z)
 |none=>False
def Fj{A:Type}(ar:List PK->Option A)(pre:A->Prop)(re:A->D):Row:=λargs h _ K=>Iz ar pre re (rchL h args) K (pkFL h args)
def decD{B:Type}(rc:D->Option B)(b:B)(d:D):Prop:=rc d=some b
def Uh{P:Program}{g:FuncId}(af:calb P g=true)
 {A B:Type}{ar:List PK->Option A}{ae:A->List PK}(au: ∀ps a,ar ps=some a->LeKL ps (ae a)){rc:D->Option B}{re:B->D}(aw: ∀d b,rc d=some b->Le d (re b))
 {pre:A->Prop}{f:A->B}
 (ai: ∀a,pre a-> ∀{C:Ctx} {S:Env} {vs:Array Value} {RR:Ending->World->Prop},Wf C S->PKL S (ae a) vs.toList->
  (∀(v:Value) (Z:Ctx) (S1:Env) (d:D),Z.w=S.w->Z.ok=S.ok->(∀b,¬Z.M b)->Wf Z S1->decD rc (f a) d->rd (okF Z S1) S1.hp d v->RR (.returned v) S1.w)->Calls P g vs S.w RR):
 Ak P g (Fj ar pre λa=>re (f a)):=by
 intro args h nx K z;unfold Fj at z;cases hp:pkFL h args with
 |none=>rw[hp] at z;exact z.elim
 |some ps=>
  rw[hp] at z;simp only[Iz] at z;cases ha:ar ps with
  |none=>rw[ha] at z;exact z.elim
  |some a=>
   rw[ha] at z;simp only[decK] at z;obtain⟨ah,hK⟩:=z;refine⟨FW af,_,_,?_,hK⟩;intro C S vs RR hW aj ak am ab ag;have av:=Uf hW args ps vs.toList (λm hm=>aj m (Fb _ hm)) hp ab;have aq:=Rk hW;refine ai a ah (S:=S.froz) aq ((au ps a ha).c av) ?_;intro v Z S1 d G ad an Q hR ax;have G:Z.w=S.w:=G;have ad:Z.ok=S.froz.ok:=ad;have O: ∀b,b<S.w.heap.size->S1.w.heap[b]? =S.w.heap[b]? :=λb hb=>by
    have:=Q.keep b (by rw[G];exact hb) (an b)
    rw[G] at this;exact this
   have ac:S.w.heap.size<=S1.w.heap.size:=by have:=Q.size;rw[G] at this;exact this
   let S':Env:={S with ok:=λb=>S.ok b\/okF Z S1 b,w:=S1.w}
   have hp':Pres (λ_=>True) S S':=⟨λb hb=>⟨.inl hb,O b (hW.oks b hb)⟩,λo _ e' as=>⟨e',as,rfl,rfl,rfl⟩⟩;have aa: ∀b,okF Z S1 b->S.w.heap.size<=b:=λb hb=>by have:=hb.1;rw[G] at this;exact this
   have ao:Wf C S':=by
    refine⟨?_,?_,?_,BK hW.size ac,?_,λb hb=> .inl (hW.ok0 b hb),?_,?_,?_,?_,hW.inj,hW.gl⟩
    .exact Q.os.trans (by rw[G];exact hW.os)
    .exact Q.tape.trans (by rw[G];exact hW.tape)
    .exact Q.output.trans (by rw[G];exact hW.output)
    .intro b hb hM;exact (O b (CY hb hW.size)).trans (hW.keep b hb hM)
    .rintro b (hb|hb)
     .exact hW.ok1 b hb
     .exact .inr (.inl (BK hW.size (aa b hb)))
    .rintro b (hb|hb)
     .exact CY (hW.oks b hb) ac
     .exact hb.2.1
    .intro o e he;exact DU hp' (λlc hl=>O lc.b (hW.loc o e lc he hl).1) _ (λ_ _=>trivial) (hW.obj o e he)
    .intro o e l he hl;obtain⟨h2,h3⟩:=hW.loc o e l he hl;refine⟨CY h2 ac,?_⟩;cases hm:e.1 with
     |false=>
      rw[hm] at h3;simp only[B1,Bp] at h3⊢;exact h3.imp (λh=> .inl h) id
     |true=>
      rw[hm] at h3;simp only[AQ] at h3⊢;refine⟨?_,h3.2⟩;rintro (h|h)
      .exact h3.1 h
      .have:=aa _ h;omega
   refine ag v S' ao ?_ ⟨hp'.ok,λo _=>hp'.nm o trivial⟩ ?_
   .show S.h=_;funext m;simp[Eff.appf,hget]
   .simp only[conc];have h9:=aw _ _ hR _ _ _ ax;exact Dp (λb hb=>⟨.inr hb,rfl⟩) _ _ h9
def Of{P:Program}(HM:P.follows .mixedOrders=true){V:B0}(hV:E7 P V){g:FuncId}{fn:Func}{c:Code}(hf:P.funcs[g]? =some fn)(hb:fn.body=some c)(G:chk fn.ntmps c=true)(z:calb P g=true)
 {A B:Type}{ar:List PK->Option A}{ae:A->List PK}(Z: ∀ps a,ar ps=some a->LeKL ps (ae a)){n:Nat}(hn: ∀a,(ae a).length=n)(aa:n<=fn.ntmps){rc:D->Option B}{re:B->D}(ac: ∀d b,rc d=some b->Le d (re b))
 {pre:A->Prop}{f:A->B}
 (hk: ∀a,pre a->awp P V c (J1 P fn.results.toList (decD rc (f a))) ⟨entry 0 (B7 0 (ae a)),BH 0 (ae a),cnum (ae a)⟩):
 Ak P g (Fj ar pre λa=>re (f a)):=
 Uh z Z ac (λa Q _ _ _ _ hW ab O=>view_runF HM hV hf hb G (by rw[hn];exact aa) (hk a Q) hW ab O)
end Go.Ae
