/- Lemmas. Conditions: none. -/
import Derived.Test.YtofkcjmhpnkjhaaGreatP03
import Derived.Laws.BytesArg
set_option linter.all false
set_option maxHeartbeats 8000000
set_option maxRecDepth 100000
namespace Go.Ae
theorem Qad7{ok:Nat->Prop}{hp:Nat->Option Obj}: ∀(rows:List (List D)) (ns:List Int) (L:List Value),Qadw rows=some ns->rdr ok hp 1 rows L->rows.length=ns.length/\L.take ns.length=ns.map (Value.int .u8)
 |[],ns,L,h,_=>by
  simp only[Qadw,Zae] at h;subst h;simp
 |row::r,ns,L,h,hr=>by
  unfold Qadw at h;split at h
  .rename_i heq;cases heq
  .rename_i n r' heq;cases heq;simp only[Zay] at h;obtain⟨ms,h1,rfl⟩:=h;simp only[rdr,rdp,rd] at hr;obtain⟨_,⟨v,L1,rfl,rfl,_⟩,h3⟩:=hr;obtain⟨e1,e2⟩:=Qad7 r ms _ h1 h3;simp only[Zcb,Zci] at e2;refine⟨by simp[e1],?_⟩;simp[e2]
  .cases h
section
variable {P:Program}{tm:List (Nat×AV)}{h:Nat->Option Ent}{nx:Nat}{o:Oper}{K:Kont}
theorem snd_max{x y:Operand}{c:Call}(ho:o.op= .call c)(hcal:c.callee= .builtin .max)(hargs:c.args= #[x,y])(hk:stMax K (evO tm x) (evO tm y)):Qbp P tm h nx o K:=by
 have hopx:x∈o.op.operands:=by rw[ho];simp[Op.operands,Call.operands,hargs,hcal]
 have hopy:y∈o.op.operands:=by rw[ho];simp[Op.operands,Call.operands,hargs,hcal]
 cases hx:evO tm x<;>rw[hx] at hk<;>try exact hk.elim
 rename_i d;cases hy:evO tm y<;>rw[hy] at hk<;>try (cases d<;>exact hk.elim)
 rename_i d';cases d<;>cases d'<;>try exact hk.elim
 rename_i k a k' b;simp only[stMax] at hk;obtain⟨rfl,hk⟩:=hk;refine⟨_,_,OpT.pure (u:=[]) ?_,hk⟩;intro C S ac hW _ hops;have h1:=hops x hopx;have h2:=hops y hopy;rw[hx] at h1;rw[hy] at h2;simp only[conc,rd] at h1 h2;refine⟨.int k (max a b),?_,by simp only[conc,rd]⟩;simp only[execOp,ho,resolve,hcal,hargs,Sem.run_bind,Sem.run_pure,Result.andThen_ok,invoke,builtin];have e:(if a<b then b else a)=max a b:=by omega
 simp[h1,h2,Builtin.max_,Builtin.max2,e]
theorem snd_bytes{S0 T:TypeId}{x:Operand}(ho:o.op= .convert S0 T x)(ht:isStr (tkO (tI P T))=true)(hk:bySrc P h K (evO tm x) (tI P S0)):Qbp P tm h nx o K:=by
 cases hT:tI P T with
 |none=>rw[hT] at ht;cases ht
 |some ti=>
 rw[hT] at ht;simp only[tkO,isStr] at ht;cases hf:ti.kind<;>rw[hf] at ht<;>simp only[TK.isStr,ZaB] at ht;have hd:=Qafr hT hf;cases hS:tI P S0 with
 |none=>rw[hS] at hk;exact hk.elim
 |some si=>
 rw[hS] at hk;simp only[bySrc] at hk;cases hg:si.kind<;>rw[hg] at hk<;>try exact hk.elim
 rename_i e;have hs:=Qdq hS hg;simp only[byKd] at hk;cases hE:tI P e with
 |none=>rw[hE] at hk;exact hk.elim
 |some te=>
 rw[hE] at hk;simp only[tkO] at hk;cases hke:te.kind<;>rw[hke] at hk<;>try exact hk.elim
 rename_i ik;cases ik<;>try exact hk.elim
 have he:=tk_int hE hke;simp only[byEl] at hk;cases hx:evO tm x<;>rw[hx] at hk<;>try exact hk.elim
 rename_i n;simp only[byAV] at hk;cases hn:h n with
 |none=>rw[hn] at hk;exact hk.elim
 |some ent=>
 rw[hn] at hk;obtain⟨mu,ent⟩:=ent;cases ent<;>try exact hk.elim
 rename_i T' k rows;simp only[byObj] at hk;obtain⟨rfl,hk⟩:=hk;cases hb:Qadw rows with
 |none=>rw[hb] at hk;exact hk.elim
 |some ns=>
 rw[hb] at hk;simp only[byEnd] at hk;refine⟨_,_,OpT.pure (u:=[n]) ?_,hk⟩;intro C S ac hW hu hops;have h1:=hops x (by rw[ho];simp[Op.operands]);rw[hx] at h1;simp only[conc] at h1;have hS':=(hu n (by simp)).trans hn;have hc:=h1.2 _ hS';have hob:=hW.obj _ _ hS';refine⟨.string (strI ns),?_,by simp only[conc,rd]⟩;have key:(convert S0 T (ac.eval x)).run P S.w= .ok (.string (strI ns)) S.w:=by
  cases hl:S.ρ n with
  |none=>
   rw[hl] at hc hob;simp only[objc] at hob;simp only at hc;obtain rfl:=hob.2;simp only[Qadw,Zae] at hb;subst hb;rw[hc,run_convert_bytes_string S.w S0 T e none 0 0 hs he hd];simp[Conv.bytesToString,strI];rfl
  |some l=>
   rw[hl] at hc hob;simp only[objc] at hob;simp only[AObj.len] at hc;obtain⟨_,g1,vs,g2,g3,g4⟩:=hob;obtain⟨e1,e2⟩:=Qad7 rows ns _ hb g4;rw[hc,run_convert_bytes_string S.w S0 T e _ _ _ hs he hd];have hld:(loadCells ⟨l.b,l.p,none⟩ rows.length).run P S.w= .ok (ns.map (Value.int .u8)).toArray S.w:=by
    rw[Qef (w:=S.w) g2 (by omega),e1,e2]
   rw[run_bytesToString S.w ⟨l.b,l.p,none⟩ rows.length l.cap ns hld,foldl_push_bytes];simp[strI,ByteArray.empty,ByteArray.emptyWithCapacity]
   try rfl
 simp only[execOp,ho,Sem.run_bind,key];simp
theorem snd_convX{S0 T:TypeId}{x:Operand}(ho:o.op= .convert S0 T x)(hk:Qaeh P h (tkO (tI P T)) (evO tm x) K (tI P S0)):Qbp P tm h nx o K:=by
 unfold Qaeh at hk;split at hk
 .rename_i ht;exact snd_bytes ho ht hk
 .exact Qwv ho hk
end
section
variable {P:Program}{tm:List (Nat×AV)}{h:Nat->Option Ent}{nx:Nat}{o:Oper}{K:Kont}
theorem Qalk{T:TypeId}(h:isIfc P T=true): ∃ms,P.underlying T=some (.interface ms):=by
 unfold isIfc at h;split at h
 .rename_i ms hu;exact⟨ms,hu⟩
 .cases h
theorem eqn_if{w:World}{T:TypeId}{ms:Array (String×TypeId)}(hu:P.underlying T=some (.interface ms))(d:Nat){v:Value}{b:Bool}(hv:v= .nilIface/\b=true\/(∃t x,v= .iface t x)/\b=false):(Op.equalIn (d+1) T v .nilIface).run P w= .ok b w:=by
 rcases hv with ⟨rfl,rfl⟩|⟨⟨t,x,rfl⟩,rfl⟩<;>simp[Op.equalIn,run_underlying hu]
theorem snd_binI{op:BinOp}{T U:TypeId}{x y:Operand}{m:Nat}(ho:o.op= .binOp op T x y U)(hm:nilC y=m+4)(hk:Qali P T op (evO tm x) K):Qbp P tm h nx o K:=by
 obtain⟨hT,hk⟩:=hk;obtain⟨ms,hu⟩:=Qalk hT;have hop:op= .eql\/op= .neq:=by cases op<;>first|exact .inl rfl|exact .inr rfl|exact hk.elim
 have hk':Qak0 (decide (op= .neq)) K (evO tm x):=by rcases hop with rfl|rfl<;>exact hk
 have hy:y= .const .nilIface:=by
  cases y<;>simp only[nilC] at hm<;>try omega
  rename_i v;unfold nilV at hm;split at hm<;>first|omega|rfl
 clear hk;have main: ∀b:Bool,K (.im (.bool ((decide (op= .neq)) !=b))) {}->(∀(C:Ctx) (S:Env) (v:Value),Wf C S->conc S (evO tm x) v->v= .nilIface/\b=true\/(∃t x,v= .iface t x)/\b=false)->Qbp P tm h nx o K:=by
  intro b hkb hv;refine⟨_,_,OpT.pure (u:=[]) ?_,hkb⟩;intro C S a hW _ hops;have h1:=hv C S _ hW (hops x (by rw[ho];simp[Op.operands]));refine⟨.bool (decide (op= .neq) !=b),?_,by simp only[conc,rd]⟩;have hey:a.eval y= .nilIface:=by rw[hy];rfl
  have hq:(Op.equal T (a.eval x) .nilIface).run P S.w= .ok b S.w:=eqn_if hu 9999 h1;subst hy;have hg:(eqGuard op T x (.const .nilIface) (a.eval x) .nilIface).run P S.w= .ok () S.w:=by
   clear hq;generalize a.eval x=v at h1⊢;rcases h1 with ⟨rfl,_⟩|⟨⟨t,z,rfl⟩,_⟩<;>rcases hop with rfl|rfl<;>simp[eqGuard]
  have hb:(binOp op T (a.eval x) .nilIface).run P S.w= .ok (.bool (decide (op= .neq) !=b)) S.w:=by
   generalize a.eval x=v at h1 hq⊢;rcases hop with rfl|rfl
   .have:binOp .eql T v .nilIface=(do pure (.bool (<-Op.equal T v .nilIface))):=by
     rcases h1 with ⟨rfl,_⟩|⟨⟨t,z,rfl⟩,_⟩<;>rfl
    rw[this];simp[hq]
   .have:binOp .neq T v .nilIface=(do pure (.bool (!(<-Op.equal T v .nilIface)))):=by
     rcases h1 with ⟨rfl,_⟩|⟨⟨t,z,rfl⟩,_⟩<;>rfl
    rw[this];simp[hq]
  simp only[execOp,ho,hey,Sem.run_bind,hg,Result.andThen_ok,hb,Sem.run_pure]
 cases hx:evO tm x<;>rw[hx] at hk'<;>try exact hk'.elim
 rename_i d;cases d<;>try exact hk'.elim
 .refine main true hk' ?_;intro C S v _ hc;rw[hx] at hc;simp only[conc,rd] at hc;exact .inl ⟨hc,rfl⟩
 .refine main false hk' ?_;intro C S v _ hc;rw[hx] at hc;simp only[conc,rd] at hc;obtain⟨z,hz,_⟩:=hc;exact .inr ⟨⟨_,z,hz⟩,rfl⟩
theorem snd_ifc{T:TypeId}{x:Operand}(ho:o.op= .makeInterface T x)(hk:stIfc P T K (evO tm x)):Qbp P tm h nx o K:=by
 cases hx:evO tm x<;>rw[hx] at hk<;>try exact hk.elim
 rename_i d;obtain⟨hc,hk⟩:=hk;refine⟨_,_,OpT.pure (u:=[]) ?_,hk⟩;intro C S a _ _ hops;have h1:=hops x (by rw[ho];simp[Op.operands]);rw[hx] at h1;simp only[conc] at h1;refine⟨.iface T (a.eval x),?_,by simp only[conc,rd];exact⟨_,rfl,h1⟩⟩
 have:(Instr.makeInterface T (a.eval x)).run P S.w= .ok (.iface T (a.eval x)) S.w:=by
  unfold isCon at hc;split at hc
  .cases hc
  .rename_i u hne hu;have hrun:(underlying T).run P S.w= .ok u S.w:=by simp[underlying,hu]
   unfold Instr.makeInterface;rw[Sem.run_bind,hrun];cases u<;>first|rfl|exact (hne _ rfl).elim
  .cases hc
 simp[execOp,ho,this]
theorem Qaln{T tk te:TypeId}{x:Operand}{kt:KT}{es:List (D×D)}(ho:o.op= .range T x)(hu:P.underlying T=some (.map tk te))(hx:evO tm x= .im (.mp kt es))
 (hk:K (.it nx) {new:=[(nx,(true,.iter none es))],cnt:=1}):Qbp P tm h nx o K:=by
 refine⟨_,_,OpT.one (u:=[]) (ks:=[]) (.inl ⟨rfl,rfl⟩) ?_,hk⟩;intro C S a hW _ hfr hnm hop;have h1:=hop x (by rw[ho];simp[Op.operands]);rw[hx] at h1;simp only[conc,rd] at h1;obtain⟨b,ents,clock,hv,g2,hok,g3,g4,g5,g6⟩:=h1;have hg:(getObj b).run P S.w= .ok (.map ents clock) S.w:=Qcc (w:=S.w) g3;have hu2:(underlying T).run P S.w= .ok (.map tk te) S.w:=by simp[underlying,hu]
 refine⟨.pointer (some ⟨S.w.heap.size,0,none⟩),{S.w with heap:=S.w.heap.push (.mapIter (some b) clock #[] clock)},some ⟨S.w.heap.size,0,0⟩,.inl ?_,Qg3 (w':={S.w with heap:=S.w.heap.push (.mapIter (some b) clock #[] clock)}) (ob:= .mapIter (some b) clock #[] clock) rfl rfl rfl rfl (hfr rfl) (fun n f hf=>hnm n f hf rfl),?_⟩
 .simp only[execOp,ho,hv,Instr.range,Sem.run_bind,hu2,Result.andThen_ok,hg,Sem.run_pure];simp
 intro hp;constructor
 .simp only[objc];obtain⟨p1,p2⟩:=hp.ok b hok;refine⟨_,b,ents,clock,#[],rfl,p1,trivial,p2.trans g3,Qny rfl,g5,g6,?_⟩;have h9:ents.toList.filter (fun e=> !(#[]:Array Nat).contains e.born)=ents.toList:=by
   rw[ZdF];intro e _;simp
  rw[h9];exact Qc6 hp.ok _ _ g4
 .simp only[conc];exact⟨rfl,fun e he=>⟨⟨S.w.heap.size,0,0⟩,by simp[Env.one],rfl⟩⟩
end
def Qd1(P:Program)(V:Qbh):Prop:=
 (∀(tm:List (Nat×AV)) (h:Nat->Option Ent) (nx:Nat) (o:Oper) (c:Call) (f:Operand) (K:Kont),o.op= .call c->c.callee= .value f->
  (∀x,∀m∈(evO tm x).nms,m<nx)->Qaar V (evL tm c.args.toList) h nx K (evO tm f)->Qbp P tm h nx o K)/\
 ∀(tm:List (Nat×AV)) (h:Nat->Option Ent) (nx:Nat) (o:Oper) (c:Call) (r:Operand) (m:String) (K:Kont),o.op= .call c->c.callee= .invoke r m->
  (∀x,∀m∈(evO tm x).nms,m<nx)->stInv P V (evL tm c.args.toList) h nx K m (evO tm r)->Qbp P tm h nx o K
theorem evL1{tm:List (Nat×AV)}{c:Call}{x:AV}(h:evL tm c.args.toList=[x]): ∃a,c.args= #[a]/\evO tm a=x:=by
 cases hc:c.args.toList with
 |nil=>rw[hc] at h;cases h
 |cons a r=>
  rw[hc] at h;cases r with
  |nil=>
   simp only[evL,Zdj,and_true] at h;exact⟨a,ZcU.1 (by simpa using hc),h⟩
  |cons b r=>simp[evL] at h
theorem evL2{tm:List (Nat×AV)}{c:Call}{x y:AV}(h:evL tm c.args.toList=[x,y]): ∃a b,c.args= #[a,b]/\evO tm a=x/\evO tm b=y:=by
 cases hc:c.args.toList with
 |nil=>rw[hc] at h;cases h
 |cons a r=>
  rw[hc] at h;cases r with
  |nil=>simp[evL] at h
  |cons b r=>
   cases r with
   |nil=>
    simp only[evL,Zdj,and_true] at h;exact⟨a,b,ZcU.1 (by simpa using hc),h.1,h.2⟩
   |cons d r=>simp[evL] at h
section
variable {P:Program}{tm:List (Nat×AV)}{h:Nat->Option Ent}{nx:Nat}{o:Oper}{K:Kont}
theorem snd_bin{op:BinOp}{T U:TypeId}{x y:Operand}(ho:o.op= .binOp op T x y U)(hk:Qwb P T h op (evO tm x) (evO tm y) K (nilC y)):Qbp P tm h nx o K:=by
 cases hn:nilC y with
 |succ m=>
  rw[hn] at hk;cases m with
  |zero=>exact Qabe ho hn (by decide) hk
  |succ m=>
   cases m with
   |zero=>exact Qabe ho hn (by decide) hk
   |succ m=>
    cases m with
    |zero=>exact Qabe ho hn (by decide) hk
    |succ m=>exact snd_binI (m:=m) ho hn hk
 |zero=>
  rw[hn] at hk;simp only[Qwb] at hk;cases hx:evO tm x<;>rw[hx] at hk<;>try exact hk.elim
  rename_i d;cases hy:evO tm y<;>rw[hy] at hk<;>try (cases d<;>exact hk.elim)
  rename_i d';cases d<;>cases d'<;>try exact hk.elim
  .simp only[Qw4] at hk;exact snd_int2 ho hx hy hk
  .simp only[Qw4] at hk;cases hT:tI P T with
   |none=>rw[hT] at hk;exact hk.elim
   |some ti=>
    rw[hT] at hk;simp only[stBoK] at hk;exact snd_boo ho (tk_bool hT hk.1) hx hy hk.2
  .exact snd_str ho hx hy hk
  .exact snd_aggEq ho hx hy hk
theorem Qrc{V:Qbh}(HV:Qd1 P V){sq:Bool}(htm: ∀x,∀m∈(evO tm x).nms,m<nx)(hk:step P V sq tm h nx o.type K o.op):SndO P sq tm h nx o K:=by
 have hne: ∀x,∀m∈(evO tm x).nms,m≠nx:=fun x m hm=>Nat.ne_of_lt (htm x m hm)
 cases ho:o.op<;>rw[ho] at hk<;>try exact hk.elim
 case move x=>exact .inl (Qaav (.inl ho) hk)
 case assign x=>exact .inl (Qabd ho hk)
 case pick c a b=>exact .inl (snd_pick ho hk)
 case alloc T=>exact .inl (snd_alloc ho hk)
 case box T x=>exact .inl (snd_box ho hk (fun m hm=>hne x m (Qvz _ m hm)))
 case build T ps=>exact .inl (snd_build ho hk)
 case buildSlice T n ps=>exact .inl (Qp8 ho hk hne)
 case load T x=>exact .inl (snd_load ho hk)
 case store T x v=>exact .inl (snd_store ho hk)
 case nilCheck x=>exact .inl (Qvi ho hk)
 case binOp op T x y U=>
  simp only[step,stBinS] at hk;split at hk
  .rename_i hun;simp only[unS,Zah,Zdv] at hun;exact .inr ⟨hun.1,.inr (snd_eqUn ho hun.2.1 hk)⟩
  .exact .inl (snd_bin ho hk)
 case slice T x lo hi mx=>
  cases mx<;>try exact hk.elim
  exact .inl (snd_slice ho hk)
 case range T x=>exact .inl (snd_range (fun _ _ _ _ hu hx hk=>Qaln ho hu hx hk) ho hk)
 case makeInterface T x=>exact .inl (snd_ifc ho hk)
 case next x b=>
  cases b<;>try exact hk.elim
  simp only[step] at hk;cases sq with
  |false=>exact hk.elim
  |true=>exact .inr ⟨rfl,.inr (snd_next ho hk)⟩
 case entry x=>exact .inl (snd_entry ho hk)
 case makeChan T x=>exact .inl (Qvf ho hk)
 case unOp op T x=>exact .inl (snd_unOp ho hk)
 case convert S T x=>exact .inl (snd_convX ho hk)
 case makeFunc f first capt=>
  cases f<;>try exact hk.elim
  exact .inl (snd_clo (by simpa using hk.1) ho hk.2)
 case makeMap T r=>
  cases r<;>try exact hk.elim
  exact .inl (Qyk ho hk)
 case makeSlice T l c=>exact .inl (Qrx ho hk)
 case fieldAddr T x f=>exact .inl (Qsq ho hk)
 case indexAddr T x i=>exact .inl (Qsk ho hk)
 case index T x i=>exact .inl (snd_index ho hk)
 case lookup T m k ok=>exact .inl (Qabg ho hk)
 case mapUpdate T m k v=>exact .inl (Qr9 (.inl ho) hk)
 case insert T m k v=>exact .inl (Qr9 (.inr ho) hk)
 case extract x i=>exact .inl (Qyh ho hk)
 case call c=>
  simp only[step] at hk;cases hc:c.callee<;>rw[hc] at hk<;>try exact hk.elim
  case value f=>exact .inl (HV.1 tm h nx o c f K ho hc htm hk)
  case invoke r m=>exact .inl (HV.2 tm h nx o c r m K ho hc htm hk)
  case builtin b=>
   simp only[Qle] at hk;unfold Qe6 at hk;split at hk
   .rename_i x T hx hT;obtain⟨a,ha,hax⟩:=evL1 hx;have hT':c.argTypes= #[T]:=ZcU.1 (by simpa using hT);cases x<;>simp only[Qfs] at hk
    case ch q=>exact .inl (snd_lenCh ho hc ha hT' hax hk)
    all_goals first
     |exact hk.elim
     |(rw[<-hax] at hk;exact snd_len ho hc ha hT' hk)
   .rename_i s x T U hx hT;obtain⟨a,b,ha,rfl,rfl⟩:=evL2 hx;exact .inl (Qab5 ho hc ha (ZcU.1 (by simpa using hT)) hk)
   .rename_i m k T rest hx hT;obtain⟨a,b,ha,rfl,rfl⟩:=evL2 hx;exact .inl (Qabh ho hc ha hT hk)
   .rename_i d s T U hx hT;obtain⟨a,b,ha,rfl,rfl⟩:=evL2 hx;exact .inl (snd_copy ho hc ha (ZcU.1 (by simpa using hT)) hk)
   .rename_i d T hx hT;obtain⟨a,ha,rfl⟩:=evL1 hx;exact .inl (snd_clear ho hc ha (ZcU.1 (by simpa using hT)) hk)
   .rename_i x y hx;obtain⟨a,b,ha,rfl,rfl⟩:=evL2 hx;exact .inl (snd_max ho hc ha hk)
   .exact hk.elim
end
def OpGoS(P:Program)(ops:Array Oper)(i:Nat)(a:Act)(w:World)(next:Act->World->Prop):Prop:=
 ∀(b:Frame) (k:List Item) (cs:List Frame) (rest:List Nat),∃a' w',next a' w'/\Steps P (lone (b.at a (.inRegion ops (i::rest)::k)) cs w) (lone (b.at a' (.inRegion ops rest::k)) cs w')
def Op.comm:Op->Bool
 | .send _ _| .recv _ _ _=>true
 |_=>false
def OpGo(P:Program)(ops:Array Oper)(i:Nat)(a:Act)(w:World)(next:Act->World->Prop):Prop:=
 (∃o,ops[i]? =some o/\Region.wanted o (yielded ops a.tmps)=true/\o.wp P a w next (fun _ _ _=>False))\/((∀o,ops[i]? =some o->Go.Ae.Op.comm o.op=true)/\OpGoS P ops i a w next)
def Qkr(P:Program)(ops:Array Oper)(Q:Act->World->Prop):List Nat->Act->World->Prop
 |[],a,w=>Q a w
 |i::rest,a,w=>
  match ops[i]? with
  |none=>Qkr P ops Q rest a w
  |some o=>if Region.wanted o (yielded ops a.tmps) then OpGo P ops i a w (Qkr P ops Q rest) else Qkr P ops Q rest (a.put o.dst undef) w
section
variable {P:Program}{ops:Array Oper}{i:Nat}{o:Oper}{a:Act}{w:World}{next:Act->World->Prop}
theorem Qx0(ho:ops[i]? =some o)(hw:Region.wanted o (yielded ops a.tmps)=true)(h:o.wp P a w next (fun _ _ _=>False)):OpGoS P ops i a w next:=by
 intro b k cs rest;have hg:=stepG_op (P:=P) (b:=b) (a:=a) (k:=k) (cs:=cs) (w:=w) (rest:=rest) ho hw;have hfin: ∀v,(b.at a (.inRegion ops (i::rest)::k)).finish v=b.at (a.put o.dst v) (.inRegion ops rest::k):=fun v=>by
  rw[Frame.finish_at,ho];rfl
 unfold Oper.wp Oper.upon at h;split at h
 .rename_i v w1 hr;refine⟨_,_,h,.one (step_lone_go ?_)⟩;rw[hg,<-hfin];simp[stepG.apply,hr]
 .rename_i w1 hr;refine⟨_,_,h,.one (step_lone_go ?_)⟩;rw[hg,<-hfin];simp[stepG.apply,hr]
 .rename_i d w1 hr;refine⟨_,_,h,.one (step_lone_go ?_)⟩;have h1:({b.at a (.inRegion ops (i::rest)::k) with defers:=d::a.defers}:Frame).finish undef=b.at ({a with defers:=d::a.defers}.put o.dst undef) (.inRegion ops rest::k):=by
   have h2:=Frame.finish_at b {a with defers:=d::a.defers} ops i rest k undef;rw[ho] at h2;exact h2
  rw[hg];simp only[stepG.apply,Sem.runT_eq,hr,GStep.bare_after];exact ZbJ (fun fr=>GStep.go {frame:=fr,callers:=cs,status:= .running,dying:=none} w1) h1
 .rename_i f args w1 hr;obtain⟨e,w2,fr,hR,hs,_,hl⟩:=h (b.at a (.inRegion ops (i::rest)::k)::cs);have hin:_root_.Go.step P (lone (b.at a (.inRegion ops (i::rest)::k)) cs w)= .next (lone (Frame.enter P f args .normal) (b.at a (.inRegion ops (i::rest)::k)::cs) w1):=
   step_lone_go (by rw[hg];simp[stepG.apply,hr,Frame.at])
  cases e with
  |returned v=>
   refine⟨_,_,hR,.head hin (hs.trans (.one ?_))⟩;rw[<-hfin];exact step_leave_returned hl
  |panicked c=>exact hR.elim
  |outgrown=>obtain⟨_,_,hR⟩:=hR;exact hR.elim
 .rename_i row args w1 hr;obtain⟨v,w2,hR,hs⟩:=h (b.at a (.inRegion ops (i::rest)::k)) cs;have hin:_root_.Go.step P (lone (b.at a (.inRegion ops (i::rest)::k)) cs w)= .next (lone (Frame.ofRow P row args .normal) (b.at a (.inRegion ops (i::rest)::k)::cs) w1):=
   step_lone_go (by rw[hg];simp[stepG.apply,hr,Frame.at])
  refine⟨_,_,hR,.head hin ?_⟩;rw[<-hfin];exact hs
 .exact h.elim
 .exact h.elim
theorem Qab1(ho:ops[i]? =some o)(hw:Region.wanted o (yielded ops a.tmps)=true)(h:o.wp P a w next (fun _ _ _=>False)):OpGo P ops i a w next:= .inl ⟨o,ho,hw,h⟩
theorem opGoS_of(h:OpGo P ops i a w next):OpGoS P ops i a w next:=by
 rcases h with ⟨o,h1,h2,h3⟩|⟨_,h⟩
 .exact Qx0 h1 h2 h3
 .exact h
end
theorem Qnk{P:Program}{ops:Array Oper}{Q:Act->World->Prop}: ∀(l:List Nat) (a:Act) (w:World),Qkr P ops Q l a w-> ∀(b:Frame) (k:List Item) (cs:List Frame),
 ∃a' w',Q a' w'/\Steps P (lone (b.at a (.inRegion ops l::k)) cs w) (lone (b.at a' k) cs w')
 |[],a,w,h,b,k,cs=>⟨a,w,h,.one step_region_end⟩
 |i::rest,a,w,h,b,k,cs=>by
  simp only[Qkr] at h;cases ho:ops[i]? with
  |none=>
   rw[ho] at h;obtain⟨a',w',hq,hs⟩:=Qnk rest a w h b k cs;have h1:=step_op_skip (P:=P) (b:=b) (a:=a) (k:=k) (cs:=cs) (w:=w) (ops:=ops) (i:=i) (rest:=rest) (by simp[ho]);rw[ho] at h1;exact⟨a',w',hq,.head h1 hs⟩
  |some o=>
   rw[ho] at h;simp only at h;split at h
   .obtain⟨a1,w1,h1,h2⟩:=opGoS_of h b k cs rest;obtain⟨a',w',hq,hs⟩:=Qnk rest a1 w1 h1 b k cs;exact⟨a',w',hq,h2.trans hs⟩
   .rename_i hw;obtain⟨a',w',hq,hs⟩:=Qnk rest _ w h b k cs;have h1:=step_op_skip (P:=P) (b:=b) (a:=a) (k:=k) (cs:=cs) (w:=w) (ops:=ops) (i:=i) (rest:=rest) (by simp[ho,hw]);rw[ho] at h1;exact⟨a',w',hq,.head h1 hs⟩
theorem region_ch{P:Program}{id:Nat}{ops:Array Oper}{Q:Exit->Act->World->Prop}{a:Act}{w:World}(h:Qkr P ops (Q .normal) (List.range ops.size) a w):(Code.region id ops false).wp P Q a w:=by
 intro b k cs;obtain⟨a',w',hq,hs⟩:=Qnk _ a w h b k cs;exact⟨.normal,a',w',hq,.head step_region hs⟩
section
variable {P:Program}{ops:Array Oper}{i:Nat}{o:Oper}{a:Act}{w:World}{next:Act->World->Prop}
theorem Qjg{fr:Frame}{cs:List Frame}{w w1:World}{cases:Array CommCase}{bl:Bool}{sh:CommShape}{g:Goroutine}
 (h:(stepG P true {frame:=fr,callers:=cs,status:= .running,dying:=none} w).bare= .comm g cases bl sh w1):
 _root_.Go.step P (lone fr cs w)=(communicate P {timers:= #[],alone:=none,slice:=none} #[{(default:Goroutine) with status:= .finished}] 0 g cases bl sh w1).1:=by
 generalize hs:stepG P true {frame:=fr,callers:=cs,status:= .running,dying:=none} w=s at h;cases s<;>simp at h;obtain⟨rfl,rfl,rfl,rfl,rfl⟩:=h;rw[_root_.Go.step,stepT,move_lone];simp[runT,lone,Array.swapAt!,hs]
theorem Qon(c:Nat)(s:Bool):partners #[{(default:Goroutine) with status:= .finished}] c s=[]:=by
 simp[partners]
theorem Qp5{fr:Frame}{cs:List Frame}{w w1:World}{c cap s r:Nat}{buf:Array Value}{tm:Bool}{v z:Value}
 (h:(stepG P true {frame:=fr,callers:=cs,status:= .running,dying:=none} w).bare= .comm {frame:=fr,callers:=cs,status:= .running,dying:=none} #[{chan:= .chan (some c),send:=some v,zero:=z}] true .send w1)
 (hc:w1.heap[c]? =some (.chan cap buf false s r tm))(hroom:buf.size<cap):
 _root_.Go.step P (lone fr cs w)= .next (lone (fr.finish undef) cs {w1 with heap:=w1.heap.setIfInBounds c (.chan cap (buf.push v) false (s+1) r tm)}):=by
 rw[Qjg h];simp[communicate,ways,hc,Qon,hroom,choose,Sem.run,Question.forced,bind,Sem.bind,pure,Goroutine.finishComm,commResult,lone]
theorem Qp7{fr:Frame}{cs:List Frame}{w w1:World}{c cap s r:Nat}{buf:Array Value}{tm cl:Bool}{z:Value}
 (h:(stepG P true {frame:=fr,callers:=cs,status:= .running,dying:=none} w).bare= .comm {frame:=fr,callers:=cs,status:= .running,dying:=none} #[{chan:= .chan (some c),send:=none,zero:=z}] true (.recv false) w1)
 (hc:w1.heap[c]? =some (.chan cap buf cl s r tm))(hsome:0<buf.size):
 _root_.Go.step P (lone fr cs w)= .next (lone (fr.finish (buf.getD 0 undef)) cs {w1 with heap:=w1.heap.setIfInBounds c (.chan cap (buf.extract 1 buf.size) cl s (r+1) tm)}):=by
 rw[Qjg h];simp[communicate,ways,hc,Qon,hsome,choose,Sem.run,Question.forced,bind,Sem.bind,pure,Goroutine.finishComm,commResult,lone]
theorem opGo_send{ch x:Operand}(ho:ops[i]? =some o)(hw:Region.wanted o (yielded ops a.tmps)=true)(hop:o.op= .send ch x){c cap s r:Nat}{buf:Array Value}{tm:Bool}(hch:a.eval ch= .chan (some c))
 (hc:w.heap[c]? =some (.chan cap buf false s r tm))(hroom:buf.size<cap)(hn:next (a.put o.dst undef) {w with heap:=w.heap.setIfInBounds c (.chan cap (buf.push (a.eval x)) false (s+1) r tm)}):OpGo P ops i a w next:=by
 refine .inr ⟨fun o' ho'=>by rw[ho] at ho';obtain rfl:=Zac ho';rw[hop];rfl,?_⟩;intro b k cs rest;have hg:=stepG_op (P:=P) (b:=b) (a:=a) (k:=k) (cs:=cs) (w:=w) (rest:=rest) ho hw;have hfin: ∀v,(b.at a (.inRegion ops (i::rest)::k)).finish v=b.at (a.put o.dst v) (.inRegion ops rest::k):=fun v=>by
  rw[Frame.finish_at,ho];rfl
 refine⟨_,_,hn,.one ?_⟩;rw[<-hfin];have hr:(execOp a.eval o).run P w= .ok (.comm #[{chan:= .chan (some c),send:=some (a.eval x),zero:= .tuple #[]}] true .send) w:=by
  simp[execOp,hop,hch]
 exact Qp5 (z:= .tuple #[]) (v:=a.eval x) (by rw[hg];simp[stepG.apply,hr,Frame.at]) hc hroom
theorem opGo_recv{ch:Operand}{T e:TypeId}{d:ChanDir}{z:Value}(ho:ops[i]? =some o)(hw:Region.wanted o (yielded ops a.tmps)=true)(hop:o.op= .recv T ch false)(hT:P.underlying T=some (.chan d e))(hz:(zeroValue e).run P w= .ok z w)
 {c cap s r:Nat}{buf:Array Value}{tm cl:Bool}(hch:a.eval ch= .chan (some c))
 (hc:w.heap[c]? =some (.chan cap buf cl s r tm))(hsome:0<buf.size)(hn:next (a.put o.dst (buf.getD 0 undef)) {w with heap:=w.heap.setIfInBounds c (.chan cap (buf.extract 1 buf.size) cl s (r+1) tm)}):OpGo P ops i a w next:=by
 refine .inr ⟨fun o' ho'=>by rw[ho] at ho';obtain rfl:=Zac ho';rw[hop];rfl,?_⟩;intro b k cs rest;have hg:=stepG_op (P:=P) (b:=b) (a:=a) (k:=k) (cs:=cs) (w:=w) (rest:=rest) ho hw;have hfin: ∀v,(b.at a (.inRegion ops (i::rest)::k)).finish v=b.at (a.put o.dst v) (.inRegion ops rest::k):=fun v=>by
  rw[Frame.finish_at,ho];rfl
 refine⟨_,_,hn,.one ?_⟩;rw[<-hfin];have hu:(underlying T).run P w= .ok (.chan d e) w:=by simp[underlying,hT]
 have hr:(execOp a.eval o).run P w= .ok (.comm #[{chan:= .chan (some c),send:=none,zero:=z}] true (.recv false)) w:=by
  simp[execOp,hop,hch,hu,hz]
 exact Qp7 (z:=z) (by rw[hg];simp[stepG.apply,hr,Frame.at]) hc hsome
end
structure ConE(C:Ctx)(N:Nat)(s:Qad)(S:Env)(a:Act):Prop where
 wf:Wf C S
 h: ∀n,S.h n=hget s.h n
 tm: ∀t,conc S (tget s.tm t) (a.eval (.tmp t))
 nmT: ∀t,∀m∈(tget s.tm t).nms,m<s.nx
 nmH: ∀n e,hget s.h n=some e->n<s.nx/\ ∀m∈e.2.nms,m<s.nx
 size:a.tmps.size=N
 defers:a.defers=C.ds
 n0:C.n0<=s.nx
 pre:C.Pre S
theorem Qy2{C:Ctx}{S S':Env}{nx cnt:Nat}(h:C.Pre S)(hn:C.n0<=nx)(hp:Pres (fun m=> ¬Fr nx cnt m) S S'):C.Pre S':=by
 intro o ho e' he';obtain⟨e,h1,h2,h3,h4⟩:=hp.nm o (fun hf=>by have:=hf.1;omega) e' he';obtain⟨e0,g1,g2,g3,g4⟩:=h o ho e h1;exact⟨e0,g1,h2.trans g2,h3.trans g3,h4.trans g4⟩
def Con(C:Ctx)(N:Nat)(s:Qad)(a:Act)(w:World):Prop:= ∃S,S.w=w/\ConE C N s S a
theorem Qaad(S:Env)(tm:List (Nat×AV))(f:FuncId):conc S (evO tm (.func f)) (.func (.func f) #[] #[]):=by
 simp only[evO];cases hb:Nat.blt f 1000000000 with
 |true=>simp only[Zbf,conc,rd,rdl];exact⟨#[],#[],by rw[Qoi (by simpa using hb)],rfl,rfl⟩
 |false=>simp only[ZaS,conc]
theorem Qdn{C:Ctx}{N:Nat}{s:Qad}{S:Env}{a:Act}(h:ConE C N s S a)(x:Operand):conc S (evO s.tm x) (a.eval x):=by
 cases x with
 |tmp t=>exact h.tm t
 |const v=>exact kD_conc S v
 |global g=>simp only[evO,conc,rd,Act.eval]
 |func f=>exact Qaad S s.tm f
theorem evO_nms{tm:List (Nat×AV)}{nx:Nat}(h: ∀t,∀m∈(tget tm t).nms,m<nx)(x:Operand): ∀m∈(evO tm x).nms,m<nx:=by
 cases x with
 |tmp t=>exact h t
 |const v=>
  intro m hm;simp only[evO] at hm;unfold kD at hm;split at hm<;>simp[AV.nms] at hm
 |global g=>intro m hm;simp[evO,AV.nms] at hm
 |func f=>intro m hm;simp only[evO] at hm;cases hb:Nat.blt f 1000000000<;>rw[hb] at hm<;>simp[AV.nms] at hm
mutual
theorem Qp3{n:Nat}: ∀(x:AV),x.bel n=true-> ∀m∈x.nms,m<n
 | .any,_=>by simp[AV.nms]
 | .im _,_=>by simp[AV.nms]
 | .agg cs,h=>by simpa only[AV.nms] using Qfv cs (by simpa only[AV.bel] using h)
 | .tup cs,h=>by simpa only[AV.nms] using Qfv cs (by simpa only[AV.bel] using h)
 | .ptr o _,h=>by simpa[AV.nms,AV.bel] using h
 | .eptr o _ _,h=>by simpa[AV.nms,AV.bel] using h
 | .own o,h=>by simpa[AV.nms,AV.bel] using h
 | .mp o,h=>by simpa[AV.nms,AV.bel] using h
 | .ch o,h=>by simpa[AV.nms,AV.bel] using h
 | .it o,h=>by simpa[AV.nms,AV.bel] using h
 | .osl o _ _,h=>by simpa[AV.nms,AV.bel] using h
 | .clo _ a c,h=>by
   simp only[AV.bel,Zah] at h;simp only[AV.nms,Zan];rintro m (hm|hm)
   .exact Qfv a h.1 m hm
   .exact Qfv c h.2 m hm
theorem Qfv{n:Nat}: ∀(xs:List AV),belL n xs=true-> ∀m∈nmsL xs,m<n
 |[],_=>by simp[nmsL]
 |x::xs,h=>by
  simp only[belL,Zah] at h;simp only[nmsL,Zan];rintro m (hm|hm)
  .exact Qp3 x h.1 m hm
  .exact Qfv xs h.2 m hm
end
theorem Qaam{n:Nat}: ∀(rs:List (List AV)),rs.all (belL n)=true-> ∀m∈nmsR rs,m<n
 |[],_=>by simp[nmsR]
 |r::rs,h=>by
  simp only[ZcA,Zah] at h;simp only[nmsR,Zan];rintro m (hm|hm)
  .exact Qfv r h.1 m hm
  .exact Qaam rs h.2 m hm
theorem Qhn{n:Nat}: ∀(hs:Qan),belH n hs=true-> ∀o e,hget hs o=some e-> ∀m∈e.2.nms,m<n
 |[],_,o,e,h=>by simp[hget] at h
 |(q,mu,ob)::hs,hb,o,e,h=>by
  have key:(∀m∈ob.nms,m<n)/\belH n hs=true:=by
   cases ob<;>simp only[belH,Zah] at hb
   .exact⟨Qfv _ hb.1,hb.2⟩
   .exact⟨by simp[AObj.nms],hb⟩
   .exact⟨Qaam _ hb.1,hb.2⟩
   .exact⟨by simp[AObj.nms],hb⟩
   .exact⟨by simp[AObj.nms],hb⟩
   .exact⟨by simp[AObj.nms],hb⟩
   .exact⟨by simp[AObj.nms],hb⟩
  simp only[hget] at h;cases hq:q==o<;>rw[hq] at h
  .exact Qhn hs key.2 o e (by simpa using h)
  .simp only[Zbf,Zae] at h;subst h;exact key.1
theorem Qlm{ks:List Nat}{nx cnt:Nat}: ∀(hs:Qan),Qpx ks nx cnt hs=true-> ∀o e,hget hs o=some e->(nx<=o/\o<nx+cnt)\/(o∈ks/\o<nx)
 |[],_,o,e,h=>by simp[hget] at h
 |(q,x)::hs,hb,o,e,h=>by
  simp only[Qpx,Zah] at hb;simp only[hget] at h;cases hq:q==o<;>rw[hq] at h
  .exact Qlm hs hb.2 o e (by simpa using h)
  .have hqo:q=o:=by simpa using hq
   subst hqo
   have:=hb.1
   simp only[Qafj,ZbX,Zah,ZcS,ZbW,Zbq] at this;exact this
theorem Qm2(a b:Qan)(n:Nat):hget (a++b) n=match hget a n with|some e=>some e|none=>hget b n:=by
 induction a with
 |nil=>rfl
 |cons x a ih=>
  obtain⟨q,e⟩:=x;simp only[ZaA,hget];cases q==n<;>simp[ih]
theorem Qm7(ks:List Nat)(n:Nat): ∀(a:Qan),hget (hdel a ks) n=bif ks.contains n then none else hget a n
 |[]=>by simp[hdel,hget]
 |(q,e)::a=>by
  simp only[hdel];have ih:=Qm7 ks n a;cases hq:ks.contains q
  .simp only[ZaS,hget,ih];cases hqn:q==n
   .simp
   .have:q=n:=by simpa using hqn
    subst this;have hq':q∉ks:=by simpa using hq
    simp[hq']
  .simp only[Zbf,ih,hget];cases hqn:q==n
   .simp
   .have:q=n:=by simpa using hqn
    subst this;have hq':q∈ks:=by simpa using hq
    simp[hq']
theorem Qfo{a:Act}{dst:Option Nat}{v:Value}{t:Nat}(hd: ∀d,dst=some d->d<a.tmps.size):
 (a.put dst v).eval (.tmp t)=if dst=some t then v else a.eval (.tmp t):=by
 cases dst with
 |none=>simp[Act.put]
 |some d=>
  have:=hd d rfl
  simp only[Act.put,Act.eval,ZaR,Zcc,Zae];by_cases h:d=t
  .subst h;simp[this]
  .simp[h]
theorem Qeb{s:Qad}{dst:Option Nat}{x:AV}{t:Nat}:tget (s.put dst x).tm t=if dst=some t then x else tget s.tm t:=by
 cases dst with
 |none=>simp[Qad.put]
 |some d=>
  simp only[Qad.put,tget,Zae];by_cases h:d=t
  .subst h;simp
  .have:(d==t)=false:=by simpa using h
   simp[this,h]
theorem Qxs{C:Ctx}{N:Nat}{s:Qad}{S S':Env}{a:Act}{dst:Option Nat}{r:AV}{E:Eff}{v:Value}(hc:ConE C N s S a)(hok:E.ok s.nx r=true)(hd: ∀d,dst=some d->d<N)
 (hW:Wf C S')(hh:S'.h=E.appf S.h)(hp:Pres (fun m=> ¬Fr s.nx E.cnt m) S S')(hv:conc S' r v):ConE C N (s.app dst r E) S' (a.put dst v):=by
 simp only[Eff.ok,Zah] at hok;obtain⟨hb1,hb2,hb3⟩:=hok;have hget': ∀n,hget (E.new++hdel s.h E.kill) n=E.appf (hget s.h) n:=by
  intro n;rw[Qm2,Qm7];simp only[Eff.appf];cases hget E.new n<;>rfl
 have hSh:S.h=hget s.h:=funext hc.h;have hst:(s.app dst r E).nx=s.nx+E.cnt:=by cases dst<;>rfl
 have hsh:(s.app dst r E).h=E.new++hdel s.h E.kill:=by cases dst<;>rfl
 have htg: ∀t,tget (s.app dst r E).tm t=if dst=some t then r else tget s.tm t:=fun t=>Qeb
 refine⟨hW,?_,?_,?_,?_,?_,?_,?_,Qy2 hc.pre hc.n0 hp⟩
 .intro n;rw[hsh,hget',hh,hSh]
 .intro t;rw[htg,Qfo (fun d h=>by rw[hc.size];exact hd d h)];split
  .exact hv
  .refine Qbt hp _ _ ?_ (hc.tm t);intro m hm hfr
   have:=hc.nmT t m hm
   have:=hfr.1
   omega
 .intro t;rw[htg,hst];split
  .exact Qp3 r hb1
  .intro m hm;have:=hc.nmT t m hm;omega
 .intro n e he;rw[hsh,Qm2] at he;rw[hst];cases hn:hget E.new n with
  |some e'=>
   rw[hn] at he;obtain rfl:=Zac he;refine⟨?_,Qhn _ hb2 n _ hn⟩;rcases Qlm _ hb3 n _ hn with h|h<;>omega
  |none=>
   rw[hn] at he;simp only[Qm7] at he;cases hk:E.kill.contains n<;>rw[hk] at he
   .obtain⟨h1,h2⟩:=hc.nmH n e (by simpa using he);exact⟨by omega,fun m hm=>by have:=h2 m hm;omega⟩
   .simp at he
 .cases dst<;>simp[Act.put,hc.size]
 .cases dst<;>simp[Act.put,hc.defers]
 .rw[hst];exact Zbd hc.n0 (Nat.le_add_right _ _)
theorem Qty{P:Program}{V:Qbh}(HV:Qd1 P V){C:Ctx}{N:Nat}{s:Qad}{a:Act}{w:World}{ops:Array Oper}{i:Nat}{o:Oper}{go:Qad->Prop}(hio:ops[i]? =some o)(hw:Region.wanted o (yielded ops a.tmps)=true)(hd: ∀d,o.dst=some d->d<N)
 (hk:stepS P V o.dst o.op o.type go s)(hc:Con C N s a w){next:Act->World->Prop}(hn: ∀s' a' w',go s'->Con C N s' a' w'->next a' w'):OpGo P ops i a w next:=by
 obtain⟨S,rfl,hc⟩:=hc;have hSh:S.h=hget s.h:=funext hc.h;unfold stepS at hk;have main:step P V true s.tm (hget s.h) s.nx o.type (kont go s o.dst) o.op->OpGo P ops i a S.w next:=by
  intro hk;refine Qab1 hio hw ?_;have hfr0: ∀n,s.nx<=n->S.h n=none:=by
   intro n hfr;cases hn:S.h n with
   |none=>rfl
   |some e=>
    have:=(hc.nmH n e (by rw[<-hc.h n];exact hn)).1
    omega
  have hnm0: ∀n e,S.h n=some e-> ∀m∈e.2.nms,m<s.nx:=fun n e he m hm=>(hc.nmH n e (by rw[<-hc.h n];exact he)).2 m hm
  rcases Qrc HV (evO_nms hc.nmT) hk with ⟨r,E,hop,hok,hgo⟩|⟨_,⟨u,habs⟩|hsq⟩
  .refine hop C S a next _ hc.wf (fun n _=>hc.h n) (fun n hfr=>hfr0 n hfr.1) ?_ (fun x _=>Qdn hc x) ?_
   .intro n e he m hm hfr
    have:=hnm0 n e he m hm
    have:=hfr.1
    omega
   .intro v S' hW hh hp hv;exact hn _ _ _ hgo ⟨S',rfl,Qxs hc hok hd hW hh hp hv⟩
  .exact absurd (habs C S a hc.wf (fun n _=>hc.h n) (fun x _=>Qdn hc x)) id
  .refine hsq C S a next _ hc.wf hc.h hfr0 hnm0 (fun x _=>Qdn hc x) ?_
   intro r E v S' hK hW hh hp hv;obtain⟨hok,hgo⟩:=hK;exact hn _ _ _ hgo ⟨S',rfl,Qxs hc hok hd hW hh hp hv⟩
 have chan: ∀(q cap:Nat) (bu bu':List D) (l:Loc) (buf':Array Value) (sent rcvd:Nat) (r:AV) (v:Value),S.h q=some (true,.chan bu cap)->S.ρ q=some l->rdl S.ok S.hp bu' buf'.toList->
  (∀S':Env,(∀b,S.ok b->S'.ok b/\S'.hp b=S.hp b)->conc S' r v)->
  kont go s o.dst r {use:=[q],kill:=[q],new:=[(q,(true,.chan bu' cap))]}->next (a.put o.dst v) {S.w with heap:=S.w.heap.setIfInBounds l.b (.chan cap buf' false sent rcvd false)}:=by
  intro q cap bu bu' l buf' sent rcvd r v hS hl hb hv hK
  let w':World:={S.w with heap:=S.w.heap.setIfInBounds l.b (.chan cap buf' false sent rcvd false)}
  have hone:Qjb S q (.chan bu' cap) (some l) [q] w':=Qjw hc.wf hS hl (w':=w') (ob:= .chan cap buf' false sent rcvd false) rfl rfl rfl rfl rfl rfl;have hpr:=Qg2 hc.wf hone;have hobj:objc (S.one q (.chan bu' cap) (some l) [q] w') (some l) (.chan bu' cap):=by
   simp only[objc];exact⟨l,buf',sent,rcvd,rfl,Qpq (hc.wf.loc q _ l hS hl).1 rfl,Qcu hpr.ok _ _ hb⟩
  have hW':=Qqp hc.wf hone hobj;obtain⟨hok,hgo⟩:=hK;refine hn _ _ _ hgo ⟨_,rfl,Qxs hc hok hd hW' ?_ ⟨hpr.ok,fun n hX=>hpr.nm n (.inl (by rw[hS];simp))⟩ (hv _ hpr.ok)⟩;funext n;simp only[Env.one,Eff.appf,Go.Ae.hget];by_cases hn1:n=q
  .subst hn1;simp
  .have:(q==n)=false:=by rw[Zbs];exact fun h=>hn1 h.symm
   simp[this,hn1]
 unfold Qc0 at hk;split at hk
 .rename_i c x hop;unfold stSend at hk;split at hk
  .rename_i q d hcv hxv;have h1:=Qdn hc c;have h2:=Qdn hc x;rw[hcv] at h1;rw[hxv] at h2;cases hq:hget s.h q with
   |none=>rw[hq] at hk;exact hk.elim
   |some ent=>
    obtain⟨mu,ent⟩:=ent;rw[hq] at hk;cases mu<;>cases ent<;>try exact hk.elim
    rename_i bu cap;simp only[sdGo] at hk;obtain⟨hroom,hk⟩:=hk;have hS:=(hc.h q).trans hq;simp only[conc] at h1 h2;obtain⟨l,hl,hv⟩:=h1.2 _ hS;have hob:=hc.wf.obj _ _ hS;simp only[objc] at hob;obtain⟨lc,buf,sent,rcvd,g1,g2,g3⟩:=hob;rw[hl] at g1;obtain rfl:=Zac g1;have hlen:=Qjo _ _ g3;simp only[ZaW] at hlen;refine opGo_send hio hw hop hv g2 (by omega) ?_;refine chan q cap bu (bu++[d]) l (buf.push (a.eval x)) (sent+1) rcvd .any undef hS hl ?_ (fun _ _=>by simp only[conc]) hk;rw[ZdT]
    have: ∀(ds:List D) (vs:List Value),rdl S.ok S.hp ds vs->rdl S.ok S.hp (ds++[d]) (vs++[a.eval x]):=by
     intro ds;induction ds with
     |nil=>intro vs h;simp only[rdl] at h;subst h;simp only[Zbi,rdl];exact⟨_,_,rfl,h2,rfl⟩
     |cons y ys ih=>
      intro vs h;simp only[rdl] at h;obtain⟨v,r,rfl,k1,k2⟩:=h;simp only[ZaA,rdl];exact⟨_,_,rfl,k1,ih r k2⟩
    exact this _ _ g3
  .exact hk.elim
 .rename_i T c hop;unfold stRecv at hk;cases hce:Qp9 P T with
  |none=>rw[hce] at hk;exact hk.elim
  |some e=>
  rw[hce] at hk;simp only[rvK] at hk;cases hE:tI P e with
  |none=>rw[hE] at hk;exact hk.elim
  |some te=>
  rw[hE] at hk;simp only[Qax,rvE] at hk;obtain⟨hzl,hz,hk⟩:=hk;obtain⟨z,hzr,_⟩:=Qe5 hE hzl hz;obtain⟨dr,hu⟩:=Qpi hce;have h1:=Qdn hc c;cases hcv:evO s.tm c<;>rw[hcv] at hk h1<;>try exact hk.elim
  rename_i q;simp only[rvC] at hk;cases hq:hget s.h q with
  |none=>rw[hq] at hk;exact hk.elim
  |some ent=>
   obtain⟨mu,ent⟩:=ent;rw[hq] at hk;cases mu<;>cases ent<;>try exact hk.elim
   rename_i bu cap;simp only[rvGo] at hk;obtain⟨hne,hk⟩:=hk;obtain⟨d,r,rfl⟩:=Zet hne;have hk:=hk d r rfl;have hS:=(hc.h q).trans hq;simp only[conc] at h1;obtain⟨l,hl,hv⟩:=h1.2 _ hS;have hob:=hc.wf.obj _ _ hS;simp only[objc] at hob;obtain⟨lc,buf,sent,rcvd,g1,g2,g3⟩:=hob;rw[hl] at g1;obtain rfl:=Zac g1;simp only[rdl] at g3;obtain⟨v0,vr,k1,k2,k3⟩:=g3;have hsz:0<buf.size:=by rw[<-ZaW,k1];simp
   have h0:buf.getD 0 undef=v0:=by
    have:buf.toList[0]? =some v0:=by rw[k1];rfl
    rw[ZaR,<-Zbe,this];rfl
   have hx:(buf.extract 1 buf.size).toList=vr:=by
    rw[Zfc,k1];simp only[List.extract,Zcb,Zci];apply ZaL;rw[<-ZaW,k1];simp
   refine opGo_recv hio hw hop hu (hzr _) hv g2 hsz ?_;rw[h0];refine chan q cap (d::r) r l _ sent (rcvd+1) (.im d) v0 hS hl (by rw[hx];exact k3) (fun S' hok=> ?_) hk;simp only[conc];exact Qb8 hok _ _ k2
 .exact main hk
theorem con_put{C:Ctx}{N:Nat}{s:Qad}{a:Act}{w:World}(hc:Con C N s a w){dst:Option Nat}(hd: ∀d,dst=some d->d<N){x:AV}{v:Value}(hx:x.nms=[])(hv: ∀S,conc S x v):Con C N (s.put dst x) (a.put dst v) w:=by
 obtain⟨S,rfl,hc⟩:=hc;have hh:(s.put dst x).h=s.h:=by cases dst<;>rfl
 have hx':(s.put dst x).nx=s.nx:=by cases dst<;>rfl
 refine⟨S,rfl,hc.wf,fun n=>by rw[hh];exact hc.h n,?_,?_,?_,?_,?_,by rw[hx'];exact hc.n0,hc.pre⟩
 .intro t;rw[Qeb,Qfo (fun d h=>by rw[hc.size];exact hd d h)];split
  .exact hv S
  .exact hc.tm t
 .intro t;rw[Qeb,hx'];split
  .rw[hx];intro m hm;cases hm
  .exact hc.nmT t
 .intro n e he;rw[hh] at he;rw[hx'];exact hc.nmH n e he
 .cases dst<;>simp[Act.put,hc.size]
 .cases dst<;>simp[Act.put,hc.defers]
def Qkq(N:Nat):List Oper->Bool
 |[]=>true
 |o::r=>(match o.dst with|some d=>Nat.blt d N|none=>true) && Qkq N r
theorem Qqk{C:Ctx}{N:Nat}{s:Qad}{S:Env}{a:Act}(hc:ConE C N s S a){ops:Array Oper}{j t:Nat}(ht:(ops[j]?).bind (·.dst)=some t){b:Bool}(hb:tget s.tm t= .im (.bool b)):
 yielded ops a.tmps j=some b:=by
 have h1:=hc.tm t;rw[hb] at h1;simp only[conc,rd,Act.eval] at h1;unfold yielded;rw[ht];simp only[ZbK];rw[ZaR] at h1;cases hq:a.tmps[t]? with
 |none=>rw[hq] at h1;simp[undef] at h1
 |some v=>rw[hq] at h1;simp at h1;rw[h1]
theorem Qpr{P:Program}{V:Qbh}(HV:Qd1 P V){C:Ctx}{N:Nat}{ops:Array Oper}{K:Qad->Prop}{Q:Exit->Act->World->Prop}(hQ: ∀s a w,K s->Con C N s a w->Q .normal a w):
 ∀(rest more:List Oper) (i:Nat),ops.toList.drop i=rest++more->Qkq N rest=true-> ∀(s:Qad) (a:Act) (w:World),rgS P V (Qgy ops rest) K s->Con C N s a w->Qkr P ops (Q .normal) (List.range' i rest.length) a w:=by
 intro rest more;induction rest with
 |nil=>
  intro i _ _ s a w hk hc;simp only[Qgy,rgS] at hk;simpa[Qkr] using hQ s a w hk hc
 |cons o rest ih=>
  intro i hi hd s a w hk hc;simp only[Qkq,Zah] at hd;have hio:ops[i]? =some o:=by
   have:(ops.toList.drop i)[0]? =some o:=by rw[hi];rfl
   simpa using this
  have hi':ops.toList.drop (i+1)=rest++more:=by
   have:(ops.toList.drop i).drop 1=rest++more:=by rw[hi];rfl
   rwa [Zbh] at this
  have hdst: ∀d,o.dst=some d->d<N:=by
   intro d hd'
   have:=hd.1
   rw[hd'] at this;simpa using this
  have hnext: ∀s' a' w',rgS P V (Qgy ops rest) K s'->Con C N s' a' w'->Qkr P ops (Q .normal) (List.range' (i+1) rest.length) a' w':=fun s' a' w' h1 h2=>ih (i+1) hi' hd.2 s' a' w' h1 h2
  simp only[ZaE,List.range'_succ,Qkr,hio];simp only[Qgy,rgS] at hk;cases hg:o.guard with
  |none=>
   rw[hg] at hk;simp only[Qx6,opS] at hk;rw[Zao (by simp[Region.wanted,hg])];exact Qty HV hio (by simp[Region.wanted,hg]) hdst hk hc hnext
  |some g=>
   obtain⟨j,want⟩:=g;rw[hg] at hk;simp only[Qx6,opS] at hk;cases ht:(ops[j]?).bind (·.dst) with
   |none=>rw[ht] at hk;exact hk.elim
   |some t=>
    rw[ht] at hk;simp only[grdS] at hk;cases hb:tget s.tm t<;>rw[hb] at hk<;>try exact hk.elim
    rename_i d;cases d<;>try exact hk.elim
    case tup cs=>
     cases cs with
     |cons _ _=>exact hk.elim
     |nil=>
      simp only[Qg4,skipS] at hk;have hy:yielded ops a.tmps j=none:=by
       obtain⟨S,_,hcE⟩:=hc;have h1:=hcE.tm t;rw[hb] at h1;simp only[conc,rd,rdl,Act.eval] at h1;obtain⟨vs,h1,h2⟩:=h1;unfold yielded;rw[ht];simp only[ZbK];rw[ZaR] at h1;cases hq:a.tmps[t]? with
       |none=>rfl
       |some v=>rw[hq] at h1;simp at h1;rw[h1]
      rw[Zaj (by simp[Region.wanted,hg,hy])];exact hnext _ _ _ hk (con_put hc hdst rfl (fun S=>by simp only[conc,rd,rdl];exact⟨#[],rfl,rfl⟩))
    case bool b=>
    simp only[Qg4] at hk;obtain⟨S,hSw,hcE⟩:=hc;have hy:=Qqk hcE ht hb;have hput: ∀b':Bool,b=b'->Con C N (s.put (some t) (.im (.bool b'))) a w:=by
     intro b' hbb;subst hbb;refine⟨S,hSw,hcE.wf,hcE.h,?_,?_,hcE.nmH,hcE.size,hcE.defers,hcE.n0,hcE.pre⟩
     .intro t';rw[Qeb];split
      .rename_i h;cases h;have:=hcE.tm t;rwa [hb] at this
      .exact hcE.tm t'
     .intro t';rw[Qeb];split
      .intro m hm;simp[AV.nms] at hm
      .exact hcE.nmT t'
    by_cases hbw:b=want
    .rw[Zao (by simp[Region.wanted,hg,hy,hbw])];exact Qty HV hio (by simp[Region.wanted,hg,hy,hbw]) hdst (hk.1 hbw) (hput want hbw) hnext
    .rw[Zaj (by simp[Region.wanted,hg,hy,hbw])];have hbn:b= !want:=by cases b<;>cases want<;>simp_all
     have h2:=hk.2 hbn;simp only[skipS] at h2;exact hnext _ _ _ h2 (con_put (hput _ hbn) hdst rfl (fun S=>by simp only[conc,rd,rdl];exact⟨#[],rfl,rfl⟩))
theorem Qt0{P:Program}{V:Qbh}(HV:Qd1 P V){C:Ctx}{N id:Nat}{ops:Array Oper}{K:Qad->Prop}{Q:Exit->Act->World->Prop}(hQ: ∀s a w,K s->Con C N s a w->Q .normal a w)
 (hd:Qkq N ops.toList=true){s:Qad}{a:Act}{w:World}(hk:rgS P V (Qgy ops ops.toList) K s)(hc:Con C N s a w):(Code.region id ops false).wp P Q a w:=by
 refine region_ch ?_
 have:=Qpr HV (ops:=ops) hQ ops.toList [] 0 (by simp) hd s a w hk hc
 rwa [ZaW,<-Zed] at this
structure Ev where
 i:Nat
 o:Oper
 s:Qad
 r:AV
 E:Eff
 skip:Bool
def HD(D:Nat->Bool):List Ev->(Nat->Option Ent)->(Nat->Option Ent)
 |[],h=>h
 |e::r,h=>HD D r (bif D e.i then e.E.appf h else h)
def TD(D:Nat->Bool):List Ev->(Nat->AV)->(Nat->AV)
 |[],f=>f
 |e::r,f=>TD D r (fun t=>bif D e.i && (e.o.dst==some t) then e.r else f t)
theorem Qwh{n:Nat}: ∀(hs:Qan),n∉Qcv hs->hget hs n=none
 |[],_=>rfl
 |(q,e)::hs,h=>by
  simp only[Qcv,Zaw,not_or] at h
  have:(q==n)=false:=by rw[Zbs];exact fun h'=>h.1 h'.symm
  simp only[hget,this,ZaS];exact Qwh hs h.2
theorem Qur{n:Nat}: ∀(hs:Qan),n∈Qcv hs-> ∃e,hget hs n=some e
 |[],h=>by simp[Qcv] at h
 |(q,e)::hs,h=>by
  simp only[Qcv,Zaw] at h;simp only[hget];cases hq:q==n
  .have hne:q≠n:=by simpa using hq
   rcases h with rfl|h
   .exact absurd rfl hne
   .simpa using Qur hs h
  .exact⟨e,by simp⟩
theorem Qky{E:Eff}{h:Nat->Option Ent}{n:Nat}(hn:n∉E.touch):E.appf h n=h n:=by
 simp only[Eff.touch,Zan,not_or] at hn;simp[Eff.appf,Qwh _ hn.2,hn.1]
theorem appf_in{E:Eff}{h h':Nat->Option Ent}{n:Nat}(hn:n∈E.touch):E.appf h n=E.appf h' n:=by
 simp only[Eff.appf];cases hg:hget E.new n with
 |some e=>rfl
 |none=>
  simp only[Eff.touch,Zan] at hn;rcases hn with hn|hn
  .simp[hn]
  .obtain⟨e,he⟩:=Qur _ hn;rw[he] at hg;cases hg
theorem Qym{E:Eff}{h h':Nat->Option Ent}{n:Nat}(hh:h n=h' n):E.appf h n=E.appf h' n:=by
 simp only[Eff.appf,hh]
theorem Qi2{D D':Nat->Bool}{n:Nat}: ∀(evs:List Ev) (h h':Nat->Option Ent),h n=h' n->(∀e∈evs,D e.i≠D' e.i->n∉e.E.touch)->HD D evs h n=HD D' evs h' n
 |[],_,_,hh,_=>hh
 |e::r,h,h',hh,hd=>by
  simp only[HD];refine Qi2 r _ _ ?_ (fun x hx=>hd x (by simp[hx]));cases h1:D e.i<;>cases h2:D' e.i
  .simpa using hh
  .have:=hd e (by simp) (by rw[h1,h2];simp)
   simp only[ZaS,Zbf];rw[Qky this];exact hh
  .have:=hd e (by simp) (by rw[h1,h2];simp)
   simp only[ZaS,Zbf];rw[Qky this];exact hh
  .simp only[Zbf];exact Qym hh
theorem Qiv{D D':Nat->Bool}{t:Nat}: ∀(evs:List Ev) (f f':Nat->AV),f t=f' t->(∀e∈evs,D e.i≠D' e.i->e.o.dst≠some t)->TD D evs f t=TD D' evs f' t
 |[],_,_,hh,_=>hh
 |e::r,f,f',hh,hd=>by
  simp only[TD];refine Qiv r _ _ ?_ (fun x hx=>hd x (by simp[hx]));by_cases hq:e.o.dst=some t
  .have:D e.i=D' e.i:=by
    rcases Decidable.em (D e.i=D' e.i) with h|h
    .exact h
    .exact absurd hq (hd e (by simp) h)
   rw[this,hh]
  .have:(e.o.dst==some t)=false:=by rw[Zbs];exact hq
   simp[this,hh]
theorem Qvg(D:Nat->Bool): ∀(a b:List Ev) (h:Nat->Option Ent),HD D (a++b) h=HD D b (HD D a h)
 |[],_,_=>rfl
 |e::a,b,h=>by simp only[ZaA,HD];exact Qvg D a b _
theorem Qwd(D:Nat->Bool): ∀(a b:List Ev) (f:Nat->AV),TD D (a++b) f=TD D b (TD D a f)
 |[],_,_=>rfl
 |e::a,b,f=>by simp only[ZaA,TD];exact Qwd D a b _
theorem Qw6{D:Nat->Bool}: ∀(evs:List Ev) (h:Nat->Option Ent) (n:Nat),(∀e∈evs,D e.i=true->n∉e.E.touch)->HD D evs h n=h n
 |[],_,_,_=>rfl
 |e::r,h,n,hd=>by
  simp only[HD];rw[Qw6 r _ n (fun x hx=>hd x (by simp[hx]))];cases h1:D e.i
  .rfl
  .exact Qky (hd e (by simp) h1)
theorem Qyr{D:Nat->Bool}: ∀(evs:List Ev) (f:Nat->AV) (t:Nat),(∀e∈evs,D e.i=true->e.o.dst≠some t)->TD D evs f t=f t
 |[],_,_,_=>rfl
 |e::r,f,t,hd=>by
  simp only[TD];rw[Qyr r _ t (fun x hx=>hd x (by simp[hx]))];cases h1:D e.i
  .rfl
  .have:(e.o.dst==some t)=false:=by rw[Zbs];exact hd e (by simp) h1
   simp[this]
theorem Qtn{n:Nat}{x:Ent}: ∀(hs:Qan),hget hs n=some x->n∈Qcv hs/\ ∀m∈x.2.nms,m∈nmsH hs
 |[],h=>by simp[hget] at h
 |(q,mu,ob)::hs,h=>by
  simp only[hget] at h;simp only[Qcv,nmsH,Zaw,Zan];cases hq:q==n<;>rw[hq] at h
  .obtain⟨h1,h2⟩:=Qtn hs (by simpa using h);exact⟨.inr h1,fun m hm=> .inr (h2 m hm)⟩
  .have hqn:q=n:=by simpa using hq
   simp only[Zbf,Zae] at h;subst h;exact⟨.inl hqn.symm,fun m hm=> .inl hm⟩
theorem HD_src{D:Nat->Bool}{n:Nat}{x:Ent}: ∀(evs:List Ev) (h:Nat->Option Ent),HD D evs h n=some x->h n=some x\/ ∃e∈evs,D e.i=true/\hget e.E.new n=some x
 |[],_,hx=> .inl hx
 |e::r,h,hx=>by
  simp only[HD] at hx;rcases HD_src r _ hx with h1|⟨f,hf,h2⟩
  .cases hd:D e.i<;>rw[hd] at h1
   .exact .inl h1
   .simp only[Zbf,Eff.appf] at h1;cases hg:hget e.E.new n with
    |some y=>
     rw[hg] at h1;obtain rfl:=Zac h1;exact .inr ⟨e,by simp,hd,hg⟩
    |none=>
     rw[hg] at h1;cases hk:e.E.kill.contains n<;>rw[hk] at h1
     .exact .inl h1
     .cases h1
  .exact .inr ⟨f,by simp[hf],h2⟩
theorem TD_src{D:Nat->Bool}{t:Nat}: ∀(evs:List Ev) (f:Nat->AV),TD D evs f t=f t\/ ∃e∈evs,D e.i=true/\TD D evs f t=e.r
 |[],_=> .inl rfl
 |e::r,f=>by
  simp only[TD];rcases TD_src r (fun t=>bif D e.i && (e.o.dst==some t) then e.r else f t) with h1|⟨x,hx,h2⟩
  .rw[h1];cases hd:D e.i
   .exact .inl rfl
   .cases hq:e.o.dst==some t
    .exact .inl rfl
    .exact .inr ⟨e,by simp,hd,rfl⟩
  .exact .inr ⟨x,by simp[hx],h2⟩
structure Sep(e f:Ev):Prop where
 a: ∀n,n∈f.E.use++f.E.kill->n∉e.E.touch
 b: ∀n,n∈f.E.touch->n∉e.E.touch
 c: ∀n,n∈f.E.touch->n∉e.E.use++e.E.kill
 d: ∀n,n∈f.E.touch++(f.r.nms++nmsH f.E.new)-> ¬Fr e.s.nx e.E.cnt n
theorem Qlq: ∀(l k:List Nat),Ql9 l k=true-> ∀n∈l,n∉k
 |[],_,_,n,hn=>by cases hn
 |x::l,k,h,n,hn=>by
  simp only[Ql9,Zah,ZbZ] at h;rcases Zaw.1 hn with rfl|hn
  .intro hk
   have:=h.1
   rw[Zbq.2 hk] at this;cases this
  .exact Qlq l k h.2 n hn
theorem Qtw{nx cnt:Nat}: ∀(l:List Nat),outN nx cnt l=true-> ∀n∈l,¬Fr nx cnt n
 |[],_,n,hn=>by cases hn
 |x::l,h,n,hn=>by
  simp only[outN,Zah,ZbX,ZbW,ZcS] at h;rcases Zaw.1 hn with rfl|hn
  .intro hf
   have:=hf.1
   have:=hf.2
   omega
  .exact Qtw l h.2 n hn
def GdOk(ops:Array Oper)(s:Qad)(skip:Bool):Option (Nat×Bool)->Prop
 |none=>skip=false
 |some (g,want)=> ∃t,(ops[g]?).bind (·.dst)=some t/\((∃b,tget s.tm t= .im (.bool b)/\skip=(b !=want))\/(tget s.tm t= .im (.tup [])/\skip=true))
structure EvOk(P:Program)(ops:Array Oper)(e:Ev):Prop where
 op:ops[e.i]? =some e.o
 gd:GdOk ops e.s e.skip e.o.guard
 doo:e.skip=false->OpT P e.s.tm (hget e.s.h) e.s.nx e.o e.r e.E/\e.E.ok e.s.nx e.r=true
 skp:e.skip=true->e.r= .im (.tup [])/\e.E={}
abbrev allB:Nat->Bool:=fun _=>true
def ltB(j:Nat):Nat->Bool:=fun i=>Nat.blt i j
theorem ltB_t{i j:Nat}(h:ltB j i=true):i<j:=by simpa[ltB] using h
structure GT(P:Program)(ops:Array Oper)(cl:List (List Nat))(s0:Qad)(evs:List Ev)(s:Qad)(acc:List Fp):Prop where
 idx: ∀(k:Nat) (e:Ev),evs[k]? =some e->e.i=k
 tm: ∀t,tget s.tm t=TD allB evs (tget s0.tm) t
 h: ∀n,hget s.h n=HD allB evs (hget s0.h) n
 nx:s0.nx<=s.nx
 ev: ∀e∈evs,EvOk P ops e/\s0.nx<=e.s.nx/\e.s.nx+e.E.cnt<=s.nx
 atT: ∀e∈evs,∀t,tget e.s.tm t=TD (ltB e.i) evs (tget s0.tm) t
 atH: ∀e∈evs,∀n,hget e.s.h n=HD (ltB e.i) evs (hget s0.h) n
 ord: ∀e∈evs,∀f∈evs,e.i<f.i->e.s.nx+e.E.cnt<=f.s.nx
 pair: ∀e∈evs,∀f∈evs,e.i<f.i->ordB cl e.i f.i=true\/Sep e f
 acc: ∀e∈evs,e.skip=true\/(⟨e.i,e.E.use++e.E.kill,e.E.touch,e.s.nx,e.E.cnt⟩:Fp)∈acc
 nmT: ∀t,∀m∈(tget s.tm t).nms,m<s.nx
section
variable {P:Program}{ops:Array Oper}{cl:List (List Nat)}{s0 s:Qad}{evs:List Ev}{acc:List Fp}
theorem GT.lt(g:GT P ops cl s0 evs s acc): ∀e∈evs,e.i<evs.length:=by
 intro e he;obtain⟨k,hk,hke⟩:=ZcD.1 he
 have:=g.idx k e (by rw[Zad hk,hke])
 omega
theorem GT.nil(h: ∀t,∀m∈(tget s0.tm t).nms,m<s0.nx):GT P ops cl s0 [] s0 []:=by
 refine⟨by simp,fun t=>rfl,fun n=>rfl,Zap _,by simp,by simp,by simp,by simp,by simp,by simp,h⟩
theorem GT.snoc(g:GT P ops cl s0 evs s acc)(e:Ev)(hi:e.i=evs.length)(hok:EvOk P ops e)(hs: ∀t,tget e.s.tm t=tget s.tm t)(hh: ∀n,hget e.s.h n=hget s.h n)(hnx:e.s.nx=s.nx)
 (hpair: ∀f∈evs,ordB cl f.i e.i=true\/Sep f e){s':Qad}{acc':List Fp}(ht': ∀t,tget s'.tm t=if e.o.dst=some t then e.r else tget s.tm t)
 (hh': ∀n,hget s'.h n=e.E.appf (hget s.h) n)(hnx':s'.nx=s.nx+e.E.cnt)(hacc: ∀f∈acc,f∈acc')(hacc':e.skip=true\/(⟨e.i,e.E.use++e.E.kill,e.E.touch,e.s.nx,e.E.cnt⟩:Fp)∈acc')
 (hr: ∀m∈e.r.nms,m<s'.nx):GT P ops cl s0 (evs++[e]) s' acc':=by
 have hlt: ∀f∈evs,f.i<e.i:=fun f hf=>by rw[hi];exact g.lt f hf
 have hTall: ∀t,TD (ltB e.i) evs (tget s0.tm) t=tget s.tm t:=by
  intro t;rw[g.tm t];refine Qiv evs _ _ rfl ?_;intro f hf hne;exact absurd (by simp[ltB,hlt f hf]) hne
 have hHall: ∀n,HD (ltB e.i) evs (hget s0.h) n=hget s.h n:=by
  intro n;rw[g.h n];refine Qi2 evs _ _ rfl ?_;intro f hf hne;exact absurd (by simp[ltB,hlt f hf]) hne
 have hold: ∀f∈evs,ltB f.i e.i=false:=by
  intro f hf
  have:=hlt f hf
  rw[Zcg];intro h
  have:=ltB_t h
  omega
 have hself:ltB e.i e.i=false:=by
  rw[Zcg];intro h
  have:=ltB_t h
  omega
 have hmem: ∀f,f∈evs++[e]->f∈evs\/f=e:=by intro f hf;simpa using hf
 refine⟨?_,?_,?_,?_,?_,?_,?_,?_,?_,?_,?_⟩
 .intro k f hk;rcases Zdu k evs.length with h|h|h
  .rw[Zav h] at hk;exact g.idx k f hk
  .subst h;rw[ZaC (Zap _)] at hk;simp at hk;subst hk;exact hi
  .rw[ZaC (by omega)] at hk
   have:(k - evs.length)≠0:=by omega
   cases hq:k - evs.length with
   |zero=>omega
   |succ q=>rw[hq] at hk;simp at hk
 .intro t;rw[ht',Qwd];simp only[TD,allB,Zbj];by_cases hq:e.o.dst=some t
  .simp[hq]
  .have:(e.o.dst==some t)=false:=by rw[Zbs];exact hq
   rw[Zaj hq,this];exact g.tm t
 .intro n;rw[hh',Qvg];simp only[HD,allB,Zbf];exact Qym (g.h n)
 .have:=g.nx;omega
 .intro f hf;have hnx0:=g.nx;rcases hmem f hf with hf|rfl
  .obtain⟨h1,h2,h3⟩:=g.ev f hf;exact⟨h1,h2,by omega⟩
  .exact⟨hok,by omega,by omega⟩
 .intro f hf t;rw[Qwd];rcases hmem f hf with hf|rfl
  .simp only[TD,hold f hf,Zbu,ZaS];exact g.atT f hf t
  .simp only[TD,hself,Zbu,ZaS];rw[hTall,hs]
 .intro f hf n;rw[Qvg];rcases hmem f hf with hf|rfl
  .simp only[HD,hold f hf,ZaS];exact g.atH f hf n
  .simp only[HD,hself,ZaS];rw[hHall,hh]
 .intro x hx y hy hxy;rcases hmem x hx with hx'|rfl<;>rcases hmem y hy with hy'|rfl
  .exact g.ord x hx' y hy' hxy
  .have:=(g.ev x hx').2.2;omega
  .have:=hlt y hy';omega
  .omega
 .intro x hx y hy hxy;rcases hmem x hx with hx'|rfl<;>rcases hmem y hy with hy'|rfl
  .exact g.pair x hx' y hy' hxy
  .exact hpair x hx'
  .have:=hlt y hy';omega
  .omega
 .intro f hf;rcases hmem f hf with hf|rfl
  .rcases g.acc f hf with h|h
   .exact .inl h
   .exact .inr (hacc _ h)
  .exact hacc'
 .intro t m hm;rw[ht'] at hm;split at hm
  .exact hr m hm
  .have:=g.nmT t m hm;omega
theorem Qrd{j:Nat}{use touch names:List Nat}: ∀(acc:List Fp),Qabz cl j use touch names acc=true-> ∀f∈acc,ckP cl j use touch names f=true
 |[],_,f,hf=>by cases hf
 |x::acc,h,f,hf=>by
  simp only[Qabz,Zah] at h;rcases Zaw.1 hf with rfl|hf
  .exact h.1
  .exact Qrd acc h.2 f hf
theorem tr_of_rgA{V:Qbh}(HV:Qd1 P V){K:Qad->Prop}: ∀(rest:List Oper) (i:Nat) (acc:List Fp) (s:Qad) (evs:List Ev),ops.toList.drop i=rest->evs.length=i->
 GT P ops cl s0 evs s acc->rgA P V cl (Qgy ops rest) i K acc s-> ∃evs' s' acc',evs'.length=i+rest.length/\GT P ops cl s0 evs' s' acc'/\K s':=by
 intro rest;induction rest with
 |nil=>intro i acc s evs _ hl g hk;exact⟨evs,s,acc,by simpa using hl,g,hk⟩
 |cons o rest ih=>
  intro i acc s evs hi hl g hk;have hio:ops[i]? =some o:=by
   have:(ops.toList.drop i)[0]? =some o:=by rw[hi];rfl
   simpa using this
  have hi':ops.toList.drop (i+1)=rest:=by
   have:(ops.toList.drop i).drop 1=rest:=by rw[hi];rfl
   rwa [Zbh] at this
  have hdo: ∀s1:Qad,(∀t,tget s1.tm t=tget s.tm t)->s1.h=s.h->s1.nx=s.nx->GdOk ops s1 false o.guard->stepA P V cl i acc o.dst o.op o.type (rgA P V cl (Qgy ops rest) (i+1) K) s1->
   ∃evs' s' acc',evs'.length=i+(rest.length+1)/\GT P ops cl s0 evs' s' acc'/\K s':=by
   intro s1 ht hh hnx hgd hst;have hnm: ∀x,∀m∈(evO s1.tm x).nms,m<s1.nx:=evO_nms (fun t m hm=>by rw[ht] at hm;rw[hnx];exact g.nmT t m hm);rcases Qrc HV hnm hst with ⟨r,E,hop,hok,hck,hgo⟩|⟨h,_⟩
   .have hck':=Qrd acc hck;have hst:(s1.app o.dst r E).nx=s1.nx+E.cnt:=by cases o.dst<;>rfl
    have hb:=hok;simp only[Eff.ok,Zah] at hb;have g':GT P ops cl s0 (evs++[⟨i,o,s1,r,E,false⟩]) (s1.app o.dst r E) (⟨i,E.use++E.kill,E.touch,s1.nx,E.cnt⟩::acc):=by
     refine g.snoc ⟨i,o,s1,r,E,false⟩ hl.symm ⟨hio,hgd,fun _=>⟨hop,hok⟩,fun h=>by cases h⟩ ht (fun n=>by rw[hh]) hnx ?_ (fun t=> ?_) (fun n=> ?_) (by rw[hst,hnx]) (fun f hf=>by simp[hf]) (.inr (by simp)) ?_
     .intro f hf;rcases g.acc f hf with hs|ha
      .obtain⟨h1,h2⟩:=((g.ev f hf).1).skp hs;refine .inr ⟨?_,?_,?_,?_⟩<;>rw[h2]
       .intro n _;simp[Eff.touch,Qcv]
       .intro n _;simp[Eff.touch,Qcv]
       .intro n _;simp
       .intro n _ hfr
        have:=hfr.1
        have:=hfr.2
        simp only at this;omega
      .have h:=hck' _ ha;unfold ckP at h;rw[ZeL] at h;split at h
       .rename_i hx;simp only[Zah] at hx;obtain⟨h1,h2,h3⟩:=hx;have h1':=Qlq _ _ h1;exact .inr ⟨fun n hn=>h1' n (by simp only[Zan] at hn⊢;exact .inl hn),fun n hn=>h1' n (ZbD _ hn),Qlq _ _ h2,Qtw _ h3⟩
       .exact .inl h
     .have:tget (s1.app o.dst r E).tm t=if o.dst=some t then r else tget s1.tm t:=Qeb
      rw[this,ht]
     .have:(s1.app o.dst r E).h=E.new++hdel s1.h E.kill:=by cases o.dst<;>rfl
      rw[this,Qm2,Qm7,hh];simp only[Eff.appf];cases hget E.new n<;>rfl
     .rw[hst];exact Qp3 r hb.1
    obtain⟨evs',s',acc',h1,h2,h3⟩:=ih (i+1) _ _ _ hi' (by simp[hl]) g' hgo;exact⟨evs',s',acc',by omega,h2,h3⟩
   .cases h
  simp only[Qgy,rgA] at hk;simp only[ZaE];cases hg:o.guard with
  |none=>
   rw[hg] at hk;simp only[Qx6,opA] at hk;exact hdo s (fun _=>rfl) rfl rfl (by rw[hg];rfl) hk
  |some gw=>
   obtain⟨j,want⟩:=gw;rw[hg] at hk;simp only[Qx6,opA] at hk;cases ht:(ops[j]?).bind (·.dst) with
   |none=>rw[ht] at hk;exact hk.elim
   |some t=>
    rw[ht] at hk;simp only[grdA] at hk;cases hb:tget s.tm t<;>rw[hb] at hk<;>try exact hk.elim
    rename_i d;have hskip: ∀s2:Qad,(∀t',tget s2.tm t'=tget s.tm t')->s2.h=s.h->s2.nx=s.nx->GdOk ops s true o.guard->rgA P V cl (Qgy ops rest) (i+1) K acc (s2.put o.dst (.im (.tup [])))->
     ∃evs' s' acc',evs'.length=i+(rest.length+1)/\GT P ops cl s0 evs' s' acc'/\K s':=by
     intro s2 hput hh hnx hgd h2;have g':GT P ops cl s0 (evs++[⟨i,o,s,.im (.tup []),{},true⟩]) (s2.put o.dst (.im (.tup []))) acc:=by
      refine g.snoc ⟨i,o,s,.im (.tup []),{},true⟩ hl.symm ⟨hio,hgd,(fun h=>by cases h),(fun _=>⟨rfl,rfl⟩)⟩ (fun _=>rfl) (fun _=>rfl) rfl ?_ (fun t'=> ?_) (fun n=> ?_) ?_ (fun f hf=>hf) (.inl rfl) ?_
      .intro f hf;refine .inr ⟨?_,?_,?_,?_⟩<;>simp[Eff.touch,Qcv,AV.nms,nmsH]
      .rw[Qeb,hput]
      .have:(s2.put o.dst (.im (.tup []))).h=s2.h:=by cases o.dst<;>rfl
       rw[this,hh];simp[Eff.appf,hget]
      .have:(s2.put o.dst (.im (.tup []))).nx=s2.nx:=by cases o.dst<;>rfl
       rw[this,hnx];rfl
      .intro m hm;simp[AV.nms] at hm
     obtain⟨evs',s',acc',h1,h2,h3⟩:=ih (i+1) _ _ _ hi' (by simp[hl]) g' h2;exact⟨evs',s',acc',by omega,h2,h3⟩
    cases d<;>try exact hk.elim
    case tup cs=>
     cases cs with
     |cons _ _=>exact hk.elim
     |nil=>
      simp only[Qg4,skipA] at hk;exact hskip s (fun _=>rfl) rfl rfl (by rw[hg];exact⟨t,ht,.inr ⟨hb,rfl⟩⟩) hk
    case bool b=>
    simp only[Qg4] at hk;have hput: ∀b':Bool,b=b'-> ∀t',tget (s.put (some t) (.im (.bool b'))).tm t'=tget s.tm t':=by
     intro b' hbb t';subst hbb;rw[Qeb];split
     .rename_i h;cases h;exact hb.symm
     .rfl
    by_cases hbw:b=want
    .refine hdo (s.put (some t) (.im (.bool want))) (hput want hbw) rfl rfl ?_ (hk.1 hbw);rw[hg];exact⟨t,ht,.inl ⟨b,by rw[hput want hbw,hb],by simp[hbw]⟩⟩
    .have hbn:b= !want:=by cases b<;>cases want<;>simp_all
     have h2:=hk.2 hbn;simp only[skipA] at h2;refine hskip (s.put (some t) (.im (.bool (!want)))) (hput _ hbn) rfl rfl ?_ h2;rw[hg];exact⟨t,ht,.inl ⟨b,hb,by simp[hbn]⟩⟩
end
def stGo(ops:Array Oper)(cl:List (List Nat)):List Oper->Nat->List (Nat×Oper)->Bool
 |[],_,_=>true
 |o::r,j,acc=>(o.after.toList.all fun e=> !bnd e.ground||Nat.blt e.on j) && (acc.all (fun p=>ordB cl p.1 j||p.2.apart ops o) && stGo ops cl r (j+1) ((j,o)::acc))
def stOk(ops:Array Oper):Bool:=stGo ops (Qdr ops.toList []) ops.toList 0 []
theorem Qup(e:Edge):Region.binds .any e=bnd e.ground:=by
 unfold Region.binds;cases e.ground<;>rfl
structure StOk(ops:Array Oper)(cl:List (List Nat)):Prop where
 lo: ∀(j:Nat) (o:Oper),ops[j]? =some o-> ∀e∈o.after.toList,bnd e.ground=true->e.on<j
 ap: ∀(i j:Nat) (x y:Oper),i<j->ops[i]? =some x->ops[j]? =some y->ordB cl i j=true\/x.apart ops y=true
theorem stGo_spec{ops:Array Oper}{cl:List (List Nat)}: ∀(rest:List Oper) (j:Nat) (acc:List (Nat×Oper)),ops.toList.drop j=rest->(∀i x,i<j->ops[i]? =some x->(i,x)∈acc)->stGo ops cl rest j acc=true->
 (∀(k:Nat) (o:Oper),j<=k->ops[k]? =some o-> ∀e∈o.after.toList,bnd e.ground=true->e.on<k)/\
 (∀(i k:Nat) (x y:Oper),j<=k->i<k->ops[i]? =some x->ops[k]? =some y->ordB cl i k=true\/x.apart ops y=true):=by
 intro rest;induction rest with
 |nil=>
  intro j acc hd _ _;have hs:ops.size<=j:=by
   have:=ZbJ List.length hd
   simp at this;omega
  refine⟨fun k o hk ho=> ?_,fun i k x y hk _ _ hy=> ?_⟩
  .have:=(ZbL.1 ho).1;omega
  .have:=(ZbL.1 hy).1;omega
 |cons o rest ih=>
  intro j acc hd hacc hs;have hjo:ops[j]? =some o:=by
   have:(ops.toList.drop j)[0]? =some o:=by rw[hd];rfl
   simpa using this
  have hd':ops.toList.drop (j+1)=rest:=by
   have:(ops.toList.drop j).drop 1=rest:=by rw[hd];rfl
   rwa [Zbh] at this
  simp only[stGo,Zah,Zbv,ZbX,ZbZ,ZbW] at hs;obtain⟨h1,h2,h3⟩:=hs;obtain⟨r1,r2⟩:=ih (j+1) ((j,o)::acc) hd' (by
   intro i x hi hx;rcases Zbp i j with h|h
   .exact Zas _ (hacc i x h hx)
   .have:i=j:=by omega
    subst this;rw[hjo] at hx;cases hx;exact Zat) h3
  refine⟨fun k p hk hp=> ?_,fun i k x y hk hik hx hy=> ?_⟩
  .rcases Zbp j k with h|h
   .exact r1 k p h hp
   .have:k=j:=by omega
    subst this;rw[hjo] at hp;cases hp;intro e he hb;rcases h1 e he with h|h
    .rw[h] at hb;cases hb
    .exact h
  .rcases Zbp j k with h|h
   .exact r2 i k x y h hik hx hy
   .have:k=j:=by omega
    subst this;rw[hjo] at hy;cases hy;exact h2 (i,x) (hacc i x hik hx)
theorem stOk_spec{ops:Array Oper}(h:stOk ops=true):StOk ops (Qdr ops.toList []):=by
 obtain⟨h1,h2⟩:=stGo_spec (cl:=Qdr ops.toList []) ops.toList 0 [] rfl (by intro i x hi;omega) h;exact⟨fun j o ho=>h1 j o (ZaU _) ho,fun i j x y hij hx hy=>h2 i j x y (ZaU _) hij hx hy⟩
theorem nthL_app(a b:List (List Nat)): ∀(k:Nat),k<a.length->nthL (a++b) k=nthL a k:=by
 induction a with
 |nil=>intro k hk;simp at hk
 |cons x a ih=>
  intro k hk;cases k with
  |zero=>rfl
  |succ k=>exact ih k (by simpa using hk)
theorem nthL_at(a:List (List Nat))(x:List Nat)(b:List (List Nat)):nthL (a++x::b) a.length=x:=by
 induction a with
 |nil=>rfl
 |cons y a ih=>exact ih
theorem Qaaw: ∀(a:List (List Nat)) (k:Nat),a.length<=k->nthL a k=[]
 |[],_,_=>rfl
 |_::a,0,h=>by simp at h
 |_::a,k+1,h=>Qaaw a k (by simpa using h)
theorem Qnq: ∀(rest:List Oper) (acc:List (List Nat)) (k:Nat),k<acc.length->nthL (Qdr rest acc) k=nthL acc k
 |[],_,_,_=>rfl
 |o::r,acc,k,h=>by
  simp only[Qdr];rw[Qnq r _ k (by simp;omega),nthL_app _ _ _ h]
theorem Qy4: ∀(rest:List Oper) (acc:List (List Nat)) (k:Nat) (o:Oper),rest[k]? =some o-> ∃acc':List (List Nat),acc'.length=acc.length+k/\(∀m,m<acc'.length->nthL acc' m=nthL (Qdr rest acc) m)/\
 nthL (Qdr rest acc) (acc.length+k)=cloE acc' o.after.toList
 |[],_,k,o,h=>by simp at h
 |x::r,acc,0,o,h=>by
  obtain rfl:x=o:=by simpa using h
  refine⟨acc,rfl,fun m hm=>(Qnq _ _ m hm).symm,?_⟩;simp only[Qdr,Zds];rw[Qnq _ _ _ (by simp),nthL_at]
 |x::r,acc,k+1,o,h=>by
  obtain⟨acc',h1,h2,h3⟩:=Qy4 r (acc++[cloE acc x.after.toList]) k o (by simpa using h);simp only[Zaz,ZaE,ZbB] at h1 h3;refine⟨acc',by omega,h2,?_⟩;simp only[Qdr];rw[<-h3];congr 1;omega
theorem ins_mem{x y:Nat}{l:List Nat}(h:y∈ins x l):y=x\/y∈l:=by
 unfold ins at h;cases hc:l.contains x<;>rw[hc] at h
 .simpa using h
 .exact .inr (by simpa using h)
theorem Qzy{y:Nat}: ∀(a l:List Nat),y∈insL a l->y∈a\/y∈l
 |[],_,h=> .inr h
 |x::r,l,h=>by
  rcases ins_mem h with h|h
  .exact .inl (by simp[h])
  .rcases Qzy r l h with h|h
   .exact .inl (by simp[h])
   .exact .inr h
theorem Qsb{acc:List (List Nat)}{i:Nat}: ∀(es:List Edge),i∈cloE acc es-> ∃e∈es,bnd e.ground=true/\(i=e.on\/i∈nthL acc e.on)
 |[],h=>by simp[cloE] at h
 |e::r,h=>by
  simp only[cloE] at h;cases hb:bnd e.ground<;>rw[hb] at h
  .obtain⟨x,hx,h2⟩:=Qsb r h;exact⟨x,by simp[hx],h2⟩
  .simp only[Zbf] at h;have h:=Qzy _ _ h;simp only[Zaw,or_assoc] at h;rcases h with h|h|h
   .exact⟨e,by simp,hb,.inl h⟩
   .exact⟨e,by simp,hb,.inr h⟩
   .obtain⟨x,hx,h2⟩:=Qsb r h;exact⟨x,by simp[hx],h2⟩
theorem clo_mem{ops:Array Oper}{i j:Nat}{o:Oper}(ho:ops[j]? =some o)(h:i∈nthL (Qdr ops.toList []) j):
 ∃e∈o.after.toList,bnd e.ground=true/\(i=e.on\/(e.on<j/\i∈nthL (Qdr ops.toList []) e.on)):=by
 obtain⟨acc',h1,h2,h3⟩:=Qy4 ops.toList [] j o (by simpa using ho);simp only[ZbB,ZbR] at h1 h3;rw[h3] at h;obtain⟨e,he,hb,h4⟩:=Qsb _ h;refine⟨e,he,hb,?_⟩;rcases h4 with h4|h4
 .exact .inl h4
 .rcases Zbp e.on acc'.length with h5|h5
  .exact .inr ⟨by omega,by rw[<-h2 _ h5];exact h4⟩
  .rw[Qaaw _ _ h5] at h4;cases h4
def Closed(ops:Array Oper)(D:Nat->Bool):Prop:= ∀(j:Nat) (o:Oper),D j=true->ops[j]? =some o-> ∀e∈o.after.toList,bnd e.ground=true->D e.on=true
theorem Qqg{ops:Array Oper}{D:Nat->Bool}(hc:Closed ops D){i j:Nat}{o:Oper}(ho:ops[j]? =some o)(hr: ∀e∈o.after.toList,bnd e.ground=true->D e.on=true)
 (h:ordB (Qdr ops.toList []) i j=true):D i=true:=by
 have hi:i∈nthL (Qdr ops.toList []) j:=by simpa[ordB] using h
 clear h;induction j using Nat.strongRecOn generalizing o with
 |_ j ih=>
  obtain⟨e,he,hb,h|⟨h,h2⟩⟩:=clo_mem ho hi
  .rw[h];exact hr e he hb
  .have hlt:=(ZbL.1 ho).1;have hoe:ops[e.on]? =some ops[e.on]:=Zbt (by omega);exact ih e.on h hoe (hc e.on _ (hr e he hb) hoe) h2
structure AtE(C:Ctx)(N:Nat)(evs:List Ev)(s0:Qad)(D:Nat->Bool)(S:Env)(a:Act):Prop where
 wf:Wf C S
 h: ∀n,S.h n=HD D evs (hget s0.h) n
 tm: ∀t,conc S (TD D evs (tget s0.tm) t) (a.eval (.tmp t))
 size:a.tmps.size=N
 defers:a.defers=C.ds
 n0:C.n0<=s0.nx
 pre:C.Pre S
section
variable {P:Program}{ops:Array Oper}{s0 s:Qad}{evs:List Ev}{acc:List Fp}{C:Ctx}{N:Nat}
theorem Qzx{E:Eff}{nx:Nat}{r:AV}(hok:E.ok nx r=true):(∀m∈r.nms,m<nx+E.cnt)/\(∀n x,hget E.new n=some x->(Fr nx E.cnt n\/(n∈E.kill/\n<nx))/\ ∀m∈x.2.nms,m<nx+E.cnt):=by
 simp only[Eff.ok,Zah] at hok;obtain⟨h1,h2,h3⟩:=hok;exact⟨Qp3 r h1,fun n x hx=>⟨Qlm _ h3 n x hx,Qhn _ h2 n x hx⟩⟩
theorem at_step(g:GT P ops (Qdr ops.toList []) s0 evs s acc)(hn0: ∀n e,hget s0.h n=some e->n<s0.nx/\ ∀m∈e.2.nms,m<s0.nx)(hnt0: ∀t,∀m∈(tget s0.tm t).nms,m<s0.nx)
 (st:StOk ops (Qdr ops.toList []))(hN:Qkq N ops.toList=true){D:Nat->Bool}(hc:Closed ops D){e:Ev}(he:e∈evs)(hD:D e.i=false)
 (hr: ∀x∈e.o.after.toList,bnd x.ground=true->D x.on=true){S:Env}{a:Act}(hA:AtE C N evs s0 D S a){K:Act->World->Prop}{Q:Exit->Act->World->Prop}
 (hK: ∀a' S',AtE C N evs s0 (fun i=>D i||i==e.i) S' a'->K a' S'.w):wpOp P ops Q e.i K a S.w:=by
 have heo:=((g.ev e he).1).op;have hlo: ∀k,ordB (Qdr ops.toList []) k e.i=true->D k=true:=fun k hk=>Qqg hc heo hr hk
 have hdst: ∀d,e.o.dst=some d->d<N:=by
  have: ∀(l:List Oper),Qkq N l=true-> ∀o∈l,∀d,o.dst=some d->d<N:=by
   intro l;induction l with
   |nil=>intro _ o ho;cases ho
   |cons x l ih=>
    intro h o ho d hd;simp only[Qkq,Zah] at h;rcases Zaw.1 ho with rfl|ho
    .have:=h.1
     rw[hd] at this;simpa using this
    .exact ih h.2 o ho d hd
  exact this _ hN e.o (by
   have:=Array.mem_of_getElem? heo
   simpa using this)
 have huno: ∀f∈evs,D f.i≠ltB e.i f.i->(f.i<e.i/\D f.i=false/\Sep f e/\f.o.apart ops e.o=true)\/(e.i<f.i/\D f.i=true/\Sep e f/\e.o.apart ops f.o=true):=by
  intro f hf hne;have hfo:=((g.ev f hf).1).op;rcases Zdu f.i e.i with h|h|h
  .have hl:ltB e.i f.i=true:=by simpa[ltB] using h
   have hDf:D f.i=false:=by
    cases hq:D f.i
    .rfl
    .rw[hq,hl] at hne;exact absurd rfl hne
   have hno:ordB (Qdr ops.toList []) f.i e.i=false:=by
    cases hq:ordB (Qdr ops.toList []) f.i e.i
    .rfl
    .have:=hlo _ hq;rw[hDf] at this;cases this
   refine .inl ⟨h,hDf,?_,?_⟩
   .rcases g.pair f hf e he h with h1|h1
    .rw[hno] at h1;cases h1
    .exact h1
   .rcases st.ap f.i e.i f.o e.o h hfo heo with h1|h1
    .rw[hno] at h1;cases h1
    .exact h1
  .have hl:ltB e.i f.i=false:=by
    rw[h];rw[Zcg];intro h';have:=ltB_t h';omega
   rw[hl,h,hD] at hne;exact absurd rfl hne
  .have hl:ltB e.i f.i=false:=by
    rw[Zcg];intro h';have:=ltB_t h';omega
   have hDf:D f.i=true:=by
    cases hq:D f.i
    .rw[hq,hl] at hne;exact absurd rfl hne
    .rfl
   have hno:ordB (Qdr ops.toList []) e.i f.i=false:=by
    cases hq:ordB (Qdr ops.toList []) e.i f.i
    .rfl
    .have:=Qqg hc hfo (hc f.i f.o hDf hfo) hq
     rw[hD] at this;cases this
   refine .inr ⟨h,hDf,?_,?_⟩
   .rcases g.pair e he f hf h with h1|h1
    .rw[hno] at h1;cases h1
    .exact h1
   .rcases st.ap e.i f.i e.o f.o h heo hfo with h1|h1
    .rw[hno] at h1;cases h1
    .exact h1
 have hdone: ∀f∈evs,D f.i=true->f.i<e.i\/(e.i<f.i/\Sep e f/\e.o.apart ops f.o=true):=by
  intro f hf hDf;rcases Zbp f.i e.i with h|h
  .exact .inl h
  .have hl:ltB e.i f.i=false:=by
    rw[Zcg];intro h';have:=ltB_t h';omega
   rcases huno f hf (by rw[hDf,hl];simp) with ⟨h1,_⟩|⟨h1,_,h2⟩
   .omega
   .exact .inr ⟨h1,h2⟩
 have htm: ∀t,t∈e.o.looksAt ops->TD D evs (tget s0.tm) t=tget e.s.tm t:=by
  intro t ht;rw[g.atT e he t];refine Qiv evs _ _ rfl ?_;intro f hf hne;rcases huno f hf hne with ⟨_,_,_,h⟩|⟨_,_,_,h⟩
  .intro hd;exact (Oper.apart_spec h).1 t hd ht
  .intro hd;exact (Oper.apart_spec h).2.2 t hd ht
 have hpart:evs=evs.take e.i++e::evs.drop (e.i+1):=by
  have hl:=g.lt e he;have hget:evs[e.i]? =some evs[e.i]:=Zad hl;obtain⟨k,hk,hke⟩:=ZcD.1 he;have hki:=g.idx k e (by rw[Zad hk,hke]);subst hki
  conv=>lhs;rw[<-Zcr e.i evs]
  rw[Zcv hl,hke]
 have hpre: ∀f∈evs.take e.i,f∈evs/\f.i<e.i:=by
  intro f hf;refine⟨Zdh hf,?_⟩;obtain⟨k,hk,hkf⟩:=ZcD.1 hf;have hk':k<e.i:=by simp at hk;omega
  have:=g.idx k f (by
   rw[<-hkf,List.getElem_take];exact Zad _)
  omega
 have hpost: ∀f∈evs.drop (e.i+1),f∈evs/\e.i<f.i:=by
  intro f hf;refine⟨Zfd hf,?_⟩;obtain⟨k,hk,hkf⟩:=ZcD.1 hf
  have:=g.idx (e.i+1+k) f (by
   rw[<-hkf,List.getElem_drop];exact Zad _)
  omega
 let D':Nat->Bool:=fun i=>D i||i==e.i
 have hDe:D' e.i=true:=by simp[D']
 have hDn: ∀f∈evs,f.i≠e.i->D f.i=D' f.i:=by
  intro f _ hne
  have:(f.i==e.i)=false:=by rw[Zbs];exact hne
  simp[D',this]
 have hHD: ∀n,HD D' evs (hget s0.h) n=e.E.appf (HD D evs (hget s0.h)) n:=by
  intro n;have e1:HD D' evs (hget s0.h)=HD D' (evs.drop (e.i+1)) (e.E.appf (HD D' (evs.take e.i) (hget s0.h))):=by
   conv=>lhs;rw[hpart]
   rw[Qvg];simp only[HD,hDe,Zbf]
  have e2:HD D evs (hget s0.h)=HD D (evs.drop (e.i+1)) (HD D (evs.take e.i) (hget s0.h)):=by
   conv=>lhs;rw[hpart]
   rw[Qvg];simp only[HD,hD,ZaS]
  have e3:HD D' (evs.take e.i) (hget s0.h)=HD D (evs.take e.i) (hget s0.h):=by
   funext m;refine Qi2 _ _ _ rfl ?_;intro f hf hne
   have:=hpre f hf
   exact absurd (hDn f this.1 (by omega)).symm hne
  rw[e1,e2,e3];by_cases hn:n∈e.E.touch
  .rw[appf_in hn (h':=HD D (evs.take e.i) (hget s0.h))];refine Qw6 _ _ n ?_;intro f hf hDf;have h1:=hpost f hf;rw[<-hDn f h1.1 (by omega)] at hDf;rcases hdone f h1.1 hDf with h2|⟨_,h2,_⟩
   .omega
   .intro hnf;exact h2.b n hnf hn
  .rw[Qky hn];refine Qi2 _ _ _ (Qky hn) ?_;intro f hf hne
   have:=hpost f hf
   exact absurd (hDn f this.1 (by omega)).symm hne
 have hTD: ∀t,TD D' evs (tget s0.tm) t=if e.o.dst=some t then e.r else TD D evs (tget s0.tm) t:=by
  intro t;have e1:TD D' evs (tget s0.tm)=TD D' (evs.drop (e.i+1)) (fun t=>bif e.o.dst==some t then e.r else TD D' (evs.take e.i) (tget s0.tm) t):=by
   conv=>lhs;rw[hpart]
   rw[Qwd];simp only[TD,hDe,Zbj]
  have e2:TD D evs (tget s0.tm)=TD D (evs.drop (e.i+1)) (TD D (evs.take e.i) (tget s0.tm)):=by
   conv=>lhs;rw[hpart]
   rw[Qwd];simp only[TD,hD,Zbu,ZaS]
  have e3:TD D' (evs.take e.i) (tget s0.tm)=TD D (evs.take e.i) (tget s0.tm):=by
   funext m;refine Qiv _ _ _ rfl ?_;intro f hf hne
   have:=hpre f hf
   exact absurd (hDn f this.1 (by omega)).symm hne
  rw[e1,e2,e3];by_cases hn:e.o.dst=some t
  .rw[Zao hn];rw[Qyr]
   .simp[hn]
   .intro f hf hDf;have h1:=hpost f hf;rw[<-hDn f h1.1 (by omega)] at hDf;rcases hdone f h1.1 hDf with h2|⟨_,_,h2⟩
    .omega
    .exact (Oper.apart_spec h2).2.1 t hn
  .rw[Zaj hn];have hq:(e.o.dst==some t)=false:=by rw[Zbs];exact hn
   refine Qiv _ _ _ (by simp[hq]) ?_;intro f hf hne
   have:=hpost f hf
   exact absurd (hDn f this.1 (by omega)).symm hne
 have hnx0:s0.nx<=e.s.nx:=(g.ev e he).2.1;have hsrc: ∀f∈evs,D f.i=true->(∀m∈f.r.nms,¬Fr e.s.nx e.E.cnt m)/\(∀n x,hget f.E.new n=some x-> ¬Fr e.s.nx e.E.cnt n/\ ∀m∈x.2.nms,¬Fr e.s.nx e.E.cnt m):=by
  intro f hf hDf;rcases hdone f hf hDf with h|⟨_,h,_⟩
  .have hor:=g.ord f hf e he h;obtain⟨hok,_⟩:=g.ev f hf;cases hs:f.skip
   .obtain⟨h1,h2⟩:=Qzx (hok.doo hs).2;refine⟨fun m hm hfr=> ?_,fun n x hx=>⟨fun hfr=> ?_,fun m hm hfr=> ?_⟩⟩
    .have:=h1 m hm;have:=hfr.1;omega
    .have:=hfr.1
     rcases (h2 n x hx).1 with h3|h3
     .have:=h3.2;omega
     .omega
    .have:=(h2 n x hx).2 m hm;have:=hfr.1;omega
   .obtain⟨h1,h2⟩:=hok.skp hs;rw[h1,h2];exact⟨by simp[AV.nms],by simp[hget]⟩
  .refine⟨fun m hm=>h.d m (by simp[hm]),fun n x hx=>⟨h.d n ?_,fun m hm=>h.d m ?_⟩⟩
   .have:=(Qtn _ hx).1
    simp[Eff.touch,this]
   .have:=(Qtn _ hx).2 m hm
    simp[this]
 have hfrT: ∀t,∀m∈(TD D evs (tget s0.tm) t).nms,¬Fr e.s.nx e.E.cnt m:=by
  intro t m hm;rcases TD_src (D:=D) (t:=t) evs (tget s0.tm) with h|⟨f,hf,hDf,h⟩
  .rw[h] at hm;intro hfr
   have:=hnt0 t m hm
   have:=hfr.1
   omega
  .rw[h] at hm;exact (hsrc f hf hDf).1 m hm
 have hfrH: ∀n x,HD D evs (hget s0.h) n=some x-> ¬Fr e.s.nx e.E.cnt n/\ ∀m∈x.2.nms,¬Fr e.s.nx e.E.cnt m:=by
  intro n x hx;rcases HD_src evs (hget s0.h) hx with h|⟨f,hf,hDf,h⟩
  .obtain⟨h1,h2⟩:=hn0 n x h;exact⟨fun hfr=>by have:=hfr.1;omega,fun m hm hfr=>by have:=hfr.1;have:=h2 m hm;omega⟩
  .exact (hsrc f hf hDf).2 n x h
 have hnext: ∀v S',Wf C S'->S'.h=e.E.appf S.h->Pres (fun m=> ¬Fr e.s.nx e.E.cnt m) S S'->conc S' e.r v->K (a.put e.o.dst v) S'.w:=by
  intro v S' hW hh hp hv;refine hK _ S' ⟨hW,fun n=> ?_,fun t=> ?_,?_,?_,hA.n0,Qy2 hA.pre (Zbd hA.n0 hnx0) hp⟩
  .rw[hh];exact (Qym (hA.h n)).trans (hHD n).symm
  .have:=hTD t
   simp only[D'] at this;rw[this,Qfo (fun d h=>by rw[hA.size];exact hdst d h)];split
   .exact hv
   .exact Qbt hp _ _ (hfrT t) (hA.tm t)
  .cases e.o.dst<;>simp[Act.put,hA.size]
  .cases e.o.dst<;>simp[Act.put,hA.defers]
 have hEv:=(g.ev e he).1;have hwant:Region.wanted e.o (yielded ops a.tmps)= !e.skip:=by
  have hgd:=hEv.gd;unfold Region.wanted;cases hg:e.o.guard with
  |none=>
   rw[hg] at hgd;simp only[GdOk] at hgd;simp[hgd]
  |some gw=>
   obtain⟨q,want⟩:=gw;rw[hg] at hgd;obtain⟨t,ht,hgd⟩:=hgd;have hTt:TD D evs (tget s0.tm) t=tget e.s.tm t:=htm t (by simp[Oper.looksAt,hg,ht]);have h1:=hA.tm t;rw[hTt] at h1;rcases hgd with ⟨b,hb,hs⟩|⟨hb,hs⟩
   .rw[hb] at h1;simp only[conc,rd,Act.eval] at h1;have hy:yielded ops a.tmps q=some b:=by
     unfold yielded;rw[ht];simp only[ZbK];rw[ZaR] at h1;cases hq:a.tmps[t]? with
     |none=>rw[hq] at h1;simp[undef] at h1
     |some v=>rw[hq] at h1;simp at h1;rw[h1]
    simp only[hy,hs];cases b<;>cases want<;>rfl
   .rw[hb] at h1;simp only[conc,rd,rdl,Act.eval] at h1;obtain⟨vs,h1,_⟩:=h1;have hy:yielded ops a.tmps q=none:=by
     unfold yielded;rw[ht];simp only[ZbK];rw[ZaR] at h1;cases hq:a.tmps[t]? with
     |none=>rfl
     |some v=>rw[hq] at h1;simp at h1;rw[h1]
    simp only[hy,hs];rfl
 unfold wpOp;simp only[heo,hwant];cases hs:e.skip
 .simp only[ZcJ,ZaQ];refine .inl ?_;obtain⟨hop,hok⟩:=hEv.doo hs;refine hop C S a K Q hA.wf ?_ ?_ ?_ ?_ hnext
  .intro n hn;rw[hA.h n,g.atH e he n];refine Qi2 evs _ _ rfl ?_;intro f hf hne;rcases huno f hf hne with ⟨_,_,h,_⟩|⟨_,_,h,_⟩
   .exact h.a n hn
   .intro hnf;exact h.c n hnf hn
  .intro n hfr;cases hn:S.h n with
   |none=>rfl
   |some x=>
    rw[hA.h n] at hn;exact absurd hfr (hfrH n x hn).1
  .intro n x hx m hm;rw[hA.h n] at hx;exact (hfrH n x hx).2 m hm
  .intro x hx;cases x with
   |tmp t=>
    simp only[evO];rw[<-htm t (by
     simp only[Oper.looksAt,Zan,List.mem_filterMap];exact .inl ⟨.tmp t,by simpa using hx,rfl⟩)]
    exact hA.tm t
   |const v=>exact kD_conc S v
   |global g=>simp only[evO,conc,rd,Act.eval]
   |func f=>exact Qaad _ _ f
 .simp only[ZdM,ZaB,Zby];obtain⟨h1,h2⟩:=hEv.skp hs;refine hnext undef S hA.wf ?_ (Pres.refl _ _) ?_
  .rw[h2];funext n;simp[Eff.appf,hget]
  .rw[h1];simp only[conc,rd,rdl];exact⟨#[],rfl,rfl⟩
abbrev dn(listed:Array Bool):Nat->Bool:=fun i=>listed.getD i false
def unl(listed:Array Bool):Nat:=listed.toList.countP (fun b=> !b)
theorem dn_set{listed:Array Bool}{j:Nat}(hj:j<listed.size):dn (listed.setIfInBounds j true)=fun i=>dn listed i||i==j:=by
 funext i;simp only[dn];by_cases h:j=i
 .subst h;simp[hj]
 .rw[getD_set_ne false h]
  have:(i==j)=false:=by rw[Zbs];exact fun h'=>h h'.symm
  simp[this]
theorem unl_set{listed:Array Bool}{j:Nat}(hj:j<listed.size)(hl:listed.getD j true=false):unl (listed.setIfInBounds j true)+1=unl listed:=by
 unfold unl;rw[Zdx];have hj':j<listed.toList.length:=by simpa using hj
 have hv:listed.toList[j]=false:=by
  rw[ZaR,Zbt hj] at hl;simpa using hl
 have hpos:0<listed.toList.countP (fun b=> !b):=by
  rw[List.countP_pos_iff];exact⟨false,by rw[<-hv];exact Zcf _,rfl⟩
 rw[List.countP_set hj',hv];simp only[ZcJ,ZaQ,ZdM,ZaB,Zby];omega
theorem Qabb{listed:Array Bool}(hs:listed.size=ops.size)(st:StOk ops (Qdr ops.toList []))(hr:Region.ready .any ops listed=[]): ∀i,i<ops.size->dn listed i=true:=by
 intro i;induction i using Nat.strongRecOn with
 |_ i ih=>
  intro hi;cases hq:dn listed i with
  |true=>rfl
  |false=>
   exfalso
   have:i∈Region.ready .any ops listed:=by
    rw[mem_ready];have hoi:ops[i]? =some ops[i]:=Zbt hi;refine⟨?_,ops[i],hoi,?_⟩
    .simp only[dn] at hq;rw[ZaR,Zbt (by omega)] at hq⊢;simpa using hq
    .intro e he hb;rw[Qup] at hb
     have:=st.lo i _ hoi e (by simpa using he) hb
     exact ih e.on this (by omega)
   rw[hr] at this;cases this
theorem any_go(g:GT P ops (Qdr ops.toList []) s0 evs s acc)(hlen:evs.length=ops.size)(hn0: ∀n e,hget s0.h n=some e->n<s0.nx/\ ∀m∈e.2.nms,m<s0.nx)(hnt0: ∀t,∀m∈(tget s0.tm t).nms,m<s0.nx)
 (st:StOk ops (Qdr ops.toList []))(hN:Qkq N ops.toList=true){Q:Exit->Act->World->Prop}(hQ: ∀a S,AtE C N evs s0 allB S a->Q .normal a S.w):
 ∀(fuel:Nat) (listed:Array Bool) (S:Env) (a:Act),unl listed<=fuel->listed.size=ops.size->Closed ops (dn listed)->AtE C N evs s0 (dn listed) S a->wpAny P .any ops Q fuel listed a S.w:=by
 have hfin: ∀(listed:Array Bool) (S:Env) (a:Act),listed.size=ops.size->(∀i,i<ops.size->dn listed i=true)->AtE C N evs s0 (dn listed) S a->Q .normal a S.w:=by
  intro listed S a hs hall hA;refine hQ a S ⟨hA.wf,fun n=> ?_,fun t=> ?_,hA.size,hA.defers,hA.n0,hA.pre⟩
  .rw[hA.h n];refine Qi2 evs _ _ rfl ?_;intro f hf hne;exact absurd (hall f.i (by have:=g.lt f hf;omega)) hne
  .have:TD allB evs (tget s0.tm) t=TD (dn listed) evs (tget s0.tm) t:=by
    refine Qiv evs _ _ rfl ?_;intro f hf hne;exact absurd (hall f.i (by have:=g.lt f hf;omega)).symm hne
   rw[this];exact hA.tm t
 intro fuel;induction fuel with
 |zero=>
  intro listed S a hu hs hcl hA;have hall: ∀i,i<ops.size->dn listed i=true:=by
   intro i hi;cases hq:dn listed i with
   |true=>rfl
   |false=>
    have:= @unl_set listed i (by omega) (by
     simp only[dn] at hq;rw[ZaR,Zbt (by omega)] at hq⊢;simpa using hq)
    omega
  refine⟨?_,hfin listed S a hs hall hA⟩;rw[List.eq_nil_iff_forall_not_mem];intro j hj;obtain⟨h0,o,ho,_⟩:=mem_ready.1 hj;have hj':=(ZbL.1 ho).1
  have:=hall j hj'
  simp only[dn] at this;rw[ZaR,Zbt (by omega)] at this h0;simp at this h0;rw[h0] at this;cases this
 |succ fuel ih=>
  intro listed S a hu hs hcl hA;refine⟨fun hr=>hfin listed S a hs (Qabb hs st hr) hA,fun j hj=> ?_⟩;obtain⟨h0,o,ho,hall⟩:=mem_ready.1 hj;have hjs:=(ZbL.1 ho).1;have hje:j<evs.length:=by omega
  have hidx:=g.idx j evs[j] (Zad hje);have hmem:evs[j]∈evs:=Zcf hje;have hop:=((g.ev _ hmem).1).op;rw[hidx,ho] at hop;have hDj:dn listed j=false:=by
   simp only[dn];rw[ZaR,Zbt (by omega)] at h0⊢;simpa using h0
  have hall': ∀e∈o.after.toList,bnd e.ground=true->dn listed e.on=true:=fun e he hb=>hall e (by simpa using he) (by rw[Qup];exact hb)
  have hoe:evs[j].o=o:=(Zac hop).symm;have key:=at_step g hn0 hnt0 st hN hcl hmem (by rw[hidx];exact hDj) (by rw[hoe];exact hall') hA (Q:=Q) (K:=wpAny P .any ops Q fuel (listed.setIfInBounds j true)) ?_
  .rwa [hidx] at key
  .intro a' S' hA';rw[hidx] at hA';have hds:=dn_set (listed:=listed) (j:=j) (by omega);refine ih (listed.setIfInBounds j true) S' a' ?_ (by simpa using hs) ?_ (by rw[hds];exact hA')
   .have:= @unl_set listed j (by omega) h0
    omega
   .rw[hds];intro k p hk hp e he hb;simp only[ZbX,Zdv] at hk⊢;rcases hk with hk|rfl
    .exact .inl (hcl k p hk hp e he hb)
    .rw[ho] at hp;cases hp;exact .inl (hall' e he hb)
end
theorem Qog{P:Program}{V:Qbh}(HV:Qd1 P V){C:Ctx}{N:Nat}{ops:Array Oper}{K:Qad->Prop}{Q:Exit->Act->World->Prop}(hQ: ∀s a w,K s->Con C N s a w->Q .normal a w)
 (hd:Qkq N ops.toList=true)(hst:stOk ops=true){s:Qad}{a:Act}{w:World}(hk:rgA P V (Qdr ops.toList []) (Qgy ops ops.toList) 0 K [] s)(hc:Con C N s a w):wpAny P .any ops Q ops.size (Array.replicate ops.size false) a {w with drawn:=w.drawn+1}:=by
 obtain⟨S,rfl,hc⟩:=hc;obtain⟨evs,s',acc,hlen,g,hK⟩:=tr_of_rgA HV ops.toList 0 [] s [] rfl rfl (GT.nil hc.nmT) hk;have hW:=hc.wf
 let S1:Env:={S with w:={S.w with drawn:=S.w.drawn+1}}
 have hp:Pres (fun _=>True) S S1:=⟨fun b hb=>⟨hb,rfl⟩,fun o _ e' he'=>⟨e',he',rfl,rfl,rfl⟩⟩;have hA:AtE C N evs s (dn (Array.replicate ops.size false)) S1 a:=by
  have hno: ∀i,dn (Array.replicate ops.size false) i=false:=by
   intro i;simp only[dn,ZaR,Zcm]
   split<;>rfl
  refine⟨⟨hW.os,hW.tape,hW.output,hW.size,hW.keep,hW.ok0,hW.ok1,hW.oks,?_,hW.loc,hW.inj,hW.gl⟩,fun n=> ?_,fun t=> ?_,hc.size,hc.defers,hc.n0,hc.pre⟩
  .intro o e he;exact Qbr hp (fun _ _=>rfl) _ (fun _ _=>trivial) (hW.obj o e he)
  .rw[Qw6]
   .exact hc.h n
   .intro e _ h;rw[hno] at h;cases h
  .rw[Qyr]
   .exact Qbt hp _ _ (fun _ _=>trivial) (hc.tm t)
   .intro e _ h;rw[hno] at h;cases h
 have key:=any_go (C:=C) (N:=N) (Q:=Q) g (by simpa using hlen) hc.nmH hc.nmT (stOk_spec hst) hd ?_ ops.size (Array.replicate ops.size false) S1 a (by unfold unl;exact Zbd List.countP_le_length (by simp)) (by simp) ?_ hA
 .exact key
 .intro a' S' hA';refine hQ s' a' S'.w hK ⟨S',rfl,hA'.wf,fun n=> ?_,fun t=> ?_,g.nmT,?_,hA'.size,hA'.defers,Zbd hc.n0 g.nx,hA'.pre⟩
  .rw[hA'.h n,g.h n]
  .rw[g.tm t];exact hA'.tm t
  .intro n e he;rw[g.h n] at he;rcases HD_src evs _ he with h|⟨f,hf,_,h⟩
   .obtain⟨h1,h2⟩:=hc.nmH n e h
    have:=g.nx
    exact⟨by omega,fun m hm=>by have:=h2 m hm;omega⟩
   .obtain⟨hok,h2,h3⟩:=g.ev f hf;cases hs:f.skip
    .obtain⟨_,h5⟩:=Qzx (hok.doo hs).2;obtain⟨h6,h7⟩:=h5 n e h;refine⟨?_,fun m hm=>by have:=h7 m hm;omega⟩;rcases h6 with h6|h6
     .have:=h6.2;omega
     .omega
    .rw[(hok.skp hs).2] at h;simp[hget] at h
 .intro j o hj _ e he hb
  have:dn (Array.replicate ops.size false) j=false:=by
   simp only[dn,ZaR,Zcm]
   split<;>rfl
  rw[this] at hj;cases hj
theorem Qtk{P:Program}(HM:P.follows .mixedOrders=true){V:Qbh}(HV:Qd1 P V){C:Ctx}{N id:Nat}{ops:Array Oper}{K:Qad->Prop}{Q:Exit->Act->World->Prop}(hQ: ∀s a w,K s->Con C N s a w->Q .normal a w)
 (hd:Qkq N ops.toList=true)(hst:stOk ops=true){s:Qad}{a:Act}{w:World}(hk:rgA P V (Qdr ops.toList []) (Qgy ops ops.toList) 0 K [] s)(hc:Con C N s a w):(Code.region id ops true).wp P Q a w:=
 wp_region_any HM (Qog HV hQ hd hst hk hc)
def chk(N:Nat):Code->Bool
 | .skip=>true
 | .region _ ops draw=>Qkq N ops.toList && (!draw||stOk ops)
 | .seq a b=>chk N a && chk N b
 | .cond _ a b=>chk N a && chk N b
 | .block _ c=>chk N c
 | .loop c=>chk N c
 | .exit _=>true
 | .ret=>true
 |_=>false
def toQ(C:Ctx)(N:Nat)(Q:Qbl):Exit->Act->World->Prop
 | .normal,a,w=> ∃s,Q .normal s/\Con C N s a w
 | .exit i,a,w=> ∃s,Q (.exit i) s/\Con C N s a w
 | .ret,a,w=> ∃s,Q .ret s/\Con C N s a w
 |_,_,_=>False
theorem Qv7{s:Qad}: ∀(tm:List (Nat×AV)),subT s tm-> ∀t,tget tm t= .any\/tget tm t=tget s.tm t
 |[],_,t=> .inl rfl
 |(q,x)::tm,h,t=>by
  simp only[subT] at h;simp only[tget];cases hq:q==t
  .simpa using Qv7 tm h.2 t
  .have:q=t:=by simpa using hq
   subst this;exact .inr (by simpa using h.1.symm)
theorem Qtu{s:Qad}: ∀(hs:Qan),subH s hs-> ∀n e,hget hs n=some e->hget s.h n=some e
 |[],_,n,e,h=>by simp[hget] at h
 |(q,x)::hs,h,n,e,he=>by
  simp only[subH] at h;simp only[hget] at he;cases hq:q==n<;>rw[hq] at he
  .exact Qtu hs h.2 n e (by simpa using he)
  .have:q=n:=by simpa using hq
   subst this;simp only[Zbf,Zae] at he;subst he;exact h.1
theorem Qif{n:Nat}: ∀(tm:List (Nat×AV)),belT n tm=true-> ∀t,∀m∈(tget tm t).nms,m<n
 |[],_,t,m,hm=>by simp[tget,AV.nms] at hm
 |(q,x)::tm,h,t,m,hm=>by
  simp only[belT,Zah] at h;simp only[tget] at hm;cases hq:q==t<;>rw[hq] at hm
  .exact Qif tm h.2 t m (by simpa using hm)
  .exact Qp3 x h.1 m (by simpa using hm)
theorem Qhv{n:Nat}: ∀(hs:Qan),Qam n hs=true-> ∀m e,hget hs m=some e->m<n
 |[],_,m,e,h=>by simp[hget] at h
 |(q,x)::hs,h,m,e,he=>by
  simp only[Qam,Zah,ZbW] at h;simp only[hget] at he;cases hq:q==m<;>rw[hq] at he
  .exact Qhv hs h.2 m e (by simpa using he)
  .have:q=m:=by simpa using hq
   omega
theorem Qmb{C:Ctx}{N:Nat}{s s':Qad}{a:Act}{w:World}(hc:Con C N s a w)(hs:sub s s')(hg:s'.good=true)(hn0:C.n0<=s'.nx):Con C N s' a w:=by
 obtain⟨S,rfl,hc⟩:=hc;obtain⟨hT,hH⟩:=hs;simp only[Qad.good,Zah] at hg;obtain⟨hg1,hg2,hg3⟩:=hg;have hsub: ∀n e,hget s'.h n=some e->S.h n=some e:=fun n e he=>(hc.h n).trans (Qtu _ hH n e he)
 have hp:Pres (fun _=>True) S {S with h:=hget s'.h}:=⟨fun b hb=>⟨hb,rfl⟩,fun o _ e' he'=>⟨e',hsub o e' he',rfl,rfl,rfl⟩⟩;have hW:=hc.wf;refine⟨{S with h:=hget s'.h},rfl,⟨hW.os,hW.tape,hW.output,hW.size,hW.keep,hW.ok0,hW.ok1,hW.oks,?_,?_,?_,hW.gl⟩,fun n=>rfl,?_,Qif _ hg1,?_,hc.size,hc.defers,hn0,?_⟩
 .intro o e he;exact Qbr hp (fun _ _=>rfl) _ (fun _ _=>trivial) (hW.obj o e (hsub o e he))
 .intro o e l he hl;exact hW.loc o e l (hsub o e he) hl
 .intro o o' e e' l l' he he' hl hl' hb hfl;exact hW.inj o o' e e' l l' (hsub o e he) (hsub o' e' he') hl hl' hb hfl
 .intro t;rcases Qv7 _ hT t with h|h
  .rw[h];simp only[conc]
  .rw[h];exact Qbt hp _ _ (fun _ _=>trivial) (hc.tm t)
 .intro n e he;exact⟨Qhv _ hg3 n e he,Qhn _ hg2 n e he⟩
 .intro o ho e' he';exact hc.pre o ho e' (hsub o e' he')
theorem pm_ge{lo:Nat}: ∀(π:List (Nat×Option Nat)),geP lo π-> ∀n,n<lo->pm π n=some n
 |[],_,n,_=>rfl
 |(a,b)::r,h,n,hn=>by
  simp only[geP] at h;simp only[pm];rw[Zaj (by omega)];exact pm_ge r h.2 n hn
section
variable {S S':Env}{π:List (Nat×Option Nat)}
mutual
theorem Qyf(hok:S'.ok=S.ok)(hhp:S'.hp=S.hp)(hρ: ∀n m,pm π n=some m->S'.ρ n=S.ρ m)(hρ0: ∀n,pm π n=none->S'.ρ n=none)
 (hh: ∀n m,pm π n=some m-> ∀e',S'.h n=some e'-> ∃e,S.h m=some e/\e.2.esz=e'.2.esz/\e.2.len=e'.2.len): ∀(x' x:AV) (v:Value),mt π x' x->conc S x v->conc S' x' v
 | .any,_,_,_,_=>by simp only[conc]
 | .im d,x,v,h,hc=>by
   simp only[mt] at h;subst h;simp only[conc,hok,hhp] at hc⊢;exact hc
 | .own n,x,v,h,hc=>by
   simp only[mt] at h;cases hp:pm π n with
   |some m=>
    rw[hp] at h;simp only[ownM] at h;subst h;simp only[conc] at hc⊢;refine⟨hc.1,fun e' he'=> ?_⟩;obtain⟨e,h1,h2,h3⟩:=hh n m hp e' he';rw[hρ n m hp,<-h3];exact hc.2 e h1
   |none=>
    rw[hp] at h;simp only[ownM] at h;unfold nilA at h;split at h
    .simp only[conc,rd] at hc;have hv:v= .slice none 0 0:=by
      rcases hc with hc|⟨_,_,_,_,_,_,_,h2,_⟩
      .exact Qr7 hc.1
      .exact absurd rfl (h2 trivial)
     subst hv;simp only[conc];refine⟨rfl,fun e' he'=> ?_⟩;rw[hρ0 n hp];trivial
    .exact h.elim
 | .ptr n p,x,v,h,hc=>by
   simp only[mt] at h;cases hp:pm π n with
   |none=>rw[hp] at h;exact h.elim
   |some m=>
    rw[hp] at h;simp only[Qga] at h;subst h;simp only[conc] at hc⊢;refine⟨hc.1,fun e' he'=> ?_⟩;obtain⟨e,h1,h2,h3⟩:=hh n m hp e' he';rw[hρ n m hp];exact hc.2 e h1
 | .eptr n i p,x,v,h,hc=>by
   simp only[mt] at h;cases hp:pm π n with
   |none=>rw[hp] at h;exact h.elim
   |some m=>
    rw[hp] at h;simp only[Qga] at h;subst h;simp only[conc] at hc⊢;refine⟨hc.1,fun e' he'=> ?_⟩;obtain⟨e,h1,h2,h3⟩:=hh n m hp e' he';rw[hρ n m hp,<-h2];exact hc.2 e h1
 | .mp n,x,v,h,hc=>by
   simp only[mt] at h;cases hp:pm π n with
   |none=>rw[hp] at h;exact h.elim
   |some m=>
    rw[hp] at h;simp only[Qga] at h;subst h;simp only[conc] at hc⊢;refine⟨hc.1,fun e' he'=> ?_⟩;obtain⟨e,h1,h2,h3⟩:=hh n m hp e' he';rw[hρ n m hp];exact hc.2 e h1
 | .ch n,x,v,h,hc=>by
   simp only[mt] at h;cases hp:pm π n with
   |none=>rw[hp] at h;exact h.elim
   |some m=>
    rw[hp] at h;simp only[Qga] at h;subst h;simp only[conc] at hc⊢;refine⟨hc.1,fun e' he'=> ?_⟩;obtain⟨e,h1,h2,h3⟩:=hh n m hp e' he';rw[hρ n m hp];exact hc.2 e h1
 | .it n,x,v,h,hc=>by
   simp only[mt] at h;cases hp:pm π n with
   |none=>rw[hp] at h;exact h.elim
   |some m=>
    rw[hp] at h;simp only[Qga] at h;subst h;simp only[conc] at hc⊢;refine⟨hc.1,fun e' he'=> ?_⟩;obtain⟨e,h1,h2,h3⟩:=hh n m hp e' he';rw[hρ n m hp];exact hc.2 e h1
 | .osl n a k,x,v,h,hc=>by
   simp only[mt] at h;cases hp:pm π n with
   |none=>rw[hp] at h;exact h.elim
   |some m=>
    rw[hp] at h;simp only[Qga] at h;subst h;simp only[conc] at hc⊢;refine⟨hc.1,fun e' he'=> ?_⟩;obtain⟨e,h1,h2,h3⟩:=hh n m hp e' he';rw[hρ n m hp,<-h2,<-h3];exact hc.2 e h1
 | .agg cs,x,v,h,hc=>by
   have key: ∀ds,mtL π cs ds->conc S (.agg ds) v->conc S' (.agg cs) v:=by
    intro ds h hc;simp only[conc] at hc⊢;obtain⟨vs,rfl,h1⟩:=hc;exact⟨vs,rfl,Qts hok hhp hρ hρ0 hh cs ds _ h h1⟩
   cases x<;>try (simp only[mt] at h;done)
   case agg ds=>
    simp only[mt] at h;exact key ds h hc
   case im d=>
    cases d<;>try (simp only[mt] at h;done)
    rename_i ds;simp only[mt] at h;refine key _ h ?_;simp only[conc,rd] at hc⊢;obtain⟨vs,rfl,h1⟩:=hc;exact⟨vs,rfl,(Qa6 _ _).2 h1⟩
 | .tup cs,x,v,h,hc=>by simp only[mt] at h
 | .clo f a c,x,v,h,hc=>by simp only[mt] at h
theorem Qts(hok:S'.ok=S.ok)(hhp:S'.hp=S.hp)(hρ: ∀n m,pm π n=some m->S'.ρ n=S.ρ m)(hρ0: ∀n,pm π n=none->S'.ρ n=none)
 (hh: ∀n m,pm π n=some m-> ∀e',S'.h n=some e'-> ∃e,S.h m=some e/\e.2.esz=e'.2.esz/\e.2.len=e'.2.len): ∀(xs' xs:List AV) (vs:List Value),mtL π xs' xs->Qa0 S xs vs->Qa0 S' xs' vs
 |[],[],vs,h,hc=>by simpa only[Qa0] using hc
 |x::r,y::s,vs,h,hc=>by
  simp only[mtL] at h;simp only[Qa0] at hc⊢;obtain⟨v,w,rfl,h1,h2⟩:=hc;exact⟨v,w,rfl,Qyf hok hhp hρ hρ0 hh x y v h.1 h1,Qts hok hhp hρ hρ0 hh r s w h.2 h2⟩
 |[],_::_,vs,h,_=>by simp only[mtL] at h
 |_::_,[],vs,h,_=>by simp only[mtL] at h
end
end
theorem Qya{π:List (Nat×Option Nat)}: ∀{a b:List (List AV)},mtR π a b->b.length=a.length
 |[],[],_=>rfl
 |_::_,_::_,h=>by simp[Qya h.2]
 |[],_::_,h=>h.elim
 |_::_,[],h=>h.elim
theorem mtL_len{π:List (Nat×Option Nat)}: ∀{a b:List AV},mtL π a b->b.length=a.length
 |[],[],_=>rfl
 |_::_,_::_,h=>by simp only[mtL] at h;simp[mtL_len h.2]
 |[],_::_,h=>by simp only[mtL] at h
 |_::_,[],h=>by simp only[mtL] at h
theorem Qxn{π:List (Nat×Option Nat)}{e' e:AObj}(h:mtE π e' e):e.esz=e'.esz/\e.len=e'.len/\e.isView=e'.isView:=by
 cases e'<;>cases e<;>simp only[mtE,reduceCtorEq,AObj.arr.injEq,AObj.map.injEq,AObj.chan.injEq,AObj.iter.injEq,AObj.view.injEq] at h
 all_goals first
  |exact⟨rfl,rfl,rfl⟩
  |(obtain⟨rfl,rfl,rfl⟩:=h;exact⟨rfl,rfl,rfl⟩)
  |(obtain⟨rfl,rfl,h⟩:=h;exact⟨rfl,by simpa[AObj.len,imR] using Qya h,rfl⟩)
  |(obtain⟨rfl,rfl⟩:=h;exact⟨rfl,rfl,rfl⟩)
theorem mtE_obj{S S':Env}{π:List (Nat×Option Nat)}(hok:S'.ok=S.ok)(hhp:S'.hp=S.hp)(hρ: ∀n m,pm π n=some m->S'.ρ n=S.ρ m)(hρ0: ∀n,pm π n=none->S'.ρ n=none)
 (hh: ∀n m,pm π n=some m-> ∀e',S'.h n=some e'-> ∃e,S.h m=some e/\e.2.esz=e'.2.esz/\e.2.len=e'.2.len){l:Option Loc}{e' e:AObj}(h:mtE π e' e)(ho:objc S l e):objc S' l e':=by
 have hp:Pres (fun _=>False) S S':=⟨fun b hb=>⟨by rw[hok];exact hb,by rw[hhp]⟩,fun o h=>h.elim⟩;cases e' with
 |cells T cs=>
  cases e<;>simp only[mtE] at h;obtain⟨rfl,h⟩:=h;simp only[objc] at ho⊢;obtain⟨lc,vs,h1,h2,h3,h4⟩:=ho;exact⟨lc,vs,h1,h2,by rw[hhp];exact h3,Qts hok hhp hρ hρ0 hh _ _ _ h h4⟩
 |arrA T k rows=>
  have hR: ∀(rs' rs:List (List AV)) (vs:List Value),mtR π rs' rs->Qbb S k rs vs->Qbb S' k rs' vs:=by
   intro rs';induction rs' with
   |nil=>intro rs vs _ _;simp only[Qbb]
   |cons x r ih=>
    intro rs vs h hc;cases rs with
    |nil=>exact h.elim
    |cons y s=>
     simp only[Qbb] at hc⊢;have hP: ∀(xs ys:List AV) (vs:List Value),mtL π xs ys->Qbv S ys vs->Qbv S' xs vs:=by
      intro xs;induction xs with
      |nil=>intro ys vs _ _;simp only[Qbv]
      |cons a l ih2=>
       intro ys vs h hc;cases ys with
       |nil=>simp only[mtL] at h
       |cons b t=>
        simp only[mtL] at h;simp only[Qbv] at hc⊢;obtain⟨v,w,rfl,h1,h2⟩:=hc;exact⟨v,w,rfl,Qyf hok hhp hρ hρ0 hh a b v h.1 h1,ih2 t w h.2 h2⟩
     exact⟨by rw[<-hc.1];exact (mtL_len h.1).symm,hP _ _ _ h.1 hc.2.1,ih s _ h.2 hc.2.2⟩
  have main: ∀(rows':List (List AV)),mtR π rows rows'->objc S l (.arrA T k rows')->objc S' l (.arrA T k rows):=by
   intro rows' h ho;simp only[objc] at ho⊢;rw[<-Qya h];refine⟨ho.1,?_⟩;cases l with
   |none=>
    have h2:=ho.2;simp only at h2;subst h2;cases rows with
    |nil=>rfl
    |cons x r=>exact h.elim
   |some lc=>
    obtain⟨h0,h1,vs,h2,h3,h4⟩:=ho;exact⟨h1,vs,by rw[hhp];exact h2,h3,hR _ _ _ h h4⟩
  cases e<;>simp only[mtE] at h
  case arrA U k' rows'=>
   obtain⟨rfl,rfl,h⟩:=h;exact main rows' h ho
  case arr U k' rows'=>
   obtain⟨rfl,rfl,h⟩:=h;refine main (imR rows') h ?_;simp only[objc] at ho⊢;rw[show (imR rows').length=rows'.length by simp[imR]];refine⟨ho.1,?_⟩;cases l with
   |none=>have h2:=ho.2;simp only at h2;subst h2;rfl
   |some lc=>
    obtain⟨h0,h1,vs,h2,h3,h4⟩:=ho;exact⟨h1,vs,h2,h3,Qgt _ _ h4⟩
 |arr T k rows=>
  simp only[mtE] at h;subst h;exact Qbr hp (fun lc _=>by rw[hhp]) _ (by simp[AObj.nms]) ho
 |map kt es=>
  simp only[mtE] at h;subst h;exact Qbr hp (fun lc _=>by rw[hhp]) _ (by simp[AObj.nms]) ho
 |chan q c=>
  simp only[mtE] at h;subst h;exact Qbr hp (fun lc _=>by rw[hhp]) _ (by simp[AObj.nms]) ho
 |iter q0 q=>
  simp only[mtE] at h;subst h;exact Qbr hp (fun lc _=>by rw[hhp]) _ (by simp[AObj.nms]) ho
 |view q=>
  simp only[mtE] at h;subst h;exact Qbr hp (fun lc _=>by rw[hhp]) _ (by simp[AObj.nms]) ho
theorem Qaa2{π:List (Nat×Option Nat)}: ∀(H:Qan),nodS (imP π H)=true-> ∀n n' e e' m,hget H n=some e->hget H n'=some e'->pm π n=some m->pm π n'=some m->n=n'
 |[],_,n,n',e,e',m,h,_,_,_=>by simp[hget] at h
 |(q,x)::H,hn,n,n',e,e',m,h,h',hp,hp'=>by
  have hmem: ∀n e,hget H n=some e-> ∀m,pm π n=some m->some m∈imP π H:=by
   intro n e;clear hn h h' hp hp';induction H with
   |nil=>intro h;simp[hget] at h
   |cons y H ih=>
    obtain⟨q',z⟩:=y;intro h m hm;simp only[hget] at h;simp only[imP,Zaw];cases hq:q'==n<;>rw[hq] at h
    .exact .inr (ih (by simpa using h) m hm)
    .have:q'=n:=by simpa using hq
     subst this;exact .inl hm.symm
  have hrest:nodS (imP π H)=true:=by
   simp only[imP] at hn;cases hq:pm π q<;>rw[hq] at hn<;>simp only[nodS,Zah] at hn
   .exact hn
   .exact hn.2
  simp only[hget] at h h';by_cases hqn:q=n<;>by_cases hqn':q=n'
  .rw[<-hqn,<-hqn']
  .subst hqn
   have:(q==n')=false:=by simpa using hqn'
   rw[this] at h';have hm:=hmem n' e' (by simpa using h') m hp';simp only[imP,hp,nodS,Zah,ZbZ] at hn
   have:=hn.1
   rw[Zbq.2 hm] at this;cases this
  .subst hqn'
   have:(q==n)=false:=by simpa using hqn
   rw[this] at h;have hm:=hmem n e (by simpa using h) m hp;simp only[imP,hp',nodS,Zah,ZbZ] at hn
   have:=hn.1
   rw[Zbq.2 hm] at this;cases this
  .have h1:(q==n)=false:=by simpa using hqn
   have h2:(q==n')=false:=by simpa using hqn'
   rw[h1] at h;rw[h2] at h';exact Qaa2 H hrest n n' e e' m (by simpa using h) (by simpa using h') hp hp'
theorem Qll{π:List (Nat×Option Nat)}{s:Qad}: ∀(H:Qan),Qgb π s H-> ∀n e',hget H n=some e'->entN s π e'.1 e'.2 (pm π n)
 |[],_,n,e',h=>by simp[hget] at h
 |(q,(mu,x))::H,hs,n,e',h=>by
  simp only[Qgb] at hs;simp only[hget] at h;cases hq:q==n<;>rw[hq] at h
  .exact Qll H hs.2 n e' (by simpa using h)
  .have:q=n:=by simpa using hq
   subst this;simp only[Zbf,Zae] at h;subst h;exact hs.1
theorem Qqi{π:List (Nat×Option Nat)}{s:Qad}: ∀(T:List (Nat×AV)),Qpt π s T-> ∀t,tget T t= .any\/mt π (tget T t) (tget s.tm t)
 |[],_,t=> .inl rfl
 |(q,x)::T,hs,t=>by
  simp only[Qpt] at hs;simp only[tget];cases hq:q==t
  .simpa using Qqi T hs.2 t
  .have:q=t:=by simpa using hq
   subst this;exact .inr (by simpa using hs.1)
theorem Qdx{C:Ctx}{N lo:Nat}{π:List (Nat×Option Nat)}{s s':Qad}{a:Act}{w:World}(hc:Con C N s a w)(hs:subP lo π s s')(hg:s'.good=true)(hlo:C.n0<=lo)(hn0:C.n0<=s'.nx):Con C N s' a w:=by
 obtain⟨S,rfl,hc⟩:=hc;obtain⟨hge,hnod,hT,hH⟩:=hs;simp only[Qad.good,Zah] at hg;obtain⟨hg1,hg2,hg3⟩:=hg
 let S':Env:=⟨fun n=>match pm π n with
  |some m=>S.ρ m
  |none=>none,S.ok,hget s'.h,S.w⟩
 have hρ: ∀n m,pm π n=some m->S'.ρ n=S.ρ m:=by intro n m h;simp only[S',h]
 have hρ0: ∀n,pm π n=none->S'.ρ n=none:=by intro n h;simp only[S',h]
 have hent: ∀n m,pm π n=some m-> ∀e',S'.h n=some e'-> ∃e,S.h m=some e/\e.1=e'.1/\mtE π e'.2 e.2:=by
  intro n m hp e' he';have h1:=Qll _ hH n e' he';rw[hp] at h1;simp only[entN] at h1;cases hx:hget s.h m with
  |none=>rw[hx] at h1;exact h1.elim
  |some e=>
   obtain⟨mu,e⟩:=e;rw[hx] at h1;exact⟨(mu,e),(hc.h m).trans hx,h1.1,h1.2⟩
 have hh: ∀n m,pm π n=some m-> ∀e',S'.h n=some e'-> ∃e,S.h m=some e/\e.2.esz=e'.2.esz/\e.2.len=e'.2.len:=by
  intro n m hp e' he';obtain⟨e,h1,_,h2⟩:=hent n m hp e' he';obtain⟨h3,h4,_⟩:=Qxn h2;exact⟨e,h1,h3,h4⟩
 have hW:=hc.wf;refine⟨S',rfl,⟨hW.os,hW.tape,hW.output,hW.size,hW.keep,hW.ok0,hW.ok1,hW.oks,?_,?_,?_,hW.gl⟩,fun n=>rfl,?_,Qif _ hg1,?_,hc.size,hc.defers,hn0,?_⟩
 .intro n e' he';cases hp:pm π n with
  |some m=>
   obtain⟨e,h1,_,h2⟩:=hent n m hp e' he';rw[hρ n m hp];exact mtE_obj (S:=S) (S':=S') rfl rfl hρ hρ0 hh h2 (hW.obj m e h1)
  |none=>
   have h1:=Qll _ hH n e' he';rw[hp] at h1;simp only[entN] at h1;rw[hρ0 n hp];obtain⟨mu,e'⟩:=e';unfold nilE at h1;split at h1
   .rename_i heq1 heq2;simp only at heq2;subst heq2;simp[objc]
   .rename_i heq1 heq2;simp only at heq2;subst heq2;simp[objc]
   .exact h1.elim
 .intro n e' l he' hl;cases hp:pm π n with
  |none=>rw[hρ0 n hp] at hl;cases hl
  |some m=>
   obtain⟨e,h1,h2,h3⟩:=hent n m hp e' he';rw[hρ n m hp] at hl
   have:=hW.loc m e l h1 hl
   rw[<-h2,<-(Qxn h3).2.2];exact this
 .intro n n' e e' l l' he he' hl hl' hb hfl;cases hp:pm π n with
  |none=>rw[hρ0 n hp] at hl;cases hl
  |some m=>
   cases hp':pm π n' with
   |none=>rw[hρ0 n' hp'] at hl';cases hl'
   |some m'=>
    obtain⟨x,h1,h2,h3⟩:=hent n m hp e he;obtain⟨x',h1',h2',h3'⟩:=hent n' m' hp' e' he';rw[hρ n m hp] at hl;rw[hρ n' m' hp'] at hl'
    have:=hW.inj m m' x x' l l' h1 h1' hl hl' hb (by rw[h2,h2'];exact hfl)
    subst this;exact Qaa2 _ hnod n n' e e' m he he' hp hp'
 .intro t;rcases Qqi _ hT t with h|h
  .rw[h];simp only[conc]
  .exact Qyf (S:=S) (S':=S') rfl rfl hρ hρ0 hh _ _ _ h (hc.tm t)
 .intro n e he;exact⟨Qhv _ hg3 n e he,Qhn _ hg2 n e he⟩
 .intro o ho e' he';have hp:=pm_ge π hge o (by omega);obtain⟨e,h1,_,h2⟩:=hent o o hp e' he';obtain⟨e0,g1,g2,g3,g4⟩:=hc.pre o ho e h1;obtain⟨h3,h4,_⟩:=Qxn h2;exact⟨e0,g1,(hρ o o hp).trans g2,h3.symm.trans g3,h4.symm.trans g4⟩
theorem Qkl(F:List Nat): ∀(H:Qan) (n:Nat),hget (frzH F H) n=(hget H n).map fun e=>(e.1 && !F.contains n,e.2)
 |[],n=>rfl
 |(q,(mu,e))::H,n=>by
  simp only[frzH,hget];cases hq:q==n
  .simpa using Qkl F H n
  .have:q=n:=by simpa using hq
   subst this;rfl
theorem Qxl{C:Ctx}{N:Nat}(F:List Nat){s:Qad}{a:Act}{w:World}(hc:Con C N s a w):Con C N (frzS F s) a w:=by
 obtain⟨S,rfl,hc⟩:=hc;have hp:=Qb0 S (fun n=> !F.contains n);refine⟨S.ice (fun n=> !F.contains n),rfl,Qje hc.wf,fun n=> ?_,fun t=>Qbt hp _ _ (fun _ _=>trivial) (hc.tm t),hc.nmT,?_,hc.size,hc.defers,hc.n0,?_⟩
 .show (S.h n).map _=hget (frzH F s.h) n;rw[Qkl,hc.h n]
 .intro n e he;have he:hget (frzH F s.h) n=some e:=he;rw[Qkl] at he;simp only[Zay] at he;obtain⟨x,hx,rfl⟩:=he;exact hc.nmH n x hx
 .intro o ho e' he';obtain⟨e,h1,rfl⟩:=Qec he';exact hc.pre o ho e h1
mutual
theorem fzA_nms(F:List Nat)(H:Qan): ∀(x:AV),∀m∈(x.fzA F H).nms,m∈x.nms
 | .own n,m,hm=>by
   simp only[AV.fzA] at hm;cases hF:F.contains n<;>rw[hF] at hm
   .simpa using hm
   .simp only[Zbf] at hm;cases hh:hget H n with
    |none=>rw[hh] at hm;simpa[ownD] using hm
    |some e=>
     obtain⟨mu,e⟩:=e;rw[hh] at hm;cases e<;>simp only[ownD,objD] at hm<;>first|exact hm|(simp[AV.nms] at hm)
 | .agg cs,m,hm=>by
   simp only[AV.fzA,AV.nms] at hm⊢;exact Qng F H cs m hm
 | .any,m,hm=>by simpa only[AV.fzA] using hm
 | .im d,m,hm=>by simpa only[AV.fzA] using hm
 | .tup cs,m,hm=>by simpa only[AV.fzA] using hm
 | .ptr o p,m,hm=>by simpa only[AV.fzA] using hm
 | .eptr o i p,m,hm=>by simpa only[AV.fzA] using hm
 | .mp o,m,hm=>by simpa only[AV.fzA] using hm
 | .ch o,m,hm=>by simpa only[AV.fzA] using hm
 | .it o,m,hm=>by simpa only[AV.fzA] using hm
 | .osl o a n,m,hm=>by simpa only[AV.fzA] using hm
 | .clo f a c,m,hm=>by simpa only[AV.fzA] using hm
theorem Qng(F:List Nat)(H:Qan): ∀(xs:List AV),∀m∈nmsL (fzAL F H xs),m∈nmsL xs
 |[],m,hm=>by simpa[fzAL] using hm
 |x::r,m,hm=>by
  simp only[fzAL,nmsL,Zan] at hm⊢;exact hm.imp (fzA_nms F H x m) (Qng F H r m)
end
theorem Qaaf(F:List Nat)(H:Qan): ∀(xs:List (List AV)),∀m∈nmsR (fzAR F H xs),m∈nmsR xs
 |[],m,hm=>by simpa[fzAR] using hm
 |x::r,m,hm=>by
  simp only[fzAR,nmsR,Zan] at hm⊢;exact hm.imp (Qng F H x m) (Qaaf F H r m)
theorem fzAO_nms(F:List Nat)(H:Qan)(e:AObj): ∀m∈(e.fzA F H).nms,m∈e.nms:=by
 intro m hm;cases e<;>simp only[AObj.fzA,AObj.nms] at hm⊢ <;>try exact hm
 .exact Qng F H _ m hm
 .exact Qaaf F H _ m hm
theorem Qrp(F:List Nat)(H:Qan): ∀(xs:List (List AV)),(fzAR F H xs).length=xs.length
 |[]=>rfl
 |x::r=>by simp only[fzAR,ZaE,Qrp F H r]
theorem Qzt(F:List Nat)(H:Qan): ∀(xs:List AV),(fzAL F H xs).length=xs.length
 |[]=>rfl
 |x::r=>by simp only[fzAL,ZaE,Qzt F H r]
theorem Qtj(F:List Nat)(H:Qan)(e:AObj):(e.fzA F H).esz=e.esz/\(e.fzA F H).len=e.len/\(e.fzA F H).isView=e.isView:=by
 cases e<;>simp[AObj.fzA,AObj.esz,AObj.len,AObj.isView,Qrp]
theorem Qrq(F:List Nat)(H:Qan): ∀(T:List (Nat×AV)) (t:Nat),tget (fzAT F H T) t=(tget T t).fzA F H
 |[],t=>by simp only[fzAT,tget,AV.fzA]
 |(q,x)::T,t=>by
  simp only[fzAT,tget];cases hq:q==t
  .simpa using Qrq F H T t
  .rfl
theorem Qss(F:List Nat)(H0:Qan): ∀(H:Qan) (n:Nat),hget (fzAH F H0 H) n=(hget H n).map fun e=>(e.1 && !F.contains n,e.2.fzA F H0)
 |[],n=>rfl
 |(q,(mu,e))::H,n=>by
  simp only[fzAH,hget];cases hq:q==n
  .simpa using Qss F H0 H n
  .have:q=n:=by simpa using hq
   subst this;rfl
section
variable {C:Ctx}{S:Env}{F:List Nat}{H:Qan}(hW:Wf C S)(hH: ∀n e,F.contains n=true->hget H n=some e->S.h n=some (false,e.2))
include hW hH
theorem ownD_conc{n:Nat}{v:Value}(hF:F.contains n=true)(h:conc S (.own n) v):conc S (ownD n (hget H n)) v:=by
 cases hh:hget H n with
 |none=>exact h
 |some e=>
  have hin:=hH n e hF hh;obtain⟨mu,e⟩:=e;cases e<;>simp only[ownD,objD]<;>try exact h
  rename_i U w rows;simp only[conc] at h⊢;have h2:=h.2 _ hin;have hob:=hW.obj n _ hin;have hlc:=fun l=>hW.loc n _ l hin
  simp only[objc] at hob;simp only[rd];cases hl:S.ρ n with
  |none=>
   rw[hl] at h2 hob;exact .inl ⟨.inl h2,hob.2⟩
  |some l=>
   rw[hl] at h2 hob;have hok:=(hlc l hl).2;simp only[AObj.isView,ZaB,ZdQ,Zby] at hok;obtain⟨g0,g1,vs,g2,g3,g4⟩:=hob;exact .inr ⟨l.b,l.p,l.cap,vs,U,(0,0),h2,by simp,g1,g0,hok,g2,g4⟩
mutual
theorem Qte: ∀(x:AV) (v:Value),conc S x v->conc S (x.fzA F H) v
 | .own n,v,h=>by
   simp only[AV.fzA];cases hF:F.contains n
   .exact h
   .exact ownD_conc hW hH hF h
 | .agg cs,v,h=>by
   simp only[AV.fzA,conc] at h⊢;obtain⟨vs,rfl,h⟩:=h;exact⟨vs,rfl,Qom _ _ h⟩
 | .any,v,h=>by simpa only[AV.fzA] using h
 | .im d,v,h=>by simpa only[AV.fzA] using h
 | .tup cs,v,h=>by simpa only[AV.fzA] using h
 | .ptr o p,v,h=>by simpa only[AV.fzA] using h
 | .eptr o i p,v,h=>by simpa only[AV.fzA] using h
 | .mp o,v,h=>by simpa only[AV.fzA] using h
 | .ch o,v,h=>by simpa only[AV.fzA] using h
 | .it o,v,h=>by simpa only[AV.fzA] using h
 | .osl o a n,v,h=>by simpa only[AV.fzA] using h
 | .clo f a c,v,h=>by simpa only[AV.fzA] using h
theorem Qom: ∀(xs:List AV) (vs:List Value),Qa0 S xs vs->Qa0 S (fzAL F H xs) vs
 |[],_,h=>by simpa only[fzAL] using h
 |x::l,vs,h=>by
  simp only[fzAL,Qa0] at h⊢;obtain⟨v,r,rfl,h3,h4⟩:=h;exact⟨v,r,rfl,Qte x v h3,Qom l r h4⟩
end
theorem Quw: ∀(xs:List AV) (vs:List Value),Qbv S xs vs->Qbv S (fzAL F H xs) vs
 |[],_,h=>by simp only[fzAL,Qbv]
 |x::l,vs,h=>by
  simp only[fzAL,Qbv] at h⊢;obtain⟨v,r,rfl,h3,h4⟩:=h;exact⟨v,r,rfl,Qte hW hH x v h3,Quw l r h4⟩
theorem Qu9(k:Nat): ∀(xs:List (List AV)) (vs:List Value),Qbb S k xs vs->Qbb S k (fzAR F H xs) vs
 |[],_,h=>by simp only[fzAR,Qbb]
 |x::l,vs,h=>by
  simp only[fzAR,Qbb] at h⊢;exact⟨by rw[Qzt];exact h.1,Quw hW hH x vs h.2.1,Qu9 k l _ h.2.2⟩
theorem fzAO_conc{l:Option Loc}(e:AObj)(h:objc S l e):objc S l (e.fzA F H):=by
 cases e<;>simp only[AObj.fzA]<;>try exact h
 .simp only[objc] at h⊢;obtain⟨lc,vs,h1,h2,h3,h4⟩:=h;exact⟨lc,vs,h1,h2,h3,Qom hW hH _ _ h4⟩
 .rename_i T k rows;simp only[objc,Qrp] at h⊢;refine⟨h.1,?_⟩;cases l with
  |none=>
   have h2:=h.2;simp only at h2;subst h2;rfl
  |some lc=>
   obtain⟨h0,h1,vs,h2,h3,h4⟩:=h;exact⟨h1,vs,h2,h3,Qu9 hW hH k _ _ h4⟩
end
theorem Qox{C:Ctx}{N:Nat}(F:List Nat){s:Qad}{a:Act}{w:World}(hc:Con C N s a w):Con C N (fzAS F s) a w:=by
 obtain⟨S,rfl,hcc⟩:=Qxl F hc;clear hc;have hc:=hcc;clear hcc
 let S':Env:=⟨S.ρ,S.ok,hget (fzAH F s.h s.h),S.w⟩
 have hget1: ∀n,S.h n=(hget s.h n).map fun e=>(e.1 && !F.contains n,e.2):=by
  intro n;rw[hc.h n];exact Qkl F s.h n
 have hH: ∀n e,F.contains n=true->hget s.h n=some e->S.h n=some (false,e.2):=by
  intro n e hF he;rw[hget1,he];simp only[ZaO,hF,ZdM,ZdA]
 have hent: ∀n e',S'.h n=some e'-> ∃e,S.h n=some e/\e'.1=e.1/\e'.2=e.2.fzA F s.h:=by
  intro n e' he';have he':hget (fzAH F s.h s.h) n=some e':=he';rw[Qss] at he';simp only[Zay] at he';obtain⟨x,hx,rfl⟩:=he';exact⟨(x.1 && !F.contains n,x.2),by rw[hget1,hx];rfl,rfl,rfl⟩
 have hp:Pres (fun _=>True) S S':=⟨fun b hb=>⟨hb,rfl⟩,fun o _ e' he'=>by
  obtain⟨e,h1,h2,h3⟩:=hent o e' he';obtain⟨g1,g2,_⟩:=Qtj F s.h e.2;exact⟨e,h1,rfl,by rw[h3];exact g1,by rw[h3];exact g2⟩⟩
 have hW:=hc.wf;refine⟨S',rfl,⟨hW.os,hW.tape,hW.output,hW.size,hW.keep,hW.ok0,hW.ok1,hW.oks,?_,?_,?_,hW.gl⟩,fun n=>rfl,?_,?_,?_,hc.size,hc.defers,hc.n0,?_⟩
 .intro o e' he';obtain⟨e,h1,h2,h3⟩:=hent o e' he';rw[h3];exact Qbr hp (fun lc _=>rfl) _ (fun _ _=>trivial) (fzAO_conc hW hH e.2 (hW.obj o e h1))
 .intro o e' l he' hl;obtain⟨e,h1,h2,h3⟩:=hent o e' he'
  have:=hW.loc o e l h1 hl
  rw[h2,h3,(Qtj F s.h e.2).2.2];exact this
 .intro o o' e e' l l' he he' hl hl' hb hfl;obtain⟨x,h1,h2,h3⟩:=hent o e he;obtain⟨x',h1',h2',h3'⟩:=hent o' e' he';exact hW.inj o o' x x' l l' h1 h1' hl hl' hb (by rw[<-h2,<-h2'];exact hfl)
 .intro t;show conc S' (tget (fzAT F s.h s.tm) t) _;rw[Qrq];exact Qbt hp _ _ (fun _ _=>trivial) (Qte hW hH _ _ (hc.tm t))
 .intro t m hm;have hm:m∈(tget (fzAT F s.h s.tm) t).nms:=hm;rw[Qrq] at hm;exact hc.nmT t m (fzA_nms F s.h _ m hm)
 .intro n e he;have he:hget (fzAH F s.h s.h) n=some e:=he;rw[Qss] at he;simp only[Zay] at he;obtain⟨x,hx,rfl⟩:=he;have h1:hget (frzS F s).h n=some (x.1 && !F.contains n,x.2):=by
   show hget (frzH F s.h) n=_;rw[Qkl,hx];rfl
  obtain⟨g1,g2⟩:=hc.nmH n _ h1;exact⟨g1,fun m hm=>g2 m (fzAO_nms F s.h x.2 m hm)⟩
 .intro o ho e' he';obtain⟨e,h1,h2,h3⟩:=hent o e' he';obtain⟨e0,g1,g2,g3,g4⟩:=hc.pre o ho e h1;obtain⟨q1,q2,_⟩:=Qtj F s.h e.2;exact⟨e0,g1,g2,by rw[h3,q1];exact g3,by rw[h3,q2];exact g4⟩
theorem Qabk{p:Nat->Prop}: ∀n,p n-> ∃m,p m/\ ∀k,k<m-> ¬p k:=by
 intro n;induction n using Nat.strongRecOn with
 |_ n ih=>
  intro hn;by_cases h: ∃k,k<n/\p k
  .obtain⟨k,hk,hpk⟩:=h;exact ih k hk hpk
  .exact⟨n,hn,fun k hk hpk=>h ⟨k,hk,hpk⟩⟩
section
variable {P:Program}{V:Qbh}{C:Ctx}{N:Nat}
theorem Qfx{x:Qbl}{Q:Qbl}{next:Act->World->Prop}(h1: ∀s a w,x .normal s->Con C N s a w->next a w)(h2: ∀i s,x (.exit i) s->Q (.exit i) s)(h3: ∀s,x .ret s->Q .ret s):
 ∀e a w,toQ C N x e a w->Exit.then next (toQ C N Q) e a w:=by
 intro e a w h;cases e<;>simp only[toQ] at h<;>simp only[Exit.then,toQ]
 .obtain⟨s,hs,hc⟩:=h;exact h1 s a w hs hc
 .obtain⟨s,hs,hc⟩:=h;exact⟨s,h2 _ s hs,hc⟩
 .obtain⟨s,hs,hc⟩:=h;exact⟨s,h3 s hs,hc⟩
theorem Qo4(HM:P.follows .mixedOrders=true)(HV:Qd1 P V): ∀(c:Code),chk N c=true-> ∀(Q:Qbl) (s:Qad) (a:Act) (w:World),awp P V c Q s->Con C N s a w->c.wp P (toQ C N Q) a w:=by
 intro c;induction c with
 |skip=>intro _ Q s a w h hc;exact wp_skip ⟨s,h,hc⟩
 |region id ops draw=>
  intro hk Q s a w h hc;simp only[chk,Zah] at hk;cases draw with
  |true=>exact Qtk HM HV (fun s a w h1 h2=>⟨s,h1,h2⟩) hk.1 (by simpa using hk.2) h hc
  |false=>exact Qt0 HV (fun s a w h1 h2=>⟨s,h1,h2⟩) hk.1 h hc
 |seq x y ihx ihy=>
  intro hk Q s a w h hc;simp only[chk,Zah] at hk;simp only[awp] at h;refine wp_seq (wp_mono (ihx hk.1 _ s a w h hc) (Qfx ?_ ?_ ?_))
  .intro s a w hs hc;exact ihy hk.2 Q s a w hs hc
  .intro i s hs;exact hs
  .intro s hs;exact hs
 |cond c x y ihx ihy=>
  intro hk Q s a w h hc;simp only[chk,Zah] at hk;simp only[awp] at h;obtain⟨S,hSw,hcE⟩:=hc;have h1:=Qdn hcE c;cases hv:evO s.tm c<;>rw[hv] at h<;>try exact h.elim
  rename_i d;cases d<;>try exact h.elim
  rename_i b;rw[hv] at h1;simp only[conc,rd] at h1;simp only[Quv] at h;refine wp_cond_split h1 (fun hb=>ihx hk.1 Q s a w (h.1 hb) ⟨S,hSw,hcE⟩) (fun hb=>ihy hk.2 Q s a w (h.2 hb) ⟨S,hSw,hcE⟩)
 |block id c ih=>
  intro hk Q s a w h hc;simp only[awp] at h;refine wp_block (wp_mono (ih hk _ s a w h hc) ?_);intro e a w he;cases e<;>simp only[toQ] at he<;>simp only[Exit.inBlock,toQ]
  .exact he
  .rename_i i;obtain⟨s,hs,hc⟩:=he;simp only[Qqo] at hs;by_cases hi:i=id
   .subst hi;rw[Zao rfl];exact⟨s,by simpa[exitQ] using hs,hc⟩
   .rw[Zaj hi]
    have:(i==id)=false:=by simpa using hi
    rw[this] at hs;exact⟨s,hs,hc⟩
  .exact he
 |loop c ih=>
  intro hk Q s a w h hc;have main0: ∀(s:Qad),Qin (awp P V c) Q s->Con C N s a w->(Code.loop c).wp P (toQ C N Q) a w:=by
   clear h hc;intro s h hc;simp only[Qin] at h;obtain⟨β,I,μ,hgood,⟨b0,hb0⟩,hbody⟩:=h
   let p:Act->World->Nat->Prop:=fun a w n=> ∃b,Con C N (I b) a w/\μ b=n
   let μ':Act->World->Nat:=fun a w=>Classical.epsilon fun n=>p a w n/\ ∀k,k<n-> ¬p a w k
   have hμ: ∀a w b,Con C N (I b) a w->p a w (μ' a w)/\ ∀k,k<μ' a w-> ¬p a w k:=by
    intro a w b hb;exact ZcF (p:=fun n=>p a w n/\ ∀k,k<n-> ¬p a w k) (Qabk (μ b) ⟨b,hb,rfl⟩)
   have hn0: ∀b,C.n0<=(I b).nx:=by
    intro b;obtain⟨S,_,h⟩:=hc;exact Zbd h.n0 (hgood b).2
   refine wp_loop (fun a w=> ∃b,Con C N (I b) a w) μ' ⟨b0,Qmb hc hb0 (hgood b0).1 (hn0 b0)⟩ ?_;rintro a w ⟨b,hb⟩;obtain⟨⟨b1,hb1,hm1⟩,_⟩:=hμ a w b hb;refine wp_mono (ih hk _ _ a w (hbody b1) hb1) (Qfx ?_ ?_ ?_)
   .rintro s' a' w' ⟨b',hlt,hsub⟩ hc';have hc2:=Qmb hc' hsub (hgood b').1 (hn0 b');refine⟨⟨b',hc2⟩,?_⟩;obtain⟨_,hmin⟩:=hμ a' w' b' hc2;rcases Zbp (μ b') (μ' a' w') with h1|h1
    .exact absurd ⟨b',hc2,rfl⟩ (hmin _ h1)
    .omega
   .intro i s hs;exact hs
   .intro s hs;exact hs
  simp only[awp,Qay] at h;rcases h with h|h|⟨F,h⟩|h
  .exact main0 s h hc
  .simp only[Qsi] at h;obtain⟨β,I,μ,hgood,⟨b0,π0,hb0⟩,hbody⟩:=h
   let p:Act->World->Nat->Prop:=fun a w n=> ∃b,Con C N (I b) a w/\μ b=n
   let μ':Act->World->Nat:=fun a w=>Classical.epsilon fun n=>p a w n/\ ∀k,k<n-> ¬p a w k
   have hμ: ∀a w b,Con C N (I b) a w->p a w (μ' a w)/\ ∀k,k<μ' a w-> ¬p a w k:=by
    intro a w b hb;exact ZcF (p:=fun n=>p a w n/\ ∀k,k<n-> ¬p a w k) (Qabk (μ b) ⟨b,hb,rfl⟩)
   have hlo:C.n0<=s.nx:=by
    obtain⟨S,_,h⟩:=hc;exact h.n0
   have hn0: ∀b,C.n0<=(I b).nx:=by
    intro b;obtain⟨S,_,h⟩:=hc;exact Zbd h.n0 (hgood b).2
   refine wp_loop (fun a w=> ∃b,Con C N (I b) a w) μ' ⟨b0,Qdx hc hb0 (hgood b0).1 hlo (hn0 b0)⟩ ?_;rintro a w ⟨b,hb⟩;obtain⟨⟨b1,hb1,hm1⟩,_⟩:=hμ a w b hb;refine wp_mono (ih hk _ _ a w (hbody b1) hb1) (Qfx ?_ ?_ ?_)
   .rintro s' a' w' ⟨b',π,hlt,hsub⟩ hc';have hc2:=Qdx hc' hsub (hgood b').1 hlo (hn0 b');refine⟨⟨b',hc2⟩,?_⟩;obtain⟨_,hmin⟩:=hμ a' w' b' hc2;rcases Zbp (μ b') (μ' a' w') with h1|h1
    .exact absurd ⟨b',hc2,rfl⟩ (hmin _ h1)
    .omega
   .intro i s hs;exact hs
   .intro s hs;exact hs
  .exact main0 _ h (Qxl F hc)
  .simp only[Qsf] at h;obtain⟨β,I,μ,hgood,⟨b0,F0,π0,hb0⟩,hbody⟩:=h
   let p:Act->World->Nat->Prop:=fun a w n=> ∃b,Con C N (I b) a w/\μ b=n
   let μ':Act->World->Nat:=fun a w=>Classical.epsilon fun n=>p a w n/\ ∀k,k<n-> ¬p a w k
   have hμ: ∀a w b,Con C N (I b) a w->p a w (μ' a w)/\ ∀k,k<μ' a w-> ¬p a w k:=by
    intro a w b hb;exact ZcF (p:=fun n=>p a w n/\ ∀k,k<n-> ¬p a w k) (Qabk (μ b) ⟨b,hb,rfl⟩)
   have hlo:C.n0<=s.nx:=by
    obtain⟨S,_,h⟩:=hc;exact h.n0
   have hn0: ∀b,C.n0<=(I b).nx:=by
    intro b;obtain⟨S,_,h⟩:=hc;exact Zbd h.n0 (hgood b).2
   refine wp_loop (fun a w=> ∃b,Con C N (I b) a w) μ' ⟨b0,Qdx (Qox F0 hc) hb0 (hgood b0).1 hlo (hn0 b0)⟩ ?_;rintro a w ⟨b,hb⟩;obtain⟨⟨b1,hb1,hm1⟩,_⟩:=hμ a w b hb;refine wp_mono (ih hk _ _ a w (hbody b1) hb1) (Qfx ?_ ?_ ?_)
   .rintro s' a' w' ⟨b',F,π,hlt,hsub⟩ hc';have hc2:=Qdx (Qox F hc') hsub (hgood b').1 hlo (hn0 b');refine⟨⟨b',hc2⟩,?_⟩;obtain⟨_,hmin⟩:=hμ a' w' b' hc2;rcases Zbp (μ b') (μ' a' w') with h1|h1
    .exact absurd ⟨b',hc2,rfl⟩ (hmin _ h1)
    .omega
   .intro i s hs;exact hs
   .intro s hs;exact hs
 |exit id=>intro _ Q s a w h hc;exact wp_exit ⟨s,h,hc⟩
 |ret=>intro _ Q s a w h hc;exact wp_ret ⟨s,h,hc⟩
 |_=>intro hk;simp[chk] at hk
end
def Qkt(P:Program)(g:FuncId):Prop:=g<1000000000/\ ∃fn,P.funcs[g]? =some fn/\(fn.name== "runtime.NumGoroutine")=false/\fn.body.isNone=false
def CallT(P:Program)(g:FuncId)(args:List AV)(h:Nat->Option Ent)(nx:Nat)(r:AV)(E:Eff):Prop:=
 ∀(C:Ctx) (S:Env) (vs:Array Value) (R:Ending->World->Prop),
  Wf C S->(∀n∈E.use++E.kill,S.h n=h n)->(∀n,Fr nx E.cnt n->S.h n=none)->
  (∀n e,S.h n=some e-> ∀m∈e.2.nms,¬Fr nx E.cnt m)->
  Qa0 S args vs.toList->
  (∀v S',Wf C S'->S'.h=E.appf S.h->Pres (fun m=> ¬Fr nx E.cnt m) S S'->conc S' r v->R (.returned v) S'.w)->
  Calls P g vs S.w R
def Qkj(P:Program)(V:Qbh):Prop:= ∀g args h nx K,V g args h nx K->Qkt P g/\ ∃r E,CallT P g args h nx r E/\K r E
theorem Qhx{P:Program}{g:FuncId}(h:Qkt P g)(args:Array Value)(w:World):(callFunc g args).run P w= .ok (.enter g args) w:=by
 obtain⟨_,fn,h1,h2,h3⟩:=h;have h2':fn.name≠ "runtime.NumGoroutine" :=by simpa using h2
 have h3':fn.body≠none:=by intro h;simp[h] at h3
 simp[callFunc,h1,h2',h3']
theorem Qpe{S:Env}{tm:List (Nat×AV)}{a:Act}: ∀(xs:List Operand),(∀x∈xs,conc S (evO tm x) (a.eval x))->Qa0 S (evL tm xs) (xs.map a.eval)
 |[],_=>by simp[evL,Qa0]
 |x::xs,h=>by
  simp only[evL,Zaq,Qa0];exact⟨_,_,rfl,h x (by simp),Qpe xs (fun y hy=>h y (by simp[hy]))⟩
theorem callOk1{P:Program}{V:Qbh}(hV:Qkj P V)(tm:List (Nat×AV))(h:Nat->Option Ent)(nx:Nat)(o:Oper)(c:Call)(f:Operand)(K:Kont)(ho:o.op= .call c)(hcal:c.callee= .value f)
 (hk:Qaar V (evL tm c.args.toList) h nx K (evO tm f)):Qbp P tm h nx o K:=by
 have hopf:f∈o.op.operands:=by rw[ho];simp[Op.operands,Call.operands,hcal]
 have hopa: ∀x∈c.args.toList,x∈o.op.operands:=by
  intro x hx;rw[ho];simp only[Op.operands,Call.operands,hcal];simp;exact .inr (by simpa using hx)
 have main: ∀(g:FuncId) (fi ca:List AV),V g (fi++evL tm c.args.toList++ca) h nx K->(∀(S:Env) (v:Value),conc S (evO tm f) v-> ∃a b:Array Value,v= .func (fnV g) a b/\Qa0 S fi a.toList/\Qa0 S ca b.toList)->Qbp P tm h nx o K:=by
  intro g fi ca hv hf;obtain⟨hcall,r,E,hT,hK⟩:=hV _ _ _ _ _ hv;refine⟨r,E,?_,hK⟩;intro C S a next Q hW hu hfr hnms hops hn
  obtain⟨x,y,hfv,hx,hy⟩:=hf S _ (hops f hopf);rw[Qoi hcall.1] at hfv;have hargs:=Qpe c.args.toList (fun x hx=>hops x (hopa x hx));unfold Oper.wp;have hrun:(execOp a.eval o).run P S.w= .ok (.enter g (x++c.args.map a.eval++y)) S.w:=by
   simp only[execOp,ho,resolve,hcal,hfv,Sem.run_bind];simp[Deferred.ofValue,invoke,Qhx hcall]
  rw[hrun,Oper.upon_enter];refine hT C S _ _ hW hu hfr hnms ?_ ?_
  .simp only[Zek,Zcw];exact Qop _ _ _ _ (Qop _ _ _ _ hx hargs) hy
  .intro v S' h1 h2 h3 h4;exact hn v S' h1 h2 h3 h4
 cases hf:evO tm f<;>rw[hf] at hk<;>try exact hk.elim
 case im d=>
  cases d<;>try exact hk.elim
  rename_i g first capt
  refine main g (first.map .im) (capt.map .im) hk ?_;intro S v hv;rw[hf] at hv;simp only[conc,rd] at hv;obtain⟨a,b,h1,h2,h3⟩:=hv;exact⟨a,b,h1,(Qa6 _ _).2 h2,(Qa6 _ _).2 h3⟩
 case clo g first capt=>
  refine main g first capt hk ?_
  intro S v hv;rw[hf] at hv;simpa only[conc] using hv
theorem meth_run{P:Program}{t:TypeId}{m:String}{f:FuncId}(h:Qak8 P t m=some f)(n:Nat)(v:Value)(w:World):(method (n+1) t v m).run P w= .ok (f,v) w:=by
 unfold Qak8 at h;split at h
 .cases h
 .rename_i u hne hu;unfold methT at h;split at h
  .rename_i i hi;split at h
   .rename_i mm hm;cases hp:mm.path.isEmpty with
    |false=>rw[hp] at h;cases h
    |true=>
     rw[hp,Zbf] at h;split at h
     .rename_i g hg;obtain rfl:=Zac h;have hpl:mm.path.toList=[]:=by simpa using hp
      have hti:(typeInfo t).run P w= .ok i w:=by simp[typeInfo,hi]
      have hun:(underlying t).run P w= .ok u w:=by simp[underlying,hu]
      have hra:(receiverAt t (.val v) false (if mm.path.isEmpty then some ((m.splitOn ".").getLastD m) else none)).run P w= .ok v w:=by
       unfold receiverAt;rw[Sem.run_bind,hun];cases u<;>first|rfl|exact (hne _ rfl).elim
      unfold method;simp only[Sem.run_bind,hti,Result.andThen_ok,hm,hpl,follow,Sem.run_pure,hg,hra]
     .cases h
   .cases h
  .cases h
 .cases h
theorem Qvp{P:Program}{V:Qbh}(hV:Qkj P V):Qd1 P V:=by
 refine⟨fun tm h nx o c f K ho hcal _ hk=>callOk1 hV tm h nx o c f K ho hcal hk,?_⟩;intro tm h nx o c rc m K ho hcal hnm hk;have hopr:rc∈o.op.operands:=by rw[ho];simp[Op.operands,Call.operands,hcal]
 have hopa: ∀x∈c.args.toList,x∈o.op.operands:=by
  intro x hx;rw[ho];simp only[Op.operands,Call.operands,hcal];simp;exact .inr (by simpa using hx)
 cases hr:evO tm rc<;>rw[hr] at hk<;>try exact hk.elim
 rename_i d;cases d<;>try exact hk.elim
 rename_i t d;simp only[stInv] at hk;cases hm:Qak8 P t m with
 |none=>rw[hm] at hk;exact hk.elim
 |some g=>
 rw[hm] at hk;simp only[Qalh] at hk;obtain⟨hcall,r,E,hT,hK⟩:=hV _ _ _ _ _ hk;refine⟨r,E,?_,hK⟩;intro C S a next Q hW hu hfr hnms hops hn
 have h1:=hops rc hopr;rw[hr] at h1;simp only[conc,rd] at h1;obtain⟨x,hx,hxd⟩:=h1;have hargs:=Qpe c.args.toList (fun x hx=>hops x (hopa x hx));unfold Oper.wp;have hrun:(execOp a.eval o).run P S.w= .ok (.enter g (#[x]++c.args.map a.eval)) S.w:=by
  simp only[execOp,ho,resolve,hcal,hx,Sem.run_bind];simp[invoke,callMethod];have e0:(#[Value.iface t x]++Array.map a.eval c.args)[0]? =some (.iface t x):=by rw[Zdw (by simp)];rfl
  obtain⟨n,hn1⟩: ∃n,P.types.size+Made.depth=n+1:=⟨P.types.size+99,by simp[Made.depth]⟩;have e1:(Array.map a.eval c.args).extract 0 c.args.size=Array.map a.eval c.args:=by
   have:=Zew (xs:=Array.map a.eval c.args)
   rwa [Array.size_map] at this
  rw[e0];simp only[Sem.run_bind,run_program,Result.andThen_ok,hn1,meth_run hm,e1];exact Qhx hcall _ _
 rw[hrun,Oper.upon_enter];refine hT C S _ _ hW hu hfr hnms ?_ ?_
 .simp only[Zek,Zcw];exact⟨x,_,rfl,hxd,hargs⟩
 .intro v S' h1 h2 h3 h4;exact hn v S' h1 h2 h3 h4
mutual
def AV.ren(σ:Nat->Nat):AV->AV
 | .any=> .any
 | .im d=> .im d
 | .agg cs=> .agg (renL σ cs)
 | .tup cs=> .tup (renL σ cs)
 | .ptr o p=> .ptr (σ o) p
 | .eptr o i p=> .eptr (σ o) i p
 | .own o=> .own (σ o)
 | .mp o=> .mp (σ o)
 | .ch o=> .ch (σ o)
 | .it o=> .it (σ o)
 | .osl o a n=> .osl (σ o) a n
 | .clo f a c=> .clo f (renL σ a) (renL σ c)
def renL(σ:Nat->Nat):List AV->List AV
 |[]=>[]
 |x::r=>x.ren σ::renL σ r
end
theorem Qze(σ:Nat->Nat): ∀(l:List AV),renL σ l=l.map (AV.ren σ)
 |[]=>rfl
 |x::r=>by simp only[renL,Zaq,Qze σ r]
def AObj.ren(σ:Nat->Nat):AObj->AObj
 | .cells T cs=> .cells T (renL σ cs)
 | .arr T k rows=> .arr T k rows
 | .arrA T k rows=> .arrA T k (rows.map (renL σ))
 | .map kt es=> .map kt es
 | .chan q cap=> .chan q cap
 | .iter a l=> .iter a l
 | .view cs=> .view cs
theorem Qr6(σ:Nat->Nat)(e:AObj):(e.ren σ).esz=e.esz:=by cases e<;>rfl
theorem Qs6(σ:Nat->Nat)(e:AObj):(e.ren σ).len=e.len:=by cases e<;>simp[AObj.ren,AObj.len]
section
variable {S S':Env}{σ τ:Nat->Nat}
structure RenP(S S':Env)(σ τ:Nat->Nat)(n:Nat):Prop where
 a: ∀e',S'.h (τ n)=some e'-> ∃e,S.h (σ n)=some e/\S'.ρ (τ n)=S.ρ (σ n)/\e'.2.esz=e.2.esz/\e'.2.len=e.2.len
mutual
theorem Qz8(hok: ∀b,S.ok b->S'.ok b/\S'.hp b=S.hp b): ∀(z:AV) (v:Value),(∀n∈z.nms,RenP S S' σ τ n)->conc S (z.ren σ) v->conc S' (z.ren τ) v
 | .any,_,_,_=>by simp only[AV.ren,conc]
 | .im d,v,_,h=>by
   simp only[AV.ren,conc] at h⊢;exact Qb8 hok d v h
 | .agg cs,v,hx,h=>by
   simp only[AV.ren,conc,AV.nms] at h hx⊢;obtain⟨vs,rfl,h1⟩:=h;exact⟨vs,rfl,Qfd hok cs _ hx h1⟩
 | .tup cs,v,hx,h=>by
   simp only[AV.ren,conc,AV.nms] at h hx⊢;obtain⟨vs,rfl,h1⟩:=h;exact⟨vs,rfl,Qfd hok cs _ hx h1⟩
 | .ptr o off,v,hx,h=>by
   simp only[AV.ren,conc,AV.nms,Zal,Zdl] at h hx⊢;obtain⟨hone,h⟩:=h;refine⟨hone,?_⟩;intro e' he';obtain⟨e,he,hr,_,_⟩:=hx.a e' he';rw[hr];exact h e he
 | .eptr o i off,v,hx,h=>by
   simp only[AV.ren,conc,AV.nms,Zal,Zdl] at h hx⊢;obtain⟨hone,h⟩:=h;refine⟨hone,?_⟩;intro e' he';obtain⟨e,he,hr,hz,_⟩:=hx.a e' he';rw[hr,hz];exact h e he
 | .own o,v,hx,h=>by
   simp only[AV.ren,conc,AV.nms,Zal,Zdl] at h hx⊢;obtain⟨hone,h⟩:=h;refine⟨hone,?_⟩;intro e' he';obtain⟨e,he,hr,_,hl⟩:=hx.a e' he';rw[hr,hl];exact h e he
 | .mp o,v,hx,h=>by
   simp only[AV.ren,conc,AV.nms,Zal,Zdl] at h hx⊢;obtain⟨hone,h⟩:=h;refine⟨hone,?_⟩;intro e' he';obtain⟨e,he,hr,_,_⟩:=hx.a e' he';rw[hr];exact h e he
 | .ch o,v,hx,h=>by
   simp only[AV.ren,conc,AV.nms,Zal,Zdl] at h hx⊢;obtain⟨hone,h⟩:=h;refine⟨hone,?_⟩;intro e' he';obtain⟨e,he,hr,_,_⟩:=hx.a e' he';rw[hr];exact h e he
 | .it o,v,hx,h=>by
   simp only[AV.ren,conc,AV.nms,Zal,Zdl] at h hx⊢;obtain⟨hone,h⟩:=h;refine⟨hone,?_⟩;intro e' he';obtain⟨e,he,hr,_,_⟩:=hx.a e' he';rw[hr];exact h e he
 | .osl o a n,v,hx,h=>by
   simp only[AV.ren,conc,AV.nms,Zal,Zdl] at h hx⊢;obtain⟨hone,h⟩:=h;refine⟨hone,?_⟩;intro e' he';obtain⟨e,he,hr,hz,hl⟩:=hx.a e' he';rw[hr,hz,hl];exact h e he
 | .clo f fi ca,v,hx,h=>by
   simp only[AV.ren,conc,AV.nms,Zan] at h hx⊢;obtain⟨a,c,rfl,h1,h2⟩:=h;exact⟨a,c,rfl,Qfd hok fi _ (fun o ho=>hx o (.inl ho)) h1,Qfd hok ca _ (fun o ho=>hx o (.inr ho)) h2⟩
theorem Qfd(hok: ∀b,S.ok b->S'.ok b/\S'.hp b=S.hp b): ∀(zs:List AV) (vs:List Value),(∀n∈nmsL zs,RenP S S' σ τ n)->Qa0 S (renL σ zs) vs->Qa0 S' (renL τ zs) vs
 |[],_,_,h=>by simpa only[renL,Qa0] using h
 |x::xs,vs,hx,h=>by
  simp only[renL,Qa0,nmsL,Zan] at h hx⊢;obtain⟨v,r,rfl,h1,h2⟩:=h;exact⟨v,r,rfl,Qz8 hok x v (fun o ho=>hx o (.inl ho)) h1,Qfd hok xs r (fun o ho=>hx o (.inr ho)) h2⟩
end
theorem Qt9(hok: ∀b,S.ok b->S'.ok b/\S'.hp b=S.hp b): ∀(zs:List AV) (vs:List Value),(∀n∈nmsL zs,RenP S S' σ τ n)->Qbv S (renL σ zs) vs->Qbv S' (renL τ zs) vs
 |[],_,_,h=>by simp only[renL,Qbv]
 |x::xs,vs,hx,h=>by
  simp only[renL,Qbv,nmsL,Zan] at h hx⊢;obtain⟨v,r,rfl,h1,h2⟩:=h;exact⟨v,r,rfl,Qz8 hok x v (fun o ho=>hx o (.inl ho)) h1,Qt9 hok xs r (fun o ho=>hx o (.inr ho)) h2⟩
theorem Qsc(σ:Nat->Nat)(l:List AV):(renL σ l).length=l.length:=by rw[Qze];simp
theorem Qva(hok: ∀b,S.ok b->S'.ok b/\S'.hp b=S.hp b)(k:Nat): ∀(rs:List (List AV)) (vs:List Value),(∀n∈nmsR rs,RenP S S' σ τ n)->Qbb S k (rs.map (renL σ)) vs->Qbb S' k (rs.map (renL τ)) vs
 |[],_,_,h=>by simp only[ZaG,Qbb]
 |r::rs,vs,hx,h=>by
  simp only[Zaq,Qbb,nmsR,Zan,Qsc] at h hx⊢;exact⟨h.1,Qt9 hok r vs (fun o ho=>hx o (.inl ho)) h.2.1,Qva hok k rs _ (fun o ho=>hx o (.inr ho)) h.2.2⟩
theorem Qzw(hok: ∀b,S.ok b->S'.ok b/\S'.hp b=S.hp b){l:Option Loc}(hl: ∀lc,l=some lc->S'.hp lc.b=S.hp lc.b): ∀(e:AObj),(∀n∈e.nms,RenP S S' σ τ n)->objc S l (e.ren σ)->objc S' l (e.ren τ)
 | .cells T cs,hx,h=>by
   simp only[AObj.ren,objc,AObj.nms] at h hx⊢;obtain⟨lc,vs,h1,h2,h3,h4⟩:=h;exact⟨lc,vs,h1,h2,(hl lc h1).trans h3,Qfd hok cs _ hx h4⟩
 | .arr T k rows,hx,h=>by
   simp only[AObj.ren,objc] at h⊢;refine⟨h.1,?_⟩;cases l with
   |none=>exact h.2
   |some lc=>
    obtain⟨h0,h1,vs,h2,h3,h4⟩:=h;exact⟨h1,vs,(hl lc rfl).trans h2,h3,Qfu hok k rows _ h4⟩
 | .arrA T k rows,hx,h=>by
   simp only[AObj.ren,objc,AObj.nms,Zbr] at h hx⊢;refine⟨h.1,?_⟩;cases l with
   |none=>
    have:=h.2
    simp only[List.map_eq_nil_iff] at this⊢;exact this
   |some lc=>
    obtain⟨h0,h1,vs,h2,h3,h4⟩:=h;exact⟨h1,vs,(hl lc rfl).trans h2,h3,Qva hok k rows _ hx h4⟩
 | .map kt es,_,h=>by
   simp only[AObj.ren,objc] at h⊢;obtain⟨lc,ents,clock,h1,h0,h2,h3,h4⟩:=h;exact⟨lc,ents,clock,h1,h0,(hl lc h1).trans h2,Qc6 hok es _ h3,h4⟩
 | .chan q cap,_,h=>by
   simp only[AObj.ren,objc] at h⊢;obtain⟨lc,buf,sent,rcvd,h1,h2,h3⟩:=h;exact⟨lc,buf,sent,rcvd,h1,(hl lc h1).trans h2,Qcu hok q _ h3⟩
 | .iter last left,_,h=>by
   simp only[AObj.ren,objc] at h⊢;obtain⟨lc,mb,ents,clock,seen,h1,h2,h0,h3,h4,h5,h6,h7⟩:=h;exact⟨lc,mb,ents,clock,seen,h1,(hok mb h2).1,Qly hok last h0,(hok mb h2).2.trans h3,(hl lc h1).trans h4,h5,h6,Qc6 hok left _ h7⟩
 | .view cs,_,h=>by
   simp only[AObj.ren,objc] at h⊢;obtain⟨lc,vs,T,fr,h1,h2,h3⟩:=h;exact⟨lc,vs,T,fr,h1,(hl lc h1).trans h2,Qfm hok cs _ h3⟩
mutual
theorem ren_id: ∀(z:AV),z.ren (fun n=>n)=z
 | .any=>rfl
 | .im _=>rfl
 | .agg cs=>by simp only[AV.ren,Qia cs]
 | .tup cs=>by simp only[AV.ren,Qia cs]
 | .ptr _ _=>rfl
 | .eptr _ _ _=>rfl
 | .own _=>rfl
 | .mp _=>rfl
 | .ch _=>rfl
 | .it _=>rfl
 | .osl _ _ _=>rfl
 | .clo f a c=>by simp only[AV.ren,Qia a,Qia c]
theorem Qia: ∀(z:List AV),renL (fun n=>n) z=z
 |[]=>rfl
 |x::r=>by simp only[renL,ren_id x,Qia r]
end
theorem Qwc(e:AObj):e.ren (fun n=>n)=e:=by
 cases e<;>simp only[AObj.ren,Qia];rename_i T k rows
 have:(renL fun n=>n)=(id:List AV->List AV):=funext Qia
 rw[this];simp
end
def mapO{α β:Type}(f:α->Option β):List α->Option (List β)
 |[]=>some []
 |x::r=>match f x,mapO f r with
  |some y,some ys=>some (y::ys)
  |_,_=>none
def Qho(f:AV->Option D):Option Ent->Option D
 |some (_,.arr _ k rows)=>some (.sl false k rows)
 |some (_,.arrA _ k rows)=>(mapO (mapO f) rows).map (.sl false k)
 |_=>none
def Qsj:Option Ent->Option D
 |some (_,.map kt es)=>some (.mp kt es)
 |_=>none
def Qlb(f:AV->Option D):Option Ent->Option D
 |some (_,.cells _ cs)=>(mapO f cs).map .ref
 |_=>none
def mkT(ys:List AV):Option (List D)->AV
 |some ds=> .im (.tup ds)
 |none=> .tup ys
def mkC(g:FuncId)(a c:List AV):Option (List D)->Option (List D)->AV
 |some ds,some es=> .im (.fn g ds es)
 |some _,none=> .clo g a c
 |none,_=> .clo g a c
def mkCO(g:FuncId):Option (List AV)->Option (List AV)->Option AV
 |some a,some c=>some (mkC g a c (Qcr a) (Qcr c))
 |_,_=>none
def kp(x:Nat->AV)(d:Option D):Option Nat->Option AV
 |some j=>some (x j)
 |none=>d.map .im
def asDO:Option AV->Option D
 |some x=>x.asD
 |none=>none
def cvt(h:Nat->Option Ent)(kx:Nat->Option Nat):Nat->AV->Option AV
 |0,_=>none
 |_+1,.im d=>some (.im d)
 |_+1,.any=>some .any
 |n+1,.agg cs=>(mapO (cvt h kx n) cs).map fun ys=>mkO ys (Qcr ys)
 |n+1,.tup cs=>(mapO (cvt h kx n) cs).map fun ys=>mkT ys (Qcr ys)
 |n+1,.own o=>kp .own (Qho (fun x=>asDO (cvt h kx n x)) (h o)) (kx o)
 |_+1,.mp o=>kp .mp (Qsj (h o)) (kx o)
 |n+1,.ptr o 0=>kp (fun j=> .ptr j 0) (Qlb (fun x=>asDO (cvt h kx n x)) (h o)) (kx o)
 |_+1,.ptr o (p+1)=>kp (fun j=> .ptr j (p+1)) none (kx o)
 |_+1,.eptr o i p=>kp (fun j=> .eptr j i p) none (kx o)
 |_+1,.ch o=>kp .ch none (kx o)
 |_+1,.it o=>kp .it none (kx o)
 |_+1,.osl o a n=>kp (fun j=> .osl j a n) none (kx o)
 |n+1,.clo g a c=>mkCO g (mapO (cvt h kx n) a) (mapO (cvt h kx n) c)
section
variable {S:Env}{f:AV->Option D}
theorem Qq9(hf: ∀x d v,f x=some d->conc S x v->rd S.ok S.hp d v): ∀(cs:List AV) (ds:List D) (vs:List Value),mapO f cs=some ds->Qa0 S cs vs->rdl S.ok S.hp ds vs
 |[],ds,vs,h,hc=>by
  simp only[mapO,Zae] at h;subst h;simp only[Qa0] at hc;simp only[rdl];exact hc
 |x::cs,ds,vs,h,hc=>by
  simp only[mapO] at h;simp only[Qa0] at hc;obtain⟨v,r,rfl,h1,h2⟩:=hc;split at h
  .rename_i y ys hy hys;obtain rfl:=Zac h;simp only[rdl];exact⟨v,r,rfl,hf x y v hy h1,Qq9 hf cs ys r hys h2⟩
  .cases h
theorem mapO_p(hf: ∀x d v,f x=some d->conc S x v->rd S.ok S.hp d v): ∀(cs:List AV) (ds:List D) (vs:List Value),mapO f cs=some ds->Qbv S cs vs->rdp S.ok S.hp ds vs
 |[],ds,vs,h,hc=>by
  simp only[mapO,Zae] at h;subst h;simp only[rdp]
 |x::cs,ds,vs,h,hc=>by
  simp only[mapO] at h;simp only[Qbv] at hc;obtain⟨v,r,rfl,h1,h2⟩:=hc;split at h
  .rename_i y ys hy hys;obtain rfl:=Zac h;simp only[rdp];exact⟨v,r,rfl,hf x y v hy h1,mapO_p hf cs ys r hys h2⟩
  .cases h
theorem Qg7{α β:Type}{g:α->Option β}: ∀(cs:List α) (ds:List β),mapO g cs=some ds->ds.length=cs.length
 |[],ds,h=>by simp only[mapO,Zae] at h;subst h;rfl
 |x::cs,ds,h=>by
  simp only[mapO] at h;split at h
  .rename_i y ys hy hys;obtain rfl:=Zac h;simp[Qg7 cs ys hys]
  .cases h
theorem mapO_r(hf: ∀x d v,f x=some d->conc S x v->rd S.ok S.hp d v){k:Nat}: ∀(rs:List (List AV)) (ds:List (List D)) (vs:List Value),mapO (mapO f) rs=some ds->Qbb S k rs vs->rdr S.ok S.hp k ds vs
 |[],ds,vs,h,hc=>by
  simp only[mapO,Zae] at h;subst h;simp only[rdr]
 |x::cs,ds,vs,h,hc=>by
  simp only[mapO] at h;simp only[Qbb] at hc;split at h
  .rename_i y ys hy hys;obtain rfl:=Zac h;simp only[rdr];exact⟨by rw[Qg7 x y hy];exact hc.1,mapO_p hf x y vs hy hc.2.1,mapO_r hf cs ys _ hys hc.2.2⟩
  .cases h
theorem Qv8{o:Nat}{e:Ent}{k:Nat}{rows:List (List D)}{v:Value}(he:S.h o=some e)(hl:e.2.len=rows.length)(hok: ∀l,S.ρ o=some l->S.ok l.b)
 (hob:match S.ρ o with|none=>rows=[]|some lc=>rows.length<=LIM/\rows.length<=lc.cap/\ ∃vs T,S.hp lc.b=some (.cells vs T (0,0))/\rdr S.ok S.hp k rows (vs.toList.drop lc.p))(hc:conc S (.own o) v):rd S.ok S.hp (.sl false k rows) v:=by
 simp only[conc] at hc;have hc:=hc.2 e he;simp only[rd];cases hr:S.ρ o with
 |none=>rw[hr] at hc hob;exact .inl ⟨.inl hc,hob⟩
 |some l=>
  rw[hr] at hc hob;obtain⟨h0,h1,vs,T,h2,h3⟩:=hob;exact .inr ⟨l.b,l.p,l.cap,vs,T,(0,0),by rw[<-hl];exact hc,by simp,h1,h0,hok l hr,h2,h3⟩
end
theorem frz_own{C:Ctx}{S:Env}(hW:Wf C S){f:AV->Option D}(hf: ∀x d v,f x=some d->conc S x v->rd S.ok S.hp d v){o:Nat}{d:D}{v:Value}(hok: ∀e l,S.h o=some e->e.2.isView=false->S.ρ o=some l->S.ok l.b)
 (h:Qho f (S.h o)=some d)(hc:conc S (.own o) v):rd S.ok S.hp d v:=by
 cases ho:S.h o with
 |none=>rw[ho] at h;simp[Qho] at h
 |some e=>
  rw[ho] at h;obtain⟨mu,e⟩:=e;have hob:=hW.obj o _ ho;cases e<;>simp only[Qho,reduceCtorEq] at h
  .obtain rfl:=Zac h;simp only[objc] at hob;refine Qv8 ho rfl (fun l hl=>hok _ l ho rfl hl) ?_ hc;cases hr:S.ρ o with
   |none=>rw[hr] at hob;exact hob.2
   |some l=>
    rw[hr] at hob;obtain⟨h0,h1,vs,h2,_,h3⟩:=hob;exact⟨h0,h1,vs,_,h2,h3⟩
  .simp only[Zay] at h;obtain⟨rows,h1,rfl⟩:=h;have hlen:=Qg7 _ _ h1;simp only[objc] at hob;refine Qv8 ho (by simp[AObj.len,hlen]) (fun l hl=>hok _ l ho rfl hl) ?_ hc;cases hr:S.ρ o with
   |none=>rw[hr] at hob;rw[hob.2] at hlen;exact ZbS.1 (by simpa using hlen)
   |some l=>
    rw[hr] at hob;obtain⟨h0,h2,vs,h3,_,h4⟩:=hob;exact⟨by omega,by omega,vs,_,h3,mapO_r hf _ _ _ h1 h4⟩
theorem frz_mp{C:Ctx}{S:Env}(hW:Wf C S){o:Nat}{d:D}{v:Value}(hok: ∀e l,S.h o=some e->e.2.isView=false->S.ρ o=some l->S.ok l.b)
 (h:Qsj (S.h o)=some d)(hc:conc S (.mp o) v):rd S.ok S.hp d v:=by
 cases ho:S.h o with
 |none=>rw[ho] at h;simp[Qsj] at h
 |some e=>
  rw[ho] at h;obtain⟨mu,e⟩:=e;have hob:=hW.obj o _ ho;cases e<;>simp only[Qsj,reduceCtorEq] at h;obtain rfl:=Zac h;simp only[objc] at hob;obtain⟨lc,ents,clock,h1,h2,h3,h4⟩:=hob;simp only[conc] at hc;obtain⟨l,hl,hv⟩:=hc.2 _ ho;rw[h1] at hl;obtain rfl:=Zac hl;simp only[rd];exact⟨lc.b,ents,clock,hv,h2,hok _ lc ho rfl h1,h3,h4⟩
theorem frz_ptr{C:Ctx}{S:Env}(hW:Wf C S){f:AV->Option D}(hf: ∀x d v,f x=some d->conc S x v->rd S.ok S.hp d v){o:Nat}{d:D}{v:Value}(hok: ∀e l,S.h o=some e->e.2.isView=false->S.ρ o=some l->S.ok l.b)
 (h:Qlb f (S.h o)=some d)(hc:conc S (.ptr o 0) v):rd S.ok S.hp d v:=by
 cases ho:S.h o with
 |none=>rw[ho] at h;simp[Qlb] at h
 |some e=>
  rw[ho] at h;obtain⟨mu,e⟩:=e;have hob:=hW.obj o _ ho;cases e<;>simp only[Qlb,reduceCtorEq] at h;simp only[Zay] at h;obtain⟨ds,h1,rfl⟩:=h;simp only[objc] at hob;obtain⟨lc,vs,h2,h3,h4,h5⟩:=hob;simp only[conc] at hc;obtain⟨l,hl,hv⟩:=hc.2 _ ho;rw[h2] at hl;obtain rfl:=Zac hl;simp only[rd];refine⟨lc.b,lc.p+0,vs,_,_,hv,hok _ lc ho rfl h2,h4,?_⟩;rw[h3];simpa using Qhe _ _ (Qq9 hf _ _ _ h1 h5)
theorem Qkn{g:AV->Option AV}: ∀(cs ys:List AV) (ds:List D),mapO g cs=some ys->Qcr ys=some ds->mapO (fun x=>asDO (g x)) cs=some ds
 |[],ys,ds,h,h2=>by
  simp only[mapO,Zae] at h;subst h;simpa[Qcr,mapO] using h2
 |x::cs,ys,ds,h,h2=>by
  simp only[mapO] at h;split at h
  .rename_i z zs hz hzs;obtain rfl:=Zac h;simp only[Qcr] at h2;cases hy:z.asD with
   |none=>rw[hy] at h2;simp[Qlx] at h2
   |some d=>
    cases hys:Qcr zs with
    |none=>rw[hy,hys] at h2;simp[Qlx] at h2
    |some es=>
     rw[hy,hys] at h2;simp only[Qlx,Zae] at h2;subst h2;have h9:=Qkn cs zs es hzs hys;have h8:asDO (g x)=some d:=by rw[hz];exact hy
     simp only[mapO,h8,h9]
  .cases h
theorem asDO_some{x:Option AV}{d:D}(h:asDO x=some d):x=some (.im d):=by
 cases x with
 |none=>cases h
 |some x=>
  simp only[asDO] at h;cases x<;>simp only[AV.asD,reduceCtorEq] at h;obtain rfl:=Zac h;rfl
theorem Quz{x:Nat->AV}{d:Option D}{k:Option Nat}{e:D}(hx: ∀j,x j≠ .im e)(h:kp x d k=some (.im e)):k=none/\d=some e:=by
 cases k with
 |some j=>
  simp only[kp,Zae] at h;exact absurd h (hx j)
 |none=>
  simp only[kp,Zay] at h;obtain⟨d',h1,h2⟩:=h;cases h2;exact⟨rfl,h1⟩
theorem cvt_rd{C:Ctx}{S:Env}(hW:Wf C S){kx:Nat->Option Nat}(hfr: ∀o e l,kx o=none->S.h o=some e->e.2.isView=false->S.ρ o=some l->S.ok l.b):
 ∀(n:Nat) (x:AV) (d:D) (v:Value),cvt S.h kx n x=some (.im d)->conc S x v->rd S.ok S.hp d v:=by
 intro n;induction n with
 |zero=>intro x d v h;simp[cvt] at h
 |succ n ih=>
  have hf: ∀x d v,asDO (cvt S.h kx n x)=some d->conc S x v->rd S.ok S.hp d v:=fun x d v h hc=>ih x d v (asDO_some h) hc
  intro x d v h hc;cases x with
  |im d'=>
   simp only[cvt,Zae,AV.im.injEq] at h;subst h;simpa only[conc] using hc
  |any=>simp[cvt] at h
  |agg cs=>
   simp only[cvt,Zay] at h;obtain⟨ys,h1,h2⟩:=h;simp only[conc] at hc;obtain⟨vs,rfl,h3⟩:=hc;cases ha:Qcr ys with
   |none=>rw[ha] at h2;simp[mkO] at h2
   |some ds=>
    rw[ha] at h2;simp only[mkO,AV.im.injEq] at h2;subst h2;simp only[rd];exact⟨vs,rfl,Qq9 hf cs ds _ (Qkn cs ys ds h1 ha) h3⟩
  |tup cs=>
   simp only[cvt,Zay] at h;obtain⟨ys,h1,h2⟩:=h;simp only[conc] at hc;obtain⟨vs,rfl,h3⟩:=hc;cases ha:Qcr ys with
   |none=>rw[ha] at h2;simp[mkT] at h2
   |some ds=>
    rw[ha] at h2;simp only[mkT,AV.im.injEq] at h2;subst h2;simp only[rd];exact⟨vs,rfl,Qq9 hf cs ds _ (Qkn cs ys ds h1 ha) h3⟩
  |own o=>
   simp only[cvt] at h;obtain⟨h1,h2⟩:=Quz (by simp) h;exact frz_own hW hf (fun e l=>hfr o e l h1) h2 hc
  |mp o=>
   simp only[cvt] at h;obtain⟨h1,h2⟩:=Quz (by simp) h;exact frz_mp hW (fun e l=>hfr o e l h1) h2 hc
  |ptr o p=>
   cases p with
   |zero=>
    simp only[cvt] at h;obtain⟨h1,h2⟩:=Quz (by simp) h;exact frz_ptr hW hf (fun e l=>hfr o e l h1) h2 hc
   |succ p=>
    simp only[cvt] at h;obtain⟨h1,h2⟩:=Quz (by simp) h;cases h2
  |eptr o i p=>
   simp only[cvt] at h;obtain⟨h1,h2⟩:=Quz (by simp) h;cases h2
  |ch o=>
   simp only[cvt] at h;obtain⟨h1,h2⟩:=Quz (by simp) h;cases h2
  |it o=>
   simp only[cvt] at h;obtain⟨h1,h2⟩:=Quz (by simp) h;cases h2
  |osl o a k=>
   simp only[cvt] at h;obtain⟨h1,h2⟩:=Quz (by simp) h;cases h2
  |clo g a c=>
   simp only[cvt] at h;cases ha:mapO (cvt S.h kx n) a with
   |none=>rw[ha] at h;simp[mkCO] at h
   |some a'=>
    cases hcc:mapO (cvt S.h kx n) c with
    |none=>rw[ha,hcc] at h;simp[mkCO] at h
    |some c'=>
     rw[ha,hcc] at h;simp only[mkCO,Zae] at h;cases h1:Qcr a' with
     |none=>rw[h1] at h;simp[mkC] at h
     |some ds=>
      cases h2:Qcr c' with
      |none=>rw[h1,h2] at h;simp[mkC] at h
      |some es=>
       rw[h1,h2] at h;simp only[mkC,AV.im.injEq] at h;subst h;simp only[conc] at hc;obtain⟨va,vc,rfl,h3,h4⟩:=hc;simp only[rd];exact⟨va,vc,rfl,Qq9 hf a ds _ (Qkn a a' ds ha h1) h3,Qq9 hf c es _ (Qkn c c' es hcc h2) h4⟩
theorem Qrr{C:Ctx}{S S':Env}(hW:Wf C S){kx:Nat->Option Nat}{τ:Nat->Nat}(hok: ∀b,S.ok b->S'.ok b/\S'.hp b=S.hp b)(hfr: ∀o e l,kx o=none->S.h o=some e->e.2.isView=false->S.ρ o=some l->S.ok l.b)
 (hren: ∀o j,kx o=some j-> ∀e',S'.h (τ j)=some e'-> ∃e,S.h o=some e/\S'.ρ (τ j)=S.ρ o/\e'.2.esz=e.2.esz/\e'.2.len=e.2.len):
 ∀(n:Nat) (x y:AV) (v:Value),cvt S.h kx n x=some y->conc S x v->conc S' (y.ren τ) v:=by
 intro n;induction n with
 |zero=>intro x y v h;simp[cvt] at h
 |succ n ih=>
  have hm: ∀(cs ys:List AV) (vs:List Value),mapO (cvt S.h kx n) cs=some ys->Qa0 S cs vs->Qa0 S' (renL τ ys) vs:=by
   intro cs;induction cs with
   |nil=>
    intro ys vs h hc;simp only[mapO,Zae] at h;subst h;simpa only[renL,Qa0] using hc
   |cons x cs ih2=>
    intro ys vs h hc;simp only[mapO] at h;simp only[Qa0] at hc;obtain⟨v,r,rfl,h1,h2⟩:=hc;split at h
    .rename_i z zs hz hzs;obtain rfl:=Zac h;simp only[renL,Qa0];exact⟨v,r,rfl,ih x z v hz h1,ih2 zs r hzs h2⟩
    .cases h
  intro x y v h hc;have hB: ∀d,y= .im d->conc S' (y.ren τ) v:=by
   intro d hd;subst hd;simp only[AV.ren,conc];exact Qb8 hok d v (cvt_rd hW hfr (n+1) x d v h hc)
  have hK: ∀(f:Nat->AV) (g:Option D) (o:Nat),kp f g (kx o)=some y->(∀j,kx o=some j->conc S' ((f j).ren τ) v)->conc S' (y.ren τ) v:=by
   intro f g o h1 h2;cases hk:kx o with
   |none=>
    rw[hk] at h1;simp only[kp,Zay] at h1;obtain⟨d,_,rfl⟩:=h1;exact hB d rfl
   |some j=>
    rw[hk] at h1;simp only[kp,Zae] at h1;rw[<-h1];exact h2 j hk
  cases x with
  |im d=>
   simp only[cvt,Zae] at h;exact hB d h.symm
  |any=>
   simp only[cvt,Zae] at h;subst h;simp only[AV.ren,conc]
  |agg cs=>
   have h0:=h;simp only[cvt,Zay] at h0;obtain⟨ys,h1,h2⟩:=h0;cases ha:Qcr ys with
   |some ds=>rw[ha] at h2;exact hB _ h2.symm
   |none=>
    rw[ha] at h2;simp only[conc] at hc;obtain⟨vs,rfl,h3⟩:=hc;rw[<-h2];simp only[mkO,AV.ren,conc];exact⟨vs,rfl,hm cs ys _ h1 h3⟩
  |tup cs=>
   have h0:=h;simp only[cvt,Zay] at h0;obtain⟨ys,h1,h2⟩:=h0;cases ha:Qcr ys with
   |some ds=>rw[ha] at h2;exact hB _ h2.symm
   |none=>
    rw[ha] at h2;simp only[conc] at hc;obtain⟨vs,rfl,h3⟩:=hc;rw[<-h2];simp only[mkT,AV.ren,conc];exact⟨vs,rfl,hm cs ys _ h1 h3⟩
  |own o=>
   have h0:=h;simp only[cvt] at h0;refine hK _ _ o h0 ?_;intro j hj;simp only[conc,AV.ren] at hc⊢;refine⟨hc.1,?_⟩;intro e' he';obtain⟨e,he,hr,_,hl⟩:=hren o j hj e' he';rw[hr,hl];exact hc.2 e he
  |mp o=>
   have h0:=h;simp only[cvt] at h0;refine hK _ _ o h0 ?_;intro j hj;simp only[conc,AV.ren] at hc⊢;refine⟨hc.1,?_⟩;intro e' he';obtain⟨e,he,hr,_,hl⟩:=hren o j hj e' he';rw[hr];exact hc.2 e he
  |ptr o p=>
   have hp: ∀j,kx o=some j->conc S' ((AV.ptr j p).ren τ) v:=by
    intro j hj;simp only[conc,AV.ren] at hc⊢;refine⟨hc.1,?_⟩;intro e' he';obtain⟨e,he,hr,_,hl⟩:=hren o j hj e' he';rw[hr];exact hc.2 e he
   cases p with
   |zero=>
    have h0:=h;simp only[cvt] at h0;exact hK _ _ o h0 hp
   |succ p=>
    have h0:=h;simp only[cvt] at h0;exact hK _ _ o h0 hp
  |eptr o i p=>
   have h0:=h;simp only[cvt] at h0;refine hK _ _ o h0 ?_;intro j hj;simp only[conc,AV.ren] at hc⊢;refine⟨hc.1,?_⟩;intro e' he';obtain⟨e,he,hr,hz,hl⟩:=hren o j hj e' he';rw[hr,hz];exact hc.2 e he
  |ch o=>
   have h0:=h;simp only[cvt] at h0;refine hK _ _ o h0 ?_;intro j hj;simp only[conc,AV.ren] at hc⊢;refine⟨hc.1,?_⟩;intro e' he';obtain⟨e,he,hr,_,hl⟩:=hren o j hj e' he';rw[hr];exact hc.2 e he
  |it o=>
   have h0:=h;simp only[cvt] at h0;refine hK _ _ o h0 ?_;intro j hj;simp only[conc,AV.ren] at hc⊢;refine⟨hc.1,?_⟩;intro e' he';obtain⟨e,he,hr,_,hl⟩:=hren o j hj e' he';rw[hr];exact hc.2 e he
  |osl o a k=>
   have h0:=h;simp only[cvt] at h0;refine hK _ _ o h0 ?_;intro j hj;simp only[conc,AV.ren] at hc⊢;refine⟨hc.1,?_⟩;intro e' he';obtain⟨e,he,hr,hz,hl⟩:=hren o j hj e' he';rw[hr,hz,hl];exact hc.2 e he
  |clo g a c=>
   have h0:=h;simp only[cvt] at h0;cases ha:mapO (cvt S.h kx n) a with
   |none=>rw[ha] at h0;simp[mkCO] at h0
   |some a'=>
    cases hcc:mapO (cvt S.h kx n) c with
    |none=>rw[ha,hcc] at h0;simp[mkCO] at h0
    |some c'=>
     rw[ha,hcc] at h0;simp only[mkCO,Zae] at h0;have hgen:y= .clo g a' c'->conc S' (y.ren τ) v:=by
      intro hy;subst hy;simp only[conc] at hc;obtain⟨va,vc,rfl,h3,h4⟩:=hc;simp only[AV.ren,conc];exact⟨va,vc,rfl,hm a a' _ ha h3,hm c c' _ hcc h4⟩
     cases h1:Qcr a' with
     |none=>rw[h1] at h0;exact hgen (by rw[<-h0];rfl)
     |some ds=>
      cases h2:Qcr c' with
      |none=>rw[h1,h2] at h0;exact hgen (by rw[<-h0];rfl)
      |some es=>rw[h1,h2] at h0;exact hB _ h0.symm
def cellC(ti:TI):Option Ent->Option AV
 |some (_,.cells _ cs)=>bif (ti.agg||ti.size==1) && cs.length==ti.size then some (mkV ti.agg cs) else none
 |_=>none
def cellP(h:Qan)(x:AV):Option TI->Option AV
 |none=>none
 |some ti=>match x with
  | .ptr o 0=>cellC ti (hget h o)
  |_=>none
def Qj3(P:Program)(s:Qad):ResultVar->Option AV
 | .tmp t=>some (tget s.tm t)
 | .cell a T=>cellP s.h (tget s.tm a) (tI P T)
def resV:List AV->AV
 |[x]=>x
 |xs=> .tup xs
theorem cell_run{P:Program}{C:Ctx}{N:Nat}{s:Qad}{S:Env}{a:Act}(hc:ConE C N s S a){x:ResultVar}{r:AV}(hx:Qj3 P s x=some r):
 ∃v,(match x with| .tmp t=>pure (a.tmps.getD t undef)| .cell c t=>do loadVar t (<-asAddr (a.tmps.getD c undef)):Sem Value).run P S.w= .ok v S.w/\conc S r v:=by
 cases x with
 |tmp t=>
  simp only[Qj3,Zae] at hx;subst hx;exact⟨a.eval (.tmp t),by simp[Act.eval],hc.tm t⟩
 |cell c T=>
  simp only[Qj3] at hx;cases hT:tI P T with
  |none=>rw[hT] at hx;simp[cellP] at hx
  |some ti=>
   rw[hT] at hx;simp only[cellP] at hx;split at hx
   .rename_i o ho;cases he:hget s.h o with
    |none=>rw[he] at hx;simp[cellC] at hx
    |some e=>
     rw[he] at hx;obtain⟨mu,e⟩:=e;cases e<;>simp only[cellC,reduceCtorEq] at hx;rename_i U cs;cases hb:(ti.agg||ti.size==1) && cs.length==ti.size<;>rw[hb] at hx
     .simp at hx
     .simp only[Zbf,Zae] at hx;subst hx;simp only[Zah,ZbX,Zdv] at hb;have hS:S.h o=_:=(hc.h o).trans he;have hob:=hc.wf.obj o _ hS;simp only[objc] at hob;obtain⟨lc,vs,hl,hp0,hbk,hcs⟩:=hob;have h1:=hc.tm c;rw[ho] at h1;simp only[conc] at h1;obtain⟨l,hl',hv⟩:=h1.2 _ hS;rw[hl] at hl';obtain rfl:=Zac hl';have hlen:=Qbs _ _ hcs;have hld:=Qey hT (w:=S.w) (b:=lc.b) (p:=0) hbk (by simp at hlen⊢;omega) hb.1;have hv':a.tmps.getD c undef= .pointer (some ⟨lc.b,0,none⟩):=by simpa[Act.eval,hp0] using hv
      rw[Zci,ZaL (by rw[hlen,hb.2];exact Zap _)] at hld;refine⟨if ti.agg then .agg vs.toList.toArray else vs.toList.headD undef,?_,Qj6 hcs hb.2 hb.1⟩;simp only[hv',asAddr,Sem.run_bind,Sem.run_pure,Result.andThen_ok];exact hld
   .cases hx
theorem Qe7{P:Program}{C:Ctx}{N:Nat}{s:Qad}{S:Env}{a:Act}(hc:ConE C N s S a){fn:Func}{xs:List AV}(hx:mapO (Qj3 P s) fn.results.toList=some xs):
 ∃v,(results fn a.tmps).run P S.w= .ok v S.w/\conc S (resV xs) v:=by
 have key: ∀(rs:List ResultVar) (xs:List AV),mapO (Qj3 P s) rs=some xs-> ∃vs:List Value,(rs.mapM fun x=>(match x with
  | .tmp t=>pure (a.tmps.getD t undef)| .cell c t=>do loadVar t (<-asAddr (a.tmps.getD c undef)):Sem Value)).run P S.w= .ok vs S.w/\Qa0 S xs vs:=by
  intro rs;induction rs with
  |nil=>
   intro xs h;simp only[mapO,Zae] at h;subst h;exact⟨[],by simp,by simp only[Qa0]⟩
  |cons x rs ih=>
   intro xs h;simp only[mapO] at h;split at h
   .rename_i y ys hy hys;obtain rfl:=Zac h;obtain⟨v,h1,h2⟩:=cell_run hc hy;obtain⟨vs,h3,h4⟩:=ih ys hys;refine⟨v::vs,?_,by simp only[Qa0];exact⟨v,vs,rfl,h2,h4⟩⟩;simp only[List.mapM_cons,Sem.run_bind,h1,h3,Result.andThen_ok,Sem.run_pure]
   .cases h
 obtain⟨vs,h1,h2⟩:=key _ _ hx;have hl:=Qbs _ _ h2;have hm:(results fn a.tmps).run P S.w= .ok (if h:vs.toArray.size=1 then vs.toArray[0] else .tuple vs.toArray) S.w:=by
  unfold results;rw[ZeC]
  have: ∀(m:Sem (List Value)),m.run P S.w= .ok vs S.w->((Functor.map List.toArray m)>>=fun vs=>(pure (if h:vs.size=1 then vs[0] else .tuple vs):Sem Value)).run P S.w= .ok (if h:vs.toArray.size=1 then vs.toArray[0] else .tuple vs.toArray) S.w:=by
   intro m hm;rw[Sem.run_bind]
   have:(Functor.map List.toArray m).run P S.w= .ok vs.toArray S.w:=by
    rw[map_eq_pure_bind,Sem.run_bind,hm];rfl
   rw[this];rfl
  exact this _ h1
 refine⟨_,hm,?_⟩;cases xs with
 |nil=>
  simp only[Qa0] at h2;subst h2;simp only[resV,conc];exact⟨#[],by simp,by simp[Qa0]⟩
 |cons x xs=>
  cases xs with
  |nil=>
   simp only[Qa0] at h2;obtain⟨v,r,rfl,h3,rfl⟩:=h2;simpa[resV] using h3
  |cons y xs=>
   have: ¬vs.toArray.size=1:=by simp only[ZcI];simp at hl;omega
   rw[dif_neg this];simp only[resV,conc];exact⟨_,rfl,h2⟩
def entry:Nat->List AV->List (Nat×AV)
 |_,[]=>[]
 |i,x::r=>(i,x)::entry (i+1) r
theorem Qev{S:Env}: ∀(args:List AV) (vs:List Value) (i t:Nat),Qa0 S args vs->conc S (tget (entry i args) t) (if i<=t then (vs[t - i]?).getD undef else undef)
 |[],vs,i,t,_=>by simp[entry,tget,conc]
 |x::args,vs,i,t,h=>by
  simp only[Qa0] at h;obtain⟨v,r,rfl,h1,h2⟩:=h;simp only[entry,tget];cases hq:i==t
  .have hne:i≠t:=by simpa using hq
   have:=Qev args r (i+1) t h2
   simp only[ZaS];by_cases hit:i+1<=t
   .rw[Zao hit] at this;rw[Zao (by omega)];have e:t - i=(t - (i+1))+1:=by omega
    rw[e];simpa using this
   .rw[Zaj hit] at this;rw[Zaj (by omega)];exact this
  .have:i=t:=by simpa using hq
   subst this;simpa using h1
theorem Qgh: ∀(args:List AV) (i t:Nat),∀m∈(tget (entry i args) t).nms,m∈nmsL args
 |[],i,t,m,h=>by simp[entry,tget,AV.nms] at h
 |x::args,i,t,m,h=>by
  simp only[entry,tget] at h;simp only[nmsL,Zan];cases hq:i==t<;>rw[hq] at h
  .exact .inr (Qgh args (i+1) t m (by simpa using h))
  .exact .inl (by simpa using h)
def idxL:List Nat->Nat->Nat->Option Nat
 |[],_,_=>none
 |x::r,o,k=>bif x==o then some k else idxL r o (k+1)
def kxOf(k:Nat)(ex:List Nat)(o:Nat):Option Nat:=bif Nat.blt o k then some o else idxL ex o k
def cvtE(f:AV->Option AV):AObj->Option AObj
 | .cells T cs=>(mapO f cs).map (.cells T)
 | .arr T k rows=>some (.arr T k rows)
 | .arrA T k rows=>(mapO (mapO f) rows).map (.arrA T k)
 | .map kt es=>some (.map kt es)
 | .chan q cap=>some (.chan q cap)
 | .iter a l=>some (.iter a l)
 | .view cs=>some (.view cs)
def consE(j:Nat)(mu:Bool):Option AObj->Option Qan->Option Qan
 |some e,some r=>some ((j,(mu,e))::r)
 |some _,none=>none
 |none,_=>none
def klE(f:AV->Option AV)(j:Nat)(r:Option Qan):Option Ent->Option Qan
 |none=>r
 |some (mu,e)=>consE j mu (cvtE f e) r
def outKl(h:Nat->Option Ent)(f:AV->Option AV):List Nat->Option Qan
 |[]=>some []
 |j::r=>klE f j (outKl h f r) (h j)
def exE(f:AV->Option AV)(j:Nat)(r:Option Qan):Option Ent->Option Qan
 |none=>none
 |some (false,_)=>none
 |some (true,e)=>consE j true (cvtE f e) r
def outEx(h:Nat->Option Ent)(f:AV->Option AV):List Nat->Nat->Option Qan
 |[],_=>some []
 |x::r,j=>exE f j (outEx h f r (j+1)) (h x)
def appO:Option Qan->Option Qan->Option Qan
 |some a,some b=>some (a++b)
 |some _,none=>none
 |none,_=>none
def roOk(h:Nat->Option Ent)(kl:List Nat):Qan->Prop
 |[]=>True
 |(j,e)::r=>(bif kl.contains j then True else h j=some e)/\roOk h kl r
def exOk(k:Nat):List Nat->Bool
 |[]=>true
 |x::r=>Nat.ble k x && (!r.contains x && exOk k r)
abbrev RetR:=AV->Qan->Nat->Prop
def retO3(R:RetR)(cnt:Nat):Option AV->Option Qan->Prop
 |some r,some H=>R r H cnt
 |some _,none=>False
 |none,_=>False
def retO2(k:Nat)(kl:List Nat)(H0:Qan)(R:RetR)(s:Qad)(ex:List Nat)(x:AV):Prop:=
 exOk k ex=true/\roOk (hget s.h) kl H0/\retO3 R ex.length (cvt (hget s.h) (kxOf k ex) 9 x) (appO (outKl (hget s.h) (cvt (hget s.h) (kxOf k ex) 9) kl) (outEx (hget s.h) (cvt (hget s.h) (kxOf k ex) 9) ex k))
def retO1(k:Nat)(kl:List Nat)(exf:Qad->AV->List Nat)(H0:Qan)(R:RetR)(s:Qad):Option (List AV)->Prop
 |some xs=>retO2 k kl H0 R s (exf s (resV xs)) (resV xs)
 |none=>False
def retO(P:Program)(rs:List ResultVar)(k:Nat)(kl:List Nat)(exf:Qad->AV->List Nat)(H0:Qan)(R:RetR)(s:Qad):Prop:=retO1 k kl exf H0 R s (mapO (Qj3 P s) rs)
def retQ(P:Program)(rs:List ResultVar)(k:Nat)(kl:List Nat)(exf:Qad->AV->List Nat)(H0:Qan)(R:RetR):Qbl
 | .normal,s=>retO P rs k kl exf H0 R s
 | .ret,s=>retO P rs k kl exf H0 R s
 | .exit _,_=>False
def exNo(_:Qad)(_:AV):List Nat:=[]
def geK(k:Nat):List Nat->List Nat
 |[]=>[]
 |x::r=>bif Nat.ble k x then x::geK k r else geK k r
def exRes(k:Nat)(_:Qad)(x:AV):List Nat:=geK k x.nms
def LeV(r r':AV):Prop:= ∀(σ:Nat->Nat) (S:Env) (v:Value),conc S (r.ren σ) v->conc S (r'.ren σ) v
def LeE(e e':Ent):Prop:=e.1=e'.1/\e.2.esz=e'.2.esz/\e.2.len=e'.2.len/\e.2.isView=e'.2.isView/\ ∀(σ:Nat->Nat) (S:Env) (l:Option Loc),objc S l (e.2.ren σ)->objc S l (e'.2.ren σ)
def LeH:Qan->Qan->Prop
 |[],[]=>True
 |(j,e)::r,(j',e')::r'=>j=j'/\LeE e e'/\LeH r r'
 |[],_::_=>False
 |_::_,[]=>False
theorem LeV.refl(r:AV):LeV r r:=fun _ _ _ h=>h
theorem LeE.refl(e:Ent):LeE e e:=⟨rfl,rfl,rfl,rfl,fun _ _ _ h=>h⟩
theorem LeH.refl: ∀(H:Qan),LeH H H
 |[]=>trivial
 |(_,e)::r=>⟨rfl,LeE.refl e,LeH.refl r⟩
theorem LeH.get: ∀{H H':Qan},LeH H H'-> ∀n,(hget H' n=none/\hget H n=none)\/ ∃e e',hget H n=some e/\hget H' n=some e'/\LeE e e'
 |[],[],_,n=> .inl ⟨rfl,rfl⟩
 |(j,e)::r,(j',e')::r',h,n=>by
  obtain⟨rfl,h1,h2⟩:=h;simp only[hget];cases hq:j==n
  .simpa using LeH.get h2 n
  .exact .inr ⟨e,e',by simp,by simp,h1⟩
def sg(os:List Nat)(nx j:Nat):Nat:=match os[j]? with
 |some o=>o
 |none=>nx+(j - os.length)
def renH(σ:Nat->Nat):Qan->Qan
 |[]=>[]
 |(j,(mu,e))::r=>(σ j,(mu,e.ren σ))::renH σ r
theorem Qzm{σ:Nat->Nat}: ∀{H:Qan} {n:Nat} {e':Ent},hget (renH σ H) n=some e'-> ∃j e,(j,e)∈H/\σ j=n/\e'=(e.1,e.2.ren σ)
 |[],n,e',h=>by simp[renH,hget] at h
 |(j,(mu,e))::r,n,e',h=>by
  simp only[renH,hget] at h;cases hq:σ j==n<;>rw[hq] at h
  .obtain⟨j',x,h1,h2,h3⟩:=Qzm (H:=r) (by simpa using h);exact⟨j',x,by simp[h1],h2,h3⟩
  .simp only[Zbf,Zae] at h;exact⟨j,(mu,e),by simp,by simpa using hq,h.symm⟩
theorem Qafs{σ:Nat->Nat}(hσ: ∀i j,σ i=σ j->i=j): ∀(H:Qan) (j:Nat),hget (renH σ H) (σ j)=(hget H j).map fun e=>(e.1,e.2.ren σ)
 |[],j=>rfl
 |(i,(mu,e))::r,j=>by
  simp only[renH,hget];by_cases hij:i=j
  .subst hij;simp
  .have h1:(i==j)=false:=by simpa using hij
   have h2:(σ i==σ j)=false:=by rw[Zbs];exact fun h=>hij (hσ _ _ h)
   rw[h1,h2];simpa using Qafs hσ r j
theorem Qgz: ∀{H:Qan} {n:Nat} {e:Ent},hget H n=some e->(n,e)∈H
 |[],n,e,h=>by simp[hget] at h
 |(i,x)::r,n,e,h=>by
  simp only[hget] at h;cases hq:i==n<;>rw[hq] at h
  .exact Zas _ (Qgz (by simpa using h))
  .have:i=n:=by simpa using hq
   subst this;simp only[Zbf,Zae] at h;subst h;simp
theorem Qti{C:Ctx}{S S':Env}(hW:Wf C S){kx:Nat->Option Nat}{τ:Nat->Nat}(hok: ∀b,S.ok b->S'.ok b/\S'.hp b=S.hp b)(hfr: ∀o e l,kx o=none->S.h o=some e->e.2.isView=false->S.ρ o=some l->S.ok l.b)
 (hren: ∀o j,kx o=some j-> ∀e',S'.h (τ j)=some e'-> ∃e,S.h o=some e/\S'.ρ (τ j)=S.ρ o/\e'.2.esz=e.2.esz/\e'.2.len=e.2.len)
 {n:Nat}{e e':AObj}(h:cvtE (cvt S.h kx n) e=some e'):(e'.esz=e.esz/\e'.len=e.len)/\ ∀l,(∀lc,l=some lc->S'.hp lc.b=S.hp lc.b)->objc S l e->objc S' l (e'.ren τ):=by
 have hm: ∀(cs ys:List AV) (vs:List Value),mapO (cvt S.h kx n) cs=some ys->Qa0 S cs vs->Qa0 S' (renL τ ys) vs:=by
  intro cs;induction cs with
  |nil=>
   intro ys vs h hc;simp only[mapO,Zae] at h;subst h;simpa only[renL,Qa0] using hc
  |cons x cs ih2=>
   intro ys vs h hc;simp only[mapO] at h;simp only[Qa0] at hc;obtain⟨v,r,rfl,h1,h2⟩:=hc;split at h
   .rename_i z zs hz hzs;obtain rfl:=Zac h;simp only[renL,Qa0];exact⟨v,r,rfl,Qrr hW hok hfr hren n x z v hz h1,ih2 zs r hzs h2⟩
   .cases h
 have hmp: ∀(cs ys:List AV) (vs:List Value),mapO (cvt S.h kx n) cs=some ys->Qbv S cs vs->Qbv S' (renL τ ys) vs:=by
  intro cs;induction cs with
  |nil=>
   intro ys vs h hc;simp only[mapO,Zae] at h;subst h;simp only[renL,Qbv]
  |cons x cs ih2=>
   intro ys vs h hc;simp only[mapO] at h;simp only[Qbv] at hc;obtain⟨v,r,rfl,h1,h2⟩:=hc;split at h
   .rename_i z zs hz hzs;obtain rfl:=Zac h;simp only[renL,Qbv];exact⟨v,r,rfl,Qrr hW hok hfr hren n x z v hz h1,ih2 zs r hzs h2⟩
   .cases h
 have hmr: ∀(k:Nat) (rs ys:List (List AV)) (vs:List Value),mapO (mapO (cvt S.h kx n)) rs=some ys->Qbb S k rs vs->Qbb S' k (ys.map (renL τ)) vs:=by
  intro k rs;induction rs with
  |nil=>
   intro ys vs h hc;simp only[mapO,Zae] at h;subst h;simp only[ZaG,Qbb]
  |cons x rs ih2=>
   intro ys vs h hc;simp only[mapO] at h;simp only[Qbb] at hc;split at h
   .rename_i z zs hz hzs;obtain rfl:=Zac h;simp only[Zaq,Qbb,Qsc];exact⟨(Qg7 _ _ hz).trans hc.1,hmp x z _ hz hc.2.1,ih2 zs _ hzs hc.2.2⟩
   .cases h
 cases e<;>simp only[cvtE] at h
 case view cs=>
  obtain rfl:=Zac h;refine⟨⟨rfl,rfl⟩,fun l hl h=> ?_⟩;simp only[AObj.ren,objc] at h⊢;obtain⟨lc,vs,T,fr,h1,h2,h3⟩:=h;exact⟨lc,vs,T,fr,h1,(hl lc h1).trans h2,Qfm hok cs _ h3⟩
 case cells T cs=>
  simp only[Zay] at h;obtain⟨ys,h1,rfl⟩:=h;refine⟨⟨rfl,rfl⟩,fun l hl h=> ?_⟩;simp only[AObj.ren,objc] at h⊢;obtain⟨lc,vs,g1,g2,g3,g4⟩:=h;exact⟨lc,vs,g1,g2,(hl lc g1).trans g3,hm cs ys _ h1 g4⟩
 case arr T k rows=>
  obtain rfl:=Zac h;refine⟨⟨rfl,rfl⟩,fun l hl h=> ?_⟩;simp only[AObj.ren,objc] at h⊢;refine⟨h.1,?_⟩;cases l with
  |none=>exact h.2
  |some lc=>
   obtain⟨h0,h1,vs,h2,h3,h4⟩:=h;exact⟨h1,vs,(hl lc rfl).trans h2,h3,Qfu hok k rows _ h4⟩
 case arrA T k rows=>
  simp only[Zay] at h;obtain⟨ys,h1,rfl⟩:=h;have hlen:=Qg7 _ _ h1;refine⟨⟨rfl,hlen⟩,fun l hl h=> ?_⟩;simp only[AObj.ren,objc,Zbr,hlen] at h⊢;refine⟨h.1,?_⟩;cases l with
  |none=>
   have:=h.2
   subst this;simp only[mapO,Zae] at h1;subst h1;rfl
  |some lc=>
   obtain⟨h0,h2,vs,h3,h4,h5⟩:=h;exact⟨h2,vs,(hl lc rfl).trans h3,h4,hmr k rows ys _ h1 h5⟩
 case map kt es=>
  obtain rfl:=Zac h;refine⟨⟨rfl,rfl⟩,fun l hl h=> ?_⟩;simp only[AObj.ren,objc] at h⊢;obtain⟨lc,ents,clock,h1,h0,h2,h3,h4⟩:=h;exact⟨lc,ents,clock,h1,h0,(hl lc h1).trans h2,Qc6 hok es _ h3,h4⟩
 case chan q cap=>
  obtain rfl:=Zac h;refine⟨⟨rfl,rfl⟩,fun l hl h=> ?_⟩;simp only[AObj.ren,objc] at h⊢;obtain⟨lc,buf,sent,rcvd,h1,h2,h3⟩:=h;exact⟨lc,buf,sent,rcvd,h1,(hl lc h1).trans h2,Qcu hok q _ h3⟩
 case iter last left=>
  obtain rfl:=Zac h;refine⟨⟨rfl,rfl⟩,fun l hl h=> ?_⟩;simp only[AObj.ren,objc] at h⊢;obtain⟨lc,mb,ents,clock,seen,h1,h2,h0,h3,h4,h5,h6,h7⟩:=h;exact⟨lc,mb,ents,clock,seen,h1,(hok mb h2).1,Qly hok last h0,(hok mb h2).2.trans h3,(hl lc h1).trans h4,h5,h6,Qc6 hok left _ h7⟩
theorem cvtE_view{f:AV->Option AV}{e e':AObj}(h:cvtE f e=some e'):e'.isView=e.isView:=by
 cases e<;>simp only[cvtE,Zay,Zae] at h
 .obtain⟨_,_,rfl⟩:=h;rfl
 .subst h;rfl
 .obtain⟨_,_,rfl⟩:=h;rfl
 all_goals subst h;rfl
def Le(d d':D):Prop:= ∀ok hp v,rd ok hp d v->rd ok hp d' v
def LeS:List D->List D->Prop
 |[],[]=>True
 |d::r,d'::r'=>Le d d'/\LeS r r'
 |[],_::_=>False
 |_::_,[]=>False
theorem Le.refl(d:D):Le d d:=fun _ _ _ h=>h
theorem LeS.refl: ∀(ds:List D),LeS ds ds
 |[]=>trivial
 |d::ds=>⟨Le.refl d,LeS.refl ds⟩
theorem LeS.len: ∀{a b:List D},LeS a b->a.length=b.length
 |[],[],_=>rfl
 |_::_,_::_,h=>by simp[LeS.len h.2]
theorem LeS.rdl: ∀{a b:List D},LeS a b-> ∀ok hp vs,Ae.rdl ok hp a vs->Ae.rdl ok hp b vs
 |[],[],_,ok,hp,vs,h=>h
 |_::_,_::_,hl,ok,hp,vs,h=>by
  simp only[Ae.rdl] at h⊢;obtain⟨v,r,rfl,h1,h2⟩:=h;exact⟨v,r,rfl,hl.1 _ _ _ h1,LeS.rdl hl.2 _ _ _ h2⟩
def LeP:List D->List D->Prop
 |_,[]=>True
 |d::r,d'::r'=>Le d d'/\LeP r r'
 |[],_::_=>False
theorem LeP.rdp: ∀{a b:List D},LeP a b-> ∀ok hp vs,Ae.rdp ok hp a vs->Ae.rdp ok hp b vs
 |_,[],_,ok,hp,vs,h=>by simp only[Ae.rdp]
 |_::_,_::_,hl,ok,hp,vs,h=>by
  simp only[Ae.rdp] at h⊢;obtain⟨v,r,rfl,h1,h2⟩:=h;exact⟨v,r,rfl,hl.1 _ _ _ h1,LeP.rdp hl.2 _ _ _ h2⟩
 |[],_::_,h,_,_,_,_=>h.elim
theorem LeS.leP: ∀{a b:List D},LeS a b->LeP a b
 |[],[],_=>trivial
 |_::_,_::_,h=>⟨h.1,LeS.leP h.2⟩
theorem LeP.refl(a:List D):LeP a a:=(LeS.refl a).leP
theorem LeP.trans_take: ∀{n:Nat} {a b:List D},LeS (a.take n) b->LeP a b
 |0,a,[],_=>by cases a<;>trivial
 |_+1,[],[],_=>trivial
 |n+1,x::a,y::b,h=>⟨h.1,LeP.trans_take (n:=n) h.2⟩
 |n+1,x::a,[],h=>h.elim
 |n+1,[],y::b,h=>h.elim
 |0,a,y::b,h=>by cases a<;>exact h.elim
theorem Qav{a b:List D}(h:LeS a b):Le (.agg a) (.agg b):=by
 intro ok hp v hv;simp only[Ae.rd] at hv⊢;obtain⟨vs,rfl,h1⟩:=hv;exact⟨vs,rfl,h.rdl _ _ _ h1⟩
theorem le_tup{a b:List D}(h:LeS a b):Le (.tup a) (.tup b):=by
 intro ok hp v hv;simp only[Ae.rd] at hv⊢;obtain⟨vs,rfl,h1⟩:=hv;exact⟨vs,rfl,h.rdl _ _ _ h1⟩
def LeR:List (List D)->List (List D)->Prop
 |[],[]=>True
 |r::rs,r'::rs'=>LeS r r'/\LeR rs rs'
 |[],_::_=>False
 |_::_,[]=>False
theorem LeR.len: ∀{a b:List (List D)},LeR a b->a.length=b.length
 |[],[],_=>rfl
 |_::_,_::_,h=>by simp[LeR.len h.2]
theorem LeR.rdr: ∀{a b:List (List D)} {k k':Nat},LeR a b->(∀r∈b,r.length=k')-> ∀ok hp vs,Ae.rdr ok hp k a vs->Ae.rdr ok hp k' b vs
 |[],[],_,_,_,_,ok,hp,vs,h=>by simp only[Ae.rdr]
 |r::rs,r'::rs',k,k',hl,hk,ok,hp,vs,h=>by
  simp only[Ae.rdr] at h⊢;have h1:=hl.1.len;have h2:=hk r' (by simp)
  have:k=k':=by rw[<-h.1,h1,h2]
  subst this;exact⟨h2,hl.1.leP.rdp _ _ _ h.2.1,LeR.rdr hl.2 (fun x hx=>hk x (by simp[hx])) _ _ _ h.2.2⟩
theorem Qbf{nz:Bool}{k k':Nat}{a b:List (List D)}(h:LeR a b)(hk: ∀r∈b,r.length=k'):Le (.sl nz k a) (.sl false k' b):=by
 intro ok hp v hv;simp only[Ae.rd] at hv⊢;rcases hv with ⟨h1,h2⟩|⟨bb,p,cap,vs,T,fr,h1,h2,h3,h4,h5,h6,h7⟩
 .subst h2;cases b with
  |nil=>exact .inl ⟨slM_false h1,rfl⟩
  |cons _ _=>exact h.elim
 .exact .inr ⟨bb,p,cap,vs,T,fr,by rw[<-h.len];exact h1,by simp,by rw[<-h.len];exact h3,by rw[<-h.len];exact h4,h5,h6,h.rdr hk _ _ _ h7⟩
theorem Qos{g:FuncId}{a b:List D}(h:LeS a b):Le (.fn g [] a) (.fn g [] b):=by
 intro ok hp v hv;simp only[Ae.rd] at hv⊢;obtain⟨x,y,h1,h2,h3⟩:=hv;exact⟨x,y,h1,h2,h.rdl _ _ _ h3⟩
theorem le_fn1{g:FuncId}{a b:List D}(h:LeS a b):Le (.fn g a []) (.fn g b []):=by
 intro ok hp v hv;simp only[rd] at hv⊢;obtain⟨x,c,rfl,h1,h2⟩:=hv;exact⟨x,c,rfl,h.rdl _ _ _ h1,h2⟩
theorem Qil{a b:List D}(h:LeP a b):Le (.ref a) (.ref b):=by
 intro ok hp v hv;simp only[Ae.rd] at hv⊢;obtain⟨bb,p,vs,T,fr,h1,h2,h3,h4⟩:=hv;exact⟨bb,p,vs,T,fr,h1,h2,h3,h.rdp _ _ _ h4⟩
def decR{A:Type}(f:List D->Option A):List (List D)->Option (List A)
 |[]=>some []
 |r::rs=>match f r,decR f rs with
  |some x,some xs=>some (x::xs)
  |_,_=>none
theorem Qb4{A:Type}{f:List D->Option A}{e:A->List D}(h: ∀x,f (e x)=some x): ∀(l:List A),decR f (l.map e)=some l
 |[]=>rfl
 |x::l=>by simp only[Zaq,decR,h x,Qb4 h l]
theorem Qahq{A:Type}{f:List D->Option A}: ∀(a b:List (List D)),decR f (a++b)=(decR f a).bind fun xs=>(decR f b).map fun ys=>xs++ys
 |[],b=>by cases h:decR f b<;>simp[decR,h]
 |r::a,b=>by
  simp only[ZaA,decR,Qahq a b];cases f r<;>cases decR f a<;>cases decR f b<;>simp
theorem Qa2{A:Type}{f:List D->Option A}{e:A->List D}(h: ∀ds x,f ds=some x->LeS ds (e x)): ∀(rows:List (List D)) (l:List A),decR f rows=some l->LeR rows (l.map e)
 |[],l,hl=>by simp only[decR,Zae] at hl;subst hl;trivial
 |r::rs,l,hl=>by
  simp only[decR] at hl;split at hl
  .rename_i x xs hx hxs;obtain rfl:=Zac hl;exact⟨h r x hx,Qa2 h rs xs hxs⟩
  .cases hl
abbrev Row:=List AV->(Nat->Option Ent)->Nat->Kont->Prop
def tab:List (Nat×Row)->Qbh
 |[],_,_,_,_,_=>False
 |p::r,g,args,h,nx,K=>if p.1=g then p.2 args h nx K else tab r g args h nx K
def Qas(P:Program)(g:Nat)(c:Row):Prop:= ∀args h nx K,c args h nx K->Qkt P g/\ ∃r E,CallT P g args h nx r E/\K r E
theorem Qaaq{P:Program}: ∀(l:List (Nat×Row)),(∀p∈l,Qas P p.1 p.2)->Qkj P (tab l)
 |[],_=>fun _ _ _ _ _ h=>h.elim
 |p::r,hl=>by
  intro g args h nx K hk;simp only[tab] at hk;split at hk
  .rename_i he;subst he;exact hl p (by simp) args h nx K hk
  .exact Qaaq r (fun q hq=>hl q (by simp[hq])) g args h nx K hk
def calb(P:Program)(g:Nat):Bool:=match P.funcs[g]? with
 |some fn=>Nat.blt g 1000000000 && (!(fn.name== "runtime.NumGoroutine") && !fn.body.isNone)
 |none=>false
theorem Qh7{P:Program}{g:Nat}(h:calb P g=true):Qkt P g:=by
 unfold calb at h;split at h
 .rename_i fn hf;simp only[Zah,ZbZ] at h;exact⟨by simpa using h.1,fn,hf,h.2.1,h.2.2⟩
 .cases h
inductive PK where
 |val (d:D)
 |ptr (cs:List D)
def Qcq:Nat->List PK->List AV
 |_,[]=>[]
 |j,.val d::r=> .im d::Qcq j r
 |j,.ptr _::r=> .ptr j 0::Qcq (j+1) r
def Qc5:Nat->List PK->Qan
 |_,[]=>[]
 |j,.val _::r=>Qc5 j r
 |j,.ptr cs::r=>(j,(false,.view cs))::Qc5 (j+1) r
def cnum:List PK->Nat
 |[]=>0
 | .val _::r=>cnum r
 | .ptr _::r=>cnum r+1
def PKc(S:Env):PK->Value->Prop
 | .val d,v=>rd S.ok S.hp d v
 | .ptr cs,v=> ∃b p vs T fr,v= .pointer (some ⟨b,p,none⟩)/\b<S.w.heap.size/\S.hp b=some (.cells vs T fr)/\rdp S.ok S.hp cs (vs.toList.drop p)
def PKL(S:Env):List PK->List Value->Prop
 |[],vs=>vs=[]
 |p::ps,vs=> ∃v r,vs=v::r/\PKc S p v/\PKL S ps r
def LeK:PK->PK->Prop
 | .val d,.val d'=>Le d d'
 | .ptr a,.ptr b=>LeP a b
 | .val _,.ptr _=>False
 | .ptr _,.val _=>False
def LeKL:List PK->List PK->Prop
 |[],[]=>True
 |p::r,p'::r'=>LeK p p'/\LeKL r r'
 |[],_::_=>False
 |_::_,[]=>False
theorem LeK.c{S:Env}{p p':PK}{v:Value}(h:LeK p p')(hv:PKc S p v):PKc S p' v:=by
 cases p<;>cases p'<;>simp only[LeK] at h<;>simp only[PKc] at hv⊢
 .exact h _ _ _ hv
 .obtain⟨b,p,vs,T,fr,h1,h2,h3,h4⟩:=hv;exact⟨b,p,vs,T,fr,h1,h2,h3,h.rdp _ _ _ h4⟩
theorem LeKL.c{S:Env}: ∀{a b:List PK} {vs:List Value},LeKL a b->PKL S a vs->PKL S b vs
 |[],[],_,_,h=>h
 |_::_,_::_,vs,hl,h=>by
  simp only[PKL] at h⊢;obtain⟨v,r,rfl,h1,h2⟩:=h;exact⟨v,r,rfl,hl.1.c h1,LeKL.c hl.2 h2⟩
theorem LeK.refl(p:PK):LeK p p:=by cases p;exact Le.refl _;exact LeP.refl _
theorem LeKL.refl: ∀(a:List PK),LeKL a a
 |[]=>trivial
 |p::a=>⟨LeK.refl p,LeKL.refl a⟩
theorem PKL.len{S:Env}: ∀{ps:List PK} {vs:List Value},PKL S ps vs->vs.length=ps.length
 |[],vs,h=>by simp only[PKL] at h;simp[h]
 |_::_,vs,h=>by
  simp only[PKL] at h;obtain⟨v,r,rfl,_,h2⟩:=h;simp[PKL.len h2]
theorem Qee: ∀(j:Nat) (ps:List PK),(Qcq j ps).length=ps.length
 |_,[]=>rfl
 |j,.val _::r=>by simp[Qcq,Qee j r]
 |j,.ptr _::r=>by simp[Qcq,Qee (j+1) r]
theorem Qbm: ∀(j:Nat) (ps:List PK) (n:Nat) (e:Ent),hget (Qc5 j ps) n=some e->(j<=n/\n<j+cnum ps)/\ ∃cs,e=(false,.view cs)
 |_,[],n,e,h=>by simp[Qc5,hget] at h
 |j,.val _::r,n,e,h=>by simpa[Qc5,cnum] using Qbm j r n e h
 |j,.ptr cs::r,n,e,h=>by
  simp only[Qc5,hget] at h;simp only[cnum];cases hq:j==n<;>rw[hq] at h
  .obtain⟨h1,h2⟩:=Qbm (j+1) r n e (by simpa using h);exact⟨by omega,h2⟩
  .have:j=n:=by simpa using hq
   simp only[Zbf,Zae] at h;exact⟨by omega,cs,h.symm⟩
theorem Qic: ∀(j:Nat) (ps:List PK) (n:Nat),j+cnum ps<=n-> ∀m∈nmsL (Qcq j ps),m<n
 |_,[],n,_,m,hm=>by simp[Qcq,nmsL] at hm
 |j,.val _::r,n,h,m,hm=>by
  simp only[Qcq,nmsL,AV.nms,Zbi] at hm;exact Qic j r n h m hm
 |j,.ptr _::r,n,h,m,hm=>by
  simp only[Qcq,nmsL,AV.nms,Zan,Zal] at hm;simp only[cnum] at h;rcases hm with rfl|hm
  .omega
  .exact Qic (j+1) r n (by omega) m hm
theorem Qob{S:Env}: ∀(ps:List PK) (vs:List Value) (j:Nat),PKL S ps vs-> ∃ls:Nat->Option Loc,
 (∀n e,hget (Qc5 j ps) n=some e-> ∃l,ls n=some l/\l.b<S.w.heap.size/\objc S (some l) e.2)/\
 ∀(S0:Env),S0.ok=S.ok->S0.w=S.w->(∀n,(∃e,hget (Qc5 j ps) n=some e)->S0.ρ n=ls n/\S0.h n=hget (Qc5 j ps) n)->Qa0 S0 (Qcq j ps) vs
 |[],vs,j,h=>by
  simp only[PKL] at h;exact⟨fun _=>none,fun n e he=>by simp[Qc5,hget] at he,fun S0 _ _ _=>by simp only[Qcq,Qa0];exact h⟩
 | .val d::ps,vs,j,h=>by
   simp only[PKL] at h;obtain⟨v,r,rfl,h1,h2⟩:=h;obtain⟨ls,h3,h4⟩:=Qob ps r j h2;refine⟨ls,by simpa only[Qc5] using h3,?_⟩;intro S0 hok hw hS;simp only[Qcq,Qa0,conc];refine⟨v,r,rfl,?_,h4 S0 hok hw (by simpa only[Qc5] using hS)⟩
   have:S0.hp=S.hp:=by unfold Env.hp;rw[hw]
   rw[hok,this];exact h1
 | .ptr cs::ps,vs,j,h=>by
   simp only[PKL] at h;obtain⟨v,r,rfl,h1,h2⟩:=h;obtain⟨ls,h3,h4⟩:=Qob ps r (j+1) h2;obtain⟨b,p,cells,T,fr,rfl,hb,hc,hr⟩:=h1;refine⟨fun n=>if n=j then some ⟨b,p,0⟩ else ls n,?_,?_⟩
   .intro n e he;simp only[Qc5,hget] at he;cases hq:j==n<;>rw[hq] at he
    .have:n≠j:=fun h'=>by subst h';simp at hq
     simp only[Zaj this];exact h3 n e (by simpa using he)
    .have:n=j:=(by simpa using hq:j=n).symm
     simp only[Zbf,Zae] at he;subst he;simp only[Zao this];refine⟨_,rfl,hb,?_⟩;simp only[objc];exact⟨_,cells,T,fr,rfl,hc,hr⟩
   .intro S0 hok hw hS;simp only[Qcq,Qa0,conc];refine⟨_,r,rfl,⟨rfl,?_⟩,h4 S0 hok hw ?_⟩
    .intro e he;have hj:=hS j ⟨(false,.view cs),by simp only[Qc5,hget,ZeO,Zbf]⟩;rw[hj.1];simp
    .rintro n ⟨e,he⟩;have hn:=(Qbm (j+1) ps n e he).1;have hne:n≠j:=by omega
     have hq:(j==n)=false:=by rw[Zbs];exact fun h=>hne h.symm
     have:=hS n ⟨e,by simp only[Qc5,hget,hq,ZaS];exact he⟩
     simp only[Zaj hne,Qc5,hget,hq,ZaS] at this;exact this
theorem view_run{P:Program}(HM:P.follows .mixedOrders=true){V:Qbh}(hV:Qkj P V){g:FuncId}{fn:Func}{c:Code}(hf:P.funcs[g]? =some fn)(hb:fn.body=some c)(hchk:chk fn.ntmps c=true)
 {ps:List PK}(hlen:ps.length<=fn.ntmps){R:RetR}{r0:D}(hR: ∀r H n,R r H n-> ∃d,r= .im d/\Le d r0)
 (hk:awp P V c (retQ P fn.results.toList (cnum ps) [] exNo (Qc5 0 ps) R) ⟨entry 0 (Qcq 0 ps),Qc5 0 ps,cnum ps⟩)
 {C:Ctx}{S:Env}{vs:Array Value}{RR:Ending->World->Prop}(hW:Wf C S)(hps:PKL S ps vs.toList)
 (hfin: ∀v S',Wf C S'->S'.h=S.h->Pres (fun _=>True) S S'->rd S'.ok S'.hp r0 v->RR (.returned v) S'.w):Calls P g vs S.w RR:=by
 refine calls_of_wp hf hb ?_;have hvs:vs.size=(Qcq 0 ps).length:=by rw[Qee];simpa using hps.len
 obtain⟨ls,hls,hcl⟩:=Qob ps vs.toList 0 hps
 let S0:Env:=⟨ls,S.ok,hget (Qc5 0 ps),S.w⟩
 let C0:Ctx:=⟨S.w,fun _=>False,S.ok,0,fun _=>none,fun _=>none,[]⟩
 have hW0:Wf C0 S0:=by
  refine⟨rfl,rfl,rfl,Zap _,fun _ _ _=>rfl,fun _ hb=>hb,fun _ hb=> .inl hb,hW.oks,?_,?_,?_,hW.glN fun _ h=>h.elim⟩
  .intro n e he;obtain⟨l,h1,_,h3⟩:=hls n e he;have h4:S0.ρ n=some l:=h1;rw[h4];obtain⟨_,cs,rfl⟩:=Qbm 0 ps n e he;simp only[objc] at h3⊢;exact h3
  .intro n e l he hl;obtain⟨l',h1,h2,h3⟩:=hls n e he;have h4:S0.ρ n=some l':=h1;rw[h4] at hl;obtain rfl:=Zac hl;obtain⟨_,cs,rfl⟩:=Qbm 0 ps n e he;exact⟨h2,.inr rfl⟩
  .intro n n' e e' l l' he he' hl hl' hbb hfl;obtain⟨_,cs,rfl⟩:=Qbm 0 ps n e he;obtain⟨_,cs',rfl⟩:=Qbm 0 ps n' e' he';simp at hfl
 have hc0:Con C0 fn.ntmps ⟨entry 0 (Qcq 0 ps),Qc5 0 ps,cnum ps⟩ {tmps:=vs++Array.replicate (fn.ntmps - vs.size) undef,defers:=[]} S.w:=by
  have hargs0:Qa0 S0 (Qcq 0 ps) vs.toList:=hcl S0 rfl rfl (fun n _=>⟨rfl,rfl⟩);refine⟨S0,rfl,hW0,fun n=>rfl,?_,?_,?_,by simp;rw[Qee] at hvs;omega,rfl,ZaU _,fun o ho=>absurd ho (ZdO _)⟩
  .intro t;have h1:=Qev (S:=S0) (Qcq 0 ps) vs.toList 0 t hargs0;simp only[ZaU,ZaQ,ZdJ] at h1
   have:({tmps:=vs++Array.replicate (fn.ntmps - vs.size) undef,defers:=[]}:Act).eval (.tmp t)=(vs.toList[t]?).getD undef:=by
    simp only[Act.eval,ZaR,Zdc,Zcm];by_cases ht:t<vs.size
    .simp[ht]
    .simp only[ht,Zby]
     have:vs[t]? =none:=Zcd (by omega)
     simp only[Zbe,this]
     split<;>rfl
   rw[this];exact h1
  .intro t m hm;exact Qic 0 ps (cnum ps) (by omega) m (Qgh (Qcq 0 ps) 0 t m hm)
  .intro n e he;obtain⟨h1,cs,rfl⟩:=Qbm 0 ps n e he;exact⟨by show n<cnum ps;omega,by simp[AObj.nms]⟩
 refine wp_mono (Qo4 HM (Qvp hV) c hchk _ _ _ _ hk hc0) ?_;have fin: ∀(s:Qad) (a:Act) (w:World),retO P fn.results.toList (cnum ps) [] exNo (Qc5 0 ps) R s->Con C0 fn.ntmps s a w->a.defers=[]/\ ∃v,(results fn a.tmps).run P w= .ok v w/\RR (.returned v) w:=by
  rintro s a w hr ⟨S1,rfl,hc⟩;unfold retO at hr;cases hxs:mapO (Qj3 P s) fn.results.toList with
  |none=>rw[hxs] at hr;exact hr.elim
  |some xs=>
   rw[hxs] at hr;simp only[retO1] at hr;obtain⟨v,hrun,hconc⟩:=Qe7 hc hxs;refine⟨hc.defers,v,hrun,?_⟩;obtain⟨_,_,hr3⟩:=hr;have hSh:hget s.h=S1.h:=(funext hc.h).symm;rw[hSh] at hr3
   let kx:=kxOf (cnum ps) (exNo s (resV xs))
   have hWi:Wf C0 (S1.ice fun _=>false):=Qje hc.wf;have hfo: ∀(f:AV->Option D) (o:Nat),Qho f ((S1.ice fun _=>false).h o)=Qho f (S1.h o)/\Qsj ((S1.ice fun _=>false).h o)=Qsj (S1.h o)/\Qlb f ((S1.ice fun _=>false).h o)=Qlb f (S1.h o):=by
    intro f o;rw[show (S1.ice fun _=>false).h o=(S1.h o).map fun e=>(e.1 && false,e.2) from rfl];cases S1.h o with
    |none=>exact⟨rfl,rfl,rfl⟩
    |some e=>obtain⟨mu,e⟩:=e;cases e<;>exact⟨rfl,rfl,rfl⟩
   have hcvt: ∀(n:Nat),cvt (S1.ice fun _=>false).h kx n=cvt S1.h kx n:=by
    intro n;induction n with
    |zero=>funext x;simp[cvt]
    |succ n ih=>
     funext x;cases x with
     |own o=>simp only[cvt,ih,(hfo _ o).1]
     |mp o=>simp only[cvt,(hfo (fun _=>none) o).2.1]
     |ptr o p=>cases p<;>simp only[cvt,ih,(hfo _ o).2.2]
     |_=>simp only[cvt,ih]
   cases hcv:cvt S1.h kx 9 (resV xs) with
   |none=>rw[hcv] at hr3;exact hr3.elim
   |some r=>
    rw[hcv] at hr3;have hRr: ∃H n,R r H n:=by
     simp only[exNo,outKl,outEx,appO,retO3] at hr3;exact⟨_,_,hr3⟩
    obtain⟨H,n,hRr⟩:=hRr;obtain⟨d,rfl,hle⟩:=hR _ _ _ hRr;have hrd:=cvt_rd hWi (kx:=kx) (fun o e l _ he hv hl=>Qqe hc.wf rfl he hv hl) 9 (resV xs) d v (by rw[hcvt];exact hcv) (Qbt (Qb0 S1 _) _ _ (fun _ _=>trivial) hconc);have h1:=hWi;have hkeep: ∀b,b<S.w.heap.size->S1.w.heap[b]? =S.w.heap[b]? :=fun b hb=>hc.wf.keep b hb (fun h=>h)
    let S':Env:={S with ok:=(S1.ice fun _=>false).ok,w:=S1.w}
    have hp:Pres (fun _=>True) S S':=⟨fun b hb=>⟨h1.ok0 b hb,hkeep b (hW.oks b hb)⟩,fun o _ e' he'=>⟨e',he',rfl,rfl,rfl⟩⟩;have hW':Wf C S':=by
     refine⟨h1.os.trans hW.os,h1.tape.trans hW.tape,h1.output.trans hW.output,Zbd hW.size h1.size,?_,fun b hb=>h1.ok0 b (hW.ok0 b hb),?_,h1.oks,?_,?_,hW.inj,hW.gl⟩
     .intro b hb hM;exact (hkeep b (Zbn hb hW.size)).trans (hW.keep b hb hM)
     .intro b hb;rcases h1.ok1 b hb with h|h|h
      .exact hW.ok1 b h
      .exact .inr (.inl (Zbd hW.size h))
      .exact h.elim
     .intro o e he;exact Qbr hp (fun lc hl=>hkeep lc.b (hW.loc o e lc he hl).1) _ (fun _ _=>trivial) (hW.obj o e he)
     .intro o e l he hl;obtain⟨h2,h3⟩:=hW.loc o e l he hl;refine⟨Zbn h2 h1.size,?_⟩;cases hm:e.1 with
      |false=>
       rw[hm] at h3;simp only[ZaB,Zby] at h3⊢;exact h3.imp (h1.ok0 _) id
      |true=>
       rw[hm] at h3;simp only[ZaQ] at h3⊢;refine⟨fun hok=> ?_,h3.2⟩;rcases h1.ok1 _ hok with h|h|h
       .exact h3.1 h
       .have h:S.w.heap.size<=l.b:=h;omega
       .exact h.elim
    exact hfin v S' hW' rfl hp (hle _ _ _ hrd)
 intro e a w he;cases e<;>simp only[toQ] at he<;>simp only[bodyPost]
 .obtain⟨s,hs,hc⟩:=he;exact fin s a w hs hc
 .obtain⟨s,hs,_⟩:=he;exact hs.elim
 .obtain⟨s,hs,hc⟩:=he;exact fin s a w hs hc
def fzO(o:Nat):Option Ent->Option (D×Qan)
 |some (mu,.arr T k rows)=>some (.sl false k rows,bif mu then [(o,(false,.arr T k rows))] else [])
 |some (_,.cells _ _)=>none
 |some (_,.arrA _ _ _)=>none
 |some (_,.map _ _)=>none
 |some (_,.chan _ _)=>none
 |some (_,.iter _ _)=>none
 |some (_,.view _)=>none
 |none=>none
def fzM(o:Nat):Option Ent->Option (D×Qan)
 |some (mu,.map kt es)=>some (.mp kt es,bif mu then [(o,(false,.map kt es))] else [])
 |some (_,.cells _ _)=>none
 |some (_,.arr _ _ _)=>none
 |some (_,.arrA _ _ _)=>none
 |some (_,.chan _ _)=>none
 |some (_,.iter _ _)=>none
 |some (_,.view _)=>none
 |none=>none
def fzG(f:List D->D):Option (List D×Qan)->Option (D×Qan)
 |some (ds,F)=>some (f ds,F)
 |none=>none
mutual
def fzD(h:Nat->Option Ent):AV->Option (D×Qan)
 | .im d=>some (d,[])
 | .own o=>fzO o (h o)
 | .mp o=>fzM o (h o)
 | .agg cs=>fzG .agg (fzL h cs)
 | .tup cs=>fzG .tup (fzL h cs)
 | .any=>none
 | .ptr _ _=>none
 | .eptr _ _ _=>none
 | .ch _=>none
 | .it _=>none
 | .osl _ _ _=>none
 | .clo _ _ _=>none
def fzL(h:Nat->Option Ent):List AV->Option (List D×Qan)
 |[]=>some ([],[])
 |x::r=>cpC (fzD h x) (fzL h r)
end
def pkD:Option (D×Qan)->Option (PK×Qan)
 |some (d,F)=>some (.val d,F)
 |none=>none
def pkI:D->PK
 | .ref cs=> .ptr cs
 | .int k n=> .val (.int k n)
 | .bool b=> .val (.bool b)
 | .str s=> .val (.str s)
 | .nilp=> .val .nilp
 | .nilf=> .val .nilf
 | .nili=> .val .nili
 | .nilc=> .val .nilc
 | .nilm=> .val .nilm
 | .agg cs=> .val (.agg cs)
 | .tup cs=> .val (.tup cs)
 | .sl nz k rows=> .val (.sl nz k rows)
 | .mp kt es=> .val (.mp kt es)
 | .fn f a b=> .val (.fn f a b)
 | .ifc t d=> .val (.ifc t d)
 | .gp g=> .val (.gp g)
 | .tok g=> .val (.tok g)
def pkC:Option (List D)->Option (PK×Qan)
 |some ds=>some (.ptr ds,[])
 |none=>none
def pkO(off:Nat):Option Ent->Option (PK×Qan)
 |some (_,.cells _ cs)=>pkC (Qcr (cs.drop off))
 |some (_,.view cs)=>some (.ptr (cs.drop off),[])
 |some (_,.arr _ _ _)=>none
 |some (_,.arrA _ _ _)=>none
 |some (_,.map _ _)=>none
 |some (_,.chan _ _)=>none
 |some (_,.iter _ _)=>none
 |none=>none
def pk1(h:Nat->Option Ent):AV->Option (PK×Qan)
 | .im d=>some (pkI d,[])
 | .ptr o off=>pkO off (h o)
 | .own o=>pkD (fzD h (.own o))
 | .mp o=>pkD (fzD h (.mp o))
 | .agg cs=>pkD (fzD h (.agg cs))
 | .tup cs=>pkD (fzD h (.tup cs))
 | .any=>none
 | .eptr _ _ _=>none
 | .ch _=>none
 | .it _=>none
 | .osl _ _ _=>none
 | .clo _ _ _=>none
def Qo3:Option (PK×Qan)->Option (List PK×Qan)->Option (List PK×Qan)
 |some (p,F),some (ps,G)=>some (p::ps,F++G)
 |some _,none=>none
 |none,_=>none
def pkL(h:Nat->Option Ent):List AV->Option (List PK×Qan)
 |[]=>some ([],[])
 |x::r=>Qo3 (pk1 h x) (pkL h r)
def decK{A:Type}(K:A->Prop):Option A->Prop
 |some a=>K a
 |none=>False
def frE(u:List Nat):Qan->Eff
 |[]=>{use:=u}
 |e::r=>{use:=u,kill:=(e::r).map (·.1),new:=e::r}
def Qa1{A:Type}(ar:List PK->Option A)(pre:A->Prop)(re:A->D)(u:List Nat)(K:Kont):Option (List PK×Qan)->Prop
 |some (ps,F)=>decK (fun a=>pre a/\K (.im (re a)) (frE u F)) (ar ps)
 |none=>False
def vrow{A:Type}(ar:List PK->Option A)(pre:A->Prop)(re:A->D):Row:=fun args h _ K=>Qa1 ar pre re (nmsL args) K (pkL h args)
def FzOk(S:Env)(F:Qan):Prop:= ∀n e,(n,e)∈F-> ∃mu,S.h n=some (mu,e.2)/\e.1=false
theorem FzOk.app{S:Env}{F G:Qan}(h1:FzOk S F)(h2:FzOk S G):FzOk S (F++G):=by
 intro n e he;rcases Zan.1 he with he|he
 .exact h1 n e he
 .exact h2 n e he
def XF(F:Qan)(X:Nat->Bool):Prop:= ∀n∈F.map (·.1),X n=false
theorem XF.app{F G:Qan}{X:Nat->Bool}(h:XF (F++G) X):XF F X/\XF G X:=by
 unfold XF at*;simp only[ZaT,Zan] at h;exact⟨fun n hn=>h n (.inl hn),fun n hn=>h n (.inr hn)⟩
section
variable {C:Ctx}{S:Env}{h:Nat->Option Ent}
theorem fzO_spec(hW:Wf C S){o:Nat}{d:D}{F:Qan}{v:Value}(hh:S.h o=h o)(hd:fzO o (h o)=some (d,F))(hc:conc S (.own o) v):FzOk S F/\ ∀X,XF F X->rd (S.ice X).ok (S.ice X).hp d v:=by
 cases ho:h o with
 |none=>rw[ho] at hd;simp[fzO] at hd
 |some e=>
  obtain⟨mu,e⟩:=e;rw[ho] at hd hh;cases e<;>simp only[fzO,reduceCtorEq] at hd;rename_i T k rows;simp only[Zae,Zbg] at hd;obtain⟨rfl,rfl⟩:=hd;refine⟨?_,fun X hX=> ?_⟩
  .cases mu with
   |false=>intro n e he;cases he
   |true=>
    intro n e he;simp only[Zbf,Zal,Zbg] at he;obtain⟨rfl,rfl⟩:=he;exact⟨true,hh,rfl⟩
  .have hWi:Wf C (S.ice X):=Qje hW;have hc':=Qbt (Qb0 S X) _ _ (fun _ _=>trivial) hc;have he:(S.ice X).h o=some (mu && X o,.arr T k rows):=by
    show (S.h o).map _=_;rw[hh];rfl
   refine frz_own (f:=fun _=>none) hWi (fun x d v hx=>by cases hx) ?_ (by rw[he];rfl) hc';intro e' l he' hv hl;cases mu with
   |true=>exact Qqe hW (hX o (by simp)) he' hv hl
   |false=>
    rw[he] at he';obtain rfl:=Zac he'
    have:=(hWi.loc o _ l he hl).2
    simp only[Zbu,ZaB,Zby] at this;rcases this with h1|h1
    .exact h1
    .cases h1
theorem fzM_spec(hW:Wf C S){o:Nat}{d:D}{F:Qan}{v:Value}(hh:S.h o=h o)(hd:fzM o (h o)=some (d,F))(hc:conc S (.mp o) v):FzOk S F/\ ∀X,XF F X->rd (S.ice X).ok (S.ice X).hp d v:=by
 cases ho:h o with
 |none=>rw[ho] at hd;simp[fzM] at hd
 |some e=>
  obtain⟨mu,e⟩:=e;rw[ho] at hd hh;cases e<;>simp only[fzM,reduceCtorEq] at hd;rename_i kt es;simp only[Zae,Zbg] at hd;obtain⟨rfl,rfl⟩:=hd;refine⟨?_,fun X hX=> ?_⟩
  .cases mu with
   |false=>intro n e he;cases he
   |true=>
    intro n e he;simp only[Zbf,Zal,Zbg] at he;obtain⟨rfl,rfl⟩:=he;exact⟨true,hh,rfl⟩
  .have hWi:Wf C (S.ice X):=Qje hW;have hc':=Qbt (Qb0 S X) _ _ (fun _ _=>trivial) hc;have he:(S.ice X).h o=some (mu && X o,.map kt es):=by
    show (S.h o).map _=_;rw[hh];rfl
   refine frz_mp hWi ?_ (by rw[he];rfl) hc';intro e' l he' hv hl;cases mu with
   |true=>exact Qqe hW (hX o (by simp)) he' hv hl
   |false=>
    rw[he] at he';obtain rfl:=Zac he'
    have:=(hWi.loc o _ l he hl).2
    simp only[Zbu,ZaB,Zby] at this;rcases this with h1|h1
    .exact h1
    .cases h1
mutual
theorem Qaai(hW:Wf C S): ∀(x:AV) (d:D) (F:Qan) (v:Value),(∀n∈x.nms,S.h n=h n)->fzD h x=some (d,F)->conc S x v->FzOk S F/\ ∀X,XF F X->rd (S.ice X).ok (S.ice X).hp d v
 | .im d',d,F,v,_,hd,hc=>by
   simp only[fzD,Zae,Zbg] at hd;obtain⟨rfl,rfl⟩:=hd;simp only[conc] at hc;exact⟨(fun n e he=>by cases he),fun X _=>Qb8 (Qb0 S X).ok _ _ hc⟩
 | .own o,d,F,v,hh,hd,hc=>by
   simp only[fzD] at hd;exact fzO_spec hW (hh o (by simp[AV.nms])) hd hc
 | .mp o,d,F,v,hh,hd,hc=>by
   simp only[fzD] at hd;exact fzM_spec hW (hh o (by simp[AV.nms])) hd hc
 | .agg cs,d,F,v,hh,hd,hc=>by
   simp only[fzD] at hd;cases hl:fzL h cs with
   |none=>rw[hl] at hd;cases hd
   |some q=>
    obtain⟨ds,G⟩:=q;rw[hl] at hd;simp only[fzG,Zae,Zbg] at hd;obtain⟨rfl,rfl⟩:=hd;simp only[conc] at hc;obtain⟨vs,rfl,h1⟩:=hc;obtain⟨h2,h3⟩:=Qtb hW cs ds G vs.toList (by simpa only[AV.nms] using hh) hl h1;exact⟨h2,fun X hX=>by simp only[rd];exact⟨vs,rfl,h3 X hX⟩⟩
 | .tup cs,d,F,v,hh,hd,hc=>by
   simp only[fzD] at hd;cases hl:fzL h cs with
   |none=>rw[hl] at hd;cases hd
   |some q=>
    obtain⟨ds,G⟩:=q;rw[hl] at hd;simp only[fzG,Zae,Zbg] at hd;obtain⟨rfl,rfl⟩:=hd;simp only[conc] at hc;obtain⟨vs,rfl,h1⟩:=hc;obtain⟨h2,h3⟩:=Qtb hW cs ds G vs.toList (by simpa only[AV.nms] using hh) hl h1;exact⟨h2,fun X hX=>by simp only[rd];exact⟨vs,rfl,h3 X hX⟩⟩
 | .any,d,F,v,_,hd,_=>by simp[fzD] at hd
 | .ptr _ _,d,F,v,_,hd,_=>by simp[fzD] at hd
 | .eptr _ _ _,d,F,v,_,hd,_=>by simp[fzD] at hd
 | .ch _,d,F,v,_,hd,_=>by simp[fzD] at hd
 | .it _,d,F,v,_,hd,_=>by simp[fzD] at hd
 | .osl _ _ _,d,F,v,_,hd,_=>by simp[fzD] at hd
 | .clo _ _ _,d,F,v,_,hd,_=>by simp[fzD] at hd
theorem Qtb(hW:Wf C S): ∀(xs:List AV) (ds:List D) (F:Qan) (vs:List Value),(∀n∈nmsL xs,S.h n=h n)->fzL h xs=some (ds,F)->Qa0 S xs vs->FzOk S F/\ ∀X,XF F X->rdl (S.ice X).ok (S.ice X).hp ds vs
 |[],ds,F,vs,_,hd,hc=>by
  simp only[fzL,Zae,Zbg] at hd;obtain⟨rfl,rfl⟩:=hd;simp only[Qa0] at hc;exact⟨(fun n e he=>by cases he),fun X _=>by simp only[rdl];exact hc⟩
 |x::xs,ds,F,vs,hh,hd,hc=>by
  simp only[nmsL,Zan] at hh;simp only[fzL] at hd;simp only[Qa0] at hc;obtain⟨v,r,rfl,h1,h2⟩:=hc;cases hx:fzD h x with
  |none=>rw[hx] at hd;simp[cpC] at hd
  |some q=>
   obtain⟨d,E⟩:=q;cases hl:fzL h xs with
   |none=>rw[hx,hl] at hd;simp[cpC] at hd
   |some q2=>
    obtain⟨ds',G⟩:=q2;rw[hx,hl] at hd;simp only[cpC,Zae,Zbg] at hd;obtain⟨rfl,rfl⟩:=hd;obtain⟨a1,a2⟩:=Qaai hW x d E v (fun n hn=>hh n (.inl hn)) hx h1;obtain⟨b1,b2⟩:=Qtb hW xs ds' G r (fun n hn=>hh n (.inr hn)) hl h2;refine⟨a1.app b1,fun X hX=> ?_⟩;obtain⟨c1,c2⟩:=hX.app;simp only[rdl];exact⟨v,r,rfl,a2 X c1,b2 X c2⟩
end
theorem Qyv(hW:Wf C S){d:D}{v:Value}(hd:rd S.ok S.hp d v):PKc S (pkI d) v:=by
 cases d<;>try exact hd
 rename_i cs;simp only[rd] at hd;obtain⟨b,p,vs,T,fr,h1,h2,h3,h4⟩:=hd;exact⟨b,p,vs,T,fr,h1,hW.oks b h2,h3,h4⟩
theorem pk1_spec(hW:Wf C S){x:AV}{p:PK}{F:Qan}{v:Value}(hh: ∀n∈x.nms,S.h n=h n)(hp:pk1 h x=some (p,F))(hc:conc S x v):FzOk S F/\ ∀X,XF F X->PKc (S.ice X) p v:=by
 have key:pkD (fzD h x)=some (p,F)->FzOk S F/\ ∀X,XF F X->PKc (S.ice X) p v:=by
  intro hp;cases hx:fzD h x with
  |none=>rw[hx] at hp;cases hp
  |some q=>
   obtain⟨d,G⟩:=q;rw[hx] at hp;simp only[pkD,Zae,Zbg] at hp;obtain⟨rfl,rfl⟩:=hp;obtain⟨h1,h2⟩:=Qaai hW x d G v hh hx hc;exact⟨h1,h2⟩
 cases x<;>simp only[pk1,reduceCtorEq] at hp
 case im d=>
  simp only[Zae,Zbg] at hp;obtain⟨rfl,rfl⟩:=hp;simp only[conc] at hc;exact⟨(fun n e he=>by cases he),fun X _=>Qyv (Qje hW) (Qb8 (Qb0 S X).ok _ _ hc)⟩
 case ptr o off=>
  have ho:=hh o (by simp[AV.nms]);cases hn:h o with
  |none=>rw[hn] at hp;simp[pkO] at hp
  |some e=>
   obtain⟨mu,e⟩:=e;rw[hn] at hp ho;have hob:=hW.obj o _ ho;simp only[conc] at hc;obtain⟨l,hl,hv⟩:=hc.2 _ ho;have hlt:=(hW.loc o _ l ho hl).1;cases e<;>simp only[pkO,reduceCtorEq] at hp
   case cells T cs=>
    cases ha:Qcr (cs.drop off) with
    |none=>rw[ha] at hp;cases hp
    |some ds=>
     rw[ha] at hp;simp only[pkC,Zae,Zbg] at hp;obtain⟨rfl,rfl⟩:=hp;refine⟨(fun n e he=>by cases he),fun X _=> ?_⟩;simp only[objc] at hob;obtain⟨lc,vs,h1,h2,h3,h4⟩:=hob;rw[hl] at h1;obtain rfl:=Zac h1;simp only[PKc];refine⟨l.b,l.p+off,vs,_,_,hv,hlt,h3,?_⟩;rw[h2,ZbR];have h5:Qa0 S (cs.drop off) (vs.toList.drop off):=by
      have: ∀(n:Nat) (a:List AV) (b:List Value),Qa0 S a b->Qa0 S (a.drop n) (b.drop n):=by
       intro n;induction n with
       |zero=>intro a b h;simpa using h
       |succ n ih=>
        intro a b h;cases a with
        |nil=>simp only[Qa0] at h;subst h;simp[Qa0]
        |cons x a=>
         simp only[Qa0] at h;obtain⟨v,r,rfl,_,h⟩:=h;simpa using ih a r h
      exact this off cs _ h4
     exact Qse ds _ (Qcu (Qb0 S X).ok _ _ (Qov _ ds _ ha h5))
   case view cs=>
    simp only[Zae,Zbg] at hp;obtain⟨rfl,rfl⟩:=hp;refine⟨(fun n e he=>by cases he),fun X _=> ?_⟩;simp only[objc] at hob;obtain⟨lc,vs,T,fr,h1,h2,h3⟩:=hob;rw[hl] at h1;obtain rfl:=Zac h1;simp only[PKc];refine⟨l.b,l.p+off,vs,T,fr,hv,hlt,h2,?_⟩;rw[<-Zbh]
    have: ∀(n:Nat) (a:List D) (b:List Value),rdp S.ok S.hp a b->rdp S.ok S.hp (a.drop n) (b.drop n):=by
     intro n;induction n with
     |zero=>intro a b h;simpa using h
     |succ n ih=>
      intro a b h;cases a with
      |nil=>simp[rdp]
      |cons x a=>
       simp only[rdp] at h;obtain⟨v,r,rfl,_,h⟩:=h;simpa using ih a r h
    exact Qfm (Qb0 S X).ok _ _ (this off cs _ h3)
 all_goals exact key hp
theorem Qaax(hW:Wf C S): ∀(xs:List AV) (ps:List PK) (F:Qan) (vs:List Value),(∀n∈nmsL xs,S.h n=h n)->pkL h xs=some (ps,F)->Qa0 S xs vs->FzOk S F/\ ∀X,XF F X->PKL (S.ice X) ps vs
 |[],ps,F,vs,_,hd,hc=>by
  simp only[pkL,Zae,Zbg] at hd;obtain⟨rfl,rfl⟩:=hd;simp only[Qa0] at hc;exact⟨(fun n e he=>by cases he),fun X _=>by simp only[PKL];exact hc⟩
 |x::xs,ps,F,vs,hh,hd,hc=>by
  simp only[nmsL,Zan] at hh;simp only[pkL] at hd;simp only[Qa0] at hc;obtain⟨v,r,rfl,h1,h2⟩:=hc;cases hx:pk1 h x with
  |none=>rw[hx] at hd;simp[Qo3] at hd
  |some q=>
   obtain⟨p,E⟩:=q;cases hl:pkL h xs with
   |none=>rw[hx,hl] at hd;simp[Qo3] at hd
   |some q2=>
    obtain⟨ps',G⟩:=q2;rw[hx,hl] at hd;simp only[Qo3,Zae,Zbg] at hd;obtain⟨rfl,rfl⟩:=hd;obtain⟨a1,a2⟩:=pk1_spec hW (fun n hn=>hh n (.inl hn)) hx h1;obtain⟨b1,b2⟩:=Qaax hW xs ps' G r (fun n hn=>hh n (.inr hn)) hl h2;refine⟨a1.app b1,fun X hX=> ?_⟩;obtain⟨c1,c2⟩:=hX.app;simp only[PKL];exact⟨v,r,rfl,a2 X c1,b2 X c2⟩
end
theorem frE_parts(u:List Nat)(F:Qan):(frE u F).use=u/\(frE u F).kill=F.map (·.1)/\(frE u F).new=F/\(frE u F).cnt=0:=by
 cases F<;>exact⟨rfl,rfl,rfl,rfl⟩
def decA{B:Type}(rc:D->Option B)(b:B):AV->Prop
 | .im d=>rc d=some b
 | .any=>False
 | .agg _=>False
 | .tup _=>False
 | .ptr _ _=>False
 | .eptr _ _ _=>False
 | .own _=>False
 | .mp _=>False
 | .ch _=>False
 | .it _=>False
 | .osl _ _ _=>False
 | .clo _ _ _=>False
def pureR{B:Type}(rc:D->Option B)(b:B):RetR:=fun r _ _=>decA rc b r
theorem Qaj{P:Program}(HM:P.follows .mixedOrders=true){V:Qbh}(hV:Qkj P V){g:FuncId}{fn:Func}{c:Code}(hf:P.funcs[g]? =some fn)(hb:fn.body=some c)(hchk:chk fn.ntmps c=true)(hcal:calb P g=true)
 {A B:Type}{ar:List PK->Option A}{ae:A->List PK}(hle: ∀ps a,ar ps=some a->LeKL ps (ae a)){n:Nat}(hn: ∀a,(ae a).length=n)(hnt:n<=fn.ntmps){rc:D->Option B}{re:B->D}(hrc: ∀d b,rc d=some b->Le d (re b))
 {pre:A->Prop}{f:A->B}
 (hk: ∀a,pre a->awp P V c (retQ P fn.results.toList (cnum (ae a)) [] exNo (Qc5 0 (ae a)) (pureR rc (f a))) ⟨entry 0 (Qcq 0 (ae a)),Qc5 0 (ae a),cnum (ae a)⟩):
 Qas P g (vrow ar pre fun a=>re (f a)):=by
 intro args h nx K hrow;unfold vrow at hrow;cases hp:pkL h args with
 |none=>rw[hp] at hrow;exact hrow.elim
 |some q=>
  obtain⟨ps,F⟩:=q;rw[hp] at hrow;simp only[Qa1] at hrow;cases ha:ar ps with
  |none=>rw[ha] at hrow;exact hrow.elim
  |some a=>
   rw[ha] at hrow;simp only[decK] at hrow;obtain⟨hpre,hK⟩:=hrow;refine⟨Qh7 hcal,_,_,?_,hK⟩;obtain⟨e1,e2,e3,e4⟩:=frE_parts (nmsL args) F;intro C S vs RR hW huse hfresh hnames hargs hfin;rw[e1,e2] at huse;obtain⟨h1,h2⟩:=Qaax hW args ps F vs.toList (fun n hn=>huse n (Zbl _ hn)) hp hargs
   let X:Nat->Bool:=fun n=> !(F.map (·.1)).contains n
   have hX:XF F X:=by
    intro n hn;simp only[X,Zbq.2 hn,ZdM]
   have hWi:Wf C (S.ice X):=Qje hW;have happ:(S.ice X).h=(frE (nmsL args) F).appf S.h:=by
    have:=ice_appf (S:=S) (F:=F) (u:=nmsL args) h1
    rw[show (frE (nmsL args) F).appf S.h=({use:=nmsL args,kill:=F.map (·.1),new:=F}:Eff).appf S.h by
     funext m;simp only[Eff.appf,e2,e3]]
    exact this
   refine view_run HM hV hf hb hchk (S:=S.ice X) (ps:=ae a) (r0:=re (f a)) (by rw[hn];exact hnt) ?_ (hk a hpre) hWi ((hle ps a ha).c (h2 X hX)) ?_
   .intro r H n hr;unfold pureR at hr;cases r<;>simp only[decA] at hr;exact⟨_,rfl,hrc _ _ hr⟩
   .intro v S' hW' hh hp' hrd;refine hfin v S' hW' (by rw[hh,happ]) ?_ (by simp only[conc];exact hrd);refine⟨fun b hb=> ?_,fun o _ e' he'=> ?_⟩
    .obtain⟨q1,q2⟩:=(Qb0 S X).ok b hb;obtain⟨q3,q4⟩:=hp'.ok b q1;exact⟨q3,q4.trans q2⟩
    .obtain⟨e,q1,q2,q3,q4⟩:=hp'.nm o trivial e' he';obtain⟨e0,q5,q6,q7,q8⟩:=(Qb0 S X).nm o trivial e q1;exact⟨e0,q5,q2.trans q6,q3.trans q7,q4.trans q8⟩
def sgx(σ:Nat->Nat)(k nx j:Nat):Nat:=if j<k then σ j else nx+(j - k)
def domB(H0:Qan)(o:Nat):Bool:=(hget H0 o).isSome
def kxB(H0:Qan)(k cnt:Nat)(exB:Nat->Bool)(o:Nat):Option Nat:=bif domB H0 o||(exB o && (Nat.ble k o && Nat.blt o (k+cnt))) then some o else none
def entOk(f:AV->Option AV)(e:Ent):Option Ent->Prop
 |some (mu,e0)=>mu=e.1/\cvtE f e0=some e.2
 |none=>False
def Qhk(h:Nat->Option Ent)(f:AV->Option AV):Qan->Prop
 |[]=>True
 |(j,e)::r=>entOk f e (h j)/\Qhk h f r
def roB(h:Nat->Option Ent)(klB:Nat->Bool):Qan->Prop
 |[]=>True
 |(j,e)::r=>(bif klB j then True else h j=some e)/\roB h klB r
def retB3(R:AV->Prop):Option AV->Prop
 |some r=>R r
 |none=>False
def retB2(k cnt:Nat)(H0 H1:Qan)(klB exB:Nat->Bool)(R:AV->Prop)(s:Qad)(x:AV):Prop:=
 roB (hget s.h) klB H0/\retB3 R (cvt (hget s.h) (kxB H0 k cnt exB) 9 x)/\Qhk (hget s.h) (cvt (hget s.h) (kxB H0 k cnt exB) 9) H1
def retB1(k cnt:Nat)(H0 H1:Qan)(klB exB:Nat->Bool)(R:AV->Prop)(s:Qad):Option (List AV)->Prop
 |some xs=>retB2 k cnt H0 H1 klB exB R s (resV xs)
 |none=>False
def retB(P:Program)(rs:List ResultVar)(k cnt:Nat)(H0 H1:Qan)(klB exB:Nat->Bool)(R:AV->Prop)(s:Qad):Prop:=retB1 k cnt H0 H1 klB exB R s (mapO (Qj3 P s) rs)
def Qabl(P:Program)(rs:List ResultVar)(k cnt:Nat)(H0 H1:Qan)(klB exB:Nat->Bool)(R:AV->Prop):Qbl
 | .normal,s=>retB P rs k cnt H0 H1 klB exB R s
 | .ret,s=>retB P rs k cnt H0 H1 klB exB R s
 | .exit _,_=>False
def retN(P:Program)(rs:List ResultVar)(k cnt:Nat)(H0 H1:Qan)(klB exB:Nat->Bool)(R:AV->Prop)(s:Qad):Prop:=
 ∃(F:List Nat) (π:List (Nat×Option Nat)) (s':Qad),subP k π (fzAS F s) s'/\s'.good=true/\k<=s'.nx/\retB P rs k cnt H0 H1 klB exB R s'
def Qc7(P:Program)(rs:List ResultVar)(k cnt:Nat)(H0 H1:Qan)(klB exB:Nat->Bool)(R:AV->Prop):Qbl
 | .normal,s=>retN P rs k cnt H0 H1 klB exB R s
 | .ret,s=>retN P rs k cnt H0 H1 klB exB R s
 | .exit _,_=>False
theorem roB_mem{h:Nat->Option Ent}{klB:Nat->Bool}: ∀(H:Qan),roB h klB H-> ∀j e,(j,e)∈H->klB j=false->h j=some e
 |[],_,j,e,hm,_=>by cases hm
 |(i,x)::r,hr,j,e,hm,hj=>by
  simp only[roB] at hr;rcases Zaw.1 hm with hm|hm
  .cases hm;have h1:=hr.1;rw[hj] at h1;exact h1
  .exact roB_mem r hr.2 j e hm hj
theorem Qve{h:Nat->Option Ent}{f:AV->Option AV}: ∀(H:Qan),Qhk h f H-> ∀j e,(j,e)∈H-> ∃e0,h j=some e0/\e.1=e0.1/\cvtE f e0.2=some e.2
 |[],_,j,e,hm=>by cases hm
 |(i,x)::r,hr,j,e,hm=>by
  simp only[Qhk] at hr;rcases Zaw.1 hm with hm|hm
  .cases hm;have h1:=hr.1;cases hq:h i with
   |none=>rw[hq] at h1;exact h1.elim
   |some y=>
    obtain⟨mu,e0⟩:=y;rw[hq] at h1;exact⟨(mu,e0),rfl,h1.1.symm,h1.2⟩
  .exact Qve r hr.2 j e hm
theorem Qv5{σ:Nat->Nat}{D:Nat->Prop}(hσ: ∀i j,D i->D j->σ i=σ j->i=j): ∀(H:Qan),(∀p∈H,D p.1)-> ∀(j:Nat),D j->hget (renH σ H) (σ j)=(hget H j).map fun e=>(e.1,e.2.ren σ)
 |[],_,j,_=>rfl
 |(i,(mu,e))::r,hH,j,hj=>by
  simp only[renH,hget];by_cases hij:i=j
  .subst hij;simp
  .have h1:(i==j)=false:=by simpa using hij
   have h2:(σ i==σ j)=false:=by rw[Zbs];exact fun h=>hij (hσ _ _ (hH _ (Zat ..)) hj h)
   rw[h1,h2];simpa using Qv5 hσ r (fun p hp=>hH p (Zas _ hp)) j hj
theorem objG{P:Program}(HM:P.follows .mixedOrders=true){V:Qbh}(hV:Qkj P V){g:FuncId}{fn:Func}{c:Code}(hf:P.funcs[g]? =some fn)(hb:fn.body=some c)(hchk:chk fn.ntmps c=true)
 {args:List AV}{H0 H1:Qan}{k cnt:Nat}(hlen:args.length<=fn.ntmps)(hbel:belL k args=true)(hbH:belH k H0=true)(hkH:Qam k H0=true)
 (hdomN: ∀j e,hget H0 j=some e-> ∀m∈e.2.nms,domB H0 m=true)
 {klB exB:Nat->Bool}{R:AV->Prop}{r0:AV}
 (hR: ∀r,R r->LeV r r0)
 (hH1: ∀p∈H1,(p.1<k/\klB p.1=true/\domB H0 p.1=true)\/(k<=p.1/\p.1<k+cnt/\exB p.1=true/\p.2.1=true))
 {Q:Qbl}(hQ: ∀(C:Ctx) (N:Nat) (a:Act) (w:World) (s:Qad),C.n0=k->Con C N s a w->Q .normal s\/Q .ret s-> ∃s',Con C N s' a w/\retB P fn.results.toList k cnt H0 H1 klB exB R s')
 (hQe: ∀i s,¬Q (.exit i) s)
 (hk:awp P V c Q ⟨entry 0 args,H0,k⟩)
 {h:Nat->Option Ent}{nx:Nat}{τ:Nat->Nat}(hinj: ∀i j,domB H0 i=true->domB H0 j=true->τ i=τ j->i=j)(hlt: ∀j,domB H0 j=true->τ j<nx)
 (hH: ∀j e,hget H0 j=some e->h (sgx τ k nx j)=some (e.1,e.2.ren (sgx τ k nx)))
 {U KL:List Nat}(hU: ∀j,domB H0 j=true->τ j∈U)(hKL1: ∀n∈KL,∃j,domB H0 j=true/\klB j=true/\n=τ j)(hKL2: ∀j,domB H0 j=true->klB j=true->τ j∈KL):
 CallT P g (renL (sgx τ k nx) args) h nx (r0.ren (sgx τ k nx)) {use:=U,kill:=KL,new:=renH (sgx τ k nx) H1,cnt:=cnt}:=by
 intro C S vs RR hW huse hfresh hnames hargs hfin
 let σ:=sgx τ k nx
 let DD:Nat->Prop:=fun j=>domB H0 j=true\/k<=j
 have hdomO: ∀j e,hget H0 j=some e->domB H0 j=true:=fun j e he=>by unfold domB;rw[he];rfl
 have hdomS: ∀j,domB H0 j=true-> ∃e,hget H0 j=some e:=fun j hj=>by
  unfold domB at hj;cases hq:hget H0 j with
  |none=>rw[hq] at hj;cases hj
  |some e=>exact⟨e,rfl⟩
 have hdk: ∀j,domB H0 j=true->j<k:=fun j hj=>by
  obtain⟨e,he⟩:=hdomS j hj;exact Qhv _ hkH j e he
 have hσlo: ∀j,j<k->σ j=τ j:=fun j hj=>Zao hj
 have hσge: ∀j,k<=j->σ j=nx+(j - k):=fun j hj=>Zaj (by omega)
 have hσin: ∀j,domB H0 j=true->σ j∈U:=fun j hj=>by rw[hσlo j (hdk j hj)];exact hU j hj
 have hσlt: ∀j,domB H0 j=true->σ j<nx:=fun j hj=>by rw[hσlo j (hdk j hj)];exact hlt j hj
 have hσinj: ∀i j,DD i->DD j->σ i=σ j->i=j:=by
  intro i j hi hj h;rcases hi with hi|hi<;>rcases hj with hj|hj
  .rw[hσlo i (hdk i hi),hσlo j (hdk j hj)] at h;exact hinj i j hi hj h
  .have:=hσlt i hi
   rw[h,hσge j hj] at this;omega
  .have:=hσlt j hj
   rw[<-h,hσge i hi] at this;omega
  .rw[hσge i hi,hσge j hj] at h;omega
 have hS: ∀j e,hget H0 j=some e->S.h (σ j)=some (e.1,e.2.ren σ):=by
  intro j e he;rw[huse (σ j) (Zbl _ (hσin j (hdomO j e he)))];exact hH j e he
 refine calls_of_wp hf hb ?_;have hvl:=Qbs _ _ hargs;have hvs:vs.size=args.length:=by rw[Qsc] at hvl;simpa using hvl
 let S0:Env:=⟨fun j=>S.ρ (σ j),S.ok,hget H0,S.w⟩
 let M0:Nat->Prop:=fun b=> ∃j e l,hget H0 j=some e/\e.1=true/\S.ρ (σ j)=some l/\l.b=b
 let C0:Ctx:=⟨S.w,M0,S.ok,k,hget H0,fun j=>S.ρ (σ j),[]⟩
 have hren0: ∀n,RenP S S0 σ (fun n=>n) n:=by
  intro n;refine⟨fun e' he'=>⟨_,hS n e' he',rfl,?_,?_⟩⟩
  .exact (Qr6 σ e'.2).symm
  .exact (Qs6 σ e'.2).symm
 have hok0: ∀b,S.ok b->S0.ok b/\S0.hp b=S.hp b:=fun b hb=>⟨hb,rfl⟩
 have hW0:Wf C0 S0:=by
  refine⟨rfl,rfl,rfl,Zap _,fun _ _ _=>rfl,fun _ hb=>hb,fun _ hb=> .inl hb,hW.oks,?_,?_,?_,hW.glN (by rintro b ⟨j,e,l,h1,h2,h3,rfl⟩;have h4:=(hW.loc _ _ l (hS j e h1) h3).2;rw[show (e.1,e.2.ren σ).1=true from h2] at h4;simp only[ZaQ] at h4;exact h4.1)⟩
  .intro j e he;have h1:=hW.obj _ _ (hS j e he);have h2:=Qzw (τ:=fun n=>n) hok0 (fun _ _=>rfl) e.2 (fun n _=>hren0 n) h1;rwa [Qwc] at h2
  .intro j e l he hl;obtain⟨h1,h2⟩:=hW.loc _ _ l (hS j e he) hl;refine⟨h1,?_⟩;cases hm:e.1 with
   |false=>
    rw[hm] at h2;have hv:(e.2.ren σ).isView=e.2.isView:=by cases e.2<;>rfl
    simpa[hv] using h2
   |true=>
    rw[hm] at h2;simp only[ZaQ] at h2⊢;exact⟨h2.1,.inr ⟨j,e,l,he,hm,hl,rfl⟩⟩
  .intro i j e e' l l' he he' hl hl' hbb hfl;exact hσinj _ _ (.inl (hdomO _ _ he)) (.inl (hdomO _ _ he')) (hW.inj _ _ _ _ l l' (hS i e he) (hS j e' he') hl hl' hbb hfl)
 have hc0:Con C0 fn.ntmps ⟨entry 0 args,H0,k⟩ {tmps:=vs++Array.replicate (fn.ntmps - vs.size) undef,defers:=[]} S.w:=by
  have hargs0:Qa0 S0 args vs.toList:=by
   have:=Qfd (τ:=fun n=>n) hok0 args vs.toList (fun n _=>hren0 n) hargs
   rwa [Qia] at this
  refine⟨S0,rfl,hW0,fun n=>rfl,?_,?_,fun n e he=>⟨Qhv _ hkH n e he,Qhn _ hbH n e he⟩,by simp;omega,rfl,Zap _,fun o _ e' he'=>⟨e',he',rfl,rfl,rfl⟩⟩
  .intro t;have h1:=Qev (S:=S0) args vs.toList 0 t hargs0;simp only[ZaU,ZaQ,ZdJ] at h1
   have:({tmps:=vs++Array.replicate (fn.ntmps - vs.size) undef,defers:=[]}:Act).eval (.tmp t)=(vs.toList[t]?).getD undef:=by
    simp only[Act.eval,ZaR,Zdc,Zcm];by_cases ht:t<vs.size
    .simp[ht]
    .simp only[ht,Zby]
     have:vs[t]? =none:=Zcd (by omega)
     simp only[Zbe,this]
     split<;>rfl
   rw[this];exact h1
  .intro t m hm;exact Qfv args hbel m (Qgh args 0 t m hm)
 refine wp_mono (Qo4 HM (Qvp hV) c hchk _ _ _ _ hk hc0) ?_;have fin: ∀(s:Qad) (a:Act) (w:World),retB P fn.results.toList k cnt H0 H1 klB exB R s->Con C0 fn.ntmps s a w->a.defers=[]/\ ∃v,(results fn a.tmps).run P w= .ok v w/\RR (.returned v) w:=by
  rintro s a w hr ⟨S1,rfl,hc⟩;unfold retB at hr;cases hxs:mapO (Qj3 P s) fn.results.toList with
  |none=>rw[hxs] at hr;exact hr.elim
  |some xs=>
   rw[hxs] at hr;simp only[retB1] at hr;obtain⟨v,hrun,hconc⟩:=Qe7 hc hxs;refine⟨hc.defers,v,hrun,?_⟩;obtain⟨hro,hr3,hout⟩:=hr;have hSh:hget s.h=S1.h:=(funext hc.h).symm;rw[hSh] at hro hr3 hout
   let kx:=kxB H0 k cnt exB
   let X:Nat->Bool:=fun o=>(kx o).isSome
   have hWi:Wf C0 (S1.ice X):=Qje hc.wf;have hih: ∀o,(S1.ice X).h o=(S1.h o).map fun e=>(e.1 && X o,e.2):=fun o=>rfl
   have hfr: ∀o e l,kx o=none->(S1.ice X).h o=some e->e.2.isView=false->(S1.ice X).ρ o=some l->(S1.ice X).ok l.b:=by
    intro o e l ho he hv hl;exact Qqe hc.wf (by simp[X,ho]) he hv hl
   have hfo: ∀(f:AV->Option D) (o:Nat),Qho f ((S1.ice X).h o)=Qho f (S1.h o)/\Qsj ((S1.ice X).h o)=Qsj (S1.h o)/\Qlb f ((S1.ice X).h o)=Qlb f (S1.h o):=by
    intro f o;rw[hih];cases S1.h o with
    |none=>exact⟨rfl,rfl,rfl⟩
    |some e=>obtain⟨mu,e⟩:=e;cases e<;>exact⟨rfl,rfl,rfl⟩
   have hcvt: ∀(n:Nat),cvt (S1.ice X).h kx n=cvt S1.h kx n:=by
    intro n;induction n with
    |zero=>funext x;simp[cvt]
    |succ n ih=>
     funext x;cases x with
     |own o=>simp only[cvt,ih,(hfo _ o).1]
     |mp o=>simp only[cvt,(hfo (fun _=>none) o).2.1]
     |ptr o p=>cases p<;>simp only[cvt,ih,(hfo _ o).2.2]
     |_=>simp only[cvt,ih]
   rw[<-hcvt] at hr3;have hout:Qhk S1.h (cvt (S1.ice X).h kx 9) H1:=by rw[hcvt];exact hout
   cases hcv:cvt (S1.ice X).h kx 9 (resV xs) with
   |none=>rw[hcv] at hr3;exact hr3.elim
   |some r=>
    rw[hcv] at hr3;simp only[retB3] at hr3;have hLV:=hR _ hr3;have hkx: ∀o j,kx o=some j->j=o/\(domB H0 o=true\/(k<=o/\o<k+cnt)):=by
     intro o j hj;simp only[kx,kxB] at hj;cases hq:domB H0 o<;>rw[hq] at hj
     .cases hq2:(exB o && (Nat.ble k o && Nat.blt o (k+cnt)))<;>rw[hq2] at hj
      .cases hj
      .simp only[Zah,ZcS,ZbW] at hq2;simp only[ZeT,Zbf,Zae] at hj;exact⟨hj.symm,.inr hq2.2⟩
     .simp only[Zey,Zbf,Zae] at hj;exact⟨hj.symm,.inl rfl⟩
    have hkxd: ∀o,domB H0 o=true->kx o=some o:=fun o ho=>by simp only[kx,kxB,ho,Zey,Zbf]
    have hkxe: ∀o,exB o=true->k<=o->o<k+cnt->kx o=some o:=fun o h1 h2 h3=>by
     have:(exB o && (Nat.ble k o && Nat.blt o (k+cnt)))=true:=by simp[h1,h2,h3]
     simp only[kx,kxB,this,ZeT,Zbf]
    have hent: ∀j e',(j,e')∈H1->DD j/\j<k+cnt/\((j<k/\klB j=true/\domB H0 j=true)\/(k<=j/\e'.1=true))/\kx j=some j/\ ∃e,S1.h j=some e/\e'.1=e.1/\cvtE (cvt (S1.ice X).h kx 9) e.2=some e'.2:=by
     intro j e' hm;obtain⟨e0,g1,g2,g3⟩:=Qve H1 hout j e' hm;rcases hH1 _ hm with ⟨h1,h2,h3⟩|⟨h1,h2,h3,h4⟩
     .exact⟨.inl h3,by simp only at h1;omega,.inl ⟨h1,h2,h3⟩,hkxd j h3,e0,g1,g2,g3⟩
     .exact⟨.inr h1,h2,.inr ⟨h1,h4⟩,hkxe j h3 h1 h2,e0,g1,g2,g3⟩
    let E:Eff:={use:=U,kill:=KL,new:=renH σ H1,cnt:=cnt}
    let S':Env:=⟨fun n=>if nx<=n/\n<nx+cnt then S1.ρ (n - nx+k) else S.ρ n,(S1.ice X).ok,E.appf S.h,S1.w⟩
    have hρ: ∀j,DD j->j<k+cnt->(∀e,S1.h j=some e->S'.ρ (σ j)=S1.ρ j):=by
     intro j hd hj e he;simp only[S'];by_cases hjk:j<k
     .have hdj:domB H0 j=true:=hd.resolve_right (by omega);have h1:=hσlt j hdj;rw[Zaj (by omega)];obtain⟨_,_,h3,_⟩:=hc.pre j hjk e he;exact h3.symm
     .have h1:=hσge j (by omega);rw[Zao (by rw[h1];omega),h1];congr 1;omega
    have hcase: ∀n e',S'.h n=some e'->(∃j e,n=σ j/\(j,e)∈H1/\hget H1 j=some e/\e'=(e.1,e.2.ren σ))\/(S.h n=some e'/\ ∀j,domB H0 j=true->klB j=true->n≠σ j):=by
     intro n e' he';have he':E.appf S.h n=some e':=he';simp only[Eff.appf,E] at he';cases hg:hget (renH σ H1) n with
     |some x=>
      rw[hg] at he';obtain rfl:=Zac he';obtain⟨j,e,h1,h2,h3⟩:=Qzm hg;subst h2;rw[Qv5 hσinj H1 (fun p hp=>(hent p.1 p.2 hp).1) j (hent j e h1).1] at hg;cases hj:hget H1 j with
      |none=>rw[hj] at hg;cases hg
      |some y=>
       rw[hj] at hg;exact .inl ⟨j,y,rfl,Qgz hj,hj,by simpa using hg.symm⟩
     |none=>
      rw[hg] at he';cases hq:KL.contains n<;>rw[hq] at he'
      .refine .inr ⟨he',?_⟩;rintro j hj hkj rfl
       have:=hKL2 j hj hkj
       rw[<-hσlo j (hdk j hj)] at this;rw[Zbq.2 this] at hq;cases hq
      .cases he'
    have hblk: ∀n e l,S.h n=some e->S.ρ n=some l->(∀j,domB H0 j=true->n≠σ j)->l.b<S.w.heap.size/\ ¬M0 l.b:=by
     intro n e l he hl hn;refine⟨(hW.loc n e l he hl).1,?_⟩;rintro⟨j,e0,l0,h1,h9,h2,h3⟩;exact hn j (hdomO j e0 h1) (hW.inj _ _ _ _ l l0 he (hS j e0 h1) hl h2 h3.symm (by simp[h9]))
    have hkeep: ∀b,b<S.w.heap.size-> ¬M0 b->S1.w.heap[b]? =S.w.heap[b]? :=fun b hb hM=>hc.wf.keep b hb hM
    have hokS: ∀b,S.ok b->S'.ok b/\S'.hp b=S.hp b:=by
     intro b hb;refine⟨hWi.ok0 b hb,hkeep b (hW.oks b hb) ?_⟩;rintro⟨j,e,l,h1,h2,h3,h4⟩
     have:=(hW.loc _ _ l (hS j e h1) h3).2
     rw[show (e.1,e.2.ren σ).1=true from h2] at this;simp only[ZaQ] at this;exact this.1 (h4▸hb)
    have hsame: ∀j e0,hget H0 j=some e0->klB j=false->S1.h j=some e0:=fun j e0 h1 h2=>roB_mem H0 hro j e0 (Qgz h1) h2
    have hnkl: ∀j,domB H0 j=true->(∀j',domB H0 j'=true->klB j'=true->σ j≠σ j')->klB j=false:=by
     intro j hj h;cases hq:klB j with
     |false=>rfl
     |true=>exact absurd rfl (h j hj hq)
    have hpres: ∀o,¬Fr nx cnt o-> ∀e',S'.h o=some e'-> ∃e,S.h o=some e/\S'.ρ o=S.ρ o/\e'.2.esz=e.2.esz/\e'.2.len=e.2.len:=by
     intro o ho e' he';have hρo:S'.ρ o=S.ρ o:=by
      simp only[S'];rw[Zaj (by intro h;exact ho ⟨h.1,h.2⟩)]
     rcases hcase o e' he' with ⟨j,e,rfl,h1,h2,rfl⟩|⟨h1,_⟩
     .obtain⟨g0,g1,g2,g3,x,g4,g5,g6⟩:=hent j e h1;have hjk:j<k:=by
       rcases g2 with g2|g2
       .exact g2.1
       .have:=hσge j g2.1
        exact absurd (show Fr nx cnt (σ j) from ⟨by omega,by omega⟩) ho
      obtain⟨e0,p1,p2,p3,p4⟩:=hc.pre j hjk x g4;have hob:=(@Qti C0 (S1.ice X) (S1.ice X) hWi kx (fun j=>j) (fun b hb=>⟨hb,rfl⟩) hfr (by
       intro o j hj e' he';obtain⟨q1,_⟩:=hkx o j hj;subst q1;exact⟨e',he',rfl,rfl,rfl⟩) 9 x.2 e.2 g6).1
      refine⟨_,hS j e0 p1,hρo,?_,?_⟩
      .simp only[Qr6];rw[<-p3,<-hob.1]
      .simp only[Qs6];rw[<-p4,<-hob.2]
     .exact⟨e',h1,hρo,rfl,rfl⟩
    have hrenO: ∀o j,kx o=some j-> ∀e',S'.h (σ j)=some e'-> ∃e,(S1.ice X).h o=some e/\S'.ρ (σ j)=(S1.ice X).ρ o/\e'.2.esz=e.2.esz/\e'.2.len=e.2.len:=by
     intro o j hj e' he';obtain⟨rfl,q2⟩:=hkx o j hj;have hdo:DD j:=q2.imp id (fun h=>h.1);have hjc:j<k+cnt:=by
      rcases q2 with q2|q2
      .have:=hdk j q2;omega
      .exact q2.2
     rcases hcase (σ j) e' he' with ⟨j',e,h0,h1,h2,rfl⟩|⟨h1,h2⟩
     .obtain⟨g0,g1,g2,g3,x,g4,g5,g6⟩:=hent j' e h1;obtain rfl:=hσinj _ _ hdo g0 h0;have hob:=(@Qti C0 (S1.ice X) (S1.ice X) hWi kx (fun j=>j) (fun b hb=>⟨hb,rfl⟩) hfr (by
       intro o j hj e' he';obtain⟨q1,_⟩:=hkx o j hj;subst q1;exact⟨e',he',rfl,rfl,rfl⟩) 9 x.2 e.2 g6).1
      have hr:=hρ j hdo g1 x g4;refine⟨(x.1 && X j,x.2),by rw[hih,g4];rfl,hr,?_,?_⟩
      .simp only[Qr6];rw[<-hob.1]
      .simp only[Qs6];rw[<-hob.2]
     ·
      have hjd:domB H0 j=true:=by
       rcases q2 with h|h
       .exact h
       .have h5:=hfresh (σ j) ⟨by rw[hσge j h.1];omega,by rw[hσge j h.1];show nx+(j - k)<nx+cnt;omega⟩;rw[h5] at h1;cases h1
      have hjn:=hnkl j hjd (fun j' a b=>h2 j' a b);obtain⟨e0,hH0⟩:=hdomS j hjd;have g4:=hsame j e0 hH0 hjn;have hr:=hρ j hdo hjc e0 g4
      have:=hS j e0 hH0
      rw[h1] at this;obtain rfl:=Zac this;refine⟨(e0.1 && X j,e0.2),by rw[hih,g4];rfl,hr,?_,?_⟩
      .simp only[Qr6]
      .simp only[Qs6]
    have hblkE: ∀n e' l,S'.h n=some e'->S'.ρ n=some l->(∃j x,n=σ j/\S1.h j=some x/\e'.1=x.1/\S1.ρ j=some l/\(k<=j->x.1=true)/\DD j/\kx j=some j/\e'.2.isView=x.2.isView)\/(S.h n=some e'/\S.ρ n=some l/\ ∀j,domB H0 j=true->n≠σ j):=by
     intro n e' l he' hl;rcases hcase n e' he' with ⟨j,e,rfl,h1,h2,rfl⟩|⟨h1,h2⟩
     .obtain⟨g0,g1,g2,g3,x,g4,g5,g6⟩:=hent j e h1;have hr:=hρ j g0 g1 x g4;refine .inl ⟨j,x,rfl,g4,g5,by rw[<-hr];exact hl,?_,g0,g3,?_⟩
      .intro hkj;rcases g2 with g2|g2
       .omega
       .rw[<-g5];exact g2.2
      .have hv:(e.2.ren σ).isView=e.2.isView:=by cases e.2<;>rfl
       show (e.2.ren σ).isView=_;rw[hv];exact cvtE_view g6
     .by_cases hn: ∃j,domB H0 j=true/\n=σ j
      .obtain⟨j,hjd,rfl⟩:=hn;have hjn:=hnkl j hjd (fun j' a b=>h2 j' a b);obtain⟨e0,hH0⟩:=hdomS j hjd;have g4:=hsame j e0 hH0 hjn;have hjk:=hdk j hjd;have hr:=hρ j (.inl hjd) (by omega) e0 g4
       have:=hS j e0 hH0
       rw[h1] at this;obtain rfl:=Zac this;exact .inl ⟨j,e0,rfl,g4,rfl,by rw[<-hr];exact hl,fun h=>by omega,.inl hjd,hkxd j hjd,by cases e0.2<;>rfl⟩
      .have hns: ∀j,domB H0 j=true->n≠σ j:=fun j hj h=>hn ⟨j,hj,h⟩
       refine .inr ⟨h1,?_,hns⟩;have hnf: ¬Fr nx cnt n:=by
        intro hfr'
        have:=hfresh n hfr'
        rw[this] at h1;cases h1
       have hρo:S'.ρ n=S.ρ n:=by
        simp only[S'];rw[Zaj (by intro h;exact hnf ⟨h.1,h.2⟩)]
       rw[<-hρo];exact hl
    have hW':Wf C S':=by
     refine⟨hc.wf.os.trans hW.os,hc.wf.tape.trans hW.tape,hc.wf.output.trans hW.output,Zbd hW.size hc.wf.size,?_,fun b hb=>hWi.ok0 b (hW.ok0 b hb),?_,hWi.oks,?_,?_,?_,hW.gl⟩
     .intro b hb hM;have hnM: ¬M0 b:=by
       rintro⟨j,e,l,h1,h2,h3,h4⟩
       have:=(hW.loc _ _ l (hS j e h1) h3).2
       rw[show (e.1,e.2.ren σ).1=true from h2] at this;simp only[ZaQ] at this;rcases this.2 with h5|h5
       .omega
       .exact hM (h4▸h5)
      exact (hkeep b (Zbn hb hW.size) hnM).trans (hW.keep b hb hM)
     .intro b hb;rcases hWi.ok1 b hb with h|h|h
      .exact hW.ok1 b h
      .exact .inr (.inl (Zbd hW.size h))
      .obtain⟨j,e,l,h1,h2,h3,h4⟩:=h
       have:=(hW.loc _ _ l (hS j e h1) h3).2
       rw[show (e.1,e.2.ren σ).1=true from h2] at this;simp only[ZaQ] at this;rw[<-h4];exact .inr this.2
     .intro n e' he';rcases hcase n e' he' with ⟨j,e,rfl,h1,h2,rfl⟩|⟨h1,h2⟩
      .obtain⟨g0,g1,g2,g3,x,g4,g5,g6⟩:=hent j e h1;have hob:=hWi.obj j (x.1 && X j,x.2) (by rw[hih,g4];rfl);have hr:=hρ j g0 g1 x g4;have h5:=(Qti (S':=S') (τ:=σ) hWi (fun b hb=>⟨hb,rfl⟩) hfr hrenO g6).2 _ (fun _ _=>rfl) hob;rw[hr];exact h5
      .by_cases hn: ∃j,domB H0 j=true/\n=σ j
       .obtain⟨j,hjd,rfl⟩:=hn;have hjn:=hnkl j hjd (fun j' a b=>h2 j' a b);obtain⟨e0,hH0⟩:=hdomS j hjd;have g4:=hsame j e0 hH0 hjn;have hjk:=hdk j hjd;have hr:=hρ j (.inl hjd) (by omega) e0 g4
        have:=hS j e0 hH0
        rw[h1] at this;obtain rfl:=Zac this;rw[hr];have hob:=hc.wf.obj j e0 g4;have h7:=Qzw (S:=S1) (S':=S') (σ:=fun n=>n) (τ:=σ) (l:=S1.ρ j) (fun b hb=>⟨.inl hb,rfl⟩) (fun _ _=>rfl) e0.2 ?_ (by rw[Qwc];exact hob)
        .exact h7
        .intro m hm;refine⟨fun e' he'=> ?_⟩;have hmk:m<k:=Qhn _ hbH j e0 hH0 m hm;cases hkm:kx m with
         |some m'=>
          obtain⟨rfl,_⟩:=hkx m m' hkm;obtain⟨x,q1,q2,q3,q4⟩:=hrenO m' m' hkm e' he';obtain⟨y,q5,q6⟩:=Qec q1;exact⟨y,q5,q2,by rw[q3,q6],by rw[q4,q6]⟩
         |none=>
          exfalso;have hmd:domB H0 m≠true:=fun h=>by rw[hkxd m h] at hkm;cases hkm
          exact hmd (hdomN j e0 hH0 m hm)
       .have hns: ∀j,domB H0 j=true->n≠σ j:=fun j hj h=>hn ⟨j,hj,h⟩
        have hnf: ¬Fr nx cnt n:=by
         intro hfr'
         have:=hfresh n hfr'
         rw[this] at h1;cases h1
        have hρo:S'.ρ n=S.ρ n:=by
         simp only[S'];rw[Zaj (by intro h;exact hnf ⟨h.1,h.2⟩)]
        rw[hρo];refine Qbr (X:=fun m=> ¬Fr nx cnt m) ⟨hokS,fun o ho e' he'=>hpres o ho e' he'⟩ ?_ e'.2 (fun m hm=>hnames n e' h1 m hm) (hW.obj n e' h1);intro lc hlc;obtain⟨p1,p2⟩:=hblk n e' lc h1 hlc hns;exact hkeep lc.b p1 p2
     .intro n e' l he' hl;rcases hblkE n e' l he' hl with ⟨j,x,rfl,g4,g5,g6,g7,g8,g8',g9⟩|⟨h1,h2,h3⟩
      .have hcx:X j=true:=by simp only[X,g8'];rfl
       have hl1:=hWi.loc j (x.1 && X j,x.2) l (by rw[hih,g4];rfl) g6;rw[hcx,ZaX] at hl1;refine⟨hl1.1,?_⟩;rw[g5];cases hm:x.1 with
       |false=>
        have h9:=hl1.2;simp only[hm] at h9;simp only[ZaB,Zby] at h9⊢;rcases h9 with h9|h9
        .exact .inl h9
        .refine .inr ?_;rw[g9];exact h9
       |true=>
        have h9:=hl1.2;simp only[hm,ZaQ] at h9⊢;refine⟨h9.1,?_⟩;rcases h9.2 with h10|h10
        .exact .inl (Zbd hW.size h10)
        .obtain⟨j',e0,l0,p1,p2,p3,p4⟩:=h10
         have:=(hW.loc _ _ l0 (hS j' e0 p1) p3).2
         rw[show (e0.1,e0.2.ren σ).1=true from p2] at this;simp only[ZaQ] at this;rw[<-p4];exact this.2
      .obtain⟨p1,p2⟩:=hW.loc n e' l h1 h2;obtain⟨p3,p4⟩:=hblk n e' l h1 h2 h3;refine⟨Zbn p1 hc.wf.size,?_⟩;cases hm:e'.1 with
       |false=>
        rw[hm] at p2;simp only[ZaB,Zby] at p2⊢;exact p2.imp (fun h=>hWi.ok0 _ h) id
       |true=>
        rw[hm] at p2;simp only[ZaQ] at p2⊢;refine⟨fun hok=> ?_,p2.2⟩;rcases hWi.ok1 _ hok with h|h|h
        .exact p2.1 h
        .have h:S.w.heap.size<=l.b:=h;omega
        .exact p4 h
     ·
      have hmix: ∀j x l n' e2 l',S1.h j=some x->S1.ρ j=some l->(k<=j->x.1=true)->DD j->S.h n'=some e2->S.ρ n'=some l'->(∀i,domB H0 i=true->n'≠σ i)->l.b=l'.b->(x.1||e2.1)=true->False:=by
       intro j x l n' e2 l' g1 g2 g3 g4 p1 p2 p3 hbb hfl;obtain⟨q1,q2⟩:=hblk n' e2 l' p1 p2 p3;by_cases hjk:j<k
       .have hjd:domB H0 j=true:=g4.resolve_right (by omega);obtain⟨e0,r1,r2,_,_⟩:=hc.pre j hjk x g1;have hρj:S.ρ (σ j)=some l:=by rw[<-r2|>fun h=>show S1.ρ j=S.ρ (σ j) from h];exact g2
        have hor:(e0.1||e2.1)=true:=by
         cases he2:e2.1 with
         |true=>simp
         |false=>
          rw[he2,ZcK] at hfl;have hl1:=(hc.wf.loc j x l g1 g2).2;rw[hfl] at hl1;simp only[ZaQ] at hl1;rcases hl1.2 with h|h
          .have h:S.w.heap.size<=l.b:=h;omega
          .exact absurd (hbb▸h) q2
        exact p3 j hjd (hW.inj _ _ _ _ l' l p1 (hS j e0 r1) p2 hρj hbb.symm (by rw[Bool.or_comm];exact hor))
       .have hl1:=(hc.wf.loc j x l g1 g2).2;rw[g3 (by omega)] at hl1;simp only[ZaQ] at hl1;rcases hl1.2 with h|h
        .have h:S.w.heap.size<=l.b:=h;omega
        .exact q2 (hbb▸h)
      intro n n' e1 e2 l l' he he' hl hl' hbb hfl;rcases hblkE n e1 l he hl with ⟨j,x,rfl,g1,g2,g3,g4,g5,_⟩|⟨g1,g2,g3⟩<;>rcases hblkE n' e2 l' he' hl' with ⟨j',x',rfl,p1,p2,p3,p4,p5,_⟩|⟨p1,p2,p3⟩
      .have hcc:=hc.wf.inj j j' x x' l l' g1 p1 g3 p3 hbb (by rw[<-g2,<-p2];exact hfl);rw[hcc]
      .exact (hmix j x l n' e2 l' g1 g3 g4 g5 p1 p2 p3 hbb (by rw[<-g2];exact hfl)).elim
      .exact (hmix j' x' l' n e1 l p1 p3 p4 p5 g1 g2 g3 hbb.symm (by rw[<-p2,Bool.or_comm];exact hfl)).elim
      .exact hW.inj _ _ _ _ l l' g1 p1 g2 p2 hbb hfl
    have hcr:conc S' (r.ren σ) v:=Qrr (S':=S') (τ:=σ) hWi (fun b hb=>⟨hb,rfl⟩) hfr hrenO 9 (resV xs) r v hcv (Qbt (Qb0 S1 X) _ _ (fun _ _=>trivial) hconc);exact hfin v S' hW' rfl ⟨hokS,fun o ho e' he'=>hpres o ho e' he'⟩ (hLV σ S' v hcr)
 intro e a w he;cases e<;>simp only[toQ] at he<;>simp only[bodyPost]
 .obtain⟨s,hs,hc⟩:=he;obtain⟨s',hc',hs'⟩:=hQ C0 _ a w s rfl hc (.inl hs);exact fin s' a w hs' hc'
 .obtain⟨s,hs,_⟩:=he;exact (hQe _ _ hs).elim
 .obtain⟨s,hs,hc⟩:=he;obtain⟨s',hc',hs'⟩:=hQ C0 _ a w s rfl hc (.inr hs);exact fin s' a w hs' hc'
theorem retBQ_ok{P:Program}{rs:List ResultVar}{k cnt:Nat}{H0 H1:Qan}{klB exB:Nat->Bool}{R:AV->Prop}: ∀(C:Ctx) (N:Nat) (a:Act) (w:World) (s:Qad),C.n0=k->Con C N s a w->
 Qabl P rs k cnt H0 H1 klB exB R .normal s\/Qabl P rs k cnt H0 H1 klB exB R .ret s-> ∃s',Con C N s' a w/\retB P rs k cnt H0 H1 klB exB R s':=by
 rintro C N a w s _ hc (h|h)<;>exact⟨s,hc,h⟩
theorem retNQ_ok{P:Program}{rs:List ResultVar}{k cnt:Nat}{H0 H1:Qan}{klB exB:Nat->Bool}{R:AV->Prop}: ∀(C:Ctx) (N:Nat) (a:Act) (w:World) (s:Qad),C.n0=k->Con C N s a w->
 Qc7 P rs k cnt H0 H1 klB exB R .normal s\/Qc7 P rs k cnt H0 H1 klB exB R .ret s-> ∃s',Con C N s' a w/\retB P rs k cnt H0 H1 klB exB R s':=by
 rintro C N a w s hk hc (h|h)<;>obtain⟨F,π,s',h1,h2,h3,h4⟩:=h<;>exact⟨s',Qdx (Qox F hc) h1 h2 (by omega) (by omega),h4⟩
def Qer(h:Nat->Option Ent)(σ:Nat->Nat):Qan->Prop
 |[]=>True
 |(j,(mu,e))::r=>h (σ j)=some (mu,e.ren σ)/\Qer h σ r
theorem Qpk{h:Nat->Option Ent}{σ:Nat->Nat}: ∀{H:Qan},Qer h σ H-> ∀j e,(j,e)∈H->h (σ j)=some (e.1,e.2.ren σ)
 |[],_,j,e,hm=>by cases hm
 |(i,(mu,x))::r,hH,j,e,hm=>by
  obtain⟨h1,h2⟩:=hH;rcases Zaw.1 hm with hm|hm
  .cases hm;exact h1
  .exact Qpk h2 j e hm
structure NmOk(H0:Qan)(klB:Nat->Bool)(τ:Nat->Nat)(nx:Nat)(U KL:List Nat):Prop where
 inj: ∀i j,domB H0 i=true->domB H0 j=true->τ i=τ j->i=j
 lt: ∀j,domB H0 j=true->τ j<nx
 u: ∀j,domB H0 j=true->τ j∈U
 k1: ∀n∈KL,∃j,domB H0 j=true/\klB j=true/\n=τ j
 k2: ∀j,domB H0 j=true->klB j=true->τ j∈KL
def orow{A:Type}(ca:A->List AV)(H0:A->Qan)(k:Nat)(pre:A->Prop)(klB:Nat->Bool)(r0:A->AV)(H1:A->Qan)(cnt:Nat):Row:=fun args h nx K=>
 ∃(a:A) (τ:Nat->Nat) (U KL:List Nat),pre a/\args=renL (sgx τ k nx) (ca a)/\Qer h (sgx τ k nx) (H0 a)/\NmOk (H0 a) klB τ nx U KL/\
  K ((r0 a).ren (sgx τ k nx)) {use:=U,kill:=KL,new:=renH (sgx τ k nx) (H1 a),cnt:=cnt}
def Qc2(H0:Qan):Qan->Prop
 |[]=>True
 |(_,(_,e))::r=>(∀m∈e.nms,domB H0 m=true)/\Qc2 H0 r
theorem Qo2{H0:Qan}: ∀{H:Qan},Qc2 H0 H-> ∀j e,(j,e)∈H-> ∀m∈e.2.nms,domB H0 m=true
 |[],_,j,e,hm=>by cases hm
 |(i,(mu,x))::r,hH,j,e,hm=>by
  obtain⟨h1,h2⟩:=hH;rcases Zaw.1 hm with hm|hm
  .cases hm;exact h1
  .exact Qo2 h2 j e hm
def osn(os:List Nat)(j:Nat):Nat:=os.getD j 0
def Qhb:List Nat->Bool
 |[]=>true
 |x::r=> !r.contains x && Qhb r
theorem Qjj: ∀(os:List Nat),Qhb os=true->os.Nodup
 |[],_=>List.nodup_nil
 |x::r,h=>by
  simp only[Qhb,Zah,ZbZ] at h;refine Zcq.2 ⟨fun hx=> ?_,Qjj r h.2⟩;rw[Zbq.2 hx] at h;cases h.1
def Qxw(nx:Nat):List Nat->Bool
 |[]=>true
 |x::r=>Nat.blt x nx && Qxw nx r
theorem Qvm{nx:Nat}: ∀(os:List Nat),Qxw nx os=true-> ∀o∈os,o<nx
 |[],_,o,h=>by cases h
 |x::r,h,o,ho=>by
  simp only[Qxw,Zah,ZbW] at h;rcases Zaw.1 ho with rfl|ho
  .exact h.1
  .exact Qvm r h.2 o ho
def klO(klB:Nat->Bool):List Nat->Nat->List Nat
 |[],_=>[]
 |x::r,j=>bif klB j then x::klO klB r (j+1) else klO klB r (j+1)
theorem Qx4{klB:Nat->Bool}: ∀(os:List Nat) (j n:Nat),n∈klO klB os j↔ ∃i,i<os.length/\klB (j+i)=true/\os[i]? =some n
 |[],j,n=>by simp[klO]
 |x::r,j,n=>by
  have ih:=Qx4 (klB:=klB) r (j+1) n;simp only[klO];cases hq:klB j
  .simp only[ZaS];rw[ih];constructor
   .rintro⟨i,h1,h2,h3⟩;exact⟨i+1,by simp;omega,by rw[show j+(i+1)=j+1+i by omega];exact h2,by simpa using h3⟩
   .rintro⟨i,h1,h2,h3⟩;cases i with
    |zero=>rw[Zds,hq] at h2;cases h2
    |succ i=>exact⟨i,by simp at h1;omega,by rw[show j+1+i=j+(i+1) by omega];exact h2,by simpa using h3⟩
  .simp only[Zbf,Zaw];rw[ih];constructor
   .rintro (rfl|⟨i,h1,h2,h3⟩)
    .exact⟨0,by simp,hq,by simp⟩
    .exact⟨i+1,by simp;omega,by rw[show j+(i+1)=j+1+i by omega];exact h2,by simpa using h3⟩
   .rintro⟨i,h1,h2,h3⟩;cases i with
    |zero=>left;simpa using h3.symm
    |succ i=>right;exact⟨i,by simp at h1;omega,by rw[show j+1+i=j+(i+1) by omega];exact h2,by simpa using h3⟩
theorem nmOk_os{H0:Qan}{klB:Nat->Bool}{os:List Nat}{nx:Nat}(hd:Qhb os=true)(hl:Qxw nx os=true)(hH: ∀j,domB H0 j=true↔j<os.length):NmOk H0 klB (osn os) nx os (klO klB os 0):=by
 have hnd:=Qjj os hd;have hg: ∀j,j<os.length->os[j]? =some (osn os j):=by
  intro j hj;simp[osn,hj]
 have hm: ∀j,j<os.length->osn os j∈os:=fun j hj=>Zaf (hg j hj)
 refine⟨fun i j hi hj h=> ?_,fun j hj=>Qvm os hl _ (hm j ((hH j).1 hj)),fun j hj=>hm j ((hH j).1 hj),fun n hn=> ?_,fun j hj hk=> ?_⟩
 .have h1:=hg i ((hH i).1 hi);have h2:=hg j ((hH j).1 hj);rw[h] at h1;exact (List.getElem?_inj ((hH i).1 hi) hnd).1 (h1.trans h2.symm)
 .obtain⟨i,h1,h2,h3⟩:=(Qx4 os 0 n).1 hn;refine⟨i,(hH i).2 h1,by simpa using h2,?_⟩;rw[hg i h1] at h3;exact (Zac h3).symm
 .exact (Qx4 os 0 _).2 ⟨j,(hH j).1 hj,by simpa using hk,hg j ((hH j).1 hj)⟩
theorem orow.os{A:Type}{ca:A->List AV}{H0:A->Qan}{k:Nat}{pre:A->Prop}{klB:Nat->Bool}{r0:A->AV}{H1:A->Qan}{cnt:Nat}{args:List AV}{h:Nat->Option Ent}{nx:Nat}{K:Kont}(a:A)(os:List Nat)(hpre:pre a)
 (hH: ∀j,domB (H0 a) j=true↔j<os.length)(hd:Qhb os=true)(hl:Qxw nx os=true)
 (hx:args=renL (sgx (osn os) k nx) (ca a)/\Qer h (sgx (osn os) k nx) (H0 a))
 (hK:K ((r0 a).ren (sgx (osn os) k nx)) {use:=os,kill:=klO klB os 0,new:=renH (sgx (osn os) k nx) (H1 a),cnt:=cnt}):orow ca H0 k pre klB r0 H1 cnt args h nx K:=
 ⟨a,osn os,os,klO klB os 0,hpre,hx.1,hx.2,nmOk_os hd hl hH,hK⟩
def noRow:Row:=fun _ _ _ _=>False
theorem noRow_ok{P:Program}{g:Nat}:Qas P g noRow:=fun _ _ _ _ h=>h.elim
def orR(r1 r2:Row):Row:=fun args h nx K=>r1 args h nx K\/r2 args h nx K
theorem orR_ok{P:Program}{g:Nat}{r1 r2:Row}(h1:Qas P g r1)(h2:Qas P g r2):Qas P g (orR r1 r2):=by
 rintro args h nx K (hk|hk)
 .exact h1 args h nx K hk
 .exact h2 args h nx K hk
end Go.Ae
