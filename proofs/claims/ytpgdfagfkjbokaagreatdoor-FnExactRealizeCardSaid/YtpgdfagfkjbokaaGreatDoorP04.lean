/- Lemmas. Conditions: none. -/
import Derived.Test.YtpgdfagfkjbokaaGreatDoorP03
import Derived.Laws.BytesArg
set_option linter.all false
set_option maxHeartbeats 8000000
set_option maxRecDepth 100000
namespace Go.Ae
def pU{ok:Nat->Prop}{hp:Nat->Option Obj}: ∀(rows:List (List D)) (O:List Int) (L:List Value),H5 rows=some O->rdr ok hp 1 rows L->rows.length=O.length/\L.take O.length=O.map (Value.int .u8)
 |[],O,L,h,_=>by
  simp only[H5,AI] at h;subst h;simp
 |row::r,O,L,h,Z=>by
  unfold H5 at h;split at h
  .rename_i z;cases z
  .rename_i n r' z;cases z;simp only[CT] at h;obtain⟨ms,h1,rfl⟩:=h;simp only[rdr,rdp,rd] at Z;obtain⟨_,⟨v,L1,rfl,rfl,_⟩,h3⟩:=Z;obtain⟨e1,Q⟩:=pU r ms _ h1 h3;simp only[Lu,F8] at Q;refine⟨by simp[e1],?_⟩;simp[Q]
  .cases h
section
variable {P:Program}{tm:List (Nat×AV)}{h:Nat->Option Ao}{nx:Nat}{o:Oper}{K:Ah}
def Pz{Z T:TypeId}{x:Operand}(ho:o.op= .convert Z T x)(ht:isStr (Q5 (tI P T))=true)(z:IX P h K (Ax tm x) (tI P Z)):Cj P tm h nx o K:=by
 cases hT:tI P T with
 |none=>rw[hT] at ht;cases ht
 |some ti=>
 rw[hT] at ht;simp only[Q5,isStr] at ht;cases hf:ti.kind<;>rw[hf] at ht<;>simp only[TK.isStr,CE] at ht;have hd:=QF hT hf;cases hS:tI P Z with
 |none=>rw[hS] at z;exact z.elim
 |some si=>
 rw[hS] at z;simp only[IX] at z;cases hg:si.kind<;>rw[hg] at z<;>try exact z.elim
 rename_i e;have hs:=Qa hS hg;simp only[iF] at z;cases hE:tI P e with
 |none=>rw[hE] at z;exact z.elim
 |some te=>
 rw[hE] at z;simp only[Q5] at z;cases hke:te.kind<;>rw[hke] at z<;>try exact z.elim
 rename_i ik;cases ik<;>try exact z.elim
 have he:=UZ hE hke;simp only[iE] at z;cases hx:Ax tm x<;>rw[hx] at z<;>try exact z.elim
 rename_i n;simp only[iD] at z;cases hn:h n with
 |none=>rw[hn] at z;exact z.elim
 |some Q=>
 rw[hn] at z;obtain⟨mu,Q⟩:=Q;cases Q<;>try exact z.elim
 rename_i T' k rows;simp only[R7] at z;obtain⟨rfl,z⟩:=z;cases hb:H5 rows with
 |none=>rw[hb] at z;exact z.elim
 |some ns=>
 rw[hb] at z;simp only[LB] at z;refine⟨_,_,BH.pure (u:=[n]) ?_,z⟩;intro C S ac hW hu ab;have h1:=ab x (by rw[ho];simp[Op.operands]);rw[hx] at h1;simp only[Aa] at h1;have aa:=(hu n (by simp)).trans hn;have hc:=h1.2 _ aa;have O:=hW.obj _ _ aa;refine⟨.string (Hl ns),?_,by simp only[Aa,rd]⟩;have af:(convert Z T (ac.eval x)).run P S.w= .ok (.string (Hl ns)) S.w:=by
  cases hl:S.ρ n with
  |none=>
   rw[hl] at hc O;simp only[An] at O;simp only at hc;obtain rfl:=O.2;simp only[H5,AI] at hb;subst hb;rw[hc,run_convert_bytes_string S.w Z T e none 0 0 hs he hd];simp[Conv.bytesToString,Hl];rfl
  |some l=>
   rw[hl] at hc O;simp only[An] at O;simp only[Ab.len] at hc;obtain⟨_,g1,vs,g2,g3,g4⟩:=O;obtain⟨e1,e2⟩:=pU rows ns _ hb g4;rw[hc,run_convert_bytes_string S.w Z T e _ _ _ hs he hd];have ad:(loadCells ⟨l.b,l.p,none⟩ rows.length).run P S.w= .ok (ns.map (Value.int .u8)).toArray S.w:=by
    rw[lK (w:=S.w) g2 (by omega),e1,e2]
   rw[run_bytesToString S.w ⟨l.b,l.p,none⟩ rows.length l.cap ns ad,foldl_push_bytes];simp[Hl,ByteArray.empty,ByteArray.emptyWithCapacity]
   try rfl
 simp only[execOp,ho,Sem.run_bind,af];simp
def P1{O T:TypeId}{x:Operand}(Q:o.op= .convert O T x)(z:Wi P h (Q5 (tI P T)) (Ax tm x) K (tI P O)):Cj P tm h nx o K:=by
 unfold Wi at z;split at z
 .rename_i Z;exact Pz Q Z z
 .exact Qwv Q z
end
section
variable {P:Program}{tm:List (Nat×AV)}{h:Nat->Option Ao}{nx:Nat}{o:Oper}{K:Ah}
def Qaln{T tk te:TypeId}{x:Operand}{kt:KT}{es:List (D×D)}(ho:o.op= .range T x)(hu:P.underlying T=some (.map tk te))(hx:Ax tm x= .im (.mp kt es))
 (hk:K (.it nx) {new:=[(nx,(true,.iter none es))],cnt:=1}):Cj P tm h nx o K:=by
 refine⟨_,_,BH.one (u:=[]) (ks:=[]) (.inl ⟨rfl,rfl⟩) ?_,hk⟩;intro C S a hW _ Z hnm ab;have Q:=ab x (by rw[ho];simp[Op.operands]);rw[hx] at Q;simp only[Aa,rd] at Q;obtain⟨b,O,z,hv,g2,aa,g3,g4,g5,g6⟩:=Q;have hg:(getObj b).run P S.w= .ok (.map O z) S.w:=PY (w:=S.w) g3;have ac:(underlying T).run P S.w= .ok (.map tk te) S.w:=by simp[underlying,hu]
 refine⟨.pointer (some ⟨S.w.heap.size,0,none⟩),{S.w with heap:=S.w.heap.push (.mapIter (some b) z #[] z)},some ⟨S.w.heap.size,0,0⟩,.inl ?_,V4 (w':={S.w with heap:=S.w.heap.push (.mapIter (some b) z #[] z)}) (ob:= .mapIter (some b) z #[] z) rfl rfl rfl rfl (Z rfl) (λn f hf=>hnm n f hf rfl),?_⟩
 .simp only[execOp,ho,hv,Instr.range,Sem.run_bind,ac,Result.andThen_ok,hg,Sem.run_pure];simp
 intro hp;constructor
 .simp only[An];obtain⟨p1,p2⟩:=hp.ok b aa;refine⟨_,b,O,z,#[],rfl,p1,trivial,p2.trans g3,ZX rfl,g5,g6,?_⟩;have h9:O.toList.filter (λe=> !(#[]:Array Nat).contains e.born)=O.toList:=by
   rw[wT];intro e _;simp
  rw[h9];exact Li hp.ok _ _ g4
 .simp only[Aa];exact⟨rfl,λe he=>⟨⟨S.w.heap.size,0,0⟩,by simp[Au.one],rfl⟩⟩
end
def Hq(P:Program)(V:Dt):Prop:=
 ∀(tm:List (Nat×AV)) (h:Nat->Option Ao) (nx:Nat) (o:Oper) (c:Call) (f:Operand) (K:Ah),o.op= .call c->c.callee= .value f->
  (∀x,∀m∈(Ax tm x).nms,m<nx)->QD V (DP tm c.args.toList) h nx K (Ax tm f)->Cj P tm h nx o K
def xR{tm:List (Nat×AV)}{c:Call}{x:AV}(h:DP tm c.args.toList=[x]): ∃a,c.args= #[a]/\Ax tm a=x:=by
 cases hc:c.args.toList with
 |nil=>rw[hc] at h;cases h
 |cons a r=>
  rw[hc] at h;cases r with
  |nil=>
   simp only[DP,VG,gZ] at h;exact⟨a,aN.1 (by simpa using hc),h⟩
  |cons b r=>simp[DP] at h
def iO{tm:List (Nat×AV)}{c:Call}{x y:AV}(h:DP tm c.args.toList=[x,y]): ∃a b,c.args= #[a,b]/\Ax tm a=x/\Ax tm b=y:=by
 cases hc:c.args.toList with
 |nil=>rw[hc] at h;cases h
 |cons a r=>
  rw[hc] at h;cases r with
  |nil=>simp[DP] at h
  |cons b r=>
   cases r with
   |nil=>
    simp only[DP,VG,gZ] at h;exact⟨a,b,aN.1 (by simpa using hc),h.1,h.2⟩
   |cons d r=>simp[DP] at h
section
variable {P:Program}{tm:List (Nat×AV)}{h:Nat->Option Ao}{nx:Nat}{o:Oper}{K:Ah}
def YT{op:BinOp}{T U:TypeId}{x y:Operand}(O:o.op= .binOp op T x y U)(z:aH P T h op (Ax tm x) (Ax tm y) K (Gs y)):Cj P tm h nx o K:=by
 cases hn:Gs y with
 |succ m=>
  rw[hn] at z;cases m with
  |zero=>exact cD O hn (by decide) z
  |succ m=>
   cases m with
   |zero=>exact cD O hn (by decide) z
   |succ m=>
    cases m with
    |zero=>exact cD O hn (by decide) z
    |succ m=>exact False.elim z
 |zero=>
  rw[hn] at z;simp only[aH] at z;cases hx:Ax tm x<;>rw[hx] at z<;>try exact z.elim
  rename_i d;cases hy:Ax tm y<;>rw[hy] at z<;>try (cases d<;>exact z.elim)
  rename_i d';cases d<;>cases d'<;>try exact z.elim
  .simp only[fW] at z;exact UJ O hx hy z
  .simp only[fW] at z;cases hT:tI P T with
   |none=>rw[hT] at z;exact z.elim
   |some ti=>
    rw[hT] at z;simp only[Nb] at z;exact YU O (Zh hT z.1) hx hy z.2
  .exact YZ O hx hy z
  .exact Pw O hx hy z
def Qrc{V:Dt}(HV:Hq P V){sq:Bool}(af: ∀x,∀m∈(Ax tm x).nms,m<nx)(z:step P V sq tm h nx o.type K o.op):Xc P sq tm h nx o K:=by
 have ad: ∀x,∀m∈(Ax tm x).nms,m≠nx:=λx m hm=>Nat.ne_of_lt (af x m hm)
 cases ho:o.op<;>rw[ho] at z<;>try exact z.elim
 case move x=>exact .inl (pM (.inl ho) z)
 case assign x=>exact .inl (Qabd ho z)
 case pick c a b=>exact .inl (UM ho z)
 case alloc T=>exact .inl (Px ho z)
 case box T x=>exact .inl (YV ho z (λm hm=>ad x m (Qvz _ m hm)))
 case build T ps=>exact .inl (Py ho z)
 case buildSlice T n ps=>exact .inl (Qp8 ho z ad)
 case load T x=>exact .inl (UK ho z)
 case store T x v=>exact .inl (P8 ho z)
 case nilCheck x=>exact .inl (Qvi ho z)
 case binOp op T x y U=>
  simp only[step,KV] at z;split at z
  .rename_i aa;simp only[unS,AN,Qs] at aa;exact .inr ⟨aa.1,.inr (UI ho aa.2.1 z)⟩
  .exact .inl (YT ho z)
 case slice T x lo hi mx=>
  cases mx<;>try exact z.elim
  exact .inl (P7 ho z)
 case range T x=>exact .inl (P6 (λ_ _ _ _ hu O z=>Qaln ho hu O z) ho z)
 case next x b=>
  cases b<;>try exact z.elim
  simp only[step] at z;cases sq with
  |false=>exact z.elim
  |true=>exact .inr ⟨rfl,.inr (UL ho z)⟩
 case entry x=>exact .inl (P2 ho z)
 case makeChan T x=>exact .inl (Qvf ho z)
 case unOp op T x=>exact .inl (UN ho z)
 case convert S T x=>exact .inl (P1 ho z)
 case makeFunc f first capt=>
  cases f<;>try exact z.elim
  exact .inl (YW (by simpa using z.1) ho z.2)
 case makeMap T r=>
  cases r<;>try exact z.elim
  exact .inl (Qyk ho z)
 case makeSlice T l c=>exact .inl (Qrx ho z)
 case fieldAddr T x f=>exact .inl (Qsq ho z)
 case indexAddr T x i=>exact .inl (Qsk ho z)
 case index T x i=>exact .inl (P3 ho z)
 case lookup T m k ok=>exact .inl (Qabg ho z)
 case mapUpdate T m k v=>exact .inl (Qr9 (.inl ho) z)
 case insert T m k v=>exact .inl (Qr9 (.inr ho) z)
 case extract x i=>exact .inl (Qyh ho z)
 case call c=>
  simp only[step] at z;cases hc:c.callee<;>rw[hc] at z<;>try exact z.elim
  case value f=>exact .inl (HV tm h nx o c f K ho hc af z)
  case builtin b=>
   simp only[uH] at z;unfold ZC at z;split at z
   .rename_i x T O Z;obtain⟨a,Q,ac⟩:=xR O;have ab:c.argTypes= #[T]:=aN.1 (by simpa using Z);cases x<;>simp only[Ln] at z
    case ch q=>exact .inl (P4 ho hc Q ab ac z)
    all_goals first
     |exact z.elim
     |(rw[<-ac] at z;exact YY ho hc Q ab z)
   .rename_i s x T U O Z;obtain⟨a,b,Q,rfl,rfl⟩:=iO O;exact .inl (Qab5 ho hc Q (aN.1 (by simpa using Z)) z)
   .rename_i m k T ag O Z;obtain⟨a,b,Q,rfl,rfl⟩:=iO O;exact .inl (Qabh ho hc Q Z z)
   .rename_i d s T U O Z;obtain⟨a,b,Q,rfl,rfl⟩:=iO O;exact .inl (UH ho hc Q (aN.1 (by simpa using Z)) z)
   .rename_i d T O Z;obtain⟨a,Q,rfl⟩:=xR O;exact .inl (P0 ho hc Q (aN.1 (by simpa using Z)) z)
   all_goals exact z.elim
end
def QB(P:Program)(ops:Array Oper)(i:Nat)(a:Act)(w:World)(next:Act->World->Prop):Prop:=
 ∀(b:Frame) (k:List Item) (cs:List Frame) (rest:List Nat),∃a' w',next a' w'/\Steps P (lone (b.at a (.inRegion ops (i::rest)::k)) cs w) (lone (b.at a' (.inRegion ops rest::k)) cs w')
def Op.comm:Op->Bool
 | .send _ _| .recv _ _ _=>true
 |_=>false
def Ka(P:Program)(ops:Array Oper)(i:Nat)(a:Act)(w:World)(next:Act->World->Prop):Prop:=
 (∃o,ops[i]? =some o/\Region.wanted o (yielded ops a.tmps)=true/\o.wp P a w next (λ_ _ _=>False))\/((∀o,ops[i]? =some o->Go.Ae.Op.comm o.op=true)/\QB P ops i a w next)
def Lq(P:Program)(ops:Array Oper)(Q:Act->World->Prop):List Nat->Act->World->Prop
 |[],a,w=>Q a w
 |i::z,a,w=>
  match ops[i]? with
  |none=>Lq P ops Q z a w
  |some o=>if Region.wanted o (yielded ops a.tmps) then Ka P ops i a w (Lq P ops Q z) else Lq P ops Q z (a.put o.dst undef) w
section
variable {P:Program}{ops:Array Oper}{i:Nat}{o:Oper}{a:Act}{w:World}{next:Act->World->Prop}
def Qx0(ho:ops[i]? =some o)(hw:Region.wanted o (yielded ops a.tmps)=true)(h:o.wp P a w next (λ_ _ _=>False)):QB P ops i a w next:=by
 intro b k cs rest;have hg:=stepG_op (P:=P) (b:=b) (a:=a) (k:=k) (cs:=cs) (w:=w) (rest:=rest) ho hw;have z: ∀v,(b.at a (.inRegion ops (i::rest)::k)).finish v=b.at (a.put o.dst v) (.inRegion ops rest::k):=λv=>by
  rw[Frame.finish_at,ho];rfl
 unfold Oper.wp Oper.upon at h;split at h
 .rename_i v Z O;refine⟨_,_,h,.one (step_lone_go ?_)⟩;rw[hg,<-z];simp[stepG.apply,O]
 .rename_i Z O;refine⟨_,_,h,.one (step_lone_go ?_)⟩;rw[hg,<-z];simp[stepG.apply,O]
 .rename_i d Z O;refine⟨_,_,h,.one (step_lone_go ?_)⟩;have h1:({b.at a (.inRegion ops (i::rest)::k) with defers:=d::a.defers}:Frame).finish undef=b.at ({a with defers:=d::a.defers}.put o.dst undef) (.inRegion ops rest::k):=by
   have h2:=Frame.finish_at b {a with defers:=d::a.defers} ops i rest k undef;rw[ho] at h2;exact h2
  rw[hg];simp only[stepG.apply,Sem.runT_eq,O,GStep.bare_after];exact BV (λfr=>GStep.go {frame:=fr,callers:=cs,status:= .running,dying:=none} Z) h1
 .rename_i f args Z O;obtain⟨e,w2,fr,hR,hs,_,hl⟩:=h (b.at a (.inRegion ops (i::rest)::k)::cs);have Q:_root_.Go.step P (lone (b.at a (.inRegion ops (i::rest)::k)) cs w)= .next (lone (Frame.enter P f args .normal) (b.at a (.inRegion ops (i::rest)::k)::cs) Z):=
   step_lone_go (by rw[hg];simp[stepG.apply,O,Frame.at])
  cases e with
  |returned v=>
   refine⟨_,_,hR,.head Q (hs.trans (.one ?_))⟩;rw[<-z];exact step_leave_returned hl
  |panicked c=>exact hR.elim
  |outgrown=>obtain⟨_,_,hR⟩:=hR;exact hR.elim
 .rename_i row args Z O;obtain⟨v,w2,hR,hs⟩:=h (b.at a (.inRegion ops (i::rest)::k)) cs;have Q:_root_.Go.step P (lone (b.at a (.inRegion ops (i::rest)::k)) cs w)= .next (lone (Frame.ofRow P row args .normal) (b.at a (.inRegion ops (i::rest)::k)::cs) Z):=
   step_lone_go (by rw[hg];simp[stepG.apply,O,Frame.at])
  refine⟨_,_,hR,.head Q ?_⟩;rw[<-z];exact hs
 .exact h.elim
 .exact h.elim
def Qab1(z:ops[i]? =some o)(O:Region.wanted o (yielded ops a.tmps)=true)(h:o.wp P a w next (λ_ _ _=>False)):Ka P ops i a w next:= .inl ⟨o,z,O,h⟩
def T7(h:Ka P ops i a w next):QB P ops i a w next:=by
 rcases h with ⟨o,z,O,Q⟩|⟨_,h⟩
 .exact Qx0 z O Q
 .exact h
end
def Qnk{P:Program}{ops:Array Oper}{Q:Act->World->Prop}: ∀(l:List Nat) (a:Act) (w:World),Lq P ops Q l a w-> ∀(b:Frame) (k:List Item) (cs:List Frame),
 ∃a' w',Q a' w'/\Steps P (lone (b.at a (.inRegion ops l::k)) cs w) (lone (b.at a' k) cs w')
 |[],a,w,h,b,k,cs=>⟨a,w,h,.one step_region_end⟩
 |i::rest,a,w,h,b,k,cs=>by
  simp only[Lq] at h;cases ho:ops[i]? with
  |none=>
   rw[ho] at h;obtain⟨a',w',hq,O⟩:=Qnk rest a w h b k cs;have z:=step_op_skip (P:=P) (b:=b) (a:=a) (k:=k) (cs:=cs) (w:=w) (ops:=ops) (i:=i) (rest:=rest) (by simp[ho]);rw[ho] at z;exact⟨a',w',hq,.head z O⟩
  |some o=>
   rw[ho] at h;simp only at h;split at h
   .obtain⟨a1,w1,z,Z⟩:=T7 h b k cs rest;obtain⟨a',w',hq,O⟩:=Qnk rest a1 w1 z b k cs;exact⟨a',w',hq,Z.trans O⟩
   .rename_i hw;obtain⟨a',w',hq,O⟩:=Qnk rest _ w h b k cs;have z:=step_op_skip (P:=P) (b:=b) (a:=a) (k:=k) (cs:=cs) (w:=w) (ops:=ops) (i:=i) (rest:=rest) (by simp[ho,hw]);rw[ho] at z;exact⟨a',w',hq,.head z O⟩
def Ph{P:Program}{id:Nat}{ops:Array Oper}{Q:Exit->Act->World->Prop}{a:Act}{w:World}(h:Lq P ops (Q .normal) (List.range ops.size) a w):(Code.region id ops false).wp P Q a w:=by
 intro b k cs;obtain⟨a',w',hq,z⟩:=Qnk _ a w h b k cs;exact⟨.normal,a',w',hq,.head step_region z⟩
section
variable {P:Program}{ops:Array Oper}{i:Nat}{o:Oper}{a:Act}{w:World}{next:Act->World->Prop}
def Qjg{z:Frame}{cs:List Frame}{w Z:World}{cases:Array CommCase}{O:Bool}{Q:CommShape}{g:Goroutine}
 (h:(stepG P true {frame:=z,callers:=cs,status:= .running,dying:=none} w).bare= .comm g cases O Q Z):
 _root_.Go.step P (lone z cs w)=(communicate P {timers:= #[],alone:=none,slice:=none} #[{(default:Goroutine) with status:= .finished}] 0 g cases O Q Z).1:=by
 generalize hs:stepG P true {frame:=z,callers:=cs,status:= .running,dying:=none} w=s at h;cases s<;>simp at h;obtain⟨rfl,rfl,rfl,rfl,rfl⟩:=h;rw[_root_.Go.step,stepT,move_lone];simp[runT,lone,Array.swapAt!,hs]
def Qon(c:Nat)(s:Bool):partners #[{(default:Goroutine) with status:= .finished}] c s=[]:=by
 simp[partners]
def Qp5{Z:Frame}{cs:List Frame}{w w1:World}{c cap s r:Nat}{O:Array Value}{tm:Bool}{v z:Value}
 (h:(stepG P true {frame:=Z,callers:=cs,status:= .running,dying:=none} w).bare= .comm {frame:=Z,callers:=cs,status:= .running,dying:=none} #[{chan:= .chan (some c),send:=some v,zero:=z}] true .send w1)
 (hc:w1.heap[c]? =some (.chan cap O false s r tm))(Q:O.size<cap):
 _root_.Go.step P (lone Z cs w)= .next (lone (Z.finish undef) cs {w1 with heap:=w1.heap.setIfInBounds c (.chan cap (O.push v) false (s+1) r tm)}):=by
 rw[Qjg h];simp[communicate,ways,hc,Qon,Q,choose,Sem.run,Question.forced,bind,Sem.bind,pure,Goroutine.finishComm,commResult,lone]
def Qp7{Z:Frame}{cs:List Frame}{w w1:World}{c cap s r:Nat}{O:Array Value}{tm cl:Bool}{z:Value}
 (h:(stepG P true {frame:=Z,callers:=cs,status:= .running,dying:=none} w).bare= .comm {frame:=Z,callers:=cs,status:= .running,dying:=none} #[{chan:= .chan (some c),send:=none,zero:=z}] true (.recv false) w1)
 (hc:w1.heap[c]? =some (.chan cap O cl s r tm))(Q:0<O.size):
 _root_.Go.step P (lone Z cs w)= .next (lone (Z.finish (O.getD 0 undef)) cs {w1 with heap:=w1.heap.setIfInBounds c (.chan cap (O.extract 1 O.size) cl s (r+1) tm)}):=by
 rw[Qjg h];simp[communicate,ways,hc,Qon,Q,choose,Sem.run,Question.forced,bind,Sem.bind,pure,Goroutine.finishComm,commResult,lone]
def OU{ch x:Operand}(ho:ops[i]? =some o)(hw:Region.wanted o (yielded ops a.tmps)=true)(ab:o.op= .send ch x){c cap s r:Nat}{O:Array Value}{tm:Bool}(ac:a.eval ch= .chan (some c))
 (hc:w.heap[c]? =some (.chan cap O false s r tm))(Q:O.size<cap)(hn:next (a.put o.dst undef) {w with heap:=w.heap.setIfInBounds c (.chan cap (O.push (a.eval x)) false (s+1) r tm)}):Ka P ops i a w next:=by
 refine .inr ⟨λo' aa=>by rw[ho] at aa;obtain rfl:=Ay aa;rw[ab];rfl,?_⟩;intro b k cs rest;have hg:=stepG_op (P:=P) (b:=b) (a:=a) (k:=k) (cs:=cs) (w:=w) (rest:=rest) ho hw;have Z: ∀v,(b.at a (.inRegion ops (i::rest)::k)).finish v=b.at (a.put o.dst v) (.inRegion ops rest::k):=λv=>by
  rw[Frame.finish_at,ho];rfl
 refine⟨_,_,hn,.one ?_⟩;rw[<-Z];have hr:(execOp a.eval o).run P w= .ok (.comm #[{chan:= .chan (some c),send:=some (a.eval x),zero:= .tuple #[]}] true .send) w:=by
  simp[execOp,ab,ac]
 exact Qp5 (z:= .tuple #[]) (v:=a.eval x) (by rw[hg];simp[stepG.apply,hr,Frame.at]) hc Q
def OT{ch:Operand}{T e:TypeId}{d:ChanDir}{z:Value}(ho:ops[i]? =some o)(hw:Region.wanted o (yielded ops a.tmps)=true)(ab:o.op= .recv T ch false)(hT:P.underlying T=some (.chan d e))(hz:(zeroValue e).run P w= .ok z w)
 {c cap s r:Nat}{O:Array Value}{tm cl:Bool}(ac:a.eval ch= .chan (some c))
 (hc:w.heap[c]? =some (.chan cap O cl s r tm))(Q:0<O.size)(hn:next (a.put o.dst (O.getD 0 undef)) {w with heap:=w.heap.setIfInBounds c (.chan cap (O.extract 1 O.size) cl s (r+1) tm)}):Ka P ops i a w next:=by
 refine .inr ⟨λo' aa=>by rw[ho] at aa;obtain rfl:=Ay aa;rw[ab];rfl,?_⟩;intro b k cs rest;have hg:=stepG_op (P:=P) (b:=b) (a:=a) (k:=k) (cs:=cs) (w:=w) (rest:=rest) ho hw;have Z: ∀v,(b.at a (.inRegion ops (i::rest)::k)).finish v=b.at (a.put o.dst v) (.inRegion ops rest::k):=λv=>by
  rw[Frame.finish_at,ho];rfl
 refine⟨_,_,hn,.one ?_⟩;rw[<-Z];have hu:(underlying T).run P w= .ok (.chan d e) w:=by simp[underlying,hT]
 have hr:(execOp a.eval o).run P w= .ok (.comm #[{chan:= .chan (some c),send:=none,zero:=z}] true (.recv false)) w:=by
  simp[execOp,ab,ac,hu,hz]
 exact Qp7 (z:=z) (by rw[hg];simp[stepG.apply,hr,Frame.at]) hc Q
end
structure CN(C:AU)(N:Nat)(s:Av)(S:Au)(a:Act):Prop where
 wf:Wf C S
 h: ∀n,S.h n=hget s.h n
 tm: ∀t,Aa S (A8 s.tm t) (a.eval (.tmp t))
 nmT: ∀t,∀m∈(A8 s.tm t).nms,m<s.nx
 nmH: ∀n e,hget s.h n=some e->n<s.nx/\ ∀m∈e.2.nms,m<s.nx
 size:a.tmps.size=N
 defers:a.defers=C.ds
 n0:C.n0<=s.nx
 pre:C.Pre S
def Qy2{C:AU}{S S':Au}{nx cnt:Nat}(h:C.Pre S)(hn:C.n0<=nx)(hp:Bv (λm=> ¬Fr nx cnt m) S S'):C.Pre S':=by
 intro o ho e' z;obtain⟨e,Z,h2,h3,h4⟩:=hp.nm o (λhf=>by have:=hf.1;omega) e' z;obtain⟨O,g1,g2,g3,Q⟩:=h o ho e Z;exact⟨O,g1,h2.trans g2,h3.trans g3,h4.trans Q⟩
def BF(C:AU)(N:Nat)(s:Av)(a:Act)(w:World):Prop:= ∃S,S.w=w/\CN C N s S a
def oV(S:Au)(tm:List (Nat×AV))(f:FuncId):Aa S (Ax tm (.func f)) (.func (.func f) #[] #[]):=by
 simp only[Ax];cases hb:Nat.blt f 1000000000 with
 |true=>simp only[BX,Aa,rd,rdl];exact⟨#[],#[],by rw[WU (by simpa using hb)],rfl,rfl⟩
 |false=>simp only[Bm,Aa]
def QQ{C:AU}{N:Nat}{s:Av}{S:Au}{a:Act}(h:CN C N s S a)(x:Operand):Aa S (Ax s.tm x) (a.eval x):=by
 cases x with
 |tmp t=>exact h.tm t
 |const v=>exact dP S v
 |global g=>simp only[Ax,Aa,rd,Act.eval]
 |func f=>exact oV S s.tm f
def LI{tm:List (Nat×AV)}{nx:Nat}(h: ∀t,∀m∈(A8 tm t).nms,m<nx)(x:Operand): ∀m∈(Ax tm x).nms,m<nx:=by
 cases x with
 |tmp t=>exact h t
 |const v=>
  intro m z;simp only[Ax] at z;unfold kD at z;split at z<;>simp[AV.nms] at z
 |global g=>intro m z;simp[Ax,AV.nms] at z
 |func f=>intro m z;simp only[Ax] at z;cases hb:Nat.blt f 1000000000<;>rw[hb] at z<;>simp[AV.nms] at z
mutual
def vA{n:Nat}: ∀(x:AV),x.bel n=true-> ∀m∈x.nms,m<n
 | .any,_=>by simp[AV.nms]
 | .im _,_=>by simp[AV.nms]
 | .agg cs,h=>by simpa only[AV.nms] using ZJ cs (by simpa only[AV.bel] using h)
 | .tup cs,h=>by simpa only[AV.nms] using ZJ cs (by simpa only[AV.bel] using h)
 | .ptr o _,h=>by simpa[AV.nms,AV.bel] using h
 | .eptr o _ _,h=>by simpa[AV.nms,AV.bel] using h
 | .own o,h=>by simpa[AV.nms,AV.bel] using h
 | .mp o,h=>by simpa[AV.nms,AV.bel] using h
 | .ch o,h=>by simpa[AV.nms,AV.bel] using h
 | .it o,h=>by simpa[AV.nms,AV.bel] using h
 | .osl o _ _,h=>by simpa[AV.nms,AV.bel] using h
 | .clo _ a c,h=>by
   simp only[AV.bel,AN] at h;simp only[AV.nms,Bn];rintro m (z|z)
   .exact ZJ a h.1 m z
   .exact ZJ c h.2 m z
def ZJ{n:Nat}: ∀(xs:List AV),AF n xs=true-> ∀m∈AA xs,m<n
 |[],_=>by simp[AA]
 |x::xs,h=>by
  simp only[AF,AN] at h;simp only[AA,Bn];rintro m (z|z)
  .exact vA x h.1 m z
  .exact ZJ xs h.2 m z
end
def pG{n:Nat}: ∀(z:List (List AV)),z.all (AF n)=true-> ∀m∈B5 z,m<n
 |[],_=>by simp[B5]
 |r::z,h=>by
  simp only[JL,AN] at h;simp only[B5,Bn];rintro m (O|O)
  .exact ZJ r h.1 m O
  .exact pG z h.2 m O
def fC{n:Nat}: ∀(hs:Ap),Aw n hs=true-> ∀o e,hget hs o=some e-> ∀m∈e.2.nms,m<n
 |[],_,o,e,h=>by simp[hget] at h
 |(q,Z,Q)::hs,z,o,e,h=>by
  have O:(∀m∈Q.nms,m<n)/\Aw n hs=true:=by
   cases Q<;>simp only[Aw,AN] at z
   .exact⟨ZJ _ z.1,z.2⟩
   .exact⟨by simp[Ab.nms],z⟩
   .exact⟨pG _ z.1,z.2⟩
   .exact⟨by simp[Ab.nms],z⟩
   .exact⟨by simp[Ab.nms],z⟩
   .exact⟨by simp[Ab.nms],z⟩
   .exact⟨by simp[Ab.nms],z⟩
  simp only[hget] at h;cases hq:q==o<;>rw[hq] at h
  .exact fC hs O.2 o e (by simpa using h)
  .simp only[BX,AI] at h;subst h;exact O.1
def Qlm{ks:List Nat}{nx cnt:Nat}: ∀(hs:Ap),GW ks nx cnt hs=true-> ∀o e,hget hs o=some e->(nx<=o/\o<nx+cnt)\/(o∈ks/\o<nx)
 |[],_,o,e,h=>by simp[hget] at h
 |(q,x)::hs,z,o,e,h=>by
  simp only[GW,AN] at z;simp only[hget] at h;cases hq:q==o<;>rw[hq] at h
  .exact Qlm hs z.2 o e (by simpa using h)
  .have O:q=o:=by simpa using hq
   subst O
   have:=z.1
   simp only[Ke,Iq,AN,G8,E4,FO] at this;exact this
def Qm2(a b:Ap)(n:Nat):hget (a++b) n=match hget a n with|some e=>some e|none=>hget b n:=by
 induction a with
 |nil=>rfl
 |cons x a ih=>
  obtain⟨q,e⟩:=x;simp only[CO,hget];cases q==n<;>simp[ih]
def Qm7(ks:List Nat)(n:Nat): ∀(a:Ap),hget (Bj a ks) n=bif ks.contains n then none else hget a n
 |[]=>by simp[Bj,hget]
 |(q,e)::a=>by
  simp only[Bj];have ih:=Qm7 ks n a;cases hq:ks.contains q
  .simp only[Bm,hget,ih];cases hqn:q==n
   .simp
   .have:q=n:=by simpa using hqn
    subst this;have z:q∉ks:=by simpa using hq
    simp[z]
  .simp only[BX,ih,hget];cases hqn:q==n
   .simp
   .have:q=n:=by simpa using hqn
    subst this;have z:q∈ks:=by simpa using hq
    simp[z]
def zR{a:Act}{dst:Option Nat}{v:Value}{t:Nat}(hd: ∀d,dst=some d->d<a.tmps.size):
 (a.put dst v).eval (.tmp t)=if dst=some t then v else a.eval (.tmp t):=by
 cases dst with
 |none=>simp[Act.put]
 |some d=>
  have:=hd d rfl
  simp only[Act.put,Act.eval,HG,Xf,AI];by_cases h:d=t
  .subst h;simp[this]
  .simp[h]
def Vz{s:Av}{dst:Option Nat}{x:AV}{t:Nat}:A8 (s.put dst x).tm t=if dst=some t then x else A8 s.tm t:=by
 cases dst with
 |none=>simp[Av.put]
 |some d=>
  simp only[Av.put,A8,AI];by_cases h:d=t
  .subst h;simp
  .have:(d==t)=false:=by simpa using h
   simp[this,h]
def Qxs{C:AU}{N:Nat}{s:Av}{S S':Au}{a:Act}{dst:Option Nat}{r:AV}{E:Bk}{v:Value}(z:CN C N s S a)(aa:E.ok s.nx r=true)(hd: ∀d,dst=some d->d<N)
 (hW:Wf C S')(hh:S'.h=E.appf S.h)(hp:Bv (λm=> ¬Fr s.nx E.cnt m) S S')(hv:Aa S' r v):CN C N (s.app dst r E) S' (a.put dst v):=by
 simp only[Bk.ok,AN] at aa;obtain⟨af,ag,ah⟩:=aa;have Q: ∀n,hget (E.new++Bj s.h E.kill) n=E.appf (hget s.h) n:=by
  intro n;rw[Qm2,Qm7];simp only[Bk.appf];cases hget E.new n<;>rfl
 have ad:S.h=hget s.h:=funext z.h;have Z:(s.app dst r E).nx=s.nx+E.cnt:=by cases dst<;>rfl
 have ab:(s.app dst r E).h=E.new++Bj s.h E.kill:=by cases dst<;>rfl
 have ac: ∀t,A8 (s.app dst r E).tm t=if dst=some t then r else A8 s.tm t:=λt=>Vz
 refine⟨hW,?_,?_,?_,?_,?_,?_,?_,Qy2 z.pre z.n0 hp⟩
 .intro n;rw[ab,Q,hh,ad]
 .intro t;rw[ac,zR (λd h=>by rw[z.size];exact hd d h)];split
  .exact hv
  .refine HA hp _ _ ?_ (z.tm t);intro m hm ai
   have:=z.nmT t m hm
   have:=ai.1
   omega
 .intro t;rw[ac,Z];split
  .exact vA r af
  .intro m hm;have:=z.nmT t m hm;omega
 .intro n e O;rw[ab,Qm2] at O;rw[Z];cases hn:hget E.new n with
  |some e'=>
   rw[hn] at O;obtain rfl:=Ay O;refine⟨?_,fC _ ag n _ hn⟩;rcases Qlm _ ah n _ hn with h|h<;>omega
  |none=>
   rw[hn] at O;simp only[Qm7] at O;cases hk:E.kill.contains n<;>rw[hk] at O
   .obtain⟨h1,h2⟩:=z.nmH n e (by simpa using O);exact⟨by omega,λm hm=>by have:=h2 m hm;omega⟩
   .simp at O
 .cases dst<;>simp[Act.put,z.size]
 .cases dst<;>simp[Act.put,z.defers]
 .rw[Z];exact DH z.n0 (Nat.le_add_right _ _)
def Qty{P:Program}{V:Dt}(HV:Hq P V){C:AU}{N:Nat}{s:Av}{a:Act}{w:World}{ops:Array Oper}{i:Nat}{o:Oper}{go:Av->Prop}(av:ops[i]? =some o)(hw:Region.wanted o (yielded ops a.tmps)=true)(hd: ∀d,o.dst=some d->d<N)
 (O:J2 P V o.dst o.op o.type go s)(Q:BF C N s a w){next:Act->World->Prop}(hn: ∀s' a' w',go s'->BF C N s' a' w'->next a' w'):Ka P ops i a w next:=by
 obtain⟨S,rfl,Q⟩:=Q;have bg:S.h=hget s.h:=funext Q.h;unfold J2 at O;have a0:step P V true s.tm (hget s.h) s.nx o.type (D6 go s o.dst) o.op->Ka P ops i a S.w next:=by
  intro O;refine Qab1 av hw ?_;have an: ∀n,s.nx<=n->S.h n=none:=by
   intro n ak;cases hn:S.h n with
   |none=>rfl
   |some e=>
    have:=(Q.nmH n e (by rw[<-Q.h n];exact hn)).1
    omega
  have ao: ∀n e,S.h n=some e-> ∀m∈e.2.nms,m<s.nx:=λn e he m hm=>(Q.nmH n e (by rw[<-Q.h n];exact he)).2 m hm
  rcases Qrc HV (LI Q.nmT) O with ⟨r,E,aj,af,ah⟩|⟨_,⟨u,ax⟩|bb⟩
  .refine aj C S a next _ Q.wf (λn _=>Q.h n) (λn ak=>an n ak.1) ?_ (λx _=>QQ Q x) ?_
   .intro n e he m hm ak
    have:=ao n e he m hm
    have:=ak.1
    omega
   .intro v S' hW hh hp hv;exact hn _ _ _ ah ⟨S',rfl,Qxs Q af hd hW hh hp hv⟩
  .exact absurd (ax C S a Q.wf (λn _=>Q.h n) (λx _=>QQ Q x)) id
  .refine bb C S a next _ Q.wf Q.h an ao (λx _=>QQ Q x) ?_
   intro r E v S' hK hW hh hp hv;obtain⟨af,ah⟩:=hK;exact hn _ _ _ ah ⟨S',rfl,Qxs Q af hd hW hh hp hv⟩
 have chan: ∀(q cap:Nat) (bu ag:List D) (l:Ff) (ab:Array Value) (aa Z:Nat) (r:AV) (v:Value),S.h q=some (true,.chan bu cap)->S.ρ q=some l->rdl S.ok S.hp ag ab.toList->
  (∀S':Au,(∀b,S.ok b->S'.ok b/\S'.hp b=S.hp b)->Aa S' r v)->
  D6 go s o.dst r {use:=[q],kill:=[q],new:=[(q,(true,.chan ag cap))]}->next (a.put o.dst v) {S.w with heap:=S.w.heap.setIfInBounds l.b (.chan cap ab false aa Z false)}:=by
  intro q cap bu ag l ab aa Z r v hS hl hb hv hK
  let w':World:={S.w with heap:=S.w.heap.setIfInBounds l.b (.chan cap ab false aa Z false)}
  have aq:Ij S q (.chan ag cap) (some l) [q] w':=ZQ Q.wf hS hl (w':=w') (ob:= .chan cap ab false aa Z false) rfl rfl rfl rfl rfl rfl;have am:=WC Q.wf aq;have az:An (S.one q (.chan ag cap) (some l) [q] w') (some l) (.chan ag cap):=by
   simp only[An];exact⟨l,ab,aa,Z,rfl,fT (Q.wf.loc q _ l hS hl).1 rfl,Lk am.ok _ _ hb⟩
  have a8:=ZY Q.wf aq az;obtain⟨af,ah⟩:=hK;refine hn _ _ _ ah ⟨_,rfl,Qxs Q af hd a8 ?_ ⟨am.ok,λn hX=>am.nm n (.inl (by rw[hS];simp))⟩ (hv _ am.ok)⟩;funext n;simp only[Au.one,Bk.appf,Go.Ae.hget];by_cases aw:n=q
  .subst aw;simp
  .have:(q==n)=false:=by rw[HJ];exact λh=>aw h.symm
   simp[this,aw]
 unfold DS at O;split at O
 .rename_i c x aj;unfold KY at O;split at O
  .rename_i q d au bd;have h1:=QQ Q c;have h2:=QQ Q x;rw[au] at h1;rw[bd] at h2;cases hq:hget s.h q with
   |none=>rw[hq] at O;exact O.elim
   |some ad=>
    obtain⟨mu,ad⟩:=ad;rw[hq] at O;cases mu<;>cases ad<;>try exact O.elim
    rename_i bu cap;simp only[kF] at O;obtain⟨ba,O⟩:=O;have hS:=(Q.h q).trans hq;simp only[Aa] at h1 h2;obtain⟨l,hl,hv⟩:=h1.2 _ hS;have ai:=Q.wf.obj _ _ hS;simp only[An] at ai;obtain⟨lc,ac,aa,Z,g1,g2,g3⟩:=ai;rw[hl] at g1;obtain rfl:=Ay g1;have ay:=fF _ _ g3;simp only[Dg] at ay;refine OU av hw aj hv g2 (by omega) ?_;refine chan q cap bu (bu++[d]) l (ac.push (a.eval x)) (aa+1) Z .any undef hS hl ?_ (λ_ _=>by simp only[Aa]) O;rw[Zeb]
    have: ∀(ds:List D) (vs:List Value),rdl S.ok S.hp ds vs->rdl S.ok S.hp (ds++[d]) (vs++[a.eval x]):=by
     intro ds;induction ds with
     |nil=>intro vs h;simp only[rdl] at h;subst h;simp only[Fq,rdl];exact⟨_,_,rfl,h2,rfl⟩
     |cons y ys ih=>
      intro vs h;simp only[rdl] at h;obtain⟨v,r,rfl,k1,k2⟩:=h;simp only[CO,rdl];exact⟨_,_,rfl,k1,ih r k2⟩
    exact this _ _ g3
  .exact O.elim
 .rename_i T c aj;unfold KX at O;cases hce:VA P T with
  |none=>rw[hce] at O;exact O.elim
  |some e=>
  rw[hce] at O;simp only[rvK] at O;cases hE:tI P e with
  |none=>rw[hE] at O;exact O.elim
  |some te=>
  rw[hE] at O;simp only[Bg,rvE] at O;obtain⟨be,hz,O⟩:=O;obtain⟨z,bf,_⟩:=eL hE be hz;obtain⟨dr,hu⟩:=Qpi hce;have h1:=QQ Q c;cases au:Ax s.tm c<;>rw[au] at O h1<;>try exact O.elim
  rename_i q;simp only[rvC] at O;cases hq:hget s.h q with
  |none=>rw[hq] at O;exact O.elim
  |some ad=>
   obtain⟨mu,ad⟩:=ad;rw[hq] at O;cases mu<;>cases ad<;>try exact O.elim
   rename_i bu cap;simp only[kC] at O;obtain⟨a9,O⟩:=O;obtain⟨d,r,rfl⟩:=Zex a9;have O:=O d r rfl;have hS:=(Q.h q).trans hq;simp only[Aa] at h1;obtain⟨l,hl,hv⟩:=h1.2 _ hS;have ai:=Q.wf.obj _ _ hS;simp only[An] at ai;obtain⟨lc,ac,aa,Z,g1,g2,g3⟩:=ai;rw[hl] at g1;obtain rfl:=Ay g1;simp only[rdl] at g3;obtain⟨v0,vr,k1,k2,k3⟩:=g3;have bc:0<ac.size:=by rw[<-Dg,k1];simp
   have h0:ac.getD 0 undef=v0:=by
    have:ac.toList[0]? =some v0:=by rw[k1];rfl
    rw[HG,<-Gd,this];rfl
   have hx:(ac.extract 1 ac.size).toList=vr:=by
    rw[Zfn,k1];simp only[List.extract,Lu,F8];apply DE;rw[<-Dg,k1];simp
   refine OT av hw aj hu (bf _) hv g2 bc ?_;rw[h0];refine chan q cap (d::r) r l _ aa (Z+1) (.im d) v0 hS hl (by rw[hx];exact k3) (λS' af=> ?_) O;simp only[Aa];exact GJ af _ _ k2
 .exact a0 O
def LF{C:AU}{N:Nat}{s:Av}{a:Act}{w:World}(z:BF C N s a w){dst:Option Nat}(hd: ∀d,dst=some d->d<N){x:AV}{v:Value}(hx:x.nms=[])(hv: ∀S,Aa S x v):BF C N (s.put dst x) (a.put dst v) w:=by
 obtain⟨S,rfl,z⟩:=z;have Z:(s.put dst x).h=s.h:=by cases dst<;>rfl
 have O:(s.put dst x).nx=s.nx:=by cases dst<;>rfl
 refine⟨S,rfl,z.wf,λn=>by rw[Z];exact z.h n,?_,?_,?_,?_,?_,by rw[O];exact z.n0,z.pre⟩
 .intro t;rw[Vz,zR (λd h=>by rw[z.size];exact hd d h)];split
  .exact hv S
  .exact z.tm t
 .intro t;rw[Vz,O];split
  .rw[hx];intro m hm;cases hm
  .exact z.nmT t
 .intro n e Q;rw[Z] at Q;rw[O];exact z.nmH n e Q
 .cases dst<;>simp[Act.put,z.size]
 .cases dst<;>simp[Act.put,z.defers]
def JF(N:Nat):List Oper->Bool
 |[]=>true
 |o::r=>(match o.dst with|some d=>Nat.blt d N|none=>true) && JF N r
def Qqk{C:AU}{N:Nat}{s:Av}{S:Au}{a:Act}(Q:CN C N s S a){ops:Array Oper}{j t:Nat}(Z:(ops[j]?).bind (·.dst)=some t){b:Bool}(O:A8 s.tm t= .im (.bool b)):
 yielded ops a.tmps j=some b:=by
 have z:=Q.tm t;rw[O] at z;simp only[Aa,rd,Act.eval] at z;unfold yielded;rw[Z];simp only[G7];rw[HG] at z;cases hq:a.tmps[t]? with
 |none=>rw[hq] at z;simp[undef] at z
 |some v=>rw[hq] at z;simp at z;rw[z]
def Qpr{P:Program}{V:Dt}(HV:Hq P V){C:AU}{N:Nat}{ops:Array Oper}{K:Av->Prop}{Q:Exit->Act->World->Prop}(hQ: ∀s a w,K s->BF C N s a w->Q .normal a w):
 ∀(rest more:List Oper) (i:Nat),ops.toList.drop i=rest++more->JF N rest=true-> ∀(s:Av) (a:Act) (w:World),KS P V (Ga ops rest) K s->BF C N s a w->Lq P ops (Q .normal) (List.range' i rest.length) a w:=by
 intro rest more;induction rest with
 |nil=>
  intro i _ _ s a w O hc;simp only[Ga,KS] at O;simpa[Lq] using hQ s a w O hc
 |cons o rest ih=>
  intro i hi hd s a w O hc;simp only[JF,AN] at hd;have af:ops[i]? =some o:=by
   have:(ops.toList.drop i)[0]? =some o:=by rw[hi];rfl
   simpa using this
  have ak:ops.toList.drop (i+1)=rest++more:=by
   have:(ops.toList.drop i).drop 1=rest++more:=by rw[hi];rfl
   rwa [DU] at this
  have aa: ∀d,o.dst=some d->d<N:=by
   intro d aj
   have:=hd.1
   rw[aj] at this;simpa using this
  have Z: ∀s' a' w',KS P V (Ga ops rest) K s'->BF C N s' a' w'->Lq P ops (Q .normal) (List.range' (i+1) rest.length) a' w':=λs' a' w' h1 h2=>ih (i+1) ak hd.2 s' a' w' h1 h2
  simp only[Cv,List.range'_succ,Lq,af];simp only[Ga,KS] at O;cases hg:o.guard with
  |none=>
   rw[hg] at O;simp only[Xa,yV] at O;rw[Ai (by simp[Region.wanted,hg])];exact Qty HV af (by simp[Region.wanted,hg]) aa O hc Z
  |some g=>
   obtain⟨j,ab⟩:=g;rw[hg] at O;simp only[Xa,yV] at O;cases ht:(ops[j]?).bind (·.dst) with
   |none=>rw[ht] at O;exact O.elim
   |some t=>
    rw[ht] at O;simp only[XW] at O;cases hb:A8 s.tm t<;>rw[hb] at O<;>try exact O.elim
    rename_i d;cases d<;>try exact O.elim
    case tup cs=>
     cases cs with
     |cons _ _=>exact O.elim
     |nil=>
      simp only[WD,MZ] at O;have hy:yielded ops a.tmps j=none:=by
       obtain⟨S,_,z⟩:=hc;have h1:=z.tm t;rw[hb] at h1;simp only[Aa,rd,rdl,Act.eval] at h1;obtain⟨vs,h1,h2⟩:=h1;unfold yielded;rw[ht];simp only[G7];rw[HG] at h1;cases hq:a.tmps[t]? with
       |none=>rfl
       |some v=>rw[hq] at h1;simp at h1;rw[h1]
      rw[Af (by simp[Region.wanted,hg,hy])];exact Z _ _ _ O (LF hc aa rfl (λS=>by simp only[Aa,rd,rdl];exact⟨#[],rfl,rfl⟩))
    case bool b=>
    simp only[WD] at O;obtain⟨S,ah,z⟩:=hc;have hy:=Qqk z ht hb;have ad: ∀b':Bool,b=b'->BF C N (s.put (some t) (.im (.bool b'))) a w:=by
     intro b' ai;subst ai;refine⟨S,ah,z.wf,z.h,?_,?_,z.nmH,z.size,z.defers,z.n0,z.pre⟩
     .intro t';rw[Vz];split
      .rename_i h;cases h;have:=z.tm t;rwa [hb] at this
      .exact z.tm t'
     .intro t';rw[Vz];split
      .intro m hm;simp[AV.nms] at hm
      .exact z.nmT t'
    by_cases ac:b=ab
    .rw[Ai (by simp[Region.wanted,hg,hy,ac])];exact Qty HV af (by simp[Region.wanted,hg,hy,ac]) aa (O.1 ac) (ad ab ac) Z
    .rw[Af (by simp[Region.wanted,hg,hy,ac])];have ag:b= !ab:=by cases b<;>cases ab<;>simp_all
     have h2:=O.2 ag;simp only[MZ] at h2;exact Z _ _ _ h2 (LF (ad _ ag) aa rfl (λS=>by simp only[Aa,rd,rdl];exact⟨#[],rfl,rfl⟩))
def Qt0{P:Program}{V:Dt}(z:Hq P V){C:AU}{N id:Nat}{ops:Array Oper}{K:Av->Prop}{Q:Exit->Act->World->Prop}(O: ∀s a w,K s->BF C N s a w->Q .normal a w)
 (hd:JF N ops.toList=true){s:Av}{a:Act}{w:World}(hk:KS P V (Ga ops ops.toList) K s)(Z:BF C N s a w):(Code.region id ops false).wp P Q a w:=by
 refine Ph ?_
 have:=Qpr z (ops:=ops) O ops.toList [] 0 (by simp) hd s a w hk Z
 rwa [Dg,<-Zel] at this
structure Ev where
 i:Nat
 o:Oper
 s:Av
 r:AV
 E:Bk
 skip:Bool
def HD(D:Nat->Bool):List Ev->(Nat->Option Ao)->(Nat->Option Ao)
 |[],h=>h
 |e::r,h=>HD D r (bif D e.i then e.E.appf h else h)
def TD(D:Nat->Bool):List Ev->(Nat->AV)->(Nat->AV)
 |[],f=>f
 |e::r,f=>TD D r (λt=>bif D e.i && (e.o.dst==some t) then e.r else f t)
def Qwh{n:Nat}: ∀(hs:Ap),n∉Ia hs->hget hs n=none
 |[],_=>rfl
 |(q,e)::hs,h=>by
  simp only[Ia,Bh,aS] at h
  have:(q==n)=false:=by rw[HJ];exact λh'=>h.1 h'.symm
  simp only[hget,this,Bm];exact Qwh hs h.2
def Qur{n:Nat}: ∀(hs:Ap),n∈Ia hs-> ∃e,hget hs n=some e
 |[],h=>by simp[Ia] at h
 |(q,e)::hs,h=>by
  simp only[Ia,Bh] at h;simp only[hget];cases hq:q==n
  .have z:q≠n:=by simpa using hq
   rcases h with rfl|h
   .exact absurd rfl z
   .simpa using Qur hs h
  .exact⟨e,by simp⟩
def uD{E:Bk}{h:Nat->Option Ao}{n:Nat}(hn:n∉E.touch):E.appf h n=h n:=by
 simp only[Bk.touch,Bn,aS] at hn;simp[Bk.appf,Qwh _ hn.2,hn.1]
def Xs{E:Bk}{h h':Nat->Option Ao}{n:Nat}(hn:n∈E.touch):E.appf h n=E.appf h' n:=by
 simp only[Bk.appf];cases hg:hget E.new n with
 |some e=>rfl
 |none=>
  simp only[Bk.touch,Bn] at hn;rcases hn with hn|hn
  .simp[hn]
  .obtain⟨e,z⟩:=Qur _ hn;rw[z] at hg;cases hg
def Qym{E:Bk}{h h':Nat->Option Ao}{n:Nat}(z:h n=h' n):E.appf h n=E.appf h' n:=by
 simp only[Bk.appf,z]
def mA{D D':Nat->Bool}{n:Nat}: ∀(evs:List Ev) (h h':Nat->Option Ao),h n=h' n->(∀e∈evs,D e.i≠D' e.i->n∉e.E.touch)->HD D evs h n=HD D' evs h' n
 |[],_,_,z,_=>z
 |e::r,h,h',z,hd=>by
  simp only[HD];refine mA r _ _ ?_ (λx O=>hd x (by simp[O]));cases h1:D e.i<;>cases h2:D' e.i
  .simpa using z
  .have:=hd e (by simp) (by rw[h1,h2];simp)
   simp only[Bm,BX];rw[uD this];exact z
  .have:=hd e (by simp) (by rw[h1,h2];simp)
   simp only[Bm,BX];rw[uD this];exact z
  .simp only[BX];exact Qym z
def mC{D D':Nat->Bool}{t:Nat}: ∀(evs:List Ev) (f f':Nat->AV),f t=f' t->(∀e∈evs,D e.i≠D' e.i->e.o.dst≠some t)->TD D evs f t=TD D' evs f' t
 |[],_,_,z,_=>z
 |e::r,f,f',z,hd=>by
  simp only[TD];refine mC r _ _ ?_ (λx O=>hd x (by simp[O]));by_cases hq:e.o.dst=some t
  .have:D e.i=D' e.i:=by
    rcases Decidable.em (D e.i=D' e.i) with h|h
    .exact h
    .exact absurd hq (hd e (by simp) h)
   rw[this,z]
  .have:(e.o.dst==some t)=false:=by rw[HJ];exact hq
   simp[this,z]
def vR(D:Nat->Bool): ∀(a b:List Ev) (h:Nat->Option Ao),HD D (a++b) h=HD D b (HD D a h)
 |[],_,_=>rfl
 |e::a,b,h=>by simp only[CO,HD];exact vR D a b _
def vT(D:Nat->Bool): ∀(a b:List Ev) (f:Nat->AV),TD D (a++b) f=TD D b (TD D a f)
 |[],_,_=>rfl
 |e::a,b,f=>by simp only[CO,TD];exact vT D a b _
def Qw6{D:Nat->Bool}: ∀(evs:List Ev) (h:Nat->Option Ao) (n:Nat),(∀e∈evs,D e.i=true->n∉e.E.touch)->HD D evs h n=h n
 |[],_,_,_=>rfl
 |e::r,h,n,hd=>by
  simp only[HD];rw[Qw6 r _ n (λx z=>hd x (by simp[z]))];cases h1:D e.i
  .rfl
  .exact uD (hd e (by simp) h1)
def Qyr{D:Nat->Bool}: ∀(evs:List Ev) (f:Nat->AV) (t:Nat),(∀e∈evs,D e.i=true->e.o.dst≠some t)->TD D evs f t=f t
 |[],_,_,_=>rfl
 |e::r,f,t,hd=>by
  simp only[TD];rw[Qyr r _ t (λx z=>hd x (by simp[z]))];cases h1:D e.i
  .rfl
  .have:(e.o.dst==some t)=false:=by rw[HJ];exact hd e (by simp) h1
   simp[this]
def Qtn{n:Nat}{x:Ao}: ∀(hs:Ap),hget hs n=some x->n∈Ia hs/\ ∀m∈x.2.nms,m∈Jn hs
 |[],h=>by simp[hget] at h
 |(q,mu,ob)::hs,h=>by
  simp only[hget] at h;simp only[Ia,Jn,Bh,Bn];cases hq:q==n<;>rw[hq] at h
  .obtain⟨Q,Z⟩:=Qtn hs (by simpa using h);exact⟨.inr Q,λm z=> .inr (Z m z)⟩
  .have O:q=n:=by simpa using hq
   simp only[BX,AI] at h;subst h;exact⟨.inl O.symm,λm z=> .inl z⟩
def JY{D:Nat->Bool}{n:Nat}{x:Ao}: ∀(evs:List Ev) (h:Nat->Option Ao),HD D evs h n=some x->h n=some x\/ ∃e∈evs,D e.i=true/\hget e.E.new n=some x
 |[],_,O=> .inl O
 |e::r,h,O=>by
  simp only[HD] at O;rcases JY r _ O with z|⟨f,hf,Q⟩
  .cases hd:D e.i<;>rw[hd] at z
   .exact .inl z
   .simp only[BX,Bk.appf] at z;cases hg:hget e.E.new n with
    |some y=>
     rw[hg] at z;obtain rfl:=Ay z;exact .inr ⟨e,by simp,hd,hg⟩
    |none=>
     rw[hg] at z;cases hk:e.E.kill.contains n<;>rw[hk] at z
     .exact .inl z
     .cases z
  .exact .inr ⟨f,by simp[hf],Q⟩
def Ri{D:Nat->Bool}{t:Nat}: ∀(evs:List Ev) (f:Nat->AV),TD D evs f t=f t\/ ∃e∈evs,D e.i=true/\TD D evs f t=e.r
 |[],_=> .inl rfl
 |e::r,f=>by
  simp only[TD];rcases Ri r (λt=>bif D e.i && (e.o.dst==some t) then e.r else f t) with z|⟨x,Q,O⟩
  .rw[z];cases hd:D e.i
   .exact .inl rfl
   .cases hq:e.o.dst==some t
    .exact .inl rfl
    .exact .inr ⟨e,by simp,hd,rfl⟩
  .exact .inr ⟨x,by simp[Q],O⟩
structure vZ(e f:Ev):Prop where
 a: ∀n,n∈f.E.use++f.E.kill->n∉e.E.touch
 b: ∀n,n∈f.E.touch->n∉e.E.touch
 c: ∀n,n∈f.E.touch->n∉e.E.use++e.E.kill
 d: ∀n,n∈f.E.touch++(f.r.nms++Jn f.E.new)-> ¬Fr e.s.nx e.E.cnt n
def Qlq: ∀(l k:List Nat),Ik l k=true-> ∀n∈l,n∉k
 |[],_,_,n,hn=>by cases hn
 |x::l,k,h,n,hn=>by
  simp only[Ik,AN,Rl] at h;rcases Bh.1 hn with rfl|hn
  .intro z
   have:=h.1
   rw[FO.2 z] at this;cases this
  .exact Qlq l k h.2 n hn
def Qtw{nx cnt:Nat}: ∀(l:List Nat),FF nx cnt l=true-> ∀n∈l,¬Fr nx cnt n
 |[],_,n,hn=>by cases hn
 |x::l,h,n,hn=>by
  simp only[FF,AN,Iq,E4,G8] at h;rcases Bh.1 hn with rfl|hn
  .intro hf
   have:=hf.1
   have:=hf.2
   omega
  .exact Qtw l h.2 n hn
def VQ(ops:Array Oper)(s:Av)(skip:Bool):Option (Nat×Bool)->Prop
 |none=>skip=false
 |some (g,z)=> ∃t,(ops[g]?).bind (·.dst)=some t/\((∃b,A8 s.tm t= .im (.bool b)/\skip=(b !=z))\/(A8 s.tm t= .im (.tup [])/\skip=true))
structure oK(P:Program)(ops:Array Oper)(e:Ev):Prop where
 op:ops[e.i]? =some e.o
 gd:VQ ops e.s e.skip e.o.guard
 doo:e.skip=false->BH P e.s.tm (hget e.s.h) e.s.nx e.o e.r e.E/\e.E.ok e.s.nx e.r=true
 skp:e.skip=true->e.r= .im (.tup [])/\e.E={}
abbrev Of:Nat->Bool:=λ_=>true
def JQ(j:Nat):Nat->Bool:=λi=>Nat.blt i j
def Jk{i j:Nat}(h:JQ j i=true):i<j:=by simpa[JQ] using h
structure GT(P:Program)(ops:Array Oper)(cl:List (List Nat))(s0:Av)(evs:List Ev)(s:Av)(acc:List Fp):Prop where
 idx: ∀(k:Nat) (e:Ev),evs[k]? =some e->e.i=k
 tm: ∀t,A8 s.tm t=TD Of evs (A8 s0.tm) t
 h: ∀n,hget s.h n=HD Of evs (hget s0.h) n
 nx:s0.nx<=s.nx
 ev: ∀e∈evs,oK P ops e/\s0.nx<=e.s.nx/\e.s.nx+e.E.cnt<=s.nx
 atT: ∀e∈evs,∀t,A8 e.s.tm t=TD (JQ e.i) evs (A8 s0.tm) t
 atH: ∀e∈evs,∀n,hget e.s.h n=HD (JQ e.i) evs (hget s0.h) n
 ord: ∀e∈evs,∀f∈evs,e.i<f.i->e.s.nx+e.E.cnt<=f.s.nx
 pair: ∀e∈evs,∀f∈evs,e.i<f.i->DX cl e.i f.i=true\/vZ e f
 acc: ∀e∈evs,e.skip=true\/(⟨e.i,e.E.use++e.E.kill,e.E.touch,e.s.nx,e.E.cnt⟩:Fp)∈acc
 nmT: ∀t,∀m∈(A8 s.tm t).nms,m<s.nx
section
variable {P:Program}{ops:Array Oper}{cl:List (List Nat)}{s0 s:Av}{evs:List Ev}{acc:List Fp}
def GT.lt(g:GT P ops cl s0 evs s acc): ∀e∈evs,e.i<evs.length:=by
 intro e O;obtain⟨k,Q,z⟩:=gC.1 O
 have:=g.idx k e (by rw[Bi Q,z])
 omega
def GT.nil(h: ∀t,∀m∈(A8 s0.tm t).nms,m<s0.nx):GT P ops cl s0 [] s0 []:=by
 refine⟨by simp,λt=>rfl,λn=>rfl,AL _,by simp,by simp,by simp,by simp,by simp,by simp,h⟩
def GT.snoc(g:GT P ops cl s0 evs s acc)(e:Ev)(hi:e.i=evs.length)(ao:oK P ops e)(hs: ∀t,A8 e.s.tm t=A8 s.tm t)(hh: ∀n,hget e.s.h n=hget s.h n)(av:e.s.nx=s.nx)
 (ai: ∀f∈evs,DX cl f.i e.i=true\/vZ f e){s':Av}{O:List Fp}(am: ∀t,A8 s'.tm t=if e.o.dst=some t then e.r else A8 s.tm t)
 (an: ∀n,hget s'.h n=e.E.appf (hget s.h) n)(aq:s'.nx=s.nx+e.E.cnt)(ak: ∀f∈acc,f∈O)(ag:e.skip=true\/(⟨e.i,e.E.use++e.E.kill,e.E.touch,e.s.nx,e.E.cnt⟩:Fp)∈O)
 (hr: ∀m∈e.r.nms,m<s'.nx):GT P ops cl s0 (evs++[e]) s' O:=by
 have Q: ∀f∈evs,f.i<e.i:=λf hf=>by rw[hi];exact g.lt f hf
 have af: ∀t,TD (JQ e.i) evs (A8 s0.tm) t=A8 s.tm t:=by
  intro t;rw[g.tm t];refine mC evs _ _ rfl ?_;intro f hf ah;exact absurd (by simp[JQ,Q f hf]) ah
 have ad: ∀n,HD (JQ e.i) evs (hget s0.h) n=hget s.h n:=by
  intro n;rw[g.h n];refine mA evs _ _ rfl ?_;intro f hf ah;exact absurd (by simp[JQ,Q f hf]) ah
 have ac: ∀f∈evs,JQ f.i e.i=false:=by
  intro f hf
  have:=Q f hf
  rw[Qr];intro h
  have:=Jk h
  omega
 have Z:JQ e.i e.i=false:=by
  rw[Qr];intro h
  have:=Jk h
  omega
 have z: ∀f,f∈evs++[e]->f∈evs\/f=e:=by intro f hf;simpa using hf
 refine⟨?_,?_,?_,?_,?_,?_,?_,?_,?_,?_,?_⟩
 .intro k f hk;rcases nP k evs.length with h|h|h
  .rw[Dj h] at hk;exact g.idx k f hk
  .subst h;rw[E3 (AL _)] at hk;simp at hk;subst hk;exact hi
  .rw[E3 (by omega)] at hk
   have:(k - evs.length)≠0:=by omega
   cases hq:k - evs.length with
   |zero=>omega
   |succ q=>rw[hq] at hk;simp at hk
 .intro t;rw[am,vT];simp only[TD,Of,Eg];by_cases hq:e.o.dst=some t
  .simp[hq]
  .have:(e.o.dst==some t)=false:=by rw[HJ];exact hq
   rw[Af hq,this];exact g.tm t
 .intro n;rw[an,vR];simp only[HD,Of,BX];exact Qym (g.h n)
 .have:=g.nx;omega
 .intro f hf;have au:=g.nx;rcases z f hf with hf|rfl
  .obtain⟨h1,h2,h3⟩:=g.ev f hf;exact⟨h1,h2,by omega⟩
  .exact⟨ao,by omega,by omega⟩
 .intro f hf t;rw[vT];rcases z f hf with hf|rfl
  .simp only[TD,ac f hf,Gf,Bm];exact g.atT f hf t
  .simp only[TD,Z,Gf,Bm];rw[af,hs]
 .intro f hf n;rw[vR];rcases z f hf with hf|rfl
  .simp only[HD,ac f hf,Bm];exact g.atH f hf n
  .simp only[HD,Z,Bm];rw[ad,hh]
 .intro x hx y hy aj;rcases z x hx with aa|rfl<;>rcases z y hy with ab|rfl
  .exact g.ord x aa y ab aj
  .have:=(g.ev x aa).2.2;omega
  .have:=Q y ab;omega
  .omega
 .intro x hx y hy aj;rcases z x hx with aa|rfl<;>rcases z y hy with ab|rfl
  .exact g.pair x aa y ab aj
  .exact ai x aa
  .have:=Q y ab;omega
  .omega
 .intro f hf;rcases z f hf with hf|rfl
  .rcases g.acc f hf with h|h
   .exact .inl h
   .exact .inr (ak _ h)
  .exact ag
 .intro t m hm;rw[am] at hm;split at hm
  .exact hr m hm
  .have:=g.nmT t m hm;omega
def Qrd{j:Nat}{use touch z:List Nat}: ∀(acc:List Fp),GD cl j use touch z acc=true-> ∀f∈acc,iH cl j use touch z f=true
 |[],_,f,hf=>by cases hf
 |x::acc,h,f,hf=>by
  simp only[GD,AN] at h;rcases Bh.1 hf with rfl|hf
  .exact h.1
  .exact Qrd acc h.2 f hf
def PL{V:Dt}(HV:Hq P V){K:Av->Prop}: ∀(rest:List Oper) (i:Nat) (acc:List Fp) (s:Av) (evs:List Ev),ops.toList.drop i=rest->evs.length=i->
 GT P ops cl s0 evs s acc->VP P V cl (Ga ops rest) i K acc s-> ∃z s' O,z.length=i+rest.length/\GT P ops cl s0 z s' O/\K s':=by
 intro rest;induction rest with
 |nil=>intro i acc s evs _ hl g Z;exact⟨evs,s,acc,by simpa using hl,g,Z⟩
 |cons o rest ih=>
  intro i acc s evs hi hl g Z;have ao:ops[i]? =some o:=by
   have:(ops.toList.drop i)[0]? =some o:=by rw[hi];rfl
   simpa using this
  have an:ops.toList.drop (i+1)=rest:=by
   have:(ops.toList.drop i).drop 1=rest:=by rw[hi];rfl
   rwa [DU] at this
  have ak: ∀s1:Av,(∀t,A8 s1.tm t=A8 s.tm t)->s1.h=s.h->s1.nx=s.nx->VQ ops s1 false o.guard->Nc P V cl i acc o.dst o.op o.type (VP P V cl (Ga ops rest) (i+1) K) s1->
   ∃z s' O,z.length=i+(rest.length+1)/\GT P ops cl s0 z s' O/\K s':=by
   intro s1 ht hh ab ah af;have hnm: ∀x,∀m∈(Ax s1.tm x).nms,m<s1.nx:=LI (λt m hm=>by rw[ht] at hm;rw[ab];exact g.nmT t m hm);rcases Qrc HV hnm af with ⟨r,E,ax,aq,av,aw⟩|⟨h,_⟩
   .have aj:=Qrd acc av;have af:(s1.app o.dst r E).nx=s1.nx+E.cnt:=by cases o.dst<;>rfl
    have hb:=aq;simp only[Bk.ok,AN] at hb;have g':GT P ops cl s0 (evs++[⟨i,o,s1,r,E,false⟩]) (s1.app o.dst r E) (⟨i,E.use++E.kill,E.touch,s1.nx,E.cnt⟩::acc):=by
     refine g.snoc ⟨i,o,s1,r,E,false⟩ hl.symm ⟨ao,ah,λ_=>⟨ax,aq⟩,λh=>by cases h⟩ ht (λn=>by rw[hh]) ab ?_ (λt=> ?_) (λn=> ?_) (by rw[af,ab]) (λf hf=>by simp[hf]) (.inr (by simp)) ?_
     .intro f hf;rcases g.acc f hf with hs|ha
      .obtain⟨h1,h2⟩:=((g.ev f hf).1).skp hs;refine .inr ⟨?_,?_,?_,?_⟩<;>rw[h2]
       .intro n _;simp[Bk.touch,Ia]
       .intro n _;simp[Bk.touch,Ia]
       .intro n _;simp
       .intro n _ am
        have:=am.1
        have:=am.2
        simp only at this;omega
      .have h:=aj _ ha;unfold iH at h;rw[ZeW] at h;split at h
       .rename_i hx;simp only[AN] at hx;obtain⟨h1,h2,h3⟩:=hx;have ai:=Qlq _ _ h1;exact .inr ⟨λn hn=>ai n (by simp only[Bn] at hn⊢;exact .inl hn),λn hn=>ai n (Rj _ hn),Qlq _ _ h2,Qtw _ h3⟩
       .exact .inl h
     .have:A8 (s1.app o.dst r E).tm t=if o.dst=some t then r else A8 s1.tm t:=Vz
      rw[this,ht]
     .have:(s1.app o.dst r E).h=E.new++Bj s1.h E.kill:=by cases o.dst<;>rfl
      rw[this,Qm2,Qm7,hh];simp only[Bk.appf];cases hget E.new n<;>rfl
     .rw[af];exact vA r hb.1
    obtain⟨z,s',O,h1,h2,h3⟩:=ih (i+1) _ _ _ an (by simp[hl]) g' aw;exact⟨z,s',O,by omega,h2,h3⟩
   .cases h
  simp only[Ga,VP] at Z;simp only[Cv];cases hg:o.guard with
  |none=>
   rw[hg] at Z;simp only[Xa,yU] at Z;exact ak s (λ_=>rfl) rfl rfl (by rw[hg];rfl) Z
  |some gw=>
   obtain⟨j,Q⟩:=gw;rw[hg] at Z;simp only[Xa,yU] at Z;cases ht:(ops[j]?).bind (·.dst) with
   |none=>rw[ht] at Z;exact Z.elim
   |some t=>
    rw[ht] at Z;simp only[XV] at Z;cases hb:A8 s.tm t<;>rw[hb] at Z<;>try exact Z.elim
    rename_i d;have ac: ∀s2:Av,(∀t',A8 s2.tm t'=A8 s.tm t')->s2.h=s.h->s2.nx=s.nx->VQ ops s true o.guard->VP P V cl (Ga ops rest) (i+1) K acc (s2.put o.dst (.im (.tup [])))->
     ∃z s' O,z.length=i+(rest.length+1)/\GT P ops cl s0 z s' O/\K s':=by
     intro s2 aa hh ab ah h2;have g':GT P ops cl s0 (evs++[⟨i,o,s,.im (.tup []),{},true⟩]) (s2.put o.dst (.im (.tup []))) acc:=by
      refine g.snoc ⟨i,o,s,.im (.tup []),{},true⟩ hl.symm ⟨ao,ah,(λh=>by cases h),(λ_=>⟨rfl,rfl⟩)⟩ (λ_=>rfl) (λ_=>rfl) rfl ?_ (λt'=> ?_) (λn=> ?_) ?_ (λf hf=>hf) (.inl rfl) ?_
      .intro f hf;refine .inr ⟨?_,?_,?_,?_⟩<;>simp[Bk.touch,Ia,AV.nms,Jn]
      .rw[Vz,aa]
      .have:(s2.put o.dst (.im (.tup []))).h=s2.h:=by cases o.dst<;>rfl
       rw[this,hh];simp[Bk.appf,hget]
      .have:(s2.put o.dst (.im (.tup []))).nx=s2.nx:=by cases o.dst<;>rfl
       rw[this,ab];rfl
      .intro m hm;simp[AV.nms] at hm
     obtain⟨z,s',O,h1,h2,h3⟩:=ih (i+1) _ _ _ an (by simp[hl]) g' h2;exact⟨z,s',O,by omega,h2,h3⟩
    cases d<;>try exact Z.elim
    case tup cs=>
     cases cs with
     |cons _ _=>exact Z.elim
     |nil=>
      simp only[WD,MY] at Z;exact ac s (λ_=>rfl) rfl rfl (by rw[hg];exact⟨t,ht,.inr ⟨hb,rfl⟩⟩) Z
    case bool b=>
    simp only[WD] at Z;have aa: ∀b':Bool,b=b'-> ∀t',A8 (s.put (some t) (.im (.bool b'))).tm t'=A8 s.tm t':=by
     intro b' au t';subst au;rw[Vz];split
     .rename_i h;cases h;exact hb.symm
     .rfl
    by_cases ad:b=Q
    .refine ak (s.put (some t) (.im (.bool Q))) (aa Q ad) rfl rfl ?_ (Z.1 ad);rw[hg];exact⟨t,ht,.inl ⟨b,by rw[aa Q ad,hb],by simp[ad]⟩⟩
    .have ag:b= !Q:=by cases b<;>cases Q<;>simp_all
     have h2:=Z.2 ag;simp only[MY] at h2;refine ac (s.put (some t) (.im (.bool (!Q)))) (aa _ ag) rfl rfl ?_ h2;rw[hg];exact⟨t,ht,.inl ⟨b,hb,by simp[ag]⟩⟩
end
def Za(ops:Array Oper)(cl:List (List Nat)):List Oper->Nat->List (Nat×Oper)->Bool
 |[],_,_=>true
 |o::r,j,acc=>(o.after.toList.all λe=> !Iz e.ground||Nat.blt e.on j) && (acc.all (λp=>DX cl p.1 j||p.2.apart ops o) && Za ops cl r (j+1) ((j,o)::acc))
def stOk(ops:Array Oper):Bool:=Za ops (EO ops.toList []) ops.toList 0 []
def Qup(e:Edge):Region.binds .any e=Iz e.ground:=by
 unfold Region.binds;cases e.ground<;>rfl
structure Xd(ops:Array Oper)(cl:List (List Nat)):Prop where
 lo: ∀(j:Nat) (o:Oper),ops[j]? =some o-> ∀e∈o.after.toList,Iz e.ground=true->e.on<j
 ap: ∀(i j:Nat) (x y:Oper),i<j->ops[i]? =some x->ops[j]? =some y->DX cl i j=true\/x.apart ops y=true
def PC{ops:Array Oper}{cl:List (List Nat)}: ∀(rest:List Oper) (j:Nat) (acc:List (Nat×Oper)),ops.toList.drop j=rest->(∀i x,i<j->ops[i]? =some x->(i,x)∈acc)->Za ops cl rest j acc=true->
 (∀(k:Nat) (o:Oper),j<=k->ops[k]? =some o-> ∀e∈o.after.toList,Iz e.ground=true->e.on<k)/\
 (∀(i k:Nat) (x y:Oper),j<=k->i<k->ops[i]? =some x->ops[k]? =some y->DX cl i k=true\/x.apart ops y=true):=by
 intro rest;induction rest with
 |nil=>
  intro j acc hd _ _;have hs:ops.size<=j:=by
   have:=BV List.length hd
   simp at this;omega
  refine⟨λk o hk ho=> ?_,λi k x y hk _ _ hy=> ?_⟩
  .have:=(Od.1 ho).1;omega
  .have:=(Od.1 hy).1;omega
 |cons o rest ih=>
  intro j acc hd z hs;have O:ops[j]? =some o:=by
   have:(ops.toList.drop j)[0]? =some o:=by rw[hd];rfl
   simpa using this
  have aa:ops.toList.drop (j+1)=rest:=by
   have:(ops.toList.drop j).drop 1=rest:=by rw[hd];rfl
   rwa [DU] at this
  simp only[Za,AN,CA,Iq,Rl,E4] at hs;obtain⟨h1,h2,h3⟩:=hs;obtain⟨r1,r2⟩:=ih (j+1) ((j,o)::acc) aa (by
   intro i x hi Q;rcases ER i j with h|h
   .exact BP _ (z i x h Q)
   .have:i=j:=by omega
    subst this;rw[O] at Q;cases Q;exact BM) h3
  refine⟨λk p hk hp=> ?_,λi k x y hk Z Q hy=> ?_⟩
  .rcases ER j k with h|h
   .exact r1 k p h hp
   .have:k=j:=by omega
    subst this;rw[O] at hp;cases hp;intro e he hb;rcases h1 e he with h|h
    .rw[h] at hb;cases hb
    .exact h
  .rcases ER j k with h|h
   .exact r2 i k x y h Z Q hy
   .have:k=j:=by omega
    subst this;rw[O] at hy;cases hy;exact h2 (i,x) (z i x Z Q)
def PD{ops:Array Oper}(h:stOk ops=true):Xd ops (EO ops.toList []):=by
 obtain⟨O,Q⟩:=PC (cl:=EO ops.toList []) ops.toList 0 [] rfl (by intro i x hi;omega) h;exact⟨λj o Z=>O j o (CC _) Z,λi j x y z hx hy=>Q i j x y (CC _) z hx hy⟩
def Tv(a b:List (List Nat)): ∀(k:Nat),k<a.length->DN (a++b) k=DN a k:=by
 induction a with
 |nil=>intro k z;simp at z
 |cons x a ih=>
  intro k z;cases k with
  |zero=>rfl
  |succ k=>exact ih k (by simpa using z)
def Yu(a:List (List Nat))(x:List Nat)(b:List (List Nat)):DN (a++x::b) a.length=x:=by
 induction a with
 |nil=>rfl
 |cons y a ih=>exact ih
def pN: ∀(a:List (List Nat)) (k:Nat),a.length<=k->DN a k=[]
 |[],_,_=>rfl
 |_::a,0,h=>by simp at h
 |_::a,k+1,h=>pN a k (by simpa using h)
def Qnq: ∀(rest:List Oper) (acc:List (List Nat)) (k:Nat),k<acc.length->DN (EO rest acc) k=DN acc k
 |[],_,_,_=>rfl
 |o::r,acc,k,h=>by
  simp only[EO];rw[Qnq r _ k (by simp;omega),Tv _ _ _ h]
def Qy4: ∀(rest:List Oper) (acc:List (List Nat)) (k:Nat) (o:Oper),rest[k]? =some o-> ∃z:List (List Nat),z.length=acc.length+k/\(∀m,m<z.length->DN z m=DN (EO rest acc) m)/\
 DN (EO rest acc) (acc.length+k)=Hf z o.after.toList
 |[],_,k,o,h=>by simp at h
 |x::r,acc,0,o,h=>by
  obtain rfl:x=o:=by simpa using h
  refine⟨acc,rfl,λm hm=>(Qnq _ _ m hm).symm,?_⟩;simp only[EO,Lx];rw[Qnq _ _ _ (by simp),Yu]
 |x::r,acc,k+1,o,h=>by
  obtain⟨z,Q,Z,O⟩:=Qy4 r (acc++[Hf acc x.after.toList]) k o (by simpa using h);simp only[C9,Cv,FA] at Q O;refine⟨z,by omega,Z,?_⟩;simp only[EO];rw[<-O];congr 1;omega
def Yc{x y:Nat}{l:List Nat}(h:y∈ins x l):y=x\/y∈l:=by
 unfold ins at h;cases hc:l.contains x<;>rw[hc] at h
 .simpa using h
 .exact .inr (by simpa using h)
def Qzy{y:Nat}: ∀(a l:List Nat),y∈SC a l->y∈a\/y∈l
 |[],_,h=> .inr h
 |x::r,l,h=>by
  rcases Yc h with h|h
  .exact .inl (by simp[h])
  .rcases Qzy r l h with h|h
   .exact .inl (by simp[h])
   .exact .inr h
def Qsb{acc:List (List Nat)}{i:Nat}: ∀(es:List Edge),i∈Hf acc es-> ∃e∈es,Iz e.ground=true/\(i=e.on\/i∈DN acc e.on)
 |[],h=>by simp[Hf] at h
 |e::r,h=>by
  simp only[Hf] at h;cases hb:Iz e.ground<;>rw[hb] at h
  .obtain⟨x,O,z⟩:=Qsb r h;exact⟨x,by simp[O],z⟩
  .simp only[BX] at h;have h:=Qzy _ _ h;simp only[Bh,or_assoc] at h;rcases h with h|h|h
   .exact⟨e,by simp,hb,.inl h⟩
   .exact⟨e,by simp,hb,.inr h⟩
   .obtain⟨x,O,z⟩:=Qsb r h;exact⟨x,by simp[O],z⟩
def X3{ops:Array Oper}{i j:Nat}{o:Oper}(ho:ops[j]? =some o)(h:i∈DN (EO ops.toList []) j):
 ∃e∈o.after.toList,Iz e.ground=true/\(i=e.on\/(e.on<j/\i∈DN (EO ops.toList []) e.on)):=by
 obtain⟨O,h1,h2,Z⟩:=Qy4 ops.toList [] j o (by simpa using ho);simp only[FA,FP] at h1 Z;rw[Z] at h;obtain⟨e,he,hb,z⟩:=Qsb _ h;refine⟨e,he,hb,?_⟩;rcases z with z|z
 .exact .inl z
 .rcases ER e.on O.length with Q|Q
  .exact .inr ⟨by omega,by rw[<-h2 _ Q];exact z⟩
  .rw[pN _ _ Q] at z;cases z
def JW(ops:Array Oper)(D:Nat->Bool):Prop:= ∀(j:Nat) (o:Oper),D j=true->ops[j]? =some o-> ∀e∈o.after.toList,Iz e.ground=true->D e.on=true
def Qqg{ops:Array Oper}{D:Nat->Bool}(hc:JW ops D){i j:Nat}{o:Oper}(Z:ops[j]? =some o)(hr: ∀e∈o.after.toList,Iz e.ground=true->D e.on=true)
 (h:DX (EO ops.toList []) i j=true):D i=true:=by
 have hi:i∈DN (EO ops.toList []) j:=by simpa[DX] using h
 clear h;induction j using Nat.strongRecOn generalizing o with
 |_ j ih=>
  obtain⟨e,Q,O,h|⟨h,h2⟩⟩:=X3 Z hi
  .rw[h];exact hr e Q O
  .have aa:=(Od.1 Z).1;have z:ops[e.on]? =some ops[e.on]:=GY (by omega);exact ih e.on h z (hc e.on _ (hr e Q O) z) h2
structure lD(C:AU)(N:Nat)(evs:List Ev)(s0:Av)(D:Nat->Bool)(S:Au)(a:Act):Prop where
 wf:Wf C S
 h: ∀n,S.h n=HD D evs (hget s0.h) n
 tm: ∀t,Aa S (TD D evs (A8 s0.tm) t) (a.eval (.tmp t))
 size:a.tmps.size=N
 defers:a.defers=C.ds
 n0:C.n0<=s0.nx
 pre:C.Pre S
section
variable {P:Program}{ops:Array Oper}{s0 s:Av}{evs:List Ev}{acc:List Fp}{C:AU}{N:Nat}
def Qzx{E:Bk}{nx:Nat}{r:AV}(z:E.ok nx r=true):(∀m∈r.nms,m<nx+E.cnt)/\(∀n x,hget E.new n=some x->(Fr nx E.cnt n\/(n∈E.kill/\n<nx))/\ ∀m∈x.2.nms,m<nx+E.cnt):=by
 simp only[Bk.ok,AN] at z;obtain⟨Q,Z,h3⟩:=z;exact⟨vA r Q,λn x O=>⟨Qlm _ h3 n x O,fC _ Z n x O⟩⟩
def Xu(g:GT P ops (EO ops.toList []) s0 evs s acc)(bj: ∀n e,hget s0.h n=some e->n<s0.nx/\ ∀m∈e.2.nms,m<s0.nx)(ba: ∀t,∀m∈(A8 s0.tm t).nms,m<s0.nx)
 (st:Xd ops (EO ops.toList []))(hN:JF N ops.toList=true){D:Nat->Bool}(hc:JW ops D){e:Ev}(he:e∈evs)(hD:D e.i=false)
 (hr: ∀x∈e.o.after.toList,Iz x.ground=true->D x.on=true){S:Au}{a:Act}(hA:lD C N evs s0 D S a){K:Act->World->Prop}{Q:Exit->Act->World->Prop}
 (hK: ∀a' S',lD C N evs s0 (λi=>D i||i==e.i) S' a'->K a' S'.w):wpOp P ops Q e.i K a S.w:=by
 have ah:=((g.ev e he).1).op;have bi: ∀k,DX (EO ops.toList []) k e.i=true->D k=true:=λk hk=>Qqg hc ah hr hk
 have a0: ∀d,e.o.dst=some d->d<N:=by
  have: ∀(l:List Oper),JF N l=true-> ∀o∈l,∀d,o.dst=some d->d<N:=by
   intro l;induction l with
   |nil=>intro _ o ho;cases ho
   |cons x l ih=>
    intro h o ho d hd;simp only[JF,AN] at h;rcases Bh.1 ho with rfl|ho
    .have:=h.1
     rw[hd] at this;simpa using this
    .exact ih h.2 o ho d hd
  exact this _ hN e.o (by
   have:=Zfb ah
   simpa using this)
 have ak: ∀f∈evs,D f.i≠JQ e.i f.i->(f.i<e.i/\D f.i=false/\vZ f e/\f.o.apart ops e.o=true)\/(e.i<f.i/\D f.i=true/\vZ e f/\e.o.apart ops f.o=true):=by
  intro f hf O;have am:=((g.ev f hf).1).op;rcases nP f.i e.i with h|h|h
  .have hl:JQ e.i f.i=true:=by simpa[JQ] using h
   have Z:D f.i=false:=by
    cases hq:D f.i
    .rfl
    .rw[hq,hl] at O;exact absurd rfl O
   have aj:DX (EO ops.toList []) f.i e.i=false:=by
    cases hq:DX (EO ops.toList []) f.i e.i
    .rfl
    .have:=bi _ hq;rw[Z] at this;cases this
   refine .inl ⟨h,Z,?_,?_⟩
   .rcases g.pair f hf e he h with z|z
    .rw[aj] at z;cases z
    .exact z
   .rcases st.ap f.i e.i f.o e.o h am ah with z|z
    .rw[aj] at z;cases z
    .exact z
  .have hl:JQ e.i f.i=false:=by
    rw[h];rw[Qr];intro h';have:=Jk h';omega
   rw[hl,h,hD] at O;exact absurd rfl O
  .have hl:JQ e.i f.i=false:=by
    rw[Qr];intro h';have:=Jk h';omega
   have Z:D f.i=true:=by
    cases hq:D f.i
    .rw[hq,hl] at O;exact absurd rfl O
    .rfl
   have aj:DX (EO ops.toList []) e.i f.i=false:=by
    cases hq:DX (EO ops.toList []) e.i f.i
    .rfl
    .have:=Qqg hc am (hc f.i f.o Z am) hq
     rw[hD] at this;cases this
   refine .inr ⟨h,Z,?_,?_⟩
   .rcases g.pair e he f hf h with z|z
    .rw[aj] at z;cases z
    .exact z
   .rcases st.ap e.i f.i e.o f.o h ah am with z|z
    .rw[aj] at z;cases z
    .exact z
 have ad: ∀f∈evs,D f.i=true->f.i<e.i\/(e.i<f.i/\vZ e f/\e.o.apart ops f.o=true):=by
  intro f hf Z;rcases ER f.i e.i with h|h
  .exact .inl h
  .have hl:JQ e.i f.i=false:=by
    rw[Qr];intro h';have:=Jk h';omega
   rcases ak f hf (by rw[Z,hl];simp) with ⟨z,_⟩|⟨z,_,h2⟩
   .omega
   .exact .inr ⟨z,h2⟩
 have bc: ∀t,t∈e.o.looksAt ops->TD D evs (A8 s0.tm) t=A8 e.s.tm t:=by
  intro t ht;rw[g.atT e he t];refine mC evs _ _ rfl ?_;intro f hf O;rcases ak f hf O with ⟨_,_,_,h⟩|⟨_,_,_,h⟩
  .intro hd;exact (Oper.apart_spec h).1 t hd ht
  .intro hd;exact (Oper.apart_spec h).2.2 t hd ht
 have ab:evs=evs.take e.i++e::evs.drop (e.i+1):=by
  have hl:=g.lt e he;have hget:evs[e.i]? =some evs[e.i]:=Bi hl;obtain⟨k,hk,a9⟩:=gC.1 he;have bh:=g.idx k e (by rw[Bi hk,a9]);subst bh
  conv=>lhs;rw[<-Iv e.i evs]
  rw[VF hl,a9]
 have ao: ∀f∈evs.take e.i,f∈evs/\f.i<e.i:=by
  intro f hf;refine⟨wP hf,?_⟩;obtain⟨k,hk,av⟩:=gC.1 hf;have bm:k<e.i:=by simp at hk;omega
  have:=g.idx k f (by
   rw[<-av,List.getElem_take];exact Bi _)
  omega
 have ac: ∀f∈evs.drop (e.i+1),f∈evs/\e.i<f.i:=by
  intro f hf;refine⟨ZdK hf,?_⟩;obtain⟨k,hk,av⟩:=gC.1 hf
  have:=g.idx (e.i+1+k) f (by
   rw[<-av,List.getElem_drop];exact Bi _)
  omega
 let D':Nat->Bool:=λi=>D i||i==e.i
 have az:D' e.i=true:=by simp[D']
 have ag: ∀f∈evs,f.i≠e.i->D f.i=D' f.i:=by
  intro f _ O
  have:(f.i==e.i)=false:=by rw[HJ];exact O
  simp[D',this]
 have be: ∀n,HD D' evs (hget s0.h) n=e.E.appf (HD D evs (hget s0.h)) n:=by
  intro n;have e1:HD D' evs (hget s0.h)=HD D' (evs.drop (e.i+1)) (e.E.appf (HD D' (evs.take e.i) (hget s0.h))):=by
   conv=>lhs;rw[ab]
   rw[vR];simp only[HD,az,BX]
  have e2:HD D evs (hget s0.h)=HD D (evs.drop (e.i+1)) (HD D (evs.take e.i) (hget s0.h)):=by
   conv=>lhs;rw[ab]
   rw[vR];simp only[HD,hD,Bm]
  have e3:HD D' (evs.take e.i) (hget s0.h)=HD D (evs.take e.i) (hget s0.h):=by
   funext m;refine mA _ _ _ rfl ?_;intro f hf O
   have:=ao f hf
   exact absurd (ag f this.1 (by omega)).symm O
  rw[e1,e2,e3];by_cases hn:n∈e.E.touch
  .rw[Xs hn (h':=HD D (evs.take e.i) (hget s0.h))];refine Qw6 _ _ n ?_;intro f hf Z;have z:=ac f hf;rw[<-ag f z.1 (by omega)] at Z;rcases ad f z.1 Z with h2|⟨_,h2,_⟩
   .omega
   .intro aw;exact h2.b n aw hn
  .rw[uD hn];refine mA _ _ _ (uD hn) ?_;intro f hf O
   have:=ac f hf
   exact absurd (ag f this.1 (by omega)).symm O
 have bf: ∀t,TD D' evs (A8 s0.tm) t=if e.o.dst=some t then e.r else TD D evs (A8 s0.tm) t:=by
  intro t;have e1:TD D' evs (A8 s0.tm)=TD D' (evs.drop (e.i+1)) (λt=>bif e.o.dst==some t then e.r else TD D' (evs.take e.i) (A8 s0.tm) t):=by
   conv=>lhs;rw[ab]
   rw[vT];simp only[TD,az,Eg]
  have e2:TD D evs (A8 s0.tm)=TD D (evs.drop (e.i+1)) (TD D (evs.take e.i) (A8 s0.tm)):=by
   conv=>lhs;rw[ab]
   rw[vT];simp only[TD,hD,Gf,Bm]
  have e3:TD D' (evs.take e.i) (A8 s0.tm)=TD D (evs.take e.i) (A8 s0.tm):=by
   funext m;refine mC _ _ _ rfl ?_;intro f hf O
   have:=ao f hf
   exact absurd (ag f this.1 (by omega)).symm O
  rw[e1,e2,e3];by_cases hn:e.o.dst=some t
  .rw[Ai hn];rw[Qyr]
   .simp[hn]
   .intro f hf Z;have z:=ac f hf;rw[<-ag f z.1 (by omega)] at Z;rcases ad f z.1 Z with h2|⟨_,_,h2⟩
    .omega
    .exact (Oper.apart_spec h2).2.1 t hn
  .rw[Af hn];have hq:(e.o.dst==some t)=false:=by rw[HJ];exact hn
   refine mC _ _ _ (by simp[hq]) ?_;intro f hf O
   have:=ac f hf
   exact absurd (ag f this.1 (by omega)).symm O
 have bb:s0.nx<=e.s.nx:=(g.ev e he).2.1;have aq: ∀f∈evs,D f.i=true->(∀m∈f.r.nms,¬Fr e.s.nx e.E.cnt m)/\(∀n x,hget f.E.new n=some x-> ¬Fr e.s.nx e.E.cnt n/\ ∀m∈x.2.nms,¬Fr e.s.nx e.E.cnt m):=by
  intro f hf Z;rcases ad f hf Z with h|⟨_,h,_⟩
  .have bn:=g.ord f hf e he h;obtain⟨ax,_⟩:=g.ev f hf;cases hs:f.skip
   .obtain⟨z,h2⟩:=Qzx (ax.doo hs).2;refine⟨λm hm aa=> ?_,λn x hx=>⟨λaa=> ?_,λm hm aa=> ?_⟩⟩
    .have:=z m hm;have:=aa.1;omega
    .have:=aa.1
     rcases (h2 n x hx).1 with h3|h3
     .have:=h3.2;omega
     .omega
    .have:=(h2 n x hx).2 m hm;have:=aa.1;omega
   .obtain⟨z,h2⟩:=ax.skp hs;rw[z,h2];exact⟨by simp[AV.nms],by simp[hget]⟩
  .refine⟨λm hm=>h.d m (by simp[hm]),λn x hx=>⟨h.d n ?_,λm hm=>h.d m ?_⟩⟩
   .have:=(Qtn _ hx).1
    simp[Bk.touch,this]
   .have:=(Qtn _ hx).2 m hm
    simp[this]
 have a8: ∀t,∀m∈(TD D evs (A8 s0.tm) t).nms,¬Fr e.s.nx e.E.cnt m:=by
  intro t m hm;rcases Ri (D:=D) (t:=t) evs (A8 s0.tm) with h|⟨f,hf,Z,h⟩
  .rw[h] at hm;intro aa
   have:=ba t m hm
   have:=aa.1
   omega
  .rw[h] at hm;exact (aq f hf Z).1 m hm
 have an: ∀n x,HD D evs (hget s0.h) n=some x-> ¬Fr e.s.nx e.E.cnt n/\ ∀m∈x.2.nms,¬Fr e.s.nx e.E.cnt m:=by
  intro n x hx;rcases JY evs (hget s0.h) hx with h|⟨f,hf,Z,h⟩
  .obtain⟨z,h2⟩:=bj n x h;exact⟨λaa=>by have:=aa.1;omega,λm hm aa=>by have:=aa.1;have:=h2 m hm;omega⟩
  .exact (aq f hf Z).2 n x h
 have ai: ∀v S',Wf C S'->S'.h=e.E.appf S.h->Bv (λm=> ¬Fr e.s.nx e.E.cnt m) S S'->Aa S' e.r v->K (a.put e.o.dst v) S'.w:=by
  intro v S' hW hh hp hv;refine hK _ S' ⟨hW,λn=> ?_,λt=> ?_,?_,?_,hA.n0,Qy2 hA.pre (DH hA.n0 bb) hp⟩
  .rw[hh];exact (Qym (hA.h n)).trans (be n).symm
  .have:=bf t
   simp only[D'] at this;rw[this,zR (λd h=>by rw[hA.size];exact a0 d h)];split
   .exact hv
   .exact HA hp _ _ (a8 t) (hA.tm t)
  .cases e.o.dst<;>simp[Act.put,hA.size]
  .cases e.o.dst<;>simp[Act.put,hA.defers]
 have au:=(g.ev e he).1;have ay:Region.wanted e.o (yielded ops a.tmps)= !e.skip:=by
  have af:=au.gd;unfold Region.wanted;cases hg:e.o.guard with
  |none=>
   rw[hg] at af;simp only[VQ] at af;simp[af]
  |some gw=>
   obtain⟨q,bd⟩:=gw;rw[hg] at af;obtain⟨t,ht,af⟩:=af;have bg:TD D evs (A8 s0.tm) t=A8 e.s.tm t:=bc t (by simp[Oper.looksAt,hg,ht]);have z:=hA.tm t;rw[bg] at z;rcases af with ⟨b,hb,hs⟩|⟨hb,hs⟩
   .rw[hb] at z;simp only[Aa,rd,Act.eval] at z;have hy:yielded ops a.tmps q=some b:=by
     unfold yielded;rw[ht];simp only[G7];rw[HG] at z;cases hq:a.tmps[t]? with
     |none=>rw[hq] at z;simp[undef] at z
     |some v=>rw[hq] at z;simp at z;rw[z]
    simp only[hy,hs];cases b<;>cases bd<;>rfl
   .rw[hb] at z;simp only[Aa,rd,rdl,Act.eval] at z;obtain⟨vs,z,_⟩:=z;have hy:yielded ops a.tmps q=none:=by
     unfold yielded;rw[ht];simp only[G7];rw[HG] at z;cases hq:a.tmps[t]? with
     |none=>rfl
     |some v=>rw[hq] at z;simp at z;rw[z]
    simp only[hy,hs];rfl
 unfold wpOp;simp only[ah,ay];cases hs:e.skip
 .simp only[Xn,BI];refine .inl ?_;obtain⟨bl,ax⟩:=au.doo hs;refine bl C S a K Q hA.wf ?_ ?_ ?_ ?_ ai
  .intro n hn;rw[hA.h n,g.atH e he n];refine mA evs _ _ rfl ?_;intro f hf O;rcases ak f hf O with ⟨_,_,h,_⟩|⟨_,_,h,_⟩
   .exact h.a n hn
   .intro aw;exact h.c n aw hn
  .intro n aa;cases hn:S.h n with
   |none=>rfl
   |some x=>
    rw[hA.h n] at hn;exact absurd aa (an n x hn).1
  .intro n x hx m hm;rw[hA.h n] at hx;exact (an n x hx).2 m hm
  .intro x hx;cases x with
   |tmp t=>
    simp only[Ax];rw[<-bc t (by
     simp only[Oper.looksAt,Bn,List.mem_filterMap];exact .inl ⟨.tmp t,by simpa using hx,rfl⟩)]
    exact hA.tm t
   |const v=>exact dP S v
   |global g=>simp only[Ax,Aa,rd,Act.eval]
   |func f=>exact oV _ _ f
 .simp only[nN,CE,Cr];obtain⟨z,h2⟩:=au.skp hs;refine ai undef S hA.wf ?_ (Bv.refl _ _) ?_
  .rw[h2];funext n;simp[Bk.appf,hget]
  .rw[z];simp only[Aa,rd,rdl];exact⟨#[],rfl,rfl⟩
abbrev dn(listed:Array Bool):Nat->Bool:=λi=>listed.getD i false
def zL(listed:Array Bool):Nat:=listed.toList.countP (λb=> !b)
def iM{listed:Array Bool}{j:Nat}(z:j<listed.size):dn (listed.setIfInBounds j true)=λi=>dn listed i||i==j:=by
 funext i;simp only[dn];by_cases h:j=i
 .subst h;simp[z]
 .rw[getD_set_ne false h]
  have:(i==j)=false:=by rw[HJ];exact λh'=>h h'.symm
  simp[this]
def Nr{listed:Array Bool}{j:Nat}(O:j<listed.size)(Q:listed.getD j true=false):zL (listed.setIfInBounds j true)+1=zL listed:=by
 unfold zL;rw[Zdi];have z:j<listed.toList.length:=by simpa using O
 have hv:listed.toList[j]=false:=by
  rw[HG,GY O] at Q;simpa using Q
 have Z:0<listed.toList.countP (λb=> !b):=by
  rw[List.countP_pos_iff];exact⟨false,by rw[<-hv];exact Rm _,rfl⟩
 rw[List.countP_set z,hv];simp only[Xn,BI,nN,CE,Cr];omega
def Qabb{listed:Array Bool}(hs:listed.size=ops.size)(st:Xd ops (EO ops.toList []))(hr:Region.ready .any ops listed=[]): ∀i,i<ops.size->dn listed i=true:=by
 intro i;induction i using Nat.strongRecOn with
 |_ i ih=>
  intro Z;cases hq:dn listed i with
  |true=>rfl
  |false=>
   exfalso
   have:i∈Region.ready .any ops listed:=by
    rw[mem_ready];have z:ops[i]? =some ops[i]:=GY Z;refine⟨?_,ops[i],z,?_⟩
    .simp only[dn] at hq;rw[HG,GY (by omega)] at hq⊢;simpa using hq
    .intro e Q O;rw[Qup] at O
     have:=st.lo i _ z e (by simpa using Q) O
     exact ih e.on this (by omega)
   rw[hr] at this;cases this
def hC(g:GT P ops (EO ops.toList []) s0 evs s acc)(au:evs.length=ops.size)(an: ∀n e,hget s0.h n=some e->n<s0.nx/\ ∀m∈e.2.nms,m<s0.nx)(ai: ∀t,∀m∈(A8 s0.tm t).nms,m<s0.nx)
 (st:Xd ops (EO ops.toList []))(hN:JF N ops.toList=true){Q:Exit->Act->World->Prop}(hQ: ∀a S,lD C N evs s0 Of S a->Q .normal a S.w):
 ∀(O:Nat) (listed:Array Bool) (S:Au) (a:Act),zL listed<=O->listed.size=ops.size->JW ops (dn listed)->lD C N evs s0 (dn listed) S a->wpAny P .any ops Q O listed a S.w:=by
 have ab: ∀(listed:Array Bool) (S:Au) (a:Act),listed.size=ops.size->(∀i,i<ops.size->dn listed i=true)->lD C N evs s0 (dn listed) S a->Q .normal a S.w:=by
  intro listed S a hs z hA;refine hQ a S ⟨hA.wf,λn=> ?_,λt=> ?_,hA.size,hA.defers,hA.n0,hA.pre⟩
  .rw[hA.h n];refine mA evs _ _ rfl ?_;intro f hf ad;exact absurd (z f.i (by have:=g.lt f hf;omega)) ad
  .have:TD Of evs (A8 s0.tm) t=TD (dn listed) evs (A8 s0.tm) t:=by
    refine mC evs _ _ rfl ?_;intro f hf ad;exact absurd (z f.i (by have:=g.lt f hf;omega)).symm ad
   rw[this];exact hA.tm t
 intro O;induction O with
 |zero=>
  intro listed S a hu hs hcl hA;have z: ∀i,i<ops.size->dn listed i=true:=by
   intro i hi;cases hq:dn listed i with
   |true=>rfl
   |false=>
    have:= @Nr listed i (by omega) (by
     simp only[dn] at hq;rw[HG,GY (by omega)] at hq⊢;simpa using hq)
    omega
  refine⟨?_,ab listed S a hs z hA⟩;rw[List.eq_nil_iff_forall_not_mem];intro j hj;obtain⟨h0,o,ho,_⟩:=mem_ready.1 hj;have am:=(Od.1 ho).1
  have:=z j am
  simp only[dn] at this;rw[HG,GY (by omega)] at this h0;simp at this h0;rw[h0] at this;cases this
 |succ O ih=>
  intro listed S a hu hs hcl hA;refine⟨λhr=>ab listed S a hs (Qabb hs st hr) hA,λj hj=> ?_⟩;obtain⟨h0,o,ho,z⟩:=mem_ready.1 hj;have av:=(Od.1 ho).1;have ah:j<evs.length:=by omega
  have Z:=g.idx j evs[j] (Bi ah);have ac:evs[j]∈evs:=Rm ah;have aj:=((g.ev _ ac).1).op;rw[Z,ho] at aj;have ak:dn listed j=false:=by
   simp only[dn];rw[HG,GY (by omega)] at h0⊢;simpa using h0
  have aa: ∀e∈o.after.toList,Iz e.ground=true->dn listed e.on=true:=λe he hb=>z e (by simpa using he) (by rw[Qup];exact hb)
  have ao:evs[j].o=o:=(Ay aj).symm;have aq:=Xu g an ai st hN hcl ac (by rw[Z];exact ak) (by rw[ao];exact aa) hA (Q:=Q) (K:=wpAny P .any ops Q O (listed.setIfInBounds j true)) ?_
  .rwa [Z] at aq
  .intro a' S' af;rw[Z] at af;have ag:=iM (listed:=listed) (j:=j) (by omega);refine ih (listed.setIfInBounds j true) S' a' ?_ (by simpa using hs) ?_ (by rw[ag];exact af)
   .have:= @Nr listed j (by omega) h0
    omega
   .rw[ag];intro k p hk hp e he hb;simp only[Iq,Qs] at hk⊢;rcases hk with hk|rfl
    .exact .inl (hcl k p hk hp e he hb)
    .rw[ho] at hp;cases hp;exact .inl (aa e he hb)
end
def Qog{P:Program}{V:Dt}(HV:Hq P V){C:AU}{N:Nat}{ops:Array Oper}{K:Av->Prop}{Q:Exit->Act->World->Prop}(hQ: ∀s a w,K s->BF C N s a w->Q .normal a w)
 (hd:JF N ops.toList=true)(af:stOk ops=true){s:Av}{a:Act}{w:World}(hk:VP P V (EO ops.toList []) (Ga ops ops.toList) 0 K [] s)(z:BF C N s a w):wpAny P .any ops Q ops.size (Array.replicate ops.size false) a {w with drawn:=w.drawn+1}:=by
 obtain⟨S,rfl,z⟩:=z;obtain⟨evs,s',acc,aa,g,hK⟩:=PL HV ops.toList 0 [] s [] rfl rfl (GT.nil z.nmT) hk;have hW:=z.wf
 let S1:Au:={S with w:={S.w with drawn:=S.w.drawn+1}}
 have hp:Bv (λ_=>True) S S1:=⟨λb hb=>⟨hb,rfl⟩,λo _ e' ad=>⟨e',ad,rfl,rfl,rfl⟩⟩;have hA:lD C N evs s (dn (Array.replicate ops.size false)) S1 a:=by
  have ab: ∀i,dn (Array.replicate ops.size false) i=false:=by
   intro i;simp only[dn,HG,gL]
   split<;>rfl
  refine⟨⟨hW.os,hW.tape,hW.output,hW.size,hW.keep,hW.ok0,hW.ok1,hW.oks,?_,hW.loc,hW.inj,hW.gl⟩,λn=> ?_,λt=> ?_,z.size,z.defers,z.n0,z.pre⟩
  .intro o e Z;exact Ho hp (λ_ _=>rfl) _ (λ_ _=>trivial) (hW.obj o e Z)
  .rw[Qw6]
   .exact z.h n
   .intro e _ h;rw[ab] at h;cases h
  .rw[Qyr]
   .exact HA hp _ _ (λ_ _=>trivial) (z.tm t)
   .intro e _ h;rw[ab] at h;cases h
 have ag:=hC (C:=C) (N:=N) (Q:=Q) g (by simpa using aa) z.nmH z.nmT (PD af) hd ?_ ops.size (Array.replicate ops.size false) S1 a (by unfold zL;exact DH List.countP_le_length (by simp)) (by simp) ?_ hA
 .exact ag
 .intro a' S' O;refine hQ s' a' S'.w hK ⟨S',rfl,O.wf,λn=> ?_,λt=> ?_,g.nmT,?_,O.size,O.defers,DH z.n0 g.nx,O.pre⟩
  .rw[O.h n,g.h n]
  .rw[g.tm t];exact O.tm t
  .intro n e Z;rw[g.h n] at Z;rcases JY evs _ Z with h|⟨f,hf,_,h⟩
   .obtain⟨h1,h2⟩:=z.nmH n e h
    have:=g.nx
    exact⟨by omega,λm hm=>by have:=h2 m hm;omega⟩
   .obtain⟨ac,h2,h3⟩:=g.ev f hf;cases hs:f.skip
    .obtain⟨_,h5⟩:=Qzx (ac.doo hs).2;obtain⟨h6,h7⟩:=h5 n e h;refine⟨?_,λm hm=>by have:=h7 m hm;omega⟩;rcases h6 with h6|h6
     .have:=h6.2;omega
     .omega
    .rw[(ac.skp hs).2] at h;simp[hget] at h
 .intro j o hj _ e Z hb
  have:dn (Array.replicate ops.size false) j=false:=by
   simp only[dn,HG,gL]
   split<;>rfl
  rw[this] at hj;cases hj
def Qtk{P:Program}(O:P.follows .mixedOrders=true){V:Dt}(Z:Hq P V){C:AU}{N id:Nat}{ops:Array Oper}{K:Av->Prop}{Q:Exit->Act->World->Prop}(hQ: ∀s a w,K s->BF C N s a w->Q .normal a w)
 (hd:JF N ops.toList=true)(z:stOk ops=true){s:Av}{a:Act}{w:World}(hk:VP P V (EO ops.toList []) (Ga ops ops.toList) 0 K [] s)(hc:BF C N s a w):(Code.region id ops true).wp P Q a w:=
 wp_region_any O (Qog Z hQ hd z hk hc)
def Eh(N:Nat):Code->Bool
 | .skip=>true
 | .region _ ops z=>JF N ops.toList && (!z||stOk ops)
 | .seq a b=>Eh N a && Eh N b
 | .cond _ a b=>Eh N a && Eh N b
 | .block _ c=>Eh N c
 | .loop c=>Eh N c
 | .exit _=>true
 | .ret=>true
 |_=>false
def FQ(C:AU)(N:Nat)(Q:Cq):Exit->Act->World->Prop
 | .normal,a,w=> ∃s,Q .normal s/\BF C N s a w
 | .exit i,a,w=> ∃s,Q (.exit i) s/\BF C N s a w
 | .ret,a,w=> ∃s,Q .ret s/\BF C N s a w
 |_,_,_=>False
def Qv7{s:Av}: ∀(tm:List (Nat×AV)),Gx s tm-> ∀t,A8 tm t= .any\/A8 tm t=A8 s.tm t
 |[],_,t=> .inl rfl
 |(q,x)::tm,h,t=>by
  simp only[Gx] at h;simp only[A8];cases hq:q==t
  .simpa using Qv7 tm h.2 t
  .have:q=t:=by simpa using hq
   subst this;exact .inr (by simpa using h.1.symm)
def Qtu{s:Av}: ∀(hs:Ap),Ci s hs-> ∀n e,hget hs n=some e->hget s.h n=some e
 |[],_,n,e,h=>by simp[hget] at h
 |(q,x)::hs,h,n,e,z=>by
  simp only[Ci] at h;simp only[hget] at z;cases hq:q==n<;>rw[hq] at z
  .exact Qtu hs h.2 n e (by simpa using z)
  .have:q=n:=by simpa using hq
   subst this;simp only[BX,AI] at z;subst z;exact h.1
def tK{n:Nat}: ∀(tm:List (Nat×AV)),CF n tm=true-> ∀t,∀m∈(A8 tm t).nms,m<n
 |[],_,t,m,z=>by simp[A8,AV.nms] at z
 |(q,x)::tm,h,t,m,z=>by
  simp only[CF,AN] at h;simp only[A8] at z;cases hq:q==t<;>rw[hq] at z
  .exact tK tm h.2 t m (by simpa using z)
  .exact vA x h.1 m (by simpa using z)
def tH{n:Nat}: ∀(hs:Ap),B9 n hs=true-> ∀m e,hget hs m=some e->m<n
 |[],_,m,e,h=>by simp[hget] at h
 |(q,x)::hs,h,m,e,z=>by
  simp only[B9,AN,E4] at h;simp only[hget] at z;cases hq:q==m<;>rw[hq] at z
  .exact tH hs h.2 m e (by simpa using z)
  .have:q=m:=by simpa using hq
   omega
def mM{C:AU}{N:Nat}{s s':Av}{a:Act}{w:World}(Z:BF C N s a w)(hs:sub s s')(hg:s'.good=true)(ag:C.n0<=s'.nx):BF C N s' a w:=by
 obtain⟨S,rfl,Z⟩:=Z;obtain⟨hT,hH⟩:=hs;simp only[Av.good,AN] at hg;obtain⟨ab,ac,ad⟩:=hg;have z: ∀n e,hget s'.h n=some e->S.h n=some e:=λn e Q=>(Z.h n).trans (Qtu _ hH n e Q)
 have hp:Bv (λ_=>True) S {S with h:=hget s'.h}:=⟨λb hb=>⟨hb,rfl⟩,λo _ e' O=>⟨e',z o e' O,rfl,rfl,rfl⟩⟩;have hW:=Z.wf;refine⟨{S with h:=hget s'.h},rfl,⟨hW.os,hW.tape,hW.output,hW.size,hW.keep,hW.ok0,hW.ok1,hW.oks,?_,?_,?_,hW.gl⟩,λn=>rfl,?_,tK _ ab,?_,Z.size,Z.defers,ag,?_⟩
 .intro o e Q;exact Ho hp (λ_ _=>rfl) _ (λ_ _=>trivial) (hW.obj o e (z o e Q))
 .intro o e l Q hl;exact hW.loc o e l (z o e Q) hl
 .intro o o' e e' l l' Q O hl af hb aa;exact hW.inj o o' e e' l l' (z o e Q) (z o' e' O) hl af hb aa
 .intro t;rcases Qv7 _ hT t with h|h
  .rw[h];simp only[Aa]
  .rw[h];exact HA hp _ _ (λ_ _=>trivial) (Z.tm t)
 .intro n e Q;exact⟨tH _ ad n e Q,fC _ ac n e Q⟩
 .intro o ho e' O;exact Z.pre o ho e' (z o e' O)
def bO{lo:Nat}: ∀(π:List (Nat×Option Nat)),VL lo π-> ∀n,n<lo->pm π n=some n
 |[],_,n,_=>rfl
 |(a,b)::r,h,n,hn=>by
  simp only[VL] at h;simp only[pm];rw[Af (by omega)];exact bO r h.2 n hn
section
variable {S S':Au}{π:List (Nat×Option Nat)}
mutual
def Qyf(ab:S'.ok=S.ok)(aa:S'.hp=S.hp)(hρ: ∀n m,pm π n=some m->S'.ρ n=S.ρ m)(hρ0: ∀n,pm π n=none->S'.ρ n=none)
 (hh: ∀n m,pm π n=some m-> ∀e',S'.h n=some e'-> ∃e,S.h m=some e/\e.2.esz=e'.2.esz/\e.2.len=e'.2.len): ∀(x' x:AV) (v:Value),mt π x' x->Aa S x v->Aa S' x' v
 | .any,_,_,_,_=>by simp only[Aa]
 | .im d,x,v,h,z=>by
   simp only[mt] at h;subst h;simp only[Aa,ab,aa] at z⊢;exact z
 | .own n,x,v,h,z=>by
   simp only[mt] at h;cases hp:pm π n with
   |some m=>
    rw[hp] at h;simp only[FG] at h;subst h;simp only[Aa] at z⊢;refine⟨z.1,λe' O=> ?_⟩;obtain⟨e,Q,Z,h3⟩:=hh n m hp e' O;rw[hρ n m hp,<-h3];exact z.2 e Q
   |none=>
    rw[hp] at h;simp only[FG] at h;unfold jC at h;split at h
    .simp only[Aa,rd] at z;have hv:v= .slice none 0 0:=by
      rcases z with z|⟨_,_,_,_,_,_,_,Z,_⟩
      .exact Qr7 z.1
      .exact absurd rfl (Z trivial)
     subst hv;simp only[Aa];refine⟨rfl,λe' O=> ?_⟩;rw[hρ0 n hp];trivial
    .exact h.elim
 | .ptr n p,x,v,h,z=>by
   simp only[mt] at h;cases hp:pm π n with
   |none=>rw[hp] at h;exact h.elim
   |some m=>
    rw[hp] at h;simp only[GS] at h;subst h;simp only[Aa] at z⊢;refine⟨z.1,λe' O=> ?_⟩;obtain⟨e,Q,Z,h3⟩:=hh n m hp e' O;rw[hρ n m hp];exact z.2 e Q
 | .eptr n i p,x,v,h,z=>by
   simp only[mt] at h;cases hp:pm π n with
   |none=>rw[hp] at h;exact h.elim
   |some m=>
    rw[hp] at h;simp only[GS] at h;subst h;simp only[Aa] at z⊢;refine⟨z.1,λe' O=> ?_⟩;obtain⟨e,Q,Z,h3⟩:=hh n m hp e' O;rw[hρ n m hp,<-Z];exact z.2 e Q
 | .mp n,x,v,h,z=>by
   simp only[mt] at h;cases hp:pm π n with
   |none=>rw[hp] at h;exact h.elim
   |some m=>
    rw[hp] at h;simp only[GS] at h;subst h;simp only[Aa] at z⊢;refine⟨z.1,λe' O=> ?_⟩;obtain⟨e,Q,Z,h3⟩:=hh n m hp e' O;rw[hρ n m hp];exact z.2 e Q
 | .ch n,x,v,h,z=>by
   simp only[mt] at h;cases hp:pm π n with
   |none=>rw[hp] at h;exact h.elim
   |some m=>
    rw[hp] at h;simp only[GS] at h;subst h;simp only[Aa] at z⊢;refine⟨z.1,λe' O=> ?_⟩;obtain⟨e,Q,Z,h3⟩:=hh n m hp e' O;rw[hρ n m hp];exact z.2 e Q
 | .it n,x,v,h,z=>by
   simp only[mt] at h;cases hp:pm π n with
   |none=>rw[hp] at h;exact h.elim
   |some m=>
    rw[hp] at h;simp only[GS] at h;subst h;simp only[Aa] at z⊢;refine⟨z.1,λe' O=> ?_⟩;obtain⟨e,Q,Z,h3⟩:=hh n m hp e' O;rw[hρ n m hp];exact z.2 e Q
 | .osl n a k,x,v,h,z=>by
   simp only[mt] at h;cases hp:pm π n with
   |none=>rw[hp] at h;exact h.elim
   |some m=>
    rw[hp] at h;simp only[GS] at h;subst h;simp only[Aa] at z⊢;refine⟨z.1,λe' O=> ?_⟩;obtain⟨e,Q,Z,h3⟩:=hh n m hp e' O;rw[hρ n m hp,<-Z,<-h3];exact z.2 e Q
 | .agg cs,x,v,h,z=>by
   have ac: ∀ds,DL π cs ds->Aa S (.agg ds) v->Aa S' (.agg cs) v:=by
    intro ds h z;simp only[Aa] at z⊢;obtain⟨vs,rfl,Q⟩:=z;exact⟨vs,rfl,Qts ab aa hρ hρ0 hh cs ds _ h Q⟩
   cases x<;>try (simp only[mt] at h;done)
   case agg ds=>
    simp only[mt] at h;exact ac ds h z
   case im d=>
    cases d<;>try (simp only[mt] at h;done)
    rename_i ds;simp only[mt] at h;refine ac _ h ?_;simp only[Aa,rd] at z⊢;obtain⟨vs,rfl,Q⟩:=z;exact⟨vs,rfl,(IB _ _).2 Q⟩
 | .tup cs,x,v,h,z=>by simp only[mt] at h
 | .clo f a c,x,v,h,z=>by simp only[mt] at h
def Qts(O:S'.ok=S.ok)(z:S'.hp=S.hp)(hρ: ∀n m,pm π n=some m->S'.ρ n=S.ρ m)(hρ0: ∀n,pm π n=none->S'.ρ n=none)
 (hh: ∀n m,pm π n=some m-> ∀e',S'.h n=some e'-> ∃e,S.h m=some e/\e.2.esz=e'.2.esz/\e.2.len=e'.2.len): ∀(Q xs:List AV) (vs:List Value),DL π Q xs->AJ S xs vs->AJ S' Q vs
 |[],[],vs,h,Z=>by simpa only[AJ] using Z
 |x::r,y::s,vs,h,Z=>by
  simp only[DL] at h;simp only[AJ] at Z⊢;obtain⟨v,w,rfl,h1,h2⟩:=Z;exact⟨v,w,rfl,Qyf O z hρ hρ0 hh x y v h.1 h1,Qts O z hρ hρ0 hh r s w h.2 h2⟩
 |[],_::_,vs,h,_=>by simp only[DL] at h
 |_::_,[],vs,h,_=>by simp only[DL] at h
end
end
def Qya{π:List (Nat×Option Nat)}: ∀{a b:List (List AV)},Gq π a b->b.length=a.length
 |[],[],_=>rfl
 |_::_,_::_,h=>by simp[Qya h.2]
 |[],_::_,h=>h.elim
 |_::_,[],h=>h.elim
def Mp{π:List (Nat×Option Nat)}: ∀{a b:List AV},DL π a b->b.length=a.length
 |[],[],_=>rfl
 |_::_,_::_,h=>by simp only[DL] at h;simp[Mp h.2]
 |[],_::_,h=>by simp only[DL] at h
 |_::_,[],h=>by simp only[DL] at h
def Qxn{π:List (Nat×Option Nat)}{e' e:Ab}(h:EL π e' e):e.esz=e'.esz/\e.len=e'.len/\e.isView=e'.isView:=by
 cases e'<;>cases e<;>simp only[EL,reduceCtorEq,Ab.arr.injEq,Ab.map.injEq,Ab.chan.injEq,Ab.iter.injEq,Ab.view.injEq] at h
 all_goals first
  |exact⟨rfl,rfl,rfl⟩
  |(obtain⟨rfl,rfl,rfl⟩:=h;exact⟨rfl,rfl,rfl⟩)
  |(obtain⟨rfl,rfl,h⟩:=h;exact⟨rfl,by simpa[Ab.len,Be] using Qya h,rfl⟩)
  |(obtain⟨rfl,rfl⟩:=h;exact⟨rfl,rfl,rfl⟩)
def Yq{S S':Au}{π:List (Nat×Option Nat)}(ac:S'.ok=S.ok)(O:S'.hp=S.hp)(hρ: ∀n m,pm π n=some m->S'.ρ n=S.ρ m)(hρ0: ∀n,pm π n=none->S'.ρ n=none)
 (hh: ∀n m,pm π n=some m-> ∀e',S'.h n=some e'-> ∃e,S.h m=some e/\e.2.esz=e'.2.esz/\e.2.len=e'.2.len){l:Option Ff}{e' e:Ab}(h:EL π e' e)(Q:An S l e):An S' l e':=by
 have hp:Bv (λ_=>False) S S':=⟨λb hb=>⟨by rw[ac];exact hb,by rw[O]⟩,λo h=>h.elim⟩;cases e' with
 |cells T cs=>
  cases e<;>simp only[EL] at h;obtain⟨rfl,h⟩:=h;simp only[An] at Q⊢;obtain⟨lc,vs,h1,Z,h3,h4⟩:=Q;exact⟨lc,vs,h1,Z,by rw[O];exact h3,Qts ac O hρ hρ0 hh _ _ _ h h4⟩
 |arrA T k rows=>
  have hR: ∀(aa rs:List (List AV)) (vs:List Value),Gq π aa rs->BA S k rs vs->BA S' k aa vs:=by
   intro aa;induction aa with
   |nil=>intro rs vs _ _;simp only[BA]
   |cons x r ih=>
    intro rs vs h hc;cases rs with
    |nil=>exact h.elim
    |cons y s=>
     simp only[BA] at hc⊢;have hP: ∀(xs ys:List AV) (vs:List Value),DL π xs ys->Cu S ys vs->Cu S' xs vs:=by
      intro xs;induction xs with
      |nil=>intro ys vs _ _;simp only[Cu]
      |cons a l ad=>
       intro ys vs h hc;cases ys with
       |nil=>simp only[DL] at h
       |cons b t=>
        simp only[DL] at h;simp only[Cu] at hc⊢;obtain⟨v,w,rfl,h1,Z⟩:=hc;exact⟨v,w,rfl,Qyf ac O hρ hρ0 hh a b v h.1 h1,ad t w h.2 Z⟩
     exact⟨by rw[<-hc.1];exact (Mp h.1).symm,hP _ _ _ h.1 hc.2.1,ih s _ h.2 hc.2.2⟩
  have ab: ∀(z:List (List AV)),Gq π rows z->An S l (.arrA T k z)->An S' l (.arrA T k rows):=by
   intro z h Q;simp only[An] at Q⊢;rw[<-Qya h];refine⟨Q.1,?_⟩;cases l with
   |none=>
    have Z:=Q.2;simp only at Z;subst Z;cases rows with
    |nil=>rfl
    |cons x r=>exact h.elim
   |some lc=>
    obtain⟨h0,h1,vs,Z,h3,h4⟩:=Q;exact⟨h1,vs,by rw[O];exact Z,h3,hR _ _ _ h h4⟩
  cases e<;>simp only[EL] at h
  case arrA U k' z=>
   obtain⟨rfl,rfl,h⟩:=h;exact ab z h Q
  case arr U k' z=>
   obtain⟨rfl,rfl,h⟩:=h;refine ab (Be z) h ?_;simp only[An] at Q⊢;rw[show (Be z).length=z.length by simp[Be]];refine⟨Q.1,?_⟩;cases l with
   |none=>have Z:=Q.2;simp only at Z;subst Z;rfl
   |some lc=>
    obtain⟨h0,h1,vs,Z,h3,h4⟩:=Q;exact⟨h1,vs,Z,h3,lX _ _ h4⟩
 |arr T k rows=>
  simp only[EL] at h;subst h;exact Ho hp (λlc _=>by rw[O]) _ (by simp[Ab.nms]) Q
 |map kt es=>
  simp only[EL] at h;subst h;exact Ho hp (λlc _=>by rw[O]) _ (by simp[Ab.nms]) Q
 |chan q c=>
  simp only[EL] at h;subst h;exact Ho hp (λlc _=>by rw[O]) _ (by simp[Ab.nms]) Q
 |iter q0 q=>
  simp only[EL] at h;subst h;exact Ho hp (λlc _=>by rw[O]) _ (by simp[Ab.nms]) Q
 |view q=>
  simp only[EL] at h;subst h;exact Ho hp (λlc _=>by rw[O]) _ (by simp[Ab.nms]) Q
def oQ{π:List (Nat×Option Nat)}: ∀(H:Ap),EX (OD π H)=true-> ∀n n' e e' m,hget H n=some e->hget H n'=some e'->pm π n=some m->pm π n'=some m->n=n'
 |[],_,n,n',e,e',m,h,_,_,_=>by simp[hget] at h
 |(q,x)::H,hn,n,n',e,e',m,h,h',hp,hp'=>by
  have Z: ∀n e,hget H n=some e-> ∀m,pm π n=some m->some m∈OD π H:=by
   intro n e;clear hn h h' hp hp';induction H with
   |nil=>intro h;simp[hget] at h
   |cons y H ih=>
    obtain⟨q',z⟩:=y;intro h m hm;simp only[hget] at h;simp only[OD,Bh];cases hq:q'==n<;>rw[hq] at h
    .exact .inr (ih (by simpa using h) m hm)
    .have:q'=n:=by simpa using hq
     subst this;exact .inl hm.symm
  have aa:EX (OD π H)=true:=by
   simp only[OD] at hn;cases hq:pm π q<;>rw[hq] at hn<;>simp only[EX,AN] at hn
   .exact hn
   .exact hn.2
  simp only[hget] at h h';by_cases Q:q=n<;>by_cases O:q=n'
  .rw[<-Q,<-O]
  .subst Q
   have:(q==n')=false:=by simpa using O
   rw[this] at h';have hm:=Z n' e' (by simpa using h') m hp';simp only[OD,hp,EX,AN,Rl] at hn
   have:=hn.1
   rw[FO.2 hm] at this;cases this
  .subst O
   have:(q==n)=false:=by simpa using Q
   rw[this] at h;have hm:=Z n e (by simpa using h) m hp;simp only[OD,hp',EX,AN,Rl] at hn
   have:=hn.1
   rw[FO.2 hm] at this;cases this
  .have h1:(q==n)=false:=by simpa using Q
   have h2:(q==n')=false:=by simpa using O
   rw[h1] at h;rw[h2] at h';exact oQ H aa n n' e e' m (by simpa using h) (by simpa using h') hp hp'
def Qll{π:List (Nat×Option Nat)}{s:Av}: ∀(H:Ap),GU π s H-> ∀n e',hget H n=some e'->Et s π e'.1 e'.2 (pm π n)
 |[],_,n,e',h=>by simp[hget] at h
 |(q,(O,x))::H,z,n,e',h=>by
  simp only[GU] at z;simp only[hget] at h;cases hq:q==n<;>rw[hq] at h
  .exact Qll H z.2 n e' (by simpa using h)
  .have:q=n:=by simpa using hq
   subst this;simp only[BX,AI] at h;subst h;exact z.1
def Qqi{π:List (Nat×Option Nat)}{s:Av}: ∀(T:List (Nat×AV)),Qm π s T-> ∀t,A8 T t= .any\/mt π (A8 T t) (A8 s.tm t)
 |[],_,t=> .inl rfl
 |(q,x)::T,z,t=>by
  simp only[Qm] at z;simp only[A8];cases hq:q==t
  .simpa using Qqi T z.2 t
  .have:q=t:=by simpa using hq
   subst this;exact .inr (by simpa using z.1)
def QT{C:AU}{N lo:Nat}{π:List (Nat×Option Nat)}{s s':Av}{a:Act}{w:World}(hc:BF C N s a w)(hs:Aq lo π s s')(hg:s'.good=true)(ao:C.n0<=lo)(am:C.n0<=s'.nx):BF C N s' a w:=by
 obtain⟨S,rfl,hc⟩:=hc;obtain⟨ak,ac,hT,hH⟩:=hs;simp only[Av.good,AN] at hg;obtain⟨ah,ai,aj⟩:=hg
 let S':Au:=⟨λn=>match pm π n with
  |some m=>S.ρ m
  |none=>none,S.ok,hget s'.h,S.w⟩
 have hρ: ∀n m,pm π n=some m->S'.ρ n=S.ρ m:=by intro n m h;simp only[S',h]
 have hρ0: ∀n,pm π n=none->S'.ρ n=none:=by intro n h;simp only[S',h]
 have Q: ∀n m,pm π n=some m-> ∀e',S'.h n=some e'-> ∃e,S.h m=some e/\e.1=e'.1/\EL π e'.2 e.2:=by
  intro n m hp e' z;have O:=Qll _ hH n e' z;rw[hp] at O;simp only[Et] at O;cases hx:hget s.h m with
  |none=>rw[hx] at O;exact O.elim
  |some e=>
   obtain⟨mu,e⟩:=e;rw[hx] at O;exact⟨(mu,e),(hc.h m).trans hx,O.1,O.2⟩
 have hh: ∀n m,pm π n=some m-> ∀e',S'.h n=some e'-> ∃e,S.h m=some e/\e.2.esz=e'.2.esz/\e.2.len=e'.2.len:=by
  intro n m hp e' z;obtain⟨e,O,_,h2⟩:=Q n m hp e' z;obtain⟨h3,h4,_⟩:=Qxn h2;exact⟨e,O,h3,h4⟩
 have hW:=hc.wf;refine⟨S',rfl,⟨hW.os,hW.tape,hW.output,hW.size,hW.keep,hW.ok0,hW.ok1,hW.oks,?_,?_,?_,hW.gl⟩,λn=>rfl,?_,tK _ ah,?_,hc.size,hc.defers,am,?_⟩
 .intro n e' z;cases hp:pm π n with
  |some m=>
   obtain⟨e,O,_,h2⟩:=Q n m hp e' z;rw[hρ n m hp];exact Yq (S:=S) (S':=S') rfl rfl hρ hρ0 hh h2 (hW.obj m e O)
  |none=>
   have O:=Qll _ hH n e' z;rw[hp] at O;simp only[Et] at O;rw[hρ0 n hp];obtain⟨mu,e'⟩:=e';unfold Ts at O;split at O
   .rename_i ab Z;simp only at Z;subst Z;simp[An]
   .rename_i ab Z;simp only at Z;subst Z;simp[An]
   .exact O.elim
 .intro n e' l z hl;cases hp:pm π n with
  |none=>rw[hρ0 n hp] at hl;cases hl
  |some m=>
   obtain⟨e,O,h2,h3⟩:=Q n m hp e' z;rw[hρ n m hp] at hl
   have:=hW.loc m e l O hl
   rw[<-h2,<-(Qxn h3).2.2];exact this
 .intro n n' e e' l l' he z hl aa hb ag;cases hp:pm π n with
  |none=>rw[hρ0 n hp] at hl;cases hl
  |some m=>
   cases hp':pm π n' with
   |none=>rw[hρ0 n' hp'] at aa;cases aa
   |some m'=>
    obtain⟨x,O,h2,h3⟩:=Q n m hp e he;obtain⟨x',ad,af,an⟩:=Q n' m' hp' e' z;rw[hρ n m hp] at hl;rw[hρ n' m' hp'] at aa
    have:=hW.inj m m' x x' l l' O ad hl aa hb (by rw[h2,af];exact ag)
    subst this;exact oQ _ ac n n' e e' m he z hp hp'
 .intro t;rcases Qqi _ hT t with h|h
  .rw[h];simp only[Aa]
  .exact Qyf (S:=S) (S':=S') rfl rfl hρ hρ0 hh _ _ _ h (hc.tm t)
 .intro n e he;exact⟨tH _ aj n e he,fC _ ai n e he⟩
 .intro o ho e' z;have hp:=bO π ak o (by omega);obtain⟨e,O,_,h2⟩:=Q o o hp e' z;obtain⟨e0,g1,g2,g3,g4⟩:=hc.pre o ho e O;obtain⟨h3,h4,_⟩:=Qxn h2;exact⟨e0,g1,(hρ o o hp).trans g2,h3.symm.trans g3,h4.symm.trans g4⟩
def tZ(F:List Nat): ∀(H:Ap) (n:Nat),hget (HL F H) n=(hget H n).map λe=>(e.1 && !F.contains n,e.2)
 |[],n=>rfl
 |(q,(z,e))::H,n=>by
  simp only[HL,hget];cases hq:q==n
  .simpa using tZ F H n
  .have:q=n:=by simpa using hq
   subst this;rfl
def Qxl{C:AU}{N:Nat}(F:List Nat){s:Av}{a:Act}{w:World}(z:BF C N s a w):BF C N (Sq F s) a w:=by
 obtain⟨S,rfl,z⟩:=z;have hp:=Hn S (λn=> !F.contains n);refine⟨S.ice (λn=> !F.contains n),rfl,V6 z.wf,λn=> ?_,λt=>HA hp _ _ (λ_ _=>trivial) (z.tm t),z.nmT,?_,z.size,z.defers,z.n0,?_⟩
 .show (S.h n).map _=hget (HL F s.h) n;rw[tZ,z.h n]
 .intro n e O;have O:hget (HL F s.h) n=some e:=O;rw[tZ] at O;simp only[CT] at O;obtain⟨x,hx,rfl⟩:=O;exact z.nmH n x hx
 .intro o ho e' Q;obtain⟨e,Z,rfl⟩:=V0 Q;exact z.pre o ho e Z
def TM{o p:Nat}{x:Option Ao}: ∀m∈(Fw o p x).nms,m∈(AV.ptr o p).nms:=by
 intro m z;unfold Fw at z;split at z<;>try exact z
 rename_i cs;cases ha:DC (cs.drop p) with
 |none=>rw[ha] at z;exact z
 |some ds=>rw[ha] at z;simp[Jt,AV.nms] at z
mutual
def LR(F:List Nat)(H:Ap): ∀(x:AV),∀m∈(x.fzA F H).nms,m∈x.nms
 | .own n,m,z=>by
   simp only[AV.fzA] at z;cases hF:F.contains n<;>rw[hF] at z
   .simpa using z
   .simp only[BX] at z;cases hh:hget H n with
    |none=>rw[hh] at z;simpa[KN] using z
    |some e=>
     obtain⟨O,e⟩:=e;rw[hh] at z;cases e<;>simp only[KN,Hk] at z<;>first|exact z|(simp[AV.nms] at z)
 | .agg cs,m,z=>by
   simp only[AV.fzA,AV.nms] at z⊢;exact Qng F H cs m z
 | .any,m,z=>by simpa only[AV.fzA] using z
 | .im d,m,z=>by simpa only[AV.fzA] using z
 | .tup cs,m,z=>by simpa only[AV.fzA] using z
 | .ptr o p,m,z=>by
   simp only[AV.fzA] at z;cases hF:F.contains o<;>rw[hF] at z
   .exact z
   .simp only[BX] at z;cases hG:F.contains (o+4000000000)<;>rw[hG] at z
    .exact z
    .exact TM m z
 | .eptr o i p,m,z=>by simpa only[AV.fzA] using z
 | .mp o,m,z=>by simpa only[AV.fzA] using z
 | .ch o,m,z=>by simpa only[AV.fzA] using z
 | .it o,m,z=>by simpa only[AV.fzA] using z
 | .osl o a n,m,z=>by simpa only[AV.fzA] using z
 | .clo f a c,m,z=>by simpa only[AV.fzA] using z
def Qng(F:List Nat)(H:Ap): ∀(xs:List AV),∀m∈AA (DJ F H xs),m∈AA xs
 |[],m,z=>by simpa[DJ] using z
 |x::r,m,z=>by
  simp only[DJ,AA,Bn] at z⊢;exact z.imp (LR F H x m) (Qng F H r m)
end
def oX(F:List Nat)(H:Ap): ∀(xs:List (List AV)),∀m∈B5 (D5 F H xs),m∈B5 xs
 |[],m,z=>by simpa[D5] using z
 |x::r,m,z=>by
  simp only[D5,B5,Bn] at z⊢;exact z.imp (Qng F H x m) (oX F H r m)
def St(F:List Nat)(H:Ap)(e:Ab): ∀m∈(e.fzA F H).nms,m∈e.nms:=by
 intro m z;cases e<;>simp only[Ab.fzA,Ab.nms] at z⊢ <;>try exact z
 .exact Qng F H _ m z
 .exact oX F H _ m z
def Qrp(F:List Nat)(H:Ap): ∀(xs:List (List AV)),(D5 F H xs).length=xs.length
 |[]=>rfl
 |x::r=>by simp only[D5,Cv,Qrp F H r]
def Qzt(F:List Nat)(H:Ap): ∀(xs:List AV),(DJ F H xs).length=xs.length
 |[]=>rfl
 |x::r=>by simp only[DJ,Cv,Qzt F H r]
def Qtj(F:List Nat)(H:Ap)(e:Ab):(e.fzA F H).esz=e.esz/\(e.fzA F H).len=e.len/\(e.fzA F H).isView=e.isView:=by
 cases e<;>simp[Ab.fzA,Ab.esz,Ab.len,Ab.isView,Qrp]
def Qrq(F:List Nat)(H:Ap): ∀(T:List (Nat×AV)) (t:Nat),A8 (HO F H T) t=(A8 T t).fzA F H
 |[],t=>by simp only[HO,A8,AV.fzA]
 |(q,x)::T,t=>by
  simp only[HO,A8];cases hq:q==t
  .simpa using Qrq F H T t
  .rfl
def Qss(F:List Nat)(H0:Ap): ∀(H:Ap) (n:Nat),hget (HN F H0 H) n=(hget H n).map λe=>(e.1 && !F.contains n,e.2.fzA F H0)
 |[],n=>rfl
 |(q,(z,e))::H,n=>by
  simp only[HN,hget];cases hq:q==n
  .simpa using Qss F H0 H n
  .have:q=n:=by simpa using hq
   subst this;rfl
section
variable {C:AU}{S:Au}{F:List Nat}{H:Ap}(hW:Wf C S)(hH: ∀n e,F.contains n=true->hget H n=some e->S.h n=some (false,e.2))
include hW hH
def OY{n:Nat}{v:Value}(hF:F.contains n=true)(h:Aa S (.own n) v):Aa S (KN n (hget H n)) v:=by
 cases hh:hget H n with
 |none=>exact h
 |some e=>
  have O:=hH n e hF hh;obtain⟨mu,e⟩:=e;cases e<;>simp only[KN,Hk]<;>try exact h
  rename_i U w rows;simp only[Aa] at h⊢;have Z:=h.2 _ O;have z:=hW.obj n _ O;have aa:=λl=>hW.loc n _ l O
  simp only[An] at z;simp only[rd];cases hl:S.ρ n with
  |none=>
   rw[hl] at Z z;exact .inl ⟨.inl Z,z.2⟩
  |some l=>
   rw[hl] at Z z;have Q:=(aa l hl).2;simp only[Ab.isView,CE,VJ,Cr] at Q;obtain⟨g0,g1,vs,g2,g3,g4⟩:=z;exact .inr ⟨l.b,l.p,l.cap,vs,U,(0,0),Z,by simp,g1,g0,Q,g2,g4⟩
def Pc{n p:Nat}{v:Value}(hF:F.contains n=true)(h:Aa S (.ptr n p) v):Aa S (Fw n p (hget H n)) v:=by
 cases hh:hget H n with
 |none=>exact h
 |some e=>
  have z:=hH n e hF hh;obtain⟨mu,e⟩:=e;cases e<;>simp only[Fw]<;>try exact h
  rename_i T cs;cases ha:DC (cs.drop p) with
  |none=>exact h
  |some ds=>
   simp only[Jt,Aa,rd];simp only[Aa] at h;obtain⟨l,Z,rfl⟩:=h.2 _ z;have O:=hW.obj n _ z;rw[Z] at O;simp only[An] at O;obtain⟨lc,vs,h3,h4,h5,h6⟩:=O;cases h3;have Q:=(hW.loc n _ l z Z).2;simp only[Ab.isView,CE,VJ,Cr] at Q;refine⟨l.b,l.p+p,vs,T,(0,0),rfl,Q,h5,?_⟩;rw[h4,FP];have h7: ∀(n:Nat) (a:List AV) (b:List Value),AJ S a b->AJ S (a.drop n) (b.drop n):=by
    intro n;induction n with
    |zero=>intro a b h;simpa using h
    |succ n ih=>
     intro a b h;cases a with
     |nil=>simp only[AJ] at h;subst h;simp[AJ]
     |cons x a=>
      simp only[AJ] at h;obtain⟨v,r,rfl,_,h⟩:=h;simpa using ih a r h
   exact Qse ds _ (Qov _ ds _ ha (h7 p cs _ h6))
mutual
def Qte: ∀(x:AV) (v:Value),Aa S x v->Aa S (x.fzA F H) v
 | .own n,v,h=>by
   simp only[AV.fzA];cases hF:F.contains n
   .exact h
   .exact OY hW hH hF h
 | .agg cs,v,h=>by
   simp only[AV.fzA,Aa] at h⊢;obtain⟨vs,rfl,h⟩:=h;exact⟨vs,rfl,Qom _ _ h⟩
 | .any,v,h=>by simpa only[AV.fzA] using h
 | .im d,v,h=>by simpa only[AV.fzA] using h
 | .tup cs,v,h=>by simpa only[AV.fzA] using h
 | .ptr o p,v,h=>by
   simp only[AV.fzA];cases hF:F.contains o
   .exact h
   .simp only[BX];cases hG:F.contains (o+4000000000)
    .exact h
    .exact Pc hW hH hF h
 | .eptr o i p,v,h=>by simpa only[AV.fzA] using h
 | .mp o,v,h=>by simpa only[AV.fzA] using h
 | .ch o,v,h=>by simpa only[AV.fzA] using h
 | .it o,v,h=>by simpa only[AV.fzA] using h
 | .osl o a n,v,h=>by simpa only[AV.fzA] using h
 | .clo f a c,v,h=>by simpa only[AV.fzA] using h
def Qom: ∀(xs:List AV) (vs:List Value),AJ S xs vs->AJ S (DJ F H xs) vs
 |[],_,h=>by simpa only[DJ] using h
 |x::l,vs,h=>by
  simp only[DJ,AJ] at h⊢;obtain⟨v,r,rfl,z,O⟩:=h;exact⟨v,r,rfl,Qte x v z,Qom l r O⟩
end
def Quw: ∀(xs:List AV) (vs:List Value),Cu S xs vs->Cu S (DJ F H xs) vs
 |[],_,h=>by simp only[DJ,Cu]
 |x::l,vs,h=>by
  simp only[DJ,Cu] at h⊢;obtain⟨v,r,rfl,z,O⟩:=h;exact⟨v,r,rfl,Qte hW hH x v z,Quw l r O⟩
def Qu9(k:Nat): ∀(xs:List (List AV)) (vs:List Value),BA S k xs vs->BA S k (D5 F H xs) vs
 |[],_,h=>by simp only[D5,BA]
 |x::l,vs,h=>by
  simp only[D5,BA] at h⊢;exact⟨by rw[Qzt];exact h.1,Quw hW hH x vs h.2.1,Qu9 k l _ h.2.2⟩
def OB{l:Option Ff}(e:Ab)(h:An S l e):An S l (e.fzA F H):=by
 cases e<;>simp only[Ab.fzA]<;>try exact h
 .simp only[An] at h⊢;obtain⟨lc,vs,O,z,Q,Z⟩:=h;exact⟨lc,vs,O,z,Q,Qom hW hH _ _ Z⟩
 .rename_i T k rows;simp only[An,Qrp] at h⊢;refine⟨h.1,?_⟩;cases l with
  |none=>
   have z:=h.2;simp only at z;subst z;rfl
  |some lc=>
   obtain⟨h0,O,vs,z,Q,Z⟩:=h;exact⟨O,vs,z,Q,Qu9 hW hH k _ _ Z⟩
end
def uZ{C:AU}{N:Nat}(F:List Nat){s:Av}{a:Act}{w:World}(Q:BF C N s a w):BF C N (Su F s) a w:=by
 obtain⟨S,rfl,ab⟩:=Qxl F Q;clear Q;have Q:=ab;clear ab
 let S':Au:=⟨S.ρ,S.ok,hget (HN F s.h s.h),S.w⟩
 have aa: ∀n,S.h n=(hget s.h n).map λe=>(e.1 && !F.contains n,e.2):=by
  intro n;rw[Q.h n];exact tZ F s.h n
 have hH: ∀n e,F.contains n=true->hget s.h n=some e->S.h n=some (false,e.2):=by
  intro n e hF he;rw[aa,he];simp only[D3,hF,nN,nL]
 have O: ∀n e',S'.h n=some e'-> ∃e,S.h n=some e/\e'.1=e.1/\e'.2=e.2.fzA F s.h:=by
  intro n e' z;have z:hget (HN F s.h s.h) n=some e':=z;rw[Qss] at z;simp only[CT] at z;obtain⟨x,hx,rfl⟩:=z;exact⟨(x.1 && !F.contains n,x.2),by rw[aa,hx];rfl,rfl,rfl⟩
 have hp:Bv (λ_=>True) S S':=⟨λb hb=>⟨hb,rfl⟩,λo _ e' z=>by
  obtain⟨e,Z,h2,h3⟩:=O o e' z;obtain⟨g1,g2,_⟩:=Qtj F s.h e.2;exact⟨e,Z,rfl,by rw[h3];exact g1,by rw[h3];exact g2⟩⟩
 have hW:=Q.wf;refine⟨S',rfl,⟨hW.os,hW.tape,hW.output,hW.size,hW.keep,hW.ok0,hW.ok1,hW.oks,?_,?_,?_,hW.gl⟩,λn=>rfl,?_,?_,?_,Q.size,Q.defers,Q.n0,?_⟩
 .intro o e' z;obtain⟨e,Z,h2,h3⟩:=O o e' z;rw[h3];exact Ho hp (λlc _=>rfl) _ (λ_ _=>trivial) (OB hW hH e.2 (hW.obj o e Z))
 .intro o e' l z hl;obtain⟨e,Z,h2,h3⟩:=O o e' z
  have:=hW.loc o e l Z hl
  rw[h2,h3,(Qtj F s.h e.2).2.2];exact this
 .intro o o' e e' l l' he z hl ag hb af;obtain⟨x,Z,h2,h3⟩:=O o e he;obtain⟨x',ac,ad,ah⟩:=O o' e' z;exact hW.inj o o' x x' l l' Z ac hl ag hb (by rw[<-h2,<-ad];exact af)
 .intro t;show Aa S' (A8 (HO F s.h s.tm) t) _;rw[Qrq];exact HA hp _ _ (λ_ _=>trivial) (Qte hW hH _ _ (Q.tm t))
 .intro t m hm;have hm:m∈(A8 (HO F s.h s.tm) t).nms:=hm;rw[Qrq] at hm;exact Q.nmT t m (LR F s.h _ m hm)
 .intro n e he;have he:hget (HN F s.h s.h) n=some e:=he;rw[Qss] at he;simp only[CT] at he;obtain⟨x,hx,rfl⟩:=he;have Z:hget (Sq F s).h n=some (x.1 && !F.contains n,x.2):=by
   show hget (HL F s.h) n=_;rw[tZ,hx];rfl
  obtain⟨g1,g2⟩:=Q.nmH n _ Z;exact⟨g1,λm hm=>g2 m (St F s.h x.2 m hm)⟩
 .intro o ho e' z;obtain⟨e,Z,h2,h3⟩:=O o e' z;obtain⟨e0,g1,g2,g3,g4⟩:=Q.pre o ho e Z;obtain⟨q1,q2,_⟩:=Qtj F s.h e.2;exact⟨e0,g1,g2,by rw[h3,q1];exact g3,by rw[h3,q2];exact g4⟩
def NB{p:Nat->Prop}: ∀n,p n-> ∃m,p m/\ ∀k,k<m-> ¬p k:=by
 intro n;induction n using Nat.strongRecOn with
 |_ n ih=>
  intro hn;by_cases h: ∃k,k<n/\p k
  .obtain⟨k,O,z⟩:=h;exact ih k O z
  .exact⟨n,hn,λk O z=>h ⟨k,O,z⟩⟩
section
variable {P:Program}{V:Dt}{C:AU}{N:Nat}
def ZK{x:Cq}{Q:Cq}{next:Act->World->Prop}(Z: ∀s a w,x .normal s->BF C N s a w->next a w)(h2: ∀i s,x (.exit i) s->Q (.exit i) s)(h3: ∀s,x .ret s->Q .ret s):
 ∀e a w,FQ C N x e a w->Exit.then next (FQ C N Q) e a w:=by
 intro e a w h;cases e<;>simp only[FQ] at h<;>simp only[Exit.then,FQ]
 .obtain⟨s,O,z⟩:=h;exact Z s a w O z
 .obtain⟨s,O,z⟩:=h;exact⟨s,h2 _ s O,z⟩
 .obtain⟨s,O,z⟩:=h;exact⟨s,h3 s O,z⟩
def Qo4(HM:P.follows .mixedOrders=true)(HV:Hq P V): ∀(c:Code),Eh N c=true-> ∀(Q:Cq) (s:Av) (a:Act) (w:World),Dh P V c Q s->BF C N s a w->c.wp P (FQ C N Q) a w:=by
 intro c;induction c with
 |skip=>intro _ Q s a w h O;exact wp_skip ⟨s,h,O⟩
 |region id ops ao=>
  intro hk Q s a w h O;simp only[Eh,AN] at hk;cases ao with
  |true=>exact Qtk HM HV (λs a w h1 h2=>⟨s,h1,h2⟩) hk.1 (by simpa using hk.2) h O
  |false=>exact Qt0 HV (λs a w h1 h2=>⟨s,h1,h2⟩) hk.1 h O
 |seq x y am an=>
  intro hk Q s a w h O;simp only[Eh,AN] at hk;simp only[Dh] at h;refine wp_seq (wp_mono (am hk.1 _ s a w h O) (ZK ?_ ?_ ?_))
  .intro s a w hs O;exact an hk.2 Q s a w hs O
  .intro i s hs;exact hs
  .intro s hs;exact hs
 |cond c x y am an=>
  intro hk Q s a w h O;simp only[Eh,AN] at hk;simp only[Dh] at h;obtain⟨S,aq,ak⟩:=O;have h1:=QQ ak c;cases hv:Ax s.tm c<;>rw[hv] at h<;>try exact h.elim
  rename_i d;cases d<;>try exact h.elim
  rename_i b;rw[hv] at h1;simp only[Aa,rd] at h1;simp only[vP] at h;refine wp_cond_split h1 (λhb=>am hk.1 Q s a w (h.1 hb) ⟨S,aq,ak⟩) (λhb=>an hk.2 Q s a w (h.2 hb) ⟨S,aq,ak⟩)
 |block id c ih=>
  intro hk Q s a w h O;simp only[Dh] at h;refine wp_block (wp_mono (ih hk _ s a w h O) ?_);intro e a w he;cases e<;>simp only[FQ] at he<;>simp only[Exit.inBlock,FQ]
  .exact he
  .rename_i i;obtain⟨s,hs,O⟩:=he;simp only[mS] at hs;by_cases hi:i=id
   .subst hi;rw[Ai rfl];exact⟨s,by simpa[Jc] using hs,O⟩
   .rw[Af hi]
    have:(i==id)=false:=by simpa using hi
    rw[this] at hs;exact⟨s,hs,O⟩
  .exact he
 |loop c ih=>
  intro hk Q s a w h O;have aj: ∀(s:Av),ZP (Dh P V c) Q s->BF C N s a w->(Code.loop c).wp P (FQ C N Q) a w:=by
   clear h O;intro s h O;simp only[ZP] at h;obtain⟨β,I,μ,z,⟨b0,af⟩,Z⟩:=h
   let p:Act->World->Nat->Prop:=λa w n=> ∃b,BF C N (I b) a w/\μ b=n
   let μ':Act->World->Nat:=λa w=>Classical.epsilon λn=>p a w n/\ ∀k,k<n-> ¬p a w k
   have hμ: ∀a w b,BF C N (I b) a w->p a w (μ' a w)/\ ∀k,k<μ' a w-> ¬p a w k:=by
    intro a w b hb;exact nB (p:=λn=>p a w n/\ ∀k,k<n-> ¬p a w k) (NB (μ b) ⟨b,hb,rfl⟩)
   have ac: ∀b,C.n0<=(I b).nx:=by
    intro b;obtain⟨S,_,h⟩:=O;exact DH h.n0 (z b).2
   refine wp_loop (λa w=> ∃b,BF C N (I b) a w) μ' ⟨b0,mM O af (z b0).1 (ac b0)⟩ ?_;rintro a w ⟨b,hb⟩;obtain⟨⟨b1,ag,av⟩,_⟩:=hμ a w b hb;refine wp_mono (ih hk _ _ a w (Z b1) ag) (ZK ?_ ?_ ?_)
   .rintro s' a' w' ⟨b',au,ad⟩ ah;have aa:=mM ah ad (z b').1 (ac b');refine⟨⟨b',aa⟩,?_⟩;obtain⟨_,ab⟩:=hμ a' w' b' aa;rcases ER (μ b') (μ' a' w') with h1|h1
    .exact absurd ⟨b',aa,rfl⟩ (ab _ h1)
    .omega
   .intro i s hs;exact hs
   .intro s hs;exact hs
  simp only[Dh,AT] at h;rcases h with h|h|⟨F,h⟩|h
  .exact aj s h O
  .simp only[Qsi] at h;obtain⟨β,I,μ,z,⟨b0,π0,af⟩,Z⟩:=h
   let p:Act->World->Nat->Prop:=λa w n=> ∃b,BF C N (I b) a w/\μ b=n
   let μ':Act->World->Nat:=λa w=>Classical.epsilon λn=>p a w n/\ ∀k,k<n-> ¬p a w k
   have hμ: ∀a w b,BF C N (I b) a w->p a w (μ' a w)/\ ∀k,k<μ' a w-> ¬p a w k:=by
    intro a w b hb;exact nB (p:=λn=>p a w n/\ ∀k,k<n-> ¬p a w k) (NB (μ b) ⟨b,hb,rfl⟩)
   have ai:C.n0<=s.nx:=by
    obtain⟨S,_,h⟩:=O;exact h.n0
   have ac: ∀b,C.n0<=(I b).nx:=by
    intro b;obtain⟨S,_,h⟩:=O;exact DH h.n0 (z b).2
   refine wp_loop (λa w=> ∃b,BF C N (I b) a w) μ' ⟨b0,QT O af (z b0).1 ai (ac b0)⟩ ?_;rintro a w ⟨b,hb⟩;obtain⟨⟨b1,ag,av⟩,_⟩:=hμ a w b hb;refine wp_mono (ih hk _ _ a w (Z b1) ag) (ZK ?_ ?_ ?_)
   .rintro s' a' w' ⟨b',π,au,ad⟩ ah;have aa:=QT ah ad (z b').1 ai (ac b');refine⟨⟨b',aa⟩,?_⟩;obtain⟨_,ab⟩:=hμ a' w' b' aa;rcases ER (μ b') (μ' a' w') with h1|h1
    .exact absurd ⟨b',aa,rfl⟩ (ab _ h1)
    .omega
   .intro i s hs;exact hs
   .intro s hs;exact hs
  .exact aj _ h (Qxl F O)
  .simp only[Qsf] at h;obtain⟨β,I,μ,z,⟨b0,F0,π0,af⟩,Z⟩:=h
   let p:Act->World->Nat->Prop:=λa w n=> ∃b,BF C N (I b) a w/\μ b=n
   let μ':Act->World->Nat:=λa w=>Classical.epsilon λn=>p a w n/\ ∀k,k<n-> ¬p a w k
   have hμ: ∀a w b,BF C N (I b) a w->p a w (μ' a w)/\ ∀k,k<μ' a w-> ¬p a w k:=by
    intro a w b hb;exact nB (p:=λn=>p a w n/\ ∀k,k<n-> ¬p a w k) (NB (μ b) ⟨b,hb,rfl⟩)
   have ai:C.n0<=s.nx:=by
    obtain⟨S,_,h⟩:=O;exact h.n0
   have ac: ∀b,C.n0<=(I b).nx:=by
    intro b;obtain⟨S,_,h⟩:=O;exact DH h.n0 (z b).2
   refine wp_loop (λa w=> ∃b,BF C N (I b) a w) μ' ⟨b0,QT (uZ F0 O) af (z b0).1 ai (ac b0)⟩ ?_;rintro a w ⟨b,hb⟩;obtain⟨⟨b1,ag,av⟩,_⟩:=hμ a w b hb;refine wp_mono (ih hk _ _ a w (Z b1) ag) (ZK ?_ ?_ ?_)
   .rintro s' a' w' ⟨b',F,π,au,ad⟩ ah;have aa:=QT (uZ F ah) ad (z b').1 ai (ac b');refine⟨⟨b',aa⟩,?_⟩;obtain⟨_,ab⟩:=hμ a' w' b' aa;rcases ER (μ b') (μ' a' w') with h1|h1
    .exact absurd ⟨b',aa,rfl⟩ (ab _ h1)
    .omega
   .intro i s hs;exact hs
   .intro s hs;exact hs
 |exit id=>intro _ Q s a w h O;exact wp_exit ⟨s,h,O⟩
 |ret=>intro _ Q s a w h O;exact wp_ret ⟨s,h,O⟩
 |_=>intro hk;simp[Eh] at hk
end
def mD(P:Program)(g:FuncId):Prop:=g<1000000000/\ ∃fn,P.funcs[g]? =some fn/\(fn.name== "runtime.NumGoroutine")=false/\fn.body.isNone=false
def Q7(P:Program)(g:FuncId)(args:List AV)(h:Nat->Option Ao)(nx:Nat)(r:AV)(E:Bk):Prop:=
 ∀(C:AU) (S:Au) (vs:Array Value) (R:Ending->World->Prop),
  Wf C S->(∀n∈E.use++E.kill,S.h n=h n)->(∀n,Fr nx E.cnt n->S.h n=none)->
  (∀n e,S.h n=some e-> ∀m∈e.2.nms,¬Fr nx E.cnt m)->
  AJ S args vs.toList->
  (∀v S',Wf C S'->S'.h=E.appf S.h->Bv (λm=> ¬Fr nx E.cnt m) S S'->Aa S' r v->R (.returned v) S'.w)->
  Calls P g vs S.w R
def JE(P:Program)(V:Dt):Prop:= ∀g args h nx K,V g args h nx K->mD P g/\ ∃r E,Q7 P g args h nx r E/\K r E
def Qhx{P:Program}{g:FuncId}(h:mD P g)(args:Array Value)(w:World):(callFunc g args).run P w= .ok (.enter g args) w:=by
 obtain⟨_,fn,Q,Z,h3⟩:=h;have z:fn.name≠ "runtime.NumGoroutine" :=by simpa using Z
 have O:fn.body≠none:=by intro h;simp[h] at h3
 simp[callFunc,Q,z,O]
def Qpe{S:Au}{tm:List (Nat×AV)}{a:Act}: ∀(xs:List Operand),(∀x∈xs,Aa S (Ax tm x) (a.eval x))->AJ S (DP tm xs) (xs.map a.eval)
 |[],_=>by simp[DP,AJ]
 |x::xs,h=>by
  simp only[DP,Bf,AJ];exact⟨_,_,rfl,h x (by simp),Qpe xs (λy z=>h y (by simp[z]))⟩
def X0{P:Program}{V:Dt}(hV:JE P V)(tm:List (Nat×AV))(h:Nat->Option Ao)(nx:Nat)(o:Oper)(c:Call)(f:Operand)(K:Ah)(ho:o.op= .call c)(z:c.callee= .value f)
 (hk:QD V (DP tm c.args.toList) h nx K (Ax tm f)):Cj P tm h nx o K:=by
 have ag:f∈o.op.operands:=by rw[ho];simp[Op.operands,Call.operands,z]
 have af: ∀x∈c.args.toList,x∈o.op.operands:=by
  intro x hx;rw[ho];simp only[Op.operands,Call.operands,z];simp;exact .inr (by simpa using hx)
 have aa: ∀(g:FuncId) (fi ca:List AV),V g (fi++DP tm c.args.toList++ca) h nx K->(∀(S:Au) (v:Value),Aa S (Ax tm f) v-> ∃a b:Array Value,v= .func (VK g) a b/\AJ S fi a.toList/\AJ S ca b.toList)->Cj P tm h nx o K:=by
  intro g fi ca hv hf;obtain⟨O,r,E,hT,hK⟩:=hV _ _ _ _ _ hv;refine⟨r,E,?_,hK⟩;intro C S a next Q hW hu ai ad Z hn
  obtain⟨x,y,ac,hx,hy⟩:=hf S _ (Z f ag);rw[WU O.1] at ac;have ab:=Qpe c.args.toList (λx hx=>Z x (af x hx));unfold Oper.wp;have ah:(execOp a.eval o).run P S.w= .ok (.enter g (x++c.args.map a.eval++y)) S.w:=by
   simp only[execOp,ho,resolve,z,ac,Sem.run_bind];simp[Deferred.ofValue,invoke,Qhx O]
  rw[ah,Oper.upon_enter];refine hT C S _ _ hW hu ai ad ?_ ?_
  .simp only[wS,Xh];exact Qop _ _ _ _ (Qop _ _ _ _ hx ab) hy
  .intro v S' h1 h2 h3 h4;exact hn v S' h1 h2 h3 h4
 cases hf:Ax tm f<;>rw[hf] at hk<;>try exact hk.elim
 case im d=>
  cases d<;>try exact hk.elim
  rename_i g first capt
  refine aa g (first.map .im) (capt.map .im) hk ?_;intro S v hv;rw[hf] at hv;simp only[Aa,rd] at hv;obtain⟨a,b,h1,h2,h3⟩:=hv;exact⟨a,b,h1,(IB _ _).2 h2,(IB _ _).2 h3⟩
 case clo g first capt=>
  refine aa g first capt hk ?_
  intro S v hv;rw[hf] at hv;simpa only[Aa] using hv
def fU{P:Program}{V:Dt}(hV:JE P V):Hq P V:=λtm h nx o c f K Q z _ O=>X0 hV tm h nx o c f K Q z O
mutual
def AV.ren(σ:Nat->Nat):AV->AV
 | .any=> .any
 | .im d=> .im d
 | .agg cs=> .agg (AH σ cs)
 | .tup cs=> .tup (AH σ cs)
 | .ptr o p=> .ptr (σ o) p
 | .eptr o i p=> .eptr (σ o) i p
 | .own o=> .own (σ o)
 | .mp o=> .mp (σ o)
 | .ch o=> .ch (σ o)
 | .it o=> .it (σ o)
 | .osl o a n=> .osl (σ o) a n
 | .clo f a c=> .clo f (AH σ a) (AH σ c)
def AH(σ:Nat->Nat):List AV->List AV
 |[]=>[]
 |x::r=>x.ren σ::AH σ r
end
def Qze(σ:Nat->Nat): ∀(l:List AV),AH σ l=l.map (AV.ren σ)
 |[]=>rfl
 |x::r=>by simp only[AH,Bf,Qze σ r]
def Ab.ren(σ:Nat->Nat):Ab->Ab
 | .cells T cs=> .cells T (AH σ cs)
 | .arr T k rows=> .arr T k rows
 | .arrA T k rows=> .arrA T k (rows.map (AH σ))
 | .map O z=> .map O z
 | .chan q cap=> .chan q cap
 | .iter a l=> .iter a l
 | .view cs=> .view cs
def Qr6(σ:Nat->Nat)(e:Ab):(e.ren σ).esz=e.esz:=by cases e<;>rfl
def Qs6(σ:Nat->Nat)(e:Ab):(e.ren σ).len=e.len:=by cases e<;>simp[Ab.ren,Ab.len]
section
variable {S S':Au}{σ τ:Nat->Nat}
structure NZ(S S':Au)(σ τ:Nat->Nat)(n:Nat):Prop where
 a: ∀e',S'.h (τ n)=some e'-> ∃e,S.h (σ n)=some e/\S'.ρ (τ n)=S.ρ (σ n)/\e'.2.esz=e.2.esz/\e'.2.len=e.2.len
mutual
def Qz8(aa: ∀b,S.ok b->S'.ok b/\S'.hp b=S.hp b): ∀(z:AV) (v:Value),(∀n∈z.nms,NZ S S' σ τ n)->Aa S (z.ren σ) v->Aa S' (z.ren τ) v
 | .any,_,_,_=>by simp only[AV.ren,Aa]
 | .im d,v,_,h=>by
   simp only[AV.ren,Aa] at h⊢;exact GJ aa d v h
 | .agg cs,v,Q,h=>by
   simp only[AV.ren,Aa,AV.nms] at h Q⊢;obtain⟨vs,rfl,h1⟩:=h;exact⟨vs,rfl,eQ aa cs _ Q h1⟩
 | .tup cs,v,Q,h=>by
   simp only[AV.ren,Aa,AV.nms] at h Q⊢;obtain⟨vs,rfl,h1⟩:=h;exact⟨vs,rfl,eQ aa cs _ Q h1⟩
 | .ptr o off,v,Q,h=>by
   simp only[AV.ren,Aa,AV.nms,Bz,L0] at h Q⊢;obtain⟨O,h⟩:=h;refine⟨O,?_⟩;intro e' Z;obtain⟨e,he,hr,_,_⟩:=Q.a e' Z;rw[hr];exact h e he
 | .eptr o i off,v,Q,h=>by
   simp only[AV.ren,Aa,AV.nms,Bz,L0] at h Q⊢;obtain⟨O,h⟩:=h;refine⟨O,?_⟩;intro e' Z;obtain⟨e,he,hr,hz,_⟩:=Q.a e' Z;rw[hr,hz];exact h e he
 | .own o,v,Q,h=>by
   simp only[AV.ren,Aa,AV.nms,Bz,L0] at h Q⊢;obtain⟨O,h⟩:=h;refine⟨O,?_⟩;intro e' Z;obtain⟨e,he,hr,_,hl⟩:=Q.a e' Z;rw[hr,hl];exact h e he
 | .mp o,v,Q,h=>by
   simp only[AV.ren,Aa,AV.nms,Bz,L0] at h Q⊢;obtain⟨O,h⟩:=h;refine⟨O,?_⟩;intro e' Z;obtain⟨e,he,hr,_,_⟩:=Q.a e' Z;rw[hr];exact h e he
 | .ch o,v,Q,h=>by
   simp only[AV.ren,Aa,AV.nms,Bz,L0] at h Q⊢;obtain⟨O,h⟩:=h;refine⟨O,?_⟩;intro e' Z;obtain⟨e,he,hr,_,_⟩:=Q.a e' Z;rw[hr];exact h e he
 | .it o,v,Q,h=>by
   simp only[AV.ren,Aa,AV.nms,Bz,L0] at h Q⊢;obtain⟨O,h⟩:=h;refine⟨O,?_⟩;intro e' Z;obtain⟨e,he,hr,_,_⟩:=Q.a e' Z;rw[hr];exact h e he
 | .osl o a n,v,Q,h=>by
   simp only[AV.ren,Aa,AV.nms,Bz,L0] at h Q⊢;obtain⟨O,h⟩:=h;refine⟨O,?_⟩;intro e' Z;obtain⟨e,he,hr,hz,hl⟩:=Q.a e' Z;rw[hr,hz,hl];exact h e he
 | .clo f fi ca,v,Q,h=>by
   simp only[AV.ren,Aa,AV.nms,Bn] at h Q⊢;obtain⟨a,c,rfl,h1,h2⟩:=h;exact⟨a,c,rfl,eQ aa fi _ (λo ho=>Q o (.inl ho)) h1,eQ aa ca _ (λo ho=>Q o (.inr ho)) h2⟩
def eQ(z: ∀b,S.ok b->S'.ok b/\S'.hp b=S.hp b): ∀(Z:List AV) (vs:List Value),(∀n∈AA Z,NZ S S' σ τ n)->AJ S (AH σ Z) vs->AJ S' (AH τ Z) vs
 |[],_,_,h=>by simpa only[AH,AJ] using h
 |x::xs,vs,Q,h=>by
  simp only[AH,AJ,AA,Bn] at h Q⊢;obtain⟨v,r,rfl,h1,h2⟩:=h;exact⟨v,r,rfl,Qz8 z x v (λo O=>Q o (.inl O)) h1,eQ z xs r (λo O=>Q o (.inr O)) h2⟩
end
def Qt9(z: ∀b,S.ok b->S'.ok b/\S'.hp b=S.hp b): ∀(Z:List AV) (vs:List Value),(∀n∈AA Z,NZ S S' σ τ n)->Cu S (AH σ Z) vs->Cu S' (AH τ Z) vs
 |[],_,_,h=>by simp only[AH,Cu]
 |x::xs,vs,Q,h=>by
  simp only[AH,Cu,AA,Bn] at h Q⊢;obtain⟨v,r,rfl,h1,h2⟩:=h;exact⟨v,r,rfl,Qz8 z x v (λo O=>Q o (.inl O)) h1,Qt9 z xs r (λo O=>Q o (.inr O)) h2⟩
def Qsc(σ:Nat->Nat)(l:List AV):(AH σ l).length=l.length:=by rw[Qze];simp
def Qva(z: ∀b,S.ok b->S'.ok b/\S'.hp b=S.hp b)(k:Nat): ∀(O:List (List AV)) (vs:List Value),(∀n∈B5 O,NZ S S' σ τ n)->BA S k (O.map (AH σ)) vs->BA S' k (O.map (AH τ)) vs
 |[],_,_,h=>by simp only[F9,BA]
 |r::O,vs,Z,h=>by
  simp only[Bf,BA,B5,Bn,Qsc] at h Z⊢;exact⟨h.1,Qt9 z r vs (λo Q=>Z o (.inl Q)) h.2.1,Qva z k O _ (λo Q=>Z o (.inr Q)) h.2.2⟩
def Qzw(O: ∀b,S.ok b->S'.ok b/\S'.hp b=S.hp b){l:Option Ff}(hl: ∀z,l=some z->S'.hp z.b=S.hp z.b): ∀(e:Ab),(∀n∈e.nms,NZ S S' σ τ n)->An S l (e.ren σ)->An S' l (e.ren τ)
 | .cells T cs,hx,h=>by
   simp only[Ab.ren,An,Ab.nms] at h hx⊢;obtain⟨z,vs,Q,h2,h3,h4⟩:=h;exact⟨z,vs,Q,h2,(hl z Q).trans h3,eQ O cs _ hx h4⟩
 | .arr T k rows,hx,h=>by
   simp only[Ab.ren,An] at h⊢;refine⟨h.1,?_⟩;cases l with
   |none=>exact h.2
   |some z=>
    obtain⟨h0,Q,vs,h2,h3,h4⟩:=h;exact⟨Q,vs,(hl z rfl).trans h2,h3,ZI O k rows _ h4⟩
 | .arrA T k rows,hx,h=>by
   simp only[Ab.ren,An,Ab.nms,Fc] at h hx⊢;refine⟨h.1,?_⟩;cases l with
   |none=>
    have:=h.2
    simp only[Zes] at this⊢;exact this
   |some z=>
    obtain⟨h0,Q,vs,h2,h3,h4⟩:=h;exact⟨Q,vs,(hl z rfl).trans h2,h3,Qva O k rows _ hx h4⟩
 | .map kt es,_,h=>by
   simp only[Ab.ren,An] at h⊢;obtain⟨z,aa,Z,Q,h0,h2,h3,h4⟩:=h;exact⟨z,aa,Z,Q,h0,(hl z Q).trans h2,Li O es _ h3,h4⟩
 | .chan q cap,_,h=>by
   simp only[Ab.ren,An] at h⊢;obtain⟨z,ag,af,ac,Q,h2,h3⟩:=h;exact⟨z,ag,af,ac,Q,(hl z Q).trans h2,Lk O q _ h3⟩
 | .iter ab left,_,h=>by
   simp only[Ab.ren,An] at h⊢;obtain⟨z,mb,aa,Z,ad,Q,h2,h0,h3,h4,h5,h6,h7⟩:=h;exact⟨z,mb,aa,Z,ad,Q,(O mb h2).1,Qly O ab h0,(O mb h2).2.trans h3,(hl z Q).trans h4,h5,h6,Li O left _ h7⟩
 | .view cs,_,h=>by
   simp only[Ab.ren,An] at h⊢;obtain⟨z,vs,T,fr,Q,h2,h3⟩:=h;exact⟨z,vs,T,fr,Q,(hl z Q).trans h2,V3 O cs _ h3⟩
mutual
def jZ: ∀(z:AV),z.ren (λn=>n)=z
 | .any=>rfl
 | .im _=>rfl
 | .agg cs=>by simp only[AV.ren,ZN cs]
 | .tup cs=>by simp only[AV.ren,ZN cs]
 | .ptr _ _=>rfl
 | .eptr _ _ _=>rfl
 | .own _=>rfl
 | .mp _=>rfl
 | .ch _=>rfl
 | .it _=>rfl
 | .osl _ _ _=>rfl
 | .clo f a c=>by simp only[AV.ren,ZN a,ZN c]
def ZN: ∀(z:List AV),AH (λn=>n) z=z
 |[]=>rfl
 |x::r=>by simp only[AH,jZ x,ZN r]
end
def Qwc(e:Ab):e.ren (λn=>n)=e:=by
 cases e<;>simp only[Ab.ren,ZN];rename_i T k rows
 have:(AH λn=>n)=(id:List AV->List AV):=funext ZN
 rw[this];simp
end
def Ar{α β:Type}(f:α->Option β):List α->Option (List β)
 |[]=>some []
 |x::r=>match f x,Ar f r with
  |some y,some z=>some (y::z)
  |_,_=>none
def Qh(f:AV->Option D):Option Ao->Option D
 |some (_,.arr _ k rows)=>some (.sl false k rows)
 |some (_,.arrA _ k rows)=>(Ar (Ar f) rows).map (.sl false k)
 |_=>none
def WY:Option Ao->Option D
 |some (_,.map O z)=>some (.mp O z)
 |_=>none
def WS(f:AV->Option D):Option Ao->Option D
 |some (_,.cells _ cs)=>(Ar f cs).map .ref
 |_=>none
def oC(z:List AV):Option (List D)->AV
 |some ds=> .im (.tup ds)
 |none=> .tup z
def iY(g:FuncId)(a c:List AV):Option (List D)->Option (List D)->AV
 |some ds,some z=> .im (.fn g ds z)
 |some _,none=> .clo g a c
 |none,_=> .clo g a c
def Jl(g:FuncId):Option (List AV)->Option (List AV)->Option AV
 |some a,some c=>some (iY g a c (DC a) (DC c))
 |_,_=>none
def kp(x:Nat->AV)(d:Option D):Option Nat->Option AV
 |some j=>some (x j)
 |none=>d.map .im
def Er:Option AV->Option D
 |some x=>x.asD
 |none=>none
def Ba(h:Nat->Option Ao)(kx:Nat->Option Nat):Nat->AV->Option AV
 |0,_=>none
 |_+1,.im d=>some (.im d)
 |_+1,.any=>some .any
 |n+1,.agg cs=>(Ar (Ba h kx n) cs).map λz=>Yo z (DC z)
 |n+1,.tup cs=>(Ar (Ba h kx n) cs).map λz=>oC z (DC z)
 |n+1,.own o=>kp .own (Qh (λx=>Er (Ba h kx n x)) (h o)) (kx o)
 |_+1,.mp o=>kp .mp (WY (h o)) (kx o)
 |n+1,.ptr o 0=>kp (λj=> .ptr j 0) (WS (λx=>Er (Ba h kx n x)) (h o)) (kx o)
 |_+1,.ptr o (p+1)=>kp (λj=> .ptr j (p+1)) none (kx o)
 |_+1,.eptr o i p=>kp (λj=> .eptr j i p) none (kx o)
 |_+1,.ch o=>kp .ch none (kx o)
 |_+1,.it o=>kp .it none (kx o)
 |_+1,.osl o a n=>kp (λj=> .osl j a n) none (kx o)
 |n+1,.clo g a c=>Jl g (Ar (Ba h kx n) a) (Ar (Ba h kx n) c)
section
variable {S:Au}{f:AV->Option D}
def mP(hf: ∀x d v,f x=some d->Aa S x v->rd S.ok S.hp d v): ∀(cs:List AV) (ds:List D) (vs:List Value),Ar f cs=some ds->AJ S cs vs->rdl S.ok S.hp ds vs
 |[],ds,vs,h,z=>by
  simp only[Ar,AI] at h;subst h;simp only[AJ] at z;simp only[rdl];exact z
 |x::cs,ds,vs,h,z=>by
  simp only[Ar] at h;simp only[AJ] at z;obtain⟨v,r,rfl,Q,Z⟩:=z;split at h
  .rename_i y ys hy O;obtain rfl:=Ay h;simp only[rdl];exact⟨v,r,rfl,hf x y v hy Q,mP hf cs ys r O Z⟩
  .cases h
def Tb(hf: ∀x d v,f x=some d->Aa S x v->rd S.ok S.hp d v): ∀(cs:List AV) (ds:List D) (vs:List Value),Ar f cs=some ds->Cu S cs vs->rdp S.ok S.hp ds vs
 |[],ds,vs,h,z=>by
  simp only[Ar,AI] at h;subst h;simp only[rdp]
 |x::cs,ds,vs,h,z=>by
  simp only[Ar] at h;simp only[Cu] at z;obtain⟨v,r,rfl,Q,Z⟩:=z;split at h
  .rename_i y ys hy O;obtain rfl:=Ay h;simp only[rdp];exact⟨v,r,rfl,hf x y v hy Q,Tb hf cs ys r O Z⟩
  .cases h
def eV{α β:Type}{g:α->Option β}: ∀(cs:List α) (ds:List β),Ar g cs=some ds->ds.length=cs.length
 |[],ds,h=>by simp only[Ar,AI] at h;subst h;rfl
 |x::cs,ds,h=>by
  simp only[Ar] at h;split at h
  .rename_i y O Q z;obtain rfl:=Ay h;simp[eV cs O z]
  .cases h
def Tc(hf: ∀x d v,f x=some d->Aa S x v->rd S.ok S.hp d v){k:Nat}: ∀(Z:List (List AV)) (ds:List (List D)) (vs:List Value),Ar (Ar f) Z=some ds->BA S k Z vs->rdr S.ok S.hp k ds vs
 |[],ds,vs,h,z=>by
  simp only[Ar,AI] at h;subst h;simp only[rdr]
 |x::cs,ds,vs,h,z=>by
  simp only[Ar] at h;simp only[BA] at z;split at h
  .rename_i y ys Q O;obtain rfl:=Ay h;simp only[rdr];exact⟨by rw[eV x y Q];exact z.1,Tb hf x y vs Q z.2.1,Tc hf cs ys _ O z.2.2⟩
  .cases h
def Qv8{o:Nat}{e:Ao}{k:Nat}{rows:List (List D)}{v:Value}(he:S.h o=some e)(hl:e.2.len=rows.length)(Q: ∀l,S.ρ o=some l->S.ok l.b)
 (z:match S.ρ o with|none=>rows=[]|some Z=>rows.length<=Hy/\rows.length<=Z.cap/\ ∃vs T,S.hp Z.b=some (.cells vs T (0,0))/\rdr S.ok S.hp k rows (vs.toList.drop Z.p))(O:Aa S (.own o) v):rd S.ok S.hp (.sl false k rows) v:=by
 simp only[Aa] at O;have O:=O.2 e he;simp only[rd];cases hr:S.ρ o with
 |none=>rw[hr] at O z;exact .inl ⟨.inl O,z⟩
 |some l=>
  rw[hr] at O z;obtain⟨h0,h1,vs,T,h2,h3⟩:=z;exact .inr ⟨l.b,l.p,l.cap,vs,T,(0,0),by rw[<-hl];exact O,by simp,h1,h0,Q l hr,h2,h3⟩
end
def LP{C:AU}{S:Au}(hW:Wf C S){f:AV->Option D}(hf: ∀x d v,f x=some d->Aa S x v->rd S.ok S.hp d v){o:Nat}{d:D}{v:Value}(Q: ∀e l,S.h o=some e->e.2.isView=false->S.ρ o=some l->S.ok l.b)
 (h:Qh f (S.h o)=some d)(hc:Aa S (.own o) v):rd S.ok S.hp d v:=by
 cases ho:S.h o with
 |none=>rw[ho] at h;simp[Qh] at h
 |some e=>
  rw[ho] at h;obtain⟨mu,e⟩:=e;have z:=hW.obj o _ ho;cases e<;>simp only[Qh,reduceCtorEq] at h
  .obtain rfl:=Ay h;simp only[An] at z;refine Qv8 ho rfl (λl hl=>Q _ l ho rfl hl) ?_ hc;cases hr:S.ρ o with
   |none=>rw[hr] at z;exact z.2
   |some l=>
    rw[hr] at z;obtain⟨h0,Z,vs,h2,_,h3⟩:=z;exact⟨h0,Z,vs,_,h2,h3⟩
  .simp only[CT] at h;obtain⟨rows,Z,rfl⟩:=h;have O:=eV _ _ Z;simp only[An] at z;refine Qv8 ho (by simp[Ab.len,O]) (λl hl=>Q _ l ho rfl hl) ?_ hc;cases hr:S.ρ o with
   |none=>rw[hr] at z;rw[z.2] at O;exact Xl.1 (by simpa using O)
   |some l=>
    rw[hr] at z;obtain⟨h0,h2,vs,h3,_,h4⟩:=z;exact⟨by omega,by omega,vs,_,h3,Tc hf _ _ _ Z h4⟩
def Ss{C:AU}{S:Au}(hW:Wf C S){o:Nat}{d:D}{v:Value}(Z: ∀e l,S.h o=some e->e.2.isView=false->S.ρ o=some l->S.ok l.b)
 (h:WY (S.h o)=some d)(hc:Aa S (.mp o) v):rd S.ok S.hp d v:=by
 cases ho:S.h o with
 |none=>rw[ho] at h;simp[WY] at h
 |some e=>
  rw[ho] at h;obtain⟨mu,e⟩:=e;have Q:=hW.obj o _ ho;cases e<;>simp only[WY,reduceCtorEq] at h;obtain rfl:=Ay h;simp only[An] at Q;obtain⟨lc,O,z,h1,h2,h3,h4⟩:=Q;simp only[Aa] at hc;obtain⟨l,hl,hv⟩:=hc.2 _ ho;rw[h1] at hl;obtain rfl:=Ay hl;simp only[rd];exact⟨lc.b,O,z,hv,h2,Z _ lc ho rfl h1,h3,h4⟩
def XQ{C:AU}{S:Au}(hW:Wf C S){f:AV->Option D}(hf: ∀x d v,f x=some d->Aa S x v->rd S.ok S.hp d v){o:Nat}{d:D}{v:Value}(O: ∀e l,S.h o=some e->e.2.isView=false->S.ρ o=some l->S.ok l.b)
 (h:WS f (S.h o)=some d)(hc:Aa S (.ptr o 0) v):rd S.ok S.hp d v:=by
 cases ho:S.h o with
 |none=>rw[ho] at h;simp[WS] at h
 |some e=>
  rw[ho] at h;obtain⟨mu,e⟩:=e;have z:=hW.obj o _ ho;cases e<;>simp only[WS,reduceCtorEq] at h;simp only[CT] at h;obtain⟨ds,h1,rfl⟩:=h;simp only[An] at z;obtain⟨Q,vs,Z,h3,h4,h5⟩:=z;simp only[Aa] at hc;obtain⟨l,hl,hv⟩:=hc.2 _ ho;rw[Z] at hl;obtain rfl:=Ay hl;simp only[rd];refine⟨Q.b,Q.p+0,vs,_,_,hv,O _ Q ho rfl Z,h4,?_⟩;rw[h3];simpa using WI _ _ (mP hf _ _ _ h1 h5)
def uB{g:AV->Option AV}: ∀(cs Q:List AV) (ds:List D),Ar g cs=some Q->DC Q=some ds->Ar (λx=>Er (g x)) cs=some ds
 |[],Q,ds,h,O=>by
  simp only[Ar,AI] at h;subst h;simpa[DC,Ar] using O
 |x::cs,Q,ds,h,O=>by
  simp only[Ar] at h;split at h
  .rename_i z zs hz Z;obtain rfl:=Ay h;simp only[DC] at O;cases hy:z.asD with
   |none=>rw[hy] at O;simp[NV] at O
   |some d=>
    cases hys:DC zs with
    |none=>rw[hy,hys] at O;simp[NV] at O
    |some es=>
     rw[hy,hys] at O;simp only[NV,AI] at O;subst O;have h9:=uB cs zs es Z hys;have h8:Er (g x)=some d:=by rw[hz];exact hy
     simp only[Ar,h8,h9]
  .cases h
def Oi{x:Option AV}{d:D}(h:Er x=some d):x=some (.im d):=by
 cases x with
 |none=>cases h
 |some x=>
  simp only[Er] at h;cases x<;>simp only[AV.asD,reduceCtorEq] at h;obtain rfl:=Ay h;rfl
def aG{x:Nat->AV}{d:Option D}{k:Option Nat}{e:D}(Q: ∀j,x j≠ .im e)(h:kp x d k=some (.im e)):k=none/\d=some e:=by
 cases k with
 |some j=>
  simp only[kp,AI] at h;exact absurd h (Q j)
 |none=>
  simp only[kp,CT] at h;obtain⟨d',z,O⟩:=h;cases O;exact⟨rfl,z⟩
def RN{C:AU}{S:Au}(hW:Wf C S){kx:Nat->Option Nat}(Z: ∀o e l,kx o=none->S.h o=some e->e.2.isView=false->S.ρ o=some l->S.ok l.b):
 ∀(n:Nat) (x:AV) (d:D) (v:Value),Ba S.h kx n x=some (.im d)->Aa S x v->rd S.ok S.hp d v:=by
 intro n;induction n with
 |zero=>intro x d v h;simp[Ba] at h
 |succ n ih=>
  have hf: ∀x d v,Er (Ba S.h kx n x)=some d->Aa S x v->rd S.ok S.hp d v:=λx d v h Q=>ih x d v (Oi h) Q
  intro x d v h Q;cases x with
  |im d'=>
   simp only[Ba,AI,AV.im.injEq] at h;subst h;simpa only[Aa] using Q
  |any=>simp[Ba] at h
  |agg cs=>
   simp only[Ba,CT] at h;obtain⟨ys,O,z⟩:=h;simp only[Aa] at Q;obtain⟨vs,rfl,h3⟩:=Q;cases ha:DC ys with
   |none=>rw[ha] at z;simp[Yo] at z
   |some ds=>
    rw[ha] at z;simp only[Yo,AV.im.injEq] at z;subst z;simp only[rd];exact⟨vs,rfl,mP hf cs ds _ (uB cs ys ds O ha) h3⟩
  |tup cs=>
   simp only[Ba,CT] at h;obtain⟨ys,O,z⟩:=h;simp only[Aa] at Q;obtain⟨vs,rfl,h3⟩:=Q;cases ha:DC ys with
   |none=>rw[ha] at z;simp[oC] at z
   |some ds=>
    rw[ha] at z;simp only[oC,AV.im.injEq] at z;subst z;simp only[rd];exact⟨vs,rfl,mP hf cs ds _ (uB cs ys ds O ha) h3⟩
  |own o=>
   simp only[Ba] at h;obtain⟨O,z⟩:=aG (by simp) h;exact LP hW hf (λe l=>Z o e l O) z Q
  |mp o=>
   simp only[Ba] at h;obtain⟨O,z⟩:=aG (by simp) h;exact Ss hW (λe l=>Z o e l O) z Q
  |ptr o p=>
   cases p with
   |zero=>
    simp only[Ba] at h;obtain⟨O,z⟩:=aG (by simp) h;exact XQ hW hf (λe l=>Z o e l O) z Q
   |succ p=>
    simp only[Ba] at h;obtain⟨O,z⟩:=aG (by simp) h;cases z
  |eptr o i p=>
   simp only[Ba] at h;obtain⟨O,z⟩:=aG (by simp) h;cases z
  |ch o=>
   simp only[Ba] at h;obtain⟨O,z⟩:=aG (by simp) h;cases z
  |it o=>
   simp only[Ba] at h;obtain⟨O,z⟩:=aG (by simp) h;cases z
  |osl o a k=>
   simp only[Ba] at h;obtain⟨O,z⟩:=aG (by simp) h;cases z
  |clo g a c=>
   simp only[Ba] at h;cases ha:Ar (Ba S.h kx n) a with
   |none=>rw[ha] at h;simp[Jl] at h
   |some a'=>
    cases hcc:Ar (Ba S.h kx n) c with
    |none=>rw[ha,hcc] at h;simp[Jl] at h
    |some c'=>
     rw[ha,hcc] at h;simp only[Jl,AI] at h;cases O:DC a' with
     |none=>rw[O] at h;simp[iY] at h
     |some ds=>
      cases z:DC c' with
      |none=>rw[O,z] at h;simp[iY] at h
      |some es=>
       rw[O,z] at h;simp only[iY,AV.im.injEq] at h;subst h;simp only[Aa] at Q;obtain⟨va,vc,rfl,h3,h4⟩:=Q;simp only[rd];exact⟨va,vc,rfl,mP hf a ds _ (uB a a' ds ha O) h3,mP hf c es _ (uB c c' es hcc z) h4⟩
def Qrr{C:AU}{S S':Au}(hW:Wf C S){kx:Nat->Option Nat}{τ:Nat->Nat}(ac: ∀b,S.ok b->S'.ok b/\S'.hp b=S.hp b)(ab: ∀o e l,kx o=none->S.h o=some e->e.2.isView=false->S.ρ o=some l->S.ok l.b)
 (Z: ∀o j,kx o=some j-> ∀e',S'.h (τ j)=some e'-> ∃e,S.h o=some e/\S'.ρ (τ j)=S.ρ o/\e'.2.esz=e.2.esz/\e'.2.len=e.2.len):
 ∀(n:Nat) (x y:AV) (v:Value),Ba S.h kx n x=some y->Aa S x v->Aa S' (y.ren τ) v:=by
 intro n;induction n with
 |zero=>intro x y v h;simp[Ba] at h
 |succ n ih=>
  have hm: ∀(cs ys:List AV) (vs:List Value),Ar (Ba S.h kx n) cs=some ys->AJ S cs vs->AJ S' (AH τ ys) vs:=by
   intro cs;induction cs with
   |nil=>
    intro ys vs h O;simp only[Ar,AI] at h;subst h;simpa only[AH,AJ] using O
   |cons x cs af=>
    intro ys vs h O;simp only[Ar] at h;simp only[AJ] at O;obtain⟨v,r,rfl,h1,h2⟩:=O;split at h
    .rename_i z zs hz ad;obtain rfl:=Ay h;simp only[AH,AJ];exact⟨v,r,rfl,ih x z v hz h1,af zs r ad h2⟩
    .cases h
  intro x y v h O;have hB: ∀d,y= .im d->Aa S' (y.ren τ) v:=by
   intro d hd;subst hd;simp only[AV.ren,Aa];exact GJ ac d v (RN hW ab (n+1) x d v h O)
  have hK: ∀(f:Nat->AV) (g:Option D) (o:Nat),kp f g (kx o)=some y->(∀j,kx o=some j->Aa S' ((f j).ren τ) v)->Aa S' (y.ren τ) v:=by
   intro f g o h1 h2;cases hk:kx o with
   |none=>
    rw[hk] at h1;simp only[kp,CT] at h1;obtain⟨d,_,rfl⟩:=h1;exact hB d rfl
   |some j=>
    rw[hk] at h1;simp only[kp,AI] at h1;rw[<-h1];exact h2 j hk
  cases x with
  |im d=>
   simp only[Ba,AI] at h;exact hB d h.symm
  |any=>
   simp only[Ba,AI] at h;subst h;simp only[AV.ren,Aa]
  |agg cs=>
   have h0:=h;simp only[Ba,CT] at h0;obtain⟨ys,h1,h2⟩:=h0;cases ha:DC ys with
   |some ds=>rw[ha] at h2;exact hB _ h2.symm
   |none=>
    rw[ha] at h2;simp only[Aa] at O;obtain⟨vs,rfl,h3⟩:=O;rw[<-h2];simp only[Yo,AV.ren,Aa];exact⟨vs,rfl,hm cs ys _ h1 h3⟩
  |tup cs=>
   have h0:=h;simp only[Ba,CT] at h0;obtain⟨ys,h1,h2⟩:=h0;cases ha:DC ys with
   |some ds=>rw[ha] at h2;exact hB _ h2.symm
   |none=>
    rw[ha] at h2;simp only[Aa] at O;obtain⟨vs,rfl,h3⟩:=O;rw[<-h2];simp only[oC,AV.ren,Aa];exact⟨vs,rfl,hm cs ys _ h1 h3⟩
  |own o=>
   have h0:=h;simp only[Ba] at h0;refine hK _ _ o h0 ?_;intro j hj;simp only[Aa,AV.ren] at O⊢;refine⟨O.1,?_⟩;intro e' Q;obtain⟨e,he,hr,_,hl⟩:=Z o j hj e' Q;rw[hr,hl];exact O.2 e he
  |mp o=>
   have h0:=h;simp only[Ba] at h0;refine hK _ _ o h0 ?_;intro j hj;simp only[Aa,AV.ren] at O⊢;refine⟨O.1,?_⟩;intro e' Q;obtain⟨e,he,hr,_,hl⟩:=Z o j hj e' Q;rw[hr];exact O.2 e he
  |ptr o p=>
   have hp: ∀j,kx o=some j->Aa S' ((AV.ptr j p).ren τ) v:=by
    intro j hj;simp only[Aa,AV.ren] at O⊢;refine⟨O.1,?_⟩;intro e' Q;obtain⟨e,he,hr,_,hl⟩:=Z o j hj e' Q;rw[hr];exact O.2 e he
   cases p with
   |zero=>
    have h0:=h;simp only[Ba] at h0;exact hK _ _ o h0 hp
   |succ p=>
    have h0:=h;simp only[Ba] at h0;exact hK _ _ o h0 hp
  |eptr o i p=>
   have h0:=h;simp only[Ba] at h0;refine hK _ _ o h0 ?_;intro j hj;simp only[Aa,AV.ren] at O⊢;refine⟨O.1,?_⟩;intro e' Q;obtain⟨e,he,hr,hz,hl⟩:=Z o j hj e' Q;rw[hr,hz];exact O.2 e he
  |ch o=>
   have h0:=h;simp only[Ba] at h0;refine hK _ _ o h0 ?_;intro j hj;simp only[Aa,AV.ren] at O⊢;refine⟨O.1,?_⟩;intro e' Q;obtain⟨e,he,hr,_,hl⟩:=Z o j hj e' Q;rw[hr];exact O.2 e he
  |it o=>
   have h0:=h;simp only[Ba] at h0;refine hK _ _ o h0 ?_;intro j hj;simp only[Aa,AV.ren] at O⊢;refine⟨O.1,?_⟩;intro e' Q;obtain⟨e,he,hr,_,hl⟩:=Z o j hj e' Q;rw[hr];exact O.2 e he
  |osl o a k=>
   have h0:=h;simp only[Ba] at h0;refine hK _ _ o h0 ?_;intro j hj;simp only[Aa,AV.ren] at O⊢;refine⟨O.1,?_⟩;intro e' Q;obtain⟨e,he,hr,hz,hl⟩:=Z o j hj e' Q;rw[hr,hz,hl];exact O.2 e he
  |clo g a c=>
   have h0:=h;simp only[Ba] at h0;cases ha:Ar (Ba S.h kx n) a with
   |none=>rw[ha] at h0;simp[Jl] at h0
   |some a'=>
    cases hcc:Ar (Ba S.h kx n) c with
    |none=>rw[ha,hcc] at h0;simp[Jl] at h0
    |some c'=>
     rw[ha,hcc] at h0;simp only[Jl,AI] at h0;have aa:y= .clo g a' c'->Aa S' (y.ren τ) v:=by
      intro hy;subst hy;simp only[Aa] at O;obtain⟨va,vc,rfl,h3,h4⟩:=O;simp only[AV.ren,Aa];exact⟨va,vc,rfl,hm a a' _ ha h3,hm c c' _ hcc h4⟩
     cases h1:DC a' with
     |none=>rw[h1] at h0;exact aa (by rw[<-h0];rfl)
     |some ds=>
      cases h2:DC c' with
      |none=>rw[h1,h2] at h0;exact aa (by rw[<-h0];rfl)
      |some es=>rw[h1,h2] at h0;exact hB _ h0.symm
def LC(ti:TI):Option Ao->Option AV
 |some (_,.cells _ cs)=>bif (ti.agg||ti.size==1) && cs.length==ti.size then some (iZ ti.agg cs) else none
 |_=>none
def IY(h:Ap)(x:AV):Option TI->Option AV
 |none=>none
 |some ti=>match x with
  | .ptr o 0=>LC ti (hget h o)
  |_=>none
def Kp(P:Program)(s:Av):ResultVar->Option AV
 | .tmp t=>some (A8 s.tm t)
 | .cell a T=>IY s.h (A8 s.tm a) (tI P T)
def Dp:List AV->AV
 |[x]=>x
 |xs=> .tup xs
def RB{P:Program}{C:AU}{N:Nat}{s:Av}{S:Au}{a:Act}(hc:CN C N s S a){x:ResultVar}{r:AV}(z:Kp P s x=some r):
 ∃v,(match x with| .tmp t=>pure (a.tmps.getD t undef)| .cell c t=>do loadVar t (<-asAddr (a.tmps.getD c undef)):Sem Value).run P S.w= .ok v S.w/\Aa S r v:=by
 cases x with
 |tmp t=>
  simp only[Kp,AI] at z;subst z;exact⟨a.eval (.tmp t),by simp[Act.eval],hc.tm t⟩
 |cell c T=>
  simp only[Kp] at z;cases hT:tI P T with
  |none=>rw[hT] at z;simp[IY] at z
  |some ti=>
   rw[hT] at z;simp only[IY] at z;split at z
   .rename_i o ho;cases he:hget s.h o with
    |none=>rw[he] at z;simp[LC] at z
    |some e=>
     rw[he] at z;obtain⟨mu,e⟩:=e;cases e<;>simp only[LC,reduceCtorEq] at z;rename_i U cs;cases hb:(ti.agg||ti.size==1) && cs.length==ti.size<;>rw[hb] at z
     .simp at z
     .simp only[BX,AI] at z;subst z;simp only[AN,Iq,Qs] at hb;have hS:S.h o=_:=(hc.h o).trans he;have aa:=hc.wf.obj o _ hS;simp only[An] at aa;obtain⟨lc,vs,hl,ac,ab,hcs⟩:=aa;have h1:=hc.tm c;rw[ho] at h1;simp only[Aa] at h1;obtain⟨l,Q,hv⟩:=h1.2 _ hS;rw[hl] at Q;obtain rfl:=Ay Q;have O:=IJ _ _ hcs;have Z:=eP hT (w:=S.w) (b:=lc.b) (p:=0) ab (by simp at O⊢;omega) hb.1;have ad:a.tmps.getD c undef= .pointer (some ⟨lc.b,0,none⟩):=by simpa[Act.eval,ac] using hv
      rw[F8,DE (by rw[O,hb.2];exact AL _)] at Z;refine⟨if ti.agg then .agg vs.toList.toArray else vs.toList.headD undef,?_,tT hcs hb.2 hb.1⟩;simp only[ad,asAddr,Sem.run_bind,Sem.run_pure,Result.andThen_ok];exact Z
   .cases z
def sR{P:Program}{C:AU}{N:Nat}{s:Av}{S:Au}{a:Act}(hc:CN C N s S a){fn:Func}{xs:List AV}(hx:Ar (Kp P s) fn.results.toList=some xs):
 ∃v,(results fn a.tmps).run P S.w= .ok v S.w/\Aa S (Dp xs) v:=by
 have ab: ∀(O:List ResultVar) (xs:List AV),Ar (Kp P s) O=some xs-> ∃vs:List Value,(O.mapM λx=>(match x with
  | .tmp t=>pure (a.tmps.getD t undef)| .cell c t=>do loadVar t (<-asAddr (a.tmps.getD c undef)):Sem Value)).run P S.w= .ok vs S.w/\AJ S xs vs:=by
  intro O;induction O with
  |nil=>
   intro xs h;simp only[Ar,AI] at h;subst h;exact⟨[],by simp,by simp only[AJ]⟩
  |cons x O ih=>
   intro xs h;simp only[Ar] at h;split at h
   .rename_i y ys hy aa;obtain rfl:=Ay h;obtain⟨v,Q,z⟩:=RB hc hy;obtain⟨vs,Z,h4⟩:=ih ys aa;refine⟨v::vs,?_,by simp only[AJ];exact⟨v,vs,rfl,z,h4⟩⟩;simp only[List.mapM_cons,Sem.run_bind,Q,Z,Result.andThen_ok,Sem.run_pure]
   .cases h
 obtain⟨vs,Q,z⟩:=ab _ _ hx;have hl:=IJ _ _ z;have hm:(results fn a.tmps).run P S.w= .ok (if h:vs.toArray.size=1 then vs.toArray[0] else .tuple vs.toArray) S.w:=by
  unfold results;rw[ZeJ]
  have: ∀(m:Sem (List Value)),m.run P S.w= .ok vs S.w->((Functor.map List.toArray m)>>=λvs=>(pure (if h:vs.size=1 then vs[0] else .tuple vs):Sem Value)).run P S.w= .ok (if h:vs.toArray.size=1 then vs.toArray[0] else .tuple vs.toArray) S.w:=by
   intro m hm;rw[Sem.run_bind]
   have:(Functor.map List.toArray m).run P S.w= .ok vs.toArray S.w:=by
    rw[map_eq_pure_bind,Sem.run_bind,hm];rfl
   rw[this];rfl
  exact this _ Q
 refine⟨_,hm,?_⟩;cases xs with
 |nil=>
  simp only[AJ] at z;subst z;simp only[Dp,Aa];exact⟨#[],by simp,by simp[AJ]⟩
 |cons x xs=>
  cases xs with
  |nil=>
   simp only[AJ] at z;obtain⟨v,r,rfl,Z,rfl⟩:=z;simpa[Dp] using Z
  |cons y xs=>
   have: ¬vs.toArray.size=1:=by simp only[Ky];simp at hl;omega
   rw[dif_neg this];simp only[Dp,Aa];exact⟨_,rfl,z⟩
def entry:Nat->List AV->List (Nat×AV)
 |_,[]=>[]
 |i,x::r=>(i,x)::entry (i+1) r
def lM{S:Au}: ∀(args:List AV) (vs:List Value) (i t:Nat),AJ S args vs->Aa S (A8 (entry i args) t) (if i<=t then (vs[t - i]?).getD undef else undef)
 |[],vs,i,t,_=>by simp[entry,A8,Aa]
 |x::args,vs,i,t,h=>by
  simp only[AJ] at h;obtain⟨v,r,rfl,O,Q⟩:=h;simp only[entry,A8];cases hq:i==t
  .have Z:i≠t:=by simpa using hq
   have:=lM args r (i+1) t Q
   simp only[Bm];by_cases z:i+1<=t
   .rw[Ai z] at this;rw[Ai (by omega)];have e:t - i=(t - (i+1))+1:=by omega
    rw[e];simpa using this
   .rw[Af z] at this;rw[Af (by omega)];exact this
  .have:i=t:=by simpa using hq
   subst this;simpa using O
def lU: ∀(args:List AV) (i t:Nat),∀m∈(A8 (entry i args) t).nms,m∈AA args
 |[],i,t,m,h=>by simp[entry,A8,AV.nms] at h
 |x::args,i,t,m,h=>by
  simp only[entry,A8] at h;simp only[AA,Bn];cases hq:i==t<;>rw[hq] at h
  .exact .inr (lU args (i+1) t m (by simpa using h))
  .exact .inl (by simpa using h)
def Ya:List Nat->Nat->Nat->Option Nat
 |[],_,_=>none
 |x::r,o,k=>bif x==o then some k else Ya r o (k+1)
def HP(k:Nat)(ex:List Nat)(o:Nat):Option Nat:=bif Nat.blt o k then some o else Ya ex o k
def Cm(f:AV->Option AV):Ab->Option Ab
 | .cells T cs=>(Ar f cs).map (.cells T)
 | .arr T k rows=>some (.arr T k rows)
 | .arrA T k rows=>(Ar (Ar f) rows).map (.arrA T k)
 | .map O z=>some (.map O z)
 | .chan q cap=>some (.chan q cap)
 | .iter a l=>some (.iter a l)
 | .view cs=>some (.view cs)
def IZ(j:Nat)(z:Bool):Option Ab->Option Ap->Option Ap
 |some e,some r=>some ((j,(z,e))::r)
 |some _,none=>none
 |none,_=>none
def klE(f:AV->Option AV)(j:Nat)(r:Option Ap):Option Ao->Option Ap
 |none=>r
 |some (z,e)=>IZ j z (Cm f e) r
def Jp(h:Nat->Option Ao)(f:AV->Option AV):List Nat->Option Ap
 |[]=>some []
 |j::r=>klE f j (Jp h f r) (h j)
def exE(f:AV->Option AV)(j:Nat)(r:Option Ap):Option Ao->Option Ap
 |none=>none
 |some (false,_)=>none
 |some (true,e)=>IZ j true (Cm f e) r
def Jo(h:Nat->Option Ao)(f:AV->Option AV):List Nat->Nat->Option Ap
 |[],_=>some []
 |x::r,j=>exE f j (Jo h f r (j+1)) (h x)
def Rs:Option Ap->Option Ap->Option Ap
 |some a,some b=>some (a++b)
 |some _,none=>none
 |none,_=>none
def YC(h:Nat->Option Ao)(z:List Nat):Ap->Prop
 |[]=>True
 |(j,e)::r=>(bif z.contains j then True else h j=some e)/\YC h z r
def XJ(k:Nat):List Nat->Bool
 |[]=>true
 |x::r=>Nat.ble k x && (!r.contains x && XJ k r)
abbrev Kw:=AV->Ap->Nat->Prop
def Jv(R:Kw)(cnt:Nat):Option AV->Option Ap->Prop
 |some r,some H=>R r H cnt
 |some _,none=>False
 |none,_=>False
def bS(k:Nat)(z:List Nat)(H0:Ap)(R:Kw)(s:Av)(ex:List Nat)(x:AV):Prop:=
 XJ k ex=true/\YC (hget s.h) z H0/\Jv R ex.length (Ba (hget s.h) (HP k ex) 9 x) (Rs (Jp (hget s.h) (Ba (hget s.h) (HP k ex) 9) z) (Jo (hget s.h) (Ba (hget s.h) (HP k ex) 9) ex k))
def ML(k:Nat)(O:List Nat)(z:Av->AV->List Nat)(H0:Ap)(R:Kw)(s:Av):Option (List AV)->Prop
 |some xs=>bS k O H0 R s (z s (Dp xs)) (Dp xs)
 |none=>False
def Uf(P:Program)(Q:List ResultVar)(k:Nat)(O:List Nat)(z:Av->AV->List Nat)(H0:Ap)(R:Kw)(s:Av):Prop:=ML k O z H0 R s (Ar (Kp P s) Q)
def Pj(P:Program)(Q:List ResultVar)(k:Nat)(O:List Nat)(z:Av->AV->List Nat)(H0:Ap)(R:Kw):Cq
 | .normal,s=>Uf P Q k O z H0 R s
 | .ret,s=>Uf P Q k O z H0 R s
 | .exit _,_=>False
def K7(_:Av)(_:AV):List Nat:=[]
def xT(k:Nat):List Nat->List Nat
 |[]=>[]
 |x::r=>bif Nat.ble k x then x::xT k r else xT k r
def xS(k:Nat)(_:Av)(x:AV):List Nat:=xT k x.nms
def CU(r r':AV):Prop:= ∀(σ:Nat->Nat) (S:Au) (v:Value),Aa S (r.ren σ) v->Aa S (r'.ren σ) v
def oN(e e':Ao):Prop:=e.1=e'.1/\e.2.esz=e'.2.esz/\e.2.len=e'.2.len/\e.2.isView=e'.2.isView/\ ∀(σ:Nat->Nat) (S:Au) (l:Option Ff),An S l (e.2.ren σ)->An S l (e'.2.ren σ)
def cC:Ap->Ap->Prop
 |[],[]=>True
 |(j,e)::r,(j',e')::r'=>j=j'/\oN e e'/\cC r r'
 |[],_::_=>False
 |_::_,[]=>False
def CU.refl(r:AV):CU r r:=λ_ _ _ h=>h
def oN.refl(e:Ao):oN e e:=⟨rfl,rfl,rfl,rfl,λ_ _ _ h=>h⟩
def cC.refl: ∀(H:Ap),cC H H
 |[]=>trivial
 |(_,e)::r=>⟨rfl,oN.refl e,cC.refl r⟩
def cC.get: ∀{H H':Ap},cC H H'-> ∀n,(hget H' n=none/\hget H n=none)\/ ∃e e',hget H n=some e/\hget H' n=some e'/\oN e e'
 |[],[],_,n=> .inl ⟨rfl,rfl⟩
 |(j,e)::r,(j',e')::r',h,n=>by
  obtain⟨rfl,z,O⟩:=h;simp only[hget];cases hq:j==n
  .simpa using cC.get O n
  .exact .inr ⟨e,e',by simp,by simp,z⟩
def sg(os:List Nat)(nx j:Nat):Nat:=match os[j]? with
 |some o=>o
 |none=>nx+(j - os.length)
def AS(σ:Nat->Nat):Ap->Ap
 |[]=>[]
 |(j,(z,e))::r=>(σ j,(z,e.ren σ))::AS σ r
def vY{σ:Nat->Nat}: ∀{H:Ap} {n:Nat} {e':Ao},hget (AS σ H) n=some e'-> ∃j e,(j,e)∈H/\σ j=n/\e'=(e.1,e.2.ren σ)
 |[],n,e',h=>by simp[AS,hget] at h
 |(j,(Z,e))::r,n,e',h=>by
  simp only[AS,hget] at h;cases hq:σ j==n<;>rw[hq] at h
  .obtain⟨j',x,z,O,Q⟩:=vY (H:=r) (by simpa using h);exact⟨j',x,by simp[z],O,Q⟩
  .simp only[BX,AI] at h;exact⟨j,(Z,e),by simp,by simpa using hq,h.symm⟩
def qG{σ:Nat->Nat}(hσ: ∀i j,σ i=σ j->i=j): ∀(H:Ap) (j:Nat),hget (AS σ H) (σ j)=(hget H j).map λe=>(e.1,e.2.ren σ)
 |[],j=>rfl
 |(i,(Z,e))::r,j=>by
  simp only[AS,hget];by_cases z:i=j
  .subst z;simp
  .have O:(i==j)=false:=by simpa using z
   have Q:(σ i==σ j)=false:=by rw[HJ];exact λh=>z (hσ _ _ h)
   rw[O,Q];simpa using qG hσ r j
def ZL: ∀{H:Ap} {n:Nat} {e:Ao},hget H n=some e->(n,e)∈H
 |[],n,e,h=>by simp[hget] at h
 |(i,x)::r,n,e,h=>by
  simp only[hget] at h;cases hq:i==n<;>rw[hq] at h
  .exact BP _ (ZL (by simpa using h))
  .have:i=n:=by simpa using hq
   subst this;simp only[BX,AI] at h;subst h;simp
def Qti{C:AU}{S S':Au}(hW:Wf C S){kx:Nat->Option Nat}{τ:Nat->Nat}(Z: ∀b,S.ok b->S'.ok b/\S'.hp b=S.hp b)(ah: ∀o e l,kx o=none->S.h o=some e->e.2.isView=false->S.ρ o=some l->S.ok l.b)
 (ag: ∀o j,kx o=some j-> ∀e',S'.h (τ j)=some e'-> ∃e,S.h o=some e/\S'.ρ (τ j)=S.ρ o/\e'.2.esz=e.2.esz/\e'.2.len=e.2.len)
 {n:Nat}{e e':Ab}(h:Cm (Ba S.h kx n) e=some e'):(e'.esz=e.esz/\e'.len=e.len)/\ ∀l,(∀Q,l=some Q->S'.hp Q.b=S.hp Q.b)->An S l e->An S' l (e'.ren τ):=by
 have hm: ∀(cs ys:List AV) (vs:List Value),Ar (Ba S.h kx n) cs=some ys->AJ S cs vs->AJ S' (AH τ ys) vs:=by
  intro cs;induction cs with
  |nil=>
   intro ys vs h hc;simp only[Ar,AI] at h;subst h;simpa only[AH,AJ] using hc
  |cons x cs ad=>
   intro ys vs h hc;simp only[Ar] at h;simp only[AJ] at hc;obtain⟨v,r,rfl,O,h2⟩:=hc;split at h
   .rename_i z zs hz ac;obtain rfl:=Ay h;simp only[AH,AJ];exact⟨v,r,rfl,Qrr hW Z ah ag n x z v hz O,ad zs r ac h2⟩
   .cases h
 have an: ∀(cs ys:List AV) (vs:List Value),Ar (Ba S.h kx n) cs=some ys->Cu S cs vs->Cu S' (AH τ ys) vs:=by
  intro cs;induction cs with
  |nil=>
   intro ys vs h hc;simp only[Ar,AI] at h;subst h;simp only[AH,Cu]
  |cons x cs ad=>
   intro ys vs h hc;simp only[Ar] at h;simp only[Cu] at hc;obtain⟨v,r,rfl,O,h2⟩:=hc;split at h
   .rename_i z zs hz ac;obtain rfl:=Ay h;simp only[AH,Cu];exact⟨v,r,rfl,Qrr hW Z ah ag n x z v hz O,ad zs r ac h2⟩
   .cases h
 have ao: ∀(k:Nat) (rs ys:List (List AV)) (vs:List Value),Ar (Ar (Ba S.h kx n)) rs=some ys->BA S k rs vs->BA S' k (ys.map (AH τ)) vs:=by
  intro k rs;induction rs with
  |nil=>
   intro ys vs h hc;simp only[Ar,AI] at h;subst h;simp only[F9,BA]
  |cons x rs ad=>
   intro ys vs h hc;simp only[Ar] at h;simp only[BA] at hc;split at h
   .rename_i z zs hz ac;obtain rfl:=Ay h;simp only[Bf,BA,Qsc];exact⟨(eV _ _ hz).trans hc.1,an x z _ hz hc.2.1,ad zs _ ac hc.2.2⟩
   .cases h
 cases e<;>simp only[Cm] at h
 case view cs=>
  obtain rfl:=Ay h;refine⟨⟨rfl,rfl⟩,λl hl h=> ?_⟩;simp only[Ab.ren,An] at h⊢;obtain⟨Q,vs,T,fr,O,h2,h3⟩:=h;exact⟨Q,vs,T,fr,O,(hl Q O).trans h2,V3 Z cs _ h3⟩
 case cells T cs=>
  simp only[CT] at h;obtain⟨ys,O,rfl⟩:=h;refine⟨⟨rfl,rfl⟩,λl hl h=> ?_⟩;simp only[Ab.ren,An] at h⊢;obtain⟨Q,vs,g1,g2,g3,g4⟩:=h;exact⟨Q,vs,g1,g2,(hl Q g1).trans g3,hm cs ys _ O g4⟩
 case arr T k rows=>
  obtain rfl:=Ay h;refine⟨⟨rfl,rfl⟩,λl hl h=> ?_⟩;simp only[Ab.ren,An] at h⊢;refine⟨h.1,?_⟩;cases l with
  |none=>exact h.2
  |some Q=>
   obtain⟨h0,O,vs,h2,h3,h4⟩:=h;exact⟨O,vs,(hl Q rfl).trans h2,h3,ZI Z k rows _ h4⟩
 case arrA T k rows=>
  simp only[CT] at h;obtain⟨ys,O,rfl⟩:=h;have af:=eV _ _ O;refine⟨⟨rfl,af⟩,λl hl h=> ?_⟩;simp only[Ab.ren,An,Fc,af] at h⊢;refine⟨h.1,?_⟩;cases l with
  |none=>
   have:=h.2
   subst this;simp only[Ar,AI] at O;subst O;rfl
  |some Q=>
   obtain⟨h0,h2,vs,h3,h4,h5⟩:=h;exact⟨h2,vs,(hl Q rfl).trans h3,h4,ao k rows ys _ O h5⟩
 case map kt es=>
  obtain rfl:=Ay h;refine⟨⟨rfl,rfl⟩,λl hl h=> ?_⟩;simp only[Ab.ren,An] at h⊢;obtain⟨Q,ab,aa,O,h0,h2,h3,h4⟩:=h;exact⟨Q,ab,aa,O,h0,(hl Q O).trans h2,Li Z es _ h3,h4⟩
 case chan q cap=>
  obtain rfl:=Ay h;refine⟨⟨rfl,rfl⟩,λl hl h=> ?_⟩;simp only[Ab.ren,An] at h⊢;obtain⟨Q,am,ak,ai,O,h2,h3⟩:=h;exact⟨Q,am,ak,ai,O,(hl Q O).trans h2,Lk Z q _ h3⟩
 case iter last left=>
  obtain rfl:=Ay h;refine⟨⟨rfl,rfl⟩,λl hl h=> ?_⟩;simp only[Ab.ren,An] at h⊢;obtain⟨Q,mb,ab,aa,aj,O,h2,h0,h3,h4,h5,h6,h7⟩:=h;exact⟨Q,mb,ab,aa,aj,O,(Z mb h2).1,Qly Z last h0,(Z mb h2).2.trans h3,(hl Q O).trans h4,h5,h6,Li Z left _ h7⟩
def O0{f:AV->Option AV}{e e':Ab}(h:Cm f e=some e'):e'.isView=e.isView:=by
 cases e<;>simp only[Cm,CT,AI] at h
 .obtain⟨_,_,rfl⟩:=h;rfl
 .subst h;rfl
 .obtain⟨_,_,rfl⟩:=h;rfl
 all_goals subst h;rfl
def Le(d d':D):Prop:= ∀ok hp v,rd ok hp d v->rd ok hp d' v
def CJ:List D->List D->Prop
 |[],[]=>True
 |d::r,d'::r'=>Le d d'/\CJ r r'
 |[],_::_=>False
 |_::_,[]=>False
def Le.refl(d:D):Le d d:=λ_ _ _ h=>h
def CJ.refl: ∀(ds:List D),CJ ds ds
 |[]=>trivial
 |d::ds=>⟨Le.refl d,CJ.refl ds⟩
def CJ.len: ∀{a b:List D},CJ a b->a.length=b.length
 |[],[],_=>rfl
 |_::_,_::_,h=>by simp[CJ.len h.2]
def CJ.rdl: ∀{a b:List D},CJ a b-> ∀ok hp vs,Ae.rdl ok hp a vs->Ae.rdl ok hp b vs
 |[],[],_,ok,hp,vs,h=>h
 |_::_,_::_,z,ok,hp,vs,h=>by
  simp only[Ae.rdl] at h⊢;obtain⟨v,r,rfl,O,Q⟩:=h;exact⟨v,r,rfl,z.1 _ _ _ O,CJ.rdl z.2 _ _ _ Q⟩
def GB:List D->List D->Prop
 |_,[]=>True
 |d::r,d'::r'=>Le d d'/\GB r r'
 |[],_::_=>False
def GB.rdp: ∀{a b:List D},GB a b-> ∀ok hp vs,Ae.rdp ok hp a vs->Ae.rdp ok hp b vs
 |_,[],_,ok,hp,vs,h=>by simp only[Ae.rdp]
 |_::_,_::_,z,ok,hp,vs,h=>by
  simp only[Ae.rdp] at h⊢;obtain⟨v,r,rfl,O,Q⟩:=h;exact⟨v,r,rfl,z.1 _ _ _ O,GB.rdp z.2 _ _ _ Q⟩
 |[],_::_,h,_,_,_,_=>h.elim
def CJ.leP: ∀{a b:List D},CJ a b->GB a b
 |[],[],_=>trivial
 |_::_,_::_,h=>⟨h.1,CJ.leP h.2⟩
def GB.refl(a:List D):GB a a:=(CJ.refl a).leP
def GB.trans_take: ∀{n:Nat} {a b:List D},CJ (a.take n) b->GB a b
 |0,a,[],_=>by cases a<;>trivial
 |_+1,[],[],_=>trivial
 |n+1,x::a,y::b,h=>⟨h.1,GB.trans_take (n:=n) h.2⟩
 |n+1,x::a,[],h=>h.elim
 |n+1,[],y::b,h=>h.elim
 |0,a,y::b,h=>by cases a<;>exact h.elim
def sP{a b:List D}(h:CJ a b):Le (.agg a) (.agg b):=by
 intro ok hp v z;simp only[Ae.rd] at z⊢;obtain⟨vs,rfl,O⟩:=z;exact⟨vs,rfl,h.rdl _ _ _ O⟩
def KC{a b:List D}(h:CJ a b):Le (.tup a) (.tup b):=by
 intro ok hp v z;simp only[Ae.rd] at z⊢;obtain⟨vs,rfl,O⟩:=z;exact⟨vs,rfl,h.rdl _ _ _ O⟩
def VS:List (List D)->List (List D)->Prop
 |[],[]=>True
 |r::O,r'::z=>CJ r r'/\VS O z
 |[],_::_=>False
 |_::_,[]=>False
def VS.len: ∀{a b:List (List D)},VS a b->a.length=b.length
 |[],[],_=>rfl
 |_::_,_::_,h=>by simp[VS.len h.2]
def VS.rdr: ∀{a b:List (List D)} {k k':Nat},VS a b->(∀r∈b,r.length=k')-> ∀ok hp vs,Ae.rdr ok hp k a vs->Ae.rdr ok hp k' b vs
 |[],[],_,_,_,_,ok,hp,vs,h=>by simp only[Ae.rdr]
 |r::rs,r'::aa,k,k',z,Q,ok,hp,vs,h=>by
  simp only[Ae.rdr] at h⊢;have Z:=z.1.len;have O:=Q r' (by simp)
  have:k=k':=by rw[<-h.1,Z,O]
  subst this;exact⟨O,z.1.leP.rdp _ _ _ h.2.1,VS.rdr z.2 (λx hx=>Q x (by simp[hx])) _ _ _ h.2.2⟩
def Ed{nz:Bool}{k k':Nat}{a b:List (List D)}(h:VS a b)(hk: ∀r∈b,r.length=k'):Le (.sl nz k a) (.sl false k' b):=by
 intro ok hp v Q;simp only[Ae.rd] at Q⊢;rcases Q with ⟨z,O⟩|⟨Z,p,cap,vs,T,fr,z,O,h3,h4,h5,h6,h7⟩
 .subst O;cases b with
  |nil=>exact .inl ⟨Pv z,rfl⟩
  |cons _ _=>exact h.elim
 .exact .inr ⟨Z,p,cap,vs,T,fr,by rw[<-h.len];exact z,by simp,by rw[<-h.len];exact h3,by rw[<-h.len];exact h4,h5,h6,h.rdr hk _ _ _ h7⟩
def WV{g:FuncId}{a b:List D}(h:CJ a b):Le (.fn g [] a) (.fn g [] b):=by
 intro ok hp v z;simp only[Ae.rd] at z⊢;obtain⟨x,y,O,Q,Z⟩:=z;exact⟨x,y,O,Q,h.rdl _ _ _ Z⟩
def iV{g:FuncId}{a b:List D}(h:CJ a b):Le (.fn g a []) (.fn g b []):=by
 intro ok hp v z;simp only[rd] at z⊢;obtain⟨x,c,rfl,O,Q⟩:=z;exact⟨x,c,rfl,h.rdl _ _ _ O,Q⟩
def WK{a b:List D}(h:GB a b):Le (.ref a) (.ref b):=by
 intro ok hp v z;simp only[Ae.rd] at z⊢;obtain⟨O,p,vs,T,Q,Z,h2,h3,h4⟩:=z;exact⟨O,p,vs,T,Q,Z,h2,h3,h.rdp _ _ _ h4⟩
def AR{A:Type}(f:List D->Option A):List (List D)->Option (List A)
 |[]=>some []
 |r::z=>match f r,AR f z with
  |some x,some xs=>some (x::xs)
  |_,_=>none
def QN{A:Type}{f:List D->Option A}{e:A->List D}(h: ∀x,f (e x)=some x): ∀(l:List A),AR f (l.map e)=some l
 |[]=>rfl
 |x::l=>by simp only[Bf,AR,h x,QN h l]
def DQ{A:Type}{f:List D->Option A}{e:A->List D}(h: ∀ds x,f ds=some x->CJ ds (e x)): ∀(rows:List (List D)) (l:List A),AR f rows=some l->VS rows (l.map e)
 |[],l,z=>by simp only[AR,AI] at z;subst z;trivial
 |r::Z,l,z=>by
  simp only[AR] at z;split at z
  .rename_i x xs Q O;obtain rfl:=Ay z;exact⟨h r x Q,DQ h Z xs O⟩
  .cases z
abbrev A7:=List AV->(Nat->Option Ao)->Nat->Ah->Prop
def Q4:List (Nat×A7)->Dt
 |[],_,_,_,_,_=>False
 |p::r,g,args,h,nx,K=>if p.1=g then p.2 args h nx K else Q4 r g args h nx K
def H8(P:Program)(g:Nat)(c:A7):Prop:= ∀args h nx K,c args h nx K->mD P g/\ ∃r E,Q7 P g args h nx r E/\K r E
def QC{P:Program}: ∀(l:List (Nat×A7)),(∀p∈l,H8 P p.1 p.2)->JE P (Q4 l)
 |[],_=>λ_ _ _ _ _ h=>h.elim
 |p::r,O=>by
  intro g args h nx K z;simp only[Q4] at z;split at z
  .rename_i Q;subst Q;exact O p (by simp) args h nx K z
  .exact QC r (λq hq=>O q (by simp[hq])) g args h nx K z
def He(P:Program)(g:Nat):Bool:=match P.funcs[g]? with
 |some fn=>Nat.blt g 1000000000 && (!(fn.name== "runtime.NumGoroutine") && !fn.body.isNone)
 |none=>false
def Lp{P:Program}{g:Nat}(h:He P g=true):mD P g:=by
 unfold He at h;split at h
 .rename_i fn hf;simp only[AN,Rl] at h;exact⟨by simpa using h.1,fn,hf,h.2.1,h.2.2⟩
 .cases h
inductive PK where
 |val (d:D)
 |ptr (cs:List D)
def CR:Nat->List PK->List AV
 |_,[]=>[]
 |j,.val d::r=> .im d::CR j r
 |j,.ptr _::r=> .ptr j 0::CR (j+1) r
def CQ:Nat->List PK->Ap
 |_,[]=>[]
 |j,.val _::r=>CQ j r
 |j,.ptr cs::r=>(j,(false,.view cs))::CQ (j+1) r
def BK:List PK->Nat
 |[]=>0
 | .val _::r=>BK r
 | .ptr _::r=>BK r+1
def HY(S:Au):PK->Value->Prop
 | .val d,v=>rd S.ok S.hp d v
 | .ptr cs,v=> ∃b p vs T z,v= .pointer (some ⟨b,p,none⟩)/\b<S.w.heap.size/\S.hp b=some (.cells vs T z)/\rdp S.ok S.hp cs (vs.toList.drop p)
def E7(S:Au):List PK->List Value->Prop
 |[],vs=>vs=[]
 |p::z,vs=> ∃v r,vs=v::r/\HY S p v/\E7 S z r
def C7:PK->PK->Prop
 | .val d,.val d'=>Le d d'
 | .ptr a,.ptr b=>GB a b
 | .val _,.ptr _=>False
 | .ptr _,.val _=>False
def Ca:List PK->List PK->Prop
 |[],[]=>True
 |p::r,p'::r'=>C7 p p'/\Ca r r'
 |[],_::_=>False
 |_::_,[]=>False
def C7.c{S:Au}{p p':PK}{v:Value}(h:C7 p p')(z:HY S p v):HY S p' v:=by
 cases p<;>cases p'<;>simp only[C7] at h<;>simp only[HY] at z⊢
 .exact h _ _ _ z
 .obtain⟨b,p,vs,T,O,Q,Z,h3,h4⟩:=z;exact⟨b,p,vs,T,O,Q,Z,h3,h.rdp _ _ _ h4⟩
def Ca.c{S:Au}: ∀{a b:List PK} {vs:List Value},Ca a b->E7 S a vs->E7 S b vs
 |[],[],_,_,h=>h
 |_::_,_::_,vs,z,h=>by
  simp only[E7] at h⊢;obtain⟨v,r,rfl,O,Q⟩:=h;exact⟨v,r,rfl,z.1.c O,Ca.c z.2 Q⟩
def C7.refl(p:PK):C7 p p:=by cases p;exact Le.refl _;exact GB.refl _
def Ca.refl: ∀(a:List PK),Ca a a
 |[]=>trivial
 |p::a=>⟨C7.refl p,Ca.refl a⟩
def E7.len{S:Au}: ∀{ps:List PK} {vs:List Value},E7 S ps vs->vs.length=ps.length
 |[],vs,h=>by simp only[E7] at h;simp[h]
 |_::_,vs,h=>by
  simp only[E7] at h;obtain⟨v,r,rfl,_,z⟩:=h;simp[E7.len z]
def ZD: ∀(j:Nat) (ps:List PK),(CR j ps).length=ps.length
 |_,[]=>rfl
 |j,.val _::r=>by simp[CR,ZD j r]
 |j,.ptr _::r=>by simp[CR,ZD (j+1) r]
def FW: ∀(j:Nat) (ps:List PK) (n:Nat) (e:Ao),hget (CQ j ps) n=some e->(j<=n/\n<j+BK ps)/\ ∃cs,e=(false,.view cs)
 |_,[],n,e,h=>by simp[CQ,hget] at h
 |j,.val _::r,n,e,h=>by simpa[CQ,BK] using FW j r n e h
 |j,.ptr cs::r,n,e,h=>by
  simp only[CQ,hget] at h;simp only[BK];cases hq:j==n<;>rw[hq] at h
  .obtain⟨O,z⟩:=FW (j+1) r n e (by simpa using h);exact⟨by omega,z⟩
  .have:j=n:=by simpa using hq
   simp only[BX,AI] at h;exact⟨by omega,cs,h.symm⟩
def tJ: ∀(j:Nat) (ps:List PK) (n:Nat),j+BK ps<=n-> ∀m∈AA (CR j ps),m<n
 |_,[],n,_,m,z=>by simp[CR,AA] at z
 |j,.val _::r,n,h,m,z=>by
  simp only[CR,AA,AV.nms,Fq] at z;exact tJ j r n h m z
 |j,.ptr _::r,n,h,m,z=>by
  simp only[CR,AA,AV.nms,Bn,Bz] at z;simp only[BK] at h;rcases z with rfl|z
  .omega
  .exact tJ (j+1) r n (by omega) m z
def mN{S:Au}: ∀(ps:List PK) (vs:List Value) (j:Nat),E7 S ps vs-> ∃Z:Nat->Option Ff,
 (∀n e,hget (CQ j ps) n=some e-> ∃l,Z n=some l/\l.b<S.w.heap.size/\An S (some l) e.2)/\
 ∀(z:Au),z.ok=S.ok->z.w=S.w->(∀n,(∃e,hget (CQ j ps) n=some e)->z.ρ n=Z n/\z.h n=hget (CQ j ps) n)->AJ z (CR j ps) vs
 |[],vs,j,h=>by
  simp only[E7] at h;exact⟨λ_=>none,λn e O=>by simp[CQ,hget] at O,λz _ _ _=>by simp only[CR,AJ];exact h⟩
 | .val d::ps,vs,j,h=>by
   simp only[E7] at h;obtain⟨v,r,rfl,h1,h2⟩:=h;obtain⟨Z,h3,h4⟩:=mN ps r j h2;refine⟨Z,by simpa only[CQ] using h3,?_⟩;intro z Q hw hS;simp only[CR,AJ,Aa];refine⟨v,r,rfl,?_,h4 z Q hw (by simpa only[CQ] using hS)⟩
   have:z.hp=S.hp:=by unfold Au.hp;rw[hw]
   rw[Q,this];exact h1
 | .ptr cs::ps,vs,j,h=>by
   simp only[E7] at h;obtain⟨v,r,rfl,h1,h2⟩:=h;obtain⟨Z,h3,h4⟩:=mN ps r (j+1) h2;obtain⟨b,p,cells,T,fr,rfl,hb,hc,hr⟩:=h1;refine⟨λn=>if n=j then some ⟨b,p,0⟩ else Z n,?_,?_⟩
   .intro n e O;simp only[CQ,hget] at O;cases hq:j==n<;>rw[hq] at O
    .have:n≠j:=λh'=>by subst h';simp at hq
     simp only[Af this];exact h3 n e (by simpa using O)
    .have:n=j:=(by simpa using hq:j=n).symm
     simp only[BX,AI] at O;subst O;simp only[Ai this];refine⟨_,rfl,hb,?_⟩;simp only[An];exact⟨_,cells,T,fr,rfl,hc,hr⟩
   .intro z Q hw hS;simp only[CR,AJ,Aa];refine⟨_,r,rfl,⟨rfl,?_⟩,h4 z Q hw ?_⟩
    .intro e O;have hj:=hS j ⟨(false,.view cs),by simp only[CQ,hget,aP,BX]⟩;rw[hj.1];simp
    .rintro n ⟨e,O⟩;have hn:=(FW (j+1) ps n e O).1;have aa:n≠j:=by omega
     have hq:(j==n)=false:=by rw[HJ];exact λh=>aa h.symm
     have:=hS n ⟨e,by simp only[CQ,hget,hq,Bm];exact O⟩
     simp only[Af aa,CQ,hget,hq,Bm] at this;exact this
def Vk{P:Program}(HM:P.follows .mixedOrders=true){V:Dt}(hV:JE P V){g:FuncId}{fn:Func}{c:Code}(hf:P.funcs[g]? =some fn)(Q:fn.body=some c)(ai:Eh fn.ntmps c=true)
 {ps:List PK}(a8:ps.length<=fn.ntmps){R:Kw}{r0:D}(hR: ∀r H n,R r H n-> ∃d,r= .im d/\Le d r0)
 (hk:Dh P V c (Pj P fn.results.toList (BK ps) [] K7 (CQ 0 ps) R) ⟨entry 0 (CR 0 ps),CQ 0 ps,BK ps⟩)
 {C:AU}{S:Au}{vs:Array Value}{RR:Ending->World->Prop}(hW:Wf C S)(an:E7 S ps vs.toList)
 (ak: ∀v S',Wf C S'->S'.h=S.h->Bv (λ_=>True) S S'->rd S'.ok S'.hp r0 v->RR (.returned v) S'.w):Calls P g vs S.w RR:=by
 refine calls_of_wp hf Q ?_;have hvs:vs.size=(CR 0 ps).length:=by rw[ZD];simpa using an.len
 obtain⟨ls,am,hcl⟩:=mN ps vs.toList 0 an
 let S0:Au:=⟨ls,S.ok,hget (CQ 0 ps),S.w⟩
 let C0:AU:=⟨S.w,λ_=>False,S.ok,0,λ_=>none,λ_=>none,[]⟩
 have av:Wf C0 S0:=by
  refine⟨rfl,rfl,rfl,AL _,λ_ _ _=>rfl,λ_ Q=>Q,λ_ Q=> .inl Q,hW.oks,?_,?_,?_,hW.glN λ_ h=>h.elim⟩
  .intro n e z;obtain⟨l,O,_,h3⟩:=am n e z;have h4:S0.ρ n=some l:=O;rw[h4];obtain⟨_,cs,rfl⟩:=FW 0 ps n e z;simp only[An] at h3⊢;exact h3
  .intro n e l z hl;obtain⟨l',O,h2,h3⟩:=am n e z;have h4:S0.ρ n=some l':=O;rw[h4] at hl;obtain rfl:=Ay hl;obtain⟨_,cs,rfl⟩:=FW 0 ps n e z;exact⟨h2,.inr rfl⟩
  .intro n n' e e' l l' z af hl bb ba ax;obtain⟨_,cs,rfl⟩:=FW 0 ps n e z;obtain⟨_,a9,rfl⟩:=FW 0 ps n' e' af;simp at ax
 have aw:BF C0 fn.ntmps ⟨entry 0 (CR 0 ps),CQ 0 ps,BK ps⟩ {tmps:=vs++Array.replicate (fn.ntmps - vs.size) undef,defers:=[]} S.w:=by
  have ab:AJ S0 (CR 0 ps) vs.toList:=hcl S0 rfl rfl (λn _=>⟨rfl,rfl⟩);refine⟨S0,rfl,av,λn=>rfl,?_,?_,?_,by simp;rw[ZD] at hvs;omega,rfl,CC _,λo ho=>absurd ho (wJ _)⟩
  .intro t;have O:=lM (S:=S0) (CR 0 ps) vs.toList 0 t ab;simp only[CC,BI,nU] at O
   have:({tmps:=vs++Array.replicate (fn.ntmps - vs.size) undef,defers:=[]}:Act).eval (.tmp t)=(vs.toList[t]?).getD undef:=by
    simp only[Act.eval,HG,wO,gL];by_cases ht:t<vs.size
    .simp[ht]
    .simp only[ht,Cr]
     have:vs[t]? =none:=Xm (by omega)
     simp only[Gd,this]
     split<;>rfl
   rw[this];exact O
  .intro t m hm;exact tJ 0 ps (BK ps) (by omega) m (lU (CR 0 ps) 0 t m hm)
  .intro n e z;obtain⟨O,cs,rfl⟩:=FW 0 ps n e z;exact⟨by show n<BK ps;omega,by simp[Ab.nms]⟩
 refine wp_mono (Qo4 HM (fU hV) c ai _ _ _ _ hk aw) ?_;have fin: ∀(s:Av) (a:Act) (w:World),Uf P fn.results.toList (BK ps) [] K7 (CQ 0 ps) R s->BF C0 fn.ntmps s a w->a.defers=[]/\ ∃v,(results fn a.tmps).run P w= .ok v w/\RR (.returned v) w:=by
  rintro s a w hr ⟨S1,rfl,hc⟩;unfold Uf at hr;cases hxs:Ar (Kp P s) fn.results.toList with
  |none=>rw[hxs] at hr;exact hr.elim
  |some xs=>
   rw[hxs] at hr;simp only[ML] at hr;obtain⟨v,ao,ad⟩:=sR hc hxs;refine⟨hc.defers,v,ao,?_⟩;obtain⟨_,_,aa⟩:=hr;have aq:hget s.h=S1.h:=(funext hc.h).symm;rw[aq] at aa
   let kx:=HP (BK ps) (K7 s (Dp xs))
   have ah:Wf C0 (S1.ice λ_=>false):=V6 hc.wf;have ag: ∀(f:AV->Option D) (o:Nat),Qh f ((S1.ice λ_=>false).h o)=Qh f (S1.h o)/\WY ((S1.ice λ_=>false).h o)=WY (S1.h o)/\WS f ((S1.ice λ_=>false).h o)=WS f (S1.h o):=by
    intro f o;rw[show (S1.ice λ_=>false).h o=(S1.h o).map λe=>(e.1 && false,e.2) from rfl];cases S1.h o with
    |none=>exact⟨rfl,rfl,rfl⟩
    |some e=>obtain⟨mu,e⟩:=e;cases e<;>exact⟨rfl,rfl,rfl⟩
   have aj: ∀(n:Nat),Ba (S1.ice λ_=>false).h kx n=Ba S1.h kx n:=by
    intro n;induction n with
    |zero=>funext x;simp[Ba]
    |succ n ih=>
     funext x;cases x with
     |own o=>simp only[Ba,ih,(ag _ o).1]
     |mp o=>simp only[Ba,(ag (λ_=>none) o).2.1]
     |ptr o p=>cases p<;>simp only[Ba,ih,(ag _ o).2.2]
     |_=>simp only[Ba,ih]
   cases hcv:Ba S1.h kx 9 (Dp xs) with
   |none=>rw[hcv] at aa;exact aa.elim
   |some r=>
    rw[hcv] at aa;have ac: ∃H n,R r H n:=by
     simp only[K7,Jp,Jo,Rs,Jv] at aa;exact⟨_,_,aa⟩
    obtain⟨H,n,ac⟩:=ac;obtain⟨d,rfl,ay⟩:=hR _ _ _ ac;have a0:=RN ah (kx:=kx) (λo e l _ z hv hl=>mQ hc.wf rfl z hv hl) 9 (Dp xs) d v (by rw[aj];exact hcv) (HA (Hn S1 _) _ _ (λ_ _=>trivial) ad);have O:=ah;have Z: ∀b,b<S.w.heap.size->S1.w.heap[b]? =S.w.heap[b]? :=λb Q=>hc.wf.keep b Q (λh=>h)
    let S':Au:={S with ok:=(S1.ice λ_=>false).ok,w:=S1.w}
    have hp:Bv (λ_=>True) S S':=⟨λb Q=>⟨O.ok0 b Q,Z b (hW.oks b Q)⟩,λo _ e' af=>⟨e',af,rfl,rfl,rfl⟩⟩;have au:Wf C S':=by
     refine⟨O.os.trans hW.os,O.tape.trans hW.tape,O.output.trans hW.output,DH hW.size O.size,?_,λb Q=>O.ok0 b (hW.ok0 b Q),?_,O.oks,?_,?_,hW.inj,hW.gl⟩
     .intro b Q hM;exact (Z b (EJ Q hW.size)).trans (hW.keep b Q hM)
     .intro b Q;rcases O.ok1 b Q with h|h|h
      .exact hW.ok1 b h
      .exact .inr (.inl (DH hW.size h))
      .exact h.elim
     .intro o e z;exact Ho hp (λlc hl=>Z lc.b (hW.loc o e lc z hl).1) _ (λ_ _=>trivial) (hW.obj o e z)
     .intro o e l z hl;obtain⟨h2,h3⟩:=hW.loc o e l z hl;refine⟨EJ h2 O.size,?_⟩;cases hm:e.1 with
      |false=>
       rw[hm] at h3;simp only[CE,Cr] at h3⊢;exact h3.imp (O.ok0 _) id
      |true=>
       rw[hm] at h3;simp only[BI] at h3⊢;refine⟨λaz=> ?_,h3.2⟩;rcases O.ok1 _ az with h|h|h
       .exact h3.1 h
       .have h:S.w.heap.size<=l.b:=h;omega
       .exact h.elim
    exact ak v S' au rfl hp (ay _ _ _ a0)
 intro e a w z;cases e<;>simp only[FQ] at z<;>simp only[bodyPost]
 .obtain⟨s,hs,hc⟩:=z;exact fin s a w hs hc
 .obtain⟨s,hs,_⟩:=z;exact hs.elim
 .obtain⟨s,hs,hc⟩:=z;exact fin s a w hs hc
def Qv(o:Nat):Option Ao->Option (D×Ap)
 |some (z,.arr T k rows)=>some (.sl false k rows,bif z then [(o,(false,.arr T k rows))] else [])
 |some (_,.cells _ _)=>none
 |some (_,.arrA _ _ _)=>none
 |some (_,.map _ _)=>none
 |some (_,.chan _ _)=>none
 |some (_,.iter _ _)=>none
 |some (_,.view _)=>none
 |none=>none
def Qu(o:Nat):Option Ao->Option (D×Ap)
 |some (Q,.map O z)=>some (.mp O z,bif Q then [(o,(false,.map O z))] else [])
 |some (_,.cells _ _)=>none
 |some (_,.arr _ _ _)=>none
 |some (_,.arrA _ _ _)=>none
 |some (_,.chan _ _)=>none
 |some (_,.iter _ _)=>none
 |some (_,.view _)=>none
 |none=>none
def oA(f:List D->D):Option (List D×Ap)->Option (D×Ap)
 |some (ds,F)=>some (f ds,F)
 |none=>none
mutual
def Eu(h:Nat->Option Ao):AV->Option (D×Ap)
 | .im d=>some (d,[])
 | .own o=>Qv o (h o)
 | .mp o=>Qu o (h o)
 | .agg cs=>oA .agg (Sv h cs)
 | .tup cs=>oA .tup (Sv h cs)
 | .any=>none
 | .ptr _ _=>none
 | .eptr _ _ _=>none
 | .ch _=>none
 | .it _=>none
 | .osl _ _ _=>none
 | .clo _ _ _=>none
def Sv(h:Nat->Option Ao):List AV->Option (List D×Ap)
 |[]=>some ([],[])
 |x::r=>RG (Eu h x) (Sv h r)
end
def bN:Option (D×Ap)->Option (PK×Ap)
 |some (d,F)=>some (.val d,F)
 |none=>none
def F4:D->PK
 | .ref cs=> .ptr cs
 | .int k n=> .val (.int k n)
 | .bool b=> .val (.bool b)
 | .str s=> .val (.str s)
 | .nilp=> .val .nilp
 | .nilf=> .val .nilf
 | .nili=> .val .nili
 | .nilc=> .val .nilc
 | .nilm=> .val .nilm
 | .agg cs=> .val (.agg cs)
 | .tup cs=> .val (.tup cs)
 | .sl Q k rows=> .val (.sl Q k rows)
 | .mp O z=> .val (.mp O z)
 | .fn f a b=> .val (.fn f a b)
 | .ifc t d=> .val (.ifc t d)
 | .gp g=> .val (.gp g)
 | .tok g=> .val (.tok g)
def pkC:Option (List D)->Option (PK×Ap)
 |some ds=>some (.ptr ds,[])
 |none=>none
def Qy(off:Nat):Option Ao->Option (PK×Ap)
 |some (_,.cells _ cs)=>pkC (DC (cs.drop off))
 |some (_,.view cs)=>some (.ptr (cs.drop off),[])
 |some (_,.arr _ _ _)=>none
 |some (_,.arrA _ _ _)=>none
 |some (_,.map _ _)=>none
 |some (_,.chan _ _)=>none
 |some (_,.iter _ _)=>none
 |none=>none
def pkR(off:Nat):Option (List D)->Option (PK×Ap)
 |some r=>some (.ptr (r.drop off),[])
 |none=>none
def TJ(i off:Nat):Option Ao->Option (PK×Ap)
 |some (_,.arr _ _ rows)=>pkR off rows[i]?
 |some (_,.cells _ _)=>none
 |some (_,.view _)=>none
 |some (_,.arrA _ _ _)=>none
 |some (_,.map _ _)=>none
 |some (_,.chan _ _)=>none
 |some (_,.iter _ _)=>none
 |none=>none
def I8(h:Nat->Option Ao):AV->Option (PK×Ap)
 | .im d=>some (F4 d,[])
 | .ptr o off=>Qy off (h o)
 | .own o=>bN (Eu h (.own o))
 | .mp o=>bN (Eu h (.mp o))
 | .agg cs=>bN (Eu h (.agg cs))
 | .tup cs=>bN (Eu h (.tup cs))
 | .any=>none
 | .eptr o i off=>TJ i off (h o)
 | .ch _=>none
 | .it _=>none
 | .osl _ _ _=>none
 | .clo _ _ _=>none
def WT:Option (PK×Ap)->Option (List PK×Ap)->Option (List PK×Ap)
 |some (p,F),some (z,G)=>some (p::z,F++G)
 |some _,none=>none
 |none,_=>none
def Hv(h:Nat->Option Ao):List AV->Option (List PK×Ap)
 |[]=>some ([],[])
 |x::r=>WT (I8 h x) (Hv h r)
def DV{A:Type}(K:A->Prop):Option A->Prop
 |some a=>K a
 |none=>False
def O8(u:List Nat):Ap->Bk
 |[]=>{use:=u}
 |e::r=>{use:=u,kill:=(e::r).map (·.1),new:=e::r}
def Vt{A:Type}(ar:List PK->Option A)(pre:A->Prop)(re:A->D)(u:List Nat)(K:Ah):Option (List PK×Ap)->Prop
 |some (z,F)=>DV (λa=>pre a/\K (.im (re a)) (O8 u F)) (ar z)
 |none=>False
def DO{A:Type}(ar:List PK->Option A)(pre:A->Prop)(re:A->D):A7:=λargs h _ K=>Vt ar pre re (AA args) K (Hv h args)
def FR(S:Au)(F:Ap):Prop:= ∀n e,(n,e)∈F-> ∃z,S.h n=some (z,e.2)/\e.1=false
def FR.app{S:Au}{F G:Ap}(O:FR S F)(Q:FR S G):FR S (F++G):=by
 intro n e z;rcases Bn.1 z with z|z
 .exact O n e z
 .exact Q n e z
def XF(F:Ap)(X:Nat->Bool):Prop:= ∀n∈F.map (·.1),X n=false
def XF.app{F G:Ap}{X:Nat->Bool}(h:XF (F++G) X):XF F X/\XF G X:=by
 unfold XF at*;simp only[ES,Bn] at h;exact⟨λn hn=>h n (.inl hn),λn hn=>h n (.inr hn)⟩
section
variable {C:AU}{S:Au}{h:Nat->Option Ao}
def Sx(hW:Wf C S){o:Nat}{d:D}{F:Ap}{v:Value}(hh:S.h o=h o)(hd:Qv o (h o)=some (d,F))(hc:Aa S (.own o) v):FR S F/\ ∀X,XF F X->rd (S.ice X).ok (S.ice X).hp d v:=by
 cases ho:h o with
 |none=>rw[ho] at hd;simp[Qv] at hd
 |some e=>
  obtain⟨mu,e⟩:=e;rw[ho] at hd hh;cases e<;>simp only[Qv,reduceCtorEq] at hd;rename_i T k rows;simp only[AI,En] at hd;obtain⟨rfl,rfl⟩:=hd;refine⟨?_,λX hX=> ?_⟩
  .cases mu with
   |false=>intro n e z;cases z
   |true=>
    intro n e z;simp only[BX,Bz,En] at z;obtain⟨rfl,rfl⟩:=z;exact⟨true,hh,rfl⟩
  .have Q:Wf C (S.ice X):=V6 hW;have aa:=HA (Hn S X) _ _ (λ_ _=>trivial) hc;have z:(S.ice X).h o=some (mu && X o,.arr T k rows):=by
    show (S.h o).map _=_;rw[hh];rfl
   refine LP (f:=λ_=>none) Q (λx d v hx=>by cases hx) ?_ (by rw[z];rfl) aa;intro e' l O hv hl;cases mu with
   |true=>exact mQ hW (hX o (by simp)) O hv hl
   |false=>
    rw[z] at O;obtain rfl:=Ay O
    have:=(Q.loc o _ l z hl).2
    simp only[Gf,CE,Cr] at this;rcases this with Z|Z
    .exact Z
    .cases Z
def Sw(hW:Wf C S){o:Nat}{d:D}{F:Ap}{v:Value}(hh:S.h o=h o)(hd:Qu o (h o)=some (d,F))(hc:Aa S (.mp o) v):FR S F/\ ∀X,XF F X->rd (S.ice X).ok (S.ice X).hp d v:=by
 cases ho:h o with
 |none=>rw[ho] at hd;simp[Qu] at hd
 |some e=>
  obtain⟨mu,e⟩:=e;rw[ho] at hd hh;cases e<;>simp only[Qu,reduceCtorEq] at hd;rename_i kt es;simp only[AI,En] at hd;obtain⟨rfl,rfl⟩:=hd;refine⟨?_,λX hX=> ?_⟩
  .cases mu with
   |false=>intro n e z;cases z
   |true=>
    intro n e z;simp only[BX,Bz,En] at z;obtain⟨rfl,rfl⟩:=z;exact⟨true,hh,rfl⟩
  .have Q:Wf C (S.ice X):=V6 hW;have aa:=HA (Hn S X) _ _ (λ_ _=>trivial) hc;have z:(S.ice X).h o=some (mu && X o,.map kt es):=by
    show (S.h o).map _=_;rw[hh];rfl
   refine Ss Q ?_ (by rw[z];rfl) aa;intro e' l O hv hl;cases mu with
   |true=>exact mQ hW (hX o (by simp)) O hv hl
   |false=>
    rw[z] at O;obtain rfl:=Ay O
    have:=(Q.loc o _ l z hl).2
    simp only[Gf,CE,Cr] at this;rcases this with Z|Z
    .exact Z
    .cases Z
mutual
def pC(hW:Wf C S): ∀(x:AV) (d:D) (F:Ap) (v:Value),(∀n∈x.nms,S.h n=h n)->Eu h x=some (d,F)->Aa S x v->FR S F/\ ∀X,XF F X->rd (S.ice X).ok (S.ice X).hp d v
 | .im d',d,F,v,_,hd,z=>by
   simp only[Eu,AI,En] at hd;obtain⟨rfl,rfl⟩:=hd;simp only[Aa] at z;exact⟨(λn e he=>by cases he),λX _=>GJ (Hn S X).ok _ _ z⟩
 | .own o,d,F,v,O,hd,z=>by
   simp only[Eu] at hd;exact Sx hW (O o (by simp[AV.nms])) hd z
 | .mp o,d,F,v,O,hd,z=>by
   simp only[Eu] at hd;exact Sw hW (O o (by simp[AV.nms])) hd z
 | .agg cs,d,F,v,O,hd,z=>by
   simp only[Eu] at hd;cases hl:Sv h cs with
   |none=>rw[hl] at hd;cases hd
   |some q=>
    obtain⟨ds,G⟩:=q;rw[hl] at hd;simp only[oA,AI,En] at hd;obtain⟨rfl,rfl⟩:=hd;simp only[Aa] at z;obtain⟨vs,rfl,Q⟩:=z;obtain⟨Z,h3⟩:=Qtb hW cs ds G vs.toList (by simpa only[AV.nms] using O) hl Q;exact⟨Z,λX hX=>by simp only[rd];exact⟨vs,rfl,h3 X hX⟩⟩
 | .tup cs,d,F,v,O,hd,z=>by
   simp only[Eu] at hd;cases hl:Sv h cs with
   |none=>rw[hl] at hd;cases hd
   |some q=>
    obtain⟨ds,G⟩:=q;rw[hl] at hd;simp only[oA,AI,En] at hd;obtain⟨rfl,rfl⟩:=hd;simp only[Aa] at z;obtain⟨vs,rfl,Q⟩:=z;obtain⟨Z,h3⟩:=Qtb hW cs ds G vs.toList (by simpa only[AV.nms] using O) hl Q;exact⟨Z,λX hX=>by simp only[rd];exact⟨vs,rfl,h3 X hX⟩⟩
 | .any,d,F,v,_,hd,_=>by simp[Eu] at hd
 | .ptr _ _,d,F,v,_,hd,_=>by simp[Eu] at hd
 | .eptr _ _ _,d,F,v,_,hd,_=>by simp[Eu] at hd
 | .ch _,d,F,v,_,hd,_=>by simp[Eu] at hd
 | .it _,d,F,v,_,hd,_=>by simp[Eu] at hd
 | .osl _ _ _,d,F,v,_,hd,_=>by simp[Eu] at hd
 | .clo _ _ _,d,F,v,_,hd,_=>by simp[Eu] at hd
def Qtb(hW:Wf C S): ∀(xs:List AV) (ds:List D) (F:Ap) (vs:List Value),(∀n∈AA xs,S.h n=h n)->Sv h xs=some (ds,F)->AJ S xs vs->FR S F/\ ∀X,XF F X->rdl (S.ice X).ok (S.ice X).hp ds vs
 |[],ds,F,vs,_,hd,z=>by
  simp only[Sv,AI,En] at hd;obtain⟨rfl,rfl⟩:=hd;simp only[AJ] at z;exact⟨(λn e he=>by cases he),λX _=>by simp only[rdl];exact z⟩
 |x::xs,ds,F,vs,Q,hd,z=>by
  simp only[AA,Bn] at Q;simp only[Sv] at hd;simp only[AJ] at z;obtain⟨v,r,rfl,h1,h2⟩:=z;cases hx:Eu h x with
  |none=>rw[hx] at hd;simp[RG] at hd
  |some q=>
   obtain⟨d,E⟩:=q;cases hl:Sv h xs with
   |none=>rw[hx,hl] at hd;simp[RG] at hd
   |some q2=>
    obtain⟨O,G⟩:=q2;rw[hx,hl] at hd;simp only[RG,AI,En] at hd;obtain⟨rfl,rfl⟩:=hd;obtain⟨a1,a2⟩:=pC hW x d E v (λn hn=>Q n (.inl hn)) hx h1;obtain⟨b1,b2⟩:=Qtb hW xs O G r (λn hn=>Q n (.inr hn)) hl h2;refine⟨a1.app b1,λX hX=> ?_⟩;obtain⟨c1,Z⟩:=hX.app;simp only[rdl];exact⟨v,r,rfl,a2 X c1,b2 X Z⟩
end
def Qyv(hW:Wf C S){d:D}{v:Value}(hd:rd S.ok S.hp d v):HY S (F4 d) v:=by
 cases d<;>try exact hd
 rename_i cs;simp only[rd] at hd;obtain⟨b,p,vs,T,z,O,Q,Z,h4⟩:=hd;exact⟨b,p,vs,T,z,O,hW.oks b Q,Z,h4⟩
def eB{ok:Nat->Prop}{hp:Nat->Option Obj}{k:Nat}{r:List D}: ∀(rows:List (List D)) (vs:List Value) (i:Nat),rdr ok hp k rows vs->rows[i]? =some r->r.length=k/\rdp ok hp r (vs.drop (i*k))
 |[],_,i,_,h=>by simp at h
 |q::rows,vs,i,h,z=>by
  simp only[rdr] at h;cases i with
  |zero=>
   simp only[G6,AI] at z;subst z;simpa using ⟨h.1,h.2.1⟩
  |succ i=>
   obtain⟨g1,g2⟩:=eB rows (vs.drop k) i h.2.2 (by simpa using z);rw[DU] at g2;refine⟨g1,?_⟩;rw[wY,nS (i*k) k];exact g2
def TH(hW:Wf C S){x:AV}{p:PK}{F:Ap}{v:Value}(hh: ∀n∈x.nms,S.h n=h n)(hp:I8 h x=some (p,F))(hc:Aa S x v):FR S F/\ ∀X,XF F X->HY (S.ice X) p v:=by
 have aa:bN (Eu h x)=some (p,F)->FR S F/\ ∀X,XF F X->HY (S.ice X) p v:=by
  intro hp;cases hx:Eu h x with
  |none=>rw[hx] at hp;cases hp
  |some q=>
   obtain⟨d,G⟩:=q;rw[hx] at hp;simp only[bN,AI,En] at hp;obtain⟨rfl,rfl⟩:=hp;obtain⟨Z,h2⟩:=pC hW x d G v hh hx hc;exact⟨Z,h2⟩
 cases x<;>simp only[I8,reduceCtorEq] at hp
 case eptr o i off=>
  have Q:=hh o (by simp[AV.nms]);cases hn:h o with
  |none=>rw[hn] at hp;simp[TJ] at hp
  |some e=>
   obtain⟨mu,e⟩:=e;rw[hn] at hp Q;have z:=hW.obj o _ Q;simp only[Aa] at hc;obtain⟨l,hl,hv⟩:=hc.2 _ Q;have O:=(hW.loc o _ l Q hl).1;cases e<;>simp only[TJ,reduceCtorEq] at hp;rename_i T k rows;cases hr:rows[i]? with
   |none=>rw[hr] at hp;cases hp
   |some r=>
    rw[hr] at hp;simp only[pkR,AI,En] at hp;obtain⟨rfl,rfl⟩:=hp;refine⟨(λn e he=>by cases he),λX _=> ?_⟩;rw[hl] at z;simp only[An] at z;obtain⟨_,_,vs,h5,_,h6⟩:=z;obtain⟨g1,g2⟩:=eB rows _ i h6 hr;simp only[HY];refine⟨l.b,l.p+i*k+off,vs,_,_,hv,O,h5,?_⟩;have h7:=V3 (Hn S X).ok _ _ g2;rw[DU] at h7;rcases Zfi off r.length with h8|h8
    .have:=Qc off r _ h7 h8
     rwa [DU] at this
    .rw[CS h8];simp only[rdp]
 case im d=>
  simp only[AI,En] at hp;obtain⟨rfl,rfl⟩:=hp;simp only[Aa] at hc;exact⟨(λn e he=>by cases he),λX _=>Qyv (V6 hW) (GJ (Hn S X).ok _ _ hc)⟩
 case ptr o off=>
  have Q:=hh o (by simp[AV.nms]);cases hn:h o with
  |none=>rw[hn] at hp;simp[Qy] at hp
  |some e=>
   obtain⟨mu,e⟩:=e;rw[hn] at hp Q;have z:=hW.obj o _ Q;simp only[Aa] at hc;obtain⟨l,hl,hv⟩:=hc.2 _ Q;have O:=(hW.loc o _ l Q hl).1;cases e<;>simp only[Qy,reduceCtorEq] at hp
   case cells T cs=>
    cases ha:DC (cs.drop off) with
    |none=>rw[ha] at hp;cases hp
    |some ds=>
     rw[ha] at hp;simp only[pkC,AI,En] at hp;obtain⟨rfl,rfl⟩:=hp;refine⟨(λn e he=>by cases he),λX _=> ?_⟩;simp only[An] at z;obtain⟨lc,vs,Z,h2,h3,h4⟩:=z;rw[hl] at Z;obtain rfl:=Ay Z;simp only[HY];refine⟨l.b,l.p+off,vs,_,_,hv,O,h3,?_⟩;rw[h2,FP];have h5:AJ S (cs.drop off) (vs.toList.drop off):=by
      have: ∀(n:Nat) (a:List AV) (b:List Value),AJ S a b->AJ S (a.drop n) (b.drop n):=by
       intro n;induction n with
       |zero=>intro a b h;simpa using h
       |succ n ih=>
        intro a b h;cases a with
        |nil=>simp only[AJ] at h;subst h;simp[AJ]
        |cons x a=>
         simp only[AJ] at h;obtain⟨v,r,rfl,_,h⟩:=h;simpa using ih a r h
      exact this off cs _ h4
     exact Qse ds _ (Lk (Hn S X).ok _ _ (Qov _ ds _ ha h5))
   case view cs=>
    simp only[AI,En] at hp;obtain⟨rfl,rfl⟩:=hp;refine⟨(λn e he=>by cases he),λX _=> ?_⟩;simp only[An] at z;obtain⟨lc,vs,T,fr,Z,h2,h3⟩:=z;rw[hl] at Z;obtain rfl:=Ay Z;simp only[HY];refine⟨l.b,l.p+off,vs,T,fr,hv,O,h2,?_⟩;rw[<-DU]
    have: ∀(n:Nat) (a:List D) (b:List Value),rdp S.ok S.hp a b->rdp S.ok S.hp (a.drop n) (b.drop n):=by
     intro n;induction n with
     |zero=>intro a b h;simpa using h
     |succ n ih=>
      intro a b h;cases a with
      |nil=>simp[rdp]
      |cons x a=>
       simp only[rdp] at h;obtain⟨v,r,rfl,_,h⟩:=h;simpa using ih a r h
    exact V3 (Hn S X).ok _ _ (this off cs _ h3)
 all_goals exact aa hp
def pO(hW:Wf C S): ∀(xs:List AV) (ps:List PK) (F:Ap) (vs:List Value),(∀n∈AA xs,S.h n=h n)->Hv h xs=some (ps,F)->AJ S xs vs->FR S F/\ ∀X,XF F X->E7 (S.ice X) ps vs
 |[],ps,F,vs,_,hd,z=>by
  simp only[Hv,AI,En] at hd;obtain⟨rfl,rfl⟩:=hd;simp only[AJ] at z;exact⟨(λn e he=>by cases he),λX _=>by simp only[E7];exact z⟩
 |x::xs,ps,F,vs,O,hd,z=>by
  simp only[AA,Bn] at O;simp only[Hv] at hd;simp only[AJ] at z;obtain⟨v,r,rfl,h1,h2⟩:=z;cases hx:I8 h x with
  |none=>rw[hx] at hd;simp[WT] at hd
  |some q=>
   obtain⟨p,E⟩:=q;cases hl:Hv h xs with
   |none=>rw[hx,hl] at hd;simp[WT] at hd
   |some q2=>
    obtain⟨Q,G⟩:=q2;rw[hx,hl] at hd;simp only[WT,AI,En] at hd;obtain⟨rfl,rfl⟩:=hd;obtain⟨a1,a2⟩:=TH hW (λn hn=>O n (.inl hn)) hx h1;obtain⟨b1,b2⟩:=pO hW xs Q G r (λn hn=>O n (.inr hn)) hl h2;refine⟨a1.app b1,λX hX=> ?_⟩;obtain⟨c1,Z⟩:=hX.app;simp only[E7];exact⟨v,r,rfl,a2 X c1,b2 X Z⟩
end
def O9(u:List Nat)(F:Ap):(O8 u F).use=u/\(O8 u F).kill=F.map (·.1)/\(O8 u F).new=F/\(O8 u F).cnt=0:=by
 cases F<;>exact⟨rfl,rfl,rfl,rfl⟩
def EU{B:Type}(rc:D->Option B)(b:B):AV->Prop
 | .im d=>rc d=some b
 | .any=>False
 | .agg _=>False
 | .tup _=>False
 | .ptr _ _=>False
 | .eptr _ _ _=>False
 | .own _=>False
 | .mp _=>False
 | .ch _=>False
 | .it _=>False
 | .osl _ _ _=>False
 | .clo _ _ _=>False
def M5{B:Type}(rc:D->Option B)(b:B):Kw:=λr _ _=>EU rc b r
def Zz{P:Program}(HM:P.follows .mixedOrders=true){V:Dt}(hV:JE P V){g:FuncId}{fn:Func}{c:Code}(hf:P.funcs[g]? =some fn)(hb:fn.body=some c)(ab:Eh fn.ntmps c=true)(aa:He P g=true)
 {A B:Type}{ar:List PK->Option A}{ae:A->List PK}(ak: ∀ps a,ar ps=some a->Ca ps (ae a)){n:Nat}(hn: ∀a,(ae a).length=n)(am:n<=fn.ntmps){rc:D->Option B}{re:B->D}(an: ∀d b,rc d=some b->Le d (re b))
 {pre:A->Prop}{f:A->B}
 (hk: ∀a,pre a->Dh P V c (Pj P fn.results.toList (BK (ae a)) [] K7 (CQ 0 (ae a)) (M5 rc (f a))) ⟨entry 0 (CR 0 (ae a)),CQ 0 (ae a),BK (ae a)⟩):
 H8 P g (DO ar pre λa=>re (f a)):=by
 intro args h nx K z;unfold DO at z;cases hp:Hv h args with
 |none=>rw[hp] at z;exact z.elim
 |some q=>
  obtain⟨ps,F⟩:=q;rw[hp] at z;simp only[Vt] at z;cases ha:ar ps with
  |none=>rw[ha] at z;exact z.elim
  |some a=>
   rw[ha] at z;simp only[DV] at z;obtain⟨ad,hK⟩:=z;refine⟨Lp aa,_,_,?_,hK⟩;obtain⟨e1,e2,e3,e4⟩:=O9 (AA args) F;intro C S vs RR hW O af ag Q ac;rw[e1,e2] at O;obtain⟨h1,h2⟩:=pO hW args ps F vs.toList (λn hn=>O n (GZ _ hn)) hp Q
   let X:Nat->Bool:=λn=> !(F.map (·.1)).contains n
   have hX:XF F X:=by
    intro n hn;simp only[X,FO.2 hn,nN]
   have ai:Wf C (S.ice X):=V6 hW;have Z:(S.ice X).h=(O8 (AA args) F).appf S.h:=by
    have:=SB (S:=S) (F:=F) (u:=AA args) h1
    rw[show (O8 (AA args) F).appf S.h=({use:=AA args,kill:=F.map (·.1),new:=F}:Bk).appf S.h by
     funext m;simp only[Bk.appf,e2,e3]]
    exact this
   refine Vk HM hV hf hb ab (S:=S.ice X) (ps:=ae a) (r0:=re (f a)) (by rw[hn];exact am) ?_ (hk a ad) ai ((ak ps a ha).c (h2 X hX)) ?_
   .intro r H n hr;unfold M5 at hr;cases r<;>simp only[EU] at hr;exact⟨_,rfl,an _ _ hr⟩
   .intro v S' ah hh hp' ao;refine ac v S' ah (by rw[hh,Z]) ?_ (by simp only[Aa];exact ao);refine⟨λb hb=> ?_,λo _ e' aj=> ?_⟩
    .obtain⟨q1,q2⟩:=(Hn S X).ok b hb;obtain⟨q3,q4⟩:=hp'.ok b q1;exact⟨q3,q4.trans q2⟩
    .obtain⟨e,q1,q2,q3,q4⟩:=hp'.nm o trivial e' aj;obtain⟨e0,q5,q6,q7,q8⟩:=(Hn S X).nm o trivial e q1;exact⟨e0,q5,q2.trans q6,q3.trans q7,q4.trans q8⟩
def BE(σ:Nat->Nat)(k nx j:Nat):Nat:=if j<k then σ j else nx+(j - k)
def Ak(H0:Ap)(o:Nat):Bool:=(hget H0 o).isSome
def I5(H0:Ap)(k cnt:Nat)(exB:Nat->Bool)(o:Nat):Option Nat:=bif Ak H0 o||(exB o && (Nat.ble k o && Nat.blt o (k+cnt))) then some o else none
def Se(f:AV->Option AV)(e:Ao):Option Ao->Prop
 |some (O,z)=>O=e.1/\Cm f z=some e.2
 |none=>False
def El(h:Nat->Option Ao)(f:AV->Option AV):Ap->Prop
 |[]=>True
 |(j,e)::r=>Se f e (h j)/\El h f r
def HU(h:Nat->Option Ao)(klB:Nat->Bool):Ap->Prop
 |[]=>True
 |(j,e)::r=>(bif klB j then True else h j=some e)/\HU h klB r
def MJ(R:AV->Prop):Option AV->Prop
 |some r=>R r
 |none=>False
def bQ(k cnt:Nat)(H0 H1:Ap)(klB exB:Nat->Bool)(R:AV->Prop)(s:Av)(x:AV):Prop:=
 HU (hget s.h) klB H0/\MJ R (Ba (hget s.h) (I5 H0 k cnt exB) 9 x)/\El (hget s.h) (Ba (hget s.h) (I5 H0 k cnt exB) 9) H1
def MI(k cnt:Nat)(H0 H1:Ap)(klB exB:Nat->Bool)(R:AV->Prop)(s:Av):Option (List AV)->Prop
 |some xs=>bQ k cnt H0 H1 klB exB R s (Dp xs)
 |none=>False
def HT(P:Program)(z:List ResultVar)(k cnt:Nat)(H0 H1:Ap)(klB exB:Nat->Bool)(R:AV->Prop)(s:Av):Prop:=MI k cnt H0 H1 klB exB R s (Ar (Kp P s) z)
def NC(P:Program)(z:List ResultVar)(k cnt:Nat)(H0 H1:Ap)(klB exB:Nat->Bool)(R:AV->Prop):Cq
 | .normal,s=>HT P z k cnt H0 H1 klB exB R s
 | .ret,s=>HT P z k cnt H0 H1 klB exB R s
 | .exit _,_=>False
def zC(P:Program)(z:List ResultVar)(k cnt:Nat)(H0 H1:Ap)(klB exB:Nat->Bool)(R:AV->Prop)(s:Av):Prop:=
 ∃(F:List Nat) (π:List (Nat×Option Nat)) (s':Av),Aq k π (Su F s) s'/\s'.good=true/\k<=s'.nx/\HT P z k cnt H0 H1 klB exB R s'
def FK(P:Program)(z:List ResultVar)(k cnt:Nat)(H0 H1:Ap)(klB exB:Nat->Bool)(R:AV->Prop):Cq
 | .normal,s=>zC P z k cnt H0 H1 klB exB R s
 | .ret,s=>zC P z k cnt H0 H1 klB exB R s
 | .exit _,_=>False
def MN{h:Nat->Option Ao}{klB:Nat->Bool}: ∀(H:Ap),HU h klB H-> ∀j e,(j,e)∈H->klB j=false->h j=some e
 |[],_,j,e,z,_=>by cases z
 |(i,x)::r,O,j,e,z,Z=>by
  simp only[HU] at O;rcases Bh.1 z with z|z
  .cases z;have Q:=O.1;rw[Z] at Q;exact Q
  .exact MN r O.2 j e z Z
def Qve{h:Nat->Option Ao}{f:AV->Option AV}: ∀(H:Ap),El h f H-> ∀j e,(j,e)∈H-> ∃O,h j=some O/\e.1=O.1/\Cm f O.2=some e.2
 |[],_,j,e,z=>by cases z
 |(i,x)::r,Z,j,e,z=>by
  simp only[El] at Z;rcases Bh.1 z with z|z
  .cases z;have Q:=Z.1;cases hq:h i with
   |none=>rw[hq] at Q;exact Q.elim
   |some y=>
    obtain⟨mu,O⟩:=y;rw[hq] at Q;exact⟨(mu,O),rfl,Q.1.symm,Q.2⟩
  .exact Qve r Z.2 j e z
def Qv5{σ:Nat->Nat}{D:Nat->Prop}(hσ: ∀i j,D i->D j->σ i=σ j->i=j): ∀(H:Ap),(∀p∈H,D p.1)-> ∀(j:Nat),D j->hget (AS σ H) (σ j)=(hget H j).map λe=>(e.1,e.2.ren σ)
 |[],_,j,_=>rfl
 |(i,(mu,e))::r,hH,j,O=>by
  simp only[AS,hget];by_cases z:i=j
  .subst z;simp
  .have Q:(i==j)=false:=by simpa using z
   have Z:(σ i==σ j)=false:=by rw[HJ];exact λh=>z (hσ _ _ (hH _ (BM ..)) O h)
   rw[Q,Z];simpa using Qv5 hσ r (λp hp=>hH p (BP _ hp)) j O
def yT{P:Program}(HM:P.follows .mixedOrders=true){V:Dt}(hV:JE P V){g:FuncId}{fn:Func}{c:Code}(hf:P.funcs[g]? =some fn)(hb:fn.body=some c)(cb:Eh fn.ntmps c=true)
 {args:List AV}{H0 H1:Ap}{k cnt:Nat}(c8:args.length<=fn.ntmps)(hbel:AF k args=true)(hbH:Aw k H0=true)(hkH:B9 k H0=true)
 (bv: ∀j e,hget H0 j=some e-> ∀m∈e.2.nms,Ak H0 m=true)
 {klB exB:Nat->Bool}{R:AV->Prop}{r0:AV}
 (hR: ∀r,R r->CU r r0)
 (hH1: ∀p∈H1,(p.1<k/\klB p.1=true/\Ak H0 p.1=true)\/(k<=p.1/\p.1<k+cnt/\exB p.1=true/\p.2.1=true))
 {Q:Cq}(hQ: ∀(C:AU) (N:Nat) (a:Act) (w:World) (s:Av),C.n0=k->BF C N s a w->Q .normal s\/Q .ret s-> ∃s',BF C N s' a w/\HT P fn.results.toList k cnt H0 H1 klB exB R s')
 (cn: ∀i s,¬Q (.exit i) s)
 (hk:Dh P V c Q ⟨entry 0 args,H0,k⟩)
 {h:Nat->Option Ao}{nx:Nat}{τ:Nat->Nat}(cd: ∀i j,Ak H0 i=true->Ak H0 j=true->τ i=τ j->i=j)(c2: ∀j,Ak H0 j=true->τ j<nx)
 (hH: ∀j e,hget H0 j=some e->h (BE τ k nx j)=some (e.1,e.2.ren (BE τ k nx)))
 {U KL:List Nat}(hU: ∀j,Ak H0 j=true->τ j∈U)(c7: ∀n∈KL,∃j,Ak H0 j=true/\klB j=true/\n=τ j)(b9: ∀j,Ak H0 j=true->klB j=true->τ j∈KL):
 Q7 P g (AH (BE τ k nx) args) h nx (r0.ren (BE τ k nx)) {use:=U,kill:=KL,new:=AS (BE τ k nx) H1,cnt:=cnt}:=by
 intro C S vs RR hW cj am bj a0 cc
 let σ:=BE τ k nx
 let DD:Nat->Prop:=λj=>Ak H0 j=true\/k<=j
 have ai: ∀j e,hget H0 j=some e->Ak H0 j=true:=λj e he=>by unfold Ak;rw[he];rfl
 have aj: ∀j,Ak H0 j=true-> ∃e,hget H0 j=some e:=λj Z=>by
  unfold Ak at Z;cases hq:hget H0 j with
  |none=>rw[hq] at Z;cases Z
  |some e=>exact⟨e,rfl⟩
 have ao: ∀j,Ak H0 j=true->j<k:=λj Z=>by
  obtain⟨e,he⟩:=aj j Z;exact tH _ hkH j e he
 have hσlo: ∀j,j<k->σ j=τ j:=λj Z=>Ai Z
 have hσge: ∀j,k<=j->σ j=nx+(j - k):=λj Z=>Af (by omega)
 have hσin: ∀j,Ak H0 j=true->σ j∈U:=λj Z=>by rw[hσlo j (ao j Z)];exact hU j Z
 have hσlt: ∀j,Ak H0 j=true->σ j<nx:=λj Z=>by rw[hσlo j (ao j Z)];exact c2 j Z
 have hσinj: ∀i j,DD i->DD j->σ i=σ j->i=j:=by
  intro i j hi Z h;rcases hi with hi|hi<;>rcases Z with Z|Z
  .rw[hσlo i (ao i hi),hσlo j (ao j Z)] at h;exact cd i j hi Z h
  .have:=hσlt i hi
   rw[h,hσge j Z] at this;omega
  .have:=hσlt j Z
   rw[<-h,hσge i hi] at this;omega
  .rw[hσge i hi,hσge j Z] at h;omega
 have hS: ∀j e,hget H0 j=some e->S.h (σ j)=some (e.1,e.2.ren σ):=by
  intro j e he;rw[cj (σ j) (GZ _ (hσin j (ai j e he)))];exact hH j e he
 refine calls_of_wp hf hb ?_;have hvl:=IJ _ _ a0;have hvs:vs.size=args.length:=by rw[Qsc] at hvl;simpa using hvl
 let S0:Au:=⟨λj=>S.ρ (σ j),S.ok,hget H0,S.w⟩
 let M0:Nat->Prop:=λb=> ∃j e l,hget H0 j=some e/\e.1=true/\S.ρ (σ j)=some l/\l.b=b
 let C0:AU:=⟨S.w,M0,S.ok,k,hget H0,λj=>S.ρ (σ j),[]⟩
 have bf: ∀n,NZ S S0 σ (λn=>n) n:=by
  intro n;refine⟨λe' z=>⟨_,hS n e' z,rfl,?_,?_⟩⟩
  .exact (Qr6 σ e'.2).symm
  .exact (Qs6 σ e'.2).symm
 have bn: ∀b,S.ok b->S0.ok b/\S0.hp b=S.hp b:=λb hb=>⟨hb,rfl⟩
 have cq:Wf C0 S0:=by
  refine⟨rfl,rfl,rfl,AL _,λ_ _ _=>rfl,λ_ hb=>hb,λ_ hb=> .inl hb,hW.oks,?_,?_,?_,hW.glN (by rintro b ⟨j,e,l,O,h2,h3,rfl⟩;have h4:=(hW.loc _ _ l (hS j e O) h3).2;rw[show (e.1,e.2.ren σ).1=true from h2] at h4;simp only[BI] at h4;exact h4.1)⟩
  .intro j e he;have O:=hW.obj _ _ (hS j e he);have h2:=Qzw (τ:=λn=>n) bn (λ_ _=>rfl) e.2 (λn _=>bf n) O;rwa [Qwc] at h2
  .intro j e l he hl;obtain⟨O,h2⟩:=hW.loc _ _ l (hS j e he) hl;refine⟨O,?_⟩;cases hm:e.1 with
   |false=>
    rw[hm] at h2;have hv:(e.2.ren σ).isView=e.2.isView:=by cases e.2<;>rfl
    simpa[hv] using h2
   |true=>
    rw[hm] at h2;simp only[BI] at h2⊢;exact⟨h2.1,.inr ⟨j,e,l,he,hm,hl,rfl⟩⟩
  .intro i j e e' l l' he z hl bx af ak;exact hσinj _ _ (.inl (ai _ _ he)) (.inl (ai _ _ z)) (hW.inj _ _ _ _ l l' (hS i e he) (hS j e' z) hl bx af ak)
 have cr:BF C0 fn.ntmps ⟨entry 0 args,H0,k⟩ {tmps:=vs++Array.replicate (fn.ntmps - vs.size) undef,defers:=[]} S.w:=by
  have bg:AJ S0 args vs.toList:=by
   have:=eQ (τ:=λn=>n) bn args vs.toList (λn _=>bf n) a0
   rwa [ZN] at this
  refine⟨S0,rfl,cq,λn=>rfl,?_,?_,λn e he=>⟨tH _ hkH n e he,fC _ hbH n e he⟩,by simp;omega,rfl,AL _,λo _ e' z=>⟨e',z,rfl,rfl,rfl⟩⟩
  .intro t;have O:=lM (S:=S0) args vs.toList 0 t bg;simp only[CC,BI,nU] at O
   have:({tmps:=vs++Array.replicate (fn.ntmps - vs.size) undef,defers:=[]}:Act).eval (.tmp t)=(vs.toList[t]?).getD undef:=by
    simp only[Act.eval,HG,wO,gL];by_cases ht:t<vs.size
    .simp[ht]
    .simp only[ht,Cr]
     have:vs[t]? =none:=Xm (by omega)
     simp only[Gd,this]
     split<;>rfl
   rw[this];exact O
  .intro t m hm;exact ZJ args hbel m (lU args 0 t m hm)
 refine wp_mono (Qo4 HM (fU hV) c cb _ _ _ _ hk cr) ?_;have fin: ∀(s:Av) (a:Act) (w:World),HT P fn.results.toList k cnt H0 H1 klB exB R s->BF C0 fn.ntmps s a w->a.defers=[]/\ ∃v,(results fn a.tmps).run P w= .ok v w/\RR (.returned v) w:=by
  rintro s a w hr ⟨S1,rfl,hc⟩;unfold HT at hr;cases hxs:Ar (Kp P s) fn.results.toList with
  |none=>rw[hxs] at hr;exact hr.elim
  |some xs=>
   rw[hxs] at hr;simp only[MI] at hr;obtain⟨v,ci,bt⟩:=sR hc hxs;refine⟨hc.defers,v,ci,?_⟩;obtain⟨cg,aw,az⟩:=hr;have co:hget s.h=S1.h:=(funext hc.h).symm;rw[co] at cg aw az
   let kx:=I5 H0 k cnt exB
   let X:Nat->Bool:=λo=>(kx o).isSome
   have ab:Wf C0 (S1.ice X):=V6 hc.wf;have ba: ∀o,(S1.ice X).h o=(S1.h o).map λe=>(e.1 && X o,e.2):=λo=>rfl
   have bh: ∀o e l,kx o=none->(S1.ice X).h o=some e->e.2.isView=false->(S1.ice X).ρ o=some l->(S1.ice X).ok l.b:=by
    intro o e l ho he hv hl;exact mQ hc.wf (by simp[X,ho]) he hv hl
   have bw: ∀(f:AV->Option D) (o:Nat),Qh f ((S1.ice X).h o)=Qh f (S1.h o)/\WY ((S1.ice X).h o)=WY (S1.h o)/\WS f ((S1.ice X).h o)=WS f (S1.h o):=by
    intro f o;rw[ba];cases S1.h o with
    |none=>exact⟨rfl,rfl,rfl⟩
    |some e=>obtain⟨mu,e⟩:=e;cases e<;>exact⟨rfl,rfl,rfl⟩
   have bl: ∀(n:Nat),Ba (S1.ice X).h kx n=Ba S1.h kx n:=by
    intro n;induction n with
    |zero=>funext x;simp[Ba]
    |succ n ih=>
     funext x;cases x with
     |own o=>simp only[Ba,ih,(bw _ o).1]
     |mp o=>simp only[Ba,(bw (λ_=>none) o).2.1]
     |ptr o p=>cases p<;>simp only[Ba,ih,(bw _ o).2.2]
     |_=>simp only[Ba,ih]
   rw[<-bl] at aw;have az:El S1.h (Ba (S1.ice X).h kx 9) H1:=by rw[bl];exact az
   cases hcv:Ba (S1.ice X).h kx 9 (Dp xs) with
   |none=>rw[hcv] at aw;exact aw.elim
   |some r=>
    rw[hcv] at aw;simp only[MJ] at aw;have cm:=hR _ aw;have bi: ∀o j,kx o=some j->j=o/\(Ak H0 o=true\/(k<=o/\o<k+cnt)):=by
     intro o j Z;simp only[kx,I5] at Z;cases hq:Ak H0 o<;>rw[hq] at Z
     .cases hq2:(exB o && (Nat.ble k o && Nat.blt o (k+cnt)))<;>rw[hq2] at Z
      .cases Z
      .simp only[AN,G8,E4] at hq2;simp only[wW,BX,AI] at Z;exact⟨Z.symm,.inr hq2.2⟩
     .simp only[nR,BX,AI] at Z;exact⟨Z.symm,.inl rfl⟩
    have bc: ∀o,Ak H0 o=true->kx o=some o:=λo ho=>by simp only[kx,I5,ho,nR,BX]
    have cf: ∀o,exB o=true->k<=o->o<k+cnt->kx o=some o:=λo O h2 h3=>by
     have:(exB o && (Nat.ble k o && Nat.blt o (k+cnt)))=true:=by simp[O,h2,h3]
     simp only[kx,I5,this,wW,BX]
    have ag: ∀j e',(j,e')∈H1->DD j/\j<k+cnt/\((j<k/\klB j=true/\Ak H0 j=true)\/(k<=j/\e'.1=true))/\kx j=some j/\ ∃e,S1.h j=some e/\e'.1=e.1/\Cm (Ba (S1.ice X).h kx 9) e.2=some e'.2:=by
     intro j e' hm;obtain⟨e0,g1,g2,g3⟩:=Qve H1 az j e' hm;rcases hH1 _ hm with ⟨O,h2,h3⟩|⟨O,h2,h3,h4⟩
     .exact⟨.inl h3,by simp only at O;omega,.inl ⟨O,h2,h3⟩,bc j h3,e0,g1,g2,g3⟩
     .exact⟨.inr O,h2,.inr ⟨O,h4⟩,cf j h3 O h2,e0,g1,g2,g3⟩
    let E:Bk:={use:=U,kill:=KL,new:=AS σ H1,cnt:=cnt}
    let S':Au:=⟨λn=>if nx<=n/\n<nx+cnt then S1.ρ (n - nx+k) else S.ρ n,(S1.ice X).ok,E.appf S.h,S1.w⟩
    have hρ: ∀j,DD j->j<k+cnt->(∀e,S1.h j=some e->S'.ρ (σ j)=S1.ρ j):=by
     intro j hd Z e he;simp only[S'];by_cases au:j<k
     .have cx:Ak H0 j=true:=hd.resolve_right (by omega);have O:=hσlt j cx;rw[Af (by omega)];obtain⟨_,_,h3,_⟩:=hc.pre j au e he;exact h3.symm
     .have O:=hσge j (by omega);rw[Ai (by rw[O];omega),O];congr 1;omega
    have ah: ∀n e',S'.h n=some e'->(∃j e,n=σ j/\(j,e)∈H1/\hget H1 j=some e/\e'=(e.1,e.2.ren σ))\/(S.h n=some e'/\ ∀j,Ak H0 j=true->klB j=true->n≠σ j):=by
     intro n e' z;have z:E.appf S.h n=some e':=z;simp only[Bk.appf,E] at z;cases hg:hget (AS σ H1) n with
     |some x=>
      rw[hg] at z;obtain rfl:=Ay z;obtain⟨j,e,O,h2,h3⟩:=vY hg;subst h2;rw[Qv5 hσinj H1 (λp hp=>(ag p.1 p.2 hp).1) j (ag j e O).1] at hg;cases Z:hget H1 j with
      |none=>rw[Z] at hg;cases hg
      |some y=>
       rw[Z] at hg;exact .inl ⟨j,y,rfl,ZL Z,Z,by simpa using hg.symm⟩
     |none=>
      rw[hg] at z;cases hq:KL.contains n<;>rw[hq] at z
      .refine .inr ⟨z,?_⟩;rintro j Z ce rfl
       have:=b9 j Z ce
       rw[<-hσlo j (ao j Z)] at this;rw[FO.2 this] at hq;cases hq
      .cases z
    have a8: ∀n e l,S.h n=some e->S.ρ n=some l->(∀j,Ak H0 j=true->n≠σ j)->l.b<S.w.heap.size/\ ¬M0 l.b:=by
     intro n e l he hl hn;refine⟨(hW.loc n e l he hl).1,?_⟩;rintro⟨j,e0,l0,O,h9,h2,h3⟩;exact hn j (ai j e0 O) (hW.inj _ _ _ _ l l0 he (hS j e0 O) hl h2 h3.symm (by simp[h9]))
    have av: ∀b,b<S.w.heap.size-> ¬M0 b->S1.w.heap[b]? =S.w.heap[b]? :=λb hb hM=>hc.wf.keep b hb hM
    have bo: ∀b,S.ok b->S'.ok b/\S'.hp b=S.hp b:=by
     intro b hb;refine⟨ab.ok0 b hb,av b (hW.oks b hb) ?_⟩;rintro⟨j,e,l,O,h2,h3,h4⟩
     have:=(hW.loc _ _ l (hS j e O) h3).2
     rw[show (e.1,e.2.ren σ).1=true from h2] at this;simp only[BI] at this;exact this.1 (h4▸hb)
    have ay: ∀j e0,hget H0 j=some e0->klB j=false->S1.h j=some e0:=λj e0 O h2=>MN H0 cg j e0 (ZL O) h2
    have bd: ∀j,Ak H0 j=true->(∀j',Ak H0 j'=true->klB j'=true->σ j≠σ j')->klB j=false:=by
     intro j Z h;cases hq:klB j with
     |false=>rfl
     |true=>exact absurd rfl (h j Z hq)
    have be: ∀o,¬Fr nx cnt o-> ∀e',S'.h o=some e'-> ∃e,S.h o=some e/\S'.ρ o=S.ρ o/\e'.2.esz=e.2.esz/\e'.2.len=e.2.len:=by
     intro o ho e' z;have hρo:S'.ρ o=S.ρ o:=by
      simp only[S'];rw[Af (by intro h;exact ho ⟨h.1,h.2⟩)]
     rcases ah o e' z with ⟨j,e,rfl,O,h2,rfl⟩|⟨O,_⟩
     .obtain⟨g0,g1,g2,g3,x,g4,g5,g6⟩:=ag j e O;have au:j<k:=by
       rcases g2 with g2|g2
       .exact g2.1
       .have:=hσge j g2.1
        exact absurd (show Fr nx cnt (σ j) from ⟨by omega,by omega⟩) ho
      obtain⟨e0,p1,p2,p3,p4⟩:=hc.pre j au x g4;have an:=(@Qti C0 (S1.ice X) (S1.ice X) ab kx (λj=>j) (λb hb=>⟨hb,rfl⟩) bh (by
       intro o j Z e' z;obtain⟨q1,_⟩:=bi o j Z;subst q1;exact⟨e',z,rfl,rfl,rfl⟩) 9 x.2 e.2 g6).1
      refine⟨_,hS j e0 p1,hρo,?_,?_⟩
      .simp only[Qr6];rw[<-p3,<-an.1]
      .simp only[Qs6];rw[<-p4,<-an.2]
     .exact⟨e',O,hρo,rfl,rfl⟩
    have ax: ∀o j,kx o=some j-> ∀e',S'.h (σ j)=some e'-> ∃e,(S1.ice X).h o=some e/\S'.ρ (σ j)=(S1.ice X).ρ o/\e'.2.esz=e.2.esz/\e'.2.len=e.2.len:=by
     intro o j Z e' z;obtain⟨rfl,q2⟩:=bi o j Z;have bu:DD j:=q2.imp id (λh=>h.1);have cy:j<k+cnt:=by
      rcases q2 with q2|q2
      .have:=ao j q2;omega
      .exact q2.2
     rcases ah (σ j) e' z with ⟨j',e,h0,O,h2,rfl⟩|⟨O,h2⟩
     .obtain⟨g0,g1,g2,g3,x,g4,g5,g6⟩:=ag j' e O;obtain rfl:=hσinj _ _ bu g0 h0;have an:=(@Qti C0 (S1.ice X) (S1.ice X) ab kx (λj=>j) (λb hb=>⟨hb,rfl⟩) bh (by
       intro o j Z e' z;obtain⟨q1,_⟩:=bi o j Z;subst q1;exact⟨e',z,rfl,rfl,rfl⟩) 9 x.2 e.2 g6).1
      have hr:=hρ j bu g1 x g4;refine⟨(x.1 && X j,x.2),by rw[ba,g4];rfl,hr,?_,?_⟩
      .simp only[Qr6];rw[<-an.1]
      .simp only[Qs6];rw[<-an.2]
     ·
      have aa:Ak H0 j=true:=by
       rcases q2 with h|h
       .exact h
       .have h5:=am (σ j) ⟨by rw[hσge j h.1];omega,by rw[hσge j h.1];show nx+(j - k)<nx+cnt;omega⟩;rw[h5] at O;cases O
      have bb:=bd j aa (λj' a b=>h2 j' a b);obtain⟨e0,ad⟩:=aj j aa;have g4:=ay j e0 ad bb;have hr:=hρ j bu cy e0 g4
      have:=hS j e0 ad
      rw[O] at this;obtain rfl:=Ay this;refine⟨(e0.1 && X j,e0.2),by rw[ba,g4];rfl,hr,?_,?_⟩
      .simp only[Qr6]
      .simp only[Qs6]
    have aq: ∀n e' l,S'.h n=some e'->S'.ρ n=some l->(∃j x,n=σ j/\S1.h j=some x/\e'.1=x.1/\S1.ρ j=some l/\(k<=j->x.1=true)/\DD j/\kx j=some j/\e'.2.isView=x.2.isView)\/(S.h n=some e'/\S.ρ n=some l/\ ∀j,Ak H0 j=true->n≠σ j):=by
     intro n e' l z hl;rcases ah n e' z with ⟨j,e,rfl,O,h2,rfl⟩|⟨O,h2⟩
     .obtain⟨g0,g1,g2,g3,x,g4,g5,g6⟩:=ag j e O;have hr:=hρ j g0 g1 x g4;refine .inl ⟨j,x,rfl,g4,g5,by rw[<-hr];exact hl,?_,g0,g3,?_⟩
      .intro ce;rcases g2 with g2|g2
       .omega
       .rw[<-g5];exact g2.2
      .have hv:(e.2.ren σ).isView=e.2.isView:=by cases e.2<;>rfl
       show (e.2.ren σ).isView=_;rw[hv];exact O0 g6
     .by_cases hn: ∃j,Ak H0 j=true/\n=σ j
      .obtain⟨j,aa,rfl⟩:=hn;have bb:=bd j aa (λj' a b=>h2 j' a b);obtain⟨e0,ad⟩:=aj j aa;have g4:=ay j e0 ad bb;have au:=ao j aa;have hr:=hρ j (.inl aa) (by omega) e0 g4
       have:=hS j e0 ad
       rw[O] at this;obtain rfl:=Ay this;exact .inl ⟨j,e0,rfl,g4,rfl,by rw[<-hr];exact hl,λh=>by omega,.inl aa,bc j aa,by cases e0.2<;>rfl⟩
      .have b0: ∀j,Ak H0 j=true->n≠σ j:=λj Z h=>hn ⟨j,Z,h⟩
       refine .inr ⟨O,?_,b0⟩;have bz: ¬Fr nx cnt n:=by
        intro a9
        have:=am n a9
        rw[this] at O;cases O
       have hρo:S'.ρ n=S.ρ n:=by
        simp only[S'];rw[Af (by intro h;exact bz ⟨h.1,h.2⟩)]
       rw[<-hρo];exact hl
    have cp:Wf C S':=by
     refine⟨hc.wf.os.trans hW.os,hc.wf.tape.trans hW.tape,hc.wf.output.trans hW.output,DH hW.size hc.wf.size,?_,λb hb=>ab.ok0 b (hW.ok0 b hb),?_,ab.oks,?_,?_,?_,hW.gl⟩
     .intro b hb hM;have c4: ¬M0 b:=by
       rintro⟨j,e,l,O,h2,h3,h4⟩
       have:=(hW.loc _ _ l (hS j e O) h3).2
       rw[show (e.1,e.2.ren σ).1=true from h2] at this;simp only[BI] at this;rcases this.2 with h5|h5
       .omega
       .exact hM (h4▸h5)
      exact (av b (EJ hb hW.size) c4).trans (hW.keep b hb hM)
     .intro b hb;rcases ab.ok1 b hb with h|h|h
      .exact hW.ok1 b h
      .exact .inr (.inl (DH hW.size h))
      .obtain⟨j,e,l,O,h2,h3,h4⟩:=h
       have:=(hW.loc _ _ l (hS j e O) h3).2
       rw[show (e.1,e.2.ren σ).1=true from h2] at this;simp only[BI] at this;rw[<-h4];exact .inr this.2
     .intro n e' z;rcases ah n e' z with ⟨j,e,rfl,O,h2,rfl⟩|⟨O,h2⟩
      .obtain⟨g0,g1,g2,g3,x,g4,g5,g6⟩:=ag j e O;have an:=ab.obj j (x.1 && X j,x.2) (by rw[ba,g4];rfl);have hr:=hρ j g0 g1 x g4;have h5:=(Qti (S':=S') (τ:=σ) ab (λb hb=>⟨hb,rfl⟩) bh ax g6).2 _ (λ_ _=>rfl) an;rw[hr];exact h5
      .by_cases hn: ∃j,Ak H0 j=true/\n=σ j
       .obtain⟨j,aa,rfl⟩:=hn;have bb:=bd j aa (λj' a b=>h2 j' a b);obtain⟨e0,ad⟩:=aj j aa;have g4:=ay j e0 ad bb;have au:=ao j aa;have hr:=hρ j (.inl aa) (by omega) e0 g4
        have:=hS j e0 ad
        rw[O] at this;obtain rfl:=Ay this;rw[hr];have an:=hc.wf.obj j e0 g4;have h7:=Qzw (S:=S1) (S':=S') (σ:=λn=>n) (τ:=σ) (l:=S1.ρ j) (λb hb=>⟨.inl hb,rfl⟩) (λ_ _=>rfl) e0.2 ?_ (by rw[Qwc];exact an)
        .exact h7
        .intro m hm;refine⟨λe' z=> ?_⟩;have c9:m<k:=fC _ hbH j e0 ad m hm;cases hkm:kx m with
         |some m'=>
          obtain⟨rfl,_⟩:=bi m m' hkm;obtain⟨x,q1,q2,q3,q4⟩:=ax m' m' hkm e' z;obtain⟨y,q5,q6⟩:=V0 q1;exact⟨y,q5,q2,by rw[q3,q6],by rw[q4,q6]⟩
         |none=>
          exfalso;have c3:Ak H0 m≠true:=λh=>by rw[bc m h] at hkm;cases hkm
          exact c3 (bv j e0 ad m hm)
       .have b0: ∀j,Ak H0 j=true->n≠σ j:=λj Z h=>hn ⟨j,Z,h⟩
        have bz: ¬Fr nx cnt n:=by
         intro a9
         have:=am n a9
         rw[this] at O;cases O
        have hρo:S'.ρ n=S.ρ n:=by
         simp only[S'];rw[Af (by intro h;exact bz ⟨h.1,h.2⟩)]
        rw[hρo];refine Ho (X:=λm=> ¬Fr nx cnt m) ⟨bo,λo ho e' z=>be o ho e' z⟩ ?_ e'.2 (λm hm=>bj n e' O m hm) (hW.obj n e' O);intro lc cz;obtain⟨p1,p2⟩:=a8 n e' lc O cz b0;exact av lc.b p1 p2
     .intro n e' l z hl;rcases aq n e' l z hl with ⟨j,x,rfl,g4,g5,g6,g7,g8,ck,g9⟩|⟨O,h2,h3⟩
      .have cw:X j=true:=by simp only[X,ck];rfl
       have ac:=ab.loc j (x.1 && X j,x.2) l (by rw[ba,g4];rfl) g6;rw[cw,Fo] at ac;refine⟨ac.1,?_⟩;rw[g5];cases hm:x.1 with
       |false=>
        have h9:=ac.2;simp only[hm] at h9;simp only[CE,Cr] at h9⊢;rcases h9 with h9|h9
        .exact .inl h9
        .refine .inr ?_;rw[g9];exact h9
       |true=>
        have h9:=ac.2;simp only[hm,BI] at h9⊢;refine⟨h9.1,?_⟩;rcases h9.2 with bp|bp
        .exact .inl (DH hW.size bp)
        .obtain⟨j',e0,l0,p1,p2,p3,p4⟩:=bp
         have:=(hW.loc _ _ l0 (hS j' e0 p1) p3).2
         rw[show (e0.1,e0.2.ren σ).1=true from p2] at this;simp only[BI] at this;rw[<-p4];exact this.2
      .obtain⟨p1,p2⟩:=hW.loc n e' l O h2;obtain⟨p3,p4⟩:=a8 n e' l O h2 h3;refine⟨EJ p1 hc.wf.size,?_⟩;cases hm:e'.1 with
       |false=>
        rw[hm] at p2;simp only[CE,Cr] at p2⊢;exact p2.imp (λh=>ab.ok0 _ h) id
       |true=>
        rw[hm] at p2;simp only[BI] at p2⊢;refine⟨λc5=> ?_,p2.2⟩;rcases ab.ok1 _ c5 with h|h|h
        .exact p2.1 h
        .have h:S.w.heap.size<=l.b:=h;omega
        .exact p4 h
     ·
      have bm: ∀j x l n' e2 l',S1.h j=some x->S1.ρ j=some l->(k<=j->x.1=true)->DD j->S.h n'=some e2->S.ρ n'=some l'->(∀i,Ak H0 i=true->n'≠σ i)->l.b=l'.b->(x.1||e2.1)=true->False:=by
       intro j x l n' e2 l' g1 g2 g3 g4 p1 p2 p3 af ak;obtain⟨q1,q2⟩:=a8 n' e2 l' p1 p2 p3;by_cases au:j<k
       .have aa:Ak H0 j=true:=g4.resolve_right (by omega);obtain⟨e0,r1,r2,_,_⟩:=hc.pre j au x g1;have hρj:S.ρ (σ j)=some l:=by rw[<-r2|>λh=>show S1.ρ j=S.ρ (σ j) from h];exact g2
        have c6:(e0.1||e2.1)=true:=by
         cases he2:e2.1 with
         |true=>simp
         |false=>
          rw[he2,Qo] at ak;have ac:=(hc.wf.loc j x l g1 g2).2;rw[ak] at ac;simp only[BI] at ac;rcases ac.2 with h|h
          .have h:S.w.heap.size<=l.b:=h;omega
          .exact absurd (af▸h) q2
        exact p3 j aa (hW.inj _ _ _ _ l' l p1 (hS j e0 r1) p2 hρj af.symm (by rw[Bool.or_comm];exact c6))
       .have ac:=(hc.wf.loc j x l g1 g2).2;rw[g3 (by omega)] at ac;simp only[BI] at ac;rcases ac.2 with h|h
        .have h:S.w.heap.size<=l.b:=h;omega
        .exact q2 (af▸h)
      intro n n' e1 e2 l l' he z hl bx af ak;rcases aq n e1 l he hl with ⟨j,x,rfl,g1,g2,g3,g4,g5,_⟩|⟨g1,g2,g3⟩<;>rcases aq n' e2 l' z bx with ⟨j',x',rfl,p1,p2,p3,p4,p5,_⟩|⟨p1,p2,p3⟩
      .have ct:=hc.wf.inj j j' x x' l l' g1 p1 g3 p3 af (by rw[<-g2,<-p2];exact ak);rw[ct]
      .exact (bm j x l n' e2 l' g1 g3 g4 g5 p1 p2 p3 af (by rw[<-g2];exact ak)).elim
      .exact (bm j' x' l' n e1 l p1 p3 p4 p5 g1 g2 g3 af.symm (by rw[<-p2,Bool.or_comm];exact ak)).elim
      .exact hW.inj _ _ _ _ l l' g1 p1 g2 p2 af ak
    have cu:Aa S' (r.ren σ) v:=Qrr (S':=S') (τ:=σ) ab (λb hb=>⟨hb,rfl⟩) bh ax 9 (Dp xs) r v hcv (HA (Hn S1 X) _ _ (λ_ _=>trivial) bt);exact cc v S' cp rfl ⟨bo,λo ho e' z=>be o ho e' z⟩ (cm σ S' v cu)
 intro e a w he;cases e<;>simp only[FQ] at he<;>simp only[bodyPost]
 .obtain⟨s,hs,hc⟩:=he;obtain⟨s',br,b8⟩:=hQ C0 _ a w s rfl hc (.inl hs);exact fin s' a w b8 br
 .obtain⟨s,hs,_⟩:=he;exact (cn _ _ hs).elim
 .obtain⟨s,hs,hc⟩:=he;obtain⟨s',br,b8⟩:=hQ C0 _ a w s rfl hc (.inr hs);exact fin s' a w b8 br
def Ud{P:Program}{z:List ResultVar}{k cnt:Nat}{H0 H1:Ap}{klB exB:Nat->Bool}{R:AV->Prop}: ∀(C:AU) (N:Nat) (a:Act) (w:World) (s:Av),C.n0=k->BF C N s a w->
 NC P z k cnt H0 H1 klB exB R .normal s\/NC P z k cnt H0 H1 klB exB R .ret s-> ∃s',BF C N s' a w/\HT P z k cnt H0 H1 klB exB R s':=by
 rintro C N a w s _ O (h|h)<;>exact⟨s,O,h⟩
def Ue{P:Program}{z:List ResultVar}{k cnt:Nat}{H0 H1:Ap}{klB exB:Nat->Bool}{R:AV->Prop}: ∀(C:AU) (N:Nat) (a:Act) (w:World) (s:Av),C.n0=k->BF C N s a w->
 FK P z k cnt H0 H1 klB exB R .normal s\/FK P z k cnt H0 H1 klB exB R .ret s-> ∃s',BF C N s' a w/\HT P z k cnt H0 H1 klB exB R s':=by
 rintro C N a w s hk hc (h|h)<;>obtain⟨F,π,s',O,Q,h3,Z⟩:=h<;>exact⟨s',QT (uZ F hc) O Q (by omega) (by omega),Z⟩
def CL(h:Nat->Option Ao)(σ:Nat->Nat):Ap->Prop
 |[]=>True
 |(j,(z,e))::r=>h (σ j)=some (z,e.ren σ)/\CL h σ r
def mO{h:Nat->Option Ao}{σ:Nat->Nat}: ∀{H:Ap},CL h σ H-> ∀j e,(j,e)∈H->h (σ j)=some (e.1,e.2.ren σ)
 |[],_,j,e,z=>by cases z
 |(i,(Z,x))::r,hH,j,e,z=>by
  obtain⟨O,Q⟩:=hH;rcases Bh.1 z with z|z
  .cases z;exact O
  .exact mO Q j e z
structure oO(H0:Ap)(klB:Nat->Bool)(τ:Nat->Nat)(nx:Nat)(U KL:List Nat):Prop where
 inj: ∀i j,Ak H0 i=true->Ak H0 j=true->τ i=τ j->i=j
 lt: ∀j,Ak H0 j=true->τ j<nx
 u: ∀j,Ak H0 j=true->τ j∈U
 k1: ∀n∈KL,∃j,Ak H0 j=true/\klB j=true/\n=τ j
 k2: ∀j,Ak H0 j=true->klB j=true->τ j∈KL
def AB{A:Type}(ca:A->List AV)(H0:A->Ap)(k:Nat)(pre:A->Prop)(klB:Nat->Bool)(r0:A->AV)(H1:A->Ap)(cnt:Nat):A7:=λargs h nx K=>
 ∃(a:A) (τ:Nat->Nat) (U KL:List Nat),pre a/\args=AH (BE τ k nx) (ca a)/\CL h (BE τ k nx) (H0 a)/\oO (H0 a) klB τ nx U KL/\
  K ((r0 a).ren (BE τ k nx)) {use:=U,kill:=KL,new:=AS (BE τ k nx) (H1 a),cnt:=cnt}
def BS(H0:Ap):Ap->Prop
 |[]=>True
 |(_,(_,e))::r=>(∀m∈e.nms,Ak H0 m=true)/\BS H0 r
def Qo2{H0:Ap}: ∀{H:Ap},BS H0 H-> ∀j e,(j,e)∈H-> ∀m∈e.2.nms,Ak H0 m=true
 |[],_,j,e,z=>by cases z
 |(i,(Z,x))::r,hH,j,e,z=>by
  obtain⟨O,Q⟩:=hH;rcases Bh.1 z with z|z
  .cases z;exact O
  .exact Qo2 Q j e z
def I7(os:List Nat)(j:Nat):Nat:=os.getD j 0
def eY:List Nat->Bool
 |[]=>true
 |x::r=> !r.contains x && eY r
def Qjj: ∀(os:List Nat),eY os=true->os.Nodup
 |[],_=>List.nodup_nil
 |x::r,h=>by
  simp only[eY,AN,Rl] at h;refine Ly.2 ⟨λz=> ?_,Qjj r h.2⟩;rw[FO.2 z] at h;cases h.1
def Xb(nx:Nat):List Nat->Bool
 |[]=>true
 |x::r=>Nat.blt x nx && Xb nx r
def Qvm{nx:Nat}: ∀(os:List Nat),Xb nx os=true-> ∀o∈os,o<nx
 |[],_,o,h=>by cases h
 |x::r,h,o,z=>by
  simp only[Xb,AN,E4] at h;rcases Bh.1 z with rfl|z
  .exact h.1
  .exact Qvm r h.2 o z
def VM(klB:Nat->Bool):List Nat->Nat->List Nat
 |[],_=>[]
 |x::r,j=>bif klB j then x::VM klB r (j+1) else VM klB r (j+1)
def Qx4{klB:Nat->Bool}: ∀(os:List Nat) (j n:Nat),n∈VM klB os j↔ ∃i,i<os.length/\klB (j+i)=true/\os[i]? =some n
 |[],j,n=>by simp[VM]
 |x::r,j,n=>by
  have ih:=Qx4 (klB:=klB) r (j+1) n;simp only[VM];cases hq:klB j
  .simp only[Bm];rw[ih];constructor
   .rintro⟨i,Q,z,O⟩;exact⟨i+1,by simp;omega,by rw[show j+(i+1)=j+1+i by omega];exact z,by simpa using O⟩
   .rintro⟨i,Q,z,O⟩;cases i with
    |zero=>rw[Lx,hq] at z;cases z
    |succ i=>exact⟨i,by simp at Q;omega,by rw[show j+1+i=j+(i+1) by omega];exact z,by simpa using O⟩
  .simp only[BX,Bh];rw[ih];constructor
   .rintro (rfl|⟨i,Q,z,O⟩)
    .exact⟨0,by simp,hq,by simp⟩
    .exact⟨i+1,by simp;omega,by rw[show j+(i+1)=j+1+i by omega];exact z,by simpa using O⟩
   .rintro⟨i,Q,z,O⟩;cases i with
    |zero=>left;simpa using O.symm
    |succ i=>right;exact⟨i,by simp at Q;omega,by rw[show j+1+i=j+(i+1) by omega];exact z,by simpa using O⟩
def Ys{H0:Ap}{klB:Nat->Bool}{os:List Nat}{nx:Nat}(hd:eY os=true)(hl:Xb nx os=true)(hH: ∀j,Ak H0 j=true↔j<os.length):oO H0 klB (I7 os) nx os (VM klB os 0):=by
 have aa:=Qjj os hd;have Q: ∀j,j<os.length->os[j]? =some (I7 os j):=by
  intro j z;simp[I7,z]
 have hm: ∀j,j<os.length->I7 os j∈os:=λj z=>AZ (Q j z)
 refine⟨λi j hi z h=> ?_,λj z=>Qvm os hl _ (hm j ((hH j).1 z)),λj z=>hm j ((hH j).1 z),λn hn=> ?_,λj z hk=> ?_⟩
 .have O:=Q i ((hH i).1 hi);have Z:=Q j ((hH j).1 z);rw[h] at O;exact (List.getElem?_inj ((hH i).1 hi) aa).1 (O.trans Z.symm)
 .obtain⟨i,O,Z,h3⟩:=(Qx4 os 0 n).1 hn;refine⟨i,(hH i).2 O,by simpa using Z,?_⟩;rw[Q i O] at h3;exact (Ay h3).symm
 .exact (Qx4 os 0 _).2 ⟨j,(hH j).1 z,by simpa using hk,Q j ((hH j).1 z)⟩
def AB.os{A:Type}{ca:A->List AV}{H0:A->Ap}{k:Nat}{pre:A->Prop}{klB:Nat->Bool}{r0:A->AV}{H1:A->Ap}{cnt:Nat}{args:List AV}{h:Nat->Option Ao}{nx:Nat}{K:Ah}(a:A)(os:List Nat)(z:pre a)
 (hH: ∀j,Ak (H0 a) j=true↔j<os.length)(hd:eY os=true)(Z:Xb nx os=true)
 (O:args=AH (BE (I7 os) k nx) (ca a)/\CL h (BE (I7 os) k nx) (H0 a))
 (Q:K ((r0 a).ren (BE (I7 os) k nx)) {use:=os,kill:=VM klB os 0,new:=AS (BE (I7 os) k nx) (H1 a),cnt:=cnt}):AB ca H0 k pre klB r0 H1 cnt args h nx K:=
 ⟨a,I7 os,os,VM klB os 0,z,O.1,O.2,Ys hd Z hH,Q⟩
def bJ:A7:=λ_ _ _ _=>False
def Tt{P:Program}{g:Nat}:H8 P g bJ:=λ_ _ _ _ h=>h.elim
def yW(z r2:A7):A7:=λargs h nx K=>z args h nx K\/r2 args h nx K
def KM{P:Program}{g:Nat}{O r2:A7}(Q:H8 P g O)(Z:H8 P g r2):H8 P g (yW O r2):=by
 rintro args h nx K (z|z)
 .exact Q args h nx K z
 .exact Z args h nx K z
def Ur:List D->Bool
 |[]=>true
 |x::r=>x.sc && Ur r
def iQ(K:D->Prop):Option Ao->Prop
 |some (true,.arr _ k rows)=>Ck Ur rows/\K (.sl false k rows)
 |_=>False
def nZ(h:Nat->Option Ao)(K:D->Prop):AV->Prop
 | .im d=>d.scs=true/\K d
 | .own o=>iQ K (h o)
 |_=>False
def Je(h:Nat->Option Ao):List AV->(List D->Prop)->Prop
 |[],K=>K []
 |x::r,K=>nZ h (λd=>Je h r λds=>K (d::ds)) x
def Sp(h:Nat->Option Ao)(K:D->Prop):AV->Prop
 | .im d=>d.scs=true/\K d
 | .own o=>iQ K (h o)
 | .agg cs=>Je h cs λds=>K (.agg ds)
 |_=>False
def KA(h:Nat->Option Ao):List AV->(List D->Prop)->Prop
 |[],K=>K []
 |x::r,K=>Sp h (λd=>KA h r λds=>K (d::ds)) x
def OA(h:Nat->Option Ao)(K:D->Prop):AV->Prop
 | .im d=>d.scs=true/\K d
 | .own o=>iQ K (h o)
 | .agg cs=>Je h cs λds=>K (.agg ds)
 | .tup cs=>KA h cs λds=>K (.tup ds)
 |_=>False
def MK(R:D->Prop)(s:Av):Option (List AV)->Prop
 |some xs=>OA (hget s.h) R (Dp xs)
 |none=>False
def KR(P:Program)(z:List ResultVar)(R:D->Prop)(s:Av):Prop:=MK R s (Ar (Kp P s) z)
def aK(P:Program)(z:List ResultVar)(R:D->Prop):Cq
 | .normal,s=>KR P z R s
 | .ret,s=>KR P z R s
 | .exit _,_=>False
def MQ: ∀(r:List D),Ur r=true->r.all D.sc=true
 |[],_=>rfl
 |x::r,h=>by
  simp only[Ur,AN] at h;simp[h.1,MQ r h.2]
def KQ{ok ok':Nat->Prop}{hp hp':Nat->Option Obj}: ∀(ds:List D) (vs:List Value),ds.all D.sc=true->rdp ok hp ds vs->rdp ok' hp' ds vs
 |[],_,_,_=>by simp only[rdp]
 |d::ds,vs,h,hd=>by
  simp only[rdp,JL,AN] at hd h⊢;obtain⟨v,r,rfl,z,O⟩:=hd;exact⟨v,r,rfl,M7 h.1 z,KQ ds r h.2 O⟩
def TY{ok ok':Nat->Prop}{hp hp':Nat->Option Obj}{k:Nat}: ∀(z:List (List D)) (vs:List Value),Ck Ur z->rdr ok hp k z vs->rdr ok' hp' k z vs
 |[],_,_,_=>by simp only[rdr]
 |r::z,vs,h,hd=>by
  simp only[rdr] at hd⊢;exact⟨hd.1,KQ r vs (MQ r (h r (BM ..))) hd.2.1,TY z _ (λx O=>h x (BP _ O)) hd.2.2⟩
section
variable {C:AU}{S:Au}
def T6(C:AU)(S:Au)(b:Nat):Prop:=C.w.heap.size<=b/\b<S.w.heap.size/\ ¬S.ok b
def Qzs(hM: ∀b,¬C.M b)(hW:Wf C S){K:D->Prop}{o:Nat}{v:Value}(Q:iQ K (S.h o))(O:Aa S (.own o) v): ∃d,K d/\rd (T6 C S) S.hp d v:=by
 cases he:S.h o with
 |none=>rw[he] at Q;exact Q.elim
 |some e=>
  obtain⟨mu,e⟩:=e;rw[he] at Q;cases mu with
  |false=>cases e<;>exact Q.elim
  |true=>
  cases e with
  |arr T k rows=>
   simp only[iQ] at Q;refine⟨_,Q.2,?_⟩;have z:=hW.obj o _ he;simp only[Aa] at O;obtain⟨_,O⟩:=O;have O:=O _ he;simp only[An] at z;cases hl:S.ρ o with
   |none=>
    rw[hl] at O z;simp only[rd];exact .inl ⟨.inl O,z.2⟩
   |some l=>
    rw[hl] at O z;obtain⟨h0,h1,vs,h2,h3,h4⟩:=z;obtain⟨q1,Z⟩:=hW.loc o _ l he hl;simp only[BI] at Z;simp only[rd];refine .inr ⟨l.b,l.p,l.cap,vs,T,(0,0),O,by simp,h1,h0,⟨?_,q1,Z.1⟩,h2,TY rows _ Q.1 h4⟩;rcases Z.2 with h|h
    .exact h
    .exact absurd h (hM _)
  |_=>exact Q.elim
def Sn(Q: ∀b,¬C.M b)(hW:Wf C S){K:D->Prop}{x:AV}{v:Value}(z:nZ S.h K x)(O:Aa S x v): ∃d,K d/\rd (T6 C S) S.hp d v:=by
 cases x with
 |im d=>
  simp only[nZ] at z;simp only[Aa] at O;exact⟨d,z.2,W5 z.1 O⟩
 |own o=>
  simp only[nZ] at z;exact Qzs Q hW z O
 |_=>exact z.elim
def Qvx(Q: ∀b,¬C.M b)(hW:Wf C S): ∀(xs:List AV) (K:List D->Prop) (vs:List Value),Je S.h xs K->AJ S xs vs-> ∃ds,K ds/\rdl (T6 C S) S.hp ds vs
 |[],K,vs,O,z=>by
  simp only[Je] at O;simp only[AJ] at z;exact⟨[],O,by simp only[rdl];exact z⟩
 |x::xs,K,vs,O,z=>by
  simp only[Je] at O;simp only[AJ] at z;obtain⟨v,r,rfl,Z,h2⟩:=z;obtain⟨d,h3,h4⟩:=Sn Q hW O Z;obtain⟨ds,h5,h6⟩:=Qvx Q hW xs _ r h3 h2;exact⟨d::ds,h5,by simp only[rdl];exact⟨v,r,rfl,h4,h6⟩⟩
def Qm1(Q: ∀b,¬C.M b)(hW:Wf C S){K:D->Prop}{x:AV}{v:Value}(z:Sp S.h K x)(O:Aa S x v): ∃d,K d/\rd (T6 C S) S.hp d v:=by
 cases x with
 |im d=>
  simp only[Sp] at z;simp only[Aa] at O;exact⟨d,z.2,W5 z.1 O⟩
 |own o=>
  simp only[Sp] at z;exact Qzs Q hW z O
 |agg cs=>
  simp only[Sp] at z;simp only[Aa] at O;obtain⟨vs,rfl,Z⟩:=O;obtain⟨ds,h2,h3⟩:=Qvx Q hW cs _ _ z Z;exact⟨_,h2,by simp only[rd];exact⟨vs,rfl,h3⟩⟩
 |_=>exact z.elim
def Qvn(Q: ∀b,¬C.M b)(hW:Wf C S): ∀(xs:List AV) (K:List D->Prop) (vs:List Value),KA S.h xs K->AJ S xs vs-> ∃ds,K ds/\rdl (T6 C S) S.hp ds vs
 |[],K,vs,O,z=>by
  simp only[KA] at O;simp only[AJ] at z;exact⟨[],O,by simp only[rdl];exact z⟩
 |x::xs,K,vs,O,z=>by
  simp only[KA] at O;simp only[AJ] at z;obtain⟨v,r,rfl,Z,h2⟩:=z;obtain⟨d,h3,h4⟩:=Qm1 Q hW O Z;obtain⟨ds,h5,h6⟩:=Qvn Q hW xs _ r h3 h2;exact⟨d::ds,h5,by simp only[rdl];exact⟨v,r,rfl,h4,h6⟩⟩
def Qzf(Q: ∀b,¬C.M b)(hW:Wf C S){K:D->Prop}{x:AV}{v:Value}(z:OA S.h K x)(O:Aa S x v): ∃d,K d/\rd (T6 C S) S.hp d v:=by
 cases x with
 |tup cs=>
  simp only[OA] at z;simp only[Aa] at O;obtain⟨vs,rfl,Z⟩:=O;obtain⟨ds,h2,h3⟩:=Qvn Q hW cs _ _ z Z;exact⟨_,h2,by simp only[rd];exact⟨vs,rfl,h3⟩⟩
 |im d=>exact Qm1 (x:= .im d) Q hW (by simpa only[OA,Sp] using z) O
 |own o=>exact Qm1 (x:= .own o) Q hW (by simpa only[OA,Sp] using z) O
 |agg cs=>exact Qm1 (x:= .agg cs) Q hW (by simpa only[OA,Sp] using z) O
 |_=>exact z.elim
end
def Kv(f:AV->Option D):Option Ao->Option D
 |some (_,.arr _ k rows)=>some (.sl false k rows)
 |some (_,.arrA _ k rows)=>(Ar (Ar f) rows).map (.sl false k)
 |_=>none
def L8:Option Ao->Option D
 |some (_,.map O z)=>some (.mp O z)
 |_=>none
def aB(f:AV->Option D)(off:Nat):Option Ao->Option (List D)
 |some (_,.cells _ cs)=>Ar f (cs.drop off)
 |some (_,.view cs)=>some (cs.drop off)
 |_=>none
def Ot(g:FuncId):Option (List D)->Option (List D)->Option D
 |some a,some c=>some (.fn g a c)
 |some _,none=>none
 |none,_=>none
def bk(h:Nat->Option Ao):Nat->AV->Option D
 |0,_=>none
 |_+1,.im d=>some d
 |n+1,.agg cs=>(Ar (bk h n) cs).map .agg
 |n+1,.tup cs=>(Ar (bk h n) cs).map .tup
 |n+1,.own o=>Kv (bk h n) (h o)
 |_+1,.mp o=>L8 (h o)
 |n+1,.ptr o off=>(aB (bk h n) off (h o)).map .ref
 |n+1,.clo f a c=>Ot f (Ar (bk h n) a) (Ar (bk h n) c)
 |_+1,.any=>none
 |_+1,.eptr _ _ _=>none
 |_+1,.ch _=>none
 |_+1,.it _=>none
 |_+1,.osl _ _ _=>none
def Jr(ds:Option (List D)):Option PK:=ds.map .ptr
def DY(d:Option D):Option PK:=d.map .val
def L9(off:Nat):Option (List D)->Option (List D)
 |some r=>some (r.drop off)
 |none=>none
def Xw(i off:Nat):Option Ao->Option (List D)
 |some (_,.arr _ _ rows)=>L9 off rows[i]?
 |_=>none
def Dc(h:Nat->Option Ao):AV->Option PK
 | .im d=>some (F4 d)
 | .ptr o off=>Jr (aB (bk h 8) off (h o))
 | .own o=>DY (bk h 9 (.own o))
 | .mp o=>DY (bk h 9 (.mp o))
 | .agg cs=>DY (bk h 9 (.agg cs))
 | .tup cs=>DY (bk h 9 (.tup cs))
 | .clo f a c=>DY (bk h 9 (.clo f a c))
 | .any=>none
 | .eptr o i off=>Jr (Xw i off (h o))
 | .ch _=>none
 | .it _=>none
 | .osl _ _ _=>none
def Hz:Option PK->Option (List PK)->Option (List PK)
 |some p,some z=>some (p::z)
 |some _,none=>none
 |none,_=>none
def Cf(h:Nat->Option Ao):List AV->Option (List PK)
 |[]=>some []
 |x::r=>Hz (Dc h x) (Cf h r)
def Ju(f:AV->List Nat):Option Ao->List Nat
 |some (_,.cells _ cs)=>cs.flatMap f
 |some (_,.arrA _ _ rows)=>rows.flatMap λr=>r.flatMap f
 |_=>[]
def C3(h:Nat->Option Ao):Nat->AV->List Nat
 |0,_=>[]
 |n+1,.agg cs=>cs.flatMap (C3 h n)
 |n+1,.tup cs=>cs.flatMap (C3 h n)
 |n+1,.own o=>o::Ju (C3 h n) (h o)
 |_+1,.mp o=>[o]
 |n+1,.ptr o _=>o::Ju (C3 h n) (h o)
 |n+1,.clo _ a c=>a.flatMap (C3 h n)++c.flatMap (C3 h n)
 |_+1,.eptr o _ _=>[o]
 |_+1,_=>[]
def EE(h:Nat->Option Ao)(xs:List AV):List Nat:=xs.flatMap (C3 h 9)
def Au.froz(S:Au):Au:=⟨S.ρ,λb=>S.ok b\/ ∃o e l,S.h o=some e/\S.ρ o=some l/\l.b=b,λo=>(S.h o).map λe=>(false,e.2),S.w⟩
def lZ{S:Au}{o:Nat}{e':Ao}(h:S.froz.h o=some e'): ∃e,S.h o=some e/\e'=(false,e.2):=by
 simp only[Au.froz,CT] at h;obtain⟨e,z,rfl⟩:=h;exact⟨e,z,rfl⟩
def eX(S:Au):Bv (λ_=>True) S S.froz:=by
 refine⟨λb Q=>⟨.inl Q,rfl⟩,λo _ e' z=> ?_⟩;obtain⟨e,O,rfl⟩:=lZ z;exact⟨e,O,rfl,rfl,rfl⟩
def bA(S:Au):AU:=⟨S.w,λ_=>False,S.froz.ok,0,λ_=>none,λ_=>none,[]⟩
def mX{C:AU}{S:Au}(hW:Wf C S):Wf (bA S) S.froz:=by
 refine⟨rfl,rfl,rfl,AL _,λ_ _ _=>rfl,λ_ O=>O,λ_ O=> .inl O,?_,?_,?_,?_,hW.gp.mono λb o O ho=>⟨⟨.inl O,λh=>h.elim⟩,ho⟩⟩
 .rintro b (O|⟨o,e,l,Q,h2,rfl⟩)
  .exact hW.oks b O
  .exact (hW.loc o e l Q h2).1
 .intro o e' z;obtain⟨e,Q,rfl⟩:=lZ z;exact Ho (eX S) (λ_ _=>rfl) _ (λ_ _=>trivial) (hW.obj o e Q)
 .intro o e' l z Z;obtain⟨e,Q,rfl⟩:=lZ z;exact⟨(hW.loc o e l Q Z).1,.inl (.inr ⟨o,e,l,Q,Z,rfl⟩)⟩
 .intro o o' e e' l l' he z _ _ _ hf;obtain⟨x,_,rfl⟩:=lZ he;obtain⟨x',_,rfl⟩:=lZ z;simp at hf
section
variable {C:AU}{S:Au}{h:Nat->Option Ao}
def Qql(hW:Wf C S){f:AV->Option D}{g:AV->List Nat}(hf: ∀x d v,(∀m∈g x,S.h m=h m)->f x=some d->Aa S x v->rd S.froz.ok S.froz.hp d v)
 {o off:Nat}{ds:List D}{v:Value}(h1:S.h o=h o)(hg: ∀m∈Ju g (h o),S.h m=h m)(hd:aB f off (h o)=some ds)(O:Aa S (.ptr o off) v):
 ∃b p vs T fr,v= .pointer (some ⟨b,p,none⟩)/\S.froz.ok b/\S.froz.hp b=some (.cells vs T fr)/\rdp S.froz.ok S.froz.hp ds (vs.toList.drop p):=by
 have hL: ∀(cs:List AV) (ds:List D) (vs:List Value),(∀m∈cs.flatMap g,S.h m=h m)->Ar f cs=some ds->Cu S cs vs->rdp S.froz.ok S.froz.hp ds vs:=by
  intro cs;induction cs with
  |nil=>
   intro ds vs _ hd _;simp only[Ar,AI] at hd;subst hd;simp only[rdp]
  |cons x cs ih=>
   intro ds vs hh hd O;simp only[Ar] at hd;simp only[Cu] at O;obtain⟨v,r,rfl,h1,h2⟩:=O;split at hd
   .rename_i y ys hy ab;obtain rfl:=Ay hd;simp only[rdp];exact⟨v,r,rfl,hf x y v (λm Z=>hh m (by rw[F3];exact GZ _ Z)) hy h1,ih ys r (λm Z=>hh m (by rw[F3];exact Rj _ Z)) ab h2⟩
   .cases hd
 simp only[Aa] at O;obtain⟨_,O⟩:=O;rw[<-h1] at hd hg;cases he:S.h o with
 |none=>rw[he] at hd;cases hd
 |some e=>
  obtain⟨l,hl,rfl⟩:=O e he;have aa:S.froz.ok l.b:= .inr ⟨o,e,l,he,hl,rfl⟩;obtain⟨mu,e⟩:=e;rw[he] at hd hg;have z:=hW.obj o _ he;rw[hl] at z;cases e with
  |cells T cs=>
   simp only[aB] at hd;simp only[An] at z;obtain⟨lc,vs,h3,h4,h5,h6⟩:=z;cases h3;refine⟨l.b,l.p+off,vs,T,(0,0),rfl,aa,h5,?_⟩;rw[h4,FP];simp only[Ju] at hg;rcases Zfi off cs.length with Q|Q
   .refine hL _ _ _ (λm Z=>hg m ?_) hd (lN off cs _ (W7 _ _ h6) Q);obtain⟨x,k1,k2⟩:=Zej.1 Z;exact Zej.2 ⟨x,ZdK k1,k2⟩
   .rw[CS Q] at hd;simp only[Ar,AI] at hd;subst hd;simp only[rdp]
  |view cs=>
   simp only[aB,AI] at hd;subst hd;simp only[An] at z;obtain⟨lc,vs,T,fr,h3,h5,h6⟩:=z;cases h3;refine⟨l.b,l.p+off,vs,T,fr,rfl,aa,h5,?_⟩;have Q:=V3 (eX S).ok _ _ h6;rw[<-DU];rcases Zfi off cs.length with h|h
   .exact Qc off cs _ Q h
   .rw[CS h];simp only[rdp]
  |_=>cases hd
def aX(hW:Wf C S): ∀(n:Nat) (x:AV) (d:D) (v:Value),(∀m∈C3 h n x,S.h m=h m)->bk h n x=some d->Aa S x v->rd S.froz.ok S.froz.hp d v:=by
 intro n;induction n with
 |zero=>intro x d v _ hd;simp[bk] at hd
 |succ n ih=>
  have hl: ∀(cs:List AV) (ds:List D) (vs:List Value),(∀m∈cs.flatMap (C3 h n),S.h m=h m)->Ar (bk h n) cs=some ds->AJ S cs vs->rdl S.froz.ok S.froz.hp ds vs:=by
   intro cs;induction cs with
   |nil=>
    intro ds vs _ hd z;simp only[Ar,AI] at hd;subst hd;simpa only[AJ,rdl] using z
   |cons x cs ac=>
    intro ds vs Q hd z;simp only[Ar] at hd;simp only[AJ] at z;obtain⟨v,r,rfl,h1,h2⟩:=z;split at hd
    .rename_i y ys hy ab;obtain rfl:=Ay hd;simp only[rdl];exact⟨v,r,rfl,ih x y v (λm Z=>Q m (by rw[F3];exact GZ _ Z)) hy h1,ac ys r (λm Z=>Q m (by rw[F3];exact Rj _ Z)) ab h2⟩
    .cases hd
  have hp: ∀(cs:List AV) (ds:List D) (vs:List Value),(∀m∈cs.flatMap (C3 h n),S.h m=h m)->Ar (bk h n) cs=some ds->Cu S cs vs->rdp S.froz.ok S.froz.hp ds vs:=by
   intro cs;induction cs with
   |nil=>
    intro ds vs _ hd z;simp only[Ar,AI] at hd;subst hd;simp only[rdp]
   |cons x cs ac=>
    intro ds vs Q hd z;simp only[Ar] at hd;simp only[Cu] at z;obtain⟨v,r,rfl,h1,h2⟩:=z;split at hd
    .rename_i y ys hy ab;obtain rfl:=Ay hd;simp only[rdp];exact⟨v,r,rfl,ih x y v (λm Z=>Q m (by rw[F3];exact GZ _ Z)) hy h1,ac ys r (λm Z=>Q m (by rw[F3];exact Rj _ Z)) ab h2⟩
    .cases hd
  have hr: ∀(k:Nat) (rs:List (List AV)) (ds:List (List D)) (vs:List Value),(∀m∈rs.flatMap (λr=>r.flatMap (C3 h n)),S.h m=h m)->Ar (Ar (bk h n)) rs=some ds->BA S k rs vs->rdr S.froz.ok S.froz.hp k ds vs/\ds.length=rs.length:=by
   intro k rs;induction rs with
   |nil=>
    intro ds vs _ hd _;simp only[Ar,AI] at hd;subst hd;exact⟨by simp only[rdr],rfl⟩
   |cons x rs ac=>
    intro ds vs Q hd z;simp only[Ar] at hd;simp only[BA] at z;split at hd
    .rename_i y ys hy ab;obtain rfl:=Ay hd;obtain⟨k1,k2⟩:=ac ys _ (λm Z=>Q m (by rw[F3];exact Rj _ Z)) ab z.2.2;refine⟨?_,by simp[k2]⟩;simp only[rdr];exact⟨(eV _ _ hy).trans z.1,hp x y _ (λm Z=>Q m (by rw[F3];exact GZ _ Z)) hy z.2.1,k1⟩
    .cases hd
  intro x d v Q hd z;cases x with
  |im d'=>
   simp only[bk,AI] at hd;subst hd;simp only[Aa] at z;exact GJ (eX S).ok _ _ z
  |agg cs=>
   simp only[bk,CT] at hd;obtain⟨ds,h1,rfl⟩:=hd;simp only[Aa] at z;obtain⟨vs,rfl,h2⟩:=z;simp only[rd];exact⟨vs,rfl,hl cs ds _ Q h1 h2⟩
  |tup cs=>
   simp only[bk,CT] at hd;obtain⟨ds,h1,rfl⟩:=hd;simp only[Aa] at z;obtain⟨vs,rfl,h2⟩:=z;simp only[rd];exact⟨vs,rfl,hl cs ds _ Q h1 h2⟩
  |own o=>
   simp only[C3,Bh] at Q;have h1:=Q o (.inl rfl);simp only[bk] at hd;simp only[Aa] at z;rw[<-h1] at hd Q;cases he:S.h o with
   |none=>rw[he] at hd;cases hd
   |some e=>
    have z:=z.2 e he;have O:=hW.obj o _ he;obtain⟨mu,e⟩:=e;rw[he] at hd Q;have ag: ∀l,S.ρ o=some l->S.froz.ok l.b:=λl hl=> .inr ⟨o,_,l,he,hl,rfl⟩
    have ah:=eX S;cases e with
    |arr T k rows=>
     simp only[Kv,AI] at hd;subst hd;simp only[An] at O;simp only[rd];cases hl:S.ρ o with
     |none=>rw[hl] at z O;exact .inl ⟨.inl z,O.2⟩
     |some l=>
      rw[hl] at z O;obtain⟨h0,h2,vs,h3,h4,h5⟩:=O;exact .inr ⟨l.b,l.p,l.cap,vs,T,(0,0),z,by simp,h2,h0,ag l hl,h3,ZI ah.ok _ _ _ h5⟩
    |arrA T k rows=>
     simp only[Kv,CT] at hd;obtain⟨ds,hd,rfl⟩:=hd;simp only[An] at O;simp only[rd];have aa:=eV _ _ hd;cases hl:S.ρ o with
     |none=>
      rw[hl] at z O;obtain⟨_,O⟩:=O;subst O;exact .inl ⟨.inl z,wC (by simpa using aa)⟩
     |some l=>
      rw[hl] at z O;obtain⟨h0,h2,vs,h3,h4,h5⟩:=O;obtain⟨k1,k2⟩:=hr k rows ds _ (λm Z=>Q m (.inr (by simpa only[Ju] using Z))) hd h5;simp only[Ab.len] at z;exact .inr ⟨l.b,l.p,l.cap,vs,T,(0,0),by rw[aa];exact z,by simp,by rw[aa];exact h2,by rw[aa];exact h0,ag l hl,h3,k1⟩
    |_=>cases hd
  |mp o=>
   have h1:=Q o (by simp[C3]);simp only[bk] at hd;simp only[Aa] at z;rw[<-h1] at hd;cases he:S.h o with
   |none=>rw[he] at hd;cases hd
   |some e=>
    obtain⟨l,hl,rfl⟩:=z.2 e he;have O:=hW.obj o _ he;obtain⟨mu,e⟩:=e;rw[he] at hd;cases e with
    |map kt es=>
     simp only[L8,AI] at hd;subst hd;rw[hl] at O;simp only[An] at O;obtain⟨lc,af,ad,h2,h3,h4,h5,h6⟩:=O;cases h2;simp only[rd];exact⟨l.b,af,ad,rfl,h3,.inr ⟨o,_,l,he,hl,rfl⟩,h4,Li (eX S).ok _ _ h5,h6⟩
    |_=>cases hd
  |ptr o off=>
   simp only[C3,Bh] at Q;simp only[bk,CT] at hd;obtain⟨ds,hd,rfl⟩:=hd;simp only[rd];exact Qql hW (g:=C3 h n) (λx d v h1 h2 h3=>ih x d v h1 h2 h3) (Q o (.inl rfl)) (λm Z=>Q m (.inr Z)) hd z
  |clo f a c=>
   simp only[C3,Bn] at Q;simp only[bk] at hd;cases ha:Ar (bk h n) a with
   |none=>rw[ha] at hd;cases hd
   |some da=>
    cases hcc:Ar (bk h n) c with
    |none=>rw[ha,hcc] at hd;cases hd
    |some dc=>
     rw[ha,hcc] at hd;simp only[Ot,AI] at hd;subst hd;simp only[Aa] at z;obtain⟨va,vc,rfl,h3,h4⟩:=z;simp only[rd];exact⟨va,vc,rfl,hl a da _ (λm Z=>Q m (.inl Z)) ha h3,hl c dc _ (λm Z=>Q m (.inr Z)) hcc h4⟩
  |_=>simp[bk] at hd
def tO(hW:Wf C S){x:AV}{p:PK}{v:Value}(Q: ∀m∈C3 h 9 x,S.h m=h m)(hp:DY (bk h 9 x)=some p)(O:Aa S x v):HY S.froz p v:=by
 simp only[DY,CT] at hp;obtain⟨d,z,rfl⟩:=hp;simp only[HY];exact aX hW 9 x d v Q z O
def Oq(hW:Wf C S){o i off:Nat}{ds:List D}{v:Value}(h1:S.h o=h o)(hd:Xw i off (h o)=some ds)(O:Aa S (.eptr o i off) v):
 ∃b p vs T fr,v= .pointer (some ⟨b,p,none⟩)/\S.froz.ok b/\S.froz.hp b=some (.cells vs T fr)/\rdp S.froz.ok S.froz.hp ds (vs.toList.drop p):=by
 simp only[Aa] at O;obtain⟨_,O⟩:=O;rw[<-h1] at hd;cases he:S.h o with
 |none=>rw[he] at hd;cases hd
 |some e=>
  obtain⟨l,hl,rfl⟩:=O e he;have Z:S.froz.ok l.b:= .inr ⟨o,e,l,he,hl,rfl⟩;obtain⟨mu,e⟩:=e;rw[he] at hd;have z:=hW.obj o _ he;rw[hl] at z;cases e with
  |arr T k rows=>
   simp only[Xw] at hd;cases hr:rows[i]? with
   |none=>rw[hr] at hd;cases hd
   |some r=>
    rw[hr] at hd;simp only[L9,AI] at hd;subst hd;simp only[An] at z;obtain⟨_,_,vs,h5,_,h6⟩:=z;obtain⟨g1,g2⟩:=eB rows _ i h6 hr;refine⟨l.b,l.p+i*k+off,vs,T,(0,0),rfl,Z,h5,?_⟩;have h7:=V3 (eX S).ok _ _ g2;rw[DU] at h7;rcases Zfi off r.length with Q|Q
    .have:=Qc off r _ h7 Q
     rwa [DU] at this
    .rw[CS Q];simp only[rdp]
  |_=>cases hd
def TL(hW:Wf C S){x:AV}{p:PK}{v:Value}(z: ∀m∈C3 h 9 x,S.h m=h m)(hp:Dc h x=some p)(O:Aa S x v):HY S.froz p v:=by
 cases x with
 |im d=>
  simp only[Dc,AI] at hp;subst hp;simp only[Aa] at O;exact Qyv (mX hW) (GJ (eX S).ok d v O)
 |ptr o off=>
  simp only[C3,Bh] at z;simp only[Dc,Jr,CT] at hp;obtain⟨ds,Q,rfl⟩:=hp;obtain⟨b,q,vs,T,fr,Z,h3,h4,h5⟩:=Qql hW (g:=C3 h 8) (λx d v Q Z h3=>aX hW 8 x d v Q Z h3) (z o (.inl rfl)) (λm hm=>z m (.inr hm)) Q O;simp only[HY];exact⟨b,q,vs,T,fr,Z,(mX hW).oks b h3,h4,h5⟩
 |eptr o i off=>
  simp only[C3,Bh,aO,VJ] at z;simp only[Dc,Jr,CT] at hp;obtain⟨ds,Q,rfl⟩:=hp;obtain⟨b,q,vs,T,fr,Z,h3,h4,h5⟩:=Oq hW (z o rfl) Q O;simp only[HY];exact⟨b,q,vs,T,fr,Z,(mX hW).oks b h3,h4,h5⟩
 |own o=>exact tO hW z hp O
 |mp o=>exact tO hW z hp O
 |agg cs=>exact tO hW z hp O
 |tup cs=>exact tO hW z hp O
 |clo f a c=>exact tO hW z hp O
 |_=>cases hp
def Qtx(hW:Wf C S): ∀(xs:List AV) (ps:List PK) (vs:List Value),(∀m∈EE h xs,S.h m=h m)->Cf h xs=some ps->AJ S xs vs->E7 S.froz ps vs
 |[],ps,vs,_,hp,z=>by
  simp only[Cf,AI] at hp;subst hp;simp only[AJ] at z;simp only[E7];exact z
 |x::xs,ps,vs,Q,hp,z=>by
  simp only[Cf] at hp;simp only[AJ] at z;obtain⟨v,r,rfl,Z,h2⟩:=z;cases hx:Dc h x with
  |none=>rw[hx] at hp;cases hp
  |some p=>
   cases hr:Cf h xs with
   |none=>rw[hx,hr] at hp;cases hp
   |some qs=>
    rw[hx,hr] at hp;simp only[Hz,AI] at hp;subst hp;simp only[E7];refine⟨v,r,rfl,TL hW (λm O=>Q m ?_) hx Z,Qtx hW xs qs r (λm O=>Q m ?_) hr h2⟩
    .simp only[EE,F3];exact GZ _ O
    .simp only[EE,F3];exact Rj _ O
end
def PQ{P:Program}(HM:P.follows .mixedOrders=true){V:Dt}(hV:JE P V){g:FuncId}{fn:Func}{c:Code}(hf:P.funcs[g]? =some fn)(hb:fn.body=some c)(ab:Eh fn.ntmps c=true)
 {ps:List PK}(an:ps.length<=fn.ntmps){R:D->Prop}
 (hk:Dh P V c (aK P fn.results.toList R) ⟨entry 0 (CR 0 ps),CQ 0 ps,BK ps⟩)
 {C:AU}{S:Au}{vs:Array Value}{RR:Ending->World->Prop}(hW:Wf C S)(af:E7 S ps vs.toList)
 (ac: ∀(v:Value) (O:AU) (S1:Au) (d:D),O.w=S.w->O.ok=S.ok->(∀b,¬O.M b)->Wf O S1->R d->rd (T6 O S1) S1.hp d v->RR (.returned v) S1.w):Calls P g vs S.w RR:=by
 refine calls_of_wp hf hb ?_;have hvs:vs.size=(CR 0 ps).length:=by rw[ZD];simpa using af.len
 obtain⟨ls,ad,hcl⟩:=mN ps vs.toList 0 af
 let S0:Au:=⟨ls,S.ok,hget (CQ 0 ps),S.w⟩
 let O:AU:=⟨S.w,λ_=>False,S.ok,0,λ_=>none,λ_=>none,[]⟩
 have ai:Wf O S0:=by
  refine⟨rfl,rfl,rfl,AL _,λ_ _ _=>rfl,λ_ hb=>hb,λ_ hb=> .inl hb,hW.oks,?_,?_,?_,hW.glN λ_ h=>h.elim⟩
  .intro n e z;obtain⟨l,Q,_,h3⟩:=ad n e z;have h4:S0.ρ n=some l:=Q;rw[h4];obtain⟨_,cs,rfl⟩:=FW 0 ps n e z;simp only[An] at h3⊢;exact h3
  .intro n e l z hl;obtain⟨l',Q,h2,h3⟩:=ad n e z;have h4:S0.ρ n=some l':=Q;rw[h4] at hl;obtain rfl:=Ay hl;obtain⟨_,cs,rfl⟩:=FW 0 ps n e z;exact⟨h2,.inr rfl⟩
  .intro n n' e e' l l' z ak hl au aq am;obtain⟨_,cs,rfl⟩:=FW 0 ps n e z;obtain⟨_,ao,rfl⟩:=FW 0 ps n' e' ak;simp at am
 have aj:BF O fn.ntmps ⟨entry 0 (CR 0 ps),CQ 0 ps,BK ps⟩ {tmps:=vs++Array.replicate (fn.ntmps - vs.size) undef,defers:=[]} S.w:=by
  have Z:AJ S0 (CR 0 ps) vs.toList:=hcl S0 rfl rfl (λn _=>⟨rfl,rfl⟩);refine⟨S0,rfl,ai,λn=>rfl,?_,?_,?_,by simp;rw[ZD] at hvs;omega,rfl,CC _,λo ho=>absurd ho (wJ _)⟩
  .intro t;have Q:=lM (S:=S0) (CR 0 ps) vs.toList 0 t Z;simp only[CC,BI,nU] at Q
   have:({tmps:=vs++Array.replicate (fn.ntmps - vs.size) undef,defers:=[]}:Act).eval (.tmp t)=(vs.toList[t]?).getD undef:=by
    simp only[Act.eval,HG,wO,gL];by_cases ht:t<vs.size
    .simp[ht]
    .simp only[ht,Cr]
     have:vs[t]? =none:=Xm (by omega)
     simp only[Gd,this]
     split<;>rfl
   rw[this];exact Q
  .intro t m hm;exact tJ 0 ps (BK ps) (by omega) m (lU (CR 0 ps) 0 t m hm)
  .intro n e z;obtain⟨Q,cs,rfl⟩:=FW 0 ps n e z;exact⟨by show n<BK ps;omega,by simp[Ab.nms]⟩
 refine wp_mono (Qo4 HM (fU hV) c ab _ _ _ _ hk aj) ?_;have fin: ∀(s:Av) (a:Act) (w:World),KR P fn.results.toList R s->BF O fn.ntmps s a w->a.defers=[]/\ ∃v,(results fn a.tmps).run P w= .ok v w/\RR (.returned v) w:=by
  rintro s a w hr ⟨S1,rfl,hc⟩;unfold KR at hr;cases hxs:Ar (Kp P s) fn.results.toList with
  |none=>rw[hxs] at hr;exact hr.elim
  |some xs=>
   rw[hxs] at hr;simp only[MK] at hr;obtain⟨v,ag,aa⟩:=sR hc hxs;refine⟨hc.defers,v,ag,?_⟩;have ah:hget s.h=S1.h:=(funext hc.h).symm;rw[ah] at hr;obtain⟨d,Q,h2⟩:=Qzf (λ_ h=>h) hc.wf hr aa;exact ac v O S1 d rfl rfl (λ_ h=>h) hc.wf Q h2
 intro e a w z;cases e<;>simp only[FQ] at z<;>simp only[bodyPost]
 .obtain⟨s,hs,hc⟩:=z;exact fin s a w hs hc
 .obtain⟨s,hs,_⟩:=z;exact hs.elim
 .obtain⟨s,hs,hc⟩:=z;exact fin s a w hs hc
def Vy{A:Type}(ar:List PK->Option A)(pre:A->Prop)(re:A->D)(u:List Nat)(K:Ah):Option (List PK)->Prop
 |some z=>DV (λa=>pre a/\K (.im (re a)) {use:=u}) (ar z)
 |none=>False
def NT{A:Type}(ar:List PK->Option A)(pre:A->Prop)(re:A->D):A7:=λargs h _ K=>Vy ar pre re (EE h args) K (Cf h args)
def BC{B:Type}(rc:D->Option B)(b:B)(d:D):Prop:=rc d=some b
def Quy{P:Program}{g:FuncId}(ag:He P g=true)
 {A B:Type}{ar:List PK->Option A}{ae:A->List PK}(aw: ∀ps a,ar ps=some a->Ca ps (ae a)){rc:D->Option B}{re:B->D}(ay: ∀d b,rc d=some b->Le d (re b))
 {pre:A->Prop}{f:A->B}
 (aj: ∀a,pre a-> ∀{C:AU} {S:Au} {vs:Array Value} {RR:Ending->World->Prop},Wf C S->E7 S (ae a) vs.toList->
  (∀(v:Value) (C0:AU) (S1:Au) (d:D),C0.w=S.w->C0.ok=S.ok->(∀b,¬C0.M b)->Wf C0 S1->BC rc (f a) d->rd (T6 C0 S1) S1.hp d v->RR (.returned v) S1.w)->Calls P g vs S.w RR):
 H8 P g (NT ar pre λa=>re (f a)):=by
 intro args h nx K z;unfold NT at z;cases hp:Cf h args with
 |none=>rw[hp] at z;exact z.elim
 |some ps=>
  rw[hp] at z;simp only[Vy] at z;cases ha:ar ps with
  |none=>rw[ha] at z;exact z.elim
  |some a=>
   rw[ha] at z;simp only[DV] at z;obtain⟨ai,hK⟩:=z;refine⟨Lp ag,_,_,?_,hK⟩;intro C S vs RR hW ak am an ac ah;have ax:=Qtx hW args ps vs.toList (λm hm=>ak m (GZ _ hm)) hp ac;have au:=mX hW;refine aj a ai (S:=S.froz) au ((aw ps a ha).c ax) ?_;intro v C0 S1 d Q af ao aa hR az;have Q:C0.w=S.w:=Q;have af:C0.ok=S.froz.ok:=af;have Z: ∀b,b<S.w.heap.size->S1.w.heap[b]? =S.w.heap[b]? :=λb O=>by
    have:=aa.keep b (by rw[Q];exact O) (ao b)
    rw[Q] at this;exact this
   have ad:S.w.heap.size<=S1.w.heap.size:=by have:=aa.size;rw[Q] at this;exact this
   let S':Au:={S with ok:=λb=>S.ok b\/T6 C0 S1 b,w:=S1.w}
   have hp':Bv (λ_=>True) S S':=⟨λb O=>⟨.inl O,Z b (hW.oks b O)⟩,λo _ e' av=>⟨e',av,rfl,rfl,rfl⟩⟩;have ab: ∀b,T6 C0 S1 b->S.w.heap.size<=b:=λb O=>by have:=O.1;rw[Q] at this;exact this
   have aq:Wf C S':=by
    refine⟨?_,?_,?_,DH hW.size ad,?_,λb O=> .inl (hW.ok0 b O),?_,?_,?_,?_,hW.inj,hW.gl⟩
    .exact aa.os.trans (by rw[Q];exact hW.os)
    .exact aa.tape.trans (by rw[Q];exact hW.tape)
    .exact aa.output.trans (by rw[Q];exact hW.output)
    .intro b O hM;exact (Z b (EJ O hW.size)).trans (hW.keep b O hM)
    .rintro b (O|O)
     .exact hW.ok1 b O
     .exact .inr (.inl (DH hW.size (ab b O)))
    .rintro b (O|O)
     .exact EJ (hW.oks b O) ad
     .exact O.2.1
    .intro o e he;exact Ho hp' (λlc hl=>Z lc.b (hW.loc o e lc he hl).1) _ (λ_ _=>trivial) (hW.obj o e he)
    .intro o e l he hl;obtain⟨h2,h3⟩:=hW.loc o e l he hl;refine⟨EJ h2 ad,?_⟩;cases hm:e.1 with
     |false=>
      rw[hm] at h3;simp only[CE,Cr] at h3⊢;exact h3.imp (λh=> .inl h) id
     |true=>
      rw[hm] at h3;simp only[BI] at h3⊢;refine⟨?_,h3.2⟩;rintro (h|h)
      .exact h3.1 h
      .have:=ab _ h;omega
   refine ah v S' aq ?_ ⟨hp'.ok,λo _=>hp'.nm o trivial⟩ ?_
   .show S.h=_;funext m;simp[Bk.appf,hget]
   .simp only[Aa];have h9:=ay _ _ hR _ _ _ az;exact GJ (λb O=>⟨.inr O,rfl⟩) _ _ h9
def Qbn{P:Program}(HM:P.follows .mixedOrders=true){V:Dt}(hV:JE P V){g:FuncId}{fn:Func}{c:Code}(hf:P.funcs[g]? =some fn)(hb:fn.body=some c)(O:Eh fn.ntmps c=true)(z:He P g=true)
 {A B:Type}{ar:List PK->Option A}{ae:A->List PK}(aa: ∀ps a,ar ps=some a->Ca ps (ae a)){n:Nat}(hn: ∀a,(ae a).length=n)(ab:n<=fn.ntmps){rc:D->Option B}{re:B->D}(ad: ∀d b,rc d=some b->Le d (re b))
 {pre:A->Prop}{f:A->B}
 (hk: ∀a,pre a->Dh P V c (aK P fn.results.toList (BC rc (f a))) ⟨entry 0 (CR 0 (ae a)),CQ 0 (ae a),BK (ae a)⟩):
 H8 P g (NT ar pre λa=>re (f a)):=
 Quy z aa ad (λa Z _ _ _ _ hW ac Q=>PQ HM hV hf hb O (by rw[hn];exact ab) (hk a Z) hW ac Q)
end Go.Ae
