/- Lemmas. Conditions: none. -/
import Derived.Test.YtnlohpcinfedjaaGreatDoorP10
import Derived.RangeFuncNested
import Derived.RangeFuncLeaves
import Derived.OrdersIn
set_option linter.all false
set_option maxHeartbeats 8000000
set_option maxRecDepth 100000
namespace Go.Ae
open Go
def Op.calm:Op->Bool
 | .defer _=>false
 |o=> !Go.Ae.Op.comm o
def X3(ops:Array Oper):Bool:=ops.toList.all λo=>Go.Ae.Op.calm o.op
def sZ{ops:Array Oper}(h:X3 ops=true){i:Nat}{o:Oper}(z:ops[i]? =some o):Go.Ae.Op.calm o.op=true:=by
 unfold X3 at h;rw[Fk] at h;exact h o (Bh (by simpa using z))
def wR(ro:Option Nat):Fence:={Fence.wide with round:=ro}
def Ia:Code->Bool
 | .region _ ops _=>X3 ops
 | .seq a b=>Ia a && Ia b
 | .cond _ a b=>Ia a && Ia b
 | .block _ c=>Ia c
 | .loop c=>Ia c
 |_=>true
section
variable {P:Program}{ro:Option Nat}{n:Nat}
def Qlw{o:Oper}{a:Act}{w:World}{next z:Act->World->Prop}{Q:Exit->Act->World->Prop}(hc:Go.Ae.Op.calm o.op=true)(G: ∀a w,next a w->z a w)(h:o.wp P a w next (λ_ _ _=>False)):
 o.wpIn (wR ro) n P a w z Q:=by
 refine⟨λ_ _=>trivial,?_⟩;have e:o.semAt (wR ro).round a.eval=execOp a.eval o:=Oper.semAt_eq _ _ _ (λc O=>by rw[O] at hc;cases hc);rw[e];unfold Oper.wp at h;have aa: ¬LetsOut (λ_ _ _=>False):=λ⟨_,_,h⟩=>h
 cases hr:(execOp a.eval o).run P w with
 |ok x w'=>
  rw[hr] at h;cases x<;>simp only[Oper.upon] at h<;>try exact h.elim
  case value v=>exact G _ _ h
  case skip=>exact G _ _ h
  case defer d=>exact G _ _ h
  case enter f args=>
   refine⟨λhd=>(by cases hd),?_⟩;have h1:CallsIn Fence.wide (n - 1) P f args w' _:=callsIn_wide.2 h;refine (show CallsIn Fence.wide (n - 1) P f args w' _ from CallsIn.mono h1 ?_);intro e w'' Z;cases e with
   |returned v=>exact G _ _ Z
   |panicked c=>exact Z.elim
   |outgrown=>exact (aa Z).elim
  case row row args=>
   refine⟨λhd=>(by cases hd),?_⟩;intro c cs _;obtain⟨v,w'',hR,hs⟩:=h c cs;exact⟨v,w'',G _ _ hR,stepsIn_wide.2 hs⟩
 |halt x w'=>
  rw[hr] at h;cases x<;>simp only[Oper.upon] at h
def zM{ops:Array Oper}(z:X3 ops=true){Q:Exit->Act->World->Prop}: ∀(ls:List Nat) (a:Act) (w:World),LG P ops (Q .normal) ls a w->wpOpsIn (wR ro) n P ops Q ls a w
 |[],a,w,h=>h
 |i::G,a,w,h=>by
  simp only[LG] at h;simp only[wpOpsIn];cases ho:ops[i]? with
  |none=>rw[ho] at h;exact zM z G a w h
  |some o=>
   rw[ho] at h;simp only at h⊢;split
   .rename_i hw;rw[Al hw] at h;rcases h with ⟨o',O,_,Z⟩|⟨O,_⟩
    .rw[ho] at O;obtain rfl:=AC O;exact Qlw (sZ z ho) (λa w h=>zM z G a w h) Z
    .have h2:=O o ho;have Z:=sZ z ho;exfalso;cases hop:o.op<;>rw[hop] at h2 Z<;>simp[Op.comm,Op.calm] at h2 Z
   .rename_i hw;rw[Ag hw] at h;exact⟨λ_ _=>trivial,zM z G _ w h⟩
def zL{ops:Array Oper}(z:X3 ops=true){K:Act->World->Prop}{Q:Exit->Act->World->Prop}{l2:List Nat}(hK: ∀a w,K a w->wpOpsIn (wR ro) n P ops Q l2 a w): ∀(ls:List Nat) (a:Act) (w:World),LG P ops K ls a w->wpOpsIn (wR ro) n P ops Q (ls++l2) a w
 |[],a,w,h=>hK a w h
 |i::G,a,w,h=>by
  simp only[LG] at h;simp only[Ci,wpOpsIn];cases ho:ops[i]? with
  |none=>rw[ho] at h;exact zL z hK G a w h
  |some o=>
   rw[ho] at h;simp only at h⊢;split
   .rename_i hw;rw[Al hw] at h;rcases h with ⟨o',O,_,Z⟩|⟨O,_⟩
    .rw[ho] at O;obtain rfl:=AC O;exact Qlw (sZ z ho) (λa w h=>zL z hK G a w h) Z
    .have h2:=O o ho;have Z:=sZ z ho;exfalso;cases hop:o.op<;>rw[hop] at h2 Z<;>simp[Op.comm,Op.calm] at h2 Z
   .rename_i hw;rw[Ag hw] at h;exact⟨λ_ _=>trivial,zL z hK G _ w h⟩
def zF{ops:Array Oper}(G:X3 ops=true){Q:Exit->Act->World->Prop}(O: ¬LetsOut Q)(Z: ∀c a w,¬Q (.panic c) a w): ∀(fuel:Nat) (listed:Array Bool) (a:Act) (w:World),wpAny P .any ops Q fuel listed a w->wpAnyIn (wR ro) n P .any ops Q fuel listed a w
 |0,listed,a,w,h=>h
 |fuel+1,listed,a,w,h=>by
  simp only[wpAny] at h;simp only[wpAnyIn];refine⟨h.1,λi hi=> ?_⟩;have z:=h.2 i hi;unfold wpOp at z;unfold wpOpIn;cases ho:ops[i]? with
  |none=>rw[ho] at z;exact zF G O Z fuel _ a w z
  |some o=>
   rw[ho] at z;simp only at z⊢;split
   .rename_i hw;rw[Al hw] at z;rcases z with z|z
    .refine Qlw (sZ G ho) (λa w h=>zF G O Z fuel _ a w h) ?_;unfold Oper.wp at z⊢;cases hr:(execOp a.eval o).run P w with
     |ok x w'=>
      rw[hr] at z;cases x<;>simp only[Oper.upon] at z⊢ <;>try exact z
      refine Calls.mono z ?_;intro e w'' he;cases e with
      |returned v=>exact he
      |panicked c=>exact Z _ _ _ he
      |outgrown=>exact (O he).elim
     |halt x w'=>
      rw[hr] at z;cases x<;>simp only[Oper.upon] at z⊢ <;>try exact z
      exact Z _ _ _ z
    .exact (O z.2).elim
   .rename_i hw;rw[Ag hw] at z;exact⟨λ_ _=>trivial,zF G O Z fuel _ _ w z⟩
end
section
variable {P:Program}{V:D4}{C:Ba}{N n:Nat}{ro:Option Nat}
def ZQ{Q:C4}: ¬LetsOut (Gv C N Q):=λ⟨_,_,h⟩=>h
def Qq{Q:C4}: ∀c a w,¬Gv C N Q (.panic c) a w:=λ_ _ _ h=>h
def lZ(HM:P.follows .mixedOrders=true)(HV:HB P V): ∀(c:Code),E0 N c=true->Ia c=true-> ∀(Q:C4) (s:A8) (a:Act) (w:World),D6 P V c Q s->BR C N s a w->c.wpIn (wR ro) n P (Gv C N Q) a w:=by
 intro c;induction c with
 |skip=>intro _ _ Q s a w h G;exact wpIn_skip ⟨s,h,G⟩
 |region id ops an=>
  intro hk hl Q s a w h G;simp only[E0,Bc] at hk;cases an with
  |true=>exact wpIn_region_any HM (zF hl ZQ Qq _ _ _ _ (Qog HV (λs a w h1 h2=>⟨s,h1,h2⟩) hk.1 (by simpa using hk.2) h G))
  |false=>
   refine wpIn_region (zM hl _ _ _ ?_)
   have:=Qpr HV (ops:=ops) (Q:=Gv C N Q) (λs a w h1 h2=>⟨s,h1,h2⟩) ops.toList [] 0 (by simp) hk.1 s a w h G
   rwa [Fj,<-Zeq] at this
 |seq x y ak am=>
  intro hk hl Q s a w h G;simp only[E0,Bc] at hk;simp only[Ia,Bc] at hl;simp only[D6] at h;refine wpIn_seq (wpIn_mono (ak hk.1 hl.1 _ s a w h G) (aU ?_ ?_ ?_))
  .intro s a w hs G;exact am hk.2 hl.2 Q s a w hs G
  .intro i s hs;exact hs
  .intro s hs;exact hs
 |cond c x y ak am=>
  intro hk hl Q s a w h G;simp only[E0,Bc] at hk;simp only[Ia,Bc] at hl;simp only[D6] at h;obtain⟨S,ao,aj⟩:=G;have h1:=Rx aj c;cases hv:Aw s.tm c<;>rw[hv] at h<;>try exact h.elim
  rename_i d;cases d<;>try exact h.elim
  rename_i b;rw[hv] at h1;simp only[Aa,rd] at h1;simp only[vQ] at h;refine wpIn_cond_split h1 (λhb=>ak hk.1 hl.1 Q s a w (h.1 hb) ⟨S,ao,aj⟩) (λhb=>am hk.2 hl.2 Q s a w (h.2 hb) ⟨S,ao,aj⟩)
 |block id c ih=>
  intro hk hl Q s a w h G;simp only[D6] at h;refine wpIn_block (wpIn_mono (ih hk hl _ s a w h G) ?_);intro e a w he;cases e<;>simp only[Gv] at he<;>simp only[Exit.inBlock,Gv]
  .exact he
  .rename_i i;obtain⟨s,hs,G⟩:=he;simp only[nH] at hs;by_cases hi:i=id
   .subst hi;rw[Al rfl];exact⟨s,by simpa[Jx] using hs,G⟩
   .rw[Ag hi]
    have:(i==id)=false:=by simpa using hi
    rw[this] at hs;exact⟨s,hs,G⟩
  .exact he
 |loop c ih=>
  intro hk hl Q s a w h G;have ai: ∀(s:A8),aZ (D6 P V c) Q s->BR C N s a w->(Code.loop c).wpIn (wR ro) n P (Gv C N Q) a w:=by
   clear h G;intro s h G;simp only[aZ] at h;obtain⟨β,I,μ,z,⟨b0,ad⟩,O⟩:=h
   let p:Act->World->Nat->Prop:=λa w n=> ∃b,BR C N (I b) a w/\μ b=n
   let μ':Act->World->Nat:=λa w=>Classical.epsilon λn=>p a w n/\ ∀k,k<n-> ¬p a w k
   have hμ: ∀a w b,BR C N (I b) a w->p a w (μ' a w)/\ ∀k,k<μ' a w-> ¬p a w k:=by
    intro a w b hb;exact nO (p:=λn=>p a w n/\ ∀k,k<n-> ¬p a w k) (NS (μ b) ⟨b,hb,rfl⟩)
   have ab: ∀b,C.n0<=(I b).nx:=by
    intro b;obtain⟨S,_,h⟩:=G;exact CW h.n0 (z b).2
   refine wpIn_loop (λa w=> ∃b,BR C N (I b) a w) μ' ⟨b0,mY G ad (z b0).1 (ab b0)⟩ ?_;rintro a w ⟨b,hb⟩;obtain⟨⟨b1,af,au⟩,_⟩:=hμ a w b hb;refine wpIn_mono (ih hk hl _ _ a w (O b1) af) (aU ?_ ?_ ?_)
   .rintro s' a' w' ⟨b',aq,ac⟩ ag;have Z:=mY ag ac (z b').1 (ab b');refine⟨⟨b',Z⟩,?_⟩;obtain⟨_,aa⟩:=hμ a' w' b' Z;rcases FR (μ b') (μ' a' w') with h1|h1
    .exact absurd ⟨b',Z,rfl⟩ (aa _ h1)
    .omega
   .intro i s hs;exact hs
   .intro s hs;exact hs
  simp only[D6,AZ] at h;rcases h with h|h|⟨F,h⟩|h
  .exact ai s h G
  .simp only[Qsi] at h;obtain⟨β,I,μ,z,⟨b0,π0,ad⟩,O⟩:=h
   let p:Act->World->Nat->Prop:=λa w n=> ∃b,BR C N (I b) a w/\μ b=n
   let μ':Act->World->Nat:=λa w=>Classical.epsilon λn=>p a w n/\ ∀k,k<n-> ¬p a w k
   have hμ: ∀a w b,BR C N (I b) a w->p a w (μ' a w)/\ ∀k,k<μ' a w-> ¬p a w k:=by
    intro a w b hb;exact nO (p:=λn=>p a w n/\ ∀k,k<n-> ¬p a w k) (NS (μ b) ⟨b,hb,rfl⟩)
   have ah:C.n0<=s.nx:=by
    obtain⟨S,_,h⟩:=G;exact h.n0
   have ab: ∀b,C.n0<=(I b).nx:=by
    intro b;obtain⟨S,_,h⟩:=G;exact CW h.n0 (z b).2
   refine wpIn_loop (λa w=> ∃b,BR C N (I b) a w) μ' ⟨b0,R0 G ad (z b0).1 ah (ab b0)⟩ ?_;rintro a w ⟨b,hb⟩;obtain⟨⟨b1,af,au⟩,_⟩:=hμ a w b hb;refine wpIn_mono (ih hk hl _ _ a w (O b1) af) (aU ?_ ?_ ?_)
   .rintro s' a' w' ⟨b',π,aq,ac⟩ ag;have Z:=R0 ag ac (z b').1 ah (ab b');refine⟨⟨b',Z⟩,?_⟩;obtain⟨_,aa⟩:=hμ a' w' b' Z;rcases FR (μ b') (μ' a' w') with h1|h1
    .exact absurd ⟨b',Z,rfl⟩ (aa _ h1)
    .omega
   .intro i s hs;exact hs
   .intro s hs;exact hs
  .exact ai _ h (Qxl F G)
  .simp only[Qsf] at h;obtain⟨β,I,μ,z,⟨b0,F0,π0,ad⟩,O⟩:=h
   let p:Act->World->Nat->Prop:=λa w n=> ∃b,BR C N (I b) a w/\μ b=n
   let μ':Act->World->Nat:=λa w=>Classical.epsilon λn=>p a w n/\ ∀k,k<n-> ¬p a w k
   have hμ: ∀a w b,BR C N (I b) a w->p a w (μ' a w)/\ ∀k,k<μ' a w-> ¬p a w k:=by
    intro a w b hb;exact nO (p:=λn=>p a w n/\ ∀k,k<n-> ¬p a w k) (NS (μ b) ⟨b,hb,rfl⟩)
   have ah:C.n0<=s.nx:=by
    obtain⟨S,_,h⟩:=G;exact h.n0
   have ab: ∀b,C.n0<=(I b).nx:=by
    intro b;obtain⟨S,_,h⟩:=G;exact CW h.n0 (z b).2
   refine wpIn_loop (λa w=> ∃b,BR C N (I b) a w) μ' ⟨b0,R0 (uZ F0 G) ad (z b0).1 ah (ab b0)⟩ ?_;rintro a w ⟨b,hb⟩;obtain⟨⟨b1,af,au⟩,_⟩:=hμ a w b hb;refine wpIn_mono (ih hk hl _ _ a w (O b1) af) (aU ?_ ?_ ?_)
   .rintro s' a' w' ⟨b',F,π,aq,ac⟩ ag;have Z:=R0 (uZ F ag) ac (z b').1 ah (ab b');refine⟨⟨b',Z⟩,?_⟩;obtain⟨_,aa⟩:=hμ a' w' b' Z;rcases FR (μ b') (μ' a' w') with h1|h1
    .exact absurd ⟨b',Z,rfl⟩ (aa _ h1)
    .omega
   .intro i s hs;exact hs
   .intro s hs;exact hs
 |exit id=>intro _ _ Q s a w h G;exact wpIn_exit ⟨s,h,G⟩
 |ret=>intro _ _ Q s a w h G;exact wpIn_ret ⟨s,h,G⟩
 |_=>intro hk;simp[E0] at hk
end
def F2(S:Ay)(b:Nat):Prop:= ∃o e z,S.h o=some e/\e.1=true/\S.ρ o=some z/\z.b=b
def QT(S:Ay)(b:Nat):Prop:= ∃o e z,S.h o=some e/\S.ρ o=some z/\z.b=b
def GI(S:Ay)(n0:Nat)(ds:List Deferred):Ba:=⟨S.w,F2 S,S.ok,n0,S.h,S.ρ,ds⟩
def X1{C:Ba}{S:Ay}(h:Wf C S){b:Nat}(Z:F2 S b):b<S.w.heap.size/\ ¬S.ok b/\(C.w.heap.size<=b\/C.M b):=by
 obtain⟨o,e,lc,G,O,Q,rfl⟩:=Z;obtain⟨q1,z⟩:=h.loc o e lc G Q;rw[O] at z;simp only[Bb] at z;exact⟨q1,z.1,z.2⟩
def UV{C:Ba}{S:Ay}(h:Wf C S)(n0:Nat)(ds:List Deferred):Wf (GI S n0 ds) S:=by
 refine⟨rfl,rfl,rfl,AU _,AU _,λ_ _ _=>rfl,λ_ h=>h,λ_ h=> .inl h,h.oks,h.obj,λo e l G O=> ?_,h.inj,h.glN λ_ Q=>(X1 h Q).2.1⟩;obtain⟨q1,z⟩:=h.loc o e l G O;refine⟨q1,?_⟩;cases hm:e.1 with
 |true=>
  rw[hm] at z;simp only[Bb] at z⊢;exact⟨z.1,.inr ⟨o,e,l,G,hm,O,rfl⟩⟩
 |false=>rw[hm] at z;simpa using z
def Zl{C:Ba}{N:Nat}{s:A8}{S:Ay}{a:Act}(h:Dc C N s S a):Dc (GI S s.nx a.defers) N s S a:=
 ⟨UV h.wf _ _,h.h,h.tm,h.nmT,h.nmH,h.size,rfl,AU _,λ_ _ e' z=>⟨e',z,rfl,rfl,rfl⟩⟩
def Qrn{C:Ba}{S S':Ay}{n0:Nat}{ds:List Deferred}(hW:Wf C S)(h:Wf (GI S n0 ds) S'):Wf C S':=by
 have O:C.w.heap.size<=S.w.heap.size:=hW.size;have Q:S.w.heap.size<=S'.w.heap.size:=h.size;refine⟨h.os.trans hW.os,h.tape.trans hW.tape,h.output.trans hW.output,CW hW.dr h.dr,CW O Q,λb z Z=> ?_,λb z=>h.ok0 b (hW.ok0 b z),λb z=> ?_,h.oks,h.obj,λo e l h1 h2=> ?_,h.inj,hW.gl⟩
 .refine (h.keep b (FC z O) (λho=> ?_)).trans (hW.keep b z Z);rcases (X1 hW ho).2.2 with q|q
  .omega
  .exact Z q
 .rcases h.ok1 b z with q|q|q
  .exact hW.ok1 b q
  .exact .inr (.inl (CW O q))
  .exact .inr (X1 hW q).2.2
 .obtain⟨q1,G⟩:=h.loc o e l h1 h2;refine⟨q1,?_⟩;cases hm:e.1 with
  |true=>
   rw[hm] at G;simp only[Bb] at G⊢;refine⟨G.1,?_⟩;rcases G.2 with q|q
   .exact .inl (CW O q)
   .exact (X1 hW q).2.2
  |false=>rw[hm] at G;simpa using G
def aQ{S S':Ay}{n0:Nat}{ds:List Deferred}(h:Wf (GI S n0 ds) S'): ∀b,b<S.w.heap.size-> ¬F2 S b->S'.w.heap[b]? =S.w.heap[b]? :=h.keep
def mT{S S':Ay}{n0:Nat}{ds:List Deferred}(h:Wf (GI S n0 ds) S'){b:Nat}(z:F2 S' b):S.w.heap.size<=b\/F2 S b:=(X1 h z).2.2
def bF{S S':Ay}{n0:Nat}{ds:List Deferred}(h:Wf (GI S n0 ds) S'){b:Nat}(z:S'.ok b):S.ok b\/S.w.heap.size<=b\/F2 S b:=h.ok1 b z
structure RD(S:Ay)(W':World):Prop where
 size:S.w.heap.size<=W'.heap.size
 os:W'.os=S.w.os
 tape:W'.tape=S.w.tape
 output:W'.output=S.w.output
 dr:S.w.drawn<=W'.drawn
 ok: ∀b,S.ok b->W'.heap[b]? =S.w.heap[b]?
 nm: ∀b,QT S b->W'.heap[b]? =S.w.heap[b]?
def sY{S:Ay}{W':World}(h:RD S W')(X:Nat->Prop):BA X S {S with w:=W'}:=⟨λb G=>⟨G,h.ok b G⟩,λ_ _ e' z=>⟨e',z,rfl,rfl,rfl⟩⟩
def Q0{C:Ba}{S:Ay}{W':World}(hW:Wf C S)(h:RD S W'):GP S.ok (λb=>W'.heap[b]?):=hW.gp.mono λb _ z G=>⟨z,(h.ok b z).trans G⟩
def uF{C:Ba}{S:Ay}{W':World}(hW:Wf C S)(h:RD S W')(hk: ∀b,b<C.w.heap.size-> ¬C.M b->W'.heap[b]? =S.w.heap[b]?):Wf C {S with w:=W'}:=by
 refine⟨h.os.trans hW.os,h.tape.trans hW.tape,h.output.trans hW.output,CW hW.dr h.dr,CW hW.size h.size,λb z O=>(hk b z O).trans (hW.keep b z O),hW.ok0,hW.ok1,λb z=>FC (hW.oks b z) h.size,λo e Q=> ?_,λo e l h1 h2=> ?_,hW.inj,hW.gl⟩
 .exact H9 (sY h λ_=>True) (λZ G=>h.nm Z.b ⟨o,e,Z,Q,G,rfl⟩) e.2 (λ_ _=>trivial) (hW.obj o e Q)
 .obtain⟨q1,q2⟩:=hW.loc o e l h1 h2;exact⟨FC q1 h.size,q2⟩
def Qul{C:Ba}{N:Nat}{s:A8}{S:Ay}{a:Act}{W':World}(z:Dc C N s S a)(h:RD S W')(G: ∀b,b<C.w.heap.size-> ¬C.M b->W'.heap[b]? =S.w.heap[b]?):Dc C N s {S with w:=W'} a:=
 ⟨uF z.wf h G,z.h,λt=>I5 (sY h λ_=>True) _ _ (λ_ _=>trivial) (z.tm t),z.nmT,z.nmH,z.size,z.defers,z.n0,z.pre⟩
def Qk9{S:Ay}{l:Nat}{o:Obj}(G: ¬S.ok l)(O: ¬QT S l):RD S (S.w.putObj l o):=by
 refine⟨by simp,rfl,rfl,rfl,AU _,λb z=> ?_,λb z=> ?_⟩
 .exact World.putObj_heap_other (λe=>G (e▸z))
 .exact World.putObj_heap_other (λe=>O (e▸z))
structure IP(ok0:Nat->Prop)(Pr:Nat->Prop)(W:World)(Pr':Nat->Prop)(W':World):Prop where
 size:W.heap.size<=W'.heap.size
 os:W'.os=W.os
 tape:W'.tape=W.tape
 output:W'.output=W.output
 dr:W.drawn<=W'.drawn
 pr: ∀b,Pr' b->Pr b\/W.heap.size<=b
 same: ∀b,b<W.heap.size->(¬Pr b\/ok0 b)->W'.heap[b]? =W.heap[b]?
def O3{ι:Type}(base:Nat)(J:ι->(Nat->Prop)->World->Prop):Prop:=
 ∀i Pr W,J i Pr W->(∀b,Pr b->b<W.heap.size)/\ ∀W',W.heap.size<=W'.heap.size->W'.os=W.os->W'.tape=W.tape->W'.output=W.output->W.drawn<=W'.drawn->(∀b,Pr b\/b<base->W'.heap[b]? =W.heap[b]?)->J i Pr W'
structure oS where
 I:Type
 i0:I
 step:I->List D->I->Prop
 fin:I->Prop
def L5(P:Program)(gf:Nat)(capt:List D)(X:oS):Prop:=
 ∀(C:Ba) (S:Ay) (vs:Array Value) (l:Nat) (J:X.I->(Nat->Prop)->World->Prop),Wf C S->rdl S.ok S.hp capt vs.toList->O3 S.w.heap.size J->
  (∀i x j args Pr W,X.step i x j->(∀ok hp,rdl ok hp x args.toList)->J i Pr W->YieldAt Fence.wide 0 P l args W λe W'=>e= .returned (.bool true)/\ ∃Pr',J j Pr' W'/\IP S.ok Pr W Pr' W')->
  (∃Pr,J X.i0 Pr S.w)->Calls P gf (#[.func (.yield l) #[] #[]]++vs) S.w λe W'=> ∃v Pr i,e= .returned v/\X.fin i/\J i Pr W'
def jE(xs:List (List D)):oS:=⟨Nat,0,λi x j=>xs[i]? =some x/\j=i+1,λi=>i=xs.length⟩
def Kt(P:Program)(gf:Nat)(capt:List D)(xs:List (List D)):Prop:=L5 P gf capt (jE xs)
def FJ:List Tmp->List D->List (Nat×AV)->List (Nat×AV)
 |t::ts,d::ds,tm=>FJ ts ds ((t,.im d)::tm)
 |[],_,tm=>tm
 |_::_,[],tm=>tm
def Gn:List Tmp->List Value->Array Value->Array Value
 |t::ts,v::z,A=>Gn ts z (A.setIfInBounds t v)
 |[],_,A=>A
 |_::_,[],A=>A
def Zh(ps:Array Tmp)(args:Array Value)(A:Array Value):(ps.zip args).foldl (λz (t,a)=>z.setIfInBounds t a) A=Gn ps.toList args.toList A:=by
 rw[<-Array.foldl_toList,Array.toList_zip];generalize ps.toList=l;generalize args.toList=m;induction l generalizing m A with
 |nil=>simp[Gn]
 |cons t ts ih=>
  cases m with
  |nil=>simp[Gn]
  |cons v G=>simp only[List.zip_cons_cons,KN,Gn];exact ih _ _
def Qv4: ∀(ts:List Tmp) (vs:List Value) (A:Array Value),(Gn ts vs A).size=A.size
 |t::ts,v::vs,A=>by simp only[Gn,Qv4 ts vs,ZdU]
 |[],_,A=>rfl
 |_::_,[],A=>rfl
def Qv1{S:Ay}: ∀(ts:List Tmp) (ds:List D) (vs:List Value) (tm:List (Nat×AV)) (A:Array Value),rdl S.ok S.hp ds vs->(∀t∈ts,t<A.size)->(∀t,Aa S (A9 tm t) (A.getD t undef))->
 ∀t,Aa S (A9 (FJ ts ds tm) t) ((Gn ts vs A).getD t undef)
 |O::ts,d::ds,vs,tm,A,G,Z,z=>by
  simp only[rdl] at G;obtain⟨v,r,rfl,h1,h2⟩:=G;simp only[FJ,Gn];refine Qv1 ts ds r _ _ h2 (λt ht=>by rw[ZdU];exact Z t (BW _ ht)) (λt=> ?_);have Q:=Z O (BS ..);simp only[A9];by_cases h:O=t
  .subst h;simp[Q,Aa];exact h1
  .have:(O==t)=false:=by simpa using h
   rw[this];simp only[Cy];have e:(A.setIfInBounds O v).getD t undef=A.getD t undef:=by
    simp only[Ib];rw[Array.getElem?_setIfInBounds_ne h]
   rw[e];exact z t
 |[],_,_,tm,A,_,_,z=>λt=>by simpa only[FJ,Gn] using z t
 |_::_,[],vs,tm,A,G,_,z=>λt=>by
  simp only[rdl] at G;subst G;simpa only[FJ,Gn] using z t
def Qy1{n:Nat}: ∀(ts:List Tmp) (ds:List D) (tm:List (Nat×AV)),(∀t,∀m∈(A9 tm t).nms,m<n)-> ∀t,∀m∈(A9 (FJ ts ds tm) t).nms,m<n
 |G::ts,d::ds,tm,h=>by
  simp only[FJ];refine Qy1 ts ds _ (λt m z=> ?_);simp only[A9] at z;cases hq:G==t<;>rw[hq] at z
  .exact h t m z
  .simp[AV.nms] at z
 |[],_,tm,h=>h
 |_::_,[],tm,h=>h
def tX{C:Ba}{S:Ay}(hW:Wf C S){b:Nat}(hb:QT S b):(∀r,S.w.heap[b]? ≠some (.loop r))/\ ∀d,S.w.heap[b]? ≠some (.deferred d):=by
 obtain⟨o,e,O,Z,h2,rfl⟩:=hb;have h:=hW.obj o e Z;rw[h2] at h;have hp:S.hp O.b=S.w.heap[O.b]? :=rfl;obtain⟨mu,ob⟩:=e;cases ob<;>simp only[Ap] at h
 case cells T cs=>obtain⟨l',G,q1,_,z,_⟩:=h;cases q1;rw[<-hp,z];simp
 case arr T k rows=>obtain⟨_,_,G,z,_⟩:=h;rw[<-hp,z];simp
 case arrA T k rows=>obtain⟨_,_,G,z,_⟩:=h;rw[<-hp,z];simp
 case map kt es=>obtain⟨l',Q,cl,q1,_,z,_⟩:=h;cases q1;rw[<-hp,z];simp
 case chan q cap=>obtain⟨l',bu,se,rc,q1,z,_⟩:=h;cases q1;rw[<-hp,z];simp
 case iter la le=>obtain⟨l',mb,Q,cl,se,q1,_,_,_,z,_⟩:=h;cases q1;rw[<-hp,z];simp
 case view cs=>obtain⟨l',G,T,fr,q1,z,_⟩:=h;cases q1;rw[<-hp,z];simp
def R4{S:Ay}{b:Nat}(h:F2 S b):QT S b:=by
 obtain⟨o,e,Q,z,_,G,O⟩:=h;exact⟨o,e,Q,z,G,O⟩
def vD{C:Ba}{N:Nat}{s:A8}{S:Ay}{a:Act}{W':World}(z:Dc C N s S a)(h:RD S W')(n0:Nat)(hn:n0<=s.nx)(a':Act)(ds:List Deferred)(hd:a'.defers=ds)(ha:a'.tmps=a.tmps):
 Dc (GI {S with w:=W'} n0 ds) N s {S with w:=W'} a':=by
 have hW:=z.wf;refine⟨⟨rfl,rfl,rfl,AU _,AU _,λ_ _ _=>rfl,λ_ h=>h,λ_ h=> .inl h,λb O=>FC (hW.oks b O) h.size,λo e he=> ?_,λo e l h1 h2=> ?_,hW.inj,(Q0 hW h).mono λb o O ho=>⟨⟨O,λhM=>(X1 hW hM).2.1 O⟩,ho⟩⟩,z.h,λt=> ?_,z.nmT,z.nmH,by rw[ha];exact z.size,hd,hn,λ_ _ e' Q=>⟨e',Q,rfl,rfl,rfl⟩⟩
 .exact H9 (sY h λ_=>True) (λlc Z=>h.nm lc.b ⟨o,e,lc,he,Z,rfl⟩) e.2 (λ_ _=>trivial) (hW.obj o e he)
 .obtain⟨q1,G⟩:=hW.loc o e l h1 h2;refine⟨FC q1 h.size,?_⟩;cases hm:e.1 with
  |true=>
   rw[hm] at G;simp only[Bb] at G⊢;exact⟨G.1,.inr ⟨o,e,l,h1,hm,h2,rfl⟩⟩
  |false=>rw[hm] at G;simpa using G
 .have e:a'.eval (.tmp t)=a.eval (.tmp t):=by simp only[Act.eval,ha]
  rw[e];exact I5 (sY h λ_=>True) _ _ (λ_ _=>trivial) (z.tm t)
def Qxm{C:Ba}{S:Ay}{W':World}(hW:Wf C S)(hs:S.w.heap.size<=W'.heap.size)(G:W'.os=S.w.os)(O:W'.tape=S.w.tape)(Q:W'.output=S.w.output)(Z:S.w.drawn<=W'.drawn)(z: ∀b,b<S.w.heap.size->W'.heap[b]? =S.w.heap[b]?):RD S W':=
 ⟨hs,G,O,Q,Z,λb h=>z b (hW.oks b h),λb ⟨o,e,lc,q1,q2,q3⟩=>z b (q3▸(hW.loc o e lc q1 q2).1)⟩
def Vh(lo nx:Nat)(h':Ar):C4
 | .normal,z=> ∃π,Am lo π z ⟨[],h',nx⟩
 | .exit _,_=>False
 | .ret,_=>False
def OJ(P:Program)(V:D4)(z:Code)(Q:C4):C4
 | .normal,G=>D6 P V z Q G
 | .exit _,_=>False
 | .ret,_=>False
def Zp(C:Ba)(N:Nat)(s:A8)(O:Act):Exit->Act->World->Prop
 | .normal,a',w'=> ∃z G D,G.w=w'/\Dc z N s G a'/\(∀S',Wf z S'->Wf C S')/\a'.tmps=O.tmps/\a'.defers={target:= .collected D,args:= #[]}::O.defers/\
  D<z.w.heap.size/\ ¬z.M D/\ ¬z.ok D/\C.w.heap.size<=D/\z.w.heap[D]? =some (.deferred (some []))
 |_,_,_=>False
section
variable {P:Program}{V:D4}{N:Nat}
def Vj{ι:Type}(C:Ba)(N:Nat)(st:ι->A8)(a:Act)(ok0:Nat->Prop)(Dk l:Nat)(rc:Loop)(i:ι)(Pr:Nat->Prop)(W:World):Prop:=
 ∃S,S.w=W/\Dc C N (st i) S a/\(∀b,Pr b↔(QT S b\/S.ok b\/b=l\/b=Dk))/\(∀b,ok0 b->S.ok b)/\W.heap[l]? =some (.loop rc)/\W.heap[Dk]? =some (.deferred (some []))/\ ¬S.ok l/\ ¬S.ok Dk
def Qaa7{ι:Type}{C:Ba}{st:ι->A8}{a:Act}{ok0:Nat->Prop}{Dk l:Nat}{rc:Loop}{base:Nat}(O:C.w.heap.size<=base):O3 base (Vj C N st a ok0 Dk l rc):=by
 rintro i Pr W ⟨S,rfl,Q,z,aa,hl,hD,nl,nD⟩;refine⟨λb Z=> ?_,λW' h1 h2 h3 h4 h5 G=> ?_⟩
 .rcases (z b).1 Z with ⟨o,e,lc,q1,q2,rfl⟩|q|rfl|rfl
  .exact (Q.wf.loc o e lc q1 q2).1
  .exact Q.wf.oks b q
  .exact (RL.1 hl).1
  .exact (RL.1 hD).1
 .have hm:RD S W':=⟨h1,h2,h3,h4,h5,λb O=>G b (.inl ((z b).2 (.inr (.inl O)))),λb O=>G b (.inl ((z b).2 (.inl O)))⟩;refine⟨{S with w:=W'},rfl,Qul Q hm (λb ab _=>G b (.inr (by omega))),z,aa,?_,?_,nl,nD⟩
  .rw[G l (.inl ((z l).2 (.inr (.inr (.inl rfl)))))];exact hl
  .rw[G Dk (.inl ((z Dk).2 (.inr (.inr (.inr rfl)))))];exact hD
def Vn{ι:Type}(HM:P.follows .mixedOrders=true)(HV:HB P V){C:Ba}{st:ι->A8}{a:Act}{ok0:Nat->Prop}{Dk l:Nat}{tm0:List (Nat×AV)}{hs:ι->Ar}{lo nx:Nat}{fn:FuncId}{ps:Array Tmp}{assign body:Code}{i j:ι}{x:List D}
 (ax: ∀i,st i=⟨tm0,hs i,nx⟩)(bf:C.n0<=lo)(an:lo<=nx)(a8:Df lo tm0=true)(hg:A8.good ⟨[],hs j,nx⟩=true)(cf: ∀o e,hget (hs j) o=some e->e.2.isView=true->o<lo)(be:l≠Dk)(co:C.w.heap.size<=l)
 (b0:E0 N assign=true)(a9:Ia assign=true)(b8:E0 N body=true)(ba:Ia body=true)(ce: ∀t∈ps.toList,t<N)(cr:x.length=ps.size)
 (ao:D6 P V assign (OJ P V body (Vh lo nx (hs j))) ⟨FJ ps.toList x tm0,hs i,nx⟩)
 {args:Array Value}{Pr:Nat->Prop}{W:World}(ah: ∀ok hp,rdl ok hp x args.toList)
 (hJ:Vj C N st a ok0 Dk l {state:= .ready,pending:=none,fn,tmps:=a.tmps,params:=ps,assign,body,defers:=Dk} i Pr W):
 YieldAt Fence.wide 0 P l args W λe W'=>e= .returned (.bool true)/\ ∃Pr',Vj C N st a ok0 Dk l {state:= .ready,pending:=none,fn,tmps:=a.tmps,params:=ps,assign,body,defers:=Dk} j Pr' W'/\IP ok0 Pr W Pr' W':=by
 obtain⟨S,rfl,O,aa,aw,hl,hD,nl,nD⟩:=hJ;have bz:args.size=ps.size:=by
  have:=gD _ _ (ah S.ok S.hp)
  simp at this;omega
 refine⟨fn,_,assign,body,run_yield hl bz,roundIn_of_wpIn trivial ?_⟩;simp only[Zh];have kl: ∀{C':Ba} {S':Ay},Wf C' S'->(∃r,S'.w.heap[l]? =some (.loop r))-> ¬QT S' l:=λhW ⟨r,hr⟩ hn=>(tX hW hn).1 r hr
 have kD: ∀{C':Ba} {S':Ay},Wf C' S'->(S'.w.heap[Dk]? =some (.deferred (some [])))-> ¬QT S' Dk:=λhW hr hn=>(tX hW hn).2 _ hr
 have b9:l<S.w.heap.size:=(RL.1 hl).1;have bt:Dk<S.w.heap.size:=(RL.1 hD).1;have bu:Dc (GI S lo []) N ⟨FJ ps.toList x tm0,hs i,nx⟩ S {tmps:=Gn ps.toList args.toList a.tmps,defers:=[]}:=by
  have hh:=O.h;have ht:=O.tm;have hm:=O.nmH;have bi:=O.nmT;rw[ax i] at hh ht hm bi;refine⟨UV O.wf _ _,hh,λt=> ?_,Qy1 _ _ _ bi,hm,?_,rfl,an,λ_ _ e' ac=>⟨e',ac,rfl,rfl,rfl⟩⟩
  .exact Qv1 _ _ _ _ _ (ah _ _) (λt ht=>by rw[O.size];exact ce t ht) ht t
  .rw[Qv4];exact O.size
 refine wpIn_mono (lZ (ro:=some l) HM HV assign b0 a9 _ _ _ _ ao ⟨S,rfl,bu⟩) ?_;intro e a1 w1 hq;cases e<;>simp only[Gv] at hq<;>simp only[Exit.then]
 case exit id=>obtain⟨_,h,_⟩:=hq;exact h.elim
 case ret=>obtain⟨_,h,_⟩:=hq;exact h.elim
 obtain⟨s1,bj,S1,rfl,z⟩:=hq;simp only[OJ] at bj;have cp:S.w.heap.size<=S1.w.heap.size:=z.wf.size;have bc:S1.w.heap[l]? =_:=(aQ z.wf l b9 (λQ=>kl O.wf ⟨_,hl⟩ (R4 Q))).trans hl;have bq:S1.w.heap[Dk]? =_:=(aQ z.wf Dk bt (λQ=>kD O.wf hD (R4 Q))).trans hD;have bm: ¬S1.ok l:=λh=>by
  rcases bF z.wf h with q|q|q
  .exact nl q
  .omega
  .exact kl O.wf ⟨_,hl⟩ (R4 q)
 have cg: ¬S1.ok Dk:=λh=>by
  rcases bF z.wf h with q|q|q
  .exact nD q
  .omega
  .exact kD O.wf hD (R4 q)
 refine⟨_,run_beginRound bc rfl,?_⟩;obtain⟨ob,hob⟩: ∃ob,ob=Obj.loop {({state:= .ready,pending:=none,fn,tmps:=a.tmps,params:=ps,assign,body,defers:=Dk}:Loop) with state:= .busy}:=⟨_,rfl⟩;rw[<-hob];obtain⟨S2,hS2⟩: ∃S2:Ay,S2={S1 with w:=S1.w.putObj l ob}:=⟨_,rfl⟩;have bh:=Qk9 (S:=S1) (o:=ob) bm (kl z.wf ⟨_,bc⟩);have bg:lo<=s1.nx:=z.n0;have aj:Dc (GI S2 lo []) N s1 S2 a1:=by
  rw[hS2];exact vD z bh lo bg a1 [] z.defers rfl
 have ad:S2.w=S1.w.putObj l ob:=by rw[hS2]
 have cm:S2.w.heap.size=S1.w.heap.size:=by rw[ad,World.putObj_size]
 have av:S2.w.heap[l]? =some ob:=by rw[ad];exact World.putObj_heap_same (by omega)
 have au:S2.w.heap[Dk]? =some (.deferred (some [])):=by rw[ad,World.putObj_heap_other be.symm];exact bq
 rw[<-ad];refine wpIn_mono (lZ (ro:=some l) HM HV body b8 ba _ _ _ _ bj ⟨S2,rfl,aj⟩) ?_;intro e a2 w2 hq;cases e<;>simp only[Gv] at hq<;>simp only[roundPost]
 case exit id=>obtain⟨_,h,_⟩:=hq;exact h.elim
 case ret=>obtain⟨_,h,_⟩:=hq;exact h.elim
 obtain⟨s2,⟨π,bl⟩,bb⟩:=hq;obtain⟨S3,rfl,G⟩:=R0 bb bl hg (AU _) an;have bd:S3.w.heap[l]? =_:=(aQ G.wf l (by omega) (λQ=>kl aj.wf ⟨_,by rw[av,hob]⟩ (R4 Q))).trans (av.trans (by rw[hob]));have br:S3.w.heap[Dk]? =_:=(aQ G.wf Dk (by omega) (λQ=>kD aj.wf au (R4 Q))).trans au;have cq:S2.w.heap.size<=S3.w.heap.size:=G.wf.size;refine⟨_,_,run_endRound none bd,rfl,?_⟩;change ∃Pr',Vj C N st a ok0 Dk l ({state:= .ready,pending:=none,fn,tmps:=a.tmps,params:=ps,assign,body,defers:=Dk}:Loop) j Pr' (S3.w.putObj l (.loop ({state:= .ready,pending:=none,fn,tmps:=a.tmps,params:=ps,assign,body,defers:=Dk}:Loop)))/\IP ok0 Pr S.w Pr' (S3.w.putObj l (.loop ({state:= .ready,pending:=none,fn,tmps:=a.tmps,params:=ps,assign,body,defers:=Dk}:Loop)));obtain⟨rc,hrc⟩: ∃rc:Loop,rc=({state:= .ready,pending:=none,fn,tmps:=a.tmps,params:=ps,assign,body,defers:=Dk}:Loop):=⟨_,rfl⟩;rw[<-hrc];have az: ∀b,F2 S2 b->F2 S1 b:=λb h=>by rw[hS2] at h;exact h
 have aq: ∀b,S2.ok b↔S1.ok b:=λb=>by rw[hS2]
 have bn: ¬S3.ok l:=λh=>by
  rcases bF G.wf h with q|q|q
  .exact bm ((aq l).1 q)
  .omega
  .exact kl aj.wf ⟨_,by rw[av,hob]⟩ (R4 q)
 have ci: ¬S3.ok Dk:=λh=>by
  rcases bF G.wf h with q|q|q
  .exact cg ((aq Dk).1 q)
  .omega
  .exact kD aj.wf au (R4 q)
 have cb:=Qk9 (S:=S3) (o:= .loop rc) bn (kl G.wf ⟨_,bd⟩);have bv:Wf C S1:=Qrn O.wf z.wf;have bw:Wf C S2:=by rw[hS2];exact uF bv bh (λb hb _=>World.putObj_heap_other (by omega))
 have bx:Wf C S3:=Qrn bw G.wf;obtain⟨Z,hS4⟩: ∃Z:Ay,Z={S3 with w:=S3.w.putObj l (.loop rc)}:=⟨_,rfl⟩;have ag:Wf C Z:=by rw[hS4];exact uF bx cb (λb hb _=>World.putObj_heap_other (by omega))
 have af:Z.w=S3.w.putObj l (.loop rc):=by rw[hS4]
 have am:Z.h=S3.h:=by rw[hS4]
 have hρ4:Z.ρ=S3.ρ:=by rw[hS4]
 have ab:Z.ok=S3.ok:=by rw[hS4]
 have cn:Z.w.heap.size=S3.w.heap.size:=by rw[af,World.putObj_size]
 rw[<-af];have ai: ∀b,b<S.w.heap.size-> ¬F2 S b->b≠l->Z.w.heap[b]? =S.w.heap[b]? :=by
  intro b hb Q a0;rw[af,World.putObj_heap_other a0,aQ G.wf b (by omega) (λh=> ?_),ad,World.putObj_heap_other a0,aQ z.wf b hb Q];rcases mT z.wf (az b h) with q|q
  .omega
  .exact Q q
 have bp: ∀b,S.ok b->Z.ok b/\Z.hp b=S.hp b:=by
  intro b hb;refine⟨by rw[ab];exact G.wf.ok0 b ((aq b).2 (z.wf.ok0 b hb)),ai b (O.wf.oks b hb) (λh=>(X1 O.wf h).2.1 hb) (λh=>nl (h▸hb))⟩
 have ay: ∀o,o<lo-> ∀e',Z.h o=some e'-> ∃e,S.h o=some e/\Z.ρ o=S.ρ o/\e'.2.esz=e.2.esz/\e'.2.len=e.2.len:=by
  intro o Q e' ac;rw[am] at ac;obtain⟨e,q1,q2,q3,q4⟩:=G.pre o Q e' ac
  have cj:S1.h o=some e:=by have:S2.h=S1.h:=by rw[hS2]
                            rw[<-this];exact q1
  obtain⟨e0,r1,r2,r3,r4⟩:=z.pre o Q e cj
  have ck:S3.ρ o=S1.ρ o:=by have:S2.ρ=S1.ρ:=by rw[hS2]
                            rw[<-this];exact q2
  exact⟨e0,r1,by rw[hρ4];exact ck.trans r2,q3.trans r3,q4.trans r4⟩
 have bo: ∀b,Z.ok b->S.ok b\/S.w.heap.size<=b\/F2 S b:=by
  intro b hb;rw[ab] at hb;rcases bF G.wf hb with q|q|q
  .exact bF z.wf ((aq b).1 q)
  .exact .inr (.inl (by omega))
  .exact .inr (mT z.wf (az b q))
 have cd: ∀b,(QT Z b\/Z.ok b\/b=l\/b=Dk)->Pr b\/S.w.heap.size<=b:=by
  have ak: ∀b,(S.ok b\/S.w.heap.size<=b\/F2 S b)->Pr b\/S.w.heap.size<=b:=by
   rintro b (q|q|q)
   .exact .inl ((aa b).2 (.inr (.inl q)))
   .exact .inr q
   .exact .inl ((aa b).2 (.inl (R4 q)))
  rintro b (⟨o,e,lc,q1,q2,rfl⟩|q|rfl|rfl)
  .cases hmu:e.1 with
   |true=>
    have cc:F2 S3 lc.b:=⟨o,e,lc,by rw[<-am];exact q1,hmu,by rw[<-hρ4];exact q2,rfl⟩;rcases mT G.wf cc with q|q
    .exact .inr (by omega)
    .rcases mT z.wf (az _ q) with q|q
     .exact .inr q
     .exact ak _ (.inr (.inr q))
   |false=>
    have h5:=(ag.loc o e lc q1 q2).2;rw[hmu] at h5;simp only[Dp,CN] at h5;rcases h5 with h5|h5
    .exact ak _ (bo _ h5)
    .have Q:=cf o e (by rw[<-G.h o,<-am];exact q1) h5;obtain⟨e0,r1,r2,_,_⟩:=ay o Q e q1;exact .inl ((aa _).2 (.inl ⟨o,e0,lc,r1,by rw[<-r2];exact q2,rfl⟩))
  .exact ak _ (bo _ q)
  .exact .inl ((aa _).2 (.inr (.inr (.inl rfl))))
  .exact .inl ((aa _).2 (.inr (.inr (.inr rfl))))
 refine⟨λb=>QT Z b\/Z.ok b\/b=l\/b=Dk,⟨Z,rfl,?_,λb=>Iff.rfl,λb hb=>(bp b (aw b hb)).1,?_,?_,by rw[ab];exact bn,by rw[ab];exact ci⟩,⟨by omega,ag.os.trans O.wf.os.symm,ag.tape.trans O.wf.tape.symm,ag.output.trans O.wf.output.symm,by have q1:=z.wf.dr;have q3:=G.wf.dr;rw[af];refine CW q1 (CW (Zfd ?_) q3);show S1.w.drawn=S2.w.drawn;rw[ad];rfl,cd,?_⟩⟩
 .have ht:=O.tm;rw[ax i] at ht;rw[ax j];refine⟨ag,λn=>by rw[am];exact G.h n,λt=> ?_,λt m hm=>FC (tL _ a8 t m hm) an,G.nmH,O.size,O.defers,CW bf an,λo Q e' ac=> ?_⟩
  .exact I5 (X:=λo=>o<lo) ⟨bp,ay⟩ _ _ (tL _ a8 t) (ht t)
  .obtain⟨e,q1,q2,q3,q4⟩:=ay o (FC Q bf) e' ac;obtain⟨e0,r1,r2,r3,r4⟩:=O.pre o Q e q1;exact⟨e0,r1,q2.trans r2,q3.trans r3,q4.trans r4⟩
 .rw[af];exact World.putObj_heap_same (by omega)
 .rw[af,World.putObj_heap_other be.symm];exact br
 .rintro b hb (h|h)
  .exact ai b hb (λQ=>h ((aa b).2 (.inl (R4 Q)))) (λe=>h ((aa b).2 (.inr (.inr (.inl e)))))
  .exact ai b hb (λQ=>(X1 O.wf Q).2.1 (aw b h)) (λe=>nl (e▸aw b h))
def Qr4(w:World)(o:Obj)(k:Nat)(h:k<w.heap.size):(w.alloc o).heap[k]? =w.heap[k]? :=by
 show (w.heap.push o)[k]? =_;rw[Array.getElem?_push,Ag (by omega)]
def rQ(HM:P.follows .mixedOrders=true)(HV:HB P V){C:Ba}{s:A8}{a:Act}{w:World}(hc:BR C N s a w){g:Operand}{ps:Array Tmp}{assign body:Code}{gf:Nat}{capt:List D}{X:oS}(an:mP P gf)(bi:L5 P gf capt X)(Ok:X.I->Prop)(aa:Ok X.i0)(av: ∀i x j,Ok i->X.step i x j->Ok j)
 (bg:E0 N assign=true)(ai:Ia assign=true)(bh:E0 N body=true)(ak:Ia body=true)(bj: ∀i x j,Ok i->X.step i x j->x.length=ps.size)(bl: ∀t∈ps.toList,t<N)
 {tm0:List (Nat×AV)}{hs:X.I->Ar}{nx:Nat}(Z: ∃π,Am s.nx π s ⟨tm0,hs X.i0,nx⟩)(hg:Aw tm0 g= .im (.fn gf [] capt))(af:s.nx<=nx)(bf:Df s.nx tm0=true)(G: ∀i,Ok i->A8.good ⟨tm0,hs i,nx⟩=true)
 (bm: ∀i o e,hget (hs i) o=some e->e.2.isView=true->o<s.nx)
 (Q: ∀i x j,Ok i->X.step i x j->D6 P V assign (OJ P V body (Vh s.nx nx (hs j))) ⟨FJ ps.toList x tm0,hs i,nx⟩):
 (Code.rangeFunc g ps assign body).wpIn Fence.wide 0 P (λe a' w'=> ∃i,Ok i/\X.fin i/\Zp C N ⟨tm0,hs i,nx⟩ a e a' w') a w:=by
 obtain⟨π,aw⟩:=Z;have ad:C.n0<=s.nx:=by obtain⟨_,_,h⟩:=hc;exact h.n0
 obtain⟨S,rfl,hE⟩:=R0 hc aw (G X.i0 aa) ad (CW ad af);have h1:Aa S (.im (.fn gf [] capt)) (a.eval g):=by rw[<-hg];exact Rx hE g
 simp only[Aa,rd] at h1;obtain⟨A,Cc,hv,hA,aj⟩:=h1;have a0:A= #[]:=by simpa[rdl] using hA
 rw[X9 an.1,a0] at hv;refine wpIn_rangeFunc ?_;intro fn br;have a8:C.w.heap.size<=S.w.heap.size:=hE.wf.size;obtain⟨rc,hrc⟩: ∃rc:Loop,rc={state:= .ready,pending:=none,fn,tmps:=a.tmps,params:=ps,assign,body,defers:=S.w.heap.size}:=⟨_,rfl⟩;obtain⟨z,hW1⟩: ∃z,z=(S.w.alloc (.deferred (some []))).alloc (.loop rc):=⟨_,rfl⟩;have bp:z.heap.size=S.w.heap.size+2:=by rw[hW1];simp
 have bc:z.heap[S.w.heap.size+1]? =some (.loop rc):=by
  rw[hW1];have:=World.alloc_heap_new (S.w.alloc (.deferred (some []))) (.loop rc);rwa [World.size_alloc] at this
 have bb:z.heap[S.w.heap.size]? =some (.deferred (some [])):=by
  rw[hW1];exact (Qr4 _ _ _ (by simp)).trans (World.alloc_heap_new S.w _)
 have hbel: ∀b,b<S.w.heap.size->z.heap[b]? =S.w.heap[b]? :=λb hb=>by
  rw[hW1,Qr4 _ _ _ (by simp;omega),Qr4 _ _ _ hb]
 have hm:RD S z:=Qxm hE.wf (by omega) (by rw[hW1];rfl) (by rw[hW1];rfl) (by rw[hW1];rfl) (by rw[hW1];exact AU _) hbel;have ah:Dc C N ⟨tm0,hs X.i0,nx⟩ {S with w:=z} a:=Qul hE hm (λb hb _=>hbel b (by omega));have ac:rdl S.ok (λb=>z.heap[b]?) capt Cc.toList:=L8 (sY hm λ_=>True).ok _ _ aj;refine⟨S.w.heap.size+1,[{target:= .collected S.w.heap.size,args:= #[]}],z,{target:= .fn (.func gf) Cc,args:= #[.func (.yield (S.w.heap.size+1)) #[] #[]]},z,gf,
  #[.func (.yield (S.w.heap.size+1)) #[] #[]]++Cc,z,?_,?_,λ_ _=>trivial,?_,λh=>(by cases h),?_⟩
 .rw[hW1,hrc];exact run_enterLoop_outer _ _ _ _ _
 .simp only[resolve,hv];simp[go_sem]
 .simp[invoke,go_sem,tH an]
 refine callsIn_wide.2 (Calls.mono (bi C {S with w:=z} Cc (S.w.heap.size+1) (λi Pr W=>Ok i/\Vj C N (λi=>⟨tm0,hs i,nx⟩) a S.ok S.w.heap.size (S.w.heap.size+1) rc i Pr W) ah.wf ac ?_ ?_ ?_) ?_)
 .rintro i Pr W ⟨hi,hJ⟩;obtain⟨q1,q2⟩:=Qaa7 (base:=z.heap.size) (by omega) i Pr W hJ;exact⟨q1,λW' h1 h2 h3 h4 h5 h6=>⟨hi,q2 W' h1 h2 h3 h4 h5 h6⟩⟩
 .rintro i x j args Pr W hx ab ⟨hi,hJ⟩;have aq:=av i x j hi hx;have ao:=G j aq;simp only[A8.good,Bc] at ao;rw[hrc] at hJ⊢;have h9:=Vn HM HV (st:=λi=>⟨tm0,hs i,nx⟩) (λ_=>rfl) ad af bf (by simp only[A8.good,Df,ED,Bc];exact ao.2) (bm j) (by omega) (by omega) bg ai bh ak bl (bj i x j hi hx) (Q i x j hi hx) ab hJ;obtain⟨az,ag,ax,ay,r1,r2⟩:=h9;refine⟨az,ag,ax,ay,r1,RoundIn.mono r2 ?_⟩;rintro e W' ⟨he,Pr',ba,hM⟩;exact⟨he,Pr',⟨aq,ba⟩,hM⟩
 .exact⟨_,aa,{S with w:=z},rfl,ah,λb=>Iff.rfl,λb hb=>hb,bc,bb,λh=>Zfp _ (FC (hE.wf.oks _ h) (oB _)),λh=>Zfp _ (hE.wf.oks _ h)⟩
 .rintro e W2 ⟨v,Pr,i,rfl,am,bd,S2,rfl,O,bq,bt,hl,hD,nl,nD⟩;refine⟨none,_,by have:=run_endLoop (P:=P) hl (by rw[hrc];simp);rw[hrc] at this;exact this,?_⟩;obtain⟨ob,hob⟩: ∃ob:Obj,ob= .loop {({state:= .ready,pending:=none,fn,tmps:=a.tmps,params:=ps,assign,body,defers:=S.w.heap.size}:Loop) with state:= .exhausted}:=⟨_,rfl⟩;simp only[<-hob];have bo: ¬QT S2 (S.w.heap.size+1):=λhn=>(tX O.wf hn).1 _ hl
  have bn: ¬QT S2 S.w.heap.size:=λhn=>(tX O.wf hn).2 _ hD
  have au:=Qk9 (S:=S2) (o:=ob) nl bo;have a9:S.w.heap.size<S2.w.heap.size:=(RL.1 hD).1;have be:Wf C {S2 with w:=S2.w.putObj (S.w.heap.size+1) ob}:=uF O.wf au (λb hb _=>World.putObj_heap_other (by omega));refine⟨i,bd,am,_,_,S.w.heap.size,rfl,vD O au s.nx af _ ({target:= .collected S.w.heap.size,args:= #[]}::a.defers) rfl rfl,λS' h=>Qrn be h,rfl,rfl,?_,λh=>bn (R4 h),nD,a8,?_⟩
  .show _<(S2.w.putObj _ _).heap.size;rw[World.putObj_size];exact a9
  .show (S2.w.putObj _ _).heap[_]? =_;rw[World.putObj_heap_other (by omega)];exact hD
def UP(HM:P.follows .mixedOrders=true)(HV:HB P V){C:Ba}{s:A8}{a:Act}{w:World}(hc:BR C N s a w){g:Operand}{ps:Array Tmp}{assign z:Code}{gf:Nat}{capt:List D}{xs:List (List D)}(af:mP P gf)(ag:Kt P gf capt xs)
 (ac:E0 N assign=true)(Z:Ia assign=true)(ad:E0 N z=true)(aa:Ia z=true)(ai: ∀x∈xs,x.length=ps.size)(aj: ∀t∈ps.toList,t<N)
 {tm0:List (Nat×AV)}{hs:Nat->Ar}{nx:Nat}(O: ∃π,Am s.nx π s ⟨tm0,hs 0,nx⟩)(hg:Aw tm0 g= .im (.fn gf [] capt))(ah:s.nx<=nx)(ab:Df s.nx tm0=true)(Q: ∀i,i<=xs.length->A8.good ⟨tm0,hs i,nx⟩=true)
 (ak: ∀i o e,hget (hs i) o=some e->e.2.isView=true->o<s.nx)
 (G: ∀i x,xs[i]? =some x->D6 P V assign (OJ P V z (Vh s.nx nx (hs (i+1)))) ⟨FJ ps.toList x tm0,hs i,nx⟩):
 (Code.rangeFunc g ps assign z).wpIn Fence.wide 0 P (Zp C N ⟨tm0,hs xs.length,nx⟩ a) a w:=by
 refine wpIn_mono (rQ HM HV hc (X:=jE xs) af ag (λ(i:Nat)=>i<=xs.length) (BV _) (λi x j _ hx=> ?_) ac Z ad aa (λi x j _ hx=>ai x (Bh hx.1)) aj O hg ah ab Q ak (λi x j _ hx=> ?_)) ?_
 .obtain⟨h1,rfl⟩:=hx;exact (CL.1 h1).1
 .obtain⟨h1,rfl⟩:=hx;exact G i x h1
 .rintro e a' w' ⟨i,_,rfl,h⟩;exact h
end
def vI(G z:Ba)(ds:List Deferred):Prop:=
 ds=[]\/ ∃D:Nat,ds=[{target:= .collected D,args:= #[]}]/\D<z.w.heap.size/\ ¬z.M D/\ ¬z.ok D/\G.w.heap.size<=D/\z.w.heap[D]? =some (.deferred (some []))
def PH(G:Ba)(N:Nat)(Q:C4):Exit->Act->World->Prop
 | .normal,a,w=> ∃s z,Q .normal s/\BR z N s a w/\(∀S',Wf z S'->Wf G S')/\vI G z a.defers
 | .ret,a,w=> ∃s z,Q .ret s/\BR z N s a w/\(∀S',Wf z S'->Wf G S')/\vI G z a.defers
 |_,_,_=>False
def PG(P:Program)(z:List ResultVar)(Q:A8->List AV->Prop)(s:A8):Prop:= ∃xs,AA (KE P s) z=some xs/\Q s xs
def Ve(P:Program)(z:List ResultVar)(Q:A8->List AV->Prop):C4
 | .normal,s=>PG P z Q s
 | .ret,s=>PG P z Q s
 | .exit _,_=>False
def rD{P:Program}{g:FuncId}{fn:Func}{c:Code}(hf:P.funcs[g]? =some fn)(hb:fn.body=some c)
 {ps:List PK}(az:ps.length<=fn.ntmps){Q:A8->List AV->Prop}
 (hk: ∀(z:Ba) (a:Act) (w:World),z.w=w->z.n0=0->BR z fn.ntmps ⟨entry 0 (Dn 0 ps),Dm 0 ps,BT ps⟩ a w->a.defers=[]->c.wpIn Fence.wide 0 P (PH z fn.ntmps (Ve P fn.results.toList Q)) a w)
 {C:Ba}{S:Ay}{vs:Array Value}{RR:Ending->World->Prop}(hW:Wf C S)(ah:EV S ps vs.toList)
 (af: ∀(v:Value) (z:Ba) (S1:Ay) (s:A8) (xs:List AV),z.w=S.w->z.ok=S.ok->(∀b,¬z.M b)->Wf z S1->(∀n,S1.h n=hget s.h n)->Q s xs->Aa S1 (DE xs) v->RR (.returned v) S1.w):Calls P g vs S.w RR:=by
 refine callsIn_wide.1 (callsIn_of_wp_marks (n:=0) hf hb trivial ?_);have ax:vs.size=(Dn 0 ps).length:=by rw[aO];simpa using ah.len
 obtain⟨ls,ag,au⟩:=nA ps vs.toList 0 ah
 let S0:Ay:=⟨ls,S.ok,hget (Dm 0 ps),S.w⟩
 let z:Ba:=⟨S.w,λ_=>False,S.ok,0,λ_=>none,λ_=>none,[]⟩
 have an:Wf z S0:=by
  refine⟨rfl,rfl,rfl,AU _,AU _,λ_ _ _=>rfl,λ_ hb=>hb,λ_ hb=> .inl hb,hW.oks,?_,?_,?_,hW.glN λ_ h=>h.elim⟩
  .intro n e G;obtain⟨l,h1,_,h3⟩:=ag n e G;have h4:S0.ρ n=some l:=h1;rw[h4];obtain⟨_,cs,rfl⟩:=G3 0 ps n e G;simp only[Ap] at h3⊢;exact h3
  .intro n e l G hl;obtain⟨l',h1,h2,h3⟩:=ag n e G;have h4:S0.ρ n=some l':=h1;rw[h4] at hl;obtain rfl:=AC hl;obtain⟨_,cs,rfl⟩:=G3 0 ps n e G;exact⟨h2,.inr rfl⟩
  .intro n n' e e' l l' G av hl ba a9 aw;obtain⟨_,cs,rfl⟩:=G3 0 ps n e G;obtain⟨_,a0,rfl⟩:=G3 0 ps n' e' av;simp at aw
 have aq:BR z fn.ntmps ⟨entry 0 (Dn 0 ps),Dm 0 ps,BT ps⟩ {tmps:=vs++Array.replicate (fn.ntmps - vs.size) undef,defers:=[]} S.w:=by
  have aa:AR S0 (Dn 0 ps) vs.toList:=au S0 rfl rfl (λn _=>⟨rfl,rfl⟩);refine⟨S0,rfl,an,λn=>rfl,?_,?_,?_,by simp;rw[aO] at ax;omega,rfl,BV _,λo ho=>absurd ho (wZ _)⟩
  .intro t;have h1:=lV (S:=S0) (Dn 0 ps) vs.toList 0 t aa;simp only[BV,Bb,bZ] at h1
   have:({tmps:=vs++Array.replicate (fn.ntmps - vs.size) undef,defers:=[]}:Act).eval (.tmp t)=(vs.toList[t]?).getD undef:=by
    simp only[Act.eval,Ib,wT,iE];by_cases ht:t<vs.size
    .simp[ht]
    .simp only[ht,CN]
     have:vs[t]? =none:=XR (by omega)
     simp only[Hq,this]
     split<;>rfl
   rw[this];exact h1
  .intro t m hm;exact tK 0 ps (BT ps) (by omega) m (mC (Dn 0 ps) 0 t m hm)
  .intro n e G;obtain⟨h1,cs,rfl⟩:=G3 0 ps n e G;exact⟨by show n<BT ps;omega,by simp[Ah.nms]⟩
 refine wpIn_mono (hk z _ _ rfl rfl aq rfl) ?_;have fin: ∀(s:A8) (C2:Ba) (S1:Ay) (a:Act),PG P fn.results.toList Q s->Dc C2 fn.ntmps s S1 a->Wf z S1-> ∃v,(results fn a.tmps).run P S1.w= .ok v S1.w/\RR (.returned v) S1.w:=by
  rintro s C2 S1 a ⟨xs,ay,hr⟩ Z ao;obtain⟨v,ai,ac⟩:=sQ Z ay;exact⟨v,ai,af v z S1 s xs rfl rfl (λ_ h=>h) ao Z.h hr ac⟩
 have ab: ∀(a:Act) (w:World),(∃s C2,PG P fn.results.toList Q s/\BR C2 fn.ntmps s a w/\(∀S',Wf C2 S'->Wf z S')/\vI z C2 a.defers)->LeavesInM Fence.wide 0 P fn a.tmps RR a.defers .returning w:=by
  rintro a w ⟨s,C2,hr,⟨S1,rfl,Z⟩,O,hM⟩;rcases hM with hM|⟨D,hM,aj,ad,ak,a8,am⟩
  .rw[hM];simp only[LeavesInM,LeavesIn];exact fin s C2 S1 a hr Z (O _ Z.wf)
  .rw[hM];have hh:S1.w.heap[D]? =some (.deferred (some [])):=(Z.wf.keep D aj ad).trans am;have nk: ¬QT S1 D:=λhn=>(tX Z.wf hn).2 _ hh
   have no: ¬S1.ok D:=λh=>by
    rcases Z.wf.ok1 D h with q|q|q
    .exact ak q
    .omega
    .exact ad q
   have hm:=Qk9 (S:=S1) (o:= .deferred none) no nk;refine⟨by simp,.inl ⟨D,_,rfl,run_takeDeferred hh,?_⟩⟩;simp only[LeavesInM,LeavesIn];exact fin s _ {S1 with w:=S1.w.putObj D (.deferred none)} a hr (vD Z hm 0 (BV _) a a.defers rfl rfl) (uF (O _ Z.wf) hm (λb hb _=>World.putObj_heap_other (by omega)))
 intro e a w G;cases e<;>simp only[PH] at G<;>simp only[bodyPostM]
 .exact ab a w G
 .exact ab a w G
def Qz{P:Program}{g:FuncId}{fn:Func}{c:Code}(hf:P.funcs[g]? =some fn)(hb:fn.body=some c)
 {ps:List PK}(O:ps.length<=fn.ntmps){R:D->Prop}
 (hk: ∀(z:Ba) (a:Act) (w:World),z.w=w->z.n0=0->BR z fn.ntmps ⟨entry 0 (Dn 0 ps),Dm 0 ps,BT ps⟩ a w->a.defers=[]->c.wpIn Fence.wide 0 P (PH z fn.ntmps (bO P fn.results.toList R)) a w)
 {C:Ba}{S:Ay}{vs:Array Value}{RR:Ending->World->Prop}(hW:Wf C S)(ab:EV S ps vs.toList)
 (G: ∀(v:Value) (z:Ba) (S1:Ay) (d:D),z.w=S.w->z.ok=S.ok->(∀b,¬z.M b)->Wf z S1->R d->rd (U7 z S1) S1.hp d v->RR (.returned v) S1.w):Calls P g vs S.w RR:=by
 have Z: ∀s,Lu P fn.results.toList R s->PG P fn.results.toList (λs xs=>Pf (hget s.h) R (DE xs)) s:=by
  intro s h;unfold Lu at h;cases hx:AA (KE P s) fn.results.toList with
  |none=>rw[hx] at h;exact h.elim
  |some xs=>rw[hx] at h;exact⟨xs,hx,h⟩
 refine rD hf hb O (Q:=λs xs=>Pf (hget s.h) R (DE xs)) (λz a w h1 h2 h3 h4=>wpIn_mono (hk z a w h1 h2 h3 h4) ?_) hW ab ?_
 .intro e a w h;cases e<;>simp only[PH] at h⊢
  .obtain⟨s,C2,g1,g2⟩:=h;exact⟨s,C2,Z s g1,g2⟩
  .obtain⟨s,C2,g1,g2⟩:=h;exact⟨s,C2,Z s g1,g2⟩
 .intro v z S1 s xs g1 g2 g3 g4 g5 g6 g7;have aa:hget s.h=S1.h:=(funext g5).symm;rw[aa] at g6;obtain⟨d,h1,h2⟩:=Qzf g3 g4 g6 g7;exact G v z S1 d g1 g2 g3 g4 h1 h2
end Go.Ae
