/- Lemmas. Conditions: none. -/
import Derived.Test.YtelbgmfdnnljoaaGreatDoorP10
import Derived.RangeFuncNested
import Derived.RangeFuncLeaves
import Derived.OrdersIn
set_option linter.all false
set_option maxHeartbeats 8000000
set_option maxRecDepth 100000
namespace Go.Ae
open Go
def Op.calm:Op->Bool
 | .defer _=>false
 |o=> !Go.Ae.Op.comm o
def YJ(ops:Array Oper):Bool:=ops.toList.all λo=>Go.Ae.Op.calm o.op
def nO{ops:Array Oper}(h:YJ ops=true){i:Nat}{o:Oper}(z:ops[i]? =some o):Go.Ae.Op.calm o.op=true:=by
 unfold YJ at h;rw[CM] at h;exact h o (Bf (by simpa using z))
def wR(ro:Option Nat):Fence:={Fence.wide with round:=ro}
def H2:Code->Bool
 | .region _ ops _=>YJ ops
 | .seq a b=>H2 a && H2 b
 | .cond _ a b=>H2 a && H2 b
 | .block _ c=>H2 c
 | .loop c=>H2 c
 |_=>true
section
variable {P:Program}{ro:Option Nat}{n:Nat}
def Qlw{o:Oper}{a:Act}{w:World}{next z:Act->World->Prop}{Q:Exit->Act->World->Prop}(hc:Go.Ae.Op.calm o.op=true)(G: ∀a w,next a w->z a w)(h:o.wp P a w next (λ_ _ _=>False)):
 o.wpIn (wR ro) n P a w z Q:=by
 refine⟨λ_ _=>trivial,?_⟩;have e:o.semAt (wR ro).round a.eval=execOp a.eval o:=Oper.semAt_eq _ _ _ (λc O=>by rw[O] at hc;cases hc);rw[e];unfold Oper.wp at h;have aa: ¬LetsOut (λ_ _ _=>False):=λ⟨_,_,h⟩=>h
 cases hr:(execOp a.eval o).run P w with
 |ok x w'=>
  rw[hr] at h;cases x<;>simp only[Oper.upon] at h<;>try exact h.elim
  case value v=>exact G _ _ h
  case skip=>exact G _ _ h
  case defer d=>exact G _ _ h
  case enter f args=>
   refine⟨λhd=>(by cases hd),?_⟩;have h1:CallsIn Fence.wide (n - 1) P f args w' _:=callsIn_wide.2 h;refine (show CallsIn Fence.wide (n - 1) P f args w' _ from CallsIn.mono h1 ?_);intro e w'' Z;cases e with
   |returned v=>exact G _ _ Z
   |panicked c=>exact Z.elim
   |outgrown=>exact (aa Z).elim
  case row row args=>
   refine⟨λhd=>(by cases hd),?_⟩;intro c cs _;obtain⟨v,w'',hR,hs⟩:=h c cs;exact⟨v,w'',G _ _ hR,stepsIn_wide.2 hs⟩
 |halt x w'=>
  rw[hr] at h;cases x<;>simp only[Oper.upon] at h
def uM{ops:Array Oper}(z:YJ ops=true){Q:Exit->Act->World->Prop}: ∀(ls:List Nat) (a:Act) (w:World),Ld P ops (Q .normal) ls a w->wpOpsIn (wR ro) n P ops Q ls a w
 |[],a,w,h=>h
 |i::G,a,w,h=>by
  simp only[Ld] at h;simp only[wpOpsIn];cases ho:ops[i]? with
  |none=>rw[ho] at h;exact uM z G a w h
  |some o=>
   rw[ho] at h;simp only at h⊢;split
   .rename_i hw;rw[Ai hw] at h;rcases h with ⟨o',O,_,Z⟩|⟨O,_⟩
    .rw[ho] at O;obtain rfl:=AB O;exact Qlw (nO z ho) (λa w h=>uM z G a w h) Z
    .have h2:=O o ho;have Z:=nO z ho;exfalso;cases hop:o.op<;>rw[hop] at h2 Z<;>simp[Op.comm,Op.calm] at h2 Z
   .rename_i hw;rw[Af hw] at h;exact⟨λ_ _=>trivial,uM z G _ w h⟩
def uL{ops:Array Oper}(z:YJ ops=true){K:Act->World->Prop}{Q:Exit->Act->World->Prop}{l2:List Nat}(hK: ∀a w,K a w->wpOpsIn (wR ro) n P ops Q l2 a w): ∀(ls:List Nat) (a:Act) (w:World),Ld P ops K ls a w->wpOpsIn (wR ro) n P ops Q (ls++l2) a w
 |[],a,w,h=>hK a w h
 |i::G,a,w,h=>by
  simp only[Ld] at h;simp only[BG,wpOpsIn];cases ho:ops[i]? with
  |none=>rw[ho] at h;exact uL z hK G a w h
  |some o=>
   rw[ho] at h;simp only at h⊢;split
   .rename_i hw;rw[Ai hw] at h;rcases h with ⟨o',O,_,Z⟩|⟨O,_⟩
    .rw[ho] at O;obtain rfl:=AB O;exact Qlw (nO z ho) (λa w h=>uL z hK G a w h) Z
    .have h2:=O o ho;have Z:=nO z ho;exfalso;cases hop:o.op<;>rw[hop] at h2 Z<;>simp[Op.comm,Op.calm] at h2 Z
   .rename_i hw;rw[Af hw] at h;exact⟨λ_ _=>trivial,uL z hK G _ w h⟩
def uH{ops:Array Oper}(O:YJ ops=true){Q:Exit->Act->World->Prop}(Z: ¬LetsOut Q)(aa: ∀c a w,¬Q (.panic c) a w): ∀(G:Nat) (listed:Array Bool) (a:Act) (w:World),wpAny P .any ops Q G listed a w->wpAnyIn (wR ro) n P .any ops Q G listed a w
 |0,listed,a,w,h=>h
 |G+1,listed,a,w,h=>by
  simp only[wpAny] at h;simp only[wpAnyIn];refine⟨h.1,λi hi=> ?_⟩;have z:=h.2 i hi;unfold wpOp at z;unfold wpOpIn;cases ho:ops[i]? with
  |none=>rw[ho] at z;exact uH O Z aa G _ a w z
  |some o=>
   rw[ho] at z;simp only at z⊢;split
   .rename_i hw;rw[Ai hw] at z;rcases z with z|z
    .refine Qlw (nO O ho) (λa w h=>uH O Z aa G _ a w h) ?_;unfold Oper.wp at z⊢;cases hr:(execOp a.eval o).run P w with
     |ok x w'=>
      rw[hr] at z;cases x<;>simp only[Oper.upon] at z⊢ <;>try exact z
      refine Calls.mono z ?_;intro e w'' he;cases e with
      |returned v=>exact he
      |panicked c=>exact aa _ _ _ he
      |outgrown=>exact (Z he).elim
     |halt x w'=>
      rw[hr] at z;cases x<;>simp only[Oper.upon] at z⊢ <;>try exact z
      exact aa _ _ _ z
    .exact (Z z.2).elim
   .rename_i hw;rw[Af hw] at z;exact⟨λ_ _=>trivial,uH O Z aa G _ _ w z⟩
end
section
variable {P:Program}{V:CT}{C:AZ}{N n:Nat}{ro:Option Nat}
def Yx{Q:Ci}: ¬LetsOut (Gx C N Q):=λ⟨_,_,h⟩=>h
def Ps{Q:Ci}: ∀c a w,¬Gx C N Q (.panic c) a w:=λ_ _ _ h=>h
def nK(HM:P.follows .mixedOrders=true)(HV:Hx P V): ∀(c:Code),DT N c=true->H2 c=true-> ∀(Q:Ci) (s:Az) (a:Act) (w:World),CR P V c Q s->BC C N s a w->c.wpIn (wR ro) n P (Gx C N Q) a w:=by
 intro c;induction c with
 |skip=>intro _ _ Q s a w h G;exact wpIn_skip ⟨s,h,G⟩
 |region id ops an=>
  intro hk hl Q s a w h G;simp only[DT,AW] at hk;cases an with
  |true=>exact wpIn_region_any HM (uH hl Yx Ps _ _ _ _ (Qog HV (λs a w h1 h2=>⟨s,h1,h2⟩) hk.1 (by simpa using hk.2) h G))
  |false=>
   refine wpIn_region (uM hl _ _ _ ?_)
   have:=Qpr HV (ops:=ops) (Q:=Gx C N Q) (λs a w h1 h2=>⟨s,h1,h2⟩) ops.toList [] 0 (by simp) hk.1 s a w h G
   rwa [EE,<-Zef] at this
 |seq x y ak am=>
  intro hk hl Q s a w h G;simp only[DT,AW] at hk;simp only[H2,AW] at hl;simp only[CR] at h;refine wpIn_seq (wpIn_mono (ak hk.1 hl.1 _ s a w h G) (YF ?_ ?_ ?_))
  .intro s a w hs G;exact am hk.2 hl.2 Q s a w hs G
  .intro i s hs;exact hs
  .intro s hs;exact hs
 |cond c x y ak am=>
  intro hk hl Q s a w h G;simp only[DT,AW] at hk;simp only[H2,AW] at hl;simp only[CR] at h;obtain⟨S,ao,aj⟩:=G;have h1:=Qs aj c;cases hv:Ap s.tm c<;>rw[hv] at h<;>try exact h.elim
  rename_i d;cases d<;>try exact h.elim
  rename_i b;rw[hv] at h1;simp only[Aa,rd] at h1;simp only[qA] at h;refine wpIn_cond_split h1 (λhb=>ak hk.1 hl.1 Q s a w (h.1 hb) ⟨S,ao,aj⟩) (λhb=>am hk.2 hl.2 Q s a w (h.2 hb) ⟨S,ao,aj⟩)
 |block id c ih=>
  intro hk hl Q s a w h G;simp only[CR] at h;refine wpIn_block (wpIn_mono (ih hk hl _ s a w h G) ?_);intro e a w he;cases e<;>simp only[Gx] at he<;>simp only[Exit.inBlock,Gx]
  .exact he
  .rename_i i;obtain⟨s,hs,G⟩:=he;simp only[iV] at hs;by_cases hi:i=id
   .subst hi;rw[Ai rfl];exact⟨s,by simpa[IJ] using hs,G⟩
   .rw[Af hi]
    have:(i==id)=false:=by simpa using hi
    rw[this] at hs;exact⟨s,hs,G⟩
  .exact he
 |loop c ih=>
  intro hk hl Q s a w h G;have ai: ∀(s:Az),YN (CR P V c) Q s->BC C N s a w->(Code.loop c).wpIn (wR ro) n P (Gx C N Q) a w:=by
   clear h G;intro s h G;simp only[YN] at h;obtain⟨β,I,μ,z,⟨b0,ad⟩,O⟩:=h
   let p:Act->World->Nat->Prop:=λa w n=> ∃b,BC C N (I b) a w/\μ b=n
   let μ':Act->World->Nat:=λa w=>Classical.epsilon λn=>p a w n/\ ∀k,k<n-> ¬p a w k
   have hμ: ∀a w b,BC C N (I b) a w->p a w (μ' a w)/\ ∀k,k<μ' a w-> ¬p a w k:=by
    intro a w b hb;exact jB (p:=λn=>p a w n/\ ∀k,k<n-> ¬p a w k) (Np (μ b) ⟨b,hb,rfl⟩)
   have ab: ∀b,C.n0<=(I b).nx:=by
    intro b;obtain⟨S,_,h⟩:=G;exact CD h.n0 (z b).2
   refine wpIn_loop (λa w=> ∃b,BC C N (I b) a w) μ' ⟨b0,iO G ad (z b0).1 (ab b0)⟩ ?_;rintro a w ⟨b,hb⟩;obtain⟨⟨b1,af,au⟩,_⟩:=hμ a w b hb;refine wpIn_mono (ih hk hl _ _ a w (O b1) af) (YF ?_ ?_ ?_)
   .rintro s' a' w' ⟨b',aq,ac⟩ ag;have Z:=iO ag ac (z b').1 (ab b');refine⟨⟨b',Z⟩,?_⟩;obtain⟨_,aa⟩:=hμ a' w' b' Z;rcases FB (μ b') (μ' a' w') with h1|h1
    .exact absurd ⟨b',Z,rfl⟩ (aa _ h1)
    .omega
   .intro i s hs;exact hs
   .intro s hs;exact hs
  simp only[CR,AY] at h;rcases h with h|h|⟨F,h⟩|h
  .exact ai s h G
  .simp only[xK] at h;obtain⟨β,I,μ,z,⟨b0,π0,ad⟩,O⟩:=h
   let p:Act->World->Nat->Prop:=λa w n=> ∃b,BC C N (I b) a w/\μ b=n
   let μ':Act->World->Nat:=λa w=>Classical.epsilon λn=>p a w n/\ ∀k,k<n-> ¬p a w k
   have hμ: ∀a w b,BC C N (I b) a w->p a w (μ' a w)/\ ∀k,k<μ' a w-> ¬p a w k:=by
    intro a w b hb;exact jB (p:=λn=>p a w n/\ ∀k,k<n-> ¬p a w k) (Np (μ b) ⟨b,hb,rfl⟩)
   have ah:C.n0<=s.nx:=by
    obtain⟨S,_,h⟩:=G;exact h.n0
   have ab: ∀b,C.n0<=(I b).nx:=by
    intro b;obtain⟨S,_,h⟩:=G;exact CD h.n0 (z b).2
   refine wpIn_loop (λa w=> ∃b,BC C N (I b) a w) μ' ⟨b0,Qv G ad (z b0).1 ah (ab b0)⟩ ?_;rintro a w ⟨b,hb⟩;obtain⟨⟨b1,af,au⟩,_⟩:=hμ a w b hb;refine wpIn_mono (ih hk hl _ _ a w (O b1) af) (YF ?_ ?_ ?_)
   .rintro s' a' w' ⟨b',π,aq,ac⟩ ag;have Z:=Qv ag ac (z b').1 ah (ab b');refine⟨⟨b',Z⟩,?_⟩;obtain⟨_,aa⟩:=hμ a' w' b' Z;rcases FB (μ b') (μ' a' w') with h1|h1
    .exact absurd ⟨b',Z,rfl⟩ (aa _ h1)
    .omega
   .intro i s hs;exact hs
   .intro s hs;exact hs
  .exact ai _ h (Qxl F G)
  .simp only[xI] at h;obtain⟨β,I,μ,z,⟨b0,F0,π0,ad⟩,O⟩:=h
   let p:Act->World->Nat->Prop:=λa w n=> ∃b,BC C N (I b) a w/\μ b=n
   let μ':Act->World->Nat:=λa w=>Classical.epsilon λn=>p a w n/\ ∀k,k<n-> ¬p a w k
   have hμ: ∀a w b,BC C N (I b) a w->p a w (μ' a w)/\ ∀k,k<μ' a w-> ¬p a w k:=by
    intro a w b hb;exact jB (p:=λn=>p a w n/\ ∀k,k<n-> ¬p a w k) (Np (μ b) ⟨b,hb,rfl⟩)
   have ah:C.n0<=s.nx:=by
    obtain⟨S,_,h⟩:=G;exact h.n0
   have ab: ∀b,C.n0<=(I b).nx:=by
    intro b;obtain⟨S,_,h⟩:=G;exact CD h.n0 (z b).2
   refine wpIn_loop (λa w=> ∃b,BC C N (I b) a w) μ' ⟨b0,Qv (pM F0 G) ad (z b0).1 ah (ab b0)⟩ ?_;rintro a w ⟨b,hb⟩;obtain⟨⟨b1,af,au⟩,_⟩:=hμ a w b hb;refine wpIn_mono (ih hk hl _ _ a w (O b1) af) (YF ?_ ?_ ?_)
   .rintro s' a' w' ⟨b',F,π,aq,ac⟩ ag;have Z:=Qv (pM F ag) ac (z b').1 ah (ab b');refine⟨⟨b',Z⟩,?_⟩;obtain⟨_,aa⟩:=hμ a' w' b' Z;rcases FB (μ b') (μ' a' w') with h1|h1
    .exact absurd ⟨b',Z,rfl⟩ (aa _ h1)
    .omega
   .intro i s hs;exact hs
   .intro s hs;exact hs
 |exit id=>intro _ _ Q s a w h G;exact wpIn_exit ⟨s,h,G⟩
 |ret=>intro _ _ Q s a w h G;exact wpIn_ret ⟨s,h,G⟩
 |_=>intro hk;simp[DT] at hk
end
def EN(S:Ay)(b:Nat):Prop:= ∃o e z,S.h o=some e/\e.1=true/\S.ρ o=some z/\z.b=b
def PT(S:Ay)(b:Nat):Prop:= ∃o e z,S.h o=some e/\S.ρ o=some z/\z.b=b
def Gv(S:Ay)(n0:Nat)(ds:List Deferred):AZ:=⟨S.w,EN S,S.ok,n0,S.h,S.ρ,ds⟩
def Wj{C:AZ}{S:Ay}(h:Wf C S){b:Nat}(Z:EN S b):b<S.w.heap.size/\ ¬S.ok b/\(C.w.heap.size<=b\/C.M b):=by
 obtain⟨o,e,lc,G,O,Q,rfl⟩:=Z;obtain⟨q1,z⟩:=h.loc o e lc G Q;rw[O] at z;simp only[B5] at z;exact⟨q1,z.1,z.2⟩
def Tz{C:AZ}{S:Ay}(h:Wf C S)(n0:Nat)(ds:List Deferred):Wf (Gv S n0 ds) S:=by
 refine⟨rfl,rfl,rfl,AP _,AP _,λ_ _ _=>rfl,λ_ h=>h,λ_ h=> .inl h,h.oks,h.obj,λo e l G O=> ?_,h.inj,h.glN λ_ Q=>(Wj h Q).2.1⟩;obtain⟨q1,z⟩:=h.loc o e l G O;refine⟨q1,?_⟩;cases hm:e.1 with
 |true=>
  rw[hm] at z;simp only[B5] at z⊢;exact⟨z.1,.inr ⟨o,e,l,G,hm,O,rfl⟩⟩
 |false=>rw[hm] at z;simpa using z
def XL{C:AZ}{N:Nat}{s:Az}{S:Ay}{a:Act}(h:CC C N s S a):CC (Gv S s.nx a.defers) N s S a:=
 ⟨Tz h.wf _ _,h.h,h.tm,h.nmT,h.nmH,h.size,rfl,AP _,λ_ _ e' z=>⟨e',z,rfl,rfl,rfl⟩⟩
def Qrn{C:AZ}{S S':Ay}{n0:Nat}{ds:List Deferred}(hW:Wf C S)(h:Wf (Gv S n0 ds) S'):Wf C S':=by
 have O:C.w.heap.size<=S.w.heap.size:=hW.size;have Q:S.w.heap.size<=S'.w.heap.size:=h.size;refine⟨h.os.trans hW.os,h.tape.trans hW.tape,h.output.trans hW.output,CD hW.dr h.dr,CD O Q,λb z Z=> ?_,λb z=>h.ok0 b (hW.ok0 b z),λb z=> ?_,h.oks,h.obj,λo e l h1 h2=> ?_,h.inj,hW.gl⟩
 .refine (h.keep b (Fx z O) (λho=> ?_)).trans (hW.keep b z Z);rcases (Wj hW ho).2.2 with q|q
  .omega
  .exact Z q
 .rcases h.ok1 b z with q|q|q
  .exact hW.ok1 b q
  .exact .inr (.inl (CD O q))
  .exact .inr (Wj hW q).2.2
 .obtain⟨q1,G⟩:=h.loc o e l h1 h2;refine⟨q1,?_⟩;cases hm:e.1 with
  |true=>
   rw[hm] at G;simp only[B5] at G⊢;refine⟨G.1,?_⟩;rcases G.2 with q|q
   .exact .inl (CD O q)
   .exact (Wj hW q).2.2
  |false=>rw[hm] at G;simpa using G
def YC{S S':Ay}{n0:Nat}{ds:List Deferred}(h:Wf (Gv S n0 ds) S'): ∀b,b<S.w.heap.size-> ¬EN S b->S'.w.heap[b]? =S.w.heap[b]? :=h.keep
def iJ{S S':Ay}{n0:Nat}{ds:List Deferred}(h:Wf (Gv S n0 ds) S'){b:Nat}(z:EN S' b):S.w.heap.size<=b\/EN S b:=(Wj h z).2.2
def YT{S S':Ay}{n0:Nat}{ds:List Deferred}(h:Wf (Gv S n0 ds) S'){b:Nat}(z:S'.ok b):S.ok b\/S.w.heap.size<=b\/EN S b:=h.ok1 b z
structure QD(S:Ay)(W':World):Prop where
 size:S.w.heap.size<=W'.heap.size
 os:W'.os=S.w.os
 tape:W'.tape=S.w.tape
 output:W'.output=S.w.output
 dr:S.w.drawn<=W'.drawn
 ok: ∀b,S.ok b->W'.heap[b]? =S.w.heap[b]?
 nm: ∀b,PT S b->W'.heap[b]? =S.w.heap[b]?
def nN{S:Ay}{W':World}(h:QD S W')(X:Nat->Prop):BE X S {S with w:=W'}:=⟨λb G=>⟨G,h.ok b G⟩,λ_ _ e' z=>⟨e',z,rfl,rfl,rfl⟩⟩
def P0{C:AZ}{S:Ay}{W':World}(hW:Wf C S)(h:QD S W'):GP S.ok (λb=>W'.heap[b]?):=hW.gp.mono λb _ z G=>⟨z,(h.ok b z).trans G⟩
def oT{C:AZ}{S:Ay}{W':World}(hW:Wf C S)(h:QD S W')(hk: ∀b,b<C.w.heap.size-> ¬C.M b->W'.heap[b]? =S.w.heap[b]?):Wf C {S with w:=W'}:=by
 refine⟨h.os.trans hW.os,h.tape.trans hW.tape,h.output.trans hW.output,CD hW.dr h.dr,CD hW.size h.size,λb z O=>(hk b z O).trans (hW.keep b z O),hW.ok0,hW.ok1,λb z=>Fx (hW.oks b z) h.size,λo e Q=> ?_,λo e l h1 h2=> ?_,hW.inj,hW.gl⟩
 .exact Hd (nN h λ_=>True) (λZ G=>h.nm Z.b ⟨o,e,Z,Q,G,rfl⟩) e.2 (λ_ _=>trivial) (hW.obj o e Q)
 .obtain⟨q1,q2⟩:=hW.loc o e l h1 h2;exact⟨Fx q1 h.size,q2⟩
def Qul{C:AZ}{N:Nat}{s:Az}{S:Ay}{a:Act}{W':World}(z:CC C N s S a)(h:QD S W')(G: ∀b,b<C.w.heap.size-> ¬C.M b->W'.heap[b]? =S.w.heap[b]?):CC C N s {S with w:=W'} a:=
 ⟨oT z.wf h G,z.h,λt=>I1 (nN h λ_=>True) _ _ (λ_ _=>trivial) (z.tm t),z.nmT,z.nmH,z.size,z.defers,z.n0,z.pre⟩
def vG{S:Ay}{l:Nat}{o:Obj}(G: ¬S.ok l)(O: ¬PT S l):QD S (S.w.putObj l o):=by
 refine⟨by simp,rfl,rfl,rfl,AP _,λb z=> ?_,λb z=> ?_⟩
 .exact World.putObj_heap_other (λe=>G (e▸z))
 .exact World.putObj_heap_other (λe=>O (e▸z))
structure JH(ok0:Nat->Prop)(Pr:Nat->Prop)(W:World)(Pr':Nat->Prop)(W':World):Prop where
 size:W.heap.size<=W'.heap.size
 os:W'.os=W.os
 tape:W'.tape=W.tape
 output:W'.output=W.output
 dr:W.drawn<=W'.drawn
 pr: ∀b,Pr' b->Pr b\/W.heap.size<=b
 same: ∀b,b<W.heap.size->(¬Pr b\/ok0 b)->W'.heap[b]? =W.heap[b]?
def PA{ι:Type}(base:Nat)(J:ι->(Nat->Prop)->World->Prop):Prop:=
 ∀i Pr W,J i Pr W->(∀b,Pr b->b<W.heap.size)/\ ∀W',W.heap.size<=W'.heap.size->W'.os=W.os->W'.tape=W.tape->W'.output=W.output->W.drawn<=W'.drawn->(∀b,Pr b\/b<base->W'.heap[b]? =W.heap[b]?)->J i Pr W'
structure tZ where
 I:Type
 i0:I
 step:I->List D->I->Prop
 fin:I->Prop
def Qa(P:Program)(gf:Nat)(capt:List D)(X:tZ):Prop:=
 ∀(C:AZ) (S:Ay) (vs:Array Value) (l:Nat) (J:X.I->(Nat->Prop)->World->Prop),Wf C S->rdl S.ok S.hp capt vs.toList->PA S.w.heap.size J->
  (∀i x j args Pr W,X.step i x j->(∀ok hp,rdl ok hp x args.toList)->J i Pr W->YieldAt Fence.wide 0 P l args W λe W'=>e= .returned (.bool true)/\ ∃Pr',J j Pr' W'/\JH S.ok Pr W Pr' W')->
  (∃Pr,J X.i0 Pr S.w)->Calls P gf (#[.func (.yield l) #[] #[]]++vs) S.w λe W'=> ∃v Pr i,e= .returned v/\X.fin i/\J i Pr W'
def eI(xs:List (List D)):tZ:=⟨Nat,0,λi x j=>xs[i]? =some x/\j=i+1,λi=>i=xs.length⟩
def JG(P:Program)(gf:Nat)(capt:List D)(xs:List (List D)):Prop:=Qa P gf capt (eI xs)
def FJ:List Tmp->List D->List (Nat×AV)->List (Nat×AV)
 |t::z,d::ds,tm=>FJ z ds ((t,.im d)::tm)
 |[],_,tm=>tm
 |_::_,[],tm=>tm
def FI:List Tmp->List Value->Array Value->Array Value
 |t::z,v::G,A=>FI z G (A.setIfInBounds t v)
 |[],_,A=>A
 |_::_,[],A=>A
def XE(ps:Array Tmp)(args:Array Value)(A:Array Value):(ps.zip args).foldl (λz (t,a)=>z.setIfInBounds t a) A=FI ps.toList args.toList A:=by
 rw[<-Array.foldl_toList,Array.toList_zip];generalize ps.toList=l;generalize args.toList=m;induction l generalizing m A with
 |nil=>simp[FI]
 |cons t G ih=>
  cases m with
  |nil=>simp[FI]
  |cons v O=>simp only[List.zip_cons_cons,Zi,FI];exact ih _ _
def Qv4: ∀(z:List Tmp) (vs:List Value) (A:Array Value),(FI z vs A).size=A.size
 |t::z,v::vs,A=>by simp only[FI,Qv4 z vs,ZdG]
 |[],_,A=>rfl
 |_::_,[],A=>rfl
def Qv1{S:Ay}: ∀(O:List Tmp) (ds:List D) (vs:List Value) (tm:List (Nat×AV)) (A:Array Value),rdl S.ok S.hp ds vs->(∀t∈O,t<A.size)->(∀t,Aa S (A8 tm t) (A.getD t undef))->
 ∀t,Aa S (A8 (FJ O ds tm) t) ((FI O vs A).getD t undef)
 |Q::O,d::ds,vs,tm,A,G,hl,z=>by
  simp only[rdl] at G;obtain⟨v,r,rfl,h1,h2⟩:=G;simp only[FJ,FI];refine Qv1 O ds r _ _ h2 (λt ht=>by rw[ZdG];exact hl t (BK _ ht)) (λt=> ?_);have Z:=hl Q (BQ ..);simp only[A8];by_cases h:Q=t
  .subst h;simp[Z,Aa];exact h1
  .have:(Q==t)=false:=by simpa using h
   rw[this];simp only[Bs];have e:(A.setIfInBounds Q v).getD t undef=A.getD t undef:=by
    simp only[H5];rw[Array.getElem?_setIfInBounds_ne h]
   rw[e];exact z t
 |[],_,_,tm,A,_,_,z=>λt=>by simpa only[FJ,FI] using z t
 |_::_,[],vs,tm,A,G,_,z=>λt=>by
  simp only[rdl] at G;subst G;simpa only[FJ,FI] using z t
def Qy1{n:Nat}: ∀(G:List Tmp) (ds:List D) (tm:List (Nat×AV)),(∀t,∀m∈(A8 tm t).nms,m<n)-> ∀t,∀m∈(A8 (FJ G ds tm) t).nms,m<n
 |O::G,d::ds,tm,h=>by
  simp only[FJ];refine Qy1 G ds _ (λt m z=> ?_);simp only[A8] at z;cases hq:O==t<;>rw[hq] at z
  .exact h t m z
  .simp[AV.nms] at z
 |[],_,tm,h=>h
 |_::_,[],tm,h=>h
def oL{C:AZ}{S:Ay}(hW:Wf C S){b:Nat}(hb:PT S b):(∀r,S.w.heap[b]? ≠some (.loop r))/\ ∀d,S.w.heap[b]? ≠some (.deferred d):=by
 obtain⟨o,e,O,Z,h2,rfl⟩:=hb;have h:=hW.obj o e Z;rw[h2] at h;have hp:S.hp O.b=S.w.heap[O.b]? :=rfl;obtain⟨mu,ob⟩:=e;cases ob<;>simp only[An] at h
 case cells T cs=>obtain⟨l',G,q1,_,z,_⟩:=h;cases q1;rw[<-hp,z];simp
 case arr T k rows=>obtain⟨_,_,G,z,_⟩:=h;rw[<-hp,z];simp
 case arrA T k rows=>obtain⟨_,_,G,z,_⟩:=h;rw[<-hp,z];simp
 case map kt es=>obtain⟨l',Q,cl,q1,_,z,_⟩:=h;cases q1;rw[<-hp,z];simp
 case chan q cap=>obtain⟨l',bu,se,rc,q1,z,_⟩:=h;cases q1;rw[<-hp,z];simp
 case iter la le=>obtain⟨l',mb,Q,cl,se,q1,_,_,_,z,_⟩:=h;cases q1;rw[<-hp,z];simp
 case view cs=>obtain⟨l',G,T,fr,q1,z,_⟩:=h;cases q1;rw[<-hp,z];simp
def Q5{S:Ay}{b:Nat}(h:EN S b):PT S b:=by
 obtain⟨o,e,Q,z,_,G,O⟩:=h;exact⟨o,e,Q,z,G,O⟩
def pR{C:AZ}{N:Nat}{s:Az}{S:Ay}{a:Act}{W':World}(z:CC C N s S a)(h:QD S W')(n0:Nat)(hn:n0<=s.nx)(a':Act)(ds:List Deferred)(hd:a'.defers=ds)(ha:a'.tmps=a.tmps):
 CC (Gv {S with w:=W'} n0 ds) N s {S with w:=W'} a':=by
 have hW:=z.wf;refine⟨⟨rfl,rfl,rfl,AP _,AP _,λ_ _ _=>rfl,λ_ h=>h,λ_ h=> .inl h,λb O=>Fx (hW.oks b O) h.size,λo e he=> ?_,λo e l h1 h2=> ?_,hW.inj,(P0 hW h).mono λb o O ho=>⟨⟨O,λhM=>(Wj hW hM).2.1 O⟩,ho⟩⟩,z.h,λt=> ?_,z.nmT,z.nmH,by rw[ha];exact z.size,hd,hn,λ_ _ e' Q=>⟨e',Q,rfl,rfl,rfl⟩⟩
 .exact Hd (nN h λ_=>True) (λlc Z=>h.nm lc.b ⟨o,e,lc,he,Z,rfl⟩) e.2 (λ_ _=>trivial) (hW.obj o e he)
 .obtain⟨q1,G⟩:=hW.loc o e l h1 h2;refine⟨Fx q1 h.size,?_⟩;cases hm:e.1 with
  |true=>
   rw[hm] at G;simp only[B5] at G⊢;exact⟨G.1,.inr ⟨o,e,l,h1,hm,h2,rfl⟩⟩
  |false=>rw[hm] at G;simpa using G
 .have e:a'.eval (.tmp t)=a.eval (.tmp t):=by simp only[Act.eval,ha]
  rw[e];exact I1 (nN h λ_=>True) _ _ (λ_ _=>trivial) (z.tm t)
def Qxm{C:AZ}{S:Ay}{W':World}(hW:Wf C S)(hs:S.w.heap.size<=W'.heap.size)(G:W'.os=S.w.os)(O:W'.tape=S.w.tape)(Q:W'.output=S.w.output)(Z:S.w.drawn<=W'.drawn)(z: ∀b,b<S.w.heap.size->W'.heap[b]? =S.w.heap[b]?):QD S W':=
 ⟨hs,G,O,Q,Z,λb h=>z b (hW.oks b h),λb ⟨o,e,lc,q1,q2,q3⟩=>z b (q3▸(hW.loc o e lc q1 q2).1)⟩
def XO(lo nx:Nat)(h':Ao):Ci
 | .normal,z=> ∃π,Ar lo π z ⟨[],h',nx⟩
 | .exit _,_=>False
 | .ret,_=>False
def QT(P:Program)(V:CT)(z:Code)(Q:Ci):Ci
 | .normal,G=>CR P V z Q G
 | .exit _,_=>False
 | .ret,_=>False
def fQ(C:AZ)(N:Nat)(s:Az)(O:Act):Exit->Act->World->Prop
 | .normal,a',w'=> ∃z G D,G.w=w'/\CC z N s G a'/\(∀S',Wf z S'->Wf C S')/\a'.tmps=O.tmps/\a'.defers={target:= .collected D,args:= #[]}::O.defers/\
  D<z.w.heap.size/\ ¬z.M D/\ ¬z.ok D/\C.w.heap.size<=D/\z.w.heap[D]? =some (.deferred (some []))
 |_,_,_=>False
section
variable {P:Program}{V:CT}{N:Nat}
def TF{ι:Type}(C:AZ)(N:Nat)(st:ι->Az)(a:Act)(ok0:Nat->Prop)(Dk l:Nat)(rc:Loop)(i:ι)(Pr:Nat->Prop)(W:World):Prop:=
 ∃S,S.w=W/\CC C N (st i) S a/\(∀b,Pr b↔(PT S b\/S.ok b\/b=l\/b=Dk))/\(∀b,ok0 b->S.ok b)/\W.heap[l]? =some (.loop rc)/\W.heap[Dk]? =some (.deferred (some []))/\ ¬S.ok l/\ ¬S.ok Dk
def Qaa7{ι:Type}{C:AZ}{st:ι->Az}{a:Act}{ok0:Nat->Prop}{Dk l:Nat}{rc:Loop}{base:Nat}(O:C.w.heap.size<=base):PA base (TF C N st a ok0 Dk l rc):=by
 rintro i Pr W ⟨S,rfl,Q,z,aa,hl,hD,nl,nD⟩;refine⟨λb Z=> ?_,λW' h1 h2 h3 h4 h5 G=> ?_⟩
 .rcases (z b).1 Z with ⟨o,e,lc,q1,q2,rfl⟩|q|rfl|rfl
  .exact (Q.wf.loc o e lc q1 q2).1
  .exact Q.wf.oks b q
  .exact (QF.1 hl).1
  .exact (QF.1 hD).1
 .have hm:QD S W':=⟨h1,h2,h3,h4,h5,λb O=>G b (.inl ((z b).2 (.inr (.inl O)))),λb O=>G b (.inl ((z b).2 (.inl O)))⟩;refine⟨{S with w:=W'},rfl,Qul Q hm (λb ab _=>G b (.inr (by omega))),z,aa,?_,?_,nl,nD⟩
  .rw[G l (.inl ((z l).2 (.inr (.inr (.inl rfl)))))];exact hl
  .rw[G Dk (.inl ((z Dk).2 (.inr (.inr (.inr rfl)))))];exact hD
def TL{ι:Type}(HM:P.follows .mixedOrders=true)(HV:Hx P V){C:AZ}{st:ι->Az}{a:Act}{ok0:Nat->Prop}{Dk l:Nat}{tm0:List (Nat×AV)}{hs:ι->Ao}{lo nx:Nat}{fn:FuncId}{ps:Array Tmp}{assign body:Code}{i j:ι}{x:List D}
 (ax: ∀i,st i=⟨tm0,hs i,nx⟩)(bf:C.n0<=lo)(an:lo<=nx)(a8:Cp lo tm0=true)(hg:Az.good ⟨[],hs j,nx⟩=true)(cf: ∀o e,hget (hs j) o=some e->e.2.isView=true->o<lo)(be:l≠Dk)(co:C.w.heap.size<=l)
 (b0:DT N assign=true)(a9:H2 assign=true)(b8:DT N body=true)(ba:H2 body=true)(ce: ∀t∈ps.toList,t<N)(cr:x.length=ps.size)
 (ao:CR P V assign (QT P V body (XO lo nx (hs j))) ⟨FJ ps.toList x tm0,hs i,nx⟩)
 {args:Array Value}{Pr:Nat->Prop}{W:World}(ah: ∀ok hp,rdl ok hp x args.toList)
 (hJ:TF C N st a ok0 Dk l {state:= .ready,pending:=none,fn,tmps:=a.tmps,params:=ps,assign,body,defers:=Dk} i Pr W):
 YieldAt Fence.wide 0 P l args W λe W'=>e= .returned (.bool true)/\ ∃Pr',TF C N st a ok0 Dk l {state:= .ready,pending:=none,fn,tmps:=a.tmps,params:=ps,assign,body,defers:=Dk} j Pr' W'/\JH ok0 Pr W Pr' W':=by
 obtain⟨S,rfl,O,aa,aw,hl,hD,nl,nD⟩:=hJ;have bz:args.size=ps.size:=by
  have:=cM _ _ (ah S.ok S.hp)
  simp at this;omega
 refine⟨fn,_,assign,body,run_yield hl bz,roundIn_of_wpIn trivial ?_⟩;simp only[XE];have kl: ∀{C':AZ} {S':Ay},Wf C' S'->(∃r,S'.w.heap[l]? =some (.loop r))-> ¬PT S' l:=λhW ⟨r,hr⟩ hn=>(oL hW hn).1 r hr
 have kD: ∀{C':AZ} {S':Ay},Wf C' S'->(S'.w.heap[Dk]? =some (.deferred (some [])))-> ¬PT S' Dk:=λhW hr hn=>(oL hW hn).2 _ hr
 have b9:l<S.w.heap.size:=(QF.1 hl).1;have bt:Dk<S.w.heap.size:=(QF.1 hD).1;have bu:CC (Gv S lo []) N ⟨FJ ps.toList x tm0,hs i,nx⟩ S {tmps:=FI ps.toList args.toList a.tmps,defers:=[]}:=by
  have hh:=O.h;have ht:=O.tm;have hm:=O.nmH;have bi:=O.nmT;rw[ax i] at hh ht hm bi;refine⟨Tz O.wf _ _,hh,λt=> ?_,Qy1 _ _ _ bi,hm,?_,rfl,an,λ_ _ e' ac=>⟨e',ac,rfl,rfl,rfl⟩⟩
  .exact Qv1 _ _ _ _ _ (ah _ _) (λt ht=>by rw[O.size];exact ce t ht) ht t
  .rw[Qv4];exact O.size
 refine wpIn_mono (nK (ro:=some l) HM HV assign b0 a9 _ _ _ _ ao ⟨S,rfl,bu⟩) ?_;intro e a1 w1 hq;cases e<;>simp only[Gx] at hq<;>simp only[Exit.then]
 case exit id=>obtain⟨_,h,_⟩:=hq;exact h.elim
 case ret=>obtain⟨_,h,_⟩:=hq;exact h.elim
 obtain⟨s1,bj,S1,rfl,z⟩:=hq;simp only[QT] at bj;have cp:S.w.heap.size<=S1.w.heap.size:=z.wf.size;have bc:S1.w.heap[l]? =_:=(YC z.wf l b9 (λQ=>kl O.wf ⟨_,hl⟩ (Q5 Q))).trans hl;have bq:S1.w.heap[Dk]? =_:=(YC z.wf Dk bt (λQ=>kD O.wf hD (Q5 Q))).trans hD;have bm: ¬S1.ok l:=λh=>by
  rcases YT z.wf h with q|q|q
  .exact nl q
  .omega
  .exact kl O.wf ⟨_,hl⟩ (Q5 q)
 have cg: ¬S1.ok Dk:=λh=>by
  rcases YT z.wf h with q|q|q
  .exact nD q
  .omega
  .exact kD O.wf hD (Q5 q)
 refine⟨_,run_beginRound bc rfl,?_⟩;obtain⟨ob,hob⟩: ∃ob,ob=Obj.loop {({state:= .ready,pending:=none,fn,tmps:=a.tmps,params:=ps,assign,body,defers:=Dk}:Loop) with state:= .busy}:=⟨_,rfl⟩;rw[<-hob];obtain⟨S2,hS2⟩: ∃S2:Ay,S2={S1 with w:=S1.w.putObj l ob}:=⟨_,rfl⟩;have bh:=vG (S:=S1) (o:=ob) bm (kl z.wf ⟨_,bc⟩);have bg:lo<=s1.nx:=z.n0;have aj:CC (Gv S2 lo []) N s1 S2 a1:=by
  rw[hS2];exact pR z bh lo bg a1 [] z.defers rfl
 have ad:S2.w=S1.w.putObj l ob:=by rw[hS2]
 have cm:S2.w.heap.size=S1.w.heap.size:=by rw[ad,World.putObj_size]
 have av:S2.w.heap[l]? =some ob:=by rw[ad];exact World.putObj_heap_same (by omega)
 have au:S2.w.heap[Dk]? =some (.deferred (some [])):=by rw[ad,World.putObj_heap_other be.symm];exact bq
 rw[<-ad];refine wpIn_mono (nK (ro:=some l) HM HV body b8 ba _ _ _ _ bj ⟨S2,rfl,aj⟩) ?_;intro e a2 w2 hq;cases e<;>simp only[Gx] at hq<;>simp only[roundPost]
 case exit id=>obtain⟨_,h,_⟩:=hq;exact h.elim
 case ret=>obtain⟨_,h,_⟩:=hq;exact h.elim
 obtain⟨s2,⟨π,bl⟩,bb⟩:=hq;obtain⟨S3,rfl,G⟩:=Qv bb bl hg (AP _) an;have bd:S3.w.heap[l]? =_:=(YC G.wf l (by omega) (λQ=>kl aj.wf ⟨_,by rw[av,hob]⟩ (Q5 Q))).trans (av.trans (by rw[hob]));have br:S3.w.heap[Dk]? =_:=(YC G.wf Dk (by omega) (λQ=>kD aj.wf au (Q5 Q))).trans au;have cq:S2.w.heap.size<=S3.w.heap.size:=G.wf.size;refine⟨_,_,run_endRound none bd,rfl,?_⟩;change ∃Pr',TF C N st a ok0 Dk l ({state:= .ready,pending:=none,fn,tmps:=a.tmps,params:=ps,assign,body,defers:=Dk}:Loop) j Pr' (S3.w.putObj l (.loop ({state:= .ready,pending:=none,fn,tmps:=a.tmps,params:=ps,assign,body,defers:=Dk}:Loop)))/\JH ok0 Pr S.w Pr' (S3.w.putObj l (.loop ({state:= .ready,pending:=none,fn,tmps:=a.tmps,params:=ps,assign,body,defers:=Dk}:Loop)));obtain⟨rc,hrc⟩: ∃rc:Loop,rc=({state:= .ready,pending:=none,fn,tmps:=a.tmps,params:=ps,assign,body,defers:=Dk}:Loop):=⟨_,rfl⟩;rw[<-hrc];have az: ∀b,EN S2 b->EN S1 b:=λb h=>by rw[hS2] at h;exact h
 have aq: ∀b,S2.ok b↔S1.ok b:=λb=>by rw[hS2]
 have bn: ¬S3.ok l:=λh=>by
  rcases YT G.wf h with q|q|q
  .exact bm ((aq l).1 q)
  .omega
  .exact kl aj.wf ⟨_,by rw[av,hob]⟩ (Q5 q)
 have ci: ¬S3.ok Dk:=λh=>by
  rcases YT G.wf h with q|q|q
  .exact cg ((aq Dk).1 q)
  .omega
  .exact kD aj.wf au (Q5 q)
 have cb:=vG (S:=S3) (o:= .loop rc) bn (kl G.wf ⟨_,bd⟩);have bv:Wf C S1:=Qrn O.wf z.wf;have bw:Wf C S2:=by rw[hS2];exact oT bv bh (λb hb _=>World.putObj_heap_other (by omega))
 have bx:Wf C S3:=Qrn bw G.wf;obtain⟨Z,hS4⟩: ∃Z:Ay,Z={S3 with w:=S3.w.putObj l (.loop rc)}:=⟨_,rfl⟩;have ag:Wf C Z:=by rw[hS4];exact oT bx cb (λb hb _=>World.putObj_heap_other (by omega))
 have af:Z.w=S3.w.putObj l (.loop rc):=by rw[hS4]
 have am:Z.h=S3.h:=by rw[hS4]
 have hρ4:Z.ρ=S3.ρ:=by rw[hS4]
 have ab:Z.ok=S3.ok:=by rw[hS4]
 have cn:Z.w.heap.size=S3.w.heap.size:=by rw[af,World.putObj_size]
 rw[<-af];have ai: ∀b,b<S.w.heap.size-> ¬EN S b->b≠l->Z.w.heap[b]? =S.w.heap[b]? :=by
  intro b hb Q a0;rw[af,World.putObj_heap_other a0,YC G.wf b (by omega) (λh=> ?_),ad,World.putObj_heap_other a0,YC z.wf b hb Q];rcases iJ z.wf (az b h) with q|q
  .omega
  .exact Q q
 have bp: ∀b,S.ok b->Z.ok b/\Z.hp b=S.hp b:=by
  intro b hb;refine⟨by rw[ab];exact G.wf.ok0 b ((aq b).2 (z.wf.ok0 b hb)),ai b (O.wf.oks b hb) (λh=>(Wj O.wf h).2.1 hb) (λh=>nl (h▸hb))⟩
 have ay: ∀o,o<lo-> ∀e',Z.h o=some e'-> ∃e,S.h o=some e/\Z.ρ o=S.ρ o/\e'.2.esz=e.2.esz/\e'.2.len=e.2.len:=by
  intro o Q e' ac;rw[am] at ac;obtain⟨e,q1,q2,q3,q4⟩:=G.pre o Q e' ac
  have cj:S1.h o=some e:=by have:S2.h=S1.h:=by rw[hS2]
                            rw[<-this];exact q1
  obtain⟨e0,r1,r2,r3,r4⟩:=z.pre o Q e cj
  have ck:S3.ρ o=S1.ρ o:=by have:S2.ρ=S1.ρ:=by rw[hS2]
                            rw[<-this];exact q2
  exact⟨e0,r1,by rw[hρ4];exact ck.trans r2,q3.trans r3,q4.trans r4⟩
 have bo: ∀b,Z.ok b->S.ok b\/S.w.heap.size<=b\/EN S b:=by
  intro b hb;rw[ab] at hb;rcases YT G.wf hb with q|q|q
  .exact YT z.wf ((aq b).1 q)
  .exact .inr (.inl (by omega))
  .exact .inr (iJ z.wf (az b q))
 have cd: ∀b,(PT Z b\/Z.ok b\/b=l\/b=Dk)->Pr b\/S.w.heap.size<=b:=by
  have ak: ∀b,(S.ok b\/S.w.heap.size<=b\/EN S b)->Pr b\/S.w.heap.size<=b:=by
   rintro b (q|q|q)
   .exact .inl ((aa b).2 (.inr (.inl q)))
   .exact .inr q
   .exact .inl ((aa b).2 (.inl (Q5 q)))
  rintro b (⟨o,e,lc,q1,q2,rfl⟩|q|rfl|rfl)
  .cases hmu:e.1 with
   |true=>
    have cc:EN S3 lc.b:=⟨o,e,lc,by rw[<-am];exact q1,hmu,by rw[<-hρ4];exact q2,rfl⟩;rcases iJ G.wf cc with q|q
    .exact .inr (by omega)
    .rcases iJ z.wf (az _ q) with q|q
     .exact .inr q
     .exact ak _ (.inr (.inr q))
   |false=>
    have h5:=(ag.loc o e lc q1 q2).2;rw[hmu] at h5;simp only[CQ,CA] at h5;rcases h5 with h5|h5
    .exact ak _ (bo _ h5)
    .have Q:=cf o e (by rw[<-G.h o,<-am];exact q1) h5;obtain⟨e0,r1,r2,_,_⟩:=ay o Q e q1;exact .inl ((aa _).2 (.inl ⟨o,e0,lc,r1,by rw[<-r2];exact q2,rfl⟩))
  .exact ak _ (bo _ q)
  .exact .inl ((aa _).2 (.inr (.inr (.inl rfl))))
  .exact .inl ((aa _).2 (.inr (.inr (.inr rfl))))
 refine⟨λb=>PT Z b\/Z.ok b\/b=l\/b=Dk,⟨Z,rfl,?_,λb=>Iff.rfl,λb hb=>(bp b (aw b hb)).1,?_,?_,by rw[ab];exact bn,by rw[ab];exact ci⟩,⟨by omega,ag.os.trans O.wf.os.symm,ag.tape.trans O.wf.tape.symm,ag.output.trans O.wf.output.symm,by have q1:=z.wf.dr;have q3:=G.wf.dr;rw[af];refine CD q1 (CD (zG ?_) q3);show S1.w.drawn=S2.w.drawn;rw[ad];rfl,cd,?_⟩⟩
 .have ht:=O.tm;rw[ax i] at ht;rw[ax j];refine⟨ag,λn=>by rw[am];exact G.h n,λt=> ?_,λt m hm=>Fx (nX _ a8 t m hm) an,G.nmH,O.size,O.defers,CD bf an,λo Q e' ac=> ?_⟩
  .exact I1 (X:=λo=>o<lo) ⟨bp,ay⟩ _ _ (nX _ a8 t) (ht t)
  .obtain⟨e,q1,q2,q3,q4⟩:=ay o (Fx Q bf) e' ac;obtain⟨e0,r1,r2,r3,r4⟩:=O.pre o Q e q1;exact⟨e0,r1,q2.trans r2,q3.trans r3,q4.trans r4⟩
 .rw[af];exact World.putObj_heap_same (by omega)
 .rw[af,World.putObj_heap_other be.symm];exact br
 .rintro b hb (h|h)
  .exact ai b hb (λQ=>h ((aa b).2 (.inl (Q5 Q)))) (λe=>h ((aa b).2 (.inr (.inr (.inl e)))))
  .exact ai b hb (λQ=>(Wj O.wf Q).2.1 (aw b h)) (λe=>nl (e▸aw b h))
def Qr4(w:World)(o:Obj)(k:Nat)(h:k<w.heap.size):(w.alloc o).heap[k]? =w.heap[k]? :=by
 show (w.heap.push o)[k]? =_;rw[Array.getElem?_push,Af (by omega)]
def OH(HM:P.follows .mixedOrders=true)(HV:Hx P V){C:AZ}{s:Az}{a:Act}{w:World}(hc:BC C N s a w){g:Operand}{ps:Array Tmp}{assign body:Code}{gf:Nat}{capt:List D}{X:tZ}(an:iI P gf)(bi:Qa P gf capt X)(Ok:X.I->Prop)(aa:Ok X.i0)(av: ∀i x j,Ok i->X.step i x j->Ok j)
 (bg:DT N assign=true)(ai:H2 assign=true)(bh:DT N body=true)(ak:H2 body=true)(bj: ∀i x j,Ok i->X.step i x j->x.length=ps.size)(bl: ∀t∈ps.toList,t<N)
 {tm0:List (Nat×AV)}{hs:X.I->Ao}{nx:Nat}(Z: ∃π,Ar s.nx π s ⟨tm0,hs X.i0,nx⟩)(hg:Ap tm0 g= .im (.fn gf [] capt))(af:s.nx<=nx)(bf:Cp s.nx tm0=true)(G: ∀i,Ok i->Az.good ⟨tm0,hs i,nx⟩=true)
 (bm: ∀i o e,hget (hs i) o=some e->e.2.isView=true->o<s.nx)
 (Q: ∀i x j,Ok i->X.step i x j->CR P V assign (QT P V body (XO s.nx nx (hs j))) ⟨FJ ps.toList x tm0,hs i,nx⟩):
 (Code.rangeFunc g ps assign body).wpIn Fence.wide 0 P (λe a' w'=> ∃i,Ok i/\X.fin i/\fQ C N ⟨tm0,hs i,nx⟩ a e a' w') a w:=by
 obtain⟨π,aw⟩:=Z;have ad:C.n0<=s.nx:=by obtain⟨_,_,h⟩:=hc;exact h.n0
 obtain⟨S,rfl,hE⟩:=Qv hc aw (G X.i0 aa) ad (CD ad af);have h1:Aa S (.im (.fn gf [] capt)) (a.eval g):=by rw[<-hg];exact Qs hE g
 simp only[Aa,rd] at h1;obtain⟨A,Cc,hv,hA,aj⟩:=h1;have a0:A= #[]:=by simpa[rdl] using hA
 rw[cT an.1,a0] at hv;refine wpIn_rangeFunc ?_;intro fn br;have a8:C.w.heap.size<=S.w.heap.size:=hE.wf.size;obtain⟨rc,hrc⟩: ∃rc:Loop,rc={state:= .ready,pending:=none,fn,tmps:=a.tmps,params:=ps,assign,body,defers:=S.w.heap.size}:=⟨_,rfl⟩;obtain⟨z,hW1⟩: ∃z,z=(S.w.alloc (.deferred (some []))).alloc (.loop rc):=⟨_,rfl⟩;have bp:z.heap.size=S.w.heap.size+2:=by rw[hW1];simp
 have bc:z.heap[S.w.heap.size+1]? =some (.loop rc):=by
  rw[hW1];have:=World.alloc_heap_new (S.w.alloc (.deferred (some []))) (.loop rc);rwa [World.size_alloc] at this
 have bb:z.heap[S.w.heap.size]? =some (.deferred (some [])):=by
  rw[hW1];exact (Qr4 _ _ _ (by simp)).trans (World.alloc_heap_new S.w _)
 have hbel: ∀b,b<S.w.heap.size->z.heap[b]? =S.w.heap[b]? :=λb hb=>by
  rw[hW1,Qr4 _ _ _ (by simp;omega),Qr4 _ _ _ hb]
 have hm:QD S z:=Qxm hE.wf (by omega) (by rw[hW1];rfl) (by rw[hW1];rfl) (by rw[hW1];rfl) (by rw[hW1];exact AP _) hbel;have ah:CC C N ⟨tm0,hs X.i0,nx⟩ {S with w:=z} a:=Qul hE hm (λb hb _=>hbel b (by omega));have ac:rdl S.ok (λb=>z.heap[b]?) capt Cc.toList:=KU (nN hm λ_=>True).ok _ _ aj;refine⟨S.w.heap.size+1,[{target:= .collected S.w.heap.size,args:= #[]}],z,{target:= .fn (.func gf) Cc,args:= #[.func (.yield (S.w.heap.size+1)) #[] #[]]},z,gf,
  #[.func (.yield (S.w.heap.size+1)) #[] #[]]++Cc,z,?_,?_,λ_ _=>trivial,?_,λh=>(by cases h),?_⟩
 .rw[hW1,hrc];exact run_enterLoop_outer _ _ _ _ _
 .simp only[resolve,hv];simp[go_sem]
 .simp[invoke,go_sem,uP an]
 refine callsIn_wide.2 (Calls.mono (bi C {S with w:=z} Cc (S.w.heap.size+1) (λi Pr W=>Ok i/\TF C N (λi=>⟨tm0,hs i,nx⟩) a S.ok S.w.heap.size (S.w.heap.size+1) rc i Pr W) ah.wf ac ?_ ?_ ?_) ?_)
 .rintro i Pr W ⟨hi,hJ⟩;obtain⟨q1,q2⟩:=Qaa7 (base:=z.heap.size) (by omega) i Pr W hJ;exact⟨q1,λW' h1 h2 h3 h4 h5 h6=>⟨hi,q2 W' h1 h2 h3 h4 h5 h6⟩⟩
 .rintro i x j args Pr W hx ab ⟨hi,hJ⟩;have aq:=av i x j hi hx;have ao:=G j aq;simp only[Az.good,AW] at ao;rw[hrc] at hJ⊢;have h9:=TL HM HV (st:=λi=>⟨tm0,hs i,nx⟩) (λ_=>rfl) ad af bf (by simp only[Az.good,Cp,Ew,AW];exact ao.2) (bm j) (by omega) (by omega) bg ai bh ak bl (bj i x j hi hx) (Q i x j hi hx) ab hJ;obtain⟨az,ag,ax,ay,r1,r2⟩:=h9;refine⟨az,ag,ax,ay,r1,RoundIn.mono r2 ?_⟩;rintro e W' ⟨he,Pr',ba,hM⟩;exact⟨he,Pr',⟨aq,ba⟩,hM⟩
 .exact⟨_,aa,{S with w:=z},rfl,ah,λb=>Iff.rfl,λb hb=>hb,bc,bb,λh=>Zfj _ (Fx (hE.wf.oks _ h) (jP _)),λh=>Zfj _ (hE.wf.oks _ h)⟩
 .rintro e W2 ⟨v,Pr,i,rfl,am,bd,S2,rfl,O,bq,bt,hl,hD,nl,nD⟩;refine⟨none,_,by have:=run_endLoop (P:=P) hl (by rw[hrc];simp);rw[hrc] at this;exact this,?_⟩;obtain⟨ob,hob⟩: ∃ob:Obj,ob= .loop {({state:= .ready,pending:=none,fn,tmps:=a.tmps,params:=ps,assign,body,defers:=S.w.heap.size}:Loop) with state:= .exhausted}:=⟨_,rfl⟩;simp only[<-hob];have bo: ¬PT S2 (S.w.heap.size+1):=λhn=>(oL O.wf hn).1 _ hl
  have bn: ¬PT S2 S.w.heap.size:=λhn=>(oL O.wf hn).2 _ hD
  have au:=vG (S:=S2) (o:=ob) nl bo;have a9:S.w.heap.size<S2.w.heap.size:=(QF.1 hD).1;have be:Wf C {S2 with w:=S2.w.putObj (S.w.heap.size+1) ob}:=oT O.wf au (λb hb _=>World.putObj_heap_other (by omega));refine⟨i,bd,am,_,_,S.w.heap.size,rfl,pR O au s.nx af _ ({target:= .collected S.w.heap.size,args:= #[]}::a.defers) rfl rfl,λS' h=>Qrn be h,rfl,rfl,?_,λh=>bn (Q5 h),nD,a8,?_⟩
  .show _<(S2.w.putObj _ _).heap.size;rw[World.putObj_size];exact a9
  .show (S2.w.putObj _ _).heap[_]? =_;rw[World.putObj_heap_other (by omega)];exact hD
def Ts(HM:P.follows .mixedOrders=true)(HV:Hx P V){C:AZ}{s:Az}{a:Act}{w:World}(hc:BC C N s a w){g:Operand}{ps:Array Tmp}{assign z:Code}{gf:Nat}{capt:List D}{xs:List (List D)}(af:iI P gf)(ag:JG P gf capt xs)
 (ac:DT N assign=true)(Z:H2 assign=true)(ad:DT N z=true)(aa:H2 z=true)(ai: ∀x∈xs,x.length=ps.size)(aj: ∀t∈ps.toList,t<N)
 {tm0:List (Nat×AV)}{hs:Nat->Ao}{nx:Nat}(O: ∃π,Ar s.nx π s ⟨tm0,hs 0,nx⟩)(hg:Ap tm0 g= .im (.fn gf [] capt))(ah:s.nx<=nx)(ab:Cp s.nx tm0=true)(Q: ∀i,i<=xs.length->Az.good ⟨tm0,hs i,nx⟩=true)
 (ak: ∀i o e,hget (hs i) o=some e->e.2.isView=true->o<s.nx)
 (G: ∀i x,xs[i]? =some x->CR P V assign (QT P V z (XO s.nx nx (hs (i+1)))) ⟨FJ ps.toList x tm0,hs i,nx⟩):
 (Code.rangeFunc g ps assign z).wpIn Fence.wide 0 P (fQ C N ⟨tm0,hs xs.length,nx⟩ a) a w:=by
 refine wpIn_mono (OH HM HV hc (X:=eI xs) af ag (λ(i:Nat)=>i<=xs.length) (Cz _) (λi x j _ hx=> ?_) ac Z ad aa (λi x j _ hx=>ai x (Bf hx.1)) aj O hg ah ab Q ak (λi x j _ hx=> ?_)) ?_
 .obtain⟨h1,rfl⟩:=hx;exact (Cu.1 h1).1
 .obtain⟨h1,rfl⟩:=hx;exact G i x h1
 .rintro e a' w' ⟨i,_,rfl,h⟩;exact h
end
def wX(G z:AZ)(ds:List Deferred):Prop:=
 ds=[]\/ ∃D:Nat,ds=[{target:= .collected D,args:= #[]}]/\D<z.w.heap.size/\ ¬z.M D/\ ¬z.ok D/\G.w.heap.size<=D/\z.w.heap[D]? =some (.deferred (some []))
def TG(G:AZ)(N:Nat)(Q:Ci):Exit->Act->World->Prop
 | .normal,a,w=> ∃s z,Q .normal s/\BC z N s a w/\(∀S',Wf z S'->Wf G S')/\wX G z a.defers
 | .ret,a,w=> ∃s z,Q .ret s/\BC z N s a w/\(∀S',Wf z S'->Wf G S')/\wX G z a.defers
 |_,_,_=>False
def TA(P:Program)(z:List ResultVar)(Q:Az->List AV->Prop)(s:Az):Prop:= ∃xs,Aq (Ka P s) z=some xs/\Q s xs
def tS(P:Program)(z:List ResultVar)(Q:Az->List AV->Prop):Ci
 | .normal,s=>TA P z Q s
 | .ret,s=>TA P z Q s
 | .exit _,_=>False
def Pz{P:Program}{g:FuncId}{fn:Func}{c:Code}(hf:P.funcs[g]? =some fn)(hb:fn.body=some c)
 {ps:List PK}(ay:ps.length<=fn.ntmps){Q:Az->List AV->Prop}
 (hk: ∀(z:AZ) (a:Act) (w:World),z.w=w->z.n0=0->BC z fn.ntmps ⟨entry 0 (CL 0 ps),CJ 0 ps,BH ps⟩ a w->a.defers=[]->c.wpIn Fence.wide 0 P (TG z fn.ntmps (tS P fn.results.toList Q)) a w)
 {C:AZ}{S:Ay}{vs:Array Value}{RR:Ending->World->Prop}(hW:Wf C S)(ah:EA S ps vs.toList)
 (af: ∀(v:Value) (z:AZ) (S1:Ay) (s:Az) (xs:List AV),z.w=S.w->z.ok=S.ok->(∀b,¬z.M b)->Wf z S1->(∀n,S1.h n=hget s.h n)->Q s xs->Aa S1 (CX xs) v->RR (.returned v) S1.w):Calls P g vs S.w RR:=by
 refine callsIn_wide.1 (callsIn_of_wp_marks (n:=0) hf hb trivial ?_);have aw:vs.size=(CL 0 ps).length:=by rw[YB];simpa using ah.len
 obtain⟨ls,ag,hcl⟩:=iQ ps vs.toList 0 ah
 let S0:Ay:=⟨ls,S.ok,hget (CJ 0 ps),S.w⟩
 let z:AZ:=⟨S.w,λ_=>False,S.ok,0,λ_=>none,λ_=>none,[]⟩
 have an:Wf z S0:=by
  refine⟨rfl,rfl,rfl,AP _,AP _,λ_ _ _=>rfl,λ_ hb=>hb,λ_ hb=> .inl hb,hW.oks,?_,?_,?_,hW.glN λ_ h=>h.elim⟩
  .intro n e G;obtain⟨l,h1,_,h3⟩:=ag n e G;have h4:S0.ρ n=some l:=h1;rw[h4];obtain⟨_,cs,rfl⟩:=Gc 0 ps n e G;simp only[An] at h3⊢;exact h3
  .intro n e l G hl;obtain⟨l',h1,h2,h3⟩:=ag n e G;have h4:S0.ρ n=some l':=h1;rw[h4] at hl;obtain rfl:=AB hl;obtain⟨_,cs,rfl⟩:=Gc 0 ps n e G;exact⟨h2,.inr rfl⟩
  .intro n n' e e' l l' G au hl a9 a8 av;obtain⟨_,cs,rfl⟩:=Gc 0 ps n e G;obtain⟨_,az,rfl⟩:=Gc 0 ps n' e' au;simp at av
 have aq:BC z fn.ntmps ⟨entry 0 (CL 0 ps),CJ 0 ps,BH ps⟩ {tmps:=vs++Array.replicate (fn.ntmps - vs.size) undef,defers:=[]} S.w:=by
  have aa:AN S0 (CL 0 ps) vs.toList:=hcl S0 rfl rfl (λn _=>⟨rfl,rfl⟩);refine⟨S0,rfl,an,λn=>rfl,?_,?_,?_,by simp;rw[YB] at aw;omega,rfl,Cz _,λo ho=>absurd ho (rJ _)⟩
  .intro t;have h1:=gS (S:=S0) (CL 0 ps) vs.toList 0 t aa;simp only[Cz,B5,jO] at h1
   have:({tmps:=vs++Array.replicate (fn.ntmps - vs.size) undef,defers:=[]}:Act).eval (.tmp t)=(vs.toList[t]?).getD undef:=by
    simp only[Act.eval,H5,rC,dP];by_cases ht:t<vs.size
    .simp[ht]
    .simp only[ht,CA]
     have:vs[t]? =none:=W7 (by omega)
     simp only[Kk,this]
     split<;>rfl
   rw[this];exact h1
  .intro t m hm;exact nW 0 ps (BH ps) (by omega) m (gZ (CL 0 ps) 0 t m hm)
  .intro n e G;obtain⟨h1,cs,rfl⟩:=Gc 0 ps n e G;exact⟨by show n<BH ps;omega,by simp[Ac.nms]⟩
 refine wpIn_mono (hk z _ _ rfl rfl aq rfl) ?_;have fin: ∀(s:Az) (C2:AZ) (S1:Ay) (a:Act),TA P fn.results.toList Q s->CC C2 fn.ntmps s S1 a->Wf z S1-> ∃v,(results fn a.tmps).run P S1.w= .ok v S1.w/\RR (.returned v) S1.w:=by
  rintro s C2 S1 a ⟨xs,ax,hr⟩ Z ao;obtain⟨v,ai,ac⟩:=nG Z ax;exact⟨v,ai,af v z S1 s xs rfl rfl (λ_ h=>h) ao Z.h hr ac⟩
 have ab: ∀(a:Act) (w:World),(∃s C2,TA P fn.results.toList Q s/\BC C2 fn.ntmps s a w/\(∀S',Wf C2 S'->Wf z S')/\wX z C2 a.defers)->LeavesInM Fence.wide 0 P fn a.tmps RR a.defers .returning w:=by
  rintro a w ⟨s,C2,hr,⟨S1,rfl,Z⟩,O,hM⟩;rcases hM with hM|⟨D,hM,aj,ad,ak,a0,am⟩
  .rw[hM];simp only[LeavesInM,LeavesIn];exact fin s C2 S1 a hr Z (O _ Z.wf)
  .rw[hM];have hh:S1.w.heap[D]? =some (.deferred (some [])):=(Z.wf.keep D aj ad).trans am;have nk: ¬PT S1 D:=λhn=>(oL Z.wf hn).2 _ hh
   have no: ¬S1.ok D:=λh=>by
    rcases Z.wf.ok1 D h with q|q|q
    .exact ak q
    .omega
    .exact ad q
   have hm:=vG (S:=S1) (o:= .deferred none) no nk;refine⟨by simp,.inl ⟨D,_,rfl,run_takeDeferred hh,?_⟩⟩;simp only[LeavesInM,LeavesIn];exact fin s _ {S1 with w:=S1.w.putObj D (.deferred none)} a hr (pR Z hm 0 (Cz _) a a.defers rfl rfl) (oT (O _ Z.wf) hm (λb hb _=>World.putObj_heap_other (by omega)))
 intro e a w G;cases e<;>simp only[TG] at G<;>simp only[bodyPostM]
 .exact ab a w G
 .exact ab a w G
def Py{P:Program}{g:FuncId}{fn:Func}{c:Code}(hf:P.funcs[g]? =some fn)(hb:fn.body=some c)
 {ps:List PK}(O:ps.length<=fn.ntmps){R:D->Prop}
 (hk: ∀(z:AZ) (a:Act) (w:World),z.w=w->z.n0=0->BC z fn.ntmps ⟨entry 0 (CL 0 ps),CJ 0 ps,BH ps⟩ a w->a.defers=[]->c.wpIn Fence.wide 0 P (TG z fn.ntmps (Zc P fn.results.toList R)) a w)
 {C:AZ}{S:Ay}{vs:Array Value}{RR:Ending->World->Prop}(hW:Wf C S)(ab:EA S ps vs.toList)
 (G: ∀(v:Value) (z:AZ) (S1:Ay) (d:D),z.w=S.w->z.ok=S.ok->(∀b,¬z.M b)->Wf z S1->R d->rd (SS z S1) S1.hp d v->RR (.returned v) S1.w):Calls P g vs S.w RR:=by
 have Z: ∀s,KG P fn.results.toList R s->TA P fn.results.toList (λs xs=>PQ (hget s.h) R (CX xs)) s:=by
  intro s h;unfold KG at h;cases hx:Aq (Ka P s) fn.results.toList with
  |none=>rw[hx] at h;exact h.elim
  |some xs=>rw[hx] at h;exact⟨xs,hx,h⟩
 refine Pz hf hb O (Q:=λs xs=>PQ (hget s.h) R (CX xs)) (λz a w h1 h2 h3 h4=>wpIn_mono (hk z a w h1 h2 h3 h4) ?_) hW ab ?_
 .intro e a w h;cases e<;>simp only[TG] at h⊢
  .obtain⟨s,C2,g1,g2⟩:=h;exact⟨s,C2,Z s g1,g2⟩
  .obtain⟨s,C2,g1,g2⟩:=h;exact⟨s,C2,Z s g1,g2⟩
 .intro v z S1 s xs g1 g2 g3 g4 g5 g6 g7;have aa:hget s.h=S1.h:=(funext g5).symm;rw[aa] at g6;obtain⟨d,h1,h2⟩:=Qzf g3 g4 g6 g7;exact G v z S1 d g1 g2 g3 g4 h1 h2
end Go.Ae
