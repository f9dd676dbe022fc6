/- Lemmas. Conditions: none. -/
import Derived.Test.YtldneeclgjaehabGreatDoorP10
import Derived.RangeFuncNested
import Derived.RangeFuncLeaves
import Derived.OrdersIn
set_option linter.all false
set_option maxHeartbeats 8000000
set_option maxRecDepth 100000
namespace Go.Ae
open Go
def Op.calm:Op->Bool
 | .defer _=>false
 |o=> !Go.Ae.Op.comm o
def dJ(ops:Array Oper):Bool:=ops.toList.all λo=>Go.Ae.Op.calm o.op
def wJ{ops:Array Oper}(h:dJ ops=true){i:Nat}{o:Oper}(z:ops[i]? =some o):Go.Ae.Op.calm o.op=true:=by
 unfold dJ at h;rw[CF] at h;exact h o (Bj (by simpa using z))
def wR(ro:Option Nat):Fence:={Fence.wide with round:=ro}
def II:Code->Bool
 | .region _ ops _=>dJ ops
 | .seq a b=>II a && II b
 | .cond _ a b=>II a && II b
 | .block _ c=>II c
 | .loop c=>II c
 |_=>true
section
variable {P:Program}{ro:Option Nat}{n:Nat}
def Qlw{o:Oper}{a:Act}{w:World}{next z:Act->World->Prop}{Q:Exit->Act->World->Prop}(hc:Go.Ae.Op.calm o.op=true)(hm: ∀a w,next a w->z a w)(h:o.wp P a w next (λ_ _ _=>False)):
 o.wpIn (wR ro) n P a w z Q:=by
 refine⟨λ_ _=>trivial,?_⟩;have e:o.semAt (wR ro).round a.eval=execOp a.eval o:=Oper.semAt_eq _ _ _ (λc O=>by rw[O] at hc;cases hc);rw[e];unfold Oper.wp at h;have aa: ¬LetsOut (λ_ _ _=>False):=λ⟨_,_,h⟩=>h
 cases hr:(execOp a.eval o).run P w with
 |ok x w'=>
  rw[hr] at h;cases x<;>simp only[Oper.upon] at h<;>try exact h.elim
  case value v=>exact hm _ _ h
  case skip=>exact hm _ _ h
  case defer d=>exact hm _ _ h
  case enter f args=>
   refine⟨λhd=>(by cases hd),?_⟩;have h1:CallsIn Fence.wide (n - 1) P f args w' _:=callsIn_wide.2 h;refine (show CallsIn Fence.wide (n - 1) P f args w' _ from CallsIn.mono h1 ?_);intro e w'' Z;cases e with
   |returned v=>exact hm _ _ Z
   |panicked c=>exact Z.elim
   |outgrown=>exact (aa Z).elim
  case row row args=>
   refine⟨λhd=>(by cases hd),?_⟩;intro c cs _;obtain⟨v,w'',hR,hs⟩:=h c cs;exact⟨v,w'',hm _ _ hR,stepsIn_wide.2 hs⟩
 |halt x w'=>
  rw[hr] at h;cases x<;>simp only[Oper.upon] at h
def Qhf{ops:Array Oper}(z:dJ ops=true){Q:Exit->Act->World->Prop}: ∀(ls:List Nat) (a:Act) (w:World),Ms P ops (Q .normal) ls a w->wpOpsIn (wR ro) n P ops Q ls a w
 |[],a,w,h=>h
 |i::O,a,w,h=>by
  simp only[Ms] at h;simp only[wpOpsIn];cases ho:ops[i]? with
  |none=>rw[ho] at h;exact Qhf z O a w h
  |some o=>
   rw[ho] at h;simp only at h⊢;split
   .rename_i hw;rw[Bt hw] at h;rcases h with ⟨o',Z,_,h3⟩|⟨Z,_⟩
    .rw[ho] at Z;obtain rfl:=AJ Z;exact Qlw (wJ z ho) (λa w h=>Qhf z O a w h) h3
    .have h2:=Z o ho;have h3:=wJ z ho;exfalso;cases hop:o.op<;>rw[hop] at h2 h3<;>simp[Op.comm,Op.calm] at h2 h3
   .rename_i hw;rw[Be hw] at h;exact⟨λ_ _=>trivial,Qhf z O _ w h⟩
def Qha{ops:Array Oper}(z:dJ ops=true){K:Act->World->Prop}{Q:Exit->Act->World->Prop}{l2:List Nat}(hK: ∀a w,K a w->wpOpsIn (wR ro) n P ops Q l2 a w): ∀(ls:List Nat) (a:Act) (w:World),Ms P ops K ls a w->wpOpsIn (wR ro) n P ops Q (ls++l2) a w
 |[],a,w,h=>hK a w h
 |i::O,a,w,h=>by
  simp only[Ms] at h;simp only[BZ,wpOpsIn];cases ho:ops[i]? with
  |none=>rw[ho] at h;exact Qha z hK O a w h
  |some o=>
   rw[ho] at h;simp only at h⊢;split
   .rename_i hw;rw[Bt hw] at h;rcases h with ⟨o',Z,_,h3⟩|⟨Z,_⟩
    .rw[ho] at Z;obtain rfl:=AJ Z;exact Qlw (wJ z ho) (λa w h=>Qha z hK O a w h) h3
    .have h2:=Z o ho;have h3:=wJ z ho;exfalso;cases hop:o.op<;>rw[hop] at h2 h3<;>simp[Op.comm,Op.calm] at h2 h3
   .rename_i hw;rw[Be hw] at h;exact⟨λ_ _=>trivial,Qha z hK O _ w h⟩
def Qfr{ops:Array Oper}(Z:dJ ops=true){Q:Exit->Act->World->Prop}(aa: ¬LetsOut Q)(ab: ∀c a w,¬Q (.panic c) a w): ∀(O:Nat) (listed:Array Bool) (a:Act) (w:World),wpAny P .any ops Q O listed a w->wpAnyIn (wR ro) n P .any ops Q O listed a w
 |0,listed,a,w,h=>h
 |O+1,listed,a,w,h=>by
  simp only[wpAny] at h;simp only[wpAnyIn];refine⟨h.1,λi hi=> ?_⟩;have z:=h.2 i hi;unfold wpOp at z;unfold wpOpIn;cases ho:ops[i]? with
  |none=>rw[ho] at z;exact Qfr Z aa ab O _ a w z
  |some o=>
   rw[ho] at z;simp only at z⊢;split
   .rename_i hw;rw[Bt hw] at z;rcases z with z|z
    .refine Qlw (wJ Z ho) (λa w h=>Qfr Z aa ab O _ a w h) ?_;unfold Oper.wp at z⊢;cases hr:(execOp a.eval o).run P w with
     |ok x w'=>
      rw[hr] at z;cases x<;>simp only[Oper.upon] at z⊢ <;>try exact z
      refine Calls.mono z ?_;intro e w'' he;cases e with
      |returned v=>exact he
      |panicked c=>exact ab _ _ _ he
      |outgrown=>exact (aa he).elim
     |halt x w'=>
      rw[hr] at z;cases x<;>simp only[Oper.upon] at z⊢ <;>try exact z
      exact ab _ _ _ z
    .exact (aa z.2).elim
   .rename_i hw;rw[Be hw] at z;exact⟨λ_ _=>trivial,Qfr Z aa ab O _ _ w z⟩
end
section
variable {P:Program}{V:DK}{C:Bn}{N n:Nat}{ro:Option Nat}
def cJ{Q:CI}: ¬LetsOut (H3 C N Q):=λ⟨_,_,h⟩=>h
def QL{Q:CI}: ∀c a w,¬H3 C N Q (.panic c) a w:=λ_ _ _ h=>h
def wG(HM:P.follows .mixedOrders=true)(HV:IE P V): ∀(c:Code),EW N c=true->II c=true-> ∀(Q:CI) (s:Az) (a:Act) (w:World),DH P V c Q s->Cg C N s a w->c.wpIn (wR ro) n P (H3 C N Q) a w:=by
 intro c;induction c with
 |skip=>intro _ _ Q s a w h O;exact wpIn_skip ⟨s,h,O⟩
 |region id ops ao=>
  intro hk hl Q s a w h O;simp only[EW,B1] at hk;cases ao with
  |true=>exact wpIn_region_any HM (Qfr hl cJ QL _ _ _ _ (Qog HV (λs a w h1 h2=>⟨s,h1,h2⟩) hk.1 (by simpa using hk.2) h O))
  |false=>
   refine wpIn_region (Qhf hl _ _ _ ?_)
   have:=Qpr HV (ops:=ops) (Q:=H3 C N Q) (λs a w h1 h2=>⟨s,h1,h2⟩) ops.toList [] 0 auSi hk.1 s a w h O
   rwa [HA,<-ZdZ] at this
 |seq x y am an=>
  intro hk hl Q s a w h O;simp only[EW,B1] at hk;simp only[II,B1] at hl;simp only[DH] at h;refine wpIn_seq (wpIn_mono (am hk.1 hl.1 _ s a w h O) (dG ?_ ?_ ?_))
  .intro s a w hs O;exact an hk.2 hl.2 Q s a w hs O
  .intro i s hs;exact hs
  .intro s hs;exact hs
 |cond c x y am an=>
  intro hk hl Q s a w h O;simp only[EW,B1] at hk;simp only[II,B1] at hl;simp only[DH] at h;obtain⟨S,aq,ak⟩:=O;have h1:=RW ak c;cases hv:Ay s.tm c<;>rw[hv] at h<;>try exact h.elim
  rename_i d;cases d<;>try exact h.elim
  rename_i b;rw[hv] at h1;simp only[Ab,rd] at h1;simp only[yO] at h;refine wpIn_cond_split h1 (λhb=>am hk.1 hl.1 Q s a w (h.1 hb) ⟨S,aq,ak⟩) (λhb=>an hk.2 hl.2 Q s a w (h.2 hb) ⟨S,aq,ak⟩)
 |block id c ih=>
  intro hk hl Q s a w h O;simp only[DH] at h;refine wpIn_block (wpIn_mono (ih hk hl _ s a w h O) ?_);intro e a w he;cases e<;>simp only[H3] at he<;>simp only[Exit.inBlock,H3]
  .exact he
  .rename_i i;obtain⟨s,hs,O⟩:=he;simp only[qL] at hs;by_cases hi:i=id
   .subst hi;rw[Bt rfl];exact⟨s,by simpa[JL] using hs,O⟩
   .rw[Be hi]
    have:(i==id)=false:=by simpa using hi
    rw[this] at hs;exact⟨s,hs,O⟩
  .exact he
 |loop c ih=>
  intro hk hl Q s a w h O;have aj: ∀(s:Az),dM (DH P V c) Q s->Cg C N s a w->(Code.loop c).wpIn (wR ro) n P (H3 C N Q) a w:=by
   clear h O;intro s h O;simp only[dM] at h;obtain⟨β,I,μ,z,⟨b0,af⟩,Z⟩:=h
   let p:Act->World->Nat->Prop:=λa w n=> ∃b,Cg C N (I b) a w/\μ b=n
   let μ':Act->World->Nat:=λa w=>Classical.epsilon λn=>p a w n/\ ∀k,k<n-> ¬p a w k
   have hμ: ∀a w b,Cg C N (I b) a w->p a w (μ' a w)/\ ∀k,k<μ' a w-> ¬p a w k:=by
    intro a w b hb;exact Xn (p:=λn=>p a w n/\ ∀k,k<n-> ¬p a w k) (O9 (μ b) ⟨b,hb,rfl⟩)
   have ac: ∀b,C.n0<=(I b).nx:=by
    intro b;obtain⟨S,_,h⟩:=O;exact Gu h.n0 (z b).2
   refine wpIn_loop (λa w=> ∃b,Cg C N (I b) a w) μ' ⟨b0,qE O af (z b0).1 (ac b0)⟩ ?_;rintro a w ⟨b,hb⟩;obtain⟨⟨b1,ag,av⟩,_⟩:=hμ a w b hb;refine wpIn_mono (ih hk hl _ _ a w (Z b1) ag) (dG ?_ ?_ ?_)
   .rintro s' a' w' ⟨b',au,ad⟩ ah;have aa:=qE ah ad (z b').1 (ac b');refine⟨⟨b',aa⟩,?_⟩;obtain⟨_,ab⟩:=hμ a' w' b' aa;rcases Pi (μ b') (μ' a' w') with h1|h1
    .exact absurd ⟨b',aa,rfl⟩ (ab _ h1)
    .omega
   .intro i s hs;exact hs
   .intro s hs;exact hs
  simp only[DH,AY] at h;rcases h with h|h|⟨F,h⟩|h
  .exact aj s h O
  .simp only[Qsi] at h;obtain⟨β,I,μ,z,⟨b0,π0,af⟩,Z⟩:=h
   let p:Act->World->Nat->Prop:=λa w n=> ∃b,Cg C N (I b) a w/\μ b=n
   let μ':Act->World->Nat:=λa w=>Classical.epsilon λn=>p a w n/\ ∀k,k<n-> ¬p a w k
   have hμ: ∀a w b,Cg C N (I b) a w->p a w (μ' a w)/\ ∀k,k<μ' a w-> ¬p a w k:=by
    intro a w b hb;exact Xn (p:=λn=>p a w n/\ ∀k,k<n-> ¬p a w k) (O9 (μ b) ⟨b,hb,rfl⟩)
   have ai:C.n0<=s.nx:=by
    obtain⟨S,_,h⟩:=O;exact h.n0
   have ac: ∀b,C.n0<=(I b).nx:=by
    intro b;obtain⟨S,_,h⟩:=O;exact Gu h.n0 (z b).2
   refine wpIn_loop (λa w=> ∃b,Cg C N (I b) a w) μ' ⟨b0,Sa O af (z b0).1 ai (ac b0)⟩ ?_;rintro a w ⟨b,hb⟩;obtain⟨⟨b1,ag,av⟩,_⟩:=hμ a w b hb;refine wpIn_mono (ih hk hl _ _ a w (Z b1) ag) (dG ?_ ?_ ?_)
   .rintro s' a' w' ⟨b',π,au,ad⟩ ah;have aa:=Sa ah ad (z b').1 ai (ac b');refine⟨⟨b',aa⟩,?_⟩;obtain⟨_,ab⟩:=hμ a' w' b' aa;rcases Pi (μ b') (μ' a' w') with h1|h1
    .exact absurd ⟨b',aa,rfl⟩ (ab _ h1)
    .omega
   .intro i s hs;exact hs
   .intro s hs;exact hs
  .exact aj _ h (Qxl F O)
  .simp only[Qsf] at h;obtain⟨β,I,μ,z,⟨b0,F0,π0,af⟩,Z⟩:=h
   let p:Act->World->Nat->Prop:=λa w n=> ∃b,Cg C N (I b) a w/\μ b=n
   let μ':Act->World->Nat:=λa w=>Classical.epsilon λn=>p a w n/\ ∀k,k<n-> ¬p a w k
   have hμ: ∀a w b,Cg C N (I b) a w->p a w (μ' a w)/\ ∀k,k<μ' a w-> ¬p a w k:=by
    intro a w b hb;exact Xn (p:=λn=>p a w n/\ ∀k,k<n-> ¬p a w k) (O9 (μ b) ⟨b,hb,rfl⟩)
   have ai:C.n0<=s.nx:=by
    obtain⟨S,_,h⟩:=O;exact h.n0
   have ac: ∀b,C.n0<=(I b).nx:=by
    intro b;obtain⟨S,_,h⟩:=O;exact Gu h.n0 (z b).2
   refine wpIn_loop (λa w=> ∃b,Cg C N (I b) a w) μ' ⟨b0,Sa (yD F0 O) af (z b0).1 ai (ac b0)⟩ ?_;rintro a w ⟨b,hb⟩;obtain⟨⟨b1,ag,av⟩,_⟩:=hμ a w b hb;refine wpIn_mono (ih hk hl _ _ a w (Z b1) ag) (dG ?_ ?_ ?_)
   .rintro s' a' w' ⟨b',F,π,au,ad⟩ ah;have aa:=Sa (yD F ah) ad (z b').1 ai (ac b');refine⟨⟨b',aa⟩,?_⟩;obtain⟨_,ab⟩:=hμ a' w' b' aa;rcases Pi (μ b') (μ' a' w') with h1|h1
    .exact absurd ⟨b',aa,rfl⟩ (ab _ h1)
    .omega
   .intro i s hs;exact hs
   .intro s hs;exact hs
 |exit id=>intro _ _ Q s a w h O;exact wpIn_exit ⟨s,h,O⟩
 |ret=>intro _ _ Q s a w h O;exact wpIn_ret ⟨s,h,O⟩
 |_=>intro hk;simp[EW] at hk
end
def Gd(S:AD)(b:Nat):Prop:= ∃o e z,S.h o=some e/\e.1=true/\S.ρ o=some z/\z.b=b
def Rs(S:AD)(b:Nat):Prop:= ∃o e z,S.h o=some e/\S.ρ o=some z/\z.b=b
def Hz(S:AD)(n0:Nat)(ds:List Deferred):Bn:=⟨S.w,Gd S,S.ok,n0,S.h,S.ρ,ds⟩
def Yu{C:Bn}{S:AD}(h:Wf C S){b:Nat}(hb:Gd S b):b<S.w.heap.size/\ ¬S.ok b/\(C.w.heap.size<=b\/C.M b):=by
 obtain⟨o,e,lc,O,Q,Z,rfl⟩:=hb;obtain⟨q1,z⟩:=h.loc o e lc O Z;rw[Q] at z;simp only[Ff] at z;exact⟨q1,z.1,z.2⟩
def Vq{C:Bn}{S:AD}(h:Wf C S)(n0:Nat)(ds:List Deferred):Wf (Hz S n0 ds) S:=by
 refine⟨rfl,rfl,rfl,BN _,BN _,λ_ _ _=>rfl,λ_ h=>h,λ_ h=> .inl h,h.oks,h.obj,λo e l O Q=> ?_,h.inj,h.glN λ_ Z=>(Yu h Z).2.1⟩;obtain⟨q1,z⟩:=h.loc o e l O Q;refine⟨q1,?_⟩;cases hm:e.1 with
 |true=>
  rw[hm] at z;simp only[Ff] at z⊢;exact⟨z.1,.inr ⟨o,e,l,O,hm,Q,rfl⟩⟩
 |false=>rw[hm] at z;simpa using z
def aP{C:Bn}{N:Nat}{s:Az}{S:AD}{a:Act}(h:Dt C N s S a):Dt (Hz S s.nx a.defers) N s S a:=
 ⟨Vq h.wf _ _,h.h,h.tm,h.nmT,h.nmH,h.size,rfl,BN _,λ_ _ e' z=>⟨e',z,rfl,rfl,rfl⟩⟩
def Qrn{C:Bn}{S S':AD}{n0:Nat}{ds:List Deferred}(hW:Wf C S)(h:Wf (Hz S n0 ds) S'):Wf C S':=by
 have Q:C.w.heap.size<=S.w.heap.size:=hW.size;have Z:S.w.heap.size<=S'.w.heap.size:=h.size;refine⟨h.os.trans hW.os,h.tape.trans hW.tape,h.output.trans hW.output,Gu hW.dr h.dr,Gu Q Z,λb z hM=> ?_,λb z=>h.ok0 b (hW.ok0 b z),λb z=> ?_,h.oks,h.obj,λo e l h1 h2=> ?_,h.inj,hW.gl⟩
 .refine (h.keep b (ET z Q) (λho=> ?_)).trans (hW.keep b z hM);rcases (Yu hW ho).2.2 with q|q
  .omega
  .exact hM q
 .rcases h.ok1 b z with q|q|q
  .exact hW.ok1 b q
  .exact .inr (.inl (Gu Q q))
  .exact .inr (Yu hW q).2.2
 .obtain⟨q1,O⟩:=h.loc o e l h1 h2;refine⟨q1,?_⟩;cases hm:e.1 with
  |true=>
   rw[hm] at O;simp only[Ff] at O⊢;refine⟨O.1,?_⟩;rcases O.2 with q|q
   .exact .inl (Gu Q q)
   .exact (Yu hW q).2.2
  |false=>rw[hm] at O;simpa using O
def dC{S S':AD}{n0:Nat}{ds:List Deferred}(h:Wf (Hz S n0 ds) S'): ∀b,b<S.w.heap.size-> ¬Gd S b->S'.w.heap[b]? =S.w.heap[b]? :=h.keep
def pZ{S S':AD}{n0:Nat}{ds:List Deferred}(h:Wf (Hz S n0 ds) S'){b:Nat}(z:Gd S' b):S.w.heap.size<=b\/Gd S b:=(Yu h z).2.2
def dR{S S':AD}{n0:Nat}{ds:List Deferred}(h:Wf (Hz S n0 ds) S'){b:Nat}(z:S'.ok b):S.ok b\/S.w.heap.size<=b\/Gd S b:=h.ok1 b z
structure Ss(S:AD)(W':World):Prop where
 size:S.w.heap.size<=W'.heap.size
 os:W'.os=S.w.os
 tape:W'.tape=S.w.tape
 output:W'.output=S.w.output
 dr:S.w.drawn<=W'.drawn
 ok: ∀b,S.ok b->W'.heap[b]? =S.w.heap[b]?
 nm: ∀b,Rs S b->W'.heap[b]? =S.w.heap[b]?
def wI{S:AD}{W':World}(h:Ss S W')(X:Nat->Prop):Ck X S {S with w:=W'}:=⟨λb O=>⟨O,h.ok b O⟩,λ_ _ e' z=>⟨e',z,rfl,rfl,rfl⟩⟩
def QT{C:Bn}{S:AD}{W':World}(hW:Wf C S)(h:Ss S W'):GP S.ok (λb=>W'.heap[b]?):=hW.gp.mono λb _ z O=>⟨z,(h.ok b z).trans O⟩
def xJ{C:Bn}{S:AD}{W':World}(hW:Wf C S)(h:Ss S W')(hk: ∀b,b<C.w.heap.size-> ¬C.M b->W'.heap[b]? =S.w.heap[b]?):Wf C {S with w:=W'}:=by
 refine⟨h.os.trans hW.os,h.tape.trans hW.tape,h.output.trans hW.output,Gu hW.dr h.dr,Gu hW.size h.size,λb z Q=>(hk b z Q).trans (hW.keep b z Q),hW.ok0,hW.ok1,λb z=>ET (hW.oks b z) h.size,λo e Z=> ?_,λo e l h1 h2=> ?_,hW.inj,hW.gl⟩
 .exact Im (wI h λ_=>True) (λlc O=>h.nm lc.b ⟨o,e,lc,Z,O,rfl⟩) e.2 (λ_ _=>trivial) (hW.obj o e Z)
 .obtain⟨q1,q2⟩:=hW.loc o e l h1 h2;exact⟨ET q1 h.size,q2⟩
def Qul{C:Bn}{N:Nat}{s:Az}{S:AD}{a:Act}{W':World}(z:Dt C N s S a)(h:Ss S W')(O: ∀b,b<C.w.heap.size-> ¬C.M b->W'.heap[b]? =S.w.heap[b]?):Dt C N s {S with w:=W'} a:=
 ⟨xJ z.wf h O,z.h,λt=>J0 (wI h λ_=>True) _ _ (λ_ _=>trivial) (z.tm t),z.nmT,z.nmH,z.size,z.defers,z.n0,z.pre⟩
def Qk9{S:AD}{l:Nat}{o:Obj}(O: ¬S.ok l)(Q: ¬Rs S l):Ss S (S.w.putObj l o):=by
 refine⟨auSi,rfl,rfl,rfl,BN _,λb z=> ?_,λb z=> ?_⟩
 .exact World.putObj_heap_other (λe=>O (e▸z))
 .exact World.putObj_heap_other (λe=>Q (e▸z))
structure KO(ok0:Nat->Prop)(Pr:Nat->Prop)(W:World)(Pr':Nat->Prop)(W':World):Prop where
 size:W.heap.size<=W'.heap.size
 os:W'.os=W.os
 tape:W'.tape=W.tape
 output:W'.output=W.output
 dr:W.drawn<=W'.drawn
 pr: ∀b,Pr' b->Pr b\/W.heap.size<=b
 same: ∀b,b<W.heap.size->(¬Pr b\/ok0 b)->W'.heap[b]? =W.heap[b]?
def Re{ι:Type}(base:Nat)(J:ι->(Nat->Prop)->World->Prop):Prop:=
 ∀i Pr W,J i Pr W->(∀b,Pr b->b<W.heap.size)/\ ∀W',W.heap.size<=W'.heap.size->W'.os=W.os->W'.tape=W.tape->W'.output=W.output->W.drawn<=W'.drawn->(∀b,Pr b\/b<base->W'.heap[b]? =W.heap[b]?)->J i Pr W'
structure Giv where
 I:Type
 i0:I
 step:I->List D->I->Prop
 fin:I->Prop
def R3(P:Program)(gf:Nat)(capt:List D)(X:Giv):Prop:=
 ∀(C:Bn) (S:AD) (vs:Array Value) (l:Nat) (J:X.I->(Nat->Prop)->World->Prop),Wf C S->rdl S.ok S.hp capt vs.toList->Re S.w.heap.size J->
  (∀i x j args Pr W,X.step i x j->(∀ok hp,rdl ok hp x args.toList)->J i Pr W->YieldAt Fence.wide 0 P l args W λe W'=>e= .returned (.bool true)/\ ∃Pr',J j Pr' W'/\KO S.ok Pr W Pr' W')->
  (∃Pr,J X.i0 Pr S.w)->Calls P gf (#[.func (.yield l) #[] #[]]++vs) S.w λe W'=> ∃v Pr i,e= .returned v/\X.fin i/\J i Pr W'
def mG(xs:List (List D)):Giv:=⟨Nat,0,λi x j=>xs[i]? =some x/\j=i+1,λi=>i=xs.length⟩
def KM(P:Program)(gf:Nat)(capt:List D)(xs:List (List D)):Prop:=R3 P gf capt (mG xs)
def Hc:List Tmp->List D->TmT->TmT
 |t::z,d::ds,tm=>Hc z ds ((t,.im d)::tm)
 |[],_,tm=>tm
 |_::_,[],tm=>tm
def Hb:List Tmp->LVa->Array Value->Array Value
 |t::z,v::O,A=>Hb z O (A.setIfInBounds t v)
 |[],_,A=>A
 |_::_,[],A=>A
def aJ(ps:Array Tmp)(args:Array Value)(A:Array Value):(ps.zip args).foldl (λz (t,a)=>z.setIfInBounds t a) A=Hb ps.toList args.toList A:=by
 rw[<-Array.foldl_toList,Array.toList_zip];generalize ps.toList=l;generalize args.toList=m;induction l generalizing m A with
 |nil=>simp[Hb]
 |cons t O ih=>
  cases m with
  |nil=>simp[Hb]
  |cons v Q=>simp only[List.zip_cons_cons,Fu,Hb];exact ih _ _
def Qv4: ∀(z:List Tmp) (vs:LVa) (A:Array Value),(Hb z vs A).size=A.size
 |t::z,v::vs,A=>by simp only[Hb,Qv4 z vs,zL]
 |[],_,A=>rfl
 |_::_,[],A=>rfl
def Qv1{S:AD}: ∀(Q:List Tmp) (ds:List D) (vs:LVa) (tm:TmT) (A:Array Value),rdl S.ok S.hp ds vs->(∀t∈Q,t<A.size)->(∀t,Ab S (AF tm t) (A.getD t undef))->
 ∀t,Ab S (AF (Hc Q ds tm) t) ((Hb Q vs A).getD t undef)
 |Z::Q,d::ds,vs,tm,A,O,hl,z=>by
  simp only[rdl] at O;obtain⟨v,r,rfl,h1,h2⟩:=O;simp only[Hc,Hb];refine Qv1 Q ds r _ _ h2 (λt ht=>by rw[zL];exact hl t (Ah _ ht)) (λt=> ?_);have aa:=hl Z (CP ..);simp only[AF];by_cases h:Z=t
  .subst h;simp[aa,Ab];exact h1
  .have:(Z==t)=false:=by simpa using h
   rw[this];simp only[Dw];have e:(A.setIfInBounds Z v).getD t undef=A.getD t undef:=by
    simp only[Ec];rw[Array.getElem?_setIfInBounds_ne h]
   rw[e];exact z t
 |[],_,_,tm,A,_,_,z=>λt=>by simpa only[Hc,Hb] using z t
 |_::_,[],vs,tm,A,O,_,z=>λt=>by
  simp only[rdl] at O;subst O;simpa only[Hc,Hb] using z t
def Qy1{n:Nat}: ∀(z:List Tmp) (ds:List D) (tm:TmT),(∀t,∀m∈(AF tm t).nms,m<n)-> ∀t,∀m∈(AF (Hc z ds tm) t).nms,m<n
 |O::z,d::ds,tm,h=>by
  simp only[Hc];refine Qy1 z ds _ (λt m hm=> ?_);simp only[AF] at hm;cases hq:O==t<;>rw[hq] at hm
  .exact h t m hm
  .simp[AV.nms] at hm
 |[],_,tm,h=>h
 |_::_,[],tm,h=>h
def xD{C:Bn}{S:AD}(hW:Wf C S){b:Nat}(hb:Rs S b):(∀r,S.w.heap[b]? ≠some (.loop r))/\ ∀d,S.w.heap[b]? ≠some (.deferred d):=by
 obtain⟨o,e,Q,h1,h2,rfl⟩:=hb;have h:=hW.obj o e h1;rw[h2] at h;have hp:S.hp Q.b=S.w.heap[Q.b]? :=rfl;obtain⟨mu,ob⟩:=e;cases ob<;>simp only[Au] at h
 case cells T cs=>obtain⟨l',O,q1,_,z,_⟩:=h;cases q1;rw[<-hp,z];simp
 case arr T k rows=>obtain⟨_,_,O,z,_⟩:=h;rw[<-hp,z];simp
 case arrA T k rows=>obtain⟨_,_,O,z,_⟩:=h;rw[<-hp,z];simp
 case map kt es=>obtain⟨l',Z,cl,q1,_,z,_⟩:=h;cases q1;rw[<-hp,z];simp
 case chan q cap=>obtain⟨l',bu,se,rc,q1,z,_⟩:=h;cases q1;rw[<-hp,z];simp
 case iter la le=>obtain⟨l',mb,Z,cl,se,q1,_,_,_,z,_⟩:=h;cases q1;rw[<-hp,z];simp
 case view cs=>obtain⟨l',O,T,fr,q1,z,_⟩:=h;cases q1;rw[<-hp,z];simp
def Sg{S:AD}{b:Nat}(h:Gd S b):Rs S b:=by
 obtain⟨o,e,Z,z,_,O,Q⟩:=h;exact⟨o,e,Z,z,O,Q⟩
def yI{C:Bn}{N:Nat}{s:Az}{S:AD}{a:Act}{W':World}(z:Dt C N s S a)(h:Ss S W')(n0:Nat)(hn:n0<=s.nx)(a':Act)(ds:List Deferred)(hd:a'.defers=ds)(ha:a'.tmps=a.tmps):
 Dt (Hz {S with w:=W'} n0 ds) N s {S with w:=W'} a':=by
 have hW:=z.wf;refine⟨⟨rfl,rfl,rfl,BN _,BN _,λ_ _ _=>rfl,λ_ h=>h,λ_ h=> .inl h,λb Q=>ET (hW.oks b Q) h.size,λo e he=> ?_,λo e l h1 h2=> ?_,hW.inj,(QT hW h).mono λb o Q ho=>⟨⟨Q,λhM=>(Yu hW hM).2.1 Q⟩,ho⟩⟩,z.h,λt=> ?_,z.nmT,z.nmH,by rw[ha];exact z.size,hd,hn,λ_ _ e' Z=>⟨e',Z,rfl,rfl,rfl⟩⟩
 .exact Im (wI h λ_=>True) (λlc aa=>h.nm lc.b ⟨o,e,lc,he,aa,rfl⟩) e.2 (λ_ _=>trivial) (hW.obj o e he)
 .obtain⟨q1,O⟩:=hW.loc o e l h1 h2;refine⟨ET q1 h.size,?_⟩;cases hm:e.1 with
  |true=>
   rw[hm] at O;simp only[Ff] at O⊢;exact⟨O.1,.inr ⟨o,e,l,h1,hm,h2,rfl⟩⟩
  |false=>rw[hm] at O;simpa using O
 .have e:a'.eval (.tmp t)=a.eval (.tmp t):=by simp only[Act.eval,ha]
  rw[e];exact J0 (wI h λ_=>True) _ _ (λ_ _=>trivial) (z.tm t)
def Qxm{C:Bn}{S:AD}{W':World}(hW:Wf C S)(hs:S.w.heap.size<=W'.heap.size)(O:W'.os=S.w.os)(Q:W'.tape=S.w.tape)(Z:W'.output=S.w.output)(h4:S.w.drawn<=W'.drawn)(z: ∀b,b<S.w.heap.size->W'.heap[b]? =S.w.heap[b]?):Ss S W':=
 ⟨hs,O,Q,Z,h4,λb h=>z b (hW.oks b h),λb ⟨o,e,lc,q1,q2,q3⟩=>z b (q3▸(hW.loc o e lc q1 q2).1)⟩
def aU(lo nx:Nat)(h':An):CI
 | .normal,s2=> ∃π,AB lo π s2 ⟨[],h',nx⟩
 | .exit _,_=>False
 | .ret,_=>False
def SB(P:Program)(V:DK)(z:Code)(Q:CI):CI
 | .normal,s1=>DH P V z Q s1
 | .exit _,_=>False
 | .ret,_=>False
def nV(C:Bn)(N:Nat)(s:Az)(Q:Act):Exit->Act->World->Prop
 | .normal,a',w'=> ∃z O D,O.w=w'/\Dt z N s O a'/\(∀S',Wf z S'->Wf C S')/\a'.tmps=Q.tmps/\a'.defers={target:= .collected D,args:= #[]}::Q.defers/\
  D<z.w.heap.size/\ ¬z.M D/\ ¬z.ok D/\C.w.heap.size<=D/\z.w.heap[D]? =some (.deferred (some []))
 |_,_,_=>False
section
variable {P:Program}{V:DK}{N:Nat}
def V4{ι:Type}(C:Bn)(N:Nat)(st:ι->Az)(a:Act)(ok0:Nat->Prop)(Dk l:Nat)(rc:Loop)(i:ι)(Pr:Nat->Prop)(W:World):Prop:=
 ∃S,S.w=W/\Dt C N (st i) S a/\(∀b,Pr b↔(Rs S b\/S.ok b\/b=l\/b=Dk))/\(∀b,ok0 b->S.ok b)/\W.heap[l]? =some (.loop rc)/\W.heap[Dk]? =some (.deferred (some []))/\ ¬S.ok l/\ ¬S.ok Dk
def Qaa7{ι:Type}{C:Bn}{st:ι->Az}{a:Act}{ok0:Nat->Prop}{Dk l:Nat}{rc:Loop}{base:Nat}(Q:C.w.heap.size<=base):Re base (V4 C N st a ok0 Dk l rc):=by
 rintro i Pr W ⟨S,rfl,Z,z,ab,hl,hD,nl,nD⟩;refine⟨λb aa=> ?_,λW' h1 h2 h3 h4 h5 O=> ?_⟩
 .rcases (z b).1 aa with ⟨o,e,lc,q1,q2,rfl⟩|q|rfl|rfl
  .exact (Z.wf.loc o e lc q1 q2).1
  .exact Z.wf.oks b q
  .exact (Hi.1 hl).1
  .exact (Hi.1 hD).1
 .have hm:Ss S W':=⟨h1,h2,h3,h4,h5,λb Q=>O b (.inl ((z b).2 (.inr (.inl Q)))),λb Q=>O b (.inl ((z b).2 (.inl Q)))⟩;refine⟨{S with w:=W'},rfl,Qul Z hm (λb ac _=>O b (.inr auOm)),z,ab,?_,?_,nl,nD⟩
  .rw[O l (.inl ((z l).2 (.inr (.inr (.inl rfl)))))];exact hl
  .rw[O Dk (.inl ((z Dk).2 (.inr (.inr (.inr rfl)))))];exact hD
def V9{ι:Type}(HM:P.follows .mixedOrders=true)(HV:IE P V){C:Bn}{st:ι->Az}{a:Act}{ok0:Nat->Prop}{Dk l:Nat}{tm0:TmT}{hs:ι->An}{lo nx:Nat}{fn:FuncId}{ps:Array Tmp}{assign body:Code}{i j:ι}{x:List D}
 (ax: ∀i,st i=⟨tm0,hs i,nx⟩)(bf:C.n0<=lo)(an:lo<=nx)(a8:Cl lo tm0=true)(hg:Az.good ⟨[],hs j,nx⟩=true)(cf: ∀o e,hget (hs j) o=some e->e.2.isView=true->o<lo)(be:l≠Dk)(co:C.w.heap.size<=l)
 (b0:EW N assign=true)(a9:II assign=true)(b8:EW N body=true)(ba:II body=true)(ce: ∀t∈ps.toList,t<N)(cr:x.length=ps.size)
 (ao:DH P V assign (SB P V body (aU lo nx (hs j))) ⟨Hc ps.toList x tm0,hs i,nx⟩)
 {args:Array Value}{Pr:Nat->Prop}{W:World}(ah: ∀ok hp,rdl ok hp x args.toList)
 (hJ:V4 C N st a ok0 Dk l {state:= .ready,pending:=none,fn,tmps:=a.tmps,params:=ps,assign,body,defers:=Dk} i Pr W):
 YieldAt Fence.wide 0 P l args W λe W'=>e= .returned (.bool true)/\ ∃Pr',V4 C N st a ok0 Dk l {state:= .ready,pending:=none,fn,tmps:=a.tmps,params:=ps,assign,body,defers:=Dk} j Pr' W'/\KO ok0 Pr W Pr' W':=by
 obtain⟨S,rfl,Q,aa,aw,hl,hD,nl,nD⟩:=hJ;have bz:args.size=ps.size:=by
  have:=jT _ _ (ah S.ok S.hp)
  simp at this;omega
 refine⟨fn,_,assign,body,run_yield hl bz,roundIn_of_wpIn trivial ?_⟩;simp only[aJ];have kl: ∀{C':Bn} {S':AD},Wf C' S'->(∃r,S'.w.heap[l]? =some (.loop r))-> ¬Rs S' l:=λhW ⟨r,hr⟩ hn=>(xD hW hn).1 r hr
 have kD: ∀{C':Bn} {S':AD},Wf C' S'->(S'.w.heap[Dk]? =some (.deferred (some [])))-> ¬Rs S' Dk:=λhW hr hn=>(xD hW hn).2 _ hr
 have b9:l<S.w.heap.size:=(Hi.1 hl).1;have bt:Dk<S.w.heap.size:=(Hi.1 hD).1;have bu:Dt (Hz S lo []) N ⟨Hc ps.toList x tm0,hs i,nx⟩ S {tmps:=Hb ps.toList args.toList a.tmps,defers:=[]}:=by
  have hh:=Q.h;have ht:=Q.tm;have hm:=Q.nmH;have bi:=Q.nmT;rw[ax i] at hh ht hm bi;refine⟨Vq Q.wf _ _,hh,λt=> ?_,Qy1 _ _ _ bi,hm,?_,rfl,an,λ_ _ e' ac=>⟨e',ac,rfl,rfl,rfl⟩⟩
  .exact Qv1 _ _ _ _ _ (ah _ _) (λt ht=>by rw[Q.size];exact ce t ht) ht t
  .rw[Qv4];exact Q.size
 refine wpIn_mono (wG (ro:=some l) HM HV assign b0 a9 _ _ _ _ ao ⟨S,rfl,bu⟩) ?_;intro e a1 w1 hq;cases e<;>simp only[H3] at hq<;>simp only[Exit.then]
 case exit id=>obtain⟨_,h,_⟩:=hq;exact h.elim
 case ret=>obtain⟨_,h,_⟩:=hq;exact h.elim
 obtain⟨s1,bj,S1,rfl,z⟩:=hq;simp only[SB] at bj;have cp:S.w.heap.size<=S1.w.heap.size:=z.wf.size;have bc:S1.w.heap[l]? =_:=(dC z.wf l b9 (λZ=>kl Q.wf ⟨_,hl⟩ (Sg Z))).trans hl;have bq:S1.w.heap[Dk]? =_:=(dC z.wf Dk bt (λZ=>kD Q.wf hD (Sg Z))).trans hD;have bm: ¬S1.ok l:=λh=>by
  rcases dR z.wf h with q|q|q
  .exact nl q
  .omega
  .exact kl Q.wf ⟨_,hl⟩ (Sg q)
 have cg: ¬S1.ok Dk:=λh=>by
  rcases dR z.wf h with q|q|q
  .exact nD q
  .omega
  .exact kD Q.wf hD (Sg q)
 refine⟨_,run_beginRound bc rfl,?_⟩;obtain⟨ob,hob⟩: ∃ob,ob=Obj.loop {({state:= .ready,pending:=none,fn,tmps:=a.tmps,params:=ps,assign,body,defers:=Dk}:Loop) with state:= .busy}:=⟨_,rfl⟩;rw[<-hob];obtain⟨S2,hS2⟩: ∃S2:AD,S2={S1 with w:=S1.w.putObj l ob}:=⟨_,rfl⟩;have bh:=Qk9 (S:=S1) (o:=ob) bm (kl z.wf ⟨_,bc⟩);have bg:lo<=s1.nx:=z.n0;have aj:Dt (Hz S2 lo []) N s1 S2 a1:=by
  rw[hS2];exact yI z bh lo bg a1 [] z.defers rfl
 have ad:S2.w=S1.w.putObj l ob:=by rw[hS2]
 have cm:S2.w.heap.size=S1.w.heap.size:=by rw[ad,World.putObj_size]
 have av:S2.w.heap[l]? =some ob:=by rw[ad];exact World.putObj_heap_same auOm
 have au:S2.w.heap[Dk]? =some (.deferred (some [])):=by rw[ad,World.putObj_heap_other be.symm];exact bq
 rw[<-ad];refine wpIn_mono (wG (ro:=some l) HM HV body b8 ba _ _ _ _ bj ⟨S2,rfl,aj⟩) ?_;intro e a2 w2 hq;cases e<;>simp only[H3] at hq<;>simp only[roundPost]
 case exit id=>obtain⟨_,h,_⟩:=hq;exact h.elim
 case ret=>obtain⟨_,h,_⟩:=hq;exact h.elim
 obtain⟨s2,⟨π,bl⟩,bb⟩:=hq;obtain⟨S3,rfl,O⟩:=Sa bb bl hg (BN _) an;have bd:S3.w.heap[l]? =_:=(dC O.wf l auOm (λZ=>kl aj.wf ⟨_,by rw[av,hob]⟩ (Sg Z))).trans (av.trans (by rw[hob]));have br:S3.w.heap[Dk]? =_:=(dC O.wf Dk auOm (λZ=>kD aj.wf au (Sg Z))).trans au;have cq:S2.w.heap.size<=S3.w.heap.size:=O.wf.size;refine⟨_,_,run_endRound none bd,rfl,?_⟩;change ∃Pr',V4 C N st a ok0 Dk l ({state:= .ready,pending:=none,fn,tmps:=a.tmps,params:=ps,assign,body,defers:=Dk}:Loop) j Pr' (S3.w.putObj l (.loop ({state:= .ready,pending:=none,fn,tmps:=a.tmps,params:=ps,assign,body,defers:=Dk}:Loop)))/\KO ok0 Pr S.w Pr' (S3.w.putObj l (.loop ({state:= .ready,pending:=none,fn,tmps:=a.tmps,params:=ps,assign,body,defers:=Dk}:Loop)));obtain⟨rc,hrc⟩: ∃rc:Loop,rc=({state:= .ready,pending:=none,fn,tmps:=a.tmps,params:=ps,assign,body,defers:=Dk}:Loop):=⟨_,rfl⟩;rw[<-hrc];have az: ∀b,Gd S2 b->Gd S1 b:=λb h=>by rw[hS2] at h;exact h
 have aq: ∀b,S2.ok b↔S1.ok b:=λb=>by rw[hS2]
 have bn: ¬S3.ok l:=λh=>by
  rcases dR O.wf h with q|q|q
  .exact bm ((aq l).1 q)
  .omega
  .exact kl aj.wf ⟨_,by rw[av,hob]⟩ (Sg q)
 have ci: ¬S3.ok Dk:=λh=>by
  rcases dR O.wf h with q|q|q
  .exact cg ((aq Dk).1 q)
  .omega
  .exact kD aj.wf au (Sg q)
 have cb:=Qk9 (S:=S3) (o:= .loop rc) bn (kl O.wf ⟨_,bd⟩);have bv:Wf C S1:=Qrn Q.wf z.wf;have bw:Wf C S2:=by rw[hS2];exact xJ bv bh (λb hb _=>World.putObj_heap_other auOm)
 have bx:Wf C S3:=Qrn bw O.wf;obtain⟨S4,hS4⟩: ∃S4:AD,S4={S3 with w:=S3.w.putObj l (.loop rc)}:=⟨_,rfl⟩;have ag:Wf C S4:=by rw[hS4];exact xJ bx cb (λb hb _=>World.putObj_heap_other auOm)
 have af:S4.w=S3.w.putObj l (.loop rc):=by rw[hS4]
 have am:S4.h=S3.h:=by rw[hS4]
 have hρ4:S4.ρ=S3.ρ:=by rw[hS4]
 have ab:S4.ok=S3.ok:=by rw[hS4]
 have cn:S4.w.heap.size=S3.w.heap.size:=by rw[af,World.putObj_size]
 rw[<-af];have ai: ∀b,b<S.w.heap.size-> ¬Gd S b->b≠l->S4.w.heap[b]? =S.w.heap[b]? :=by
  intro b hb Z a0;rw[af,World.putObj_heap_other a0,dC O.wf b auOm (λh=> ?_),ad,World.putObj_heap_other a0,dC z.wf b hb Z];rcases pZ z.wf (az b h) with q|q
  .omega
  .exact Z q
 have bp: ∀b,S.ok b->S4.ok b/\S4.hp b=S.hp b:=by
  intro b hb;refine⟨by rw[ab];exact O.wf.ok0 b ((aq b).2 (z.wf.ok0 b hb)),ai b (Q.wf.oks b hb) (λh=>(Yu Q.wf h).2.1 hb) (λh=>nl (h▸hb))⟩
 have ay: ∀o,o<lo-> ∀e',S4.h o=some e'-> ∃e,S.h o=some e/\S4.ρ o=S.ρ o/\e'.2.esz=e.2.esz/\e'.2.len=e.2.len:=by
  intro o Z e' ac;rw[am] at ac;obtain⟨e,q1,q2,q3,q4⟩:=O.pre o Z e' ac
  have cj:S1.h o=some e:=by have:S2.h=S1.h:=by rw[hS2]
                            rw[<-this];exact q1
  obtain⟨e0,r1,r2,r3,r4⟩:=z.pre o Z e cj
  have ck:S3.ρ o=S1.ρ o:=by have:S2.ρ=S1.ρ:=by rw[hS2]
                            rw[<-this];exact q2
  exact⟨e0,r1,by rw[hρ4];exact ck.trans r2,q3.trans r3,q4.trans r4⟩
 have bo: ∀b,S4.ok b->S.ok b\/S.w.heap.size<=b\/Gd S b:=by
  intro b hb;rw[ab] at hb;rcases dR O.wf hb with q|q|q
  .exact dR z.wf ((aq b).1 q)
  .exact .inr (.inl auOm)
  .exact .inr (pZ z.wf (az b q))
 have cd: ∀b,(Rs S4 b\/S4.ok b\/b=l\/b=Dk)->Pr b\/S.w.heap.size<=b:=by
  have ak: ∀b,(S.ok b\/S.w.heap.size<=b\/Gd S b)->Pr b\/S.w.heap.size<=b:=by
   rintro b (q|q|q)
   .exact .inl ((aa b).2 (.inr (.inl q)))
   .exact .inr q
   .exact .inl ((aa b).2 (.inl (Sg q)))
  rintro b (⟨o,e,lc,q1,q2,rfl⟩|q|rfl|rfl)
  .cases hmu:e.1 with
   |true=>
    have cc:Gd S3 lc.b:=⟨o,e,lc,by rw[<-am];exact q1,hmu,by rw[<-hρ4];exact q2,rfl⟩;rcases pZ O.wf cc with q|q
    .exact .inr auOm
    .rcases pZ z.wf (az _ q) with q|q
     .exact .inr q
     .exact ak _ (.inr (.inr q))
   |false=>
    have h5:=(ag.loc o e lc q1 q2).2;rw[hmu] at h5;simp only[BL,HS] at h5;rcases h5 with h5|h5
    .exact ak _ (bo _ h5)
    .have Z:=cf o e (by rw[<-O.h o,<-am];exact q1) h5;obtain⟨e0,r1,r2,_,_⟩:=ay o Z e q1;exact .inl ((aa _).2 (.inl ⟨o,e0,lc,r1,by rw[<-r2];exact q2,rfl⟩))
  .exact ak _ (bo _ q)
  .exact .inl ((aa _).2 (.inr (.inr (.inl rfl))))
  .exact .inl ((aa _).2 (.inr (.inr (.inr rfl))))
 refine⟨λb=>Rs S4 b\/S4.ok b\/b=l\/b=Dk,⟨S4,rfl,?_,λb=>Iff.rfl,λb hb=>(bp b (aw b hb)).1,?_,?_,by rw[ab];exact bn,by rw[ab];exact ci⟩,⟨auOm,ag.os.trans Q.wf.os.symm,ag.tape.trans Q.wf.tape.symm,ag.output.trans Q.wf.output.symm,by have q1:=z.wf.dr;have q3:=O.wf.dr;rw[af];refine Gu q1 (Gu (ZeO ?_) q3);show S1.w.drawn=S2.w.drawn;rw[ad];rfl,cd,?_⟩⟩
 .have ht:=Q.tm;rw[ax i] at ht;rw[ax j];refine⟨ag,λn=>by rw[am];exact O.h n,λt=> ?_,λt m hm=>ET (wT _ a8 t m hm) an,O.nmH,Q.size,Q.defers,Gu bf an,λo Z e' ac=> ?_⟩
  .exact J0 (X:=λo=>o<lo) ⟨bp,ay⟩ _ _ (wT _ a8 t) (ht t)
  .obtain⟨e,q1,q2,q3,q4⟩:=ay o (ET Z bf) e' ac;obtain⟨e0,r1,r2,r3,r4⟩:=Q.pre o Z e q1;exact⟨e0,r1,q2.trans r2,q3.trans r3,q4.trans r4⟩
 .rw[af];exact World.putObj_heap_same auOm
 .rw[af,World.putObj_heap_other be.symm];exact br
 .rintro b hb (h|h)
  .exact ai b hb (λZ=>h ((aa b).2 (.inl (Sg Z)))) (λe=>h ((aa b).2 (.inr (.inr (.inl e)))))
  .exact ai b hb (λZ=>(Yu Q.wf Z).2.1 (aw b h)) (λe=>nl (e▸aw b h))
def Qr4(w:World)(o:Obj)(k:Nat)(h:k<w.heap.size):(w.alloc o).heap[k]? =w.heap[k]? :=by
 show (w.heap.push o)[k]? =_;rw[Array.getElem?_push,Be auOm]
def Qe(HM:P.follows .mixedOrders=true)(HV:IE P V){C:Bn}{s:Az}{a:Act}{w:World}(hc:Cg C N s a w){g:Operand}{ps:Array Tmp}{assign body:Code}{gf:Nat}{capt:List D}{X:Giv}(ao:pY P gf)(bj:R3 P gf capt X)(Ok:X.I->Prop)(ab:Ok X.i0)(aw: ∀i x j,Ok i->X.step i x j->Ok j)
 (bh:EW N assign=true)(aj:II assign=true)(bi:EW N body=true)(am:II body=true)(bl: ∀i x j,Ok i->X.step i x j->x.length=ps.size)(bm: ∀t∈ps.toList,t<N)
 {tm0:TmT}{hs:X.I->An}{nx:Nat}(aa: ∃π,AB s.nx π s ⟨tm0,hs X.i0,nx⟩)(hg:Ay tm0 g= .im (.fn gf [] capt))(ag:s.nx<=nx)(bg:Cl s.nx tm0=true)(O: ∀i,Ok i->Az.good ⟨tm0,hs i,nx⟩=true)
 (bn: ∀i o e,hget (hs i) o=some e->e.2.isView=true->o<s.nx)
 (Z: ∀i x j,Ok i->X.step i x j->DH P V assign (SB P V body (aU s.nx nx (hs j))) ⟨Hc ps.toList x tm0,hs i,nx⟩):
 (Code.rangeFunc g ps assign body).wpIn Fence.wide 0 P (λe a' w'=> ∃i,Ok i/\X.fin i/\nV C N ⟨tm0,hs i,nx⟩ a e a' w') a w:=by
 obtain⟨π,ax⟩:=aa;have af:C.n0<=s.nx:=by obtain⟨_,_,h⟩:=hc;exact h.n0
 obtain⟨S,rfl,hE⟩:=Sa hc ax (O X.i0 ab) af (Gu af ag);have h1:Ab S (.im (.fn gf [] capt)) (a.eval g):=by rw[<-hg];exact RW hE g
 simp only[Ab,rd] at h1;obtain⟨A,Cc,hv,hA,ak⟩:=h1;have a8:A= #[]:=by simpa[rdl] using hA
 rw[xX ao.1,a8] at hv;refine wpIn_rangeFunc ?_;intro fn bt;have a9:C.w.heap.size<=S.w.heap.size:=hE.wf.size;obtain⟨rc,hrc⟩: ∃rc:Loop,rc={state:= .ready,pending:=none,fn,tmps:=a.tmps,params:=ps,assign,body,defers:=S.w.heap.size}:=⟨_,rfl⟩;obtain⟨z,hW1⟩: ∃z,z=(S.w.alloc (.deferred (some []))).alloc (.loop rc):=⟨_,rfl⟩;have bq:z.heap.size=S.w.heap.size+2:=by rw[hW1];simp
 have bd:z.heap[S.w.heap.size+1]? =some (.loop rc):=by
  rw[hW1];have:=World.alloc_heap_new (S.w.alloc (.deferred (some []))) (.loop rc);rwa [World.size_alloc] at this
 have bc:z.heap[S.w.heap.size]? =some (.deferred (some [])):=by
  rw[hW1];exact (Qr4 _ _ _ auSi).trans (World.alloc_heap_new S.w _)
 have hbel: ∀b,b<S.w.heap.size->z.heap[b]? =S.w.heap[b]? :=λb hb=>by
  rw[hW1,Qr4 _ _ _ (by simp;omega),Qr4 _ _ _ hb]
 have hm:Ss S z:=Qxm hE.wf auOm (by rw[hW1];rfl) (by rw[hW1];rfl) (by rw[hW1];rfl) (by rw[hW1];exact BN _) hbel;have ai:Dt C N ⟨tm0,hs X.i0,nx⟩ {S with w:=z} a:=Qul hE hm (λb hb _=>hbel b auOm);have ad:rdl S.ok (λb=>z.heap[b]?) capt Cc.toList:=Ml (wI hm λ_=>True).ok _ _ ak;refine⟨S.w.heap.size+1,[{target:= .collected S.w.heap.size,args:= #[]}],z,{target:= .fn (.func gf) Cc,args:= #[.func (.yield (S.w.heap.size+1)) #[] #[]]},z,gf,
  #[.func (.yield (S.w.heap.size+1)) #[] #[]]++Cc,z,?_,?_,λ_ _=>trivial,?_,λh=>(by cases h),?_⟩
 .rw[hW1,hrc];exact run_enterLoop_outer _ _ _ _ _
 .simp only[resolve,hv];simp[go_sem]
 .simp[invoke,go_sem,Qhx ao]
 refine callsIn_wide.2 (Calls.mono (bj C {S with w:=z} Cc (S.w.heap.size+1) (λi Pr W=>Ok i/\V4 C N (λi=>⟨tm0,hs i,nx⟩) a S.ok S.w.heap.size (S.w.heap.size+1) rc i Pr W) ai.wf ad ?_ ?_ ?_) ?_)
 .rintro i Pr W ⟨hi,hJ⟩;obtain⟨q1,q2⟩:=Qaa7 (base:=z.heap.size) auOm i Pr W hJ;exact⟨q1,λW' h1 h2 h3 h4 h5 h6=>⟨hi,q2 W' h1 h2 h3 h4 h5 h6⟩⟩
 .rintro i x j args Pr W hx ac ⟨hi,hJ⟩;have au:=aw i x j hi hx;have aq:=O j au;simp only[Az.good,B1] at aq;rw[hrc] at hJ⊢;have h9:=V9 HM HV (st:=λi=>⟨tm0,hs i,nx⟩) (λ_=>rfl) af ag bg (by simp only[Az.good,Cl,CZ,B1];exact aq.2) (bn j) auOm auOm bh aj bi am bm (bl i x j hi hx) (Z i x j hi hx) ac hJ;obtain⟨a0,ah,ay,az,r1,r2⟩:=h9;refine⟨a0,ah,ay,az,r1,RoundIn.mono r2 ?_⟩;rintro e W' ⟨he,Pr',bb,hM⟩;exact⟨he,Pr',⟨au,bb⟩,hM⟩
 .exact⟨_,ab,{S with w:=z},rfl,ai,λb=>Iff.rfl,λb hb=>hb,bd,bc,λh=>YC _ (ET (hE.wf.oks _ h) (kO _)),λh=>YC _ (hE.wf.oks _ h)⟩
 .rintro e W2 ⟨v,Pr,i,rfl,an,be,S2,rfl,Q,br,bu,hl,hD,nl,nD⟩;refine⟨none,_,by have:=run_endLoop (P:=P) hl (by rw[hrc];simp);rw[hrc] at this;exact this,?_⟩;obtain⟨ob,hob⟩: ∃ob:Obj,ob= .loop {({state:= .ready,pending:=none,fn,tmps:=a.tmps,params:=ps,assign,body,defers:=S.w.heap.size}:Loop) with state:= .exhausted}:=⟨_,rfl⟩;simp only[<-hob];have bp: ¬Rs S2 (S.w.heap.size+1):=λhn=>(xD Q.wf hn).1 _ hl
  have bo: ¬Rs S2 S.w.heap.size:=λhn=>(xD Q.wf hn).2 _ hD
  have av:=Qk9 (S:=S2) (o:=ob) nl bp;have ba:S.w.heap.size<S2.w.heap.size:=(Hi.1 hD).1;have bf:Wf C {S2 with w:=S2.w.putObj (S.w.heap.size+1) ob}:=xJ Q.wf av (λb hb _=>World.putObj_heap_other auOm);refine⟨i,be,an,_,_,S.w.heap.size,rfl,yI Q av s.nx ag _ ({target:= .collected S.w.heap.size,args:= #[]}::a.defers) rfl rfl,λS' h=>Qrn bf h,rfl,rfl,?_,λh=>bo (Sg h),nD,a9,?_⟩
  .show _<(S2.w.putObj _ _).heap.size;rw[World.putObj_size];exact ba
  .show (S2.w.putObj _ _).heap[_]? =_;rw[World.putObj_heap_other auOm];exact hD
def Vi(HM:P.follows .mixedOrders=true)(HV:IE P V){C:Bn}{s:Az}{a:Act}{w:World}(hc:Cg C N s a w){g:Operand}{ps:Array Tmp}{assign z:Code}{gf:Nat}{capt:List D}{xs:List (List D)}(ag:pY P gf)(ah:KM P gf capt xs)
 (ad:EW N assign=true)(aa:II assign=true)(af:EW N z=true)(ab:II z=true)(aj: ∀x∈xs,x.length=ps.size)(ak: ∀t∈ps.toList,t<N)
 {tm0:TmT}{hs:Nat->An}{nx:Nat}(Q: ∃π,AB s.nx π s ⟨tm0,hs 0,nx⟩)(hg:Ay tm0 g= .im (.fn gf [] capt))(ai:s.nx<=nx)(ac:Cl s.nx tm0=true)(Z: ∀i,i<=xs.length->Az.good ⟨tm0,hs i,nx⟩=true)
 (am: ∀i o e,hget (hs i) o=some e->e.2.isView=true->o<s.nx)
 (O: ∀i x,xs[i]? =some x->DH P V assign (SB P V z (aU s.nx nx (hs (i+1)))) ⟨Hc ps.toList x tm0,hs i,nx⟩):
 (Code.rangeFunc g ps assign z).wpIn Fence.wide 0 P (nV C N ⟨tm0,hs xs.length,nx⟩ a) a w:=by
 refine wpIn_mono (Qe HM HV hc (X:=mG xs) ag ah (λ(i:Nat)=>i<=xs.length) (Ir _) (λi x j _ hx=> ?_) ad aa af ab (λi x j _ hx=>aj x (Bj hx.1)) ak Q hg ai ac Z am (λi x j _ hx=> ?_)) ?_
 .obtain⟨h1,rfl⟩:=hx;exact (Bi.1 h1).1
 .obtain⟨h1,rfl⟩:=hx;exact O i x h1
 .rintro e a' w' ⟨i,_,rfl,h⟩;exact h
end
def Qrj(O z:Bn)(ds:List Deferred):Prop:=
 ds=[]\/ ∃D:Nat,ds=[{target:= .collected D,args:= #[]}]/\D<z.w.heap.size/\ ¬z.M D/\ ¬z.ok D/\O.w.heap.size<=D/\z.w.heap[D]? =some (.deferred (some []))
def V5(O:Bn)(N:Nat)(Q:CI):Exit->Act->World->Prop
 | .normal,a,w=> ∃s z,Q .normal s/\Cg z N s a w/\(∀S',Wf z S'->Wf O S')/\Qrj O z a.defers
 | .ret,a,w=> ∃s z,Q .ret s/\Cg z N s a w/\(∀S',Wf z S'->Wf O S')/\Qrj O z a.defers
 |_,_,_=>False
def V0(P:Program)(z:List ResultVar)(Q:Az->List AV->Prop)(s:Az):Prop:= ∃xs,Aw (Lo P s) z=some xs/\Q s xs
def retXQ(P:Program)(z:List ResultVar)(Q:Az->List AV->Prop):CI
 | .normal,s=>V0 P z Q s
 | .ret,s=>V0 P z Q s
 | .exit _,_=>False
def QS{P:Program}{g:FuncId}{fn:Func}{c:Code}(hf:P.funcs[g]? =some fn)(hb:fn.body=some c)
 {ps:List PK}(ay:ps.length<=fn.ntmps){Q:Az->List AV->Prop}
 (hk: ∀(z:Bn) (a:Act) (w:World),z.w=w->z.n0=0->Cg z fn.ntmps ⟨entry 0 (D7 0 ps),D6 0 ps,Cm ps⟩ a w->a.defers=[]->c.wpIn Fence.wide 0 P (V5 z fn.ntmps (retXQ P fn.results.toList Q)) a w)
 {C:Bn}{S:AD}{vs:Array Value}{RR:Ending->World->Prop}(hW:Wf C S)(ah:FQ S ps vs.toList)
 (af: ∀(v:Value) (z:Bn) (S1:AD) (s:Az) (xs:List AV),z.w=S.w->z.ok=S.ok->(∀b,¬z.M b)->Wf z S1->(∀n,S1.h n=hget s.h n)->Q s xs->Ab S1 (DB xs) v->RR (.returned v) S1.w):Calls P g vs S.w RR:=by
 refine callsIn_wide.1 (callsIn_of_wp_marks (n:=0) hf hb trivial ?_);have aw:vs.size=(D7 0 ps).length:=by rw[dA];simpa using ah.len
 obtain⟨ls,ag,hcl⟩:=qG ps vs.toList 0 ah
 let S0:AD:=⟨ls,S.ok,hget (D6 0 ps),S.w⟩
 let z:Bn:=⟨S.w,λ_=>False,S.ok,0,λ_=>none,λ_=>none,[]⟩
 have an:Wf z S0:=by
  refine⟨rfl,rfl,rfl,BN _,BN _,λ_ _ _=>rfl,λ_ hb=>hb,λ_ hb=> .inl hb,hW.oks,?_,?_,?_,hW.glN λ_ h=>h.elim⟩
  .intro n e O;obtain⟨l,h1,_,h3⟩:=ag n e O;have h4:S0.ρ n=some l:=h1;rw[h4];obtain⟨_,cs,rfl⟩:=Hs 0 ps n e O;simp only[Au] at h3⊢;exact h3
  .intro n e l O hl;obtain⟨l',h1,h2,h3⟩:=ag n e O;have h4:S0.ρ n=some l':=h1;rw[h4] at hl;obtain rfl:=AJ hl;obtain⟨_,cs,rfl⟩:=Hs 0 ps n e O;exact⟨h2,.inr rfl⟩
  .intro n n' e e' l l' O au hl a9 a8 av;obtain⟨_,cs,rfl⟩:=Hs 0 ps n e O;obtain⟨_,az,rfl⟩:=Hs 0 ps n' e' au;simp at av
 have aq:Cg z fn.ntmps ⟨entry 0 (D7 0 ps),D6 0 ps,Cm ps⟩ {tmps:=vs++Array.replicate (fn.ntmps - vs.size) undef,defers:=[]} S.w:=by
  have aa:AX S0 (D7 0 ps) vs.toList:=hcl S0 rfl rfl (λn _=>⟨rfl,rfl⟩);refine⟨S0,rfl,an,λn=>rfl,?_,?_,?_,by simp;rw[dA] at aw;omega,rfl,Ir _,λo ho=>absurd ho (zN _)⟩
  .intro t;have h1:=pD (S:=S0) (D7 0 ps) vs.toList 0 t aa;simp only[Ir,Ff,YE] at h1
   have:({tmps:=vs++Array.replicate (fn.ntmps - vs.size) undef,defers:=[]}:Act).eval (.tmp t)=(vs.toList[t]?).getD undef:=by
    simp only[Act.eval,Ec,rK,YM];by_cases ht:t<vs.size
    .simp[ht]
    .simp only[ht,HS]
     have:vs[t]? =none:=eH auOm
     simp only[YK,this]
     split<;>rfl
   rw[this];exact h1
  .intro t m hm;exact wS 0 ps (Cm ps) auOm m (pL (D7 0 ps) 0 t m hm)
  .intro n e O;obtain⟨h1,cs,rfl⟩:=Hs 0 ps n e O;exact⟨by show n<Cm ps;omega,by simp[Ad.nms]⟩
 refine wpIn_mono (hk z _ _ rfl rfl aq rfl) ?_;have fin: ∀(s:Az) (C2:Bn) (S1:AD) (a:Act),V0 P fn.results.toList Q s->Dt C2 fn.ntmps s S1 a->Wf z S1-> ∃v,(results fn a.tmps).run P S1.w= .ok v S1.w/\RR (.returned v) S1.w:=by
  rintro s C2 S1 a ⟨xs,ax,hr⟩ hc ao;obtain⟨v,ai,ac⟩:=wA hc ax;exact⟨v,ai,af v z S1 s xs rfl rfl (λ_ h=>h) ao hc.h hr ac⟩
 have ab: ∀(a:Act) (w:World),(∃s C2,V0 P fn.results.toList Q s/\Cg C2 fn.ntmps s a w/\(∀S',Wf C2 S'->Wf z S')/\Qrj z C2 a.defers)->LeavesInM Fence.wide 0 P fn a.tmps RR a.defers .returning w:=by
  rintro a w ⟨s,C2,hr,⟨S1,rfl,hc⟩,Z,hM⟩;rcases hM with hM|⟨D,hM,aj,ad,ak,a0,am⟩
  .rw[hM];simp only[LeavesInM,LeavesIn];exact fin s C2 S1 a hr hc (Z _ hc.wf)
  .rw[hM];have hh:S1.w.heap[D]? =some (.deferred (some [])):=(hc.wf.keep D aj ad).trans am;have nk: ¬Rs S1 D:=λhn=>(xD hc.wf hn).2 _ hh
   have no: ¬S1.ok D:=λh=>by
    rcases hc.wf.ok1 D h with q|q|q
    .exact ak q
    .omega
    .exact ad q
   have hm:=Qk9 (S:=S1) (o:= .deferred none) no nk;refine⟨auSi,.inl ⟨D,_,rfl,run_takeDeferred hh,?_⟩⟩;simp only[LeavesInM,LeavesIn];exact fin s _ {S1 with w:=S1.w.putObj D (.deferred none)} a hr (yI hc hm 0 (Ir _) a a.defers rfl rfl) (xJ (Z _ hc.wf) hm (λb hb _=>World.putObj_heap_other auOm))
 intro e a w O;cases e<;>simp only[V5] at O<;>simp only[bodyPostM]
 .exact ab a w O
 .exact ab a w O
def QR{P:Program}{g:FuncId}{fn:Func}{c:Code}(hf:P.funcs[g]? =some fn)(hb:fn.body=some c)
 {ps:List PK}(Z:ps.length<=fn.ntmps){R:D->Prop}
 (hk: ∀(z:Bn) (a:Act) (w:World),z.w=w->z.n0=0->Cg z fn.ntmps ⟨entry 0 (D7 0 ps),D6 0 ps,Cm ps⟩ a w->a.defers=[]->c.wpIn Fence.wide 0 P (V5 z fn.ntmps (eC P fn.results.toList R)) a w)
 {C:Bn}{S:AD}{vs:Array Value}{RR:Ending->World->Prop}(hW:Wf C S)(ac:FQ S ps vs.toList)
 (O: ∀(v:Value) (z:Bn) (S1:AD) (d:D),z.w=S.w->z.ok=S.ok->(∀b,¬z.M b)->Wf z S1->R d->rd (UO z S1) S1.hp d v->RR (.returned v) S1.w):Calls P g vs S.w RR:=by
 have aa: ∀s,LV P fn.results.toList R s->V0 P fn.results.toList (λs xs=>Rp (hget s.h) R (DB xs)) s:=by
  intro s h;unfold LV at h;cases hx:Aw (Lo P s) fn.results.toList with
  |none=>rw[hx] at h;exact h.elim
  |some xs=>rw[hx] at h;exact⟨xs,hx,h⟩
 refine QS hf hb Z (Q:=λs xs=>Rp (hget s.h) R (DB xs)) (λz a w h1 h2 h3 h4=>wpIn_mono (hk z a w h1 h2 h3 h4) ?_) hW ac ?_
 .intro e a w h;cases e<;>simp only[V5] at h⊢
  .obtain⟨s,C2,g1,g2⟩:=h;exact⟨s,C2,aa s g1,g2⟩
  .obtain⟨s,C2,g1,g2⟩:=h;exact⟨s,C2,aa s g1,g2⟩
 .intro v z S1 s xs g1 g2 g3 g4 g5 g6 g7;have ab:hget s.h=S1.h:=(funext g5).symm;rw[ab] at g6;obtain⟨d,h1,h2⟩:=Qzf g3 g4 g6 g7;exact O v z S1 d g1 g2 g3 g4 h1 h2
end Go.Ae
