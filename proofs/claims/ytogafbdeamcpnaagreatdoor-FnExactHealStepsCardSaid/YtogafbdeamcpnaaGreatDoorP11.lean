/- Lemmas. Conditions: none. -/
import Derived.Test.YtogafbdeamcpnaaGreatDoorP10
import Derived.RangeFuncNested
import Derived.RangeFuncLeaves
import Derived.OrdersIn
set_option linter.all false
set_option maxHeartbeats 8000000
set_option maxRecDepth 100000
namespace Go.Ae
open Go
def Op.calm:Op->Bool
 | .defer _=>false
 |o=> !Go.Ae.Op.comm o
def VZ(ops:Array Oper):Bool:=ops.toList.all λo=>Go.Ae.Op.calm o.op
def nZ{ops:Array Oper}(h:VZ ops=true){i:Nat}{o:Oper}(z:ops[i]? =some o):Go.Ae.Op.calm o.op=true:=by
 unfold VZ at h;rw[Dp] at h;exact h o (AY (by simpa using z))
def wR(ro:Option Nat):Fence:={Fence.wide with round:=ro}
def Hk:Code->Bool
 | .region _ ops _=>VZ ops
 | .seq a b=>Hk a && Hk b
 | .cond _ a b=>Hk a && Hk b
 | .block _ c=>Hk c
 | .loop c=>Hk c
 |_=>true
section
variable {P:Program}{ro:Option Nat}{n:Nat}
def Qlw{o:Oper}{a:Act}{w:World}{next z:Act->World->Prop}{Q:Exit->Act->World->Prop}(hc:Go.Ae.Op.calm o.op=true)(G: ∀a w,next a w->z a w)(h:o.wp P a w next (λ_ _ _=>False)):
 o.wpIn (wR ro) n P a w z Q:=by
 refine⟨λ_ _=>trivial,?_⟩;have e:o.semAt (wR ro).round a.eval=execOp a.eval o:=Oper.semAt_eq _ _ _ (λc O=>by rw[O] at hc;cases hc);rw[e];unfold Oper.wp at h;have aa: ¬LetsOut (λ_ _ _=>False):=λ⟨_,_,h⟩=>h
 cases hr:(execOp a.eval o).run P w with
 |ok x w'=>
  rw[hr] at h;cases x<;>simp only[Oper.upon] at h<;>try exact h.elim
  case value v=>exact G _ _ h
  case skip=>exact G _ _ h
  case defer d=>exact G _ _ h
  case enter f args=>
   refine⟨λhd=>(by cases hd),?_⟩;have h1:CallsIn Fence.wide (n - 1) P f args w' _:=callsIn_wide.2 h;refine (show CallsIn Fence.wide (n - 1) P f args w' _ from CallsIn.mono h1 ?_);intro e w'' Z;cases e with
   |returned v=>exact G _ _ Z
   |panicked c=>exact Z.elim
   |outgrown=>exact (aa Z).elim
  case row row args=>
   refine⟨λhd=>(by cases hd),?_⟩;intro c cs _;obtain⟨v,w'',hR,hs⟩:=h c cs;exact⟨v,w'',G _ _ hR,stepsIn_wide.2 hs⟩
 |halt x w'=>
  rw[hr] at h;cases x<;>simp only[Oper.upon] at h
def uX{ops:Array Oper}(z:VZ ops=true){Q:Exit->Act->World->Prop}: ∀(ls:List Nat) (a:Act) (w:World),K6 P ops (Q .normal) ls a w->wpOpsIn (wR ro) n P ops Q ls a w
 |[],a,w,h=>h
 |i::G,a,w,h=>by
  simp only[K6] at h;simp only[wpOpsIn];cases ho:ops[i]? with
  |none=>rw[ho] at h;exact uX z G a w h
  |some o=>
   rw[ho] at h;simp only at h⊢;split
   .rename_i hw;rw[Ao hw] at h;rcases h with ⟨o',O,_,Z⟩|⟨O,_⟩
    .rw[ho] at O;obtain rfl:=AE O;exact Qlw (nZ z ho) (λa w h=>uX z G a w h) Z
    .have h2:=O o ho;have Z:=nZ z ho;exfalso;cases hop:o.op<;>rw[hop] at h2 Z<;>simp[Op.comm,Op.calm] at h2 Z
   .rename_i hw;rw[Ag hw] at h;exact⟨λ_ _=>trivial,uX z G _ w h⟩
def uW{ops:Array Oper}(z:VZ ops=true){K:Act->World->Prop}{Q:Exit->Act->World->Prop}{l2:List Nat}(hK: ∀a w,K a w->wpOpsIn (wR ro) n P ops Q l2 a w): ∀(ls:List Nat) (a:Act) (w:World),K6 P ops K ls a w->wpOpsIn (wR ro) n P ops Q (ls++l2) a w
 |[],a,w,h=>hK a w h
 |i::G,a,w,h=>by
  simp only[K6] at h;simp only[CX,wpOpsIn];cases ho:ops[i]? with
  |none=>rw[ho] at h;exact uW z hK G a w h
  |some o=>
   rw[ho] at h;simp only at h⊢;split
   .rename_i hw;rw[Ao hw] at h;rcases h with ⟨o',O,_,Z⟩|⟨O,_⟩
    .rw[ho] at O;obtain rfl:=AE O;exact Qlw (nZ z ho) (λa w h=>uW z hK G a w h) Z
    .have h2:=O o ho;have Z:=nZ z ho;exfalso;cases hop:o.op<;>rw[hop] at h2 Z<;>simp[Op.comm,Op.calm] at h2 Z
   .rename_i hw;rw[Ag hw] at h;exact⟨λ_ _=>trivial,uW z hK G _ w h⟩
def uQ{ops:Array Oper}(G:VZ ops=true){Q:Exit->Act->World->Prop}(O: ¬LetsOut Q)(Z: ∀c a w,¬Q (.panic c) a w): ∀(fuel:Nat) (listed:Array Bool) (a:Act) (w:World),wpAny P .any ops Q fuel listed a w->wpAnyIn (wR ro) n P .any ops Q fuel listed a w
 |0,listed,a,w,h=>h
 |fuel+1,listed,a,w,h=>by
  simp only[wpAny] at h;simp only[wpAnyIn];refine⟨h.1,λi hi=> ?_⟩;have z:=h.2 i hi;unfold wpOp at z;unfold wpOpIn;cases ho:ops[i]? with
  |none=>rw[ho] at z;exact uQ G O Z fuel _ a w z
  |some o=>
   rw[ho] at z;simp only at z⊢;split
   .rename_i hw;rw[Ao hw] at z;rcases z with z|z
    .refine Qlw (nZ G ho) (λa w h=>uQ G O Z fuel _ a w h) ?_;unfold Oper.wp at z⊢;cases hr:(execOp a.eval o).run P w with
     |ok x w'=>
      rw[hr] at z;cases x<;>simp only[Oper.upon] at z⊢ <;>try exact z
      refine Calls.mono z ?_;intro e w'' he;cases e with
      |returned v=>exact he
      |panicked c=>exact Z _ _ _ he
      |outgrown=>exact (O he).elim
     |halt x w'=>
      rw[hr] at z;cases x<;>simp only[Oper.upon] at z⊢ <;>try exact z
      exact Z _ _ _ z
    .exact (O z.2).elim
   .rename_i hw;rw[Ag hw] at z;exact⟨λ_ _=>trivial,uQ G O Z fuel _ _ w z⟩
end
section
variable {P:Program}{V:CK}{C:AX}{N n:Nat}{ro:Option Nat}
def Yu{Q:Cb}: ¬LetsOut (FB C N Q):=λ⟨_,_,h⟩=>h
def Pd{Q:Cb}: ∀c a w,¬FB C N Q (.panic c) a w:=λ_ _ _ h=>h
def gP(HM:P.follows .mixedOrders=true)(HV:GI P V): ∀(c:Code),DY N c=true->Hk c=true-> ∀(Q:Cb) (s:Aj) (a:Act) (w:World),CM P V c Q s->B9 C N s a w->c.wpIn (wR ro) n P (FB C N Q) a w:=by
 intro c;induction c with
 |skip=>intro _ _ Q s a w h hc;exact wpIn_skip ⟨s,h,hc⟩
 |region id ops an=>
  intro hk hl Q s a w h hc;simp only[DY,AS] at hk;cases an with
  |true=>exact wpIn_region_any HM (uQ hl Yu Pd _ _ _ _ (Qog HV (λs a w h1 h2=>⟨s,h1,h2⟩) hk.1 (by simpa using hk.2) h hc))
  |false=>
   refine wpIn_region (uX hl _ _ _ ?_)
   have:=Qpr HV (ops:=ops) (Q:=FB C N Q) (λs a w h1 h2=>⟨s,h1,h2⟩) ops.toList [] 0 (by simp) hk.1 s a w h hc
   rwa [E8,<-Zea] at this
 |seq x y ak am=>
  intro hk hl Q s a w h hc;simp only[DY,AS] at hk;simp only[Hk,AS] at hl;simp only[CM] at h;refine wpIn_seq (wpIn_mono (ak hk.1 hl.1 _ s a w h hc) (YE ?_ ?_ ?_))
  .intro s a w Z hc;exact am hk.2 hl.2 Q s a w Z hc
  .intro i s Z;exact Z
  .intro s Z;exact Z
 |cond c x y ak am=>
  intro hk hl Q s a w h hc;simp only[DY,AS] at hk;simp only[Hk,AS] at hl;simp only[CM] at h;obtain⟨S,ao,aj⟩:=hc;have h1:=Qb aj c;cases hv:Aw s.tm c<;>rw[hv] at h<;>try exact h.elim
  rename_i d;cases d<;>try exact h.elim
  rename_i b;rw[hv] at h1;simp only[Aa,rd] at h1;simp only[qQ] at h;refine wpIn_cond_split h1 (λhb=>ak hk.1 hl.1 Q s a w (h.1 hb) ⟨S,ao,aj⟩) (λhb=>am hk.2 hl.2 Q s a w (h.2 hb) ⟨S,ao,aj⟩)
 |block id c ih=>
  intro hk hl Q s a w h hc;simp only[CM] at h;refine wpIn_block (wpIn_mono (ih hk hl _ s a w h hc) ?_);intro e a w he;cases e<;>simp only[FB] at he<;>simp only[Exit.inBlock,FB]
  .exact he
  .rename_i i;obtain⟨s,Z,hc⟩:=he;simp only[iP] at Z;by_cases hi:i=id
   .subst hi;rw[Ao rfl];exact⟨s,by simpa[I2] using Z,hc⟩
   .rw[Ag hi]
    have:(i==id)=false:=by simpa using hi
    rw[this] at Z;exact⟨s,Z,hc⟩
  .exact he
 |loop c ih=>
  intro hk hl Q s a w h hc;have ai: ∀(s:Aj),YI (CM P V c) Q s->B9 C N s a w->(Code.loop c).wpIn (wR ro) n P (FB C N Q) a w:=by
   clear h hc;intro s h hc;simp only[YI] at h;obtain⟨β,I,μ,z,⟨b0,ad⟩,G⟩:=h
   let p:Act->World->Nat->Prop:=λa w n=> ∃b,B9 C N (I b) a w/\μ b=n
   let μ':Act->World->Nat:=λa w=>Classical.epsilon λn=>p a w n/\ ∀k,k<n-> ¬p a w k
   have hμ: ∀a w b,B9 C N (I b) a w->p a w (μ' a w)/\ ∀k,k<μ' a w-> ¬p a w k:=by
    intro a w b hb;exact iU (p:=λn=>p a w n/\ ∀k,k<n-> ¬p a w k) (MU (μ b) ⟨b,hb,rfl⟩)
   have ab: ∀b,C.n0<=(I b).nx:=by
    intro b;obtain⟨S,_,h⟩:=hc;exact Dt h.n0 (z b).2
   refine wpIn_loop (λa w=> ∃b,B9 C N (I b) a w) μ' ⟨b0,iK hc ad (z b0).1 (ab b0)⟩ ?_;rintro a w ⟨b,hb⟩;obtain⟨⟨b1,af,au⟩,_⟩:=hμ a w b hb;refine wpIn_mono (ih hk hl _ _ a w (G b1) af) (YE ?_ ?_ ?_)
   .rintro s' a' w' ⟨b',aq,ac⟩ ag;have O:=iK ag ac (z b').1 (ab b');refine⟨⟨b',O⟩,?_⟩;obtain⟨_,aa⟩:=hμ a' w' b' O;rcases EO (μ b') (μ' a' w') with h1|h1
    .exact absurd ⟨b',O,rfl⟩ (aa _ h1)
    .omega
   .intro i s Z;exact Z
   .intro s Z;exact Z
  simp only[CM,AR] at h;rcases h with h|h|⟨F,h⟩|h
  .exact ai s h hc
  .simp only[xK] at h;obtain⟨β,I,μ,z,⟨b0,π0,ad⟩,G⟩:=h
   let p:Act->World->Nat->Prop:=λa w n=> ∃b,B9 C N (I b) a w/\μ b=n
   let μ':Act->World->Nat:=λa w=>Classical.epsilon λn=>p a w n/\ ∀k,k<n-> ¬p a w k
   have hμ: ∀a w b,B9 C N (I b) a w->p a w (μ' a w)/\ ∀k,k<μ' a w-> ¬p a w k:=by
    intro a w b hb;exact iU (p:=λn=>p a w n/\ ∀k,k<n-> ¬p a w k) (MU (μ b) ⟨b,hb,rfl⟩)
   have ah:C.n0<=s.nx:=by
    obtain⟨S,_,h⟩:=hc;exact h.n0
   have ab: ∀b,C.n0<=(I b).nx:=by
    intro b;obtain⟨S,_,h⟩:=hc;exact Dt h.n0 (z b).2
   refine wpIn_loop (λa w=> ∃b,B9 C N (I b) a w) μ' ⟨b0,Qe hc ad (z b0).1 ah (ab b0)⟩ ?_;rintro a w ⟨b,hb⟩;obtain⟨⟨b1,af,au⟩,_⟩:=hμ a w b hb;refine wpIn_mono (ih hk hl _ _ a w (G b1) af) (YE ?_ ?_ ?_)
   .rintro s' a' w' ⟨b',π,aq,ac⟩ ag;have O:=Qe ag ac (z b').1 ah (ab b');refine⟨⟨b',O⟩,?_⟩;obtain⟨_,aa⟩:=hμ a' w' b' O;rcases EO (μ b') (μ' a' w') with h1|h1
    .exact absurd ⟨b',O,rfl⟩ (aa _ h1)
    .omega
   .intro i s Z;exact Z
   .intro s Z;exact Z
  .exact ai _ h (Qxl F hc)
  .simp only[xI] at h;obtain⟨β,I,μ,z,⟨b0,F0,π0,ad⟩,G⟩:=h
   let p:Act->World->Nat->Prop:=λa w n=> ∃b,B9 C N (I b) a w/\μ b=n
   let μ':Act->World->Nat:=λa w=>Classical.epsilon λn=>p a w n/\ ∀k,k<n-> ¬p a w k
   have hμ: ∀a w b,B9 C N (I b) a w->p a w (μ' a w)/\ ∀k,k<μ' a w-> ¬p a w k:=by
    intro a w b hb;exact iU (p:=λn=>p a w n/\ ∀k,k<n-> ¬p a w k) (MU (μ b) ⟨b,hb,rfl⟩)
   have ah:C.n0<=s.nx:=by
    obtain⟨S,_,h⟩:=hc;exact h.n0
   have ab: ∀b,C.n0<=(I b).nx:=by
    intro b;obtain⟨S,_,h⟩:=hc;exact Dt h.n0 (z b).2
   refine wpIn_loop (λa w=> ∃b,B9 C N (I b) a w) μ' ⟨b0,Qe (pY F0 hc) ad (z b0).1 ah (ab b0)⟩ ?_;rintro a w ⟨b,hb⟩;obtain⟨⟨b1,af,au⟩,_⟩:=hμ a w b hb;refine wpIn_mono (ih hk hl _ _ a w (G b1) af) (YE ?_ ?_ ?_)
   .rintro s' a' w' ⟨b',F,π,aq,ac⟩ ag;have O:=Qe (pY F ag) ac (z b').1 ah (ab b');refine⟨⟨b',O⟩,?_⟩;obtain⟨_,aa⟩:=hμ a' w' b' O;rcases EO (μ b') (μ' a' w') with h1|h1
    .exact absurd ⟨b',O,rfl⟩ (aa _ h1)
    .omega
   .intro i s Z;exact Z
   .intro s Z;exact Z
 |exit id=>intro _ _ Q s a w h hc;exact wpIn_exit ⟨s,h,hc⟩
 |ret=>intro _ _ Q s a w h hc;exact wpIn_ret ⟨s,h,hc⟩
 |_=>intro hk;simp[DY] at hk
end
def EF(S:Ay)(b:Nat):Prop:= ∃o e z,S.h o=some e/\e.1=true/\S.ρ o=some z/\z.b=b
def PG(S:Ay)(b:Nat):Prop:= ∃o e z,S.h o=some e/\S.ρ o=some z/\z.b=b
def FV(S:Ay)(n0:Nat)(ds:List Deferred):AX:=⟨S.w,EF S,S.ok,n0,S.h,S.ρ,ds⟩
def VX{C:AX}{S:Ay}(h:Wf C S){b:Nat}(hb:EF S b):b<S.w.heap.size/\ ¬S.ok b/\(C.w.heap.size<=b\/C.M b):=by
 obtain⟨o,e,Z,G,O,Q,rfl⟩:=hb;obtain⟨q1,z⟩:=h.loc o e Z G Q;rw[O] at z;simp only[BI] at z;exact⟨q1,z.1,z.2⟩
def Ti{C:AX}{S:Ay}(h:Wf C S)(n0:Nat)(ds:List Deferred):Wf (FV S n0 ds) S:=by
 refine⟨rfl,rfl,rfl,AN _,λ_ _ _=>rfl,λ_ h=>h,λ_ h=> .inl h,h.oks,h.obj,λo e l G O=> ?_,h.inj,h.glN λ_ hb=>(VX h hb).2.1⟩;obtain⟨q1,z⟩:=h.loc o e l G O;refine⟨q1,?_⟩;cases hm:e.1 with
 |true=>
  rw[hm] at z;simp only[BI] at z⊢;exact⟨z.1,.inr ⟨o,e,l,G,hm,O,rfl⟩⟩
 |false=>rw[hm] at z;simpa using z
def XG{C:AX}{N:Nat}{s:Aj}{S:Ay}{a:Act}(h:C5 C N s S a):C5 (FV S s.nx a.defers) N s S a:=
 ⟨Ti h.wf _ _,h.h,h.tm,h.nmT,h.nmH,h.size,rfl,AN _,λ_ _ e' z=>⟨e',z,rfl,rfl,rfl⟩⟩
def Qrn{C:AX}{S S':Ay}{n0:Nat}{ds:List Deferred}(hW:Wf C S)(h:Wf (FV S n0 ds) S'):Wf C S':=by
 have G:C.w.heap.size<=S.w.heap.size:=hW.size;have O:S.w.heap.size<=S'.w.heap.size:=h.size;refine⟨h.os.trans hW.os,h.tape.trans hW.tape,h.output.trans hW.output,Dt G O,λb hb Q=> ?_,λb hb=>h.ok0 b (hW.ok0 b hb),λb hb=> ?_,h.oks,h.obj,λo e l Z h2=> ?_,h.inj,hW.gl⟩
 .refine (h.keep b (FL hb G) (λho=> ?_)).trans (hW.keep b hb Q);rcases (VX hW ho).2.2 with q|q
  .omega
  .exact Q q
 .rcases h.ok1 b hb with q|q|q
  .exact hW.ok1 b q
  .exact .inr (.inl (Dt G q))
  .exact .inr (VX hW q).2.2
 .obtain⟨q1,z⟩:=h.loc o e l Z h2;refine⟨q1,?_⟩;cases hm:e.1 with
  |true=>
   rw[hm] at z;simp only[BI] at z⊢;refine⟨z.1,?_⟩;rcases z.2 with q|q
   .exact .inl (Dt G q)
   .exact (VX hW q).2.2
  |false=>rw[hm] at z;simpa using z
def YA{S S':Ay}{n0:Nat}{ds:List Deferred}(h:Wf (FV S n0 ds) S'): ∀b,b<S.w.heap.size-> ¬EF S b->S'.w.heap[b]? =S.w.heap[b]? :=h.keep
def iE{S S':Ay}{n0:Nat}{ds:List Deferred}(h:Wf (FV S n0 ds) S'){b:Nat}(hb:EF S' b):S.w.heap.size<=b\/EF S b:=(VX h hb).2.2
def YN{S S':Ay}{n0:Nat}{ds:List Deferred}(h:Wf (FV S n0 ds) S'){b:Nat}(hb:S'.ok b):S.ok b\/S.w.heap.size<=b\/EF S b:=h.ok1 b hb
structure Qt(S:Ay)(W':World):Prop where
 size:S.w.heap.size<=W'.heap.size
 os:W'.os=S.w.os
 tape:W'.tape=S.w.tape
 output:W'.output=S.w.output
 ok: ∀b,S.ok b->W'.heap[b]? =S.w.heap[b]?
 nm: ∀b,PG S b->W'.heap[b]? =S.w.heap[b]?
def nY{S:Ay}{W':World}(h:Qt S W')(X:Nat->Prop):Bx X S {S with w:=W'}:=⟨λb hb=>⟨hb,h.ok b hb⟩,λ_ _ e' z=>⟨e',z,rfl,rfl,rfl⟩⟩
def Pm{C:AX}{S:Ay}{W':World}(hW:Wf C S)(h:Qt S W'):GP S.ok (λb=>W'.heap[b]?):=hW.gp.mono λb _ hb z=>⟨hb,(h.ok b hb).trans z⟩
def pE{C:AX}{S:Ay}{W':World}(hW:Wf C S)(h:Qt S W')(hk: ∀b,b<C.w.heap.size-> ¬C.M b->W'.heap[b]? =S.w.heap[b]?):Wf C {S with w:=W'}:=by
 refine⟨h.os.trans hW.os,h.tape.trans hW.tape,h.output.trans hW.output,Dt hW.size h.size,λb hb G=>(hk b hb G).trans (hW.keep b hb G),hW.ok0,hW.ok1,λb hb=>FL (hW.oks b hb) h.size,λo e O=> ?_,λo e l Z h2=> ?_,hW.inj,hW.gl⟩
 .exact H8 (nY h λ_=>True) (λQ z=>h.nm Q.b ⟨o,e,Q,O,z,rfl⟩) e.2 (λ_ _=>trivial) (hW.obj o e O)
 .obtain⟨q1,q2⟩:=hW.loc o e l Z h2;exact⟨FL q1 h.size,q2⟩
def Qul{C:AX}{N:Nat}{s:Aj}{S:Ay}{a:Act}{W':World}(hc:C5 C N s S a)(h:Qt S W')(z: ∀b,b<C.w.heap.size-> ¬C.M b->W'.heap[b]? =S.w.heap[b]?):C5 C N s {S with w:=W'} a:=
 ⟨pE hc.wf h z,hc.h,λt=>H9 (nY h λ_=>True) _ _ (λ_ _=>trivial) (hc.tm t),hc.nmT,hc.nmH,hc.size,hc.defers,hc.n0,hc.pre⟩
def vR{S:Ay}{l:Nat}{o:Obj}(z: ¬S.ok l)(G: ¬PG S l):Qt S (S.w.putObj l o):=by
 refine⟨by simp,rfl,rfl,rfl,λb hb=> ?_,λb hb=> ?_⟩
 .exact World.putObj_heap_other (λe=>z (e▸hb))
 .exact World.putObj_heap_other (λe=>G (e▸hb))
structure HZ(ok0:Nat->Prop)(Pr:Nat->Prop)(W:World)(Pr':Nat->Prop)(W':World):Prop where
 size:W.heap.size<=W'.heap.size
 os:W'.os=W.os
 tape:W'.tape=W.tape
 output:W'.output=W.output
 pr: ∀b,Pr' b->Pr b\/W.heap.size<=b
 same: ∀b,b<W.heap.size->(¬Pr b\/ok0 b)->W'.heap[b]? =W.heap[b]?
def Ns{ι:Type}(base:Nat)(J:ι->(Nat->Prop)->World->Prop):Prop:=
 ∀i Pr W,J i Pr W->(∀b,Pr b->b<W.heap.size)/\ ∀W',W.heap.size<=W'.heap.size->W'.os=W.os->W'.tape=W.tape->W'.output=W.output->(∀b,Pr b\/b<base->W'.heap[b]? =W.heap[b]?)->J i Pr W'
structure jV where
 I:Type
 i0:I
 step:I->List D->I->Prop
 fin:I->Prop
def Kq(P:Program)(gf:Nat)(capt:List D)(X:jV):Prop:=
 ∀(C:AX) (S:Ay) (vs:Array Value) (l:Nat) (J:X.I->(Nat->Prop)->World->Prop),Wf C S->rdl S.ok S.hp capt vs.toList->Ns S.w.heap.size J->
  (∀i x j args Pr W,X.step i x j->(∀ok hp,rdl ok hp x args.toList)->J i Pr W->YieldAt Fence.wide 0 P l args W λe W'=>e= .returned (.bool true)/\ ∃Pr',J j Pr' W'/\HZ S.ok Pr W Pr' W')->
  (∃Pr,J X.i0 Pr S.w)->Calls P gf (#[.func (.yield l) #[] #[]]++vs) S.w λe W'=> ∃v Pr i,e= .returned v/\X.fin i/\J i Pr W'
def eG(xs:List (List D)):jV:=⟨Nat,0,λi x j=>xs[i]? =some x/\j=i+1,λi=>i=xs.length⟩
def Jp(P:Program)(gf:Nat)(capt:List D)(xs:List (List D)):Prop:=Kq P gf capt (eG xs)
def EY:List Tmp->List D->List (Nat×AV)->List (Nat×AV)
 |t::ts,d::ds,tm=>EY ts ds ((t,.im d)::tm)
 |[],_,tm=>tm
 |_::_,[],tm=>tm
def Fz:List Tmp->List Value->Array Value->Array Value
 |t::ts,v::z,A=>Fz ts z (A.setIfInBounds t v)
 |[],_,A=>A
 |_::_,[],A=>A
def X8(ps:Array Tmp)(args:Array Value)(A:Array Value):(ps.zip args).foldl (λz (t,a)=>z.setIfInBounds t a) A=Fz ps.toList args.toList A:=by
 rw[<-Array.foldl_toList,Array.toList_zip];generalize ps.toList=l;generalize args.toList=m;induction l generalizing m A with
 |nil=>simp[Fz]
 |cons t ts ih=>
  cases m with
  |nil=>simp[Fz]
  |cons v G=>simp only[List.zip_cons_cons,jG,Fz];exact ih _ _
def Qv4: ∀(ts:List Tmp) (vs:List Value) (A:Array Value),(Fz ts vs A).size=A.size
 |t::ts,v::vs,A=>by simp only[Fz,Qv4 ts vs,ZdJ]
 |[],_,A=>rfl
 |_::_,[],A=>rfl
def Qv1{S:Ay}: ∀(ts:List Tmp) (ds:List D) (vs:List Value) (tm:List (Nat×AV)) (A:Array Value),rdl S.ok S.hp ds vs->(∀t∈ts,t<A.size)->(∀t,Aa S (AD tm t) (A.getD t undef))->
 ∀t,Aa S (AD (EY ts ds tm) t) ((Fz ts vs A).getD t undef)
 |G::ts,d::ds,vs,tm,A,z,Q,hc=>by
  simp only[rdl] at z;obtain⟨v,r,rfl,Z,h2⟩:=z;simp only[EY,Fz];refine Qv1 ts ds r _ _ h2 (λt ht=>by rw[ZdJ];exact Q t (BR _ ht)) (λt=> ?_);have O:=Q G (BM ..);simp only[AD];by_cases h:G=t
  .subst h;simp[O,Aa];exact Z
  .have:(G==t)=false:=by simpa using h
   rw[this];simp only[B8];have e:(A.setIfInBounds G v).getD t undef=A.getD t undef:=by
    simp only[Ho];rw[Array.getElem?_setIfInBounds_ne h]
   rw[e];exact hc t
 |[],_,_,tm,A,_,_,hc=>λt=>by simpa only[EY,Fz] using hc t
 |_::_,[],vs,tm,A,z,_,hc=>λt=>by
  simp only[rdl] at z;subst z;simpa only[EY,Fz] using hc t
def Qy1{n:Nat}: ∀(ts:List Tmp) (ds:List D) (tm:List (Nat×AV)),(∀t,∀m∈(AD tm t).nms,m<n)-> ∀t,∀m∈(AD (EY ts ds tm) t).nms,m<n
 |G::ts,d::ds,tm,h=>by
  simp only[EY];refine Qy1 ts ds _ (λt m z=> ?_);simp only[AD] at z;cases hq:G==t<;>rw[hq] at z
  .exact h t m z
  .simp[AV.nms] at z
 |[],_,tm,h=>h
 |_::_,[],tm,h=>h
def oX{C:AX}{S:Ay}(hW:Wf C S){b:Nat}(hb:PG S b):(∀r,S.w.heap[b]? ≠some (.loop r))/\ ∀d,S.w.heap[b]? ≠some (.deferred d):=by
 obtain⟨o,e,O,Z,h2,rfl⟩:=hb;have h:=hW.obj o e Z;rw[h2] at h;have hp:S.hp O.b=S.w.heap[O.b]? :=rfl;obtain⟨mu,ob⟩:=e;cases ob<;>simp only[Au] at h
 case cells T cs=>obtain⟨l',G,q1,_,z,_⟩:=h;cases q1;rw[<-hp,z];simp
 case arr T k rows=>obtain⟨_,_,G,z,_⟩:=h;rw[<-hp,z];simp
 case arrA T k rows=>obtain⟨_,_,G,z,_⟩:=h;rw[<-hp,z];simp
 case map kt es=>obtain⟨l',Q,cl,q1,_,z,_⟩:=h;cases q1;rw[<-hp,z];simp
 case chan q cap=>obtain⟨l',bu,se,rc,q1,z,_⟩:=h;cases q1;rw[<-hp,z];simp
 case iter la le=>obtain⟨l',mb,Q,cl,se,q1,_,_,_,z,_⟩:=h;cases q1;rw[<-hp,z];simp
 case view cs=>obtain⟨l',G,T,fr,q1,z,_⟩:=h;cases q1;rw[<-hp,z];simp
def Qh{S:Ay}{b:Nat}(h:EF S b):PG S b:=by
 obtain⟨o,e,Q,z,_,G,O⟩:=h;exact⟨o,e,Q,z,G,O⟩
def qD{C:AX}{N:Nat}{s:Aj}{S:Ay}{a:Act}{W':World}(hc:C5 C N s S a)(h:Qt S W')(n0:Nat)(hn:n0<=s.nx)(a':Act)(ds:List Deferred)(hd:a'.defers=ds)(ha:a'.tmps=a.tmps):
 C5 (FV {S with w:=W'} n0 ds) N s {S with w:=W'} a':=by
 have hW:=hc.wf;refine⟨⟨rfl,rfl,rfl,AN _,λ_ _ _=>rfl,λ_ h=>h,λ_ h=> .inl h,λb hb=>FL (hW.oks b hb) h.size,λo e he=> ?_,λo e l Q Z=> ?_,hW.inj,(Pm hW h).mono λb o hb ho=>⟨⟨hb,λhM=>(VX hW hM).2.1 hb⟩,ho⟩⟩,hc.h,λt=> ?_,hc.nmT,hc.nmH,by rw[ha];exact hc.size,hd,hn,λ_ _ e' G=>⟨e',G,rfl,rfl,rfl⟩⟩
 .exact H8 (nY h λ_=>True) (λlc O=>h.nm lc.b ⟨o,e,lc,he,O,rfl⟩) e.2 (λ_ _=>trivial) (hW.obj o e he)
 .obtain⟨q1,z⟩:=hW.loc o e l Q Z;refine⟨FL q1 h.size,?_⟩;cases hm:e.1 with
  |true=>
   rw[hm] at z;simp only[BI] at z⊢;exact⟨z.1,.inr ⟨o,e,l,Q,hm,Z,rfl⟩⟩
  |false=>rw[hm] at z;simpa using z
 .have e:a'.eval (.tmp t)=a.eval (.tmp t):=by simp only[Act.eval,ha]
  rw[e];exact H9 (nY h λ_=>True) _ _ (λ_ _=>trivial) (hc.tm t)
def Qxm{C:AX}{S:Ay}{W':World}(hW:Wf C S)(hs:S.w.heap.size<=W'.heap.size)(z:W'.os=S.w.os)(G:W'.tape=S.w.tape)(O:W'.output=S.w.output)(hb: ∀b,b<S.w.heap.size->W'.heap[b]? =S.w.heap[b]?):Qt S W':=
 ⟨hs,z,G,O,λb h=>hb b (hW.oks b h),λb ⟨o,e,Q,q1,Z,q3⟩=>hb b (q3▸(hW.loc o e Q q1 Z).1)⟩
def Ty(lo nx:Nat)(h':Ap):Cb
 | .normal,z=> ∃π,A8 lo π z ⟨[],h',nx⟩
 | .exit _,_=>False
 | .ret,_=>False
def NA(P:Program)(V:CK)(body:Code)(Q:Cb):Cb
 | .normal,z=>CM P V body Q z
 | .exit _,_=>False
 | .ret,_=>False
def XK(C:AX)(N:Nat)(s:Aj)(O:Act):Exit->Act->World->Prop
 | .normal,a',w'=> ∃z G D,G.w=w'/\C5 z N s G a'/\(∀S',Wf z S'->Wf C S')/\a'.tmps=O.tmps/\a'.defers={target:= .collected D,args:= #[]}::O.defers/\
  D<z.w.heap.size/\ ¬z.M D/\ ¬z.ok D/\C.w.heap.size<=D/\z.w.heap[D]? =some (.deferred (some []))
 |_,_,_=>False
section
variable {P:Program}{V:CK}{N:Nat}
def Tz{ι:Type}(C:AX)(N:Nat)(st:ι->Aj)(a:Act)(ok0:Nat->Prop)(Dk l:Nat)(rc:Loop)(i:ι)(Pr:Nat->Prop)(W:World):Prop:=
 ∃S,S.w=W/\C5 C N (st i) S a/\(∀b,Pr b↔(PG S b\/S.ok b\/b=l\/b=Dk))/\(∀b,ok0 b->S.ok b)/\W.heap[l]? =some (.loop rc)/\W.heap[Dk]? =some (.deferred (some []))/\ ¬S.ok l/\ ¬S.ok Dk
def zY{ι:Type}{C:AX}{st:ι->Aj}{a:Act}{ok0:Nat->Prop}{Dk l:Nat}{rc:Loop}{base:Nat}(hb:C.w.heap.size<=base):Ns base (Tz C N st a ok0 Dk l rc):=by
 rintro i Pr W ⟨S,rfl,O,z,Z,hl,hD,nl,nD⟩;refine⟨λb Q=> ?_,λW' h1 h2 h3 h4 G=> ?_⟩
 .rcases (z b).1 Q with ⟨o,e,lc,q1,q2,rfl⟩|q|rfl|rfl
  .exact (O.wf.loc o e lc q1 q2).1
  .exact O.wf.oks b q
  .exact (Qy.1 hl).1
  .exact (Qy.1 hD).1
 .have hm:Qt S W':=⟨h1,h2,h3,h4,λb hb=>G b (.inl ((z b).2 (.inr (.inl hb)))),λb hb=>G b (.inl ((z b).2 (.inl hb)))⟩;refine⟨{S with w:=W'},rfl,Qul O hm (λb aa _=>G b (.inr (by omega))),z,Z,?_,?_,nl,nD⟩
  .rw[G l (.inl ((z l).2 (.inr (.inr (.inl rfl)))))];exact hl
  .rw[G Dk (.inl ((z Dk).2 (.inr (.inr (.inr rfl)))))];exact hD
def T5{ι:Type}(HM:P.follows .mixedOrders=true)(HV:GI P V){C:AX}{st:ι->Aj}{a:Act}{ok0:Nat->Prop}{Dk l:Nat}{tm0:List (Nat×AV)}{hs:ι->Ap}{lo nx:Nat}{fn:FuncId}{ps:Array Tmp}{assign body:Code}{i j:ι}{x:List D}
 (ax: ∀i,st i=⟨tm0,hs i,nx⟩)(bf:C.n0<=lo)(an:lo<=nx)(a8:An lo tm0=true)(hg:Aj.good ⟨[],hs j,nx⟩=true)(cf: ∀o e,hget (hs j) o=some e->e.2.isView=true->o<lo)(be:l≠Dk)(co:C.w.heap.size<=l)
 (b0:DY N assign=true)(a9:Hk assign=true)(b8:DY N body=true)(ba:Hk body=true)(ce: ∀t∈ps.toList,t<N)(cr:x.length=ps.size)
 (ao:CM P V assign (NA P V body (Ty lo nx (hs j))) ⟨EY ps.toList x tm0,hs i,nx⟩)
 {args:Array Value}{Pr:Nat->Prop}{W:World}(af: ∀ok hp,rdl ok hp x args.toList)
 (hJ:Tz C N st a ok0 Dk l {state:= .ready,pending:=none,fn,tmps:=a.tmps,params:=ps,assign,body,defers:=Dk} i Pr W):
 YieldAt Fence.wide 0 P l args W λe W'=>e= .returned (.bool true)/\ ∃Pr',Tz C N st a ok0 Dk l {state:= .ready,pending:=none,fn,tmps:=a.tmps,params:=ps,assign,body,defers:=Dk} j Pr' W'/\HZ ok0 Pr W Pr' W':=by
 obtain⟨S,rfl,O,aa,aw,hl,hD,nl,nD⟩:=hJ;have bz:args.size=ps.size:=by
  have:=cC _ _ (af S.ok S.hp)
  simp at this;omega
 refine⟨fn,_,assign,body,run_yield hl bz,roundIn_of_wpIn trivial ?_⟩;simp only[X8];have kl: ∀{C':AX} {S':Ay},Wf C' S'->(∃r,S'.w.heap[l]? =some (.loop r))-> ¬PG S' l:=λhW ⟨r,hr⟩ hn=>(oX hW hn).1 r hr
 have kD: ∀{C':AX} {S':Ay},Wf C' S'->(S'.w.heap[Dk]? =some (.deferred (some [])))-> ¬PG S' Dk:=λhW hr hn=>(oX hW hn).2 _ hr
 have b9:l<S.w.heap.size:=(Qy.1 hl).1;have bt:Dk<S.w.heap.size:=(Qy.1 hD).1;have bu:C5 (FV S lo []) N ⟨EY ps.toList x tm0,hs i,nx⟩ S {tmps:=Fz ps.toList args.toList a.tmps,defers:=[]}:=by
  have hh:=O.h;have ht:=O.tm;have hm:=O.nmH;have bi:=O.nmT;rw[ax i] at hh ht hm bi;refine⟨Ti O.wf _ _,hh,λt=> ?_,Qy1 _ _ _ bi,hm,?_,rfl,an,λ_ _ e' ac=>⟨e',ac,rfl,rfl,rfl⟩⟩
  .exact Qv1 _ _ _ _ _ (af _ _) (λt ht=>by rw[O.size];exact ce t ht) ht t
  .rw[Qv4];exact O.size
 refine wpIn_mono (gP (ro:=some l) HM HV assign b0 a9 _ _ _ _ ao ⟨S,rfl,bu⟩) ?_;intro e a1 w1 hq;cases e<;>simp only[FB] at hq<;>simp only[Exit.then]
 case exit id=>obtain⟨_,h,_⟩:=hq;exact h.elim
 case ret=>obtain⟨_,h,_⟩:=hq;exact h.elim
 obtain⟨s1,bj,S1,rfl,z⟩:=hq;simp only[NA] at bj;have cp:S.w.heap.size<=S1.w.heap.size:=z.wf.size;have bc:S1.w.heap[l]? =_:=(YA z.wf l b9 (λQ=>kl O.wf ⟨_,hl⟩ (Qh Q))).trans hl;have bq:S1.w.heap[Dk]? =_:=(YA z.wf Dk bt (λQ=>kD O.wf hD (Qh Q))).trans hD;have bm: ¬S1.ok l:=λh=>by
  rcases YN z.wf h with q|q|q
  .exact nl q
  .omega
  .exact kl O.wf ⟨_,hl⟩ (Qh q)
 have cg: ¬S1.ok Dk:=λh=>by
  rcases YN z.wf h with q|q|q
  .exact nD q
  .omega
  .exact kD O.wf hD (Qh q)
 refine⟨_,run_beginRound bc rfl,?_⟩;obtain⟨ob,hob⟩: ∃ob,ob=Obj.loop {({state:= .ready,pending:=none,fn,tmps:=a.tmps,params:=ps,assign,body,defers:=Dk}:Loop) with state:= .busy}:=⟨_,rfl⟩;rw[<-hob];obtain⟨S2,hS2⟩: ∃S2:Ay,S2={S1 with w:=S1.w.putObj l ob}:=⟨_,rfl⟩;have bh:=vR (S:=S1) (o:=ob) bm (kl z.wf ⟨_,bc⟩);have bg:lo<=s1.nx:=z.n0;have ah:C5 (FV S2 lo []) N s1 S2 a1:=by
  rw[hS2];exact qD z bh lo bg a1 [] z.defers rfl
 have aj:S2.w=S1.w.putObj l ob:=by rw[hS2]
 have cm:S2.w.heap.size=S1.w.heap.size:=by rw[aj,World.putObj_size]
 have av:S2.w.heap[l]? =some ob:=by rw[aj];exact World.putObj_heap_same (by omega)
 have au:S2.w.heap[Dk]? =some (.deferred (some [])):=by rw[aj,World.putObj_heap_other be.symm];exact bq
 rw[<-aj];refine wpIn_mono (gP (ro:=some l) HM HV body b8 ba _ _ _ _ bj ⟨S2,rfl,ah⟩) ?_;intro e a2 w2 hq;cases e<;>simp only[FB] at hq<;>simp only[roundPost]
 case exit id=>obtain⟨_,h,_⟩:=hq;exact h.elim
 case ret=>obtain⟨_,h,_⟩:=hq;exact h.elim
 obtain⟨s2,⟨π,bl⟩,bb⟩:=hq;obtain⟨S3,rfl,G⟩:=Qe bb bl hg (AN _) an;have bd:S3.w.heap[l]? =_:=(YA G.wf l (by omega) (λQ=>kl ah.wf ⟨_,by rw[av,hob]⟩ (Qh Q))).trans (av.trans (by rw[hob]));have br:S3.w.heap[Dk]? =_:=(YA G.wf Dk (by omega) (λQ=>kD ah.wf au (Qh Q))).trans au;have cq:S2.w.heap.size<=S3.w.heap.size:=G.wf.size;refine⟨_,_,run_endRound none bd,rfl,?_⟩;change ∃Pr',Tz C N st a ok0 Dk l ({state:= .ready,pending:=none,fn,tmps:=a.tmps,params:=ps,assign,body,defers:=Dk}:Loop) j Pr' (S3.w.putObj l (.loop ({state:= .ready,pending:=none,fn,tmps:=a.tmps,params:=ps,assign,body,defers:=Dk}:Loop)))/\HZ ok0 Pr S.w Pr' (S3.w.putObj l (.loop ({state:= .ready,pending:=none,fn,tmps:=a.tmps,params:=ps,assign,body,defers:=Dk}:Loop)));obtain⟨rc,hrc⟩: ∃rc:Loop,rc=({state:= .ready,pending:=none,fn,tmps:=a.tmps,params:=ps,assign,body,defers:=Dk}:Loop):=⟨_,rfl⟩;rw[<-hrc];have az: ∀b,EF S2 b->EF S1 b:=λb h=>by rw[hS2] at h;exact h
 have aq: ∀b,S2.ok b↔S1.ok b:=λb=>by rw[hS2]
 have bn: ¬S3.ok l:=λh=>by
  rcases YN G.wf h with q|q|q
  .exact bm ((aq l).1 q)
  .omega
  .exact kl ah.wf ⟨_,by rw[av,hob]⟩ (Qh q)
 have ci: ¬S3.ok Dk:=λh=>by
  rcases YN G.wf h with q|q|q
  .exact cg ((aq Dk).1 q)
  .omega
  .exact kD ah.wf au (Qh q)
 have cb:=vR (S:=S3) (o:= .loop rc) bn (kl G.wf ⟨_,bd⟩);have bv:Wf C S1:=Qrn O.wf z.wf;have bw:Wf C S2:=by rw[hS2];exact pE bv bh (λb hb _=>World.putObj_heap_other (by omega))
 have bx:Wf C S3:=Qrn bw G.wf;obtain⟨Z,hS4⟩: ∃Z:Ay,Z={S3 with w:=S3.w.putObj l (.loop rc)}:=⟨_,rfl⟩;have ad:Wf C Z:=by rw[hS4];exact pE bx cb (λb hb _=>World.putObj_heap_other (by omega))
 have ak:Z.w=S3.w.putObj l (.loop rc):=by rw[hS4]
 have am:Z.h=S3.h:=by rw[hS4]
 have hρ4:Z.ρ=S3.ρ:=by rw[hS4]
 have ab:Z.ok=S3.ok:=by rw[hS4]
 have cn:Z.w.heap.size=S3.w.heap.size:=by rw[ak,World.putObj_size]
 rw[<-ak];have ag: ∀b,b<S.w.heap.size-> ¬EF S b->b≠l->Z.w.heap[b]? =S.w.heap[b]? :=by
  intro b hb Q a0;rw[ak,World.putObj_heap_other a0,YA G.wf b (by omega) (λh=> ?_),aj,World.putObj_heap_other a0,YA z.wf b hb Q];rcases iE z.wf (az b h) with q|q
  .omega
  .exact Q q
 have bp: ∀b,S.ok b->Z.ok b/\Z.hp b=S.hp b:=by
  intro b hb;refine⟨by rw[ab];exact G.wf.ok0 b ((aq b).2 (z.wf.ok0 b hb)),ag b (O.wf.oks b hb) (λh=>(VX O.wf h).2.1 hb) (λh=>nl (h▸hb))⟩
 have ay: ∀o,o<lo-> ∀e',Z.h o=some e'-> ∃e,S.h o=some e/\Z.ρ o=S.ρ o/\e'.2.esz=e.2.esz/\e'.2.len=e.2.len:=by
  intro o Q e' ac;rw[am] at ac;obtain⟨e,q1,q2,q3,q4⟩:=G.pre o Q e' ac
  have cj:S1.h o=some e:=by have:S2.h=S1.h:=by rw[hS2]
                            rw[<-this];exact q1
  obtain⟨e0,r1,r2,r3,r4⟩:=z.pre o Q e cj
  have ck:S3.ρ o=S1.ρ o:=by have:S2.ρ=S1.ρ:=by rw[hS2]
                            rw[<-this];exact q2
  exact⟨e0,r1,by rw[hρ4];exact ck.trans r2,q3.trans r3,q4.trans r4⟩
 have bo: ∀b,Z.ok b->S.ok b\/S.w.heap.size<=b\/EF S b:=by
  intro b hb;rw[ab] at hb;rcases YN G.wf hb with q|q|q
  .exact YN z.wf ((aq b).1 q)
  .exact .inr (.inl (by omega))
  .exact .inr (iE z.wf (az b q))
 have cd: ∀b,(PG Z b\/Z.ok b\/b=l\/b=Dk)->Pr b\/S.w.heap.size<=b:=by
  have ai: ∀b,(S.ok b\/S.w.heap.size<=b\/EF S b)->Pr b\/S.w.heap.size<=b:=by
   rintro b (q|q|q)
   .exact .inl ((aa b).2 (.inr (.inl q)))
   .exact .inr q
   .exact .inl ((aa b).2 (.inl (Qh q)))
  rintro b (⟨o,e,lc,q1,q2,rfl⟩|q|rfl|rfl)
  .cases hmu:e.1 with
   |true=>
    have cc:EF S3 lc.b:=⟨o,e,lc,by rw[<-am];exact q1,hmu,by rw[<-hρ4];exact q2,rfl⟩;rcases iE G.wf cc with q|q
    .exact .inr (by omega)
    .rcases iE z.wf (az _ q) with q|q
     .exact .inr q
     .exact ai _ (.inr (.inr q))
   |false=>
    have h5:=(ad.loc o e lc q1 q2).2;rw[hmu] at h5;simp only[CE,Cy] at h5;rcases h5 with h5|h5
    .exact ai _ (bo _ h5)
    .have Q:=cf o e (by rw[<-G.h o,<-am];exact q1) h5;obtain⟨e0,r1,r2,_,_⟩:=ay o Q e q1;exact .inl ((aa _).2 (.inl ⟨o,e0,lc,r1,by rw[<-r2];exact q2,rfl⟩))
  .exact ai _ (bo _ q)
  .exact .inl ((aa _).2 (.inr (.inr (.inl rfl))))
  .exact .inl ((aa _).2 (.inr (.inr (.inr rfl))))
 refine⟨λb=>PG Z b\/Z.ok b\/b=l\/b=Dk,⟨Z,rfl,?_,λb=>Iff.rfl,λb hb=>(bp b (aw b hb)).1,?_,?_,by rw[ab];exact bn,by rw[ab];exact ci⟩,⟨by omega,ad.os.trans O.wf.os.symm,ad.tape.trans O.wf.tape.symm,ad.output.trans O.wf.output.symm,cd,?_⟩⟩
 .have ht:=O.tm;rw[ax i] at ht;rw[ax j];refine⟨ad,λn=>by rw[am];exact G.h n,λt=> ?_,λt m hm=>FL (oK _ a8 t m hm) an,G.nmH,O.size,O.defers,Dt bf an,λo Q e' ac=> ?_⟩
  .exact H9 (X:=λo=>o<lo) ⟨bp,ay⟩ _ _ (oK _ a8 t) (ht t)
  .obtain⟨e,q1,q2,q3,q4⟩:=ay o (FL Q bf) e' ac;obtain⟨e0,r1,r2,r3,r4⟩:=O.pre o Q e q1;exact⟨e0,r1,q2.trans r2,q3.trans r3,q4.trans r4⟩
 .rw[ak];exact World.putObj_heap_same (by omega)
 .rw[ak,World.putObj_heap_other be.symm];exact br
 .rintro b hb (h|h)
  .exact ag b hb (λQ=>h ((aa b).2 (.inl (Qh Q)))) (λe=>h ((aa b).2 (.inr (.inr (.inl e)))))
  .exact ag b hb (λQ=>(VX O.wf Q).2.1 (aw b h)) (λe=>nl (e▸aw b h))
def Qr4(w:World)(o:Obj)(k:Nat)(h:k<w.heap.size):(w.alloc o).heap[k]? =w.heap[k]? :=by
 show (w.heap.push o)[k]? =_;rw[Array.getElem?_push,Ag (by omega)]
def mX(HM:P.follows .mixedOrders=true)(HV:GI P V){C:AX}{s:Aj}{a:Act}{w:World}(hc:B9 C N s a w){g:Operand}{ps:Array Tmp}{assign body:Code}{gf:Nat}{capt:List D}{X:jV}(an:iD P gf)(bi:Kq P gf capt X)(Ok:X.I->Prop)(aa:Ok X.i0)(av: ∀i x j,Ok i->X.step i x j->Ok j)
 (bg:DY N assign=true)(ai:Hk assign=true)(bh:DY N body=true)(ak:Hk body=true)(bj: ∀i x j,Ok i->X.step i x j->x.length=ps.size)(bl: ∀t∈ps.toList,t<N)
 {tm0:List (Nat×AV)}{hs:X.I->Ap}{nx:Nat}(Z: ∃π,A8 s.nx π s ⟨tm0,hs X.i0,nx⟩)(hg:Aw tm0 g= .im (.fn gf [] capt))(af:s.nx<=nx)(bf:An s.nx tm0=true)(G: ∀i,Ok i->Aj.good ⟨tm0,hs i,nx⟩=true)
 (bm: ∀i o e,hget (hs i) o=some e->e.2.isView=true->o<s.nx)
 (Q: ∀i x j,Ok i->X.step i x j->CM P V assign (NA P V body (Ty s.nx nx (hs j))) ⟨EY ps.toList x tm0,hs i,nx⟩):
 (Code.rangeFunc g ps assign body).wpIn Fence.wide 0 P (λe a' w'=> ∃i,Ok i/\X.fin i/\XK C N ⟨tm0,hs i,nx⟩ a e a' w') a w:=by
 obtain⟨π,aw⟩:=Z;have ad:C.n0<=s.nx:=by obtain⟨_,_,h⟩:=hc;exact h.n0
 obtain⟨S,rfl,hE⟩:=Qe hc aw (G X.i0 aa) ad (Dt ad af);have h1:Aa S (.im (.fn gf [] capt)) (a.eval g):=by rw[<-hg];exact Qb hE g
 simp only[Aa,rd] at h1;obtain⟨A,Cc,hv,hA,aj⟩:=h1;have a0:A= #[]:=by simpa[rdl] using hA
 rw[Wm an.1,a0] at hv;refine wpIn_rangeFunc ?_;intro fn br;have a8:C.w.heap.size<=S.w.heap.size:=hE.wf.size;obtain⟨rc,hrc⟩: ∃rc:Loop,rc={state:= .ready,pending:=none,fn,tmps:=a.tmps,params:=ps,assign,body,defers:=S.w.heap.size}:=⟨_,rfl⟩;obtain⟨z,hW1⟩: ∃z,z=(S.w.alloc (.deferred (some []))).alloc (.loop rc):=⟨_,rfl⟩;have bp:z.heap.size=S.w.heap.size+2:=by rw[hW1];simp
 have bc:z.heap[S.w.heap.size+1]? =some (.loop rc):=by
  rw[hW1];have:=World.alloc_heap_new (S.w.alloc (.deferred (some []))) (.loop rc);rwa [World.size_alloc] at this
 have bb:z.heap[S.w.heap.size]? =some (.deferred (some [])):=by
  rw[hW1];exact (Qr4 _ _ _ (by simp)).trans (World.alloc_heap_new S.w _)
 have hbel: ∀b,b<S.w.heap.size->z.heap[b]? =S.w.heap[b]? :=λb hb=>by
  rw[hW1,Qr4 _ _ _ (by simp;omega),Qr4 _ _ _ hb]
 have hm:Qt S z:=Qxm hE.wf (by omega) (by rw[hW1];rfl) (by rw[hW1];rfl) (by rw[hW1];rfl) hbel;have ah:C5 C N ⟨tm0,hs X.i0,nx⟩ {S with w:=z} a:=Qul hE hm (λb hb _=>hbel b (by omega));have ac:rdl S.ok (λb=>z.heap[b]?) capt Cc.toList:=Ky (nY hm λ_=>True).ok _ _ aj;refine⟨S.w.heap.size+1,[{target:= .collected S.w.heap.size,args:= #[]}],z,{target:= .fn (.func gf) Cc,args:= #[.func (.yield (S.w.heap.size+1)) #[] #[]]},z,gf,
  #[.func (.yield (S.w.heap.size+1)) #[] #[]]++Cc,z,?_,?_,λ_ _=>trivial,?_,λh=>(by cases h),?_⟩
 .rw[hW1,hrc];exact run_enterLoop_outer _ _ _ _ _
 .simp only[resolve,hv];simp[go_sem]
 .simp[invoke,go_sem,oH an]
 refine callsIn_wide.2 (Calls.mono (bi C {S with w:=z} Cc (S.w.heap.size+1) (λi Pr W=>Ok i/\Tz C N (λi=>⟨tm0,hs i,nx⟩) a S.ok S.w.heap.size (S.w.heap.size+1) rc i Pr W) ah.wf ac ?_ ?_ ?_) ?_)
 .rintro i Pr W ⟨hi,hJ⟩;obtain⟨q1,q2⟩:=zY (base:=z.heap.size) (by omega) i Pr W hJ;exact⟨q1,λW' h1 h2 h3 h4 h5=>⟨hi,q2 W' h1 h2 h3 h4 h5⟩⟩
 .rintro i x j args Pr W hx ab ⟨hi,hJ⟩;have aq:=av i x j hi hx;have ao:=G j aq;simp only[Aj.good,AS] at ao;rw[hrc] at hJ⊢;have h9:=T5 HM HV (st:=λi=>⟨tm0,hs i,nx⟩) (λ_=>rfl) ad af bf (by simp only[Aj.good,An,CP,AS];exact ao.2) (bm j) (by omega) (by omega) bg ai bh ak bl (bj i x j hi hx) (Q i x j hi hx) ab hJ;obtain⟨az,ag,ax,ay,r1,r2⟩:=h9;refine⟨az,ag,ax,ay,r1,RoundIn.mono r2 ?_⟩;rintro e W' ⟨he,Pr',ba,hM⟩;exact⟨he,Pr',⟨aq,ba⟩,hM⟩
 .exact⟨_,aa,{S with w:=z},rfl,ah,λb=>Iff.rfl,λb hb=>hb,bc,bb,λh=>Zfh _ (FL (hE.wf.oks _ h) (Nat.le_succ _)),λh=>Zfh _ (hE.wf.oks _ h)⟩
 .rintro e W2 ⟨v,Pr,i,rfl,am,bd,S2,rfl,O,bq,bt,hl,hD,nl,nD⟩;refine⟨none,_,by have:=run_endLoop (P:=P) hl (by rw[hrc];simp);rw[hrc] at this;exact this,?_⟩;obtain⟨ob,hob⟩: ∃ob:Obj,ob= .loop {({state:= .ready,pending:=none,fn,tmps:=a.tmps,params:=ps,assign,body,defers:=S.w.heap.size}:Loop) with state:= .exhausted}:=⟨_,rfl⟩;simp only[<-hob];have bo: ¬PG S2 (S.w.heap.size+1):=λhn=>(oX O.wf hn).1 _ hl
  have bn: ¬PG S2 S.w.heap.size:=λhn=>(oX O.wf hn).2 _ hD
  have au:=vR (S:=S2) (o:=ob) nl bo;have a9:S.w.heap.size<S2.w.heap.size:=(Qy.1 hD).1;have be:Wf C {S2 with w:=S2.w.putObj (S.w.heap.size+1) ob}:=pE O.wf au (λb hb _=>World.putObj_heap_other (by omega));refine⟨i,bd,am,_,_,S.w.heap.size,rfl,qD O au s.nx af _ ({target:= .collected S.w.heap.size,args:= #[]}::a.defers) rfl rfl,λS' h=>Qrn be h,rfl,rfl,?_,λh=>bn (Qh h),nD,a8,?_⟩
  .show _<(S2.w.putObj _ _).heap.size;rw[World.putObj_size];exact a9
  .show (S2.w.putObj _ _).heap[_]? =_;rw[World.putObj_heap_other (by omega)];exact hD
def Tc(HM:P.follows .mixedOrders=true)(HV:GI P V){C:AX}{s:Aj}{a:Act}{w:World}(hc:B9 C N s a w){g:Operand}{ps:Array Tmp}{assign body:Code}{gf:Nat}{capt:List D}{xs:List (List D)}(ad:iD P gf)(af:Jp P gf capt xs)
 (ab:DY N assign=true)(Q:Hk assign=true)(ac:DY N body=true)(Z:Hk body=true)(ah: ∀x∈xs,x.length=ps.size)(ai: ∀t∈ps.toList,t<N)
 {tm0:List (Nat×AV)}{hs:Nat->Ap}{nx:Nat}(G: ∃π,A8 s.nx π s ⟨tm0,hs 0,nx⟩)(hg:Aw tm0 g= .im (.fn gf [] capt))(ag:s.nx<=nx)(aa:An s.nx tm0=true)(O: ∀i,i<=xs.length->Aj.good ⟨tm0,hs i,nx⟩=true)
 (aj: ∀i o e,hget (hs i) o=some e->e.2.isView=true->o<s.nx)
 (z: ∀i x,xs[i]? =some x->CM P V assign (NA P V body (Ty s.nx nx (hs (i+1)))) ⟨EY ps.toList x tm0,hs i,nx⟩):
 (Code.rangeFunc g ps assign body).wpIn Fence.wide 0 P (XK C N ⟨tm0,hs xs.length,nx⟩ a) a w:=by
 refine wpIn_mono (mX HM HV hc (X:=eG xs) ad af (λ(i:Nat)=>i<=xs.length) (CF _) (λi x j _ hx=> ?_) ab Q ac Z (λi x j _ hx=>ah x (AY hx.1)) ai G hg ag aa O aj (λi x j _ hx=> ?_)) ?_
 .obtain⟨h1,rfl⟩:=hx;exact (Cd.1 h1).1
 .obtain⟨h1,rfl⟩:=hx;exact z i x h1
 .rintro e a' w' ⟨i,_,rfl,h⟩;exact h
end
def qJ(G z:AX)(ds:List Deferred):Prop:=
 ds=[]\/ ∃D:Nat,ds=[{target:= .collected D,args:= #[]}]/\D<z.w.heap.size/\ ¬z.M D/\ ¬z.ok D/\G.w.heap.size<=D/\z.w.heap[D]? =some (.deferred (some []))
def O9(G:AX)(N:Nat)(Q:Cb):Exit->Act->World->Prop
 | .normal,a,w=> ∃s z,Q .normal s/\B9 z N s a w/\(∀S',Wf z S'->Wf G S')/\qJ G z a.defers
 | .ret,a,w=> ∃s z,Q .ret s/\B9 z N s a w/\(∀S',Wf z S'->Wf G S')/\qJ G z a.defers
 |_,_,_=>False
def O8(P:Program)(z:List ResultVar)(Q:Aj->List AV->Prop)(s:Aj):Prop:= ∃xs,Ax (J7 P s) z=some xs/\Q s xs
def Tu(P:Program)(z:List ResultVar)(Q:Aj->List AV->Prop):Cb
 | .normal,s=>O8 P z Q s
 | .ret,s=>O8 P z Q s
 | .exit _,_=>False
def mL{P:Program}{g:FuncId}{fn:Func}{c:Code}(hf:P.funcs[g]? =some fn)(hb:fn.body=some c)
 {ps:List PK}(ax:ps.length<=fn.ntmps){Q:Aj->List AV->Prop}
 (hk: ∀(z:AX) (a:Act) (w:World),z.w=w->z.n0=0->B9 z fn.ntmps ⟨entry 0 (De 0 ps),Dr 0 ps,BF ps⟩ a w->a.defers=[]->c.wpIn Fence.wide 0 P (O9 z fn.ntmps (Tu P fn.results.toList Q)) a w)
 {C:AX}{S:Ay}{vs:Array Value}{RR:Ending->World->Prop}(hW:Wf C S)(ag:Es S ps vs.toList)
 (ad: ∀(v:Value) (z:AX) (S1:Ay) (s:Aj) (xs:List AV),z.w=S.w->z.ok=S.ok->(∀b,¬z.M b)->Wf z S1->(∀n,S1.h n=hget s.h n)->Q s xs->Aa S1 (CT xs) v->RR (.returned v) S1.w):Calls P g vs S.w RR:=by
 refine callsIn_wide.1 (callsIn_of_wp_marks (n:=0) hf hb trivial ?_);have av:vs.size=(De 0 ps).length:=by rw[Y9];simpa using ag.len
 obtain⟨ls,af,hcl⟩:=pS ps vs.toList 0 ag
 let S0:Ay:=⟨ls,S.ok,hget (Dr 0 ps),S.w⟩
 let z:AX:=⟨S.w,λ_=>False,S.ok,0,λ_=>none,λ_=>none,[]⟩
 have am:Wf z S0:=by
  refine⟨rfl,rfl,rfl,AN _,λ_ _ _=>rfl,λ_ hb=>hb,λ_ hb=> .inl hb,hW.oks,?_,?_,?_,hW.glN λ_ h=>h.elim⟩
  .intro n e G;obtain⟨l,h1,_,h3⟩:=af n e G;have h4:S0.ρ n=some l:=h1;rw[h4];obtain⟨_,cs,rfl⟩:=H7 0 ps n e G;simp only[Au] at h3⊢;exact h3
  .intro n e l G hl;obtain⟨l',h1,h2,h3⟩:=af n e G;have h4:S0.ρ n=some l':=h1;rw[h4] at hl;obtain rfl:=AE hl;obtain⟨_,cs,rfl⟩:=H7 0 ps n e G;exact⟨h2,.inr rfl⟩
  .intro n n' e e' l l' G aq hl a8 a0 au;obtain⟨_,cs,rfl⟩:=H7 0 ps n e G;obtain⟨_,ay,rfl⟩:=H7 0 ps n' e' aq;simp at au
 have ao:B9 z fn.ntmps ⟨entry 0 (De 0 ps),Dr 0 ps,BF ps⟩ {tmps:=vs++Array.replicate (fn.ntmps - vs.size) undef,defers:=[]} S.w:=by
  have Z:AM S0 (De 0 ps) vs.toList:=hcl S0 rfl rfl (λn _=>⟨rfl,rfl⟩);refine⟨S0,rfl,am,λn=>rfl,?_,?_,?_,by simp;rw[Y9] at av;omega,rfl,CF _,λo ho=>absurd ho (jI _)⟩
  .intro t;have h1:=gL (S:=S0) (De 0 ps) vs.toList 0 t Z;simp only[CF,BI,Zf] at h1
   have:({tmps:=vs++Array.replicate (fn.ntmps - vs.size) undef,defers:=[]}:Act).eval (.tmp t)=(vs.toList[t]?).getD undef:=by
    simp only[Act.eval,Ho,rQ,dF];by_cases ht:t<vs.size
    .simp[ht]
    .simp only[ht,Cy]
     have:vs[t]? =none:=Wy (by omega)
     simp only[G4,this]
     split<;>rfl
   rw[this];exact h1
  .intro t m hm;exact oJ 0 ps (BF ps) (by omega) m (gS (De 0 ps) 0 t m hm)
  .intro n e G;obtain⟨h1,cs,rfl⟩:=H7 0 ps n e G;exact⟨by show n<BF ps;omega,by simp[Ad.nms]⟩
 refine wpIn_mono (hk z _ _ rfl rfl ao rfl) ?_;have fin: ∀(s:Aj) (C2:AX) (S1:Ay) (a:Act),O8 P fn.results.toList Q s->C5 C2 fn.ntmps s S1 a->Wf z S1-> ∃v,(results fn a.tmps).run P S1.w= .ok v S1.w/\RR (.returned v) S1.w:=by
  rintro s C2 S1 a ⟨xs,aw,hr⟩ hc an;obtain⟨v,ah,ab⟩:=nS hc aw;exact⟨v,ah,ad v z S1 s xs rfl rfl (λ_ h=>h) an hc.h hr ab⟩
 have aa: ∀(a:Act) (w:World),(∃s C2,O8 P fn.results.toList Q s/\B9 C2 fn.ntmps s a w/\(∀S',Wf C2 S'->Wf z S')/\qJ z C2 a.defers)->LeavesInM Fence.wide 0 P fn a.tmps RR a.defers .returning w:=by
  rintro a w ⟨s,C2,hr,⟨S1,rfl,hc⟩,O,hM⟩;rcases hM with hM|⟨D,hM,ai,ac,aj,az,ak⟩
  .rw[hM];simp only[LeavesInM,LeavesIn];exact fin s C2 S1 a hr hc (O _ hc.wf)
  .rw[hM];have hh:S1.w.heap[D]? =some (.deferred (some [])):=(hc.wf.keep D ai ac).trans ak;have nk: ¬PG S1 D:=λhn=>(oX hc.wf hn).2 _ hh
   have no: ¬S1.ok D:=λh=>by
    rcases hc.wf.ok1 D h with q|q|q
    .exact aj q
    .omega
    .exact ac q
   have hm:=vR (S:=S1) (o:= .deferred none) no nk;refine⟨by simp,.inl ⟨D,_,rfl,run_takeDeferred hh,?_⟩⟩;simp only[LeavesInM,LeavesIn];exact fin s _ {S1 with w:=S1.w.putObj D (.deferred none)} a hr (qD hc hm 0 (CF _) a a.defers rfl rfl) (pE (O _ hc.wf) hm (λb hb _=>World.putObj_heap_other (by omega)))
 intro e a w G;cases e<;>simp only[O9] at G<;>simp only[bodyPostM]
 .exact aa a w G
 .exact aa a w G
def Pl{P:Program}{g:FuncId}{fn:Func}{c:Code}(hf:P.funcs[g]? =some fn)(hb:fn.body=some c)
 {ps:List PK}(O:ps.length<=fn.ntmps){R:D->Prop}
 (hk: ∀(z:AX) (a:Act) (w:World),z.w=w->z.n0=0->B9 z fn.ntmps ⟨entry 0 (De 0 ps),Dr 0 ps,BF ps⟩ a w->a.defers=[]->c.wpIn Fence.wide 0 P (O9 z fn.ntmps (YX P fn.results.toList R)) a w)
 {C:AX}{S:Ay}{vs:Array Value}{RR:Ending->World->Prop}(hW:Wf C S)(ab:Es S ps vs.toList)
 (G: ∀(v:Value) (z:AX) (S1:Ay) (d:D),z.w=S.w->z.ok=S.ok->(∀b,¬z.M b)->Wf z S1->R d->rd (SG z S1) S1.hp d v->RR (.returned v) S1.w):Calls P g vs S.w RR:=by
 have Z: ∀s,Kh P fn.results.toList R s->O8 P fn.results.toList (λs xs=>NU (hget s.h) R (CT xs)) s:=by
  intro s h;unfold Kh at h;cases hx:Ax (J7 P s) fn.results.toList with
  |none=>rw[hx] at h;exact h.elim
  |some xs=>rw[hx] at h;exact⟨xs,hx,h⟩
 refine mL hf hb O (Q:=λs xs=>NU (hget s.h) R (CT xs)) (λz a w h1 h2 h3 h4=>wpIn_mono (hk z a w h1 h2 h3 h4) ?_) hW ab ?_
 .intro e a w h;cases e<;>simp only[O9] at h⊢
  .obtain⟨s,C2,g1,g2⟩:=h;exact⟨s,C2,Z s g1,g2⟩
  .obtain⟨s,C2,g1,g2⟩:=h;exact⟨s,C2,Z s g1,g2⟩
 .intro v z S1 s xs g1 g2 g3 g4 g5 g6 g7;have aa:hget s.h=S1.h:=(funext g5).symm;rw[aa] at g6;obtain⟨d,h1,h2⟩:=Qzf g3 g4 g6 g7;exact G v z S1 d g1 g2 g3 g4 h1 h2
end Go.Ae
