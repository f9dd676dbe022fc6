/- Lemmas. Conditions: none. -/
import Derived.Test.YtogafbdeamcpnaaGreatDoorP10
import Derived.RangeFuncNested
import Derived.RangeFuncLeaves
import Derived.OrdersIn
set_option linter.all false
set_option maxHeartbeats 8000000
set_option maxRecDepth 100000
namespace Go.Ae
open Go
def Op.calm:Op->Bool
 | .defer _=>false
 |o=> !Go.Ae.Op.comm o
def IA(ops:Array Oper):Bool:=ops.toList.all λo=>Go.Ae.Op.calm o.op
def Oo{ops:Array Oper}(h:IA ops=true){i:Nat}{o:Oper}(z:ops[i]? =some o):Go.Ae.Op.calm o.op=true:=by
 unfold IA at h;rw[BE] at h;exact h o (Ax (by simpa using z))
def wR(ro:Option Nat):Fence:={Fence.wide with round:=ro}
def DN:Code->Bool
 | .region _ ops _=>IA ops
 | .seq a b=>DN a && DN b
 | .cond _ a b=>DN a && DN b
 | .block _ c=>DN c
 | .loop c=>DN c
 |_=>true
section
variable {P:Program}{ro:Option Nat}{n:Nat}
def SN{o:Oper}{a:Act}{w:World}{next z:Act->World->Prop}{Q:Exit->Act->World->Prop}(hc:Go.Ae.Op.calm o.op=true)(G: ∀a w,next a w->z a w)(h:o.wp P a w next (λ_ _ _=>False)):
 o.wpIn (wR ro) n P a w z Q:=by
 refine⟨λ_ _=>trivial,?_⟩;have e:o.semAt (wR ro).round a.eval=execOp a.eval o:=Oper.semAt_eq _ _ _ (λc O=>by rw[O] at hc;cases hc);rw[e];unfold Oper.wp at h;have aa: ¬LetsOut (λ_ _ _=>False):=λ⟨_,_,h⟩=>h
 cases hr:(execOp a.eval o).run P w with
 |ok x w'=>
  rw[hr] at h;cases x<;>simp only[Oper.upon] at h<;>try exact h.elim
  case value v=>exact G _ _ h
  case skip=>exact G _ _ h
  case defer d=>exact G _ _ h
  case enter f args=>
   refine⟨λhd=>(by cases hd),?_⟩;have h1:CallsIn Fence.wide (n - 1) P f args w' _:=callsIn_wide.2 h;refine (show CallsIn Fence.wide (n - 1) P f args w' _ from CallsIn.mono h1 ?_);intro e w'' Z;cases e with
   |returned v=>exact G _ _ Z
   |panicked c=>exact Z.elim
   |outgrown=>exact (aa Z).elim
  case row row args=>
   refine⟨λhd=>(by cases hd),?_⟩;intro c cs _;obtain⟨v,w'',hR,hs⟩:=h c cs;exact⟨v,w'',G _ _ hR,stepsIn_wide.2 hs⟩
 |halt x w'=>
  rw[hr] at h;cases x<;>simp only[Oper.upon] at h
def PU{ops:Array Oper}(z:IA ops=true){Q:Exit->Act->World->Prop}: ∀(ls:List Nat) (a:Act) (w:World),Fm P ops (Q .normal) ls a w->wpOpsIn (wR ro) n P ops Q ls a w
 |[],a,w,h=>h
 |i::G,a,w,h=>by
  simp only[Fm] at h;simp only[wpOpsIn];cases ho:ops[i]? with
  |none=>rw[ho] at h;exact PU z G a w h
  |some o=>
   rw[ho] at h;simp only at h⊢;split
   .rename_i hw;rw[Af hw] at h;rcases h with ⟨o',O,_,Z⟩|⟨O,_⟩
    .rw[ho] at O;obtain rfl:=Al O;exact SN (Oo z ho) (λa w h=>PU z G a w h) Z
    .have h2:=O o ho;have Z:=Oo z ho;exfalso;cases hop:o.op<;>rw[hop] at h2 Z<;>simp[Op.comm,Op.calm] at h2 Z
   .rename_i hw;rw[Ab hw] at h;exact⟨λ_ _=>trivial,PU z G _ w h⟩
def PT{ops:Array Oper}(z:IA ops=true){K:Act->World->Prop}{Q:Exit->Act->World->Prop}{l2:List Nat}(hK: ∀a w,K a w->wpOpsIn (wR ro) n P ops Q l2 a w): ∀(ls:List Nat) (a:Act) (w:World),Fm P ops K ls a w->wpOpsIn (wR ro) n P ops Q (ls++l2) a w
 |[],a,w,h=>hK a w h
 |i::G,a,w,h=>by
  simp only[Fm] at h;simp only[Bv,wpOpsIn];cases ho:ops[i]? with
  |none=>rw[ho] at h;exact PT z hK G a w h
  |some o=>
   rw[ho] at h;simp only at h⊢;split
   .rename_i hw;rw[Af hw] at h;rcases h with ⟨o',O,_,Z⟩|⟨O,_⟩
    .rw[ho] at O;obtain rfl:=Al O;exact SN (Oo z ho) (λa w h=>PT z hK G a w h) Z
    .have h2:=O o ho;have Z:=Oo z ho;exfalso;cases hop:o.op<;>rw[hop] at h2 Z<;>simp[Op.comm,Op.calm] at h2 Z
   .rename_i hw;rw[Ab hw] at h;exact⟨λ_ _=>trivial,PT z hK G _ w h⟩
def PP{ops:Array Oper}(G:IA ops=true){Q:Exit->Act->World->Prop}(O: ¬LetsOut Q)(Z: ∀c a w,¬Q (.panic c) a w): ∀(fuel:Nat) (listed:Array Bool) (a:Act) (w:World),wpAny P .any ops Q fuel listed a w->wpAnyIn (wR ro) n P .any ops Q fuel listed a w
 |0,listed,a,w,h=>h
 |fuel+1,listed,a,w,h=>by
  simp only[wpAny] at h;simp only[wpAnyIn];refine⟨h.1,λi hi=> ?_⟩;have z:=h.2 i hi;unfold wpOp at z;unfold wpOpIn;cases ho:ops[i]? with
  |none=>rw[ho] at z;exact PP G O Z fuel _ a w z
  |some o=>
   rw[ho] at z;simp only at z⊢;split
   .rename_i hw;rw[Af hw] at z;rcases z with z|z
    .refine SN (Oo G ho) (λa w h=>PP G O Z fuel _ a w h) ?_;unfold Oper.wp at z⊢;cases hr:(execOp a.eval o).run P w with
     |ok x w'=>
      rw[hr] at z;cases x<;>simp only[Oper.upon] at z⊢ <;>try exact z
      refine Calls.mono z ?_;intro e w'' he;cases e with
      |returned v=>exact he
      |panicked c=>exact Z _ _ _ he
      |outgrown=>exact (O he).elim
     |halt x w'=>
      rw[hr] at z;cases x<;>simp only[Oper.upon] at z⊢ <;>try exact z
      exact Z _ _ _ z
    .exact (O z.2).elim
   .rename_i hw;rw[Ab hw] at z;exact⟨λ_ _=>trivial,PP G O Z fuel _ _ w z⟩
end
section
variable {P:Program}{V:B0}{C:Ctx}{N n:Nat}{ro:Option Nat}
def toQ_out{Q:Be}: ¬LetsOut (toQ C N Q):=λ⟨_,_,h⟩=>h
def toQ_panic{Q:Be}: ∀c a w,¬toQ C N Q (.panic c) a w:=λ_ _ _ h=>h
def LP(HM:P.follows .mixedOrders=true)(HV:D5 P V): ∀(c:Code),chk N c=true->DN c=true-> ∀(Q:Be) (s:Ac) (a:Act) (w:World),awp P V c Q s->Con C N s a w->c.wpIn (wR ro) n P (toQ C N Q) a w:=by
 intro c;induction c with
 |skip=>intro _ _ Q s a w h hc;exact wpIn_skip ⟨s,h,hc⟩
 |region id ops an=>
  intro hk hl Q s a w h hc;simp only[chk,Av] at hk;cases an with
  |true=>exact wpIn_region_any HM (PP hl toQ_out toQ_panic _ _ _ _ (VO HV (λs a w h1 h2=>⟨s,h1,h2⟩) hk.1 (by simpa using hk.2) h hc))
  |false=>
   refine wpIn_region (PU hl _ _ _ ?_)
   have:=Tt HV (ops:=ops) (Q:=toQ C N Q) (λs a w h1 h2=>⟨s,h1,h2⟩) ops.toList [] 0 (by simp) hk.1 s a w h hc
   rwa [Cm,<-Vk] at this
 |seq x y ak am=>
  intro hk hl Q s a w h hc;simp only[chk,Av] at hk;simp only[DN,Av] at hl;simp only[awp] at h;refine wpIn_seq (wpIn_mono (ak hk.1 hl.1 _ s a w h hc) (Jj ?_ ?_ ?_))
  .intro s a w Z hc;exact am hk.2 hl.2 Q s a w Z hc
  .intro i s Z;exact Z
  .intro s Z;exact Z
 |cond c x y ak am=>
  intro hk hl Q s a w h hc;simp only[chk,Av] at hk;simp only[DN,Av] at hl;simp only[awp] at h;obtain⟨S,ao,aj⟩:=hc;have h1:=GL aj c;cases hv:evO s.tm c<;>rw[hv] at h<;>try exact h.elim
  rename_i d;cases d<;>try exact h.elim
  rename_i b;rw[hv] at h1;simp only[conc,rd] at h1;simp only[Pq] at h;refine wpIn_cond_split h1 (λhb=>ak hk.1 hl.1 Q s a w (h.1 hb) ⟨S,ao,aj⟩) (λhb=>am hk.2 hl.2 Q s a w (h.2 hb) ⟨S,ao,aj⟩)
 |block id c ih=>
  intro hk hl Q s a w h hc;simp only[awp] at h;refine wpIn_block (wpIn_mono (ih hk hl _ s a w h hc) ?_);intro e a w he;cases e<;>simp only[toQ] at he<;>simp only[Exit.inBlock,toQ]
  .exact he
  .rename_i i;obtain⟨s,Z,hc⟩:=he;simp only[Mr] at Z;by_cases hi:i=id
   .subst hi;rw[Af rfl];exact⟨s,by simpa[exitQ] using Z,hc⟩
   .rw[Ab hi]
    have:(i==id)=false:=by simpa using hi
    rw[this] at Z;exact⟨s,Z,hc⟩
  .exact he
 |loop c ih=>
  intro hk hl Q s a w h hc;have ai: ∀(s:Ac),Jn (awp P V c) Q s->Con C N s a w->(Code.loop c).wpIn (wR ro) n P (toQ C N Q) a w:=by
   clear h hc;intro s h hc;simp only[Jn] at h;obtain⟨β,I,μ,z,⟨b0,ad⟩,G⟩:=h
   let p:Act->World->Nat->Prop:=λa w n=> ∃b,Con C N (I b) a w/\μ b=n
   let μ':Act->World->Nat:=λa w=>Classical.epsilon λn=>p a w n/\ ∀k,k<n-> ¬p a w k
   have hμ: ∀a w b,Con C N (I b) a w->p a w (μ' a w)/\ ∀k,k<μ' a w-> ¬p a w k:=by
    intro a w b hb;exact Mw (p:=λn=>p a w n/\ ∀k,k<n-> ¬p a w k) (F7 (μ b) ⟨b,hb,rfl⟩)
   have ab: ∀b,C.n0<=(I b).nx:=by
    intro b;obtain⟨S,_,h⟩:=hc;exact BK h.n0 (z b).2
   refine wpIn_loop (λa w=> ∃b,Con C N (I b) a w) μ' ⟨b0,Mm hc ad (z b0).1 (ab b0)⟩ ?_;rintro a w ⟨b,hb⟩;obtain⟨⟨b1,af,as⟩,_⟩:=hμ a w b hb;refine wpIn_mono (ih hk hl _ _ a w (G b1) af) (Jj ?_ ?_ ?_)
   .rintro s' a' w' ⟨b',aq,ac⟩ ag;have O:=Mm ag ac (z b').1 (ab b');refine⟨⟨b',O⟩,?_⟩;obtain⟨_,aa⟩:=hμ a' w' b' O;rcases Cz (μ b') (μ' a' w') with h1|h1
    .exact absurd ⟨b',O,rfl⟩ (aa _ h1)
    .omega
   .intro i s Z;exact Z
   .intro s Z;exact Z
  simp only[awp,Au] at h;rcases h with h|h|⟨F,h⟩|h
  .exact ai s h hc
  .simp only[QY] at h;obtain⟨β,I,μ,z,⟨b0,π0,ad⟩,G⟩:=h
   let p:Act->World->Nat->Prop:=λa w n=> ∃b,Con C N (I b) a w/\μ b=n
   let μ':Act->World->Nat:=λa w=>Classical.epsilon λn=>p a w n/\ ∀k,k<n-> ¬p a w k
   have hμ: ∀a w b,Con C N (I b) a w->p a w (μ' a w)/\ ∀k,k<μ' a w-> ¬p a w k:=by
    intro a w b hb;exact Mw (p:=λn=>p a w n/\ ∀k,k<n-> ¬p a w k) (F7 (μ b) ⟨b,hb,rfl⟩)
   have ah:C.n0<=s.nx:=by
    obtain⟨S,_,h⟩:=hc;exact h.n0
   have ab: ∀b,C.n0<=(I b).nx:=by
    intro b;obtain⟨S,_,h⟩:=hc;exact BK h.n0 (z b).2
   refine wpIn_loop (λa w=> ∃b,Con C N (I b) a w) μ' ⟨b0,GO hc ad (z b0).1 ah (ab b0)⟩ ?_;rintro a w ⟨b,hb⟩;obtain⟨⟨b1,af,as⟩,_⟩:=hμ a w b hb;refine wpIn_mono (ih hk hl _ _ a w (G b1) af) (Jj ?_ ?_ ?_)
   .rintro s' a' w' ⟨b',π,aq,ac⟩ ag;have O:=GO ag ac (z b').1 ah (ab b');refine⟨⟨b',O⟩,?_⟩;obtain⟨_,aa⟩:=hμ a' w' b' O;rcases Cz (μ b') (μ' a' w') with h1|h1
    .exact absurd ⟨b',O,rfl⟩ (aa _ h1)
    .omega
   .intro i s Z;exact Z
   .intro s Z;exact Z
  .exact ai _ h (U5 F hc)
  .simp only[QW] at h;obtain⟨β,I,μ,z,⟨b0,F0,π0,ad⟩,G⟩:=h
   let p:Act->World->Nat->Prop:=λa w n=> ∃b,Con C N (I b) a w/\μ b=n
   let μ':Act->World->Nat:=λa w=>Classical.epsilon λn=>p a w n/\ ∀k,k<n-> ¬p a w k
   have hμ: ∀a w b,Con C N (I b) a w->p a w (μ' a w)/\ ∀k,k<μ' a w-> ¬p a w k:=by
    intro a w b hb;exact Mw (p:=λn=>p a w n/\ ∀k,k<n-> ¬p a w k) (F7 (μ b) ⟨b,hb,rfl⟩)
   have ah:C.n0<=s.nx:=by
    obtain⟨S,_,h⟩:=hc;exact h.n0
   have ab: ∀b,C.n0<=(I b).nx:=by
    intro b;obtain⟨S,_,h⟩:=hc;exact BK h.n0 (z b).2
   refine wpIn_loop (λa w=> ∃b,Con C N (I b) a w) μ' ⟨b0,GO (Pc F0 hc) ad (z b0).1 ah (ab b0)⟩ ?_;rintro a w ⟨b,hb⟩;obtain⟨⟨b1,af,as⟩,_⟩:=hμ a w b hb;refine wpIn_mono (ih hk hl _ _ a w (G b1) af) (Jj ?_ ?_ ?_)
   .rintro s' a' w' ⟨b',F,π,aq,ac⟩ ag;have O:=GO (Pc F ag) ac (z b').1 ah (ab b');refine⟨⟨b',O⟩,?_⟩;obtain⟨_,aa⟩:=hμ a' w' b' O;rcases Cz (μ b') (μ' a' w') with h1|h1
    .exact absurd ⟨b',O,rfl⟩ (aa _ h1)
    .omega
   .intro i s Z;exact Z
   .intro s Z;exact Z
 |exit id=>intro _ _ Q s a w h hc;exact wpIn_exit ⟨s,h,hc⟩
 |ret=>intro _ _ Q s a w h hc;exact wpIn_ret ⟨s,h,hc⟩
 |_=>intro hk;simp[chk] at hk
end
def ownB(S:Env)(b:Nat):Prop:= ∃o e z,S.h o=some e/\e.1=true/\S.ρ o=some z/\z.b=b
def nmB(S:Env)(b:Nat):Prop:= ∃o e z,S.h o=some e/\S.ρ o=some z/\z.b=b
def rebC(S:Env)(n0:Nat)(ds:List Deferred):Ctx:=⟨S.w,ownB S,S.ok,n0,S.h,S.ρ,ds⟩
def I8{C:Ctx}{S:Env}(h:Wf C S){b:Nat}(hb:ownB S b):b<S.w.heap.size/\ ¬S.ok b/\(C.w.heap.size<=b\/C.M b):=by
 obtain⟨o,e,Z,G,O,Q,rfl⟩:=hb;obtain⟨q1,z⟩:=h.loc o e Z G Q;rw[O] at z;simp only[AQ] at z;exact⟨q1,z.1,z.2⟩
def reb_wf{C:Ctx}{S:Env}(h:Wf C S)(n0:Nat)(ds:List Deferred):Wf (rebC S n0 ds) S:=by
 refine⟨rfl,rfl,rfl,Ar _,λ_ _ _=>rfl,λ_ h=>h,λ_ h=> .inl h,h.oks,h.obj,λo e l G O=> ?_,h.inj,h.glN λ_ hb=>(I8 h hb).2.1⟩;obtain⟨q1,z⟩:=h.loc o e l G O;refine⟨q1,?_⟩;cases hm:e.1 with
 |true=>
  rw[hm] at z;simp only[AQ] at z⊢;exact⟨z.1,.inr ⟨o,e,l,G,hm,O,rfl⟩⟩
 |false=>rw[hm] at z;simpa using z
def reb_con{C:Ctx}{N:Nat}{s:Ac}{S:Env}{a:Act}(h:ConE C N s S a):ConE (rebC S s.nx a.defers) N s S a:=
 ⟨reb_wf h.wf _ _,h.h,h.tm,h.nmT,h.nmH,h.size,rfl,Ar _,λ_ _ e' z=>⟨e',z,rfl,rfl,rfl⟩⟩
def T3{C:Ctx}{S S':Env}{n0:Nat}{ds:List Deferred}(hW:Wf C S)(h:Wf (rebC S n0 ds) S'):Wf C S':=by
 have G:C.w.heap.size<=S.w.heap.size:=hW.size;have O:S.w.heap.size<=S'.w.heap.size:=h.size;refine⟨h.os.trans hW.os,h.tape.trans hW.tape,h.output.trans hW.output,BK G O,λb hb Q=> ?_,λb hb=>h.ok0 b (hW.ok0 b hb),λb hb=> ?_,h.oks,h.obj,λo e l Z h2=> ?_,h.inj,hW.gl⟩
 .refine (h.keep b (CY hb G) (λho=> ?_)).trans (hW.keep b hb Q);rcases (I8 hW ho).2.2 with q|q
  .omega
  .exact Q q
 .rcases h.ok1 b hb with q|q|q
  .exact hW.ok1 b q
  .exact .inr (.inl (BK G q))
  .exact .inr (I8 hW q).2.2
 .obtain⟨q1,z⟩:=h.loc o e l Z h2;refine⟨q1,?_⟩;cases hm:e.1 with
  |true=>
   rw[hm] at z;simp only[AQ] at z⊢;refine⟨z.1,?_⟩;rcases z.2 with q|q
   .exact .inl (BK G q)
   .exact (I8 hW q).2.2
  |false=>rw[hm] at z;simpa using z
def Jf{S S':Env}{n0:Nat}{ds:List Deferred}(h:Wf (rebC S n0 ds) S'): ∀b,b<S.w.heap.size-> ¬ownB S b->S'.w.heap[b]? =S.w.heap[b]? :=h.keep
def Mf{S S':Env}{n0:Nat}{ds:List Deferred}(h:Wf (rebC S n0 ds) S'){b:Nat}(hb:ownB S' b):S.w.heap.size<=b\/ownB S b:=(I8 h hb).2.2
def Jt{S S':Env}{n0:Nat}{ds:List Deferred}(h:Wf (rebC S n0 ds) S'){b:Nat}(hb:S'.ok b):S.ok b\/S.w.heap.size<=b\/ownB S b:=h.ok1 b hb
structure Hf(S:Env)(W':World):Prop where
 size:S.w.heap.size<=W'.heap.size
 os:W'.os=S.w.os
 tape:W'.tape=S.w.tape
 output:W'.output=S.w.output
 ok: ∀b,S.ok b->W'.heap[b]? =S.w.heap[b]?
 nm: ∀b,nmB S b->W'.heap[b]? =S.w.heap[b]?
def Om{S:Env}{W':World}(h:Hf S W')(X:Nat->Prop):Pres X S {S with w:=W'}:=⟨λb hb=>⟨hb,h.ok b hb⟩,λ_ _ e' z=>⟨e',z,rfl,rfl,rfl⟩⟩
def wf_moved'{C:Ctx}{S:Env}{W':World}(hW:Wf C S)(h:Hf S W'):GP S.ok (λb=>W'.heap[b]?):=hW.gp.mono λb _ hb z=>⟨hb,(h.ok b hb).trans z⟩
def OI{C:Ctx}{S:Env}{W':World}(hW:Wf C S)(h:Hf S W')(hk: ∀b,b<C.w.heap.size-> ¬C.M b->W'.heap[b]? =S.w.heap[b]?):Wf C {S with w:=W'}:=by
 refine⟨h.os.trans hW.os,h.tape.trans hW.tape,h.output.trans hW.output,BK hW.size h.size,λb hb G=>(hk b hb G).trans (hW.keep b hb G),hW.ok0,hW.ok1,λb hb=>CY (hW.oks b hb) h.size,λo e O=> ?_,λo e l Z h2=> ?_,hW.inj,hW.gl⟩
 .exact DU (Om h λ_=>True) (λQ z=>h.nm Q.b ⟨o,e,Q,O,z,rfl⟩) e.2 (λ_ _=>trivial) (hW.obj o e O)
 .obtain⟨q1,q2⟩:=hW.loc o e l Z h2;exact⟨CY q1 h.size,q2⟩
def WJ{C:Ctx}{N:Nat}{s:Ac}{S:Env}{a:Act}{W':World}(hc:ConE C N s S a)(h:Hf S W')(z: ∀b,b<C.w.heap.size-> ¬C.M b->W'.heap[b]? =S.w.heap[b]?):ConE C N s {S with w:=W'} a:=
 ⟨OI hc.wf h z,hc.h,λt=>DV (Om h λ_=>True) _ _ (λ_ _=>trivial) (hc.tm t),hc.nmT,hc.nmH,hc.size,hc.defers,hc.n0,hc.pre⟩
def Qk{S:Env}{l:Nat}{o:Obj}(z: ¬S.ok l)(G: ¬nmB S l):Hf S (S.w.putObj l o):=by
 refine⟨by simp,rfl,rfl,rfl,λb hb=> ?_,λb hb=> ?_⟩
 .exact World.putObj_heap_other (λe=>z (e▸hb))
 .exact World.putObj_heap_other (λe=>G (e▸hb))
structure Move(ok0:Nat->Prop)(Pr:Nat->Prop)(W:World)(Pr':Nat->Prop)(W':World):Prop where
 size:W.heap.size<=W'.heap.size
 os:W'.os=W.os
 tape:W'.tape=W.tape
 output:W'.output=W.output
 pr: ∀b,Pr' b->Pr b\/W.heap.size<=b
 same: ∀b,b<W.heap.size->(¬Pr b\/ok0 b)->W'.heap[b]? =W.heap[b]?
def Ga{ι:Type}(base:Nat)(J:ι->(Nat->Prop)->World->Prop):Prop:=
 ∀i Pr W,J i Pr W->(∀b,Pr b->b<W.heap.size)/\ ∀W',W.heap.size<=W'.heap.size->W'.os=W.os->W'.tape=W.tape->W'.output=W.output->(∀b,Pr b\/b<base->W'.heap[b]? =W.heap[b]?)->J i Pr W'
structure Giv where
 I:Type
 i0:I
 step:I->List D->I->Prop
 fin:I->Prop
def IterG(P:Program)(gf:Nat)(capt:List D)(X:Giv):Prop:=
 ∀(C:Ctx) (S:Env) (vs:Array Value) (l:Nat) (J:X.I->(Nat->Prop)->World->Prop),Wf C S->rdl S.ok S.hp capt vs.toList->Ga S.w.heap.size J->
  (∀i x j args Pr W,X.step i x j->(∀ok hp,rdl ok hp x args.toList)->J i Pr W->YieldAt Fence.wide 0 P l args W λe W'=>e= .returned (.bool true)/\ ∃Pr',J j Pr' W'/\Move S.ok Pr W Pr' W')->
  (∃Pr,J X.i0 Pr S.w)->Calls P gf (#[.func (.yield l) #[] #[]]++vs) S.w λe W'=> ∃v Pr i,e= .returned v/\X.fin i/\J i Pr W'
def givL(xs:List (List D)):Giv:=⟨Nat,0,λi x j=>xs[i]? =some x/\j=i+1,λi=>i=xs.length⟩
def IterOk(P:Program)(gf:Nat)(capt:List D)(xs:List (List D)):Prop:=IterG P gf capt (givL xs)
def parT:List Tmp->List D->List (Nat×AV)->List (Nat×AV)
 |t::z,d::ds,tm=>parT z ds ((t,.im d)::tm)
 |[],_,tm=>tm
 |_::_,[],tm=>tm
def parA:List Tmp->List Value->Array Value->Array Value
 |t::z,v::G,A=>parA z G (A.setIfInBounds t v)
 |[],_,A=>A
 |_::_,[],A=>A
def parA_eq(ps:Array Tmp)(args:Array Value)(A:Array Value):(ps.zip args).foldl (λz (t,a)=>z.setIfInBounds t a) A=parA ps.toList args.toList A:=by
 rw[<-Array.foldl_toList,Array.toList_zip];generalize ps.toList=l;generalize args.toList=m;induction l generalizing m A with
 |nil=>simp[parA]
 |cons t G ih=>
  cases m with
  |nil=>simp[parA]
  |cons v O=>simp only[List.zip_cons_cons,L9,parA];exact ih _ _
def WT: ∀(z:List Tmp) (vs:List Value) (A:Array Value),(parA z vs A).size=A.size
 |t::z,v::vs,A=>by simp only[parA,WT z vs,UU]
 |[],_,A=>rfl
 |_::_,[],A=>rfl
def WR{S:Env}: ∀(G:List Tmp) (ds:List D) (vs:List Value) (tm:List (Nat×AV)) (A:Array Value),rdl S.ok S.hp ds vs->(∀t∈G,t<A.size)->(∀t,conc S (tget tm t) (A.getD t undef))->
 ∀t,conc S (tget (parT G ds tm) t) ((parA G vs A).getD t undef)
 |O::G,d::ds,vs,tm,A,z,Z,hc=>by
  simp only[rdl] at z;obtain⟨v,r,rfl,h1,h2⟩:=z;simp only[parT,parA];refine WR G ds r _ _ h2 (λt ht=>by rw[UU];exact Z t (AX _ ht)) (λt=> ?_);have Q:=Z O (AU ..);simp only[tget];by_cases h:O=t
  .subst h;simp[Q,conc];exact h1
  .have:(O==t)=false:=by simpa using h
   rw[this];simp only[AM];have e:(A.setIfInBounds O v).getD t undef=A.getD t undef:=by
    simp only[DO];rw[Array.getElem?_setIfInBounds_ne h]
   rw[e];exact hc t
 |[],_,_,tm,A,_,_,hc=>λt=>by simpa only[parT,parA] using hc t
 |_::_,[],vs,tm,A,z,_,hc=>λt=>by
  simp only[rdl] at z;subst z;simpa only[parT,parA] using hc t
def Xw{n:Nat}: ∀(G:List Tmp) (ds:List D) (tm:List (Nat×AV)),(∀t,∀m∈(tget tm t).nms,m<n)-> ∀t,∀m∈(tget (parT G ds tm) t).nms,m<n
 |O::G,d::ds,tm,h=>by
  simp only[parT];refine Xw G ds _ (λt m z=> ?_);simp only[tget] at z;cases hq:O==t<;>rw[hq] at z
  .exact h t m z
  .simp[AV.nms] at z
 |[],_,tm,h=>h
 |_::_,[],tm,h=>h
def OB{C:Ctx}{S:Env}(hW:Wf C S){b:Nat}(hb:nmB S b):(∀r,S.w.heap[b]? ≠some (.loop r))/\ ∀d,S.w.heap[b]? ≠some (.deferred d):=by
 obtain⟨o,e,O,Z,h2,rfl⟩:=hb;have h:=hW.obj o e Z;rw[h2] at h;have hp:S.hp O.b=S.w.heap[O.b]? :=rfl;obtain⟨mu,ob⟩:=e;cases ob<;>simp only[objc] at h
 case cells T cs=>obtain⟨l',G,q1,_,z,_⟩:=h;cases q1;rw[<-hp,z];simp
 case arr T k rows=>obtain⟨_,_,G,z,_⟩:=h;rw[<-hp,z];simp
 case arrA T k rows=>obtain⟨_,_,G,z,_⟩:=h;rw[<-hp,z];simp
 case map kt es=>obtain⟨l',Q,cl,q1,_,z,_⟩:=h;cases q1;rw[<-hp,z];simp
 case chan q cap=>obtain⟨l',bu,se,rc,q1,z,_⟩:=h;cases q1;rw[<-hp,z];simp
 case iter la le=>obtain⟨l',mb,Q,cl,se,q1,_,_,_,z,_⟩:=h;cases q1;rw[<-hp,z];simp
 case view cs=>obtain⟨l',G,T,fr,q1,z,_⟩:=h;cases q1;rw[<-hp,z];simp
def GV{S:Env}{b:Nat}(h:ownB S b):nmB S b:=by
 obtain⟨o,e,Q,z,_,G,O⟩:=h;exact⟨o,e,Q,z,G,O⟩
def Pg{C:Ctx}{N:Nat}{s:Ac}{S:Env}{a:Act}{W':World}(hc:ConE C N s S a)(h:Hf S W')(n0:Nat)(hn:n0<=s.nx)(a':Act)(ds:List Deferred)(hd:a'.defers=ds)(ha:a'.tmps=a.tmps):
 ConE (rebC {S with w:=W'} n0 ds) N s {S with w:=W'} a':=by
 have hW:=hc.wf;refine⟨⟨rfl,rfl,rfl,Ar _,λ_ _ _=>rfl,λ_ h=>h,λ_ h=> .inl h,λb hb=>CY (hW.oks b hb) h.size,λo e he=> ?_,λo e l Q Z=> ?_,hW.inj,(wf_moved' hW h).mono λb o hb ho=>⟨⟨hb,λhM=>(I8 hW hM).2.1 hb⟩,ho⟩⟩,hc.h,λt=> ?_,hc.nmT,hc.nmH,by rw[ha];exact hc.size,hd,hn,λ_ _ e' G=>⟨e',G,rfl,rfl,rfl⟩⟩
 .exact DU (Om h λ_=>True) (λlc O=>h.nm lc.b ⟨o,e,lc,he,O,rfl⟩) e.2 (λ_ _=>trivial) (hW.obj o e he)
 .obtain⟨q1,z⟩:=hW.loc o e l Q Z;refine⟨CY q1 h.size,?_⟩;cases hm:e.1 with
  |true=>
   rw[hm] at z;simp only[AQ] at z⊢;exact⟨z.1,.inr ⟨o,e,l,Q,hm,Z,rfl⟩⟩
  |false=>rw[hm] at z;simpa using z
 .have e:a'.eval (.tmp t)=a.eval (.tmp t):=by simp only[Act.eval,ha]
  rw[e];exact DV (Om h λ_=>True) _ _ (λ_ _=>trivial) (hc.tm t)
def YO{C:Ctx}{S:Env}{W':World}(hW:Wf C S)(hs:S.w.heap.size<=W'.heap.size)(z:W'.os=S.w.os)(G:W'.tape=S.w.tape)(O:W'.output=S.w.output)(hb: ∀b,b<S.w.heap.size->W'.heap[b]? =S.w.heap[b]?):Hf S W':=
 ⟨hs,z,G,O,λb h=>hb b (hW.oks b h),λb ⟨o,e,Q,q1,Z,q3⟩=>hb b (q3▸(hW.loc o e Q q1 Z).1)⟩
def rndQ(lo nx:Nat)(h':Ag):Be
 | .normal,z=> ∃π,subP lo π z ⟨[],h',nx⟩
 | .exit _,_=>False
 | .ret,_=>False
def asgQ(P:Program)(V:B0)(body:Code)(Q:Be):Be
 | .normal,z=>awp P V body Q z
 | .exit _,_=>False
 | .ret,_=>False
def rngQ(C:Ctx)(N:Nat)(s:Ac)(O:Act):Exit->Act->World->Prop
 | .normal,a',w'=> ∃z G D,G.w=w'/\ConE z N s G a'/\(∀S',Wf z S'->Wf C S')/\a'.tmps=O.tmps/\a'.defers={target:= .collected D,args:= #[]}::O.defers/\
  D<z.w.heap.size/\ ¬z.M D/\ ¬z.ok D/\C.w.heap.size<=D/\z.w.heap[D]? =some (.deferred (some []))
 |_,_,_=>False
section
variable {P:Program}{V:B0}{N:Nat}
def rngJ{ι:Type}(C:Ctx)(N:Nat)(st:ι->Ac)(a:Act)(ok0:Nat->Prop)(z l:Nat)(rc:Loop)(i:ι)(Pr:Nat->Prop)(W:World):Prop:=
 ∃S,S.w=W/\ConE C N (st i) S a/\(∀b,Pr b↔(nmB S b\/S.ok b\/b=l\/b=z))/\(∀b,ok0 b->S.ok b)/\W.heap[l]? =some (.loop rc)/\W.heap[z]? =some (.deferred (some []))/\ ¬S.ok l/\ ¬S.ok z
def RJ{ι:Type}{C:Ctx}{st:ι->Ac}{a:Act}{ok0:Nat->Prop}{O l:Nat}{rc:Loop}{base:Nat}(hb:C.w.heap.size<=base):Ga base (rngJ C N st a ok0 O l rc):=by
 rintro i Pr W ⟨S,rfl,Q,z,aa,hl,hD,nl,nD⟩;refine⟨λb Z=> ?_,λW' h1 h2 h3 h4 G=> ?_⟩
 .rcases (z b).1 Z with ⟨o,e,lc,q1,q2,rfl⟩|q|rfl|rfl
  .exact (Q.wf.loc o e lc q1 q2).1
  .exact Q.wf.oks b q
  .exact (Hi.1 hl).1
  .exact (Hi.1 hD).1
 .have hm:Hf S W':=⟨h1,h2,h3,h4,λb hb=>G b (.inl ((z b).2 (.inr (.inl hb)))),λb hb=>G b (.inl ((z b).2 (.inl hb)))⟩;refine⟨{S with w:=W'},rfl,WJ Q hm (λb ab _=>G b (.inr (by omega))),z,aa,?_,?_,nl,nD⟩
  .rw[G l (.inl ((z l).2 (.inr (.inr (.inl rfl)))))];exact hl
  .rw[G O (.inl ((z O).2 (.inr (.inr (.inr rfl)))))];exact hD
def round_ok{ι:Type}(HM:P.follows .mixedOrders=true)(HV:D5 P V){C:Ctx}{st:ι->Ac}{a:Act}{ok0:Nat->Prop}{O l:Nat}{tm0:List (Nat×AV)}{hs:ι->Ag}{lo nx:Nat}{fn:FuncId}{ps:Array Tmp}{assign body:Code}{i j:ι}{x:List D}
 (aw: ∀i,st i=⟨tm0,hs i,nx⟩)(be:C.n0<=lo)(an:lo<=nx)(a0:belT lo tm0=true)(hg:Ac.good ⟨[],hs j,nx⟩=true)(ce: ∀o e,hget (hs j) o=some e->e.2.isView=true->o<lo)(bd:l≠O)(cn:C.w.heap.size<=l)
 (bz:chk N assign=true)(a8:DN assign=true)(b0:chk N body=true)(a9:DN body=true)(cd: ∀t∈ps.toList,t<N)(cq:x.length=ps.size)
 (ao:awp P V assign (asgQ P V body (rndQ lo nx (hs j))) ⟨parT ps.toList x tm0,hs i,nx⟩)
 {args:Array Value}{Pr:Nat->Prop}{W:World}(af: ∀ok hp,rdl ok hp x args.toList)
 (hJ:rngJ C N st a ok0 O l {state:= .ready,pending:=none,fn,tmps:=a.tmps,params:=ps,assign,body,defers:=O} i Pr W):
 YieldAt Fence.wide 0 P l args W λe W'=>e= .returned (.bool true)/\ ∃Pr',rngJ C N st a ok0 O l {state:= .ready,pending:=none,fn,tmps:=a.tmps,params:=ps,assign,body,defers:=O} j Pr' W'/\Move ok0 Pr W Pr' W':=by
 obtain⟨S,rfl,Q,aa,av,hl,hD,nl,nD⟩:=hJ;have bx:args.size=ps.size:=by
  have:=KU _ _ (af S.ok S.hp)
  simp at this;omega
 refine⟨fn,_,assign,body,run_yield hl bx,roundIn_of_wpIn trivial ?_⟩;simp only[parA_eq];have kl: ∀{C':Ctx} {S':Env},Wf C' S'->(∃r,S'.w.heap[l]? =some (.loop r))-> ¬nmB S' l:=λhW ⟨r,hr⟩ hn=>(OB hW hn).1 r hr
 have kD: ∀{C':Ctx} {S':Env},Wf C' S'->(S'.w.heap[O]? =some (.deferred (some [])))-> ¬nmB S' O:=λhW hr hn=>(OB hW hn).2 _ hr
 have b8:l<S.w.heap.size:=(Hi.1 hl).1;have br:O<S.w.heap.size:=(Hi.1 hD).1;have bt:ConE (rebC S lo []) N ⟨parT ps.toList x tm0,hs i,nx⟩ S {tmps:=parA ps.toList args.toList a.tmps,defers:=[]}:=by
  have hh:=Q.h;have ht:=Q.tm;have hm:=Q.nmH;have bh:=Q.nmT;rw[aw i] at hh ht hm bh;refine⟨reb_wf Q.wf _ _,hh,λt=> ?_,Xw _ _ _ bh,hm,?_,rfl,an,λ_ _ e' ac=>⟨e',ac,rfl,rfl,rfl⟩⟩
  .exact WR _ _ _ _ _ (af _ _) (λt ht=>by rw[Q.size];exact cd t ht) ht t
  .rw[WT];exact Q.size
 refine wpIn_mono (LP (ro:=some l) HM HV assign bz a8 _ _ _ _ ao ⟨S,rfl,bt⟩) ?_;intro e a1 w1 hq;cases e<;>simp only[toQ] at hq<;>simp only[Exit.then]
 case exit id=>obtain⟨_,h,_⟩:=hq;exact h.elim
 case ret=>obtain⟨_,h,_⟩:=hq;exact h.elim
 obtain⟨s1,bi,S1,rfl,z⟩:=hq;simp only[asgQ] at bi;have co:S.w.heap.size<=S1.w.heap.size:=z.wf.size;have bb:S1.w.heap[l]? =_:=(Jf z.wf l b8 (λZ=>kl Q.wf ⟨_,hl⟩ (GV Z))).trans hl;have bp:S1.w.heap[O]? =_:=(Jf z.wf O br (λZ=>kD Q.wf hD (GV Z))).trans hD;have bl: ¬S1.ok l:=λh=>by
  rcases Jt z.wf h with q|q|q
  .exact nl q
  .omega
  .exact kl Q.wf ⟨_,hl⟩ (GV q)
 have cf: ¬S1.ok O:=λh=>by
  rcases Jt z.wf h with q|q|q
  .exact nD q
  .omega
  .exact kD Q.wf hD (GV q)
 refine⟨_,run_beginRound bb rfl,?_⟩;obtain⟨ob,hob⟩: ∃ob,ob=Obj.loop {({state:= .ready,pending:=none,fn,tmps:=a.tmps,params:=ps,assign,body,defers:=O}:Loop) with state:= .busy}:=⟨_,rfl⟩;rw[<-hob];obtain⟨S2,hS2⟩: ∃S2:Env,S2={S1 with w:=S1.w.putObj l ob}:=⟨_,rfl⟩;have bg:=Qk (S:=S1) (o:=ob) bl (kl z.wf ⟨_,bb⟩);have bf:lo<=s1.nx:=z.n0;have ah:ConE (rebC S2 lo []) N s1 S2 a1:=by
  rw[hS2];exact Pg z bg lo bf a1 [] z.defers rfl
 have aj:S2.w=S1.w.putObj l ob:=by rw[hS2]
 have ck:S2.w.heap.size=S1.w.heap.size:=by rw[aj,World.putObj_size]
 have au:S2.w.heap[l]? =some ob:=by rw[aj];exact World.putObj_heap_same (by omega)
 have as:S2.w.heap[O]? =some (.deferred (some [])):=by rw[aj,World.putObj_heap_other bd.symm];exact bp
 rw[<-aj];refine wpIn_mono (LP (ro:=some l) HM HV body b0 a9 _ _ _ _ bi ⟨S2,rfl,ah⟩) ?_;intro e a2 w2 hq;cases e<;>simp only[toQ] at hq<;>simp only[roundPost]
 case exit id=>obtain⟨_,h,_⟩:=hq;exact h.elim
 case ret=>obtain⟨_,h,_⟩:=hq;exact h.elim
 obtain⟨s2,⟨π,bj⟩,ba⟩:=hq;obtain⟨S3,rfl,G⟩:=GO ba bj hg (Ar _) an;have bc:S3.w.heap[l]? =_:=(Jf G.wf l (by omega) (λZ=>kl ah.wf ⟨_,by rw[au,hob]⟩ (GV Z))).trans (au.trans (by rw[hob]));have bq:S3.w.heap[O]? =_:=(Jf G.wf O (by omega) (λZ=>kD ah.wf as (GV Z))).trans as;have cp:S2.w.heap.size<=S3.w.heap.size:=G.wf.size;refine⟨_,_,run_endRound none bc,rfl,?_⟩;change ∃Pr',rngJ C N st a ok0 O l ({state:= .ready,pending:=none,fn,tmps:=a.tmps,params:=ps,assign,body,defers:=O}:Loop) j Pr' (S3.w.putObj l (.loop ({state:= .ready,pending:=none,fn,tmps:=a.tmps,params:=ps,assign,body,defers:=O}:Loop)))/\Move ok0 Pr S.w Pr' (S3.w.putObj l (.loop ({state:= .ready,pending:=none,fn,tmps:=a.tmps,params:=ps,assign,body,defers:=O}:Loop)));obtain⟨rc,hrc⟩: ∃rc:Loop,rc=({state:= .ready,pending:=none,fn,tmps:=a.tmps,params:=ps,assign,body,defers:=O}:Loop):=⟨_,rfl⟩;rw[<-hrc];have ay: ∀b,ownB S2 b->ownB S1 b:=λb h=>by rw[hS2] at h;exact h
 have aq: ∀b,S2.ok b↔S1.ok b:=λb=>by rw[hS2]
 have bm: ¬S3.ok l:=λh=>by
  rcases Jt G.wf h with q|q|q
  .exact bl ((aq l).1 q)
  .omega
  .exact kl ah.wf ⟨_,by rw[au,hob]⟩ (GV q)
 have cg: ¬S3.ok O:=λh=>by
  rcases Jt G.wf h with q|q|q
  .exact cf ((aq O).1 q)
  .omega
  .exact kD ah.wf as (GV q)
 have b9:=Qk (S:=S3) (o:= .loop rc) bm (kl G.wf ⟨_,bc⟩);have bu:Wf C S1:=T3 Q.wf z.wf;have bv:Wf C S2:=by rw[hS2];exact OI bu bg (λb hb _=>World.putObj_heap_other (by omega))
 have bw:Wf C S3:=T3 bv G.wf;obtain⟨S4,hS4⟩: ∃S4:Env,S4={S3 with w:=S3.w.putObj l (.loop rc)}:=⟨_,rfl⟩;have ad:Wf C S4:=by rw[hS4];exact OI bw b9 (λb hb _=>World.putObj_heap_other (by omega))
 have ak:S4.w=S3.w.putObj l (.loop rc):=by rw[hS4]
 have am:S4.h=S3.h:=by rw[hS4]
 have hρ4:S4.ρ=S3.ρ:=by rw[hS4]
 have ab:S4.ok=S3.ok:=by rw[hS4]
 have cm:S4.w.heap.size=S3.w.heap.size:=by rw[ak,World.putObj_size]
 rw[<-ak];have ag: ∀b,b<S.w.heap.size-> ¬ownB S b->b≠l->S4.w.heap[b]? =S.w.heap[b]? :=by
  intro b hb Z az;rw[ak,World.putObj_heap_other az,Jf G.wf b (by omega) (λh=> ?_),aj,World.putObj_heap_other az,Jf z.wf b hb Z];rcases Mf z.wf (ay b h) with q|q
  .omega
  .exact Z q
 have bo: ∀b,S.ok b->S4.ok b/\S4.hp b=S.hp b:=by
  intro b hb;refine⟨by rw[ab];exact G.wf.ok0 b ((aq b).2 (z.wf.ok0 b hb)),ag b (Q.wf.oks b hb) (λh=>(I8 Q.wf h).2.1 hb) (λh=>nl (h▸hb))⟩
 have ax: ∀o,o<lo-> ∀e',S4.h o=some e'-> ∃e,S.h o=some e/\S4.ρ o=S.ρ o/\e'.2.esz=e.2.esz/\e'.2.len=e.2.len:=by
  intro o Z e' ac;rw[am] at ac;obtain⟨e,q1,q2,q3,q4⟩:=G.pre o Z e' ac
  have ci:S1.h o=some e:=by have:S2.h=S1.h:=by rw[hS2]
                             rw[<-this];exact q1
  obtain⟨e0,r1,r2,r3,r4⟩:=z.pre o Z e ci
  have cj:S3.ρ o=S1.ρ o:=by have:S2.ρ=S1.ρ:=by rw[hS2]
                             rw[<-this];exact q2
  exact⟨e0,r1,by rw[hρ4];exact cj.trans r2,q3.trans r3,q4.trans r4⟩
 have bn: ∀b,S4.ok b->S.ok b\/S.w.heap.size<=b\/ownB S b:=by
  intro b hb;rw[ab] at hb;rcases Jt G.wf hb with q|q|q
  .exact Jt z.wf ((aq b).1 q)
  .exact .inr (.inl (by omega))
  .exact .inr (Mf z.wf (ay b q))
 have cc: ∀b,(nmB S4 b\/S4.ok b\/b=l\/b=O)->Pr b\/S.w.heap.size<=b:=by
  have ai: ∀b,(S.ok b\/S.w.heap.size<=b\/ownB S b)->Pr b\/S.w.heap.size<=b:=by
   rintro b (q|q|q)
   .exact .inl ((aa b).2 (.inr (.inl q)))
   .exact .inr q
   .exact .inl ((aa b).2 (.inl (GV q)))
  rintro b (⟨o,e,lc,q1,q2,rfl⟩|q|rfl|rfl)
  .cases hmu:e.1 with
   |true=>
    have cb:ownB S3 lc.b:=⟨o,e,lc,by rw[<-am];exact q1,hmu,by rw[<-hρ4];exact q2,rfl⟩;rcases Mf G.wf cb with q|q
    .exact .inr (by omega)
    .rcases Mf z.wf (ay _ q) with q|q
     .exact .inr q
     .exact ai _ (.inr (.inr q))
   |false=>
    have h5:=(ad.loc o e lc q1 q2).2;rw[hmu] at h5;simp only[B1,Bp] at h5;rcases h5 with h5|h5
    .exact ai _ (bn _ h5)
    .have Z:=ce o e (by rw[<-G.h o,<-am];exact q1) h5;obtain⟨e0,r1,r2,_,_⟩:=ax o Z e q1;exact .inl ((aa _).2 (.inl ⟨o,e0,lc,r1,by rw[<-r2];exact q2,rfl⟩))
  .exact ai _ (bn _ q)
  .exact .inl ((aa _).2 (.inr (.inr (.inl rfl))))
  .exact .inl ((aa _).2 (.inr (.inr (.inr rfl))))
 refine⟨λb=>nmB S4 b\/S4.ok b\/b=l\/b=O,⟨S4,rfl,?_,λb=>Iff.rfl,λb hb=>(bo b (av b hb)).1,?_,?_,by rw[ab];exact bm,by rw[ab];exact cg⟩,⟨by omega,ad.os.trans Q.wf.os.symm,ad.tape.trans Q.wf.tape.symm,ad.output.trans Q.wf.output.symm,cc,?_⟩⟩
 .have ht:=Q.tm;rw[aw i] at ht;rw[aw j];refine⟨ad,λn=>by rw[am];exact G.h n,λt=> ?_,λt m hm=>CY (O1 _ a0 t m hm) an,G.nmH,Q.size,Q.defers,BK be an,λo Z e' ac=> ?_⟩
  .exact DV (X:=λo=>o<lo) ⟨bo,ax⟩ _ _ (O1 _ a0 t) (ht t)
  .obtain⟨e,q1,q2,q3,q4⟩:=ax o (CY Z be) e' ac;obtain⟨e0,r1,r2,r3,r4⟩:=Q.pre o Z e q1;exact⟨e0,r1,q2.trans r2,q3.trans r3,q4.trans r4⟩
 .rw[ak];exact World.putObj_heap_same (by omega)
 .rw[ak,World.putObj_heap_other bd.symm];exact bq
 .rintro b hb (h|h)
  .exact ag b hb (λZ=>h ((aa b).2 (.inl (GV Z)))) (λe=>h ((aa b).2 (.inr (.inr (.inl e)))))
  .exact ag b hb (λZ=>(I8 Q.wf Z).2.1 (av b h)) (λe=>nl (e▸av b h))
def Tv(w:World)(o:Obj)(k:Nat)(h:k<w.heap.size):(w.alloc o).heap[k]? =w.heap[k]? :=by
 show (w.heap.push o)[k]? =_;rw[Array.getElem?_push,Ab (by omega)]
def NJ(HM:P.follows .mixedOrders=true)(HV:D5 P V){C:Ctx}{s:Ac}{a:Act}{w:World}(hc:Con C N s a w){g:Operand}{ps:Array Tmp}{assign body:Code}{gf:Nat}{capt:List D}{X:Giv}(an:Me P gf)(bh:IterG P gf capt X)(Ok:X.I->Prop)(aa:Ok X.i0)(au: ∀i x j,Ok i->X.step i x j->Ok j)
 (bf:chk N assign=true)(ai:DN assign=true)(bg:chk N body=true)(ak:DN body=true)(bi: ∀i x j,Ok i->X.step i x j->x.length=ps.size)(bj: ∀t∈ps.toList,t<N)
 {tm0:List (Nat×AV)}{hs:X.I->Ag}{nx:Nat}(Z: ∃π,subP s.nx π s ⟨tm0,hs X.i0,nx⟩)(hg:evO tm0 g= .im (.fn gf [] capt))(af:s.nx<=nx)(be:belT s.nx tm0=true)(G: ∀i,Ok i->Ac.good ⟨tm0,hs i,nx⟩=true)
 (bl: ∀i o e,hget (hs i) o=some e->e.2.isView=true->o<s.nx)
 (Q: ∀i x j,Ok i->X.step i x j->awp P V assign (asgQ P V body (rndQ s.nx nx (hs j))) ⟨parT ps.toList x tm0,hs i,nx⟩):
 (Code.rangeFunc g ps assign body).wpIn Fence.wide 0 P (λe a' w'=> ∃i,Ok i/\X.fin i/\rngQ C N ⟨tm0,hs i,nx⟩ a e a' w') a w:=by
 obtain⟨π,av⟩:=Z;have ad:C.n0<=s.nx:=by obtain⟨_,_,h⟩:=hc;exact h.n0
 obtain⟨S,rfl,hE⟩:=GO hc av (G X.i0 aa) ad (BK ad af);have h1:conc S (.im (.fn gf [] capt)) (a.eval g):=by rw[<-hg];exact GL hE g
 simp only[conc,rd] at h1;obtain⟨A,Cc,hv,hA,aj⟩:=h1;have az:A= #[]:=by simpa[rdl] using hA
 rw[II an.1,az] at hv;refine wpIn_rangeFunc ?_;intro fn bq;have a0:C.w.heap.size<=S.w.heap.size:=hE.wf.size;obtain⟨rc,hrc⟩: ∃rc:Loop,rc={state:= .ready,pending:=none,fn,tmps:=a.tmps,params:=ps,assign,body,defers:=S.w.heap.size}:=⟨_,rfl⟩;obtain⟨z,hW1⟩: ∃z,z=(S.w.alloc (.deferred (some []))).alloc (.loop rc):=⟨_,rfl⟩;have bo:z.heap.size=S.w.heap.size+2:=by rw[hW1];simp
 have bb:z.heap[S.w.heap.size+1]? =some (.loop rc):=by
  rw[hW1];have:=World.alloc_heap_new (S.w.alloc (.deferred (some []))) (.loop rc);rwa [World.size_alloc] at this
 have ba:z.heap[S.w.heap.size]? =some (.deferred (some [])):=by
  rw[hW1];exact (Tv _ _ _ (by simp)).trans (World.alloc_heap_new S.w _)
 have hbel: ∀b,b<S.w.heap.size->z.heap[b]? =S.w.heap[b]? :=λb hb=>by
  rw[hW1,Tv _ _ _ (by simp;omega),Tv _ _ _ hb]
 have hm:Hf S z:=YO hE.wf (by omega) (by rw[hW1];rfl) (by rw[hW1];rfl) (by rw[hW1];rfl) hbel;have ah:ConE C N ⟨tm0,hs X.i0,nx⟩ {S with w:=z} a:=WJ hE hm (λb hb _=>hbel b (by omega));have ac:rdl S.ok (λb=>z.heap[b]?) capt Cc.toList:=Ff (Om hm λ_=>True).ok _ _ aj;refine⟨S.w.heap.size+1,[{target:= .collected S.w.heap.size,args:= #[]}],z,{target:= .fn (.func gf) Cc,args:= #[.func (.yield (S.w.heap.size+1)) #[] #[]]},z,gf,
  #[.func (.yield (S.w.heap.size+1)) #[] #[]]++Cc,z,?_,?_,λ_ _=>trivial,?_,λh=>(by cases h),?_⟩
 .rw[hW1,hrc];exact run_enterLoop_outer _ _ _ _ _
 .simp only[resolve,hv];simp[go_sem]
 .simp[invoke,go_sem,Oz an]
 refine callsIn_wide.2 (Calls.mono (bh C {S with w:=z} Cc (S.w.heap.size+1) (λi Pr W=>Ok i/\rngJ C N (λi=>⟨tm0,hs i,nx⟩) a S.ok S.w.heap.size (S.w.heap.size+1) rc i Pr W) ah.wf ac ?_ ?_ ?_) ?_)
 .rintro i Pr W ⟨hi,hJ⟩;obtain⟨q1,q2⟩:=RJ (base:=z.heap.size) (by omega) i Pr W hJ;exact⟨q1,λW' h1 h2 h3 h4 h5=>⟨hi,q2 W' h1 h2 h3 h4 h5⟩⟩
 .rintro i x j args Pr W hx ab ⟨hi,hJ⟩;have aq:=au i x j hi hx;have ao:=G j aq;simp only[Ac.good,Av] at ao;rw[hrc] at hJ⊢;have h9:=round_ok HM HV (st:=λi=>⟨tm0,hs i,nx⟩) (λ_=>rfl) ad af be (by simp only[Ac.good,belT,BY,Av];exact ao.2) (bl j) (by omega) (by omega) bf ai bg ak bj (bi i x j hi hx) (Q i x j hi hx) ab hJ;obtain⟨ay,ag,aw,ax,r1,r2⟩:=h9;refine⟨ay,ag,aw,ax,r1,RoundIn.mono r2 ?_⟩;rintro e W' ⟨he,Pr',a9,hM⟩;exact⟨he,Pr',⟨aq,a9⟩,hM⟩
 .exact⟨_,aa,{S with w:=z},rfl,ah,λb=>Iff.rfl,λb hb=>hb,bb,ba,λh=>Vx _ (CY (hE.wf.oks _ h) (Nat.le_succ _)),λh=>Vx _ (hE.wf.oks _ h)⟩
 .rintro e W2 ⟨v,Pr,i,rfl,am,bc,S2,rfl,O,bp,br,hl,hD,nl,nD⟩;refine⟨none,_,by have:=run_endLoop (P:=P) hl (by rw[hrc];simp);rw[hrc] at this;exact this,?_⟩;obtain⟨ob,hob⟩: ∃ob:Obj,ob= .loop {({state:= .ready,pending:=none,fn,tmps:=a.tmps,params:=ps,assign,body,defers:=S.w.heap.size}:Loop) with state:= .exhausted}:=⟨_,rfl⟩;simp only[<-hob];have bn: ¬nmB S2 (S.w.heap.size+1):=λhn=>(OB O.wf hn).1 _ hl
  have bm: ¬nmB S2 S.w.heap.size:=λhn=>(OB O.wf hn).2 _ hD
  have as:=Qk (S:=S2) (o:=ob) nl bn;have a8:S.w.heap.size<S2.w.heap.size:=(Hi.1 hD).1;have bd:Wf C {S2 with w:=S2.w.putObj (S.w.heap.size+1) ob}:=OI O.wf as (λb hb _=>World.putObj_heap_other (by omega));refine⟨i,bc,am,_,_,S.w.heap.size,rfl,Pg O as s.nx af _ ({target:= .collected S.w.heap.size,args:= #[]}::a.defers) rfl rfl,λS' h=>T3 bd h,rfl,rfl,?_,λh=>bm (GV h),nD,a0,?_⟩
  .show _<(S2.w.putObj _ _).heap.size;rw[World.putObj_size];exact a8
  .show (S2.w.putObj _ _).heap[_]? =_;rw[World.putObj_heap_other (by omega)];exact hD
def range_wp(HM:P.follows .mixedOrders=true)(HV:D5 P V){C:Ctx}{s:Ac}{a:Act}{w:World}(hc:Con C N s a w){g:Operand}{ps:Array Tmp}{assign body:Code}{gf:Nat}{capt:List D}{xs:List (List D)}(ad:Me P gf)(af:IterOk P gf capt xs)
 (ab:chk N assign=true)(Q:DN assign=true)(ac:chk N body=true)(Z:DN body=true)(ah: ∀x∈xs,x.length=ps.size)(ai: ∀t∈ps.toList,t<N)
 {tm0:List (Nat×AV)}{hs:Nat->Ag}{nx:Nat}(G: ∃π,subP s.nx π s ⟨tm0,hs 0,nx⟩)(hg:evO tm0 g= .im (.fn gf [] capt))(ag:s.nx<=nx)(aa:belT s.nx tm0=true)(O: ∀i,i<=xs.length->Ac.good ⟨tm0,hs i,nx⟩=true)
 (aj: ∀i o e,hget (hs i) o=some e->e.2.isView=true->o<s.nx)
 (z: ∀i x,xs[i]? =some x->awp P V assign (asgQ P V body (rndQ s.nx nx (hs (i+1)))) ⟨parT ps.toList x tm0,hs i,nx⟩):
 (Code.rangeFunc g ps assign body).wpIn Fence.wide 0 P (rngQ C N ⟨tm0,hs xs.length,nx⟩ a) a w:=by
 refine wpIn_mono (NJ HM HV hc (X:=givL xs) ad af (λ(i:Nat)=>i<=xs.length) (Bj _) (λi x j _ hx=> ?_) ab Q ac Z (λi x j _ hx=>ah x (Ax hx.1)) ai G hg ag aa O aj (λi x j _ hx=> ?_)) ?_
 .obtain⟨h1,rfl⟩:=hx;exact (Ba.1 h1).1
 .obtain⟨h1,rfl⟩:=hx;exact z i x h1
 .rintro e a' w' ⟨i,_,rfl,h⟩;exact h
end
def Pk(G z:Ctx)(ds:List Deferred):Prop:=
 ds=[]\/ ∃D:Nat,ds=[{target:= .collected D,args:= #[]}]/\D<z.w.heap.size/\ ¬z.M D/\ ¬z.ok D/\G.w.heap.size<=D/\z.w.heap[D]? =some (.deferred (some []))
def rngP(G:Ctx)(N:Nat)(Q:Be):Exit->Act->World->Prop
 | .normal,a,w=> ∃s z,Q .normal s/\Con z N s a w/\(∀S',Wf z S'->Wf G S')/\Pk G z a.defers
 | .ret,a,w=> ∃s z,Q .ret s/\Con z N s a w/\(∀S',Wf z S'->Wf G S')/\Pk G z a.defers
 |_,_,_=>False
def retX(P:Program)(z:List ResultVar)(Q:Ac->List AV->Prop)(s:Ac):Prop:= ∃xs,mapO (ER P s) z=some xs/\Q s xs
def retXQ(P:Program)(z:List ResultVar)(Q:Ac->List AV->Prop):Be
 | .normal,s=>retX P z Q s
 | .ret,s=>retX P z Q s
 | .exit _,_=>False
def N8{P:Program}{g:FuncId}{fn:Func}{c:Code}(hf:P.funcs[g]? =some fn)(hb:fn.body=some c)
 {ps:List PK}(aw:ps.length<=fn.ntmps){Q:Ac->List AV->Prop}
 (hk: ∀(z:Ctx) (a:Act) (w:World),z.w=w->z.n0=0->Con z fn.ntmps ⟨entry 0 (B7 0 ps),BH 0 ps,cnum ps⟩ a w->a.defers=[]->c.wpIn Fence.wide 0 P (rngP z fn.ntmps (retXQ P fn.results.toList Q)) a w)
 {C:Ctx}{S:Env}{vs:Array Value}{RR:Ending->World->Prop}(hW:Wf C S)(ag:PKL S ps vs.toList)
 (ad: ∀(v:Value) (z:Ctx) (S1:Env) (s:Ac) (xs:List AV),z.w=S.w->z.ok=S.ok->(∀b,¬z.M b)->Wf z S1->(∀n,S1.h n=hget s.h n)->Q s xs->conc S1 (resV xs) v->RR (.returned v) S1.w):Calls P g vs S.w RR:=by
 refine callsIn_wide.1 (callsIn_of_wp_marks (n:=0) hf hb trivial ?_);have au:vs.size=(B7 0 ps).length:=by rw[Je];simpa using ag.len
 obtain⟨ls,af,hcl⟩:=OV ps vs.toList 0 ag
 let S0:Env:=⟨ls,S.ok,hget (BH 0 ps),S.w⟩
 let z:Ctx:=⟨S.w,λ_=>False,S.ok,0,λ_=>none,λ_=>none,[]⟩
 have am:Wf z S0:=by
  refine⟨rfl,rfl,rfl,Ar _,λ_ _ _=>rfl,λ_ hb=>hb,λ_ hb=> .inl hb,hW.oks,?_,?_,?_,hW.glN λ_ h=>h.elim⟩
  .intro n e G;obtain⟨l,h1,_,h3⟩:=af n e G;have h4:S0.ρ n=some l:=h1;rw[h4];obtain⟨_,cs,rfl⟩:=DT 0 ps n e G;simp only[objc] at h3⊢;exact h3
  .intro n e l G hl;obtain⟨l',h1,h2,h3⟩:=af n e G;have h4:S0.ρ n=some l':=h1;rw[h4] at hl;obtain rfl:=Al hl;obtain⟨_,cs,rfl⟩:=DT 0 ps n e G;exact⟨h2,.inr rfl⟩
  .intro n n' e e' l l' G aq hl a0 az as;obtain⟨_,cs,rfl⟩:=DT 0 ps n e G;obtain⟨_,ax,rfl⟩:=DT 0 ps n' e' aq;simp at as
 have ao:Con z fn.ntmps ⟨entry 0 (B7 0 ps),BH 0 ps,cnum ps⟩ {tmps:=vs++Array.replicate (fn.ntmps - vs.size) undef,defers:=[]} S.w:=by
  have Z:Ap S0 (B7 0 ps) vs.toList:=hcl S0 rfl rfl (λn _=>⟨rfl,rfl⟩);refine⟨S0,rfl,am,λn=>rfl,?_,?_,?_,by simp;rw[Je] at au;omega,rfl,Bj _,λo ho=>absurd ho (M4 _)⟩
  .intro t;have h1:=LK (S:=S0) (B7 0 ps) vs.toList 0 t Z;simp only[Bj,AQ,JA] at h1
   have:({tmps:=vs++Array.replicate (fn.ntmps - vs.size) undef,defers:=[]}:Act).eval (.tmp t)=(vs.toList[t]?).getD undef:=by
    simp only[Act.eval,DO,P9,L0];by_cases ht:t<vs.size
    .simp[ht]
    .simp only[ht,Bp]
     have:vs[t]? =none:=IT (by omega)
     simp only[Dx,this]
     split<;>rfl
   rw[this];exact h1
  .intro t m hm;exact O0 0 ps (cnum ps) (by omega) m (LS (B7 0 ps) 0 t m hm)
  .intro n e G;obtain⟨h1,cs,rfl⟩:=DT 0 ps n e G;exact⟨by show n<cnum ps;omega,by simp[AObj.nms]⟩
 refine wpIn_mono (hk z _ _ rfl rfl ao rfl) ?_;have fin: ∀(s:Ac) (C2:Ctx) (S1:Env) (a:Act),retX P fn.results.toList Q s->ConE C2 fn.ntmps s S1 a->Wf z S1-> ∃v,(results fn a.tmps).run P S1.w= .ok v S1.w/\RR (.returned v) S1.w:=by
  rintro s C2 S1 a ⟨xs,av,hr⟩ hc an;obtain⟨v,ah,ab⟩:=Og hc av;exact⟨v,ah,ad v z S1 s xs rfl rfl (λ_ h=>h) an hc.h hr ab⟩
 have aa: ∀(a:Act) (w:World),(∃s C2,retX P fn.results.toList Q s/\Con C2 fn.ntmps s a w/\(∀S',Wf C2 S'->Wf z S')/\Pk z C2 a.defers)->LeavesInM Fence.wide 0 P fn a.tmps RR a.defers .returning w:=by
  rintro a w ⟨s,C2,hr,⟨S1,rfl,hc⟩,O,hM⟩;rcases hM with hM|⟨D,hM,ai,ac,aj,ay,ak⟩
  .rw[hM];simp only[LeavesInM,LeavesIn];exact fin s C2 S1 a hr hc (O _ hc.wf)
  .rw[hM];have hh:S1.w.heap[D]? =some (.deferred (some [])):=(hc.wf.keep D ai ac).trans ak;have nk: ¬nmB S1 D:=λhn=>(OB hc.wf hn).2 _ hh
   have no: ¬S1.ok D:=λh=>by
    rcases hc.wf.ok1 D h with q|q|q
    .exact aj q
    .omega
    .exact ac q
   have hm:=Qk (S:=S1) (o:= .deferred none) no nk;refine⟨by simp,.inl ⟨D,_,rfl,run_takeDeferred hh,?_⟩⟩;simp only[LeavesInM,LeavesIn];exact fin s _ {S1 with w:=S1.w.putObj D (.deferred none)} a hr (Pg hc hm 0 (Bj _) a a.defers rfl rfl) (OI (O _ hc.wf) hm (λb hb _=>World.putObj_heap_other (by omega)))
 intro e a w G;cases e<;>simp only[rngP] at G<;>simp only[bodyPostM]
 .exact aa a w G
 .exact aa a w G
def view_runR{P:Program}{g:FuncId}{fn:Func}{c:Code}(hf:P.funcs[g]? =some fn)(hb:fn.body=some c)
 {ps:List PK}(O:ps.length<=fn.ntmps){R:D->Prop}
 (hk: ∀(z:Ctx) (a:Act) (w:World),z.w=w->z.n0=0->Con z fn.ntmps ⟨entry 0 (B7 0 ps),BH 0 ps,cnum ps⟩ a w->a.defers=[]->c.wpIn Fence.wide 0 P (rngP z fn.ntmps (J1 P fn.results.toList R)) a w)
 {C:Ctx}{S:Env}{vs:Array Value}{RR:Ending->World->Prop}(hW:Wf C S)(ab:PKL S ps vs.toList)
 (G: ∀(v:Value) (z:Ctx) (S1:Env) (d:D),z.w=S.w->z.ok=S.ok->(∀b,¬z.M b)->Wf z S1->R d->rd (okF z S1) S1.hp d v->RR (.returned v) S1.w):Calls P g vs S.w RR:=by
 have Z: ∀s,retF P fn.results.toList R s->retX P fn.results.toList (λs xs=>frP (hget s.h) R (resV xs)) s:=by
  intro s h;unfold retF at h;cases hx:mapO (ER P s) fn.results.toList with
  |none=>rw[hx] at h;exact h.elim
  |some xs=>rw[hx] at h;exact⟨xs,hx,h⟩
 refine N8 hf hb O (Q:=λs xs=>frP (hget s.h) R (resV xs)) (λz a w h1 h2 h3 h4=>wpIn_mono (hk z a w h1 h2 h3 h4) ?_) hW ab ?_
 .intro e a w h;cases e<;>simp only[rngP] at h⊢
  .obtain⟨s,C2,g1,g2⟩:=h;exact⟨s,C2,Z s g1,g2⟩
  .obtain⟨s,C2,g1,g2⟩:=h;exact⟨s,C2,Z s g1,g2⟩
 .intro v z S1 s xs g1 g2 g3 g4 g5 g6 g7;have aa:hget s.h=S1.h:=(funext g5).symm;rw[aa] at g6;obtain⟨d,h1,h2⟩:=UN g3 g4 g6 g7;exact G v z S1 d g1 g2 g3 g4 h1 h2
end Go.Ae
