/- Lemmas. Conditions: none. -/
import Derived.Test.YtofkcjmhpnkjhaaGreatP09
import Derived.RangeFuncNested
import Derived.RangeFuncLeaves
import Derived.OrdersIn
set_option linter.all false
set_option maxHeartbeats 8000000
set_option maxRecDepth 100000
namespace Go.Ae
open Go.Proofs
def Qf3(nm:List Int):List Bond->List Bond
 |[]=>[]
 |b::r=>if nmOf nm b.A=nmOf nm b.B then Qf3 nm r else ⟨nmOf nm b.A,nmOf nm b.B,b.Strength⟩::Qf3 nm r
theorem Qvj(nm:List Int): ∀(a b:List Bond),Qf3 nm (a++b)=Qf3 nm a++Qf3 nm b
 |[],b=>rfl
 |x::r,b=>by simp only[ZaA,Qf3,Qvj nm r b];split<;>rfl
theorem Qpl(nm:List Int): ∀(a:List Bond),(Qf3 nm a).length<=a.length
 |[]=>Zap _
 |x::r=>by have:=Qpl nm r;simp only[Qf3];split<;>simp only[ZaE]<;>omega
theorem Qab6(nm:List Int){bs:List Bond}{k:Nat}{b:Bond}(h:bs[k]? =some b):Qf3 nm (bs.take (k+1))=Qf3 nm (bs.take k)++if nmOf nm b.A=nmOf nm b.B then [] else [⟨nmOf nm b.A,nmOf nm b.B,b.Strength⟩]:=by
 rw[ZbO,h];simp only[ZdP,Qvj,Qf3]
def conN(n:Int)(bs:List Bond)(t:Int):Int×List Bond:=((Qd2 n bs t).length,Qf3 (Qoz n.toNat (Qd2 n bs t)) bs)
theorem dlC.H0_dom(a:List Bond×Int)(j:Nat):domB (dlC.H0 a) j=true↔j<1:=by
 simp only[domB,dlC.H0,hget];by_cases h0:j=0
 .subst h0;simp
 .have e0:(0==j)=false:=by simp;omega
  simp[e0];omega
def contr.fv(a:Int×(List Bond)×Int):Int×(List Bond):=(conN) (a.1) (a.2.1) (a.2.2)
def contr.row:Row:=vK (b3 qI (qS Bond.d_le Bond.c_n) qI) (r2 rI (rS Bond.d_le Bond.c_n)) (fun a=>0<=a.1/\a.1<=512/\Qdm a.1 a.2.1/\a.2.1.length<=1000000) contr.fv
def contr.q:=vKq (R:=contr.row) rfl
def Yaz:=J @contr.fv.eq_1 (J @groupsBy_.q @groupsBy_.fv.eq_1)
theorem contr.ok:Qas Tryz.prog 133 contr.row:=by
 refine vw (tC clobC.ok (tC dlC.ok (tC groupsBy_.ok tN))) Tryz.func133 rfl (by kernel_rfl) ?_;intro a hpre;simp only[Tryz.f133,Option.getD];simp(maxSteps:=9^9)(disch:=omega)only[ZZ,simprocAttr,rch,Yaz];obtain⟨h0,h1,hbs,hbl⟩:=hpre;obtain⟨n,hn⟩: ∃n:Nat,a.1=n:=⟨a.1.toNat,by omega⟩;obtain⟨bs,hbsd⟩: ∃bs,bs=a.2.1:=⟨_,rfl⟩;obtain⟨t,ht⟩: ∃t,t=a.2.2:=⟨_,rfl⟩;simp only[hn,<-hbsd,<-ht] at h0 h1 hbs hbl⊢;refine orow.os bs [] hbl (fun j=>by simp[domB,hget]) rfl rfl ?_ ?_
 .simp(maxSteps:=9^9)(disch:=omega)only[ZZ,simprocAttr,rch,Yaz,clobC.ca,Qer]
 simp(maxSteps:=9^9)(disch:=omega)only[ZZ,simprocAttr,rch,Yaz,clobC.H1,sub];left;refine orow.os (bs,t) [2] hbl (fun j=>dlC.H0_dom _ j) rfl rfl ?_ ?_
 .simp(maxSteps:=9^9)(disch:=omega)only[ZZ,simprocAttr,rch,Yaz,dlC.ca,dlC.H0,ZaQ,Zak]
 simp(maxSteps:=9^9)(disch:=omega)only[ZZ,simprocAttr,rch,Yaz,dlC.H1,sub];have hpre2:grpPre ((n:Int),Qdc t bs):=⟨by simp only;omega,by simp only;omega,fun b hb=>hbs b (Zdr.1 hb).1,by have:=Qln t bs;simp only;omega⟩;refine⟨hpre2,by omega,?_⟩;obtain⟨gs,hgs⟩: ∃gs,gs=Qf2 (n:Int) (Qdc t bs):=⟨_,rfl⟩;have hgm: ∀r∈gs,∀v∈r,0<=v/\v<n:=by rw[hgs];exact Qps n _
 simp only[<-hgs];intro hgl;refine Qay.old ⟨{i:Nat//i<=gs.length},fun i=>⟨[(27,.im (.int .i64 i.1)),(26,.im (.int .i64 gs.length)),(25,.im (.sl false 1 (gs.map Qcd))),(9,.own 1022),(8,.im (.sl false 1 (gs.map Qcd))),(1,.im (.sl false 3 (bs.map Bond.c)))],[(1022,(true,.arr 2 1 ((Qjt gs (List.replicate n 0) i.1).map intC)))],1023⟩,fun i=>gs.length - i.1,fun i=>⟨by simp[Qad.good,belT,belH,Qam,AV.bel,belL],by simp⟩,⟨⟨0,by simp⟩,?_⟩,fun i=> ?_⟩
 .simp(maxSteps:=9^9)(disch:=omega)only[ZZ,simprocAttr,rch,Yaz,sub,Qjt,Qot]
 obtain⟨i,hi1⟩:=i;simp(maxSteps:=9^9)(disch:=omega)only[ZZ,simprocAttr,rch,Yaz,sub,Qal];refine⟨fun hi=>⟨hi,fun r hr=> ?_⟩,fun hi=> ?_⟩
 .have hrm:=hgm r (Zaf hr);obtain⟨l,hl⟩: ∃l,l=Qjt gs (List.replicate n 0) i:=⟨_,rfl⟩;have hll:l.length=n:=by rw[hl,Qij,ZbC]
  simp only[<-hl];intro hrl;refine Qay.old ⟨{k:Nat//k<=r.length},fun k=>⟨[(34,.im (.int .i64 k.1)),(33,.im (.int .i64 r.length)),(32,.im (.sl false 1 (r.map intC))),(10,.im (.int .i64 i)),(27,.im (.int .i64 i)),(26,.im (.int .i64 gs.length)),(25,.im (.sl false 1 (gs.map Qcd))),(9,.own 1022),(8,.im (.sl false 1 (gs.map Qcd))),(1,.im (.sl false 3 (bs.map Bond.c)))],[(1022,(true,.arr 2 1 ((Qmz i r l k.1).map intC)))],1023⟩,fun k=>r.length - k.1,fun k=>⟨by simp[Qad.good,belT,belH,Qam,AV.bel,belL],by simp⟩,⟨⟨0,by simp⟩,?_⟩,fun k=> ?_⟩
  .simp(maxSteps:=9^9)(disch:=omega)only[ZZ,simprocAttr,rch,Yaz,sub,Qmz]
  obtain⟨k,hk1⟩:=k;have hnl:=Qkb (i:Int) r l k;simp(maxSteps:=9^9)(disch:=omega)only[ZZ,simprocAttr,rch,Yaz,sub,Qal,hr,hnl,Qdj];refine⟨fun hk=>⟨hk,fun v hv=> ?_⟩,fun hk=> ?_⟩
  .obtain⟨v1,v2⟩:=hrm v (Zaf hv);refine⟨v1,by omega,by omega,fun _ _=>⟨⟨k+1,by omega⟩,by simp only;omega,by rw[Qak (by omega) (by omega)];simp only;omega,?_⟩⟩;simp only[Qmz,hv,Zag]
  .have:k=r.length:=by omega
   refine⟨⟨i+1,by omega⟩,by simp only;omega,by rw[Qak (by omega) (by omega)];simp only;omega,?_⟩;simp only[Qjt,hr,Zag,<-hl,this]
 .have hie:i=gs.length:=by omega
  subst hie;obtain⟨nm,hnm⟩: ∃nm,nm=Qjt gs (List.replicate n 0) gs.length:=⟨_,rfl⟩;have hnl:nm.length=n:=by rw[hnm,Qij,ZbC]
  simp only[<-hnm];intro hbl2;refine Qay.ren ⟨{k:Nat//k<=bs.length},fun k=>⟨[(46,.im (.int .i64 k.1)),(45,.im (.int .i64 bs.length)),(44,.im (.sl false 3 (bs.map Bond.c))),(14,.own 1024),(9,.own 1022),(8,.im (.sl false 1 (gs.map Qcd)))],[(1024,(true,.arr 175 3 ((Qf3 nm (bs.take k.1)).map Bond.c))),(1022,(true,.arr 2 1 (nm.map intC)))],1025⟩,fun k=>bs.length - k.1,fun k=>⟨by simp[Qad.good,belT,belH,Qam,AV.bel,belL],by simp⟩,⟨⟨0,by simp⟩,[(1024,some 1023)],?_⟩,fun k=> ?_⟩
  .simp only[subP];simp(maxSteps:=9^9)(disch:=omega)only[ZZ,simprocAttr,rch,Yaz,Zab,Zaa];rfl
  obtain⟨k,hk1⟩:=k;have hsl:=Qpl nm (bs.take k);rw[Zau] at hsl;simp(maxSteps:=9^9)(disch:=omega)only[ZZ,simprocAttr,rch,Yaz,sub,Qal,Qag,Qac,Qaf,allD,D.one,ZaX,Zcl,Zdi];refine⟨fun hk=>⟨hk,fun b hb=> ?_⟩,fun hk=> ?_⟩
  .obtain⟨b1,b2,b3,b4⟩:=hbs b (Zaf hb);refine⟨b1,by omega,by omega,fun x hx=>⟨b3,by omega,by omega,fun y hy=> ?_⟩⟩;have e1:nmOf nm b.A=x:=by simp only[nmOf,hx,Zag]
   have e2:nmOf nm b.B=y:=by simp only[nmOf,hy,Zag]
   have hsu:=Qab6 nm hb;rw[e1,e2] at hsu;refine⟨fun hxy=>⟨b1,by omega,by omega,fun x' hx'=>⟨b3,by omega,by omega,fun y' hy'=>⟨by omega,⟨k+1,by omega⟩,[(1024,some 1027)],by simp only;omega,?_⟩⟩⟩,fun hxy=>⟨⟨k+1,by omega⟩,[],by simp only;omega,?_⟩⟩
   .rw[hx] at hx';rw[hy] at hy';obtain rfl:=Zac hx';obtain rfl:=Zac hy';simp only[subP];simp(maxSteps:=9^9)(disch:=omega)only[ZZ,simprocAttr,rch,Yaz,Zab,Zaa,hsu];rw[Qak (by omega) (by omega),Zaj hxy];simp[Bond.c]
   .simp only[subP];simp(maxSteps:=9^9)(disch:=omega)only[ZZ,simprocAttr,rch,Yaz,Zab,Zaa,hsu];rw[Qak (by omega) (by omega),Zao (Zbc.1 hxy),ZaK];simp
  .have:k=bs.length:=by omega
   subst this;rw[ZbP];intro _;simp only[conN,Qd2,Qoz,Zam,<-hgs,<-hnm]
end Go.Ae
namespace Go.Ae
open Go
def Op.calm:Op->Bool
 | .defer _=>false
 |o=> !Go.Ae.Op.comm o
def Qhw(ops:Array Oper):Bool:=ops.toList.all fun o=>Go.Ae.Op.calm o.op
theorem Qgq{ops:Array Oper}(h:Qhw ops=true){i:Nat}{o:Oper}(ho:ops[i]? =some o):Go.Ae.Op.calm o.op=true:=by
 unfold Qhw at h;rw[Zbv] at h;exact h o (Zaf (by simpa using ho))
def wR(ro:Option Nat):Fence:={Fence.wide with round:=ro}
def Qis:Code->Bool
 | .region _ ops _=>Qhw ops
 | .seq a b=>Qis a && Qis b
 | .cond _ a b=>Qis a && Qis b
 | .block _ c=>Qis c
 | .loop c=>Qis c
 |_=>true
section
variable {P:Program}{ro:Option Nat}{n:Nat}
theorem Qlw{o:Oper}{a:Act}{w:World}{next next':Act->World->Prop}{Q:Exit->Act->World->Prop}(hc:Go.Ae.Op.calm o.op=true)(hm: ∀a w,next a w->next' a w)(h:o.wp P a w next (fun _ _ _=>False)):
 o.wpIn (wR ro) n P a w next' Q:=by
 refine⟨fun _ _=>trivial,?_⟩;have e:o.semAt (wR ro).round a.eval=execOp a.eval o:=Oper.semAt_eq _ _ _ (fun c hcc=>by rw[hcc] at hc;cases hc);rw[e];unfold Oper.wp at h;have hno: ¬LetsOut (fun _ _ _=>False):=fun ⟨_,_,h⟩=>h
 cases hr:(execOp a.eval o).run P w with
 |ok x w'=>
  rw[hr] at h;cases x<;>simp only[Oper.upon] at h<;>try exact h.elim
  case value v=>exact hm _ _ h
  case skip=>exact hm _ _ h
  case defer d=>exact hm _ _ h
  case enter f args=>
   refine⟨fun hd=>(by cases hd),?_⟩;have h1:CallsIn Fence.wide (n - 1) P f args w' _:=callsIn_wide.2 h;refine (show CallsIn Fence.wide (n - 1) P f args w' _ from CallsIn.mono h1 ?_);intro e w'' he;cases e with
   |returned v=>exact hm _ _ he
   |panicked c=>exact he.elim
   |outgrown=>exact (hno he).elim
  case row row args=>
   refine⟨fun hd=>(by cases hd),?_⟩;intro c cs _;obtain⟨v,w'',hR,hs⟩:=h c cs;exact⟨v,w'',hm _ _ hR,stepsIn_wide.2 hs⟩
 |halt x w'=>
  rw[hr] at h;cases x<;>simp only[Oper.upon] at h
theorem Qhf{ops:Array Oper}(hcalm:Qhw ops=true){Q:Exit->Act->World->Prop}: ∀(ls:List Nat) (a:Act) (w:World),Qkr P ops (Q .normal) ls a w->wpOpsIn (wR ro) n P ops Q ls a w
 |[],a,w,h=>h
 |i::rest,a,w,h=>by
  simp only[Qkr] at h;simp only[wpOpsIn];cases ho:ops[i]? with
  |none=>rw[ho] at h;exact Qhf hcalm rest a w h
  |some o=>
   rw[ho] at h;simp only at h⊢;split
   .rename_i hw;rw[Zao hw] at h;rcases h with ⟨o',h1,_,h3⟩|⟨h1,_⟩
    .rw[ho] at h1;obtain rfl:=Zac h1;exact Qlw (Qgq hcalm ho) (fun a w h=>Qhf hcalm rest a w h) h3
    .have h2:=h1 o ho;have h3:=Qgq hcalm ho;exfalso;cases hop:o.op<;>rw[hop] at h2 h3<;>simp[Op.comm,Op.calm] at h2 h3
   .rename_i hw;rw[Zaj hw] at h;exact⟨fun _ _=>trivial,Qhf hcalm rest _ w h⟩
theorem Qha{ops:Array Oper}(hcalm:Qhw ops=true){K:Act->World->Prop}{Q:Exit->Act->World->Prop}{l2:List Nat}(hK: ∀a w,K a w->wpOpsIn (wR ro) n P ops Q l2 a w): ∀(ls:List Nat) (a:Act) (w:World),Qkr P ops K ls a w->wpOpsIn (wR ro) n P ops Q (ls++l2) a w
 |[],a,w,h=>hK a w h
 |i::rest,a,w,h=>by
  simp only[Qkr] at h;simp only[ZaA,wpOpsIn];cases ho:ops[i]? with
  |none=>rw[ho] at h;exact Qha hcalm hK rest a w h
  |some o=>
   rw[ho] at h;simp only at h⊢;split
   .rename_i hw;rw[Zao hw] at h;rcases h with ⟨o',h1,_,h3⟩|⟨h1,_⟩
    .rw[ho] at h1;obtain rfl:=Zac h1;exact Qlw (Qgq hcalm ho) (fun a w h=>Qha hcalm hK rest a w h) h3
    .have h2:=h1 o ho;have h3:=Qgq hcalm ho;exfalso;cases hop:o.op<;>rw[hop] at h2 h3<;>simp[Op.comm,Op.calm] at h2 h3
   .rename_i hw;rw[Zaj hw] at h;exact⟨fun _ _=>trivial,Qha hcalm hK rest _ w h⟩
theorem Qfr{ops:Array Oper}(hcalm:Qhw ops=true){Q:Exit->Act->World->Prop}(hno: ¬LetsOut Q)(hnp: ∀c a w,¬Q (.panic c) a w): ∀(fuel:Nat) (listed:Array Bool) (a:Act) (w:World),wpAny P .any ops Q fuel listed a w->wpAnyIn (wR ro) n P .any ops Q fuel listed a w
 |0,listed,a,w,h=>h
 |fuel+1,listed,a,w,h=>by
  simp only[wpAny] at h;simp only[wpAnyIn];refine⟨h.1,fun i hi=> ?_⟩;have h1:=h.2 i hi;unfold wpOp at h1;unfold wpOpIn;cases ho:ops[i]? with
  |none=>rw[ho] at h1;exact Qfr hcalm hno hnp fuel _ a w h1
  |some o=>
   rw[ho] at h1;simp only at h1⊢;split
   .rename_i hw;rw[Zao hw] at h1;rcases h1 with h1|h1
    .refine Qlw (Qgq hcalm ho) (fun a w h=>Qfr hcalm hno hnp fuel _ a w h) ?_;unfold Oper.wp at h1⊢;cases hr:(execOp a.eval o).run P w with
     |ok x w'=>
      rw[hr] at h1;cases x<;>simp only[Oper.upon] at h1⊢ <;>try exact h1
      refine Calls.mono h1 ?_;intro e w'' he;cases e with
      |returned v=>exact he
      |panicked c=>exact hnp _ _ _ he
      |outgrown=>exact (hno he).elim
     |halt x w'=>
      rw[hr] at h1;cases x<;>simp only[Oper.upon] at h1⊢ <;>try exact h1
      exact hnp _ _ _ h1
    .exact (hno h1.2).elim
   .rename_i hw;rw[Zaj hw] at h1;exact⟨fun _ _=>trivial,Qfr hcalm hno hnp fuel _ _ w h1⟩
end
section
variable {P:Program}{V:Qbh}{C:Ctx}{N n:Nat}{ro:Option Nat}
theorem toQ_out{Q:Qbl}: ¬LetsOut (toQ C N Q):=fun ⟨_,_,h⟩=>h
theorem toQ_panic{Q:Qbl}: ∀c a w,¬toQ C N Q (.panic c) a w:=fun _ _ _ h=>h
theorem Qgd(HM:P.follows .mixedOrders=true)(HV:Qd1 P V): ∀(c:Code),chk N c=true->Qis c=true-> ∀(Q:Qbl) (s:Qad) (a:Act) (w:World),awp P V c Q s->Con C N s a w->c.wpIn (wR ro) n P (toQ C N Q) a w:=by
 intro c;induction c with
 |skip=>intro _ _ Q s a w h hc;exact wpIn_skip ⟨s,h,hc⟩
 |region id ops draw=>
  intro hk hl Q s a w h hc;simp only[chk,Zah] at hk;cases draw with
  |true=>exact wpIn_region_any HM (Qfr hl toQ_out toQ_panic _ _ _ _ (Qog HV (fun s a w h1 h2=>⟨s,h1,h2⟩) hk.1 (by simpa using hk.2) h hc))
  |false=>
   refine wpIn_region (Qhf hl _ _ _ ?_)
   have:=Qpr HV (ops:=ops) (Q:=toQ C N Q) (fun s a w h1 h2=>⟨s,h1,h2⟩) ops.toList [] 0 (by simp) hk.1 s a w h hc
   rwa [ZaW,<-Zed] at this
 |seq x y ihx ihy=>
  intro hk hl Q s a w h hc;simp only[chk,Zah] at hk;simp only[Qis,Zah] at hl;simp only[awp] at h;refine wpIn_seq (wpIn_mono (ihx hk.1 hl.1 _ s a w h hc) (Qfx ?_ ?_ ?_))
  .intro s a w hs hc;exact ihy hk.2 hl.2 Q s a w hs hc
  .intro i s hs;exact hs
  .intro s hs;exact hs
 |cond c x y ihx ihy=>
  intro hk hl Q s a w h hc;simp only[chk,Zah] at hk;simp only[Qis,Zah] at hl;simp only[awp] at h;obtain⟨S,hSw,hcE⟩:=hc;have h1:=Qdn hcE c;cases hv:evO s.tm c<;>rw[hv] at h<;>try exact h.elim
  rename_i d;cases d<;>try exact h.elim
  rename_i b;rw[hv] at h1;simp only[conc,rd] at h1;simp only[Quv] at h;refine wpIn_cond_split h1 (fun hb=>ihx hk.1 hl.1 Q s a w (h.1 hb) ⟨S,hSw,hcE⟩) (fun hb=>ihy hk.2 hl.2 Q s a w (h.2 hb) ⟨S,hSw,hcE⟩)
 |block id c ih=>
  intro hk hl Q s a w h hc;simp only[awp] at h;refine wpIn_block (wpIn_mono (ih hk hl _ s a w h hc) ?_);intro e a w he;cases e<;>simp only[toQ] at he<;>simp only[Exit.inBlock,toQ]
  .exact he
  .rename_i i;obtain⟨s,hs,hc⟩:=he;simp only[Qqo] at hs;by_cases hi:i=id
   .subst hi;rw[Zao rfl];exact⟨s,by simpa[exitQ] using hs,hc⟩
   .rw[Zaj hi]
    have:(i==id)=false:=by simpa using hi
    rw[this] at hs;exact⟨s,hs,hc⟩
  .exact he
 |loop c ih=>
  intro hk hl Q s a w h hc;have main0: ∀(s:Qad),Qin (awp P V c) Q s->Con C N s a w->(Code.loop c).wpIn (wR ro) n P (toQ C N Q) a w:=by
   clear h hc;intro s h hc;simp only[Qin] at h;obtain⟨β,I,μ,hgood,⟨b0,hb0⟩,hbody⟩:=h
   let p:Act->World->Nat->Prop:=fun a w n=> ∃b,Con C N (I b) a w/\μ b=n
   let μ':Act->World->Nat:=fun a w=>Classical.epsilon fun n=>p a w n/\ ∀k,k<n-> ¬p a w k
   have hμ: ∀a w b,Con C N (I b) a w->p a w (μ' a w)/\ ∀k,k<μ' a w-> ¬p a w k:=by
    intro a w b hb;exact ZcF (p:=fun n=>p a w n/\ ∀k,k<n-> ¬p a w k) (Qabk (μ b) ⟨b,hb,rfl⟩)
   have hn0: ∀b,C.n0<=(I b).nx:=by
    intro b;obtain⟨S,_,h⟩:=hc;exact Zbd h.n0 (hgood b).2
   refine wpIn_loop (fun a w=> ∃b,Con C N (I b) a w) μ' ⟨b0,Qmb hc hb0 (hgood b0).1 (hn0 b0)⟩ ?_;rintro a w ⟨b,hb⟩;obtain⟨⟨b1,hb1,hm1⟩,_⟩:=hμ a w b hb;refine wpIn_mono (ih hk hl _ _ a w (hbody b1) hb1) (Qfx ?_ ?_ ?_)
   .rintro s' a' w' ⟨b',hlt,hsub⟩ hc';have hc2:=Qmb hc' hsub (hgood b').1 (hn0 b');refine⟨⟨b',hc2⟩,?_⟩;obtain⟨_,hmin⟩:=hμ a' w' b' hc2;rcases Zbp (μ b') (μ' a' w') with h1|h1
    .exact absurd ⟨b',hc2,rfl⟩ (hmin _ h1)
    .omega
   .intro i s hs;exact hs
   .intro s hs;exact hs
  simp only[awp,Qay] at h;rcases h with h|h|⟨F,h⟩|h
  .exact main0 s h hc
  .simp only[Qsi] at h;obtain⟨β,I,μ,hgood,⟨b0,π0,hb0⟩,hbody⟩:=h
   let p:Act->World->Nat->Prop:=fun a w n=> ∃b,Con C N (I b) a w/\μ b=n
   let μ':Act->World->Nat:=fun a w=>Classical.epsilon fun n=>p a w n/\ ∀k,k<n-> ¬p a w k
   have hμ: ∀a w b,Con C N (I b) a w->p a w (μ' a w)/\ ∀k,k<μ' a w-> ¬p a w k:=by
    intro a w b hb;exact ZcF (p:=fun n=>p a w n/\ ∀k,k<n-> ¬p a w k) (Qabk (μ b) ⟨b,hb,rfl⟩)
   have hlo:C.n0<=s.nx:=by
    obtain⟨S,_,h⟩:=hc;exact h.n0
   have hn0: ∀b,C.n0<=(I b).nx:=by
    intro b;obtain⟨S,_,h⟩:=hc;exact Zbd h.n0 (hgood b).2
   refine wpIn_loop (fun a w=> ∃b,Con C N (I b) a w) μ' ⟨b0,Qdx hc hb0 (hgood b0).1 hlo (hn0 b0)⟩ ?_;rintro a w ⟨b,hb⟩;obtain⟨⟨b1,hb1,hm1⟩,_⟩:=hμ a w b hb;refine wpIn_mono (ih hk hl _ _ a w (hbody b1) hb1) (Qfx ?_ ?_ ?_)
   .rintro s' a' w' ⟨b',π,hlt,hsub⟩ hc';have hc2:=Qdx hc' hsub (hgood b').1 hlo (hn0 b');refine⟨⟨b',hc2⟩,?_⟩;obtain⟨_,hmin⟩:=hμ a' w' b' hc2;rcases Zbp (μ b') (μ' a' w') with h1|h1
    .exact absurd ⟨b',hc2,rfl⟩ (hmin _ h1)
    .omega
   .intro i s hs;exact hs
   .intro s hs;exact hs
  .exact main0 _ h (Qxl F hc)
  .simp only[Qsf] at h;obtain⟨β,I,μ,hgood,⟨b0,F0,π0,hb0⟩,hbody⟩:=h
   let p:Act->World->Nat->Prop:=fun a w n=> ∃b,Con C N (I b) a w/\μ b=n
   let μ':Act->World->Nat:=fun a w=>Classical.epsilon fun n=>p a w n/\ ∀k,k<n-> ¬p a w k
   have hμ: ∀a w b,Con C N (I b) a w->p a w (μ' a w)/\ ∀k,k<μ' a w-> ¬p a w k:=by
    intro a w b hb;exact ZcF (p:=fun n=>p a w n/\ ∀k,k<n-> ¬p a w k) (Qabk (μ b) ⟨b,hb,rfl⟩)
   have hlo:C.n0<=s.nx:=by
    obtain⟨S,_,h⟩:=hc;exact h.n0
   have hn0: ∀b,C.n0<=(I b).nx:=by
    intro b;obtain⟨S,_,h⟩:=hc;exact Zbd h.n0 (hgood b).2
   refine wpIn_loop (fun a w=> ∃b,Con C N (I b) a w) μ' ⟨b0,Qdx (Qox F0 hc) hb0 (hgood b0).1 hlo (hn0 b0)⟩ ?_;rintro a w ⟨b,hb⟩;obtain⟨⟨b1,hb1,hm1⟩,_⟩:=hμ a w b hb;refine wpIn_mono (ih hk hl _ _ a w (hbody b1) hb1) (Qfx ?_ ?_ ?_)
   .rintro s' a' w' ⟨b',F,π,hlt,hsub⟩ hc';have hc2:=Qdx (Qox F hc') hsub (hgood b').1 hlo (hn0 b');refine⟨⟨b',hc2⟩,?_⟩;obtain⟨_,hmin⟩:=hμ a' w' b' hc2;rcases Zbp (μ b') (μ' a' w') with h1|h1
    .exact absurd ⟨b',hc2,rfl⟩ (hmin _ h1)
    .omega
   .intro i s hs;exact hs
   .intro s hs;exact hs
 |exit id=>intro _ _ Q s a w h hc;exact wpIn_exit ⟨s,h,hc⟩
 |ret=>intro _ _ Q s a w h hc;exact wpIn_ret ⟨s,h,hc⟩
 |_=>intro hk;simp[chk] at hk
end
def ownB(S:Env)(b:Nat):Prop:= ∃o e lc,S.h o=some e/\e.1=true/\S.ρ o=some lc/\lc.b=b
def nmB(S:Env)(b:Nat):Prop:= ∃o e lc,S.h o=some e/\S.ρ o=some lc/\lc.b=b
def rebC(S:Env)(n0:Nat)(ds:List Deferred):Ctx:=⟨S.w,ownB S,S.ok,n0,S.h,S.ρ,ds⟩
theorem Qhd{C:Ctx}{S:Env}(h:Wf C S){b:Nat}(hb:ownB S b):b<S.w.heap.size/\ ¬S.ok b/\(C.w.heap.size<=b\/C.M b):=by
 obtain⟨o,e,lc,h1,h2,h3,rfl⟩:=hb;obtain⟨q1,q2⟩:=h.loc o e lc h1 h3;rw[h2] at q2;simp only[ZaQ] at q2;exact⟨q1,q2.1,q2.2⟩
theorem reb_wf{C:Ctx}{S:Env}(h:Wf C S)(n0:Nat)(ds:List Deferred):Wf (rebC S n0 ds) S:=by
 refine⟨rfl,rfl,rfl,Zap _,fun _ _ _=>rfl,fun _ h=>h,fun _ h=> .inl h,h.oks,h.obj,fun o e l h1 h2=> ?_,h.inj,h.glN fun _ hb=>(Qhd h hb).2.1⟩;obtain⟨q1,q2⟩:=h.loc o e l h1 h2;refine⟨q1,?_⟩;cases hm:e.1 with
 |true=>
  rw[hm] at q2;simp only[ZaQ] at q2⊢;exact⟨q2.1,.inr ⟨o,e,l,h1,hm,h2,rfl⟩⟩
 |false=>rw[hm] at q2;simpa using q2
theorem reb_con{C:Ctx}{N:Nat}{s:Qad}{S:Env}{a:Act}(h:ConE C N s S a):ConE (rebC S s.nx a.defers) N s S a:=
 ⟨reb_wf h.wf _ _,h.h,h.tm,h.nmT,h.nmH,h.size,rfl,Zap _,fun _ _ e' he'=>⟨e',he',rfl,rfl,rfl⟩⟩
theorem Qrn{C:Ctx}{S S':Env}{n0:Nat}{ds:List Deferred}(hW:Wf C S)(h:Wf (rebC S n0 ds) S'):Wf C S':=by
 have hs:C.w.heap.size<=S.w.heap.size:=hW.size;have hs2:S.w.heap.size<=S'.w.heap.size:=h.size;refine⟨h.os.trans hW.os,h.tape.trans hW.tape,h.output.trans hW.output,Zbd hs hs2,fun b hb hM=> ?_,fun b hb=>h.ok0 b (hW.ok0 b hb),fun b hb=> ?_,h.oks,h.obj,fun o e l h1 h2=> ?_,h.inj,hW.gl⟩
 .refine (h.keep b (Zbn hb hs) (fun ho=> ?_)).trans (hW.keep b hb hM);rcases (Qhd hW ho).2.2 with q|q
  .omega
  .exact hM q
 .rcases h.ok1 b hb with q|q|q
  .exact hW.ok1 b q
  .exact .inr (.inl (Zbd hs q))
  .exact .inr (Qhd hW q).2.2
 .obtain⟨q1,q2⟩:=h.loc o e l h1 h2;refine⟨q1,?_⟩;cases hm:e.1 with
  |true=>
   rw[hm] at q2;simp only[ZaQ] at q2⊢;refine⟨q2.1,?_⟩;rcases q2.2 with q|q
   .exact .inl (Zbd hs q)
   .exact (Qhd hW q).2.2
  |false=>rw[hm] at q2;simpa using q2
theorem Qfk{S S':Env}{n0:Nat}{ds:List Deferred}(h:Wf (rebC S n0 ds) S'): ∀b,b<S.w.heap.size-> ¬ownB S b->S'.w.heap[b]? =S.w.heap[b]? :=h.keep
theorem Qlo{S S':Env}{n0:Nat}{ds:List Deferred}(h:Wf (rebC S n0 ds) S'){b:Nat}(hb:ownB S' b):S.w.heap.size<=b\/ownB S b:=(Qhd h hb).2.2
theorem Qmq{S S':Env}{n0:Nat}{ds:List Deferred}(h:Wf (rebC S n0 ds) S'){b:Nat}(hb:S'.ok b):S.ok b\/S.w.heap.size<=b\/ownB S b:=h.ok1 b hb
structure Qqc(S:Env)(W':World):Prop where
 size:S.w.heap.size<=W'.heap.size
 os:W'.os=S.w.os
 tape:W'.tape=S.w.tape
 output:W'.output=S.w.output
 ok: ∀b,S.ok b->W'.heap[b]? =S.w.heap[b]?
 nm: ∀b,nmB S b->W'.heap[b]? =S.w.heap[b]?
theorem Qgp{S:Env}{W':World}(h:Qqc S W')(X:Nat->Prop):Pres X S {S with w:=W'}:=⟨fun b hb=>⟨hb,h.ok b hb⟩,fun _ _ e' he'=>⟨e',he',rfl,rfl,rfl⟩⟩
theorem wf_moved'{C:Ctx}{S:Env}{W':World}(hW:Wf C S)(h:Qqc S W'):GP S.ok (fun b=>W'.heap[b]?):=hW.gp.mono fun b _ hb ho=>⟨hb,(h.ok b hb).trans ho⟩
theorem Qkz{C:Ctx}{S:Env}{W':World}(hW:Wf C S)(h:Qqc S W')(hk: ∀b,b<C.w.heap.size-> ¬C.M b->W'.heap[b]? =S.w.heap[b]?):Wf C {S with w:=W'}:=by
 refine⟨h.os.trans hW.os,h.tape.trans hW.tape,h.output.trans hW.output,Zbd hW.size h.size,fun b hb hM=>(hk b hb hM).trans (hW.keep b hb hM),hW.ok0,hW.ok1,fun b hb=>Zbn (hW.oks b hb) h.size,fun o e he=> ?_,fun o e l h1 h2=> ?_,hW.inj,hW.gl⟩
 .exact Qbr (Qgp h fun _=>True) (fun lc hlc=>h.nm lc.b ⟨o,e,lc,he,hlc,rfl⟩) e.2 (fun _ _=>trivial) (hW.obj o e he)
 .obtain⟨q1,q2⟩:=hW.loc o e l h1 h2;exact⟨Zbn q1 h.size,q2⟩
theorem Qul{C:Ctx}{N:Nat}{s:Qad}{S:Env}{a:Act}{W':World}(hc:ConE C N s S a)(h:Qqc S W')(hk: ∀b,b<C.w.heap.size-> ¬C.M b->W'.heap[b]? =S.w.heap[b]?):ConE C N s {S with w:=W'} a:=
 ⟨Qkz hc.wf h hk,hc.h,fun t=>Qbt (Qgp h fun _=>True) _ _ (fun _ _=>trivial) (hc.tm t),hc.nmT,hc.nmH,hc.size,hc.defers,hc.n0,hc.pre⟩
theorem Qk9{S:Env}{l:Nat}{o:Obj}(h1: ¬S.ok l)(h2: ¬nmB S l):Qqc S (S.w.putObj l o):=by
 refine⟨by simp,rfl,rfl,rfl,fun b hb=> ?_,fun b hb=> ?_⟩
 .exact World.putObj_heap_other (fun e=>h1 (e▸hb))
 .exact World.putObj_heap_other (fun e=>h2 (e▸hb))
structure Move(ok0:Nat->Prop)(Pr:Nat->Prop)(W:World)(Pr':Nat->Prop)(W':World):Prop where
 size:W.heap.size<=W'.heap.size
 os:W'.os=W.os
 tape:W'.tape=W.tape
 output:W'.output=W.output
 pr: ∀b,Pr' b->Pr b\/W.heap.size<=b
 same: ∀b,b<W.heap.size->(¬Pr b\/ok0 b)->W'.heap[b]? =W.heap[b]?
def Qoh{ι:Type}(base:Nat)(J:ι->(Nat->Prop)->World->Prop):Prop:=
 ∀i Pr W,J i Pr W->(∀b,Pr b->b<W.heap.size)/\ ∀W',W.heap.size<=W'.heap.size->W'.os=W.os->W'.tape=W.tape->W'.output=W.output->(∀b,Pr b\/b<base->W'.heap[b]? =W.heap[b]?)->J i Pr W'
structure Giv where
 I:Type
 i0:I
 step:I->List D->I->Prop
 fin:I->Prop
def IterG(P:Program)(gf:Nat)(capt:List D)(X:Giv):Prop:=
 ∀(C:Ctx) (S:Env) (vs:Array Value) (l:Nat) (J:X.I->(Nat->Prop)->World->Prop),Wf C S->rdl S.ok S.hp capt vs.toList->Qoh S.w.heap.size J->
  (∀i x j args Pr W,X.step i x j->(∀ok hp,rdl ok hp x args.toList)->J i Pr W->YieldAt Fence.wide 0 P l args W fun e W'=>e= .returned (.bool true)/\ ∃Pr',J j Pr' W'/\Move S.ok Pr W Pr' W')->
  (∃Pr,J X.i0 Pr S.w)->Calls P gf (#[.func (.yield l) #[] #[]]++vs) S.w fun e W'=> ∃v Pr i,e= .returned v/\X.fin i/\J i Pr W'
def givL(xs:List (List D)):Giv:=⟨Nat,0,fun i x j=>xs[i]? =some x/\j=i+1,fun i=>i=xs.length⟩
def IterOk(P:Program)(gf:Nat)(capt:List D)(xs:List (List D)):Prop:=IterG P gf capt (givL xs)
def parT:List Tmp->List D->List (Nat×AV)->List (Nat×AV)
 |t::ts,d::ds,tm=>parT ts ds ((t,.im d)::tm)
 |[],_,tm=>tm
 |_::_,[],tm=>tm
def parA:List Tmp->List Value->Array Value->Array Value
 |t::ts,v::vs,A=>parA ts vs (A.setIfInBounds t v)
 |[],_,A=>A
 |_::_,[],A=>A
theorem parA_eq(ps:Array Tmp)(args:Array Value)(A:Array Value):(ps.zip args).foldl (fun tmps (t,a)=>tmps.setIfInBounds t a) A=parA ps.toList args.toList A:=by
 rw[<-Array.foldl_toList,Array.toList_zip];generalize ps.toList=l;generalize args.toList=m;induction l generalizing m A with
 |nil=>simp[parA]
 |cons t ts ih=>
  cases m with
  |nil=>simp[parA]
  |cons v vs=>simp only[List.zip_cons_cons,Zco,parA];exact ih _ _
theorem Qv4: ∀(ts:List Tmp) (vs:List Value) (A:Array Value),(parA ts vs A).size=A.size
 |t::ts,v::vs,A=>by simp only[parA,Qv4 ts vs,ZdH]
 |[],_,A=>rfl
 |_::_,[],A=>rfl
theorem Qv1{S:Env}: ∀(ts:List Tmp) (ds:List D) (vs:List Value) (tm:List (Nat×AV)) (A:Array Value),rdl S.ok S.hp ds vs->(∀t∈ts,t<A.size)->(∀t,conc S (tget tm t) (A.getD t undef))->
 ∀t,conc S (tget (parT ts ds tm) t) ((parA ts vs A).getD t undef)
 |t0::ts,d::ds,vs,tm,A,hr,hl,hc=>by
  simp only[rdl] at hr;obtain⟨v,r,rfl,h1,h2⟩:=hr;simp only[parT,parA];refine Qv1 ts ds r _ _ h2 (fun t ht=>by rw[ZdH];exact hl t (Zas _ ht)) (fun t=> ?_);have hlt:=hl t0 (Zat ..);simp only[tget];by_cases h:t0=t
  .subst h;simp[hlt,conc];exact h1
  .have:(t0==t)=false:=by simpa using h
   rw[this];simp only[ZaS];have e:(A.setIfInBounds t0 v).getD t undef=A.getD t undef:=by
    simp only[ZaR];rw[Array.getElem?_setIfInBounds_ne h]
   rw[e];exact hc t
 |[],_,_,tm,A,_,_,hc=>fun t=>by simpa only[parT,parA] using hc t
 |_::_,[],vs,tm,A,hr,_,hc=>fun t=>by
  simp only[rdl] at hr;subst hr;simpa only[parT,parA] using hc t
theorem Qy1{n:Nat}: ∀(ts:List Tmp) (ds:List D) (tm:List (Nat×AV)),(∀t,∀m∈(tget tm t).nms,m<n)-> ∀t,∀m∈(tget (parT ts ds tm) t).nms,m<n
 |t0::ts,d::ds,tm,h=>by
  simp only[parT];refine Qy1 ts ds _ (fun t m hm=> ?_);simp only[tget] at hm;cases hq:t0==t<;>rw[hq] at hm
  .exact h t m hm
  .simp[AV.nms] at hm
 |[],_,tm,h=>h
 |_::_,[],tm,h=>h
theorem Qkg{C:Ctx}{S:Env}(hW:Wf C S){b:Nat}(hb:nmB S b):(∀r,S.w.heap[b]? ≠some (.loop r))/\ ∀d,S.w.heap[b]? ≠some (.deferred d):=by
 obtain⟨o,e,lc,h1,h2,rfl⟩:=hb;have h:=hW.obj o e h1;rw[h2] at h;have hp:S.hp lc.b=S.w.heap[lc.b]? :=rfl;obtain⟨mu,ob⟩:=e;cases ob<;>simp only[objc] at h
 case cells T cs=>obtain⟨l',vs,q1,_,q3,_⟩:=h;cases q1;rw[<-hp,q3];simp
 case arr T k rows=>obtain⟨_,_,vs,q3,_⟩:=h;rw[<-hp,q3];simp
 case arrA T k rows=>obtain⟨_,_,vs,q3,_⟩:=h;rw[<-hp,q3];simp
 case map kt es=>obtain⟨l',en,cl,q1,_,q3,_⟩:=h;cases q1;rw[<-hp,q3];simp
 case chan q cap=>obtain⟨l',bu,se,rc,q1,q3,_⟩:=h;cases q1;rw[<-hp,q3];simp
 case iter la le=>obtain⟨l',mb,en,cl,se,q1,_,_,_,q3,_⟩:=h;cases q1;rw[<-hp,q3];simp
 case view cs=>obtain⟨l',vs,T,fr,q1,q3,_⟩:=h;cases q1;rw[<-hp,q3];simp
theorem Qh9{S:Env}{b:Nat}(h:ownB S b):nmB S b:=by
 obtain⟨o,e,lc,h1,_,h3,h4⟩:=h;exact⟨o,e,lc,h1,h3,h4⟩
theorem Qpp{C:Ctx}{N:Nat}{s:Qad}{S:Env}{a:Act}{W':World}(hc:ConE C N s S a)(h:Qqc S W')(n0:Nat)(hn:n0<=s.nx)(a':Act)(ds:List Deferred)(hd:a'.defers=ds)(ha:a'.tmps=a.tmps):
 ConE (rebC {S with w:=W'} n0 ds) N s {S with w:=W'} a':=by
 have hW:=hc.wf;refine⟨⟨rfl,rfl,rfl,Zap _,fun _ _ _=>rfl,fun _ h=>h,fun _ h=> .inl h,fun b hb=>Zbn (hW.oks b hb) h.size,fun o e he=> ?_,fun o e l h1 h2=> ?_,hW.inj,(wf_moved' hW h).mono fun b o hb ho=>⟨⟨hb,fun hM=>(Qhd hW hM).2.1 hb⟩,ho⟩⟩,hc.h,fun t=> ?_,hc.nmT,hc.nmH,by rw[ha];exact hc.size,hd,hn,fun _ _ e' he'=>⟨e',he',rfl,rfl,rfl⟩⟩
 .exact Qbr (Qgp h fun _=>True) (fun lc hlc=>h.nm lc.b ⟨o,e,lc,he,hlc,rfl⟩) e.2 (fun _ _=>trivial) (hW.obj o e he)
 .obtain⟨q1,q2⟩:=hW.loc o e l h1 h2;refine⟨Zbn q1 h.size,?_⟩;cases hm:e.1 with
  |true=>
   rw[hm] at q2;simp only[ZaQ] at q2⊢;exact⟨q2.1,.inr ⟨o,e,l,h1,hm,h2,rfl⟩⟩
  |false=>rw[hm] at q2;simpa using q2
 .have e:a'.eval (.tmp t)=a.eval (.tmp t):=by simp only[Act.eval,ha]
  rw[e];exact Qbt (Qgp h fun _=>True) _ _ (fun _ _=>trivial) (hc.tm t)
theorem Qxm{C:Ctx}{S:Env}{W':World}(hW:Wf C S)(hs:S.w.heap.size<=W'.heap.size)(h1:W'.os=S.w.os)(h2:W'.tape=S.w.tape)(h3:W'.output=S.w.output)(hb: ∀b,b<S.w.heap.size->W'.heap[b]? =S.w.heap[b]?):Qqc S W':=
 ⟨hs,h1,h2,h3,fun b h=>hb b (hW.oks b h),fun b ⟨o,e,lc,q1,q2,q3⟩=>hb b (q3▸(hW.loc o e lc q1 q2).1)⟩
def rndQ(lo nx:Nat)(h':Qan):Qbl
 | .normal,s2=> ∃π,subP lo π s2 ⟨[],h',nx⟩
 | .exit _,_=>False
 | .ret,_=>False
def asgQ(P:Program)(V:Qbh)(body:Code)(Q:Qbl):Qbl
 | .normal,s1=>awp P V body Q s1
 | .exit _,_=>False
 | .ret,_=>False
def rngQ(C:Ctx)(N:Nat)(s:Qad)(a0:Act):Exit->Act->World->Prop
 | .normal,a',w'=> ∃C2 S2 D,S2.w=w'/\ConE C2 N s S2 a'/\(∀S',Wf C2 S'->Wf C S')/\a'.tmps=a0.tmps/\a'.defers={target:= .collected D,args:= #[]}::a0.defers/\
  D<C2.w.heap.size/\ ¬C2.M D/\ ¬C2.ok D/\C.w.heap.size<=D/\C2.w.heap[D]? =some (.deferred (some []))
 |_,_,_=>False
section
variable {P:Program}{V:Qbh}{N:Nat}
def rngJ{ι:Type}(C:Ctx)(N:Nat)(st:ι->Qad)(a:Act)(ok0:Nat->Prop)(Dk l:Nat)(rc:Loop)(i:ι)(Pr:Nat->Prop)(W:World):Prop:=
 ∃S,S.w=W/\ConE C N (st i) S a/\(∀b,Pr b↔(nmB S b\/S.ok b\/b=l\/b=Dk))/\(∀b,ok0 b->S.ok b)/\W.heap[l]? =some (.loop rc)/\W.heap[Dk]? =some (.deferred (some []))/\ ¬S.ok l/\ ¬S.ok Dk
theorem Qaa7{ι:Type}{C:Ctx}{st:ι->Qad}{a:Act}{ok0:Nat->Prop}{Dk l:Nat}{rc:Loop}{base:Nat}(hb:C.w.heap.size<=base):Qoh base (rngJ C N st a ok0 Dk l rc):=by
 rintro i Pr W ⟨S,rfl,hE,hPr,hok,hl,hD,nl,nD⟩;refine⟨fun b hbp=> ?_,fun W' h1 h2 h3 h4 hs=> ?_⟩
 .rcases (hPr b).1 hbp with ⟨o,e,lc,q1,q2,rfl⟩|q|rfl|rfl
  .exact (hE.wf.loc o e lc q1 q2).1
  .exact hE.wf.oks b q
  .exact (ZbL.1 hl).1
  .exact (ZbL.1 hD).1
 .have hm:Qqc S W':=⟨h1,h2,h3,h4,fun b hb=>hs b (.inl ((hPr b).2 (.inr (.inl hb)))),fun b hb=>hs b (.inl ((hPr b).2 (.inl hb)))⟩;refine⟨{S with w:=W'},rfl,Qul hE hm (fun b hb' _=>hs b (.inr (by omega))),hPr,hok,?_,?_,nl,nD⟩
  .rw[hs l (.inl ((hPr l).2 (.inr (.inr (.inl rfl)))))];exact hl
  .rw[hs Dk (.inl ((hPr Dk).2 (.inr (.inr (.inr rfl)))))];exact hD
theorem round_ok{ι:Type}(HM:P.follows .mixedOrders=true)(HV:Qd1 P V){C:Ctx}{st:ι->Qad}{a:Act}{ok0:Nat->Prop}{Dk l:Nat}{tm0:List (Nat×AV)}{hs:ι->Qan}{lo nx:Nat}{fn:FuncId}{ps:Array Tmp}{assign body:Code}{i j:ι}{x:List D}
 (hst: ∀i,st i=⟨tm0,hs i,nx⟩)(hlo:C.n0<=lo)(hnx:lo<=nx)(hbt:belT lo tm0=true)(hg:Qad.good ⟨[],hs j,nx⟩=true)(hvw: ∀o e,hget (hs j) o=some e->e.2.isView=true->o<lo)(hlD:l≠Dk)(hCl:C.w.heap.size<=l)
 (hca:chk N assign=true)(hca2:Qis assign=true)(hcb:chk N body=true)(hcb2:Qis body=true)(hpt: ∀t∈ps.toList,t<N)(hxl:x.length=ps.size)
 (hround:awp P V assign (asgQ P V body (rndQ lo nx (hs j))) ⟨parT ps.toList x tm0,hs i,nx⟩)
 {args:Array Value}{Pr:Nat->Prop}{W:World}(hargs: ∀ok hp,rdl ok hp x args.toList)
 (hJ:rngJ C N st a ok0 Dk l {state:= .ready,pending:=none,fn,tmps:=a.tmps,params:=ps,assign,body,defers:=Dk} i Pr W):
 YieldAt Fence.wide 0 P l args W fun e W'=>e= .returned (.bool true)/\ ∃Pr',rngJ C N st a ok0 Dk l {state:= .ready,pending:=none,fn,tmps:=a.tmps,params:=ps,assign,body,defers:=Dk} j Pr' W'/\Move ok0 Pr W Pr' W':=by
 obtain⟨S,rfl,hE,hPr,hok,hl,hD,nl,nD⟩:=hJ;have hal:args.size=ps.size:=by
  have:=Qjo _ _ (hargs S.ok S.hp)
  simp at this;omega
 refine⟨fn,_,assign,body,run_yield hl hal,roundIn_of_wpIn trivial ?_⟩;simp only[parA_eq];have kl: ∀{C':Ctx} {S':Env},Wf C' S'->(∃r,S'.w.heap[l]? =some (.loop r))-> ¬nmB S' l:=fun hW ⟨r,hr⟩ hn=>(Qkg hW hn).1 r hr
 have kD: ∀{C':Ctx} {S':Env},Wf C' S'->(S'.w.heap[Dk]? =some (.deferred (some [])))-> ¬nmB S' Dk:=fun hW hr hn=>(Qkg hW hn).2 _ hr
 have hls:l<S.w.heap.size:=(ZbL.1 hl).1;have hDs:Dk<S.w.heap.size:=(ZbL.1 hD).1;have hEr:ConE (rebC S lo []) N ⟨parT ps.toList x tm0,hs i,nx⟩ S {tmps:=parA ps.toList args.toList a.tmps,defers:=[]}:=by
  have hh:=hE.h;have ht:=hE.tm;have hm:=hE.nmH;have hnt:=hE.nmT;rw[hst i] at hh ht hm hnt;refine⟨reb_wf hE.wf _ _,hh,fun t=> ?_,Qy1 _ _ _ hnt,hm,?_,rfl,hnx,fun _ _ e' he'=>⟨e',he',rfl,rfl,rfl⟩⟩
  .exact Qv1 _ _ _ _ _ (hargs _ _) (fun t ht=>by rw[hE.size];exact hpt t ht) ht t
  .rw[Qv4];exact hE.size
 refine wpIn_mono (Qgd (ro:=some l) HM HV assign hca hca2 _ _ _ _ hround ⟨S,rfl,hEr⟩) ?_;intro e a1 w1 hq;cases e<;>simp only[toQ] at hq<;>simp only[Exit.then]
 case exit id=>obtain⟨_,h,_⟩:=hq;exact h.elim
 case ret=>obtain⟨_,h,_⟩:=hq;exact h.elim
 obtain⟨s1,hs1,S1,rfl,hc1⟩:=hq;simp only[asgQ] at hs1;have hS1:S.w.heap.size<=S1.w.heap.size:=hc1.wf.size;have hl1:S1.w.heap[l]? =_:=(Qfk hc1.wf l hls (fun ho=>kl hE.wf ⟨_,hl⟩ (Qh9 ho))).trans hl;have hD1:S1.w.heap[Dk]? =_:=(Qfk hc1.wf Dk hDs (fun ho=>kD hE.wf hD (Qh9 ho))).trans hD;have nl1: ¬S1.ok l:=fun h=>by
  rcases Qmq hc1.wf h with q|q|q
  .exact nl q
  .omega
  .exact kl hE.wf ⟨_,hl⟩ (Qh9 q)
 have nD1: ¬S1.ok Dk:=fun h=>by
  rcases Qmq hc1.wf h with q|q|q
  .exact nD q
  .omega
  .exact kD hE.wf hD (Qh9 q)
 refine⟨_,run_beginRound hl1 rfl,?_⟩;obtain⟨ob,hob⟩: ∃ob,ob=Obj.loop {({state:= .ready,pending:=none,fn,tmps:=a.tmps,params:=ps,assign,body,defers:=Dk}:Loop) with state:= .busy}:=⟨_,rfl⟩;rw[<-hob];obtain⟨S2,hS2⟩: ∃S2:Env,S2={S1 with w:=S1.w.putObj l ob}:=⟨_,rfl⟩;have hm1:=Qk9 (S:=S1) (o:=ob) nl1 (kl hc1.wf ⟨_,hl1⟩);have hlo1:lo<=s1.nx:=hc1.n0;have hc2:ConE (rebC S2 lo []) N s1 S2 a1:=by
  rw[hS2];exact Qpp hc1 hm1 lo hlo1 a1 [] hc1.defers rfl
 have hw2:S2.w=S1.w.putObj l ob:=by rw[hS2]
 have hsz2:S2.w.heap.size=S1.w.heap.size:=by rw[hw2,World.putObj_size]
 have hl2:S2.w.heap[l]? =some ob:=by rw[hw2];exact World.putObj_heap_same (by omega)
 have hD2:S2.w.heap[Dk]? =some (.deferred (some [])):=by rw[hw2,World.putObj_heap_other hlD.symm];exact hD1
 rw[<-hw2];refine wpIn_mono (Qgd (ro:=some l) HM HV body hcb hcb2 _ _ _ _ hs1 ⟨S2,rfl,hc2⟩) ?_;intro e a2 w2 hq;cases e<;>simp only[toQ] at hq<;>simp only[roundPost]
 case exit id=>obtain⟨_,h,_⟩:=hq;exact h.elim
 case ret=>obtain⟨_,h,_⟩:=hq;exact h.elim
 obtain⟨s2,⟨π,hsub⟩,hcon⟩:=hq;obtain⟨S3,rfl,hc3⟩:=Qdx hcon hsub hg (Zap _) hnx;have hl3:S3.w.heap[l]? =_:=(Qfk hc3.wf l (by omega) (fun ho=>kl hc2.wf ⟨_,by rw[hl2,hob]⟩ (Qh9 ho))).trans (hl2.trans (by rw[hob]));have hD3:S3.w.heap[Dk]? =_:=(Qfk hc3.wf Dk (by omega) (fun ho=>kD hc2.wf hD2 (Qh9 ho))).trans hD2;have hS3:S2.w.heap.size<=S3.w.heap.size:=hc3.wf.size;refine⟨_,_,run_endRound none hl3,rfl,?_⟩;change ∃Pr',rngJ C N st a ok0 Dk l ({state:= .ready,pending:=none,fn,tmps:=a.tmps,params:=ps,assign,body,defers:=Dk}:Loop) j Pr' (S3.w.putObj l (.loop ({state:= .ready,pending:=none,fn,tmps:=a.tmps,params:=ps,assign,body,defers:=Dk}:Loop)))/\Move ok0 Pr S.w Pr' (S3.w.putObj l (.loop ({state:= .ready,pending:=none,fn,tmps:=a.tmps,params:=ps,assign,body,defers:=Dk}:Loop)));obtain⟨rc,hrc⟩: ∃rc:Loop,rc=({state:= .ready,pending:=none,fn,tmps:=a.tmps,params:=ps,assign,body,defers:=Dk}:Loop):=⟨_,rfl⟩;rw[<-hrc];have ow2: ∀b,ownB S2 b->ownB S1 b:=fun b h=>by rw[hS2] at h;exact h
 have ok2: ∀b,S2.ok b↔S1.ok b:=fun b=>by rw[hS2]
 have nl3: ¬S3.ok l:=fun h=>by
  rcases Qmq hc3.wf h with q|q|q
  .exact nl1 ((ok2 l).1 q)
  .omega
  .exact kl hc2.wf ⟨_,by rw[hl2,hob]⟩ (Qh9 q)
 have nD3: ¬S3.ok Dk:=fun h=>by
  rcases Qmq hc3.wf h with q|q|q
  .exact nD1 ((ok2 Dk).1 q)
  .omega
  .exact kD hc2.wf hD2 (Qh9 q)
 have hm3:=Qk9 (S:=S3) (o:= .loop rc) nl3 (kl hc3.wf ⟨_,hl3⟩);have hW1:Wf C S1:=Qrn hE.wf hc1.wf;have hW2:Wf C S2:=by rw[hS2];exact Qkz hW1 hm1 (fun b hb _=>World.putObj_heap_other (by omega))
 have hW3:Wf C S3:=Qrn hW2 hc3.wf;obtain⟨S4,hS4⟩: ∃S4:Env,S4={S3 with w:=S3.w.putObj l (.loop rc)}:=⟨_,rfl⟩;have hW4:Wf C S4:=by rw[hS4];exact Qkz hW3 hm3 (fun b hb _=>World.putObj_heap_other (by omega))
 have hw4:S4.w=S3.w.putObj l (.loop rc):=by rw[hS4]
 have hh4:S4.h=S3.h:=by rw[hS4]
 have hρ4:S4.ρ=S3.ρ:=by rw[hS4]
 have hok4:S4.ok=S3.ok:=by rw[hS4]
 have hsz4:S4.w.heap.size=S3.w.heap.size:=by rw[hw4,World.putObj_size]
 rw[<-hw4];have hblk: ∀b,b<S.w.heap.size-> ¬ownB S b->b≠l->S4.w.heap[b]? =S.w.heap[b]? :=by
  intro b hb ho hbl;rw[hw4,World.putObj_heap_other hbl,Qfk hc3.wf b (by omega) (fun h=> ?_),hw2,World.putObj_heap_other hbl,Qfk hc1.wf b hb ho];rcases Qlo hc1.wf (ow2 b h) with q|q
  .omega
  .exact ho q
 have okR: ∀b,S.ok b->S4.ok b/\S4.hp b=S.hp b:=by
  intro b hb;refine⟨by rw[hok4];exact hc3.wf.ok0 b ((ok2 b).2 (hc1.wf.ok0 b hb)),hblk b (hE.wf.oks b hb) (fun h=>(Qhd hE.wf h).2.1 hb) (fun h=>nl (h▸hb))⟩
 have nmR: ∀o,o<lo-> ∀e',S4.h o=some e'-> ∃e,S.h o=some e/\S4.ρ o=S.ρ o/\e'.2.esz=e.2.esz/\e'.2.len=e.2.len:=by
  intro o ho e' he';rw[hh4] at he';obtain⟨e,q1,q2,q3,q4⟩:=hc3.pre o ho e' he'
  have q1':S1.h o=some e:=by have:S2.h=S1.h:=by rw[hS2]
                             rw[<-this];exact q1
  obtain⟨e0,r1,r2,r3,r4⟩:=hc1.pre o ho e q1'
  have q2':S3.ρ o=S1.ρ o:=by have:S2.ρ=S1.ρ:=by rw[hS2]
                             rw[<-this];exact q2
  exact⟨e0,r1,by rw[hρ4];exact q2'.trans r2,q3.trans r3,q4.trans r4⟩
 have okB: ∀b,S4.ok b->S.ok b\/S.w.heap.size<=b\/ownB S b:=by
  intro b hb;rw[hok4] at hb;rcases Qmq hc3.wf hb with q|q|q
  .exact Qmq hc1.wf ((ok2 b).1 q)
  .exact .inr (.inl (by omega))
  .exact .inr (Qlo hc1.wf (ow2 b q))
 have hpr: ∀b,(nmB S4 b\/S4.ok b\/b=l\/b=Dk)->Pr b\/S.w.heap.size<=b:=by
  have hown: ∀b,(S.ok b\/S.w.heap.size<=b\/ownB S b)->Pr b\/S.w.heap.size<=b:=by
   rintro b (q|q|q)
   .exact .inl ((hPr b).2 (.inr (.inl q)))
   .exact .inr q
   .exact .inl ((hPr b).2 (.inl (Qh9 q)))
  rintro b (⟨o,e,lc,q1,q2,rfl⟩|q|rfl|rfl)
  .cases hmu:e.1 with
   |true=>
    have ho3:ownB S3 lc.b:=⟨o,e,lc,by rw[<-hh4];exact q1,hmu,by rw[<-hρ4];exact q2,rfl⟩;rcases Qlo hc3.wf ho3 with q|q
    .exact .inr (by omega)
    .rcases Qlo hc1.wf (ow2 _ q) with q|q
     .exact .inr q
     .exact hown _ (.inr (.inr q))
   |false=>
    have h5:=(hW4.loc o e lc q1 q2).2;rw[hmu] at h5;simp only[ZaB,Zby] at h5;rcases h5 with h5|h5
    .exact hown _ (okB _ h5)
    .have ho:=hvw o e (by rw[<-hc3.h o,<-hh4];exact q1) h5;obtain⟨e0,r1,r2,_,_⟩:=nmR o ho e q1;exact .inl ((hPr _).2 (.inl ⟨o,e0,lc,r1,by rw[<-r2];exact q2,rfl⟩))
  .exact hown _ (okB _ q)
  .exact .inl ((hPr _).2 (.inr (.inr (.inl rfl))))
  .exact .inl ((hPr _).2 (.inr (.inr (.inr rfl))))
 refine⟨fun b=>nmB S4 b\/S4.ok b\/b=l\/b=Dk,⟨S4,rfl,?_,fun b=>Iff.rfl,fun b hb=>(okR b (hok b hb)).1,?_,?_,by rw[hok4];exact nl3,by rw[hok4];exact nD3⟩,⟨by omega,hW4.os.trans hE.wf.os.symm,hW4.tape.trans hE.wf.tape.symm,hW4.output.trans hE.wf.output.symm,hpr,?_⟩⟩
 .have ht:=hE.tm;rw[hst i] at ht;rw[hst j];refine⟨hW4,fun n=>by rw[hh4];exact hc3.h n,fun t=> ?_,fun t m hm=>Zbn (Qif _ hbt t m hm) hnx,hc3.nmH,hE.size,hE.defers,Zbd hlo hnx,fun o ho e' he'=> ?_⟩
  .exact Qbt (X:=fun o=>o<lo) ⟨okR,nmR⟩ _ _ (Qif _ hbt t) (ht t)
  .obtain⟨e,q1,q2,q3,q4⟩:=nmR o (Zbn ho hlo) e' he';obtain⟨e0,r1,r2,r3,r4⟩:=hE.pre o ho e q1;exact⟨e0,r1,q2.trans r2,q3.trans r3,q4.trans r4⟩
 .rw[hw4];exact World.putObj_heap_same (by omega)
 .rw[hw4,World.putObj_heap_other hlD.symm];exact hD3
 .rintro b hb (h|h)
  .exact hblk b hb (fun ho=>h ((hPr b).2 (.inl (Qh9 ho)))) (fun e=>h ((hPr b).2 (.inr (.inr (.inl e)))))
  .exact hblk b hb (fun ho=>(Qhd hE.wf ho).2.1 (hok b h)) (fun e=>nl (e▸hok b h))
theorem Qr4(w:World)(o:Obj)(k:Nat)(h:k<w.heap.size):(w.alloc o).heap[k]? =w.heap[k]? :=by
 show (w.heap.push o)[k]? =_;rw[Array.getElem?_push,Zaj (by omega)]
theorem range_wpG(HM:P.follows .mixedOrders=true)(HV:Qd1 P V){C:Ctx}{s:Qad}{a:Act}{w:World}(hc:Con C N s a w){g:Operand}{ps:Array Tmp}{assign body:Code}{gf:Nat}{capt:List D}{X:Giv}(hgf:Qkt P gf)(hit:IterG P gf capt X)(Ok:X.I->Prop)(hok0:Ok X.i0)(hokS: ∀i x j,Ok i->X.step i x j->Ok j)
 (hca:chk N assign=true)(hca2:Qis assign=true)(hcb:chk N body=true)(hcb2:Qis body=true)(hps: ∀i x j,Ok i->X.step i x j->x.length=ps.size)(hpt: ∀t∈ps.toList,t<N)
 {tm0:List (Nat×AV)}{hs:X.I->Qan}{nx:Nat}(hstart: ∃π,subP s.nx π s ⟨tm0,hs X.i0,nx⟩)(hg:evO tm0 g= .im (.fn gf [] capt))(hnx:s.nx<=nx)(hbt:belT s.nx tm0=true)(hgood: ∀i,Ok i->Qad.good ⟨tm0,hs i,nx⟩=true)
 (hvw: ∀i o e,hget (hs i) o=some e->e.2.isView=true->o<s.nx)
 (hround: ∀i x j,Ok i->X.step i x j->awp P V assign (asgQ P V body (rndQ s.nx nx (hs j))) ⟨parT ps.toList x tm0,hs i,nx⟩):
 (Code.rangeFunc g ps assign body).wpIn Fence.wide 0 P (fun e a' w'=> ∃i,Ok i/\X.fin i/\rngQ C N ⟨tm0,hs i,nx⟩ a e a' w') a w:=by
 obtain⟨π,hsub⟩:=hstart;have hlo:C.n0<=s.nx:=by obtain⟨_,_,h⟩:=hc;exact h.n0
 obtain⟨S,rfl,hE⟩:=Qdx hc hsub (hgood X.i0 hok0) hlo (Zbd hlo hnx);have h1:conc S (.im (.fn gf [] capt)) (a.eval g):=by rw[<-hg];exact Qdn hE g
 simp only[conc,rd] at h1;obtain⟨A,Cc,hv,hA,hcap⟩:=h1;have hA0:A= #[]:=by simpa[rdl] using hA
 rw[Qoi hgf.1,hA0] at hv;refine wpIn_rangeFunc ?_;intro fn hfn;have hCs:C.w.heap.size<=S.w.heap.size:=hE.wf.size;obtain⟨rc,hrc⟩: ∃rc:Loop,rc={state:= .ready,pending:=none,fn,tmps:=a.tmps,params:=ps,assign,body,defers:=S.w.heap.size}:=⟨_,rfl⟩;obtain⟨W1,hW1⟩: ∃W1,W1=(S.w.alloc (.deferred (some []))).alloc (.loop rc):=⟨_,rfl⟩;have hsz1:W1.heap.size=S.w.heap.size+2:=by rw[hW1];simp
 have hL1:W1.heap[S.w.heap.size+1]? =some (.loop rc):=by
  rw[hW1];have:=World.alloc_heap_new (S.w.alloc (.deferred (some []))) (.loop rc);rwa [World.size_alloc] at this
 have hK1:W1.heap[S.w.heap.size]? =some (.deferred (some [])):=by
  rw[hW1];exact (Qr4 _ _ _ (by simp)).trans (World.alloc_heap_new S.w _)
 have hbel: ∀b,b<S.w.heap.size->W1.heap[b]? =S.w.heap[b]? :=fun b hb=>by
  rw[hW1,Qr4 _ _ _ (by simp;omega),Qr4 _ _ _ hb]
 have hm:Qqc S W1:=Qxm hE.wf (by omega) (by rw[hW1];rfl) (by rw[hW1];rfl) (by rw[hW1];rfl) hbel;have hE1:ConE C N ⟨tm0,hs X.i0,nx⟩ {S with w:=W1} a:=Qul hE hm (fun b hb _=>hbel b (by omega));have hcap1:rdl S.ok (fun b=>W1.heap[b]?) capt Cc.toList:=Qcu (Qgp hm fun _=>True).ok _ _ hcap;refine⟨S.w.heap.size+1,[{target:= .collected S.w.heap.size,args:= #[]}],W1,{target:= .fn (.func gf) Cc,args:= #[.func (.yield (S.w.heap.size+1)) #[] #[]]},W1,gf,
  #[.func (.yield (S.w.heap.size+1)) #[] #[]]++Cc,W1,?_,?_,fun _ _=>trivial,?_,fun h=>(by cases h),?_⟩
 .rw[hW1,hrc];exact run_enterLoop_outer _ _ _ _ _
 .simp only[resolve,hv];simp[go_sem]
 .simp[invoke,go_sem,Qhx hgf]
 refine callsIn_wide.2 (Calls.mono (hit C {S with w:=W1} Cc (S.w.heap.size+1) (fun i Pr W=>Ok i/\rngJ C N (fun i=>⟨tm0,hs i,nx⟩) a S.ok S.w.heap.size (S.w.heap.size+1) rc i Pr W) hE1.wf hcap1 ?_ ?_ ?_) ?_)
 .rintro i Pr W ⟨hi,hJ⟩;obtain⟨q1,q2⟩:=Qaa7 (base:=W1.heap.size) (by omega) i Pr W hJ;exact⟨q1,fun W' h1 h2 h3 h4 h5=>⟨hi,q2 W' h1 h2 h3 h4 h5⟩⟩
 .rintro i x j args Pr W hx hargs ⟨hi,hJ⟩;have hil:=hokS i x j hi hx;have hgi:=hgood j hil;simp only[Qad.good,Zah] at hgi;rw[hrc] at hJ⊢;have h9:=round_ok HM HV (st:=fun i=>⟨tm0,hs i,nx⟩) (fun _=>rfl) hlo hnx hbt (by simp only[Qad.good,belT,Zbj,Zah];exact hgi.2) (hvw j) (by omega) (by omega) hca hca2 hcb hcb2 hpt (hps i x j hi hx) (hround i x j hi hx) hargs hJ;obtain⟨fn',tmps',as',bo',r1,r2⟩:=h9;refine⟨fn',tmps',as',bo',r1,RoundIn.mono r2 ?_⟩;rintro e W' ⟨he,Pr',hJ',hM⟩;exact⟨he,Pr',⟨hil,hJ'⟩,hM⟩
 .exact⟨_,hok0,{S with w:=W1},rfl,hE1,fun b=>Iff.rfl,fun b hb=>hb,hL1,hK1,fun h=>Zeg _ (Zbn (hE.wf.oks _ h) (Nat.le_succ _)),fun h=>Zeg _ (hE.wf.oks _ h)⟩
 .rintro e W2 ⟨v,Pr,i,rfl,hfin,hOk,S2,rfl,hE2,hPr,hok,hl,hD,nl,nD⟩;refine⟨none,_,by have:=run_endLoop (P:=P) hl (by rw[hrc];simp);rw[hrc] at this;exact this,?_⟩;obtain⟨ob,hob⟩: ∃ob:Obj,ob= .loop {({state:= .ready,pending:=none,fn,tmps:=a.tmps,params:=ps,assign,body,defers:=S.w.heap.size}:Loop) with state:= .exhausted}:=⟨_,rfl⟩;simp only[<-hob];have nnl: ¬nmB S2 (S.w.heap.size+1):=fun hn=>(Qkg hE2.wf hn).1 _ hl
  have nnD: ¬nmB S2 S.w.heap.size:=fun hn=>(Qkg hE2.wf hn).2 _ hD
  have hm2:=Qk9 (S:=S2) (o:=ob) nl nnl;have hDs:S.w.heap.size<S2.w.heap.size:=(ZbL.1 hD).1;have hW5:Wf C {S2 with w:=S2.w.putObj (S.w.heap.size+1) ob}:=Qkz hE2.wf hm2 (fun b hb _=>World.putObj_heap_other (by omega));refine⟨i,hOk,hfin,_,_,S.w.heap.size,rfl,Qpp hE2 hm2 s.nx hnx _ ({target:= .collected S.w.heap.size,args:= #[]}::a.defers) rfl rfl,fun S' h=>Qrn hW5 h,rfl,rfl,?_,fun h=>nnD (Qh9 h),nD,hCs,?_⟩
  .show _<(S2.w.putObj _ _).heap.size;rw[World.putObj_size];exact hDs
  .show (S2.w.putObj _ _).heap[_]? =_;rw[World.putObj_heap_other (by omega)];exact hD
theorem range_wp(HM:P.follows .mixedOrders=true)(HV:Qd1 P V){C:Ctx}{s:Qad}{a:Act}{w:World}(hc:Con C N s a w){g:Operand}{ps:Array Tmp}{assign body:Code}{gf:Nat}{capt:List D}{xs:List (List D)}(hgf:Qkt P gf)(hit:IterOk P gf capt xs)
 (hca:chk N assign=true)(hca2:Qis assign=true)(hcb:chk N body=true)(hcb2:Qis body=true)(hps: ∀x∈xs,x.length=ps.size)(hpt: ∀t∈ps.toList,t<N)
 {tm0:List (Nat×AV)}{hs:Nat->Qan}{nx:Nat}(hstart: ∃π,subP s.nx π s ⟨tm0,hs 0,nx⟩)(hg:evO tm0 g= .im (.fn gf [] capt))(hnx:s.nx<=nx)(hbt:belT s.nx tm0=true)(hgood: ∀i,i<=xs.length->Qad.good ⟨tm0,hs i,nx⟩=true)
 (hvw: ∀i o e,hget (hs i) o=some e->e.2.isView=true->o<s.nx)
 (hround: ∀i x,xs[i]? =some x->awp P V assign (asgQ P V body (rndQ s.nx nx (hs (i+1)))) ⟨parT ps.toList x tm0,hs i,nx⟩):
 (Code.rangeFunc g ps assign body).wpIn Fence.wide 0 P (rngQ C N ⟨tm0,hs xs.length,nx⟩ a) a w:=by
 refine wpIn_mono (range_wpG HM HV hc (X:=givL xs) hgf hit (fun (i:Nat)=>i<=xs.length) (ZaU _) (fun i x j _ hx=> ?_) hca hca2 hcb hcb2 (fun i x j _ hx=>hps x (Zaf hx.1)) hpt hstart hg hnx hbt hgood hvw (fun i x j _ hx=> ?_)) ?_
 .obtain⟨h1,rfl⟩:=hx;exact (Zai.1 h1).1
 .obtain⟨h1,rfl⟩:=hx;exact hround i x h1
 .rintro e a' w' ⟨i,_,rfl,h⟩;exact h
end
def Qrj(C0 C2:Ctx)(ds:List Deferred):Prop:=
 ds=[]\/ ∃D:Nat,ds=[{target:= .collected D,args:= #[]}]/\D<C2.w.heap.size/\ ¬C2.M D/\ ¬C2.ok D/\C0.w.heap.size<=D/\C2.w.heap[D]? =some (.deferred (some []))
def rngP(C0:Ctx)(N:Nat)(Q:Qbl):Exit->Act->World->Prop
 | .normal,a,w=> ∃s C2,Q .normal s/\Con C2 N s a w/\(∀S',Wf C2 S'->Wf C0 S')/\Qrj C0 C2 a.defers
 | .ret,a,w=> ∃s C2,Q .ret s/\Con C2 N s a w/\(∀S',Wf C2 S'->Wf C0 S')/\Qrj C0 C2 a.defers
 |_,_,_=>False
def retX(P:Program)(rs:List ResultVar)(Q:Qad->List AV->Prop)(s:Qad):Prop:= ∃xs,mapO (Qj3 P s) rs=some xs/\Q s xs
def retXQ(P:Program)(rs:List ResultVar)(Q:Qad->List AV->Prop):Qbl
 | .normal,s=>retX P rs Q s
 | .ret,s=>retX P rs Q s
 | .exit _,_=>False
theorem view_runS{P:Program}{g:FuncId}{fn:Func}{c:Code}(hf:P.funcs[g]? =some fn)(hb:fn.body=some c)
 {ps:List PK}(hlen:ps.length<=fn.ntmps){Q:Qad->List AV->Prop}
 (hk: ∀(C0:Ctx) (a:Act) (w:World),C0.w=w->C0.n0=0->Con C0 fn.ntmps ⟨entry 0 (Qcq 0 ps),Qc5 0 ps,cnum ps⟩ a w->a.defers=[]->c.wpIn Fence.wide 0 P (rngP C0 fn.ntmps (retXQ P fn.results.toList Q)) a w)
 {C:Ctx}{S:Env}{vs:Array Value}{RR:Ending->World->Prop}(hW:Wf C S)(hps:PKL S ps vs.toList)
 (hfin: ∀(v:Value) (C0:Ctx) (S1:Env) (s:Qad) (xs:List AV),C0.w=S.w->C0.ok=S.ok->(∀b,¬C0.M b)->Wf C0 S1->(∀n,S1.h n=hget s.h n)->Q s xs->conc S1 (resV xs) v->RR (.returned v) S1.w):Calls P g vs S.w RR:=by
 refine callsIn_wide.1 (callsIn_of_wp_marks (n:=0) hf hb trivial ?_);have hvs:vs.size=(Qcq 0 ps).length:=by rw[Qee];simpa using hps.len
 obtain⟨ls,hls,hcl⟩:=Qob ps vs.toList 0 hps
 let S0:Env:=⟨ls,S.ok,hget (Qc5 0 ps),S.w⟩
 let C0:Ctx:=⟨S.w,fun _=>False,S.ok,0,fun _=>none,fun _=>none,[]⟩
 have hW0:Wf C0 S0:=by
  refine⟨rfl,rfl,rfl,Zap _,fun _ _ _=>rfl,fun _ hb=>hb,fun _ hb=> .inl hb,hW.oks,?_,?_,?_,hW.glN fun _ h=>h.elim⟩
  .intro n e he;obtain⟨l,h1,_,h3⟩:=hls n e he;have h4:S0.ρ n=some l:=h1;rw[h4];obtain⟨_,cs,rfl⟩:=Qbm 0 ps n e he;simp only[objc] at h3⊢;exact h3
  .intro n e l he hl;obtain⟨l',h1,h2,h3⟩:=hls n e he;have h4:S0.ρ n=some l':=h1;rw[h4] at hl;obtain rfl:=Zac hl;obtain⟨_,cs,rfl⟩:=Qbm 0 ps n e he;exact⟨h2,.inr rfl⟩
  .intro n n' e e' l l' he he' hl hl' hbb hfl;obtain⟨_,cs,rfl⟩:=Qbm 0 ps n e he;obtain⟨_,cs',rfl⟩:=Qbm 0 ps n' e' he';simp at hfl
 have hc0:Con C0 fn.ntmps ⟨entry 0 (Qcq 0 ps),Qc5 0 ps,cnum ps⟩ {tmps:=vs++Array.replicate (fn.ntmps - vs.size) undef,defers:=[]} S.w:=by
  have hargs0:Qa0 S0 (Qcq 0 ps) vs.toList:=hcl S0 rfl rfl (fun n _=>⟨rfl,rfl⟩);refine⟨S0,rfl,hW0,fun n=>rfl,?_,?_,?_,by simp;rw[Qee] at hvs;omega,rfl,ZaU _,fun o ho=>absurd ho (ZdO _)⟩
  .intro t;have h1:=Qev (S:=S0) (Qcq 0 ps) vs.toList 0 t hargs0;simp only[ZaU,ZaQ,ZdJ] at h1
   have:({tmps:=vs++Array.replicate (fn.ntmps - vs.size) undef,defers:=[]}:Act).eval (.tmp t)=(vs.toList[t]?).getD undef:=by
    simp only[Act.eval,ZaR,Zdc,Zcm];by_cases ht:t<vs.size
    .simp[ht]
    .simp only[ht,Zby]
     have:vs[t]? =none:=Zcd (by omega)
     simp only[Zbe,this]
     split<;>rfl
   rw[this];exact h1
  .intro t m hm;exact Qic 0 ps (cnum ps) (by omega) m (Qgh (Qcq 0 ps) 0 t m hm)
  .intro n e he;obtain⟨h1,cs,rfl⟩:=Qbm 0 ps n e he;exact⟨by show n<cnum ps;omega,by simp[AObj.nms]⟩
 refine wpIn_mono (hk C0 _ _ rfl rfl hc0 rfl) ?_;have fin: ∀(s:Qad) (C2:Ctx) (S1:Env) (a:Act),retX P fn.results.toList Q s->ConE C2 fn.ntmps s S1 a->Wf C0 S1-> ∃v,(results fn a.tmps).run P S1.w= .ok v S1.w/\RR (.returned v) S1.w:=by
  rintro s C2 S1 a ⟨xs,hxs,hr⟩ hc hW1;obtain⟨v,hrun,hconc⟩:=Qe7 hc hxs;exact⟨v,hrun,hfin v C0 S1 s xs rfl rfl (fun _ h=>h) hW1 hc.h hr hconc⟩
 have fin2: ∀(a:Act) (w:World),(∃s C2,retX P fn.results.toList Q s/\Con C2 fn.ntmps s a w/\(∀S',Wf C2 S'->Wf C0 S')/\Qrj C0 C2 a.defers)->LeavesInM Fence.wide 0 P fn a.tmps RR a.defers .returning w:=by
  rintro a w ⟨s,C2,hr,⟨S1,rfl,hc⟩,hback,hM⟩;rcases hM with hM|⟨D,hM,hD1,hD2,hD3,hD4,hD5⟩
  .rw[hM];simp only[LeavesInM,LeavesIn];exact fin s C2 S1 a hr hc (hback _ hc.wf)
  .rw[hM];have hh:S1.w.heap[D]? =some (.deferred (some [])):=(hc.wf.keep D hD1 hD2).trans hD5;have nk: ¬nmB S1 D:=fun hn=>(Qkg hc.wf hn).2 _ hh
   have no: ¬S1.ok D:=fun h=>by
    rcases hc.wf.ok1 D h with q|q|q
    .exact hD3 q
    .omega
    .exact hD2 q
   have hm:=Qk9 (S:=S1) (o:= .deferred none) no nk;refine⟨by simp,.inl ⟨D,_,rfl,run_takeDeferred hh,?_⟩⟩;simp only[LeavesInM,LeavesIn];exact fin s _ {S1 with w:=S1.w.putObj D (.deferred none)} a hr (Qpp hc hm 0 (ZaU _) a a.defers rfl rfl) (Qkz (hback _ hc.wf) hm (fun b hb _=>World.putObj_heap_other (by omega)))
 intro e a w he;cases e<;>simp only[rngP] at he<;>simp only[bodyPostM]
 .exact fin2 a w he
 .exact fin2 a w he
theorem view_runR{P:Program}{g:FuncId}{fn:Func}{c:Code}(hf:P.funcs[g]? =some fn)(hb:fn.body=some c)
 {ps:List PK}(hlen:ps.length<=fn.ntmps){R:D->Prop}
 (hk: ∀(C0:Ctx) (a:Act) (w:World),C0.w=w->C0.n0=0->Con C0 fn.ntmps ⟨entry 0 (Qcq 0 ps),Qc5 0 ps,cnum ps⟩ a w->a.defers=[]->c.wpIn Fence.wide 0 P (rngP C0 fn.ntmps (Qxj P fn.results.toList R)) a w)
 {C:Ctx}{S:Env}{vs:Array Value}{RR:Ending->World->Prop}(hW:Wf C S)(hps:PKL S ps vs.toList)
 (hfin: ∀(v:Value) (C0:Ctx) (S1:Env) (d:D),C0.w=S.w->C0.ok=S.ok->(∀b,¬C0.M b)->Wf C0 S1->R d->rd (okF C0 S1) S1.hp d v->RR (.returned v) S1.w):Calls P g vs S.w RR:=by
 have key: ∀s,retF P fn.results.toList R s->retX P fn.results.toList (fun s xs=>frP (hget s.h) R (resV xs)) s:=by
  intro s h;unfold retF at h;cases hx:mapO (Qj3 P s) fn.results.toList with
  |none=>rw[hx] at h;exact h.elim
  |some xs=>rw[hx] at h;exact⟨xs,hx,h⟩
 refine view_runS hf hb hlen (Q:=fun s xs=>frP (hget s.h) R (resV xs)) (fun C0 a w h1 h2 h3 h4=>wpIn_mono (hk C0 a w h1 h2 h3 h4) ?_) hW hps ?_
 .intro e a w h;cases e<;>simp only[rngP] at h⊢
  .obtain⟨s,C2,g1,g2⟩:=h;exact⟨s,C2,key s g1,g2⟩
  .obtain⟨s,C2,g1,g2⟩:=h;exact⟨s,C2,key s g1,g2⟩
 .intro v C0 S1 s xs g1 g2 g3 g4 g5 g6 g7;have hSh:hget s.h=S1.h:=(funext g5).symm;rw[hSh] at g6;obtain⟨d,h1,h2⟩:=Qzf g3 g4 g6 g7;exact hfin v C0 S1 d g1 g2 g3 g4 h1 h2
end Go.Ae
