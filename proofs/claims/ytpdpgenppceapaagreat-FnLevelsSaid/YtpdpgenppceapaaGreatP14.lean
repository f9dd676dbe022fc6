/- Lemmas. Conditions: none. -/
import Derived.Test.YtpdpgenppceapaaGreatP13
set_option linter.all false
set_option maxHeartbeats 8000000
set_option maxRecDepth 100000
namespace Go.Ae
open Go.Proofs Go.RowKit Go.Lib Go.Sort
def vS{A:Type}: ∀(l:List A) (k:Nat) (x:A),l[k]? =some x->l.Perm (x::l.eraseIdx k)
 |[],k,x,h=>by simp at h
 |y::r,0,x,h=>by
  simp only[Gw,AP] at h;subst h;exact mB _
 |y::r,k+1,x,h=>by
  rw[GD] at h;rw[Zdc];exact ((vS r k x h).cons y).trans (List.Perm.swap x y _)
def mL(op:GM)(s:A9)(xs:List AV):Prop:= ∃l:List Ac,l.Perm (op.map Prod.fst)/\ ∃m,xs=[.own m]/\hget s.h m=some (true,.arr 50 2 (l.map Ac.c))
def nO(op:GM):D:= .fn 164 [] [.ref [.mp ktP (op.map DG)]]
def mM{op:GM}(hb:op.length<=1000000){C:Bj}{S:A7}{vs:Array Value}{RR:Ending->World->Prop}(hW:Wf C S)(aq:FH S [.val (.sl true 0 []),.val (nO op)] vs.toList)
 (ad: ∀(v:Value) (C0:Bj) (S1:A7) (l:List Ac) (m:Nat),C0.w=S.w->C0.ok=S.ok->(∀b,¬C0.M b)->Wf C0 S1->l.Perm (op.map Prod.fst)->S1.h m=some (true,.arr 50 2 (l.map Ac.c))->Aa S1 (.own m) v->RR (.returned v) S1.w):
 Calls Tryz.prog 205 vs S.w RR:=by
 have HV:=lG vY;refine vJ Tryz.func205 rfl (ps:=[.val (.sl true 0 []),.val (nO op)]) (show 2<=13 by decide) (Q:=mL op) ?_ hW aq ?_;rotate_left
 .rintro v C0 S1 s xs g1 g2 g3 g4 g5 ⟨l,hl,m,rfl,hm⟩ g7;exact ad v C0 S1 l m g1 g2 g3 g4 hl ((g5 m).trans hm) g7
 intro C0 a w hw af hc an;have ao:C0.ds=[]:=by obtain⟨S0,_,h⟩:=hc;rw[<-h.defers];exact an
 simp only[Tryz.f205,Option.getD] at hc⊢;refine Qxh DJ HV (by decide) (by decide) (s':=⟨[(2,.ptr 0 0),(1,.im (nO op))],[(0,(true,.cells 166 [.im (.sl true 0 [])]))],2⟩) hc ?_ ?_ (by rw[af];exact Cx _) (λa w hc=> ?_)
 .simp only[ZZ,simprocAttr,Ab,BS,sub,DM,Ea,Ca,entry]
 .simp[ZG]
 refine wpIn_seq ?_;refine Qxh DJ HV (by decide) (by decide) (s':=⟨[(6,.im (nO op)),(2,.ptr 0 0)],[(0,(true,.cells 166 [.im (.sl true 0 [])]))],2⟩) hc ?_ ?_ (by rw[af];exact Cx _) (λa w hc=> ?_)
 .simp only[ZZ,simprocAttr,Ab,BS,sub]
 .simp[ZG]
 refine wpIn_block (wpIn_mono (vV DJ HV hc (gf:=164) (capt:=[.ref [.mp ktP (op.map DG)]]) (X:=ZI op) (S5 (by kernel_rfl)) (Qa op)
  (λ(i:GM×List Ac)=>(i.2++i.1.map Prod.fst).Perm (op.map Prod.fst)) (mB _) ?_ (by decide) (by decide) (by decide) (by decide) ?_ (by decide)
  (tm0:=[(6,.im (nO op)),(2,.ptr 0 0)]) (hs:=λ(i:GM×List Ac)=>[(0,(true,.cells 166 [.own 2])),(2,(true,.arr 50 2 (i.2.map Ac.c)))]) (nx:=3) ⟨[(2,none)],?_⟩ rfl (by simp) ?_ ?_ ?_ ?_) ?_)
 .rintro⟨left,O⟩ x j G ⟨k,p,hk,rfl,rfl⟩;simp only at hk G⊢;have h1:(left.map Prod.fst).Perm (p.1::(left.eraseIdx k).map Prod.fst):=by
   exact (vS left k p hk).map Prod.fst
  refine List.Perm.trans ?_ G;rw[HY];exact (h1.append_left O).symm
 .rintro⟨left,O⟩ x j G ⟨k,p,hk,rfl,rfl⟩;rfl
 .simp only[Ao];simp only[ZZ,simprocAttr,Ab,AU,AT,BY];exact (trivial:Vq true (.arr 0 0 []))
 .simp[C4,AV.bel]
 .rintro⟨left,O⟩ G;simp[ZG]
 .intro i o e he hv;rw[XA _ (by rfl) o e he] at hv;cases hv
 .rintro⟨left,O⟩ x j G ⟨k,p,hk,rfl,rfl⟩;have au:O.length<=op.length:=by
   have:=G.length_eq
   simp at this;omega
  simp only[ZZ,simprocAttr,Ab,P4,Wb,FV,sub,AQ];refine⟨λrow ab=>by rw[BN] at ab;subst ab;rfl,by omega,[(2,some 5)],?_⟩;simp only[Ao];simp only[ZZ,simprocAttr,Ab,AU,AT,Fg]
 .rintro e a' w' ⟨⟨left,O⟩,G,ac,hq⟩;simp only[ZI] at ac;subst ac;simp only[BY,CQ] at G;cases e<;>simp only[bE] at hq;obtain⟨C2,S2,Dk,rfl,hE,Z,ht,hd,ag,ah,ai,aj,ak⟩:=hq;simp only[Exit.inBlock,Exit.then];have am:a.defers=[]:=by obtain⟨S0,_,h⟩:=hc;rw[h.defers];exact ao
  rw[am] at hd;have hm: ∀a'':Act,a''.defers=C2.ds->zO C0 C2 a''.defers:=λa'' h=> .inr ⟨Dk,by rw[h,<-hE.defers,hd],ag,ah,ai,aj,ak⟩
  refine wpIn_mono (pR (ro:=none) DJ HV _ (by decide) (by decide) (VY Tryz.prog [ResultVar.tmp 4] (mL op)) _ a' S2.w ?_ ⟨S2,rfl,hE⟩) ?_
  .simp only[ZZ,simprocAttr,Ab,VY,Q6,mL];exact⟨_,rfl,O,G,2,rfl,rfl⟩
  .intro e a'' w'' hq;cases e<;>simp only[GJ] at hq<;>simp only[Q7]
   .obtain⟨s',aa,z⟩:=hq;exact⟨s',C2,aa,z,Z,hm a'' (by obtain⟨S0,_,h⟩:=z;exact h.defers)⟩
   .obtain⟨s',aa,z⟩:=hq;exact aa.elim
   .obtain⟨s',aa,z⟩:=hq;exact⟨s',C2,aa,z,Z,hm a'' (by obtain⟨S0,_,h⟩:=z;exact h.defers)⟩
def WD(a:List Ac)(j:Nat):Av (srtQ.H0 a) j=true↔j<1:=by
 simp only[Av,srtQ.H0,hget];by_cases z:j=0
 .subst z;simp
 .have:(0==j)=false:=by simpa using λh=>z h.symm
  rw[this];simp;omega
def sR(op:GM)(S:A7)(v:Value)(w:World):Prop:= ∃(z:Bj) (S1:A7) (l:List Ac) (m:Nat),S1.w=w/\z.w=S.w/\z.ok=S.ok/\(∀b,¬z.M b)/\Wf z S1/\l.Perm (op.map Prod.fst)/\S1.h m=some (true,.arr 50 2 (l.map Ac.c))/\Aa S1 (.own m) v
def Zs{op:GM}(hb:op.length<=1000000){C:Bj}{S:A7}{v1:Value}(hW:Wf C S)(hv:FH S [.val (nO op)] [v1]):
 Calls Tryz.prog 162 #[v1] S.w (λe w=> ∃v,e= .returned v/\sR op S v w):=by
 have z:Calls Tryz.prog 205 #[.slice none 0 0,v1] S.w (λe w=> ∃v,e= .returned v/\sR op S v w):=by
  refine mM hb hW ⟨_,_,rfl,?_,hv⟩ (λv G S1 l m g1 g2 O Q Z g6 g7=>⟨v,rfl,G,S1,l,m,rfl,g1,g2,O,Q,Z,g6,g7⟩);exact iK S (.slice none 0 0)
 go_enter Tryz.func162,Tryz.ntmps162
 go_wp2_with (go_at_call 205;refine z.mono ?_;rintro e w' ⟨v,rfl,h⟩)
 go_ret
 exact⟨v,rfl,h⟩
def QZ{Z:Bj}{S1:A7}{l:List Ac}{m:Nat}{v Q:Value}{R:Ending->World->Prop}(hW:Wf Z S1)(hd:l.Nodup)(hm:S1.h m=some (true,.arr 50 2 (l.map Ac.c)))(hv:Aa S1 (.own m) v)(ab:Aa S1 (.im (.fn 126 [] [])) Q)
 (G: ∀u S',Wf Z S'->S'.h m=some (true,.arr 50 2 ((Cr l).map Ac.c))->Aa S' (.own m) v->R (.returned u) S'.w):
 Calls Tryz.prog 163 #[v,Q] S1.w R:=by
 have O:srtQ.row [.own m,.im (.fn 126 [] [])] S1.h (m+1) (λr E=>E={use:=[m],kill:=[m],new:=[(m,(true,.arr 50 2 ((Cr l).map Ac.c)))],cnt:=0}):=by
  refine AM.os l [m] hd (WD l) rfl (by simp[eI]) ⟨rfl,?_⟩ ?_
  .simp only[srtQ.H0,EJ,FW,Qs];exact⟨hm,trivial⟩
  .rfl
 obtain⟨_,r,E,hT,rfl⟩:=srtQ.ok _ _ _ _ O;have z: ∀n,¬Fr (m+1) 0 n:=λn h=>by have:=h.1;have:=h.2;omega
 refine hT Z S1 #[v,Q] R hW (λn _=>rfl) (λn hn=>(z n hn).elim) (λn e _ k _ hk=>z k hk) ⟨v,[Q],rfl,hv,Q,[],rfl,ab,rfl⟩ ?_;intro u S' aa hh hp _;refine G u S' aa ?_ (IT hp _ _ (λo _ hf=>z o hf) hv);rw[hh];simp[BD.appf,hget]
def sorF.ar:List PK->Option GM
 |[.val (.fn 164 [] [.ref [.mp ⟨true,[.int .i64,.int .i64]⟩ z]]),.val (.fn 126 [] [])]=>Hi (EC Ac.d) (Rn Dj) z
 |_=>none
def sorF.ae(op:GM):List PK:=[.val (nO op),.val (.fn 126 [] [])]
def sorF.le: ∀z a,sorF.ar z=some a->Cy z (sorF.ae a):=by
 intro z a h;unfold sorF.ar at h;split at h
 .exact⟨YL ⟨Xd (Dh.leP ⟨UL (Qxb Qwu (xF Ez (λ_=>rfl)) _ _ h),trivial⟩),trivial⟩,CU.refl _,trivial⟩
 .cases h
def sorF.fv(op:GM):List Ac:=Cr (op.map Prod.fst)
def sorF.row:AO:=Pg sorF.ar (λop=>(op.map Prod.fst).Nodup/\op.length<=1000000) (λop=> .sl false 2 ((sorF.fv op).map Ac.c))
def sorF.q:=vqF sorF.row rfl
def sorF.ok:AS 124 sorF.row:=by
 refine Quy (by kernel_rfl) sorF.le (rc:=Rn Ac.d) (re:=λb=> .sl false 2 (b.map Ac.c)) (xF Ac.d_le (λ_=>rfl)) (f:=sorF.fv) (λop Q C S vs RR hW Z O=> ?_);obtain⟨ad,hb⟩:=Q;simp only[sorF.ae,FH] at Z;obtain⟨v1,r1,ai,ag,v2,r2,rfl,ah,rfl⟩:=Z;have ab:vs= #[v1,v2]:=by apply RG;simpa using ai
 subst ab;have G:=Zs hb hW (v1:=v1) ⟨v1,[],rfl,ag,rfl⟩
 go_enter Tryz.func124,Tryz.ntmps124
 have aa: ∀S1:A7,Aa S1 (.im (.fn 126 [] [])) v2:=λS1=>by simpa only[Mc,Aa,rd,rdl] using ah
 have af: ∀(z:Bj) (S1:A7) (l:List Ac) (m:Nat) (v:Value),Wf z S1->l.Perm (op.map Prod.fst)->S1.h m=some (true,.arr 50 2 (l.map Ac.c))->Aa S1 (.own m) v->
  Calls Tryz.prog 163 #[v,v2] S1.w (λe w=> ∃u S',e= .returned u/\S'.w=w/\Wf z S'/\S'.h m=some (true,.arr 50 2 ((sorF.fv op).map Ac.c))/\Aa S' (.own m) v):=by
  intro z S1 l m v g4 g5 g6 g7;refine QZ g4 (g5.nodup_iff.2 ad) g6 g7 (aa S1) (λu S' h1 h2 h3=>⟨u,S',rfl,rfl,h1,?_,h3⟩)
  have:Cr l=Cr (op.map Prod.fst):=iG (OT _) (OT _) (λq=>by rw[KS,KS];exact g5.mem_iff)
  rw[h2,this];rfl
 go_wp2_with (first
  |(go_at_call 162;refine G.mono ?_;rintro e w' ⟨v,rfl,z,S1,l,m,rfl,g1,g2,g3,g4,g5,g6,g7⟩)
  |(go_at_call 163;refine (af z S1 l m v g4 g5 g6 g7).mono ?_;rintro e w' ⟨u,S',rfl,rfl,h1,h2,h3⟩))
 show RR (.returned v) S'.w;obtain⟨d,rfl,ac⟩:=Qzf (K:=λd=>d= .sl false 2 ((sorF.fv op).map Ac.c)) g3 h1 (x:= .own m) (by
  simp only[PT,h2,nI,nH];exact⟨by intro row hr;obtain⟨p,_,rfl⟩:=BZ.1 hr;rfl,trivial⟩) h3
 exact O v z S' _ g1 g2 g3 h1 (by simp only[Be,Rn,Ac.d_R]) ac
def Bw.ca(_:GM):List AV:=[.mp 0]
def Bw.H0(a:GM):Au:=[(0,(true,.map ktP (a.map DG)))]
def Bw.H1(_:GM):Au:=[(1,(true,.cells 113 [.mp 0]))]
def Bw.r0(_:GM):AV:= .clo 164 [] [.ptr 1 0]
def Bw.row:AO:=AM Bw.ca Bw.H0 1 (λ_=>True) (λ_=>false) Bw.r0 Bw.H1 1
def Bw.ok:AS 125 Bw.row:=by
 refine ow tN Tryz.func125 (exB:=λj=>j==1) (R:=λa r=>r=Bw.r0 a) (λ_=>rfl)
  (λa=>by simp[Bw.ca,Bw.H0,Bw.H1,Bw.r0,AL,AV.bel,AH,Cz,Df,Ah.nms,AE,AV.nms,Av,hget]) (λa p hp=> ?_) (λa r h=>by subst h;exact ED.refl _) ?_
 rotate_left
 intro a z;simp only[Tryz.f125,Option.getD,Bw.ca,Bw.H0,Bw.H1,Bw.r0];simp only[ZZ,simprocAttr,Ab,Az,Bw.ca,Bw.H0,Bw.H1,Bw.r0];simp[Bw.H1] at hp;subst hp;exact .inr ⟨by omega,by omega,rfl,rfl⟩
end Go.Ae
namespace Go.Ae
open Go.Proofs
def Nm{β:Type}{v:β}{p:Ac}: ∀{t:List (Ac×β)},BP t p=some v->(p,v)∈t
 |(q,w)::r,h=>by
  simp only[BP] at h;split at h
  .rename_i e;obtain rfl:=A8 h;rw[e];exact Ct ..
  .exact Cs _ (Nm h)
def vW{β:Type}{p:Ac}: ∀{t:List (Ac×β)},BP t p=none->p∉t.map Prod.fst
 |[],_=>by simp
 |(q,w)::r,h=>by
  simp only[BP] at h;split at h
  .cases h
  .rename_i e;simp only[Bm,BO,Zf];exact⟨e,vW h⟩
def UD(a:GM)(j:Nat):Av (Bw.H0 a) j=true↔j<1:=by
 simp only[Av,Bw.H0,hget];by_cases h0:j=0
 .subst h0;simp
 .have z:(0==j)=false:=by simp;omega
  simp[z];omega
def lisC.r0(a:Dv):AV:= .im (.sl false 3 ((H9 a.Op).map Aj.c))
def lisC.row:AO:=AM asmC.ca B0 3 (λa=>(a.Op.map Prod.fst).Nodup/\a.Op.length<=1000000/\ ∀q∈a.Op,q.2.length<=1000) (λ_=>false) lisC.r0 (λ_=>[]) 20
def SK:=J @sorF.q @sorF.fv.eq_1
def lisC.ok:AS 68 lisC.row:=by
 refine VA (tC Bw.ok (tC sorF.ok tN)) Tryz.func68 (exB:=λ_=>false) (R:=λa r=>r=lisC.r0 a) (λ_=>rfl)
  (λa=>by simp[asmC.ca,B0,Cf,AL,AV.bel,AH,Cz,Df,Ah.nms,AE,AV.nms,Av,hget]) (λa p hp=> ?_) (λa r h=>by subst h;exact ED.refl _) ?_
 rotate_left
 intro a ab;simp only[Tryz.f68,Option.getD,asmC.ca,B0,Cf];simp only[ZZ,simprocAttr,Ab,SK,sorF.ar,AR,Az,asmC.ca,B0,Cf];obtain⟨Z,aa,af⟩:=ab;refine AM.os a.Op [2] trivial (λj=>UD _ j) rfl rfl ?_ ?_
 .simp only[ZZ,simprocAttr,Ab,SK,sorF.ar,AR,Az,asmC.ca,B0,Cf,Bw.ca,Bw.H0,Bt,Cl];rfl
 simp only[ZZ,simprocAttr,Ab,SK,sorF.ar,AR,Az,asmC.ca,B0,Cf,Bw.H1,Bw.r0,sub];obtain⟨L,hL⟩: ∃L,L=Cr (a.Op.map Prod.fst):=⟨_,rfl⟩;obtain⟨g,hg⟩: ∃g:Ac->List Int,g=λp=>(BP a.Op p).getD []:=⟨_,rfl⟩
 have ad:H9 a.Op=CC g L:=by rw[hg,hL];rfl
 refine⟨⟨Z,aa⟩,?_⟩;simp only[<-hL];intro ag;refine Bc.ren ⟨{i:Nat//i<=L.length},λi=>⟨[(15,.im (.int .i64 i.1)),(14,.im (.int .i64 L.length)),(13,.im (.sl false 2 (L.map Ac.c))),(3,.own 6),(0,.ptr 0 0)],[(6,(true,.arr 52 3 ((EI g L i.1).map Aj.c))),(0,(true,.cells 115 (Cf a.Sys))),(1,(true,.map ⟨true,[.int .i64,.int .i64]⟩ (a.Tl.map F3))),(2,(true,.map ⟨true,[.int .i64,.int .i64]⟩ (a.Op.map DG)))],7⟩,λi=>L.length - i.1,λi=>⟨by simp[ZG,Cf],by simp⟩,⟨⟨0,Cx _⟩,[(6,some 4)],?_⟩,λi=> ?_⟩
 .simp only[Ao,Cf];simp only[ZZ,simprocAttr,Ab,SK,sorF.ar,AR,Az,asmC.ca,B0,Cf,AU,AT,EI,Fh,CC,rP,BY]
  try simp
 obtain⟨i,hi⟩:=i;simp only[Cf];simp only[ZZ,simprocAttr,Ab,SK,sorF.ar,AR,Az,asmC.ca,B0,Cf,sub,AQ,aF];have z: ∀p,(g p).length<=1000:=λp=>by
  rw[hg];simp only;cases hq:BP a.Op p with
  |none=>simp
  |some v=>exact af _ (Nm hq)
 have ah:L.length<=1000000:=by rw[hL,(iJ Z).length_eq,FN];exact aa
 have ai:(EI g L i).length<=1000000*1000:=by
  have:=Yc z (L.take i)
  have h9:(L.take i).length*1000<=1000000*1000:=I5 _ (by simp;omega);simp only[EI];omega
 refine⟨λO=>⟨O,λp hp=>⟨λv hv=> ?_,λhv=> ?_⟩⟩,λO=> ?_⟩
 .have G:g p=v:=by rw[hg];simp only[hv,AJ]
  have ac:=z p;rw[G] at ac;refine Bc.ren ⟨{k:Nat//k<=v.length},λk=>⟨[(26,.im (.int .i64 k.1)),(25,.im (.int .i64 v.length)),(24,.im (.sl false 1 (v.map Af))),(5,.ptr 7 0),(15,.im (.int .i64 i)),(14,.im (.int .i64 L.length)),(13,.im (.sl false 2 (L.map Ac.c))),(3,.own 8),(0,.ptr 0 0)],[(8,(true,.arr 52 3 ((EI g L i++(v.take k.1).map (JU p)).map Aj.c))),(7,(true,.cells 50 ((Ac.c p).map .im))),(0,(true,.cells 115 (Cf a.Sys))),(1,(true,.map ⟨true,[.int .i64,.int .i64]⟩ (a.Tl.map F3))),(2,(true,.map ⟨true,[.int .i64,.int .i64]⟩ (a.Op.map DG)))],9⟩,λk=>v.length - k.1,λk=>⟨by simp[ZG,Cf,Ac.c],by simp⟩,⟨⟨0,Cx _⟩,[(8,some 6)],?_⟩,λk=> ?_⟩
  .simp only[Ao,Cf];simp only[ZZ,simprocAttr,Ab,SK,sorF.ar,AR,Az,asmC.ca,B0,Cf,AU,AT,Fh,BY,CQ]
   try simp
  obtain⟨k,hk⟩:=k;simp only[Cf];simp only[ZZ,simprocAttr,Ab,SK,sorF.ar,AR,Az,asmC.ca,B0,Cf,sub,AQ,OO,OI,OL,B8,D.one,Er,EN,I7,CS];refine⟨λQ=>⟨Q,λx hx=>⟨?_,⟨k+1,by omega⟩,[(8,some 10)],by simp only;omega,?_⟩⟩,λQ=>⟨⟨i+1,by omega⟩,[(6,some 8)],by simp only;omega,?_⟩⟩
  .have:(v.take k).length<=1000:=by simp;omega
   omega
  .simp only[Ao];simp only[ZZ,simprocAttr,Ab,SK,sorF.ar,AR,Az,asmC.ca,B0,Cf,AU,AT];refine⟨by rw[AF (by omega) (by omega)];rfl,?_⟩;rw[K4 hx];simp[JU,Aj.c,Ac.c]
  .obtain rfl:k=v.length:=by omega
   simp only[Ao];simp only[ZZ,simprocAttr,Ab,SK,sorF.ar,AR,Az,asmC.ca,B0,Cf,AU,AT];refine⟨by rw[AF (by omega) (by omega)];rfl,?_⟩;rw[vP hp,EW,G]
 .exfalso
  have:p∈L:=Bd hp
  rw[hL,KS] at this;exact vW hv this
 .obtain rfl:i=L.length:=by omega
  have hA:EI g L L.length=H9 a.Op:=by rw[EI,EW,ad]
  rw[hA];refine⟨[6],[],⟨[(2,.im (.sl false 3 ((H9 a.Op).map Aj.c)))],[(0,(true,.cells 115 (Cf a.Sys))),(1,(true,.map ⟨true,[.int .i64,.int .i64]⟩ (a.Tl.map F3))),(2,(true,.map ⟨true,[.int .i64,.int .i64]⟩ (a.Op.map DG)))],3⟩,?_,by simp[ZG,Cf],by simp,?_⟩
  .simp only[Ao,Cf];simp only[ZZ,simprocAttr,Ab,SK,sorF.ar,AR,Az,asmC.ca,B0,Cf,AU,AT]
  .simp only[Cf];simp only[ZZ,simprocAttr,Ab,SK,sorF.ar,AR,Az,asmC.ca,B0,Cf,lisC.r0]
 simp at hp
def lastF.fv(a:(List Aj)):Aj:=(λl=>(l[l.length - 1]?).getD V1) a
def lastF.row:AO:=H5 (b1 (qS Aj.d_le Aj.c_n)) (rA Aj.d_le) (λa=>1<=a.length) lastF.fv
def lastF.q:=FE (R:=lastF.row) rfl
def lastF.ok:AS 69 lastF.row:=by
 refine LX tN Tryz.func69 ?_;intro a z;simp only[Tryz.f69,Option.getD];simp(disch:=omega)only[ZZ,simprocAttr,Ab,lastF.fv,C8,D.sc,D.scs,Cm,Be];intro _;rw[AF (x:=(a.length:Int) - 1) (by omega) (by omega)];refine⟨by omega,by omega,λx G=> ?_⟩;rw[show ((a.length:Int) - 1).toNat=a.length - 1 by omega] at G;refine⟨by simp[D.sc],?_⟩;rw[G];rfl
def fldO:Uc Tryz.prog 52 0=some (50,0):=by kernel_rfl
def Qatb{b:Al}{R:List Aj}{j:Nat}{o:Aj}(h:R[j]? =some o):Ax b (R.take (j+1))=Ci (Ax b (R.take j)) o.At o.Tile:=by rw[K4 h,Sc]
def grds_.fv(a:An×Int):(List (List Aj))×Al×Int:=(nK) (a.1) (a.2)
def grds_.row:AO:=vK (b2 (qR An.d_le) qI) (r3 (rS WA bZ) (rA Al.d_le) rI) (λa=>R0 a.1.Set/\FL a.1=true/\a.2=500/\ ∃l,Cw a.1 l/\CK a.1 l=none) grds_.fv
def grds_.q:=B2 (R:=grds_.row) rfl
def I1:=J @grds_.fv.eq_1<|J @validI_.q<|J @validI_.fv.eq_1<|J @within_.q<|J @within_.fv.eq_1<|J @lastF.q @lastF.fv.eq_1
def grds_.ok:AS 24 grds_.row:=by
 refine vw (tC validI_.ok (tC within_.ok (tC newC.ok (tC lisC.ok (tC lastF.ok (tC putC.ok (tC asmC.ok tN))))))) Tryz.func24 ?_;intro a ay;simp only[Tryz.f24,Option.getD];simp(disch:=omega)only[ZZ,simprocAttr,Ab,I1];obtain⟨s,n⟩:=a;obtain⟨az,ac,hn,l,hq,hf⟩:=ay;simp only at az ac hn hq hf⊢;subst hn;obtain⟨bd,an⟩:=Zw ac (Gl ac).2.2;have h5:s.Seed.Tiles.length<=500:=(WV (Gl ac).2.2).2;have hT:1<=s.Temperature:=an.2.2.2.2.2.2.1;refine⟨az,?_⟩;simp only[gF,ac];rw[Ad (by decide),Ad (by decide)];refine AM.os (s,s.Seed) [] bd (λj=>by simp[Av,hget]) rfl rfl ?_ ?_
 .simp(disch:=omega)only[ZZ,simprocAttr,Ab,I1,newC.ca,EJ,An.c,Al.c]
 simp(disch:=omega)only[ZZ,simprocAttr,Ab,I1,newC.H1,sub];have hM:=jK hq;have h6:=hq.2.2.2.2.2;refine Bc.frr ⟨{x:Nat×Dv//x.1<=C5 s l/\Lx s (Bb s l x.1) x.2},λx=>⟨[(29,.im (.int .i64 x.1.1)),(28,.im (.int .i64 500)),(8,.own 9),(7,.ptr 7 0),(5,.ptr 2 0)],[(9,(true,.arrA 34 1 (Bo (((List.range x.1.1).map λj=>Bi s (Bb s l j)).map F1)))),(7,(true,.cells 115 [.im (.sl false 2 (s.Set.Glues.map AG.c)),.im (.sl false 2 (s.Set.Tiles.map Tile.c)),.im (.sl false 3 (s.Seed.Tiles.map Ar.c)),.im (.int .i64 s.Temperature),.mp 5,.mp 6])),(5,(true,.map ⟨true,[.int .i64,.int .i64]⟩ (x.1.2.Tl.map F3))),(6,(true,.map ⟨true,[.int .i64,.int .i64]⟩ (x.1.2.Op.map DG))),(2,(true,.cells 30 [.im (.sl true 0 [])]))],10⟩,λx=>500 - x.1.1,λx=>⟨by simp[ZG,Jz],by simp⟩,⟨⟨(0,YQ s s.Seed),Cx _,an⟩,[],[(9,some 8)],?_⟩,λx=> ?_⟩
 .simp only[Ao,ZdY,BY];simp(disch:=omega)only[ZZ,simprocAttr,Ab,I1,AU,AT]
  try simp
 obtain⟨⟨k,c⟩,hk,hc⟩:=x;simp only at hk hc;have bi:k<=500:=by omega
 obtain⟨ad,⟨n,z⟩,aw,hb,ak,h1,_,h2⟩:=hc;have af:=aw;rw[z.at] at af;obtain⟨l1,l2,l3⟩:=oK hT ak h2 af;obtain⟨L,hL⟩: ∃L,L=Bi s (Bb s l k):=⟨_,rfl⟩;have aj:=Ni hq hf hT k;have ai:=jJ hq hf hT k;have be:=iY hq hf hT k;have bj:=LA hq h5 (k+1);obtain⟨ax,av⟩:=wV hq hf hT h5 k;rw[l1] at l3;simp only[<-hL] at aj ai be ax av l1 l3;simp(disch:=omega)only[ZZ,simprocAttr,Ab,I1,sub,AQ];refine⟨λba=> ?_,λba=> ?_⟩
 case refine_2=>
  refine AM.os c [7,5,6] ⟨z.1,by have:=z.size;omega⟩ (λj=>Ij _ j) rfl rfl ?_ ?_
  .simp(disch:=omega)only[ZZ,simprocAttr,Ab,I1,asmC.ca,B0,Cf,Bt,Cl,Hz,ad]
  .have aa:k=C5 s l:=by omega
   have O:Bb s l k=Ax s.Seed l:=by rw[aa,jF hq]
   have Z:=z.eq;rw[O] at Z;have hF:=iZ hq hf hT h5;rw[Z,<-aa] at hF;have hR:AX OQ (List.map F1 ((List.range k).map λj=>Bi s (Bb s l j)))=some ((List.range k).map λj=>Bi s (Bb s l j)):=Oh _;simp(disch:=omega)only[ZZ,simprocAttr,Ab,I1,asmC.H1,UG,sub,P5,Cl,Hz,OK,hF,hR]
 refine AM.os c [7,5,6] l2 (λj=>Ij _ j) rfl rfl ?_ ?_
 .simp(disch:=omega)only[ZZ,simprocAttr,Ab,I1,asmC.ca,B0,Cf,Bt,Cl,Hz,ad]
 simp(disch:=omega)only[ZZ,simprocAttr,Ab,I1,sub,lisC.r0,l1];intro _;refine Bc.ren ⟨{i:Nat//i<=L.length},λi=>⟨[(34,.im (.int .i64 i.1)),(33,.im (.int .i64 L.length)),(32,.im (.sl false 3 (L.map Aj.c))),(9,.own 31),(29,.im (.int .i64 k)),(28,.im (.int .i64 500)),(8,.own 9),(7,.ptr 7 0),(5,.ptr 2 0)],[(31,(true,.arr 52 3 ((L.take i.1).map Aj.c))),(9,(true,.arrA 34 1 (Bo (((List.range k).map λj=>Bi s (Bb s l j)).map F1)))),(7,(true,.cells 115 [.im (.sl false 2 (s.Set.Glues.map AG.c)),.im (.sl false 2 (s.Set.Tiles.map Tile.c)),.im (.sl false 3 (s.Seed.Tiles.map Ar.c)),.im (.int .i64 s.Temperature),.mp 5,.mp 6])),(5,(true,.map ⟨true,[.int .i64,.int .i64]⟩ (c.Tl.map F3))),(6,(true,.map ⟨true,[.int .i64,.int .i64]⟩ (c.Op.map DG))),(2,(true,.cells 30 [.im (.sl true 0 [])]))],32⟩,λi=>L.length - i.1,λi=>⟨by simp[ZG,Jz],by simp⟩,⟨⟨0,Cx _⟩,[(31,some 10)],?_⟩,λi=> ?_⟩
 .simp only[Ao,Fh,BY];simp(disch:=omega)only[ZZ,simprocAttr,Ab,I1,AU,AT,GC]
  try simp
 obtain⟨i,hi⟩:=i;have bf:(L.take i).length=i:=by simp;omega
 simp(disch:=omega)only[ZZ,simprocAttr,Ab,I1,sub,AQ,fldO,bf];refine⟨λao=> ?_,λao=> ?_⟩
 case refine_2=>
  obtain rfl:i=L.length:=by omega
  rw[EW];intro _;refine⟨λc0=> ?_,λc0=> ?_⟩
  case refine_1=>
   have a0:L=[]:=Pv.1 (by omega);have aa:k=C5 s l:=by
    refine Hc λc=> ?_
    exact ai.2 (by omega) a0
   have O:Bb s l k=Ax s.Seed l:=by rw[aa,jF hq]
   have Z:=z.eq;rw[O] at Z;have hF:=iZ hq hf hT h5;rw[Z,<-aa] at hF;have hR:AX OQ (List.map F1 ((List.range k).map λj=>Bi s (Bb s l j)))=some ((List.range k).map λj=>Bi s (Bb s l j)):=Oh _;refine AM.os c [7,5,6] ⟨z.1,by have:=z.size;omega⟩ (λj=>Ij _ j) rfl rfl ?_ ?_
   .simp(disch:=omega)only[ZZ,simprocAttr,Ab,I1,asmC.ca,B0,Cf,Bt,Cl,Hz,ad]
   .simp(disch:=omega)only[ZZ,simprocAttr,Ab,I1,asmC.H1,UG,sub,P5,Cl,Hz,OK,hF,hR]
  have bm:=z.size;rw[AF (x:=(c.Tl.length:Int)+L.length) (by omega) (by omega)];refine λ_=>⟨λc5=>absurd c5 (by omega),λ_ _=> ?_⟩
  refine Bc.old ⟨{x:Nat×Dv//x.1<=L.length/\Lx s (Ax (Bb s l k) (L.take x.1)) x.2},λx=>⟨[(69,.im (.int .i64 x.1.1)),(68,.im (.int .i64 L.length)),(67,.own 31),(9,.own 31),(29,.im (.int .i64 k)),(28,.im (.int .i64 500)),(8,.own 9),(7,.ptr 7 0),(5,.ptr 2 0)],[(31,(true,.arr 52 3 (L.map Aj.c))),(9,(true,.arrA 34 1 (Bo (((List.range k).map λj=>Bi s (Bb s l j)).map F1)))),(7,(true,.cells 115 [.im (.sl false 2 (s.Set.Glues.map AG.c)),.im (.sl false 2 (s.Set.Tiles.map Tile.c)),.im (.sl false 3 (s.Seed.Tiles.map Ar.c)),.im (.int .i64 s.Temperature),.mp 5,.mp 6])),(5,(true,.map ⟨true,[.int .i64,.int .i64]⟩ (x.1.2.Tl.map F3))),(6,(true,.map ⟨true,[.int .i64,.int .i64]⟩ (x.1.2.Op.map DG))),(2,(true,.cells 30 [.im (.sl true 0 [])]))],32⟩,λx=>L.length - x.1.1,λx=>⟨by simp[ZG,Jz],by simp⟩,⟨⟨(0,c),Cx _,ad,⟨n,z⟩,aw,hb,ak,h1,hT,h2⟩,by simp(disch:=omega)only[ZZ,simprocAttr,Ab,I1,sub]⟩,λx=> ?_⟩;obtain⟨⟨j,c2⟩,hj,Q⟩:=x;simp only at hj Q;simp(disch:=omega)only[ZZ,simprocAttr,Ab,I1,sub,AQ];refine⟨λah=>⟨ah,ah,λx hx=> ?_⟩,λah=> ?_⟩
  .obtain⟨am,bc⟩:=ax j x hx;have ab:=Lx.put Q am bc;rw[<-Qatb hx] at ab;obtain⟨G,⟨n2,ag⟩,_,a9,bh,_,_,_⟩:=Q;obtain⟨z1,z2,z3,z4,z5,z6⟩:=D8 am;have aq:ZQ s.Set (CO c2.Tl):=by rw[ag.at];exact λp hp=>ON a9 p hp
   have bl:=ag.size;refine AM.os (c2,x.At,x.Tile) [7,5,6] ⟨⟨by rw[G];exact h1,by rw[G];exact aq,by rw[G];omega⟩,z2,by rw[G];exact z5⟩ (λj=>Ij _ j) rfl rfl ?_ ?_
   .simp(disch:=omega)only[ZZ,simprocAttr,Ab,I1,putC.ca,B0,Cf,Bt,Cl,Hz,G]
   .simp(disch:=omega)only[ZZ,simprocAttr,Ab,I1,putC.H1,IF,sub,Kb,Cl,Hz];exact⟨⟨(j+1,Kb c2 x.At x.Tile),by simp only;omega,ab⟩,by simp only;omega,by rw[AF (by omega) (by omega)];simp only;omega,rfl,rfl⟩
  .obtain rfl:j=L.length:=by omega
   rw[EW,av] at Q;have bb:k<C5 s l:=ai.1 λe=>by rw[e] at c0;exact c0 rfl
   refine⟨by simp[AL,AV.bel],by simp[B7,Mk,AV.one],by simp;omega,by rw[Mp,KN];simp[AL,AV.bel],⟨(k+1,c2),bb,Q⟩,[31],[(9,some 33)],by simp only;omega,?_⟩;simp only[Ao];simp(disch:=omega)only[ZZ,simprocAttr,Ab,I1,AU,AT,GC,YS,Xl];refine⟨by rw[AF (by omega) (by omega)];omega,?_⟩;rw[Zev];simp only[Fg,Bm,BY,<-hL];exact Yv (SF _ _) ⟨rfl,trivial⟩
 refine⟨ao,λx hx=> ?_⟩;have bg:IntKind.i64.wrap ((i:Int)+1)=((i+1:Nat):Int):=by rw[AF (by omega) (by omega)];omega
 have a8: ¬(i:Int)=0->((((List.take i L)[i - 1]?.getD V1).At.X==x.At.X && ((List.take i L)[i - 1]?.getD V1).At.Y==x.At.Y))=false:=λc0=>by
  have hy:L[i - 1]? =some L[i - 1]:=Bk (by omega);rw[R9 (by omega),hy,AJ];have au:L[i - 1].At≠x.At:=λe=>by
   have:=Pa aj (q:=x.At) (j:=i - 1) (k:=i) (by rw[hy,CR,e]) (by rw[hx];rfl)
   omega
  rw[lU];refine Hc λc=>au ?_
  simp only[Zf,Gi,SQ] at c;cases hz:L[i - 1].At;cases hw:x.At;simp only[hz,hw] at c;rw[c.1,c.2]
 have O: ∃b':{i:Nat//i<=L.length},True:=⟨⟨i+1,by omega⟩,trivial⟩;refine⟨λc0=>⟨by omega,λ_=> ?_,λc=>absurd (a8 c0) c⟩,λc0=> ?_⟩
 all_goals
  refine⟨by simp[B7,B8,D.one],by omega,⟨i+1,by omega⟩,[(31,some 34)],by simp only;omega,?_⟩;simp only[Ao];simp(disch:=omega)only[ZZ,simprocAttr,Ab,I1,AU,AT,GC];refine⟨bg,?_⟩;rw[K4 hx];simp[Aj.c,Ac.c]
def totO(M:List (List Aj)):Nat:=(M.map List.length).sum
def mkOO.pre(a:List (List Aj)×Int):Prop:=a.1.length<=1048576/\0<=a.2/\a.2+3*totO a.1<=1099511627776
def uR(s:An)(l:List Aj):(Gn s l).1.length<=500:=by
 simp only[Gn];split
 .simp
 .rename_i c0;obtain⟨_,hp,_⟩:=Ip (I3.1 c0);have z:(Bh s l).length=l.length:=E4 ..;have G:=H7 (s:=s) hp.2.2.2.2.2;obtain⟨b1,_,_⟩:=XU G z.symm
  have:=hp.2.2.2.2.2
  rw[z] at b1;simp only[MZ,FN,YZ];omega
def nS(M:List (List Aj))(i:Nat):Aq:=(true,.arr 52 3 (((M[i]?).getD []).map Aj.c))
def Nv(M:List (List Aj)):Au:=[(5,(true,.arrA 34 1 (C3 1002 (min M.length 500))))]++B4 1002 (min M.length 500) (nS M)
def uV(M:List (List Aj))(tm:List (Nat×AV))(N:Nat)(z:C4 N tm=true)(h:1502<=N):A9.good ⟨tm,Nv M,N⟩=true:=by
 have G:min M.length 500<=500:=Zb _ _;refine gR z ?_ ?_ (λi=>rfl) (by omega)
 .simp only[AH,Er];exact Ry _ _ _ (by omega)
 .simp[Cz];omega
def nU{M:List (List Aj)}{p:Nat×Aq}(hp:p∈Nv M):0<=p.1/\p.1<0+2002/\Nat.ble 5 p.1=true/\p.2.1=true:=by
 have G:min M.length 500<=500:=Zb _ _;simp only[Nv,CP,Fs,BO,B4,BZ,CX] at hp;rcases hp with rfl|⟨i,z,rfl⟩
 .exact⟨by omega,by simp only;omega,rfl,rfl⟩
 .exact⟨by omega,by simp only;omega,by simp only[Ln];omega,rfl⟩
def Va(M:List (List Aj)):Option.map (Ah.arrA 34 1) (AA (AA (Bx (hget ((5,(true,Ah.arrA 34 1 (C3 1002 (min M.length 500))))::B4 1002 (min M.length 500) (nS M))) (Qc [] 0 2002 λj=>decide (5<=j)) 9)) (C3 1002 (min M.length 500)))=some (Ah.arrA 34 1 (C3 1002 (min M.length 500)))/\
 GB (hget ((5,(true,Ah.arrA 34 1 (C3 1002 (min M.length 500))))::B4 1002 (min M.length 500) (nS M))) (Bx (hget ((5,(true,Ah.arrA 34 1 (C3 1002 (min M.length 500))))::B4 1002 (min M.length 500) (nS M))) (Qc [] 0 2002 λj=>decide (5<=j)) 9) (B4 1002 (min M.length 500) (nS M)):=by
 have G:min M.length 500<=500:=Zb _ _;refine⟨?_,Qu _ _ _ _ _ (λi z=> ?_) (λi _=>rfl)⟩
 .rw[Quf (λi z=>nN (by omega) (by omega))];rfl
 .simp only[hget,BF _ _ (show 5≠1002+i by omega),Co];exact Kx _ _ _ _ z
def JW:List AV:=[.im (.sl true 0 [])]
def IK(b m k:Nat):List (List AV):=C3 b m++List.replicate (k - m) JW
def gW(b:Nat){m k:Nat}(h:m<=k):(IK b m k).length=k:=by simp[IK,Ga];omega
def UZ(b m:Nat):IK b m m=C3 b m:=by simp[IK]
def uW(b:Nat){m k:Nat}(h:m<=k):IK b m k++[JW]=IK b m (k+1):=by
 simp only[IK,HY];congr 1;rw[show k+1 - m=(k - m)+1 by omega,Zfo]
def gX(b m k N:Nat)(h:b+m<=N):(IK b m k).all (AL N)=true:=by
 rw[IK,Mp,Ry _ _ _ h,EL,HN];intro r z;rw[Pt z];rfl
def XV(b:Nat){m k i:Nat}(h:i<m):(IK b m k)[i]? =some [.own (b+i)]:=by
 rw[IK,Eh (by rw[Ga];exact h),yX _ _ _ h]
def LG(b:Nat){m k i:Nat}(h:m<=i)(z:i<k):(IK b m k)[i]? =some JW:=by
 rw[IK,Fe (by rw[Ga];exact h),Ga,Pu,Ak (by omega)]
def nT{π:List (Nat×Option Nat)}{b m k:Nat}(h: ∀i,i<m->pm π (b+i)=some (b+i)):Fu π (IK b m k) (IK b m k):=by
 rw[YI];refine⟨rfl,λi x y z O=> ?_⟩;obtain rfl:x=y:=A8 (z.symm.trans O);by_cases c:i<m
 .rw[XV b c] at z;obtain rfl:=A8 z;simp only[DB,mt,h i c,ET,EN]
 .have:=(B9.1 z).1
  have G:i<k:=by
   simp only[IK,CS,Ga,Mn] at this;omega
  rw[LG b (by omega) G] at z;obtain rfl:=A8 z;simp only[JW,DB,mt,EN]
def uU(b m k q c N:Nat)(h:b+m<=N)(G:c<N):((IK b m k).set q [.own c]).all (AL N)=true:=by
 rw[HN];intro r O;rcases Zc O with z|rfl
 .exact HN.1 (gX b m k N h) r z
 .simp[AL,AV.bel,G]
def Nw{π:List (Nat×Option Nat)}{b m k q c:Nat}(hq:q<k)(Q:m<=k)(h: ∀i,i<k->i≠q->i<m/\pm π (b+i)=some (b+i))(hc:pm π (b+q)=some c):Fu π (C3 b k) ((IK b m k).set q [.own c]):=by
 rw[YI];refine⟨by rw[I4,gW b Q,Ga],λi x y O z=> ?_⟩;have G:i<k:=by have:=(B9.1 O).1;rwa [Ga] at this
 rw[yX _ _ _ G] at O;obtain rfl:=A8 O;by_cases e:i=q
 .subst e;rw[EE (by rw[gW b Q];exact G)] at z;obtain rfl:=A8 z;simp only[DB,mt,hc,ET,EN]
 .obtain⟨Z,h2⟩:=h i G e;rw[Ep (Fi e),XV b Z] at z;obtain rfl:=A8 z;simp only[DB,mt,h2,ET,EN]
def II(l:List Aj)(z:List Int)(i q:Nat):Aq:=(true,.arr 52 3 ((D3 l z ((q:Int)+1) i).map Aj.c))
def Nh{l:List Aj}{z:List Int}{i q j:Nat}(h:(z[i]?).getD 0=(q:Int)+1)(G:j≠q):II l z (i+1) j=II l z i j:=by
 simp only[II,D3];rw[Ad (by omega),CQ]
def Ng{l:List Aj}{z:List Int}{i q:Nat}{o:Aj}(h:(z[i]?).getD 0=(q:Int)+1)(G:l[i]? =some o):II l z (i+1) q=(true,.arr 52 3 ((D3 l z ((q:Int)+1) i).map Aj.c++[Aj.c o])):=by
 simp only[II,D3];rw[Ak h,G,AJ,Fg,Bm,BY]
def lyI.ca(a:An×List Aj):List AV:=[.im (.agg (An.c a.1)),.im (.sl false 3 (a.2.map Aj.c))]
def lyI.H1(a:An×List Aj):Au:=Nv (Gn a.1 a.2).1
def lyI.r0(a:An×List Aj):AV:= .tup [.own 5,.im (.int .i64 (Gn a.1 a.2).2)]
def lyI.row:AO:=AM lyI.ca (λ_=>[]) 0 (λa=>R0 a.1.Set) (λ_=>false) lyI.r0 lyI.H1 2002
def Gv:=J @play_.q<|J @play_.fv.eq_1<|J @needs_.q @needs_.fv.eq_1
def lyI.ok:AS 25 lyI.row:=by
 refine VA (tC play_.ok (tC needs_.ok (tC levC.ok tN))) Tryz.func25 (exB:=λj=>Nat.ble 5 j) (R:=λa r=>r=lyI.r0 a) (λ_=>rfl)
  (λa=>by simp[lyI.ca,An.c,AL,AV.bel,AH,Cz,Df,Ah.nms,AE,AV.nms,Av,hget]) (λa p hp=> ?_) (λa r h=>by subst h;exact ED.refl _) ?_
 rotate_left
 intro a ag;simp only[Tryz.f25,Option.getD,lyI.ca,An.c];simp(disch:=omega)only[ZZ,simprocAttr,Ab,Gv,AR,Az,lyI.ca,An.c];obtain⟨s,l⟩:=a;simp only at ag⊢;refine⟨ag,?_⟩;by_cases c0:(Br s l).2.2=0
 case neg=>
  have eP:EH s l=(none,(Br s l).2.2):=by simp only[EH];rw[Ak c0]
  have eL:Gn s l=([],(Br s l).2.2):=by simp only[Gn];rw[Ak c0]
  simp only[eP];rw[Ak c0];refine⟨[],[(5,some 2)],⟨[(4,.own 5),(5,.im (.int .i64 (Br s l).2.2))],Nv [],2002⟩,?_,uV _ _ _ (by simp[C4,AV.bel]) (by omega),by simp,?_⟩
  .simp only[Ao,Nv,Hx,Nat.zero_min,B4,C3,ZdY,BY,CQ];simp(disch:=omega)only[ZZ,simprocAttr,Ab,Gv,AR,Az,lyI.ca,An.c,AU,AT,BY]
   try simp
  .simp only[lyI.H1,lyI.r0,eL];simp(disch:=omega)only[ZZ,simprocAttr,Ab,Gv,AR,Az,lyI.ca,An.c,Nv,CP,Fs];exact Va []
 have eP:EH s l=(some ⟨s,l,(Br s l).1,BH s s.Seed l,Dd s s.Seed l⟩,0):=by
  simp only[EH];rw[Ad (λh=>h c0)]
 obtain⟨_,hp,_⟩:=Ip c0;have Z:(Bh s l).length=l.length:=E4 ..;have aa:=H7 (s:=s) hp.2.2.2.2.2;have eL:Gn s l=(MZ l (AB (Bh s l) (Bh s l).length) l.length,0):=by
  simp only[Gn];rw[Ad (λh=>h c0),Z]
 simp only[eP];rw[Ad (by simp)];have an: ∀x:CH,(kP CH.d 8 (Gk (plE (some x))))=some x:=λx=>CH.d_c x
 simp only[an,GG,Fj];refine⟨⟨λo ho=> ?_,Ik ..,hp.2.2.2.2.2⟩,?_⟩
 .obtain⟨k,hk⟩:=EK.1 ho;exact (D8 (hp.2.2.2.2.1 k o hk).1).2.1
 simp only[gU hp.2.2.2.2.1];obtain⟨nd,hnd⟩: ∃nd,nd=Bh s l:=⟨_,rfl⟩;rw[<-hnd] at aa Z eL;simp only[<-hnd];refine AM.os nd [] aa (λj=>by simp[Av,hget]) rfl rfl ?_ ?_
 .simp(disch:=omega)only[ZZ,simprocAttr,Ab,Gv,AR,Az,lyI.ca,An.c,levC.ca,EJ]
 obtain⟨z,hlv⟩: ∃z,z=AB nd nd.length:=⟨_,rfl⟩;obtain⟨b1,b2,b3⟩:=XU aa Z.symm;rw[<-hlv] at eL b1 b2 b3;simp only[levC.H1,<-hlv];have az:z.length=nd.length:=by rw[hlv];exact Ek ..
 have a0:=aa.1;have aj: ∀x∈z,0<=x/\x<=500:=λx O=>by
  rw[hlv] at O
  have:=GR nd nd.length x O
  omega
 simp(disch:=omega)only[ZZ,simprocAttr,Ab,Gv,AR,Az,lyI.ca,An.c,sub,Cl,Hz];intro _;have ah: ∀i,Fv z i<=500:=λi=>by
  rcases (H8 z i).2 with h|⟨j,_,h⟩
  .omega
  .rw[<-h];cases hq:z[j]? with
   |none=>simp
   |some y=>rw[AJ];exact (aj y (Bd hq)).2
 have ak:=Pb z;refine Bc.ren ⟨{i:Nat//i<=z.length},λi=>⟨[(24,.im (.int .i64 i.1)),(23,.im (.int .i64 z.length)),(22,.own 4),(8,.own 5),(1,.im (.sl false 3 (l.map Aj.c)))],[(5,(true,.arrA 34 1 (C3 1002 (Fv z i.1).toNat))),(4,(true,.arr 2 1 (z.map Af)))]++B4 1002 (Fv z i.1).toNat (II l z i.1),2002⟩,λi=>z.length - i.1,λi=>⟨gR (by simp[C4,AV.bel]) (by simp only[AH,Er];exact Ry _ _ _ (by have:=ah i.1;omega)) (by simp[Cz]) (λj=>rfl) (by have:=ah i.1;omega),by simp⟩,⟨⟨0,by simp⟩,[(5,some 2)],?_⟩,λi=> ?_⟩
 .simp only[Ao,Fv,Zfp,B4,C3,ZdY,BY,CQ];simp(disch:=omega)only[ZZ,simprocAttr,Ab,Gv,AR,Az,lyI.ca,An.c,AU,AT]
  try simp
 obtain⟨i,av⟩:=i;obtain⟨M,hM⟩: ∃M,M=(Fv z i).toNat:=⟨_,rfl⟩;have aq:=ah i;have ao:=ak i;simp only[CP,Fs,<-hM];simp(disch:=omega)only[ZZ,simprocAttr,Ab,Gv,AR,Az,lyI.ca,An.c,sub,AQ,D0];refine⟨λG=>⟨G,G,λx O=> ?_⟩,λG=> ?_⟩
 .have a9:1<=x/\x<=(M:Int)+1:=by
   have ab:i<nd.length:=by omega
   have e:=FI nd nd.length i ab;rw[<-hlv,O] at e;have e2:=A8 e;have hb:=KP (own:=(nd[i]?).getD []) (GR nd i) (by omega) ((nd[i]?).getD []).length;refine⟨by omega,?_⟩;by_cases c:x=1
   .omega
   .obtain⟨j,hj,he⟩:=gY aa (i+1) i (by omega) ab (x - 1) (by omega) (by rw[<-hlv,O,AJ];omega);rw[<-hlv] at he;have aw:j≠i:=λh=>by
     subst h;rw[O,AJ] at he;omega
    have:=(H8 z i).1 j (by omega)
    omega
  refine Bc.ren ⟨{k:Nat//M<=k/\(k=M\/(k:Int)<=x)},λk=>⟨[(24,.im (.int .i64 i)),(23,.im (.int .i64 z.length)),(22,.own 4),(10,.im (.int .i64 x)),(9,.im (.int .i64 i)),(8,.own 2002),(1,.im (.sl false 3 (l.map Aj.c)))],[(2002,(true,.arrA 34 1 (IK 1002 M k.1))),(4,(true,.arr 2 1 (z.map Af)))]++B4 1002 M (II l z i),2003⟩,λk=>x.toNat - k.1,λk=>⟨gR (by simp[C4,AV.bel]) (by simp only[AH,Er];exact gX _ _ _ _ (by omega)) (by simp[Cz]) (λj=>rfl) (by omega),by simp⟩,⟨⟨M,AW _,.inl rfl⟩,[(2002,some 5)],?_⟩,λk=> ?_⟩
  .refine Se (A:=[_,_]) (λi=>1002+i) (by simp[JL]) (by simp[Fl,pm,CT]) (λi G=>by simp only[pm];rw[Ad (by omega)]) (λi j _ _ h=>by omega) (λm hm i G=>by simp[Fl,pm] at hm;omega) ?_ ?_ (λq hq=> ?_)
   .simp only[Jw];simp(disch:=omega)only[ZZ,simprocAttr,Ab,Gv,AR,Az,lyI.ca,An.c,AU,AT]
   .simp only[Gf,UZ];simp(disch:=omega)only[ZZ,simprocAttr,Ab,Gv,AR,Az,lyI.ca,An.c,AU,AT];exact Qyn (g:=λi=>1002+i) (λi G=>by simp only[pm];rw[Ad (by omega)]) rfl
   .simp only[Du,hget,BF _ _ (show 5≠1002+q by omega),BF _ _ (show 4≠1002+q by omega),Co];rw[Kx _ _ _ _ hq];exact⟨rfl,rfl⟩
  obtain⟨k,Q,ax⟩:=k;have ac:=gW 1002 Q;simp only[CP,Fs];simp(disch:=omega)only[ZZ,simprocAttr,Ab,Gv,AR,Az,lyI.ca,An.c,sub,AQ,D0,Sg,ac];intro _;refine⟨λc=> ?_,λc=> ?_⟩
  .refine⟨by omega,by rw[show [[AV.im (D.sl true 0 [])]]=[JW] from rfl,uW 1002 Q];exact gX _ _ _ _ (by omega),⟨k+1,by omega,.inr (by omega)⟩,[(2002,some 2004)],by simp only;omega,?_⟩;refine Se (A:=[_,_]) (λi=>1002+i) (by simp[JL]) (by simp[Fl,pm,CT]) (λi G=>by simp only[pm];rw[Ad (by omega)]) (λi j _ _ h=>by omega) (λm hm i G=>by simp[Fl,pm] at hm;omega) ?_ ?_ (λq hq=> ?_)
   .simp only[Jw];simp(disch:=omega)only[ZZ,simprocAttr,Ab,Gv,AR,Az,lyI.ca,An.c,AU,AT]
   .simp only[Gf];simp(disch:=omega)only[ZZ,simprocAttr,Ab,Gv,AR,Az,lyI.ca,An.c,AU,AT];rw[show [[AV.im (D.sl true 0 [])]]=[JW] from rfl,uW 1002 Q];exact nT (λi G=>by simp only[pm];rw[Ad (by omega)])
   .simp only[Du,hget,BF _ _ (show 2004≠1002+q by omega),BF _ _ (show 2003≠1002+q by omega),BF _ _ (show 2002≠1002+q by omega),BF _ _ (show 4≠1002+q by omega),Co];rw[Kx _ _ _ _ hq];exact⟨rfl,rfl⟩
  .have hw:IntKind.i64.wrap (x - 1)=x - 1:=AF (by omega) (by omega);obtain⟨q,hq⟩: ∃q,q=(x - 1).toNat:=⟨_,rfl⟩;have ad:q<k:=by omega
   have af:x=(q:Int)+1:=by omega
   rw[hw,<-hq];refine⟨by omega,by omega,ad,?_⟩;by_cases cq:q<M
   .refine dL (XV 1002 cq) ?_;have n1:=BF _ _ (show 2003≠1002+q by omega);have n2:=BF _ _ (show 2002≠1002+q by omega);have n3:=BF _ _ (show 4≠1002+q by omega);have hf:=Kx 1002 M (II l z i) q cq;simp(disch:=omega)only[ZZ,simprocAttr,Ab,Gv,AR,Az,lyI.ca,An.c,sub,AQ,D0,show ∀p:Prop,(1002+q<2003\/p)=True from λp=>Mr (.inl (by omega)),Bt,I7,true_or];refine⟨by omega,by omega,λo ho=> ?_⟩;simp only[II] at hf;simp(disch:=omega)only[ZZ,simprocAttr,Ab,Gv,AR,Az,lyI.ca,An.c,sub,AQ,D0,Ph,hf,ac,kQ,Xy,Mr (show 1002+q<2003 by omega),Mr (show 1002+q<2004 by omega),Bt,Sg];have au:=uS l z ((q:Int)+1) i;refine⟨by omega,by omega,?_⟩;simp only[n1,n2,n3,Dx,CY];simp(disch:=omega)only[ZZ,simprocAttr,Ab,Gv,AR,Az,lyI.ca,An.c,sub,AQ,D0,Ph,hf,ac,kQ,Xy,Mr (show 1002+q<2003 by omega),Mr (show 1002+q<2004 by omega),Bt,Sg];refine⟨by omega,by omega,by omega,?_⟩;rw[<-hq];refine dL (XV 1002 cq) ?_;simp(disch:=omega)only[ZZ,simprocAttr,Ab,Gv,AR,Az,lyI.ca,An.c,sub,AQ,D0,Ph,hf,ac,kQ,Xy,Mr (show 1002+q<2003 by omega),Mr (show 1002+q<2004 by omega),Bt,Sg];refine⟨uU _ _ _ _ _ _ (by omega) (by omega),⟨i+1,by omega⟩,[(5,some 2002),(1002+q,some 2004)],by simp only;omega,?_⟩;have ai:IntKind.i64.wrap ((i:Int)+1)=(i:Int)+1:=AF (by omega) (by omega);have hK:(Fv z (i+1)).toNat=k:=by simp only[Fv,O,AJ];omega
    simp only[hK,ai];have n4: ¬(1002+q=4):=by omega
    refine Se (A:=[_,_]) (λj=>if j=q then 2004 else 1002+j) (by simp[JL];try omega) (by simp[Fl,pm,CT,n4]) (λj hj=>by simp only[pm];rw[Ad (by omega)];by_cases e:j=q<;>simp[e];omega) (λj j' h h' e=>by split at e<;>split at e<;>omega) (λm hm j hj=>by simp[Fl,pm,n4] at hm;split<;>omega) ?_ ?_ (λj hj=> ?_)
    .simp only[Jw];simp(disch:=omega)only[ZZ,simprocAttr,Ab,Gv,AR,Az,lyI.ca,An.c,AU,AT,Ad n4]
     try simp[ET]
    .simp only[Gf];simp(disch:=omega)only[ZZ,simprocAttr,Ab,Gv,AR,Az,lyI.ca,An.c,AU,AT,Ad n4];exact Nw (π:=[(5,some 2002),(1002+q,some 2004)]) (b:=1002) ad Q (λj hj e=>⟨by omega,by simp only[pm];rw[Ad (by omega),Ad (by omega)]⟩) (by simp[pm];omega)
    .by_cases e:j=q
     .subst e;rw[Ng (by rw[O,AJ];exact af) ho,Ak rfl];simp only[Du,hget];exact⟨rfl,rfl⟩
     .rw[Nh (by rw[O,AJ];exact af) e,Ad e];simp only[Du,hget,BF _ _ (show 2004≠1002+j by omega),BF _ _ (show 2003≠1002+j by omega),BF _ _ (show 2002≠1002+j by omega),BF _ _ (show 4≠1002+j by omega),Co];rw[Pd _ _ _ (by omega),Pd _ _ _ (by omega),Kx _ _ _ _ (by omega)];exact⟨rfl,rfl⟩
   .have a8:q=M:=by omega
    have ay:k=M+1:=by omega
    refine dL (LG 1002 (by omega) ad) ?_;simp(disch:=omega)only[ZZ,simprocAttr,Ab,Gv,AR,Az,lyI.ca,An.c,sub,AQ,D0,JW];refine⟨by omega,λo ho=> ?_⟩;refine⟨by omega,by omega,by omega,?_⟩;refine dL (LG 1002 (by omega) (by omega)) ?_;simp(disch:=omega)only[ZZ,simprocAttr,Ab,Gv,AR,Az,lyI.ca,An.c,sub,AQ,D0,JW,Xy,Sg];rw[<-hq];refine⟨uU _ _ _ _ _ _ (by omega) (by omega),⟨i+1,by omega⟩,[(5,some 2002),(1002+q,some 2004)],by simp only;omega,?_⟩;have ai:IntKind.i64.wrap ((i:Int)+1)=(i:Int)+1:=AF (by omega) (by omega);have hK:(Fv z (i+1)).toNat=k:=by simp only[Fv,O,AJ];omega
    simp only[hK,ai];have n4: ¬(1002+q=4):=by omega
    refine Se (A:=[_,_]) (λj=>if j=q then 2004 else 1002+j) (by simp[JL];try omega) (by simp[Fl,pm,CT,n4]) (λj hj=>by simp only[pm];rw[Ad (by omega)];by_cases e:j=q<;>simp[e];omega) (λj j' h h' e=>by split at e<;>split at e<;>omega) (λm hm j hj=>by simp[Fl,pm,n4] at hm;split<;>omega) ?_ ?_ (λj hj=> ?_)
    .simp only[Jw];simp(disch:=omega)only[ZZ,simprocAttr,Ab,Gv,AR,Az,lyI.ca,An.c,AU,AT,Ad n4]
     try simp[ET]
    .simp only[Gf];simp(disch:=omega)only[ZZ,simprocAttr,Ab,Gv,AR,Az,lyI.ca,An.c,AU,AT,Ad n4];exact Nw (π:=[(5,some 2002),(1002+q,some 2004)]) (b:=1002) ad Q (λj hj e=>⟨by omega,by simp only[pm];rw[Ad (by omega),Ad (by omega)]⟩) (by simp[pm];omega)
    .by_cases e:j=q
     .subst e;rw[Ng (by rw[O,AJ];exact af) ho,Ak rfl];simp only[Du,hget];rw[XT i (λj hj=>by have:=(H8 z i).1 j hj;omega)];exact⟨rfl,rfl⟩
     .rw[Nh (by rw[O,AJ];exact af) e,Ad e];simp only[Du,hget,BF _ _ (show 2004≠1002+j by omega),BF _ _ (show 2003≠1002+j by omega),BF _ _ (show 2002≠1002+j by omega),BF _ _ (show 4≠1002+j by omega),Co];rw[Kx _ _ _ _ (by omega)];exact⟨rfl,rfl⟩
 .have ab:i=l.length:=by omega
  subst ab;have hL:(MZ l z l.length).length=M:=by simp[MZ,hM]
  have am:min (MZ l z l.length).length 500=M:=by rw[hL];omega
  refine⟨[],[],⟨[(4,.own 5),(5,.im (.int .i64 0))],Nv (MZ l z l.length),2002⟩,?_,uV _ _ _ (by simp[C4,AV.bel]) (by omega),by simp,?_⟩
  .simp only[Nv,am];refine Se (A:=[_]) (λi=>1002+i) (by simp[JL]) (by simp[Fl,pm,CT]) (λi G=>rfl) (λi j _ _ h=>by omega) (λm hm i G=>by simp[Fl,pm] at hm;omega) ?_ ?_ (λq hq=> ?_)
   .simp only[Jw];simp(disch:=omega)only[ZZ,simprocAttr,Ab,Gv,AR,Az,lyI.ca,An.c,AU,AT]
   .simp only[Gf];simp(disch:=omega)only[ZZ,simprocAttr,Ab,Gv,AR,Az,lyI.ca,An.c,AU,AT,gT,gV];exact Qyn (π:=[]) (g:=λi=>1002+i) (λi G=>rfl) rfl
   .have e:(MZ l z l.length)[q]? =some (D3 l z ((q:Int)+1) l.length):=by
     simp only[MZ,<-hM];rw[DX,Lm hq];rfl
    simp only[Du,PW,gT,hget,BF _ _ (show 5≠1002+q by omega),BF _ _ (show 4≠1002+q by omega),Co];rw[Kx _ _ _ _ hq];simp only[nS,e,AJ];exact⟨rfl,rfl⟩
  .simp only[lyI.H1,lyI.r0,eL];simp(disch:=omega)only[ZZ,simprocAttr,Ab,Gv,AR,Az,lyI.ca,An.c,Nv,CP,Fs];exact Va _
 exact .inr (nU hp)
structure RX(h:Nat->Option Aq)(o b:Nat)(M:List (List Aj)):Prop where
 r:h o=some (true,.arrA 34 1 (C3 b M.length))
 f: ∀i,i<M.length->h (b+i)=some (true,.arr 52 3 ((M[i]?.getD []).map Aj.c))
def RX.mono{h h':Nat->Option Aq}{o b:Nat}{M:List (List Aj)}(hs:RX h o b M)(z: ∀m,(m=o\/(b<=m/\m<b+M.length))->h' m=h m):RX h' o b M:=
 ⟨by rw[z o (.inl rfl)];exact hs.r,λi G=>by rw[z _ (.inr ⟨by omega,by omega⟩)];exact hs.f i G⟩
def oo_at{M:List (List Aj)}(Q:M.length<=500){nx:Nat}{z:Au}(h: ∀j e,hget (Nv M) j=some e->hget z (nx+j)=some (e.1,e.2.ren λj=>nx+j)):RX (hget z) (nx+5) (nx+1002) M:=by
 have O:min M.length 500=M.length:=by omega
 refine⟨?_,λi G=> ?_⟩
 .rw[h 5 _ rfl];simp only[Ah.ren,O];congr 3;simp only[C3,Xw];refine SO λi G=> ?_
  simp only[Function.comp,Bn,AV.ren];rw[Px]
 .have e:hget (Nv M) (1002+i)=some (true,.arr 52 3 ((M[i]?.getD []).map Aj.c)):=by
   simp only[Nv,CP,Fs,hget,BF _ _ (show 5≠1002+i by omega),Co,O];exact Kx _ _ _ _ G
  rw[Px,h _ _ e];rfl
def ly_cl(s:An)(l:List Aj): ∀p∈lyI.H1 (s,l),p.1<2002/\ ∀m∈p.2.2.nms,m<2002:=by
 intro p hp;have z:min (Gn s l).1.length 500<=500:=Zb _ _;simp only[lyI.H1,Nv,CP,Fs,BO,B4,B4,BZ,CX] at hp;rcases hp with rfl|⟨i,G,rfl⟩
 .refine⟨by omega,λm z=> ?_⟩;obtain⟨i,G,rfl⟩:=Qu6 _ _ m z;omega
 .exact⟨by simp only;omega,by simp[Ah.nms,nS]⟩
def wN(F:List Nat)(H:Au)(m:Nat): ∀h:Au,hget (FQ F H h) m=(hget h m).map λe=>(e.1 && !F.contains m,e.2.fzA F H)
 |[]=>rfl
 |(n,(z,e))::r=>by
  simp only[FQ,hget];cases c:n==m with
  |true=>
   have:n=m:=by simpa using c
   subst this;rfl
  |false=>simp only[Co];exact wN F H m r
def JH(b n:Nat):List Nat:=(List.range n).map λi=>b+i
def Z9{b n i:Nat}(h:i<n):(JH b n).contains (b+i)=true:=by
 simp only[JH,ZdM,BA,BZ,CX];exact⟨i,h,rfl⟩
def wF{b n m:Nat}(h:m<b\/b+n<=m):(JH b n).contains m=false:=by
 simp only[JH,ZdM,HZ,BZ,CX];rintro⟨i,z,rfl⟩;omega
def ZF{M:List (List Aj)}{b:Nat}{H:Au}{T:TypeId}(hf: ∀i,i<M.length->hget H (b+i)=some (true,.arr T 3 ((M[i]?.getD []).map Aj.c))):CL (JH b M.length) H (C3 b M.length)=Bo (M.map F1):=by
 rw[Yn];apply Ja;intro i;rw[DX,C3,DX,Bo,DX,DX];rcases Ff i M.length with c|c
 .rw[Lm c,Bk c]
  have:=hf i c
  rw[Bk c] at this;simp only[CR,CF,AV.fzA,Z9 c,CJ,this,HS,FU,AJ];rfl
 .rw[Hy (by simpa using c),Hy c];rfl
def nG{s:An}{w:List Int}(h:(JJ s w).2.2=0):Br s (JJ s w).1=((JJ s w).2.1,0,0)/\CK s (JJ s w).1=none/\FL s=true:=by
 simp only[JJ] at h⊢;by_cases c0:(Ig s w).2.2=0
 .rw[Ad (λc=>c c0)] at h⊢;by_cases c1:(sN s (Ig s w).1).2.2=3
  .rw[Ak c1];have hq:=U1 c0;refine⟨hq,?_,(Ip (by rw[hq])).2.2⟩;rw[UQ (by rw[hq])] at c1;cases hf:CK s (Ig s w).1 with
   |none=>rfl
   |some q=>
    rw[hf] at c1;simp[Ue] at c1
  .rw[Ad c1] at h;simp at h
 .rw[Ak c0] at h;exact absurd h c0
def ZY(s:An)(l:List Aj): ∀p∈lcI.H1 (s,l),p.1<20/\ ∀m∈p.2.2.nms,m<20:=by
 intro p hp;simp only[lcI.H1,BN] at hp;subst hp;exact⟨by omega,by simp[Ah.nms]⟩
def lawLev.rc:D->Option (Bool):=X9
def lawLev.re:Bool->D:=D.bool
def lawLev.rle: ∀d b,lawLev.rc d=some b->Le d (lawLev.re b):=xC
def lawLev.ar:List PK->Option ((List Int)):=a1 (kS Tq)
def lawLev.fv(a:(List Int)):Bool:=(λ_=>true) a
def lawLev.row:AO:=vK (b1 (qS Yp Yw)) (RK.mk lawLev.rc lawLev.re lawLev.rle) (λa=>PE a) lawLev.fv
def lawLev.q:=B2 (R:=lawLev.row) rfl
def R6:=J @lawLev.fv.eq_1<|J @lawLev.rc.eq_1<|J @f6b_.q<|J @f6b_.fv.eq_1<|J @lxr_.q<|J @lxr_.fv.eq_1<|J @lsc_.q<|J @lsc_.fv.eq_1<|J @fndS_.q<|J @fndS_.fv.eq_1<|J @LevS_.q<|J @LevS_.fv.eq_1<|J @f6i_.q<|J @f6i_.fv.eq_1<|J @grds_.q<|J @grds_.fv.eq_1<|J @smA_.q @smA_.fv.eq_1
def lawLev.ok:AS 4 lawLev.row:=by
 refine vw (tC f6b_.ok (tC lxr_.ok (tC lsc_.ok (tC fndS_.ok (tC levI.ok (tC LevS_.ok (tC f6i_.ok (tC grds_.ok (tC lyI.ok (tC lcI.ok (tC smA_.ok tN))))))))))) Tryz.func4 ?_;intro a ab;simp only[Tryz.f4,Option.getD];simp(maxSteps:=9^9)(disch:=omega)only[ZZ,simprocAttr,Ab,R6];simp only[Tr,GG,Fj];split
 .trivial
 refine⟨ab,ab,?_⟩;obtain⟨s,hs⟩: ∃s,s=Y0 a:=⟨_,rfl⟩;obtain⟨w,hw⟩: ∃w,w=JJ s (L9 a):=⟨_,rfl⟩;have aa:R0 s.Set:=hs▸Qd a;simp only[<-hs,<-hw];split
 .trivial
 rename_i cn;have c0:w.2.2=0:=I3.1 cn;clear cn;obtain⟨hq0,hf0,hok⟩:Br s w.1=(w.2.1,0,0)/\CK s w.1=none/\FL s=true:=by rw[hw] at c0⊢;exact nG c0
 obtain⟨⟨l,A,z⟩,hwe⟩: ∃v,v=w:=⟨_,rfl⟩;rw[<-hwe] at hq0 hf0 c0;simp only[<-hwe] at hq0 hf0 c0⊢;clear hwe hw w;subst c0;have Z:(Br s l).2.2=0:=by rw[hq0]
 obtain⟨hA,hq,_⟩:=Ip Z;have an:A=Ax s.Seed l:=by rw[hq0] at hA;exact hA
 have h5:s.Seed.Tiles.length<=500:=(WV (Gl hok).2.2).2;have hT:1<=s.Temperature:=by
  simp only[FL,Bz,AZ,BA] at hok;exact hok.2.2.2.1.1
 have eL:GQ s l=(BQ s l,0):=by simp only[GQ];rw[Ad (λh=>h Z)];rfl
 refine AM.os (s,l) [] aa (λj=>by simp[Av,hget]) rfl rfl ?_ ?_
 .simp(disch:=omega)only[ZZ,simprocAttr,Ab,R6,levI.ca,EJ,An.c]
  try exact⟨rfl,rfl⟩
 simp(disch:=omega)only[ZZ,simprocAttr,Ab,R6,levI.H1,levI.r0,sub,Cl,eL];have aj:(BQ s l).length=l.length:=Ek ..;have bd:=hq.2.2.2.2.2;refine Bc.old ⟨{i:Nat//i<=(BQ s l).length},λi=>⟨[(12,.im (.int .i64 i.1)),(11,.im (.int .i64 (Fv (BQ s l) i.1))),(9,.im (.sl false 1 ((BQ s l).map Af))),(5,.ptr 1 0),(4,.im (.sl false 3 (l.map Aj.c))),(3,.ptr 0 0)],[(0,(true,.cells 32 [AV.im (D.sl false 2 (List.map AG.c s.Set.Glues)),AV.im (D.sl false 2 (List.map Tile.c s.Set.Tiles)),AV.im (D.sl false 3 (List.map Ar.c s.Seed.Tiles)),AV.im (D.int IntKind.i64 s.Temperature)])),(1,(true,.cells 30 [AV.im (D.sl false 3 (List.map Ar.c A.Tiles))]))],22⟩,λi=>(BQ s l).length - i.1,λi=>⟨by simp[ZG],by simp⟩,⟨⟨0,Cx _⟩,by simp(disch:=omega)only[ZZ,simprocAttr,Ab,R6,sub,Fv]⟩,λi=> ?_⟩;obtain⟨i,hi⟩:=i;simp(disch:=omega)only[ZZ,simprocAttr,Ab,R6,sub,AQ];refine λ_=>⟨λG=>⟨G,λx hx=> ?_⟩,λG=> ?_⟩
 .refine⟨⟨i+1,by omega⟩,by simp only;omega,by rw[AF (by omega) (by omega)];simp only;omega,?_⟩;simp only[Fv,hx,AJ]
 obtain rfl:i=(BQ s l).length:=by omega
 have hF:=iZ hq hf0 hT h5;obtain⟨R,hR⟩: ∃R,R=(List.range (C5 s l)).map λj=>Bi s (Bb s l j):=⟨_,rfl⟩
 rw[<-hR,<-an] at hF;refine⟨⟨aa,hok,l,hq,hf0⟩,?_⟩;simp only[hF];refine AM.nw (s,l) aa rfl rfl (ly_cl s l) (by simp[lyI.r0,AV.nms,AE]) λHH hH1 Q=> ?_
 have g0:hget HH 0=some (true,.cells 32 [AV.im (D.sl false 2 (List.map AG.c s.Set.Glues)),AV.im (D.sl false 2 (List.map Tile.c s.Set.Tiles)),AV.im (D.sl false 3 (List.map Ar.c s.Seed.Tiles)),AV.im (D.int IntKind.i64 s.Temperature)]):=Q 0 (by omega);have g1:hget HH 1=some (true,.cells 30 [AV.im (D.sl false 3 (List.map Ar.c A.Tiles))]):=Q 1 (by omega);have af:hget HH 22=some (true,.cells 30 [AV.im (D.sl false 3 (List.map Ar.c A.Tiles))]):=Q 22 (by omega);have gg:RX (hget HH) 28 1025 (Gn s l).1:=oo_at (uR s l) hH1;clear hH1 Q;have eY:Gn s l=(MZ l (BQ s l) l.length,0):=by simp only[Gn];rw[Ad (λh=>h Z)];rfl
 obtain⟨M,hM⟩: ∃M,M=MZ l (BQ s l) l.length:=⟨_,rfl⟩;rw[<-hM] at eY;have a9:M.length<=500:=by have:=uR s l;rw[eY] at this;exact this
 have ba:M.length=C5 s l:=by rw[hM,Na];rfl
 simp only[lyI.r0,AV.ren,Bn,eY] at gg⊢;have g7:=gg.r;have ak:(C3 1025 M.length).length=M.length:=by simp[C3]
 simp(disch:=omega)only[ZZ,simprocAttr,Ab,R6,sub,D0,g0,g1,af,g7,ak,eY];refine AM.nw (s,l) aa rfl rfl (ZY s l) (by simp[lcI.r0,AV.nms,AE]) λHK ah O=> ?_
 have k0:=(O 0 (by omega)).trans g0;have k1:=(O 1 (by omega)).trans g1;have a0:=(O 22 (by omega)).trans af;have k7:=(O 28 (by omega)).trans g7;have kf: ∀i,i<M.length->hget HK (1025+i)=some (true,.arr 52 3 ((M[i]?.getD []).map Aj.c)):=λi hi=>(O (1025+i) (by omega)).trans (gg.f i hi)
 have eC:IJ s l=(T1 (Bh s l) (BQ s l),0):=by simp only[IJ];rw[Ad (λh=>h Z)];rfl
 obtain⟨C,hC⟩: ∃C,C=T1 (Bh s l) (BQ s l):=⟨_,rfl⟩;rw[<-hC] at eC;have kc:hget HK 2025=some (true,.arr 2 1 (C.map Af)):=by
  have:=ah 0 _ rfl
  simp only[eC,Ah.ren] at this;exact this
 obtain⟨ao,ag⟩:=mS hq;rw[<-hC] at ao ag;clear ah O;simp only[lcI.r0,AV.ren,Bn,eC];simp(disch:=omega)only[ZZ,simprocAttr,Ab,R6,sub,D0,k0,k1,a0,k7,ak,kc];have be:=Pb (BQ s l) l.length;have au:Fv (BQ s l) (BQ s l).length=(C5 s l:Int):=by rw[aj];simp only[C5];omega
 have bb:R.length=C5 s l:=by rw[hR];simp
 rw[au];intro _;rw[Ak (by omega)];intro _;rw[Ak (by omega)];intro _;rw[Ad (by omega)];refine Bc.frr ⟨{i:Nat//i<=M.length},λi=>⟨[(20,.im (.int .i64 i.1)),(18,.own 2025),(16,.own 28),(13,.im (.sl false 1 (R.map F1))),(9,.im (.sl false 1 ((BQ s l).map Af)))],[(28,(true,.arrA 34 1 (Bo (M.map F1)))),(2025,(true,.arr 2 1 (C.map Af)))],2045⟩,λi=>M.length - i.1,λi=>⟨by simp[ZG,Jz],by simp⟩,⟨⟨0,Cx _⟩,JH 1025 M.length,[],?_⟩,λi=> ?_⟩
 .have ad:(JH 1025 M.length).contains 28=false:=wF (by omega);have fc:(JH 1025 M.length).contains 2025=false:=wF (by omega);simp only[Ao];refine⟨by simp[JL],by simp[Fl,pm,CT],?_,?_⟩
  .simp(disch:=omega)only[ZZ,simprocAttr,Ab,R6,ad,fc,AU,AT]
  .simp(disch:=omega)only[ZZ,simprocAttr,Ab,R6,ad,fc,wN,k7,kc,AU,AT];refine (BW (Fu _ _) (ZF (T:=52) λi hi=> ?_)).mpr (SF _ _);exact kf i hi
 obtain⟨i,hi⟩:=i;have ai:(Bo (M.map F1)).length=M.length:=by simp[Bo]
 simp(disch:=omega)only[ZZ,simprocAttr,Ab,R6,sub,AQ,ai];refine λ_=>⟨λG=>⟨G,G,λr hr=> ?_⟩,λ_=>trivial⟩
 obtain⟨y,hy⟩: ∃y,M[i]? =some y:=⟨_,Bk G⟩;rw[DX,hy,CR] at hr;obtain rfl:=(A8 hr).symm;have az:y=D3 l (BQ s l) ((i:Int)+1) l.length:=by
  rw[hM] at hy;simp only[MZ,DX] at hy;rw[Lm (by rw[<-Na l,<-hM];exact G)] at hy;exact (A8 hy).symm
 obtain⟨rr,hrr⟩: ∃rr,R[i]? =some rr:=⟨_,Bk (by omega)⟩;have a8:rr.length=y.length:=by
  rw[hR,DX,Lm (by omega)] at hrr;obtain rfl:=(A8 hrr).symm;rw[jG hq hf0 hT i,az]
 obtain⟨kk,ac,bc,aq⟩:=ag i (by omega);obtain⟨v,hv⟩: ∃v,(BQ s l)[kk]? =some v:=⟨_,Bk (by omega)⟩;rw[hv,AJ] at aq;have av:IntKind.i64.wrap ((i:Int)+1)=(i:Int)+1:=AF (by omega) (by omega);simp(disch:=omega)only[ZZ,simprocAttr,Ab,R6,F1,Bm,BY,Ia,Fh,hy,ai,av];refine⟨by omega,λx hx=> ?_⟩;obtain rfl:=A8 (hrr.symm.trans hx);rw[Ak (by omega)];refine⟨by omega,by omega,λx1 aw=> ?_⟩;obtain rfl:=A8 (ac.symm.trans aw);rw[Ak (by omega)];refine⟨by omega,by omega,λx2 ax=> ?_⟩;obtain rfl:=A8 (ac.symm.trans ax);rw[Ak (by omega)];refine⟨by omega,by omega,λx3 ay=> ?_⟩;obtain rfl:=A8 (ac.symm.trans ay);refine⟨by omega,by omega,λx4 am=> ?_⟩;rw[B1] at am;obtain rfl:=A8 (hv.symm.trans am);rw[Ad (by omega)];refine⟨⟨i+1,by omega⟩,[],[],by simp only;omega,?_⟩;simp only[Ao];simp(disch:=omega)only[ZZ,simprocAttr,Ab,R6,AU,AT,GC,YS]
 try omega
end Go.Ae
