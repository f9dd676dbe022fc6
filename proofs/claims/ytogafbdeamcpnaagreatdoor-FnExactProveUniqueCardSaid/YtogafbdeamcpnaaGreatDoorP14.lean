/- Lemmas. Conditions: none. -/
import Derived.Test.YtogafbdeamcpnaaGreatDoorP13
set_option linter.all false
set_option maxHeartbeats 8000000
set_option maxRecDepth 100000
namespace Go.Ae
open Go.Proofs
def ON{H:Av}{j:Nat}:j∈Fh H↔Ao H j=true:=by
 induction H with
 |nil=>simp[Fh,Ao,hget]
 |cons e r ih=>
  obtain⟨i,e⟩:=e;simp only[Fh,Bl,Ao,hget];by_cases z:i=j
  .subst z;simp
  .have:(i==j)=false:=by simpa using z
   rw[this];simp only[BC];exact⟨λh=>ih.1 (h.resolve_left λh=>z h.symm),λh=> .inr (ih.2 h)⟩
mutual
def cF{n:Nat}: ∀x:AV,(∀m∈x.nms,m<n)->x.bel n=true
 | .any,_=>rfl
 | .im _,_=>rfl
 | .agg z,h=>by simp only[AV.nms] at h;simp only[AV.bel];exact JP z h
 | .tup z,h=>by simp only[AV.nms] at h;simp only[AV.bel];exact JP z h
 | .ptr o _,h=>by simp only[AV.bel,E4];exact h o (by simp[AV.nms])
 | .eptr o _ _,h=>by simp only[AV.bel,E4];exact h o (by simp[AV.nms])
 | .own o,h=>by simp only[AV.bel,E4];exact h o (by simp[AV.nms])
 | .mp o,h=>by simp only[AV.bel,E4];exact h o (by simp[AV.nms])
 | .ch o,h=>by simp only[AV.bel,E4];exact h o (by simp[AV.nms])
 | .it o,h=>by simp only[AV.bel,E4];exact h o (by simp[AV.nms])
 | .osl o _ _,h=>by simp only[AV.bel,E4];exact h o (by simp[AV.nms])
 | .clo _ a c,h=>by
   simp only[AV.nms,Bx] at h;simp only[AV.bel,JP a λm G=>h m (.inl G),JP c λm G=>h m (.inr G),gC]
def JP{n:Nat}: ∀xs:List AV,(∀m∈AH xs,m<n)->Aq n xs=true
 |[],_=>rfl
 |x::r,h=>by
  simp only[AH,Bx] at h;simp only[Aq,cF x λm z=>h m (.inl z),JP r λm z=>h m (.inr z),gC]
end
def oX{n:Nat}: ∀H:Av,(∀p∈H,∀m∈p.2.2.nms,m<n)->Ac n H=true
 |[],_=>rfl
 |(i,(Q,e))::r,h=>by
  have z:=h _ (BT ..);have ih:=oX r λp hp=>h p (BX _ hp)
  cases e with
  |cells T G=>simp only[Ac,ih,F6];exact JP G (by simpa[Ad.nms] using z)
  |arrA T k rows=>
   simp only[Ac,ih,F6,D3];refine λq hq=>JP q λm O=>z m ?_
   simp only[Ad.nms];exact Gf.2 ⟨q,hq,O⟩
  |_=>simp only[Ac,ih]
mutual
def cX(σ:Nat->Nat): ∀x:AV,(x.ren σ).nms=x.nms.map σ
 | .any=>rfl
 | .im _=>rfl
 | .agg z=>by simp only[AV.ren,AV.nms];exact JQ σ z
 | .tup z=>by simp only[AV.ren,AV.nms];exact JQ σ z
 | .ptr o _=>rfl
 | .eptr o _ _=>rfl
 | .own o=>rfl
 | .mp o=>rfl
 | .ch o=>rfl
 | .it o=>rfl
 | .osl o _ _=>rfl
 | .clo _ a c=>by simp only[AV.ren,AV.nms,JQ σ a,JQ σ c,GH]
def JQ(σ:Nat->Nat): ∀xs:List AV,AH (AL σ xs)=(AH xs).map σ
 |[]=>rfl
 |x::r=>by simp only[AL,AH,cX σ x,JQ σ r,GH]
end
def Qafh(σ:Nat->Nat)(e:Ad): ∀m∈(e.ren σ).nms,∃j∈e.nms,m=σ j:=by
 intro m z;cases e with
 |cells T Q=>
  simp only[Ad.ren,Ad.nms,JQ,Bv] at z⊢;obtain⟨j,G,rfl⟩:=z;exact⟨j,G,rfl⟩
 |arrA T k rows=>
  simp only[Ad.ren,Ad.nms] at z⊢;obtain⟨r,O,z⟩:=Gf.1 z;obtain⟨q,hq,rfl⟩:=Bv.1 O;rw[JQ,Bv] at z;obtain⟨j,G,rfl⟩:=z;exact⟨j,Gf.2 ⟨q,hq,G⟩,rfl⟩
 |_=>simp[Ad.ren,Ad.nms] at z
def pI{σ:Nat->Nat}{N:Nat}(H:Av)(h: ∀p∈H,∀m∈p.2.2.nms,σ m<N):Ac N (AY σ H)=true:=by
 refine oX _ ?_;induction H with
 |nil=>intro p hp;cases hp
 |cons x r ih=>
  obtain⟨i,O,e⟩:=x;intro p hp m z;rcases Bl.1 hp with rfl|hp
  .obtain⟨j,G,rfl⟩:=Qafh σ e m z;exact h _ (BT ..) j G
  .exact ih (λp hp=>h p (BX _ hp)) p hp m z
def AE.tau{A:Type}{ca:A->List AV}{H0:A->Av}{k:Nat}{pre:A->Prop}{klB:Nat->Bool}{r0:A->AV}{H1:A->Av}{args:List AV}{tm:List (Nat×AV)}{h:Av}{nx:Nat}{dst:Option Nat}{go:Ai->Prop}(a:A)(τ:Nat->Nat)(ac:pre a)(ai: ∀j,Ao (H0 a) j=true->klB j=true)
 (hd: ∀j,Ao (H0 a) j=true->j<k/\τ j<nx)(aa: ∀i j,Ao (H0 a) i=true->Ao (H0 a) j=true->τ i=τ j->i=j)
 (hcl: ∀p∈H1 a,Ao (H0 a) p.1=true/\ ∀m∈p.2.2.nms,Ao (H0 a) m=true)
 (hx:args=AL (Cl τ k nx) (ca a)/\CO (hget h) (Cl τ k nx) (H0 a))
 (hb: ∀m∈(r0 a).nms,Ao (H0 a) m=true)
 (ag: ∀HH:Av,(∀j e,hget (H1 a) j=some e->hget HH (τ j)=some (e.1,e.2.ren (Cl τ k nx)))->(∀m,(∀j,Ao (H0 a) j=true->τ j≠m)->hget HH m=hget h m)->go ((⟨tm,HH,nx⟩:Ai).put dst ((r0 a).ren (Cl τ k nx)))):
 AE ca H0 k pre klB r0 H1 0 args (hget h) nx (DT go ⟨tm,h,nx⟩ dst):=by
 have hσ: ∀j,Ao (H0 a) j=true->Cl τ k nx j=τ j:=λj z=>An (hd j z).1
 have ah: ∀i j,Ao (H0 a) i=true->Ao (H0 a) j=true->Cl τ k nx i=Cl τ k nx j->i=j:=λi j hi z h=>aa i j hi z (by rwa [hσ i hi,hσ j z] at h)
 have G: ∀m,m∈(Fh (H0 a)).map τ↔ ∃j,Ao (H0 a) j=true/\τ j=m:=λm=>by simp only[Bv,ON]
 have Q: ∀p∈H1 a,Ao (H0 a) p.1=true:=λp hp=>(hcl p hp).1
 refine⟨a,τ,(Fh (H0 a)).map τ,(Fh (H0 a)).map τ,ac,hx.1,hx.2,⟨aa,λj z=>(hd j z).2,λj z=>(G _).2 ⟨j,z,rfl⟩,λm Z=> ?_,λj z _=>(G _).2 ⟨j,z,rfl⟩⟩,?_⟩
 .obtain⟨j,z,rfl⟩:=(G m).1 Z;exact⟨j,z,ai j z,rfl⟩
 refine⟨?_,?_⟩
 .have ad:((r0 a).ren (Cl τ k nx)).bel nx=true:=by
   refine cF _ λm Z=> ?_
   rw[cX,Bv] at Z;obtain⟨j,z,rfl⟩:=Z;rw[hσ j (hb j z)];exact (hd j (hb j z)).2
  have af:Ac nx (AY (Cl τ k nx) (H1 a))=true:=pI _ λp hp m Z=>by
   have:=(hcl p hp).2 m Z
   rw[hσ m this];exact (hd m this).2
  rw[Bp.ok_nr,Qq,ad,af,Eb,Eb]
  have: ∀H:Av,(∀p∈H,Ao (H0 a) p.1=true)->Hu ((Fh (H0 a)).map τ) nx 0 (AY (Cl τ k nx) H)=true:=by
   intro H;induction H with
   |nil=>intro _;rfl
   |cons e r ih=>
    obtain⟨i,mu,e⟩:=e;intro hp;have O:=hp _ (BT ..);simp only at O;simp only[AY,Hu,JU,AS,Hc,Hx,E4];refine⟨.inr ⟨?_,?_⟩,ih λp h=>hp p (BX _ h)⟩
    .rw[HJ,hσ i O];exact (G _).2 ⟨i,O,rfl⟩
    .rw[hσ i O];exact (hd i O).2
  exact this _ Q
 rw[Ai.app_nr,Qq];refine ag _ (λj e he=> ?_) (λm Z=> ?_)
 .have z:Ao (H0 a) j=true:=by
   have: ∀H:Av,hget H j=some e-> ∃p∈H,p.1=j:=by
    intro H;induction H with
    |nil=>intro h;cases h
    |cons x r ih=>
     obtain⟨i,x⟩:=x;intro h;by_cases ab:i=j
     .exact⟨_,BT ..,ab⟩
     .have hb:(i==j)=false:=by simpa using ab
      simp only[hget,hb,BC] at h;obtain⟨p,O,h2⟩:=ih h;exact⟨p,BX _ O,h2⟩
   obtain⟨p,O,rfl⟩:=this _ he;exact Q p O
  rw[Qk,<-hσ j z,Qv5 (D:=λj=>Ao (H0 a) j=true) ah (H1 a) Q j z,he];rfl
 .rw[Qk];cases hq:hget (AY (Cl τ k nx) (H1 a)) m with
  |some e=>
   obtain⟨j,e0,O,h2,_⟩:=vH hq;have z:=Q _ O;rw[hσ j z] at h2;exact absurd h2 (Z j z)
  |none=>
   rw[WN,Af]
   .rfl
   .rw[HJ];intro h;obtain⟨j,z,h2⟩:=(G m).1 h;exact Z j z h2
def pQ{go:Ai->Prop}{tm:List (Nat×AV)}{h:Av}{nx:Nat}{dst:Option Nat}{σ:Nat->Nat}(hσ: ∀j,σ j=nx+j){r0:AV}{H1:Av}{cnt:Nat}{u kl:List Nat}(aa:kl=[])
 (hcl: ∀p∈H1,p.1<cnt/\ ∀m∈p.2.2.nms,m<cnt)(hb: ∀m∈r0.nms,m<cnt)
 (Z: ∀G:Av,(∀j e,hget H1 j=some e->hget G (nx+j)=some (e.1,e.2.ren σ))->(∀m,m<nx->hget G m=hget h m)->go ((⟨tm,G,nx+cnt⟩:Ai).put dst (r0.ren σ))):
 DT go ⟨tm,h,nx⟩ dst (r0.ren σ) {use:=u,kill:=kl,new:=AY σ H1,cnt:=cnt}:=by
 subst aa;refine⟨?_,?_⟩
 .have O:(r0.ren σ).bel (nx+cnt)=true:=by
   refine cF _ λm z=> ?_
   rw[cX,Bv] at z;obtain⟨j,hj,rfl⟩:=z
   have:=hb j hj
   rw[hσ];omega
  have Q:Ac (nx+cnt) (AY σ H1)=true:=pI _ λp hp m z=>by
   have:=(hcl p hp).2 m z
   rw[hσ];omega
  rw[Bp.ok_nr,O,Q,Eb,Eb];refine Wl _ _ _ _ λp hp=> ?_
  have: ∀H:Av,(∀p∈H,p.1<cnt)-> ∀p∈AY σ H,nx<=p.1/\p.1<nx+cnt:=by
   intro H;induction H with
   |nil=>intro _ p hp;cases hp
   |cons x r ih=>
    obtain⟨i,mu,e⟩:=x;intro hx p hp;have h1:=hx _ (BT ..);simp only at h1;simp only[AY,Bl] at hp;rcases hp with rfl|hp
    .simp only;rw[hσ];omega
    .exact ih (λp h=>hx p (BX _ h)) p hp
  exact this _ (λp hp=>(hcl p hp).1) p hp
 rw[Ai.app_nr,BB];refine Z _ (λj e he=> ?_) (λm z=> ?_)
 .rw[Qk,<-hσ j,pN (λi j h=>by rw[hσ,hσ] at h;omega),he];rfl
 .rw[Qk];cases hq:hget (AY σ H1) m with
  |some e=>
   obtain⟨j,e0,_,h2,_⟩:=vH hq;rw[hσ] at h2;omega
  |none=>rfl
def AE.nw{A:Type}{ca:A->List AV}{H0:A->Av}{pre:A->Prop}{klB:Nat->Bool}{r0:A->AV}{H1:A->Av}{cnt:Nat}{args:List AV}{tm:List (Nat×AV)}{h:Av}{nx:Nat}{dst:Option Nat}{Q:Ai->Prop}(a:A)(z:pre a)(h0:H0 a=[])
 (Z:args=AL (λj=>nx+j) (ca a))(hcl: ∀p∈H1 a,p.1<cnt/\ ∀m∈p.2.2.nms,m<cnt)(hb: ∀m∈(r0 a).nms,m<cnt)
 (O: ∀G:Av,(∀j e,hget (H1 a) j=some e->hget G (nx+j)=some (e.1,e.2.ren λj=>nx+j))->(∀m,m<nx->hget G m=hget h m)->Q ((⟨tm,G,nx+cnt⟩:Ai).put dst ((r0 a).ren λj=>nx+j))):
 AE ca H0 0 pre klB r0 H1 cnt args (hget h) nx (DT Q ⟨tm,h,nx⟩ dst):=by
 have e:Cl (Ix []) 0 nx=λj=>nx+j:=funext λj=>by simp[Cl]
 refine AE.os a [] z (λj=>by rw[h0];simp[Ao,hget]) rfl rfl ⟨by rw[e];exact Z,by rw[h0];trivial⟩ ?_;rw[e];exact pQ (λ_=>rfl) rfl hcl hb O
def Fb.nw{A:Type}{ar:List PK->Option A}{pre:A->Prop}{r0:A->AV}{H1:A->Av}{cnt:Nat}{args:List AV}{tm:List (Nat×AV)}{h:Av}{nx:Nat}{dst:Option Nat}{Z:Ai->Prop}(ps:List PK)(Q:CB (hget h) args=some ps)(a:A)(ha:ar ps=some a)(z:pre a)
 (hcl: ∀p∈H1 a,p.1<cnt/\ ∀m∈p.2.2.nms,m<cnt)(hb: ∀m∈(r0 a).nms,m<cnt)
 (O: ∀G:Av,(∀j e,hget (H1 a) j=some e->hget G (nx+j)=some (e.1,e.2.ren λj=>nx+j))->(∀m,m<nx->hget G m=hget h m)->Z ((⟨tm,G,nx+cnt⟩:Ai).put dst ((r0 a).ren λj=>nx+j))):
 Fb ar pre r0 H1 cnt args (hget h) nx (DT Z ⟨tm,h,nx⟩ dst):=by
 have e:Cl (λj=>j) 0 nx=λj=>nx+j:=funext λj=>by simp[Cl]
 unfold Fb;rw[Q];simp only[W9,ha,Eo];rw[e];exact⟨z,pQ (λ_=>rfl) rfl hcl hb O⟩
def vF.call{A:Type}{ar:List PK->Option A}{pre:A->Prop}{re:A->D}{args:List AV}{tm:List (Nat×AV)}{h:Av}{nx:Nat}{dst:Option Nat}{Q:Ai->Prop}(ps:List PK)(O:CB (hget h) args=some ps)(a:A)(Z:ar ps=some a)(z:pre a)
 (G:Q ((⟨tm,h,nx⟩:Ai).put dst (.im (re a)))):Ll ar pre re args (hget h) nx (DT Q ⟨tm,h,nx⟩ dst):=by
 unfold Ll;rw[O];simp only[WK,Z,Eo];refine⟨z,?_,?_⟩
 .rw[Bp.ok_nr];simp[AV.bel,Ac,Hu]
 .rw[Ai.app_nr,BB,Qq];exact G
def Hz(G:List Ar)(rows:List (List AV))(n:Nat)(f:Nat->Au):Av:=(0,(true,.arr 204 2 (G.map Ar.c)))::(1,(true,.arrA 206 2 rows))::AU 2 n f
def I5(G:List Ar)(rows:List (List AV))(n:Nat)(f:Nat->Au)(j:Nat):Ao (Hz G rows n f) j=true↔j<2+n:=by
 simp only[Ao,Hz,hget,lX];by_cases h0:j=0
 .subst h0;simp;omega
 by_cases z:j=1
 .subst z;simp;omega
 rw[Bi _ _ (λh=>h0 h.symm),Bi _ _ (λh=>z h.symm)];simp only[BC];split
 .rename_i h;simp;omega
 .rename_i h;simp;omega
def kH{G:List Ar}{rows:List (List AV)}{n:Nat}{f:Nat->Au}{p:Nat×Au}(hp:p∈Hz G rows n f):p.1<2+n:=by
 simp only[Hz,Bl,AU,Bv,BD] at hp;rcases hp with rfl|rfl|⟨j,z,rfl⟩<;>simp only<;>omega
def Dz(a:List Tile)(k:Int)(i:Nat):List (List AV):=(List.range (nT a)).map (Fw a k i)
def Vm(a:List Tile)(k:Int)(i N:Nat)(h:2+nT a<=N):(Dz a k i).all (Aq N)=true:=by
 rw[D3];intro r G;obtain⟨j,z,rfl⟩:=Bv.1 G;exact cU _ _ _ _ _ (by have:=BD.1 z;omega)
def Zq(a:List Tile)(k:Int)(i j:Nat)(σ:Nat->Nat)(h:σ (2+j)=2+j):AL σ (Fw a k i j)=Fw a k i j:=by
 simp only[Fw]
 split<;>simp[Iy,AL,AV.ren,h]
def Wk(a:List Tile)(k:Int)(i:Nat)(σ:Nat->Nat)(h: ∀j,j<nT a->σ (2+j)=2+j):(Dz a k i).map (AL σ)=Dz a k i:=by
 rw[Dz,Rm];exact Oi λj z=>Zq _ _ _ _ _ (h j (BD.1 z))
def Nk{G:List Ar}{a:List Tile}{k:Int}{i N:Nat}{f:Nat->Au}(h:2+nT a<=N)(hf: ∀i,Ac N [(2+i,f i)]=true):Ac N (Hz G (Dz a k i) (nT a) f)=true:=by
 simp only[Hz,Ac];rw[Ra _ _ _ hf,Vm _ _ _ _ h];rfl
def pP{G:List Ar}{a:List Tile}{k:Int}{i N:Nat}{f:Nat->Au}(h:2+nT a<=N):A8 N (Hz G (Dz a k i) (nT a) f)=true:=by
 simp only[Hz,A8];rw[QP _ _ _ _ (by omega)];simp;omega
def cZ{G:List Ar}{a:List Tile}{k:Int}{i:Nat}{f:Nat->Au}(hf: ∀j,(f j).2.nms=[]){p:Nat×Au}(hp:p∈Hz G (Dz a k i) (nT a) f){m:Nat}(z:m∈p.2.2.nms):m<2+nT a:=by
 simp only[Hz,Bl,AU,Bv,BD] at hp;rcases hp with rfl|rfl|⟨j,O,rfl⟩
 .simp[Ad.nms] at z
 .simp only[Ad.nms] at z;obtain⟨r,Q,z⟩:=Gf.1 z;obtain⟨j,O,rfl⟩:=Bv.1 Q;rw[cG,BK] at z
  have:=BD.1 O
  omega
 .rw[hf] at z;cases z
def cO{H0:Av}: ∀{H:Av},(∀p∈H,∀m∈p.2.2.nms,Ao H0 m=true)->BO H0 H
 |[],_=>trivial
 |(_,(_,_))::r,h=>⟨h _ (BT ..),cO λp hp=>h p (BX _ hp)⟩
def EV(a:AC×Int):Int:=a.2+2*a.1.Glues.length
def mkTS.ca(a:AC×Int):List AV:=[.agg [.own 0,.own 1],.im (.int .i64 a.2)]
def mkTS.H0(a:AC×Int):Av:=Hz a.1.Glues (Dz a.1.Tiles (EV a) 0) (nT a.1.Tiles) (FP a.1.Tiles (EV a) 0)
def mkTS.H1(a:AC×Int):Av:=Hz (Dj (gF a.2) a.1.Glues.length) (Dz a.1.Tiles (EV a) (nT a.1.Tiles)) (nT a.1.Tiles) (FP a.1.Tiles (EV a) (nT a.1.Tiles))
def mkTS.r0(a:AC×Int):AV:= .im (.int .i64 (EU a.1.Tiles (EV a) a.1.Tiles.length))
def mkTS.pre(a:AC×Int):Prop:=0<=a.2/\a.1.Tiles.length<=1048576/\EU a.1.Tiles (EV a) a.1.Tiles.length<=1099511627776
def mkTS.row:AA:=AE mkTS.ca mkTS.H0 2000000 mkTS.pre (λ_=>true) mkTS.r0 mkTS.H1 0
def mkTS.hbel(a:AC×Int):Aq 2000000 (mkTS.ca a)=true:=by simp[mkTS.ca,Aq,AV.bel]
def mkTS.hbH(a:AC×Int):Ac 2000000 (mkTS.H0 a)=true:=Nk (by have:=F8 a.1.Tiles;omega) (λi=>by simp[Ac,FP])
def mkTS.hkH(a:AC×Int):A8 2000000 (mkTS.H0 a)=true:=pP (by have:=F8 a.1.Tiles;omega)
def mkTS.hnm(a:AC×Int):BO (mkTS.H0 a) (mkTS.H0 a):=
 cO λp hp m z=>(I5 _ _ _ _ _).2 (cZ (λj=>by simp[FP,Ad.nms]) hp z)
def cK(h:Nat->Option Au): ∀(H:Av),HZ h (λ_=>true) H
 |[]=>trivial
 |(j,e)::r=>⟨trivial,cK h r⟩
def Mk{H0:Av}{k cnt:Nat}{exB:Nat->Bool}{j:Nat}(h:Ao H0 j=true):IY H0 k cnt exB j=some j:=by
 simp only[IY,h,gE,Ck]
def Zp{h:Nat->Option Au}{kx:Nat->Option Nat}{m:Nat}{a:List Tile}{k:Int}{i j:Nat}(z:kx (2+j)=some (2+j)):A7 (Be h kx (m+1)) (Fw a k i j)=some (Fw a k i j):=by
 simp only[Fw]
 split<;>simp only[Iy,A7,Be,z,kp]
def pO{h:Nat->Option Au}{kx:Nat->Option Nat}{m:Nat}{a:List Tile}{k:Int}{i:Nat}(G: ∀j,j<nT a->kx (2+j)=some (2+j)):A7 (A7 (Be h kx (m+1))) (Dz a k i)=some (Dz a k i):=
 VF _ λj z=>Zp (G j (BD.1 z))
def mkLC.hcl(a:List Tile×Int): ∀p∈mkLC.H1 a,Ao (mkLC.H0 a) p.1=true/\ ∀m∈p.2.2.nms,Ao (mkLC.H0 a) m=true:=by
 intro p hp;simp only[mkLC.H0,I4];simp only[mkLC.H1,Dy,Bl,AU,Bv,BD] at hp;rcases hp with rfl|⟨j,G,rfl⟩
 .refine⟨.inl rfl,λm z=> ?_⟩;simp only[Ad.nms] at z;obtain⟨r,O,z⟩:=Gf.1 z;obtain⟨j,G,rfl⟩:=Bv.1 O;rw[cG,BK] at z
  have:=BD.1 G
  exact .inr ⟨by omega,by omega⟩
 .exact⟨.inr ⟨by simp only;omega,by simp only;omega⟩,λm z=>by simp[FP,Ad.nms] at z⟩
def mkTS.hcl(a:AC×Int): ∀p∈mkTS.H1 a,Ao (mkTS.H0 a) p.1=true/\ ∀m∈p.2.2.nms,Ao (mkTS.H0 a) m=true:=
 λp hp=>⟨(I5 _ _ _ _ _).2 (kH hp),λm z=>(I5 _ _ _ _ _).2 (cZ (λj=>by simp[FP,Ad.nms]) hp z)⟩
def mkTS.ok:AB Tryz.prog 61 mkTS.row:=by
 refine ow (tC mkGC.ok (tC mkLC.ok tN)) Tryz.func61 rfl (by kernel_rfl) (exB:=λ_=>false) (R:=λa r=>r=mkTS.r0 a) (λ_=>rfl)
  (λa=>⟨mkTS.hbel a,mkTS.hbH a,mkTS.hkH a,mkTS.hnm a⟩) (λa p hp=> ?_) (λa r h=>by subst h;exact CF.refl _) ?_
 rotate_left
 intro a Q;simp only[Tryz.f61,mkTS.ca];simp(disch:=omega)only[ZA,simprocAttr];obtain⟨S,k⟩:=a;obtain⟨h1,h2,h3⟩:=Q;simp only at h1 h2 h3;have hk:=Ns S.Tiles (EV (S,k)) (by simp only[EV];omega) 0 S.Tiles.length (by omega);have O:EV (S,k)<=1099511627776:=by simp only[EU] at hk;omega
 simp only[EV] at O;have hn:=F8 S.Tiles;simp only[BB,mkTS.H0,Hz];refine AE.os (S.Glues,k) [0] ⟨h1,O⟩ (λj=> ?_) rfl rfl ?_ ?_
 .simp only[Ao,mkGC.H0,hget];by_cases z:j=0
  .subst z;simp
  .have:(0==j)=false:=by simpa using λh=>z h.symm
   rw[this];simp;omega
 .simp(disch:=omega)only[ZA,simprocAttr,D6,mkGC.ca,mkGC.H0,CO,De]
  try exact⟨rfl,rfl⟩
 simp(disch:=omega)only[ZA,simprocAttr,D6,mkGC.H1,BB,De,EE];rw[Wm 2 (nT S.Tiles) (FP S.Tiles (EV (S,k)) 0) [0] (by simp)];have hσ: ∀j,j<nT S.Tiles->Cl (λj=>if j=0 then 1 else j) 2000000 2000001 (2+j)=2+j:=λj z=>by
  simp only[Cl];rw[An (by omega),Af (by omega)]
 have hσ0:Cl (λj=>if j=0 then 1 else j) 2000000 2000001 0=1:=rfl;refine AE.tau (S.Tiles,EV (S,k)) (λj=>if j=0 then 1 else j) ⟨h2,by simp only[EV];omega,h3⟩ (λ_ _=>rfl) (λj z=> ?_) (λi j G z h=> ?_) (mkLC.hcl _) ⟨?_,?_⟩ (by simp[mkLC.r0,AV.nms]) (λZ hH1 aa=> ?_)
 .have z:=(I4 _ _ _ _).1 z;simp only at z⊢
  split<;>omega
 .have G:=(I4 _ _ _ _).1 G;have z:=(I4 _ _ _ _).1 z;simp only at G z h;split at h<;>split at h<;>omega
 .simp only[mkLC.ca,AL,AV.ren,hσ0,EV]
 .simp only[mkLC.H0,Dy,CO,hσ0,Ad.ren];refine⟨?_,Wq λi G=> ?_⟩
  .simp only[hget,Bi _ _ (show 0≠1 by omega),Bi _ _ (show 2000000≠1 by omega),BC,vP,Ck];rw[<-Dz,Wk _ _ _ _ hσ]
  .rw[hσ i G];simp only[hget,Bi _ _ (show 0≠2+i by omega),Bi _ _ (show 2000000≠2+i by omega),Bi _ _ (show 1≠2+i by omega),BC];rw[HC _ _ _ _ G];rfl
 have g0:hget Z 0=some (true,.arr 204 2 ((Dj (gF k) S.Glues.length).map Ar.c)):=by
  rw[aa 0 (λj z=>by
   have z:=(I4 _ _ _ _).1 z;simp only at z⊢
   split<;>omega)]
  rfl
 have g1:hget Z 1=some (true,.arrA 206 2 (Dz S.Tiles (EV (S,k)) (nT S.Tiles))):=by
  have g:=hH1 0 _ rfl;rw[An rfl] at g;rw[g];simp only[Ad.ren];rw[<-Dz,Wk _ _ _ _ hσ]
 have g2: ∀j,j<nT S.Tiles->hget Z (2+j)=some (FP S.Tiles (EV (S,k)) (nT S.Tiles) j):=λj z=>by
  have:=hH1 (2+j) _ (cN _ _ _ j z)
  simp only[Af (show 2+j≠0 by omega)] at this;rw[this];rfl
 simp only[mkLC.r0,AV.ren];simp(disch:=omega)only[ZA,simprocAttr,mkTS.r0,EV,BB,mkTS.H1,Hz];have ab: ∀j,j<nT S.Tiles->Ao ((0,(true,Ad.arr 204 2 (List.map Ar.c S.Glues)))::(1,(true,Ad.arrA 206 2 (Dz S.Tiles (k+2*S.Glues.length) 0)))::AU 2 (nT S.Tiles) (FP S.Tiles (k+2*S.Glues.length) 0)) (2+j)=true:=λj z=>(I5 _ _ _ _ _).2 (by omega)
 refine⟨cK _ _,?_,?_,?_⟩
 .rw[g0];exact⟨rfl,rfl⟩
 .rw[g1];refine⟨rfl,?_⟩;simp only[C5];rw[pO (λj z=>Mk (ab j z))];rfl
 .exact NK _ _ _ _ _ (λj z=>g2 j z) (λj z=>rfl)
 obtain⟨q1,_⟩:=mkTS.hcl _ p hp
 have:=(I5 _ _ _ _ _).1 q1
 have:=F8 a.1.Tiles
 exact .inl ⟨by omega,rfl,q1⟩
def Xc{n:Nat}{l:Int}(h:0<=C6 n l):(n:Int)<=l/\C6 n l<=l/\0<=l:=by
 simp only[C6] at h⊢;split at h
 .omega
 .rename_i c;rw[Af c];omega
def Qu5: ∀(a:List Tile) (l:Int),0<=l->l<=1048576->0<=Gj F1 a l-> ∀x∈a,x.Sides.length<=1073741824
 |[],_,_,_,_=>by intro x z;cases z
 |y::r,l,h0,Q,h=>by
  simp only[Gj] at h;split at h
  .omega
  .rename_i c;have G:0<=F1 y l:=by omega
   have O:0<=C6 y.Name.size l:=by
    simp only[F1] at G;split at G
    .omega
    .omega
   have e:F1 y l=C6 y.Sides.length (C6 y.Name.size l):=by
    simp only[F1];rw[Af (by omega)]
   rw[e] at G h;obtain⟨a1,a2,a3⟩:=Xc G;obtain⟨b1,b2,b3⟩:=Xc O;intro x z;rcases Bl.1 z with rfl|z
   .omega
   .exact Qu5 r _ G (by omega) h x z
def Vi{s:AC}{l:Int}(Q: -1<=l)(Z:l<=1048576)(h:0<=Ri s l):UO s:=by
 have hg:=Qo1 s.Glues l Q;simp only[Ri] at h;split at h
 .omega
 rename_i c;have z:0<=Hq s.Glues l:=by omega
 have O:0<=C6 s.Glues.length l:=by
  simp only[Hq] at z;split at z
  .omega
  .omega
 have G:0<=C6 s.Tiles.length (Hq s.Glues l):=by
  simp only[Lk] at h;split at h
  .omega
  .omega
 have e:Lk s.Tiles (Hq s.Glues l)=Gj F1 s.Tiles (C6 s.Tiles.length (Hq s.Glues l)):=by
  simp only[Lk];rw[Af (by omega)]
 rw[e] at h;obtain⟨a1,a2,a3⟩:=Xc O;obtain⟨b1,b2,b3⟩:=Xc G;exact⟨by omega,by omega,Qu5 s.Tiles _ G (by omega) h⟩
def Vj{s:Ax}{l:Int}(G: -1<=l)(z:l<=1048576)(h:0<=lT s l):bO s:=by
 have hb:=Qxk s.Set l G;simp only[lT] at h;split at h
 .omega
 rename_i c;obtain⟨a1,a2,a3⟩:=Xc h;exact⟨Vi G z (by omega),by omega⟩
def syK(a:Ax×Int):Int:=EU a.1.Set.Tiles (EV (a.1.Set,a.2)) a.1.Set.Tiles.length
def mkSy.ca(a:Ax×Int):List AV:=[.agg [.own 0,.own 1,.own 2000000,.im (.int .i64 a.1.Temperature)],.im (.int .i64 a.2)]
def mkSy.H0(a:Ax×Int):Av:=(2000000,(true,.arr 137 3 (a.1.Seed.Tiles.map Al.c)))::mkTS.H0 (a.1.Set,a.2)
def mkSy.H1(a:Ax×Int):Av:=(2000000,(true,.arr 137 3 ((Dj (pF (syK a)) a.1.Seed.Tiles.length).map Al.c)))::mkTS.H1 (a.1.Set,a.2)
def mkSy.r0(a:Ax×Int):AV:= .im (.int .i64 (syK a+3*a.1.Seed.Tiles.length))
def mkSy.pre(a:Ax×Int):Prop:=0<=a.2/\a.1.Set.Tiles.length<=1048576/\syK a+3*a.1.Seed.Tiles.length<=1099511627776
def mkSy.row:AA:=AE mkSy.ca mkSy.H0 2000001 mkSy.pre (λ_=>true) mkSy.r0 mkSy.H1 0
def mkSy.dom0(a:Ax×Int)(j:Nat):Ao (mkSy.H0 a) j=true↔j=2000000\/j<2+nT a.1.Set.Tiles:=by
 by_cases h:j=2000000
 .subst h;simp[Ao,mkSy.H0,hget]
 .have z:(2000000==j)=false:=by simpa using λq=>h q.symm
  have:Ao (mkSy.H0 a) j=Ao (mkTS.H0 (a.1.Set,a.2)) j:=by simp only[Ao,mkSy.H0,hget,z,BC]
  rw[this];simp only[mkTS.H0,I5,h,false_or]
def mkSy.hcl(a:Ax×Int): ∀p∈mkSy.H1 a,Ao (mkSy.H0 a) p.1=true/\ ∀m∈p.2.2.nms,Ao (mkSy.H0 a) m=true:=by
 intro p hp;simp only[mkSy.dom0];rcases Bl.1 hp with rfl|hp
 .exact⟨.inl rfl,λm z=>by simp[Ad.nms] at z⟩
 .have:=mkTS.hcl _ p hp
  simp only[mkTS.H0,I5] at this;exact⟨.inr this.1,λm z=> .inr (this.2 m z)⟩
def mkSy.hbel(a:Ax×Int):Aq 2000001 (mkSy.ca a)=true:=by simp[mkSy.ca,Aq,AV.bel]
def mkSy.hbH(a:Ax×Int):Ac 2000001 (mkSy.H0 a)=true:=by
 simp only[mkSy.H0,Ac];exact Nk (by have:=F8 a.1.Set.Tiles;simp only;omega) (λi=>by simp[Ac,FP])
def mkSy.hkH(a:Ax×Int):A8 2000001 (mkSy.H0 a)=true:=by
 simp only[mkSy.H0,A8]
 have:=pP (G:=a.1.Set.Glues) (a:=a.1.Set.Tiles) (k:=EV (a.1.Set,a.2)) (i:=0) (N:=2000001) (f:=FP a.1.Set.Tiles (EV (a.1.Set,a.2)) 0) (by have:=F8 a.1.Set.Tiles;omega)
 simp only[mkTS.H0,this,F6];simp
def mkSy.hnm(a:Ax×Int):BO (mkSy.H0 a) (mkSy.H0 a):=by
 refine cO λp hp m z=>(mkSy.dom0 _ _).2 ?_
 rcases Bl.1 hp with rfl|hp
 .simp[Ad.nms] at z
 .exact .inr (cZ (λj=>by simp[FP,Ad.nms]) hp z)
def Vg{G:List Ar}{rows:List (List AV)}{n:Nat}{f:Nat->Au}(i:Nat)(h:i<n):hget (Hz G rows n f) (2+i)=some (f i):=by
 simp only[Hz,hget,Bi _ _ (show 0≠2+i by omega),Bi _ _ (show 1≠2+i by omega),BC];exact HC _ _ _ _ h
def TS{h:Nat->Option Au}{kx:Nat->Option Nat}{m:Nat}{G:List Ar}{a:List Tile}{k:Int}{i:Nat}{f:Nat->Au}(h0:h 0=some (true,.arr 204 2 (G.map Ar.c)))(z:h 1=some (true,.arrA 206 2 (Dz a k i)))(O: ∀j,j<nT a->h (2+j)=some (f j))
 (hf: ∀j,C5 (Be h kx (m+1)) (f j).2=some (f j).2)(Q: ∀j,j<nT a->kx (2+j)=some (2+j)):EY h (Be h kx (m+1)) (Hz G (Dz a k i) (nT a) f):=by
 simp only[Hz,EY];refine⟨?_,?_,NK _ _ _ _ _ O (λj _=>hf j)⟩
 .rw[h0];exact⟨rfl,rfl⟩
 .rw[z];refine⟨rfl,?_⟩;simp only[C5];rw[pO Q];rfl
def mkSy.ok:AB Tryz.prog 21 mkSy.row:=by
 refine ow (tC mkTS.ok (tC mkAC.ok tN)) Tryz.func21 rfl (by kernel_rfl) (exB:=λ_=>false) (R:=λa r=>r=mkSy.r0 a) (λ_=>rfl)
  (λa=>⟨mkSy.hbel a,mkSy.hbH a,mkSy.hkH a,mkSy.hnm a⟩) (λa p hp=> ?_) (λa r h=>by subst h;exact CF.refl _) ?_
 rotate_left
 intro a Z;simp only[Tryz.f21,mkSy.ca];simp(disch:=omega)only[ZA,simprocAttr];obtain⟨S,k⟩:=a;obtain⟨h1,h2,h3⟩:=Z;simp only at h1 h2 h3;simp only[BB,mkSy.H0];have hn:=F8 S.Set.Tiles;have hk:=Ns S.Set.Tiles (EV (S.Set,k)) (by simp only[EV];omega) 0 S.Set.Tiles.length (by omega);have aa:0<=syK (S,k):=by simp only[syK];omega
 have hσ: ∀j,j<2+nT S.Set.Tiles->Cl (λj=>j) 2000000 2000002 j=j:=λj z=>An (by omega)
 have O:=λj=>(I5 S.Set.Glues (Dz S.Set.Tiles (EV (S.Set,k)) 0) (nT S.Set.Tiles) (FP S.Set.Tiles (EV (S.Set,k)) 0) j)
 refine AE.tau (S.Set,k) (λj=>j) ⟨h1,h2,by simp only[syK] at h3;simp only;omega⟩ (λ_ _=>rfl) (λj z=> ?_) (λi j _ _ h=>h) (mkTS.hcl _) ⟨?_,?_⟩ (by simp[mkTS.r0,AV.nms]) (λG hH1 Q=> ?_)
 .have z:=(O j).1 z;omega
 .simp only[mkTS.ca,AL,AV.ren,hσ 0 (by omega),hσ 1 (by omega)]
 .simp only[mkTS.H0,Hz,CO,hσ 0 (by omega),hσ 1 (by omega),Ad.ren];rw[Wk _ _ _ _ (λj z=>hσ _ (by omega))];refine⟨rfl,rfl,Wq λi hi=> ?_⟩;rw[hσ _ (by omega)];simp only[hget,Bi _ _ (show 2000001≠2+i by omega),Bi _ _ (show 2000000≠2+i by omega),Bi _ _ (show 0≠2+i by omega),Bi _ _ (show 1≠2+i by omega),BC];rw[HC _ _ _ _ hi];rfl
 have hu: ∀m,m=2000000\/m=2000001-> ∀j,Ao (mkTS.H0 (S.Set,k)) j=true->j≠m:=λm hm j z=>by
  have z:=(O j).1 z;omega
 have gs:hget G 2000000=some (true,.arr 137 3 (S.Seed.Tiles.map Al.c)):=by rw[Q _ (hu _ (.inl rfl))];rfl
 have gp:hget G 2000001=some (true,.cells 47 [.own 0,.own 1,.own 2000000,.im (.int .i64 S.Temperature)]):=by rw[Q _ (hu _ (.inr rfl))];rfl
 have g0:hget G 0=some (true,.arr 204 2 ((Dj (gF k) S.Set.Glues.length).map Ar.c)):=hH1 0 _ rfl;have g1:hget G 1=some (true,.arrA 206 2 (Dz S.Set.Tiles (EV (S.Set,k)) (nT S.Set.Tiles))):=by
  rw[hH1 1 _ rfl];simp only[Ad.ren];rw[Wk _ _ _ _ (λj z=>hσ _ (by omega))]
 have g2: ∀j,j<nT S.Set.Tiles->hget G (2+j)=some (FP S.Set.Tiles (EV (S.Set,k)) (nT S.Set.Tiles) j):=λj z=>by
  have e:hget (mkTS.H1 (S.Set,k)) (2+j)=some (FP S.Set.Tiles (EV (S.Set,k)) (nT S.Set.Tiles) j):=Vg j z;rw[hH1 (2+j) _ e];rfl
 have eK:EU S.Set.Tiles (EV (S.Set,k)) S.Set.Tiles.length=syK (S,k):=rfl;simp only[mkTS.r0,AV.ren,eK];simp(disch:=omega)only[ZA,simprocAttr,BB,gp]
 skip
 refine AE.os (S.Seed,syK (S,k)) [2000000] ⟨aa,h3⟩ (λj=> ?_) rfl rfl ?_ ?_
 .simp only[Ao,mkAC.H0,hget];by_cases z:j=0
  .subst z;simp
  .have:(0==j)=false:=by simpa using λh=>z h.symm
   rw[this];simp;omega
 .simp(disch:=omega)only[ZA,simprocAttr,D6,mkAC.ca,mkAC.H0,CO,De,gs]
  try exact⟨rfl,rfl⟩
 simp(disch:=omega)only[ZA,simprocAttr,D6,mkAC.H1,BB,De,EE,mkSy.r0,mkSy.H1];obtain⟨HX,hHX⟩: ∃HX,HX=hget ((2000000,(true,Ad.arr 137 3 (List.map Al.c (Dj (pF (syK (S,k))) S.Seed.Tiles.length))))::Bh G [2000000]):=⟨_,rfl⟩;rw[<-hHX];have gx: ∀m,m≠2000000->HX m=hget G m:=λm hm=>by
  rw[hHX];simp only[hget,Bi _ _ (λh=>hm h.symm:2000000≠m),BC];exact Lg _ _ _ (λh=>hm h.symm)
 refine⟨cK _ _,TS (by rw[gx 0 (by omega)];exact g0) (by rw[gx 1 (by omega)];exact g1) (λj z=>by simp only at z;rw[gx _ (by omega)];exact g2 j z) (λj=>rfl) (λj z=>Mk ?_)⟩;simp only at z
 have:=(mkSy.dom0 (S,k) (2+j)).2 (.inr (by simp only;omega))
 simpa only[mkSy.H0] using this
 obtain⟨q1,_⟩:=mkSy.hcl _ p hp
 have:=(mkSy.dom0 _ _).1 q1
 have:=F8 a.1.Set.Tiles
 exact .inl ⟨by omega,rfl,q1⟩
def H6(a:List Tile):Nat:=(a.map λx=>x.Sides.length).sum
def pH(y:Tile)(r:List Tile)(k:Int): ∀i,EU (y::r) k (i+1)=EU r (k+1+y.Sides.length) i
 |0=>rfl
 |i+1=>by
  rw[EU,pH y r k i,EU];rfl
def Nt: ∀(a:List Tile) (k:Int),EU a k a.length=k+a.length+H6 a
 |[],k=>by simp[EU,H6]
 |y::r,k=>by
  rw[CP,pH,Nt r];simp only[H6,Bd,Lw];omega
def kJ{n:Nat}{l:Int}(h:0<=C6 n l):C6 n l=l - n:=by
 simp only[C6] at h⊢;split at h
 .omega
 .rename_i c;rw[Af c]
def pA: ∀(a:List Tile) (l:Int),0<=l->0<=Gj F1 a l->(H6 a:Int)+Gj F1 a l<=l
 |[],l,h0,_=>by simp[H6,Gj]
 |y::r,l,h0,h=>by
  simp only[Gj] at h⊢;by_cases c:F1 y l<0
  .rw[An c] at h;omega
  .rw[Af c] at h⊢;have z:0<=F1 y l:=by omega
   have G:0<=C6 y.Name.size l:=by
    simp only[F1] at z;split at z<;>omega
   have e:F1 y l=C6 y.Sides.length (C6 y.Name.size l):=by
    simp only[F1];rw[Af (by omega)]
   rw[e] at z h⊢;have q1:=Xc G;have O:=kJ z;have ih:=pA r _ z h;simp only[H6,Bd,Lw] at ih⊢;omega
structure Ha(s:Ax):Prop where
 g:s.Set.Glues.length<=1048576
 t:s.Set.Tiles.length<=1048576
 d:H6 s.Set.Tiles<=1048576
 p:s.Seed.Tiles.length<=1048576
def Zl{s:Ax}{l:Int}(Z: -1<=l)(aa:l<=1048576)(h:0<=lT s l):Ha s:=by
 have hb:=Qxk s.Set l Z;simp only[lT] at h;split at h
 .omega
 rename_i c;obtain⟨a1,_,_⟩:=Xc h;have z:0<=Ri s.Set l:=by omega
 have hg:=Qo1 s.Set.Glues l Z;simp only[Ri] at z;split at z
 .omega
 have G:0<=Hq s.Set.Glues l:=by omega
 have Q:0<=C6 s.Set.Glues.length l:=by
  simp only[Hq] at G;split at G<;>omega
 have O:0<=C6 s.Set.Tiles.length (Hq s.Set.Glues l):=by
  simp only[Lk] at z;split at z<;>omega
 have e:Lk s.Set.Tiles (Hq s.Set.Glues l)=Gj F1 s.Set.Tiles (C6 s.Set.Tiles.length (Hq s.Set.Glues l)):=by
  simp only[Lk];rw[Af (by omega)]
 rw[e] at z;obtain⟨b1,_,_⟩:=Xc Q;obtain⟨d1,d2,_⟩:=Xc O
 have:=pA s.Set.Tiles _ O z
 exact⟨by omega,by omega,by omega,by omega⟩
def jW{a:List Tile}{x:Tile}(h:x∈a):x.Sides.length<=H6 a:=by
 induction a with
 |nil=>cases h
 |cons y r ih=>
  simp only[H6,Bd,Lw] at ih⊢;rcases Bl.1 h with rfl|h
  .omega
  .have:=ih h;omega
def Ha.yx{s:Ax}(h:Ha s):toYX.pre s:=⟨⟨by have:=h.g;omega,⟨h.t,λx z=>by have:=jW z;have:=h.d;omega⟩⟩,by have:=h.p;omega⟩
def Ha.syK{s:Ax}(h:Ha s){k:Int}(G:0<=k)(z:k<=1048576):0<=syK (s,k)/\Go.Ae.syK (s,k)+3*s.Seed.Tiles.length<=9437184:=by
 simp only[Go.Ae.syK,Nt,EV]
 have:=h.g;have:=h.t;have:=h.d;have:=h.p
 omega
def Ha.mkp{s:Ax}(h:Ha s){k:Int}(G:0<=k)(z:k<=1048576):mkSy.pre (s,k):=⟨G,h.t,by have:=(h.syK G z).2;simp only;omega⟩
structure Fa(h:Nat->Option Au)(g t p f:Nat)(s:Ax):Prop where
 g:h g=some (true,.arr 204 2 (s.Set.Glues.map Ar.c))
 t:h t=some (true,.arrA 206 2 (Ib f s.Set.Tiles))
 p:h p=some (true,.arr 137 3 (s.Seed.Tiles.map Al.c))
 f: ∀i,i<s.Set.Tiles.length->h (f+i)=some (E9 s.Set.Tiles i)
def Vk{h:Nat->Option Au}{n f:Nat}{a:List Tile}(hf: ∀i,i<a.length->h (f+i)=some (E9 a i)):A7 (A7 (bk h (n+1))) (Ib f a)=some (a.map Tile.c):=by
 have e:a.map Tile.c=(List.range a.length).map λi=>((a[i]?.map Tile.c).getD []):=by
  apply Kq;intro i;rw[D2,D2];by_cases z:i<a.length
  .rw[HL z,Bj z];simp[z]
  .rw[FE (by omega),FE (by simp;omega)];rfl
 rw[e];refine VF _ λi z=> ?_
 have z:=BD.1 z;have G:a[i]? =some a[i]:=Bj z;simp only[A7,bk,hf i z,E9,Kl,G,CQ,AM,Tile.c]
def Fa.bk{h:Nat->Option Au}{g t p f n:Nat}{s:Ax}(hs:Fa h g t p f s):Go.Ae.bk h (n+3) (.agg [.own g,.own t,.own p,.im (.int .i64 s.Temperature)])=some (.agg (Ax.c s)):=by
 simp only[Go.Ae.bk,A7,hs.g,hs.t,hs.p,Kl,Vk hs.f,CQ,Ax.c]
def Fa.pk{h:Nat->Option Au}{g t p f:Nat}{s:Ax}(hs:Fa h g t p f s):E7 h (.agg [.own g,.own t,.own p,.im (.int .i64 s.Temperature)])=some (.val (.agg (Ax.c s))):=by
 simp only[E7,hs.bk (n:=6),ES,CQ]
def vN.call{A:Type}{ar:List PK->Option A}{pre:A->Prop}{re:A->D}{args:List AV}{tm:List (Nat×AV)}{h:Av}{nx:Nat}{dst:Option Nat}{Q:Ai->Prop}(ps:List PK)(O:KI (hget h) args=some (ps,[]))(a:A)(Z:ar ps=some a)(z:pre a)
 (G:Q ((⟨tm,h,nx⟩:Ai).put dst (.im (re a)))):Ee ar pre re args (hget h) nx (DT Q ⟨tm,h,nx⟩ dst):=by
 unfold Ee;rw[O];simp only[Z0,Z,Eo,Su];refine⟨z,?_,?_⟩
 .rw[Bp.ok_nr];simp[AV.bel,Ac,Hu]
 .rw[Ai.app_nr,BB,Qq];exact G
def Vh(s:Ax):a1 (kR Ax.d) [.val (.agg (Ax.c s))]=some s:=by simp only[a1,kR,Ax.d_c,Eg]
def yD(s t:Ax):a2 (kR Ax.d) (kR Ax.d) [.val (.agg (Ax.c s)),.val (.agg (Ax.c t))]=some (s,t):=by simp only[a2,kR,Ax.d_c,Eg]
def wT(l m:List Int):a2 (kS Ct) (kS Ct) [.val (.sl false 1 (l.map Aj)),.val (.sl false 1 (m.map Aj))]=some (l,m):=by simp only[a2,kS,NW Ww,Eg]
def toYR.row:AA:=nI toSystem.row toYX.row
def toYR.ok:AB Tryz.prog 11 toYR.row:=W6 toSystem.ok toYX.ok
def yK{s:Ax}(hs:Ha s): ∀p∈toYX.H1 s,p.1<2000013/\ ∀m∈p.2.2.nms,m<2000013:=by
 have z:min s.Set.Tiles.length 1048576<=1048576:=gH _ _;have Z:=hs.t;intro p hp;simp only[toYX.H1,Bl,AU,Bv,BD] at hp;rcases hp with rfl|rfl|rfl|⟨i,Q,rfl⟩
 .exact⟨by omega,by simp[Ad.nms]⟩
 .refine⟨by omega,λm z=> ?_⟩;simp only[Ad.nms] at z;obtain⟨r,O,z⟩:=Gf.1 z;obtain⟨j,G,rfl⟩:=Bv.1 O
  have:=BD.1 G
  simp[AH,AV.nms] at z;omega
 .exact⟨by omega,by simp[Ad.nms]⟩
 .exact⟨by simp only;omega,by simp[E9,Ad.nms]⟩
def Fa.mono{h h':Nat->Option Au}{g t p f:Nat}{s:Ax}(hs:Fa h g t p f s)(z: ∀m,(m=g\/m=t\/m=p\/(f<=m/\m<f+s.Set.Tiles.length))->h' m=h m):Fa h' g t p f s:=
 ⟨by rw[z g (.inl rfl)];exact hs.g,by rw[z t (.inr (.inl rfl))];exact hs.t,by rw[z p (.inr (.inr (.inl rfl)))];exact hs.p,λi G=>by rw[z _ (.inr (.inr (.inr ⟨by omega,by omega⟩)))];exact hs.f i G⟩
def yJ{s:Ax}(hs:Ha s){nx:Nat}{z:Av}(h: ∀j e,hget (toYX.H1 s) j=some e->hget z (nx+j)=some (e.1,e.2.ren λj=>nx+j)):Fa (hget z) (nx+7) (nx+9) (nx+2000012) (nx+10) s:=by
 have Q:=hs.t;have O:min s.Set.Tiles.length 1048576=s.Set.Tiles.length:=by omega
 refine⟨h 7 _ rfl,?_,h 2000012 _ rfl,λi G=> ?_⟩
 .rw[h 9 _ rfl];simp only[Ad.ren];congr 3;simp only[Ib,Rm];refine Oi λi G=> ?_
  simp only[Function.comp,AL,AV.ren];rw[Qp]
 .have e:hget (toYX.H1 s) (10+i)=some (E9 s.Set.Tiles i):=by
   simp only[toYX.H1,hget,Bi _ _ (show 7≠10+i by omega),Bi _ _ (show 9≠10+i by omega),Bi _ _ (show 2000012≠10+i by omega),BC];rw[O];exact HC _ _ _ _ G
  rw[Qp,h _ _ e];rfl
def Wu{H:Av}(e:Au)(k m:Nat)(h:k≠m):hget ((k,e)::Bh H [k]) m=hget H m:=by
 simp only[hget,Bi _ _ h,BC];exact Lg _ _ _ h
def Pi{h:Nat->Option Au}{x y:AV}{p q:PK}(z:E7 h x=some p)(G:E7 h y=some q):CB h [x,y]=some [p,q]:=by simp only[CB,z,G,I1]
def bH{h:Nat->Option Au}{o T k:Nat}{z:Bool}{rows:List (List D)}(g:h o=some (z,.arr T k rows)):E7 h (.own o)=some (.val (.sl false k rows)):=by simp only[E7,bk,g,Kl,ES,CQ]
def pB: ∀l:List Nat,J7 l []=true
 |[]=>rfl
 |x::r=>by simp[J7,pB r]
def JS:List Fp->Bool
 |[]=>true
 |f::r=>f.touch.isEmpty && JS r
def cE(cl:List (List Nat))(i:Nat)(use:List Nat): ∀acc:List Fp,JS acc=true->I3 cl i use [] [] acc=true
 |[],_=>rfl
 |f::r,h=>by
  simp only[JS,AS,List.isEmpty_iff] at h;simp only[I3,mZ,h.1,D8,pB,J7,G3,gC,Ck,cE cl i use r h.2]
def vN.callA{A:Type}{ar:List PK->Option A}{pre:A->Prop}{re:A->D}{args:List AV}{tm:List (Nat×AV)}{h:Av}{nx:Nat}{dst:Option Nat}{Q:V4}{cl:List (List Nat)}{i:Nat}{acc:List Fp}(ps:List PK)(O:KI (hget h) args=some (ps,[]))(a:A)(Z:ar ps=some a)(z:pre a)(hq:JS acc=true)
 (G: ∀u,Q (⟨i,u,[],nx,0⟩::acc) ((⟨tm,h,nx⟩:Ai).put dst (.im (re a)))):Ee ar pre re args (hget h) nx (NO cl i acc Q ⟨tm,h,nx⟩ dst):=by
 unfold Ee;rw[O];simp only[Z0,Z,Eo,Su];refine⟨z,?_,?_,?_⟩
 .rw[Bp.ok_nr];simp[AV.bel,Ac,Hu]
 .exact cE _ _ _ _ hq
 .rw[Ai.app_nr,BB,Qq];exact G _
def vF.callA{A:Type}{ar:List PK->Option A}{pre:A->Prop}{re:A->D}{args:List AV}{tm:List (Nat×AV)}{h:Av}{nx:Nat}{dst:Option Nat}{Q:V4}{cl:List (List Nat)}{i:Nat}{acc:List Fp}(ps:List PK)(O:CB (hget h) args=some ps)(a:A)(Z:ar ps=some a)(z:pre a)(hq:JS acc=true)
 (G: ∀u,Q (⟨i,u,[],nx,0⟩::acc) ((⟨tm,h,nx⟩:Ai).put dst (.im (re a)))):Ll ar pre re args (hget h) nx (NO cl i acc Q ⟨tm,h,nx⟩ dst):=by
 unfold Ll;rw[O];simp only[WK,Z,Eo];refine⟨z,?_,?_,?_⟩
 .rw[Bp.ok_nr];simp[AV.bel,Ac,Hu]
 .exact cE _ _ _ _ hq
 .rw[Ai.app_nr,BB,Qq];exact G _
def OT{N nx:Nat}{tm:List (Nat×AV)}{h:Av}{dst:Option Nat}{go:Ai->Prop}{s:Ax}{k:Int}(hB:Ha s)(hk:0<=k)(ac:k<=1048576)(Z:Fa (hget h) (N+7) (N+9) (N+2000012) (N+10) s)(ad:N+2000013<=nx)
 (ab: ∀Q:Av,(∀m,m<N+7\/N+2000013<=m->hget Q m=hget h m)->go ((⟨tm,Q,nx⟩:Ai).put dst (.im (.int .i64 (syK (s,k)+3*s.Seed.Tiles.length))))):
 mkSy.row [.agg [.own (N+7),.own (N+9),.own (N+2000012),.im (.int .i64 s.Temperature)],.im (.int .i64 k)] (hget h) nx (DT go ⟨tm,h,nx⟩ dst):=by
 have ht:=hB.t;have hn:=F8 s.Set.Tiles;have O:nT s.Set.Tiles=s.Set.Tiles.length:=by simp only[nT];omega
 obtain⟨τ,hτ⟩: ∃τ:Nat->Nat,τ=λj=>if j=2000000 then N+2000012 else if j=0 then N+7 else N+8+j:=⟨_,rfl⟩
 have t0:τ 0=N+7:=by rw[hτ];rfl
 have t1:τ 1=N+9:=by rw[hτ];rfl
 have t2: ∀j,j<1048576->τ (2+j)=N+10+j:=λj z=>by rw[hτ];simp only;rw[Af (by omega),Af (by omega)];omega
 have tp:τ 2000000=N+2000012:=by rw[hτ];exact An rfl
 have hσ: ∀j,j<2000001->Cl τ 2000001 nx j=τ j:=λj z=>An z
 have d0: ∀j,Ao (mkSy.H0 (s,k)) j=true->j=2000000\/j<2+s.Set.Tiles.length:=λj z=>by
  have:=(mkSy.dom0 _ _).1 z
  simp only[O] at this;exact this
 have rg: ∀j,Ao (mkSy.H0 (s,k)) j=true->N+7<=τ j/\τ j<N+2000013:=λj z=>by
  rcases d0 j z with rfl|z
  .rw[tp];omega
  .rw[hτ];simp only;rw[Af (by omega)]
   split<;>omega
 refine AE.tau (s,k) τ (hB.mkp hk ac) (λ_ _=>rfl) (λj z=> ?_) (λi j G z h=> ?_) (mkSy.hcl _) ⟨?_,?_⟩ (by simp[mkSy.r0,AV.nms]) (λQ _ aa=> ?_)
 .have h1:=d0 j z;have h2:=rg j z;omega
 .have h1:=d0 i G;have h2:=d0 j z;have tv: ∀j,(j=2000000/\τ j=N+2000012)\/(j=0/\τ j=N+7)\/(j≠2000000/\j≠0/\τ j=N+8+j):=λj=>by
   rw[hτ];simp only;split
   .exact .inl ⟨by assumption,rfl⟩
   split
   .exact .inr (.inl ⟨by assumption,rfl⟩)
   .exact .inr (.inr ⟨by assumption,by assumption,rfl⟩)
  have v1:=tv i;have v2:=tv j;omega
 .simp only[mkSy.ca,AL,AV.ren,hσ 0 (by omega),hσ 1 (by omega),hσ 2000000 (by omega),t0,t1,tp]
 .simp only[mkSy.H0,mkTS.H0,Hz,CO,hσ 0 (by omega),hσ 1 (by omega),hσ 2000000 (by omega),t0,t1,tp,Ad.ren];refine⟨Z.p,Z.g,?_,Wq λi G=> ?_⟩
  .rw[Z.t];congr 3;simp only[Ib,Dz,Rm,O];refine Oi λi G=> ?_
   have G:=BD.1 G;simp only[Function.comp,Fw,mQ,CK,Iy,AL,AV.ren];rw[hσ _ (by omega),t2 i (by omega)]
  .rw[O] at G;rw[hσ _ (by omega),t2 i (by omega),Z.f i G];rfl
 exact ab Q λm hm=>aa m λj z=>by have:=rg j z;omega
def mkIC.d0(a:List Int×Int)(j:Nat)(z:Ao (mkIC.H0 a) j=true):j=0:=by
 simp only[Ao,mkIC.H0,hget] at z;by_cases h:j=0
 .exact h
 .rw[Bi _ _ (λq=>h q.symm)] at z;cases z
def OQ{nx o:Nat}{tm:List (Nat×AV)}{h:Av}{dst:Option Nat}{go:Ai->Prop}{l:List Int}{k:Int}(hk:0<=k)(Z:k+l.length<=1099511627776)(hS:hget h o=some (true,.arr 2 1 (l.map Aj)))(aa:o<nx)
 (Q: ∀G:Av,(∀j e,hget (mkIC.H1 (l,k)) j=some e->hget G o=some (e.1,e.2.ren (Cl (λ_=>o) 1 nx)))->(∀m,m≠o->hget G m=hget h m)->go ((⟨tm,G,nx⟩:Ai).put dst (.im (.int .i64 (k+l.length))))):
 mkIC.row [.own o,.im (.int .i64 k)] (hget h) nx (DT go ⟨tm,h,nx⟩ dst):=by
 refine AE.tau (l,k) (λ_=>o) ⟨hk,Z⟩ (λj z=>by rw[mkIC.d0 _ j z];rfl) (λj z=>⟨by rw[mkIC.d0 _ j z];omega,aa⟩) (λi j hi z _=>by rw[mkIC.d0 _ i hi,mkIC.d0 _ j z]) (λp hp=> ?_) ⟨rfl,hS,trivial⟩ (by simp[AV.nms]) (λG hH1 O=>Q G hH1 λm hm=>O m λj z h=>hm h.symm);simp only[mkIC.H1,BK] at hp;subst hp;exact⟨rfl,λm hm=>by simp[Ad.nms] at hm⟩
def needX.pre(a:Cm):Prop:=(∀o∈a.Seq,FB o.At)/\a.Inputs.length=a.Seq.length/\a.Seq.length<=500
def eqSSF.fv(a:(List (List Int))×(List (List Int))):Bool:=(λa b=>decide (a=b)) (a.1) (a.2)
def eqSSF.row:AA:=CR (b2 (qS Qh NV) (qS Qh NV)) rB (λa=>True) eqSSF.fv
def eqSSF.q:=CY (R:=eqSSF.row) rfl
def eqSSF.ok:AB Tryz.prog 80 eqSSF.row:=by
 refine Fx (tC eqInt64S.ok tN) Tryz.func80 rfl (by kernel_rfl) ?_;intro a Z;simp only[Tryz.f80];simp(disch:=omega)only[ZA,simprocAttr,eqSSF.fv,D.sc,D.scs,Bs];intro h1 h2;simp only[AO];refine⟨λG=> ?_,λG=> ?_⟩
 .have:a.1≠a.2:=λh=>G (by rw[h])
  simp[this]
 have G:a.1.length=a.2.length:=by omega
 refine AP.old ⟨{k:Nat//k<=a.1.length/\a.1.take k=a.2.take k},λk=>⟨[(5,.im (.int .i64 k.1)),(4,.im (.bool false)),(0,.im (.sl false 1 (a.1.map C8))),(1,.im (.sl false 1 (a.2.map C8)))],[],0⟩,λk=>a.1.length - k.1,λk=>⟨by simp[Ai.good,Am,Ac,A8,AV.bel],AQ _⟩,⟨⟨0,by simp⟩,by simp(disch:=omega)only[ZA,simprocAttr,sub]⟩,λk=> ?_⟩;obtain⟨k,Q,z⟩:=k;simp(disch:=omega)only[ZZ,simprocAttr,eqInt64S.q,eqInt64S.fv,D.sc,D.scs,Bs,sub,AO];intro _;refine⟨λO=>⟨O,λx hx=>⟨by omega,λy hy=> ?_⟩⟩,λO=> ?_⟩
 .obtain⟨g1,g2⟩:=eD G Q z hx hy;exact⟨λh=>by simp[g2 (show x≠y from h)],λh=>Gi O h1 ⟨by omega,g1 (show x=y from FW.1 h)⟩⟩
 .rw[DQ (by omega),DQ (by omega)] at z;simp[z]
def Vs(M:List (List Int)):Nat:=(M.map List.length).sum
def I7:List (List Int)->Int->Int
 |[],k=>k
 |x::r,k=>if Gg x k<0 then -1 else I7 r (Gg x k)
def SH(x:List Int)(k:Int):Gg x k=k+x.length\/Gg x k= -1:=by
 simp only[Gg];split
 .exact .inl rfl
 .exact .inr rfl
def heldSS.fv(a:(List (List Int))×Int):Int:=(I7) (a.1) (a.2)
def heldSS.row:AA:=CR (b2 (qS Qh NV) qI) rI (λa=>0<=a.2/\a.2+Vs a.1<=1099511627776) heldSS.fv
def heldSS.q:=CY (R:=heldSS.row) rfl
def heldSS.ok:AB Tryz.prog 83 heldSS.row:=by
 refine Fx (tC heldIS.ok tN) Tryz.func83 rfl (by kernel_rfl) ?_;intro a G;simp only[Tryz.f83];simp(disch:=omega)only[ZA,simprocAttr,heldSS.fv];obtain⟨M,k⟩:=a;simp only at G⊢;obtain⟨h1,h2⟩:=G;refine AP.old ⟨{i:Nat×Int//i.1<=M.length/\I7 M k=I7 (M.drop i.1) i.2/\0<=i.2/\i.2+Vs (M.drop i.1)<=1099511627776},λi=>⟨[(5,.im (.int .i64 i.1.1)),(4,.im (.int .i64 0)),(1,.im (.int .i64 i.1.2)),(0,.im (.sl false 1 (M.map C8)))],[],0⟩,λi=>M.length - i.1.1,λi=>⟨by simp[Ai.good,Am,Ac,A8,AV.bel],by simp⟩,⟨⟨(0,k),by simp only[Hg];exact⟨Cy _,trivial,h1,h2⟩⟩,by simp(disch:=omega)only[ZA,simprocAttr,sub]⟩,λi=> ?_⟩;obtain⟨⟨i,q⟩,Z,z,Q,O⟩:=i;simp only at Z z Q O;simp(disch:=omega)only[ZZ,simprocAttr,Cz,heldIS.q,heldIS.fv,D.sc,D.scs,Bs,sub,AO];intro _;refine⟨λhi=>⟨hi,λx hx=> ?_⟩,λhi=> ?_⟩
 .rw[EW hx] at z O;have ht:Vs (x::M.drop (i+1))=x.length+Vs (M.drop (i+1)):=rfl;rw[ht] at O;refine⟨⟨Q,by omega⟩,λc=> ?_,λc=>⟨⟨(i+1,Gg x q),?_⟩,by simp only;omega,by rw[AG (by omega) (by omega)];simp only;omega,rfl⟩⟩
  .rw[z,I7,An c]
  .rcases SH x q with e|e
   .simp only;refine⟨by omega,?_,by omega,by omega⟩;rw[z,I7,Af c]
   .omega
 .rw[Dr (by omega),I7] at z;exact z.symm
structure Q7(h:Nat->Option Au)(o b:Nat)(M:List (List Int)):Prop where
 r:h o=some (true,.arrA 32 1 (Dp b M.length))
 f: ∀i,i<M.length->h (b+i)=some (true,.arr 2 1 ((M[i]?.getD []).map Aj))
def Q7.mono{h h':Nat->Option Au}{o b:Nat}{M:List (List Int)}(hs:Q7 h o b M)(z: ∀m,(m=o\/(b<=m/\m<b+M.length))->h' m=h m):Q7 h' o b M:=
 ⟨by rw[z o (.inl rfl)];exact hs.r,λi G=>by rw[z _ (.inr ⟨by omega,by omega⟩)];exact hs.f i G⟩
def Q7.pk{h:Nat->Option Au}{o b:Nat}{M:List (List Int)}(hs:Q7 h o b M):E7 h (.own o)=some (.val (.sl false 1 (M.map C8))):=by
 have e:A7 (A7 (bk h 8)) (Dp b M.length)=some (M.map C8):=by
  have G:M.map C8=(List.range M.length).map λi=>C8 (M[i]?.getD []):=by
   apply Kq;intro i;rw[D2,D2];by_cases z:i<M.length
   .rw[HL z,Bj z];simp[z]
   .rw[FE (by omega),FE (by simp;omega)];rfl
  rw[G];refine VF _ λi z=> ?_
  have z:=BD.1 z;simp only[A7,bk,hs.f i z,Kl,C8]
 simp only[E7,bk,hs.r,Kl,e,CQ,ES]
def WE{A:Type}(f:Nat->A)(n:Nat):(Dj f n).length=n:=by simp[Dj]
def F9(l:List Ap)(k:Int):Int:=if l=Dj (oF k) l.length then k+3*l.length else -1
def SI(k:Int)(n:Nat):F9 (Dj (oF k) n) k=k+3*n:=by
 simp only[F9,WE,BM]
def rV{A:Type}(f:Nat->A)(n:Nat):Dj f (n+1)=Dj f n++[f n]:=by simp[Dj,mP]
def N1{A:Type}{f:Nat->A}{n i:Nat}(h:i<n):(Dj f n)[i]? =some (f i):=by simp only[Dj,D2];rw[HL h];rfl
def heldO_.fv(a:(List Ap)×Int):Int:=(F9) (a.1) (a.2)
def heldO_.row:AA:=CR (b2 (qS Ap.d_le Ap.c_n) qI) rI (λa=>0<=a.2/\a.2+3*a.1.length<=1099511627776) heldO_.fv
def heldO_.q:=CY (R:=heldO_.row) rfl
def heldO_.ok:AB Tryz.prog 26 heldO_.row:=by
 refine Fx tN Tryz.func26 rfl (by kernel_rfl) ?_;intro a z;simp only[Tryz.f26];simp(disch:=omega)only[ZA,simprocAttr,heldO_.fv];obtain⟨l,k⟩:=a;simp only at z⊢;obtain⟨h1,h2⟩:=z;refine AP.old ⟨{i:Nat//i<=l.length/\l.take i=Dj (oF k) i},λi=>⟨[(5,.im (.int .i64 i.1)),(4,.im (.int .i64 0)),(1,.im (.int .i64 (k+3*i.1))),(0,.im (.sl false 3 (l.map Ap.c)))],[],0⟩,λi=>l.length - i.1,λi=>⟨by simp[Ai.good,Am,Ac,A8,AV.bel],by simp⟩,⟨⟨0,by simp[Dj]⟩,by simp(disch:=omega)only[ZA,simprocAttr,sub];simp⟩,λi=> ?_⟩;obtain⟨i,ab,G⟩:=i;simp(disch:=omega)only[ZA,simprocAttr,D.sc,D.scs,Bs,sub,AO];intro _;have w1:IntKind.i64.wrap (k+3*(i:Int)+1)=k+3*(i:Int)+1\/ ¬i<l.length:=by
  by_cases c:i<l.length
  .exact .inl (AG (by omega) (by omega))
  .exact .inr c
 refine⟨λQ=>⟨Q,λx Z=> ?_⟩,λQ=> ?_⟩
 .have w1:IntKind.i64.wrap (k+3*(i:Int)+1)=k+3*(i:Int)+1:=AG (by omega) (by omega);have w2:IntKind.i64.wrap (k+3*(i:Int)+1+1)=k+3*(i:Int)+2:=(AG (by omega) (by omega)).trans (by omega);have w3:IntKind.i64.wrap (k+3*(i:Int)+2+1)=k+3*((i+1:Nat):Int):=(AG (by omega) (by omega)).trans (by omega);simp only[w1,w2,w3];have O:x≠oF k i-> -1=F9 l k:=λc=>by
   simp only[F9];rw[Af λh=> ?_];rw[h,N1 Q] at Z;exact c (AD Z).symm
  refine⟨λc=>O λh=>c (by rw[h];rfl),λc1=>⟨Q,λy hy=> ?_⟩⟩;obtain rfl:x=y:=AD (Z.symm.trans hy);refine⟨λc=>O λh=>c (by rw[h];rfl),λc2=>⟨Q,λy hy=> ?_⟩⟩;obtain rfl:x=y:=AD (Z.symm.trans hy);refine⟨λc=>O λh=>c (by rw[h];rfl),λc3=>⟨⟨i+1,by omega,?_⟩,by simp only;omega,by rw[AG (by omega) (by omega)];simp only;omega,rfl⟩⟩;have e:x=oF k i:=by
   obtain⟨⟨u,v⟩,t⟩:=x;simp only[FW] at c1 c2 c3;simp only[oF,c1,c2,c3]
  rw[Kk Z,G,rV,e]
 .have aa:i=l.length:=by omega
  subst aa;rw[Gs] at G;simp only[F9];rw[An G]
def totO(M:List (List Ap)):Nat:=(M.map List.length).sum
def SJ(x:List Ap)(k:Int):F9 x k=k+3*x.length\/F9 x k= -1:=by
 simp only[F9];split
 .exact .inl rfl
 .exact .inr rfl
def mkOO.pre(a:List (List Ap)×Int):Prop:=a.1.length<=1048576/\0<=a.2/\a.2+3*totO a.1<=1099511627776
def GQ(l:List Al)(k:Int):Int:=if l=Dj (pF k) l.length then k+3*l.length else -1
def SK(k:Int)(n:Nat):GQ (Dj (pF k) n) k=k+3*n:=by
 simp only[GQ,WE,BM]
def heldP_.fv(a:(List Al)×Int):Int:=(GQ) (a.1) (a.2)
def heldP_.row:AA:=CR (b2 (qS Al.d_le Al.c_n) qI) rI (λa=>0<=a.2/\a.2+3*a.1.length<=1099511627776) heldP_.fv
def heldP_.q:=CY (R:=heldP_.row) rfl
def heldP_.ok:AB Tryz.prog 63 heldP_.row:=by
 refine Fx tN Tryz.func63 rfl (by kernel_rfl) ?_;intro a z;simp only[Tryz.f63];simp(disch:=omega)only[ZA,simprocAttr,heldP_.fv];obtain⟨l,k⟩:=a;simp only at z⊢;obtain⟨h1,h2⟩:=z;refine AP.old ⟨{i:Nat//i<=l.length/\l.take i=Dj (pF k) i},λi=>⟨[(5,.im (.int .i64 i.1)),(4,.im (.int .i64 0)),(1,.im (.int .i64 (k+3*i.1))),(0,.im (.sl false 3 (l.map Al.c)))],[],0⟩,λi=>l.length - i.1,λi=>⟨by simp[Ai.good,Am,Ac,A8,AV.bel],by simp⟩,⟨⟨0,by simp[Dj]⟩,by simp(disch:=omega)only[ZA,simprocAttr,sub];simp⟩,λi=> ?_⟩;obtain⟨i,ab,G⟩:=i;simp(disch:=omega)only[ZA,simprocAttr,D.sc,D.scs,Bs,sub,AO];intro _;refine⟨λQ=>⟨Q,λx Z=> ?_⟩,λQ=> ?_⟩
 .have w1:IntKind.i64.wrap (k+3*(i:Int)+1)=k+3*(i:Int)+1:=AG (by omega) (by omega);have w2:IntKind.i64.wrap (k+3*(i:Int)+1+1)=k+3*(i:Int)+2:=(AG (by omega) (by omega)).trans (by omega);have w3:IntKind.i64.wrap (k+3*(i:Int)+2+1)=k+3*((i+1:Nat):Int):=(AG (by omega) (by omega)).trans (by omega);simp only[w1,w2,w3];have O:x≠pF k i-> -1=GQ l k:=λc=>by
   simp only[GQ];rw[Af λh=> ?_];rw[h,N1 Q] at Z;exact c (AD Z).symm
  refine⟨λc=>O λh=>c (by rw[h];rfl),λc1=>⟨Q,λy hy=> ?_⟩⟩;obtain rfl:x=y:=AD (Z.symm.trans hy);refine⟨λc=>O λh=>c (by rw[h];rfl),λc2=>⟨Q,λy hy=> ?_⟩⟩;obtain rfl:x=y:=AD (Z.symm.trans hy);refine⟨λc=>O λh=>c (by rw[h];rfl),λc3=>⟨⟨i+1,by omega,?_⟩,by simp only;omega,by rw[AG (by omega) (by omega)];simp only;omega,rfl⟩⟩;have e:x=pF k i:=by
   obtain⟨⟨u,v⟩,t⟩:=x;simp only[FW] at c1 c2 c3;simp only[pF,c1,c2,c3]
  rw[Kk Z,G,rV,e]
 .have aa:i=l.length:=by omega
  subst aa;rw[Gs] at G;simp only[GQ];rw[An G]
def OK(x:List Al)(k:Int):GQ x k=k+3*x.length\/GQ x k= -1:=by
 simp only[GQ];split
 .exact .inl rfl
 .exact .inr rfl
def heldA_.fv(a:Ak×Int):Int:=(λa k=>GQ a.Tiles k) (a.1) (a.2)
def heldA_.row:AA:=CR (b2 (qR Ak.d_le) qI) rI (λa=>0<=a.2/\a.2+3*a.1.Tiles.length<=1099511627776) heldA_.fv
def heldA_.ok:AB Tryz.prog 27 heldA_.row:=by
 refine Fx (tC heldP_.ok tN) Tryz.func27 rfl (by kernel_rfl) ?_;intro a z;simp only[Tryz.f27];simp(disch:=omega)only[ZA,simprocAttr,Cz,heldA_.fv,heldP_.q,heldP_.fv,D.sc,D.scs,Bs];obtain⟨⟨x⟩,k⟩:=a;obtain⟨G,O⟩:=z;simp only at G O⊢;refine⟨⟨G,O⟩,?_⟩;rcases OK x k with h|h
 .rw[Af (by omega)];trivial
 .rw[An (by omega)];exact h.symm
def eqAsmF.fv(a:Ak×Ak):Bool:=(λa b=>decide (a=b)) (a.1) (a.2)
def eqAsmF.row:AA:=CR (b2 (qR Ak.d_le) (qR Ak.d_le)) rB (λa=>True) eqAsmF.fv
def eqAsmF.ok:AB Tryz.prog 17 eqAsmF.row:=by
 refine Fx (tC eqPlacedS.ok tN) Tryz.func17 rfl (by kernel_rfl) ?_;intro a z;simp only[Tryz.f17];simp(disch:=omega)only[ZA,simprocAttr,eqAsmF.fv,eqPlacedS.q,eqPlacedS.fv,D.sc,D.scs,Bs];obtain⟨⟨x⟩,⟨y⟩⟩:=a;simp only[Ak.mk.injEq]
 grind
def Jj{h:Nat->Option Au}{n:Nat}{a:Ak}(hn:h n=some (true,.arr 137 3 (a.Tiles.map Al.c))):E7 h (.agg [.own n])=some (.val (.agg (Ak.c a))):=by
 simp only[E7,bk,A7,hn,Kl,CQ,ES,Ak.c]
def Rx(a b:Ak):a2 (kR Ak.d) (kR Ak.d) [.val (.agg (Ak.c a)),.val (.agg (Ak.c b))]=some (a,b):=by simp only[a2,kR,Ak.d_c,Eg]
def OP{nx o:Nat}{tm:List (Nat×AV)}{h:Av}{dst:Option Nat}{go:Ai->Prop}{a:Ak}{k:Int}(hk:0<=k)(Z:k+3*a.Tiles.length<=1099511627776)(hS:hget h o=some (true,.arr 137 3 (a.Tiles.map Al.c)))(aa:o<nx)
 (Q: ∀G:Av,hget G o=some (true,.arr 137 3 ((Dj (pF k) a.Tiles.length).map Al.c))->(∀m,m≠o->hget G m=hget h m)->go ((⟨tm,G,nx⟩:Ai).put dst (.im (.int .i64 (k+3*a.Tiles.length))))):
 mkAC.row [.agg [.own o],.im (.int .i64 k)] (hget h) nx (DT go ⟨tm,h,nx⟩ dst):=by
 have hd: ∀j,Ao (mkAC.H0 (a,k)) j=true->j=0:=λj z=>by
  simp only[Ao,mkAC.H0,hget] at z;by_cases h:j=0
  .exact h
  .rw[Bi _ _ (λq=>h q.symm)] at z;cases z
 refine AE.tau (a,k) (λ_=>o) ⟨hk,Z⟩ (λj z=>by rw[hd j z];rfl) (λj z=>⟨by rw[hd j z];omega,aa⟩) (λi j hi z _=>by rw[hd i hi,hd j z]) (λp hp=> ?_) ⟨rfl,hS,trivial⟩ (by simp[AV.nms]) (λG hH1 O=>Q G (hH1 0 _ rfl) λm hm=>O m λj z h=>hm h.symm);simp only[mkAC.H1,BK] at hp;subst hp;exact⟨rfl,λm hm=>by simp[Ad.nms] at hm⟩
def W3{H:Av}{n m:Nat}(h:n≠m):hget (Bh H [n]) m=hget H m:=Lg _ _ _ h
def JF{H H':Av}{k j m:Nat}{e f:Au}{x:Option Au}(G:(j,f)::(k,e)::Bh (Bh H [k]) [j]=H')(h:k≠m)(z:j≠m)(g:hget H m=x):hget H' m=x:=by
 subst G;simp only[hget,Bi _ _ h,Bi _ _ z,BC];rw[W3 z,W3 h];exact g
section
variable {A B:Type}{k:AK A}{r:RK B}{pre:A->Prop}{f:A->B}{args:List AV}{tm:List (Nat×AV)}{h:Av}{nx:Nat}{dst:Option Nat}
def vK.call{Q:Ai->Prop}(ps:List PK)(O:KI (hget h) args=some (ps,[]))(a:A)(Z:k.r ps=some a)(z:pre a)(G:Q ((⟨tm,h,nx⟩:Ai).put dst (.im (r.e (f a))))):vK k r pre f args (hget h) nx (DT Q ⟨tm,h,nx⟩ dst):=vN.call ps O a Z z G
def CR.call{Q:Ai->Prop}(ps:List PK)(O:CB (hget h) args=some ps)(a:A)(Z:k.r ps=some a)(z:pre a)(G:Q ((⟨tm,h,nx⟩:Ai).put dst (.im (r.e (f a))))):CR k r pre f args (hget h) nx (DT Q ⟨tm,h,nx⟩ dst):=vF.call ps O a Z z G
def vK.callA{Q:V4}{cl:List (List Nat)}{i:Nat}{acc:List Fp}(ps:List PK)(O:KI (hget h) args=some (ps,[]))(a:A)(Z:k.r ps=some a)(z:pre a)(hq:JS acc=true)(G: ∀u,Q (⟨i,u,[],nx,0⟩::acc) ((⟨tm,h,nx⟩:Ai).put dst (.im (r.e (f a))))):vK k r pre f args (hget h) nx (NO cl i acc Q ⟨tm,h,nx⟩ dst):=vN.callA ps O a Z z hq G
def CR.callA{Q:V4}{cl:List (List Nat)}{i:Nat}{acc:List Fp}(ps:List PK)(O:CB (hget h) args=some ps)(a:A)(Z:k.r ps=some a)(z:pre a)(hq:JS acc=true)(G: ∀u,Q (⟨i,u,[],nx,0⟩::acc) ((⟨tm,h,nx⟩:Ai).put dst (.im (r.e (f a))))):CR k r pre f args (hget h) nx (NO cl i acc Q ⟨tm,h,nx⟩ dst):=vF.callA ps O a Z z hq G
end
def Nl(s:Ax)(l:List Int):a2 (kR Ax.d) (kS Ct) [.val (.agg (Ax.c s)),.val (.sl false 1 (l.map Aj))]=some (s,l):=by simp only[a2,kR,kS,Ax.d_c,NW Ww,Eg]
def SO(l:List Int):a1 (kS Ct) [.val (.sl false 1 (l.map Aj))]=some l:=by simp only[a1,kS,NW Ww,Eg]
def aQ(a:Ak)(k:Int):a2 (kR Ak.d) kI [.val (.agg (Ak.c a)),.val (.int .i64 k)]=some (a,k):=by simp only[a2,kR,kI,Ak.d_c,Eg]
def toIR.row:AA:=nI toInt64S.row toIX.row
def toIR.ok:AB Tryz.prog 14 toIR.row:=W6 toInt64S.ok toIX.ok
def wV(l:List Int): ∀p∈toIX.H1 l,p.1<2/\ ∀m∈p.2.2.nms,m<2:=by
 intro p hp;simp only[toIX.H1,BK] at hp;subst hp;exact⟨by omega,by simp[Ad.nms]⟩
def SB(w:List Ap×Ak×Int): ∀p∈GI w,p.1<20/\ ∀m∈p.2.2.nms,m<20:=by
 intro p hp;simp only[GI,Bl,mV,gP] at hp;rcases hp with rfl|rfl
 .exact⟨by omega,by simp[Ad.nms]⟩
 .exact⟨by omega,by simp[Ad.nms]⟩
def iM(w:List Ap×Ak×Int): ∀p∈GI w,p.1<20/\p.2.1=true/\JH p.2.2=true/\ ∀m∈p.2.2.nms,m<20:=by
 intro p hp;simp only[GI,Bl,mV,gP] at hp;rcases hp with rfl|rfl
 .exact⟨by omega,rfl,by simp[JH,Ap.c,D.sc],by simp[Ad.nms]⟩
 .exact⟨by omega,rfl,by simp[JH,Al.c,D.sc],by simp[Ad.nms]⟩
def grV.ar:List PK->Option (Ax×List Int):=a2 (kR Ax.d) (kS Ct)
def ouC(l:List Ap)(ins:List Int)(i:Nat)(p:Ab)(d k:Nat):Bool:=decide (i<k) && (decide (l[k]?.map Ap.At=some (Bt p d)) && Es (ins[k]?.getD 0) (((d:Int)+2) % 4))
def Eu(l:List Ap)(ins:List Int)(i:Nat)(p:Ab)(d:Nat):Nat->Bool
 |0=>false
 |k+1=>Eu l ins i p d k||ouC l ins i p d k
def JE(l:List Ap)(ins:List Int)(i:Nat)(p:Ab)(d:Nat):Bool:=Eu l ins i p d l.length
def Eh(l:List Ap)(ins:List Int)(i:Nat)(p:Ab):Nat->Int
 |0=>0
 |d+1=>Eh l ins i p d+BP (JE l ins i p d) d
def QH{l:List Ap}{ins:List Int}{i:Nat}{p:Ab}{d:Nat}: ∀{n:Nat},Eu l ins i p d n=true↔ ∃k,k<n/\ouC l ins i p d k=true
 |0=>by simp[Eu]
 |n+1=>by
  simp only[Eu,Hc,QH (n:=n)];constructor
  .rintro (⟨k,G,z⟩|h)
   .exact⟨k,by omega,z⟩
   .exact⟨n,by omega,h⟩
  .rintro⟨k,G,z⟩;by_cases O:k=n
   .subst O;exact .inr z
   .exact .inl ⟨k,by omega,z⟩
def H7{l:List Ap}{ins:List Int}{i:Nat}{p:Ab}{d k:Nat}:ouC l ins i p d k=true↔i<k/\l[k]?.map Ap.At=some (Bt p d)/\Es (ins[k]?.getD 0) (((d:Int)+2) % 4)=true:=by
 simp only[ouC,AS,BL]
def Xv{l:List Ap}(hd:(l.map Ap.At).Nodup){q:Ab}{j k:Nat}(z:l[j]?.map Ap.At=some q)(G:l[k]?.map Ap.At=some q):j=k:=by
 have a1:=dU hd z;have a2:=dU hd G;omega
def Y7{l:List Ap}{ins:List Int}{i:Nat}{p:Ab}{d k:Nat}(hd:(l.map Ap.At).Nodup)(h:ouC l ins i p d k=true):Eu l ins i p d k=false:=by
 cases hb:Eu l ins i p d k with
 |false=>rfl
 |true=>
  exfalso;obtain⟨j,G,z⟩:=QH.1 hb
  have:=Xv hd (H7.1 z).2.1 (H7.1 h).2.1
  omega
def rL{l:List Ap}{ins:List Int}{i:Nat}{p:Ab}{d k:Nat}(hd:(l.map Ap.At).Nodup):BP (Eu l ins i p d (k+1)) d=BP (Eu l ins i p d k) d+(if ouC l ins i p d k=true then 2^d else 0):=by
 simp only[Eu];by_cases h:ouC l ins i p d k=true
 .rw[Y7 hd h,h,An rfl];simp[BP]
 .rw[Af h];rw[Lu] at h;rw[h];simp
def TO{l:List Ap}{ins:List Int}{i:Nat}{p:Ab}{d:Nat}: ∀{k:Nat},k<=i+1->Eu l ins i p d k=false:=by
 intro k O;cases hb:Eu l ins i p d k with
 |false=>rfl
 |true=>
  exfalso;obtain⟨j,G,z⟩:=QH.1 hb
  have:=(H7.1 z).1
  omega
def Y6{l:List Ap}{ins:List Int}{i:Nat}{p:Ab}{d:Nat}(hd:(l.map Ap.At).Nodup):JE l ins i p d=true↔(i:Int)<EN l (Bt p d)/\Es (ins[(EN l (Bt p d)).toNat]?.getD 0) (((d:Int)+2) % 4)=true:=by
 rw[JE,QH];constructor
 .rintro⟨k,Q,z⟩;obtain⟨g1,g2,O⟩:=H7.1 z;rw[dU hd g2];exact⟨by omega,by rw[B0];exact O⟩
 .rintro⟨Q,z⟩;have G:=Me (l:=l) (q:=Bt p d) rfl (by omega);refine⟨(EN l (Bt p d)).toNat,?_,H7.2 ⟨by omega,G,z⟩⟩;cases hk:l[(EN l (Bt p d)).toNat]? with
  |none=>rw[hk] at G;cases G
  |some y=>exact (Ce.1 hk).1
def R5(b:Bool)(k:Nat):0<=BP b k/\BP b k<=2^k:=by
 have:(0:Int)<=2^k:=Int.le_of_lt (Int.pow_pos (by omega))
 cases b<;>simp[BP,this]
def Jg(l:List Ap)(ins:List Int)(i:Nat)(p:Ab): ∀k,0<=Eh l ins i p k/\Eh l ins i p k<2^k
 |0=>by simp[Eh]
 |k+1=>by
  have z:=Jg l ins i p k;have G:=R5 (JE l ins i p k) k;have e:(2:Int)^(k+1)=2^k*2:=Int.pow_succ ..;simp only[Eh];omega
def Yd(l:List Ap)(ins:List Int)(i:Nat)(p:Ab): ∀d:Nat,d<4->Es (Eh l ins i p 4) d=JE l ins i p d:=by
 intro d hd;obtain⟨z,k1,k2,G⟩:=SG (JE l ins i p 0) (JE l ins i p 1) (JE l ins i p 2) (JE l ins i p 3);have e:Eh l ins i p 4=0+BP (JE l ins i p 0) 0+BP (JE l ins i p 1) 1+BP (JE l ins i p 2) 2+BP (JE l ins i p 3) 3:=by
  simp only[Eh]
 rw[e];rcases (by omega:d=0\/d=1\/d=2\/d=3) with rfl|rfl|rfl|rfl
 .exact z
 .exact k1
 .exact k2
 .exact G
def DX(p:Ab)(m:Int):Nat->Al->Bool
 |0,x=>decide (x.At≠p)
 |d+1,x=>DX p m d x && !(Es m d && decide (x.At=Bt p d))
def EB(a:Ak)(p:Ab)(m:Int):Ak:=⟨a.Tiles.filter (DX p m 4)⟩
def Fc(p:Ab)(m:Int):Nat->List Ab
 |0=>[p]
 |d+1=>Fc p m d++(if Es m d=true then [Bt p d] else [])
def bR(a:Ak)(l:List Ab):Ak:=⟨a.Tiles.filter λx=> !l.contains x.At⟩
def rJ(p:Ab)(m:Int)(x:Al): ∀d,(Fc p m d).contains x.At= !(DX p m d x)
 |0=>by
  simp only[Fc,DX,aB,aH,Qs];by_cases h:x.At=p<;>simp[h]
 |d+1=>by
  simp only[Fc,DX,List.contains_append,rJ p m x d];by_cases c:Es m d=true
  .rw[An c,c];by_cases h:x.At=Bt p d<;>simp[h]
  .rw[Af c];rw[Lu] at c;rw[c];simp
def Zz(a:Ak)(p:Ab)(m:Int):bR a (Fc p m 4)=EB a p m:=by
 simp only[bR,EB,rJ,Bool.not_not]
def rK(p:Ab)(m:Int): ∀d,(Fc p m d).length<=d+1
 |0=>by simp[Fc]
 |d+1=>by
  have:=rK p m d
  simp only[Fc,Dq]
  split<;>simp<;>omega
def OD{p:Ab}{q:Option Ab}(hq: ∀u,q=some u->Br u p=true): ∀{r:List Al},Dl (some p) r=true->Dl q r=true
 |[],_=>sV q
 |x::r,h=>by
  rw[PX] at h⊢;simp only[AS] at h⊢;obtain⟨z,G,O,Q⟩:=h;refine⟨z,G,?_,Q⟩;cases q with
  |none=>rfl
  |some u=>exact W4 (hq u rfl) O
def rG(c:Al->Bool): ∀(l:List Al) (q:Option Ab),Dl q l=true->Dl q (l.filter c)=true
 |[],q,_=>sV q
 |x::r,q,h=>by
  rw[PX] at h;simp only[AS] at h;obtain⟨G,O,z,Q⟩:=h;have ih:=rG c r (some x.At) Q;rw[Zec];split
  .rw[PX];simp only[AS];exact⟨G,O,z,ih⟩
  .refine OD (λu Z=> ?_) ih;subst Z;exact z
def KY{s:AC}{a:Ak}(h:DP s a)(p:Ab)(m:Int):DP s (EB a p m):=
 ⟨rG _ _ _ h.1,λx z=>h.2 x (Xo.1 z).1⟩
def Ry{a:Ak}(h:Dl none a.Tiles=true){x:Al}(z:x∈a.Tiles):Bb a x.At=x.Tile:=by
 simp only[Bb];cases hf:a.Tiles.find? (λy=>decide (y.At=x.At)) with
 |none=>
  have:=aC.1 hf x z
  simp at this
 |some y=>
  have G:=mO hf;have e:y.At=x.At:=by simpa using Ro hf
  rw[T7 (Qix h) y G x z e];rfl
def rM{s:AC}{f g:Ab->Int}{p:Ab}{t:Int}: ∀(k:Nat),(∀d:Nat,d<k->Gp s f p t d<=Gp s g p t d)->C9 s f p t k<=C9 s g p t k
 |0,_=>Ls _
 |k+1,h=>by
  have z:=rM k λd hd=>h d (by omega)
  have G:=h k (by omega);simp only[C9];omega
def Sq{s:Ax}{b:Ak}{l:List Ap}(h:JR s b l)(hb:DP s.Set b)(h0:BF s.Set)(h1:s.Set.Tiles.length<=160){i:Nat}{o:Ap}(ho:l[i]? =some o)(ins:List Int):
 C9 s.Set (Bb (AX b (l.take i))) o.At o.Tile 4<=C9 s.Set (Bb (EB (AX b l) o.At (Eh l ins i o.At 4))) o.At o.Tile 4:=by
 have ai:i<l.length:=(Ce.1 ho).1;have ab:=JT h1 hb h i (by omega);have Z:DP s.Set (AX b l):=by
  have:=JT h1 hb h l.length (AQ _)
  rwa [Gs] at this
 have ad:=KY Z o.At (Eh l ins i o.At 4);have G: ∀x∈(AX b (l.take i)).Tiles,∀k,i<=k->x∈(AX b (l.take k)).Tiles:=by
  intro x O k hk;rw[cM] at O⊢;rcases O with O|⟨z,hz,e⟩
  .exact .inl O
  .refine .inr ⟨z,?_,e⟩;obtain⟨j,hj⟩:=Kt.1 hz;have ac:j<i:=by
    have:=(Ce.1 hj).1
    simp at this;omega
   rw[Kt];exact⟨j,by rw[ZdP ac] at hj;rw[ZdP (by omega)];exact hj⟩
 refine rM 4 λd hd=> ?_
 have hp:=(fS h0 (Bb (EB (AX b l) o.At (Eh l ins i o.At 4))) o.At o.Tile d).1;by_cases c:0<=Bb (AX b (l.take i)) (Bt o.At d)
 .obtain⟨x,O,ag⟩:=gU c;have af:x∈(AX b l).Tiles:=by
   have:=G x O l.length (by omega)
   rwa [Gs] at this
  have Q:=(GM (h i o ho).1).2.2.2.2.2;have hk: ∀e:Nat,e<=4->DX o.At (Eh l ins i o.At 4) e x=true:=by
   intro e;induction e with
   |zero=>intro _;simpa[DX] using Q x O
   |succ e ih=>
    intro he;simp only[DX,ih (by omega),Eb,Kp,vT,Kr];rw[Yd _ _ _ _ e (by omega)];cases hob:JE l ins i o.At e with
    |false=>exact .inl rfl
    |true=>
     right;intro aa;obtain⟨k,_,h3⟩:=QH.1 hob;obtain⟨g1,g2,_⟩:=H7.1 h3;cases hlk:l[k]? with
     |none=>rw[hlk] at g2;cases g2
     |some y=>
      rw[hlk] at g2;have hy:y.At=Bt o.At e:=by simpa using g2
      exact (GM (h k y hlk).1).2.2.2.2.2 x (G x O k (by omega)) (aa.trans hy.symm)
  have ah:x∈(EB (AX b l) o.At (Eh l ins i o.At 4)).Tiles:=Xo.2 ⟨af,hk 4 (AQ _)⟩;have e1:=Ry ab.1 O;have e2:=Ry ad.1 ah;rw[ag] at e1 e2;simp only[Gp,e1,e2];exact Ls _
 .have:Gp s.Set (Bb (AX b (l.take i))) o.At o.Tile d=0:=Af c
  omega
def Gu(s:Ax)(f:Ab->Int)(p:Ab)(t:Int):Nat->Bool
 |0=>false
 |k+1=>Gu s f p t k||(decide ((k:Int)≠t) && decide (s.Temperature<=C9 s.Set f p k 4))
def dV{s:Ax}{f:Ab->Int}{p:Ab}{t:Int}: ∀{n:Nat},Gu s f p t n=true↔ ∃k:Nat,k<n/\(k:Int)≠t/\s.Temperature<=C9 s.Set f p k 4
 |0=>by simp[Gu]
 |n+1=>by
  simp only[Gu,Hc,AS,BL,dV (n:=n)];constructor
  .rintro (⟨k,G,z⟩|h)
   .exact⟨k,by omega,z⟩
   .exact⟨n,by omega,h⟩
  .rintro⟨k,G,z⟩;by_cases O:k=n
   .subst O;exact .inr z
   .exact .inl ⟨k,by omega,z⟩
def NS{s:Ax}{f:Ab->Int}{p:Ab}{x:Int}: ∀{n:Nat},x∈DR s f p n↔ ∃k:Nat,k<n/\x=k/\s.Temperature<=C9 s.Set f p k 4
 |0=>by simp[DR]
 |n+1=>by
  simp only[DR,Bx,NS (n:=n)];constructor
  .rintro (⟨k,O,z⟩|h)
   .exact⟨k,by omega,z⟩
   .split at h
    .rename_i c;exact⟨n,by omega,by simpa using h,c⟩
    .cases h
  .rintro⟨k,O,z,G⟩;by_cases Q:k=n
   .subst Q;right;rw[An G,z];exact BK.2 rfl
   .exact .inl ⟨k,by omega,z,G⟩
def Kw{s:Ax}{f:Ab->Int}{p:Ab}: ∀n:Nat,(DR s f p n).Nodup
 |0=>by simp[DR]
 |n+1=>by
  simp only[DR];split
  .rw[VO];refine⟨Kw n,by simp,?_⟩;intro a G z Q O;rw[BK] at Q;obtain⟨k,Z,h2,_⟩:=NS.1 G;omega
  .rw[D8];exact Kw n
def Y4{s:Ax}{f:Ab->Int}{p:Ab}{t:Int}{n:Nat}(h1:0<=t)(h2:t<n)(h3:s.Temperature<=C9 s.Set f p t 4):(DR s f p n).length≠1↔Gu s f p t n=true:=by
 have G:t∈DR s f p n:=NS.2 ⟨t.toNat,by omega,by omega,by rw[Zek h1];exact h3⟩;rw[dV];constructor
 .intro h;cases z:DR s f p n with
  |nil=>rw[z] at G;cases G
  |cons x r=>
   cases r with
   |nil=>rw[z] at h;exact (h rfl).elim
   |cons y r=>
    have hn:=Kw (s:=s) (f:=f) (p:=p) n;rw[z,Iq] at hn;have Q:x≠y:=λe=>hn.1 (by rw[e];exact BT ..)
    have O:x∈DR s f p n:=by rw[z];exact BT ..
    have hy:y∈DR s f p n:=by rw[z];exact BX _ (BT ..)
    obtain⟨k,a1,a2,a3⟩:=NS.1 O;obtain⟨j,b1,b2,b3⟩:=NS.1 hy;by_cases c:x=t
    .exact⟨j,b1,by rw[<-b2,<-c];exact λe=>Q e.symm,b3⟩
    .exact⟨k,a1,by rw[<-a2];exact c,a3⟩
 .rintro⟨k,h4,h5,h6⟩ z;obtain⟨x,O⟩:=Zdt.1 z;have Z:(k:Int)∈DR s f p n:=NS.2 ⟨k,h4,rfl,h6⟩;rw[O,BK] at G Z;exact h5 (Z.trans G.symm)
def Fm{A:Type}(g:Nat->Option A):Nat->Nat->Option A
 |0,_=>none
 |n+1,k=>(g k).or (Fm g n (k+1))
def dT{A:Type}{g h:Nat->Option A}: ∀(n k:Nat),(∀i,k<=i->i<k+n->g i=h i)->Fm g n k=Fm h n k
 |0,_,_=>rfl
 |n+1,k,e=>by
  simp only[Fm];rw[e k (by omega) (by omega),dT n (k+1) λi z G=>e i (by omega) (by omega)]
def Fl(s:Ax)(G:List Int)(o:Ap)(i:Nat)(z:Bool):Option (Int×Ap):=if G[i]?.getD 0≠s.Temperature then some (1,o) else if z=true then some (2,o) else none
def XI:List Ap->Option (Int×Ap)
 |[]=>none
 |o::_=>some (3,o)
def wQ(s:Ax)(l:List Ap)(i:Nat):Option (Int×Ap):=
 (l[i]?).bind λo=>Fl s (CC s s.Seed l) o i (Gu s (Bb (EB (AX s.Seed l) o.At (Eh l (CI s s.Seed l) i o.At 4))) o.At o.Tile s.Set.Tiles.length)
def OH(s:Ax)(l:List Ap)(i:Nat):Option (Int×Ap):=
 (l[i]?).bind λo=>Fl s (CC s s.Seed l) o i (decide ((DR s (Bb (EB (AX s.Seed l) o.At (Eh l (CI s s.Seed l) i o.At 4))) o.At s.Set.Tiles.length).length≠1))
def rO(s:Ax): ∀(l:List Ap) (b:Ak) (k:Nat) (o:Ap),l[k]? =some o->(CC s b l)[k]? =some (C9 s.Set (Bb (AX b (l.take k))) o.At o.Tile 4)
 |[],_,k,o,h=>by simp at h
 |x::r,b,0,o,h=>by
  simp only[GF,AJ] at h;subst h;simp[CC,AX]
 |x::r,b,k+1,o,h=>by
  rw[HI] at h;simp only[CC,HI,Lq,AX];exact rO s r _ k o h
def iK{s:Ax}{l:List Ap}(h:KR s l)(i:Nat):wQ s l i=OH s l i:=by
 obtain⟨q1,q2,q3,q4,z,q6⟩:=h;simp only[wQ,OH];cases ho:l[i]? with
 |none=>rfl
 |some o=>
  simp only[Eg,Fl];rw[rO s l s.Seed i o ho,AM];by_cases c:C9 s.Set (Bb (AX s.Seed (l.take i))) o.At o.Tile 4≠s.Temperature
  .rw[An c,An c]
  rw[Af c,Af c];have Z:=Sq z q2 q1 q3 ho (CI s s.Seed l);obtain⟨g1,g2,G,O,g5,g6⟩:=GM (z i o ho).1;have Q:s.Temperature<=C9 s.Set (Bb (EB (AX s.Seed l) o.At (Eh l (CI s s.Seed l) i o.At 4))) o.At o.Tile 4:=by
   have:C9 s.Set (Bb (AX s.Seed (l.take i))) o.At o.Tile 4=s.Temperature:=ZeD.1 c
   omega
  have:=Y4 (n:=s.Set.Tiles.length) G O Q
  simp only[BL,this]
def Gy(s:Ax)(l:List Ap):Option (Int×Ap):=(Fm (OH s l) l.length 0).or (XI (Cn s (AX s.Seed l)))
def XR{s:Ax}{l:List Ap}(h:KR s l):(Fm (wQ s l) l.length 0).or (XI (Cn s (AX s.Seed l)))=Gy s l:=by
 rw[Gy,dT l.length 0 λi _ _=>iK h i]
def XQ:Option (Int×Ap)->Int×Ab×Int
 |none=>(0,⟨0,0⟩,3)
 |some (k,o)=>(k,o.At,0)
def VV(s:Ax)(l:List Ap):Int×Ab×Int:=if (Cv s l).2.2≠0 then (0,⟨0,0⟩,(Cv s l).2.2) else XQ (Gy s l)
def Ia(x:List Ab):List D:=[.sl false 2 (x.map Ab.c)]
def Zf:List D->Option (List Ab)
 |[.sl _ _ rows]=>AR Ab.d rows
 |_=>none
def Nd: ∀ds x,Zf ds=some x->CE ds (Ia x):=by
 intro ds x h;unfold Zf at h;split at h
 .exact⟨Dn (Dd Ab.d_le _ _ h) (by simp[Ab.c]),trivial⟩
 .cases h
def UZ(x:List Ab):Zf (List.take 1 (Ia x))=some x:=Ab.d_R x
def yC(x:List Ab):(1<=(Ia x).length)=True:=aN (AQ 1)
def xZ(x:List Ab):iP (List.take 1 (Ia x))= .sl false 2 (x.map Ab.c):=rfl
def Gh(l:List Ab)(x:Al):Bool:=l.contains x.At
def Ew(l:List Ab)(z:List Al):List Al:=z.filter λx=> !Qana l x
def YH(l:List Ab)(z:List Al):(Ew l z).length<=z.length:=Zdy _ _
def rN(l:List Ab){z:List Al}{k:Nat}{x:Al}(h:z[k]? =some x):Ew l (z.take (k+1))=Ew l (z.take k)++if Gh l x=false then [x] else []:=by
 rw[Ip,h,vX,Ew,Ew,vW];congr 1;cases hg:Gh l x<;>simp[hg]
def Qans{A:Type}{p:A->Bool}: ∀(l:List A) (o i:Nat),Bq p o l=((o+i:Nat):Int)-> ∀x∈l.take i,p x=false:=by
 intro l;induction l with
 |nil=>intro o i _ x z;simp at z
 |cons y r ih=>
  intro o i h x z;cases i with
  |zero=>simp at z
  |succ i=>
   simp only[Bq] at h;split at h
   .omega
   .rename_i G;rw[Lq] at z;rcases Bl.1 z with rfl|z
    .simpa using G
    .exact ih (o+1) i (by rw[h];congr 1;omega) x z
def Pm{l:List Ab}{z:List Al}{i:Nat}{x:Al}(G:z.find? (Gh l)=some x)(O:Bq (Gh l) 0 z=(i:Int))(Q:z[i]? =some x):Ew l (z.take (i+1))=z.take i:=by
 have Z:Gh l x=true:=Ro G;rw[rN l Q,Af (by rw[Z];simp),D8,Ew,mM];intro y hy;rw[Qans (p:=Gh l) z 0 i (by rw[O];simp) y hy];rfl
def Ua{p q:Ab}:(p.X=q.X/\p.Y=q.Y)↔p=q:=by
 obtain⟨a,b⟩:=p;obtain⟨c,d⟩:=q;simp
def idxP_.fv(a:(List Ab)×Ab):Int:=(λl p=>Bq (λy=>decide (p=y)) 0 l) (a.1) (a.2)
def idxP_.row:AA:=CR (b2 (qS Ab.d_le Ab.c_n) (qR Ab.d_le)) rI (λa=>True) idxP_.fv
def idxP_.q:=CY (R:=idxP_.row) rfl
def idxP_.ok:AB Tryz.prog 153 idxP_.row:=by
 refine Fx tN Tryz.func153 rfl (by kernel_rfl) ?_;intro a O;simp only[Tryz.f153];simp(disch:=omega)only[ZA,simprocAttr,idxP_.fv];intro hn;refine AP.old ⟨{k:Nat//k<=a.1.length/\Bq (λy=>decide (a.2=y)) k (a.1.drop k)=Bq (λy=>decide (a.2=y)) 0 a.1},λk=>⟨[(8,.im (.int .i64 k.1)),(7,.im (.int .i64 a.1.length)),(4,.im (.int .i64 0)),(0,.im (.sl false 2 (a.1.map Ab.c))),(1,.im (.agg [.int .i64 a.2.X,.int .i64 a.2.Y])),(3,.ptr 0 0)],[(0,(true,.cells 96 [.im (.int .i64 a.2.X),.im (.int .i64 a.2.Y)]))],1⟩,λk=>a.1.length - k.1,λk=>⟨by simp[Ai.good,Am,Ac,A8,AV.bel,Aq],AQ _⟩,⟨⟨0,by simp⟩,by simp(disch:=omega)only[ZA,simprocAttr,sub]⟩,λk=> ?_⟩;obtain⟨k,Q,z⟩:=k;simp(disch:=omega)only[ZA,simprocAttr,D.sc,D.scs,Bs,sub,AO];refine⟨λG=>⟨G,λx Z=> ?_⟩,λG=> ?_⟩
 .rw[EW Z,Bq] at z;refine⟨λh=> ?_,λh=>Gi G hn ⟨by omega,by rw[<-z,Af (by rw[BL,<-Ua];simpa using h)]⟩⟩;rw[An (by rw[BL,<-Ua];simpa using h)] at z;exact z
 .rw[Dr (by omega),Bq] at z;exact z
def contP_.fv(a:(List Ab)×Ab):Bool:=(λl p=>l.contains p) (a.1) (a.2)
def contP_.row:AA:=CR (b2 (qS Ab.d_le Ab.c_n) (qR Ab.d_le)) rB (λa=>True) contP_.fv
def contP_.q:=CY (R:=contP_.row) rfl
def contP_.ok:AB Tryz.prog 107 contP_.row:=by
 refine Fx (tC idxP_.ok tN) Tryz.func107 rfl (by kernel_rfl) ?_;intro a G;simp only[Tryz.f107];simp(disch:=omega)only[ZA,simprocAttr,Cz,contP_.fv,idxP_.q,idxP_.fv,D.sc,D.scs,Bs];rw[VR,BL,HJ];rcases Qyg (λy=>decide (a.2=y)) a.1 0 with ⟨h,_⟩|⟨O,Q⟩
 .rw[h,Zeb];constructor
  .rintro⟨x,z,Z⟩
   have:a.2=x:=by simpa using Z
   rw[this];exact z
  .exact λz=>⟨_,z,by simp⟩
 .rw[Q,O];simp
def wo1.fv(a:Al×(List Ab)):Bool:=(λx l=>Gh l x) (a.1) (a.2)
def wo1.row:AA:=CR (b2 (qR Al.d_le) (qP 1 Nd)) rB (λa=>True) wo1.fv
def wo1.q:=CY (R:=wo1.row) rfl
def wo1.ok:AB Tryz.prog 106 wo1.row:=by
 refine Fx (tC contP_.ok tN) Tryz.func106 rfl (by kernel_rfl) ?_;intro a z;simp only[Tryz.f106];simp(disch:=omega)only[ZA,simprocAttr,Cz,wo1.fv,contP_.q,contP_.fv,D.sc,D.scs,Bs];simp(disch:=omega)only[ZA,simprocAttr,yC,xZ]
 try rfl
def IdxW.ar:List PK->Option ((List Al)×((List Ab)))
 |[.val (.sl _ _ O),.val (.fn 106 [] [.ref z])]=>(AR Al.d O).bind λQ=>(Zf (z.take 1)).bind λG=>some (Q,G)
 |_=>none
def IdxW.ae(a:(List Al)×((List Ab))):List PK:=[.val (.sl false 3 (a.1.map Al.c)),.val (.fn 106 [] [.ref (Ia a.2)])]
def IdxW.le: ∀G a,IdxW.ar G=some a->BN G (IdxW.ae a):=by
 intro G a h;unfold IdxW.ar at h;split at h
 .simp only[Ef,AJ] at h;obtain⟨Q,h0,O,z,rfl⟩:=h;exact⟨Dn (Dd Al.d_le _ _ h0) (by simp only[Bv];rintro r ⟨y,_,rfl⟩;rfl),VG ⟨Rc (G9.trans_take (Nd _ _ z)),trivial⟩,trivial⟩
 .cases h
def IdxW.fv(a:(List Al)×((List Ab))):Int:=(λl t=>Bq (Gh t) 0 l) (a.1) (a.2)
def IdxW.row:AA:=Ll IdxW.ar (λa=>True) (λa=>(D.int .i64) (IdxW.fv a))
def IdxW.q:=yH IdxW.row rfl
def IdxW.ok:AB Tryz.prog 152 IdxW.row:=by
 refine rY CZ (tC wo1.ok tN) Tryz.func152 rfl (by kernel_rfl) (by kernel_rfl) (ar:=IdxW.ar) (ae:=IdxW.ae) IdxW.le (n:=2) (λ_=>rfl) (by decide) (rc:=(DJ)) (re:=(D.int .i64)) (N6) (f:=IdxW.fv) ?_;intro a O;simp only[Tryz.f152];simp(disch:=omega)only[ZA,simprocAttr,IdxW.ae,IdxW.fv];intro hn;refine AP.old ⟨{k:Nat//k<=a.1.length/\Bq (Gh a.2) k (a.1.drop k)=Bq (Gh a.2) 0 a.1},λk=>⟨[(8,.im (.int .i64 k.1)),(7,.im (.int .i64 a.1.length)),(6,.im (.sl false 3 (a.1.map Al.c))),(4,.im (.int .i64 0)),(0,.im (.sl false 3 (a.1.map Al.c))),(1,.im (.fn 106 [] [.ref (Ia a.2)]))],[],0⟩,λk=>a.1.length - k.1,λk=>⟨by simp[Ai.good,Am,Ac,A8,AV.bel],AQ _⟩,⟨⟨0,by simp⟩,by simp(disch:=omega)only[ZA,simprocAttr,sub]⟩,λk=> ?_⟩;obtain⟨k,Q,z⟩:=k;simp(disch:=omega)only[ZA,simprocAttr,Cz,wo1.q,wo1.fv,D.sc,D.scs,Bs,sub,AO,UZ];refine⟨λG=>⟨G,λx Z=> ?_⟩,λG=> ?_⟩
 .rw[EW Z,Bq] at z;refine⟨λh=> ?_,λh=>Gi G hn ⟨by omega,by rw[<-z,Af (by simpa using h)]⟩⟩;rw[An (by simpa using h)] at z;exact z
 .rw[Dr (by omega),Bq] at z;exact z
def dlP.ca(a:List Al×List Ab):List AV:=[.own 0,.im (.fn 106 [] [.ref (Ia a.2)])]
def dlP.H0(a:List Al×List Ab):Av:=[(0,(true,.arr 137 3 (a.1.map Al.c)))]
def dlP.H1(a:List Al×List Ab):Av:=[(1,(true,.arr 137 3 ((Ew a.2 a.1).map Al.c)))]
def dlP.row:AA:=AE dlP.ca dlP.H0 1 (λa=>a.1.length<=1000000) (λj=>j==0) (λ_=> .own 1) dlP.H1 1000
def dlP.ok:AB Tryz.prog 104 dlP.row:=by
 refine M7 (tC IdxW.ok (tC wo1.ok tN)) Tryz.func104 rfl (by kernel_rfl) (exB:=λj=>j==1) (R:=λ_ r=>r= .own 1) (λ_=>rfl)
  (λa=>by simp[dlP.ca,dlP.H0,Aq,AV.bel,Ac,A8,BO,Ad.nms,Ao,hget]) (λa p hp=> ?_) (λa r h=>by subst h;exact CF.refl _) ?_
 rotate_left
 intro a Q;simp only[Tryz.f104,dlP.ca,dlP.H0,dlP.H1];simp(disch:=omega)only[ZA,simprocAttr,Cz,IdxW.q,IdxW.ar,IdxW.fv,Fe];simp(disch:=omega)only[ZA,simprocAttr,UZ];rcases QV (Gh a.2) a.1 0 with ⟨Z,O⟩|⟨i0,b0,Z,O,e3⟩
 .rw[O,An rfl];refine⟨[],[(1,some 0)],⟨[(4,.own 1)],[(1,(true,.arr 137 3 (a.1.map Al.c)))],2⟩,?_,by simp[Ai.good,Am,Ac,A8,AV.bel],by simp,?_⟩
  .simp only[Ay];simp(disch:=omega)only[ZA,simprocAttr]
  .simp(disch:=omega)only[ZA,simprocAttr]
   have:Ew a.2 a.1=a.1:=by
    rw[Ew,mM];intro b hb
    have:=aC.1 Z b hb
    simpa using this
   rw[this]
 .rw[FU] at O;rw[O,Af (by omega)];have aa:=(Ce.1 e3).1;rw[AG (by omega) (by omega)];obtain⟨l,hl⟩: ∃l,l=a.1:=⟨_,rfl⟩;obtain⟨t,ht⟩: ∃t,t=a.2:=⟨_,rfl⟩;simp only[<-hl,<-ht] at Z O e3 aa Q⊢;refine AP.old ⟨{j:Nat//j<=l.length},λj=>⟨[(6,.im (.int .i64 j.1)),(5,.im (.int .i64 (Ew t (l.take j.1)).length)),(0,.own 0),(1,.im (.fn 106 [] [.ref (Ia t)]))],[(0,(true,.arr 137 3 ((Ew t (l.take j.1)++l.drop (Ew t (l.take j.1)).length).map Al.c)))],2⟩,λj=>l.length - j.1,λj=>⟨by simp[Ai.good,Am,Ac,A8,AV.bel],by simp⟩,⟨⟨i0+1,by omega⟩,?_⟩,λj=> ?_⟩
  .have h1:=Pm Z O e3;simp(disch:=omega)only[ZA,simprocAttr,sub,h1,Cf];rw[show min i0 l.length=i0 by omega,Oh];exact⟨⟨by omega,rfl⟩,rfl⟩
  obtain⟨j,hj⟩:=j;obtain⟨kp,hkp⟩: ∃kp,kp=Ew t (l.take j):=⟨_,rfl⟩;have ac:kp.length<=j:=by
   have:=YH t (l.take j)
   rw[Cf] at this;rw[hkp];omega
  have af:(kp++l.drop kp.length).length=l.length:=by simp;omega
  simp only[<-hkp];simp(disch:=omega)only[ZA,simprocAttr,Cz,wo1.q,wo1.fv,sub,AO,af,UZ];intro _;refine⟨λG=>⟨G,G,λb hb=> ?_⟩,λG=> ?_⟩
  .have ad:l[j]? =some b:=by
    rw[F3 ac,Iu,show kp.length+(j - kp.length)=j by omega] at hb;exact hb
   have z:=rN t ad;rw[<-hkp] at z;refine⟨λhw=>⟨by omega,by omega,λc _=>⟨⟨j+1,by omega⟩,by simp only;omega,?_⟩⟩,λhw=>⟨⟨j+1,by omega⟩,by simp only;omega,?_⟩⟩
   .rw[An hw] at z;simp only[z,Dq,CP,He];refine⟨⟨by rw[AG (by omega) (by omega)];omega,by rw[AG (by omega) (by omega)];omega⟩,?_⟩;have h1:(kp++l.drop kp.length).set kp.length b=kp++[b]++l.drop (kp.length+1):=by
     obtain⟨c,hc⟩: ∃c,l[kp.length]? =some c:=⟨_,Bj (by omega)⟩;rw[EW hc,mK _ _ (AQ _),Hh,aE,Hv];rfl
    rw[<-h1,Lx];rfl
   .rw[Af hw,D8] at z;simp only[z];exact⟨⟨by rw[AG (by omega) (by omega)];omega,trivial⟩,trivial⟩
  .refine⟨by omega,false,?_⟩;have ab:j=l.length:=by omega
   subst ab;rw[Gs] at hkp;simp(disch:=omega)only[ZA,simprocAttr];have hA:List.take kp.length ((kp++l.drop kp.length).map Al.c)=kp.map Al.c:=by
    rw[<-List.map_take,ZeC]
   rw[hA];refine⟨by simp only[Dq,Hd];omega,true,?_⟩;simp(disch:=omega)only[ZA,simprocAttr,Fe];refine⟨[],[(1,some 2)],⟨[(4,.own 1)],[(1,(true,.arr 137 3 (kp.map Al.c)))],2⟩,?_,by simp[Ai.good,Am,Ac,A8,AV.bel],by simp,?_⟩
   .simp only[Ay];simp(disch:=omega)only[ZA,simprocAttr];rw[show ((kp.length:Int) - 0).toNat=(kp.map Al.c).length by simp,Hv,ZeC]
   .simp(disch:=omega)only[ZA,simprocAttr,hkp]
 simp[dlP.H1] at hp;subst hp;exact .inr ⟨by omega,by omega,rfl,rfl⟩
def dlP.H0_dom(a:List Al×List Ab)(j:Nat):Ao (dlP.H0 a) j=true↔j<1:=by
 simp only[Ao,dlP.H0,hget];by_cases h0:j=0
 .subst h0;simp
 .have z:(0==j)=false:=by simp;omega
  simp[z];omega
def woA.fv(a:Ak×(List Ab)):Ak:=(λa l=>⟨Ew l a.Tiles⟩) (a.1) (a.2)
def woA.row:AA:=CR (b2 (qR Ak.d_le) (qS Ab.d_le Ab.c_n)) (rA Ak.d_le) (λa=>a.1.Tiles.length<=1000000) woA.fv
def woA.q:=CY (R:=woA.row) rfl
def woA.ok:AB Tryz.prog 54 woA.row:=by
 refine Fx (tC clonC.ok (tC dlP.ok tN)) Tryz.func54 rfl (by kernel_rfl) ?_;intro a z;simp only[Tryz.f54];simp(disch:=omega)only[ZA,simprocAttr,woA.fv];refine AE.os a.1.Tiles [] z (λj=>by simp[Ao,hget]) rfl rfl ?_ ?_
 .simp(disch:=omega)only[ZA,simprocAttr,clonC.ca,CO]
 simp(disch:=omega)only[ZA,simprocAttr,clonC.H1];left;refine AE.os (a.1.Tiles,a.2) [3] z (λj=>dlP.H0_dom _ j) rfl rfl ?_ ?_
 .simp(disch:=omega)only[ZA,simprocAttr,Jx,dlP.ca,dlP.H0,Ia,De]
 simp(disch:=omega)only[ZA,simprocAttr,Ak.d,Jx,D.sc,U9,Bs,dlP.H1]
def FA(l:List Ap)(ins:List Int):Nat->List Int
 |0=>[]
 |i+1=>FA l ins i++[Eh l ins i ((l[i]?.map Ap.At).getD ⟨0,0⟩) 4]
def NR(l:List Ap)(ins:List Int): ∀n,(FA l ins n).length=n
 |0=>rfl
 |n+1=>by simp only[FA,Dq,NR l ins n,Zdz]
def rH(l:List Ap)(ins:List Int): ∀(n i:Nat),i<n->(FA l ins n)[i]? =some (Eh l ins i ((l[i]?.map Ap.At).getD ⟨0,0⟩) 4)
 |n+1,i,h=>by
  simp only[FA];by_cases c:i=n
  .subst c;rw[F3 (by rw[NR];omega),NR];simp
  .rw[ED (by rw[NR];omega)];exact rH l ins n i (by omega)
def outS_.fv(a:(List Ap)×(List Int)):List Int:=(λl ins=>FA l ins l.length) (a.1) (a.2)
def outS_.row:AA:=vK (b2 (qS Ap.d_le Ap.c_n) (qS Da Co)) (rS Da Co) (λa=>(a.1.map Ap.At).Nodup/\(∀o∈a.1,FB o.At)/\a.2.length=a.1.length/\a.1.length<=500) outS_.fv
def outS_.q:=AT (R:=outS_.row) rfl
def outS_.ok:AB Tryz.prog 119 outS_.row:=by
 refine vw (tC l01Step.ok (tC Opposite_.ok tN)) Tryz.func119 rfl (by kernel_rfl) ?_;intro a aa;simp only[Tryz.f119];simp(disch:=omega)only[ZA,simprocAttr,outS_.fv];obtain⟨l,ins⟩:=a;obtain⟨h1,h2,h3,h4⟩:=aa;simp only at h1 h2 h3 h4⊢;refine AP.ren ⟨{i:Nat//i<=l.length},λi=>⟨[(6,.im (.int .i64 i.1)),(5,.own 2),(0,.im (.sl false 3 (l.map Ap.c))),(1,.im (.sl false 1 (ins.map Aj)))],[(2,(true,.arr 2 1 ((FA l ins i.1).map Aj)))],3⟩,λi=>l.length - i.1,λi=>⟨by simp[Ai.good,Am,Ac,A8,AV.bel],by simp⟩,⟨⟨0,Cy _⟩,[(2,some 1)],?_⟩,λi=> ?_⟩
 .simp only[Ay];simp(disch:=omega)only[ZA,simprocAttr,FA]
  try simp
 obtain⟨i,hi⟩:=i;simp(disch:=omega)only[ZA,simprocAttr,AO];intro _;refine⟨λz=> ?_,λz=> ?_⟩;rotate_left
 .obtain rfl:i=l.length:=by omega
  rfl
 obtain⟨o,ho⟩: ∃o,l[i]? =some o:=⟨_,Bj z⟩;have ac:=h2 o (AZ ho);refine AP.old ⟨{d:Nat//d<=4},λd=>⟨[(8,.im (.int .i64 d.1)),(7,.im (.int .i64 (Eh l ins i o.At d.1))),(6,.im (.int .i64 i)),(5,.own 2),(0,.im (.sl false 3 (l.map Ap.c))),(1,.im (.sl false 1 (ins.map Aj)))],[(2,(true,.arr 2 1 ((FA l ins i).map Aj)))],3⟩,λd=>4 - d.1,λd=>⟨by simp[Ai.good,Am,Ac,A8,AV.bel],by simp⟩,⟨⟨0,Cy _⟩,by simp(disch:=omega)only[ZA,simprocAttr,sub,Eh]⟩,λd=> ?_⟩;obtain⟨d,hd⟩:=d;simp(disch:=omega)only[ZA,simprocAttr,l01Step.q,l01Step.fv,AO];refine⟨λab=> ?_,λab=> ?_⟩;rotate_left
 .obtain rfl:d=4:=by omega
  refine⟨by simp[BE,B1,D.one],by rw[NR];omega,⟨i+1,by omega⟩,[(2,some 4)],by simp only;omega,?_⟩;simp only[Ay];simp(disch:=omega)only[ZA,simprocAttr];refine⟨by rw[AG (by omega) (by omega)];omega,?_⟩;simp[FA,ho,Aj]
 refine⟨z,λx hx=> ?_⟩;obtain rfl:o=x:=AD (ho.symm.trans hx);refine⟨⟨ac,by omega⟩,?_⟩;have ah:=Jg l ins i o.At d;have O:d<4:=by omega
 have ai:=cQ O;refine AP.old ⟨{k:Nat//i+1<=k/\k<=l.length},λk=>⟨[(10,.im (.int .i64 k.1)),(9,.ptr 3 0),(8,.im (.int .i64 d)),(7,.im (.int .i64 (Eh l ins i o.At d+BP (Eu l ins i o.At d k.1) d))),(6,.im (.int .i64 i)),(5,.own 2),(0,.im (.sl false 3 (l.map Ap.c))),(1,.im (.sl false 1 (ins.map Aj)))],[(3,(true,.cells 96 ((Ab.c (Bt o.At d)).map .im))),(2,(true,.arr 2 1 ((FA l ins i).map Aj)))],4⟩,λk=>l.length - k.1,λk=>⟨by simp[Ai.good,Am,Ac,A8,AV.bel,Aq,Ab.c],by simp⟩,⟨⟨i+1,by omega⟩,?_⟩,λk=> ?_⟩
 .simp(disch:=omega)only[ZA,simprocAttr,sub,TO (AQ _),BP];exact⟨by rw[AG (by omega) (by omega)];omega,by simp⟩
 obtain⟨k,af,ag⟩:=k;simp(disch:=omega)only[ZA,simprocAttr,Opposite_.q,Opposite_.fv,sub,AO];intro _;have G:k<l.length->IntKind.i64.wrap ((k:Int)+1)=((k+1:Nat):Int):=λh=>by rw[AG (by omega) (by omega)];omega
 have ad:=R5 (Eu l ins i o.At d k) d;have Z:ouC l ins i o.At d k≠true->Eh l ins i o.At d+BP (Eu l ins i o.At d k) d=Eh l ins i o.At d+BP (Eu l ins i o.At d (k+1)) d:=λh=>by
  rw[rL h1,Af h,Zfj]
 refine⟨λQ=>⟨Q,λy hy=>⟨λc1=>⟨by omega,λv hv=>⟨by omega,by omega,λc2=>⟨⟨k+1,by omega⟩,by simp only;omega,G Q,?_⟩,λc2=>⟨⟨k+1,by omega⟩,by simp only;omega,G Q,?_⟩⟩⟩,λc1=>⟨⟨k+1,by omega⟩,by simp only;omega,G Q,?_⟩⟩⟩,λQ=>⟨⟨d+1,by omega⟩,by simp only;omega,by rw[AG (by omega) (by omega)];simp only;omega,?_⟩⟩
 .rw[QJ] at c1;have hc:ouC l ins i o.At d k=true:=H7.2 ⟨by omega,by rw[hy,CQ,c1],by rw[hv,AM];simp only[Es,BL];exact c2⟩;simp only;rw[WG O,rL h1,An hc,AG (by omega) (by omega),Int.add_assoc]
 .refine Z λhc=>c2 ?_
  have:=(H7.1 hc).2.2
  rw[hv,AM] at this;simp only[Es,BL] at this;exact this
 .refine Z λhc=>c1 ?_
  have:=(H7.1 hc).2.1
  rw[hy,CQ] at this;rw[QJ];exact AD this
 .obtain rfl:k=l.length:=by omega
  rfl
def xD(p:Ab)(m:Int)(x:Al):(!(x.At.X==p.X && x.At.Y==p.Y))=DX p m 0 x:=by
 simp only[DX];rw[VR];have h:=QJ (p:=x.At) (q:=p);simp only[Kp,BL,ne_eq];rw[<-h];simp[vT]
def witS_.fv(a:Ak×Ab×Int):Ak:=(EB) (a.1) (a.2.1) (a.2.2)
def witS_.row:AA:=vK (b3 (qP 1 Ak.d_le) (qR Ab.d_le) qI) (rA Ak.d_le) (λa=>FB a.2.1/\0<=a.2.2/\a.2.2<=1000000/\a.1.Tiles.length<=1000000) witS_.fv
def witS_.q:=AT (R:=witS_.row) rfl
def witS_.ok:AB Tryz.prog 121 witS_.row:=by
 refine vw (tC l01Step.ok tN) Tryz.func121 rfl (by kernel_rfl) ?_;intro a Z;simp only[Tryz.f121];simp(disch:=omega)only[ZA,simprocAttr,witS_.fv];obtain⟨a,p,m⟩:=a;obtain⟨h1,h2,h3,h4⟩:=Z;simp only at h1 h2 h3 h4⊢;refine AP.ren ⟨{i:Nat//i<=a.Tiles.length},λi=>⟨[(8,.im (.int .i64 i.1)),(7,.ptr 3 0),(6,.ptr 2 0),(4,.ptr 1 0),(0,.ptr 0 0),(2,.im (.int .i64 m))],[(4,(true,.arr 137 3 (((a.Tiles.take i.1).filter (DX p m 4)).map Al.c))),(3,(true,.cells 39 [.own 4])),(2,(true,.cells 39 [.im (.sl true 0 [])])),(1,(true,.cells 96 [.im (.int .i64 p.X),.im (.int .i64 p.Y)])),(0,(false,.view (Ak.c a)))],5⟩,λi=>a.Tiles.length - i.1,λi=>⟨by simp[Ai.good,Am,Ac,A8,AV.bel,Aq],by simp⟩,⟨⟨0,Cy _⟩,[(4,none)],?_⟩,λi=> ?_⟩
 .simp only[Ay];simp(disch:=omega)only[ZA,simprocAttr,Bn,ZeQ]
  try simp
 obtain⟨i,hi⟩:=i;simp(disch:=omega)only[ZA,simprocAttr,Ak.d,AO];intro _;refine⟨λz=>⟨z,λx hx=> ?_⟩,λz=> ?_⟩;rotate_left
 .rw[DQ (by omega)];rfl
 refine AP.old ⟨{d:Nat//d<=4},λd=>⟨[(10,.im (.int .i64 d.1)),(9,.im (.bool (DX p m d.1 x))),(8,.im (.int .i64 i)),(7,.ptr 3 0),(6,.ptr 2 0),(4,.ptr 1 0),(0,.ptr 0 0),(2,.im (.int .i64 m))],[(4,(true,.arr 137 3 (((a.Tiles.take i).filter (DX p m 4)).map Al.c))),(3,(true,.cells 39 [.own 4])),(2,(true,.cells 39 [.im (.sl true 0 [])])),(1,(true,.cells 96 [.im (.int .i64 p.X),.im (.int .i64 p.Y)])),(0,(false,.view (Ak.c a)))],5⟩,λd=>4 - d.1,λd=>⟨by simp[Ai.good,Am,Ac,A8,AV.bel,Aq],by simp⟩,⟨⟨0,Cy _⟩,?_⟩,λd=> ?_⟩
 .simp(disch:=omega)only[ZA,simprocAttr,sub,xD p m x]
  try simp
 obtain⟨d,hd⟩:=d;simp(disch:=omega)only[ZA,simprocAttr,l01Step.q,l01Step.fv,sub,AO];have G:IntKind.i64.wrap ((d:Int)+1)=((d+1:Nat):Int):=by rw[AG (by omega) (by omega)];omega
 simp only[<-iO];refine⟨λaa=>⟨λc1=>⟨z,λy hy=>⟨⟨h1,by omega⟩,λO=>⟨⟨d+1,by omega⟩,by simp only;omega,G,?_⟩,λO=>⟨⟨d+1,by omega⟩,by simp only;omega,G,?_⟩⟩⟩,λc1=>⟨⟨d+1,by omega⟩,by simp only;omega,G,?_⟩⟩,λaa=> ?_⟩
 .obtain rfl:x=y:=AD (hx.symm.trans hy);rw[QJ] at O;simp[DX,c1,O]
 .obtain rfl:x=y:=AD (hx.symm.trans hy);rw[QJ] at O;simp[DX,c1,O]
 .rw[Lu] at c1;simp[DX,c1]
 .obtain rfl:d=4:=by omega
  have ab:((a.Tiles.take i).filter (DX p m 4)).length<=a.Tiles.length:=D9 (Zdy _ _) (by simp;omega);have Q:IntKind.i64.wrap ((i:Int)+1)=((i+1:Nat):Int):=by rw[AG (by omega) (by omega)];omega
  refine⟨λc1=>⟨z,λy hy=>⟨by simp[BE,B1,D.one],by omega,⟨i+1,by omega⟩,[(4,some 6)],by simp only;omega,?_⟩⟩,λc1=>⟨⟨i+1,by omega⟩,[(4,some 4)],by simp only;omega,?_⟩⟩
  .obtain rfl:x=y:=AD (hx.symm.trans hy);simp only[Ay];simp(disch:=omega)only[ZA,simprocAttr,Bn];refine⟨Q,?_⟩;rw[Kk hx,vW,ZdU c1];simp[Al.c]
  .simp only[Ay];simp(disch:=omega)only[ZA,simprocAttr,Bn];refine⟨Q,?_⟩;rw[Kk hx,vW,mI c1];simp
def MA{s:Ax}: ∀(l:List Ap) (b:Ak) (i:Nat),JR s b l->CM s b l i=(AX b l,0,0)
 |[],_,_,_=>rfl
 |o::r,b,i,h=>by
  have h0:=h 0 o rfl;simp only[Rp,AX] at h0;simp only[CM];rw[Af (by rw[h0.1];simp),Af (by omega),MA r _ (i+1) λk o' z=>h (k+1) o' z];rfl
def iH:Option (Int×Ap)->Int×Ab
 |none=>(0,⟨0,0⟩)
 |some (k,o)=>(k,o.At)
def WF{A:Type}{g:Nat->Option A}{n i:Nat}{r:A}(G:i<n)(h:Fm g (n - i) i=Fm g n 0)(z:g i=some r):Fm g n 0=some r:=by
 rw[<-h,show n - i=(n - i - 1)+1 by omega];simp only[Fm,z,Zfe]
def rP{A:Type}{g:Nat->Option A}{n i:Nat}(G:i<n)(h:Fm g (n - i) i=Fm g n 0)(z:g i=none):Fm g (n - (i+1)) (i+1)=Fm g n 0:=by
 rw[<-h,show n - i=(n - (i+1))+1 by omega];simp only[Fm,z,gO]
def LO{A:Type}{g:Nat->Option A}{n:Nat}(h:Fm g (n - n) n=Fm g n 0):Fm g n 0=none:=by
 rw[<-h,Hh];rfl
def YE(b:Ak)(p:Ab)(t:Int):(BU b p t).Tiles.length<=b.Tiles.length+1:=by
 rw[WW];exact ZeV (by rw[(mA ⟨p,t⟩ b.Tiles).length_eq,CP])
def dW{s:Ax}: ∀(l:List Ap) (b:Ak),b.Tiles.length<=500->JR s b l->(AX b l).Tiles.length<=500
 |[],_,h,_=>h
 |o::r,b,h,hp=>by
  have h0:=(hp 0 o rfl).2;simp only[Rp,AX] at h0;have G:=YE b o.At o.Tile;exact dW r _ (by omega) λk o' z=>hp (k+1) o' z
def fltS_.fv(a:Ax×(List Ap)):Int×Ab:=(λs l=>iH (Gy s l)) (a.1) (a.2)
def fltS_.row:AA:=vK (b2 (qP 4 Ax.d_le) (qS Ap.d_le Ap.c_n)) (r2 rI (rA Ab.d_le)) (λa=>KR a.1 a.2/\a.1.Seed.Tiles.length<=500) fltS_.fv
def fltS_.q:=AT (R:=fltS_.row) rfl
def fltS_.ok:AB Tryz.prog 65 fltS_.row:=by
 refine vw (tC l10Inputs.ok (tC outS_.ok (tC l08Play.ok (tC witS_.ok (tC atQ_.ok (tC opsS_.ok tN)))))) Tryz.func65 rfl (by kernel_rfl) ?_;intro a aa;simp only[Tryz.f65];simp(disch:=omega)only[ZA,simprocAttr,fltS_.fv,l10Inputs.q,l10Inputs.fv,outS_.q,outS_.fv,l08Play.q,l08Play.fv];obtain⟨s,l⟩:=a;simp only at aa⊢;obtain⟨⟨q1,q2,q3,q4,q5,q6⟩,q7⟩:=aa;have ai:=pK q5;have ac:=dW l s.Seed q7 q5;have af: ∀o∈l,FB o.At:=λo G=>by
  obtain⟨k,hk⟩:=Kt.1 G;exact (GM (q5 k o hk).1).2.1
 have am:CM s s.Seed l 0=(AX s.Seed l,0,0):=MA l s.Seed 0 q5;refine⟨⟨q1,q2,q3,q4,q5,q6⟩,⟨ai,af,QD ..,q6⟩,⟨q1,q2,q3,q4⟩,?_⟩;rw[am];simp only;have O:DP s.Set (AX s.Seed l):=by
  have:=JT q3 q2 q5 l.length (AQ _)
  rwa [Gs] at this
 obtain⟨e,he⟩: ∃e,e=AX s.Seed l:=⟨_,rfl⟩;obtain⟨ins,hins⟩: ∃ins,ins=CI s s.Seed l:=⟨_,rfl⟩;obtain⟨Q,hsms⟩: ∃Q,Q=CC s s.Seed l:=⟨_,rfl⟩;rw[<-he] at O ac;have ao:Q.length=l.length:=by rw[hsms,QE]
 have ab: ∀i o,l[i]? =some o->OH s l i=Fl s Q o i (decide ((DR s (Bb (EB e o.At (Eh l ins i o.At 4))) o.At s.Set.Tiles.length).length≠1)):=λi o G=>by
  simp only[OH,G,Eg,<-he,<-hins,<-hsms]
 have ag:Gy s l=(Fm (OH s l) l.length 0).or (XI (Cn s e)):=by rw[he];rfl
 rw[ag];simp only[<-hins,<-hsms,<-he];refine AP.old ⟨{i:Nat//i<=l.length/\Fm (OH s l) (l.length - i) i=Fm (OH s l) l.length 0},λi=>⟨[(12,.im (.int .i64 i.1)),(9,.ptr 2 0),(8,.im (.sl false 1 ((FA l ins l.length).map Aj))),(7,.im (.sl false 1 (Q.map Aj))),(4,.im (.int .i64 0)),(5,.ptr 1 0),(0,.ptr 0 0),(1,.im (.sl false 3 (l.map Ap.c)))],[(2,(true,.cells 39 [.im (.sl false 3 (e.Tiles.map Al.c))])),(1,(true,.cells 96 [.im (.int .i64 0),.im (.int .i64 0)])),(0,(false,.view (Ax.c s)))],3⟩,λi=>l.length - i.1,λi=>⟨by simp[Ai.good,Am,Ac,A8,AV.bel,Aq],by simp⟩,⟨⟨0,Cy _,rfl⟩,by simp(disch:=omega)only[ZA,simprocAttr,sub]⟩,λi=> ?_⟩;obtain⟨i,hi,Z⟩:=i;simp(disch:=omega)only[ZA,simprocAttr,Ak.d,witS_.q,witS_.fv,atQ_.q,atQ_.fv,opsS_.q,opsS_.fv,sub,AO];intro _;refine⟨λz=>⟨by omega,λv hv=>⟨λc1=>⟨z,λo G=> ?_⟩,λc1=>⟨z,λo G=>⟨by rw[NR];exact z,λm hm=> ?_⟩⟩⟩⟩,λz=> ?_⟩
 .have hg:OH s l i=some (1,o):=by
   rw[ab i o G];simp only[Fl,hv,AM];rw[An c1]
  rw[WF z Z hg];rfl
 .rw[rH l ins l.length i z,G] at hm;obtain rfl:=AD hm;simp only[CQ,AM];have ah:=Jg l ins i o.At 4;have ad:=af o (AZ G);have an:=KY O o.At (Eh l ins i o.At 4);refine⟨⟨ad,ah.1,by omega,by omega⟩,z,λo2 aj=> ?_⟩;obtain rfl:o=o2:=AD (G.symm.trans aj);refine⟨⟨q1,an,ad,by omega⟩,λ_=>⟨λc2=>⟨z,λo3 ak=> ?_⟩,λc2=>⟨⟨i+1,by omega,?_⟩,by simp only;omega,by rw[AG (by omega) (by omega)];simp only;omega⟩⟩⟩
  .obtain rfl:o=o3:=AD (G.symm.trans ak);rw[Lz _ _ e] at c2;have hg:OH s l i=some (2,o):=by
    rw[ab i o G];simp only[Fl,hv,AM];rw[Af c1,An (by simp only[BL];omega)]
   rw[WF z Z hg];rfl
  .rw[Lz _ _ e] at c2;refine rP z Z ?_;rw[ab i o G];simp only[Fl,hv,AM];rw[Af c1,Af (by simp only[BL];omega)]
 .obtain rfl:i=l.length:=by omega
  rw[LO Z,gO];refine⟨⟨q1,O,ac,by omega⟩,λ_=>⟨λc=>⟨c,λo G=> ?_⟩,λc=> ?_⟩⟩
  .cases hL:Cn s e with
   |nil=>rw[hL] at G;cases G
   |cons x r=>
    rw[hL] at G;obtain rfl:x=o:=by simpa using G
    rfl
  .have:Cn s e=[]:=Qn.1 (by omega)
   rw[this];rfl
def K7{t:TypeId}{a b:D}(h:Le a b):Le (.ifc t a) (.ifc t b):=by
 intro ok hp v G;obtain⟨x,rfl,z⟩:=G;exact⟨x,rfl,h _ _ _ z⟩
def flE:Option (Int×Ap)->D
 |none=> .nili
 |some (k,o)=>if k=1 then .ifc 294 (.agg (Ap.c o)) else if k=2 then .ifc 296 (.agg (Ap.c o)) else .ifc 297 (.agg (Ap.c o))
def flD:D->Option (Option (Int×Ap))
 | .nili=>some none
 | .ifc t (.agg ds)=>(Ap.d ds).bind λo=>if t=294 then some (some (1,o)) else if t=296 then some (some (2,o)) else if t=297 then some (some (3,o)) else none
 |_=>none
def iG: ∀d b,flD d=some b->Le d (flE b):=by
 intro d b h;unfold flD at h;split at h
 .obtain rfl:=AD h;exact Le.refl _
 .simp only[Ef] at h;obtain⟨o,G,z⟩:=h;split at z
  .rename_i c;obtain rfl:=AD z;rw[c];exact K7 (QN (Ap.d_le _ _ G))
  .split at z
   .rename_i c;obtain rfl:=AD z;rw[c];exact K7 (QN (Ap.d_le _ _ G))
   .split at z
    .rename_i c;obtain rfl:=AD z;rw[c];exact K7 (QN (Ap.d_le _ _ G))
    .cases z
 .cases h
def outI_.fv(a:Cm×Int):Int:=(λx i=>Eh x.Seq x.Inputs i.toNat ((x.Seq[i.toNat]?.map Ap.At).getD ⟨0,0⟩) 4) (a.1) (a.2)
def outI_.row:AA:=vK (b2 (qP 8 Cm.d_le) qI) rI (λa=>(a.1.Seq.map Ap.At).Nodup/\(∀o∈a.1.Seq,FB o.At)/\a.1.Inputs.length=a.1.Seq.length/\a.1.Seq.length<=500/\0<=a.2/\a.2<a.1.Seq.length) outI_.fv
def outI_.q:=AT (R:=outI_.row) rfl
def outI_.ok:AB Tryz.prog 251 outI_.row:=by
 refine vw (tC step_.ok (tC idxAt_.ok (tC opposite_.ok (tC has_.ok tN)))) Tryz.func251 rfl (by kernel_rfl) ?_;intro a Z;simp only[Tryz.f251];simp(disch:=omega)only[ZZ,simprocAttr,outI_.fv];obtain⟨x,i⟩:=a;obtain⟨h1,h2,h3,h4,h5,h6⟩:=Z;simp only at h1 h2 h3 h4 h5 h6⊢;obtain⟨o,ho⟩: ∃o,x.Seq[i.toNat]? =some o:=⟨_,Bj (by omega)⟩;have ac:=h2 o (AZ ho);obtain⟨n,hn⟩: ∃n:Nat,i=n:=⟨i.toNat,by omega⟩;subst hn;rw[B0] at ho⊢;simp only[ho,CQ,AM];refine AP.old ⟨{d:Nat//d<=4},λd=>⟨[(8,.im (.int .i64 d.1)),(5,.im (.int .i64 (Eh x.Seq x.Inputs n o.At d.1))),(0,.ptr 0 0),(1,.im (.int .i64 n))],[(0,(false,.view (Cm.c x)))],1⟩,λd=>4 - d.1,λd=>⟨by simp[Ai.good,Am,Ac,A8,AV.bel],by simp⟩,⟨⟨0,Cy _⟩,by simp(disch:=omega)only[ZZ,simprocAttr,sub,Eh]⟩,λd=> ?_⟩;obtain⟨d,hd⟩:=d;simp(disch:=omega)only[ZZ,simprocAttr,step_.q,step_.fv,step_.re,idxAt_.q,idxAt_.fv,opposite_.q,opposite_.fv,has_.q,has_.fv,sub,AO];have z:d<4->IntKind.i64.wrap ((d:Int)+1)=((d+1:Nat):Int):=λh=>by rw[AG (by omega) (by omega)];omega
 have G:=Y6 (ins:=x.Inputs) (i:=n) (p:=o.At) (d:=d) h1;have Q: ¬JE x.Seq x.Inputs n o.At d=true->Eh x.Seq x.Inputs n o.At d=Eh x.Seq x.Inputs n o.At (d+1):=λh=>by
  rw[Lu] at h;simp only[Eh,h,BP];simp
 have O:=Jg x.Seq x.Inputs n o.At d;refine⟨λaa=>⟨by omega,λy hy=> ?_⟩,λaa=>by rw[show d=4 by omega]⟩;obtain rfl:o=y:=AD (ho.symm.trans hy);refine⟨⟨ac,by omega⟩,λc1=> ?_,λc1=>⟨⟨d+1,by omega⟩,by simp only;omega,z (by omega),Q λh=>c1 (G.1 h).1⟩⟩;have ad:(EN x.Seq (Bt o.At d)).toNat<x.Seq.length:=by
  have h3:=Me (l:=x.Seq) (q:=Bt o.At d) rfl (by omega);cases hk:x.Seq[(EN x.Seq (Bt o.At d)).toNat]? with
  |none=>rw[hk] at h3;cases h3
  |some y=>exact (Ce.1 hk).1
 refine⟨by omega,by omega,λv hv=>⟨by omega,by omega,λc2=>⟨⟨d+1,by omega⟩,by simp only;omega,z (by omega),?_⟩,λc2=>⟨⟨d+1,by omega⟩,by simp only;omega,z (by omega),Q λh=>c2 ?_⟩⟩⟩
 .have ab:JE x.Seq x.Inputs n o.At d=true:=G.2 ⟨c1,by rw[hv,AM];exact c2⟩;rw[WG (by omega),TN (by omega) O.1 O.2];simp only[Eh,ab,BP,BM]
 .have:=(G.1 h).2
  rw[hv,AM] at this;exact this
def Ru(x:Cm)(i:Nat):Bool:=(x.Seq[i]?.map λo=>Gu x.Sys (Bb (EB x.End o.At (Eh x.Seq x.Inputs i o.At 4))) o.At o.Tile x.Sys.Set.Tiles.length).getD false
def TY(x:Cm):Prop:=(x.Seq.map Ap.At).Nodup/\(∀o∈x.Seq,FB o.At)/\x.Inputs.length=x.Seq.length/\x.Seq.length<=500/\BF x.Sys.Set/\DP x.Sys.Set x.End/\x.End.Tiles.length<=1000000/\x.Sys.Set.Tiles.length<=160
def anoI_.fv(a:Cm×Int):Bool:=(λx i=>Ru x i.toNat) (a.1) (a.2)
def anoI_.row:AA:=vK (b2 (qP 8 Cm.d_le) qI) rB (λa=>TY a.1/\0<=a.2/\a.2<a.1.Seq.length) anoI_.fv
def anoI_.q:=AT (R:=anoI_.row) rfl
def anoI_.ok:AB Tryz.prog 214 anoI_.row:=by
 refine vw (tC outI_.ok (tC has_.ok (tC step_.ok (tC woA.ok (tC bindA.ok tN))))) Tryz.func214 rfl (by kernel_rfl) ?_;intro a ad;simp only[Tryz.f214];simp(disch:=omega)only[ZZ,simprocAttr,anoI_.fv];obtain⟨x,i⟩:=a;obtain⟨⟨h1,h2,h3,h4,h5,h6,h7,h8⟩,h9,Q⟩:=ad;simp only at h1 h2 h3 h4 h5 h6 h7 h8 h9 Q⊢;obtain⟨n,hn⟩: ∃n:Nat,i=n:=⟨i.toNat,by omega⟩;subst hn;rw[B0];refine⟨h9,Q,λo ho=> ?_⟩;have ac:=h2 o (AZ ho);obtain⟨m,hm⟩: ∃m,m=Eh x.Seq x.Inputs n o.At 4:=⟨_,rfl⟩;have ai:=Jg x.Seq x.Inputs n o.At 4;rw[<-hm] at ai;refine AP.ren ⟨{d:Nat//d<=4},λd=>⟨[(20,.im (.int .i64 d.1)),(6,.own 3),(5,.ptr 1 0),(0,.ptr 0 0),(1,.im (.int .i64 n))],[(3,(true,.arr 96 2 ((Fc o.At m d.1).map Ab.c))),(1,(true,.cells 108 ((Ap.c o).map .im))),(0,(false,.view (Cm.c x)))],4⟩,λd=>4 - d.1,λd=>⟨by simp[Ai.good,Am,Ac,A8,AV.bel,Aq,Ap.c],by simp⟩,⟨⟨0,Cy _⟩,[(3,some 2)],?_⟩,λd=> ?_⟩
 .simp only[Ay];simp(disch:=omega)only[ZZ,simprocAttr,Bn,Fc]
  try simp
 obtain⟨d,hd⟩:=d;simp(disch:=omega)only[ZZ,simprocAttr,Cz,outI_.q,outI_.fv,has_.q,has_.fv,step_.q,step_.fv,step_.re,woA.q,woA.fv,AO];have Z:d<4->IntKind.i64.wrap ((d:Int)+1)=((d+1:Nat):Int):=λh=>by rw[AG (by omega) (by omega)];omega
 have aj:=rK o.At m d;simp only[ho,CQ,AM,<-hm];refine⟨λag=>⟨⟨h1,h2,h3,h4,by omega⟩,by omega,λc1=>⟨⟨ac,by omega⟩,by simp[BE,B1,D.one],by omega,⟨d+1,by omega⟩,[(3,some 5)],by simp only;omega,?_⟩,λc1=>⟨⟨d+1,by omega⟩,[(3,some 3)],by simp only;omega,?_⟩⟩,λag=> ?_⟩
 .simp only[Ay];simp(disch:=omega)only[ZA,simprocAttr,Bn];refine⟨Z (by omega),?_⟩;simp[Fc,c1,Ab.c]
 .simp only[Ay];simp(disch:=omega)only[ZA,simprocAttr,Bn];refine⟨Z (by omega),?_⟩;rw[Lu] at c1;simp[Fc,c1]
 obtain rfl:d=4:=by omega
 have af:Ew (Fc o.At m 4) x.End.Tiles=(EB x.End o.At m).Tiles:=CU Ak.Tiles (Zz x.End o.At m);rw[af];have O:=KY h6 o.At m;have aa:Ru x n=Gu x.Sys (Bb (EB x.End o.At m)) o.At o.Tile x.Sys.Set.Tiles.length:=by
  simp only[Ru,ho,CQ,AM,<-hm]
 obtain⟨rest,hrest⟩: ∃r,r=EB x.End o.At m:=⟨_,rfl⟩;rw[aa];simp only[<-hrest] at O⊢;refine⟨h7,λ_=> ?_⟩;refine AP.old ⟨{k:Nat//k<=x.Sys.Set.Tiles.length/\Gu x.Sys (Bb rest) o.At o.Tile k=false},λk=>⟨[(49,.im (.int .i64 k.1)),(48,.im (.int .i64 x.Sys.Set.Tiles.length)),(8,.ptr 4 0),(5,.ptr 1 0),(0,.ptr 0 0)],[(4,(true,.cells 39 [.im (.sl false 3 (rest.Tiles.map Al.c))])),(1,(true,.cells 108 ((Ap.c o).map .im))),(0,(false,.view (Cm.c x)))],5⟩,λk=>x.Sys.Set.Tiles.length - k.1,λk=>⟨by simp[Ai.good,Am,Ac,A8,AV.bel,Aq,Ap.c],by simp⟩,⟨⟨0,Cy _,rfl⟩,by simp(disch:=omega)only[ZZ,simprocAttr,sub]⟩,λk=> ?_⟩;obtain⟨k,hk,G⟩:=k;simp(disch:=omega)only[ZZ,simprocAttr,Cz,bindA.q,bindA.ar,bindA.fv,sub,AO];have ab:k<x.Sys.Set.Tiles.length->IntKind.i64.wrap ((k:Int)+1)=((k+1:Nat):Int):=λh=>by rw[AG (by omega) (by omega)];omega
 have ah:SM x.Sys.Set (Bb rest):=λp hp=>JV O p hp
 refine⟨λz=>⟨λc1=>⟨⟨h5,ah,ac,⟨by omega,by omega⟩,O.1⟩,λc2=> ?_,λc2=>⟨⟨k+1,by omega,?_⟩,by simp only;omega,ab z⟩⟩,λc1=>⟨⟨k+1,by omega,?_⟩,by simp only;omega,ab z⟩⟩,λz=> ?_⟩
 .exact (dV.2 ⟨k,z,c1,c2⟩).symm
 .simp only[Gu,G,aM,aL c2,gL]
 .have:decide ((k:Int)≠o.Tile)=false:=aL (by omega)
  simp only[Gu,G,aM,this,F5]
 .rw[<-G,show k=x.Sys.Set.Tiles.length by omega]
def XX(x:Cm)(i:Nat):Option (Int×Ap):=(x.Seq[i]?).bind λo=>Fl x.Sys x.Strength o i (Ru x i)
def XP(x:Cm):Option (Int×Ap):=(Fm (XX x) x.Seq.length 0).or (XI (Cn x.Sys x.End))
def ifcT:Mg Tryz.prog 238=true:=by kernel_rfl
def con1:IV Tryz.prog 294=true:=by kernel_rfl
def con2:IV Tryz.prog 296=true:=by kernel_rfl
def con3:IV Tryz.prog 297=true:=by kernel_rfl
def mk1:GN Tryz.prog 294 "loop.example/g01081/impl.kind" =some 333:=by kernel_rfl
def mk2:GN Tryz.prog 296 "loop.example/g01081/impl.kind" =some 335:=by kernel_rfl
def mk3:GN Tryz.prog 297 "loop.example/g01081/impl.kind" =some 337:=by kernel_rfl
def ma1:GN Tryz.prog 294 "loop.example/g01081/impl.at" =some 332:=by kernel_rfl
def ma2:GN Tryz.prog 296 "loop.example/g01081/impl.at" =some 334:=by kernel_rfl
def ma3:GN Tryz.prog 297 "loop.example/g01081/impl.at" =some 336:=by kernel_rfl
def k1_.fv(a:Ap):Int:=(λ_=>1) a
def k1_.row:AA:=vK (b1 (qR Ap.d_le)) rI (λa=>True) k1_.fv
def k1_.q:=AT (R:=k1_.row) rfl
def k1_.ok:AB Tryz.prog 333 k1_.row:=by
 refine vw tN Tryz.func333 rfl (by kernel_rfl) ?_;intro a z;simp only[Tryz.f333];simp(disch:=omega)only[ZA,simprocAttr,k1_.fv]
 try trivial
def k2_.fv(a:Ap):Int:=(λ_=>2) a
def k2_.row:AA:=vK (b1 (qR Ap.d_le)) rI (λa=>True) k2_.fv
def k2_.q:=AT (R:=k2_.row) rfl
def k2_.ok:AB Tryz.prog 335 k2_.row:=by
 refine vw tN Tryz.func335 rfl (by kernel_rfl) ?_;intro a z;simp only[Tryz.f335];simp(disch:=omega)only[ZA,simprocAttr,k2_.fv]
 try trivial
def k3_.fv(a:Ap):Int:=(λ_=>3) a
def k3_.row:AA:=vK (b1 (qR Ap.d_le)) rI (λa=>True) k3_.fv
def k3_.q:=AT (R:=k3_.row) rfl
def k3_.ok:AB Tryz.prog 337 k3_.row:=by
 refine vw tN Tryz.func337 rfl (by kernel_rfl) ?_;intro a z;simp only[Tryz.f337];simp(disch:=omega)only[ZA,simprocAttr,k3_.fv]
 try trivial
def p1_.fv(a:Ap):Ab:=(λo=>o.At) a
def p1_.row:AA:=vK (b1 (qR Ap.d_le)) (rA Ab.d_le) (λa=>True) p1_.fv
def p1_.q:=AT (R:=p1_.row) rfl
def p1_.ok:AB Tryz.prog 332 p1_.row:=by
 refine vw tN Tryz.func332 rfl (by kernel_rfl) ?_;intro a z;simp only[Tryz.f332];simp(disch:=omega)only[ZA,simprocAttr,p1_.fv]
 try trivial
def p2_.fv(a:Ap):Ab:=(λo=>o.At) a
def p2_.row:AA:=vK (b1 (qR Ap.d_le)) (rA Ab.d_le) (λa=>True) p2_.fv
def p2_.q:=AT (R:=p2_.row) rfl
def p2_.ok:AB Tryz.prog 334 p2_.row:=by
 refine vw tN Tryz.func334 rfl (by kernel_rfl) ?_;intro a z;simp only[Tryz.f334];simp(disch:=omega)only[ZA,simprocAttr,p2_.fv]
 try trivial
def p3_.fv(a:Ap):Ab:=(λo=>o.At) a
def p3_.row:AA:=vK (b1 (qR Ap.d_le)) (rA Ab.d_le) (λa=>True) p3_.fv
def p3_.q:=AT (R:=p3_.row) rfl
def p3_.ok:AB Tryz.prog 336 p3_.row:=by
 refine vw tN Tryz.func336 rfl (by kernel_rfl) ?_;intro a z;simp only[Tryz.f336];simp(disch:=omega)only[ZA,simprocAttr,p3_.fv]
 try trivial
def flt_.fv(a:Cm):Option (Int×Ap):=(XP) a
def flt_.row:AA:=vK (b1 (qP 8 Cm.d_le)) (RK.mk (flD) (flE) (iG)) (λa=>TY a/\a.Strength.length=a.Seq.length/\a.End.Tiles.length<=500/\1<=a.Sys.Temperature) flt_.fv
def flt_.q:=AT (R:=flt_.row) rfl
def flt_.ok:AB Tryz.prog 175 flt_.row:=by
 refine vw (tC anoI_.ok (tC newC.ok (tC lisC.ok tN))) Tryz.func175 rfl (by kernel_rfl) ?_;intro a ab;simp only[Tryz.f175];simp(disch:=omega)only[ZZ,simprocAttr,flt_.fv];obtain⟨⟨h1,h2,h3,h4,h5,Z,h7,h8⟩,h9,ac,Q⟩:=ab;intro _;simp only[XP];refine AP.old ⟨{i:Nat//i<=a.Seq.length/\Fm (XX a) (a.Seq.length - i) i=Fm (XX a) a.Seq.length 0},λi=>⟨[(11,.im (.int .i64 i.1)),(10,.im (.int .i64 a.Seq.length)),(9,.im (.sl false 3 (a.Seq.map Ap.c))),(2,.im .nili),(0,.ptr 0 0)],[(0,(false,.view (Cm.c a)))],1⟩,λi=>a.Seq.length - i.1,λi=>⟨by simp[Ai.good,Am,Ac,A8,AV.bel],by simp⟩,⟨⟨0,Cy _,rfl⟩,by simp(disch:=omega)only[ZZ,simprocAttr,sub]⟩,λi=> ?_⟩;obtain⟨i,hi,G⟩:=i;simp(disch:=omega)only[ZZ,simprocAttr,anoI_.q,anoI_.fv,sub,AO,con1,con2];have ad:i<a.Seq.length->IntKind.i64.wrap ((i:Int)+1)=((i+1:Nat):Int):=λh=>by rw[AG (by omega) (by omega)];omega
 refine⟨λz=>⟨z,λo ho=>⟨by omega,λv hv=>⟨λc1=> ?_,λc1=>⟨⟨⟨h1,h2,h3,h4,h5,Z,h7,h8⟩,z⟩,λc2=> ?_,λc2=>⟨⟨i+1,by omega,?_⟩,by simp only;omega,ad z⟩⟩⟩⟩⟩,λz=> ?_⟩
 .have hg:XX a i=some (1,o):=by
   simp only[XX,ho,Eg,Fl,hv,AM];rw[An c1]
  rw[WF z G hg];rfl
 .have hg:XX a i=some (2,o):=by
   simp only[XX,ho,Eg,Fl,hv,AM];rw[Af c1,An c2]
  rw[WF z G hg];rfl
 .refine rP z G ?_;simp only[XX,ho,Eg,Fl,hv,AM];rw[Af c1,Af c2]
 obtain rfl:i=a.Seq.length:=by omega
 rw[LO G,gO];have af:newC.pre (a.Sys,a.End):=⟨h5,by simp only;omega,λy hy=>⟨Z.2 y hy,ZK (sK _ none Z.1 y hy).1⟩⟩;have aa:Cr (Ci a.End.Tiles)=Bb a.End:=(RM.of Z.1 λx O=>(Z.2 x O).1).at;have ag:JN a.Sys (Bb a.End) (Kj a.Sys a.End).Op:=by
  have:=TL (s:=a.Sys) (l:=a.End.Tiles) Q
  rw[aa] at this;simp only[Kj,aa];exact this
 obtain⟨g1,g2,g3⟩:=TJ Q ac h8 ag;refine AE.os (a.Sys,a.End) [] af (λj=>by simp[Ao,hget]) rfl rfl ?_ ?_
 .simp(disch:=omega)only[ZA,simprocAttr,newC.ca,CO,Ax.c,Ak.c]
 simp(disch:=omega)only[ZA,simprocAttr,newC.H1];refine AE.os (Kj a.Sys a.End) [5,3,4] g2 (λj=>Gc _ j) rfl rfl ?_ ?_
 .simp(disch:=omega)only[ZA,simprocAttr,asmC.ca,B5,BV,De,EE]
  try exact⟨rfl,rfl,rfl,rfl⟩
 simp(disch:=omega)only[ZA,simprocAttr,lisC.r0,g1,AO,con3];intro _;refine⟨λc=>⟨c,λx O=> ?_⟩,λc=> ?_⟩
 .cases hL:Cn a.Sys a.End with
  |nil=>rw[hL] at O;cases O
  |cons y r=>
   rw[hL] at O;obtain rfl:y=x:=by simpa using O
   rfl
 .have:Cn a.Sys a.End=[]:=Qn.1 (by omega)
  rw[this];rfl
def XS{s:Ax}{l:List Ap}(h:KR s l):XP ⟨s,l,AX s.Seed l,CI s s.Seed l,CC s s.Seed l⟩=Gy s l:=by
 rw[<-XR h];simp only[XP];rw[dT l.length 0 (h:=wQ s l) λi _ _=> ?_];simp only[XX,wQ,Ru];cases l[i]? <;>rfl
def iI{s:Ax}{z:List Int}{o:Ap}{i:Nat}{m:Bool}{q:Int×Ap}(h:Fl s z o i m=some q):q.1=1\/q.1=2:=by
 simp only[Fl] at h;split at h
 .obtain rfl:=AD h;exact .inl rfl
 .split at h
  .obtain rfl:=AD h;exact .inr rfl
  .cases h
def aX{g:Nat->Option (Int×Ap)}(z: ∀i q,g i=some q->q.1=1\/q.1=2): ∀(n k:Nat) (q:Int×Ap),Fm g n k=some q->q.1=1\/q.1=2
 |n+1,k,q,h=>by
  simp only[Fm] at h;cases hk:g k with
  |none=>rw[hk,gO] at h;exact aX z n (k+1) q h
  |some r=>rw[hk,Zfe] at h;obtain rfl:=AD h;exact z k _ hk
def Sp{s:Ax}{l:List Ap}{q:Int×Ap}(h:Gy s l=some q):q.1=1\/q.1=2\/q.1=3:=by
 simp only[Gy] at h;cases hf:Fm (OH s l) l.length 0 with
 |some r=>
  rw[hf,Zfe] at h;obtain rfl:=AD h
  have:=aX (g:=OH s l) (λi q hq=>by
   simp only[OH,Ef] at hq;obtain⟨o,_,z⟩:=hq;exact iI z) _ _ _ hf
  rcases this with h|h
  .exact .inl h
  .exact .inr (.inl h)
 |none=>
  rw[hf,gO] at h;cases he:Cn s (AX s.Seed l) with
  |nil=>rw[he] at h;cases h
  |cons o r=>rw[he] at h;obtain rfl:=AD h;exact .inr (.inr rfl)
def iT{s:Ax}{l:List Ap}(h:(Cv s l).2.2≠0):VV s l=(0,⟨0,0⟩,(Cv s l).2.2):=by simp only[VV];rw[An h]
def Th{s:Ax}{l:List Ap}(h:(Cv s l).2.2=0):VV s l=XQ (Gy s l):=by simp only[VV];rw[Af (λc=>c h)]
def TZ{s:Ax}{l:List Ap}(c0:(Cv s l).2.2=0):(Cv s l).1=AX s.Seed l/\KR s l/\s.Seed.Tiles.length<=500/\1<=s.Temperature/\(AX s.Seed l).Tiles.length<=500/\TY ⟨s,l,AX s.Seed l,CI s s.Seed l,CC s s.Seed l⟩:=by
 obtain⟨hE,hp,z⟩:=MX c0;have hp':=hp;obtain⟨q1,q2,q3,q4,O,q6⟩:=hp';have Z:s.Seed.Tiles.length<=500:=(Z4 (H4 z).2.2).2;have hT:1<=s.Temperature:=by
  simp only[F2,Bu,AS,BL] at z;exact z.2.2.2.1.1
 have Q:=dW l s.Seed Z O;have G:DP s.Set (AX s.Seed l):=by
  have:=JT q3 q2 O l.length (AQ _)
  rwa [Gs] at this
 exact⟨hE,hp,Z,hT,Q,pK O,λo ho=>by
  obtain⟨k,hk⟩:=Kt.1 ho;exact (GM (O k o hk).1).2.1,QD ..,q6,q1,G,by simp only;omega,q3⟩
def lfI_.fv(a:Ax×(List Ap)):Int×Ab×Int:=(VV) (a.1) (a.2)
def lfI_.row:AA:=vK (b2 (qR Ax.d_le) (qS Ap.d_le Ap.c_n)) (r3 rI (rA Ab.d_le) rI) (λa=>Qe a.1.Set) lfI_.fv
def lfI_.q:=AT (R:=lfI_.row) rfl
def lfI_.ok:AB Tryz.prog 125 lfI_.row:=by
 refine vw (tC play_.ok (tC flt_.ok (tC k1_.ok (tC k2_.ok (tC k3_.ok (tC p1_.ok (tC p2_.ok (tC p3_.ok tN)))))))) Tryz.func125 rfl (by kernel_rfl) ?_;intro a z;simp only[Tryz.f125];simp(disch:=omega)only[ZZ,simprocAttr,lfI_.fv,play_.q,play_.fv,flt_.q,flt_.fv,ifcT];obtain⟨s,l⟩:=a;simp only at z⊢;refine⟨z,?_⟩;by_cases c0:(Cv s l).2.2=0
 case neg=>
  have G:I6 s l=(none,(Cv s l).2.2):=by simp only[I6];rw[An c0]
  rw[G,An c0,iT c0]
 have G:I6 s l=(some ⟨s,l,(Cv s l).1,CI s s.Seed l,CC s s.Seed l⟩,0):=by
  simp only[I6];rw[Af (λh=>h c0)]
 obtain⟨hE,hp,h5,hT,O,Q⟩:=TZ c0;rw[hE] at G;simp only[G];rw[Af (by simp)];have Z: ∀x:Cm,(kP Cm.d 8 (FX (plE (some x))))=some x:=λx=>Cm.d_c x
 simp only[Z,Eg,Eo];refine⟨⟨Q,QE ..,O,hT⟩,?_⟩;rw[XS hp,Th c0];cases hf:Gy s l with
 |none=>
  simp only[flE];simp(disch:=omega)only[ZA,simprocAttr];rfl
 |some q=>
  obtain⟨k,o⟩:=q;rcases Sp hf with h|h|h
  all_goals
   simp only at h;subst h;simp only[flE];simp(disch:=omega)only[ZA,simprocAttr,k1_.q,k1_.fv,k2_.q,k2_.fv,k3_.q,k3_.fv,p1_.q,p1_.fv,p2_.q,p2_.fv,p3_.q,p3_.fv,mk1,mk2,mk3,ma1,ma2,ma3];rfl
def rX{s:Ax}{l:List Int}(hs:s.Set.Tiles.length<=160): ∀(n:Nat) (b:Ak) (d:List Ap),DP s.Set b->(Gz s l n b d).2.2=0-> ∃r,(Gz s l n b d).1=d++r/\ ∀i,CM s b r i=((Gz s l n b d).2.1,0,0)
 |0,b,d,_,_=>⟨[],by simp[Gz],λi=>by simp only[CM,Gz]⟩
 |n+1,b,d,hb,h=>by
  rw[Gz] at h⊢;cases ho:GK s l b d.length with
  |none=>exact⟨[],by simp,λi=>by simp only[CM]⟩
  |some o=>
   rw[ho] at h;simp only at h⊢;by_cases z:500<=b.Tiles.length
   .rw[An z] at h;exact absurd h (by decide)
   .rw[Af z] at h⊢;have hc:=QI hb ho;obtain⟨r,G,O⟩:=rX hs n _ _ (QM hs hb hc) h;refine⟨o::r,by rw[G,Hv];rfl,λi=> ?_⟩;rw[CM,Af (by simp[hc]),Af z];exact O _
def iN{s:Ax}{l:List Int}(h:(Fo s l).2.2=0):Cv s (Fo s l).1=((Fo s l).2.1,0,0):=by
 have Q:=(SF s l).1;by_cases c1:F2 s=false
 .simp only[Fo] at h;rw[An c1] at h;exact absurd h (by decide)
 by_cases z:DY l=false
 .simp only[Fo] at h;rw[Af c1,An z] at h;exact absurd h (by decide)
 have e:Fo s l=Gz s l 500 s.Seed []:=by simp only[Fo];rw[Af c1,Af z]
 rw[e] at h Q⊢;obtain⟨_,Z,_,q4⟩:=MW c1;obtain⟨r,G,O⟩:=rX q4 500 s.Seed [] Z h;rw[Hf] at G;simp only[Cv];rw[Af c1,Af (by omega),G];exact O 0
def Cs(s:Ax)(l:List Int):List Ap×Ak×Int:=if (Fo s l).2.2≠0 then ([],⟨[]⟩,(Fo s l).2.2) else if (VV s (Fo s l).1).2.2=3 then Fo s l else ([],⟨[]⟩,3)
def fndS_.fv(a:Ax×(List Int)):(List Ap)×Ak×Int:=(Cs) (a.1) (a.2)
def fndS_.row:AA:=vK (b2 (qR Ax.d_le) (qS Da Co)) (r3 (rS Ap.d_le Ap.c_n) (rA Ak.d_le) rI) (λa=>True) fndS_.fv
def fndS_.q:=AT (R:=fndS_.row) rfl
def fndS_.ok:AB Tryz.prog 28 fndS_.row:=by
 refine vw (tC GrowS_.ok (tC fltS_.ok tN)) Tryz.func28 rfl (by kernel_rfl) ?_;intro a O;simp only[Tryz.f28];simp(disch:=omega)only[ZA,simprocAttr,Ak.d,fndS_.fv,GrowS_.q,GrowS_.fv,fltS_.q,fltS_.fv];obtain⟨s,l⟩:=a;have hq:=iN (s:=s) (l:=l);obtain⟨w,hw⟩: ∃w,w=Fo s l:=⟨_,rfl⟩;simp only[Cs,<-hw] at hq⊢;by_cases c0:w.2.2=0
 case neg=>rw[An c0,An c0]
 have G:(if w.2.2≠0 then ([],⟨[]⟩,w.2.2) else if (VV s w.1).2.2=3 then w else ([],⟨[]⟩,3))=(if (VV s w.1).2.2=3 then w else (([]:List Ap),(⟨[]⟩:Ak),3)):=Af (λh=>h c0);rw[Af (λh=>h c0),G];have z:(Cv s w.1).2.2=0:=by rw[hq c0]
 obtain⟨_,hp,Z,_⟩:=TZ z;refine⟨⟨hp,Z⟩,?_⟩;rw[Th z];cases hf:Gy s w.1 with
 |none=>
  obtain⟨w0,w1,w2⟩:=w;simp only at c0;subst c0;rfl
 |some q=>
  obtain⟨k,o⟩:=q
  have:=Sp hf
  simp only at this;have hk: ¬(iH (some (k,o))).1=0:=by simp only[iH];omega
  have Q: ¬(XQ (some (k,o))).2.2=3:=by simp[XQ]
  rw[An hk,Af Q]
def islF.fv(a:Ax×(List Ap)):Bool:=(λs l=>decide ((VV s l).2.2=3)) (a.1) (a.2)
def islF.row:AA:=CR (b2 (qR Ax.d_le) (qS Ap.d_le Ap.c_n)) rB (λa=>Qe a.1.Set) islF.fv
def islF.q:=CY (R:=islF.row) rfl
def islF.ok:AB Tryz.prog 67 islF.row:=by
 refine Fx (tC lfI_.ok tN) Tryz.func67 rfl (by kernel_rfl) ?_;intro a z;simp only[Tryz.f67];simp(disch:=omega)only[ZA,simprocAttr,islF.fv,lfI_.q,lfI_.fv,D.sc,D.scs,Bs];exact z
def fndI.H1(a:Ax×List Int):Av:=GI (Cs a.1 a.2)
def fndI.row:AA:=AE grI.ca (λ_=>[]) 0 (λa=>Qe a.1.Set) (λ_=>false) (λa=>OI (Cs a.1 a.2)) fndI.H1 20
def fndI.ok:AB Tryz.prog 29 fndI.row:=by
 refine M7 (tC grI.ok (tC islF.ok tN)) Tryz.func29 rfl (by kernel_rfl) (exB:=LW) (R:=λa r=>r=OI (Cs a.1 a.2)) (λ_=>rfl)
  (λa=>by simp[grI.ca,Ax.c,Aq,AV.bel,Ac,A8,BO]) (λa p hp=> ?_) (λa r h=>by subst h;exact CF.refl _) ?_
 rotate_left
 intro a z;simp only[Tryz.f29,grI.ca,Ax.c];simp(disch:=omega)only[ZA,simprocAttr];obtain⟨s,l⟩:=a;simp only at z⊢;obtain⟨w,hw⟩: ∃w,w=Fo s l:=⟨_,rfl⟩;refine AE.os (s,l) [] z (λj=>by simp[Ao,hget]) rfl rfl ?_ ?_
 .simp(disch:=omega)only[ZA,simprocAttr,grI.ca,Ax.c,grI.ca,CO,Ax.c]
  try exact⟨rfl,rfl⟩
 simp(disch:=omega)only[ZA,simprocAttr,Cz,islF.q,islF.fv,Fe,Ax.c,grI.H1,GI,OI,<-hw];by_cases c0:w.2.2=0
 case neg=>
  rw[An c0];have G:Cs s l=([],⟨[]⟩,w.2.2):=by simp only[Cs,<-hw];rw[An c0]
  refine⟨[],[(0,some 24),(1,none),(2,some 2)],⟨[(4,.own 0),(5,.ptr 2 0),(6,.im (.int .i64 w.2.2))],[(2,(true,.cells 39 [.own 1])),(0,(true,.arr 108 3 ([]))),(1,(true,.arr 137 3 ([])))],3⟩,?_,by simp[Ai.good,Am,Ac,A8,AV.bel,Aq],by simp,?_⟩
  .simp only[Ay];simp(disch:=omega)only[ZA,simprocAttr,Bn,VM]
   try simp
  .simp(disch:=omega)only[ZA,simprocAttr,LW,fndI.H1,G,GI]
   try simp
 rw[Af (λh=>h c0)];refine⟨z,?_⟩;by_cases c1:(VV s w.1).2.2=3
 case neg=>
  rw[An c1];have G:Cs s l=([],⟨[]⟩,3):=by simp only[Cs,<-hw];rw[Af (λh=>h c0),Af c1]
  refine⟨[],[(0,some 24),(1,none),(2,some 2)],⟨[(4,.own 0),(5,.ptr 2 0),(6,.im (.int .i64 3))],[(2,(true,.cells 39 [.own 1])),(0,(true,.arr 108 3 ([]))),(1,(true,.arr 137 3 ([])))],3⟩,?_,by simp[Ai.good,Am,Ac,A8,AV.bel,Aq],by simp,?_⟩
  .simp only[Ay];simp(disch:=omega)only[ZA,simprocAttr,Bn,VM]
   try simp
  .simp(disch:=omega)only[ZA,simprocAttr,LW,fndI.H1,G,GI]
   try simp
 rw[Af (λh=>h c1)];have G:Cs s l=w:=by simp only[Cs,<-hw];rw[Af (λh=>h c0),An c1]
 refine⟨[],[(0,some 3),(1,some 4),(2,some 2)],⟨[(4,.own 0),(5,.ptr 2 0),(6,.im (.int .i64 0))],[(2,(true,.cells 39 [.own 1])),(0,(true,.arr 108 3 (w.1.map Ap.c))),(1,(true,.arr 137 3 (w.2.1.Tiles.map Al.c)))],3⟩,?_,by simp[Ai.good,Am,Ac,A8,AV.bel,Aq],by simp,?_⟩
 .simp only[Ay];simp(disch:=omega)only[ZA,simprocAttr,Bn]
  try simp
 .simp(disch:=omega)only[ZA,simprocAttr,LW,fndI.H1,G,c0,GI]
  try simp
 simp[fndI.H1,GI] at hp;rcases hp with rfl|rfl
 .exact .inr ⟨by omega,by omega,rfl,rfl⟩
 .exact .inr ⟨by omega,by omega,rfl,rfl⟩
def XT(s:Ax)(l:List Int):(Cs s l).1.length<=500/\(Cs s l).2.1.Tiles.length<=500:=by
 simp only[Cs];split
 .simp
 split
 .exact SF s l
 .simp
def eqPfF.fv(a:Bk×Bk):Bool:=(λa b=>decide (a=b)) (a.1) (a.2)
def eqPfF.row:AA:=CR (b2 (qR Bk.d_le) (qR Bk.d_le)) rB (λa=>True) eqPfF.fv
def eqPfF.ok:AB Tryz.prog 38 eqPfF.row:=by
 refine Fx (tC eqOptionS.ok (tC eqInt64S.ok (tC eqSSF.ok tN))) Tryz.func38 rfl (by kernel_rfl) ?_;intro a G;simp only[Tryz.f38];simp(disch:=omega)only[ZZ,simprocAttr,Cz,eqPfF.fv,eqOptionS.q,eqOptionS.fv,eqInt64S.q,eqInt64S.fv,eqSSF.q,eqSSF.fv,D.sc,D.scs,Bs];obtain⟨⟨k,x,y,z,w⟩,⟨k',x',y',z',w'⟩⟩:=a;simp only[Bk.mk.injEq]
 grind
def mkO0.fv(a:(List Ap)×Int):Int:=(λ_ k=>k) (a.1) (a.2)
def mkO0.row:AA:=vK (b2 (qS Ap.d_le Ap.c_n) qI) rI (λa=>a.1=[]) mkO0.fv
def mkO0.ok:AB Tryz.prog 25 mkO0.row:=by
 refine vw tN Tryz.func25 rfl (by kernel_rfl) ?_;intro a z;simp only[Tryz.f25];simp(disch:=omega)only[ZA,simprocAttr,mkO0.fv];obtain⟨l,k⟩:=a;simp only at z⊢;subst z;refine AP.old ⟨Unit,λ_=>⟨[(5,.im (.int .i64 0)),(4,.im (.int .i64 0)),(1,.im (.int .i64 k)),(0,.im (.sl false 3 []))],[],0⟩,λ_=>0,λ_=>⟨by simp[Ai.good,Am,Ac,A8,AV.bel],by simp⟩,⟨(),by simp(disch:=omega)only[ZA,simprocAttr,sub]⟩,λ_=> ?_⟩;simp(disch:=omega)only[ZA,simprocAttr]
 try simp
def mkI0.fv(a:(List Int)×Int):Int:=(λ_ k=>k) (a.1) (a.2)
def mkI0.row:AA:=vK (b2 (qS Da Co) qI) rI (λa=>a.1=[]) mkI0.fv
def mkI0.q:=AT (R:=mkI0.row) rfl
def mkI0.ok:AB Tryz.prog 24 mkI0.row:=by
 refine vw tN Tryz.func24 rfl (by kernel_rfl) ?_;intro a z;simp only[Tryz.f24];simp(disch:=omega)only[ZA,simprocAttr,mkI0.fv];obtain⟨l,k⟩:=a;simp only at z⊢;subst z;refine AP.old ⟨Unit,λ_=>⟨[(5,.im (.int .i64 0)),(4,.im (.int .i64 0)),(1,.im (.int .i64 k)),(0,.im (.sl false 1 []))],[],0⟩,λ_=>0,λ_=>⟨by simp[Ai.good,Am,Ac,A8,AV.bel],by simp⟩,⟨(),by simp(disch:=omega)only[ZA,simprocAttr,sub]⟩,λ_=> ?_⟩;simp(disch:=omega)only[ZA,simprocAttr]
 try simp
def mkSS0.fv(a:(List (List Int))×Int):Int:=(λ_ k=>k) (a.1) (a.2)
def mkSS0.row:AA:=vK (b2 (qS Qh NV) qI) rI (λa=>a.1=[]) mkSS0.fv
def mkSS0.q:=AT (R:=mkSS0.row) rfl
def mkSS0.ok:AB Tryz.prog 81 mkSS0.row:=by
 refine vw (tC mkI0.ok tN) Tryz.func81 rfl (by kernel_rfl) ?_;intro a z;simp only[Tryz.f81];simp(disch:=omega)only[ZA,simprocAttr,mkSS0.fv];obtain⟨l,k⟩:=a;simp only at z⊢;subst z;refine AP.old ⟨Unit,λ_=>⟨[(5,.im (.int .i64 0)),(4,.im (.int .i64 0)),(1,.im (.int .i64 k)),(0,.im (.sl false 1 []))],[],0⟩,λ_=>0,λ_=>⟨by simp[Ai.good,Am,Ac,A8,AV.bel],by simp⟩,⟨(),by simp(disch:=omega)only[ZA,simprocAttr,sub]⟩,λ_=> ?_⟩;simp(disch:=omega)only[ZA,simprocAttr]
 try simp
def mkOR.row:AA:=nI mkO0.row mkOC.row
def mkOR.ok:AB Tryz.prog 25 mkOR.row:=W6 mkO0.ok mkOC.ok
def heldPf.fv(a:Bk×Int):Int:=(λp k=>F9 p.Sequence k) (a.1) (a.2)
def heldPf.row:AA:=CR (b2 (qR Bk.d_le) qI) rI (λa=>0<=a.2/\a.2+3*a.1.Sequence.length<=1099511627776/\a.1.Other=[]/\a.1.Part=[]/\a.1.Flows=[]) heldPf.fv
def heldPf.ok:AB Tryz.prog 40 heldPf.row:=by
 refine Fx (tC heldO_.ok (tC heldIS.ok (tC heldSS.ok tN))) Tryz.func40 rfl (by kernel_rfl) ?_;intro a G;simp only[Tryz.f40];simp(disch:=omega)only[ZZ,simprocAttr,Cz,heldPf.fv,heldO_.q,heldO_.fv,heldIS.q,heldIS.fv,heldSS.q,heldSS.fv,D.sc,D.scs,Bs];obtain⟨⟨k0,x,y,z,w⟩,k⟩:=a;obtain⟨O,Q,Z,h4,h5⟩:=G;simp only at O Q Z h4 h5⊢;subst Z h4 h5;have e1: ∀q:Int,F9 [] q=q:=λq=>by simp[F9,Dj]
 have e2: ∀q:Int,Gg [] q=q:=λq=>by simp[Gg,Jd]
 have e3: ∀q:Int,I7 [] q=q:=λq=>rfl
 have e4:Vs []=0:=rfl;simp only[e1,e2,e3,e4];refine⟨⟨O,Q⟩,?_⟩;rcases SJ x k with h|h
 .rw[h]
  have:=Int.natCast_nonneg x.length
  repeat (first|(rw[Af (by omega)])|(refine⟨⟨by omega,by simp;omega⟩,?_⟩)|rfl|trivial)
 .rw[h];rfl
def Sr{s:Ax}{l:List Int}(h:(Cs s l).2.2≠0):(Cs s l).1=[]/\(Cs s l).2.1=⟨[]⟩:=by
 simp only[Cs] at h⊢;split
 .exact⟨rfl,rfl⟩
 split
 .rename_i c1 z;rw[Af c1,An z] at h;exact absurd h c1
 .exact⟨rfl,rfl⟩
def jM(c:Int):Int:=if c=0 then 3 else 0
def puP(w:List Ap×Ak×Int):Bk:=⟨jM w.2.2,w.1,[],[],[]⟩
def puF(s:Ax)(l:List Int):Bk×Ak×Int:=(puP (Cs s l),(Cs s l).2.1,(Cs s l).2.2)
def puS_.fv(a:Ax×(List Int)):Bk×Ak×Int:=(puF) (a.1) (a.2)
def puS_.row:AA:=vK (b2 (qR Ax.d_le) (qS Da Co)) (r3 (rA Bk.d_le) (rA Ak.d_le) rI) (λa=>True) puS_.fv
def puS_.q:=AT (R:=puS_.row) rfl
def puS_.ok:AB Tryz.prog 36 puS_.row:=by
 refine vw (tC fndS_.ok tN) Tryz.func36 rfl (by kernel_rfl) ?_;intro a z;simp only[Tryz.f36];simp(disch:=omega)only[ZZ,simprocAttr,Ak.d,puS_.fv,fndS_.q,fndS_.fv];obtain⟨s,l⟩:=a;have hn:=Sr (s:=s) (l:=l);simp only[puF,puP];obtain⟨w,hw⟩: ∃w,w=Cs s l:=⟨_,rfl⟩;simp only[<-hw] at hn⊢;by_cases c0:w.2.2=0
 case neg=>
  rw[An c0,(hn c0).1,(hn c0).2];simp only[jM];rw[Af c0]
 rw[Af (λh=>h c0)];simp only[jM,c0,BM]
abbrev nJ(k:Int)(n:Nat):AV:= .agg [.im (.int .i64 k),.own n,.im (.sl true 0 []),.im (.sl true 0 []),.im (.sl true 0 [])]
def Ub(w:List Ap×Ak×Int):AV:= .tup [nJ (jM w.2.2) 0,.agg [.own 1],.im (.int .i64 w.2.2)]
def puI.row:AA:=AE grI.ca (λ_=>[]) 0 (λa=>Qe a.1.Set) (λ_=>false) (λa=>Ub (Cs a.1 a.2)) fndI.H1 20
def puI.ok:AB Tryz.prog 37 puI.row:=by
 refine M7 (tC fndI.ok tN) Tryz.func37 rfl (by kernel_rfl) (exB:=LW) (R:=λa r=>r=Ub (Cs a.1 a.2)) (λ_=>rfl)
  (λa=>by simp[grI.ca,Ax.c,Aq,AV.bel,Ac,A8,BO]) (λa p hp=> ?_) (λa r h=>by subst h;exact CF.refl _) ?_
 rotate_left
 intro a z;simp only[Tryz.f37,grI.ca,Ax.c];simp(disch:=omega)only[ZA,simprocAttr];obtain⟨s,l⟩:=a;simp only at z⊢;obtain⟨w,hw⟩: ∃w,w=Cs s l:=⟨_,rfl⟩;have hn:=Sr (s:=s) (l:=l);rw[<-hw] at hn;refine AE.os (s,l) [] z (λj=>by simp[Ao,hget]) rfl rfl ?_ ?_
 .simp(disch:=omega)only[ZA,simprocAttr,grI.ca,Ax.c,grI.ca,CO,Ax.c]
  try exact⟨rfl,rfl⟩
 simp(disch:=omega)only[ZA,simprocAttr,Fe,fndI.H1,GI,OI,<-hw];by_cases c0:w.2.2=0
 case neg=>
  rw[An c0];simp only[(hn c0).1,(hn c0).2,Gq];refine⟨[],[(0,none),(1,none),(2,some 1),(3,some 2)],⟨[(4,.ptr 2 0),(5,.ptr 3 0),(6,.im (.int .i64 w.2.2))],[(2,(true,.cells 78 [.im (.int .i64 0),.own 0,.im (.sl true 0 []),.im (.sl true 0 []),.im (.sl true 0 [])])),(3,(true,.cells 39 [.own 1])),(0,(true,.arr 108 3 ([]))),(1,(true,.arr 137 3 ([])))],4⟩,?_,by simp[Ai.good,Am,Ac,A8,AV.bel,Aq],by simp,?_⟩
  .simp only[Ay];simp(disch:=omega)only[ZA,simprocAttr,Bn,VM]
   try simp
  .simp(disch:=omega)only[ZA,simprocAttr,LW,Ub,jM,c0]
   try simp
 rw[Af (λh=>h c0)];refine⟨[],[(0,some 3),(1,some 4),(2,some 1),(3,some 2)],⟨[(4,.ptr 2 0),(5,.ptr 3 0),(6,.im (.int .i64 0))],[(2,(true,.cells 78 [.im (.int .i64 3),.own 0,.im (.sl true 0 []),.im (.sl true 0 []),.im (.sl true 0 [])])),(3,(true,.cells 39 [.own 1])),(0,(true,.arr 108 3 (w.1.map Ap.c))),(1,(true,.arr 137 3 (w.2.1.Tiles.map Al.c)))],4⟩,?_,by simp[Ai.good,Am,Ac,A8,AV.bel,Aq],by simp,?_⟩
 .simp only[Ay];simp(disch:=omega)only[ZA,simprocAttr,Bn]
  try simp
 .simp(disch:=omega)only[ZA,simprocAttr,LW,Ub,jM,c0]
  try simp
 simp[fndI.H1,GI] at hp;rcases hp with rfl|rfl
 .exact .inr ⟨by omega,by omega,rfl,rfl⟩
 .exact .inr ⟨by omega,by omega,rfl,rfl⟩
def mkPk.ca(a:List Ap×Int×Int):List AV:=[nJ a.2.2 0,.im (.int .i64 a.2.1)]
def mkPk.H0(a:List Ap×Int×Int):Av:=[(0,(true,.arr 108 3 (a.1.map Ap.c)))]
def mkPk.H1(a:List Ap×Int×Int):Av:=[(0,(true,.arr 108 3 ((Dj (oF a.2.1) a.1.length).map Ap.c)))]
def mkPk.row:AA:=AE mkPk.ca mkPk.H0 1 (λa=>0<=a.2.1/\a.2.1+3*a.1.length<=1099511627776) (λj=>j==0) (λa=> .im (.int .i64 (a.2.1+3*a.1.length))) mkPk.H1 0
def mkPk.ok:AB Tryz.prog 39 mkPk.row:=by
 refine ow (tC mkOR.ok (tC mkI0.ok (tC mkSS0.ok tN))) Tryz.func39 rfl (by kernel_rfl) (exB:=λ_=>false) (R:=λa r=>r= .im (.int .i64 (a.2.1+3*a.1.length))) (λ_=>rfl)
  (λa=>by simp[mkPk.ca,mkPk.H0,Aq,AV.bel,Ac,A8,BO,Ad.nms,Ao,hget]) (λa p hp=> ?_) (λa r h=>by subst h;exact CF.refl _) ?_
 rotate_left
 intro a z;simp only[Tryz.f39,mkPk.ca,mkPk.H0,mkPk.H1];simp(disch:=omega)only[ZA,simprocAttr];refine .inr (AE.os (a.1,a.2.1) [0] z (λj=> ?_) rfl rfl ?_ ?_)
 .simp only[Ao,mkOC.H0,hget];by_cases G:j=0
  .subst G;simp
  .have:(0==j)=false:=by simpa using λh=>G h.symm
   rw[this];simp;omega
 .simp(disch:=omega)only[ZA,simprocAttr,D6,mkOC.ca,mkOC.H0,CO,De]
 simp(disch:=omega)only[ZA,simprocAttr,D6,mkOC.H1,De,EE];refine .inl (vK.call [.val (.sl true 0 []),.val (.int .i64 (a.2.1+3*a.1.length))] rfl ([],a.2.1+3*a.1.length) rfl rfl ?_);simp(disch:=omega)only[ZA,simprocAttr,mkI0.q,mkI0.fv,mkSS0.q,mkSS0.fv,BB,mkO0.fv];simp[mkPk.H1] at hp;subst hp;exact .inl ⟨by omega,rfl,rfl⟩
def puV.row:AA:=Fb grV.ar (λa=>Qe a.1.Set) (λa=>Ub (Cs a.1 a.2)) fndI.H1 20
def puV.ok:AB Tryz.prog 37 puV.row:=
 pS (A:=Ax×List Int) (ca:=λ(a:Ax×List Int)=>[D.agg (Ax.c a.1),D.sl false 1 (a.2.map Aj)]) (by kernel_rfl) puI.ok (λ_=>rfl) (Rq (Mi Ax.d_le) (SV 1 Da (λ_=>rfl))) (λ_=>⟨by simp[Ub,Jo,Ey,D.sc],by simp[Ub,AV.nms,AH]⟩) (λ_=>iM _)
def Uc(w:List Ap×Ak×Int): ∀m∈(Ub w).nms,m<20:=by simp[Ub,AV.nms,AH]
def Hn(k:Int)(l:List Ap):Bk:=⟨k,l,[],[],[]⟩
def nK(k:Int)(l:List Ap):D:= .agg [.int .i64 k,.sl false 3 (l.map Ap.c),.sl true 0 [],.sl true 0 [],.sl true 0 []]
def bK(k:Int)(l:List Ap):kR Bk.d (.val (nK k l))=some (Hn k l):=by
 simp only[kR,nK,Bk.d,Ap.d_R,AR,Eg];rfl
def TX{h:Nat->Option Au}{n:Nat}{k:Int}{l:List Ap}(hn:h n=some (true,.arr 108 3 (l.map Ap.c))):E7 h (nJ k n)=some (.val (nK k l)):=by
 simp only[E7,bk,A7,hn,Kl,CQ,ES,nK]
def pkE(k:Int)(l:List Ap):a2 (kR Bk.d) (kR Bk.d) [.val (nK k l),.val (.agg (Bk.c (Hn k l)))]=some (Hn k l,Hn k l):=by
 rw[a2,bK];simp only[kR,Bk.d_c,Eg]
def pkH(k:Int)(l:List Ap)(q:Int):a2 (kR Bk.d) kI [.val (nK k l),.val (.int .i64 q)]=some (Hn k l,q):=by simp only[a2,bK,kI,Eg]
def OS{nx o:Nat}{tm:List (Nat×AV)}{h:Av}{dst:Option Nat}{go:Ai->Prop}{l:List Ap}{k kd:Int}(hk:0<=k)(Z:k+3*l.length<=1099511627776)(hS:hget h o=some (true,.arr 108 3 (l.map Ap.c)))(aa:o<nx)
 (Q: ∀G:Av,hget G o=some (true,.arr 108 3 ((Dj (oF k) l.length).map Ap.c))->(∀m,m≠o->hget G m=hget h m)->go ((⟨tm,G,nx⟩:Ai).put dst (.im (.int .i64 (k+3*l.length))))):
 mkPk.row [nJ kd o,.im (.int .i64 k)] (hget h) nx (DT go ⟨tm,h,nx⟩ dst):=by
 have hd: ∀j,Ao (mkPk.H0 (l,k,kd)) j=true->j=0:=λj z=>by
  simp only[Ao,mkPk.H0,hget] at z;by_cases h:j=0
  .exact h
  .rw[Bi _ _ (λq=>h q.symm)] at z;cases z
 refine AE.tau (l,k,kd) (λ_=>o) ⟨hk,Z⟩ (λj z=>by rw[hd j z];rfl) (λj z=>⟨by rw[hd j z];omega,aa⟩) (λi j hi z _=>by rw[hd i hi,hd j z]) (λp hp=> ?_) ⟨rfl,hS,trivial⟩ (by simp[AV.nms]) (λG hH1 O=>Q G (hH1 0 _ rfl) λm hm=>O m λj z h=>hm h.symm);simp only[mkPk.H1,BK] at hp;subst hp;exact⟨rfl,λm hm=>by simp[Ad.nms] at hm⟩
def lawPU.rc:D->Option (Bool):=V5
def lawPU.re:Bool->D:=D.bool
def lawPU.rle: ∀d b,lawPU.rc d=some b->Le d (lawPU.re b):=kO
def lawPU.fv(a:Ax×(List Int)):Bool:=(λ_ _=>true) (a.1) (a.2)
def lawPU.row:AA:=vK (b2 (qR Ax.d_le) (qS Da Co)) (RK.mk lawPU.rc lawPU.re lawPU.rle) (λa=>OW a.1.Set) lawPU.fv
def lawPU.q:=AT (R:=lawPU.row) rfl
def lawPU.ok:AB Tryz.prog 6 lawPU.row:=by
 refine vw (tC szSystem.ok (tC toYR.ok (tC toIR.ok (tC puS_.ok (tC puV.ok (tC eqPfF.ok (tC eqAsmF.ok (tC eqSystemF.ok (tC eqInt64SF.ok (tC mkSy.ok (tC mkIC.ok (tC mkPk.ok (tC mkAC.ok (tC heldPf.ok (tC heldA_.ok tN))))))))))))))) Tryz.func6 rfl (by kernel_rfl) ?_;intro a ag;simp only[Tryz.f6];simp(disch:=omega)only[ZA,simprocAttr,lawPU.fv,lawPU.rc,szSystem.q,szSystem.fv];obtain⟨s,l⟩:=a;simp only at ag⊢;intro _;split
 .trivial
 rename_i c2;refine⟨ag,?_⟩;split
 .trivial
 rename_i c0;have hB:=Zl (s:=s) (l:=1048576) (by decide) (by decide) (by omega);have h1:=Vj (s:=s) (l:=1048576) (by decide) (by decide) (by omega);have hl:l.length<=1048576:=by omega
 have ak:l.length<=1073741824:=by omega
 refine .inl (vK.call [.val (.agg (Ax.c s))] rfl s (Vh s) h1 ?_);simp(disch:=omega)only[ZA,simprocAttr,BB,toSystem.fv];refine .inl (vK.call [.val (.sl false 1 (l.map Aj))] rfl l (SO l) ak ?_);simp(disch:=omega)only[ZZ,simprocAttr,puS_.q,puS_.fv,BB,toInt64S.fv];obtain⟨w,hw⟩: ∃w,w=Cs s l:=⟨_,rfl⟩;have as:=XT s l;obtain⟨G,w1,w2⟩:=w;obtain⟨kd,hkd⟩: ∃k,k=jM w2:=⟨_,rfl⟩;simp only[puF,puP,<-hw] at as⊢;simp only[<-hkd];refine .inr (AE.nw s hB.yx rfl rfl (yK hB) (by simp[toYX.r0,AV.nms,AH]) λHH hH1 z=> ?_);have S0:Fa (hget HH) 10 12 2000015 13 s:=yJ hB hH1;have k0:hget HH 0=some (true,.cells 30 [AV.im (D.sl false 2 (List.map Ar.c s.Set.Glues)),AV.im (D.sl false 2 (List.map Tile.c s.Set.Tiles)),AV.im (D.sl false 3 (List.map Al.c s.Seed.Tiles)),AV.im (D.int IntKind.i64 s.Temperature)]):=z 0 (by omega);have k1:hget HH 1=some (true,.cells 78 ((Bk.c (Hn kd G)).map .im)):=z 1 (by omega);have k2:hget HH 2=some (true,.cells 39 [AV.im (D.sl false 3 (List.map Al.c w1.Tiles))]):=z 2 (by omega);simp only[Bk.c,Hn,Bd,Gq] at k1;clear hH1 z;simp only[toYX.r0,AV.ren,AL];simp(disch:=omega)only[ZA,simprocAttr,BB];refine .inr (AE.nw l ak rfl rfl (wV l) (by simp[AV.nms]) λah hH1 z=> ?_);have k0:hget ah 0=_:=((z 0 (by omega)).trans (Wu _ _ _ (by omega))).trans k0;have k1:hget ah 1=_:=((z 1 (by omega)).trans (Wu _ _ _ (by omega))).trans k1;have k2:hget ah 2=_:=((z 2 (by omega)).trans (Wu _ _ _ (by omega))).trans k2;have S1:Fa (hget ah) 10 12 2000015 13 s:=S0.mono λm hm=>by
  exact (z m (by have:=hB.t;omega)).trans (Wu _ _ _ (by have:=hB.t;omega))
 have g8:hget ah 2000016=some (true,.cells 47 [.own 10,.own 12,.own 2000015,.im (.int .i64 s.Temperature)]):=z _ (by omega);have g9:hget ah 2000018=some (true,.arr 2 1 (l.map Aj)):=hH1 1 _ rfl;clear hH1 z S0;simp only[AV.ren];simp(disch:=omega)only[ZA,simprocAttr,BB,g8];refine Fb.nw [.val (.agg (Ax.c s)),.val (.sl false 1 (l.map Aj))] (Pi S1.pk (bH g9)) (s,l) (Nl s l) ag (SB _) (Uc _) λO hH1 z=> ?_
 simp only[<-hw,fndI.H1] at hH1⊢;have S2:Fa (hget O) 10 12 2000015 13 s:=S1.mono λm hm=>z m (by have:=hB.t;omega)
 have k0:hget O 0=_:=(z 0 (by omega)).trans k0;have k1:hget O 1=_:=(z 1 (by omega)).trans k1;have k2:hget O 2=_:=(z 2 (by omega)).trans k2;have g8:hget O 2000016=_:=(z _ (by omega)).trans g8;have g9:hget O 2000018=_:=(z _ (by omega)).trans g9;have gg:hget O 2000019=some (true,.arr 108 3 (G.map Ap.c)):=hH1 0 _ rfl;have gp:hget O 2000020=some (true,.arr 137 3 (w1.Tiles.map Al.c)):=hH1 1 _ rfl;clear hH1 z S1;simp only[Ub,nJ,<-hkd,AV.ren,AL];simp(disch:=omega)only[ZA,simprocAttr,BB,W3,k1];generalize hG:((2000040,(true,Ad.cells 39 [AV.own 2000020]))::(2000039,(true,Ad.cells 78 [.im (.int .i64 kd),.own 2000019,.im (.sl true 0 []),.im (.sl true 0 []),.im (.sl true 0 [])]))::Bh (Bh O [2000039]) [2000040]:Av)=H3;have S2:Fa (hget H3) 10 12 2000015 13 s:=S2.mono λm hm=>JF hG (by have:=hB.t;omega) (by have:=hB.t;omega) rfl
 have k0:=JF hG (by omega) (by omega) k0;have k1:=JF hG (by omega) (by omega) k1;have k2:=JF hG (by omega) (by omega) k2;have g8:=JF hG (by omega) (by omega) g8;have g9:=JF hG (by omega) (by omega) g9;have gg:=JF hG (by omega) (by omega) gg;have gp:=JF hG (by omega) (by omega) gp;have ga:hget H3 2000040=some (true,.cells 39 [.own 2000020]):=by rw[<-hG];rfl
 have gc:hget H3 2000039=some (true,.cells 78 [.im (.int .i64 kd),.own 2000019,.im (.sl true 0 []),.im (.sl true 0 []),.im (.sl true 0 [])]):=by rw[<-hG];rfl
 clear hG;refine CR.call [_,_] (Pi (TX gg) rfl) (Hn kd G,Hn kd G) (pkE _ _) trivial ?_;simp(disch:=omega)only[ZA,simprocAttr,BB,k2,ga,eqPfF.fv];refine CR.call [_,_] (Pi (Jj gp) rfl) (w1,w1) (Rx _ _) trivial ?_;simp(disch:=omega)only[ZA,simprocAttr,BB,k0,g8,eqAsmF.fv];refine .inl (vK.callA [.val (.agg (Ax.c s))] rfl s (Vh s) h1 rfl λu=> ?_);simp(disch:=omega)only[ZA,simprocAttr,toSystem.fv];refine CR.callA [_,_] (Pi S2.pk rfl) (s,s) (yD _ _) trivial rfl λu2=> ?_
 simp(disch:=omega)only[ZA,simprocAttr,BB,eqSystemF.fv];refine .inl (vK.call [.val (.sl false 1 (l.map Aj))] rfl l (SO l) ak ?_);simp(disch:=omega)only[ZA,simprocAttr,toInt64S.fv];refine CR.call [_,_] (Pi (bH g9) rfl) (l,l) (wT _ _) trivial ?_;simp(disch:=omega)only[ZA,simprocAttr,BB,g8,eqInt64SF.fv];refine OT (N:=3) hB (by decide) (by decide) S2 (by omega) λaa Z=> ?_
 have k0:hget aa 0=_:=(Z 0 (by omega)).trans k0;have k1:hget aa 1=_:=(Z 1 (by omega)).trans k1;have k2:hget aa 2=_:=(Z 2 (by omega)).trans k2;have g9:hget aa 2000018=_:=(Z _ (by omega)).trans g9;have gg:hget aa 2000019=_:=(Z _ (by omega)).trans gg;have gp:hget aa 2000020=_:=(Z _ (by omega)).trans gp;have ga:hget aa 2000040=_:=(Z _ (by omega)).trans ga;have gc:hget aa 2000039=_:=(Z _ (by omega)).trans gc;obtain⟨y1,y2⟩:=hB.syK (k:=1) (by decide) (by decide);obtain⟨m1,hm1⟩: ∃m1,m1=syK (s,1)+3*s.Seed.Tiles.length:=⟨_,rfl⟩;rw[<-hm1] at y2;have y3:0<=m1:=by omega
 simp only[<-hm1];clear Z S2 g8 y1 hm1;simp(disch:=omega)only[ZA,simprocAttr,BB];refine OQ y3 (by omega) g9 (by omega) λac _ ab=> ?_
 have k0:hget ac 0=_:=(ab 0 (by omega)).trans k0;have k1:hget ac 1=_:=(ab 1 (by omega)).trans k1;have k2:hget ac 2=_:=(ab 2 (by omega)).trans k2;have gg:hget ac 2000019=_:=(ab _ (by omega)).trans gg;have gp:hget ac 2000020=_:=(ab _ (by omega)).trans gp;have ga:hget ac 2000040=_:=(ab _ (by omega)).trans ga;have gc:hget ac 2000039=_:=(ab _ (by omega)).trans gc;clear ab g9;simp(disch:=omega)only[ZA,simprocAttr,BB,k1,gc];rw[An (by omega)];refine CR.call [_,_] (Pi (TX gg) rfl) (Hn kd G,Hn kd G) (pkE _ _) trivial ?_;simp(disch:=omega)only[ZA,simprocAttr,BB,k2,ga,eqPfF.fv];refine CR.call [_,_] (Pi (Jj gp) rfl) (w1,w1) (Rx _ _) trivial ?_;simp(disch:=omega)only[ZA,simprocAttr,BB,gc,eqAsmF.fv];refine OS (by decide) (by omega) gg (by omega) λai gg ad=> ?_
 have k0:hget ai 0=_:=(ad 0 (by omega)).trans k0;have k1:hget ai 1=_:=(ad 1 (by omega)).trans k1;have k2:hget ai 2=_:=(ad 2 (by omega)).trans k2;have gp:hget ai 2000020=_:=(ad _ (by omega)).trans gp;have ga:hget ai 2000040=_:=(ad _ (by omega)).trans ga;have gc:hget ai 2000039=_:=(ad _ (by omega)).trans gc;clear ad;simp(disch:=omega)only[ZA,simprocAttr,BB,ga];refine OP (by omega) (by omega) gp (by omega) λaj gp af=> ?_
 have k0:hget aj 0=_:=(af 0 (by omega)).trans k0;have k1:hget aj 1=_:=(af 1 (by omega)).trans k1;have k2:hget aj 2=_:=(af 2 (by omega)).trans k2;have gg:hget aj 2000019=_:=(af _ (by omega)).trans gg;have ga:hget aj 2000040=_:=(af _ (by omega)).trans ga;have gc:hget aj 2000039=_:=(af _ (by omega)).trans gc;clear af;simp(disch:=omega)only[ZA,simprocAttr,BB,gc];have an:(0:Int)<=1/\(1:Int)+3*(Hn kd (Dj (oF 1) G.length)).Sequence.length<=1099511627776/\(Hn kd (Dj (oF 1) G.length)).Other=[]/\(Hn kd (Dj (oF 1) G.length)).Part=[]/\(Hn kd (Dj (oF 1) G.length)).Flows=[]:=by simp only[Hn,WE];exact⟨by omega,by omega,trivial,trivial,trivial⟩
 have aq:heldPf.fv (Hn kd (Dj (oF 1) G.length),1)=1+3*G.length:=SI 1 G.length;have am:(0:Int)<=1+3*G.length/\(1:Int)+3*G.length+3*(Dj (pF (1+3*G.length)) w1.Tiles.length).length<=1099511627776:=by rw[WE];omega
 have ao:heldA_.fv (⟨Dj (pF (1+3*G.length)) w1.Tiles.length⟩,1+3*G.length)=1+3*G.length+3*w1.Tiles.length:=SK _ _;refine CR.call [_,_] (Pi (TX gg) rfl) (Hn kd (Dj (oF 1) G.length),1) (pkH _ _ _) an ?_;simp only[aq];simp(disch:=omega)only[ZA,simprocAttr,BB,ga];rw[Af (by omega)];refine CR.call [_,_] (Pi (Jj (a:=⟨Dj (pF (1+3*G.length)) w1.Tiles.length⟩) gp) rfl) (⟨Dj (pF (1+3*G.length)) w1.Tiles.length⟩,1+3*G.length) (aQ _ _) am ?_;simp only[ao];simp(disch:=omega)only[ZA,simprocAttr,BB,k0];rw[Af (by omega)];refine .inl (vK.call [.val (.agg (Ax.c s))] rfl s (Vh s) h1 ?_);simp(disch:=omega)only[ZA,simprocAttr,BB,toSystem.fv];refine .inl (vK.call [.val (.sl false 1 (l.map Aj))] rfl l (SO l) ak ?_);simp(disch:=omega)only[ZA,simprocAttr,toInt64S.fv];refine Fb.nw [.val (.agg (Ax.c s)),.val (.sl false 1 (l.map Aj))] rfl (s,l) (Nl s l) ag (SB _) (Uc _) λQ hH1 z=> ?_
 simp only[<-hw,fndI.H1] at hH1⊢;have k1:hget Q 1=_:=(z 1 (by omega)).trans k1;have k2:hget Q 2=_:=(z 2 (by omega)).trans k2;have gg:hget Q 2000019=_:=(z _ (by omega)).trans gg;have gp:hget Q 2000020=_:=(z _ (by omega)).trans gp;have ga:hget Q 2000040=_:=(z _ (by omega)).trans ga;have gc:hget Q 2000039=_:=(z _ (by omega)).trans gc;have gh:hget Q 2000041=some (true,.arr 108 3 (G.map Ap.c)):=hH1 0 _ rfl;have gq:hget Q 2000042=some (true,.arr 137 3 (w1.Tiles.map Al.c)):=hH1 1 _ rfl;clear hH1 z k0;simp only[Ub,nJ,<-hkd,AV.ren,AL];simp(disch:=omega)only[ZA,simprocAttr,BB,W3,k1];generalize hG:((2000062,(true,Ad.cells 39 [AV.own 2000042]))::(2000061,(true,Ad.cells 78 [.im (.int .i64 kd),.own 2000041,.im (.sl true 0 []),.im (.sl true 0 []),.im (.sl true 0 [])]))::Bh (Bh Q [2000061]) [2000062]:Av)=H8;have k1:=JF hG (by omega) (by omega) k1;have k2:=JF hG (by omega) (by omega) k2;have gg:=JF hG (by omega) (by omega) gg;have gp:=JF hG (by omega) (by omega) gp;have ga:=JF hG (by omega) (by omega) ga;have gc:=JF hG (by omega) (by omega) gc;have gh:=JF hG (by omega) (by omega) gh;have gq:=JF hG (by omega) (by omega) gq;have gb:hget H8 2000062=some (true,.cells 39 [.own 2000042]):=by rw[<-hG];rfl
 have ge:hget H8 2000061=some (true,.cells 78 [.im (.int .i64 kd),.own 2000041,.im (.sl true 0 []),.im (.sl true 0 []),.im (.sl true 0 [])]):=by rw[<-hG];rfl
 clear hG;refine CR.call [_,_] (Pi (TX gh) rfl) (Hn kd G,Hn kd G) (pkE _ _) trivial ?_;simp(disch:=omega)only[ZA,simprocAttr,BB,k2,gb,eqPfF.fv];refine CR.call [_,_] (Pi (Jj gq) rfl) (w1,w1) (Rx _ _) trivial ?_;simp(disch:=omega)only[ZA,simprocAttr,BB,gc,eqAsmF.fv];refine CR.call [_,_] (Pi (TX gg) rfl) (Hn kd (Dj (oF 1) G.length),1) (pkH _ _ _) an ?_;simp only[aq];simp(disch:=omega)only[ZA,simprocAttr,BB,ga];rw[Af (by omega)];refine CR.call [_,_] (Pi (Jj (a:=⟨Dj (pF (1+3*G.length)) w1.Tiles.length⟩) gp) rfl) (⟨Dj (pF (1+3*G.length)) w1.Tiles.length⟩,1+3*G.length) (aQ _ _) am ?_;simp only[ao];simp(disch:=omega)only[ZA,simprocAttr,BB];rw[Af (by omega)];trivial
end Go.Ae
