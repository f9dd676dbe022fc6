/- Lemmas. Conditions: none. -/
import Derived.Test.YtogafbdeamcpnaaGreatDoorP13
set_option linter.all false
set_option maxHeartbeats 8000000
set_option maxRecDepth 100000
namespace Go.Ae
open Go.Proofs
def OO{H:Av}{j:Nat}:j∈Fh H↔Ao H j=true:=by
 induction H with
 |nil=>simp[Fh,Ao,hget]
 |cons e r ih=>
  obtain⟨i,e⟩:=e;simp only[Fh,Bm,Ao,hget];by_cases z:i=j
  .subst z;simp
  .have:(i==j)=false:=by simpa using z
   rw[this];simp only[BC];exact⟨λh=>ih.1 (h.resolve_left λh=>z h.symm),λh=> .inr (ih.2 h)⟩
mutual
def cE{n:Nat}: ∀x:AV,(∀m∈x.nms,m<n)->x.bel n=true
 | .any,_=>rfl
 | .im _,_=>rfl
 | .agg z,h=>by simp only[AV.nms] at h;simp only[AV.bel];exact JQ z h
 | .tup z,h=>by simp only[AV.nms] at h;simp only[AV.bel];exact JQ z h
 | .ptr o _,h=>by simp only[AV.bel,E4];exact h o (by simp[AV.nms])
 | .eptr o _ _,h=>by simp only[AV.bel,E4];exact h o (by simp[AV.nms])
 | .own o,h=>by simp only[AV.bel,E4];exact h o (by simp[AV.nms])
 | .mp o,h=>by simp only[AV.bel,E4];exact h o (by simp[AV.nms])
 | .ch o,h=>by simp only[AV.bel,E4];exact h o (by simp[AV.nms])
 | .it o,h=>by simp only[AV.bel,E4];exact h o (by simp[AV.nms])
 | .osl o _ _,h=>by simp only[AV.bel,E4];exact h o (by simp[AV.nms])
 | .clo _ a c,h=>by
   simp only[AV.nms,Bx] at h;simp only[AV.bel,JQ a λm G=>h m (.inl G),JQ c λm G=>h m (.inr G),gB]
def JQ{n:Nat}: ∀xs:List AV,(∀m∈AH xs,m<n)->Aq n xs=true
 |[],_=>rfl
 |x::r,h=>by
  simp only[AH,Bx] at h;simp only[Aq,cE x λm z=>h m (.inl z),JQ r λm z=>h m (.inr z),gB]
end
def oW{n:Nat}: ∀H:Av,(∀p∈H,∀m∈p.2.2.nms,m<n)->Ac n H=true
 |[],_=>rfl
 |(i,(Q,e))::r,h=>by
  have z:=h _ (BT ..);have ih:=oW r λp hp=>h p (BX _ hp)
  cases e with
  |cells T G=>simp only[Ac,ih,F7];exact JQ G (by simpa[Ad.nms] using z)
  |arrA T k rows=>
   simp only[Ac,ih,F7,D3];refine λq hq=>JQ q λm O=>z m ?_
   simp only[Ad.nms];exact Gg.2 ⟨q,hq,O⟩
  |_=>simp only[Ac,ih]
mutual
def cW(σ:Nat->Nat): ∀x:AV,(x.ren σ).nms=x.nms.map σ
 | .any=>rfl
 | .im _=>rfl
 | .agg z=>by simp only[AV.ren,AV.nms];exact JR σ z
 | .tup z=>by simp only[AV.ren,AV.nms];exact JR σ z
 | .ptr o _=>rfl
 | .eptr o _ _=>rfl
 | .own o=>rfl
 | .mp o=>rfl
 | .ch o=>rfl
 | .it o=>rfl
 | .osl o _ _=>rfl
 | .clo _ a c=>by simp only[AV.ren,AV.nms,JR σ a,JR σ c,GH]
def JR(σ:Nat->Nat): ∀xs:List AV,AH (AL σ xs)=(AH xs).map σ
 |[]=>rfl
 |x::r=>by simp only[AL,AH,cW σ x,JR σ r,GH]
end
def Qafh(σ:Nat->Nat)(e:Ad): ∀m∈(e.ren σ).nms,∃j∈e.nms,m=σ j:=by
 intro m z;cases e with
 |cells T Q=>
  simp only[Ad.ren,Ad.nms,JR,Bv] at z⊢;obtain⟨j,G,rfl⟩:=z;exact⟨j,G,rfl⟩
 |arrA T k rows=>
  simp only[Ad.ren,Ad.nms] at z⊢;obtain⟨r,O,z⟩:=Gg.1 z;obtain⟨q,hq,rfl⟩:=Bv.1 O;rw[JR,Bv] at z;obtain⟨j,G,rfl⟩:=z;exact⟨j,Gg.2 ⟨q,hq,G⟩,rfl⟩
 |_=>simp[Ad.ren,Ad.nms] at z
def pH{σ:Nat->Nat}{N:Nat}(H:Av)(h: ∀p∈H,∀m∈p.2.2.nms,σ m<N):Ac N (AY σ H)=true:=by
 refine oW _ ?_;induction H with
 |nil=>intro p hp;cases hp
 |cons x r ih=>
  obtain⟨i,O,e⟩:=x;intro p hp m z;rcases Bm.1 hp with rfl|hp
  .obtain⟨j,G,rfl⟩:=Qafh σ e m z;exact h _ (BT ..) j G
  .exact ih (λp hp=>h p (BX _ hp)) p hp m z
def AE.tau{A:Type}{ca:A->List AV}{H0:A->Av}{k:Nat}{pre:A->Prop}{klB:Nat->Bool}{r0:A->AV}{H1:A->Av}{args:List AV}{tm:List (Nat×AV)}{h:Av}{nx:Nat}{dst:Option Nat}{go:Ai->Prop}(a:A)(τ:Nat->Nat)(ac:pre a)(ai: ∀j,Ao (H0 a) j=true->klB j=true)
 (hd: ∀j,Ao (H0 a) j=true->j<k/\τ j<nx)(aa: ∀i j,Ao (H0 a) i=true->Ao (H0 a) j=true->τ i=τ j->i=j)
 (hcl: ∀p∈H1 a,Ao (H0 a) p.1=true/\ ∀m∈p.2.2.nms,Ao (H0 a) m=true)
 (hx:args=AL (Cm τ k nx) (ca a)/\CO (hget h) (Cm τ k nx) (H0 a))
 (hb: ∀m∈(r0 a).nms,Ao (H0 a) m=true)
 (ag: ∀HH:Av,(∀j e,hget (H1 a) j=some e->hget HH (τ j)=some (e.1,e.2.ren (Cm τ k nx)))->(∀m,(∀j,Ao (H0 a) j=true->τ j≠m)->hget HH m=hget h m)->go ((⟨tm,HH,nx⟩:Ai).put dst ((r0 a).ren (Cm τ k nx)))):
 AE ca H0 k pre klB r0 H1 0 args (hget h) nx (DT go ⟨tm,h,nx⟩ dst):=by
 have hσ: ∀j,Ao (H0 a) j=true->Cm τ k nx j=τ j:=λj z=>An (hd j z).1
 have ah: ∀i j,Ao (H0 a) i=true->Ao (H0 a) j=true->Cm τ k nx i=Cm τ k nx j->i=j:=λi j hi z h=>aa i j hi z (by rwa [hσ i hi,hσ j z] at h)
 have G: ∀m,m∈(Fh (H0 a)).map τ↔ ∃j,Ao (H0 a) j=true/\τ j=m:=λm=>by simp only[Bv,OO]
 have Q: ∀p∈H1 a,Ao (H0 a) p.1=true:=λp hp=>(hcl p hp).1
 refine⟨a,τ,(Fh (H0 a)).map τ,(Fh (H0 a)).map τ,ac,hx.1,hx.2,⟨aa,λj z=>(hd j z).2,λj z=>(G _).2 ⟨j,z,rfl⟩,λm Z=> ?_,λj z _=>(G _).2 ⟨j,z,rfl⟩⟩,?_⟩
 .obtain⟨j,z,rfl⟩:=(G m).1 Z;exact⟨j,z,ai j z,rfl⟩
 refine⟨?_,?_⟩
 .have ad:((r0 a).ren (Cm τ k nx)).bel nx=true:=by
   refine cE _ λm Z=> ?_
   rw[cW,Bv] at Z;obtain⟨j,z,rfl⟩:=Z;rw[hσ j (hb j z)];exact (hd j (hb j z)).2
  have af:Ac nx (AY (Cm τ k nx) (H1 a))=true:=pH _ λp hp m Z=>by
   have:=(hcl p hp).2 m Z
   rw[hσ m this];exact (hd m this).2
  rw[Br.ok_nr,Qr,ad,af,Eb,Eb]
  have: ∀H:Av,(∀p∈H,Ao (H0 a) p.1=true)->Hv ((Fh (H0 a)).map τ) nx 0 (AY (Cm τ k nx) H)=true:=by
   intro H;induction H with
   |nil=>intro _;rfl
   |cons e r ih=>
    obtain⟨i,mu,e⟩:=e;intro hp;have O:=hp _ (BT ..);simp only at O;simp only[AY,Hv,JV,AS,Hd,Hy,E4];refine⟨.inr ⟨?_,?_⟩,ih λp h=>hp p (BX _ h)⟩
    .rw[HK,hσ i O];exact (G _).2 ⟨i,O,rfl⟩
    .rw[hσ i O];exact (hd i O).2
  exact this _ Q
 rw[Ai.app_nr,Qr];refine ag _ (λj e he=> ?_) (λm Z=> ?_)
 .have z:Ao (H0 a) j=true:=by
   have: ∀H:Av,hget H j=some e-> ∃p∈H,p.1=j:=by
    intro H;induction H with
    |nil=>intro h;cases h
    |cons x r ih=>
     obtain⟨i,x⟩:=x;intro h;by_cases ab:i=j
     .exact⟨_,BT ..,ab⟩
     .have hb:(i==j)=false:=by simpa using ab
      simp only[hget,hb,BC] at h;obtain⟨p,O,h2⟩:=ih h;exact⟨p,BX _ O,h2⟩
   obtain⟨p,O,rfl⟩:=this _ he;exact Q p O
  rw[Ql,<-hσ j z,Qv5 (D:=λj=>Ao (H0 a) j=true) ah (H1 a) Q j z,he];rfl
 .rw[Ql];cases hq:hget (AY (Cm τ k nx) (H1 a)) m with
  |some e=>
   obtain⟨j,e0,O,h2,_⟩:=vG hq;have z:=Q _ O;rw[hσ j z] at h2;exact absurd h2 (Z j z)
  |none=>
   rw[WM,Af]
   .rfl
   .rw[HK];intro h;obtain⟨j,z,h2⟩:=(G m).1 h;exact Z j z h2
def pP{go:Ai->Prop}{tm:List (Nat×AV)}{h:Av}{nx:Nat}{dst:Option Nat}{σ:Nat->Nat}(hσ: ∀j,σ j=nx+j){r0:AV}{H1:Av}{cnt:Nat}{u kl:List Nat}(aa:kl=[])
 (hcl: ∀p∈H1,p.1<cnt/\ ∀m∈p.2.2.nms,m<cnt)(hb: ∀m∈r0.nms,m<cnt)
 (Z: ∀G:Av,(∀j e,hget H1 j=some e->hget G (nx+j)=some (e.1,e.2.ren σ))->(∀m,m<nx->hget G m=hget h m)->go ((⟨tm,G,nx+cnt⟩:Ai).put dst (r0.ren σ))):
 DT go ⟨tm,h,nx⟩ dst (r0.ren σ) {use:=u,kill:=kl,new:=AY σ H1,cnt:=cnt}:=by
 subst aa;refine⟨?_,?_⟩
 .have O:(r0.ren σ).bel (nx+cnt)=true:=by
   refine cE _ λm z=> ?_
   rw[cW,Bv] at z;obtain⟨j,hj,rfl⟩:=z
   have:=hb j hj
   rw[hσ];omega
  have Q:Ac (nx+cnt) (AY σ H1)=true:=pH _ λp hp m z=>by
   have:=(hcl p hp).2 m z
   rw[hσ];omega
  rw[Br.ok_nr,O,Q,Eb,Eb];refine Wk _ _ _ _ λp hp=> ?_
  have: ∀H:Av,(∀p∈H,p.1<cnt)-> ∀p∈AY σ H,nx<=p.1/\p.1<nx+cnt:=by
   intro H;induction H with
   |nil=>intro _ p hp;cases hp
   |cons x r ih=>
    obtain⟨i,mu,e⟩:=x;intro hx p hp;have h1:=hx _ (BT ..);simp only at h1;simp only[AY,Bm] at hp;rcases hp with rfl|hp
    .simp only;rw[hσ];omega
    .exact ih (λp h=>hx p (BX _ h)) p hp
  exact this _ (λp hp=>(hcl p hp).1) p hp
 rw[Ai.app_nr,BB];refine Z _ (λj e he=> ?_) (λm z=> ?_)
 .rw[Ql,<-hσ j,pM (λi j h=>by rw[hσ,hσ] at h;omega),he];rfl
 .rw[Ql];cases hq:hget (AY σ H1) m with
  |some e=>
   obtain⟨j,e0,_,h2,_⟩:=vG hq;rw[hσ] at h2;omega
  |none=>rfl
def AE.nw{A:Type}{ca:A->List AV}{H0:A->Av}{pre:A->Prop}{klB:Nat->Bool}{r0:A->AV}{H1:A->Av}{cnt:Nat}{args:List AV}{tm:List (Nat×AV)}{h:Av}{nx:Nat}{dst:Option Nat}{Q:Ai->Prop}(a:A)(z:pre a)(h0:H0 a=[])
 (Z:args=AL (λj=>nx+j) (ca a))(hcl: ∀p∈H1 a,p.1<cnt/\ ∀m∈p.2.2.nms,m<cnt)(hb: ∀m∈(r0 a).nms,m<cnt)
 (O: ∀G:Av,(∀j e,hget (H1 a) j=some e->hget G (nx+j)=some (e.1,e.2.ren λj=>nx+j))->(∀m,m<nx->hget G m=hget h m)->Q ((⟨tm,G,nx+cnt⟩:Ai).put dst ((r0 a).ren λj=>nx+j))):
 AE ca H0 0 pre klB r0 H1 cnt args (hget h) nx (DT Q ⟨tm,h,nx⟩ dst):=by
 have e:Cm (Iz []) 0 nx=λj=>nx+j:=funext λj=>by simp[Cm]
 refine AE.os a [] z (λj=>by rw[h0];simp[Ao,hget]) rfl rfl ⟨by rw[e];exact Z,by rw[h0];trivial⟩ ?_;rw[e];exact pP (λ_=>rfl) rfl hcl hb O
def Fb.nw{A:Type}{ar:List PK->Option A}{pre:A->Prop}{r0:A->AV}{H1:A->Av}{cnt:Nat}{args:List AV}{tm:List (Nat×AV)}{h:Av}{nx:Nat}{dst:Option Nat}{Z:Ai->Prop}(ps:List PK)(Q:CB (hget h) args=some ps)(a:A)(ha:ar ps=some a)(z:pre a)
 (hcl: ∀p∈H1 a,p.1<cnt/\ ∀m∈p.2.2.nms,m<cnt)(hb: ∀m∈(r0 a).nms,m<cnt)
 (O: ∀G:Av,(∀j e,hget (H1 a) j=some e->hget G (nx+j)=some (e.1,e.2.ren λj=>nx+j))->(∀m,m<nx->hget G m=hget h m)->Z ((⟨tm,G,nx+cnt⟩:Ai).put dst ((r0 a).ren λj=>nx+j))):
 Fb ar pre r0 H1 cnt args (hget h) nx (DT Z ⟨tm,h,nx⟩ dst):=by
 have e:Cm (λj=>j) 0 nx=λj=>nx+j:=funext λj=>by simp[Cm]
 unfold Fb;rw[Q];simp only[W8,ha,Eo];rw[e];exact⟨z,pP (λ_=>rfl) rfl hcl hb O⟩
def vF.call{A:Type}{ar:List PK->Option A}{pre:A->Prop}{re:A->D}{args:List AV}{tm:List (Nat×AV)}{h:Av}{nx:Nat}{dst:Option Nat}{Q:Ai->Prop}(ps:List PK)(O:CB (hget h) args=some ps)(a:A)(Z:ar ps=some a)(z:pre a)
 (G:Q ((⟨tm,h,nx⟩:Ai).put dst (.im (re a)))):Lm ar pre re args (hget h) nx (DT Q ⟨tm,h,nx⟩ dst):=by
 unfold Lm;rw[O];simp only[WJ,Z,Eo];refine⟨z,?_,?_⟩
 .rw[Br.ok_nr];simp[AV.bel,Ac,Hv]
 .rw[Ai.app_nr,BB,Qr];exact G
def H2(G:List Ar)(rows:List (List AV))(n:Nat)(f:Nat->Au):Av:=(0,(true,.arr 204 2 (G.map Ar.c)))::(1,(true,.arrA 206 2 rows))::AU 2 n f
def I7(G:List Ar)(rows:List (List AV))(n:Nat)(f:Nat->Au)(j:Nat):Ao (H2 G rows n f) j=true↔j<2+n:=by
 simp only[Ao,H2,hget,lW];by_cases h0:j=0
 .subst h0;simp;omega
 by_cases z:j=1
 .subst z;simp;omega
 rw[Bi _ _ (λh=>h0 h.symm),Bi _ _ (λh=>z h.symm)];simp only[BC];split
 .rename_i h;simp;omega
 .rename_i h;simp;omega
def kG{G:List Ar}{rows:List (List AV)}{n:Nat}{f:Nat->Au}{p:Nat×Au}(hp:p∈H2 G rows n f):p.1<2+n:=by
 simp only[H2,Bm,AU,Bv,BD] at hp;rcases hp with rfl|rfl|⟨j,z,rfl⟩<;>simp only<;>omega
def Dz(a:List Tile)(k:Int)(i:Nat):List (List AV):=(List.range (nT a)).map (Fx a k i)
def Vl(a:List Tile)(k:Int)(i N:Nat)(h:2+nT a<=N):(Dz a k i).all (Aq N)=true:=by
 rw[D3];intro r G;obtain⟨j,z,rfl⟩:=Bv.1 G;exact cR _ _ _ _ _ (by have:=BD.1 z;omega)
def Zp(a:List Tile)(k:Int)(i j:Nat)(σ:Nat->Nat)(h:σ (2+j)=2+j):AL σ (Fx a k i j)=Fx a k i j:=by
 simp only[Fx]
 split<;>simp[I0,AL,AV.ren,h]
def Wj(a:List Tile)(k:Int)(i:Nat)(σ:Nat->Nat)(h: ∀j,j<nT a->σ (2+j)=2+j):(Dz a k i).map (AL σ)=Dz a k i:=by
 rw[Dz,Rn];exact Oj λj z=>Zp _ _ _ _ _ (h j (BD.1 z))
def Nl{G:List Ar}{a:List Tile}{k:Int}{i N:Nat}{f:Nat->Au}(h:2+nT a<=N)(hf: ∀i,Ac N [(2+i,f i)]=true):Ac N (H2 G (Dz a k i) (nT a) f)=true:=by
 simp only[H2,Ac];rw[Rb _ _ _ hf,Vl _ _ _ _ h];rfl
def pO{G:List Ar}{a:List Tile}{k:Int}{i N:Nat}{f:Nat->Au}(h:2+nT a<=N):A8 N (H2 G (Dz a k i) (nT a) f)=true:=by
 simp only[H2,A8];rw[QQ _ _ _ _ (by omega)];simp;omega
def cY{G:List Ar}{a:List Tile}{k:Int}{i:Nat}{f:Nat->Au}(hf: ∀j,(f j).2.nms=[]){p:Nat×Au}(hp:p∈H2 G (Dz a k i) (nT a) f){m:Nat}(z:m∈p.2.2.nms):m<2+nT a:=by
 simp only[H2,Bm,AU,Bv,BD] at hp;rcases hp with rfl|rfl|⟨j,O,rfl⟩
 .simp[Ad.nms] at z
 .simp only[Ad.nms] at z;obtain⟨r,Q,z⟩:=Gg.1 z;obtain⟨j,O,rfl⟩:=Bv.1 Q;rw[cF,BK] at z
  have:=BD.1 O
  omega
 .rw[hf] at z;cases z
def cN{H0:Av}: ∀{H:Av},(∀p∈H,∀m∈p.2.2.nms,Ao H0 m=true)->BO H0 H
 |[],_=>trivial
 |(_,(_,_))::r,h=>⟨h _ (BT ..),cN λp hp=>h p (BX _ hp)⟩
def EV(a:AC×Int):Int:=a.2+2*a.1.Glues.length
def mkTS.ca(a:AC×Int):List AV:=[.agg [.own 0,.own 1],.im (.int .i64 a.2)]
def mkTS.H0(a:AC×Int):Av:=H2 a.1.Glues (Dz a.1.Tiles (EV a) 0) (nT a.1.Tiles) (FQ a.1.Tiles (EV a) 0)
def mkTS.H1(a:AC×Int):Av:=H2 (Dj (gF a.2) a.1.Glues.length) (Dz a.1.Tiles (EV a) (nT a.1.Tiles)) (nT a.1.Tiles) (FQ a.1.Tiles (EV a) (nT a.1.Tiles))
def mkTS.r0(a:AC×Int):AV:= .im (.int .i64 (EU a.1.Tiles (EV a) a.1.Tiles.length))
def mkTS.pre(a:AC×Int):Prop:=0<=a.2/\a.1.Tiles.length<=1048576/\EU a.1.Tiles (EV a) a.1.Tiles.length<=1099511627776
def mkTS.row:AA:=AE mkTS.ca mkTS.H0 2000000 mkTS.pre (λ_=>true) mkTS.r0 mkTS.H1 0
def mkTS.hbel(a:AC×Int):Aq 2000000 (mkTS.ca a)=true:=by simp[mkTS.ca,Aq,AV.bel]
def mkTS.hbH(a:AC×Int):Ac 2000000 (mkTS.H0 a)=true:=Nl (by have:=F9 a.1.Tiles;omega) (λi=>by simp[Ac,FQ])
def mkTS.hkH(a:AC×Int):A8 2000000 (mkTS.H0 a)=true:=pO (by have:=F9 a.1.Tiles;omega)
def mkTS.hnm(a:AC×Int):BO (mkTS.H0 a) (mkTS.H0 a):=
 cN λp hp m z=>(I7 _ _ _ _ _).2 (cY (λj=>by simp[FQ,Ad.nms]) hp z)
def cJ(h:Nat->Option Au): ∀(H:Av),Ia h (λ_=>true) H
 |[]=>trivial
 |(j,e)::r=>⟨trivial,cJ h r⟩
def Ml{H0:Av}{k cnt:Nat}{exB:Nat->Bool}{j:Nat}(h:Ao H0 j=true):IZ H0 k cnt exB j=some j:=by
 simp only[IZ,h,gD,Ck]
def Zo{h:Nat->Option Au}{kx:Nat->Option Nat}{m:Nat}{a:List Tile}{k:Int}{i j:Nat}(z:kx (2+j)=some (2+j)):A7 (Be h kx (m+1)) (Fx a k i j)=some (Fx a k i j):=by
 simp only[Fx]
 split<;>simp only[I0,A7,Be,z,kp]
def pN{h:Nat->Option Au}{kx:Nat->Option Nat}{m:Nat}{a:List Tile}{k:Int}{i:Nat}(G: ∀j,j<nT a->kx (2+j)=some (2+j)):A7 (A7 (Be h kx (m+1))) (Dz a k i)=some (Dz a k i):=
 VE _ λj z=>Zo (G j (BD.1 z))
def mkLC.hcl(a:List Tile×Int): ∀p∈mkLC.H1 a,Ao (mkLC.H0 a) p.1=true/\ ∀m∈p.2.2.nms,Ao (mkLC.H0 a) m=true:=by
 intro p hp;simp only[mkLC.H0,I6];simp only[mkLC.H1,Dy,Bm,AU,Bv,BD] at hp;rcases hp with rfl|⟨j,G,rfl⟩
 .refine⟨.inl rfl,λm z=> ?_⟩;simp only[Ad.nms] at z;obtain⟨r,O,z⟩:=Gg.1 z;obtain⟨j,G,rfl⟩:=Bv.1 O;rw[cF,BK] at z
  have:=BD.1 G
  exact .inr ⟨by omega,by omega⟩
 .exact⟨.inr ⟨by simp only;omega,by simp only;omega⟩,λm z=>by simp[FQ,Ad.nms] at z⟩
def mkTS.hcl(a:AC×Int): ∀p∈mkTS.H1 a,Ao (mkTS.H0 a) p.1=true/\ ∀m∈p.2.2.nms,Ao (mkTS.H0 a) m=true:=
 λp hp=>⟨(I7 _ _ _ _ _).2 (kG hp),λm z=>(I7 _ _ _ _ _).2 (cY (λj=>by simp[FQ,Ad.nms]) hp z)⟩
def mkTS.ok:AB Tryz.prog 61 mkTS.row:=by
 refine ow (tC mkGC.ok (tC mkLC.ok tN)) Tryz.func61 rfl (by kernel_rfl) (exB:=λ_=>false) (R:=λa r=>r=mkTS.r0 a) (λ_=>rfl)
  (λa=>⟨mkTS.hbel a,mkTS.hbH a,mkTS.hkH a,mkTS.hnm a⟩) (λa p hp=> ?_) (λa r h=>by subst h;exact CF.refl _) ?_
 rotate_left
 intro a Q;simp only[Tryz.f61,mkTS.ca];simp(disch:=omega)only[ZA,simprocAttr];obtain⟨S,k⟩:=a;obtain⟨h1,h2,h3⟩:=Q;simp only at h1 h2 h3;have hk:=Nt S.Tiles (EV (S,k)) (by simp only[EV];omega) 0 S.Tiles.length (by omega);have O:EV (S,k)<=1099511627776:=by simp only[EU] at hk;omega
 simp only[EV] at O;have hn:=F9 S.Tiles;simp only[BB,mkTS.H0,H2];refine AE.os (S.Glues,k) [0] ⟨h1,O⟩ (λj=> ?_) rfl rfl ?_ ?_
 .simp only[Ao,mkGC.H0,hget];by_cases z:j=0
  .subst z;simp
  .have:(0==j)=false:=by simpa using λh=>z h.symm
   rw[this];simp;omega
 .simp(disch:=omega)only[ZA,simprocAttr,D6,mkGC.ca,mkGC.H0,CO,De]
  try exact⟨rfl,rfl⟩
 simp(disch:=omega)only[ZA,simprocAttr,D6,mkGC.H1,BB,De,EE];rw[Wl 2 (nT S.Tiles) (FQ S.Tiles (EV (S,k)) 0) [0] (by simp)];have hσ: ∀j,j<nT S.Tiles->Cm (λj=>if j=0 then 1 else j) 2000000 2000001 (2+j)=2+j:=λj z=>by
  simp only[Cm];rw[An (by omega),Af (by omega)]
 have hσ0:Cm (λj=>if j=0 then 1 else j) 2000000 2000001 0=1:=rfl;refine AE.tau (S.Tiles,EV (S,k)) (λj=>if j=0 then 1 else j) ⟨h2,by simp only[EV];omega,h3⟩ (λ_ _=>rfl) (λj z=> ?_) (λi j G z h=> ?_) (mkLC.hcl _) ⟨?_,?_⟩ (by simp[mkLC.r0,AV.nms]) (λZ hH1 aa=> ?_)
 .have z:=(I6 _ _ _ _).1 z;simp only at z⊢
  split<;>omega
 .have G:=(I6 _ _ _ _).1 G;have z:=(I6 _ _ _ _).1 z;simp only at G z h;split at h<;>split at h<;>omega
 .simp only[mkLC.ca,AL,AV.ren,hσ0,EV]
 .simp only[mkLC.H0,Dy,CO,hσ0,Ad.ren];refine⟨?_,Wp λi G=> ?_⟩
  .simp only[hget,Bi _ _ (show 0≠1 by omega),Bi _ _ (show 2000000≠1 by omega),BC,vO,Ck];rw[<-Dz,Wj _ _ _ _ hσ]
  .rw[hσ i G];simp only[hget,Bi _ _ (show 0≠2+i by omega),Bi _ _ (show 2000000≠2+i by omega),Bi _ _ (show 1≠2+i by omega),BC];rw[HE _ _ _ _ G];rfl
 have g0:hget Z 0=some (true,.arr 204 2 ((Dj (gF k) S.Glues.length).map Ar.c)):=by
  rw[aa 0 (λj z=>by
   have z:=(I6 _ _ _ _).1 z;simp only at z⊢
   split<;>omega)]
  rfl
 have g1:hget Z 1=some (true,.arrA 206 2 (Dz S.Tiles (EV (S,k)) (nT S.Tiles))):=by
  have g:=hH1 0 _ rfl;rw[An rfl] at g;rw[g];simp only[Ad.ren];rw[<-Dz,Wj _ _ _ _ hσ]
 have g2: ∀j,j<nT S.Tiles->hget Z (2+j)=some (FQ S.Tiles (EV (S,k)) (nT S.Tiles) j):=λj z=>by
  have:=hH1 (2+j) _ (cM _ _ _ j z)
  simp only[Af (show 2+j≠0 by omega)] at this;rw[this];rfl
 simp only[mkLC.r0,AV.ren];simp(disch:=omega)only[ZA,simprocAttr,mkTS.r0,EV,BB,mkTS.H1,H2];have ab: ∀j,j<nT S.Tiles->Ao ((0,(true,Ad.arr 204 2 (List.map Ar.c S.Glues)))::(1,(true,Ad.arrA 206 2 (Dz S.Tiles (k+2*S.Glues.length) 0)))::AU 2 (nT S.Tiles) (FQ S.Tiles (k+2*S.Glues.length) 0)) (2+j)=true:=λj z=>(I7 _ _ _ _ _).2 (by omega)
 refine⟨cJ _ _,?_,?_,?_⟩
 .rw[g0];exact⟨rfl,rfl⟩
 .rw[g1];refine⟨rfl,?_⟩;simp only[C5];rw[pN (λj z=>Ml (ab j z))];rfl
 .exact NL _ _ _ _ _ (λj z=>g2 j z) (λj z=>rfl)
 obtain⟨q1,_⟩:=mkTS.hcl _ p hp
 have:=(I7 _ _ _ _ _).1 q1
 have:=F9 a.1.Tiles
 exact .inl ⟨by omega,rfl,q1⟩
def Xb{n:Nat}{l:Int}(h:0<=C6 n l):(n:Int)<=l/\C6 n l<=l/\0<=l:=by
 simp only[C6] at h⊢;split at h
 .omega
 .rename_i c;rw[Af c];omega
def Qu5: ∀(a:List Tile) (l:Int),0<=l->l<=1048576->0<=Gj F2 a l-> ∀x∈a,x.Sides.length<=1073741824
 |[],_,_,_,_=>by intro x z;cases z
 |y::r,l,h0,Q,h=>by
  simp only[Gj] at h;split at h
  .omega
  .rename_i c;have G:0<=F2 y l:=by omega
   have O:0<=C6 y.Name.size l:=by
    simp only[F2] at G;split at G
    .omega
    .omega
   have e:F2 y l=C6 y.Sides.length (C6 y.Name.size l):=by
    simp only[F2];rw[Af (by omega)]
   rw[e] at G h;obtain⟨a1,a2,a3⟩:=Xb G;obtain⟨b1,b2,b3⟩:=Xb O;intro x z;rcases Bm.1 z with rfl|z
   .omega
   .exact Qu5 r _ G (by omega) h x z
def Vh{s:AC}{l:Int}(Q: -1<=l)(Z:l<=1048576)(h:0<=Rj s l):UN s:=by
 have hg:=Qo1 s.Glues l Q;simp only[Rj] at h;split at h
 .omega
 rename_i c;have z:0<=Hr s.Glues l:=by omega
 have O:0<=C6 s.Glues.length l:=by
  simp only[Hr] at z;split at z
  .omega
  .omega
 have G:0<=C6 s.Tiles.length (Hr s.Glues l):=by
  simp only[Ll] at h;split at h
  .omega
  .omega
 have e:Ll s.Tiles (Hr s.Glues l)=Gj F2 s.Tiles (C6 s.Tiles.length (Hr s.Glues l)):=by
  simp only[Ll];rw[Af (by omega)]
 rw[e] at h;obtain⟨a1,a2,a3⟩:=Xb O;obtain⟨b1,b2,b3⟩:=Xb G;exact⟨by omega,by omega,Qu5 s.Tiles _ G (by omega) h⟩
def Vi{s:Ax}{l:Int}(G: -1<=l)(z:l<=1048576)(h:0<=lS s l):bN s:=by
 have hb:=Qxk s.Set l G;simp only[lS] at h;split at h
 .omega
 rename_i c;obtain⟨a1,a2,a3⟩:=Xb h;exact⟨Vh G z (by omega),by omega⟩
def syK(a:Ax×Int):Int:=EU a.1.Set.Tiles (EV (a.1.Set,a.2)) a.1.Set.Tiles.length
def mkSy.ca(a:Ax×Int):List AV:=[.agg [.own 0,.own 1,.own 2000000,.im (.int .i64 a.1.Temperature)],.im (.int .i64 a.2)]
def mkSy.H0(a:Ax×Int):Av:=(2000000,(true,.arr 137 3 (a.1.Seed.Tiles.map Al.c)))::mkTS.H0 (a.1.Set,a.2)
def mkSy.H1(a:Ax×Int):Av:=(2000000,(true,.arr 137 3 ((Dj (pF (syK a)) a.1.Seed.Tiles.length).map Al.c)))::mkTS.H1 (a.1.Set,a.2)
def mkSy.r0(a:Ax×Int):AV:= .im (.int .i64 (syK a+3*a.1.Seed.Tiles.length))
def mkSy.pre(a:Ax×Int):Prop:=0<=a.2/\a.1.Set.Tiles.length<=1048576/\syK a+3*a.1.Seed.Tiles.length<=1099511627776
def mkSy.row:AA:=AE mkSy.ca mkSy.H0 2000001 mkSy.pre (λ_=>true) mkSy.r0 mkSy.H1 0
def mkSy.dom0(a:Ax×Int)(j:Nat):Ao (mkSy.H0 a) j=true↔j=2000000\/j<2+nT a.1.Set.Tiles:=by
 by_cases h:j=2000000
 .subst h;simp[Ao,mkSy.H0,hget]
 .have z:(2000000==j)=false:=by simpa using λq=>h q.symm
  have:Ao (mkSy.H0 a) j=Ao (mkTS.H0 (a.1.Set,a.2)) j:=by simp only[Ao,mkSy.H0,hget,z,BC]
  rw[this];simp only[mkTS.H0,I7,h,false_or]
def mkSy.hcl(a:Ax×Int): ∀p∈mkSy.H1 a,Ao (mkSy.H0 a) p.1=true/\ ∀m∈p.2.2.nms,Ao (mkSy.H0 a) m=true:=by
 intro p hp;simp only[mkSy.dom0];rcases Bm.1 hp with rfl|hp
 .exact⟨.inl rfl,λm z=>by simp[Ad.nms] at z⟩
 .have:=mkTS.hcl _ p hp
  simp only[mkTS.H0,I7] at this;exact⟨.inr this.1,λm z=> .inr (this.2 m z)⟩
def mkSy.hbel(a:Ax×Int):Aq 2000001 (mkSy.ca a)=true:=by simp[mkSy.ca,Aq,AV.bel]
def mkSy.hbH(a:Ax×Int):Ac 2000001 (mkSy.H0 a)=true:=by
 simp only[mkSy.H0,Ac];exact Nl (by have:=F9 a.1.Set.Tiles;simp only;omega) (λi=>by simp[Ac,FQ])
def mkSy.hkH(a:Ax×Int):A8 2000001 (mkSy.H0 a)=true:=by
 simp only[mkSy.H0,A8]
 have:=pO (G:=a.1.Set.Glues) (a:=a.1.Set.Tiles) (k:=EV (a.1.Set,a.2)) (i:=0) (N:=2000001) (f:=FQ a.1.Set.Tiles (EV (a.1.Set,a.2)) 0) (by have:=F9 a.1.Set.Tiles;omega)
 simp only[mkTS.H0,this,F7];simp
def mkSy.hnm(a:Ax×Int):BO (mkSy.H0 a) (mkSy.H0 a):=by
 refine cN λp hp m z=>(mkSy.dom0 _ _).2 ?_
 rcases Bm.1 hp with rfl|hp
 .simp[Ad.nms] at z
 .exact .inr (cY (λj=>by simp[FQ,Ad.nms]) hp z)
def Vf{G:List Ar}{rows:List (List AV)}{n:Nat}{f:Nat->Au}(i:Nat)(h:i<n):hget (H2 G rows n f) (2+i)=some (f i):=by
 simp only[H2,hget,Bi _ _ (show 0≠2+i by omega),Bi _ _ (show 1≠2+i by omega),BC];exact HE _ _ _ _ h
def TS{h:Nat->Option Au}{kx:Nat->Option Nat}{m:Nat}{G:List Ar}{a:List Tile}{k:Int}{i:Nat}{f:Nat->Au}(h0:h 0=some (true,.arr 204 2 (G.map Ar.c)))(z:h 1=some (true,.arrA 206 2 (Dz a k i)))(O: ∀j,j<nT a->h (2+j)=some (f j))
 (hf: ∀j,C5 (Be h kx (m+1)) (f j).2=some (f j).2)(Q: ∀j,j<nT a->kx (2+j)=some (2+j)):EY h (Be h kx (m+1)) (H2 G (Dz a k i) (nT a) f):=by
 simp only[H2,EY];refine⟨?_,?_,NL _ _ _ _ _ O (λj _=>hf j)⟩
 .rw[h0];exact⟨rfl,rfl⟩
 .rw[z];refine⟨rfl,?_⟩;simp only[C5];rw[pN Q];rfl
def mkSy.ok:AB Tryz.prog 21 mkSy.row:=by
 refine ow (tC mkTS.ok (tC mkAC.ok tN)) Tryz.func21 rfl (by kernel_rfl) (exB:=λ_=>false) (R:=λa r=>r=mkSy.r0 a) (λ_=>rfl)
  (λa=>⟨mkSy.hbel a,mkSy.hbH a,mkSy.hkH a,mkSy.hnm a⟩) (λa p hp=> ?_) (λa r h=>by subst h;exact CF.refl _) ?_
 rotate_left
 intro a Z;simp only[Tryz.f21,mkSy.ca];simp(disch:=omega)only[ZA,simprocAttr];obtain⟨S,k⟩:=a;obtain⟨h1,h2,h3⟩:=Z;simp only at h1 h2 h3;simp only[BB,mkSy.H0];have hn:=F9 S.Set.Tiles;have hk:=Nt S.Set.Tiles (EV (S.Set,k)) (by simp only[EV];omega) 0 S.Set.Tiles.length (by omega);have aa:0<=syK (S,k):=by simp only[syK];omega
 have hσ: ∀j,j<2+nT S.Set.Tiles->Cm (λj=>j) 2000000 2000002 j=j:=λj z=>An (by omega)
 have O:=λj=>(I7 S.Set.Glues (Dz S.Set.Tiles (EV (S.Set,k)) 0) (nT S.Set.Tiles) (FQ S.Set.Tiles (EV (S.Set,k)) 0) j)
 refine AE.tau (S.Set,k) (λj=>j) ⟨h1,h2,by simp only[syK] at h3;simp only;omega⟩ (λ_ _=>rfl) (λj z=> ?_) (λi j _ _ h=>h) (mkTS.hcl _) ⟨?_,?_⟩ (by simp[mkTS.r0,AV.nms]) (λG hH1 Q=> ?_)
 .have z:=(O j).1 z;omega
 .simp only[mkTS.ca,AL,AV.ren,hσ 0 (by omega),hσ 1 (by omega)]
 .simp only[mkTS.H0,H2,CO,hσ 0 (by omega),hσ 1 (by omega),Ad.ren];rw[Wj _ _ _ _ (λj z=>hσ _ (by omega))];refine⟨rfl,rfl,Wp λi hi=> ?_⟩;rw[hσ _ (by omega)];simp only[hget,Bi _ _ (show 2000001≠2+i by omega),Bi _ _ (show 2000000≠2+i by omega),Bi _ _ (show 0≠2+i by omega),Bi _ _ (show 1≠2+i by omega),BC];rw[HE _ _ _ _ hi];rfl
 have hu: ∀m,m=2000000\/m=2000001-> ∀j,Ao (mkTS.H0 (S.Set,k)) j=true->j≠m:=λm hm j z=>by
  have z:=(O j).1 z;omega
 have gs:hget G 2000000=some (true,.arr 137 3 (S.Seed.Tiles.map Al.c)):=by rw[Q _ (hu _ (.inl rfl))];rfl
 have gp:hget G 2000001=some (true,.cells 47 [.own 0,.own 1,.own 2000000,.im (.int .i64 S.Temperature)]):=by rw[Q _ (hu _ (.inr rfl))];rfl
 have g0:hget G 0=some (true,.arr 204 2 ((Dj (gF k) S.Set.Glues.length).map Ar.c)):=hH1 0 _ rfl;have g1:hget G 1=some (true,.arrA 206 2 (Dz S.Set.Tiles (EV (S.Set,k)) (nT S.Set.Tiles))):=by
  rw[hH1 1 _ rfl];simp only[Ad.ren];rw[Wj _ _ _ _ (λj z=>hσ _ (by omega))]
 have g2: ∀j,j<nT S.Set.Tiles->hget G (2+j)=some (FQ S.Set.Tiles (EV (S.Set,k)) (nT S.Set.Tiles) j):=λj z=>by
  have e:hget (mkTS.H1 (S.Set,k)) (2+j)=some (FQ S.Set.Tiles (EV (S.Set,k)) (nT S.Set.Tiles) j):=Vf j z;rw[hH1 (2+j) _ e];rfl
 have eK:EU S.Set.Tiles (EV (S.Set,k)) S.Set.Tiles.length=syK (S,k):=rfl;simp only[mkTS.r0,AV.ren,eK];simp(disch:=omega)only[ZA,simprocAttr,BB,gp]
 skip
 refine AE.os (S.Seed,syK (S,k)) [2000000] ⟨aa,h3⟩ (λj=> ?_) rfl rfl ?_ ?_
 .simp only[Ao,mkAC.H0,hget];by_cases z:j=0
  .subst z;simp
  .have:(0==j)=false:=by simpa using λh=>z h.symm
   rw[this];simp;omega
 .simp(disch:=omega)only[ZA,simprocAttr,D6,mkAC.ca,mkAC.H0,CO,De,gs]
  try exact⟨rfl,rfl⟩
 simp(disch:=omega)only[ZA,simprocAttr,D6,mkAC.H1,BB,De,EE,mkSy.r0,mkSy.H1];obtain⟨HX,hHX⟩: ∃HX,HX=hget ((2000000,(true,Ad.arr 137 3 (List.map Al.c (Dj (pF (syK (S,k))) S.Seed.Tiles.length))))::Bh G [2000000]):=⟨_,rfl⟩;rw[<-hHX];have gx: ∀m,m≠2000000->HX m=hget G m:=λm hm=>by
  rw[hHX];simp only[hget,Bi _ _ (λh=>hm h.symm:2000000≠m),BC];exact Lh _ _ _ (λh=>hm h.symm)
 refine⟨cJ _ _,TS (by rw[gx 0 (by omega)];exact g0) (by rw[gx 1 (by omega)];exact g1) (λj z=>by simp only at z;rw[gx _ (by omega)];exact g2 j z) (λj=>rfl) (λj z=>Ml ?_)⟩;simp only at z
 have:=(mkSy.dom0 (S,k) (2+j)).2 (.inr (by simp only;omega))
 simpa only[mkSy.H0] using this
 obtain⟨q1,_⟩:=mkSy.hcl _ p hp
 have:=(mkSy.dom0 _ _).1 q1
 have:=F9 a.1.Set.Tiles
 exact .inl ⟨by omega,rfl,q1⟩
def H7(a:List Tile):Nat:=(a.map λx=>x.Sides.length).sum
def pG(y:Tile)(r:List Tile)(k:Int): ∀i,EU (y::r) k (i+1)=EU r (k+1+y.Sides.length) i
 |0=>rfl
 |i+1=>by
  rw[EU,pG y r k i,EU];rfl
def Nu: ∀(a:List Tile) (k:Int),EU a k a.length=k+a.length+H7 a
 |[],k=>by simp[EU,H7]
 |y::r,k=>by
  rw[CP,pG,Nu r];simp only[H7,Bd,Lx];omega
def kH{n:Nat}{l:Int}(h:0<=C6 n l):C6 n l=l - n:=by
 simp only[C6] at h⊢;split at h
 .omega
 .rename_i c;rw[Af c]
def oZ: ∀(a:List Tile) (l:Int),0<=l->0<=Gj F2 a l->(H7 a:Int)+Gj F2 a l<=l
 |[],l,h0,_=>by simp[H7,Gj]
 |y::r,l,h0,h=>by
  simp only[Gj] at h⊢;by_cases c:F2 y l<0
  .rw[An c] at h;omega
  .rw[Af c] at h⊢;have z:0<=F2 y l:=by omega
   have G:0<=C6 y.Name.size l:=by
    simp only[F2] at z;split at z<;>omega
   have e:F2 y l=C6 y.Sides.length (C6 y.Name.size l):=by
    simp only[F2];rw[Af (by omega)]
   rw[e] at z h⊢;have q1:=Xb G;have O:=kH z;have ih:=oZ r _ z h;simp only[H7,Bd,Lx] at ih⊢;omega
structure Hb(s:Ax):Prop where
 g:s.Set.Glues.length<=1048576
 t:s.Set.Tiles.length<=1048576
 d:H7 s.Set.Tiles<=1048576
 p:s.Seed.Tiles.length<=1048576
def Zk{s:Ax}{l:Int}(Z: -1<=l)(aa:l<=1048576)(h:0<=lS s l):Hb s:=by
 have hb:=Qxk s.Set l Z;simp only[lS] at h;split at h
 .omega
 rename_i c;obtain⟨a1,_,_⟩:=Xb h;have z:0<=Rj s.Set l:=by omega
 have hg:=Qo1 s.Set.Glues l Z;simp only[Rj] at z;split at z
 .omega
 have G:0<=Hr s.Set.Glues l:=by omega
 have Q:0<=C6 s.Set.Glues.length l:=by
  simp only[Hr] at G;split at G<;>omega
 have O:0<=C6 s.Set.Tiles.length (Hr s.Set.Glues l):=by
  simp only[Ll] at z;split at z<;>omega
 have e:Ll s.Set.Tiles (Hr s.Set.Glues l)=Gj F2 s.Set.Tiles (C6 s.Set.Tiles.length (Hr s.Set.Glues l)):=by
  simp only[Ll];rw[Af (by omega)]
 rw[e] at z;obtain⟨b1,_,_⟩:=Xb Q;obtain⟨d1,d2,_⟩:=Xb O
 have:=oZ s.Set.Tiles _ O z
 exact⟨by omega,by omega,by omega,by omega⟩
def jV{a:List Tile}{x:Tile}(h:x∈a):x.Sides.length<=H7 a:=by
 induction a with
 |nil=>cases h
 |cons y r ih=>
  simp only[H7,Bd,Lx] at ih⊢;rcases Bm.1 h with rfl|h
  .omega
  .have:=ih h;omega
def Hb.yx{s:Ax}(h:Hb s):toYX.pre s:=⟨⟨by have:=h.g;omega,⟨h.t,λx z=>by have:=jV z;have:=h.d;omega⟩⟩,by have:=h.p;omega⟩
def Hb.syK{s:Ax}(h:Hb s){k:Int}(G:0<=k)(z:k<=1048576):0<=syK (s,k)/\Go.Ae.syK (s,k)+3*s.Seed.Tiles.length<=9437184:=by
 simp only[Go.Ae.syK,Nu,EV]
 have:=h.g;have:=h.t;have:=h.d;have:=h.p
 omega
def Hb.mkp{s:Ax}(h:Hb s){k:Int}(G:0<=k)(z:k<=1048576):mkSy.pre (s,k):=⟨G,h.t,by have:=(h.syK G z).2;simp only;omega⟩
structure Fa(h:Nat->Option Au)(g t p f:Nat)(s:Ax):Prop where
 g:h g=some (true,.arr 204 2 (s.Set.Glues.map Ar.c))
 t:h t=some (true,.arrA 206 2 (Ic f s.Set.Tiles))
 p:h p=some (true,.arr 137 3 (s.Seed.Tiles.map Al.c))
 f: ∀i,i<s.Set.Tiles.length->h (f+i)=some (E9 s.Set.Tiles i)
def Vj{h:Nat->Option Au}{n f:Nat}{a:List Tile}(hf: ∀i,i<a.length->h (f+i)=some (E9 a i)):A7 (A7 (bk h (n+1))) (Ic f a)=some (a.map Tile.c):=by
 have e:a.map Tile.c=(List.range a.length).map λi=>((a[i]?.map Tile.c).getD []):=by
  apply Kr;intro i;rw[D2,D2];by_cases z:i<a.length
  .rw[HN z,Bk z];simp[z]
  .rw[FG (by omega),FG (by simp;omega)];rfl
 rw[e];refine VE _ λi z=> ?_
 have z:=BD.1 z;have G:a[i]? =some a[i]:=Bk z;simp only[A7,bk,hf i z,E9,Km,G,CQ,AM,Tile.c]
def Fa.bk{h:Nat->Option Au}{g t p f n:Nat}{s:Ax}(hs:Fa h g t p f s):Go.Ae.bk h (n+3) (.agg [.own g,.own t,.own p,.im (.int .i64 s.Temperature)])=some (.agg (Ax.c s)):=by
 simp only[Go.Ae.bk,A7,hs.g,hs.t,hs.p,Km,Vj hs.f,CQ,Ax.c]
def Fa.pk{h:Nat->Option Au}{g t p f:Nat}{s:Ax}(hs:Fa h g t p f s):E7 h (.agg [.own g,.own t,.own p,.im (.int .i64 s.Temperature)])=some (.val (.agg (Ax.c s))):=by
 simp only[E7,hs.bk (n:=6),ES,CQ]
def vN.call{A:Type}{ar:List PK->Option A}{pre:A->Prop}{re:A->D}{args:List AV}{tm:List (Nat×AV)}{h:Av}{nx:Nat}{dst:Option Nat}{Q:Ai->Prop}(ps:List PK)(O:KJ (hget h) args=some (ps,[]))(a:A)(Z:ar ps=some a)(z:pre a)
 (G:Q ((⟨tm,h,nx⟩:Ai).put dst (.im (re a)))):Ee ar pre re args (hget h) nx (DT Q ⟨tm,h,nx⟩ dst):=by
 unfold Ee;rw[O];simp only[Zz,Z,Eo,Sv];refine⟨z,?_,?_⟩
 .rw[Br.ok_nr];simp[AV.bel,Ac,Hv]
 .rw[Ai.app_nr,BB,Qr];exact G
def Vg(s:Ax):a1 (kR Ax.d) [.val (.agg (Ax.c s))]=some s:=by simp only[a1,kR,Ax.d_c,Eg]
def yC(s t:Ax):a2 (kR Ax.d) (kR Ax.d) [.val (.agg (Ax.c s)),.val (.agg (Ax.c t))]=some (s,t):=by simp only[a2,kR,Ax.d_c,Eg]
def wS(l m:List Int):a2 (kS Cu) (kS Cu) [.val (.sl false 1 (l.map Aj)),.val (.sl false 1 (m.map Aj))]=some (l,m):=by simp only[a2,kS,NX Wv,Eg]
def toYR.row:AA:=nH toSystem.row toYX.row
def toYR.ok:AB Tryz.prog 11 toYR.row:=W5 toSystem.ok toYX.ok
def yJ{s:Ax}(hs:Hb s): ∀p∈toYX.H1 s,p.1<2000013/\ ∀m∈p.2.2.nms,m<2000013:=by
 have z:min s.Set.Tiles.length 1048576<=1048576:=gG _ _;have Z:=hs.t;intro p hp;simp only[toYX.H1,Bm,AU,Bv,BD] at hp;rcases hp with rfl|rfl|rfl|⟨i,Q,rfl⟩
 .exact⟨by omega,by simp[Ad.nms]⟩
 .refine⟨by omega,λm z=> ?_⟩;simp only[Ad.nms] at z;obtain⟨r,O,z⟩:=Gg.1 z;obtain⟨j,G,rfl⟩:=Bv.1 O
  have:=BD.1 G
  simp[AH,AV.nms] at z;omega
 .exact⟨by omega,by simp[Ad.nms]⟩
 .exact⟨by simp only;omega,by simp[E9,Ad.nms]⟩
def Fa.mono{h h':Nat->Option Au}{g t p f:Nat}{s:Ax}(hs:Fa h g t p f s)(z: ∀m,(m=g\/m=t\/m=p\/(f<=m/\m<f+s.Set.Tiles.length))->h' m=h m):Fa h' g t p f s:=
 ⟨by rw[z g (.inl rfl)];exact hs.g,by rw[z t (.inr (.inl rfl))];exact hs.t,by rw[z p (.inr (.inr (.inl rfl)))];exact hs.p,λi G=>by rw[z _ (.inr (.inr (.inr ⟨by omega,by omega⟩)))];exact hs.f i G⟩
def yI{s:Ax}(hs:Hb s){nx:Nat}{z:Av}(h: ∀j e,hget (toYX.H1 s) j=some e->hget z (nx+j)=some (e.1,e.2.ren λj=>nx+j)):Fa (hget z) (nx+7) (nx+9) (nx+2000012) (nx+10) s:=by
 have Q:=hs.t;have O:min s.Set.Tiles.length 1048576=s.Set.Tiles.length:=by omega
 refine⟨h 7 _ rfl,?_,h 2000012 _ rfl,λi G=> ?_⟩
 .rw[h 9 _ rfl];simp only[Ad.ren];congr 3;simp only[Ic,Rn];refine Oj λi G=> ?_
  simp only[Function.comp,AL,AV.ren];rw[Qq]
 .have e:hget (toYX.H1 s) (10+i)=some (E9 s.Set.Tiles i):=by
   simp only[toYX.H1,hget,Bi _ _ (show 7≠10+i by omega),Bi _ _ (show 9≠10+i by omega),Bi _ _ (show 2000012≠10+i by omega),BC];rw[O];exact HE _ _ _ _ G
  rw[Qq,h _ _ e];rfl
def Wt{H:Av}(e:Au)(k m:Nat)(h:k≠m):hget ((k,e)::Bh H [k]) m=hget H m:=by
 simp only[hget,Bi _ _ h,BC];exact Lh _ _ _ h
def Pj{h:Nat->Option Au}{x y:AV}{p q:PK}(z:E7 h x=some p)(G:E7 h y=some q):CB h [x,y]=some [p,q]:=by simp only[CB,z,G,I3]
def bG{h:Nat->Option Au}{o T k:Nat}{z:Bool}{rows:List (List D)}(g:h o=some (z,.arr T k rows)):E7 h (.own o)=some (.val (.sl false k rows)):=by simp only[E7,bk,g,Km,ES,CQ]
def pA: ∀l:List Nat,J7 l []=true
 |[]=>rfl
 |x::r=>by simp[J7,pA r]
def JT:List Fp->Bool
 |[]=>true
 |f::r=>f.touch.isEmpty && JT r
def cD(cl:List (List Nat))(i:Nat)(use:List Nat): ∀acc:List Fp,JT acc=true->I5 cl i use [] [] acc=true
 |[],_=>rfl
 |f::r,h=>by
  simp only[JT,AS,List.isEmpty_iff] at h;simp only[I5,mY,h.1,D8,pA,J7,G3,gB,Ck,cD cl i use r h.2]
def vN.callA{A:Type}{ar:List PK->Option A}{pre:A->Prop}{re:A->D}{args:List AV}{tm:List (Nat×AV)}{h:Av}{nx:Nat}{dst:Option Nat}{Q:V3}{cl:List (List Nat)}{i:Nat}{acc:List Fp}(ps:List PK)(O:KJ (hget h) args=some (ps,[]))(a:A)(Z:ar ps=some a)(z:pre a)(hq:JT acc=true)
 (G: ∀u,Q (⟨i,u,[],nx,0⟩::acc) ((⟨tm,h,nx⟩:Ai).put dst (.im (re a)))):Ee ar pre re args (hget h) nx (NP cl i acc Q ⟨tm,h,nx⟩ dst):=by
 unfold Ee;rw[O];simp only[Zz,Z,Eo,Sv];refine⟨z,?_,?_,?_⟩
 .rw[Br.ok_nr];simp[AV.bel,Ac,Hv]
 .exact cD _ _ _ _ hq
 .rw[Ai.app_nr,BB,Qr];exact G _
def vF.callA{A:Type}{ar:List PK->Option A}{pre:A->Prop}{re:A->D}{args:List AV}{tm:List (Nat×AV)}{h:Av}{nx:Nat}{dst:Option Nat}{Q:V3}{cl:List (List Nat)}{i:Nat}{acc:List Fp}(ps:List PK)(O:CB (hget h) args=some ps)(a:A)(Z:ar ps=some a)(z:pre a)(hq:JT acc=true)
 (G: ∀u,Q (⟨i,u,[],nx,0⟩::acc) ((⟨tm,h,nx⟩:Ai).put dst (.im (re a)))):Lm ar pre re args (hget h) nx (NP cl i acc Q ⟨tm,h,nx⟩ dst):=by
 unfold Lm;rw[O];simp only[WJ,Z,Eo];refine⟨z,?_,?_,?_⟩
 .rw[Br.ok_nr];simp[AV.bel,Ac,Hv]
 .exact cD _ _ _ _ hq
 .rw[Ai.app_nr,BB,Qr];exact G _
def OU{N nx:Nat}{tm:List (Nat×AV)}{h:Av}{dst:Option Nat}{go:Ai->Prop}{s:Ax}{k:Int}(hB:Hb s)(hk:0<=k)(ac:k<=1048576)(Z:Fa (hget h) (N+7) (N+9) (N+2000012) (N+10) s)(ad:N+2000013<=nx)
 (ab: ∀Q:Av,(∀m,m<N+7\/N+2000013<=m->hget Q m=hget h m)->go ((⟨tm,Q,nx⟩:Ai).put dst (.im (.int .i64 (syK (s,k)+3*s.Seed.Tiles.length))))):
 mkSy.row [.agg [.own (N+7),.own (N+9),.own (N+2000012),.im (.int .i64 s.Temperature)],.im (.int .i64 k)] (hget h) nx (DT go ⟨tm,h,nx⟩ dst):=by
 have ht:=hB.t;have hn:=F9 s.Set.Tiles;have O:nT s.Set.Tiles=s.Set.Tiles.length:=by simp only[nT];omega
 obtain⟨τ,hτ⟩: ∃τ:Nat->Nat,τ=λj=>if j=2000000 then N+2000012 else if j=0 then N+7 else N+8+j:=⟨_,rfl⟩
 have t0:τ 0=N+7:=by rw[hτ];rfl
 have t1:τ 1=N+9:=by rw[hτ];rfl
 have t2: ∀j,j<1048576->τ (2+j)=N+10+j:=λj z=>by rw[hτ];simp only;rw[Af (by omega),Af (by omega)];omega
 have tp:τ 2000000=N+2000012:=by rw[hτ];exact An rfl
 have hσ: ∀j,j<2000001->Cm τ 2000001 nx j=τ j:=λj z=>An z
 have d0: ∀j,Ao (mkSy.H0 (s,k)) j=true->j=2000000\/j<2+s.Set.Tiles.length:=λj z=>by
  have:=(mkSy.dom0 _ _).1 z
  simp only[O] at this;exact this
 have rg: ∀j,Ao (mkSy.H0 (s,k)) j=true->N+7<=τ j/\τ j<N+2000013:=λj z=>by
  rcases d0 j z with rfl|z
  .rw[tp];omega
  .rw[hτ];simp only;rw[Af (by omega)]
   split<;>omega
 refine AE.tau (s,k) τ (hB.mkp hk ac) (λ_ _=>rfl) (λj z=> ?_) (λi j G z h=> ?_) (mkSy.hcl _) ⟨?_,?_⟩ (by simp[mkSy.r0,AV.nms]) (λQ _ aa=> ?_)
 .have h1:=d0 j z;have h2:=rg j z;omega
 .have h1:=d0 i G;have h2:=d0 j z;have tv: ∀j,(j=2000000/\τ j=N+2000012)\/(j=0/\τ j=N+7)\/(j≠2000000/\j≠0/\τ j=N+8+j):=λj=>by
   rw[hτ];simp only;split
   .exact .inl ⟨by assumption,rfl⟩
   split
   .exact .inr (.inl ⟨by assumption,rfl⟩)
   .exact .inr (.inr ⟨by assumption,by assumption,rfl⟩)
  have v1:=tv i;have v2:=tv j;omega
 .simp only[mkSy.ca,AL,AV.ren,hσ 0 (by omega),hσ 1 (by omega),hσ 2000000 (by omega),t0,t1,tp]
 .simp only[mkSy.H0,mkTS.H0,H2,CO,hσ 0 (by omega),hσ 1 (by omega),hσ 2000000 (by omega),t0,t1,tp,Ad.ren];refine⟨Z.p,Z.g,?_,Wp λi G=> ?_⟩
  .rw[Z.t];congr 3;simp only[Ic,Dz,Rn,O];refine Oj λi G=> ?_
   have G:=BD.1 G;simp only[Function.comp,Fx,mP,CK,I0,AL,AV.ren];rw[hσ _ (by omega),t2 i (by omega)]
  .rw[O] at G;rw[hσ _ (by omega),t2 i (by omega),Z.f i G];rfl
 exact ab Q λm hm=>aa m λj z=>by have:=rg j z;omega
def mkIC.d0(a:List Int×Int)(j:Nat)(z:Ao (mkIC.H0 a) j=true):j=0:=by
 simp only[Ao,mkIC.H0,hget] at z;by_cases h:j=0
 .exact h
 .rw[Bi _ _ (λq=>h q.symm)] at z;cases z
def OR{nx o:Nat}{tm:List (Nat×AV)}{h:Av}{dst:Option Nat}{go:Ai->Prop}{l:List Int}{k:Int}(hk:0<=k)(Z:k+l.length<=1099511627776)(hS:hget h o=some (true,.arr 2 1 (l.map Aj)))(aa:o<nx)
 (Q: ∀G:Av,(∀j e,hget (mkIC.H1 (l,k)) j=some e->hget G o=some (e.1,e.2.ren (Cm (λ_=>o) 1 nx)))->(∀m,m≠o->hget G m=hget h m)->go ((⟨tm,G,nx⟩:Ai).put dst (.im (.int .i64 (k+l.length))))):
 mkIC.row [.own o,.im (.int .i64 k)] (hget h) nx (DT go ⟨tm,h,nx⟩ dst):=by
 refine AE.tau (l,k) (λ_=>o) ⟨hk,Z⟩ (λj z=>by rw[mkIC.d0 _ j z];rfl) (λj z=>⟨by rw[mkIC.d0 _ j z];omega,aa⟩) (λi j hi z _=>by rw[mkIC.d0 _ i hi,mkIC.d0 _ j z]) (λp hp=> ?_) ⟨rfl,hS,trivial⟩ (by simp[AV.nms]) (λG hH1 O=>Q G hH1 λm hm=>O m λj z h=>hm h.symm);simp only[mkIC.H1,BK] at hp;subst hp;exact⟨rfl,λm hm=>by simp[Ad.nms] at hm⟩
def needX.pre(a:Cn):Prop:=(∀o∈a.Seq,FD o.At)/\a.Inputs.length=a.Seq.length/\a.Seq.length<=500
def eqSSF.fv(a:(List (List Int))×(List (List Int))):Bool:=(λa b=>decide (a=b)) (a.1) (a.2)
def eqSSF.row:AA:=CR (b2 (qS Qi NW) (qS Qi NW)) rB (λa=>True) eqSSF.fv
def eqSSF.q:=CY (R:=eqSSF.row) rfl
def eqSSF.ok:AB Tryz.prog 80 eqSSF.row:=by
 refine Fy (tC eqInt64S.ok tN) Tryz.func80 rfl (by kernel_rfl) ?_;intro a Z;simp only[Tryz.f80];simp(disch:=omega)only[ZA,simprocAttr,eqSSF.fv,D.sc,D.scs,Bn];intro h1 h2;simp only[AO];refine⟨λG=> ?_,λG=> ?_⟩
 .have:a.1≠a.2:=λh=>G (by rw[h])
  simp[this]
 have G:a.1.length=a.2.length:=by omega
 refine AP.old ⟨{k:Nat//k<=a.1.length/\a.1.take k=a.2.take k},λk=>⟨[(5,.im (.int .i64 k.1)),(4,.im (.bool false)),(0,.im (.sl false 1 (a.1.map C8))),(1,.im (.sl false 1 (a.2.map C8)))],[],0⟩,λk=>a.1.length - k.1,λk=>⟨by simp[Ai.good,Am,Ac,A8,AV.bel],AQ _⟩,⟨⟨0,by simp⟩,by simp(disch:=omega)only[ZA,simprocAttr,sub]⟩,λk=> ?_⟩;obtain⟨k,Q,z⟩:=k;simp(disch:=omega)only[ZZ,simprocAttr,eqInt64S.q,eqInt64S.fv,D.sc,D.scs,Bn,sub,AO];intro _;refine⟨λO=>⟨O,λx hx=>⟨by omega,λy hy=> ?_⟩⟩,λO=> ?_⟩
 .obtain⟨g1,g2⟩:=eC G Q z hx hy;exact⟨λh=>by simp[g2 (show x≠y from h)],λh=>Gi O h1 ⟨by omega,g1 (show x=y from FX.1 h)⟩⟩
 .rw[DQ (by omega),DQ (by omega)] at z;simp[z]
def Vr(M:List (List Int)):Nat:=(M.map List.length).sum
def I9:List (List Int)->Int->Int
 |[],k=>k
 |x::r,k=>if Gh x k<0 then -1 else I9 r (Gh x k)
def SH(x:List Int)(k:Int):Gh x k=k+x.length\/Gh x k= -1:=by
 simp only[Gh];split
 .exact .inl rfl
 .exact .inr rfl
def heldSS.fv(a:(List (List Int))×Int):Int:=(I9) (a.1) (a.2)
def heldSS.row:AA:=CR (b2 (qS Qi NW) qI) rI (λa=>0<=a.2/\a.2+Vr a.1<=1099511627776) heldSS.fv
def heldSS.q:=CY (R:=heldSS.row) rfl
def heldSS.ok:AB Tryz.prog 83 heldSS.row:=by
 refine Fy (tC heldIS.ok tN) Tryz.func83 rfl (by kernel_rfl) ?_;intro a G;simp only[Tryz.f83];simp(disch:=omega)only[ZA,simprocAttr,heldSS.fv];obtain⟨M,k⟩:=a;simp only at G⊢;obtain⟨h1,h2⟩:=G;refine AP.old ⟨{i:Nat×Int//i.1<=M.length/\I9 M k=I9 (M.drop i.1) i.2/\0<=i.2/\i.2+Vr (M.drop i.1)<=1099511627776},λi=>⟨[(5,.im (.int .i64 i.1.1)),(4,.im (.int .i64 0)),(1,.im (.int .i64 i.1.2)),(0,.im (.sl false 1 (M.map C8)))],[],0⟩,λi=>M.length - i.1.1,λi=>⟨by simp[Ai.good,Am,Ac,A8,AV.bel],by simp⟩,⟨⟨(0,k),by simp only[Hh];exact⟨Cz _,trivial,h1,h2⟩⟩,by simp(disch:=omega)only[ZA,simprocAttr,sub]⟩,λi=> ?_⟩;obtain⟨⟨i,q⟩,Z,z,Q,O⟩:=i;simp only at Z z Q O;simp(disch:=omega)only[ZZ,simprocAttr,Cl,heldIS.q,heldIS.fv,D.sc,D.scs,Bn,sub,AO];intro _;refine⟨λhi=>⟨hi,λx hx=> ?_⟩,λhi=> ?_⟩
 .rw[EW hx] at z O;have ht:Vr (x::M.drop (i+1))=x.length+Vr (M.drop (i+1)):=rfl;rw[ht] at O;refine⟨⟨Q,by omega⟩,λc=> ?_,λc=>⟨⟨(i+1,Gh x q),?_⟩,by simp only;omega,by rw[AG (by omega) (by omega)];simp only;omega,rfl⟩⟩
  .rw[z,I9,An c]
  .rcases SH x q with e|e
   .simp only;refine⟨by omega,?_,by omega,by omega⟩;rw[z,I9,Af c]
   .omega
 .rw[Dr (by omega),I9] at z;exact z.symm
structure Q8(h:Nat->Option Au)(o b:Nat)(M:List (List Int)):Prop where
 r:h o=some (true,.arrA 32 1 (Dp b M.length))
 f: ∀i,i<M.length->h (b+i)=some (true,.arr 2 1 ((M[i]?.getD []).map Aj))
def Q8.mono{h h':Nat->Option Au}{o b:Nat}{M:List (List Int)}(hs:Q8 h o b M)(z: ∀m,(m=o\/(b<=m/\m<b+M.length))->h' m=h m):Q8 h' o b M:=
 ⟨by rw[z o (.inl rfl)];exact hs.r,λi G=>by rw[z _ (.inr ⟨by omega,by omega⟩)];exact hs.f i G⟩
def Q8.pk{h:Nat->Option Au}{o b:Nat}{M:List (List Int)}(hs:Q8 h o b M):E7 h (.own o)=some (.val (.sl false 1 (M.map C8))):=by
 have e:A7 (A7 (bk h 8)) (Dp b M.length)=some (M.map C8):=by
  have G:M.map C8=(List.range M.length).map λi=>C8 (M[i]?.getD []):=by
   apply Kr;intro i;rw[D2,D2];by_cases z:i<M.length
   .rw[HN z,Bk z];simp[z]
   .rw[FG (by omega),FG (by simp;omega)];rfl
  rw[G];refine VE _ λi z=> ?_
  have z:=BD.1 z;simp only[A7,bk,hs.f i z,Km,C8]
 simp only[E7,bk,hs.r,Km,e,CQ,ES]
def WD{A:Type}(f:Nat->A)(n:Nat):(Dj f n).length=n:=by simp[Dj]
def FA(l:List Ap)(k:Int):Int:=if l=Dj (oF k) l.length then k+3*l.length else -1
def SI(k:Int)(n:Nat):FA (Dj (oF k) n) k=k+3*n:=by
 simp only[FA,WD,BM]
def rU{A:Type}(f:Nat->A)(n:Nat):Dj f (n+1)=Dj f n++[f n]:=by simp[Dj,mO]
def N2{A:Type}{f:Nat->A}{n i:Nat}(h:i<n):(Dj f n)[i]? =some (f i):=by simp only[Dj,D2];rw[HN h];rfl
def heldO_.fv(a:(List Ap)×Int):Int:=(FA) (a.1) (a.2)
def heldO_.row:AA:=CR (b2 (qS Ap.d_le Ap.c_n) qI) rI (λa=>0<=a.2/\a.2+3*a.1.length<=1099511627776) heldO_.fv
def heldO_.q:=CY (R:=heldO_.row) rfl
def heldO_.ok:AB Tryz.prog 26 heldO_.row:=by
 refine Fy tN Tryz.func26 rfl (by kernel_rfl) ?_;intro a z;simp only[Tryz.f26];simp(disch:=omega)only[ZA,simprocAttr,heldO_.fv];obtain⟨l,k⟩:=a;simp only at z⊢;obtain⟨h1,h2⟩:=z;refine AP.old ⟨{i:Nat//i<=l.length/\l.take i=Dj (oF k) i},λi=>⟨[(5,.im (.int .i64 i.1)),(4,.im (.int .i64 0)),(1,.im (.int .i64 (k+3*i.1))),(0,.im (.sl false 3 (l.map Ap.c)))],[],0⟩,λi=>l.length - i.1,λi=>⟨by simp[Ai.good,Am,Ac,A8,AV.bel],by simp⟩,⟨⟨0,by simp[Dj]⟩,by simp(disch:=omega)only[ZA,simprocAttr,sub];simp⟩,λi=> ?_⟩;obtain⟨i,ab,G⟩:=i;simp(disch:=omega)only[ZA,simprocAttr,D.sc,D.scs,Bn,sub,AO];intro _;have w1:IntKind.i64.wrap (k+3*(i:Int)+1)=k+3*(i:Int)+1\/ ¬i<l.length:=by
  by_cases c:i<l.length
  .exact .inl (AG (by omega) (by omega))
  .exact .inr c
 refine⟨λQ=>⟨Q,λx Z=> ?_⟩,λQ=> ?_⟩
 .have w1:IntKind.i64.wrap (k+3*(i:Int)+1)=k+3*(i:Int)+1:=AG (by omega) (by omega);have w2:IntKind.i64.wrap (k+3*(i:Int)+1+1)=k+3*(i:Int)+2:=(AG (by omega) (by omega)).trans (by omega);have w3:IntKind.i64.wrap (k+3*(i:Int)+2+1)=k+3*((i+1:Nat):Int):=(AG (by omega) (by omega)).trans (by omega);simp only[w1,w2,w3];have O:x≠oF k i-> -1=FA l k:=λc=>by
   simp only[FA];rw[Af λh=> ?_];rw[h,N2 Q] at Z;exact c (AD Z).symm
  refine⟨λc=>O λh=>c (by rw[h];rfl),λc1=>⟨Q,λy hy=> ?_⟩⟩;obtain rfl:x=y:=AD (Z.symm.trans hy);refine⟨λc=>O λh=>c (by rw[h];rfl),λc2=>⟨Q,λy hy=> ?_⟩⟩;obtain rfl:x=y:=AD (Z.symm.trans hy);refine⟨λc=>O λh=>c (by rw[h];rfl),λc3=>⟨⟨i+1,by omega,?_⟩,by simp only;omega,by rw[AG (by omega) (by omega)];simp only;omega,rfl⟩⟩;have e:x=oF k i:=by
   obtain⟨⟨u,v⟩,t⟩:=x;simp only[FX] at c1 c2 c3;simp only[oF,c1,c2,c3]
  rw[Kl Z,G,rU,e]
 .have aa:i=l.length:=by omega
  subst aa;rw[Gs] at G;simp only[FA];rw[An G]
def totO(M:List (List Ap)):Nat:=(M.map List.length).sum
def SJ(x:List Ap)(k:Int):FA x k=k+3*x.length\/FA x k= -1:=by
 simp only[FA];split
 .exact .inl rfl
 .exact .inr rfl
def mkOO.pre(a:List (List Ap)×Int):Prop:=a.1.length<=1048576/\0<=a.2/\a.2+3*totO a.1<=1099511627776
def GR(l:List Al)(k:Int):Int:=if l=Dj (pF k) l.length then k+3*l.length else -1
def SK(k:Int)(n:Nat):GR (Dj (pF k) n) k=k+3*n:=by
 simp only[GR,WD,BM]
def heldP_.fv(a:(List Al)×Int):Int:=(GR) (a.1) (a.2)
def heldP_.row:AA:=CR (b2 (qS Al.d_le Al.c_n) qI) rI (λa=>0<=a.2/\a.2+3*a.1.length<=1099511627776) heldP_.fv
def heldP_.q:=CY (R:=heldP_.row) rfl
def heldP_.ok:AB Tryz.prog 63 heldP_.row:=by
 refine Fy tN Tryz.func63 rfl (by kernel_rfl) ?_;intro a z;simp only[Tryz.f63,Option.getD];simp(disch:=omega)only[ZZ,simprocAttr,Cl,heldP_.fv,GM,D.sc,D.scs,JH,Bn];obtain⟨l,k⟩:=a;simp only at z⊢;obtain⟨h1,h2⟩:=z;refine AP.old ⟨{i:Nat//i<=l.length/\l.take i=Dj (pF k) i},λi=>⟨[(5,.im (.int .i64 i.1)),(4,.im (.int .i64 0)),(1,.im (.int .i64 (k+3*i.1))),(0,.im (.sl false 3 (l.map Al.c)))],[],0⟩,λi=>l.length - i.1,λi=>⟨by simp[Ai.good,Am,Ac,A8,AV.bel,Aq],by simp⟩,⟨⟨0,by simp[Dj]⟩,by simp(disch:=omega)only[ZZ,simprocAttr,Cl,heldP_.fv,GM,D.sc,D.scs,JH,Bn,sub];simp⟩,λi=> ?_⟩;obtain⟨i,ab,G⟩:=i;simp(disch:=omega)only[ZZ,simprocAttr,Cl,heldP_.fv,GM,D.sc,D.scs,JH,Bn,sub,AO];intro _;refine⟨λQ=>⟨Q,λx Z=> ?_⟩,λQ=> ?_⟩
 .have w1:IntKind.i64.wrap (k+3*(i:Int)+1)=k+3*(i:Int)+1:=AG (by omega) (by omega);have w2:IntKind.i64.wrap (k+3*(i:Int)+1+1)=k+3*(i:Int)+2:=(AG (by omega) (by omega)).trans (by omega);have w3:IntKind.i64.wrap (k+3*(i:Int)+2+1)=k+3*((i+1:Nat):Int):=(AG (by omega) (by omega)).trans (by omega);simp only[w1,w2,w3];have O:x≠pF k i-> -1=GR l k:=λc=>by
   simp only[GR];rw[Af λh=> ?_];rw[h,N2 Q] at Z;exact c (AD Z).symm
  refine⟨λc=>O λh=>c (by rw[h];rfl),λc1=>⟨Q,λy hy=> ?_⟩⟩;obtain rfl:x=y:=AD (Z.symm.trans hy);refine⟨λc=>O λh=>c (by rw[h];rfl),λc2=>⟨Q,λy hy=> ?_⟩⟩;obtain rfl:x=y:=AD (Z.symm.trans hy);refine⟨λc=>O λh=>c (by rw[h];rfl),λc3=>⟨⟨i+1,by omega,?_⟩,by simp only;omega,by rw[AG (by omega) (by omega)];simp only;omega,rfl⟩⟩;have e:x=pF k i:=by
   obtain⟨⟨u,v⟩,t⟩:=x;simp only[FX] at c1 c2 c3;simp only[pF,c1,c2,c3]
  rw[Kl Z,G,rU,e]
 .have aa:i=l.length:=by omega
  subst aa;rw[Gs] at G;simp only[GR];rw[An G]
def OL(x:List Al)(k:Int):GR x k=k+3*x.length\/GR x k= -1:=by
 simp only[GR];split
 .exact .inl rfl
 .exact .inr rfl
def heldA_.fv(a:Ak×Int):Int:=(λa k=>GR a.Tiles k) (a.1) (a.2)
def heldA_.row:AA:=CR (b2 (qR Ak.d_le) qI) rI (λa=>0<=a.2/\a.2+3*a.1.Tiles.length<=1099511627776) heldA_.fv
def heldA_.ok:AB Tryz.prog 27 heldA_.row:=by
 refine Fy (tC heldP_.ok tN) Tryz.func27 rfl (by kernel_rfl) ?_;intro a z;simp only[Tryz.f27,Option.getD];simp(disch:=omega)only[ZZ,simprocAttr,Cl,heldA_.fv,heldP_.q,heldP_.fv,GM,D.sc,D.scs,JH,Bn];obtain⟨⟨x⟩,k⟩:=a;obtain⟨G,O⟩:=z;simp only at G O⊢;refine⟨⟨G,O⟩,?_⟩;rcases OL x k with h|h
 .rw[Af (by omega)];trivial
 .rw[An (by omega)];exact h.symm
def eqAsmF.fv(a:Ak×Ak):Bool:=(λa b=>decide (a=b)) (a.1) (a.2)
def eqAsmF.row:AA:=CR (b2 (qR Ak.d_le) (qR Ak.d_le)) rB (λa=>True) eqAsmF.fv
def eqAsmF.ok:AB Tryz.prog 17 eqAsmF.row:=by
 refine Fy (tC eqPlacedS.ok tN) Tryz.func17 rfl (by kernel_rfl) ?_;intro a z;simp only[Tryz.f17,Option.getD];simp(disch:=omega)only[ZZ,simprocAttr,Cl,eqAsmF.fv,eqPlacedS.q,eqPlacedS.fv,GM,D.sc,D.scs,JH,Bn];obtain⟨⟨x⟩,⟨y⟩⟩:=a;simp only[Ak.mk.injEq]
 grind
def Jk{h:Nat->Option Au}{n:Nat}{a:Ak}(hn:h n=some (true,.arr 137 3 (a.Tiles.map Al.c))):E7 h (.agg [.own n])=some (.val (.agg (Ak.c a))):=by
 simp only[E7,bk,A7,hn,Km,CQ,ES,Ak.c]
def Ry(a b:Ak):a2 (kR Ak.d) (kR Ak.d) [.val (.agg (Ak.c a)),.val (.agg (Ak.c b))]=some (a,b):=by simp only[a2,kR,Ak.d_c,Eg]
def OQ{nx o:Nat}{tm:List (Nat×AV)}{h:Av}{dst:Option Nat}{go:Ai->Prop}{a:Ak}{k:Int}(hk:0<=k)(Z:k+3*a.Tiles.length<=1099511627776)(hS:hget h o=some (true,.arr 137 3 (a.Tiles.map Al.c)))(aa:o<nx)
 (Q: ∀G:Av,hget G o=some (true,.arr 137 3 ((Dj (pF k) a.Tiles.length).map Al.c))->(∀m,m≠o->hget G m=hget h m)->go ((⟨tm,G,nx⟩:Ai).put dst (.im (.int .i64 (k+3*a.Tiles.length))))):
 mkAC.row [.agg [.own o],.im (.int .i64 k)] (hget h) nx (DT go ⟨tm,h,nx⟩ dst):=by
 have hd: ∀j,Ao (mkAC.H0 (a,k)) j=true->j=0:=λj z=>by
  simp only[Ao,mkAC.H0,hget] at z;by_cases h:j=0
  .exact h
  .rw[Bi _ _ (λq=>h q.symm)] at z;cases z
 refine AE.tau (a,k) (λ_=>o) ⟨hk,Z⟩ (λj z=>by rw[hd j z];rfl) (λj z=>⟨by rw[hd j z];omega,aa⟩) (λi j hi z _=>by rw[hd i hi,hd j z]) (λp hp=> ?_) ⟨rfl,hS,trivial⟩ (by simp[AV.nms]) (λG hH1 O=>Q G (hH1 0 _ rfl) λm hm=>O m λj z h=>hm h.symm);simp only[mkAC.H1,BK] at hp;subst hp;exact⟨rfl,λm hm=>by simp[Ad.nms] at hm⟩
def W1{H:Av}{n m:Nat}(h:n≠m):hget (Bh H [n]) m=hget H m:=Lh _ _ _ h
def JF{H H':Av}{k j m:Nat}{e f:Au}{x:Option Au}(G:(j,f)::(k,e)::Bh (Bh H [k]) [j]=H')(h:k≠m)(z:j≠m)(g:hget H m=x):hget H' m=x:=by
 subst G;simp only[hget,Bi _ _ h,Bi _ _ z,BC];rw[W1 z,W1 h];exact g
section
variable {A B:Type}{k:AK A}{r:RK B}{pre:A->Prop}{f:A->B}{args:List AV}{tm:List (Nat×AV)}{h:Av}{nx:Nat}{dst:Option Nat}
def vK.call{Q:Ai->Prop}(ps:List PK)(O:KJ (hget h) args=some (ps,[]))(a:A)(Z:k.r ps=some a)(z:pre a)(G:Q ((⟨tm,h,nx⟩:Ai).put dst (.im (r.e (f a))))):vK k r pre f args (hget h) nx (DT Q ⟨tm,h,nx⟩ dst):=vN.call ps O a Z z G
def CR.call{Q:Ai->Prop}(ps:List PK)(O:CB (hget h) args=some ps)(a:A)(Z:k.r ps=some a)(z:pre a)(G:Q ((⟨tm,h,nx⟩:Ai).put dst (.im (r.e (f a))))):CR k r pre f args (hget h) nx (DT Q ⟨tm,h,nx⟩ dst):=vF.call ps O a Z z G
def vK.callA{Q:V3}{cl:List (List Nat)}{i:Nat}{acc:List Fp}(ps:List PK)(O:KJ (hget h) args=some (ps,[]))(a:A)(Z:k.r ps=some a)(z:pre a)(hq:JT acc=true)(G: ∀u,Q (⟨i,u,[],nx,0⟩::acc) ((⟨tm,h,nx⟩:Ai).put dst (.im (r.e (f a))))):vK k r pre f args (hget h) nx (NP cl i acc Q ⟨tm,h,nx⟩ dst):=vN.callA ps O a Z z hq G
def CR.callA{Q:V3}{cl:List (List Nat)}{i:Nat}{acc:List Fp}(ps:List PK)(O:CB (hget h) args=some ps)(a:A)(Z:k.r ps=some a)(z:pre a)(hq:JT acc=true)(G: ∀u,Q (⟨i,u,[],nx,0⟩::acc) ((⟨tm,h,nx⟩:Ai).put dst (.im (r.e (f a))))):CR k r pre f args (hget h) nx (NP cl i acc Q ⟨tm,h,nx⟩ dst):=vF.callA ps O a Z z hq G
end
def Nm(s:Ax)(l:List Int):a2 (kR Ax.d) (kS Cu) [.val (.agg (Ax.c s)),.val (.sl false 1 (l.map Aj))]=some (s,l):=by simp only[a2,kR,kS,Ax.d_c,NX Wv,Eg]
def SO(l:List Int):a1 (kS Cu) [.val (.sl false 1 (l.map Aj))]=some l:=by simp only[a1,kS,NX Wv,Eg]
def aP(a:Ak)(k:Int):a2 (kR Ak.d) kI [.val (.agg (Ak.c a)),.val (.int .i64 k)]=some (a,k):=by simp only[a2,kR,kI,Ak.d_c,Eg]
def toIR.row:AA:=nH toInt64S.row toIX.row
def toIR.ok:AB Tryz.prog 14 toIR.row:=W5 toInt64S.ok toIX.ok
def wU(l:List Int): ∀p∈toIX.H1 l,p.1<2/\ ∀m∈p.2.2.nms,m<2:=by
 intro p hp;simp only[toIX.H1,BK] at hp;subst hp;exact⟨by omega,by simp[Ad.nms]⟩
def SB(w:List Ap×Ak×Int): ∀p∈GI w,p.1<20/\ ∀m∈p.2.2.nms,m<20:=by
 intro p hp;simp only[GI,Bm,mU,gO] at hp;rcases hp with rfl|rfl
 .exact⟨by omega,by simp[Ad.nms]⟩
 .exact⟨by omega,by simp[Ad.nms]⟩
def iL(w:List Ap×Ak×Int): ∀p∈GI w,p.1<20/\p.2.1=true/\JI p.2.2=true/\ ∀m∈p.2.2.nms,m<20:=by
 intro p hp;simp only[GI,Bm,mU,gO] at hp;rcases hp with rfl|rfl
 .exact⟨by omega,rfl,by simp[JI,Ap.c,D.sc],by simp[Ad.nms]⟩
 .exact⟨by omega,rfl,by simp[JI,Al.c,D.sc],by simp[Ad.nms]⟩
def grV.ar:List PK->Option (Ax×List Int):=a2 (kR Ax.d) (kS Cu)
def ouC(l:List Ap)(ins:List Int)(i:Nat)(p:Ab)(d k:Nat):Bool:=decide (i<k) && (decide (l[k]?.map Ap.At=some (Bu p d)) && Es (ins[k]?.getD 0) (((d:Int)+2) % 4))
def Eu(l:List Ap)(ins:List Int)(i:Nat)(p:Ab)(d:Nat):Nat->Bool
 |0=>false
 |k+1=>Eu l ins i p d k||ouC l ins i p d k
def JE(l:List Ap)(ins:List Int)(i:Nat)(p:Ab)(d:Nat):Bool:=Eu l ins i p d l.length
def Eh(l:List Ap)(ins:List Int)(i:Nat)(p:Ab):Nat->Int
 |0=>0
 |d+1=>Eh l ins i p d+BP (JE l ins i p d) d
def QI{l:List Ap}{ins:List Int}{i:Nat}{p:Ab}{d:Nat}: ∀{n:Nat},Eu l ins i p d n=true↔ ∃k,k<n/\ouC l ins i p d k=true
 |0=>by simp[Eu]
 |n+1=>by
  simp only[Eu,Hd,QI (n:=n)];constructor
  .rintro (⟨k,G,z⟩|h)
   .exact⟨k,by omega,z⟩
   .exact⟨n,by omega,h⟩
  .rintro⟨k,G,z⟩;by_cases O:k=n
   .subst O;exact .inr z
   .exact .inl ⟨k,by omega,z⟩
def H9{l:List Ap}{ins:List Int}{i:Nat}{p:Ab}{d k:Nat}:ouC l ins i p d k=true↔i<k/\l[k]?.map Ap.At=some (Bu p d)/\Es (ins[k]?.getD 0) (((d:Int)+2) % 4)=true:=by
 simp only[ouC,AS,BL]
def Xu{l:List Ap}(hd:(l.map Ap.At).Nodup){q:Ab}{j k:Nat}(z:l[j]?.map Ap.At=some q)(G:l[k]?.map Ap.At=some q):j=k:=by
 have a1:=dT hd z;have a2:=dT hd G;omega
def Y6{l:List Ap}{ins:List Int}{i:Nat}{p:Ab}{d k:Nat}(hd:(l.map Ap.At).Nodup)(h:ouC l ins i p d k=true):Eu l ins i p d k=false:=by
 cases hb:Eu l ins i p d k with
 |false=>rfl
 |true=>
  exfalso;obtain⟨j,G,z⟩:=QI.1 hb
  have:=Xu hd (H9.1 z).2.1 (H9.1 h).2.1
  omega
def rK{l:List Ap}{ins:List Int}{i:Nat}{p:Ab}{d k:Nat}(hd:(l.map Ap.At).Nodup):BP (Eu l ins i p d (k+1)) d=BP (Eu l ins i p d k) d+(if ouC l ins i p d k=true then 2^d else 0):=by
 simp only[Eu];by_cases h:ouC l ins i p d k=true
 .rw[Y6 hd h,h,An rfl];simp[BP]
 .rw[Af h];rw[Lv] at h;rw[h];simp
def TO{l:List Ap}{ins:List Int}{i:Nat}{p:Ab}{d:Nat}: ∀{k:Nat},k<=i+1->Eu l ins i p d k=false:=by
 intro k O;cases hb:Eu l ins i p d k with
 |false=>rfl
 |true=>
  exfalso;obtain⟨j,G,z⟩:=QI.1 hb
  have:=(H9.1 z).1
  omega
def Y5{l:List Ap}{ins:List Int}{i:Nat}{p:Ab}{d:Nat}(hd:(l.map Ap.At).Nodup):JE l ins i p d=true↔(i:Int)<EN l (Bu p d)/\Es (ins[(EN l (Bu p d)).toNat]?.getD 0) (((d:Int)+2) % 4)=true:=by
 rw[JE,QI];constructor
 .rintro⟨k,Q,z⟩;obtain⟨g1,g2,O⟩:=H9.1 z;rw[dT hd g2];exact⟨by omega,by rw[B0];exact O⟩
 .rintro⟨Q,z⟩;have G:=Mf (l:=l) (q:=Bu p d) rfl (by omega);refine⟨(EN l (Bu p d)).toNat,?_,H9.2 ⟨by omega,G,z⟩⟩;cases hk:l[(EN l (Bu p d)).toNat]? with
  |none=>rw[hk] at G;cases G
  |some y=>exact (Ce.1 hk).1
def R6(b:Bool)(k:Nat):0<=BP b k/\BP b k<=2^k:=by
 have:(0:Int)<=2^k:=Int.le_of_lt (Int.pow_pos (by omega))
 cases b<;>simp[BP,this]
def Jh(l:List Ap)(ins:List Int)(i:Nat)(p:Ab): ∀k,0<=Eh l ins i p k/\Eh l ins i p k<2^k
 |0=>by simp[Eh]
 |k+1=>by
  have z:=Jh l ins i p k;have G:=R6 (JE l ins i p k) k;have e:(2:Int)^(k+1)=2^k*2:=Int.pow_succ ..;simp only[Eh];omega
def Yc(l:List Ap)(ins:List Int)(i:Nat)(p:Ab): ∀d:Nat,d<4->Es (Eh l ins i p 4) d=JE l ins i p d:=by
 intro d hd;obtain⟨z,k1,k2,G⟩:=SG (JE l ins i p 0) (JE l ins i p 1) (JE l ins i p 2) (JE l ins i p 3);have e:Eh l ins i p 4=0+BP (JE l ins i p 0) 0+BP (JE l ins i p 1) 1+BP (JE l ins i p 2) 2+BP (JE l ins i p 3) 3:=by
  simp only[Eh]
 rw[e];rcases (by omega:d=0\/d=1\/d=2\/d=3) with rfl|rfl|rfl|rfl
 .exact z
 .exact k1
 .exact k2
 .exact G
def DX(p:Ab)(m:Int):Nat->Al->Bool
 |0,x=>decide (x.At≠p)
 |d+1,x=>DX p m d x && !(Es m d && decide (x.At=Bu p d))
def EB(a:Ak)(p:Ab)(m:Int):Ak:=⟨a.Tiles.filter (DX p m 4)⟩
def Fc(p:Ab)(m:Int):Nat->List Ab
 |0=>[p]
 |d+1=>Fc p m d++(if Es m d=true then [Bu p d] else [])
def bQ(a:Ak)(l:List Ab):Ak:=⟨a.Tiles.filter λx=> !l.contains x.At⟩
def rH(p:Ab)(m:Int)(x:Al): ∀d,(Fc p m d).contains x.At= !(DX p m d x)
 |0=>by
  simp only[Fc,DX,aA,aG,Qt];by_cases h:x.At=p<;>simp[h]
 |d+1=>by
  simp only[Fc,DX,List.contains_append,rH p m x d];by_cases c:Es m d=true
  .rw[An c,c];by_cases h:x.At=Bu p d<;>simp[h]
  .rw[Af c];rw[Lv] at c;rw[c];simp
def Zy(a:Ak)(p:Ab)(m:Int):bQ a (Fc p m 4)=EB a p m:=by
 simp only[bQ,EB,rH,Bool.not_not]
def rJ(p:Ab)(m:Int): ∀d,(Fc p m d).length<=d+1
 |0=>by simp[Fc]
 |d+1=>by
  have:=rJ p m d
  simp only[Fc,Dq]
  split<;>simp<;>omega
def OE{p:Ab}{q:Option Ab}(hq: ∀u,q=some u->Bt u p=true): ∀{r:List Al},Dl (some p) r=true->Dl q r=true
 |[],_=>sU q
 |x::r,h=>by
  rw[PY] at h⊢;simp only[AS] at h⊢;obtain⟨z,G,O,Q⟩:=h;refine⟨z,G,?_,Q⟩;cases q with
  |none=>rfl
  |some u=>exact W3 (hq u rfl) O
def rF(c:Al->Bool): ∀(l:List Al) (q:Option Ab),Dl q l=true->Dl q (l.filter c)=true
 |[],q,_=>sU q
 |x::r,q,h=>by
  rw[PY] at h;simp only[AS] at h;obtain⟨G,O,z,Q⟩:=h;have ih:=rF c r (some x.At) Q;rw[Zec];split
  .rw[PY];simp only[AS];exact⟨G,O,z,ih⟩
  .refine OE (λu Z=> ?_) ih;subst Z;exact z
def KZ{s:AC}{a:Ak}(h:DP s a)(p:Ab)(m:Int):DP s (EB a p m):=
 ⟨rF _ _ _ h.1,λx z=>h.2 x (Xn.1 z).1⟩
def Rz{a:Ak}(h:Dl none a.Tiles=true){x:Al}(z:x∈a.Tiles):Bb a x.At=x.Tile:=by
 simp only[Bb];cases hf:a.Tiles.find? (λy=>decide (y.At=x.At)) with
 |none=>
  have:=aB.1 hf x z
  simp at this
 |some y=>
  have G:=mN hf;have e:y.At=x.At:=by simpa using Rp hf
  rw[T7 (Qix h) y G x z e];rfl
def rL{s:AC}{f g:Ab->Int}{p:Ab}{t:Int}: ∀(k:Nat),(∀d:Nat,d<k->Gp s f p t d<=Gp s g p t d)->C9 s f p t k<=C9 s g p t k
 |0,_=>Lu _
 |k+1,h=>by
  have z:=rL k λd hd=>h d (by omega)
  have G:=h k (by omega);simp only[C9];omega
def Sr{s:Ax}{b:Ak}{l:List Ap}(h:JS s b l)(hb:DP s.Set b)(h0:BF s.Set)(h1:s.Set.Tiles.length<=160){i:Nat}{o:Ap}(ho:l[i]? =some o)(ins:List Int):
 C9 s.Set (Bb (AX b (l.take i))) o.At o.Tile 4<=C9 s.Set (Bb (EB (AX b l) o.At (Eh l ins i o.At 4))) o.At o.Tile 4:=by
 have ai:i<l.length:=(Ce.1 ho).1;have ab:=JU h1 hb h i (by omega);have Z:DP s.Set (AX b l):=by
  have:=JU h1 hb h l.length (AQ _)
  rwa [Gs] at this
 have ad:=KZ Z o.At (Eh l ins i o.At 4);have G: ∀x∈(AX b (l.take i)).Tiles,∀k,i<=k->x∈(AX b (l.take k)).Tiles:=by
  intro x O k hk;rw[cK] at O⊢;rcases O with O|⟨z,hz,e⟩
  .exact .inl O
  .refine .inr ⟨z,?_,e⟩;obtain⟨j,hj⟩:=Ku.1 hz;have ac:j<i:=by
    have:=(Ce.1 hj).1
    simp at this;omega
   rw[Ku];exact⟨j,by rw[ZdP ac] at hj;rw[ZdP (by omega)];exact hj⟩
 refine rL 4 λd hd=> ?_
 have hp:=(fR h0 (Bb (EB (AX b l) o.At (Eh l ins i o.At 4))) o.At o.Tile d).1;by_cases c:0<=Bb (AX b (l.take i)) (Bu o.At d)
 .obtain⟨x,O,ag⟩:=gS c;have af:x∈(AX b l).Tiles:=by
   have:=G x O l.length (by omega)
   rwa [Gs] at this
  have Q:=(GN (h i o ho).1).2.2.2.2.2;have hk: ∀e:Nat,e<=4->DX o.At (Eh l ins i o.At 4) e x=true:=by
   intro e;induction e with
   |zero=>intro _;simpa[DX] using Q x O
   |succ e ih=>
    intro he;simp only[DX,ih (by omega),Eb,Kq,vS,Kt];rw[Yc _ _ _ _ e (by omega)];cases hob:JE l ins i o.At e with
    |false=>exact .inl rfl
    |true=>
     right;intro aa;obtain⟨k,_,h3⟩:=QI.1 hob;obtain⟨g1,g2,_⟩:=H9.1 h3;cases hlk:l[k]? with
     |none=>rw[hlk] at g2;cases g2
     |some y=>
      rw[hlk] at g2;have hy:y.At=Bu o.At e:=by simpa using g2
      exact (GN (h k y hlk).1).2.2.2.2.2 x (G x O k (by omega)) (aa.trans hy.symm)
  have ah:x∈(EB (AX b l) o.At (Eh l ins i o.At 4)).Tiles:=Xn.2 ⟨af,hk 4 (AQ _)⟩;have e1:=Rz ab.1 O;have e2:=Rz ad.1 ah;rw[ag] at e1 e2;simp only[Gp,e1,e2];exact Lu _
 .have:Gp s.Set (Bb (AX b (l.take i))) o.At o.Tile d=0:=Af c
  omega
def Gu(s:Ax)(f:Ab->Int)(p:Ab)(t:Int):Nat->Bool
 |0=>false
 |k+1=>Gu s f p t k||(decide ((k:Int)≠t) && decide (s.Temperature<=C9 s.Set f p k 4))
def dU{s:Ax}{f:Ab->Int}{p:Ab}{t:Int}: ∀{n:Nat},Gu s f p t n=true↔ ∃k:Nat,k<n/\(k:Int)≠t/\s.Temperature<=C9 s.Set f p k 4
 |0=>by simp[Gu]
 |n+1=>by
  simp only[Gu,Hd,AS,BL,dU (n:=n)];constructor
  .rintro (⟨k,G,z⟩|h)
   .exact⟨k,by omega,z⟩
   .exact⟨n,by omega,h⟩
  .rintro⟨k,G,z⟩;by_cases O:k=n
   .subst O;exact .inr z
   .exact .inl ⟨k,by omega,z⟩
def NT{s:Ax}{f:Ab->Int}{p:Ab}{x:Int}: ∀{n:Nat},x∈DR s f p n↔ ∃k:Nat,k<n/\x=k/\s.Temperature<=C9 s.Set f p k 4
 |0=>by simp[DR]
 |n+1=>by
  simp only[DR,Bx,NT (n:=n)];constructor
  .rintro (⟨k,O,z⟩|h)
   .exact⟨k,by omega,z⟩
   .split at h
    .rename_i c;exact⟨n,by omega,by simpa using h,c⟩
    .cases h
  .rintro⟨k,O,z,G⟩;by_cases Q:k=n
   .subst Q;right;rw[An G,z];exact BK.2 rfl
   .exact .inl ⟨k,by omega,z,G⟩
def Kx{s:Ax}{f:Ab->Int}{p:Ab}: ∀n:Nat,(DR s f p n).Nodup
 |0=>by simp[DR]
 |n+1=>by
  simp only[DR];split
  .rw[VN];refine⟨Kx n,by simp,?_⟩;intro a G z Q O;rw[BK] at Q;obtain⟨k,Z,h2,_⟩:=NT.1 G;omega
  .rw[D8];exact Kx n
def Y3{s:Ax}{f:Ab->Int}{p:Ab}{t:Int}{n:Nat}(h1:0<=t)(h2:t<n)(h3:s.Temperature<=C9 s.Set f p t 4):(DR s f p n).length≠1↔Gu s f p t n=true:=by
 have G:t∈DR s f p n:=NT.2 ⟨t.toNat,by omega,by omega,by rw[Zek h1];exact h3⟩;rw[dU];constructor
 .intro h;cases z:DR s f p n with
  |nil=>rw[z] at G;cases G
  |cons x r=>
   cases r with
   |nil=>rw[z] at h;exact (h rfl).elim
   |cons y r=>
    have hn:=Kx (s:=s) (f:=f) (p:=p) n;rw[z,Ir] at hn;have Q:x≠y:=λe=>hn.1 (by rw[e];exact BT ..)
    have O:x∈DR s f p n:=by rw[z];exact BT ..
    have hy:y∈DR s f p n:=by rw[z];exact BX _ (BT ..)
    obtain⟨k,a1,a2,a3⟩:=NT.1 O;obtain⟨j,b1,b2,b3⟩:=NT.1 hy;by_cases c:x=t
    .exact⟨j,b1,by rw[<-b2,<-c];exact λe=>Q e.symm,b3⟩
    .exact⟨k,a1,by rw[<-a2];exact c,a3⟩
 .rintro⟨k,h4,h5,h6⟩ z;obtain⟨x,O⟩:=Zdt.1 z;have Z:(k:Int)∈DR s f p n:=NT.2 ⟨k,h4,rfl,h6⟩;rw[O,BK] at G Z;exact h5 (Z.trans G.symm)
def Fm{A:Type}(g:Nat->Option A):Nat->Nat->Option A
 |0,_=>none
 |n+1,k=>(g k).or (Fm g n (k+1))
def dS{A:Type}{g h:Nat->Option A}: ∀(n k:Nat),(∀i,k<=i->i<k+n->g i=h i)->Fm g n k=Fm h n k
 |0,_,_=>rfl
 |n+1,k,e=>by
  simp only[Fm];rw[e k (by omega) (by omega),dS n (k+1) λi z G=>e i (by omega) (by omega)]
def Fl(s:Ax)(G:List Int)(o:Ap)(i:Nat)(z:Bool):Option (Int×Ap):=if G[i]?.getD 0≠s.Temperature then some (1,o) else if z=true then some (2,o) else none
def XH:List Ap->Option (Int×Ap)
 |[]=>none
 |o::_=>some (3,o)
def wP(s:Ax)(l:List Ap)(i:Nat):Option (Int×Ap):=
 (l[i]?).bind λo=>Fl s (CC s s.Seed l) o i (Gu s (Bb (EB (AX s.Seed l) o.At (Eh l (CI s s.Seed l) i o.At 4))) o.At o.Tile s.Set.Tiles.length)
def OI(s:Ax)(l:List Ap)(i:Nat):Option (Int×Ap):=
 (l[i]?).bind λo=>Fl s (CC s s.Seed l) o i (decide ((DR s (Bb (EB (AX s.Seed l) o.At (Eh l (CI s s.Seed l) i o.At 4))) o.At s.Set.Tiles.length).length≠1))
def rN(s:Ax): ∀(l:List Ap) (b:Ak) (k:Nat) (o:Ap),l[k]? =some o->(CC s b l)[k]? =some (C9 s.Set (Bb (AX b (l.take k))) o.At o.Tile 4)
 |[],_,k,o,h=>by simp at h
 |x::r,b,0,o,h=>by
  simp only[GF,AJ] at h;subst h;simp[CC,AX]
 |x::r,b,k+1,o,h=>by
  rw[HJ] at h;simp only[CC,HJ,Lr,AX];exact rN s r _ k o h
def iJ{s:Ax}{l:List Ap}(h:KS s l)(i:Nat):wP s l i=OI s l i:=by
 obtain⟨q1,q2,q3,q4,z,q6⟩:=h;simp only[wP,OI];cases ho:l[i]? with
 |none=>rfl
 |some o=>
  simp only[Eg,Fl];rw[rN s l s.Seed i o ho,AM];by_cases c:C9 s.Set (Bb (AX s.Seed (l.take i))) o.At o.Tile 4≠s.Temperature
  .rw[An c,An c]
  rw[Af c,Af c];have Z:=Sr z q2 q1 q3 ho (CI s s.Seed l);obtain⟨g1,g2,G,O,g5,g6⟩:=GN (z i o ho).1;have Q:s.Temperature<=C9 s.Set (Bb (EB (AX s.Seed l) o.At (Eh l (CI s s.Seed l) i o.At 4))) o.At o.Tile 4:=by
   have:C9 s.Set (Bb (AX s.Seed (l.take i))) o.At o.Tile 4=s.Temperature:=ZeD.1 c
   omega
  have:=Y3 (n:=s.Set.Tiles.length) G O Q
  simp only[BL,this]
def Gy(s:Ax)(l:List Ap):Option (Int×Ap):=(Fm (OI s l) l.length 0).or (XH (Co s (AX s.Seed l)))
def XQ{s:Ax}{l:List Ap}(h:KS s l):(Fm (wP s l) l.length 0).or (XH (Co s (AX s.Seed l)))=Gy s l:=by
 rw[Gy,dS l.length 0 λi _ _=>iJ h i]
def XP:Option (Int×Ap)->Int×Ab×Int
 |none=>(0,⟨0,0⟩,3)
 |some (k,o)=>(k,o.At,0)
def VU(s:Ax)(l:List Ap):Int×Ab×Int:=if (Cw s l).2.2≠0 then (0,⟨0,0⟩,(Cw s l).2.2) else XP (Gy s l)
def Ib(x:List Ab):List D:=[.sl false 2 (x.map Ab.c)]
def Ze:List D->Option (List Ab)
 |[.sl _ _ rows]=>AR Ab.d rows
 |_=>none
def Nf: ∀ds x,Ze ds=some x->CE ds (Ib x):=by
 intro ds x h;unfold Ze at h;split at h
 .exact⟨Dn (Dd Ab.d_le _ _ h) (by simp[Ab.c]),trivial⟩
 .cases h
def UY(x:List Ab):Ze (List.take 1 (Ib x))=some x:=Ab.d_R x
def xZ(x:List Ab):(1<=(Ib x).length)=True:=aM (AQ 1)
def xY(x:List Ab):iO (List.take 1 (Ib x))= .sl false 2 (x.map Ab.c):=rfl
def FC(l:List Ab)(x:Al):Bool:=l.contains x.At
def Ew(l:List Ab)(z:List Al):List Al:=z.filter λx=> !FC l x
def YG(l:List Ab)(z:List Al):(Ew l z).length<=z.length:=Zdy _ _
def rM(l:List Ab){z:List Al}{k:Nat}{x:Al}(h:z[k]? =some x):Ew l (z.take (k+1))=Ew l (z.take k)++if FC l x=false then [x] else []:=by
 rw[Iq,h,vW,Ew,Ew,vV];congr 1;cases hg:FC l x<;>simp[hg]
def Qans{A:Type}{p:A->Bool}: ∀(l:List A) (o i:Nat),Bs p o l=((o+i:Nat):Int)-> ∀x∈l.take i,p x=false:=by
 intro l;induction l with
 |nil=>intro o i _ x z;simp at z
 |cons y r ih=>
  intro o i h x z;cases i with
  |zero=>simp at z
  |succ i=>
   simp only[Bs] at h;split at h
   .omega
   .rename_i G;rw[Lr] at z;rcases Bm.1 z with rfl|z
    .simpa using G
    .exact ih (o+1) i (by rw[h];congr 1;omega) x z
def Pn{l:List Ab}{z:List Al}{i:Nat}{x:Al}(G:z.find? (FC l)=some x)(O:Bs (FC l) 0 z=(i:Int))(Q:z[i]? =some x):Ew l (z.take (i+1))=z.take i:=by
 have Z:FC l x=true:=Rp G;rw[rM l Q,Af (by rw[Z];simp),D8,Ew,mL];intro y hy;rw[Qans (p:=FC l) z 0 i (by rw[O];simp) y hy];rfl
def Ua{p q:Ab}:(p.X=q.X/\p.Y=q.Y)↔p=q:=by
 obtain⟨a,b⟩:=p;obtain⟨c,d⟩:=q;simp
def idxP_.fv(a:(List Ab)×Ab):Int:=(λl p=>Bs (λy=>decide (p=y)) 0 l) (a.1) (a.2)
def idxP_.row:AA:=CR (b2 (qS Ab.d_le Ab.c_n) (qR Ab.d_le)) rI (λa=>True) idxP_.fv
def idxP_.q:=CY (R:=idxP_.row) rfl
def idxP_.ok:AB Tryz.prog 153 idxP_.row:=by
 refine Fy tN Tryz.func153 rfl (by kernel_rfl) ?_;intro a O;simp only[Tryz.f153];simp(disch:=omega)only[ZA,simprocAttr,idxP_.fv];intro hn;refine AP.old ⟨{k:Nat//k<=a.1.length/\Bs (λy=>decide (a.2=y)) k (a.1.drop k)=Bs (λy=>decide (a.2=y)) 0 a.1},λk=>⟨[(8,.im (.int .i64 k.1)),(7,.im (.int .i64 a.1.length)),(4,.im (.int .i64 0)),(0,.im (.sl false 2 (a.1.map Ab.c))),(1,.im (.agg [.int .i64 a.2.X,.int .i64 a.2.Y])),(3,.ptr 0 0)],[(0,(true,.cells 96 [.im (.int .i64 a.2.X),.im (.int .i64 a.2.Y)]))],1⟩,λk=>a.1.length - k.1,λk=>⟨by simp[Ai.good,Am,Ac,A8,AV.bel,Aq],AQ _⟩,⟨⟨0,by simp⟩,by simp(disch:=omega)only[ZA,simprocAttr,sub]⟩,λk=> ?_⟩;obtain⟨k,Q,z⟩:=k;simp(disch:=omega)only[ZA,simprocAttr,D.sc,D.scs,Bn,sub,AO];refine⟨λG=>⟨G,λx Z=> ?_⟩,λG=> ?_⟩
 .rw[EW Z,Bs] at z;refine⟨λh=> ?_,λh=>Gi G hn ⟨by omega,by rw[<-z,Af (by rw[BL,<-Ua];simpa using h)]⟩⟩;rw[An (by rw[BL,<-Ua];simpa using h)] at z;exact z
 .rw[Dr (by omega),Bs] at z;exact z
def contP_.fv(a:(List Ab)×Ab):Bool:=(λl p=>l.contains p) (a.1) (a.2)
def contP_.row:AA:=CR (b2 (qS Ab.d_le Ab.c_n) (qR Ab.d_le)) rB (λa=>True) contP_.fv
def contP_.q:=CY (R:=contP_.row) rfl
def contP_.ok:AB Tryz.prog 107 contP_.row:=by
 refine Fy (tC idxP_.ok tN) Tryz.func107 rfl (by kernel_rfl) ?_;intro a G;simp only[Tryz.f107];simp(disch:=omega)only[ZA,simprocAttr,Cl,contP_.fv,idxP_.q,idxP_.fv,D.sc,D.scs,Bn];rw[VQ,BL,HK];rcases Qyg (λy=>decide (a.2=y)) a.1 0 with ⟨h,_⟩|⟨O,Q⟩
 .rw[h,Zeb];constructor
  .rintro⟨x,z,Z⟩
   have:a.2=x:=by simpa using Z
   rw[this];exact z
  .exact λz=>⟨_,z,by simp⟩
 .rw[Q,O];simp
def wo1.fv(a:Al×(List Ab)):Bool:=(λx l=>FC l x) (a.1) (a.2)
def wo1.row:AA:=CR (b2 (qR Al.d_le) (qP 1 Nf)) rB (λa=>True) wo1.fv
def wo1.q:=CY (R:=wo1.row) rfl
def wo1.ok:AB Tryz.prog 106 wo1.row:=by
 refine Fy (tC contP_.ok tN) Tryz.func106 rfl (by kernel_rfl) ?_;intro a z;simp only[Tryz.f106];simp(disch:=omega)only[ZA,simprocAttr,Cl,wo1.fv,contP_.q,contP_.fv,D.sc,D.scs,Bn];simp(disch:=omega)only[ZA,simprocAttr,xZ,xY]
 try rfl
def IdxW.ar:List PK->Option ((List Al)×((List Ab)))
 |[.val (.sl _ _ O),.val (.fn 106 [] [.ref z])]=>(AR Al.d O).bind λQ=>(Ze (z.take 1)).bind λG=>some (Q,G)
 |_=>none
def IdxW.ae(a:(List Al)×((List Ab))):List PK:=[.val (.sl false 3 (a.1.map Al.c)),.val (.fn 106 [] [.ref (Ib a.2)])]
def IdxW.le: ∀G a,IdxW.ar G=some a->BN G (IdxW.ae a):=by
 intro G a h;unfold IdxW.ar at h;split at h
 .simp only[Ef,AJ] at h;obtain⟨Q,h0,O,z,rfl⟩:=h;exact⟨Dn (Dd Al.d_le _ _ h0) (by simp only[Bv];rintro r ⟨y,_,rfl⟩;rfl),VF ⟨Rd (G9.trans_take (Nf _ _ z)),trivial⟩,trivial⟩
 .cases h
def IdxW.fv(a:(List Al)×((List Ab))):Int:=(λl t=>Bs (FC t) 0 l) (a.1) (a.2)
def IdxW.row:AA:=Lm IdxW.ar (λa=>True) (λa=>(D.int .i64) (IdxW.fv a))
def IdxW.q:=yG IdxW.row rfl
def IdxW.ok:AB Tryz.prog 152 IdxW.row:=by
 refine rX CZ (tC wo1.ok tN) Tryz.func152 rfl (by kernel_rfl) (by kernel_rfl) (ar:=IdxW.ar) (ae:=IdxW.ae) IdxW.le (n:=2) (λ_=>rfl) (by decide) (rc:=(DJ)) (re:=(D.int .i64)) (N7) (f:=IdxW.fv) ?_;intro a O;simp only[Tryz.f152];simp(disch:=omega)only[ZA,simprocAttr,IdxW.ae,IdxW.fv];intro hn;refine AP.old ⟨{k:Nat//k<=a.1.length/\Bs (FC a.2) k (a.1.drop k)=Bs (FC a.2) 0 a.1},λk=>⟨[(8,.im (.int .i64 k.1)),(7,.im (.int .i64 a.1.length)),(6,.im (.sl false 3 (a.1.map Al.c))),(4,.im (.int .i64 0)),(0,.im (.sl false 3 (a.1.map Al.c))),(1,.im (.fn 106 [] [.ref (Ib a.2)]))],[],0⟩,λk=>a.1.length - k.1,λk=>⟨by simp[Ai.good,Am,Ac,A8,AV.bel],AQ _⟩,⟨⟨0,by simp⟩,by simp(disch:=omega)only[ZA,simprocAttr,sub]⟩,λk=> ?_⟩;obtain⟨k,Q,z⟩:=k;simp(disch:=omega)only[ZA,simprocAttr,Cl,wo1.q,wo1.fv,D.sc,D.scs,Bn,sub,AO,UY];refine⟨λG=>⟨G,λx Z=> ?_⟩,λG=> ?_⟩
 .rw[EW Z,Bs] at z;refine⟨λh=> ?_,λh=>Gi G hn ⟨by omega,by rw[<-z,Af (by simpa using h)]⟩⟩;rw[An (by simpa using h)] at z;exact z
 .rw[Dr (by omega),Bs] at z;exact z
def dlP.ca(a:List Al×List Ab):List AV:=[.own 0,.im (.fn 106 [] [.ref (Ib a.2)])]
def dlP.H0(a:List Al×List Ab):Av:=[(0,(true,.arr 137 3 (a.1.map Al.c)))]
def dlP.H1(a:List Al×List Ab):Av:=[(1,(true,.arr 137 3 ((Ew a.2 a.1).map Al.c)))]
def dlP.row:AA:=AE dlP.ca dlP.H0 1 (λa=>a.1.length<=1000000) (λj=>j==0) (λ_=> .own 1) dlP.H1 1000
def dlP.ok:AB Tryz.prog 104 dlP.row:=by
 refine M8 (tC IdxW.ok (tC wo1.ok tN)) Tryz.func104 rfl (by kernel_rfl) (exB:=λj=>j==1) (R:=λ_ r=>r= .own 1) (λ_=>rfl)
  (λa=>by simp[dlP.ca,dlP.H0,Aq,AV.bel,Ac,A8,BO,Ad.nms,Ao,hget]) (λa p hp=> ?_) (λa r h=>by subst h;exact CF.refl _) ?_
 rotate_left
 intro a Q;simp only[Tryz.f104,dlP.ca,dlP.H0,dlP.H1];simp(disch:=omega)only[ZA,simprocAttr,Cl,IdxW.q,IdxW.ar,IdxW.fv,Fe];simp(disch:=omega)only[ZA,simprocAttr,UY];rcases QW (FC a.2) a.1 0 with ⟨Z,O⟩|⟨i0,b0,Z,O,e3⟩
 .rw[O,An rfl];refine⟨[],[(1,some 0)],⟨[(4,.own 1)],[(1,(true,.arr 137 3 (a.1.map Al.c)))],2⟩,?_,by simp[Ai.good,Am,Ac,A8,AV.bel],by simp,?_⟩
  .simp only[Ay];simp(disch:=omega)only[ZA,simprocAttr]
  .simp(disch:=omega)only[ZA,simprocAttr]
   have:Ew a.2 a.1=a.1:=by
    rw[Ew,mL];intro b hb
    have:=aB.1 Z b hb
    simpa using this
   rw[this]
 .rw[FV] at O;rw[O,Af (by omega)];have aa:=(Ce.1 e3).1;rw[AG (by omega) (by omega)];obtain⟨l,hl⟩: ∃l,l=a.1:=⟨_,rfl⟩;obtain⟨t,ht⟩: ∃t,t=a.2:=⟨_,rfl⟩;simp only[<-hl,<-ht] at Z O e3 aa Q⊢;refine AP.old ⟨{j:Nat//j<=l.length},λj=>⟨[(6,.im (.int .i64 j.1)),(5,.im (.int .i64 (Ew t (l.take j.1)).length)),(0,.own 0),(1,.im (.fn 106 [] [.ref (Ib t)]))],[(0,(true,.arr 137 3 ((Ew t (l.take j.1)++l.drop (Ew t (l.take j.1)).length).map Al.c)))],2⟩,λj=>l.length - j.1,λj=>⟨by simp[Ai.good,Am,Ac,A8,AV.bel],by simp⟩,⟨⟨i0+1,by omega⟩,?_⟩,λj=> ?_⟩
  .have h1:=Pn Z O e3;simp(disch:=omega)only[ZA,simprocAttr,sub,h1,Cf];rw[show min i0 l.length=i0 by omega,Oi];exact⟨⟨by omega,rfl⟩,rfl⟩
  obtain⟨j,hj⟩:=j;obtain⟨kp,hkp⟩: ∃kp,kp=Ew t (l.take j):=⟨_,rfl⟩;have ac:kp.length<=j:=by
   have:=YG t (l.take j)
   rw[Cf] at this;rw[hkp];omega
  have af:(kp++l.drop kp.length).length=l.length:=by simp;omega
  simp only[<-hkp];simp(disch:=omega)only[ZA,simprocAttr,Cl,wo1.q,wo1.fv,sub,AO,af,UY];intro _;refine⟨λG=>⟨G,G,λb hb=> ?_⟩,λG=> ?_⟩
  .have ad:l[j]? =some b:=by
    rw[F4 ac,Iv,show kp.length+(j - kp.length)=j by omega] at hb;exact hb
   have z:=rM t ad;rw[<-hkp] at z;refine⟨λhw=>⟨by omega,by omega,λc _=>⟨⟨j+1,by omega⟩,by simp only;omega,?_⟩⟩,λhw=>⟨⟨j+1,by omega⟩,by simp only;omega,?_⟩⟩
   .rw[An hw] at z;simp only[z,Dq,CP,Hf];refine⟨⟨by rw[AG (by omega) (by omega)];omega,by rw[AG (by omega) (by omega)];omega⟩,?_⟩;have h1:(kp++l.drop kp.length).set kp.length b=kp++[b]++l.drop (kp.length+1):=by
     obtain⟨c,hc⟩: ∃c,l[kp.length]? =some c:=⟨_,Bk (by omega)⟩;rw[EW hc,mJ _ _ (AQ _),Hi,aD,Hw];rfl
    rw[<-h1,Ly];rfl
   .rw[Af hw,D8] at z;simp only[z];exact⟨⟨by rw[AG (by omega) (by omega)];omega,trivial⟩,trivial⟩
  .refine⟨by omega,false,?_⟩;have ab:j=l.length:=by omega
   subst ab;rw[Gs] at hkp;simp(disch:=omega)only[ZA,simprocAttr];have hA:List.take kp.length ((kp++l.drop kp.length).map Al.c)=kp.map Al.c:=by
    rw[<-List.map_take,ZeC]
   rw[hA];refine⟨by simp only[Dq,He];omega,true,?_⟩;simp(disch:=omega)only[ZA,simprocAttr,Fe];refine⟨[],[(1,some 2)],⟨[(4,.own 1)],[(1,(true,.arr 137 3 (kp.map Al.c)))],2⟩,?_,by simp[Ai.good,Am,Ac,A8,AV.bel],by simp,?_⟩
   .simp only[Ay];simp(disch:=omega)only[ZA,simprocAttr];rw[show ((kp.length:Int) - 0).toNat=(kp.map Al.c).length by simp,Hw,ZeC]
   .simp(disch:=omega)only[ZA,simprocAttr,hkp]
 simp[dlP.H1] at hp;subst hp;exact .inr ⟨by omega,by omega,rfl,rfl⟩
def dlP.H0_dom(a:List Al×List Ab)(j:Nat):Ao (dlP.H0 a) j=true↔j<1:=by
 simp only[Ao,dlP.H0,hget];by_cases h0:j=0
 .subst h0;simp
 .have z:(0==j)=false:=by simp;omega
  simp[z];omega
def woA.fv(a:Ak×(List Ab)):Ak:=(λa l=>⟨Ew l a.Tiles⟩) (a.1) (a.2)
def woA.row:AA:=CR (b2 (qR Ak.d_le) (qS Ab.d_le Ab.c_n)) (rA Ak.d_le) (λa=>a.1.Tiles.length<=1000000) woA.fv
def woA.q:=CY (R:=woA.row) rfl
def woA.ok:AB Tryz.prog 54 woA.row:=by
 refine Fy (tC clonC.ok (tC dlP.ok tN)) Tryz.func54 rfl (by kernel_rfl) ?_;intro a z;simp only[Tryz.f54];simp(disch:=omega)only[ZA,simprocAttr,woA.fv];refine AE.os a.1.Tiles [] z (λj=>by simp[Ao,hget]) rfl rfl ?_ ?_
 .simp(disch:=omega)only[ZA,simprocAttr,clonC.ca,CO]
 simp(disch:=omega)only[ZA,simprocAttr,clonC.H1];left;refine AE.os (a.1.Tiles,a.2) [3] z (λj=>dlP.H0_dom _ j) rfl rfl ?_ ?_
 .simp(disch:=omega)only[ZA,simprocAttr,GM,dlP.ca,dlP.H0,Ib,De]
 simp(disch:=omega)only[ZA,simprocAttr,Ak.d,GM,D.sc,JH,Bn,dlP.H1]
def FB(l:List Ap)(ins:List Int):Nat->List Int
 |0=>[]
 |i+1=>FB l ins i++[Eh l ins i ((l[i]?.map Ap.At).getD ⟨0,0⟩) 4]
def NS(l:List Ap)(ins:List Int): ∀n,(FB l ins n).length=n
 |0=>rfl
 |n+1=>by simp only[FB,Dq,NS l ins n,Zdz]
def rG(l:List Ap)(ins:List Int): ∀(n i:Nat),i<n->(FB l ins n)[i]? =some (Eh l ins i ((l[i]?.map Ap.At).getD ⟨0,0⟩) 4)
 |n+1,i,h=>by
  simp only[FB];by_cases c:i=n
  .subst c;rw[F4 (by rw[NS];omega),NS];simp
  .rw[ED (by rw[NS];omega)];exact rG l ins n i (by omega)
def outS_.fv(a:(List Ap)×(List Int)):List Int:=(λl ins=>FB l ins l.length) (a.1) (a.2)
def outS_.row:AA:=vK (b2 (qS Ap.d_le Ap.c_n) (qS Da Cp)) (rS Da Cp) (λa=>(a.1.map Ap.At).Nodup/\(∀o∈a.1,FD o.At)/\a.2.length=a.1.length/\a.1.length<=500) outS_.fv
def outS_.q:=AT (R:=outS_.row) rfl
def outS_.ok:AB Tryz.prog 119 outS_.row:=by
 refine vw (tC l01Step.ok (tC Opposite_.ok tN)) Tryz.func119 rfl (by kernel_rfl) ?_;intro a aa;simp only[Tryz.f119];simp(disch:=omega)only[ZA,simprocAttr,outS_.fv];obtain⟨l,ins⟩:=a;obtain⟨h1,h2,h3,h4⟩:=aa;simp only at h1 h2 h3 h4⊢;refine AP.ren ⟨{i:Nat//i<=l.length},λi=>⟨[(6,.im (.int .i64 i.1)),(5,.own 2),(0,.im (.sl false 3 (l.map Ap.c))),(1,.im (.sl false 1 (ins.map Aj)))],[(2,(true,.arr 2 1 ((FB l ins i.1).map Aj)))],3⟩,λi=>l.length - i.1,λi=>⟨by simp[Ai.good,Am,Ac,A8,AV.bel],by simp⟩,⟨⟨0,Cz _⟩,[(2,some 1)],?_⟩,λi=> ?_⟩
 .simp only[Ay];simp(disch:=omega)only[ZA,simprocAttr,FB]
  try simp
 obtain⟨i,hi⟩:=i;simp(disch:=omega)only[ZA,simprocAttr,AO];intro _;refine⟨λz=> ?_,λz=> ?_⟩;rotate_left
 .obtain rfl:i=l.length:=by omega
  rfl
 obtain⟨o,ho⟩: ∃o,l[i]? =some o:=⟨_,Bk z⟩;have ac:=h2 o (AZ ho);refine AP.old ⟨{d:Nat//d<=4},λd=>⟨[(8,.im (.int .i64 d.1)),(7,.im (.int .i64 (Eh l ins i o.At d.1))),(6,.im (.int .i64 i)),(5,.own 2),(0,.im (.sl false 3 (l.map Ap.c))),(1,.im (.sl false 1 (ins.map Aj)))],[(2,(true,.arr 2 1 ((FB l ins i).map Aj)))],3⟩,λd=>4 - d.1,λd=>⟨by simp[Ai.good,Am,Ac,A8,AV.bel],by simp⟩,⟨⟨0,Cz _⟩,by simp(disch:=omega)only[ZA,simprocAttr,sub,Eh]⟩,λd=> ?_⟩;obtain⟨d,hd⟩:=d;simp(disch:=omega)only[ZA,simprocAttr,l01Step.q,l01Step.fv,AO];refine⟨λab=> ?_,λab=> ?_⟩;rotate_left
 .obtain rfl:d=4:=by omega
  refine⟨by simp[BE,B1,D.one],by rw[NS];omega,⟨i+1,by omega⟩,[(2,some 4)],by simp only;omega,?_⟩;simp only[Ay];simp(disch:=omega)only[ZA,simprocAttr];refine⟨by rw[AG (by omega) (by omega)];omega,?_⟩;simp[FB,ho,Aj]
 refine⟨z,λx hx=> ?_⟩;obtain rfl:o=x:=AD (ho.symm.trans hx);refine⟨⟨ac,by omega⟩,?_⟩;have ah:=Jh l ins i o.At d;have O:d<4:=by omega
 have ai:=cP O;refine AP.old ⟨{k:Nat//i+1<=k/\k<=l.length},λk=>⟨[(10,.im (.int .i64 k.1)),(9,.ptr 3 0),(8,.im (.int .i64 d)),(7,.im (.int .i64 (Eh l ins i o.At d+BP (Eu l ins i o.At d k.1) d))),(6,.im (.int .i64 i)),(5,.own 2),(0,.im (.sl false 3 (l.map Ap.c))),(1,.im (.sl false 1 (ins.map Aj)))],[(3,(true,.cells 96 ((Ab.c (Bu o.At d)).map .im))),(2,(true,.arr 2 1 ((FB l ins i).map Aj)))],4⟩,λk=>l.length - k.1,λk=>⟨by simp[Ai.good,Am,Ac,A8,AV.bel,Aq,Ab.c],by simp⟩,⟨⟨i+1,by omega⟩,?_⟩,λk=> ?_⟩
 .simp(disch:=omega)only[ZA,simprocAttr,sub,TO (AQ _),BP];exact⟨by rw[AG (by omega) (by omega)];omega,by simp⟩
 obtain⟨k,af,ag⟩:=k;simp(disch:=omega)only[ZA,simprocAttr,Opposite_.q,Opposite_.fv,sub,AO];intro _;have G:k<l.length->IntKind.i64.wrap ((k:Int)+1)=((k+1:Nat):Int):=λh=>by rw[AG (by omega) (by omega)];omega
 have ad:=R6 (Eu l ins i o.At d k) d;have Z:ouC l ins i o.At d k≠true->Eh l ins i o.At d+BP (Eu l ins i o.At d k) d=Eh l ins i o.At d+BP (Eu l ins i o.At d (k+1)) d:=λh=>by
  rw[rK h1,Af h,Zfj]
 refine⟨λQ=>⟨Q,λy hy=>⟨λc1=>⟨by omega,λv hv=>⟨by omega,by omega,λc2=>⟨⟨k+1,by omega⟩,by simp only;omega,G Q,?_⟩,λc2=>⟨⟨k+1,by omega⟩,by simp only;omega,G Q,?_⟩⟩⟩,λc1=>⟨⟨k+1,by omega⟩,by simp only;omega,G Q,?_⟩⟩⟩,λQ=>⟨⟨d+1,by omega⟩,by simp only;omega,by rw[AG (by omega) (by omega)];simp only;omega,?_⟩⟩
 .rw[QL] at c1;have hc:ouC l ins i o.At d k=true:=H9.2 ⟨by omega,by rw[hy,CQ,c1],by rw[hv,AM];simp only[Es,BL];exact c2⟩;simp only;rw[WF O,rK h1,An hc,AG (by omega) (by omega),Int.add_assoc]
 .refine Z λhc=>c2 ?_
  have:=(H9.1 hc).2.2
  rw[hv,AM] at this;simp only[Es,BL] at this;exact this
 .refine Z λhc=>c1 ?_
  have:=(H9.1 hc).2.1
  rw[hy,CQ] at this;rw[QL];exact AD this
 .obtain rfl:k=l.length:=by omega
  rfl
def xC(p:Ab)(m:Int)(x:Al):(!(x.At.X==p.X && x.At.Y==p.Y))=DX p m 0 x:=by
 simp only[DX];rw[VQ];have h:=QL (p:=x.At) (q:=p);simp only[Kq,BL,ne_eq];rw[<-h];simp[vS]
def witS_.fv(a:Ak×Ab×Int):Ak:=(EB) (a.1) (a.2.1) (a.2.2)
def witS_.row:AA:=vK (b3 (qP 1 Ak.d_le) (qR Ab.d_le) qI) (rA Ak.d_le) (λa=>FD a.2.1/\0<=a.2.2/\a.2.2<=1000000/\a.1.Tiles.length<=1000000) witS_.fv
def witS_.q:=AT (R:=witS_.row) rfl
def witS_.ok:AB Tryz.prog 121 witS_.row:=by
 refine vw (tC l01Step.ok tN) Tryz.func121 rfl (by kernel_rfl) ?_;intro a Z;simp only[Tryz.f121];simp(disch:=omega)only[ZA,simprocAttr,witS_.fv];obtain⟨a,p,m⟩:=a;obtain⟨h1,h2,h3,h4⟩:=Z;simp only at h1 h2 h3 h4⊢;refine AP.ren ⟨{i:Nat//i<=a.Tiles.length},λi=>⟨[(8,.im (.int .i64 i.1)),(7,.ptr 3 0),(6,.ptr 2 0),(4,.ptr 1 0),(0,.ptr 0 0),(2,.im (.int .i64 m))],[(4,(true,.arr 137 3 (((a.Tiles.take i.1).filter (DX p m 4)).map Al.c))),(3,(true,.cells 39 [.own 4])),(2,(true,.cells 39 [.im (.sl true 0 [])])),(1,(true,.cells 96 [.im (.int .i64 p.X),.im (.int .i64 p.Y)])),(0,(false,.view (Ak.c a)))],5⟩,λi=>a.Tiles.length - i.1,λi=>⟨by simp[Ai.good,Am,Ac,A8,AV.bel,Aq],by simp⟩,⟨⟨0,Cz _⟩,[(4,none)],?_⟩,λi=> ?_⟩
 .simp only[Ay];simp(disch:=omega)only[ZA,simprocAttr,Bp,ZeQ]
  try simp
 obtain⟨i,hi⟩:=i;simp(disch:=omega)only[ZA,simprocAttr,Ak.d,AO];intro _;refine⟨λz=>⟨z,λx hx=> ?_⟩,λz=> ?_⟩;rotate_left
 .rw[DQ (by omega)];rfl
 refine AP.old ⟨{d:Nat//d<=4},λd=>⟨[(10,.im (.int .i64 d.1)),(9,.im (.bool (DX p m d.1 x))),(8,.im (.int .i64 i)),(7,.ptr 3 0),(6,.ptr 2 0),(4,.ptr 1 0),(0,.ptr 0 0),(2,.im (.int .i64 m))],[(4,(true,.arr 137 3 (((a.Tiles.take i).filter (DX p m 4)).map Al.c))),(3,(true,.cells 39 [.own 4])),(2,(true,.cells 39 [.im (.sl true 0 [])])),(1,(true,.cells 96 [.im (.int .i64 p.X),.im (.int .i64 p.Y)])),(0,(false,.view (Ak.c a)))],5⟩,λd=>4 - d.1,λd=>⟨by simp[Ai.good,Am,Ac,A8,AV.bel,Aq],by simp⟩,⟨⟨0,Cz _⟩,?_⟩,λd=> ?_⟩
 .simp(disch:=omega)only[ZA,simprocAttr,sub,xC p m x]
  try simp
 obtain⟨d,hd⟩:=d;simp(disch:=omega)only[ZA,simprocAttr,l01Step.q,l01Step.fv,sub,AO];have G:IntKind.i64.wrap ((d:Int)+1)=((d+1:Nat):Int):=by rw[AG (by omega) (by omega)];omega
 simp only[<-iN];refine⟨λaa=>⟨λc1=>⟨z,λy hy=>⟨⟨h1,by omega⟩,λO=>⟨⟨d+1,by omega⟩,by simp only;omega,G,?_⟩,λO=>⟨⟨d+1,by omega⟩,by simp only;omega,G,?_⟩⟩⟩,λc1=>⟨⟨d+1,by omega⟩,by simp only;omega,G,?_⟩⟩,λaa=> ?_⟩
 .obtain rfl:x=y:=AD (hx.symm.trans hy);rw[QL] at O;simp[DX,c1,O]
 .obtain rfl:x=y:=AD (hx.symm.trans hy);rw[QL] at O;simp[DX,c1,O]
 .rw[Lv] at c1;simp[DX,c1]
 .obtain rfl:d=4:=by omega
  have ab:((a.Tiles.take i).filter (DX p m 4)).length<=a.Tiles.length:=D9 (Zdy _ _) (by simp;omega);have Q:IntKind.i64.wrap ((i:Int)+1)=((i+1:Nat):Int):=by rw[AG (by omega) (by omega)];omega
  refine⟨λc1=>⟨z,λy hy=>⟨by simp[BE,B1,D.one],by omega,⟨i+1,by omega⟩,[(4,some 6)],by simp only;omega,?_⟩⟩,λc1=>⟨⟨i+1,by omega⟩,[(4,some 4)],by simp only;omega,?_⟩⟩
  .obtain rfl:x=y:=AD (hx.symm.trans hy);simp only[Ay];simp(disch:=omega)only[ZA,simprocAttr,Bp];refine⟨Q,?_⟩;rw[Kl hx,vV,ZdU c1];simp[Al.c]
  .simp only[Ay];simp(disch:=omega)only[ZA,simprocAttr,Bp];refine⟨Q,?_⟩;rw[Kl hx,vV,mH c1];simp
def MB{s:Ax}: ∀(l:List Ap) (b:Ak) (i:Nat),JS s b l->CM s b l i=(AX b l,0,0)
 |[],_,_,_=>rfl
 |o::r,b,i,h=>by
  have h0:=h 0 o rfl;simp only[Rq,AX] at h0;simp only[CM];rw[Af (by rw[h0.1];simp),Af (by omega),MB r _ (i+1) λk o' z=>h (k+1) o' z];rfl
def iG:Option (Int×Ap)->Int×Ab
 |none=>(0,⟨0,0⟩)
 |some (k,o)=>(k,o.At)
def WE{A:Type}{g:Nat->Option A}{n i:Nat}{r:A}(G:i<n)(h:Fm g (n - i) i=Fm g n 0)(z:g i=some r):Fm g n 0=some r:=by
 rw[<-h,show n - i=(n - i - 1)+1 by omega];simp only[Fm,z,Zfe]
def rO{A:Type}{g:Nat->Option A}{n i:Nat}(G:i<n)(h:Fm g (n - i) i=Fm g n 0)(z:g i=none):Fm g (n - (i+1)) (i+1)=Fm g n 0:=by
 rw[<-h,show n - i=(n - (i+1))+1 by omega];simp only[Fm,z,gM]
def LP{A:Type}{g:Nat->Option A}{n:Nat}(h:Fm g (n - n) n=Fm g n 0):Fm g n 0=none:=by
 rw[<-h,Hi];rfl
def YD(b:Ak)(p:Ab)(t:Int):(BU b p t).Tiles.length<=b.Tiles.length+1:=by
 rw[WV];exact ZeV (by rw[(lZ ⟨p,t⟩ b.Tiles).length_eq,CP])
def dV{s:Ax}: ∀(l:List Ap) (b:Ak),b.Tiles.length<=500->JS s b l->(AX b l).Tiles.length<=500
 |[],_,h,_=>h
 |o::r,b,h,hp=>by
  have h0:=(hp 0 o rfl).2;simp only[Rq,AX] at h0;have G:=YD b o.At o.Tile;exact dV r _ (by omega) λk o' z=>hp (k+1) o' z
def fltS_.fv(a:Ax×(List Ap)):Int×Ab:=(λs l=>iG (Gy s l)) (a.1) (a.2)
def fltS_.row:AA:=vK (b2 (qP 4 Ax.d_le) (qS Ap.d_le Ap.c_n)) (r2 rI (rA Ab.d_le)) (λa=>KS a.1 a.2/\a.1.Seed.Tiles.length<=500) fltS_.fv
def fltS_.q:=AT (R:=fltS_.row) rfl
def fltS_.ok:AB Tryz.prog 65 fltS_.row:=by
 refine vw (tC l10Inputs.ok (tC outS_.ok (tC l08Play.ok (tC witS_.ok (tC atQ_.ok (tC opsS_.ok tN)))))) Tryz.func65 rfl (by kernel_rfl) ?_;intro a aa;simp only[Tryz.f65];simp(disch:=omega)only[ZA,simprocAttr,fltS_.fv,l10Inputs.q,l10Inputs.fv,outS_.q,outS_.fv,l08Play.q,l08Play.fv];obtain⟨s,l⟩:=a;simp only at aa⊢;obtain⟨⟨q1,q2,q3,q4,q5,q6⟩,q7⟩:=aa;have ai:=pJ q5;have ac:=dV l s.Seed q7 q5;have af: ∀o∈l,FD o.At:=λo G=>by
  obtain⟨k,hk⟩:=Ku.1 G;exact (GN (q5 k o hk).1).2.1
 have am:CM s s.Seed l 0=(AX s.Seed l,0,0):=MB l s.Seed 0 q5;refine⟨⟨q1,q2,q3,q4,q5,q6⟩,⟨ai,af,QE ..,q6⟩,⟨q1,q2,q3,q4⟩,?_⟩;rw[am];simp only;have O:DP s.Set (AX s.Seed l):=by
  have:=JU q3 q2 q5 l.length (AQ _)
  rwa [Gs] at this
 obtain⟨e,he⟩: ∃e,e=AX s.Seed l:=⟨_,rfl⟩;obtain⟨ins,hins⟩: ∃ins,ins=CI s s.Seed l:=⟨_,rfl⟩;obtain⟨Q,hsms⟩: ∃Q,Q=CC s s.Seed l:=⟨_,rfl⟩;rw[<-he] at O ac;have ao:Q.length=l.length:=by rw[hsms,QF]
 have ab: ∀i o,l[i]? =some o->OI s l i=Fl s Q o i (decide ((DR s (Bb (EB e o.At (Eh l ins i o.At 4))) o.At s.Set.Tiles.length).length≠1)):=λi o G=>by
  simp only[OI,G,Eg,<-he,<-hins,<-hsms]
 have ag:Gy s l=(Fm (OI s l) l.length 0).or (XH (Co s e)):=by rw[he];rfl
 rw[ag];simp only[<-hins,<-hsms,<-he];refine AP.old ⟨{i:Nat//i<=l.length/\Fm (OI s l) (l.length - i) i=Fm (OI s l) l.length 0},λi=>⟨[(12,.im (.int .i64 i.1)),(9,.ptr 2 0),(8,.im (.sl false 1 ((FB l ins l.length).map Aj))),(7,.im (.sl false 1 (Q.map Aj))),(4,.im (.int .i64 0)),(5,.ptr 1 0),(0,.ptr 0 0),(1,.im (.sl false 3 (l.map Ap.c)))],[(2,(true,.cells 39 [.im (.sl false 3 (e.Tiles.map Al.c))])),(1,(true,.cells 96 [.im (.int .i64 0),.im (.int .i64 0)])),(0,(false,.view (Ax.c s)))],3⟩,λi=>l.length - i.1,λi=>⟨by simp[Ai.good,Am,Ac,A8,AV.bel,Aq],by simp⟩,⟨⟨0,Cz _,rfl⟩,by simp(disch:=omega)only[ZA,simprocAttr,sub]⟩,λi=> ?_⟩;obtain⟨i,hi,Z⟩:=i;simp(disch:=omega)only[ZA,simprocAttr,Ak.d,witS_.q,witS_.fv,atQ_.q,atQ_.fv,opsS_.q,opsS_.fv,sub,AO];intro _;refine⟨λz=>⟨by omega,λv hv=>⟨λc1=>⟨z,λo G=> ?_⟩,λc1=>⟨z,λo G=>⟨by rw[NS];exact z,λm hm=> ?_⟩⟩⟩⟩,λz=> ?_⟩
 .have hg:OI s l i=some (1,o):=by
   rw[ab i o G];simp only[Fl,hv,AM];rw[An c1]
  rw[WE z Z hg];rfl
 .rw[rG l ins l.length i z,G] at hm;obtain rfl:=AD hm;simp only[CQ,AM];have ah:=Jh l ins i o.At 4;have ad:=af o (AZ G);have an:=KZ O o.At (Eh l ins i o.At 4);refine⟨⟨ad,ah.1,by omega,by omega⟩,z,λo2 aj=> ?_⟩;obtain rfl:o=o2:=AD (G.symm.trans aj);refine⟨⟨q1,an,ad,by omega⟩,λ_=>⟨λc2=>⟨z,λo3 ak=> ?_⟩,λc2=>⟨⟨i+1,by omega,?_⟩,by simp only;omega,by rw[AG (by omega) (by omega)];simp only;omega⟩⟩⟩
  .obtain rfl:o=o3:=AD (G.symm.trans ak);rw[L0 _ _ e] at c2;have hg:OI s l i=some (2,o):=by
    rw[ab i o G];simp only[Fl,hv,AM];rw[Af c1,An (by simp only[BL];omega)]
   rw[WE z Z hg];rfl
  .rw[L0 _ _ e] at c2;refine rO z Z ?_;rw[ab i o G];simp only[Fl,hv,AM];rw[Af c1,Af (by simp only[BL];omega)]
 .obtain rfl:i=l.length:=by omega
  rw[LP Z,gM];refine⟨⟨q1,O,ac,by omega⟩,λ_=>⟨λc=>⟨c,λo G=> ?_⟩,λc=> ?_⟩⟩
  .cases hL:Co s e with
   |nil=>rw[hL] at G;cases G
   |cons x r=>
    rw[hL] at G;obtain rfl:x=o:=by simpa using G
    rfl
  .have:Co s e=[]:=Qo.1 (by omega)
   rw[this];rfl
def K8{t:TypeId}{a b:D}(h:Le a b):Le (.ifc t a) (.ifc t b):=by
 intro ok hp v G;obtain⟨x,rfl,z⟩:=G;exact⟨x,rfl,h _ _ _ z⟩
def flE:Option (Int×Ap)->D
 |none=> .nili
 |some (k,o)=>if k=1 then .ifc 294 (.agg (Ap.c o)) else if k=2 then .ifc 296 (.agg (Ap.c o)) else .ifc 297 (.agg (Ap.c o))
def flD:D->Option (Option (Int×Ap))
 | .nili=>some none
 | .ifc t (.agg ds)=>(Ap.d ds).bind λo=>if t=294 then some (some (1,o)) else if t=296 then some (some (2,o)) else if t=297 then some (some (3,o)) else none
 |_=>none
def iF: ∀d b,flD d=some b->Le d (flE b):=by
 intro d b h;unfold flD at h;split at h
 .obtain rfl:=AD h;exact Le.refl _
 .simp only[Ef] at h;obtain⟨o,G,z⟩:=h;split at z
  .rename_i c;obtain rfl:=AD z;rw[c];exact K8 (QO (Ap.d_le _ _ G))
  .split at z
   .rename_i c;obtain rfl:=AD z;rw[c];exact K8 (QO (Ap.d_le _ _ G))
   .split at z
    .rename_i c;obtain rfl:=AD z;rw[c];exact K8 (QO (Ap.d_le _ _ G))
    .cases z
 .cases h
def outI_.fv(a:Cn×Int):Int:=(λx i=>Eh x.Seq x.Inputs i.toNat ((x.Seq[i.toNat]?.map Ap.At).getD ⟨0,0⟩) 4) (a.1) (a.2)
def outI_.row:AA:=vK (b2 (qP 8 Cn.d_le) qI) rI (λa=>(a.1.Seq.map Ap.At).Nodup/\(∀o∈a.1.Seq,FD o.At)/\a.1.Inputs.length=a.1.Seq.length/\a.1.Seq.length<=500/\0<=a.2/\a.2<a.1.Seq.length) outI_.fv
def outI_.q:=AT (R:=outI_.row) rfl
def outI_.ok:AB Tryz.prog 251 outI_.row:=by
 refine vw (tC step_.ok (tC idxAt_.ok (tC opposite_.ok (tC has_.ok tN)))) Tryz.func251 rfl (by kernel_rfl) ?_;intro a Z;simp only[Tryz.f251];simp(disch:=omega)only[ZZ,simprocAttr,outI_.fv];obtain⟨x,i⟩:=a;obtain⟨h1,h2,h3,h4,h5,h6⟩:=Z;simp only at h1 h2 h3 h4 h5 h6⊢;obtain⟨o,ho⟩: ∃o,x.Seq[i.toNat]? =some o:=⟨_,Bk (by omega)⟩;have ac:=h2 o (AZ ho);obtain⟨n,hn⟩: ∃n:Nat,i=n:=⟨i.toNat,by omega⟩;subst hn;rw[B0] at ho⊢;simp only[ho,CQ,AM];refine AP.old ⟨{d:Nat//d<=4},λd=>⟨[(8,.im (.int .i64 d.1)),(5,.im (.int .i64 (Eh x.Seq x.Inputs n o.At d.1))),(0,.ptr 0 0),(1,.im (.int .i64 n))],[(0,(false,.view (Cn.c x)))],1⟩,λd=>4 - d.1,λd=>⟨by simp[Ai.good,Am,Ac,A8,AV.bel],by simp⟩,⟨⟨0,Cz _⟩,by simp(disch:=omega)only[ZZ,simprocAttr,sub,Eh]⟩,λd=> ?_⟩;obtain⟨d,hd⟩:=d;simp(disch:=omega)only[ZZ,simprocAttr,step_.q,step_.fv,step_.re,idxAt_.q,idxAt_.fv,opposite_.q,opposite_.fv,has_.q,has_.fv,sub,AO];have z:d<4->IntKind.i64.wrap ((d:Int)+1)=((d+1:Nat):Int):=λh=>by rw[AG (by omega) (by omega)];omega
 have G:=Y5 (ins:=x.Inputs) (i:=n) (p:=o.At) (d:=d) h1;have Q: ¬JE x.Seq x.Inputs n o.At d=true->Eh x.Seq x.Inputs n o.At d=Eh x.Seq x.Inputs n o.At (d+1):=λh=>by
  rw[Lv] at h;simp only[Eh,h,BP];simp
 have O:=Jh x.Seq x.Inputs n o.At d;refine⟨λaa=>⟨by omega,λy hy=> ?_⟩,λaa=>by rw[show d=4 by omega]⟩;obtain rfl:o=y:=AD (ho.symm.trans hy);refine⟨⟨ac,by omega⟩,λc1=> ?_,λc1=>⟨⟨d+1,by omega⟩,by simp only;omega,z (by omega),Q λh=>c1 (G.1 h).1⟩⟩;have ad:(EN x.Seq (Bu o.At d)).toNat<x.Seq.length:=by
  have h3:=Mf (l:=x.Seq) (q:=Bu o.At d) rfl (by omega);cases hk:x.Seq[(EN x.Seq (Bu o.At d)).toNat]? with
  |none=>rw[hk] at h3;cases h3
  |some y=>exact (Ce.1 hk).1
 refine⟨by omega,by omega,λv hv=>⟨by omega,by omega,λc2=>⟨⟨d+1,by omega⟩,by simp only;omega,z (by omega),?_⟩,λc2=>⟨⟨d+1,by omega⟩,by simp only;omega,z (by omega),Q λh=>c2 ?_⟩⟩⟩
 .have ab:JE x.Seq x.Inputs n o.At d=true:=G.2 ⟨c1,by rw[hv,AM];exact c2⟩;rw[WF (by omega),TN (by omega) O.1 O.2];simp only[Eh,ab,BP,BM]
 .have:=(G.1 h).2
  rw[hv,AM] at this;exact this
def Rv(x:Cn)(i:Nat):Bool:=(x.Seq[i]?.map λo=>Gu x.Sys (Bb (EB x.End o.At (Eh x.Seq x.Inputs i o.At 4))) o.At o.Tile x.Sys.Set.Tiles.length).getD false
def TY(x:Cn):Prop:=(x.Seq.map Ap.At).Nodup/\(∀o∈x.Seq,FD o.At)/\x.Inputs.length=x.Seq.length/\x.Seq.length<=500/\BF x.Sys.Set/\DP x.Sys.Set x.End/\x.End.Tiles.length<=1000000/\x.Sys.Set.Tiles.length<=160
def anoI_.fv(a:Cn×Int):Bool:=(λx i=>Rv x i.toNat) (a.1) (a.2)
def anoI_.row:AA:=vK (b2 (qP 8 Cn.d_le) qI) rB (λa=>TY a.1/\0<=a.2/\a.2<a.1.Seq.length) anoI_.fv
def anoI_.q:=AT (R:=anoI_.row) rfl
def anoI_.ok:AB Tryz.prog 214 anoI_.row:=by
 refine vw (tC outI_.ok (tC has_.ok (tC step_.ok (tC woA.ok (tC bindA.ok tN))))) Tryz.func214 rfl (by kernel_rfl) ?_;intro a ad;simp only[Tryz.f214];simp(disch:=omega)only[ZZ,simprocAttr,anoI_.fv];obtain⟨x,i⟩:=a;obtain⟨⟨h1,h2,h3,h4,h5,h6,h7,h8⟩,h9,Q⟩:=ad;simp only at h1 h2 h3 h4 h5 h6 h7 h8 h9 Q⊢;obtain⟨n,hn⟩: ∃n:Nat,i=n:=⟨i.toNat,by omega⟩;subst hn;rw[B0];refine⟨h9,Q,λo ho=> ?_⟩;have ac:=h2 o (AZ ho);obtain⟨m,hm⟩: ∃m,m=Eh x.Seq x.Inputs n o.At 4:=⟨_,rfl⟩;have ai:=Jh x.Seq x.Inputs n o.At 4;rw[<-hm] at ai;refine AP.ren ⟨{d:Nat//d<=4},λd=>⟨[(20,.im (.int .i64 d.1)),(6,.own 3),(5,.ptr 1 0),(0,.ptr 0 0),(1,.im (.int .i64 n))],[(3,(true,.arr 96 2 ((Fc o.At m d.1).map Ab.c))),(1,(true,.cells 108 ((Ap.c o).map .im))),(0,(false,.view (Cn.c x)))],4⟩,λd=>4 - d.1,λd=>⟨by simp[Ai.good,Am,Ac,A8,AV.bel,Aq,Ap.c],by simp⟩,⟨⟨0,Cz _⟩,[(3,some 2)],?_⟩,λd=> ?_⟩
 .simp only[Ay];simp(disch:=omega)only[ZZ,simprocAttr,Bp,Fc]
  try simp
 obtain⟨d,hd⟩:=d;simp(disch:=omega)only[ZZ,simprocAttr,Cl,outI_.q,outI_.fv,has_.q,has_.fv,step_.q,step_.fv,step_.re,woA.q,woA.fv,AO];have Z:d<4->IntKind.i64.wrap ((d:Int)+1)=((d+1:Nat):Int):=λh=>by rw[AG (by omega) (by omega)];omega
 have aj:=rJ o.At m d;simp only[ho,CQ,AM,<-hm];refine⟨λag=>⟨⟨h1,h2,h3,h4,by omega⟩,by omega,λc1=>⟨⟨ac,by omega⟩,by simp[BE,B1,D.one],by omega,⟨d+1,by omega⟩,[(3,some 5)],by simp only;omega,?_⟩,λc1=>⟨⟨d+1,by omega⟩,[(3,some 3)],by simp only;omega,?_⟩⟩,λag=> ?_⟩
 .simp only[Ay];simp(disch:=omega)only[ZA,simprocAttr,Bp];refine⟨Z (by omega),?_⟩;simp[Fc,c1,Ab.c]
 .simp only[Ay];simp(disch:=omega)only[ZA,simprocAttr,Bp];refine⟨Z (by omega),?_⟩;rw[Lv] at c1;simp[Fc,c1]
 obtain rfl:d=4:=by omega
 have af:Ew (Fc o.At m 4) x.End.Tiles=(EB x.End o.At m).Tiles:=CU Ak.Tiles (Zy x.End o.At m);rw[af];have O:=KZ h6 o.At m;have aa:Rv x n=Gu x.Sys (Bb (EB x.End o.At m)) o.At o.Tile x.Sys.Set.Tiles.length:=by
  simp only[Rv,ho,CQ,AM,<-hm]
 obtain⟨rest,hrest⟩: ∃r,r=EB x.End o.At m:=⟨_,rfl⟩;rw[aa];simp only[<-hrest] at O⊢;refine⟨h7,λ_=> ?_⟩;refine AP.old ⟨{k:Nat//k<=x.Sys.Set.Tiles.length/\Gu x.Sys (Bb rest) o.At o.Tile k=false},λk=>⟨[(49,.im (.int .i64 k.1)),(48,.im (.int .i64 x.Sys.Set.Tiles.length)),(8,.ptr 4 0),(5,.ptr 1 0),(0,.ptr 0 0)],[(4,(true,.cells 39 [.im (.sl false 3 (rest.Tiles.map Al.c))])),(1,(true,.cells 108 ((Ap.c o).map .im))),(0,(false,.view (Cn.c x)))],5⟩,λk=>x.Sys.Set.Tiles.length - k.1,λk=>⟨by simp[Ai.good,Am,Ac,A8,AV.bel,Aq,Ap.c],by simp⟩,⟨⟨0,Cz _,rfl⟩,by simp(disch:=omega)only[ZZ,simprocAttr,sub]⟩,λk=> ?_⟩;obtain⟨k,hk,G⟩:=k;simp(disch:=omega)only[ZZ,simprocAttr,Cl,bindA.q,bindA.ar,bindA.fv,sub,AO];have ab:k<x.Sys.Set.Tiles.length->IntKind.i64.wrap ((k:Int)+1)=((k+1:Nat):Int):=λh=>by rw[AG (by omega) (by omega)];omega
 have ah:SM x.Sys.Set (Bb rest):=λp hp=>JW O p hp
 refine⟨λz=>⟨λc1=>⟨⟨h5,ah,ac,⟨by omega,by omega⟩,O.1⟩,λc2=> ?_,λc2=>⟨⟨k+1,by omega,?_⟩,by simp only;omega,ab z⟩⟩,λc1=>⟨⟨k+1,by omega,?_⟩,by simp only;omega,ab z⟩⟩,λz=> ?_⟩
 .exact (dU.2 ⟨k,z,c1,c2⟩).symm
 .simp only[Gu,G,aL,aK c2,gK]
 .have:decide ((k:Int)≠o.Tile)=false:=aK (by omega)
  simp only[Gu,G,aL,this,F6]
 .rw[<-G,show k=x.Sys.Set.Tiles.length by omega]
def XW(x:Cn)(i:Nat):Option (Int×Ap):=(x.Seq[i]?).bind λo=>Fl x.Sys x.Strength o i (Rv x i)
def XO(x:Cn):Option (Int×Ap):=(Fm (XW x) x.Seq.length 0).or (XH (Co x.Sys x.End))
def ifcT:Mh Tryz.prog 238=true:=by kernel_rfl
def con1:IW Tryz.prog 294=true:=by kernel_rfl
def con2:IW Tryz.prog 296=true:=by kernel_rfl
def con3:IW Tryz.prog 297=true:=by kernel_rfl
def mk1:GO Tryz.prog 294 "loop.example/g01081/impl.kind" =some 333:=by kernel_rfl
def mk2:GO Tryz.prog 296 "loop.example/g01081/impl.kind" =some 335:=by kernel_rfl
def mk3:GO Tryz.prog 297 "loop.example/g01081/impl.kind" =some 337:=by kernel_rfl
def ma1:GO Tryz.prog 294 "loop.example/g01081/impl.at" =some 332:=by kernel_rfl
def ma2:GO Tryz.prog 296 "loop.example/g01081/impl.at" =some 334:=by kernel_rfl
def ma3:GO Tryz.prog 297 "loop.example/g01081/impl.at" =some 336:=by kernel_rfl
def k1_.fv(a:Ap):Int:=(λ_=>1) a
def k1_.row:AA:=vK (b1 (qR Ap.d_le)) rI (λa=>True) k1_.fv
def k1_.q:=AT (R:=k1_.row) rfl
def k1_.ok:AB Tryz.prog 333 k1_.row:=by
 refine vw tN Tryz.func333 rfl (by kernel_rfl) ?_;intro a z;simp only[Tryz.f333];simp(disch:=omega)only[ZA,simprocAttr,k1_.fv]
 try trivial
def k2_.fv(a:Ap):Int:=(λ_=>2) a
def k2_.row:AA:=vK (b1 (qR Ap.d_le)) rI (λa=>True) k2_.fv
def k2_.q:=AT (R:=k2_.row) rfl
def k2_.ok:AB Tryz.prog 335 k2_.row:=by
 refine vw tN Tryz.func335 rfl (by kernel_rfl) ?_;intro a z;simp only[Tryz.f335];simp(disch:=omega)only[ZA,simprocAttr,k2_.fv]
 try trivial
def k3_.fv(a:Ap):Int:=(λ_=>3) a
def k3_.row:AA:=vK (b1 (qR Ap.d_le)) rI (λa=>True) k3_.fv
def k3_.q:=AT (R:=k3_.row) rfl
def k3_.ok:AB Tryz.prog 337 k3_.row:=by
 refine vw tN Tryz.func337 rfl (by kernel_rfl) ?_;intro a z;simp only[Tryz.f337];simp(disch:=omega)only[ZA,simprocAttr,k3_.fv]
 try trivial
def p1_.fv(a:Ap):Ab:=(λo=>o.At) a
def p1_.row:AA:=vK (b1 (qR Ap.d_le)) (rA Ab.d_le) (λa=>True) p1_.fv
def p1_.q:=AT (R:=p1_.row) rfl
def p1_.ok:AB Tryz.prog 332 p1_.row:=by
 refine vw tN Tryz.func332 rfl (by kernel_rfl) ?_;intro a z;simp only[Tryz.f332];simp(disch:=omega)only[ZA,simprocAttr,p1_.fv]
 try trivial
def p2_.fv(a:Ap):Ab:=(λo=>o.At) a
def p2_.row:AA:=vK (b1 (qR Ap.d_le)) (rA Ab.d_le) (λa=>True) p2_.fv
def p2_.q:=AT (R:=p2_.row) rfl
def p2_.ok:AB Tryz.prog 334 p2_.row:=by
 refine vw tN Tryz.func334 rfl (by kernel_rfl) ?_;intro a z;simp only[Tryz.f334];simp(disch:=omega)only[ZA,simprocAttr,p2_.fv]
 try trivial
def p3_.fv(a:Ap):Ab:=(λo=>o.At) a
def p3_.row:AA:=vK (b1 (qR Ap.d_le)) (rA Ab.d_le) (λa=>True) p3_.fv
def p3_.q:=AT (R:=p3_.row) rfl
def p3_.ok:AB Tryz.prog 336 p3_.row:=by
 refine vw tN Tryz.func336 rfl (by kernel_rfl) ?_;intro a z;simp only[Tryz.f336];simp(disch:=omega)only[ZA,simprocAttr,p3_.fv]
 try trivial
def flt_.fv(a:Cn):Option (Int×Ap):=(XO) a
def flt_.row:AA:=vK (b1 (qP 8 Cn.d_le)) (RK.mk (flD) (flE) (iF)) (λa=>TY a/\a.Strength.length=a.Seq.length/\a.End.Tiles.length<=500/\1<=a.Sys.Temperature) flt_.fv
def flt_.q:=AT (R:=flt_.row) rfl
def flt_.ok:AB Tryz.prog 175 flt_.row:=by
 refine vw (tC anoI_.ok (tC newC.ok (tC lisC.ok tN))) Tryz.func175 rfl (by kernel_rfl) ?_;intro a ab;simp only[Tryz.f175];simp(disch:=omega)only[ZZ,simprocAttr,flt_.fv];obtain⟨⟨h1,h2,h3,h4,h5,Z,h7,h8⟩,h9,ac,Q⟩:=ab;intro _;simp only[XO];refine AP.old ⟨{i:Nat//i<=a.Seq.length/\Fm (XW a) (a.Seq.length - i) i=Fm (XW a) a.Seq.length 0},λi=>⟨[(11,.im (.int .i64 i.1)),(10,.im (.int .i64 a.Seq.length)),(9,.im (.sl false 3 (a.Seq.map Ap.c))),(2,.im .nili),(0,.ptr 0 0)],[(0,(false,.view (Cn.c a)))],1⟩,λi=>a.Seq.length - i.1,λi=>⟨by simp[Ai.good,Am,Ac,A8,AV.bel],by simp⟩,⟨⟨0,Cz _,rfl⟩,by simp(disch:=omega)only[ZZ,simprocAttr,sub]⟩,λi=> ?_⟩;obtain⟨i,hi,G⟩:=i;simp(disch:=omega)only[ZZ,simprocAttr,anoI_.q,anoI_.fv,sub,AO,con1,con2];have ad:i<a.Seq.length->IntKind.i64.wrap ((i:Int)+1)=((i+1:Nat):Int):=λh=>by rw[AG (by omega) (by omega)];omega
 refine⟨λz=>⟨z,λo ho=>⟨by omega,λv hv=>⟨λc1=> ?_,λc1=>⟨⟨⟨h1,h2,h3,h4,h5,Z,h7,h8⟩,z⟩,λc2=> ?_,λc2=>⟨⟨i+1,by omega,?_⟩,by simp only;omega,ad z⟩⟩⟩⟩⟩,λz=> ?_⟩
 .have hg:XW a i=some (1,o):=by
   simp only[XW,ho,Eg,Fl,hv,AM];rw[An c1]
  rw[WE z G hg];rfl
 .have hg:XW a i=some (2,o):=by
   simp only[XW,ho,Eg,Fl,hv,AM];rw[Af c1,An c2]
  rw[WE z G hg];rfl
 .refine rO z G ?_;simp only[XW,ho,Eg,Fl,hv,AM];rw[Af c1,Af c2]
 obtain rfl:i=a.Seq.length:=by omega
 rw[LP G,gM];have af:newC.pre (a.Sys,a.End):=⟨h5,by simp only;omega,λy hy=>⟨Z.2 y hy,ZJ (sJ _ none Z.1 y hy).1⟩⟩;have aa:Cs (Ci a.End.Tiles)=Bb a.End:=(RM.of Z.1 λx O=>(Z.2 x O).1).at;have ag:JO a.Sys (Bb a.End) (Kk a.Sys a.End).Op:=by
  have:=TL (s:=a.Sys) (l:=a.End.Tiles) Q
  rw[aa] at this;simp only[Kk,aa];exact this
 obtain⟨g1,g2,g3⟩:=TJ Q ac h8 ag;refine AE.os (a.Sys,a.End) [] af (λj=>by simp[Ao,hget]) rfl rfl ?_ ?_
 .simp(disch:=omega)only[ZA,simprocAttr,newC.ca,CO,Ax.c,Ak.c]
 simp(disch:=omega)only[ZA,simprocAttr,newC.H1];refine AE.os (Kk a.Sys a.End) [5,3,4] g2 (λj=>Gd _ j) rfl rfl ?_ ?_
 .simp(disch:=omega)only[ZA,simprocAttr,asmC.ca,B5,BV,De,EE]
  try exact⟨rfl,rfl,rfl,rfl⟩
 simp(disch:=omega)only[ZA,simprocAttr,lisC.r0,g1,AO,con3];intro _;refine⟨λc=>⟨c,λx O=> ?_⟩,λc=> ?_⟩
 .cases hL:Co a.Sys a.End with
  |nil=>rw[hL] at O;cases O
  |cons y r=>
   rw[hL] at O;obtain rfl:y=x:=by simpa using O
   rfl
 .have:Co a.Sys a.End=[]:=Qo.1 (by omega)
  rw[this];rfl
def XR{s:Ax}{l:List Ap}(h:KS s l):XO ⟨s,l,AX s.Seed l,CI s s.Seed l,CC s s.Seed l⟩=Gy s l:=by
 rw[<-XQ h];simp only[XO];rw[dS l.length 0 (h:=wP s l) λi _ _=> ?_];simp only[XW,wP,Rv];cases l[i]? <;>rfl
def iH{s:Ax}{z:List Int}{o:Ap}{i:Nat}{m:Bool}{q:Int×Ap}(h:Fl s z o i m=some q):q.1=1\/q.1=2:=by
 simp only[Fl] at h;split at h
 .obtain rfl:=AD h;exact .inl rfl
 .split at h
  .obtain rfl:=AD h;exact .inr rfl
  .cases h
def aW{g:Nat->Option (Int×Ap)}(z: ∀i q,g i=some q->q.1=1\/q.1=2): ∀(n k:Nat) (q:Int×Ap),Fm g n k=some q->q.1=1\/q.1=2
 |n+1,k,q,h=>by
  simp only[Fm] at h;cases hk:g k with
  |none=>rw[hk,gM] at h;exact aW z n (k+1) q h
  |some r=>rw[hk,Zfe] at h;obtain rfl:=AD h;exact z k _ hk
def Sq{s:Ax}{l:List Ap}{q:Int×Ap}(h:Gy s l=some q):q.1=1\/q.1=2\/q.1=3:=by
 simp only[Gy] at h;cases hf:Fm (OI s l) l.length 0 with
 |some r=>
  rw[hf,Zfe] at h;obtain rfl:=AD h
  have:=aW (g:=OI s l) (λi q hq=>by
   simp only[OI,Ef] at hq;obtain⟨o,_,z⟩:=hq;exact iH z) _ _ _ hf
  rcases this with h|h
  .exact .inl h
  .exact .inr (.inl h)
 |none=>
  rw[hf,gM] at h;cases he:Co s (AX s.Seed l) with
  |nil=>rw[he] at h;cases h
  |cons o r=>rw[he] at h;obtain rfl:=AD h;exact .inr (.inr rfl)
def iS{s:Ax}{l:List Ap}(h:(Cw s l).2.2≠0):VU s l=(0,⟨0,0⟩,(Cw s l).2.2):=by simp only[VU];rw[An h]
def Th{s:Ax}{l:List Ap}(h:(Cw s l).2.2=0):VU s l=XP (Gy s l):=by simp only[VU];rw[Af (λc=>c h)]
def TZ{s:Ax}{l:List Ap}(c0:(Cw s l).2.2=0):(Cw s l).1=AX s.Seed l/\KS s l/\s.Seed.Tiles.length<=500/\1<=s.Temperature/\(AX s.Seed l).Tiles.length<=500/\TY ⟨s,l,AX s.Seed l,CI s s.Seed l,CC s s.Seed l⟩:=by
 obtain⟨hE,hp,z⟩:=MY c0;have hp':=hp;obtain⟨q1,q2,q3,q4,O,q6⟩:=hp';have Z:s.Seed.Tiles.length<=500:=(Z3 (H5 z).2.2).2;have hT:1<=s.Temperature:=by
  simp only[F3,Bj,AS,BL] at z;exact z.2.2.2.1.1
 have Q:=dV l s.Seed Z O;have G:DP s.Set (AX s.Seed l):=by
  have:=JU q3 q2 O l.length (AQ _)
  rwa [Gs] at this
 exact⟨hE,hp,Z,hT,Q,pJ O,λo ho=>by
  obtain⟨k,hk⟩:=Ku.1 ho;exact (GN (O k o hk).1).2.1,QE ..,q6,q1,G,by simp only;omega,q3⟩
def lfI_.fv(a:Ax×(List Ap)):Int×Ab×Int:=(VU) (a.1) (a.2)
def lfI_.row:AA:=vK (b2 (qR Ax.d_le) (qS Ap.d_le Ap.c_n)) (r3 rI (rA Ab.d_le) rI) (λa=>Qf a.1.Set) lfI_.fv
def lfI_.q:=AT (R:=lfI_.row) rfl
def lfI_.ok:AB Tryz.prog 125 lfI_.row:=by
 refine vw (tC play_.ok (tC flt_.ok (tC k1_.ok (tC k2_.ok (tC k3_.ok (tC p1_.ok (tC p2_.ok (tC p3_.ok tN)))))))) Tryz.func125 rfl (by kernel_rfl) ?_;intro a z;simp only[Tryz.f125];simp(disch:=omega)only[ZZ,simprocAttr,lfI_.fv,play_.q,play_.fv,flt_.q,flt_.fv,ifcT];obtain⟨s,l⟩:=a;simp only at z⊢;refine⟨z,?_⟩;by_cases c0:(Cw s l).2.2=0
 case neg=>
  have G:I8 s l=(none,(Cw s l).2.2):=by simp only[I8];rw[An c0]
  rw[G,An c0,iS c0]
 have G:I8 s l=(some ⟨s,l,(Cw s l).1,CI s s.Seed l,CC s s.Seed l⟩,0):=by
  simp only[I8];rw[Af (λh=>h c0)]
 obtain⟨hE,hp,h5,hT,O,Q⟩:=TZ c0;rw[hE] at G;simp only[G];rw[Af (by simp)];have Z: ∀x:Cn,(kP Cn.d 8 (FY (plE (some x))))=some x:=λx=>Cn.d_c x
 simp only[Z,Eg,Eo];refine⟨⟨Q,QF ..,O,hT⟩,?_⟩;rw[XR hp,Th c0];cases hf:Gy s l with
 |none=>
  simp only[flE];simp(disch:=omega)only[ZA,simprocAttr];rfl
 |some q=>
  obtain⟨k,o⟩:=q;rcases Sq hf with h|h|h
  all_goals
   simp only at h;subst h;simp only[flE];simp(disch:=omega)only[ZA,simprocAttr,k1_.q,k1_.fv,k2_.q,k2_.fv,k3_.q,k3_.fv,p1_.q,p1_.fv,p2_.q,p2_.fv,p3_.q,p3_.fv,mk1,mk2,mk3,ma1,ma2,ma3];rfl
def rW{s:Ax}{l:List Int}(hs:s.Set.Tiles.length<=160): ∀(n:Nat) (b:Ak) (d:List Ap),DP s.Set b->(Gz s l n b d).2.2=0-> ∃r,(Gz s l n b d).1=d++r/\ ∀i,CM s b r i=((Gz s l n b d).2.1,0,0)
 |0,b,d,_,_=>⟨[],by simp[Gz],λi=>by simp only[CM,Gz]⟩
 |n+1,b,d,hb,h=>by
  rw[Gz] at h⊢;cases ho:GK s l b d.length with
  |none=>exact⟨[],by simp,λi=>by simp only[CM]⟩
  |some o=>
   rw[ho] at h;simp only at h⊢;by_cases z:500<=b.Tiles.length
   .rw[An z] at h;exact absurd h (by decide)
   .rw[Af z] at h⊢;have hc:=QJ hb ho;obtain⟨r,G,O⟩:=rW hs n _ _ (QN hs hb hc) h;refine⟨o::r,by rw[G,Hw];rfl,λi=> ?_⟩;rw[CM,Af (by simp[hc]),Af z];exact O _
def iM{s:Ax}{l:List Int}(h:(Fo s l).2.2=0):Cw s (Fo s l).1=((Fo s l).2.1,0,0):=by
 have Q:=(SF s l).1;by_cases c1:F3 s=false
 .simp only[Fo] at h;rw[An c1] at h;exact absurd h (by decide)
 by_cases z:DY l=false
 .simp only[Fo] at h;rw[Af c1,An z] at h;exact absurd h (by decide)
 have e:Fo s l=Gz s l 500 s.Seed []:=by simp only[Fo];rw[Af c1,Af z]
 rw[e] at h Q⊢;obtain⟨_,Z,_,q4⟩:=MX c1;obtain⟨r,G,O⟩:=rW q4 500 s.Seed [] Z h;rw[Hg] at G;simp only[Cw];rw[Af c1,Af (by omega),G];exact O 0
def Ct(s:Ax)(l:List Int):List Ap×Ak×Int:=if (Fo s l).2.2≠0 then ([],⟨[]⟩,(Fo s l).2.2) else if (VU s (Fo s l).1).2.2=3 then Fo s l else ([],⟨[]⟩,3)
def fndS_.fv(a:Ax×(List Int)):(List Ap)×Ak×Int:=(Ct) (a.1) (a.2)
def fndS_.row:AA:=vK (b2 (qR Ax.d_le) (qS Da Cp)) (r3 (rS Ap.d_le Ap.c_n) (rA Ak.d_le) rI) (λa=>True) fndS_.fv
def fndS_.q:=AT (R:=fndS_.row) rfl
def fndS_.ok:AB Tryz.prog 28 fndS_.row:=by
 refine vw (tC GrowS_.ok (tC fltS_.ok tN)) Tryz.func28 rfl (by kernel_rfl) ?_;intro a O;simp only[Tryz.f28];simp(disch:=omega)only[ZA,simprocAttr,Ak.d,fndS_.fv,GrowS_.q,GrowS_.fv,fltS_.q,fltS_.fv];obtain⟨s,l⟩:=a;have hq:=iM (s:=s) (l:=l);obtain⟨w,hw⟩: ∃w,w=Fo s l:=⟨_,rfl⟩;simp only[Ct,<-hw] at hq⊢;by_cases c0:w.2.2=0
 case neg=>rw[An c0,An c0]
 have G:(if w.2.2≠0 then ([],⟨[]⟩,w.2.2) else if (VU s w.1).2.2=3 then w else ([],⟨[]⟩,3))=(if (VU s w.1).2.2=3 then w else (([]:List Ap),(⟨[]⟩:Ak),3)):=Af (λh=>h c0);rw[Af (λh=>h c0),G];have z:(Cw s w.1).2.2=0:=by rw[hq c0]
 obtain⟨_,hp,Z,_⟩:=TZ z;refine⟨⟨hp,Z⟩,?_⟩;rw[Th z];cases hf:Gy s w.1 with
 |none=>
  obtain⟨w0,w1,w2⟩:=w;simp only at c0;subst c0;rfl
 |some q=>
  obtain⟨k,o⟩:=q
  have:=Sq hf
  simp only at this;have hk: ¬(iG (some (k,o))).1=0:=by simp only[iG];omega
  have Q: ¬(XP (some (k,o))).2.2=3:=by simp[XP]
  rw[An hk,Af Q]
def islF.fv(a:Ax×(List Ap)):Bool:=(λs l=>decide ((VU s l).2.2=3)) (a.1) (a.2)
def islF.row:AA:=CR (b2 (qR Ax.d_le) (qS Ap.d_le Ap.c_n)) rB (λa=>Qf a.1.Set) islF.fv
def islF.q:=CY (R:=islF.row) rfl
def islF.ok:AB Tryz.prog 67 islF.row:=by
 refine Fy (tC lfI_.ok tN) Tryz.func67 rfl (by kernel_rfl) ?_;intro a z;simp only[Tryz.f67];simp(disch:=omega)only[ZA,simprocAttr,islF.fv,lfI_.q,lfI_.fv,D.sc,D.scs,Bn];exact z
def fndI.H1(a:Ax×List Int):Av:=GI (Ct a.1 a.2)
def fndI.row:AA:=AE grI.ca (λ_=>[]) 0 (λa=>Qf a.1.Set) (λ_=>false) (λa=>OJ (Ct a.1 a.2)) fndI.H1 20
def fndI.ok:AB Tryz.prog 29 fndI.row:=by
 refine M8 (tC grI.ok (tC islF.ok tN)) Tryz.func29 rfl (by kernel_rfl) (exB:=LX) (R:=λa r=>r=OJ (Ct a.1 a.2)) (λ_=>rfl)
  (λa=>by simp[grI.ca,Ax.c,Aq,AV.bel,Ac,A8,BO]) (λa p hp=> ?_) (λa r h=>by subst h;exact CF.refl _) ?_
 rotate_left
 intro a z;simp only[Tryz.f29,grI.ca,Ax.c];simp(disch:=omega)only[ZA,simprocAttr];obtain⟨s,l⟩:=a;simp only at z⊢;obtain⟨w,hw⟩: ∃w,w=Fo s l:=⟨_,rfl⟩;refine AE.os (s,l) [] z (λj=>by simp[Ao,hget]) rfl rfl ?_ ?_
 .simp(disch:=omega)only[ZA,simprocAttr,grI.ca,Ax.c,grI.ca,CO,Ax.c]
  try exact⟨rfl,rfl⟩
 simp(disch:=omega)only[ZA,simprocAttr,Cl,islF.q,islF.fv,Fe,Ax.c,grI.H1,GI,OJ,<-hw];by_cases c0:w.2.2=0
 case neg=>
  rw[An c0];have G:Ct s l=([],⟨[]⟩,w.2.2):=by simp only[Ct,<-hw];rw[An c0]
  refine⟨[],[(0,some 24),(1,none),(2,some 2)],⟨[(4,.own 0),(5,.ptr 2 0),(6,.im (.int .i64 w.2.2))],[(2,(true,.cells 39 [.own 1])),(0,(true,.arr 108 3 ([]))),(1,(true,.arr 137 3 ([])))],3⟩,?_,by simp[Ai.good,Am,Ac,A8,AV.bel,Aq],by simp,?_⟩
  .simp only[Ay];simp(disch:=omega)only[ZA,simprocAttr,Bp,VL]
   try simp
  .simp(disch:=omega)only[ZA,simprocAttr,LX,fndI.H1,G,GI]
   try simp
 rw[Af (λh=>h c0)];refine⟨z,?_⟩;by_cases c1:(VU s w.1).2.2=3
 case neg=>
  rw[An c1];have G:Ct s l=([],⟨[]⟩,3):=by simp only[Ct,<-hw];rw[Af (λh=>h c0),Af c1]
  refine⟨[],[(0,some 24),(1,none),(2,some 2)],⟨[(4,.own 0),(5,.ptr 2 0),(6,.im (.int .i64 3))],[(2,(true,.cells 39 [.own 1])),(0,(true,.arr 108 3 ([]))),(1,(true,.arr 137 3 ([])))],3⟩,?_,by simp[Ai.good,Am,Ac,A8,AV.bel,Aq],by simp,?_⟩
  .simp only[Ay];simp(disch:=omega)only[ZA,simprocAttr,Bp,VL]
   try simp
  .simp(disch:=omega)only[ZA,simprocAttr,LX,fndI.H1,G,GI]
   try simp
 rw[Af (λh=>h c1)];have G:Ct s l=w:=by simp only[Ct,<-hw];rw[Af (λh=>h c0),An c1]
 refine⟨[],[(0,some 3),(1,some 4),(2,some 2)],⟨[(4,.own 0),(5,.ptr 2 0),(6,.im (.int .i64 0))],[(2,(true,.cells 39 [.own 1])),(0,(true,.arr 108 3 (w.1.map Ap.c))),(1,(true,.arr 137 3 (w.2.1.Tiles.map Al.c)))],3⟩,?_,by simp[Ai.good,Am,Ac,A8,AV.bel,Aq],by simp,?_⟩
 .simp only[Ay];simp(disch:=omega)only[ZA,simprocAttr,Bp]
  try simp
 .simp(disch:=omega)only[ZA,simprocAttr,LX,fndI.H1,G,c0,GI]
  try simp
 simp[fndI.H1,GI] at hp;rcases hp with rfl|rfl
 .exact .inr ⟨by omega,by omega,rfl,rfl⟩
 .exact .inr ⟨by omega,by omega,rfl,rfl⟩
def XS(s:Ax)(l:List Int):(Ct s l).1.length<=500/\(Ct s l).2.1.Tiles.length<=500:=by
 simp only[Ct];split
 .simp
 split
 .exact SF s l
 .simp
def eqPfF.fv(a:Bl×Bl):Bool:=(λa b=>decide (a=b)) (a.1) (a.2)
def eqPfF.row:AA:=CR (b2 (qR Bl.d_le) (qR Bl.d_le)) rB (λa=>True) eqPfF.fv
def eqPfF.ok:AB Tryz.prog 38 eqPfF.row:=by
 refine Fy (tC eqOptionS.ok (tC eqInt64S.ok (tC eqSSF.ok tN))) Tryz.func38 rfl (by kernel_rfl) ?_;intro a G;simp only[Tryz.f38];simp(disch:=omega)only[ZZ,simprocAttr,Cl,eqPfF.fv,eqOptionS.q,eqOptionS.fv,eqInt64S.q,eqInt64S.fv,eqSSF.q,eqSSF.fv,D.sc,D.scs,Bn];obtain⟨⟨k,x,y,z,w⟩,⟨k',x',y',z',w'⟩⟩:=a;simp only[Bl.mk.injEq]
 grind
def mkO0.fv(a:(List Ap)×Int):Int:=(λ_ k=>k) (a.1) (a.2)
def mkO0.row:AA:=vK (b2 (qS Ap.d_le Ap.c_n) qI) rI (λa=>a.1=[]) mkO0.fv
def mkO0.ok:AB Tryz.prog 25 mkO0.row:=by
 refine vw tN Tryz.func25 rfl (by kernel_rfl) ?_;intro a z;simp only[Tryz.f25];simp(disch:=omega)only[ZA,simprocAttr,mkO0.fv];obtain⟨l,k⟩:=a;simp only at z⊢;subst z;refine AP.old ⟨Unit,λ_=>⟨[(5,.im (.int .i64 0)),(4,.im (.int .i64 0)),(1,.im (.int .i64 k)),(0,.im (.sl false 3 []))],[],0⟩,λ_=>0,λ_=>⟨by simp[Ai.good,Am,Ac,A8,AV.bel],by simp⟩,⟨(),by simp(disch:=omega)only[ZA,simprocAttr,sub]⟩,λ_=> ?_⟩;simp(disch:=omega)only[ZA,simprocAttr]
 try simp
def mkI0.fv(a:(List Int)×Int):Int:=(λ_ k=>k) (a.1) (a.2)
def mkI0.row:AA:=vK (b2 (qS Da Cp) qI) rI (λa=>a.1=[]) mkI0.fv
def mkI0.q:=AT (R:=mkI0.row) rfl
def mkI0.ok:AB Tryz.prog 24 mkI0.row:=by
 refine vw tN Tryz.func24 rfl (by kernel_rfl) ?_;intro a z;simp only[Tryz.f24];simp(disch:=omega)only[ZA,simprocAttr,mkI0.fv];obtain⟨l,k⟩:=a;simp only at z⊢;subst z;refine AP.old ⟨Unit,λ_=>⟨[(5,.im (.int .i64 0)),(4,.im (.int .i64 0)),(1,.im (.int .i64 k)),(0,.im (.sl false 1 []))],[],0⟩,λ_=>0,λ_=>⟨by simp[Ai.good,Am,Ac,A8,AV.bel],by simp⟩,⟨(),by simp(disch:=omega)only[ZA,simprocAttr,sub]⟩,λ_=> ?_⟩;simp(disch:=omega)only[ZA,simprocAttr]
 try simp
def mkSS0.fv(a:(List (List Int))×Int):Int:=(λ_ k=>k) (a.1) (a.2)
def mkSS0.row:AA:=vK (b2 (qS Qi NW) qI) rI (λa=>a.1=[]) mkSS0.fv
def mkSS0.q:=AT (R:=mkSS0.row) rfl
def mkSS0.ok:AB Tryz.prog 81 mkSS0.row:=by
 refine vw (tC mkI0.ok tN) Tryz.func81 rfl (by kernel_rfl) ?_;intro a z;simp only[Tryz.f81];simp(disch:=omega)only[ZA,simprocAttr,mkSS0.fv];obtain⟨l,k⟩:=a;simp only at z⊢;subst z;refine AP.old ⟨Unit,λ_=>⟨[(5,.im (.int .i64 0)),(4,.im (.int .i64 0)),(1,.im (.int .i64 k)),(0,.im (.sl false 1 []))],[],0⟩,λ_=>0,λ_=>⟨by simp[Ai.good,Am,Ac,A8,AV.bel],by simp⟩,⟨(),by simp(disch:=omega)only[ZA,simprocAttr,sub]⟩,λ_=> ?_⟩;simp(disch:=omega)only[ZA,simprocAttr]
 try simp
def mkOR.row:AA:=nH mkO0.row mkOC.row
def mkOR.ok:AB Tryz.prog 25 mkOR.row:=W5 mkO0.ok mkOC.ok
def heldPf.fv(a:Bl×Int):Int:=(λp k=>FA p.Sequence k) (a.1) (a.2)
def heldPf.row:AA:=CR (b2 (qR Bl.d_le) qI) rI (λa=>0<=a.2/\a.2+3*a.1.Sequence.length<=1099511627776/\a.1.Other=[]/\a.1.Part=[]/\a.1.Flows=[]) heldPf.fv
def heldPf.ok:AB Tryz.prog 40 heldPf.row:=by
 refine Fy (tC heldO_.ok (tC heldIS.ok (tC heldSS.ok tN))) Tryz.func40 rfl (by kernel_rfl) ?_;intro a G;simp only[Tryz.f40];simp(disch:=omega)only[ZZ,simprocAttr,Cl,heldPf.fv,heldO_.q,heldO_.fv,heldIS.q,heldIS.fv,heldSS.q,heldSS.fv,D.sc,D.scs,Bn];obtain⟨⟨k0,x,y,z,w⟩,k⟩:=a;obtain⟨O,Q,Z,h4,h5⟩:=G;simp only at O Q Z h4 h5⊢;subst Z h4 h5;have e1: ∀q:Int,FA [] q=q:=λq=>by simp[FA,Dj]
 have e2: ∀q:Int,Gh [] q=q:=λq=>by simp[Gh,Je]
 have e3: ∀q:Int,I9 [] q=q:=λq=>rfl
 have e4:Vr []=0:=rfl;simp only[e1,e2,e3,e4];refine⟨⟨O,Q⟩,?_⟩;rcases SJ x k with h|h
 .rw[h]
  have:=Int.natCast_nonneg x.length
  repeat (first|(rw[Af (by omega)])|(refine⟨⟨by omega,by simp;omega⟩,?_⟩)|rfl|trivial)
 .rw[h];rfl
def Ss{s:Ax}{l:List Int}(h:(Ct s l).2.2≠0):(Ct s l).1=[]/\(Ct s l).2.1=⟨[]⟩:=by
 simp only[Ct] at h⊢;split
 .exact⟨rfl,rfl⟩
 split
 .rename_i c1 z;rw[Af c1,An z] at h;exact absurd h c1
 .exact⟨rfl,rfl⟩
def jL(c:Int):Int:=if c=0 then 3 else 0
def puP(w:List Ap×Ak×Int):Bl:=⟨jL w.2.2,w.1,[],[],[]⟩
def puF(s:Ax)(l:List Int):Bl×Ak×Int:=(puP (Ct s l),(Ct s l).2.1,(Ct s l).2.2)
def puS_.fv(a:Ax×(List Int)):Bl×Ak×Int:=(puF) (a.1) (a.2)
def puS_.row:AA:=vK (b2 (qR Ax.d_le) (qS Da Cp)) (r3 (rA Bl.d_le) (rA Ak.d_le) rI) (λa=>True) puS_.fv
def puS_.q:=AT (R:=puS_.row) rfl
def puS_.ok:AB Tryz.prog 36 puS_.row:=by
 refine vw (tC fndS_.ok tN) Tryz.func36 rfl (by kernel_rfl) ?_;intro a z;simp only[Tryz.f36];simp(disch:=omega)only[ZZ,simprocAttr,Ak.d,puS_.fv,fndS_.q,fndS_.fv];obtain⟨s,l⟩:=a;have hn:=Ss (s:=s) (l:=l);simp only[puF,puP];obtain⟨w,hw⟩: ∃w,w=Ct s l:=⟨_,rfl⟩;simp only[<-hw] at hn⊢;by_cases c0:w.2.2=0
 case neg=>
  rw[An c0,(hn c0).1,(hn c0).2];simp only[jL];rw[Af c0]
 rw[Af (λh=>h c0)];simp only[jL,c0,BM]
abbrev nI(k:Int)(n:Nat):AV:= .agg [.im (.int .i64 k),.own n,.im (.sl true 0 []),.im (.sl true 0 []),.im (.sl true 0 [])]
def Ub(w:List Ap×Ak×Int):AV:= .tup [nI (jL w.2.2) 0,.agg [.own 1],.im (.int .i64 w.2.2)]
def puI.row:AA:=AE grI.ca (λ_=>[]) 0 (λa=>Qf a.1.Set) (λ_=>false) (λa=>Ub (Ct a.1 a.2)) fndI.H1 20
def puI.ok:AB Tryz.prog 37 puI.row:=by
 refine M8 (tC fndI.ok tN) Tryz.func37 rfl (by kernel_rfl) (exB:=LX) (R:=λa r=>r=Ub (Ct a.1 a.2)) (λ_=>rfl)
  (λa=>by simp[grI.ca,Ax.c,Aq,AV.bel,Ac,A8,BO]) (λa p hp=> ?_) (λa r h=>by subst h;exact CF.refl _) ?_
 rotate_left
 intro a z;simp only[Tryz.f37,grI.ca,Ax.c];simp(disch:=omega)only[ZA,simprocAttr];obtain⟨s,l⟩:=a;simp only at z⊢;obtain⟨w,hw⟩: ∃w,w=Ct s l:=⟨_,rfl⟩;have hn:=Ss (s:=s) (l:=l);rw[<-hw] at hn;refine AE.os (s,l) [] z (λj=>by simp[Ao,hget]) rfl rfl ?_ ?_
 .simp(disch:=omega)only[ZA,simprocAttr,grI.ca,Ax.c,grI.ca,CO,Ax.c]
  try exact⟨rfl,rfl⟩
 simp(disch:=omega)only[ZA,simprocAttr,Fe,fndI.H1,GI,OJ,<-hw];by_cases c0:w.2.2=0
 case neg=>
  rw[An c0];simp only[(hn c0).1,(hn c0).2,Gq];refine⟨[],[(0,none),(1,none),(2,some 1),(3,some 2)],⟨[(4,.ptr 2 0),(5,.ptr 3 0),(6,.im (.int .i64 w.2.2))],[(2,(true,.cells 78 [.im (.int .i64 0),.own 0,.im (.sl true 0 []),.im (.sl true 0 []),.im (.sl true 0 [])])),(3,(true,.cells 39 [.own 1])),(0,(true,.arr 108 3 ([]))),(1,(true,.arr 137 3 ([])))],4⟩,?_,by simp[Ai.good,Am,Ac,A8,AV.bel,Aq],by simp,?_⟩
  .simp only[Ay];simp(disch:=omega)only[ZA,simprocAttr,Bp,VL]
   try simp
  .simp(disch:=omega)only[ZA,simprocAttr,LX,Ub,jL,c0]
   try simp
 rw[Af (λh=>h c0)];refine⟨[],[(0,some 3),(1,some 4),(2,some 1),(3,some 2)],⟨[(4,.ptr 2 0),(5,.ptr 3 0),(6,.im (.int .i64 0))],[(2,(true,.cells 78 [.im (.int .i64 3),.own 0,.im (.sl true 0 []),.im (.sl true 0 []),.im (.sl true 0 [])])),(3,(true,.cells 39 [.own 1])),(0,(true,.arr 108 3 (w.1.map Ap.c))),(1,(true,.arr 137 3 (w.2.1.Tiles.map Al.c)))],4⟩,?_,by simp[Ai.good,Am,Ac,A8,AV.bel,Aq],by simp,?_⟩
 .simp only[Ay];simp(disch:=omega)only[ZA,simprocAttr,Bp]
  try simp
 .simp(disch:=omega)only[ZA,simprocAttr,LX,Ub,jL,c0]
  try simp
 simp[fndI.H1,GI] at hp;rcases hp with rfl|rfl
 .exact .inr ⟨by omega,by omega,rfl,rfl⟩
 .exact .inr ⟨by omega,by omega,rfl,rfl⟩
def mkPk.ca(a:List Ap×Int×Int):List AV:=[nI a.2.2 0,.im (.int .i64 a.2.1)]
def mkPk.H0(a:List Ap×Int×Int):Av:=[(0,(true,.arr 108 3 (a.1.map Ap.c)))]
def mkPk.H1(a:List Ap×Int×Int):Av:=[(0,(true,.arr 108 3 ((Dj (oF a.2.1) a.1.length).map Ap.c)))]
def mkPk.row:AA:=AE mkPk.ca mkPk.H0 1 (λa=>0<=a.2.1/\a.2.1+3*a.1.length<=1099511627776) (λj=>j==0) (λa=> .im (.int .i64 (a.2.1+3*a.1.length))) mkPk.H1 0
def mkPk.ok:AB Tryz.prog 39 mkPk.row:=by
 refine ow (tC mkOR.ok (tC mkI0.ok (tC mkSS0.ok tN))) Tryz.func39 rfl (by kernel_rfl) (exB:=λ_=>false) (R:=λa r=>r= .im (.int .i64 (a.2.1+3*a.1.length))) (λ_=>rfl)
  (λa=>by simp[mkPk.ca,mkPk.H0,Aq,AV.bel,Ac,A8,BO,Ad.nms,Ao,hget]) (λa p hp=> ?_) (λa r h=>by subst h;exact CF.refl _) ?_
 rotate_left
 intro a z;simp only[Tryz.f39,mkPk.ca,mkPk.H0,mkPk.H1];simp(disch:=omega)only[ZA,simprocAttr];refine .inr (AE.os (a.1,a.2.1) [0] z (λj=> ?_) rfl rfl ?_ ?_)
 .simp only[Ao,mkOC.H0,hget];by_cases G:j=0
  .subst G;simp
  .have:(0==j)=false:=by simpa using λh=>G h.symm
   rw[this];simp;omega
 .simp(disch:=omega)only[ZA,simprocAttr,D6,mkOC.ca,mkOC.H0,CO,De]
 simp(disch:=omega)only[ZA,simprocAttr,D6,mkOC.H1,De,EE];refine .inl (vK.call [.val (.sl true 0 []),.val (.int .i64 (a.2.1+3*a.1.length))] rfl ([],a.2.1+3*a.1.length) rfl rfl ?_);simp(disch:=omega)only[ZA,simprocAttr,mkI0.q,mkI0.fv,mkSS0.q,mkSS0.fv,BB,mkO0.fv];simp[mkPk.H1] at hp;subst hp;exact .inl ⟨by omega,rfl,rfl⟩
def puV.row:AA:=Fb grV.ar (λa=>Qf a.1.Set) (λa=>Ub (Ct a.1 a.2)) fndI.H1 20
def puV.ok:AB Tryz.prog 37 puV.row:=
 pR (A:=Ax×List Int) (ca:=λ(a:Ax×List Int)=>[D.agg (Ax.c a.1),D.sl false 1 (a.2.map Aj)]) (by kernel_rfl) puI.ok (λ_=>rfl) (Rr (Mj Ax.d_le) (SV 1 Da (λ_=>rfl))) (λ_=>⟨by simp[Ub,Jp,Ey,D.sc],by simp[Ub,AV.nms,AH]⟩) (λ_=>iL _)
def Uc(w:List Ap×Ak×Int): ∀m∈(Ub w).nms,m<20:=by simp[Ub,AV.nms,AH]
def Ho(k:Int)(l:List Ap):Bl:=⟨k,l,[],[],[]⟩
def nJ(k:Int)(l:List Ap):D:= .agg [.int .i64 k,.sl false 3 (l.map Ap.c),.sl true 0 [],.sl true 0 [],.sl true 0 []]
def bJ(k:Int)(l:List Ap):kR Bl.d (.val (nJ k l))=some (Ho k l):=by
 simp only[kR,nJ,Bl.d,Ap.d_R,AR,Eg];rfl
def TX{h:Nat->Option Au}{n:Nat}{k:Int}{l:List Ap}(hn:h n=some (true,.arr 108 3 (l.map Ap.c))):E7 h (nI k n)=some (.val (nJ k l)):=by
 simp only[E7,bk,A7,hn,Km,CQ,ES,nJ]
def pkE(k:Int)(l:List Ap):a2 (kR Bl.d) (kR Bl.d) [.val (nJ k l),.val (.agg (Bl.c (Ho k l)))]=some (Ho k l,Ho k l):=by
 rw[a2,bJ];simp only[kR,Bl.d_c,Eg]
def pkH(k:Int)(l:List Ap)(q:Int):a2 (kR Bl.d) kI [.val (nJ k l),.val (.int .i64 q)]=some (Ho k l,q):=by simp only[a2,bJ,kI,Eg]
def OT{nx o:Nat}{tm:List (Nat×AV)}{h:Av}{dst:Option Nat}{go:Ai->Prop}{l:List Ap}{k kd:Int}(hk:0<=k)(Z:k+3*l.length<=1099511627776)(hS:hget h o=some (true,.arr 108 3 (l.map Ap.c)))(aa:o<nx)
 (Q: ∀G:Av,hget G o=some (true,.arr 108 3 ((Dj (oF k) l.length).map Ap.c))->(∀m,m≠o->hget G m=hget h m)->go ((⟨tm,G,nx⟩:Ai).put dst (.im (.int .i64 (k+3*l.length))))):
 mkPk.row [nI kd o,.im (.int .i64 k)] (hget h) nx (DT go ⟨tm,h,nx⟩ dst):=by
 have hd: ∀j,Ao (mkPk.H0 (l,k,kd)) j=true->j=0:=λj z=>by
  simp only[Ao,mkPk.H0,hget] at z;by_cases h:j=0
  .exact h
  .rw[Bi _ _ (λq=>h q.symm)] at z;cases z
 refine AE.tau (l,k,kd) (λ_=>o) ⟨hk,Z⟩ (λj z=>by rw[hd j z];rfl) (λj z=>⟨by rw[hd j z];omega,aa⟩) (λi j hi z _=>by rw[hd i hi,hd j z]) (λp hp=> ?_) ⟨rfl,hS,trivial⟩ (by simp[AV.nms]) (λG hH1 O=>Q G (hH1 0 _ rfl) λm hm=>O m λj z h=>hm h.symm);simp only[mkPk.H1,BK] at hp;subst hp;exact⟨rfl,λm hm=>by simp[Ad.nms] at hm⟩
def lawPU.rc:D->Option (Bool):=V4
def lawPU.re:Bool->D:=D.bool
def lawPU.rle: ∀d b,lawPU.rc d=some b->Le d (lawPU.re b):=kN
def lawPU.fv(a:Ax×(List Int)):Bool:=(λ_ _=>true) (a.1) (a.2)
def lawPU.row:AA:=vK (b2 (qR Ax.d_le) (qS Da Cp)) (RK.mk lawPU.rc lawPU.re lawPU.rle) (λa=>OX a.1.Set) lawPU.fv
def lawPU.q:=AT (R:=lawPU.row) rfl
def lawPU.ok:AB Tryz.prog 6 lawPU.row:=by
 refine vw (tC szSystem.ok (tC toYR.ok (tC toIR.ok (tC puS_.ok (tC puV.ok (tC eqPfF.ok (tC eqAsmF.ok (tC eqSystemF.ok (tC eqInt64SF.ok (tC mkSy.ok (tC mkIC.ok (tC mkPk.ok (tC mkAC.ok (tC heldPf.ok (tC heldA_.ok tN))))))))))))))) Tryz.func6 rfl (by kernel_rfl) ?_;intro a ag;simp only[Tryz.f6];simp(disch:=omega)only[ZA,simprocAttr,lawPU.fv,lawPU.rc,szSystem.q,szSystem.fv];obtain⟨s,l⟩:=a;simp only at ag⊢;intro _;split
 .trivial
 rename_i c2;refine⟨ag,?_⟩;split
 .trivial
 rename_i c0;have hB:=Zk (s:=s) (l:=1048576) (by decide) (by decide) (by omega);have h1:=Vi (s:=s) (l:=1048576) (by decide) (by decide) (by omega);have hl:l.length<=1048576:=by omega
 have ak:l.length<=1073741824:=by omega
 refine .inl (vK.call [.val (.agg (Ax.c s))] rfl s (Vg s) h1 ?_);simp(disch:=omega)only[ZA,simprocAttr,BB,toSystem.fv];refine .inl (vK.call [.val (.sl false 1 (l.map Aj))] rfl l (SO l) ak ?_);simp(disch:=omega)only[ZZ,simprocAttr,puS_.q,puS_.fv,BB,toInt64S.fv];obtain⟨w,hw⟩: ∃w,w=Ct s l:=⟨_,rfl⟩;have au:=XS s l;obtain⟨G,w1,w2⟩:=w;obtain⟨kd,hkd⟩: ∃k,k=jL w2:=⟨_,rfl⟩;simp only[puF,puP,<-hw] at au⊢;simp only[<-hkd];refine .inr (AE.nw s hB.yx rfl rfl (yJ hB) (by simp[toYX.r0,AV.nms,AH]) λHH hH1 z=> ?_);have S0:Fa (hget HH) 10 12 2000015 13 s:=yI hB hH1;have k0:hget HH 0=some (true,.cells 30 [AV.im (D.sl false 2 (List.map Ar.c s.Set.Glues)),AV.im (D.sl false 2 (List.map Tile.c s.Set.Tiles)),AV.im (D.sl false 3 (List.map Al.c s.Seed.Tiles)),AV.im (D.int IntKind.i64 s.Temperature)]):=z 0 (by omega);have k1:hget HH 1=some (true,.cells 78 ((Bl.c (Ho kd G)).map .im)):=z 1 (by omega);have k2:hget HH 2=some (true,.cells 39 [AV.im (D.sl false 3 (List.map Al.c w1.Tiles))]):=z 2 (by omega);simp only[Bl.c,Ho,Bd,Gq] at k1;clear hH1 z;simp only[toYX.r0,AV.ren,AL];simp(disch:=omega)only[ZA,simprocAttr,BB];refine .inr (AE.nw l ak rfl rfl (wU l) (by simp[AV.nms]) λah hH1 z=> ?_);have k0:hget ah 0=_:=((z 0 (by omega)).trans (Wt _ _ _ (by omega))).trans k0;have k1:hget ah 1=_:=((z 1 (by omega)).trans (Wt _ _ _ (by omega))).trans k1;have k2:hget ah 2=_:=((z 2 (by omega)).trans (Wt _ _ _ (by omega))).trans k2;have S1:Fa (hget ah) 10 12 2000015 13 s:=S0.mono λm hm=>by
  exact (z m (by have:=hB.t;omega)).trans (Wt _ _ _ (by have:=hB.t;omega))
 have g8:hget ah 2000016=some (true,.cells 47 [.own 10,.own 12,.own 2000015,.im (.int .i64 s.Temperature)]):=z _ (by omega);have g9:hget ah 2000018=some (true,.arr 2 1 (l.map Aj)):=hH1 1 _ rfl;clear hH1 z S0;simp only[AV.ren];simp(disch:=omega)only[ZA,simprocAttr,BB,g8];refine Fb.nw [.val (.agg (Ax.c s)),.val (.sl false 1 (l.map Aj))] (Pj S1.pk (bG g9)) (s,l) (Nm s l) ag (SB _) (Uc _) λO hH1 z=> ?_
 simp only[<-hw,fndI.H1] at hH1⊢;have S2:Fa (hget O) 10 12 2000015 13 s:=S1.mono λm hm=>z m (by have:=hB.t;omega)
 have k0:hget O 0=_:=(z 0 (by omega)).trans k0;have k1:hget O 1=_:=(z 1 (by omega)).trans k1;have k2:hget O 2=_:=(z 2 (by omega)).trans k2;have g8:hget O 2000016=_:=(z _ (by omega)).trans g8;have g9:hget O 2000018=_:=(z _ (by omega)).trans g9;have gg:hget O 2000019=some (true,.arr 108 3 (G.map Ap.c)):=hH1 0 _ rfl;have gp:hget O 2000020=some (true,.arr 137 3 (w1.Tiles.map Al.c)):=hH1 1 _ rfl;clear hH1 z S1;simp only[Ub,nI,<-hkd,AV.ren,AL];simp(disch:=omega)only[ZA,simprocAttr,BB,W1,k1];generalize hG:((2000040,(true,Ad.cells 39 [AV.own 2000020]))::(2000039,(true,Ad.cells 78 [.im (.int .i64 kd),.own 2000019,.im (.sl true 0 []),.im (.sl true 0 []),.im (.sl true 0 [])]))::Bh (Bh O [2000039]) [2000040]:Av)=H3;have S2:Fa (hget H3) 10 12 2000015 13 s:=S2.mono λm hm=>JF hG (by have:=hB.t;omega) (by have:=hB.t;omega) rfl
 have k0:=JF hG (by omega) (by omega) k0;have k1:=JF hG (by omega) (by omega) k1;have k2:=JF hG (by omega) (by omega) k2;have g8:=JF hG (by omega) (by omega) g8;have g9:=JF hG (by omega) (by omega) g9;have gg:=JF hG (by omega) (by omega) gg;have gp:=JF hG (by omega) (by omega) gp;have ga:hget H3 2000040=some (true,.cells 39 [.own 2000020]):=by rw[<-hG];rfl
 have gc:hget H3 2000039=some (true,.cells 78 [.im (.int .i64 kd),.own 2000019,.im (.sl true 0 []),.im (.sl true 0 []),.im (.sl true 0 [])]):=by rw[<-hG];rfl
 clear hG;refine CR.call [_,_] (Pj (TX gg) rfl) (Ho kd G,Ho kd G) (pkE _ _) trivial ?_;simp(disch:=omega)only[ZA,simprocAttr,BB,k2,ga,eqPfF.fv];refine CR.call [_,_] (Pj (Jk gp) rfl) (w1,w1) (Ry _ _) trivial ?_;simp(disch:=omega)only[ZA,simprocAttr,BB,k0,g8,eqAsmF.fv];refine .inl (vK.callA [.val (.agg (Ax.c s))] rfl s (Vg s) h1 rfl λu=> ?_);simp(disch:=omega)only[ZA,simprocAttr,toSystem.fv];refine CR.callA [_,_] (Pj S2.pk rfl) (s,s) (yC _ _) trivial rfl λu2=> ?_
 simp(disch:=omega)only[ZA,simprocAttr,BB,eqSystemF.fv];refine .inl (vK.call [.val (.sl false 1 (l.map Aj))] rfl l (SO l) ak ?_);simp(disch:=omega)only[ZA,simprocAttr,toInt64S.fv];refine CR.call [_,_] (Pj (bG g9) rfl) (l,l) (wS _ _) trivial ?_;simp(disch:=omega)only[ZA,simprocAttr,BB,g8,eqInt64SF.fv];refine OU (N:=3) hB (by decide) (by decide) S2 (by omega) λaa Z=> ?_
 have k0:hget aa 0=_:=(Z 0 (by omega)).trans k0;have k1:hget aa 1=_:=(Z 1 (by omega)).trans k1;have k2:hget aa 2=_:=(Z 2 (by omega)).trans k2;have g9:hget aa 2000018=_:=(Z _ (by omega)).trans g9;have gg:hget aa 2000019=_:=(Z _ (by omega)).trans gg;have gp:hget aa 2000020=_:=(Z _ (by omega)).trans gp;have ga:hget aa 2000040=_:=(Z _ (by omega)).trans ga;have gc:hget aa 2000039=_:=(Z _ (by omega)).trans gc;obtain⟨y1,y2⟩:=hB.syK (k:=1) (by decide) (by decide);obtain⟨m1,hm1⟩: ∃m1,m1=syK (s,1)+3*s.Seed.Tiles.length:=⟨_,rfl⟩;rw[<-hm1] at y2;have y3:0<=m1:=by omega
 simp only[<-hm1];clear Z S2 g8 y1 hm1;simp(disch:=omega)only[ZA,simprocAttr,BB];refine OR y3 (by omega) g9 (by omega) λac _ ab=> ?_
 have k0:hget ac 0=_:=(ab 0 (by omega)).trans k0;have k1:hget ac 1=_:=(ab 1 (by omega)).trans k1;have k2:hget ac 2=_:=(ab 2 (by omega)).trans k2;have gg:hget ac 2000019=_:=(ab _ (by omega)).trans gg;have gp:hget ac 2000020=_:=(ab _ (by omega)).trans gp;have ga:hget ac 2000040=_:=(ab _ (by omega)).trans ga;have gc:hget ac 2000039=_:=(ab _ (by omega)).trans gc;clear ab g9;simp(disch:=omega)only[ZA,simprocAttr,BB,k1,gc];rw[An (by omega)];refine CR.call [_,_] (Pj (TX gg) rfl) (Ho kd G,Ho kd G) (pkE _ _) trivial ?_;simp(disch:=omega)only[ZA,simprocAttr,BB,k2,ga,eqPfF.fv];refine CR.call [_,_] (Pj (Jk gp) rfl) (w1,w1) (Ry _ _) trivial ?_;simp(disch:=omega)only[ZA,simprocAttr,BB,gc,eqAsmF.fv];refine OT (by decide) (by omega) gg (by omega) λai gg ad=> ?_
 have k0:hget ai 0=_:=(ad 0 (by omega)).trans k0;have k1:hget ai 1=_:=(ad 1 (by omega)).trans k1;have k2:hget ai 2=_:=(ad 2 (by omega)).trans k2;have gp:hget ai 2000020=_:=(ad _ (by omega)).trans gp;have ga:hget ai 2000040=_:=(ad _ (by omega)).trans ga;have gc:hget ai 2000039=_:=(ad _ (by omega)).trans gc;clear ad;simp(disch:=omega)only[ZA,simprocAttr,BB,ga];refine OQ (by omega) (by omega) gp (by omega) λaj gp af=> ?_
 have k0:hget aj 0=_:=(af 0 (by omega)).trans k0;have k1:hget aj 1=_:=(af 1 (by omega)).trans k1;have k2:hget aj 2=_:=(af 2 (by omega)).trans k2;have gg:hget aj 2000019=_:=(af _ (by omega)).trans gg;have ga:hget aj 2000040=_:=(af _ (by omega)).trans ga;have gc:hget aj 2000039=_:=(af _ (by omega)).trans gc;clear af;simp(disch:=omega)only[ZA,simprocAttr,BB,gc];have an:(0:Int)<=1/\(1:Int)+3*(Ho kd (Dj (oF 1) G.length)).Sequence.length<=1099511627776/\(Ho kd (Dj (oF 1) G.length)).Other=[]/\(Ho kd (Dj (oF 1) G.length)).Part=[]/\(Ho kd (Dj (oF 1) G.length)).Flows=[]:=by simp only[Ho,WD];exact⟨by omega,by omega,trivial,trivial,trivial⟩
 have aq:heldPf.fv (Ho kd (Dj (oF 1) G.length),1)=1+3*G.length:=SI 1 G.length;have am:(0:Int)<=1+3*G.length/\(1:Int)+3*G.length+3*(Dj (pF (1+3*G.length)) w1.Tiles.length).length<=1099511627776:=by rw[WD];omega
 have ao:heldA_.fv (⟨Dj (pF (1+3*G.length)) w1.Tiles.length⟩,1+3*G.length)=1+3*G.length+3*w1.Tiles.length:=SK _ _;refine CR.call [_,_] (Pj (TX gg) rfl) (Ho kd (Dj (oF 1) G.length),1) (pkH _ _ _) an ?_;simp only[aq];simp(disch:=omega)only[ZA,simprocAttr,BB,ga];rw[Af (by omega)];refine CR.call [_,_] (Pj (Jk (a:=⟨Dj (pF (1+3*G.length)) w1.Tiles.length⟩) gp) rfl) (⟨Dj (pF (1+3*G.length)) w1.Tiles.length⟩,1+3*G.length) (aP _ _) am ?_;simp only[ao];simp(disch:=omega)only[ZA,simprocAttr,BB,k0];rw[Af (by omega)];refine .inl (vK.call [.val (.agg (Ax.c s))] rfl s (Vg s) h1 ?_);simp(disch:=omega)only[ZA,simprocAttr,BB,toSystem.fv];refine .inl (vK.call [.val (.sl false 1 (l.map Aj))] rfl l (SO l) ak ?_);simp(disch:=omega)only[ZA,simprocAttr,toInt64S.fv];refine Fb.nw [.val (.agg (Ax.c s)),.val (.sl false 1 (l.map Aj))] rfl (s,l) (Nm s l) ag (SB _) (Uc _) λQ hH1 z=> ?_
 simp only[<-hw,fndI.H1] at hH1⊢;have k1:hget Q 1=_:=(z 1 (by omega)).trans k1;have k2:hget Q 2=_:=(z 2 (by omega)).trans k2;have gg:hget Q 2000019=_:=(z _ (by omega)).trans gg;have gp:hget Q 2000020=_:=(z _ (by omega)).trans gp;have ga:hget Q 2000040=_:=(z _ (by omega)).trans ga;have gc:hget Q 2000039=_:=(z _ (by omega)).trans gc;have gh:hget Q 2000041=some (true,.arr 108 3 (G.map Ap.c)):=hH1 0 _ rfl;have gq:hget Q 2000042=some (true,.arr 137 3 (w1.Tiles.map Al.c)):=hH1 1 _ rfl;clear hH1 z k0;simp only[Ub,nI,<-hkd,AV.ren,AL];simp(disch:=omega)only[ZA,simprocAttr,BB,W1,k1];generalize hG:((2000062,(true,Ad.cells 39 [AV.own 2000042]))::(2000061,(true,Ad.cells 78 [.im (.int .i64 kd),.own 2000041,.im (.sl true 0 []),.im (.sl true 0 []),.im (.sl true 0 [])]))::Bh (Bh Q [2000061]) [2000062]:Av)=H8;have k1:=JF hG (by omega) (by omega) k1;have k2:=JF hG (by omega) (by omega) k2;have gg:=JF hG (by omega) (by omega) gg;have gp:=JF hG (by omega) (by omega) gp;have ga:=JF hG (by omega) (by omega) ga;have gc:=JF hG (by omega) (by omega) gc;have gh:=JF hG (by omega) (by omega) gh;have gq:=JF hG (by omega) (by omega) gq;have gb:hget H8 2000062=some (true,.cells 39 [.own 2000042]):=by rw[<-hG];rfl
 have ge:hget H8 2000061=some (true,.cells 78 [.im (.int .i64 kd),.own 2000041,.im (.sl true 0 []),.im (.sl true 0 []),.im (.sl true 0 [])]):=by rw[<-hG];rfl
 clear hG;refine CR.call [_,_] (Pj (TX gh) rfl) (Ho kd G,Ho kd G) (pkE _ _) trivial ?_;simp(disch:=omega)only[ZA,simprocAttr,BB,k2,gb,eqPfF.fv];refine CR.call [_,_] (Pj (Jk gq) rfl) (w1,w1) (Ry _ _) trivial ?_;simp(disch:=omega)only[ZA,simprocAttr,BB,gc,eqAsmF.fv];refine CR.call [_,_] (Pj (TX gg) rfl) (Ho kd (Dj (oF 1) G.length),1) (pkH _ _ _) an ?_;simp only[aq];simp(disch:=omega)only[ZA,simprocAttr,BB,ga];rw[Af (by omega)];refine CR.call [_,_] (Pj (Jk (a:=⟨Dj (pF (1+3*G.length)) w1.Tiles.length⟩) gp) rfl) (⟨Dj (pF (1+3*G.length)) w1.Tiles.length⟩,1+3*G.length) (aP _ _) am ?_;simp only[ao];simp(disch:=omega)only[ZA,simprocAttr,BB];rw[Af (by omega)];trivial
end Go.Ae
