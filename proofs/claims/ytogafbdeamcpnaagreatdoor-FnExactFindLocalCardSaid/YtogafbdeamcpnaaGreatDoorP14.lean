/- Lemmas. Conditions: none. -/
import Derived.Test.YtogafbdeamcpnaaGreatDoorP13
set_option linter.all false
set_option maxHeartbeats 8000000
set_option maxRecDepth 100000
namespace Go.Ae
open Go.Proofs
def keysH_dom{H:Ag}{j:Nat}:j∈Cy H↔domB H j=true:=by
 induction H with
 |nil=>simp[Cy,domB,hget]
 |cons e r ih=>
  obtain⟨i,e⟩:=e;simp only[Cy,A9,domB,hget];by_cases z:i=j
  .subst z;simp
  .have:(i==j)=false:=by simpa using z
   rw[this];simp only[AM];exact⟨λh=>ih.1 (h.resolve_left λh=>z h.symm),λh=> .inr (ih.2 h)⟩
mutual
def JO{n:Nat}: ∀x:AV,(∀m∈x.nms,m<n)->x.bel n=true
 | .any,_=>rfl
 | .im _,_=>rfl
 | .agg z,h=>by simp only[AV.nms] at h;simp only[AV.bel];exact EB z h
 | .tup z,h=>by simp only[AV.nms] at h;simp only[AV.bel];exact EB z h
 | .ptr o _,h=>by simp only[AV.bel,Ch];exact h o (by simp[AV.nms])
 | .eptr o _ _,h=>by simp only[AV.bel,Ch];exact h o (by simp[AV.nms])
 | .own o,h=>by simp only[AV.bel,Ch];exact h o (by simp[AV.nms])
 | .mp o,h=>by simp only[AV.bel,Ch];exact h o (by simp[AV.nms])
 | .ch o,h=>by simp only[AV.bel,Ch];exact h o (by simp[AV.nms])
 | .it o,h=>by simp only[AV.bel,Ch];exact h o (by simp[AV.nms])
 | .osl o _ _,h=>by simp only[AV.bel,Ch];exact h o (by simp[AV.nms])
 | .clo _ a c,h=>by
   simp only[AV.nms,AG] at h;simp only[AV.bel,EB a λm G=>h m (.inl G),EB c λm G=>h m (.inr G),L3]
def EB{n:Nat}: ∀xs:List AV,(∀m∈nmsL xs,m<n)->belL n xs=true
 |[],_=>rfl
 |x::r,h=>by
  simp only[nmsL,AG] at h;simp only[belL,JO x λm z=>h m (.inl z),EB r λm z=>h m (.inr z),L3]
end
def Nb{n:Nat}: ∀H:Ag,(∀p∈H,∀m∈p.2.2.nms,m<n)->belH n H=true
 |[],_=>rfl
 |(i,(Q,e))::r,h=>by
  have z:=h _ (AU ..);have ih:=Nb r λp hp=>h p (AX _ hp)
  cases e with
  |cells T G=>simp only[belH,ih,CB];exact EB G (by simpa[AObj.nms] using z)
  |arrA T k rows=>
   simp only[belH,ih,CB,BE];refine λq hq=>EB q λm O=>z m ?_
   simp only[AObj.nms];exact CQ.2 ⟨q,hq,O⟩
  |_=>simp only[belH,ih]
mutual
def Kd(σ:Nat->Nat): ∀x:AV,(x.ren σ).nms=x.nms.map σ
 | .any=>rfl
 | .im _=>rfl
 | .agg z=>by simp only[AV.ren,AV.nms];exact EC σ z
 | .tup z=>by simp only[AV.ren,AV.nms];exact EC σ z
 | .ptr o _=>rfl
 | .eptr o _ _=>rfl
 | .own o=>rfl
 | .mp o=>rfl
 | .ch o=>rfl
 | .it o=>rfl
 | .osl o _ _=>rfl
 | .clo _ a c=>by simp only[AV.ren,AV.nms,EC σ a,EC σ c,Di]
def EC(σ:Nat->Nat): ∀xs:List AV,nmsL (renL σ xs)=(nmsL xs).map σ
 |[]=>rfl
 |x::r=>by simp only[renL,nmsL,Kd σ x,EC σ r,Di]
end
def Sj(σ:Nat->Nat)(e:AObj): ∀m∈(e.ren σ).nms,∃j∈e.nms,m=σ j:=by
 intro m z;cases e with
 |cells T Q=>
  simp only[AObj.ren,AObj.nms,EC,AF] at z⊢;obtain⟨j,G,rfl⟩:=z;exact⟨j,G,rfl⟩
 |arrA T k rows=>
  simp only[AObj.ren,AObj.nms] at z⊢;obtain⟨r,O,z⟩:=CQ.1 z;obtain⟨q,hq,rfl⟩:=AF.1 O;rw[EC,AF] at z;obtain⟨j,G,rfl⟩:=z;exact⟨j,CQ.2 ⟨q,hq,G⟩,rfl⟩
 |_=>simp[AObj.ren,AObj.nms] at z
def Nl{σ:Nat->Nat}{N:Nat}(H:Ag)(h: ∀p∈H,∀m∈p.2.2.nms,σ m<N):belH N (renH σ H)=true:=by
 refine Nb _ ?_;induction H with
 |nil=>intro p hp;cases hp
 |cons x r ih=>
  obtain⟨i,O,e⟩:=x;intro p hp m z;rcases A9.1 hp with rfl|hp
  .obtain⟨j,G,rfl⟩:=Sj σ e m z;exact h _ (AU ..) j G
  .exact ih (λp hp=>h p (AX _ hp)) p hp m z
def orow.tau{A:Type}{ca:A->List AV}{H0:A->Ag}{k:Nat}{pre:A->Prop}{klB:Nat->Bool}{r0:A->AV}{H1:A->Ag}{args:List AV}{tm:List (Nat×AV)}{h:Ag}{nx:Nat}{dst:Option Nat}{go:Ac->Prop}(a:A)(τ:Nat->Nat)(ac:pre a)(ai: ∀j,domB (H0 a) j=true->klB j=true)
 (hd: ∀j,domB (H0 a) j=true->j<k/\τ j<nx)(aa: ∀i j,domB (H0 a) i=true->domB (H0 a) j=true->τ i=τ j->i=j)
 (hcl: ∀p∈H1 a,domB (H0 a) p.1=true/\ ∀m∈p.2.2.nms,domB (H0 a) m=true)
 (hx:args=renL (sgx τ k nx) (ca a)/\Bu (hget h) (sgx τ k nx) (H0 a))
 (hb: ∀m∈(r0 a).nms,domB (H0 a) m=true)
 (ag: ∀HH:Ag,(∀j e,hget (H1 a) j=some e->hget HH (τ j)=some (e.1,e.2.ren (sgx τ k nx)))->(∀m,(∀j,domB (H0 a) j=true->τ j≠m)->hget HH m=hget h m)->go ((⟨tm,HH,nx⟩:Ac).put dst ((r0 a).ren (sgx τ k nx)))):
 orow ca H0 k pre klB r0 H1 0 args (hget h) nx (kont go ⟨tm,h,nx⟩ dst):=by
 have hσ: ∀j,domB (H0 a) j=true->sgx τ k nx j=τ j:=λj z=>Af (hd j z).1
 have ah: ∀i j,domB (H0 a) i=true->domB (H0 a) j=true->sgx τ k nx i=sgx τ k nx j->i=j:=λi j hi z h=>aa i j hi z (by rwa [hσ i hi,hσ j z] at h)
 have G: ∀m,m∈(Cy (H0 a)).map τ↔ ∃j,domB (H0 a) j=true/\τ j=m:=λm=>by simp only[AF,keysH_dom]
 have Q: ∀p∈H1 a,domB (H0 a) p.1=true:=λp hp=>(hcl p hp).1
 refine⟨a,τ,(Cy (H0 a)).map τ,(Cy (H0 a)).map τ,ac,hx.1,hx.2,⟨aa,λj z=>(hd j z).2,λj z=>(G _).2 ⟨j,z,rfl⟩,λm Z=> ?_,λj z _=>(G _).2 ⟨j,z,rfl⟩⟩,?_⟩
 .obtain⟨j,z,rfl⟩:=(G m).1 Z;exact⟨j,z,ai j z,rfl⟩
 refine⟨?_,?_⟩
 .have ad:((r0 a).ren (sgx τ k nx)).bel nx=true:=by
   refine JO _ λm Z=> ?_
   rw[Kd,AF] at Z;obtain⟨j,z,rfl⟩:=Z;rw[hσ j (hb j z)];exact (hd j (hb j z)).2
  have af:belH nx (renH (sgx τ k nx) (H1 a))=true:=Nl _ λp hp m Z=>by
   have:=(hcl p hp).2 m Z
   rw[hσ m this];exact (hd m this).2
  rw[Eff.ok_nr,G1,ad,af,BY,BY]
  have: ∀H:Ag,(∀p∈H,domB (H0 a) p.1=true)->D8 ((Cy (H0 a)).map τ) nx 0 (renH (sgx τ k nx) H)=true:=by
   intro H;induction H with
   |nil=>intro _;rfl
   |cons e r ih=>
    obtain⟨i,mu,e⟩:=e;intro hp;have O:=hp _ (AU ..);simp only at O;simp only[renH,D8,EH,Av,Dy,DC,Ch];refine⟨.inr ⟨?_,?_⟩,ih λp h=>hp p (AX _ h)⟩
    .rw[DQ,hσ i O];exact (G _).2 ⟨i,O,rfl⟩
    .rw[hσ i O];exact (hd i O).2
  exact this _ Q
 rw[Ac.app_nr,G1];refine ag _ (λj e he=> ?_) (λm Z=> ?_)
 .have z:domB (H0 a) j=true:=by
   have: ∀H:Ag,hget H j=some e-> ∃p∈H,p.1=j:=by
    intro H;induction H with
    |nil=>intro h;cases h
    |cons x r ih=>
     obtain⟨i,x⟩:=x;intro h;by_cases ab:i=j
     .exact⟨_,AU ..,ab⟩
     .have hb:(i==j)=false:=by simpa using ab
      simp only[hget,hb,AM] at h;obtain⟨p,O,h2⟩:=ih h;exact⟨p,AX _ O,h2⟩
   obtain⟨p,O,rfl⟩:=this _ he;exact Q p O
  rw[Gv,<-hσ j z,Ui (D:=λj=>domB (H0 a) j=true) ah (H1 a) Q j z,he];rfl
 .rw[Gv];cases hq:hget (renH (sgx τ k nx) (H1 a)) m with
  |some e=>
   obtain⟨j,e0,O,h2,_⟩:=P1 hq;have z:=Q _ O;rw[hσ j z] at h2;exact absurd h2 (Z j z)
  |none=>
   rw[I2,Ab]
   .rfl
   .rw[DQ];intro h;obtain⟨j,z,h2⟩:=(G m).1 h;exact Z j z h2
def Nu{go:Ac->Prop}{tm:List (Nat×AV)}{h:Ag}{nx:Nat}{dst:Option Nat}{σ:Nat->Nat}(hσ: ∀j,σ j=nx+j){r0:AV}{H1:Ag}{cnt:Nat}{u kl:List Nat}(aa:kl=[])
 (hcl: ∀p∈H1,p.1<cnt/\ ∀m∈p.2.2.nms,m<cnt)(hb: ∀m∈r0.nms,m<cnt)
 (Z: ∀G:Ag,(∀j e,hget H1 j=some e->hget G (nx+j)=some (e.1,e.2.ren σ))->(∀m,m<nx->hget G m=hget h m)->go ((⟨tm,G,nx+cnt⟩:Ac).put dst (r0.ren σ))):
 kont go ⟨tm,h,nx⟩ dst (r0.ren σ) {use:=u,kill:=kl,new:=renH σ H1,cnt:=cnt}:=by
 subst aa;refine⟨?_,?_⟩
 .have O:(r0.ren σ).bel (nx+cnt)=true:=by
   refine JO _ λm z=> ?_
   rw[Kd,AF] at z;obtain⟨j,hj,rfl⟩:=z
   have:=hb j hj
   rw[hσ];omega
  have Q:belH (nx+cnt) (renH σ H1)=true:=Nl _ λp hp m z=>by
   have:=(hcl p hp).2 m z
   rw[hσ];omega
  rw[Eff.ok_nr,O,Q,BY,BY];refine HN _ _ _ _ λp hp=> ?_
  have: ∀H:Ag,(∀p∈H,p.1<cnt)-> ∀p∈renH σ H,nx<=p.1/\p.1<nx+cnt:=by
   intro H;induction H with
   |nil=>intro _ p hp;cases hp
   |cons x r ih=>
    obtain⟨i,mu,e⟩:=x;intro hx p hp;have h1:=hx _ (AU ..);simp only at h1;simp only[renH,A9] at hp;rcases hp with rfl|hp
    .simp only;rw[hσ];omega
    .exact ih (λp h=>hx p (AX _ h)) p hp
  exact this _ (λp hp=>(hcl p hp).1) p hp
 rw[Ac.app_nr,AL];refine Z _ (λj e he=> ?_) (λm z=> ?_)
 .rw[Gv,<-hσ j,Nr (λi j h=>by rw[hσ,hσ] at h;omega),he];rfl
 .rw[Gv];cases hq:hget (renH σ H1) m with
  |some e=>
   obtain⟨j,e0,_,h2,_⟩:=P1 hq;rw[hσ] at h2;omega
  |none=>rfl
def orow.nw{A:Type}{ca:A->List AV}{H0:A->Ag}{pre:A->Prop}{klB:Nat->Bool}{r0:A->AV}{H1:A->Ag}{cnt:Nat}{args:List AV}{tm:List (Nat×AV)}{h:Ag}{nx:Nat}{dst:Option Nat}{Q:Ac->Prop}(a:A)(z:pre a)(h0:H0 a=[])
 (Z:args=renL (λj=>nx+j) (ca a))(hcl: ∀p∈H1 a,p.1<cnt/\ ∀m∈p.2.2.nms,m<cnt)(hb: ∀m∈(r0 a).nms,m<cnt)
 (O: ∀G:Ag,(∀j e,hget (H1 a) j=some e->hget G (nx+j)=some (e.1,e.2.ren λj=>nx+j))->(∀m,m<nx->hget G m=hget h m)->Q ((⟨tm,G,nx+cnt⟩:Ac).put dst ((r0 a).ren λj=>nx+j))):
 orow ca H0 0 pre klB r0 H1 cnt args (hget h) nx (kont Q ⟨tm,h,nx⟩ dst):=by
 have e:sgx (osn []) 0 nx=λj=>nx+j:=funext λj=>by simp[sgx]
 refine orow.os a [] z (λj=>by rw[h0];simp[domB,hget]) rfl rfl ⟨by rw[e];exact Z,by rw[h0];trivial⟩ ?_;rw[e];exact Nu (λ_=>rfl) rfl hcl hb O
def Ct.nw{A:Type}{ar:List PK->Option A}{pre:A->Prop}{r0:A->AV}{H1:A->Ag}{cnt:Nat}{args:List AV}{tm:List (Nat×AV)}{h:Ag}{nx:Nat}{dst:Option Nat}{Z:Ac->Prop}(ps:List PK)(Q:pkFL (hget h) args=some ps)(a:A)(ha:ar ps=some a)(z:pre a)
 (hcl: ∀p∈H1 a,p.1<cnt/\ ∀m∈p.2.2.nms,m<cnt)(hb: ∀m∈(r0 a).nms,m<cnt)
 (O: ∀G:Ag,(∀j e,hget (H1 a) j=some e->hget G (nx+j)=some (e.1,e.2.ren λj=>nx+j))->(∀m,m<nx->hget G m=hget h m)->Z ((⟨tm,G,nx+cnt⟩:Ac).put dst ((r0 a).ren λj=>nx+j))):
 Ct ar pre r0 H1 cnt args (hget h) nx (kont Z ⟨tm,h,nx⟩ dst):=by
 have e:sgx (λj=>j) 0 nx=λj=>nx+j:=funext λj=>by simp[sgx]
 unfold Ct;rw[Q];simp only[Il,ha,decK];rw[e];exact⟨z,Nu (λ_=>rfl) rfl hcl hb O⟩
def vF.call{A:Type}{ar:List PK->Option A}{pre:A->Prop}{re:A->D}{args:List AV}{tm:List (Nat×AV)}{h:Ag}{nx:Nat}{dst:Option Nat}{Q:Ac->Prop}(ps:List PK)(O:pkFL (hget h) args=some ps)(a:A)(Z:ar ps=some a)(z:pre a)
 (G:Q ((⟨tm,h,nx⟩:Ac).put dst (.im (re a)))):Fj ar pre re args (hget h) nx (kont Q ⟨tm,h,nx⟩ dst):=by
 unfold Fj;rw[O];simp only[Iz,Z,decK];refine⟨z,?_,?_⟩
 .rw[Eff.ok_nr];simp[AV.bel,belH,D8]
 .rw[Ac.app_nr,AL,G1];exact G
def syH(G:List Glue)(rows:List (List AV))(n:Nat)(f:Nat->Ent):Ag:=(0,(true,.arr 204 2 (G.map Glue.c)))::(1,(true,.arrA 206 2 rows))::famH 2 n f
def Em(G:List Glue)(rows:List (List AV))(n:Nat)(f:Nat->Ent)(j:Nat):domB (syH G rows n f) j=true↔j<2+n:=by
 simp only[domB,syH,hget,Mk];by_cases h0:j=0
 .subst h0;simp;omega
 by_cases z:j=1
 .subst z;simp;omega
 rw[A7 _ _ (λh=>h0 h.symm),A7 _ _ (λh=>z h.symm)];simp only[AM];split
 .rename_i h;simp;omega
 .rename_i h;simp;omega
def syH_lt{G:List Glue}{rows:List (List AV)}{n:Nat}{f:Nat->Ent}{p:Nat×Ent}(hp:p∈syH G rows n f):p.1<2+n:=by
 simp only[syH,A9,famH,AF,AJ] at hp;rcases hp with rfl|rfl|⟨j,z,rfl⟩<;>simp only<;>omega
def tlMR(a:List Tile)(k:Int)(i:Nat):List (List AV):=(List.range (nT a)).map (tlM a k i)
def tlMR_bel(a:List Tile)(k:Int)(i N:Nat)(h:2+nT a<=N):(tlMR a k i).all (belL N)=true:=by
 rw[BE];intro r G;obtain⟨j,z,rfl⟩:=AF.1 G;exact Ka _ _ _ _ _ (by have:=AJ.1 z;omega)
def tlM_ren(a:List Tile)(k:Int)(i j:Nat)(σ:Nat->Nat)(h:σ (2+j)=2+j):renL σ (tlM a k i j)=tlM a k i j:=by
 simp only[tlM]
 split<;>simp[tlA,renL,AV.ren,h]
def HL(a:List Tile)(k:Int)(i:Nat)(σ:Nat->Nat)(h: ∀j,j<nT a->σ (2+j)=2+j):(tlMR a k i).map (renL σ)=tlMR a k i:=by
 rw[tlMR,Hj];exact Gd λj z=>tlM_ren _ _ _ _ _ (h j (AJ.1 z))
def syH_bel{G:List Glue}{a:List Tile}{k:Int}{i N:Nat}{f:Nat->Ent}(h:2+nT a<=N)(hf: ∀i,belH N [(2+i,f i)]=true):belH N (syH G (tlMR a k i) (nT a) f)=true:=by
 simp only[syH,belH];rw[GY _ _ _ hf,tlMR_bel _ _ _ _ h];rfl
def Nt{G:List Glue}{a:List Tile}{k:Int}{i N:Nat}{f:Nat->Ent}(h:2+nT a<=N):Ai N (syH G (tlMR a k i) (nT a) f)=true:=by
 simp only[syH,Ai];rw[GK _ _ _ _ (by omega)];simp;omega
def Kf{G:List Glue}{a:List Tile}{k:Int}{i:Nat}{f:Nat->Ent}(hf: ∀j,(f j).2.nms=[]){p:Nat×Ent}(hp:p∈syH G (tlMR a k i) (nT a) f){m:Nat}(z:m∈p.2.2.nms):m<2+nT a:=by
 simp only[syH,A9,famH,AF,AJ] at hp;rcases hp with rfl|rfl|⟨j,O,rfl⟩
 .simp[AObj.nms] at z
 .simp only[AObj.nms] at z;obtain⟨r,Q,z⟩:=CQ.1 z;obtain⟨j,O,rfl⟩:=AF.1 Q;rw[JP,AO] at z
  have:=AJ.1 O
  omega
 .rw[hf] at z;cases z
def JW{H0:Ag}: ∀{H:Ag},(∀p∈H,∀m∈p.2.2.nms,domB H0 m=true)->AT H0 H
 |[],_=>trivial
 |(_,(_,_))::r,h=>⟨h _ (AU ..),JW λp hp=>h p (AX _ hp)⟩
def tsK(a:Aj×Int):Int:=a.2+2*a.1.Glues.length
def mkTS.ca(a:Aj×Int):List AV:=[.agg [.own 0,.own 1],.im (.int .i64 a.2)]
def mkTS.H0(a:Aj×Int):Ag:=syH a.1.Glues (tlMR a.1.Tiles (tsK a) 0) (nT a.1.Tiles) (tlN a.1.Tiles (tsK a) 0)
def mkTS.H1(a:Aj×Int):Ag:=syH (wrE (gF a.2) a.1.Glues.length) (tlMR a.1.Tiles (tsK a) (nT a.1.Tiles)) (nT a.1.Tiles) (tlN a.1.Tiles (tsK a) (nT a.1.Tiles))
def mkTS.r0(a:Aj×Int):AV:= .im (.int .i64 (tlK a.1.Tiles (tsK a) a.1.Tiles.length))
def mkTS.pre(a:Aj×Int):Prop:=0<=a.2/\a.1.Tiles.length<=1048576/\tlK a.1.Tiles (tsK a) a.1.Tiles.length<=1099511627776
def mkTS.row:Row:=orow mkTS.ca mkTS.H0 2000000 mkTS.pre (λ_=>true) mkTS.r0 mkTS.H1 0
def mkTS.hbel(a:Aj×Int):belL 2000000 (mkTS.ca a)=true:=by simp[mkTS.ca,belL,AV.bel]
def mkTS.hbH(a:Aj×Int):belH 2000000 (mkTS.H0 a)=true:=syH_bel (by have:=CC a.1.Tiles;omega) (λi=>by simp[belH,tlN])
def mkTS.hkH(a:Aj×Int):Ai 2000000 (mkTS.H0 a)=true:=Nt (by have:=CC a.1.Tiles;omega)
def mkTS.hnm(a:Aj×Int):AT (mkTS.H0 a) (mkTS.H0 a):=
 JW λp hp m z=>(Em _ _ _ _ _).2 (Kf (λj=>by simp[tlN,AObj.nms]) hp z)
def JT(h:Nat->Option Ent): ∀(H:Ag),roB h (λ_=>true) H
 |[]=>trivial
 |(j,e)::r=>⟨trivial,JT h r⟩
def kxB_dom{H0:Ag}{k cnt:Nat}{exB:Nat->Bool}{j:Nat}(h:domB H0 j=true):kxB H0 k cnt exB j=some j:=by
 simp only[kxB,h,L5,Bc]
def tlM_cvt{h:Nat->Option Ent}{kx:Nat->Option Nat}{m:Nat}{a:List Tile}{k:Int}{i j:Nat}(z:kx (2+j)=some (2+j)):mapO (cvt h kx (m+1)) (tlM a k i j)=some (tlM a k i j):=by
 simp only[tlM]
 split<;>simp only[tlA,mapO,cvt,z,kp]
def Ns{h:Nat->Option Ent}{kx:Nat->Option Nat}{m:Nat}{a:List Tile}{k:Int}{i:Nat}(G: ∀j,j<nT a->kx (2+j)=some (2+j)):mapO (mapO (cvt h kx (m+1))) (tlMR a k i)=some (tlMR a k i):=
 Hx _ λj z=>tlM_cvt (G j (AJ.1 z))
def mkLC.hcl(a:List Tile×Int): ∀p∈mkLC.H1 a,domB (mkLC.H0 a) p.1=true/\ ∀m∈p.2.2.nms,domB (mkLC.H0 a) m=true:=by
 intro p hp;simp only[mkLC.H0,El];simp only[mkLC.H1,mkLH,A9,famH,AF,AJ] at hp;rcases hp with rfl|⟨j,G,rfl⟩
 .refine⟨.inl rfl,λm z=> ?_⟩;simp only[AObj.nms] at z;obtain⟨r,O,z⟩:=CQ.1 z;obtain⟨j,G,rfl⟩:=AF.1 O;rw[JP,AO] at z
  have:=AJ.1 G
  exact .inr ⟨by omega,by omega⟩
 .exact⟨.inr ⟨by simp only;omega,by simp only;omega⟩,λm z=>by simp[tlN,AObj.nms] at z⟩
def mkTS.hcl(a:Aj×Int): ∀p∈mkTS.H1 a,domB (mkTS.H0 a) p.1=true/\ ∀m∈p.2.2.nms,domB (mkTS.H0 a) m=true:=
 λp hp=>⟨(Em _ _ _ _ _).2 (syH_lt hp),λm z=>(Em _ _ _ _ _).2 (Kf (λj=>by simp[tlN,AObj.nms]) hp z)⟩
def mkTS.ok:Ak Tryz.prog 61 mkTS.row:=by
 refine ow (tC mkGC.ok (tC mkLC.ok tN)) Tryz.func61 rfl (by kernel_rfl) (exB:=λ_=>false) (R:=λa r=>r=mkTS.r0 a) (λ_=>rfl)
  (λa=>⟨mkTS.hbel a,mkTS.hbH a,mkTS.hkH a,mkTS.hnm a⟩) (λa p hp=> ?_) (λa r h=>by subst h;exact LeV.refl _) ?_
 rotate_left
 intro a Q;simp only[Tryz.f61,mkTS.ca];simp(disch:=omega)only[ZA,simprocAttr];obtain⟨S,k⟩:=a;obtain⟨h1,h2,h3⟩:=Q;simp only at h1 h2 h3;have hk:=tlK_b S.Tiles (tsK (S,k)) (by simp only[tsK];omega) 0 S.Tiles.length (by omega);have O:tsK (S,k)<=1099511627776:=by simp only[tlK] at hk;omega
 simp only[tsK] at O;have hn:=CC S.Tiles;simp only[AL,mkTS.H0,syH];refine orow.os (S.Glues,k) [0] ⟨h1,O⟩ (λj=> ?_) rfl rfl ?_ ?_
 .simp only[domB,mkGC.H0,hget];by_cases z:j=0
  .subst z;simp
  .have:(0==j)=false:=by simpa using λh=>z h.symm
   rw[this];simp;omega
 .simp(disch:=omega)only[ZA,simprocAttr,ORB,mkGC.ca,mkGC.H0,Bu,B8]
  try exact⟨rfl,rfl⟩
 simp(disch:=omega)only[ZA,simprocAttr,ORB,mkGC.H1,AL,B8,Cn];rw[HO 2 (nT S.Tiles) (tlN S.Tiles (tsK (S,k)) 0) [0] (by simp)];have hσ: ∀j,j<nT S.Tiles->sgx (λj=>if j=0 then 1 else j) 2000000 2000001 (2+j)=2+j:=λj z=>by
  simp only[sgx];rw[Af (by omega),Ab (by omega)]
 have hσ0:sgx (λj=>if j=0 then 1 else j) 2000000 2000001 0=1:=rfl;refine orow.tau (S.Tiles,tsK (S,k)) (λj=>if j=0 then 1 else j) ⟨h2,by simp only[tsK];omega,h3⟩ (λ_ _=>rfl) (λj z=> ?_) (λi j G z h=> ?_) (mkLC.hcl _) ⟨?_,?_⟩ (by simp[mkLC.r0,AV.nms]) (λZ hH1 aa=> ?_)
 .have z:=(El _ _ _ _).1 z;simp only at z⊢
  split<;>omega
 .have G:=(El _ _ _ _).1 G;have z:=(El _ _ _ _).1 z;simp only at G z h;split at h<;>split at h<;>omega
 .simp only[mkLC.ca,renL,AV.ren,hσ0,tsK]
 .simp only[mkLC.H0,mkLH,Bu,hσ0,AObj.ren];refine⟨?_,HS λi G=> ?_⟩
  .simp only[hget,A7 _ _ (show 0≠1 by omega),A7 _ _ (show 2000000≠1 by omega),AM,P6,Bc];rw[<-tlMR,HL _ _ _ _ hσ]
  .rw[hσ i G];simp only[hget,A7 _ _ (show 0≠2+i by omega),A7 _ _ (show 2000000≠2+i by omega),A7 _ _ (show 1≠2+i by omega),AM];rw[DL _ _ _ _ G];rfl
 have g0:hget Z 0=some (true,.arr 204 2 ((wrE (gF k) S.Glues.length).map Glue.c)):=by
  rw[aa 0 (λj z=>by
   have z:=(El _ _ _ _).1 z;simp only at z⊢
   split<;>omega)]
  rfl
 have g1:hget Z 1=some (true,.arrA 206 2 (tlMR S.Tiles (tsK (S,k)) (nT S.Tiles))):=by
  have g:=hH1 0 _ rfl;rw[Af rfl] at g;rw[g];simp only[AObj.ren];rw[<-tlMR,HL _ _ _ _ hσ]
 have g2: ∀j,j<nT S.Tiles->hget Z (2+j)=some (tlN S.Tiles (tsK (S,k)) (nT S.Tiles) j):=λj z=>by
  have:=hH1 (2+j) _ (JV _ _ _ j z)
  simp only[Ab (show 2+j≠0 by omega)] at this;rw[this];rfl
 simp only[mkLC.r0,AV.ren];simp(disch:=omega)only[ZA,simprocAttr,mkTS.r0,tsK,AL,mkTS.H1,syH];have ab: ∀j,j<nT S.Tiles->domB ((0,(true,AObj.arr 204 2 (List.map Glue.c S.Glues)))::(1,(true,AObj.arrA 206 2 (tlMR S.Tiles (k+2*S.Glues.length) 0)))::famH 2 (nT S.Tiles) (tlN S.Tiles (k+2*S.Glues.length) 0)) (2+j)=true:=λj z=>(Em _ _ _ _ _).2 (by omega)
 refine⟨JT _ _,?_,?_,?_⟩
 .rw[g0];exact⟨rfl,rfl⟩
 .rw[g1];refine⟨rfl,?_⟩;simp only[cvtE];rw[Ns (λj z=>kxB_dom (ab j z))];rfl
 .exact FG _ _ _ _ _ (λj z=>g2 j z) (λj z=>rfl)
 obtain⟨q1,_⟩:=mkTS.hcl _ p hp
 have:=(Em _ _ _ _ _).1 q1
 have:=CC a.1.Tiles
 exact .inl ⟨by omega,rfl,q1⟩
def IH{n:Nat}{l:Int}(h:0<=szC n l):(n:Int)<=l/\szC n l<=l/\0<=l:=by
 simp only[szC] at h⊢;split at h
 .omega
 .rename_i c;rw[Ab c];omega
def W9: ∀(a:List Tile) (l:Int),0<=l->l<=1048576->0<=CS C6 a l-> ∀x∈a,x.Sides.length<=1073741824
 |[],_,_,_,_=>by intro x z;cases z
 |y::r,l,h0,Q,h=>by
  simp only[CS] at h;split at h
  .omega
  .rename_i c;have G:0<=C6 y l:=by omega
   have O:0<=szC y.Name.size l:=by
    simp only[C6] at G;split at G
    .omega
    .omega
   have e:C6 y l=szC y.Sides.length (szC y.Name.size l):=by
    simp only[C6];rw[Ab (by omega)]
   rw[e] at G h;obtain⟨a1,a2,a3⟩:=IH G;obtain⟨b1,b2,b3⟩:=IH O;intro x z;rcases A9.1 z with rfl|z
   .omega
   .exact W9 r _ G (by omega) h x z
def szSet_sm{s:Aj}{l:Int}(Q: -1<=l)(Z:l<=1048576)(h:0<=Hg s l):smSet s:=by
 have hg:=QE s.Glues l Q;simp only[Hg] at h;split at h
 .omega
 rename_i c;have z:0<=D4 s.Glues l:=by omega
 have O:0<=szC s.Glues.length l:=by
  simp only[D4] at z;split at z
  .omega
  .omega
 have G:0<=szC s.Tiles.length (D4 s.Glues l):=by
  simp only[Fi] at h;split at h
  .omega
  .omega
 have e:Fi s.Tiles (D4 s.Glues l)=CS C6 s.Tiles (szC s.Tiles.length (D4 s.Glues l)):=by
  simp only[Fi];rw[Ab (by omega)]
 rw[e] at h;obtain⟨a1,a2,a3⟩:=IH O;obtain⟨b1,b2,b3⟩:=IH G;exact⟨by omega,by omega,W9 s.Tiles _ G (by omega) h⟩
def szSys_sm{s:Ah}{l:Int}(G: -1<=l)(z:l<=1048576)(h:0<=Mg s l):smSys s:=by
 have hb:=U4 s.Set l G;simp only[Mg] at h;split at h
 .omega
 rename_i c;obtain⟨a1,a2,a3⟩:=IH h;exact⟨szSet_sm G z (by omega),by omega⟩
def syK(a:Ah×Int):Int:=tlK a.1.Set.Tiles (tsK (a.1.Set,a.2)) a.1.Set.Tiles.length
def mkSy.ca(a:Ah×Int):List AV:=[.agg [.own 0,.own 1,.own 2000000,.im (.int .i64 a.1.Temperature)],.im (.int .i64 a.2)]
def mkSy.H0(a:Ah×Int):Ag:=(2000000,(true,.arr 137 3 (a.1.Seed.Tiles.map Ad.c)))::mkTS.H0 (a.1.Set,a.2)
def mkSy.H1(a:Ah×Int):Ag:=(2000000,(true,.arr 137 3 ((wrE (pF (syK a)) a.1.Seed.Tiles.length).map Ad.c)))::mkTS.H1 (a.1.Set,a.2)
def mkSy.r0(a:Ah×Int):AV:= .im (.int .i64 (syK a+3*a.1.Seed.Tiles.length))
def mkSy.pre(a:Ah×Int):Prop:=0<=a.2/\a.1.Set.Tiles.length<=1048576/\syK a+3*a.1.Seed.Tiles.length<=1099511627776
def mkSy.row:Row:=orow mkSy.ca mkSy.H0 2000001 mkSy.pre (λ_=>true) mkSy.r0 mkSy.H1 0
def mkSy.dom0(a:Ah×Int)(j:Nat):domB (mkSy.H0 a) j=true↔j=2000000\/j<2+nT a.1.Set.Tiles:=by
 by_cases h:j=2000000
 .subst h;simp[domB,mkSy.H0,hget]
 .have z:(2000000==j)=false:=by simpa using λq=>h q.symm
  have:domB (mkSy.H0 a) j=domB (mkTS.H0 (a.1.Set,a.2)) j:=by simp only[domB,mkSy.H0,hget,z,AM]
  rw[this];simp only[mkTS.H0,Em,h,false_or]
def mkSy.hcl(a:Ah×Int): ∀p∈mkSy.H1 a,domB (mkSy.H0 a) p.1=true/\ ∀m∈p.2.2.nms,domB (mkSy.H0 a) m=true:=by
 intro p hp;simp only[mkSy.dom0];rcases A9.1 hp with rfl|hp
 .exact⟨.inl rfl,λm z=>by simp[AObj.nms] at z⟩
 .have:=mkTS.hcl _ p hp
  simp only[mkTS.H0,Em] at this;exact⟨.inr this.1,λm z=> .inr (this.2 m z)⟩
def mkSy.hbel(a:Ah×Int):belL 2000001 (mkSy.ca a)=true:=by simp[mkSy.ca,belL,AV.bel]
def mkSy.hbH(a:Ah×Int):belH 2000001 (mkSy.H0 a)=true:=by
 simp only[mkSy.H0,belH];exact syH_bel (by have:=CC a.1.Set.Tiles;simp only;omega) (λi=>by simp[belH,tlN])
def mkSy.hkH(a:Ah×Int):Ai 2000001 (mkSy.H0 a)=true:=by
 simp only[mkSy.H0,Ai]
 have:=Nt (G:=a.1.Set.Glues) (a:=a.1.Set.Tiles) (k:=tsK (a.1.Set,a.2)) (i:=0) (N:=2000001) (f:=tlN a.1.Set.Tiles (tsK (a.1.Set,a.2)) 0) (by have:=CC a.1.Set.Tiles;omega)
 simp only[mkTS.H0,this,CB];simp
def mkSy.hnm(a:Ah×Int):AT (mkSy.H0 a) (mkSy.H0 a):=by
 refine JW λp hp m z=>(mkSy.dom0 _ _).2 ?_
 rcases A9.1 hp with rfl|hp
 .simp[AObj.nms] at z
 .exact .inr (Kf (λj=>by simp[tlN,AObj.nms]) hp z)
def syH_get2{G:List Glue}{rows:List (List AV)}{n:Nat}{f:Nat->Ent}(i:Nat)(h:i<n):hget (syH G rows n f) (2+i)=some (f i):=by
 simp only[syH,hget,A7 _ _ (show 0≠2+i by omega),A7 _ _ (show 1≠2+i by omega),AM];exact DL _ _ _ _ h
def outOk_sy{h:Nat->Option Ent}{kx:Nat->Option Nat}{m:Nat}{G:List Glue}{a:List Tile}{k:Int}{i:Nat}{f:Nat->Ent}(h0:h 0=some (true,.arr 204 2 (G.map Glue.c)))(z:h 1=some (true,.arrA 206 2 (tlMR a k i)))(O: ∀j,j<nT a->h (2+j)=some (f j))
 (hf: ∀j,cvtE (cvt h kx (m+1)) (f j).2=some (f j).2)(Q: ∀j,j<nT a->kx (2+j)=some (2+j)):Cq h (cvt h kx (m+1)) (syH G (tlMR a k i) (nT a) f):=by
 simp only[syH,Cq];refine⟨?_,?_,FG _ _ _ _ _ O (λj _=>hf j)⟩
 .rw[h0];exact⟨rfl,rfl⟩
 .rw[z];refine⟨rfl,?_⟩;simp only[cvtE];rw[Ns Q];rfl
def mkSy.ok:Ak Tryz.prog 21 mkSy.row:=by
 refine ow (tC mkTS.ok (tC mkAC.ok tN)) Tryz.func21 rfl (by kernel_rfl) (exB:=λ_=>false) (R:=λa r=>r=mkSy.r0 a) (λ_=>rfl)
  (λa=>⟨mkSy.hbel a,mkSy.hbH a,mkSy.hkH a,mkSy.hnm a⟩) (λa p hp=> ?_) (λa r h=>by subst h;exact LeV.refl _) ?_
 rotate_left
 intro a Z;simp only[Tryz.f21,mkSy.ca];simp(disch:=omega)only[ZA,simprocAttr];obtain⟨S,k⟩:=a;obtain⟨h1,h2,h3⟩:=Z;simp only at h1 h2 h3;simp only[AL,mkSy.H0];have hn:=CC S.Set.Tiles;have hk:=tlK_b S.Set.Tiles (tsK (S.Set,k)) (by simp only[tsK];omega) 0 S.Set.Tiles.length (by omega);have aa:0<=syK (S,k):=by simp only[syK];omega
 have hσ: ∀j,j<2+nT S.Set.Tiles->sgx (λj=>j) 2000000 2000002 j=j:=λj z=>Af (by omega)
 have O:=λj=>(Em S.Set.Glues (tlMR S.Set.Tiles (tsK (S.Set,k)) 0) (nT S.Set.Tiles) (tlN S.Set.Tiles (tsK (S.Set,k)) 0) j)
 refine orow.tau (S.Set,k) (λj=>j) ⟨h1,h2,by simp only[syK] at h3;simp only;omega⟩ (λ_ _=>rfl) (λj z=> ?_) (λi j _ _ h=>h) (mkTS.hcl _) ⟨?_,?_⟩ (by simp[mkTS.r0,AV.nms]) (λG hH1 Q=> ?_)
 .have z:=(O j).1 z;omega
 .simp only[mkTS.ca,renL,AV.ren,hσ 0 (by omega),hσ 1 (by omega)]
 .simp only[mkTS.H0,syH,Bu,hσ 0 (by omega),hσ 1 (by omega),AObj.ren];rw[HL _ _ _ _ (λj z=>hσ _ (by omega))];refine⟨rfl,rfl,HS λi hi=> ?_⟩;rw[hσ _ (by omega)];simp only[hget,A7 _ _ (show 2000001≠2+i by omega),A7 _ _ (show 2000000≠2+i by omega),A7 _ _ (show 0≠2+i by omega),A7 _ _ (show 1≠2+i by omega),AM];rw[DL _ _ _ _ hi];rfl
 have hu: ∀m,m=2000000\/m=2000001-> ∀j,domB (mkTS.H0 (S.Set,k)) j=true->j≠m:=λm hm j z=>by
  have z:=(O j).1 z;omega
 have gs:hget G 2000000=some (true,.arr 137 3 (S.Seed.Tiles.map Ad.c)):=by rw[Q _ (hu _ (.inl rfl))];rfl
 have gp:hget G 2000001=some (true,.cells 47 [.own 0,.own 1,.own 2000000,.im (.int .i64 S.Temperature)]):=by rw[Q _ (hu _ (.inr rfl))];rfl
 have g0:hget G 0=some (true,.arr 204 2 ((wrE (gF k) S.Set.Glues.length).map Glue.c)):=hH1 0 _ rfl;have g1:hget G 1=some (true,.arrA 206 2 (tlMR S.Set.Tiles (tsK (S.Set,k)) (nT S.Set.Tiles))):=by
  rw[hH1 1 _ rfl];simp only[AObj.ren];rw[HL _ _ _ _ (λj z=>hσ _ (by omega))]
 have g2: ∀j,j<nT S.Set.Tiles->hget G (2+j)=some (tlN S.Set.Tiles (tsK (S.Set,k)) (nT S.Set.Tiles) j):=λj z=>by
  have e:hget (mkTS.H1 (S.Set,k)) (2+j)=some (tlN S.Set.Tiles (tsK (S.Set,k)) (nT S.Set.Tiles) j):=syH_get2 j z;rw[hH1 (2+j) _ e];rfl
 have eK:tlK S.Set.Tiles (tsK (S.Set,k)) S.Set.Tiles.length=syK (S,k):=rfl;simp only[mkTS.r0,AV.ren,eK];simp(disch:=omega)only[ZA,simprocAttr,AL,gp]
 skip
 refine orow.os (S.Seed,syK (S,k)) [2000000] ⟨aa,h3⟩ (λj=> ?_) rfl rfl ?_ ?_
 .simp only[domB,mkAC.H0,hget];by_cases z:j=0
  .subst z;simp
  .have:(0==j)=false:=by simpa using λh=>z h.symm
   rw[this];simp;omega
 .simp(disch:=omega)only[ZA,simprocAttr,ORB,mkAC.ca,mkAC.H0,Bu,B8,gs]
  try exact⟨rfl,rfl⟩
 simp(disch:=omega)only[ZA,simprocAttr,ORB,mkAC.H1,AL,B8,Cn,mkSy.r0,mkSy.H1];obtain⟨HX,hHX⟩: ∃HX,HX=hget ((2000000,(true,AObj.arr 137 3 (List.map Ad.c (wrE (pF (syK (S,k))) S.Seed.Tiles.length))))::hdel G [2000000]):=⟨_,rfl⟩;rw[<-hHX];have gx: ∀m,m≠2000000->HX m=hget G m:=λm hm=>by
  rw[hHX];simp only[hget,A7 _ _ (λh=>hm h.symm:2000000≠m),AM];exact FU _ _ _ (λh=>hm h.symm)
 refine⟨JT _ _,outOk_sy (by rw[gx 0 (by omega)];exact g0) (by rw[gx 1 (by omega)];exact g1) (λj z=>by simp only at z;rw[gx _ (by omega)];exact g2 j z) (λj=>rfl) (λj z=>kxB_dom ?_)⟩;simp only at z
 have:=(mkSy.dom0 (S,k) (2+j)).2 (.inr (by simp only;omega))
 simpa only[mkSy.H0] using this
 obtain⟨q1,_⟩:=mkSy.hcl _ p hp
 have:=(mkSy.dom0 _ _).1 q1
 have:=CC a.1.Set.Tiles
 exact .inl ⟨by omega,rfl,q1⟩
def DG(a:List Tile):Nat:=(a.map λx=>x.Sides.length).sum
def Nk(y:Tile)(r:List Tile)(k:Int): ∀i,tlK (y::r) k (i+1)=tlK r (k+1+y.Sides.length) i
 |0=>rfl
 |i+1=>by
  rw[tlK,Nk y r k i,tlK];rfl
def tlK_sum: ∀(a:List Tile) (k:Int),tlK a k a.length=k+a.length+DG a
 |[],k=>by simp[tlK,DG]
 |y::r,k=>by
  rw[Bs,Nk,tlK_sum r];simp only[DG,Ay,Fy];omega
def szC_eq{n:Nat}{l:Int}(h:0<=szC n l):szC n l=l - n:=by
 simp only[szC] at h⊢;split at h
 .omega
 .rename_i c;rw[Ab c]
def Nf: ∀(a:List Tile) (l:Int),0<=l->0<=CS C6 a l->(DG a:Int)+CS C6 a l<=l
 |[],l,h0,_=>by simp[DG,CS]
 |y::r,l,h0,h=>by
  simp only[CS] at h⊢;by_cases c:C6 y l<0
  .rw[Af c] at h;omega
  .rw[Ab c] at h⊢;have z:0<=C6 y l:=by omega
   have G:0<=szC y.Name.size l:=by
    simp only[C6] at z;split at z<;>omega
   have e:C6 y l=szC y.Sides.length (szC y.Name.size l):=by
    simp only[C6];rw[Ab (by omega)]
   rw[e] at z h⊢;have q1:=IH G;have O:=szC_eq z;have ih:=Nf r _ z h;simp only[DG,Ay,Fy] at ih⊢;omega
structure SysB(s:Ah):Prop where
 g:s.Set.Glues.length<=1048576
 t:s.Set.Tiles.length<=1048576
 d:DG s.Set.Tiles<=1048576
 p:s.Seed.Tiles.length<=1048576
def szSys_B{s:Ah}{l:Int}(Z: -1<=l)(aa:l<=1048576)(h:0<=Mg s l):SysB s:=by
 have hb:=U4 s.Set l Z;simp only[Mg] at h;split at h
 .omega
 rename_i c;obtain⟨a1,_,_⟩:=IH h;have z:0<=Hg s.Set l:=by omega
 have hg:=QE s.Set.Glues l Z;simp only[Hg] at z;split at z
 .omega
 have G:0<=D4 s.Set.Glues l:=by omega
 have Q:0<=szC s.Set.Glues.length l:=by
  simp only[D4] at G;split at G<;>omega
 have O:0<=szC s.Set.Tiles.length (D4 s.Set.Glues l):=by
  simp only[Fi] at z;split at z<;>omega
 have e:Fi s.Set.Tiles (D4 s.Set.Glues l)=CS C6 s.Set.Tiles (szC s.Set.Tiles.length (D4 s.Set.Glues l)):=by
  simp only[Fi];rw[Ab (by omega)]
 rw[e] at z;obtain⟨b1,_,_⟩:=IH Q;obtain⟨d1,d2,_⟩:=IH O
 have:=Nf s.Set.Tiles _ O z
 exact⟨by omega,by omega,by omega,by omega⟩
def sd_mem{a:List Tile}{x:Tile}(h:x∈a):x.Sides.length<=DG a:=by
 induction a with
 |nil=>cases h
 |cons y r ih=>
  simp only[DG,Ay,Fy] at ih⊢;rcases A9.1 h with rfl|h
  .omega
  .have:=ih h;omega
def SysB.yx{s:Ah}(h:SysB s):toYX.pre s:=⟨⟨by have:=h.g;omega,⟨h.t,λx z=>by have:=sd_mem z;have:=h.d;omega⟩⟩,by have:=h.p;omega⟩
def SysB.syK{s:Ah}(h:SysB s){k:Int}(G:0<=k)(z:k<=1048576):0<=syK (s,k)/\Go.Ae.syK (s,k)+3*s.Seed.Tiles.length<=9437184:=by
 simp only[Go.Ae.syK,tlK_sum,tsK]
 have:=h.g;have:=h.t;have:=h.d;have:=h.p
 omega
def SysB.mkp{s:Ah}(h:SysB s){k:Int}(G:0<=k)(z:k<=1048576):mkSy.pre (s,k):=⟨G,h.t,by have:=(h.syK G z).2;simp only;omega⟩
structure Cs(h:Nat->Option Ent)(g t p f:Nat)(s:Ah):Prop where
 g:h g=some (true,.arr 204 2 (s.Set.Glues.map Glue.c))
 t:h t=some (true,.arrA 206 2 (tlB f s.Set.Tiles))
 p:h p=some (true,.arr 137 3 (s.Seed.Tiles.map Ad.c))
 f: ∀i,i<s.Set.Tiles.length->h (f+i)=some (tlF s.Set.Tiles i)
def tiles_bk{h:Nat->Option Ent}{n f:Nat}{a:List Tile}(hf: ∀i,i<a.length->h (f+i)=some (tlF a i)):mapO (mapO (bk h (n+1))) (tlB f a)=some (a.map Tile.c):=by
 have e:a.map Tile.c=(List.range a.length).map λi=>((a[i]?.map Tile.c).getD []):=by
  apply EY;intro i;rw[BI,BI];by_cases z:i<a.length
  .rw[Ee z,A8 z];simp[z]
  .rw[CH (by omega),CH (by simp;omega)];rfl
 rw[e];refine Hx _ λi z=> ?_
 have z:=AJ.1 z;have G:a[i]? =some a[i]:=A8 z;simp only[mapO,bk,hf i z,tlF,Fs,G,Bw,Ao,Tile.c]
def Cs.bk{h:Nat->Option Ent}{g t p f n:Nat}{s:Ah}(hs:Cs h g t p f s):Go.Ae.bk h (n+3) (.agg [.own g,.own t,.own p,.im (.int .i64 s.Temperature)])=some (.agg (Ah.c s)):=by
 simp only[Go.Ae.bk,mapO,hs.g,hs.t,hs.p,Fs,tiles_bk hs.f,Bw,Ah.c]
def Cs.pk{h:Nat->Option Ent}{g t p f:Nat}{s:Ah}(hs:Cs h g t p f s):pkF h (.agg [.own g,.own t,.own p,.im (.int .i64 s.Temperature)])=some (.val (.agg (Ah.c s))):=by
 simp only[pkF,hs.bk (n:=6),pkFV,Bw]
def vN.call{A:Type}{ar:List PK->Option A}{pre:A->Prop}{re:A->D}{args:List AV}{tm:List (Nat×AV)}{h:Ag}{nx:Nat}{dst:Option Nat}{Q:Ac->Prop}(ps:List PK)(O:pkL (hget h) args=some (ps,[]))(a:A)(Z:ar ps=some a)(z:pre a)
 (G:Q ((⟨tm,h,nx⟩:Ac).put dst (.im (re a)))):vrow ar pre re args (hget h) nx (kont Q ⟨tm,h,nx⟩ dst):=by
 unfold vrow;rw[O];simp only[IV,Z,decK,frE];refine⟨z,?_,?_⟩
 .rw[Eff.ok_nr];simp[AV.bel,belH,D8]
 .rw[Ac.app_nr,AL,G1];exact G
def sysR1(s:Ah):a1 (kR Ah.d) [.val (.agg (Ah.c s))]=some s:=by simp only[a1,kR,Ah.d_c,Ce]
def sys2R(s t:Ah):a2 (kR Ah.d) (kR Ah.d) [.val (.agg (Ah.c s)),.val (.agg (Ah.c t))]=some (s,t):=by simp only[a2,kR,Ah.d_c,Ce]
def opt2R(l m:List Opt):a2 (kS Opt.d) (kS Opt.d) [.val (.sl false 3 (l.map Opt.c)),.val (.sl false 3 (m.map Opt.c))]=some (l,m):=by simp only[a2,kS,Opt.d_R,Ce]
def int2R(l m:List Int):a2 (kS intD) (kS intD) [.val (.sl false 1 (l.map intC)),.val (.sl false 1 (m.map intC))]=some (l,m):=by simp only[a2,kS,FS HZ,Ce]
def toYR.row:Row:=orR toSystem.row toYX.row
def toYR.ok:Ak Tryz.prog 11 toYR.row:=orR_ok toSystem.ok toYX.ok
def yx_cl{s:Ah}(hs:SysB s): ∀p∈toYX.H1 s,p.1<2000013/\ ∀m∈p.2.2.nms,m<2000013:=by
 have z:min s.Set.Tiles.length 1048576<=1048576:=L7 _ _;have Z:=hs.t;intro p hp;simp only[toYX.H1,A9,famH,AF,AJ] at hp;rcases hp with rfl|rfl|rfl|⟨i,Q,rfl⟩
 .exact⟨by omega,by simp[AObj.nms]⟩
 .refine⟨by omega,λm z=> ?_⟩;simp only[AObj.nms] at z;obtain⟨r,O,z⟩:=CQ.1 z;obtain⟨j,G,rfl⟩:=AF.1 O
  have:=AJ.1 G
  simp[nmsL,AV.nms] at z;omega
 .exact⟨by omega,by simp[AObj.nms]⟩
 .exact⟨by simp only;omega,by simp[tlF,AObj.nms]⟩
def Cs.mono{h h':Nat->Option Ent}{g t p f:Nat}{s:Ah}(hs:Cs h g t p f s)(z: ∀m,(m=g\/m=t\/m=p\/(f<=m/\m<f+s.Set.Tiles.length))->h' m=h m):Cs h' g t p f s:=
 ⟨by rw[z g (.inl rfl)];exact hs.g,by rw[z t (.inr (.inl rfl))];exact hs.t,by rw[z p (.inr (.inr (.inl rfl)))];exact hs.p,λi G=>by rw[z _ (.inr (.inr (.inr ⟨by omega,by omega⟩)))];exact hs.f i G⟩
def yx_at{s:Ah}(hs:SysB s){nx:Nat}{z:Ag}(h: ∀j e,hget (toYX.H1 s) j=some e->hget z (nx+j)=some (e.1,e.2.ren λj=>nx+j)):Cs (hget z) (nx+7) (nx+9) (nx+2000012) (nx+10) s:=by
 have Q:=hs.t;have O:min s.Set.Tiles.length 1048576=s.Set.Tiles.length:=by omega
 refine⟨h 7 _ rfl,?_,h 2000012 _ rfl,λi G=> ?_⟩
 .rw[h 9 _ rfl];simp only[AObj.ren];congr 3;simp only[tlB,Hj];refine Gd λi G=> ?_
  simp only[Function.comp,renL,AV.ren];rw[G0]
 .have e:hget (toYX.H1 s) (10+i)=some (tlF s.Set.Tiles i):=by
   simp only[toYX.H1,hget,A7 _ _ (show 7≠10+i by omega),A7 _ _ (show 9≠10+i by omega),A7 _ _ (show 2000012≠10+i by omega),AM];rw[O];exact DL _ _ _ _ G
  rw[G0,h _ _ e];rfl
def G9{H:Ag}(e:Ent)(k m:Nat)(h:k≠m):hget ((k,e)::hdel H [k]) m=hget H m:=by
 simp only[hget,A7 _ _ h,AM];exact FU _ _ _ h
def pk2{h:Nat->Option Ent}{x y:AV}{p q:PK}(z:pkF h x=some p)(G:pkF h y=some q):pkFL h [x,y]=some [p,q]:=by simp only[pkFL,z,G,Ei]
def ED{h:Nat->Option Ent}{o T k:Nat}{z:Bool}{rows:List (List D)}(g:h o=some (z,.arr T k rows)):pkF h (.own o)=some (.val (.sl false k rows)):=by simp only[pkF,bk,g,Fs,pkFV,Bw]
def Ng: ∀l:List Nat,E9 l []=true
 |[]=>rfl
 |x::r=>by simp[E9,Ng r]
def EF:List Fp->Bool
 |[]=>true
 |f::r=>f.touch.isEmpty && EF r
def JN(cl:List (List Nat))(i:Nat)(use:List Nat): ∀acc:List Fp,EF acc=true->Ek cl i use [] [] acc=true
 |[],_=>rfl
 |f::r,h=>by
  simp only[EF,Av,List.isEmpty_iff] at h;simp only[Ek,ckP,h.1,BJ,Ng,E9,outN,L3,Bc,JN cl i use r h.2]
def vN.callA{A:Type}{ar:List PK->Option A}{pre:A->Prop}{re:A->D}{args:List AV}{tm:List (Nat×AV)}{h:Ag}{nx:Nat}{dst:Option Nat}{Q:AGo}{cl:List (List Nat)}{i:Nat}{acc:List Fp}(ps:List PK)(O:pkL (hget h) args=some (ps,[]))(a:A)(Z:ar ps=some a)(z:pre a)(hq:EF acc=true)
 (G: ∀u,Q (⟨i,u,[],nx,0⟩::acc) ((⟨tm,h,nx⟩:Ac).put dst (.im (re a)))):vrow ar pre re args (hget h) nx (FL cl i acc Q ⟨tm,h,nx⟩ dst):=by
 unfold vrow;rw[O];simp only[IV,Z,decK,frE];refine⟨z,?_,?_,?_⟩
 .rw[Eff.ok_nr];simp[AV.bel,belH,D8]
 .exact JN _ _ _ _ hq
 .rw[Ac.app_nr,AL,G1];exact G _
def vF.callA{A:Type}{ar:List PK->Option A}{pre:A->Prop}{re:A->D}{args:List AV}{tm:List (Nat×AV)}{h:Ag}{nx:Nat}{dst:Option Nat}{Q:AGo}{cl:List (List Nat)}{i:Nat}{acc:List Fp}(ps:List PK)(O:pkFL (hget h) args=some ps)(a:A)(Z:ar ps=some a)(z:pre a)(hq:EF acc=true)
 (G: ∀u,Q (⟨i,u,[],nx,0⟩::acc) ((⟨tm,h,nx⟩:Ac).put dst (.im (re a)))):Fj ar pre re args (hget h) nx (FL cl i acc Q ⟨tm,h,nx⟩ dst):=by
 unfold Fj;rw[O];simp only[Iz,Z,decK];refine⟨z,?_,?_,?_⟩
 .rw[Eff.ok_nr];simp[AV.bel,belH,D8]
 .exact JN _ _ _ _ hq
 .rw[Ac.app_nr,AL,G1];exact G _
def mkSy_call{N nx:Nat}{tm:List (Nat×AV)}{h:Ag}{dst:Option Nat}{go:Ac->Prop}{s:Ah}{k:Int}(hB:SysB s)(hk:0<=k)(ac:k<=1048576)(Z:Cs (hget h) (N+7) (N+9) (N+2000012) (N+10) s)(ad:N+2000013<=nx)
 (ab: ∀Q:Ag,(∀m,m<N+7\/N+2000013<=m->hget Q m=hget h m)->go ((⟨tm,Q,nx⟩:Ac).put dst (.im (.int .i64 (syK (s,k)+3*s.Seed.Tiles.length))))):
 mkSy.row [.agg [.own (N+7),.own (N+9),.own (N+2000012),.im (.int .i64 s.Temperature)],.im (.int .i64 k)] (hget h) nx (kont go ⟨tm,h,nx⟩ dst):=by
 have ht:=hB.t;have hn:=CC s.Set.Tiles;have O:nT s.Set.Tiles=s.Set.Tiles.length:=by simp only[nT];omega
 obtain⟨τ,hτ⟩: ∃τ:Nat->Nat,τ=λj=>if j=2000000 then N+2000012 else if j=0 then N+7 else N+8+j:=⟨_,rfl⟩
 have t0:τ 0=N+7:=by rw[hτ];rfl
 have t1:τ 1=N+9:=by rw[hτ];rfl
 have t2: ∀j,j<1048576->τ (2+j)=N+10+j:=λj z=>by rw[hτ];simp only;rw[Ab (by omega),Ab (by omega)];omega
 have tp:τ 2000000=N+2000012:=by rw[hτ];exact Af rfl
 have hσ: ∀j,j<2000001->sgx τ 2000001 nx j=τ j:=λj z=>Af z
 have d0: ∀j,domB (mkSy.H0 (s,k)) j=true->j=2000000\/j<2+s.Set.Tiles.length:=λj z=>by
  have:=(mkSy.dom0 _ _).1 z
  simp only[O] at this;exact this
 have rg: ∀j,domB (mkSy.H0 (s,k)) j=true->N+7<=τ j/\τ j<N+2000013:=λj z=>by
  rcases d0 j z with rfl|z
  .rw[tp];omega
  .rw[hτ];simp only;rw[Ab (by omega)]
   split<;>omega
 refine orow.tau (s,k) τ (hB.mkp hk ac) (λ_ _=>rfl) (λj z=> ?_) (λi j G z h=> ?_) (mkSy.hcl _) ⟨?_,?_⟩ (by simp[mkSy.r0,AV.nms]) (λQ _ aa=> ?_)
 .have h1:=d0 j z;have h2:=rg j z;omega
 .have h1:=d0 i G;have h2:=d0 j z;have tv: ∀j,(j=2000000/\τ j=N+2000012)\/(j=0/\τ j=N+7)\/(j≠2000000/\j≠0/\τ j=N+8+j):=λj=>by
   rw[hτ];simp only;split
   .exact .inl ⟨by assumption,rfl⟩
   split
   .exact .inr (.inl ⟨by assumption,rfl⟩)
   .exact .inr (.inr ⟨by assumption,by assumption,rfl⟩)
  have v1:=tv i;have v2:=tv j;omega
 .simp only[mkSy.ca,renL,AV.ren,hσ 0 (by omega),hσ 1 (by omega),hσ 2000000 (by omega),t0,t1,tp]
 .simp only[mkSy.H0,mkTS.H0,syH,Bu,hσ 0 (by omega),hσ 1 (by omega),hσ 2000000 (by omega),t0,t1,tp,AObj.ren];refine⟨Z.p,Z.g,?_,HS λi G=> ?_⟩
  .rw[Z.t];congr 3;simp only[tlB,tlMR,Hj,O];refine Gd λi G=> ?_
   have G:=AJ.1 G;simp only[Function.comp,tlM,M4,Bp,tlA,renL,AV.ren];rw[hσ _ (by omega),t2 i (by omega)]
  .rw[O] at G;rw[hσ _ (by omega),t2 i (by omega),Z.f i G];rfl
 exact ab Q λm hm=>aa m λj z=>by have:=rg j z;omega
def mkOC.d0(a:List Opt×Int)(j:Nat)(z:domB (mkOC.H0 a) j=true):j=0:=by
 simp only[domB,mkOC.H0,hget] at z;by_cases h:j=0
 .exact h
 .rw[A7 _ _ (λq=>h q.symm)] at z;cases z
def mkOC_call{nx o:Nat}{tm:List (Nat×AV)}{h:Ag}{dst:Option Nat}{go:Ac->Prop}{l:List Opt}{k:Int}(hk:0<=k)(Z:k+3*l.length<=1099511627776)(hS:hget h o=some (true,.arr 108 3 (l.map Opt.c)))(aa:o<nx)
 (Q: ∀G:Ag,(∀j e,hget (mkOC.H1 (l,k)) j=some e->hget G o=some (e.1,e.2.ren (sgx (λ_=>o) 1 nx)))->(∀m,m≠o->hget G m=hget h m)->go ((⟨tm,G,nx⟩:Ac).put dst (.im (.int .i64 (k+3*l.length))))):
 mkOC.row [.own o,.im (.int .i64 k)] (hget h) nx (kont go ⟨tm,h,nx⟩ dst):=by
 refine orow.tau (l,k) (λ_=>o) ⟨hk,Z⟩ (λj z=>by rw[mkOC.d0 _ j z];rfl) (λj z=>⟨by rw[mkOC.d0 _ j z];omega,aa⟩) (λi j hi z _=>by rw[mkOC.d0 _ i hi,mkOC.d0 _ j z]) (λp hp=> ?_) ⟨rfl,hS,trivial⟩ (by simp[AV.nms]) (λG hH1 O=>Q G hH1 λm hm=>O m λj z h=>hm h.symm);simp only[mkOC.H1,AO] at hp;subst hp;exact⟨rfl,λm hm=>by simp[AObj.nms] at hm⟩
def mkIC.d0(a:List Int×Int)(j:Nat)(z:domB (mkIC.H0 a) j=true):j=0:=by
 simp only[domB,mkIC.H0,hget] at z;by_cases h:j=0
 .exact h
 .rw[A7 _ _ (λq=>h q.symm)] at z;cases z
def mkIC_call{nx o:Nat}{tm:List (Nat×AV)}{h:Ag}{dst:Option Nat}{go:Ac->Prop}{l:List Int}{k:Int}(hk:0<=k)(Z:k+l.length<=1099511627776)(hS:hget h o=some (true,.arr 2 1 (l.map intC)))(aa:o<nx)
 (Q: ∀G:Ag,(∀j e,hget (mkIC.H1 (l,k)) j=some e->hget G o=some (e.1,e.2.ren (sgx (λ_=>o) 1 nx)))->(∀m,m≠o->hget G m=hget h m)->go ((⟨tm,G,nx⟩:Ac).put dst (.im (.int .i64 (k+l.length))))):
 mkIC.row [.own o,.im (.int .i64 k)] (hget h) nx (kont go ⟨tm,h,nx⟩ dst):=by
 refine orow.tau (l,k) (λ_=>o) ⟨hk,Z⟩ (λj z=>by rw[mkIC.d0 _ j z];rfl) (λj z=>⟨by rw[mkIC.d0 _ j z];omega,aa⟩) (λi j hi z _=>by rw[mkIC.d0 _ i hi,mkIC.d0 _ j z]) (λp hp=> ?_) ⟨rfl,hS,trivial⟩ (by simp[AV.nms]) (λG hH1 O=>Q G hH1 λm hm=>O m λj z h=>hm h.symm);simp only[mkIC.H1,AO] at hp;subst hp;exact⟨rfl,λm hm=>by simp[AObj.nms] at hm⟩
def needX.pre(a:Pld):Prop:=(∀o∈a.Seq,CE o.At)/\a.Inputs.length=a.Seq.length/\a.Seq.length<=500
structure NnAt(h:Nat->Option Ent)(o b:Nat)(M:List (List Int)):Prop where
 r:h o=some (true,.arrA 32 1 (B4 b M.length))
 f: ∀i,i<M.length->h (b+i)=some (true,.arr 2 1 ((M[i]?.getD []).map intC))
def NnAt.mono{h h':Nat->Option Ent}{o b:Nat}{M:List (List Int)}(hs:NnAt h o b M)(z: ∀m,(m=o\/(b<=m/\m<b+M.length))->h' m=h m):NnAt h' o b M:=
 ⟨by rw[z o (.inl rfl)];exact hs.r,λi G=>by rw[z _ (.inr ⟨by omega,by omega⟩)];exact hs.f i G⟩
def NnAt.pk{h:Nat->Option Ent}{o b:Nat}{M:List (List Int)}(hs:NnAt h o b M):pkF h (.own o)=some (.val (.sl false 1 (M.map Bo))):=by
 have e:mapO (mapO (bk h 8)) (B4 b M.length)=some (M.map Bo):=by
  have G:M.map Bo=(List.range M.length).map λi=>Bo (M[i]?.getD []):=by
   apply EY;intro i;rw[BI,BI];by_cases z:i<M.length
   .rw[Ee z,A8 z];simp[z]
   .rw[CH (by omega),CH (by simp;omega)];rfl
  rw[G];refine Hx _ λi z=> ?_
  have z:=AJ.1 z;simp only[mapO,bk,hs.f i z,Fs,Bo]
 simp only[pkF,bk,hs.r,Fs,e,Bw,pkFV]
def Ir{A:Type}(f:Nat->A)(n:Nat):(wrE f n).length=n:=by simp[wrE]
def FJ(l:List Opt)(k:Int):Int:=if l=wrE (oF k) l.length then k+3*l.length else -1
def heldO_mk(k:Int)(n:Nat):FJ (wrE (oF k) n) k=k+3*n:=by
 simp only[FJ,Ir,AQ]
def Oc{A:Type}(f:Nat->A)(n:Nat):wrE f (n+1)=wrE f n++[f n]:=by simp[wrE,M3]
def wrE_get{A:Type}{f:Nat->A}{n i:Nat}(h:i<n):(wrE f n)[i]? =some (f i):=by simp only[wrE,BI];rw[Ee h];rfl
def heldO_.fv(a:(List Opt)×Int):Int:=(FJ) (a.1) (a.2)
def heldO_.row:Row:=vKF (b2 (qS Opt.d_le Opt.c_n) qI) rI (λa=>0<=a.2/\a.2+3*a.1.length<=1099511627776) heldO_.fv
def heldO_.ok:Ak Tryz.prog 26 heldO_.row:=by
 refine vwF tN Tryz.func26 rfl (by kernel_rfl) ?_;intro a z;simp only[Tryz.f26];simp(disch:=omega)only[ZA,simprocAttr,heldO_.fv];obtain⟨l,k⟩:=a;simp only at z⊢;obtain⟨h1,h2⟩:=z;refine Au.old ⟨{i:Nat//i<=l.length/\l.take i=wrE (oF k) i},λi=>⟨[(5,.im (.int .i64 i.1)),(4,.im (.int .i64 0)),(1,.im (.int .i64 (k+3*i.1))),(0,.im (.sl false 3 (l.map Opt.c)))],[],0⟩,λi=>l.length - i.1,λi=>⟨by simp[Ac.good,belT,belH,Ai,AV.bel],by simp⟩,⟨⟨0,by simp[wrE]⟩,by simp(disch:=omega)only[ZA,simprocAttr,sub];simp⟩,λi=> ?_⟩;obtain⟨i,ab,G⟩:=i;simp(disch:=omega)only[ZA,simprocAttr,D.sc,D.scs,decD,sub,Aq];intro _;have w1:IntKind.i64.wrap (k+3*(i:Int)+1)=k+3*(i:Int)+1\/ ¬i<l.length:=by
  by_cases c:i<l.length
  .exact .inl (Am (by omega) (by omega))
  .exact .inr c
 refine⟨λQ=>⟨Q,λx Z=> ?_⟩,λQ=> ?_⟩
 .have w1:IntKind.i64.wrap (k+3*(i:Int)+1)=k+3*(i:Int)+1:=Am (by omega) (by omega);have w2:IntKind.i64.wrap (k+3*(i:Int)+1+1)=k+3*(i:Int)+2:=(Am (by omega) (by omega)).trans (by omega);have w3:IntKind.i64.wrap (k+3*(i:Int)+2+1)=k+3*((i+1:Nat):Int):=(Am (by omega) (by omega)).trans (by omega);simp only[w1,w2,w3];have O:x≠oF k i-> -1=FJ l k:=λc=>by
   simp only[FJ];rw[Ab λh=> ?_];rw[h,wrE_get Q] at Z;exact c (Al Z).symm
  refine⟨λc=>O λh=>c (by rw[h];rfl),λc1=>⟨Q,λy hy=> ?_⟩⟩;obtain rfl:x=y:=Al (Z.symm.trans hy);refine⟨λc=>O λh=>c (by rw[h];rfl),λc2=>⟨Q,λy hy=> ?_⟩⟩;obtain rfl:x=y:=Al (Z.symm.trans hy);refine⟨λc=>O λh=>c (by rw[h];rfl),λc3=>⟨⟨i+1,by omega,?_⟩,by simp only;omega,by rw[Am (by omega) (by omega)];simp only;omega,rfl⟩⟩;have e:x=oF k i:=by
   obtain⟨⟨u,v⟩,t⟩:=x;simp only[Df] at c1 c2 c3;simp only[oF,c1,c2,c3]
  rw[Fq Z,G,Oc,e]
 .have aa:i=l.length:=by omega
  subst aa;rw[Dh] at G;simp only[FJ];rw[Af G]
def totO(M:List (List Opt)):Nat:=(M.map List.length).sum
def mkOO.pre(a:List (List Opt)×Int):Prop:=a.1.length<=1048576/\0<=a.2/\a.2+3*totO a.1<=1099511627776
def Dn(l:List Ad)(k:Int):Int:=if l=wrE (pF k) l.length then k+3*l.length else -1
def heldP_mk(k:Int)(n:Nat):Dn (wrE (pF k) n) k=k+3*n:=by
 simp only[Dn,Ir,AQ]
def heldP_.fv(a:(List Ad)×Int):Int:=(Dn) (a.1) (a.2)
def heldP_.row:Row:=vKF (b2 (qS Ad.d_le Ad.c_n) qI) rI (λa=>0<=a.2/\a.2+3*a.1.length<=1099511627776) heldP_.fv
def heldP_.q:=vKFq (R:=heldP_.row) rfl
def heldP_.ok:Ak Tryz.prog 63 heldP_.row:=by
 refine vwF tN Tryz.func63 rfl (by kernel_rfl) ?_;intro a z;simp only[Tryz.f63];simp(disch:=omega)only[ZA,simprocAttr,heldP_.fv];obtain⟨l,k⟩:=a;simp only at z⊢;obtain⟨h1,h2⟩:=z;refine Au.old ⟨{i:Nat//i<=l.length/\l.take i=wrE (pF k) i},λi=>⟨[(5,.im (.int .i64 i.1)),(4,.im (.int .i64 0)),(1,.im (.int .i64 (k+3*i.1))),(0,.im (.sl false 3 (l.map Ad.c)))],[],0⟩,λi=>l.length - i.1,λi=>⟨by simp[Ac.good,belT,belH,Ai,AV.bel],by simp⟩,⟨⟨0,by simp[wrE]⟩,by simp(disch:=omega)only[ZA,simprocAttr,sub];simp⟩,λi=> ?_⟩;obtain⟨i,ab,G⟩:=i;simp(disch:=omega)only[ZA,simprocAttr,D.sc,D.scs,decD,sub,Aq];intro _;refine⟨λQ=>⟨Q,λx Z=> ?_⟩,λQ=> ?_⟩
 .have w1:IntKind.i64.wrap (k+3*(i:Int)+1)=k+3*(i:Int)+1:=Am (by omega) (by omega);have w2:IntKind.i64.wrap (k+3*(i:Int)+1+1)=k+3*(i:Int)+2:=(Am (by omega) (by omega)).trans (by omega);have w3:IntKind.i64.wrap (k+3*(i:Int)+2+1)=k+3*((i+1:Nat):Int):=(Am (by omega) (by omega)).trans (by omega);simp only[w1,w2,w3];have O:x≠pF k i-> -1=Dn l k:=λc=>by
   simp only[Dn];rw[Ab λh=> ?_];rw[h,wrE_get Q] at Z;exact c (Al Z).symm
  refine⟨λc=>O λh=>c (by rw[h];rfl),λc1=>⟨Q,λy hy=> ?_⟩⟩;obtain rfl:x=y:=Al (Z.symm.trans hy);refine⟨λc=>O λh=>c (by rw[h];rfl),λc2=>⟨Q,λy hy=> ?_⟩⟩;obtain rfl:x=y:=Al (Z.symm.trans hy);refine⟨λc=>O λh=>c (by rw[h];rfl),λc3=>⟨⟨i+1,by omega,?_⟩,by simp only;omega,by rw[Am (by omega) (by omega)];simp only;omega,rfl⟩⟩;have e:x=pF k i:=by
   obtain⟨⟨u,v⟩,t⟩:=x;simp only[Df] at c1 c2 c3;simp only[pF,c1,c2,c3]
  rw[Fq Z,G,Oc,e]
 .have aa:i=l.length:=by omega
  subst aa;rw[Dh] at G;simp only[Dn];rw[Af G]
def heldP_val(x:List Ad)(k:Int):Dn x k=k+3*x.length\/Dn x k= -1:=by
 simp only[Dn];split
 .exact .inl rfl
 .exact .inr rfl
def heldA_.fv(a:Asm×Int):Int:=(λa k=>Dn a.Tiles k) (a.1) (a.2)
def heldA_.row:Row:=vKF (b2 (qR Asm.d_le) qI) rI (λa=>0<=a.2/\a.2+3*a.1.Tiles.length<=1099511627776) heldA_.fv
def heldA_.ok:Ak Tryz.prog 27 heldA_.row:=by
 refine vwF (tC heldP_.ok tN) Tryz.func27 rfl (by kernel_rfl) ?_;intro a z;simp only[Tryz.f27];simp(disch:=omega)only[ZA,simprocAttr,rch,heldA_.fv,heldP_.q,heldP_.fv,D.sc,D.scs,decD];obtain⟨⟨x⟩,k⟩:=a;obtain⟨G,O⟩:=z;simp only at G O⊢;refine⟨⟨G,O⟩,?_⟩;rcases heldP_val x k with h|h
 .rw[Ab (by omega)];trivial
 .rw[Af (by omega)];exact h.symm
def eqAsmF.fv(a:Asm×Asm):Bool:=(λa b=>decide (a=b)) (a.1) (a.2)
def eqAsmF.row:Row:=vKF (b2 (qR Asm.d_le) (qR Asm.d_le)) rB (λa=>True) eqAsmF.fv
def eqAsmF.ok:Ak Tryz.prog 17 eqAsmF.row:=by
 refine vwF (tC eqPlacedS.ok tN) Tryz.func17 rfl (by kernel_rfl) ?_;intro a z;simp only[Tryz.f17];simp(disch:=omega)only[ZA,simprocAttr,eqAsmF.fv,eqPlacedS.q,eqPlacedS.fv,D.sc,D.scs,decD];obtain⟨⟨x⟩,⟨y⟩⟩:=a;simp only[Asm.mk.injEq]
 grind
def pkAsm{h:Nat->Option Ent}{n:Nat}{a:Asm}(hn:h n=some (true,.arr 137 3 (a.Tiles.map Ad.c))):pkF h (.agg [.own n])=some (.val (.agg (Asm.c a))):=by
 simp only[pkF,bk,mapO,hn,Fs,Bw,pkFV,Asm.c]
def asm2R(a b:Asm):a2 (kR Asm.d) (kR Asm.d) [.val (.agg (Asm.c a)),.val (.agg (Asm.c b))]=some (a,b):=by simp only[a2,kR,Asm.d_c,Ce]
def mkAX_call{nx o:Nat}{tm:List (Nat×AV)}{h:Ag}{dst:Option Nat}{go:Ac->Prop}{a:Asm}{k:Int}(hk:0<=k)(Z:k+3*a.Tiles.length<=1099511627776)(hS:hget h o=some (true,.arr 137 3 (a.Tiles.map Ad.c)))(aa:o<nx)
 (Q: ∀G:Ag,hget G o=some (true,.arr 137 3 ((wrE (pF k) a.Tiles.length).map Ad.c))->(∀m,m≠o->hget G m=hget h m)->go ((⟨tm,G,nx⟩:Ac).put dst (.im (.int .i64 (k+3*a.Tiles.length))))):
 mkAC.row [.agg [.own o],.im (.int .i64 k)] (hget h) nx (kont go ⟨tm,h,nx⟩ dst):=by
 have hd: ∀j,domB (mkAC.H0 (a,k)) j=true->j=0:=λj z=>by
  simp only[domB,mkAC.H0,hget] at z;by_cases h:j=0
  .exact h
  .rw[A7 _ _ (λq=>h q.symm)] at z;cases z
 refine orow.tau (a,k) (λ_=>o) ⟨hk,Z⟩ (λj z=>by rw[hd j z];rfl) (λj z=>⟨by rw[hd j z];omega,aa⟩) (λi j hi z _=>by rw[hd i hi,hd j z]) (λp hp=> ?_) ⟨rfl,hS,trivial⟩ (by simp[AV.nms]) (λG hH1 O=>Q G (hH1 0 _ rfl) λm hm=>O m λj z h=>hm h.symm);simp only[mkAC.H1,AO] at hp;subst hp;exact⟨rfl,λm hm=>by simp[AObj.nms] at hm⟩
def pg{H H':Ag}{k m:Nat}{e:Ent}{x:Option Ent}(z:(k,e)::hdel H [k]=H')(h:k≠m)(g:hget H m=x):hget H' m=x:=by subst z;exact (G9 _ _ _ h).trans g
section
variable {A B:Type}{k:AK A}{r:RK B}{pre:A->Prop}{f:A->B}{args:List AV}{tm:List (Nat×AV)}{h:Ag}{nx:Nat}{dst:Option Nat}
def vK.call{Q:Ac->Prop}(ps:List PK)(O:pkL (hget h) args=some (ps,[]))(a:A)(Z:k.r ps=some a)(z:pre a)(G:Q ((⟨tm,h,nx⟩:Ac).put dst (.im (r.e (f a))))):vK k r pre f args (hget h) nx (kont Q ⟨tm,h,nx⟩ dst):=vN.call ps O a Z z G
def vKF.call{Q:Ac->Prop}(ps:List PK)(O:pkFL (hget h) args=some ps)(a:A)(Z:k.r ps=some a)(z:pre a)(G:Q ((⟨tm,h,nx⟩:Ac).put dst (.im (r.e (f a))))):vKF k r pre f args (hget h) nx (kont Q ⟨tm,h,nx⟩ dst):=vF.call ps O a Z z G
def vK.callA{Q:AGo}{cl:List (List Nat)}{i:Nat}{acc:List Fp}(ps:List PK)(O:pkL (hget h) args=some (ps,[]))(a:A)(Z:k.r ps=some a)(z:pre a)(hq:EF acc=true)(G: ∀u,Q (⟨i,u,[],nx,0⟩::acc) ((⟨tm,h,nx⟩:Ac).put dst (.im (r.e (f a))))):vK k r pre f args (hget h) nx (FL cl i acc Q ⟨tm,h,nx⟩ dst):=vN.callA ps O a Z z hq G
def vKF.callA{Q:AGo}{cl:List (List Nat)}{i:Nat}{acc:List Fp}(ps:List PK)(O:pkFL (hget h) args=some ps)(a:A)(Z:k.r ps=some a)(z:pre a)(hq:EF acc=true)(G: ∀u,Q (⟨i,u,[],nx,0⟩::acc) ((⟨tm,h,nx⟩:Ac).put dst (.im (r.e (f a))))):vKF k r pre f args (hget h) nx (FL cl i acc Q ⟨tm,h,nx⟩ dst):=vF.callA ps O a Z z hq G
end
def sysintR(s:Ah)(l:List Int):a2 (kR Ah.d) (kS intD) [.val (.agg (Ah.c s)),.val (.sl false 1 (l.map intC))]=some (s,l):=by simp only[a2,kR,kS,Ah.d_c,FS HZ,Ce]
def intR1(l:List Int):a1 (kS intD) [.val (.sl false 1 (l.map intC))]=some l:=by simp only[a1,kS,FS HZ,Ce]
def optkR(l:List Opt)(k:Int):a2 (kS Opt.d) kI [.val (.sl false 3 (l.map Opt.c)),.val (.int .i64 k)]=some (l,k):=by simp only[a2,kS,kI,Opt.d_R,Ce]
def asmkR(a:Asm)(k:Int):a2 (kR Asm.d) kI [.val (.agg (Asm.c a)),.val (.int .i64 k)]=some (a,k):=by simp only[a2,kR,kI,Asm.d_c,Ce]
def toIR.row:Row:=orR toInt64S.row toIX.row
def toIR.ok:Ak Tryz.prog 14 toIR.row:=orR_ok toInt64S.ok toIX.ok
def ix_cl(l:List Int): ∀p∈toIX.H1 l,p.1<2/\ ∀m∈p.2.2.nms,m<2:=by
 intro p hp;simp only[toIX.H1,AO] at hp;subst hp;exact⟨by omega,by simp[AObj.nms]⟩
def grX_cl(w:List Opt×Asm×Int): ∀p∈grX w,p.1<20/\ ∀m∈p.2.2.nms,m<20:=by
 intro p hp;simp only[grX,A9,M8,LD] at hp;rcases hp with rfl|rfl
 .exact⟨by omega,by simp[AObj.nms]⟩
 .exact⟨by omega,by simp[AObj.nms]⟩
def grR_nm(w:List Opt×Asm×Int): ∀m∈(grR w).nms,m<20:=by simp[grR,AV.nms,nmsL]
def grX_sc(w:List Opt×Asm×Int): ∀p∈grX w,p.1<20/\p.2.1=true/\scO p.2.2=true/\ ∀m∈p.2.2.nms,m<20:=by
 intro p hp;simp only[grX,A9,M8,LD] at hp;rcases hp with rfl|rfl
 .exact⟨by omega,rfl,by simp[scO,Opt.c,D.sc],by simp[AObj.nms]⟩
 .exact⟨by omega,rfl,by simp[scO,Ad.c,D.sc],by simp[AObj.nms]⟩
def grR_sc(w:List Opt×Asm×Int):scV (grR w)=true/\ ∀m∈(grR w).nms,m<20:=⟨by simp[grR,scV,scVL,D.sc],grR_nm w⟩
def grV.ar:List PK->Option (Ah×List Int):=a2 (kR Ah.d) (kS intD)
def ouC(l:List Opt)(ins:List Int)(i:Nat)(p:Aa)(d k:Nat):Bool:=decide (i<k) && (decide (l[k]?.map Opt.At=some (AD p d)) && hasI (ins[k]?.getD 0) (((d:Int)+2) % 4))
def ouBn(l:List Opt)(ins:List Int)(i:Nat)(p:Aa)(d:Nat):Nat->Bool
 |0=>false
 |k+1=>ouBn l ins i p d k||ouC l ins i p d k
def ouB(l:List Opt)(ins:List Int)(i:Nat)(p:Aa)(d:Nat):Bool:=ouBn l ins i p d l.length
def ouM(l:List Opt)(ins:List Int)(i:Nat)(p:Aa):Nat->Int
 |0=>0
 |d+1=>ouM l ins i p d+bitN (ouB l ins i p d) d
def GC{l:List Opt}{ins:List Int}{i:Nat}{p:Aa}{d:Nat}: ∀{n:Nat},ouBn l ins i p d n=true↔ ∃k,k<n/\ouC l ins i p d k=true
 |0=>by simp[ouBn]
 |n+1=>by
  simp only[ouBn,Dy,GC (n:=n)];constructor
  .rintro (⟨k,G,z⟩|h)
   .exact⟨k,by omega,z⟩
   .exact⟨n,by omega,h⟩
  .rintro⟨k,G,z⟩;by_cases O:k=n
   .subst O;exact .inr z
   .exact .inl ⟨k,by omega,z⟩
def DH{l:List Opt}{ins:List Int}{i:Nat}{p:Aa}{d k:Nat}:ouC l ins i p d k=true↔i<k/\l[k]?.map Opt.At=some (AD p d)/\hasI (ins[k]?.getD 0) (((d:Int)+2) % 4)=true:=by
 simp only[ouC,Av,AP]
def at_uniq{l:List Opt}(hd:(l.map Opt.At).Nodup){q:Aa}{j k:Nat}(z:l[j]?.map Opt.At=some q)(G:l[k]?.map Opt.At=some q):j=k:=by
 have a1:=K0 hd z;have a2:=K0 hd G;omega
def ouC_one{l:List Opt}{ins:List Int}{i:Nat}{p:Aa}{d k:Nat}(hd:(l.map Opt.At).Nodup)(h:ouC l ins i p d k=true):ouBn l ins i p d k=false:=by
 cases hb:ouBn l ins i p d k with
 |false=>rfl
 |true=>
  exfalso;obtain⟨j,G,z⟩:=GC.1 hb
  have:=at_uniq hd (DH.1 z).2.1 (DH.1 h).2.1
  omega
def NU{l:List Opt}{ins:List Int}{i:Nat}{p:Aa}{d k:Nat}(hd:(l.map Opt.At).Nodup):bitN (ouBn l ins i p d (k+1)) d=bitN (ouBn l ins i p d k) d+(if ouC l ins i p d k=true then 2^d else 0):=by
 simp only[ouBn];by_cases h:ouC l ins i p d k=true
 .rw[ouC_one hd h,h,Af rfl];simp[bitN]
 .rw[Ab h];rw[Fw] at h;rw[h];simp
def ouBn_low{l:List Opt}{ins:List Int}{i:Nat}{p:Aa}{d:Nat}: ∀{k:Nat},k<=i+1->ouBn l ins i p d k=false:=by
 intro k O;cases hb:ouBn l ins i p d k with
 |false=>rfl
 |true=>
  exfalso;obtain⟨j,G,z⟩:=GC.1 hb
  have:=(DH.1 z).1
  omega
def ouB_idx{l:List Opt}{ins:List Int}{i:Nat}{p:Aa}{d:Nat}(hd:(l.map Opt.At).Nodup):ouB l ins i p d=true↔(i:Int)<idxO l (AD p d)/\hasI (ins[(idxO l (AD p d)).toNat]?.getD 0) (((d:Int)+2) % 4)=true:=by
 rw[ouB,GC];constructor
 .rintro⟨k,Q,z⟩;obtain⟨g1,g2,O⟩:=DH.1 z;rw[K0 hd g2];exact⟨by omega,by rw[AH];exact O⟩
 .rintro⟨Q,z⟩;have G:=idxO_at (l:=l) (q:=AD p d) rfl (by omega);refine⟨(idxO l (AD p d)).toNat,?_,DH.2 ⟨by omega,G,z⟩⟩;cases hk:l[(idxO l (AD p d)).toNat]? with
  |none=>rw[hk] at G;cases G
  |some y=>exact (Ba.1 hk).1
def bitN_b(b:Bool)(k:Nat):0<=bitN b k/\bitN b k<=2^k:=by
 have:(0:Int)<=2^k:=Int.le_of_lt (Int.pow_pos (by omega))
 cases b<;>simp[bitN,this]
def ouM_b(l:List Opt)(ins:List Int)(i:Nat)(p:Aa): ∀k,0<=ouM l ins i p k/\ouM l ins i p k<2^k
 |0=>by simp[ouM]
 |k+1=>by
  have z:=ouM_b l ins i p k;have G:=bitN_b (ouB l ins i p k) k;have e:(2:Int)^(k+1)=2^k*2:=Int.pow_succ ..;simp only[ouM];omega
def has_out(l:List Opt)(ins:List Int)(i:Nat)(p:Aa): ∀d:Nat,d<4->hasI (ouM l ins i p 4) d=ouB l ins i p d:=by
 intro d hd;obtain⟨z,k1,k2,G⟩:=has_bits (ouB l ins i p 0) (ouB l ins i p 1) (ouB l ins i p 2) (ouB l ins i p 3);have e:ouM l ins i p 4=0+bitN (ouB l ins i p 0) 0+bitN (ouB l ins i p 1) 1+bitN (ouB l ins i p 2) 2+bitN (ouB l ins i p 3) 3:=by
  simp only[ouM]
 rw[e];rcases (by omega:d=0\/d=1\/d=2\/d=3) with rfl|rfl|rfl|rfl
 .exact z
 .exact k1
 .exact k2
 .exact G
def BT(p:Aa)(m:Int):Nat->Ad->Bool
 |0,x=>decide (x.At≠p)
 |d+1,x=>BT p m d x && !(hasI m d && decide (x.At=AD p d))
def witA(a:Asm)(p:Aa)(m:Int):Asm:=⟨a.Tiles.filter (BT p m 4)⟩
def Cu(p:Aa)(m:Int):Nat->List Aa
 |0=>[p]
 |d+1=>Cu p m d++(if hasI m d=true then [AD p d] else [])
def withI(a:Asm)(l:List Aa):Asm:=⟨a.Tiles.filter λx=> !l.contains x.At⟩
def NS(p:Aa)(m:Int)(x:Ad): ∀d,(Cu p m d).contains x.At= !(BT p m d x)
 |0=>by
  simp only[Cu,BT,J2,J7,G3];by_cases h:x.At=p<;>simp[h]
 |d+1=>by
  simp only[Cu,BT,List.contains_append,NS p m x d];by_cases c:hasI m d=true
  .rw[Af c,c];by_cases h:x.At=AD p d<;>simp[h]
  .rw[Ab c];rw[Fw] at c;rw[c];simp
def wit_law(a:Asm)(p:Aa)(m:Int):withI a (Cu p m 4)=witA a p m:=by
 simp only[withI,witA,NS,Bool.not_not]
def NT(p:Aa)(m:Int): ∀d,(Cu p m d).length<=d+1
 |0=>by simp[Cu]
 |d+1=>by
  have:=NT p m d
  simp only[Cu,B5]
  split<;>simp<;>omega
def form_weak{p:Aa}{q:Option Aa}(hq: ∀u,q=some u->AB u p=true): ∀{r:List Ad},B2 (some p) r=true->B2 q r=true
 |[],_=>O6 q
 |x::r,h=>by
  rw[Gi] at h⊢;simp only[Av] at h⊢;obtain⟨z,G,O,Q⟩:=h;refine⟨z,G,?_,Q⟩;cases q with
  |none=>rfl
  |some u=>exact Ih (hq u rfl) O
def NQ(c:Ad->Bool): ∀(l:List Ad) (q:Option Aa),B2 q l=true->B2 q (l.filter c)=true
 |[],q,_=>O6 q
 |x::r,q,h=>by
  rw[Gi] at h;simp only[Av] at h;obtain⟨G,O,z,Q⟩:=h;have ih:=NQ c r (some x.At) Q;rw[RE];split
  .rw[Gi];simp only[Av];exact⟨G,O,z,ih⟩
  .refine form_weak (λu Z=> ?_) ih;subst Z;exact z
def wit_in{s:Aj}{a:Asm}(h:BR s a)(p:Aa)(m:Int):BR s (witA a p m):=
 ⟨NQ _ _ _ h.1,λx z=>h.2 x (IR.1 z).1⟩
def atA_of{a:Asm}(h:B2 none a.Tiles=true){x:Ad}(z:x∈a.Tiles):atA a x.At=x.Tile:=by
 simp only[atA];cases hf:a.Tiles.find? (λy=>decide (y.At=x.At)) with
 |none=>
  have:=J3.1 hf x z
  simp at this
 |some y=>
  have G:=M2 hf;have e:y.At=x.At:=by simpa using Hl hf
  rw[nodup_at (V1 h) y G x z e];rfl
def NV{s:Aj}{f g:Aa->Int}{p:Aa}{t:Int}: ∀(k:Nat),(∀d:Nat,d<k->CX s f p t d<=CX s g p t d)->Bl s f p t k<=Bl s g p t k
 |0,_=>Fv _
 |k+1,h=>by
  have z:=NV k λd hd=>h d (by omega)
  have G:=h k (by omega);simp only[Bl];omega
def flt_bind{s:Ah}{b:Asm}{l:List Opt}(h:EE s b l)(hb:BR s.Set b)(h0:setP s.Set)(h1:s.Set.Tiles.length<=160){i:Nat}{o:Opt}(ho:l[i]? =some o)(ins:List Int):
 Bl s.Set (atA (Aw b (l.take i))) o.At o.Tile 4<=Bl s.Set (atA (witA (Aw b l) o.At (ouM l ins i o.At 4))) o.At o.Tile 4:=by
 have ai:i<l.length:=(Ba.1 ho).1;have ab:=EG h1 hb h i (by omega);have Z:BR s.Set (Aw b l):=by
  have:=EG h1 hb h l.length (Ar _)
  rwa [Dh] at this
 have ad:=wit_in Z o.At (ouM l ins i o.At 4);have G: ∀x∈(Aw b (l.take i)).Tiles,∀k,i<=k->x∈(Aw b (l.take k)).Tiles:=by
  intro x O k hk;rw[JU] at O⊢;rcases O with O|⟨z,hz,e⟩
  .exact .inl O
  .refine .inr ⟨z,?_,e⟩;obtain⟨j,hj⟩:=Fa.1 hz;have ac:j<i:=by
    have:=(Ba.1 hj).1
    simp at this;omega
   rw[Fa];exact⟨j,by rw[UV ac] at hj;rw[UV (by omega)];exact hj⟩
 refine NV 4 λd hd=> ?_
 have hp:=(Lr h0 (atA (witA (Aw b l) o.At (ouM l ins i o.At 4))) o.At o.Tile d).1;by_cases c:0<=atA (Aw b (l.take i)) (AD o.At d)
 .obtain⟨x,O,ag⟩:=at_mem c;have af:x∈(Aw b l).Tiles:=by
   have:=G x O l.length (by omega)
   rwa [Dh] at this
  have Q:=(Dj (h i o ho).1).2.2.2.2.2;have hk: ∀e:Nat,e<=4->BT o.At (ouM l ins i o.At 4) e x=true:=by
   intro e;induction e with
   |zero=>intro _;simpa[BT] using Q x O
   |succ e ih=>
    intro he;simp only[BT,ih (by omega),BY,EX,PA,EZ];rw[has_out _ _ _ _ e (by omega)];cases hob:ouB l ins i o.At e with
    |false=>exact .inl rfl
    |true=>
     right;intro aa;obtain⟨k,_,h3⟩:=GC.1 hob;obtain⟨g1,g2,_⟩:=DH.1 h3;cases hlk:l[k]? with
     |none=>rw[hlk] at g2;cases g2
     |some y=>
      rw[hlk] at g2;have hy:y.At=AD o.At e:=by simpa using g2
      exact (Dj (h k y hlk).1).2.2.2.2.2 x (G x O k (by omega)) (aa.trans hy.symm)
  have ah:x∈(witA (Aw b l) o.At (ouM l ins i o.At 4)).Tiles:=IR.2 ⟨af,hk 4 (Ar _)⟩;have e1:=atA_of ab.1 O;have e2:=atA_of ad.1 ah;rw[ag] at e1 e2;simp only[CX,e1,e2];exact Fv _
 .have:CX s.Set (atA (Aw b (l.take i))) o.At o.Tile d=0:=Ab c
  omega
def anoK(s:Ah)(f:Aa->Int)(p:Aa)(t:Int):Nat->Bool
 |0=>false
 |k+1=>anoK s f p t k||(decide ((k:Int)≠t) && decide (s.Temperature<=Bl s.Set f p k 4))
def K1{s:Ah}{f:Aa->Int}{p:Aa}{t:Int}: ∀{n:Nat},anoK s f p t n=true↔ ∃k:Nat,k<n/\(k:Int)≠t/\s.Temperature<=Bl s.Set f p k 4
 |0=>by simp[anoK]
 |n+1=>by
  simp only[anoK,Dy,Av,AP,K1 (n:=n)];constructor
  .rintro (⟨k,G,z⟩|h)
   .exact⟨k,by omega,z⟩
   .exact⟨n,by omega,h⟩
  .rintro⟨k,G,z⟩;by_cases O:k=n
   .subst O;exact .inr z
   .exact .inl ⟨k,by omega,z⟩
def FP{s:Ah}{f:Aa->Int}{p:Aa}{x:Int}: ∀{n:Nat},x∈atU s f p n↔ ∃k:Nat,k<n/\x=k/\s.Temperature<=Bl s.Set f p k 4
 |0=>by simp[atU]
 |n+1=>by
  simp only[atU,AG,FP (n:=n)];constructor
  .rintro (⟨k,O,z⟩|h)
   .exact⟨k,by omega,z⟩
   .split at h
    .rename_i c;exact⟨n,by omega,by simpa using h,c⟩
    .cases h
  .rintro⟨k,O,z,G⟩;by_cases Q:k=n
   .subst Q;right;rw[Af G,z];exact AO.2 rfl
   .exact .inl ⟨k,by omega,z,G⟩
def atU_nd{s:Ah}{f:Aa->Int}{p:Aa}: ∀n:Nat,(atU s f p n).Nodup
 |0=>by simp[atU]
 |n+1=>by
  simp only[atU];split
  .rw[H9];refine⟨atU_nd n,by simp,?_⟩;intro a G z Q O;rw[AO] at Q;obtain⟨k,Z,h2,_⟩:=FP.1 G;omega
  .rw[BJ];exact atU_nd n
def one_law{s:Ah}{f:Aa->Int}{p:Aa}{t:Int}{n:Nat}(h1:0<=t)(h2:t<n)(h3:s.Temperature<=Bl s.Set f p t 4):(atU s f p n).length≠1↔anoK s f p t n=true:=by
 have G:t∈atU s f p n:=FP.2 ⟨t.toNat,by omega,by omega,by rw[Vn h1];exact h3⟩;rw[K1];constructor
 .intro h;cases z:atU s f p n with
  |nil=>rw[z] at G;cases G
  |cons x r=>
   cases r with
   |nil=>rw[z] at h;exact (h rfl).elim
   |cons y r=>
    have hn:=atU_nd (s:=s) (f:=f) (p:=p) n;rw[z,Ed] at hn;have Q:x≠y:=λe=>hn.1 (by rw[e];exact AU ..)
    have O:x∈atU s f p n:=by rw[z];exact AU ..
    have hy:y∈atU s f p n:=by rw[z];exact AX _ (AU ..)
    obtain⟨k,a1,a2,a3⟩:=FP.1 O;obtain⟨j,b1,b2,b3⟩:=FP.1 hy;by_cases c:x=t
    .exact⟨j,b1,by rw[<-b2,<-c];exact λe=>Q e.symm,b3⟩
    .exact⟨k,a1,by rw[<-a2];exact c,a3⟩
 .rintro⟨k,h4,h5,h6⟩ z;obtain⟨x,O⟩:=R2.1 z;have Z:(k:Int)∈atU s f p n:=FP.2 ⟨k,h4,rfl,h6⟩;rw[O,AO] at G Z;exact h5 (Z.trans G.symm)
def fsF{A:Type}(g:Nat->Option A):Nat->Nat->Option A
 |0,_=>none
 |n+1,k=>(g k).or (fsF g n (k+1))
def Kz{A:Type}{g h:Nat->Option A}: ∀(n k:Nat),(∀i,k<=i->i<k+n->g i=h i)->fsF g n k=fsF h n k
 |0,_,_=>rfl
 |n+1,k,e=>by
  simp only[fsF];rw[e k (by omega) (by omega),Kz n (k+1) λi z G=>e i (by omega) (by omega)]
def fltO(s:Ah)(G:List Int)(o:Opt)(i:Nat)(z:Bool):Option (Int×Opt):=if G[i]?.getD 0≠s.Temperature then some (1,o) else if z=true then some (2,o) else none
def endO:List Opt->Option (Int×Opt)
 |[]=>none
 |o::_=>some (3,o)
def gfI(s:Ah)(l:List Opt)(i:Nat):Option (Int×Opt):=
 (l[i]?).bind λo=>fltO s (smsS s s.Seed l) o i (anoK s (atA (witA (Aw s.Seed l) o.At (ouM l (insS s s.Seed l) i o.At 4))) o.At o.Tile s.Set.Tiles.length)
def gfS(s:Ah)(l:List Opt)(i:Nat):Option (Int×Opt):=
 (l[i]?).bind λo=>fltO s (smsS s s.Seed l) o i (decide ((atU s (atA (witA (Aw s.Seed l) o.At (ouM l (insS s s.Seed l) i o.At 4))) o.At s.Set.Tiles.length).length≠1))
def NX(s:Ah): ∀(l:List Opt) (b:Asm) (k:Nat) (o:Opt),l[k]? =some o->(smsS s b l)[k]? =some (Bl s.Set (atA (Aw b (l.take k))) o.At o.Tile 4)
 |[],_,k,o,h=>by simp at h
 |x::r,b,0,o,h=>by
  simp only[De,An] at h;subst h;simp[smsS,Aw]
 |x::r,b,k+1,o,h=>by
  rw[DP] at h;simp only[smsS,DP,Ft,Aw];exact NX s r _ k o h
def gf_law{s:Ah}{l:List Opt}(h:seqP s l)(i:Nat):gfI s l i=gfS s l i:=by
 obtain⟨q1,q2,q3,q4,z,q6⟩:=h;simp only[gfI,gfS];cases ho:l[i]? with
 |none=>rfl
 |some o=>
  simp only[Ce,fltO];rw[NX s l s.Seed i o ho,Ao];by_cases c:Bl s.Set (atA (Aw s.Seed (l.take i))) o.At o.Tile 4≠s.Temperature
  .rw[Af c,Af c]
  rw[Ab c,Ab c];have Z:=flt_bind z q2 q1 q3 ho (insS s s.Seed l);obtain⟨g1,g2,G,O,g5,g6⟩:=Dj (z i o ho).1;have Q:s.Temperature<=Bl s.Set (atA (witA (Aw s.Seed l) o.At (ouM l (insS s s.Seed l) i o.At 4))) o.At o.Tile 4:=by
   have:Bl s.Set (atA (Aw s.Seed (l.take i))) o.At o.Tile 4=s.Temperature:=Va.1 c
   omega
  have:=one_law (n:=s.Set.Tiles.length) G O Q
  simp only[AP,this]
def fltS(s:Ah)(l:List Opt):Option (Int×Opt):=(fsF (gfS s l) l.length 0).or (endO (Bd s (Aw s.Seed l)))
def flt_law{s:Ah}{l:List Opt}(h:seqP s l):(fsF (gfI s l) l.length 0).or (endO (Bd s (Aw s.Seed l)))=fltS s l:=by
 rw[fltS,Kz l.length 0 λi _ _=>gf_law h i]
def fltR:Option (Int×Opt)->Int×Aa×Int
 |none=>(0,⟨0,0⟩,3)
 |some (k,o)=>(k,o.At,0)
def lfF(s:Ah)(l:List Opt):Int×Aa×Int:=if (seqS s l).2.2≠0 then (0,⟨0,0⟩,(seqS s l).2.2) else fltR (fltS s l)
def sptC(x:List Aa):List D:=[.sl false 2 (x.map Aa.c)]
def sptD:List D->Option (List Aa)
 |[.sl _ _ rows]=>decR Aa.d rows
 |_=>none
def sptD_le: ∀ds x,sptD ds=some x->LeS ds (sptC x):=by
 intro ds x h;unfold sptD at h;split at h
 .exact⟨BL (BG Aa.d_le _ _ h) (by simp[Aa.c]),trivial⟩
 .cases h
def spt_t(x:List Aa):sptD (List.take 1 (sptC x))=some x:=Aa.d_R x
def spt_l(x:List Aa):(1<=(sptC x).length)=True:=JD (Ar 1)
def spt_h(x:List Aa):hdD (List.take 1 (sptC x))= .sl false 2 (x.map Aa.c):=rfl
def CR(l:List Aa)(x:Ad):Bool:=l.contains x.At
def remP(l:List Aa)(z:List Ad):List Ad:=z.filter λx=> !Qana l x
def rem_len(l:List Aa)(z:List Ad):(remP l z).length<=z.length:=R4 _ _
def NW(l:List Aa){z:List Ad}{k:Nat}{x:Ad}(h:z[k]? =some x):remP l (z.take (k+1))=remP l (z.take k)++if CR l x=false then [x] else []:=by
 rw[Ec,h,PE,remP,remP,PD];congr 1;cases hg:CR l x<;>simp[hg]
def Sp{A:Type}{p:A->Bool}: ∀(l:List A) (o i:Nat),AA p o l=((o+i:Nat):Int)-> ∀x∈l.take i,p x=false:=by
 intro l;induction l with
 |nil=>intro o i _ x z;simp at z
 |cons y r ih=>
  intro o i h x z;cases i with
  |zero=>simp at z
  |succ i=>
   simp only[AA] at h;split at h
   .omega
   .rename_i G;rw[Ft] at z;rcases A9.1 z with rfl|z
    .simpa using G
    .exact ih (o+1) i (by rw[h];congr 1;omega) x z
def rem_first{l:List Aa}{z:List Ad}{i:Nat}{x:Ad}(G:z.find? (CR l)=some x)(O:AA (CR l) 0 z=(i:Int))(Q:z[i]? =some x):remP l (z.take (i+1))=z.take i:=by
 have Z:CR l x=true:=Hl G;rw[NW l Q,Ab (by rw[Z];simp),BJ,remP,Mz];intro y hy;rw[Sp (p:=CR l) z 0 i (by rw[O];simp) y hy];rfl
def pt_and{p q:Aa}:(p.X=q.X/\p.Y=q.Y)↔p=q:=by
 obtain⟨a,b⟩:=p;obtain⟨c,d⟩:=q;simp
def idxP_.fv(a:(List Aa)×Aa):Int:=(λl p=>AA (λy=>decide (p=y)) 0 l) (a.1) (a.2)
def idxP_.row:Row:=vKF (b2 (qS Aa.d_le Aa.c_n) (qR Aa.d_le)) rI (λa=>True) idxP_.fv
def idxP_.q:=vKFq (R:=idxP_.row) rfl
def idxP_.ok:Ak Tryz.prog 153 idxP_.row:=by
 refine vwF tN Tryz.func153 rfl (by kernel_rfl) ?_;intro a O;simp only[Tryz.f153];simp(disch:=omega)only[ZA,simprocAttr,idxP_.fv];intro hn;refine Au.old ⟨{k:Nat//k<=a.1.length/\AA (λy=>decide (a.2=y)) k (a.1.drop k)=AA (λy=>decide (a.2=y)) 0 a.1},λk=>⟨[(8,.im (.int .i64 k.1)),(7,.im (.int .i64 a.1.length)),(4,.im (.int .i64 0)),(0,.im (.sl false 2 (a.1.map Aa.c))),(1,.im (.agg [.int .i64 a.2.X,.int .i64 a.2.Y])),(3,.ptr 0 0)],[(0,(true,.cells 96 [.im (.int .i64 a.2.X),.im (.int .i64 a.2.Y)]))],1⟩,λk=>a.1.length - k.1,λk=>⟨by simp[Ac.good,belT,belH,Ai,AV.bel,belL],Ar _⟩,⟨⟨0,by simp⟩,by simp(disch:=omega)only[ZA,simprocAttr,sub]⟩,λk=> ?_⟩;obtain⟨k,Q,z⟩:=k;simp(disch:=omega)only[ZA,simprocAttr,D.sc,D.scs,decD,sub,Aq];refine⟨λG=>⟨G,λx Z=> ?_⟩,λG=> ?_⟩
 .rw[Cw Z,AA] at z;refine⟨λh=> ?_,λh=>CZ G hn ⟨by omega,by rw[<-z,Ab (by rw[AP,<-pt_and];simpa using h)]⟩⟩;rw[Af (by rw[AP,<-pt_and];simpa using h)] at z;exact z
 .rw[B9 (by omega),AA] at z;exact z
def contP_.fv(a:(List Aa)×Aa):Bool:=(λl p=>l.contains p) (a.1) (a.2)
def contP_.row:Row:=vKF (b2 (qS Aa.d_le Aa.c_n) (qR Aa.d_le)) rB (λa=>True) contP_.fv
def contP_.q:=vKFq (R:=contP_.row) rfl
def contP_.ok:Ak Tryz.prog 107 contP_.row:=by
 refine vwF (tC idxP_.ok tN) Tryz.func107 rfl (by kernel_rfl) ?_;intro a G;simp only[Tryz.f107];simp(disch:=omega)only[ZA,simprocAttr,rch,contP_.fv,idxP_.q,idxP_.fv,D.sc,D.scs,decD];rw[HC,AP,DQ];rcases X2 (λy=>decide (a.2=y)) a.1 0 with ⟨h,_⟩|⟨O,Q⟩
 .rw[h,RD];constructor
  .rintro⟨x,z,Z⟩
   have:a.2=x:=by simpa using Z
   rw[this];exact z
  .exact λz=>⟨_,z,by simp⟩
 .rw[Q,O];simp
def wo1.fv(a:Ad×(List Aa)):Bool:=(λx l=>CR l x) (a.1) (a.2)
def wo1.row:Row:=vKF (b2 (qR Ad.d_le) (qP 1 sptD_le)) rB (λa=>True) wo1.fv
def wo1.q:=vKFq (R:=wo1.row) rfl
def wo1.ok:Ak Tryz.prog 106 wo1.row:=by
 refine vwF (tC contP_.ok tN) Tryz.func106 rfl (by kernel_rfl) ?_;intro a z;simp only[Tryz.f106];simp(disch:=omega)only[ZA,simprocAttr,rch,wo1.fv,contP_.q,contP_.fv,D.sc,D.scs,decD];simp(disch:=omega)only[ZA,simprocAttr,spt_l,spt_h]
 try rfl
def IdxW.ar:List PK->Option ((List Ad)×((List Aa)))
 |[.val (.sl _ _ O),.val (.fn 106 [] [.ref z])]=>(decR Ad.d O).bind λQ=>(sptD (z.take 1)).bind λG=>some (Q,G)
 |_=>none
def IdxW.ae(a:(List Ad)×((List Aa))):List PK:=[.val (.sl false 3 (a.1.map Ad.c)),.val (.fn 106 [] [.ref (sptC a.2)])]
def IdxW.le: ∀G a,IdxW.ar G=some a->LeKL G (IdxW.ae a):=by
 intro G a h;unfold IdxW.ar at h;split at h
 .simp only[Cb,An] at h;obtain⟨Q,h0,O,z,rfl⟩:=h;exact⟨BL (BG Ad.d_le _ _ h0) (by simp only[AF];rintro r ⟨y,_,rfl⟩;rfl),Hy ⟨Ha (LeP.trans_take (sptD_le _ _ z)),trivial⟩,trivial⟩
 .cases h
def IdxW.fv(a:(List Ad)×((List Aa))):Int:=(λl t=>AA (CR t) 0 l) (a.1) (a.2)
def IdxW.row:Row:=Fj IdxW.ar (λa=>True) (λa=>(D.int .i64) (IdxW.fv a))
def IdxW.q:=vqF IdxW.row rfl
def IdxW.ok:Ak Tryz.prog 152 IdxW.row:=by
 refine Of Bz (tC wo1.ok tN) Tryz.func152 rfl (by kernel_rfl) (by kernel_rfl) (ar:=IdxW.ar) (ae:=IdxW.ae) IdxW.le (n:=2) (λ_=>rfl) (by decide) (rc:=(vInt)) (re:=(D.int .i64)) (F2) (f:=IdxW.fv) ?_;intro a O;simp only[Tryz.f152];simp(disch:=omega)only[ZA,simprocAttr,IdxW.ae,IdxW.fv];intro hn;refine Au.old ⟨{k:Nat//k<=a.1.length/\AA (CR a.2) k (a.1.drop k)=AA (CR a.2) 0 a.1},λk=>⟨[(8,.im (.int .i64 k.1)),(7,.im (.int .i64 a.1.length)),(6,.im (.sl false 3 (a.1.map Ad.c))),(4,.im (.int .i64 0)),(0,.im (.sl false 3 (a.1.map Ad.c))),(1,.im (.fn 106 [] [.ref (sptC a.2)]))],[],0⟩,λk=>a.1.length - k.1,λk=>⟨by simp[Ac.good,belT,belH,Ai,AV.bel],Ar _⟩,⟨⟨0,by simp⟩,by simp(disch:=omega)only[ZA,simprocAttr,sub]⟩,λk=> ?_⟩;obtain⟨k,Q,z⟩:=k;simp(disch:=omega)only[ZA,simprocAttr,rch,wo1.q,wo1.fv,D.sc,D.scs,decD,sub,Aq,spt_t];refine⟨λG=>⟨G,λx Z=> ?_⟩,λG=> ?_⟩
 .rw[Cw Z,AA] at z;refine⟨λh=> ?_,λh=>CZ G hn ⟨by omega,by rw[<-z,Ab (by simpa using h)]⟩⟩;rw[Af (by simpa using h)] at z;exact z
 .rw[B9 (by omega),AA] at z;exact z
def dlP.ca(a:List Ad×List Aa):List AV:=[.own 0,.im (.fn 106 [] [.ref (sptC a.2)])]
def dlP.H0(a:List Ad×List Aa):Ag:=[(0,(true,.arr 137 3 (a.1.map Ad.c)))]
def dlP.H1(a:List Ad×List Aa):Ag:=[(1,(true,.arr 137 3 ((remP a.2 a.1).map Ad.c)))]
def dlP.row:Row:=orow dlP.ca dlP.H0 1 (λa=>a.1.length<=1000000) (λj=>j==0) (λ_=> .own 1) dlP.H1 1000
def dlP.ok:Ak Tryz.prog 104 dlP.row:=by
 refine owN (tC IdxW.ok (tC wo1.ok tN)) Tryz.func104 rfl (by kernel_rfl) (exB:=λj=>j==1) (R:=λ_ r=>r= .own 1) (λ_=>rfl)
  (λa=>by simp[dlP.ca,dlP.H0,belL,AV.bel,belH,Ai,AT,AObj.nms,domB,hget]) (λa p hp=> ?_) (λa r h=>by subst h;exact LeV.refl _) ?_
 rotate_left
 intro a Q;simp only[Tryz.f104,dlP.ca,dlP.H0,dlP.H1];simp(disch:=omega)only[ZA,simprocAttr,rch,IdxW.q,IdxW.ar,IdxW.fv,C4];simp(disch:=omega)only[ZA,simprocAttr,spt_t];rcases GR (CR a.2) a.1 0 with ⟨Z,O⟩|⟨i0,b0,Z,O,e3⟩
 .rw[O,Af rfl];refine⟨[],[(1,some 0)],⟨[(4,.own 1)],[(1,(true,.arr 137 3 (a.1.map Ad.c)))],2⟩,?_,by simp[Ac.good,belT,belH,Ai,AV.bel],by simp,?_⟩
  .simp only[subP];simp(disch:=omega)only[ZA,simprocAttr]
  .simp(disch:=omega)only[ZA,simprocAttr]
   have:remP a.2 a.1=a.1:=by
    rw[remP,Mz];intro b hb
    have:=J3.1 Z b hb
    simpa using this
   rw[this]
 .rw[CM] at O;rw[O,Ab (by omega)];have aa:=(Ba.1 e3).1;rw[Am (by omega) (by omega)];obtain⟨l,hl⟩: ∃l,l=a.1:=⟨_,rfl⟩;obtain⟨t,ht⟩: ∃t,t=a.2:=⟨_,rfl⟩;simp only[<-hl,<-ht] at Z O e3 aa Q⊢;refine Au.old ⟨{j:Nat//j<=l.length},λj=>⟨[(6,.im (.int .i64 j.1)),(5,.im (.int .i64 (remP t (l.take j.1)).length)),(0,.own 0),(1,.im (.fn 106 [] [.ref (sptC t)]))],[(0,(true,.arr 137 3 ((remP t (l.take j.1)++l.drop (remP t (l.take j.1)).length).map Ad.c)))],2⟩,λj=>l.length - j.1,λj=>⟨by simp[Ac.good,belT,belH,Ai,AV.bel],by simp⟩,⟨⟨i0+1,by omega⟩,?_⟩,λj=> ?_⟩
  .have h1:=rem_first Z O e3;simp(disch:=omega)only[ZA,simprocAttr,sub,h1,Bb];rw[show min i0 l.length=i0 by omega,Gc];exact⟨⟨by omega,rfl⟩,rfl⟩
  obtain⟨j,hj⟩:=j;obtain⟨kp,hkp⟩: ∃kp,kp=remP t (l.take j):=⟨_,rfl⟩;have ac:kp.length<=j:=by
   have:=rem_len t (l.take j)
   rw[Bb] at this;rw[hkp];omega
  have af:(kp++l.drop kp.length).length=l.length:=by simp;omega
  simp only[<-hkp];simp(disch:=omega)only[ZA,simprocAttr,rch,wo1.q,wo1.fv,sub,Aq,af,spt_t];intro _;refine⟨λG=>⟨G,G,λb hb=> ?_⟩,λG=> ?_⟩
  .have ad:l[j]? =some b:=by
    rw[C8 ac,Eg,show kp.length+(j - kp.length)=j by omega] at hb;exact hb
   have z:=NW t ad;rw[<-hkp] at z;refine⟨λhw=>⟨by omega,by omega,λc _=>⟨⟨j+1,by omega⟩,by simp only;omega,?_⟩⟩,λhw=>⟨⟨j+1,by omega⟩,by simp only;omega,?_⟩⟩
   .rw[Af hw] at z;simp only[z,B5,Bs,D0];refine⟨⟨by rw[Am (by omega) (by omega)];omega,by rw[Am (by omega) (by omega)];omega⟩,?_⟩;have h1:(kp++l.drop kp.length).set kp.length b=kp++[b]++l.drop (kp.length+1):=by
     obtain⟨c,hc⟩: ∃c,l[kp.length]? =some c:=⟨_,A8 (by omega)⟩;rw[Cw hc,Mx _ _ (Ar _),D3,J5,DA];rfl
    rw[<-h1,Fz];rfl
   .rw[Ab hw,BJ] at z;simp only[z];exact⟨⟨by rw[Am (by omega) (by omega)];omega,trivial⟩,trivial⟩
  .refine⟨by omega,false,?_⟩;have ab:j=l.length:=by omega
   subst ab;rw[Dh] at hkp;simp(disch:=omega)only[ZA,simprocAttr];have hA:List.take kp.length ((kp++l.drop kp.length).map Ad.c)=kp.map Ad.c:=by
    rw[<-List.map_take,R7]
   rw[hA];refine⟨by simp only[B5,Dz];omega,true,?_⟩;simp(disch:=omega)only[ZA,simprocAttr,C4];refine⟨[],[(1,some 2)],⟨[(4,.own 1)],[(1,(true,.arr 137 3 (kp.map Ad.c)))],2⟩,?_,by simp[Ac.good,belT,belH,Ai,AV.bel],by simp,?_⟩
   .simp only[subP];simp(disch:=omega)only[ZA,simprocAttr];rw[show ((kp.length:Int) - 0).toNat=(kp.map Ad.c).length by simp,DA,R7]
   .simp(disch:=omega)only[ZA,simprocAttr,hkp]
 simp[dlP.H1] at hp;subst hp;exact .inr ⟨by omega,by omega,rfl,rfl⟩
def dlP.H0_dom(a:List Ad×List Aa)(j:Nat):domB (dlP.H0 a) j=true↔j<1:=by
 simp only[domB,dlP.H0,hget];by_cases h0:j=0
 .subst h0;simp
 .have z:(0==j)=false:=by simp;omega
  simp[z];omega
def woA.fv(a:Asm×(List Aa)):Asm:=(λa l=>⟨remP l a.Tiles⟩) (a.1) (a.2)
def woA.row:Row:=vKF (b2 (qR Asm.d_le) (qS Aa.d_le Aa.c_n)) (rA Asm.d_le) (λa=>a.1.Tiles.length<=1000000) woA.fv
def woA.q:=vKFq (R:=woA.row) rfl
def woA.ok:Ak Tryz.prog 54 woA.row:=by
 refine vwF (tC clonC.ok (tC dlP.ok tN)) Tryz.func54 rfl (by kernel_rfl) ?_;intro a z;simp only[Tryz.f54];simp(disch:=omega)only[ZA,simprocAttr,woA.fv];refine orow.os a.1.Tiles [] z (λj=>by simp[domB,hget]) rfl rfl ?_ ?_
 .simp(disch:=omega)only[ZA,simprocAttr,clonC.ca,Bu]
 simp(disch:=omega)only[ZA,simprocAttr,clonC.H1];left;refine orow.os (a.1.Tiles,a.2) [3] z (λj=>dlP.H0_dom _ j) rfl rfl ?_ ?_
 .simp(disch:=omega)only[ZA,simprocAttr,ORC,dlP.ca,dlP.H0,sptC,B8]
 simp(disch:=omega)only[ZA,simprocAttr,Asm.d,ORC,D.sc,scL,decD,dlP.H1]
def CD(l:List Opt)(ins:List Int):Nat->List Int
 |0=>[]
 |i+1=>CD l ins i++[ouM l ins i ((l[i]?.map Opt.At).getD ⟨0,0⟩) 4]
def FO(l:List Opt)(ins:List Int): ∀n,(CD l ins n).length=n
 |0=>rfl
 |n+1=>by simp only[CD,B5,FO l ins n,R5]
def NR(l:List Opt)(ins:List Int): ∀(n i:Nat),i<n->(CD l ins n)[i]? =some (ouM l ins i ((l[i]?.map Opt.At).getD ⟨0,0⟩) 4)
 |n+1,i,h=>by
  simp only[CD];by_cases c:i=n
  .subst c;rw[C8 (by rw[FO];omega),FO];simp
  .rw[Ci (by rw[FO];omega)];exact NR l ins n i (by omega)
def outS_.fv(a:(List Opt)×(List Int)):List Int:=(λl ins=>CD l ins l.length) (a.1) (a.2)
def outS_.row:Row:=vK (b2 (qS Opt.d_le Opt.c_n) (qS BB Bm)) (rS BB Bm) (λa=>(a.1.map Opt.At).Nodup/\(∀o∈a.1,CE o.At)/\a.2.length=a.1.length/\a.1.length<=500) outS_.fv
def outS_.q:=vKq (R:=outS_.row) rfl
def outS_.ok:Ak Tryz.prog 119 outS_.row:=by
 refine vw (tC l01Step.ok (tC Opposite_.ok tN)) Tryz.func119 rfl (by kernel_rfl) ?_;intro a aa;simp only[Tryz.f119];simp(disch:=omega)only[ZA,simprocAttr,outS_.fv];obtain⟨l,ins⟩:=a;obtain⟨h1,h2,h3,h4⟩:=aa;simp only at h1 h2 h3 h4⊢;refine Au.ren ⟨{i:Nat//i<=l.length},λi=>⟨[(6,.im (.int .i64 i.1)),(5,.own 2),(0,.im (.sl false 3 (l.map Opt.c))),(1,.im (.sl false 1 (ins.map intC)))],[(2,(true,.arr 2 1 ((CD l ins i.1).map intC)))],3⟩,λi=>l.length - i.1,λi=>⟨by simp[Ac.good,belT,belH,Ai,AV.bel],by simp⟩,⟨⟨0,Bj _⟩,[(2,some 1)],?_⟩,λi=> ?_⟩
 .simp only[subP];simp(disch:=omega)only[ZA,simprocAttr,CD]
  try simp
 obtain⟨i,hi⟩:=i;simp(disch:=omega)only[ZA,simprocAttr,Aq];intro _;refine⟨λz=> ?_,λz=> ?_⟩;rotate_left
 .obtain rfl:i=l.length:=by omega
  rfl
 obtain⟨o,ho⟩: ∃o,l[i]? =some o:=⟨_,A8 z⟩;have ac:=h2 o (Ax ho);refine Au.old ⟨{d:Nat//d<=4},λd=>⟨[(8,.im (.int .i64 d.1)),(7,.im (.int .i64 (ouM l ins i o.At d.1))),(6,.im (.int .i64 i)),(5,.own 2),(0,.im (.sl false 3 (l.map Opt.c))),(1,.im (.sl false 1 (ins.map intC)))],[(2,(true,.arr 2 1 ((CD l ins i).map intC)))],3⟩,λd=>4 - d.1,λd=>⟨by simp[Ac.good,belT,belH,Ai,AV.bel],by simp⟩,⟨⟨0,Bj _⟩,by simp(disch:=omega)only[ZA,simprocAttr,sub,ouM]⟩,λd=> ?_⟩;obtain⟨d,hd⟩:=d;simp(disch:=omega)only[ZA,simprocAttr,l01Step.q,l01Step.fv,Aq];refine⟨λab=> ?_,λab=> ?_⟩;rotate_left
 .obtain rfl:d=4:=by omega
  refine⟨by simp[OneR,allD,D.one],by rw[FO];omega,⟨i+1,by omega⟩,[(2,some 4)],by simp only;omega,?_⟩;simp only[subP];simp(disch:=omega)only[ZA,simprocAttr];refine⟨by rw[Am (by omega) (by omega)];omega,?_⟩;simp[CD,ho,intC]
 refine⟨z,λx hx=> ?_⟩;obtain rfl:o=x:=Al (ho.symm.trans hx);refine⟨⟨ac,by omega⟩,?_⟩;have ah:=ouM_b l ins i o.At d;have O:d<4:=by omega
 have ai:=JY O;refine Au.old ⟨{k:Nat//i+1<=k/\k<=l.length},λk=>⟨[(10,.im (.int .i64 k.1)),(9,.ptr 3 0),(8,.im (.int .i64 d)),(7,.im (.int .i64 (ouM l ins i o.At d+bitN (ouBn l ins i o.At d k.1) d))),(6,.im (.int .i64 i)),(5,.own 2),(0,.im (.sl false 3 (l.map Opt.c))),(1,.im (.sl false 1 (ins.map intC)))],[(3,(true,.cells 96 ((Aa.c (AD o.At d)).map .im))),(2,(true,.arr 2 1 ((CD l ins i).map intC)))],4⟩,λk=>l.length - k.1,λk=>⟨by simp[Ac.good,belT,belH,Ai,AV.bel,belL,Aa.c],by simp⟩,⟨⟨i+1,by omega⟩,?_⟩,λk=> ?_⟩
 .simp(disch:=omega)only[ZA,simprocAttr,sub,ouBn_low (Ar _),bitN];exact⟨by rw[Am (by omega) (by omega)];omega,by simp⟩
 obtain⟨k,af,ag⟩:=k;simp(disch:=omega)only[ZA,simprocAttr,Opposite_.q,Opposite_.fv,sub,Aq];intro _;have G:k<l.length->IntKind.i64.wrap ((k:Int)+1)=((k+1:Nat):Int):=λh=>by rw[Am (by omega) (by omega)];omega
 have ad:=bitN_b (ouBn l ins i o.At d k) d;have Z:ouC l ins i o.At d k≠true->ouM l ins i o.At d+bitN (ouBn l ins i o.At d k) d=ouM l ins i o.At d+bitN (ouBn l ins i o.At d (k+1)) d:=λh=>by
  rw[NU h1,Ab h,Vy]
 refine⟨λQ=>⟨Q,λy hy=>⟨λc1=>⟨by omega,λv hv=>⟨by omega,by omega,λc2=>⟨⟨k+1,by omega⟩,by simp only;omega,G Q,?_⟩,λc2=>⟨⟨k+1,by omega⟩,by simp only;omega,G Q,?_⟩⟩⟩,λc1=>⟨⟨k+1,by omega⟩,by simp only;omega,G Q,?_⟩⟩⟩,λQ=>⟨⟨d+1,by omega⟩,by simp only;omega,by rw[Am (by omega) (by omega)];simp only;omega,?_⟩⟩
 .rw[GF] at c1;have hc:ouC l ins i o.At d k=true:=DH.2 ⟨by omega,by rw[hy,Bw,c1],by rw[hv,Ao];simp only[hasI,AP];exact c2⟩;simp only;rw[Iv O,NU h1,Af hc,Am (by omega) (by omega),Int.add_assoc]
 .refine Z λhc=>c2 ?_
  have:=(DH.1 hc).2.2
  rw[hv,Ao] at this;simp only[hasI,AP] at this;exact this
 .refine Z λhc=>c1 ?_
  have:=(DH.1 hc).2.1
  rw[hy,Bw] at this;rw[GF];exact Al this
 .obtain rfl:k=l.length:=by omega
  rfl
def keep0(p:Aa)(m:Int)(x:Ad):(!(x.At.X==p.X && x.At.Y==p.Y))=BT p m 0 x:=by
 simp only[BT];rw[HC];have h:=GF (p:=x.At) (q:=p);simp only[EX,AP,ne_eq];rw[<-h];simp[PA]
def witS_.fv(a:Asm×Aa×Int):Asm:=(witA) (a.1) (a.2.1) (a.2.2)
def witS_.row:Row:=vK (b3 (qP 1 Asm.d_le) (qR Aa.d_le) qI) (rA Asm.d_le) (λa=>CE a.2.1/\0<=a.2.2/\a.2.2<=1000000/\a.1.Tiles.length<=1000000) witS_.fv
def witS_.q:=vKq (R:=witS_.row) rfl
def witS_.ok:Ak Tryz.prog 121 witS_.row:=by
 refine vw (tC l01Step.ok tN) Tryz.func121 rfl (by kernel_rfl) ?_;intro a Z;simp only[Tryz.f121];simp(disch:=omega)only[ZA,simprocAttr,witS_.fv];obtain⟨a,p,m⟩:=a;obtain⟨h1,h2,h3,h4⟩:=Z;simp only at h1 h2 h3 h4⊢;refine Au.ren ⟨{i:Nat//i<=a.Tiles.length},λi=>⟨[(8,.im (.int .i64 i.1)),(7,.ptr 3 0),(6,.ptr 2 0),(4,.ptr 1 0),(0,.ptr 0 0),(2,.im (.int .i64 m))],[(4,(true,.arr 137 3 (((a.Tiles.take i.1).filter (BT p m 4)).map Ad.c))),(3,(true,.cells 39 [.own 4])),(2,(true,.cells 39 [.im (.sl true 0 [])])),(1,(true,.cells 96 [.im (.int .i64 p.X),.im (.int .i64 p.Y)])),(0,(false,.view (Asm.c a)))],5⟩,λi=>a.Tiles.length - i.1,λi=>⟨by simp[Ac.good,belT,belH,Ai,AV.bel,belL],by simp⟩,⟨⟨0,Bj _⟩,[(4,none)],?_⟩,λi=> ?_⟩
 .simp only[subP];simp(disch:=omega)only[ZA,simprocAttr,AC,Vf]
  try simp
 obtain⟨i,hi⟩:=i;simp(disch:=omega)only[ZA,simprocAttr,Asm.d,Aq];intro _;refine⟨λz=>⟨z,λx hx=> ?_⟩,λz=> ?_⟩;rotate_left
 .rw[BX (by omega)];rfl
 refine Au.old ⟨{d:Nat//d<=4},λd=>⟨[(10,.im (.int .i64 d.1)),(9,.im (.bool (BT p m d.1 x))),(8,.im (.int .i64 i)),(7,.ptr 3 0),(6,.ptr 2 0),(4,.ptr 1 0),(0,.ptr 0 0),(2,.im (.int .i64 m))],[(4,(true,.arr 137 3 (((a.Tiles.take i).filter (BT p m 4)).map Ad.c))),(3,(true,.cells 39 [.own 4])),(2,(true,.cells 39 [.im (.sl true 0 [])])),(1,(true,.cells 96 [.im (.int .i64 p.X),.im (.int .i64 p.Y)])),(0,(false,.view (Asm.c a)))],5⟩,λd=>4 - d.1,λd=>⟨by simp[Ac.good,belT,belH,Ai,AV.bel,belL],by simp⟩,⟨⟨0,Bj _⟩,?_⟩,λd=> ?_⟩
 .simp(disch:=omega)only[ZA,simprocAttr,sub,keep0 p m x]
  try simp
 obtain⟨d,hd⟩:=d;simp(disch:=omega)only[ZA,simprocAttr,l01Step.q,l01Step.fv,sub,Aq];have G:IntKind.i64.wrap ((d:Int)+1)=((d+1:Nat):Int):=by rw[Am (by omega) (by omega)];omega
 simp only[<-has_eq];refine⟨λaa=>⟨λc1=>⟨z,λy hy=>⟨⟨h1,by omega⟩,λO=>⟨⟨d+1,by omega⟩,by simp only;omega,G,?_⟩,λO=>⟨⟨d+1,by omega⟩,by simp only;omega,G,?_⟩⟩⟩,λc1=>⟨⟨d+1,by omega⟩,by simp only;omega,G,?_⟩⟩,λaa=> ?_⟩
 .obtain rfl:x=y:=Al (hx.symm.trans hy);rw[GF] at O;simp[BT,c1,O]
 .obtain rfl:x=y:=Al (hx.symm.trans hy);rw[GF] at O;simp[BT,c1,O]
 .rw[Fw] at c1;simp[BT,c1]
 .obtain rfl:d=4:=by omega
  have ab:((a.Tiles.take i).filter (BT p m 4)).length<=a.Tiles.length:=BK (R4 _ _) (by simp;omega);have Q:IntKind.i64.wrap ((i:Int)+1)=((i+1:Nat):Int):=by rw[Am (by omega) (by omega)];omega
  refine⟨λc1=>⟨z,λy hy=>⟨by simp[OneR,allD,D.one],by omega,⟨i+1,by omega⟩,[(4,some 6)],by simp only;omega,?_⟩⟩,λc1=>⟨⟨i+1,by omega⟩,[(4,some 4)],by simp only;omega,?_⟩⟩
  .obtain rfl:x=y:=Al (hx.symm.trans hy);simp only[subP];simp(disch:=omega)only[ZA,simprocAttr,AC];refine⟨Q,?_⟩;rw[Fq hx,PD,UW c1];simp[Ad.c]
  .simp only[subP];simp(disch:=omega)only[ZA,simprocAttr,AC];refine⟨Q,?_⟩;rw[Fq hx,PD,Mv c1];simp
def play_of{s:Ah}: ∀(l:List Opt) (b:Asm) (i:Nat),EE s b l->Bq s b l i=(Aw b l,0,0)
 |[],_,_,_=>rfl
 |o::r,b,i,h=>by
  have h0:=h 0 o rfl;simp only[Hm,Aw] at h0;simp only[Bq];rw[Ab (by rw[h0.1];simp),Ab (by omega),play_of r _ (i+1) λk o' z=>h (k+1) o' z];rfl
def fltK:Option (Int×Opt)->Int×Aa
 |none=>(0,⟨0,0⟩)
 |some (k,o)=>(k,o.At)
def Iu{A:Type}{g:Nat->Option A}{n i:Nat}{r:A}(G:i<n)(h:fsF g (n - i) i=fsF g n 0)(z:g i=some r):fsF g n 0=some r:=by
 rw[<-h,show n - i=(n - i - 1)+1 by omega];simp only[fsF,z,Vu]
def NY{A:Type}{g:Nat->Option A}{n i:Nat}(G:i<n)(h:fsF g (n - i) i=fsF g n 0)(z:g i=none):fsF g (n - (i+1)) (i+1)=fsF g n 0:=by
 rw[<-h,show n - i=(n - (i+1))+1 by omega];simp only[fsF,z,LC]
def fsF_end{A:Type}{g:Nat->Option A}{n:Nat}(h:fsF g (n - n) n=fsF g n 0):fsF g n 0=none:=by
 rw[<-h,D3];rfl
def putA_le(b:Asm)(p:Aa)(t:Int):(putA b p t).Tiles.length<=b.Tiles.length+1:=by
 rw[IB];exact RA (by rw[(Mn ⟨p,t⟩ b.Tiles).length_eq,Bs])
def K2{s:Ah}: ∀(l:List Opt) (b:Asm),b.Tiles.length<=500->EE s b l->(Aw b l).Tiles.length<=500
 |[],_,h,_=>h
 |o::r,b,h,hp=>by
  have h0:=(hp 0 o rfl).2;simp only[Hm,Aw] at h0;have G:=putA_le b o.At o.Tile;exact K2 r _ (by omega) λk o' z=>hp (k+1) o' z
def fltS_.fv(a:Ah×(List Opt)):Int×Aa:=(λs l=>fltK (fltS s l)) (a.1) (a.2)
def fltS_.row:Row:=vK (b2 (qP 4 Ah.d_le) (qS Opt.d_le Opt.c_n)) (r2 rI (rA Aa.d_le)) (λa=>seqP a.1 a.2/\a.1.Seed.Tiles.length<=500) fltS_.fv
def fltS_.q:=vKq (R:=fltS_.row) rfl
def fltS_.ok:Ak Tryz.prog 65 fltS_.row:=by
 refine vw (tC l10Inputs.ok (tC outS_.ok (tC l08Play.ok (tC witS_.ok (tC atQ_.ok (tC opsS_.ok tN)))))) Tryz.func65 rfl (by kernel_rfl) ?_;intro a aa;simp only[Tryz.f65];simp(disch:=omega)only[ZA,simprocAttr,fltS_.fv,l10Inputs.q,l10Inputs.fv,outS_.q,outS_.fv,l08Play.q,l08Play.fv];obtain⟨s,l⟩:=a;simp only at aa⊢;obtain⟨⟨q1,q2,q3,q4,q5,q6⟩,q7⟩:=aa;have ai:=Nn q5;have ac:=K2 l s.Seed q7 q5;have af: ∀o∈l,CE o.At:=λo G=>by
  obtain⟨k,hk⟩:=Fa.1 G;exact (Dj (q5 k o hk).1).2.1
 have am:Bq s s.Seed l 0=(Aw s.Seed l,0,0):=play_of l s.Seed 0 q5;refine⟨⟨q1,q2,q3,q4,q5,q6⟩,⟨ai,af,G7 ..,q6⟩,⟨q1,q2,q3,q4⟩,?_⟩;rw[am];simp only;have O:BR s.Set (Aw s.Seed l):=by
  have:=EG q3 q2 q5 l.length (Ar _)
  rwa [Dh] at this
 obtain⟨e,he⟩: ∃e,e=Aw s.Seed l:=⟨_,rfl⟩;obtain⟨ins,hins⟩: ∃ins,ins=insS s s.Seed l:=⟨_,rfl⟩;obtain⟨Q,hsms⟩: ∃Q,Q=smsS s s.Seed l:=⟨_,rfl⟩;rw[<-he] at O ac;have ao:Q.length=l.length:=by rw[hsms,G8]
 have ab: ∀i o,l[i]? =some o->gfS s l i=fltO s Q o i (decide ((atU s (atA (witA e o.At (ouM l ins i o.At 4))) o.At s.Set.Tiles.length).length≠1)):=λi o G=>by
  simp only[gfS,G,Ce,<-he,<-hins,<-hsms]
 have ag:fltS s l=(fsF (gfS s l) l.length 0).or (endO (Bd s e)):=by rw[he];rfl
 rw[ag];simp only[<-hins,<-hsms,<-he];refine Au.old ⟨{i:Nat//i<=l.length/\fsF (gfS s l) (l.length - i) i=fsF (gfS s l) l.length 0},λi=>⟨[(12,.im (.int .i64 i.1)),(9,.ptr 2 0),(8,.im (.sl false 1 ((CD l ins l.length).map intC))),(7,.im (.sl false 1 (Q.map intC))),(4,.im (.int .i64 0)),(5,.ptr 1 0),(0,.ptr 0 0),(1,.im (.sl false 3 (l.map Opt.c)))],[(2,(true,.cells 39 [.im (.sl false 3 (e.Tiles.map Ad.c))])),(1,(true,.cells 96 [.im (.int .i64 0),.im (.int .i64 0)])),(0,(false,.view (Ah.c s)))],3⟩,λi=>l.length - i.1,λi=>⟨by simp[Ac.good,belT,belH,Ai,AV.bel,belL],by simp⟩,⟨⟨0,Bj _,rfl⟩,by simp(disch:=omega)only[ZA,simprocAttr,sub]⟩,λi=> ?_⟩;obtain⟨i,hi,Z⟩:=i;simp(disch:=omega)only[ZA,simprocAttr,Asm.d,witS_.q,witS_.fv,atQ_.q,atQ_.fv,opsS_.q,opsS_.fv,sub,Aq];intro _;refine⟨λz=>⟨by omega,λv hv=>⟨λc1=>⟨z,λo G=> ?_⟩,λc1=>⟨z,λo G=>⟨by rw[FO];exact z,λm hm=> ?_⟩⟩⟩⟩,λz=> ?_⟩
 .have hg:gfS s l i=some (1,o):=by
   rw[ab i o G];simp only[fltO,hv,Ao];rw[Af c1]
  rw[Iu z Z hg];rfl
 .rw[NR l ins l.length i z,G] at hm;obtain rfl:=Al hm;simp only[Bw,Ao];have ah:=ouM_b l ins i o.At 4;have ad:=af o (Ax G);have an:=wit_in O o.At (ouM l ins i o.At 4);refine⟨⟨ad,ah.1,by omega,by omega⟩,z,λo2 aj=> ?_⟩;obtain rfl:o=o2:=Al (G.symm.trans aj);refine⟨⟨q1,an,ad,by omega⟩,λ_=>⟨λc2=>⟨z,λo3 ak=> ?_⟩,λc2=>⟨⟨i+1,by omega,?_⟩,by simp only;omega,by rw[Am (by omega) (by omega)];simp only;omega⟩⟩⟩
  .obtain rfl:o=o3:=Al (G.symm.trans ak);rw[atU_S _ _ e] at c2;have hg:gfS s l i=some (2,o):=by
    rw[ab i o G];simp only[fltO,hv,Ao];rw[Ab c1,Af (by simp only[AP];omega)]
   rw[Iu z Z hg];rfl
  .rw[atU_S _ _ e] at c2;refine NY z Z ?_;rw[ab i o G];simp only[fltO,hv,Ao];rw[Ab c1,Ab (by simp only[AP];omega)]
 .obtain rfl:i=l.length:=by omega
  rw[fsF_end Z,LC];refine⟨⟨q1,O,ac,by omega⟩,λ_=>⟨λc=>⟨c,λo G=> ?_⟩,λc=> ?_⟩⟩
  .cases hL:Bd s e with
   |nil=>rw[hL] at G;cases G
   |cons x r=>
    rw[hL] at G;obtain rfl:x=o:=by simpa using G
    rfl
  .have:Bd s e=[]:=Gy.1 (by omega)
   rw[this];rfl
def le_ifc{t:TypeId}{a b:D}(h:Le a b):Le (.ifc t a) (.ifc t b):=by
 intro ok hp v G;obtain⟨x,rfl,z⟩:=G;exact⟨x,rfl,h _ _ _ z⟩
def flE:Option (Int×Opt)->D
 |none=> .nili
 |some (k,o)=>if k=1 then .ifc 294 (.agg (Opt.c o)) else if k=2 then .ifc 296 (.agg (Opt.c o)) else .ifc 297 (.agg (Opt.c o))
def flD:D->Option (Option (Int×Opt))
 | .nili=>some none
 | .ifc t (.agg ds)=>(Opt.d ds).bind λo=>if t=294 then some (some (1,o)) else if t=296 then some (some (2,o)) else if t=297 then some (some (3,o)) else none
 |_=>none
def flD_le: ∀d b,flD d=some b->Le d (flE b):=by
 intro d b h;unfold flD at h;split at h
 .obtain rfl:=Al h;exact Le.refl _
 .simp only[Cb] at h;obtain⟨o,G,z⟩:=h;split at z
  .rename_i c;obtain rfl:=Al z;rw[c];exact le_ifc (GI (Opt.d_le _ _ G))
  .split at z
   .rename_i c;obtain rfl:=Al z;rw[c];exact le_ifc (GI (Opt.d_le _ _ G))
   .split at z
    .rename_i c;obtain rfl:=Al z;rw[c];exact le_ifc (GI (Opt.d_le _ _ G))
    .cases z
 .cases h
def outI_.fv(a:Pld×Int):Int:=(λx i=>ouM x.Seq x.Inputs i.toNat ((x.Seq[i.toNat]?.map Opt.At).getD ⟨0,0⟩) 4) (a.1) (a.2)
def outI_.row:Row:=vK (b2 (qP 8 Pld.d_le) qI) rI (λa=>(a.1.Seq.map Opt.At).Nodup/\(∀o∈a.1.Seq,CE o.At)/\a.1.Inputs.length=a.1.Seq.length/\a.1.Seq.length<=500/\0<=a.2/\a.2<a.1.Seq.length) outI_.fv
def outI_.q:=vKq (R:=outI_.row) rfl
def outI_.ok:Ak Tryz.prog 251 outI_.row:=by
 refine vw (tC step_.ok (tC idxAt_.ok (tC opposite_.ok (tC has_.ok tN)))) Tryz.func251 rfl (by kernel_rfl) ?_;intro a Z;simp only[Tryz.f251];simp(disch:=omega)only[ZZ,simprocAttr,outI_.fv];obtain⟨x,i⟩:=a;obtain⟨h1,h2,h3,h4,h5,h6⟩:=Z;simp only at h1 h2 h3 h4 h5 h6⊢;obtain⟨o,ho⟩: ∃o,x.Seq[i.toNat]? =some o:=⟨_,A8 (by omega)⟩;have ac:=h2 o (Ax ho);obtain⟨n,hn⟩: ∃n:Nat,i=n:=⟨i.toNat,by omega⟩;subst hn;rw[AH] at ho⊢;simp only[ho,Bw,Ao];refine Au.old ⟨{d:Nat//d<=4},λd=>⟨[(8,.im (.int .i64 d.1)),(5,.im (.int .i64 (ouM x.Seq x.Inputs n o.At d.1))),(0,.ptr 0 0),(1,.im (.int .i64 n))],[(0,(false,.view (Pld.c x)))],1⟩,λd=>4 - d.1,λd=>⟨by simp[Ac.good,belT,belH,Ai,AV.bel],by simp⟩,⟨⟨0,Bj _⟩,by simp(disch:=omega)only[ZZ,simprocAttr,sub,ouM]⟩,λd=> ?_⟩;obtain⟨d,hd⟩:=d;simp(disch:=omega)only[ZZ,simprocAttr,step_.q,step_.fv,step_.re,idxAt_.q,idxAt_.fv,opposite_.q,opposite_.fv,has_.q,has_.fv,sub,Aq];have z:d<4->IntKind.i64.wrap ((d:Int)+1)=((d+1:Nat):Int):=λh=>by rw[Am (by omega) (by omega)];omega
 have G:=ouB_idx (ins:=x.Inputs) (i:=n) (p:=o.At) (d:=d) h1;have Q: ¬ouB x.Seq x.Inputs n o.At d=true->ouM x.Seq x.Inputs n o.At d=ouM x.Seq x.Inputs n o.At (d+1):=λh=>by
  rw[Fw] at h;simp only[ouM,h,bitN];simp
 have O:=ouM_b x.Seq x.Inputs n o.At d;refine⟨λaa=>⟨by omega,λy hy=> ?_⟩,λaa=>by rw[show d=4 by omega]⟩;obtain rfl:o=y:=Al (ho.symm.trans hy);refine⟨⟨ac,by omega⟩,λc1=> ?_,λc1=>⟨⟨d+1,by omega⟩,by simp only;omega,z (by omega),Q λh=>c1 (G.1 h).1⟩⟩;have ad:(idxO x.Seq (AD o.At d)).toNat<x.Seq.length:=by
  have h3:=idxO_at (l:=x.Seq) (q:=AD o.At d) rfl (by omega);cases hk:x.Seq[(idxO x.Seq (AD o.At d)).toNat]? with
  |none=>rw[hk] at h3;cases h3
  |some y=>exact (Ba.1 hk).1
 refine⟨by omega,by omega,λv hv=>⟨by omega,by omega,λc2=>⟨⟨d+1,by omega⟩,by simp only;omega,z (by omega),?_⟩,λc2=>⟨⟨d+1,by omega⟩,by simp only;omega,z (by omega),Q λh=>c2 ?_⟩⟩⟩
 .have ab:ouB x.Seq x.Inputs n o.At d=true:=G.2 ⟨c1,by rw[hv,Ao];exact c2⟩;rw[Iv (by omega),or_bit (by omega) O.1 O.2];simp only[ouM,ab,bitN,AQ]
 .have:=(G.1 h).2
  rw[hv,Ao] at this;exact this
def anoI(x:Pld)(i:Nat):Bool:=(x.Seq[i]?.map λo=>anoK x.Sys (atA (witA x.End o.At (ouM x.Seq x.Inputs i o.At 4))) o.At o.Tile x.Sys.Set.Tiles.length).getD false
def pldOk(x:Pld):Prop:=(x.Seq.map Opt.At).Nodup/\(∀o∈x.Seq,CE o.At)/\x.Inputs.length=x.Seq.length/\x.Seq.length<=500/\setP x.Sys.Set/\BR x.Sys.Set x.End/\x.End.Tiles.length<=1000000/\x.Sys.Set.Tiles.length<=160
def anoI_.fv(a:Pld×Int):Bool:=(λx i=>anoI x i.toNat) (a.1) (a.2)
def anoI_.row:Row:=vK (b2 (qP 8 Pld.d_le) qI) rB (λa=>pldOk a.1/\0<=a.2/\a.2<a.1.Seq.length) anoI_.fv
def anoI_.q:=vKq (R:=anoI_.row) rfl
def anoI_.ok:Ak Tryz.prog 214 anoI_.row:=by
 refine vw (tC outI_.ok (tC has_.ok (tC step_.ok (tC woA.ok (tC bindA.ok tN))))) Tryz.func214 rfl (by kernel_rfl) ?_;intro a ad;simp only[Tryz.f214];simp(disch:=omega)only[ZZ,simprocAttr,anoI_.fv];obtain⟨x,i⟩:=a;obtain⟨⟨h1,h2,h3,h4,h5,h6,h7,h8⟩,h9,Q⟩:=ad;simp only at h1 h2 h3 h4 h5 h6 h7 h8 h9 Q⊢;obtain⟨n,hn⟩: ∃n:Nat,i=n:=⟨i.toNat,by omega⟩;subst hn;rw[AH];refine⟨h9,Q,λo ho=> ?_⟩;have ac:=h2 o (Ax ho);obtain⟨m,hm⟩: ∃m,m=ouM x.Seq x.Inputs n o.At 4:=⟨_,rfl⟩;have ai:=ouM_b x.Seq x.Inputs n o.At 4;rw[<-hm] at ai;refine Au.ren ⟨{d:Nat//d<=4},λd=>⟨[(20,.im (.int .i64 d.1)),(6,.own 3),(5,.ptr 1 0),(0,.ptr 0 0),(1,.im (.int .i64 n))],[(3,(true,.arr 96 2 ((Cu o.At m d.1).map Aa.c))),(1,(true,.cells 108 ((Opt.c o).map .im))),(0,(false,.view (Pld.c x)))],4⟩,λd=>4 - d.1,λd=>⟨by simp[Ac.good,belT,belH,Ai,AV.bel,belL,Opt.c],by simp⟩,⟨⟨0,Bj _⟩,[(3,some 2)],?_⟩,λd=> ?_⟩
 .simp only[subP];simp(disch:=omega)only[ZZ,simprocAttr,AC,Cu]
  try simp
 obtain⟨d,hd⟩:=d;simp(disch:=omega)only[ZZ,simprocAttr,rch,outI_.q,outI_.fv,has_.q,has_.fv,step_.q,step_.fv,step_.re,woA.q,woA.fv,Aq];have Z:d<4->IntKind.i64.wrap ((d:Int)+1)=((d+1:Nat):Int):=λh=>by rw[Am (by omega) (by omega)];omega
 have aj:=NT o.At m d;simp only[ho,Bw,Ao,<-hm];refine⟨λag=>⟨⟨h1,h2,h3,h4,by omega⟩,by omega,λc1=>⟨⟨ac,by omega⟩,by simp[OneR,allD,D.one],by omega,⟨d+1,by omega⟩,[(3,some 5)],by simp only;omega,?_⟩,λc1=>⟨⟨d+1,by omega⟩,[(3,some 3)],by simp only;omega,?_⟩⟩,λag=> ?_⟩
 .simp only[subP];simp(disch:=omega)only[ZA,simprocAttr,AC];refine⟨Z (by omega),?_⟩;simp[Cu,c1,Aa.c]
 .simp only[subP];simp(disch:=omega)only[ZA,simprocAttr,AC];refine⟨Z (by omega),?_⟩;rw[Fw] at c1;simp[Cu,c1]
 obtain rfl:d=4:=by omega
 have af:remP (Cu o.At m 4) x.End.Tiles=(witA x.End o.At m).Tiles:=Bx Asm.Tiles (wit_law x.End o.At m);rw[af];have O:=wit_in h6 o.At m;have aa:anoI x n=anoK x.Sys (atA (witA x.End o.At m)) o.At o.Tile x.Sys.Set.Tiles.length:=by
  simp only[anoI,ho,Bw,Ao,<-hm]
 obtain⟨rest,hrest⟩: ∃r,r=witA x.End o.At m:=⟨_,rfl⟩;rw[aa];simp only[<-hrest] at O⊢;refine⟨h7,λ_=> ?_⟩;refine Au.old ⟨{k:Nat//k<=x.Sys.Set.Tiles.length/\anoK x.Sys (atA rest) o.At o.Tile k=false},λk=>⟨[(49,.im (.int .i64 k.1)),(48,.im (.int .i64 x.Sys.Set.Tiles.length)),(8,.ptr 4 0),(5,.ptr 1 0),(0,.ptr 0 0)],[(4,(true,.cells 39 [.im (.sl false 3 (rest.Tiles.map Ad.c))])),(1,(true,.cells 108 ((Opt.c o).map .im))),(0,(false,.view (Pld.c x)))],5⟩,λk=>x.Sys.Set.Tiles.length - k.1,λk=>⟨by simp[Ac.good,belT,belH,Ai,AV.bel,belL,Opt.c],by simp⟩,⟨⟨0,Bj _,rfl⟩,by simp(disch:=omega)only[ZZ,simprocAttr,sub]⟩,λk=> ?_⟩;obtain⟨k,hk,G⟩:=k;simp(disch:=omega)only[ZZ,simprocAttr,rch,bindA.q,bindA.ar,bindA.fv,sub,Aq];have ab:k<x.Sys.Set.Tiles.length->IntKind.i64.wrap ((k:Int)+1)=((k+1:Nat):Int):=λh=>by rw[Am (by omega) (by omega)];omega
 have ah:inF x.Sys.Set (atA rest):=λp hp=>EI O p hp
 refine⟨λz=>⟨λc1=>⟨⟨h5,ah,ac,⟨by omega,by omega⟩,O.1⟩,λc2=> ?_,λc2=>⟨⟨k+1,by omega,?_⟩,by simp only;omega,ab z⟩⟩,λc1=>⟨⟨k+1,by omega,?_⟩,by simp only;omega,ab z⟩⟩,λz=> ?_⟩
 .exact (K1.2 ⟨k,z,c1,c2⟩).symm
 .simp only[anoK,G,JC,JB c2,LA]
 .have:decide ((k:Int)≠o.Tile)=false:=JB (by omega)
  simp only[anoK,G,JC,this,CA]
 .rw[<-G,show k=x.Sys.Set.Tiles.length by omega]
def gpI(x:Pld)(i:Nat):Option (Int×Opt):=(x.Seq[i]?).bind λo=>fltO x.Sys x.Strength o i (anoI x i)
def fltP(x:Pld):Option (Int×Opt):=(fsF (gpI x) x.Seq.length 0).or (endO (Bd x.Sys x.End))
def ifcT:isIfc Tryz.prog 238=true:=by kernel_rfl
def con1:isCon Tryz.prog 294=true:=by kernel_rfl
def con2:isCon Tryz.prog 296=true:=by kernel_rfl
def con3:isCon Tryz.prog 297=true:=by kernel_rfl
def mk1:Dl Tryz.prog 294 "loop.example/g01081/impl.kind" =some 333:=by kernel_rfl
def mk2:Dl Tryz.prog 296 "loop.example/g01081/impl.kind" =some 335:=by kernel_rfl
def mk3:Dl Tryz.prog 297 "loop.example/g01081/impl.kind" =some 337:=by kernel_rfl
def ma1:Dl Tryz.prog 294 "loop.example/g01081/impl.at" =some 332:=by kernel_rfl
def ma2:Dl Tryz.prog 296 "loop.example/g01081/impl.at" =some 334:=by kernel_rfl
def ma3:Dl Tryz.prog 297 "loop.example/g01081/impl.at" =some 336:=by kernel_rfl
def k1_.fv(a:Opt):Int:=(λ_=>1) a
def k1_.row:Row:=vK (b1 (qR Opt.d_le)) rI (λa=>True) k1_.fv
def k1_.q:=vKq (R:=k1_.row) rfl
def k1_.ok:Ak Tryz.prog 333 k1_.row:=by
 refine vw tN Tryz.func333 rfl (by kernel_rfl) ?_;intro a z;simp only[Tryz.f333];simp(disch:=omega)only[ZA,simprocAttr,k1_.fv]
 try trivial
def k2_.fv(a:Opt):Int:=(λ_=>2) a
def k2_.row:Row:=vK (b1 (qR Opt.d_le)) rI (λa=>True) k2_.fv
def k2_.q:=vKq (R:=k2_.row) rfl
def k2_.ok:Ak Tryz.prog 335 k2_.row:=by
 refine vw tN Tryz.func335 rfl (by kernel_rfl) ?_;intro a z;simp only[Tryz.f335];simp(disch:=omega)only[ZA,simprocAttr,k2_.fv]
 try trivial
def k3_.fv(a:Opt):Int:=(λ_=>3) a
def k3_.row:Row:=vK (b1 (qR Opt.d_le)) rI (λa=>True) k3_.fv
def k3_.q:=vKq (R:=k3_.row) rfl
def k3_.ok:Ak Tryz.prog 337 k3_.row:=by
 refine vw tN Tryz.func337 rfl (by kernel_rfl) ?_;intro a z;simp only[Tryz.f337];simp(disch:=omega)only[ZA,simprocAttr,k3_.fv]
 try trivial
def p1_.fv(a:Opt):Aa:=(λo=>o.At) a
def p1_.row:Row:=vK (b1 (qR Opt.d_le)) (rA Aa.d_le) (λa=>True) p1_.fv
def p1_.q:=vKq (R:=p1_.row) rfl
def p1_.ok:Ak Tryz.prog 332 p1_.row:=by
 refine vw tN Tryz.func332 rfl (by kernel_rfl) ?_;intro a z;simp only[Tryz.f332];simp(disch:=omega)only[ZA,simprocAttr,p1_.fv]
 try trivial
def p2_.fv(a:Opt):Aa:=(λo=>o.At) a
def p2_.row:Row:=vK (b1 (qR Opt.d_le)) (rA Aa.d_le) (λa=>True) p2_.fv
def p2_.q:=vKq (R:=p2_.row) rfl
def p2_.ok:Ak Tryz.prog 334 p2_.row:=by
 refine vw tN Tryz.func334 rfl (by kernel_rfl) ?_;intro a z;simp only[Tryz.f334];simp(disch:=omega)only[ZA,simprocAttr,p2_.fv]
 try trivial
def p3_.fv(a:Opt):Aa:=(λo=>o.At) a
def p3_.row:Row:=vK (b1 (qR Opt.d_le)) (rA Aa.d_le) (λa=>True) p3_.fv
def p3_.q:=vKq (R:=p3_.row) rfl
def p3_.ok:Ak Tryz.prog 336 p3_.row:=by
 refine vw tN Tryz.func336 rfl (by kernel_rfl) ?_;intro a z;simp only[Tryz.f336];simp(disch:=omega)only[ZA,simprocAttr,p3_.fv]
 try trivial
def flt_.fv(a:Pld):Option (Int×Opt):=(fltP) a
def flt_.row:Row:=vK (b1 (qP 8 Pld.d_le)) (RK.mk (flD) (flE) (flD_le)) (λa=>pldOk a/\a.Strength.length=a.Seq.length/\a.End.Tiles.length<=500/\1<=a.Sys.Temperature) flt_.fv
def flt_.q:=vKq (R:=flt_.row) rfl
def flt_.ok:Ak Tryz.prog 175 flt_.row:=by
 refine vw (tC anoI_.ok (tC newC.ok (tC lisC.ok tN))) Tryz.func175 rfl (by kernel_rfl) ?_;intro a ab;simp only[Tryz.f175];simp(disch:=omega)only[ZZ,simprocAttr,flt_.fv];obtain⟨⟨h1,h2,h3,h4,h5,Z,h7,h8⟩,h9,ac,Q⟩:=ab;intro _;simp only[fltP];refine Au.old ⟨{i:Nat//i<=a.Seq.length/\fsF (gpI a) (a.Seq.length - i) i=fsF (gpI a) a.Seq.length 0},λi=>⟨[(11,.im (.int .i64 i.1)),(10,.im (.int .i64 a.Seq.length)),(9,.im (.sl false 3 (a.Seq.map Opt.c))),(2,.im .nili),(0,.ptr 0 0)],[(0,(false,.view (Pld.c a)))],1⟩,λi=>a.Seq.length - i.1,λi=>⟨by simp[Ac.good,belT,belH,Ai,AV.bel],by simp⟩,⟨⟨0,Bj _,rfl⟩,by simp(disch:=omega)only[ZZ,simprocAttr,sub]⟩,λi=> ?_⟩;obtain⟨i,hi,G⟩:=i;simp(disch:=omega)only[ZZ,simprocAttr,anoI_.q,anoI_.fv,sub,Aq,con1,con2];have ad:i<a.Seq.length->IntKind.i64.wrap ((i:Int)+1)=((i+1:Nat):Int):=λh=>by rw[Am (by omega) (by omega)];omega
 refine⟨λz=>⟨z,λo ho=>⟨by omega,λv hv=>⟨λc1=> ?_,λc1=>⟨⟨⟨h1,h2,h3,h4,h5,Z,h7,h8⟩,z⟩,λc2=> ?_,λc2=>⟨⟨i+1,by omega,?_⟩,by simp only;omega,ad z⟩⟩⟩⟩⟩,λz=> ?_⟩
 .have hg:gpI a i=some (1,o):=by
   simp only[gpI,ho,Ce,fltO,hv,Ao];rw[Af c1]
  rw[Iu z G hg];rfl
 .have hg:gpI a i=some (2,o):=by
   simp only[gpI,ho,Ce,fltO,hv,Ao];rw[Ab c1,Af c2]
  rw[Iu z G hg];rfl
 .refine NY z G ?_;simp only[gpI,ho,Ce,fltO,hv,Ao];rw[Ab c1,Ab c2]
 obtain rfl:i=a.Seq.length:=by omega
 rw[fsF_end G,LC];have af:newC.pre (a.Sys,a.End):=⟨h5,by simp only;omega,λy hy=>⟨Z.2 y hy,Jo (Ow _ none Z.1 y hy).1⟩⟩;have aa:Bf (tlUp a.End.Tiles)=atA a.End:=(RM.of Z.1 λx O=>(Z.2 x O).1).at;have ag:OpOk a.Sys (atA a.End) (EW a.Sys a.End).Op:=by
  have:=op_new (s:=a.Sys) (l:=a.End.Tiles) Q
  rw[aa] at this;simp only[EW,aa];exact this
 obtain⟨g1,g2,g3⟩:=op_lim Q ac h8 ag;refine orow.os (a.Sys,a.End) [] af (λj=>by simp[domB,hget]) rfl rfl ?_ ?_
 .simp(disch:=omega)only[ZA,simprocAttr,newC.ca,Bu,Ah.c,Asm.c]
 simp(disch:=omega)only[ZA,simprocAttr,newC.H1];refine orow.os (EW a.Sys a.End) [5,3,4] g2 (λj=>CO _ j) rfl rfl ?_ ?_
 .simp(disch:=omega)only[ZA,simprocAttr,asmC.ca,cryH,AW,B8,Cn]
  try exact⟨rfl,rfl,rfl,rfl⟩
 simp(disch:=omega)only[ZA,simprocAttr,lisC.r0,g1,Aq,con3];intro _;refine⟨λc=>⟨c,λx O=> ?_⟩,λc=> ?_⟩
 .cases hL:Bd a.Sys a.End with
  |nil=>rw[hL] at O;cases O
  |cons y r=>
   rw[hL] at O;obtain rfl:y=x:=by simpa using O
   rfl
 .have:Bd a.Sys a.End=[]:=Gy.1 (by omega)
  rw[this];rfl
def flt_pld{s:Ah}{l:List Opt}(h:seqP s l):fltP ⟨s,l,Aw s.Seed l,insS s s.Seed l,smsS s s.Seed l⟩=fltS s l:=by
 rw[<-flt_law h];simp only[fltP];rw[Kz l.length 0 (h:=gfI s l) λi _ _=> ?_];simp only[gpI,gfI,anoI];cases l[i]? <;>rfl
def fltO_k{s:Ah}{z:List Int}{o:Opt}{i:Nat}{m:Bool}{q:Int×Opt}(h:fltO s z o i m=some q):q.1=1\/q.1=2:=by
 simp only[fltO] at h;split at h
 .obtain rfl:=Al h;exact .inl rfl
 .split at h
  .obtain rfl:=Al h;exact .inr rfl
  .cases h
def fsF_k{g:Nat->Option (Int×Opt)}(z: ∀i q,g i=some q->q.1=1\/q.1=2): ∀(n k:Nat) (q:Int×Opt),fsF g n k=some q->q.1=1\/q.1=2
 |n+1,k,q,h=>by
  simp only[fsF] at h;cases hk:g k with
  |none=>rw[hk,LC] at h;exact fsF_k z n (k+1) q h
  |some r=>rw[hk,Vu] at h;obtain rfl:=Al h;exact z k _ hk
def fltS_k{s:Ah}{l:List Opt}{q:Int×Opt}(h:fltS s l=some q):q.1=1\/q.1=2\/q.1=3:=by
 simp only[fltS] at h;cases hf:fsF (gfS s l) l.length 0 with
 |some r=>
  rw[hf,Vu] at h;obtain rfl:=Al h
  have:=fsF_k (g:=gfS s l) (λi q hq=>by
   simp only[gfS,Cb] at hq;obtain⟨o,_,z⟩:=hq;exact fltO_k z) _ _ _ hf
  rcases this with h|h
  .exact .inl h
  .exact .inr (.inl h)
 |none=>
  rw[hf,LC] at h;cases he:Bd s (Aw s.Seed l) with
  |nil=>rw[he] at h;cases h
  |cons o r=>rw[he] at h;obtain rfl:=Al h;exact .inr (.inr rfl)
def lfF_no{s:Ah}{l:List Opt}(h:(seqS s l).2.2≠0):lfF s l=(0,⟨0,0⟩,(seqS s l).2.2):=by simp only[lfF];rw[Af h]
def lfF_ok{s:Ah}{l:List Opt}(h:(seqS s l).2.2=0):lfF s l=fltR (fltS s l):=by simp only[lfF];rw[Ab (λc=>c h)]
def pld_ok{s:Ah}{l:List Opt}(c0:(seqS s l).2.2=0):(seqS s l).1=Aw s.Seed l/\seqP s l/\s.Seed.Tiles.length<=500/\1<=s.Temperature/\(Aw s.Seed l).Tiles.length<=500/\pldOk ⟨s,l,Aw s.Seed l,insS s s.Seed l,smsS s s.Seed l⟩:=by
 obtain⟨hE,hp,z⟩:=seqS_ok c0;have hp':=hp;obtain⟨q1,q2,q3,q4,O,q6⟩:=hp';have Z:s.Seed.Tiles.length<=500:=(IZ (DE z).2.2).2;have hT:1<=s.Temperature:=by
  simp only[C7,AE,Av,AP] at z;exact z.2.2.2.1.1
 have Q:=K2 l s.Seed Z O;have G:BR s.Set (Aw s.Seed l):=by
  have:=EG q3 q2 O l.length (Ar _)
  rwa [Dh] at this
 exact⟨hE,hp,Z,hT,Q,Nn O,λo ho=>by
  obtain⟨k,hk⟩:=Fa.1 ho;exact (Dj (O k o hk).1).2.1,G7 ..,q6,q1,G,by simp only;omega,q3⟩
def lfI_.fv(a:Ah×(List Opt)):Int×Aa×Int:=(lfF) (a.1) (a.2)
def lfI_.row:Row:=vK (b2 (qR Ah.d_le) (qS Opt.d_le Opt.c_n)) (r3 rI (rA Aa.d_le) rI) (λa=>GS a.1.Set) lfI_.fv
def lfI_.q:=vKq (R:=lfI_.row) rfl
def lfI_.ok:Ak Tryz.prog 125 lfI_.row:=by
 refine vw (tC play_.ok (tC flt_.ok (tC k1_.ok (tC k2_.ok (tC k3_.ok (tC p1_.ok (tC p2_.ok (tC p3_.ok tN)))))))) Tryz.func125 rfl (by kernel_rfl) ?_;intro a z;simp only[Tryz.f125];simp(disch:=omega)only[ZZ,simprocAttr,lfI_.fv,play_.q,play_.fv,flt_.q,flt_.fv,ifcT];obtain⟨s,l⟩:=a;simp only at z⊢;refine⟨z,?_⟩;by_cases c0:(seqS s l).2.2=0
 case neg=>
  have G:En s l=(none,(seqS s l).2.2):=by simp only[En];rw[Af c0]
  rw[G,Af c0,lfF_no c0]
 have G:En s l=(some ⟨s,l,(seqS s l).1,insS s s.Seed l,smsS s s.Seed l⟩,0):=by
  simp only[En];rw[Ab (λh=>h c0)]
 obtain⟨hE,hp,h5,hT,O,Q⟩:=pld_ok c0;rw[hE] at G;simp only[G];rw[Ab (by simp)];have Z: ∀x:Pld,(kP Pld.d 8 (pkI (plE (some x))))=some x:=λx=>Pld.d_c x
 simp only[Z,Ce,decK];refine⟨⟨Q,G8 ..,O,hT⟩,?_⟩;rw[flt_pld hp,lfF_ok c0];cases hf:fltS s l with
 |none=>
  simp only[flE];simp(disch:=omega)only[ZA,simprocAttr];rfl
 |some q=>
  obtain⟨k,o⟩:=q;rcases fltS_k hf with h|h|h
  all_goals
   simp only at h;subst h;simp only[flE];simp(disch:=omega)only[ZA,simprocAttr,k1_.q,k1_.fv,k2_.q,k2_.fv,k3_.q,k3_.fv,p1_.q,p1_.fv,p2_.q,p2_.fv,p3_.q,p3_.fv,mk1,mk2,mk3,ma1,ma2,ma3];rfl
def Oe{s:Ah}{l:List Int}(hs:s.Set.Tiles.length<=160): ∀(n:Nat) (b:Asm) (d:List Opt),BR s.Set b->(grw s l n b d).2.2=0-> ∃r,(grw s l n b d).1=d++r/\ ∀i,Bq s b r i=((grw s l n b d).2.1,0,0)
 |0,b,d,_,_=>⟨[],by simp[grw],λi=>by simp only[Bq,grw]⟩
 |n+1,b,d,hb,h=>by
  rw[grw] at h⊢;cases ho:nxO s l b d.length with
  |none=>exact⟨[],by simp,λi=>by simp only[Bq]⟩
  |some o=>
   rw[ho] at h;simp only at h⊢;by_cases z:500<=b.Tiles.length
   .rw[Af z] at h;exact absurd h (by decide)
   .rw[Ab z] at h⊢;have hc:=GD hb ho;obtain⟨r,G,O⟩:=Oe hs n _ _ (GH hs hb hc) h;refine⟨o::r,by rw[G,DA];rfl,λi=> ?_⟩;rw[Bq,Ab (by simp[hc]),Ab z];exact O _
def gw_seq{s:Ah}{l:List Int}(h:(gwR s l).2.2=0):seqS s (gwR s l).1=((gwR s l).2.1,0,0):=by
 have Q:=(gw_len s l).1;by_cases c1:C7 s=false
 .simp only[gwR] at h;rw[Af c1] at h;exact absurd h (by decide)
 by_cases z:BU l=false
 .simp only[gwR] at h;rw[Ab c1,Af z] at h;exact absurd h (by decide)
 have e:gwR s l=grw s l 500 s.Seed []:=by simp only[gwR];rw[Ab c1,Ab z]
 rw[e] at h Q⊢;obtain⟨_,Z,_,q4⟩:=sch_pre c1;obtain⟨r,G,O⟩:=Oe q4 500 s.Seed [] Z h;rw[D1] at G;simp only[seqS];rw[Ab c1,Ab (by omega),G];exact O 0
def fndF(s:Ah)(l:List Int):List Opt×Asm×Int:=if (gwR s l).2.2≠0 then ([],⟨[]⟩,(gwR s l).2.2) else if (lfF s (gwR s l).1).2.2=3 then gwR s l else ([],⟨[]⟩,3)
def fndS_.fv(a:Ah×(List Int)):(List Opt)×Asm×Int:=(fndF) (a.1) (a.2)
def fndS_.row:Row:=vK (b2 (qR Ah.d_le) (qS BB Bm)) (r3 (rS Opt.d_le Opt.c_n) (rA Asm.d_le) rI) (λa=>True) fndS_.fv
def fndS_.q:=vKq (R:=fndS_.row) rfl
def fndS_.ok:Ak Tryz.prog 28 fndS_.row:=by
 refine vw (tC GrowS_.ok (tC fltS_.ok tN)) Tryz.func28 rfl (by kernel_rfl) ?_;intro a O;simp only[Tryz.f28];simp(disch:=omega)only[ZA,simprocAttr,Asm.d,fndS_.fv,GrowS_.q,GrowS_.fv,fltS_.q,fltS_.fv];obtain⟨s,l⟩:=a;have hq:=gw_seq (s:=s) (l:=l);obtain⟨w,hw⟩: ∃w,w=gwR s l:=⟨_,rfl⟩;simp only[fndF,<-hw] at hq⊢;by_cases c0:w.2.2=0
 case neg=>rw[Af c0,Af c0]
 have G:(if w.2.2≠0 then ([],⟨[]⟩,w.2.2) else if (lfF s w.1).2.2=3 then w else ([],⟨[]⟩,3))=(if (lfF s w.1).2.2=3 then w else (([]:List Opt),(⟨[]⟩:Asm),3)):=Ab (λh=>h c0);rw[Ab (λh=>h c0),G];have z:(seqS s w.1).2.2=0:=by rw[hq c0]
 obtain⟨_,hp,Z,_⟩:=pld_ok z;refine⟨⟨hp,Z⟩,?_⟩;rw[lfF_ok z];cases hf:fltS s w.1 with
 |none=>
  obtain⟨w0,w1,w2⟩:=w;simp only at c0;subst c0;rfl
 |some q=>
  obtain⟨k,o⟩:=q
  have:=fltS_k hf
  simp only at this;have hk: ¬(fltK (some (k,o))).1=0:=by simp only[fltK];omega
  have Q: ¬(fltR (some (k,o))).2.2=3:=by simp[fltR]
  rw[Af hk,Ab Q]
def islF.fv(a:Ah×(List Opt)):Bool:=(λs l=>decide ((lfF s l).2.2=3)) (a.1) (a.2)
def islF.row:Row:=vKF (b2 (qR Ah.d_le) (qS Opt.d_le Opt.c_n)) rB (λa=>GS a.1.Set) islF.fv
def islF.q:=vKFq (R:=islF.row) rfl
def islF.ok:Ak Tryz.prog 67 islF.row:=by
 refine vwF (tC lfI_.ok tN) Tryz.func67 rfl (by kernel_rfl) ?_;intro a z;simp only[Tryz.f67];simp(disch:=omega)only[ZA,simprocAttr,islF.fv,lfI_.q,lfI_.fv,D.sc,D.scs,decD];exact z
def fndI.H1(a:Ah×List Int):Ag:=grX (fndF a.1 a.2)
def fndI.row:Row:=orow grI.ca (λ_=>[]) 0 (λa=>GS a.1.Set) (λ_=>false) (λa=>grR (fndF a.1 a.2)) fndI.H1 20
def fndI.ok:Ak Tryz.prog 29 fndI.row:=by
 refine owN (tC grI.ok (tC islF.ok tN)) Tryz.func29 rfl (by kernel_rfl) (exB:=grB) (R:=λa r=>r=grR (fndF a.1 a.2)) (λ_=>rfl)
  (λa=>by simp[grI.ca,Ah.c,belL,AV.bel,belH,Ai,AT]) (λa p hp=> ?_) (λa r h=>by subst h;exact LeV.refl _) ?_
 rotate_left
 intro a z;simp only[Tryz.f29,grI.ca,Ah.c];simp(disch:=omega)only[ZA,simprocAttr];obtain⟨s,l⟩:=a;simp only at z⊢;obtain⟨w,hw⟩: ∃w,w=gwR s l:=⟨_,rfl⟩;refine orow.os (s,l) [] z (λj=>by simp[domB,hget]) rfl rfl ?_ ?_
 .simp(disch:=omega)only[ZA,simprocAttr,grI.ca,Ah.c,grI.ca,Bu,Ah.c]
  try exact⟨rfl,rfl⟩
 simp(disch:=omega)only[ZA,simprocAttr,rch,islF.q,islF.fv,C4,Ah.c,grI.H1,grX,grR,<-hw];by_cases c0:w.2.2=0
 case neg=>
  rw[Af c0];have G:fndF s l=([],⟨[]⟩,w.2.2):=by simp only[fndF,<-hw];rw[Af c0]
  refine⟨[],[(0,some 24),(1,none),(2,some 2)],⟨[(4,.own 0),(5,.ptr 2 0),(6,.im (.int .i64 w.2.2))],[(2,(true,.cells 39 [.own 1])),(0,(true,.arr 108 3 ([]))),(1,(true,.arr 137 3 ([])))],3⟩,?_,by simp[Ac.good,belT,belH,Ai,AV.bel,belL],by simp,?_⟩
  .simp only[subP];simp(disch:=omega)only[ZA,simprocAttr,AC,IU]
   try simp
  .simp(disch:=omega)only[ZA,simprocAttr,grB,fndI.H1,G,grX]
   try simp
 rw[Ab (λh=>h c0)];refine⟨z,?_⟩;by_cases c1:(lfF s w.1).2.2=3
 case neg=>
  rw[Af c1];have G:fndF s l=([],⟨[]⟩,3):=by simp only[fndF,<-hw];rw[Ab (λh=>h c0),Ab c1]
  refine⟨[],[(0,some 24),(1,none),(2,some 2)],⟨[(4,.own 0),(5,.ptr 2 0),(6,.im (.int .i64 3))],[(2,(true,.cells 39 [.own 1])),(0,(true,.arr 108 3 ([]))),(1,(true,.arr 137 3 ([])))],3⟩,?_,by simp[Ac.good,belT,belH,Ai,AV.bel,belL],by simp,?_⟩
  .simp only[subP];simp(disch:=omega)only[ZA,simprocAttr,AC,IU]
   try simp
  .simp(disch:=omega)only[ZA,simprocAttr,grB,fndI.H1,G,grX]
   try simp
 rw[Ab (λh=>h c1)];have G:fndF s l=w:=by simp only[fndF,<-hw];rw[Ab (λh=>h c0),Af c1]
 refine⟨[],[(0,some 3),(1,some 4),(2,some 2)],⟨[(4,.own 0),(5,.ptr 2 0),(6,.im (.int .i64 0))],[(2,(true,.cells 39 [.own 1])),(0,(true,.arr 108 3 (w.1.map Opt.c))),(1,(true,.arr 137 3 (w.2.1.Tiles.map Ad.c)))],3⟩,?_,by simp[Ac.good,belT,belH,Ai,AV.bel,belL],by simp,?_⟩
 .simp only[subP];simp(disch:=omega)only[ZA,simprocAttr,AC]
  try simp
 .simp(disch:=omega)only[ZA,simprocAttr,grB,fndI.H1,G,c0,grX]
  try simp
 simp[fndI.H1,grX] at hp;rcases hp with rfl|rfl
 .exact .inr ⟨by omega,by omega,rfl,rfl⟩
 .exact .inr ⟨by omega,by omega,rfl,rfl⟩
def fndV.row:Row:=Ct grV.ar (λa=>GS a.1.Set) (λa=>grR (fndF a.1 a.2)) fndI.H1 20
def fndV.ok:Ak Tryz.prog 29 fndV.row:=
 Nw (A:=Ah×List Int) (ca:=λ(a:Ah×List Int)=>[D.agg (Ah.c a.1),D.sl false 1 (a.2.map intC)]) (by kernel_rfl) fndI.ok (λ_=>rfl) (a2_le (kR_le Ah.d_le) (kS_le 1 BB (λ_=>rfl))) (λ_=>grR_sc _) (λ_=>grX_sc _)
def fnd_len(s:Ah)(l:List Int):(fndF s l).1.length<=500/\(fndF s l).2.1.Tiles.length<=500:=by
 simp only[fndF];split
 .simp
 split
 .exact gw_len s l
 .simp
def lawFL.rc:D->Option (Bool):=Hn
def lawFL.re:Bool->D:=D.bool
def lawFL.rle: ∀d b,lawFL.rc d=some b->Le d (lawFL.re b):=LF
def lawFL.fv(a:Ah×(List Int)):Bool:=(λ_ _=>true) (a.1) (a.2)
def lawFL.row:Row:=vK (b2 (qR Ah.d_le) (qS BB Bm)) (RK.mk lawFL.rc lawFL.re lawFL.rle) (λa=>nmOk a.1.Set) lawFL.fv
def lawFL.q:=vKq (R:=lawFL.row) rfl
def lawFL.ok:Ak Tryz.prog 4 lawFL.row:=by
 refine vw (tC szSystem.ok (tC toYR.ok (tC toIR.ok (tC fndS_.ok (tC fndV.ok (tC eqOptionSF.ok (tC eqAsmF.ok (tC eqSystemF.ok (tC eqInt64SF.ok (tC mkSy.ok (tC mkIC.ok (tC mkOC.ok (tC mkAC.ok (tC heldO_.ok (tC heldA_.ok tN))))))))))))))) Tryz.func4 rfl (by kernel_rfl) ?_;intro a ac;simp only[Tryz.f4];simp(disch:=omega)only[ZA,simprocAttr,lawFL.fv,lawFL.rc,szSystem.q,szSystem.fv];obtain⟨s,l⟩:=a;simp only at ac⊢;intro _;split
 .trivial
 rename_i c2;refine⟨ac,?_⟩;split
 .trivial
 rename_i c0;have hB:=szSys_B (s:=s) (l:=1048576) (by decide) (by decide) (by omega);have h1:=szSys_sm (s:=s) (l:=1048576) (by decide) (by decide) (by omega);have hl:l.length<=1048576:=by omega
 have an:l.length<=1073741824:=by omega
 refine .inl (vK.call [.val (.agg (Ah.c s))] rfl s (sysR1 s) h1 ?_);simp(disch:=omega)only[ZA,simprocAttr,AL,toSystem.fv];refine .inl (vK.call [.val (.sl false 1 (l.map intC))] rfl l (intR1 l) an ?_);simp(disch:=omega)only[ZA,simprocAttr,fndS_.q,fndS_.fv,AL,toInt64S.fv];obtain⟨w,hw⟩: ∃w,w=fndF s l:=⟨_,rfl⟩;have aw:=fnd_len s l;obtain⟨G,w1,w2⟩:=w;simp only[<-hw] at aw⊢;refine .inr (orow.nw s hB.yx rfl rfl (yx_cl hB) (by simp[toYX.r0,AV.nms,nmsL]) λHH hH1 z=> ?_);have S0:Cs (hget HH) 9 11 2000014 12 s:=yx_at hB hH1;have Z:hget HH 0=some (true,.cells 30 [AV.im (D.sl false 2 (List.map Glue.c s.Set.Glues)),AV.im (D.sl false 2 (List.map Tile.c s.Set.Tiles)),AV.im (D.sl false 3 (List.map Ad.c s.Seed.Tiles)),AV.im (D.int IntKind.i64 s.Temperature)]):=z 0 (by omega);have k1:hget HH 1=some (true,.cells 39 [AV.im (D.sl false 3 (List.map Ad.c w1.Tiles))]):=z 1 (by omega);clear hH1 z;simp only[toYX.r0,AV.ren,renL];simp(disch:=omega)only[ZA,simprocAttr,AL];refine .inr (orow.nw l an rfl rfl (ix_cl l) (by simp[AV.nms]) λag hH1 z=> ?_);have Z:hget ag 0=_:=((z 0 (by omega)).trans (G9 _ _ _ (by omega))).trans Z;have k1:hget ag 1=_:=((z 1 (by omega)).trans (G9 _ _ _ (by omega))).trans k1;have S1:Cs (hget ag) 9 11 2000014 12 s:=S0.mono λm hm=>by
  exact (z m (by have:=hB.t;omega)).trans (G9 _ _ _ (by have:=hB.t;omega))
 have g8:hget ag 2000015=some (true,.cells 47 [.own 9,.own 11,.own 2000014,.im (.int .i64 s.Temperature)]):=z _ (by omega);have g9:hget ag 2000017=some (true,.arr 2 1 (l.map intC)):=hH1 1 _ rfl;clear hH1 z S0;simp only[AV.ren];simp(disch:=omega)only[ZA,simprocAttr,AL,g8];refine Ct.nw [.val (.agg (Ah.c s)),.val (.sl false 1 (l.map intC))] (pk2 S1.pk (ED g9)) (s,l) (sysintR s l) ac (grX_cl _) (grR_nm _) λQ hH1 z=> ?_
 simp only[<-hw,fndI.H1] at hH1⊢;have S2:Cs (hget Q) 9 11 2000014 12 s:=S1.mono λm hm=>z m (by have:=hB.t;omega)
 have Z:hget Q 0=_:=(z 0 (by omega)).trans Z;have k1:hget Q 1=_:=(z 1 (by omega)).trans k1;have g8:hget Q 2000015=_:=(z _ (by omega)).trans g8;have g9:hget Q 2000017=_:=(z _ (by omega)).trans g9;have O:hget Q 2000018=some (true,.arr 108 3 (G.map Opt.c)):=hH1 0 _ rfl;have gp:hget Q 2000019=some (true,.arr 137 3 (w1.Tiles.map Ad.c)):=hH1 1 _ rfl;clear hH1 z S1;simp only[grR,AV.ren,renL];simp(disch:=omega)only[ZA,simprocAttr,AL];generalize hG:((2000038,(true,AObj.cells 39 [AV.own 2000019]))::hdel Q [2000038]:Ag)=H3;have S2:Cs (hget H3) 9 11 2000014 12 s:=S2.mono λm hm=>by rw[<-hG];exact G9 _ _ _ (by have:=hB.t;omega)
 have Z:=pg hG (by omega) Z;have k1:=pg hG (by omega) k1;have g8:=pg hG (by omega) g8;have g9:=pg hG (by omega) g9;have O:=pg hG (by omega) O;have gp:=pg hG (by omega) gp;have ga:hget H3 2000038=some (true,.cells 39 [.own 2000019]):=by rw[<-hG];rfl
 clear hG;refine vKF.call [_,_] (pk2 (ED O) rfl) (G,G) (opt2R _ _) trivial ?_;simp(disch:=omega)only[ZA,simprocAttr,AL,k1,ga,eqOptionSF.fv];refine vKF.call [_,_] (pk2 (pkAsm gp) rfl) (w1,w1) (asm2R _ _) trivial ?_;simp(disch:=omega)only[ZA,simprocAttr,AL,Z,g8,eqAsmF.fv];refine .inl (vK.callA [.val (.agg (Ah.c s))] rfl s (sysR1 s) h1 rfl λu=> ?_);simp(disch:=omega)only[ZA,simprocAttr,toSystem.fv];refine vKF.callA [_,_] (pk2 S2.pk rfl) (s,s) (sys2R _ _) trivial rfl λu2=> ?_
 simp(disch:=omega)only[ZA,simprocAttr,AL,eqSystemF.fv];refine .inl (vK.call [.val (.sl false 1 (l.map intC))] rfl l (intR1 l) an ?_);simp(disch:=omega)only[ZA,simprocAttr,toInt64S.fv];refine vKF.call [_,_] (pk2 (ED g9) rfl) (l,l) (int2R _ _) trivial ?_;simp(disch:=omega)only[ZA,simprocAttr,AL,g8,eqInt64SF.fv];refine mkSy_call (N:=2) hB (by decide) (by decide) S2 (by omega) λad ab=> ?_
 have Z:hget ad 0=_:=(ab 0 (by omega)).trans Z;have k1:hget ad 1=_:=(ab 1 (by omega)).trans k1;have g9:hget ad 2000017=_:=(ab _ (by omega)).trans g9;have O:hget ad 2000018=_:=(ab _ (by omega)).trans O;have gp:hget ad 2000019=_:=(ab _ (by omega)).trans gp;have ga:hget ad 2000038=_:=(ab _ (by omega)).trans ga;obtain⟨y1,y2⟩:=hB.syK (k:=1) (by decide) (by decide);obtain⟨m1,hm1⟩: ∃m1,m1=syK (s,1)+3*s.Seed.Tiles.length:=⟨_,rfl⟩;rw[<-hm1] at y2;have y3:0<=m1:=by omega
 simp only[<-hm1];clear ab S2 g8 y1 hm1;simp(disch:=omega)only[ZA,simprocAttr,AL];refine mkIC_call y3 (by omega) g9 (by omega) λah _ af=> ?_
 have Z:hget ah 0=_:=(af 0 (by omega)).trans Z;have k1:hget ah 1=_:=(af 1 (by omega)).trans k1;have O:hget ah 2000018=_:=(af _ (by omega)).trans O;have gp:hget ah 2000019=_:=(af _ (by omega)).trans gp;have ga:hget ah 2000038=_:=(af _ (by omega)).trans ga;clear af g9;simp(disch:=omega)only[ZA,simprocAttr,AL];rw[Af (by omega)];refine vKF.call [_,_] (pk2 (ED O) rfl) (G,G) (opt2R _ _) trivial ?_;simp(disch:=omega)only[ZA,simprocAttr,AL,k1,ga,eqOptionSF.fv];refine vKF.call [_,_] (pk2 (pkAsm gp) rfl) (w1,w1) (asm2R _ _) trivial ?_;simp(disch:=omega)only[ZA,simprocAttr,AL,eqAsmF.fv];refine mkOC_call (by decide) (by omega) O (by omega) λai as aj=> ?_
 have Z:hget ai 0=_:=(aj 0 (by omega)).trans Z;have k1:hget ai 1=_:=(aj 1 (by omega)).trans k1;have O:hget ai 2000018=some (true,.arr 108 3 ((wrE (oF 1) G.length).map Opt.c)):=as 0 _ rfl;have gp:hget ai 2000019=_:=(aj _ (by omega)).trans gp;have ga:hget ai 2000038=_:=(aj _ (by omega)).trans ga;clear as aj;simp(disch:=omega)only[ZA,simprocAttr,AL,ga];refine mkAX_call (by omega) (by omega) gp (by omega) λam gp ak=> ?_
 have Z:hget am 0=_:=(ak 0 (by omega)).trans Z;have k1:hget am 1=_:=(ak 1 (by omega)).trans k1;have O:hget am 2000018=_:=(ak _ (by omega)).trans O;have ga:hget am 2000038=_:=(ak _ (by omega)).trans ga;clear ak;simp(disch:=omega)only[ZA,simprocAttr,AL];have aq:(0:Int)<=1/\(1:Int)+3*(wrE (oF 1) G.length).length<=1099511627776:=by rw[Ir];omega
 have av:heldO_.fv (wrE (oF 1) G.length,1)=1+3*G.length:=heldO_mk 1 G.length;have ao:(0:Int)<=1+3*G.length/\(1:Int)+3*G.length+3*(wrE (pF (1+3*G.length)) w1.Tiles.length).length<=1099511627776:=by rw[Ir];omega
 have au:heldA_.fv (⟨wrE (pF (1+3*G.length)) w1.Tiles.length⟩,1+3*G.length)=1+3*G.length+3*w1.Tiles.length:=heldP_mk _ _;refine vKF.call [_,_] (pk2 (ED O) rfl) (wrE (oF 1) G.length,1) (optkR _ _) aq ?_;simp only[av];simp(disch:=omega)only[ZA,simprocAttr,AL,ga];rw[Ab (by omega)];refine vKF.call [_,_] (pk2 (pkAsm (a:=⟨wrE (pF (1+3*G.length)) w1.Tiles.length⟩) gp) rfl) (⟨wrE (pF (1+3*G.length)) w1.Tiles.length⟩,1+3*G.length) (asmkR _ _) ao ?_;simp only[au];simp(disch:=omega)only[ZA,simprocAttr,AL,Z];rw[Ab (by omega)];refine .inl (vK.call [.val (.agg (Ah.c s))] rfl s (sysR1 s) h1 ?_);simp(disch:=omega)only[ZA,simprocAttr,AL,toSystem.fv];refine .inl (vK.call [.val (.sl false 1 (l.map intC))] rfl l (intR1 l) an ?_);simp(disch:=omega)only[ZA,simprocAttr,toInt64S.fv];refine Ct.nw [.val (.agg (Ah.c s)),.val (.sl false 1 (l.map intC))] rfl (s,l) (sysintR s l) ac (grX_cl _) (grR_nm _) λaa hH1 z=> ?_
 simp only[<-hw,fndI.H1] at hH1⊢;have k1:hget aa 1=_:=(z 1 (by omega)).trans k1;have O:hget aa 2000018=_:=(z _ (by omega)).trans O;have gp:hget aa 2000019=_:=(z _ (by omega)).trans gp;have ga:hget aa 2000038=_:=(z _ (by omega)).trans ga;have gh:hget aa 2000039=some (true,.arr 108 3 (G.map Opt.c)):=hH1 0 _ rfl;have gq:hget aa 2000040=some (true,.arr 137 3 (w1.Tiles.map Ad.c)):=hH1 1 _ rfl;clear hH1 z Z;simp only[grR,AV.ren,renL];simp(disch:=omega)only[ZA,simprocAttr,AL];generalize hG:((2000059,(true,AObj.cells 39 [AV.own 2000040]))::hdel aa [2000059]:Ag)=H8;have k1:=pg hG (by omega) k1;have O:=pg hG (by omega) O;have gp:=pg hG (by omega) gp;have ga:=pg hG (by omega) ga;have gh:=pg hG (by omega) gh;have gq:=pg hG (by omega) gq;have gb:hget H8 2000059=some (true,.cells 39 [.own 2000040]):=by rw[<-hG];rfl
 clear hG;refine vKF.call [_,_] (pk2 (ED gh) rfl) (G,G) (opt2R _ _) trivial ?_;simp(disch:=omega)only[ZA,simprocAttr,AL,k1,gb,eqOptionSF.fv];refine vKF.call [_,_] (pk2 (pkAsm gq) rfl) (w1,w1) (asm2R _ _) trivial ?_;simp(disch:=omega)only[ZA,simprocAttr,AL,eqAsmF.fv];refine vKF.call [_,_] (pk2 (ED O) rfl) (wrE (oF 1) G.length,1) (optkR _ _) aq ?_;simp only[av];simp(disch:=omega)only[ZA,simprocAttr,AL,ga];rw[Ab (by omega)];refine vKF.call [_,_] (pk2 (pkAsm (a:=⟨wrE (pF (1+3*G.length)) w1.Tiles.length⟩) gp) rfl) (⟨wrE (pF (1+3*G.length)) w1.Tiles.length⟩,1+3*G.length) (asmkR _ _) ao ?_;simp only[au];simp(disch:=omega)only[ZA,simprocAttr,AL];rw[Ab (by omega)];trivial
end Go.Ae
