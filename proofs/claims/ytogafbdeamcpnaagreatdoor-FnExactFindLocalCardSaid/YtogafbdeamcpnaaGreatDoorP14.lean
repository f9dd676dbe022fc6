/- Lemmas. Conditions: none. -/
import Derived.Test.YtogafbdeamcpnaaGreatDoorP13
set_option linter.all false
set_option maxHeartbeats 8000000
set_option maxRecDepth 100000
namespace Go.Ae
open Go.Proofs
def OK{H:Aw}{j:Nat}:j∈Ff H↔Ao H j=true:=by
 induction H with
 |nil=>simp[Ff,Ao,hget]
 |cons e r ih=>
  obtain⟨i,e⟩:=e;simp only[Ff,Bk,Ao,hget];by_cases z:i=j
  .subst z;simp
  .have:(i==j)=false:=by simpa using z
   rw[this];simp only[BD];exact⟨λh=>ih.1 (h.resolve_left λh=>z h.symm),λh=> .inr (ih.2 h)⟩
mutual
def bT{n:Nat}: ∀x:AV,(∀m∈x.nms,m<n)->x.bel n=true
 | .any,_=>rfl
 | .im _,_=>rfl
 | .agg z,h=>by simp only[AV.nms] at h;simp only[AV.bel];exact JK z h
 | .tup z,h=>by simp only[AV.nms] at h;simp only[AV.bel];exact JK z h
 | .ptr o _,h=>by simp only[AV.bel,E3];exact h o (by simp[AV.nms])
 | .eptr o _ _,h=>by simp only[AV.bel,E3];exact h o (by simp[AV.nms])
 | .own o,h=>by simp only[AV.bel,E3];exact h o (by simp[AV.nms])
 | .mp o,h=>by simp only[AV.bel,E3];exact h o (by simp[AV.nms])
 | .ch o,h=>by simp only[AV.bel,E3];exact h o (by simp[AV.nms])
 | .it o,h=>by simp only[AV.bel,E3];exact h o (by simp[AV.nms])
 | .osl o _ _,h=>by simp only[AV.bel,E3];exact h o (by simp[AV.nms])
 | .clo _ a c,h=>by
   simp only[AV.nms,Bv] at h;simp only[AV.bel,JK a λm G=>h m (.inl G),JK c λm G=>h m (.inr G),fR]
def JK{n:Nat}: ∀xs:List AV,(∀m∈AG xs,m<n)->Aq n xs=true
 |[],_=>rfl
 |x::r,h=>by
  simp only[AG,Bv] at h;simp only[Aq,bT x λm z=>h m (.inl z),JK r λm z=>h m (.inr z),fR]
end
def oJ{n:Nat}: ∀H:Aw,(∀p∈H,∀m∈p.2.2.nms,m<n)->Ac n H=true
 |[],_=>rfl
 |(i,(Q,e))::r,h=>by
  have z:=h _ (BS ..);have ih:=oJ r λp hp=>h p (BW _ hp)
  cases e with
  |cells T G=>simp only[Ac,ih,F6];exact JK G (by simpa[Ad.nms] using z)
  |arrA T k rows=>
   simp only[Ac,ih,F6,Dw];refine λq hq=>JK q λm O=>z m ?_
   simp only[Ad.nms];exact Gc.2 ⟨q,hq,O⟩
  |_=>simp only[Ac,ih]
mutual
def cI(σ:Nat->Nat): ∀x:AV,(x.ren σ).nms=x.nms.map σ
 | .any=>rfl
 | .im _=>rfl
 | .agg z=>by simp only[AV.ren,AV.nms];exact JL σ z
 | .tup z=>by simp only[AV.ren,AV.nms];exact JL σ z
 | .ptr o _=>rfl
 | .eptr o _ _=>rfl
 | .own o=>rfl
 | .mp o=>rfl
 | .ch o=>rfl
 | .it o=>rfl
 | .osl o _ _=>rfl
 | .clo _ a c=>by simp only[AV.ren,AV.nms,JL σ a,JL σ c,GD]
def JL(σ:Nat->Nat): ∀xs:List AV,AG (AL σ xs)=(AG xs).map σ
 |[]=>rfl
 |x::r=>by simp only[AL,AG,cI σ x,JL σ r,GD]
end
def Qafh(σ:Nat->Nat)(e:Ad): ∀m∈(e.ren σ).nms,∃j∈e.nms,m=σ j:=by
 intro m z;cases e with
 |cells T Q=>
  simp only[Ad.ren,Ad.nms,JL,Bt] at z⊢;obtain⟨j,G,rfl⟩:=z;exact⟨j,G,rfl⟩
 |arrA T k rows=>
  simp only[Ad.ren,Ad.nms] at z⊢;obtain⟨r,O,z⟩:=Gc.1 z;obtain⟨q,hq,rfl⟩:=Bt.1 O;rw[JL,Bt] at z;obtain⟨j,G,rfl⟩:=z;exact⟨j,Gc.2 ⟨q,hq,G⟩,rfl⟩
 |_=>simp[Ad.ren,Ad.nms] at z
def oT{σ:Nat->Nat}{N:Nat}(H:Aw)(h: ∀p∈H,∀m∈p.2.2.nms,σ m<N):Ac N (AY σ H)=true:=by
 refine oJ _ ?_;induction H with
 |nil=>intro p hp;cases hp
 |cons x r ih=>
  obtain⟨i,O,e⟩:=x;intro p hp m z;rcases Bk.1 hp with rfl|hp
  .obtain⟨j,G,rfl⟩:=Qafh σ e m z;exact h _ (BS ..) j G
  .exact ih (λp hp=>h p (BW _ hp)) p hp m z
def AF.tau{A:Type}{ca:A->List AV}{H0:A->Aw}{k:Nat}{pre:A->Prop}{klB:Nat->Bool}{r0:A->AV}{H1:A->Aw}{args:List AV}{tm:List (Nat×AV)}{h:Aw}{nx:Nat}{dst:Option Nat}{go:Aj->Prop}(a:A)(τ:Nat->Nat)(ac:pre a)(ai: ∀j,Ao (H0 a) j=true->klB j=true)
 (hd: ∀j,Ao (H0 a) j=true->j<k/\τ j<nx)(aa: ∀i j,Ao (H0 a) i=true->Ao (H0 a) j=true->τ i=τ j->i=j)
 (hcl: ∀p∈H1 a,Ao (H0 a) p.1=true/\ ∀m∈p.2.2.nms,Ao (H0 a) m=true)
 (hx:args=AL (Cg τ k nx) (ca a)/\CO (hget h) (Cg τ k nx) (H0 a))
 (hb: ∀m∈(r0 a).nms,Ao (H0 a) m=true)
 (ag: ∀HH:Aw,(∀j e,hget (H1 a) j=some e->hget HH (τ j)=some (e.1,e.2.ren (Cg τ k nx)))->(∀m,(∀j,Ao (H0 a) j=true->τ j≠m)->hget HH m=hget h m)->go ((⟨tm,HH,nx⟩:Aj).put dst ((r0 a).ren (Cg τ k nx)))):
 AF ca H0 k pre klB r0 H1 0 args (hget h) nx (DP go ⟨tm,h,nx⟩ dst):=by
 have hσ: ∀j,Ao (H0 a) j=true->Cg τ k nx j=τ j:=λj z=>An (hd j z).1
 have ah: ∀i j,Ao (H0 a) i=true->Ao (H0 a) j=true->Cg τ k nx i=Cg τ k nx j->i=j:=λi j hi z h=>aa i j hi z (by rwa [hσ i hi,hσ j z] at h)
 have G: ∀m,m∈(Ff (H0 a)).map τ↔ ∃j,Ao (H0 a) j=true/\τ j=m:=λm=>by simp only[Bt,OK]
 have Q: ∀p∈H1 a,Ao (H0 a) p.1=true:=λp hp=>(hcl p hp).1
 refine⟨a,τ,(Ff (H0 a)).map τ,(Ff (H0 a)).map τ,ac,hx.1,hx.2,⟨aa,λj z=>(hd j z).2,λj z=>(G _).2 ⟨j,z,rfl⟩,λm Z=> ?_,λj z _=>(G _).2 ⟨j,z,rfl⟩⟩,?_⟩
 .obtain⟨j,z,rfl⟩:=(G m).1 Z;exact⟨j,z,ai j z,rfl⟩
 refine⟨?_,?_⟩
 .have ad:((r0 a).ren (Cg τ k nx)).bel nx=true:=by
   refine bT _ λm Z=> ?_
   rw[cI,Bt] at Z;obtain⟨j,z,rfl⟩:=Z;rw[hσ j (hb j z)];exact (hd j (hb j z)).2
  have af:Ac nx (AY (Cg τ k nx) (H1 a))=true:=oT _ λp hp m Z=>by
   have:=(hcl p hp).2 m Z
   rw[hσ m this];exact (hd m this).2
  rw[Bo.ok_nr,Qm,ad,af,DZ,DZ]
  have: ∀H:Aw,(∀p∈H,Ao (H0 a) p.1=true)->Hp ((Ff (H0 a)).map τ) nx 0 (AY (Cg τ k nx) H)=true:=by
   intro H;induction H with
   |nil=>intro _;rfl
   |cons e r ih=>
    obtain⟨i,mu,e⟩:=e;intro hp;have O:=hp _ (BS ..);simp only at O;simp only[AY,Hp,JQ,AR,GY,Ht,E3];refine⟨.inr ⟨?_,?_⟩,ih λp h=>hp p (BW _ h)⟩
    .rw[HG,hσ i O];exact (G _).2 ⟨i,O,rfl⟩
    .rw[hσ i O];exact (hd i O).2
  exact this _ Q
 rw[Aj.app_nr,Qm];refine ag _ (λj e he=> ?_) (λm Z=> ?_)
 .have z:Ao (H0 a) j=true:=by
   have: ∀H:Aw,hget H j=some e-> ∃p∈H,p.1=j:=by
    intro H;induction H with
    |nil=>intro h;cases h
    |cons x r ih=>
     obtain⟨i,x⟩:=x;intro h;by_cases ab:i=j
     .exact⟨_,BS ..,ab⟩
     .have hb:(i==j)=false:=by simpa using ab
      simp only[hget,hb,BD] at h;obtain⟨p,O,h2⟩:=ih h;exact⟨p,BW _ O,h2⟩
   obtain⟨p,O,rfl⟩:=this _ he;exact Q p O
  rw[Qg,<-hσ j z,Qv5 (D:=λj=>Ao (H0 a) j=true) ah (H1 a) Q j z,he];rfl
 .rw[Qg];cases hq:hget (AY (Cg τ k nx) (H1 a)) m with
  |some e=>
   obtain⟨j,e0,O,h2,_⟩:=uQ hq;have z:=Q _ O;rw[hσ j z] at h2;exact absurd h2 (Z j z)
  |none=>
   rw[WD,Af]
   .rfl
   .rw[HG];intro h;obtain⟨j,z,h2⟩:=(G m).1 h;exact Z j z h2
def pB{go:Aj->Prop}{tm:List (Nat×AV)}{h:Aw}{nx:Nat}{dst:Option Nat}{σ:Nat->Nat}(hσ: ∀j,σ j=nx+j){r0:AV}{H1:Aw}{cnt:Nat}{u kl:List Nat}(aa:kl=[])
 (hcl: ∀p∈H1,p.1<cnt/\ ∀m∈p.2.2.nms,m<cnt)(hb: ∀m∈r0.nms,m<cnt)
 (Z: ∀G:Aw,(∀j e,hget H1 j=some e->hget G (nx+j)=some (e.1,e.2.ren σ))->(∀m,m<nx->hget G m=hget h m)->go ((⟨tm,G,nx+cnt⟩:Aj).put dst (r0.ren σ))):
 DP go ⟨tm,h,nx⟩ dst (r0.ren σ) {use:=u,kill:=kl,new:=AY σ H1,cnt:=cnt}:=by
 subst aa;refine⟨?_,?_⟩
 .have O:(r0.ren σ).bel (nx+cnt)=true:=by
   refine bT _ λm z=> ?_
   rw[cI,Bt] at z;obtain⟨j,hj,rfl⟩:=z
   have:=hb j hj
   rw[hσ];omega
  have Q:Ac (nx+cnt) (AY σ H1)=true:=oT _ λp hp m z=>by
   have:=(hcl p hp).2 m z
   rw[hσ];omega
  rw[Bo.ok_nr,O,Q,DZ,DZ];refine Wc _ _ _ _ λp hp=> ?_
  have: ∀H:Aw,(∀p∈H,p.1<cnt)-> ∀p∈AY σ H,nx<=p.1/\p.1<nx+cnt:=by
   intro H;induction H with
   |nil=>intro _ p hp;cases hp
   |cons x r ih=>
    obtain⟨i,mu,e⟩:=x;intro hx p hp;have h1:=hx _ (BS ..);simp only at h1;simp only[AY,Bk] at hp;rcases hp with rfl|hp
    .simp only;rw[hσ];omega
    .exact ih (λp h=>hx p (BW _ h)) p hp
  exact this _ (λp hp=>(hcl p hp).1) p hp
 rw[Aj.app_nr,BC];refine Z _ (λj e he=> ?_) (λm z=> ?_)
 .rw[Qg,<-hσ j,oY (λi j h=>by rw[hσ,hσ] at h;omega),he];rfl
 .rw[Qg];cases hq:hget (AY σ H1) m with
  |some e=>
   obtain⟨j,e0,_,h2,_⟩:=uQ hq;rw[hσ] at h2;omega
  |none=>rfl
def AF.nw{A:Type}{ca:A->List AV}{H0:A->Aw}{pre:A->Prop}{klB:Nat->Bool}{r0:A->AV}{H1:A->Aw}{cnt:Nat}{args:List AV}{tm:List (Nat×AV)}{h:Aw}{nx:Nat}{dst:Option Nat}{Q:Aj->Prop}(a:A)(z:pre a)(h0:H0 a=[])
 (Z:args=AL (λj=>nx+j) (ca a))(hcl: ∀p∈H1 a,p.1<cnt/\ ∀m∈p.2.2.nms,m<cnt)(hb: ∀m∈(r0 a).nms,m<cnt)
 (O: ∀G:Aw,(∀j e,hget (H1 a) j=some e->hget G (nx+j)=some (e.1,e.2.ren λj=>nx+j))->(∀m,m<nx->hget G m=hget h m)->Q ((⟨tm,G,nx+cnt⟩:Aj).put dst ((r0 a).ren λj=>nx+j))):
 AF ca H0 0 pre klB r0 H1 cnt args (hget h) nx (DP Q ⟨tm,h,nx⟩ dst):=by
 have e:Cg (Iw []) 0 nx=λj=>nx+j:=funext λj=>by simp[Cg]
 refine AF.os a [] z (λj=>by rw[h0];simp[Ao,hget]) rfl rfl ⟨by rw[e];exact Z,by rw[h0];trivial⟩ ?_;rw[e];exact pB (λ_=>rfl) rfl hcl hb O
def EZ.nw{A:Type}{ar:List PK->Option A}{pre:A->Prop}{r0:A->AV}{H1:A->Aw}{cnt:Nat}{args:List AV}{tm:List (Nat×AV)}{h:Aw}{nx:Nat}{dst:Option Nat}{Z:Aj->Prop}(ps:List PK)(Q:C7 (hget h) args=some ps)(a:A)(ha:ar ps=some a)(z:pre a)
 (hcl: ∀p∈H1 a,p.1<cnt/\ ∀m∈p.2.2.nms,m<cnt)(hb: ∀m∈(r0 a).nms,m<cnt)
 (O: ∀G:Aw,(∀j e,hget (H1 a) j=some e->hget G (nx+j)=some (e.1,e.2.ren λj=>nx+j))->(∀m,m<nx->hget G m=hget h m)->Z ((⟨tm,G,nx+cnt⟩:Aj).put dst ((r0 a).ren λj=>nx+j))):
 EZ ar pre r0 H1 cnt args (hget h) nx (DP Z ⟨tm,h,nx⟩ dst):=by
 have e:Cg (λj=>j) 0 nx=λj=>nx+j:=funext λj=>by simp[Cg]
 unfold EZ;rw[Q];simp only[Wy,ha,El];rw[e];exact⟨z,pB (λ_=>rfl) rfl hcl hb O⟩
def vF.call{A:Type}{ar:List PK->Option A}{pre:A->Prop}{re:A->D}{args:List AV}{tm:List (Nat×AV)}{h:Aw}{nx:Nat}{dst:Option Nat}{Q:Aj->Prop}(ps:List PK)(O:C7 (hget h) args=some ps)(a:A)(Z:ar ps=some a)(z:pre a)
 (G:Q ((⟨tm,h,nx⟩:Aj).put dst (.im (re a)))):Lg ar pre re args (hget h) nx (DP Q ⟨tm,h,nx⟩ dst):=by
 unfold Lg;rw[O];simp only[WA,Z,El];refine⟨z,?_,?_⟩
 .rw[Bo.ok_nr];simp[AV.bel,Ac,Hp]
 .rw[Aj.app_nr,BC,Qm];exact G
def Hx(G:List Ar)(rows:List (List AV))(n:Nat)(f:Nat->Au):Aw:=(0,(true,.arr 204 2 (G.map Ar.c)))::(1,(true,.arrA 206 2 rows))::AU 2 n f
def I5(G:List Ar)(rows:List (List AV))(n:Nat)(f:Nat->Au)(j:Nat):Ao (Hx G rows n f) j=true↔j<2+n:=by
 simp only[Ao,Hx,hget,lN];by_cases h0:j=0
 .subst h0;simp;omega
 by_cases z:j=1
 .subst z;simp;omega
 rw[Bi _ _ (λh=>h0 h.symm),Bi _ _ (λh=>z h.symm)];simp only[BD];split
 .rename_i h;simp;omega
 .rename_i h;simp;omega
def jU{G:List Ar}{rows:List (List AV)}{n:Nat}{f:Nat->Au}{p:Nat×Au}(hp:p∈Hx G rows n f):p.1<2+n:=by
 simp only[Hx,Bk,AU,Bt,BA] at hp;rcases hp with rfl|rfl|⟨j,z,rfl⟩<;>simp only<;>omega
def Ds(a:List Tile)(k:Int)(i:Nat):List (List AV):=(List.range (nT a)).map (Fw a k i)
def Vg(a:List Tile)(k:Int)(i N:Nat)(h:2+nT a<=N):(Ds a k i).all (Aq N)=true:=by
 rw[Dw];intro r G;obtain⟨j,z,rfl⟩:=Bt.1 G;exact cF _ _ _ _ _ (by have:=BA.1 z;omega)
def Zg(a:List Tile)(k:Int)(i j:Nat)(σ:Nat->Nat)(h:σ (2+j)=2+j):AL σ (Fw a k i j)=Fw a k i j:=by
 simp only[Fw]
 split<;>simp[Iy,AL,AV.ren,h]
def Wb(a:List Tile)(k:Int)(i:Nat)(σ:Nat->Nat)(h: ∀j,j<nT a->σ (2+j)=2+j):(Ds a k i).map (AL σ)=Ds a k i:=by
 rw[Ds,Rk];exact Og λj z=>Zg _ _ _ _ _ (h j (BA.1 z))
def Nh{G:List Ar}{a:List Tile}{k:Int}{i N:Nat}{f:Nat->Au}(h:2+nT a<=N)(hf: ∀i,Ac N [(2+i,f i)]=true):Ac N (Hx G (Ds a k i) (nT a) f)=true:=by
 simp only[Hx,Ac];rw[QY _ _ _ hf,Vg _ _ _ _ h];rfl
def pA{G:List Ar}{a:List Tile}{k:Int}{i N:Nat}{f:Nat->Au}(h:2+nT a<=N):A9 N (Hx G (Ds a k i) (nT a) f)=true:=by
 simp only[Hx,A9];rw[QM _ _ _ _ (by omega)];simp;omega
def cK{G:List Ar}{a:List Tile}{k:Int}{i:Nat}{f:Nat->Au}(hf: ∀j,(f j).2.nms=[]){p:Nat×Au}(hp:p∈Hx G (Ds a k i) (nT a) f){m:Nat}(z:m∈p.2.2.nms):m<2+nT a:=by
 simp only[Hx,Bk,AU,Bt,BA] at hp;rcases hp with rfl|rfl|⟨j,O,rfl⟩
 .simp[Ad.nms] at z
 .simp only[Ad.nms] at z;obtain⟨r,Q,z⟩:=Gc.1 z;obtain⟨j,O,rfl⟩:=Bt.1 Q;rw[bU,BJ] at z
  have:=BA.1 O
  omega
 .rw[hf] at z;cases z
def cB{H0:Aw}: ∀{H:Aw},(∀p∈H,∀m∈p.2.2.nms,Ao H0 m=true)->BR H0 H
 |[],_=>trivial
 |(_,(_,_))::r,h=>⟨h _ (BS ..),cB λp hp=>h p (BW _ hp)⟩
def EU(a:AA×Int):Int:=a.2+2*a.1.Glues.length
def mkTS.ca(a:AA×Int):List AV:=[.agg [.own 0,.own 1],.im (.int .i64 a.2)]
def mkTS.H0(a:AA×Int):Aw:=Hx a.1.Glues (Ds a.1.Tiles (EU a) 0) (nT a.1.Tiles) (FO a.1.Tiles (EU a) 0)
def mkTS.H1(a:AA×Int):Aw:=Hx (DG (gF a.2) a.1.Glues.length) (Ds a.1.Tiles (EU a) (nT a.1.Tiles)) (nT a.1.Tiles) (FO a.1.Tiles (EU a) (nT a.1.Tiles))
def mkTS.r0(a:AA×Int):AV:= .im (.int .i64 (ET a.1.Tiles (EU a) a.1.Tiles.length))
def mkTS.pre(a:AA×Int):Prop:=0<=a.2/\a.1.Tiles.length<=1048576/\ET a.1.Tiles (EU a) a.1.Tiles.length<=1099511627776
def mkTS.row:AB:=AF mkTS.ca mkTS.H0 2000000 mkTS.pre (λ_=>true) mkTS.r0 mkTS.H1 0
def mkTS.hbel(a:AA×Int):Aq 2000000 (mkTS.ca a)=true:=by simp[mkTS.ca,Aq,AV.bel]
def mkTS.hbH(a:AA×Int):Ac 2000000 (mkTS.H0 a)=true:=Nh (by have:=F8 a.1.Tiles;omega) (λi=>by simp[Ac,FO])
def mkTS.hkH(a:AA×Int):A9 2000000 (mkTS.H0 a)=true:=pA (by have:=F8 a.1.Tiles;omega)
def mkTS.hnm(a:AA×Int):BR (mkTS.H0 a) (mkTS.H0 a):=
 cB λp hp m z=>(I5 _ _ _ _ _).2 (cK (λj=>by simp[FO,Ad.nms]) hp z)
def bY(h:Nat->Option Au): ∀(H:Aw),HU h (λ_=>true) H
 |[]=>trivial
 |(j,e)::r=>⟨trivial,bY h r⟩
def Mg{H0:Aw}{k cnt:Nat}{exB:Nat->Bool}{j:Nat}(h:Ao H0 j=true):IW H0 k cnt exB j=some j:=by
 simp only[IW,h,fT,Ck]
def Zf{h:Nat->Option Au}{kx:Nat->Option Nat}{m:Nat}{a:List Tile}{k:Int}{i j:Nat}(z:kx (2+j)=some (2+j)):A7 (Bd h kx (m+1)) (Fw a k i j)=some (Fw a k i j):=by
 simp only[Fw]
 split<;>simp only[Iy,A7,Bd,z,kp]
def oZ{h:Nat->Option Au}{kx:Nat->Option Nat}{m:Nat}{a:List Tile}{k:Int}{i:Nat}(G: ∀j,j<nT a->kx (2+j)=some (2+j)):A7 (A7 (Bd h kx (m+1))) (Ds a k i)=some (Ds a k i):=
 V8 _ λj z=>Zf (G j (BA.1 z))
def mkLC.hcl(a:List Tile×Int): ∀p∈mkLC.H1 a,Ao (mkLC.H0 a) p.1=true/\ ∀m∈p.2.2.nms,Ao (mkLC.H0 a) m=true:=by
 intro p hp;simp only[mkLC.H0,I4];simp only[mkLC.H1,Dr,Bk,AU,Bt,BA] at hp;rcases hp with rfl|⟨j,G,rfl⟩
 .refine⟨.inl rfl,λm z=> ?_⟩;simp only[Ad.nms] at z;obtain⟨r,O,z⟩:=Gc.1 z;obtain⟨j,G,rfl⟩:=Bt.1 O;rw[bU,BJ] at z
  have:=BA.1 G
  exact .inr ⟨by omega,by omega⟩
 .exact⟨.inr ⟨by simp only;omega,by simp only;omega⟩,λm z=>by simp[FO,Ad.nms] at z⟩
def mkTS.hcl(a:AA×Int): ∀p∈mkTS.H1 a,Ao (mkTS.H0 a) p.1=true/\ ∀m∈p.2.2.nms,Ao (mkTS.H0 a) m=true:=
 λp hp=>⟨(I5 _ _ _ _ _).2 (jU hp),λm z=>(I5 _ _ _ _ _).2 (cK (λj=>by simp[FO,Ad.nms]) hp z)⟩
def mkTS.ok:AC Tryz.prog 61 mkTS.row:=by
 refine ow (tC mkGC.ok (tC mkLC.ok tN)) Tryz.func61 rfl (by kernel_rfl) (exB:=λ_=>false) (R:=λa r=>r=mkTS.r0 a) (λ_=>rfl)
  (λa=>⟨mkTS.hbel a,mkTS.hbH a,mkTS.hkH a,mkTS.hnm a⟩) (λa p hp=> ?_) (λa r h=>by subst h;exact CJ.refl _) ?_
 rotate_left
 intro a Q;simp only[Tryz.f61,mkTS.ca];simp(disch:=omega)only[ZA,simprocAttr];obtain⟨S,k⟩:=a;obtain⟨h1,h2,h3⟩:=Q;simp only at h1 h2 h3;have hk:=Np S.Tiles (EU (S,k)) (by simp only[EU];omega) 0 S.Tiles.length (by omega);have O:EU (S,k)<=1099511627776:=by simp only[ET] at hk;omega
 simp only[EU] at O;have hn:=F8 S.Tiles;simp only[BC,mkTS.H0,Hx];refine AF.os (S.Glues,k) [0] ⟨h1,O⟩ (λj=> ?_) rfl rfl ?_ ?_
 .simp only[Ao,mkGC.H0,hget];by_cases z:j=0
  .subst z;simp
  .have:(0==j)=false:=by simpa using λh=>z h.symm
   rw[this];simp;omega
 .simp(disch:=omega)only[ZA,simprocAttr,DH,mkGC.ca,mkGC.H0,CO,Dj]
  try exact⟨rfl,rfl⟩
 simp(disch:=omega)only[ZA,simprocAttr,DH,mkGC.H1,BC,Dj,EI];rw[Wd 2 (nT S.Tiles) (FO S.Tiles (EU (S,k)) 0) [0] (by simp)];have hσ: ∀j,j<nT S.Tiles->Cg (λj=>if j=0 then 1 else j) 2000000 2000001 (2+j)=2+j:=λj z=>by
  simp only[Cg];rw[An (by omega),Af (by omega)]
 have hσ0:Cg (λj=>if j=0 then 1 else j) 2000000 2000001 0=1:=rfl;refine AF.tau (S.Tiles,EU (S,k)) (λj=>if j=0 then 1 else j) ⟨h2,by simp only[EU];omega,h3⟩ (λ_ _=>rfl) (λj z=> ?_) (λi j G z h=> ?_) (mkLC.hcl _) ⟨?_,?_⟩ (by simp[mkLC.r0,AV.nms]) (λZ hH1 aa=> ?_)
 .have z:=(I4 _ _ _ _).1 z;simp only at z⊢
  split<;>omega
 .have G:=(I4 _ _ _ _).1 G;have z:=(I4 _ _ _ _).1 z;simp only at G z h;split at h<;>split at h<;>omega
 .simp only[mkLC.ca,AL,AV.ren,hσ0,EU]
 .simp only[mkLC.H0,Dr,CO,hσ0,Ad.ren];refine⟨?_,Wj λi G=> ?_⟩
  .simp only[hget,Bi _ _ (show 0≠1 by omega),Bi _ _ (show 2000000≠1 by omega),BD,uX,Ck];rw[<-Ds,Wb _ _ _ _ hσ]
  .rw[hσ i G];simp only[hget,Bi _ _ (show 0≠2+i by omega),Bi _ _ (show 2000000≠2+i by omega),Bi _ _ (show 1≠2+i by omega),BD];rw[HA _ _ _ _ G];rfl
 have g0:hget Z 0=some (true,.arr 204 2 ((DG (gF k) S.Glues.length).map Ar.c)):=by
  rw[aa 0 (λj z=>by
   have z:=(I4 _ _ _ _).1 z;simp only at z⊢
   split<;>omega)]
  rfl
 have g1:hget Z 1=some (true,.arrA 206 2 (Ds S.Tiles (EU (S,k)) (nT S.Tiles))):=by
  have g:=hH1 0 _ rfl;rw[An rfl] at g;rw[g];simp only[Ad.ren];rw[<-Ds,Wb _ _ _ _ hσ]
 have g2: ∀j,j<nT S.Tiles->hget Z (2+j)=some (FO S.Tiles (EU (S,k)) (nT S.Tiles) j):=λj z=>by
  have:=hH1 (2+j) _ (cA _ _ _ j z)
  simp only[Af (show 2+j≠0 by omega)] at this;rw[this];rfl
 simp only[mkLC.r0,AV.ren];simp(disch:=omega)only[ZA,simprocAttr,mkTS.r0,EU,BC,mkTS.H1,Hx];have ab: ∀j,j<nT S.Tiles->Ao ((0,(true,Ad.arr 204 2 (List.map Ar.c S.Glues)))::(1,(true,Ad.arrA 206 2 (Ds S.Tiles (k+2*S.Glues.length) 0)))::AU 2 (nT S.Tiles) (FO S.Tiles (k+2*S.Glues.length) 0)) (2+j)=true:=λj z=>(I5 _ _ _ _ _).2 (by omega)
 refine⟨bY _ _,?_,?_,?_⟩
 .rw[g0];exact⟨rfl,rfl⟩
 .rw[g1];refine⟨rfl,?_⟩;simp only[Cy];rw[oZ (λj z=>Mg (ab j z))];rfl
 .exact NH _ _ _ _ _ (λj z=>g2 j z) (λj z=>rfl)
 obtain⟨q1,_⟩:=mkTS.hcl _ p hp
 have:=(I5 _ _ _ _ _).1 q1
 have:=F8 a.1.Tiles
 exact .inl ⟨by omega,rfl,q1⟩
def WS{n:Nat}{l:Int}(h:0<=Cz n l):(n:Int)<=l/\Cz n l<=l/\0<=l:=by
 simp only[Cz] at h⊢;split at h
 .omega
 .rename_i c;rw[Af c];omega
def Qu5: ∀(a:List Tile) (l:Int),0<=l->l<=1048576->0<=Gd F1 a l-> ∀x∈a,x.Sides.length<=1073741824
 |[],_,_,_,_=>by intro x z;cases z
 |y::r,l,h0,Q,h=>by
  simp only[Gd] at h;split at h
  .omega
  .rename_i c;have G:0<=F1 y l:=by omega
   have O:0<=Cz y.Name.size l:=by
    simp only[F1] at G;split at G
    .omega
    .omega
   have e:F1 y l=Cz y.Sides.length (Cz y.Name.size l):=by
    simp only[F1];rw[Af (by omega)]
   rw[e] at G h;obtain⟨a1,a2,a3⟩:=WS G;obtain⟨b1,b2,b3⟩:=WS O;intro x z;rcases Bk.1 z with rfl|z
   .omega
   .exact Qu5 r _ G (by omega) h x z
def Vc{s:AA}{l:Int}(Q: -1<=l)(Z:l<=1048576)(h:0<=Rg s l):UI s:=by
 have hg:=zZ s.Glues l Q;simp only[Rg] at h;split at h
 .omega
 rename_i c;have z:0<=Hl s.Glues l:=by omega
 have O:0<=Cz s.Glues.length l:=by
  simp only[Hl] at z;split at z
  .omega
  .omega
 have G:0<=Cz s.Tiles.length (Hl s.Glues l):=by
  simp only[Ld] at h;split at h
  .omega
  .omega
 have e:Ld s.Tiles (Hl s.Glues l)=Gd F1 s.Tiles (Cz s.Tiles.length (Hl s.Glues l)):=by
  simp only[Ld];rw[Af (by omega)]
 rw[e] at h;obtain⟨a1,a2,a3⟩:=WS O;obtain⟨b1,b2,b3⟩:=WS G;exact⟨by omega,by omega,Qu5 s.Tiles _ G (by omega) h⟩
def Vd{s:Ax}{l:Int}(G: -1<=l)(z:l<=1048576)(h:0<=lJ s l):bC s:=by
 have hb:=Qxk s.Set l G;simp only[lJ] at h;split at h
 .omega
 rename_i c;obtain⟨a1,a2,a3⟩:=WS h;exact⟨Vc G z (by omega),by omega⟩
def syK(a:Ax×Int):Int:=ET a.1.Set.Tiles (EU (a.1.Set,a.2)) a.1.Set.Tiles.length
def mkSy.ca(a:Ax×Int):List AV:=[.agg [.own 0,.own 1,.own 2000000,.im (.int .i64 a.1.Temperature)],.im (.int .i64 a.2)]
def mkSy.H0(a:Ax×Int):Aw:=(2000000,(true,.arr 137 3 (a.1.Seed.Tiles.map Al.c)))::mkTS.H0 (a.1.Set,a.2)
def mkSy.H1(a:Ax×Int):Aw:=(2000000,(true,.arr 137 3 ((DG (pF (syK a)) a.1.Seed.Tiles.length).map Al.c)))::mkTS.H1 (a.1.Set,a.2)
def mkSy.r0(a:Ax×Int):AV:= .im (.int .i64 (syK a+3*a.1.Seed.Tiles.length))
def mkSy.pre(a:Ax×Int):Prop:=0<=a.2/\a.1.Set.Tiles.length<=1048576/\syK a+3*a.1.Seed.Tiles.length<=1099511627776
def mkSy.row:AB:=AF mkSy.ca mkSy.H0 2000001 mkSy.pre (λ_=>true) mkSy.r0 mkSy.H1 0
def mkSy.dom0(a:Ax×Int)(j:Nat):Ao (mkSy.H0 a) j=true↔j=2000000\/j<2+nT a.1.Set.Tiles:=by
 by_cases h:j=2000000
 .subst h;simp[Ao,mkSy.H0,hget]
 .have z:(2000000==j)=false:=by simpa using λq=>h q.symm
  have:Ao (mkSy.H0 a) j=Ao (mkTS.H0 (a.1.Set,a.2)) j:=by simp only[Ao,mkSy.H0,hget,z,BD]
  rw[this];simp only[mkTS.H0,I5,h,false_or]
def mkSy.hcl(a:Ax×Int): ∀p∈mkSy.H1 a,Ao (mkSy.H0 a) p.1=true/\ ∀m∈p.2.2.nms,Ao (mkSy.H0 a) m=true:=by
 intro p hp;simp only[mkSy.dom0];rcases Bk.1 hp with rfl|hp
 .exact⟨.inl rfl,λm z=>by simp[Ad.nms] at z⟩
 .have:=mkTS.hcl _ p hp
  simp only[mkTS.H0,I5] at this;exact⟨.inr this.1,λm z=> .inr (this.2 m z)⟩
def mkSy.hbel(a:Ax×Int):Aq 2000001 (mkSy.ca a)=true:=by simp[mkSy.ca,Aq,AV.bel]
def mkSy.hbH(a:Ax×Int):Ac 2000001 (mkSy.H0 a)=true:=by
 simp only[mkSy.H0,Ac];exact Nh (by have:=F8 a.1.Set.Tiles;simp only;omega) (λi=>by simp[Ac,FO])
def mkSy.hkH(a:Ax×Int):A9 2000001 (mkSy.H0 a)=true:=by
 simp only[mkSy.H0,A9]
 have:=pA (G:=a.1.Set.Glues) (a:=a.1.Set.Tiles) (k:=EU (a.1.Set,a.2)) (i:=0) (N:=2000001) (f:=FO a.1.Set.Tiles (EU (a.1.Set,a.2)) 0) (by have:=F8 a.1.Set.Tiles;omega)
 simp only[mkTS.H0,this,F6];simp
def mkSy.hnm(a:Ax×Int):BR (mkSy.H0 a) (mkSy.H0 a):=by
 refine cB λp hp m z=>(mkSy.dom0 _ _).2 ?_
 rcases Bk.1 hp with rfl|hp
 .simp[Ad.nms] at z
 .exact .inr (cK (λj=>by simp[FO,Ad.nms]) hp z)
def Va{G:List Ar}{rows:List (List AV)}{n:Nat}{f:Nat->Au}(i:Nat)(h:i<n):hget (Hx G rows n f) (2+i)=some (f i):=by
 simp only[Hx,hget,Bi _ _ (show 0≠2+i by omega),Bi _ _ (show 1≠2+i by omega),BD];exact HA _ _ _ _ h
def TP{h:Nat->Option Au}{kx:Nat->Option Nat}{m:Nat}{G:List Ar}{a:List Tile}{k:Int}{i:Nat}{f:Nat->Au}(h0:h 0=some (true,.arr 204 2 (G.map Ar.c)))(z:h 1=some (true,.arrA 206 2 (Ds a k i)))(O: ∀j,j<nT a->h (2+j)=some (f j))
 (hf: ∀j,Cy (Bd h kx (m+1)) (f j).2=some (f j).2)(Q: ∀j,j<nT a->kx (2+j)=some (2+j)):EW h (Bd h kx (m+1)) (Hx G (Ds a k i) (nT a) f):=by
 simp only[Hx,EW];refine⟨?_,?_,NH _ _ _ _ _ O (λj _=>hf j)⟩
 .rw[h0];exact⟨rfl,rfl⟩
 .rw[z];refine⟨rfl,?_⟩;simp only[Cy];rw[oZ Q];rfl
def mkSy.ok:AC Tryz.prog 21 mkSy.row:=by
 refine ow (tC mkTS.ok (tC mkAC.ok tN)) Tryz.func21 rfl (by kernel_rfl) (exB:=λ_=>false) (R:=λa r=>r=mkSy.r0 a) (λ_=>rfl)
  (λa=>⟨mkSy.hbel a,mkSy.hbH a,mkSy.hkH a,mkSy.hnm a⟩) (λa p hp=> ?_) (λa r h=>by subst h;exact CJ.refl _) ?_
 rotate_left
 intro a Z;simp only[Tryz.f21,mkSy.ca];simp(disch:=omega)only[ZA,simprocAttr];obtain⟨S,k⟩:=a;obtain⟨h1,h2,h3⟩:=Z;simp only at h1 h2 h3;simp only[BC,mkSy.H0];have hn:=F8 S.Set.Tiles;have hk:=Np S.Set.Tiles (EU (S.Set,k)) (by simp only[EU];omega) 0 S.Set.Tiles.length (by omega);have aa:0<=syK (S,k):=by simp only[syK];omega
 have hσ: ∀j,j<2+nT S.Set.Tiles->Cg (λj=>j) 2000000 2000002 j=j:=λj z=>An (by omega)
 have O:=λj=>(I5 S.Set.Glues (Ds S.Set.Tiles (EU (S.Set,k)) 0) (nT S.Set.Tiles) (FO S.Set.Tiles (EU (S.Set,k)) 0) j)
 refine AF.tau (S.Set,k) (λj=>j) ⟨h1,h2,by simp only[syK] at h3;simp only;omega⟩ (λ_ _=>rfl) (λj z=> ?_) (λi j _ _ h=>h) (mkTS.hcl _) ⟨?_,?_⟩ (by simp[mkTS.r0,AV.nms]) (λG hH1 Q=> ?_)
 .have z:=(O j).1 z;omega
 .simp only[mkTS.ca,AL,AV.ren,hσ 0 (by omega),hσ 1 (by omega)]
 .simp only[mkTS.H0,Hx,CO,hσ 0 (by omega),hσ 1 (by omega),Ad.ren];rw[Wb _ _ _ _ (λj z=>hσ _ (by omega))];refine⟨rfl,rfl,Wj λi hi=> ?_⟩;rw[hσ _ (by omega)];simp only[hget,Bi _ _ (show 2000001≠2+i by omega),Bi _ _ (show 2000000≠2+i by omega),Bi _ _ (show 0≠2+i by omega),Bi _ _ (show 1≠2+i by omega),BD];rw[HA _ _ _ _ hi];rfl
 have hu: ∀m,m=2000000\/m=2000001-> ∀j,Ao (mkTS.H0 (S.Set,k)) j=true->j≠m:=λm hm j z=>by
  have z:=(O j).1 z;omega
 have gs:hget G 2000000=some (true,.arr 137 3 (S.Seed.Tiles.map Al.c)):=by rw[Q _ (hu _ (.inl rfl))];rfl
 have gp:hget G 2000001=some (true,.cells 47 [.own 0,.own 1,.own 2000000,.im (.int .i64 S.Temperature)]):=by rw[Q _ (hu _ (.inr rfl))];rfl
 have g0:hget G 0=some (true,.arr 204 2 ((DG (gF k) S.Set.Glues.length).map Ar.c)):=hH1 0 _ rfl;have g1:hget G 1=some (true,.arrA 206 2 (Ds S.Set.Tiles (EU (S.Set,k)) (nT S.Set.Tiles))):=by
  rw[hH1 1 _ rfl];simp only[Ad.ren];rw[Wb _ _ _ _ (λj z=>hσ _ (by omega))]
 have g2: ∀j,j<nT S.Set.Tiles->hget G (2+j)=some (FO S.Set.Tiles (EU (S.Set,k)) (nT S.Set.Tiles) j):=λj z=>by
  have e:hget (mkTS.H1 (S.Set,k)) (2+j)=some (FO S.Set.Tiles (EU (S.Set,k)) (nT S.Set.Tiles) j):=Va j z;rw[hH1 (2+j) _ e];rfl
 have eK:ET S.Set.Tiles (EU (S.Set,k)) S.Set.Tiles.length=syK (S,k):=rfl;simp only[mkTS.r0,AV.ren,eK];simp(disch:=omega)only[ZA,simprocAttr,BC,gp]
 skip
 refine AF.os (S.Seed,syK (S,k)) [2000000] ⟨aa,h3⟩ (λj=> ?_) rfl rfl ?_ ?_
 .simp only[Ao,mkAC.H0,hget];by_cases z:j=0
  .subst z;simp
  .have:(0==j)=false:=by simpa using λh=>z h.symm
   rw[this];simp;omega
 .simp(disch:=omega)only[ZA,simprocAttr,DH,mkAC.ca,mkAC.H0,CO,Dj,gs]
  try exact⟨rfl,rfl⟩
 simp(disch:=omega)only[ZA,simprocAttr,DH,mkAC.H1,BC,Dj,EI,mkSy.r0,mkSy.H1];obtain⟨HX,hHX⟩: ∃HX,HX=hget ((2000000,(true,Ad.arr 137 3 (List.map Al.c (DG (pF (syK (S,k))) S.Seed.Tiles.length))))::Bl G [2000000]):=⟨_,rfl⟩;rw[<-hHX];have gx: ∀m,m≠2000000->HX m=hget G m:=λm hm=>by
  rw[hHX];simp only[hget,Bi _ _ (λh=>hm h.symm:2000000≠m),BD];exact NV _ _ _ (λh=>hm h.symm)
 refine⟨bY _ _,TP (by rw[gx 0 (by omega)];exact g0) (by rw[gx 1 (by omega)];exact g1) (λj z=>by simp only at z;rw[gx _ (by omega)];exact g2 j z) (λj=>rfl) (λj z=>Mg ?_)⟩;simp only at z
 have:=(mkSy.dom0 (S,k) (2+j)).2 (.inr (by simp only;omega))
 simpa only[mkSy.H0] using this
 obtain⟨q1,_⟩:=mkSy.hcl _ p hp
 have:=(mkSy.dom0 _ _).1 q1
 have:=F8 a.1.Set.Tiles
 exact .inl ⟨by omega,rfl,q1⟩
def H4(a:List Tile):Nat:=(a.map λx=>x.Sides.length).sum
def oS(y:Tile)(r:List Tile)(k:Int): ∀i,ET (y::r) k (i+1)=ET r (k+1+y.Sides.length) i
 |0=>rfl
 |i+1=>by
  rw[ET,oS y r k i,ET];rfl
def Nq: ∀(a:List Tile) (k:Int),ET a k a.length=k+a.length+H4 a
 |[],k=>by simp[ET,H4]
 |y::r,k=>by
  rw[CM,oS,Nq r];simp only[H4,Be,Ls];omega
def jV{n:Nat}{l:Int}(h:0<=Cz n l):Cz n l=l - n:=by
 simp only[Cz] at h⊢;split at h
 .omega
 .rename_i c;rw[Af c]
def oM: ∀(a:List Tile) (l:Int),0<=l->0<=Gd F1 a l->(H4 a:Int)+Gd F1 a l<=l
 |[],l,h0,_=>by simp[H4,Gd]
 |y::r,l,h0,h=>by
  simp only[Gd] at h⊢;by_cases c:F1 y l<0
  .rw[An c] at h;omega
  .rw[Af c] at h⊢;have z:0<=F1 y l:=by omega
   have G:0<=Cz y.Name.size l:=by
    simp only[F1] at z;split at z<;>omega
   have e:F1 y l=Cz y.Sides.length (Cz y.Name.size l):=by
    simp only[F1];rw[Af (by omega)]
   rw[e] at z h⊢;have q1:=WS G;have O:=jV z;have ih:=oM r _ z h;simp only[H4,Be,Ls] at ih⊢;omega
structure GW(s:Ax):Prop where
 g:s.Set.Glues.length<=1048576
 t:s.Set.Tiles.length<=1048576
 d:H4 s.Set.Tiles<=1048576
 p:s.Seed.Tiles.length<=1048576
def Zb{s:Ax}{l:Int}(Z: -1<=l)(aa:l<=1048576)(h:0<=lJ s l):GW s:=by
 have hb:=Qxk s.Set l Z;simp only[lJ] at h;split at h
 .omega
 rename_i c;obtain⟨a1,_,_⟩:=WS h;have z:0<=Rg s.Set l:=by omega
 have hg:=zZ s.Set.Glues l Z;simp only[Rg] at z;split at z
 .omega
 have G:0<=Hl s.Set.Glues l:=by omega
 have Q:0<=Cz s.Set.Glues.length l:=by
  simp only[Hl] at G;split at G<;>omega
 have O:0<=Cz s.Set.Tiles.length (Hl s.Set.Glues l):=by
  simp only[Ld] at z;split at z<;>omega
 have e:Ld s.Set.Tiles (Hl s.Set.Glues l)=Gd F1 s.Set.Tiles (Cz s.Set.Tiles.length (Hl s.Set.Glues l)):=by
  simp only[Ld];rw[Af (by omega)]
 rw[e] at z;obtain⟨b1,_,_⟩:=WS Q;obtain⟨d1,d2,_⟩:=WS O
 have:=oM s.Set.Tiles _ O z
 exact⟨by omega,by omega,by omega,by omega⟩
def jL{a:List Tile}{x:Tile}(h:x∈a):x.Sides.length<=H4 a:=by
 induction a with
 |nil=>cases h
 |cons y r ih=>
  simp only[H4,Be,Ls] at ih⊢;rcases Bk.1 h with rfl|h
  .omega
  .have:=ih h;omega
def GW.yx{s:Ax}(h:GW s):toYX.pre s:=⟨⟨by have:=h.g;omega,⟨h.t,λx z=>by have:=jL z;have:=h.d;omega⟩⟩,by have:=h.p;omega⟩
def GW.syK{s:Ax}(h:GW s){k:Int}(G:0<=k)(z:k<=1048576):0<=syK (s,k)/\Go.Ae.syK (s,k)+3*s.Seed.Tiles.length<=9437184:=by
 simp only[Go.Ae.syK,Nq,EU]
 have:=h.g;have:=h.t;have:=h.d;have:=h.p
 omega
def GW.mkp{s:Ax}(h:GW s){k:Int}(G:0<=k)(z:k<=1048576):mkSy.pre (s,k):=⟨G,h.t,by have:=(h.syK G z).2;simp only;omega⟩
structure EY(h:Nat->Option Au)(g t p f:Nat)(s:Ax):Prop where
 g:h g=some (true,.arr 204 2 (s.Set.Glues.map Ar.c))
 t:h t=some (true,.arrA 206 2 (HY f s.Set.Tiles))
 p:h p=some (true,.arr 137 3 (s.Seed.Tiles.map Al.c))
 f: ∀i,i<s.Set.Tiles.length->h (f+i)=some (E7 s.Set.Tiles i)
def Ve{h:Nat->Option Au}{n f:Nat}{a:List Tile}(hf: ∀i,i<a.length->h (f+i)=some (E7 a i)):A7 (A7 (bk h (n+1))) (HY f a)=some (a.map Tile.c):=by
 have e:a.map Tile.c=(List.range a.length).map λi=>((a[i]?.map Tile.c).getD []):=by
  apply Kj;intro i;rw[D1,D1];by_cases z:i<a.length
  .rw[Io z,Bj z];simp[z]
  .rw[FE (by omega),FE (by simp;omega)];rfl
 rw[e];refine V8 _ λi z=> ?_
 have z:=BA.1 z;have G:a[i]? =some a[i]:=Bj z;simp only[A7,bk,hf i z,E7,Lm,G,CQ,AM,Tile.c]
def EY.bk{h:Nat->Option Au}{g t p f n:Nat}{s:Ax}(hs:EY h g t p f s):Go.Ae.bk h (n+3) (.agg [.own g,.own t,.own p,.im (.int .i64 s.Temperature)])=some (.agg (Ax.c s)):=by
 simp only[Go.Ae.bk,A7,hs.g,hs.t,hs.p,Lm,Ve hs.f,CQ,Ax.c]
def EY.pk{h:Nat->Option Au}{g t p f:Nat}{s:Ax}(hs:EY h g t p f s):ER h (.agg [.own g,.own t,.own p,.im (.int .i64 s.Temperature)])=some (.val (.agg (Ax.c s))):=by
 simp only[ER,hs.bk (n:=6),Ft,CQ]
def vN.call{A:Type}{ar:List PK->Option A}{pre:A->Prop}{re:A->D}{args:List AV}{tm:List (Nat×AV)}{h:Aw}{nx:Nat}{dst:Option Nat}{Q:Aj->Prop}(ps:List PK)(O:KE (hget h) args=some (ps,[]))(a:A)(Z:ar ps=some a)(z:pre a)
 (G:Q ((⟨tm,h,nx⟩:Aj).put dst (.im (re a)))):Ec ar pre re args (hget h) nx (DP Q ⟨tm,h,nx⟩ dst):=by
 unfold Ec;rw[O];simp only[Zq,Z,El,Sr];refine⟨z,?_,?_⟩
 .rw[Bo.ok_nr];simp[AV.bel,Ac,Hp]
 .rw[Aj.app_nr,BC,Qm];exact G
def Vb(s:Ax):a1 (kR Ax.d) [.val (.agg (Ax.c s))]=some s:=by simp only[a1,kR,Ax.d_c,Ey]
def xO(s t:Ax):a2 (kR Ax.d) (kR Ax.d) [.val (.agg (Ax.c s)),.val (.agg (Ax.c t))]=some (s,t):=by simp only[a2,kR,Ax.d_c,Ey]
def TG(l m:List Ap):a2 (kS Ap.d) (kS Ap.d) [.val (.sl false 3 (l.map Ap.c)),.val (.sl false 3 (m.map Ap.c))]=some (l,m):=by simp only[a2,kS,Ap.d_R,Ey]
def wE(l m:List Int):a2 (kS Cq) (kS Cq) [.val (.sl false 1 (l.map Ai)),.val (.sl false 1 (m.map Ai))]=some (l,m):=by simp only[a2,kS,NT Wo,Ey]
def toYR.row:AB:=xD toSystem.row toYX.row
def toYR.ok:AC Tryz.prog 11 toYR.row:=KC toSystem.ok toYX.ok
def xV{s:Ax}(hs:GW s): ∀p∈toYX.H1 s,p.1<2000013/\ ∀m∈p.2.2.nms,m<2000013:=by
 have z:min s.Set.Tiles.length 1048576<=1048576:=fV _ _;have Z:=hs.t;intro p hp;simp only[toYX.H1,Bk,AU,Bt,BA] at hp;rcases hp with rfl|rfl|rfl|⟨i,Q,rfl⟩
 .exact⟨by omega,by simp[Ad.nms]⟩
 .refine⟨by omega,λm z=> ?_⟩;simp only[Ad.nms] at z;obtain⟨r,O,z⟩:=Gc.1 z;obtain⟨j,G,rfl⟩:=Bt.1 O
  have:=BA.1 G
  simp[AG,AV.nms] at z;omega
 .exact⟨by omega,by simp[Ad.nms]⟩
 .exact⟨by simp only;omega,by simp[E7,Ad.nms]⟩
def EY.mono{h h':Nat->Option Au}{g t p f:Nat}{s:Ax}(hs:EY h g t p f s)(z: ∀m,(m=g\/m=t\/m=p\/(f<=m/\m<f+s.Set.Tiles.length))->h' m=h m):EY h' g t p f s:=
 ⟨by rw[z g (.inl rfl)];exact hs.g,by rw[z t (.inr (.inl rfl))];exact hs.t,by rw[z p (.inr (.inr (.inl rfl)))];exact hs.p,λi G=>by rw[z _ (.inr (.inr (.inr ⟨by omega,by omega⟩)))];exact hs.f i G⟩
def xU{s:Ax}(hs:GW s){nx:Nat}{z:Aw}(h: ∀j e,hget (toYX.H1 s) j=some e->hget z (nx+j)=some (e.1,e.2.ren λj=>nx+j)):EY (hget z) (nx+7) (nx+9) (nx+2000012) (nx+10) s:=by
 have Q:=hs.t;have O:min s.Set.Tiles.length 1048576=s.Set.Tiles.length:=by omega
 refine⟨h 7 _ rfl,?_,h 2000012 _ rfl,λi G=> ?_⟩
 .rw[h 9 _ rfl];simp only[Ad.ren];congr 3;simp only[HY,Rk];refine Og λi G=> ?_
  simp only[Function.comp,AL,AV.ren];rw[Ql]
 .have e:hget (toYX.H1 s) (10+i)=some (E7 s.Set.Tiles i):=by
   simp only[toYX.H1,hget,Bi _ _ (show 7≠10+i by omega),Bi _ _ (show 9≠10+i by omega),Bi _ _ (show 2000012≠10+i by omega),BD];rw[O];exact HA _ _ _ _ G
  rw[Ql,h _ _ e];rfl
def QB{H:Aw}(e:Au)(k m:Nat)(h:k≠m):hget ((k,e)::Bl H [k]) m=hget H m:=by
 simp only[hget,Bi _ _ h,BD];exact NV _ _ _ h
def Pg{h:Nat->Option Au}{x y:AV}{p q:PK}(z:ER h x=some p)(G:ER h y=some q):C7 h [x,y]=some [p,q]:=by simp only[C7,z,G,I1]
def JM{h:Nat->Option Au}{o T k:Nat}{z:Bool}{rows:List (List D)}(g:h o=some (z,.arr T k rows)):ER h (.own o)=some (.val (.sl false k rows)):=by simp only[ER,bk,g,Lm,Ft,CQ]
def oN: ∀l:List Nat,J3 l []=true
 |[]=>rfl
 |x::r=>by simp[J3,oN r]
def JO:List Fp->Bool
 |[]=>true
 |f::r=>f.touch.isEmpty && JO r
def bS(cl:List (List Nat))(i:Nat)(use:List Nat): ∀acc:List Fp,JO acc=true->I3 cl i use [] [] acc=true
 |[],_=>rfl
 |f::r,h=>by
  simp only[JO,AR,List.isEmpty_iff] at h;simp only[I3,mO,h.1,D2,oN,J3,Gw,fR,Ck,bS cl i use r h.2]
def vN.callA{A:Type}{ar:List PK->Option A}{pre:A->Prop}{re:A->D}{args:List AV}{tm:List (Nat×AV)}{h:Aw}{nx:Nat}{dst:Option Nat}{Q:Vx}{cl:List (List Nat)}{i:Nat}{acc:List Fp}(ps:List PK)(O:KE (hget h) args=some (ps,[]))(a:A)(Z:ar ps=some a)(z:pre a)(hq:JO acc=true)
 (G: ∀u,Q (⟨i,u,[],nx,0⟩::acc) ((⟨tm,h,nx⟩:Aj).put dst (.im (re a)))):Ec ar pre re args (hget h) nx (NM cl i acc Q ⟨tm,h,nx⟩ dst):=by
 unfold Ec;rw[O];simp only[Zq,Z,El,Sr];refine⟨z,?_,?_,?_⟩
 .rw[Bo.ok_nr];simp[AV.bel,Ac,Hp]
 .exact bS _ _ _ _ hq
 .rw[Aj.app_nr,BC,Qm];exact G _
def vF.callA{A:Type}{ar:List PK->Option A}{pre:A->Prop}{re:A->D}{args:List AV}{tm:List (Nat×AV)}{h:Aw}{nx:Nat}{dst:Option Nat}{Q:Vx}{cl:List (List Nat)}{i:Nat}{acc:List Fp}(ps:List PK)(O:C7 (hget h) args=some ps)(a:A)(Z:ar ps=some a)(z:pre a)(hq:JO acc=true)
 (G: ∀u,Q (⟨i,u,[],nx,0⟩::acc) ((⟨tm,h,nx⟩:Aj).put dst (.im (re a)))):Lg ar pre re args (hget h) nx (NM cl i acc Q ⟨tm,h,nx⟩ dst):=by
 unfold Lg;rw[O];simp only[WA,Z,El];refine⟨z,?_,?_,?_⟩
 .rw[Bo.ok_nr];simp[AV.bel,Ac,Hp]
 .exact bS _ _ _ _ hq
 .rw[Aj.app_nr,BC,Qm];exact G _
def OQ{N nx:Nat}{tm:List (Nat×AV)}{h:Aw}{dst:Option Nat}{go:Aj->Prop}{s:Ax}{k:Int}(hB:GW s)(hk:0<=k)(ac:k<=1048576)(Z:EY (hget h) (N+7) (N+9) (N+2000012) (N+10) s)(ad:N+2000013<=nx)
 (ab: ∀Q:Aw,(∀m,m<N+7\/N+2000013<=m->hget Q m=hget h m)->go ((⟨tm,Q,nx⟩:Aj).put dst (.im (.int .i64 (syK (s,k)+3*s.Seed.Tiles.length))))):
 mkSy.row [.agg [.own (N+7),.own (N+9),.own (N+2000012),.im (.int .i64 s.Temperature)],.im (.int .i64 k)] (hget h) nx (DP go ⟨tm,h,nx⟩ dst):=by
 have ht:=hB.t;have hn:=F8 s.Set.Tiles;have O:nT s.Set.Tiles=s.Set.Tiles.length:=by simp only[nT];omega
 obtain⟨τ,hτ⟩: ∃τ:Nat->Nat,τ=λj=>if j=2000000 then N+2000012 else if j=0 then N+7 else N+8+j:=⟨_,rfl⟩
 have t0:τ 0=N+7:=by rw[hτ];rfl
 have t1:τ 1=N+9:=by rw[hτ];rfl
 have t2: ∀j,j<1048576->τ (2+j)=N+10+j:=λj z=>by rw[hτ];simp only;rw[Af (by omega),Af (by omega)];omega
 have tp:τ 2000000=N+2000012:=by rw[hτ];exact An rfl
 have hσ: ∀j,j<2000001->Cg τ 2000001 nx j=τ j:=λj z=>An z
 have d0: ∀j,Ao (mkSy.H0 (s,k)) j=true->j=2000000\/j<2+s.Set.Tiles.length:=λj z=>by
  have:=(mkSy.dom0 _ _).1 z
  simp only[O] at this;exact this
 have rg: ∀j,Ao (mkSy.H0 (s,k)) j=true->N+7<=τ j/\τ j<N+2000013:=λj z=>by
  rcases d0 j z with rfl|z
  .rw[tp];omega
  .rw[hτ];simp only;rw[Af (by omega)]
   split<;>omega
 refine AF.tau (s,k) τ (hB.mkp hk ac) (λ_ _=>rfl) (λj z=> ?_) (λi j G z h=> ?_) (mkSy.hcl _) ⟨?_,?_⟩ (by simp[mkSy.r0,AV.nms]) (λQ _ aa=> ?_)
 .have h1:=d0 j z;have h2:=rg j z;omega
 .have h1:=d0 i G;have h2:=d0 j z;have tv: ∀j,(j=2000000/\τ j=N+2000012)\/(j=0/\τ j=N+7)\/(j≠2000000/\j≠0/\τ j=N+8+j):=λj=>by
   rw[hτ];simp only;split
   .exact .inl ⟨by assumption,rfl⟩
   split
   .exact .inr (.inl ⟨by assumption,rfl⟩)
   .exact .inr (.inr ⟨by assumption,by assumption,rfl⟩)
  have v1:=tv i;have v2:=tv j;omega
 .simp only[mkSy.ca,AL,AV.ren,hσ 0 (by omega),hσ 1 (by omega),hσ 2000000 (by omega),t0,t1,tp]
 .simp only[mkSy.H0,mkTS.H0,Hx,CO,hσ 0 (by omega),hσ 1 (by omega),hσ 2000000 (by omega),t0,t1,tp,Ad.ren];refine⟨Z.p,Z.g,?_,Wj λi G=> ?_⟩
  .rw[Z.t];congr 3;simp only[HY,Ds,Rk,O];refine Og λi G=> ?_
   have G:=BA.1 G;simp only[Function.comp,Fw,mG,CH,Iy,AL,AV.ren];rw[hσ _ (by omega),t2 i (by omega)]
  .rw[O] at G;rw[hσ _ (by omega),t2 i (by omega),Z.f i G];rfl
 exact ab Q λm hm=>aa m λj z=>by have:=rg j z;omega
def mkOC.d0(a:List Ap×Int)(j:Nat)(z:Ao (mkOC.H0 a) j=true):j=0:=by
 simp only[Ao,mkOC.H0,hget] at z;by_cases h:j=0
 .exact h
 .rw[Bi _ _ (λq=>h q.symm)] at z;cases z
def OP{nx o:Nat}{tm:List (Nat×AV)}{h:Aw}{dst:Option Nat}{go:Aj->Prop}{l:List Ap}{k:Int}(hk:0<=k)(Z:k+3*l.length<=1099511627776)(hS:hget h o=some (true,.arr 108 3 (l.map Ap.c)))(aa:o<nx)
 (Q: ∀G:Aw,(∀j e,hget (mkOC.H1 (l,k)) j=some e->hget G o=some (e.1,e.2.ren (Cg (λ_=>o) 1 nx)))->(∀m,m≠o->hget G m=hget h m)->go ((⟨tm,G,nx⟩:Aj).put dst (.im (.int .i64 (k+3*l.length))))):
 mkOC.row [.own o,.im (.int .i64 k)] (hget h) nx (DP go ⟨tm,h,nx⟩ dst):=by
 refine AF.tau (l,k) (λ_=>o) ⟨hk,Z⟩ (λj z=>by rw[mkOC.d0 _ j z];rfl) (λj z=>⟨by rw[mkOC.d0 _ j z];omega,aa⟩) (λi j hi z _=>by rw[mkOC.d0 _ i hi,mkOC.d0 _ j z]) (λp hp=> ?_) ⟨rfl,hS,trivial⟩ (by simp[AV.nms]) (λG hH1 O=>Q G hH1 λm hm=>O m λj z h=>hm h.symm);simp only[mkOC.H1,BJ] at hp;subst hp;exact⟨rfl,λm hm=>by simp[Ad.nms] at hm⟩
def mkIC.d0(a:List Int×Int)(j:Nat)(z:Ao (mkIC.H0 a) j=true):j=0:=by
 simp only[Ao,mkIC.H0,hget] at z;by_cases h:j=0
 .exact h
 .rw[Bi _ _ (λq=>h q.symm)] at z;cases z
def ON{nx o:Nat}{tm:List (Nat×AV)}{h:Aw}{dst:Option Nat}{go:Aj->Prop}{l:List Int}{k:Int}(hk:0<=k)(Z:k+l.length<=1099511627776)(hS:hget h o=some (true,.arr 2 1 (l.map Ai)))(aa:o<nx)
 (Q: ∀G:Aw,(∀j e,hget (mkIC.H1 (l,k)) j=some e->hget G o=some (e.1,e.2.ren (Cg (λ_=>o) 1 nx)))->(∀m,m≠o->hget G m=hget h m)->go ((⟨tm,G,nx⟩:Aj).put dst (.im (.int .i64 (k+l.length))))):
 mkIC.row [.own o,.im (.int .i64 k)] (hget h) nx (DP go ⟨tm,h,nx⟩ dst):=by
 refine AF.tau (l,k) (λ_=>o) ⟨hk,Z⟩ (λj z=>by rw[mkIC.d0 _ j z];rfl) (λj z=>⟨by rw[mkIC.d0 _ j z];omega,aa⟩) (λi j hi z _=>by rw[mkIC.d0 _ i hi,mkIC.d0 _ j z]) (λp hp=> ?_) ⟨rfl,hS,trivial⟩ (by simp[AV.nms]) (λG hH1 O=>Q G hH1 λm hm=>O m λj z h=>hm h.symm);simp only[mkIC.H1,BJ] at hp;subst hp;exact⟨rfl,λm hm=>by simp[Ad.nms] at hm⟩
def needX.pre(a:Cl):Prop:=(∀o∈a.Seq,FB o.At)/\a.Inputs.length=a.Seq.length/\a.Seq.length<=500
structure Q3(h:Nat->Option Au)(o b:Nat)(M:List (List Int)):Prop where
 r:h o=some (true,.arrA 32 1 (De b M.length))
 f: ∀i,i<M.length->h (b+i)=some (true,.arr 2 1 ((M[i]?.getD []).map Ai))
def Q3.mono{h h':Nat->Option Au}{o b:Nat}{M:List (List Int)}(hs:Q3 h o b M)(z: ∀m,(m=o\/(b<=m/\m<b+M.length))->h' m=h m):Q3 h' o b M:=
 ⟨by rw[z o (.inl rfl)];exact hs.r,λi G=>by rw[z _ (.inr ⟨by omega,by omega⟩)];exact hs.f i G⟩
def Q3.pk{h:Nat->Option Au}{o b:Nat}{M:List (List Int)}(hs:Q3 h o b M):ER h (.own o)=some (.val (.sl false 1 (M.map CG))):=by
 have e:A7 (A7 (bk h 8)) (De b M.length)=some (M.map CG):=by
  have G:M.map CG=(List.range M.length).map λi=>CG (M[i]?.getD []):=by
   apply Kj;intro i;rw[D1,D1];by_cases z:i<M.length
   .rw[Io z,Bj z];simp[z]
   .rw[FE (by omega),FE (by simp;omega)];rfl
  rw[G];refine V8 _ λi z=> ?_
  have z:=BA.1 z;simp only[A7,bk,hs.f i z,Lm,CG]
 simp only[ER,bk,hs.r,Lm,e,CQ,Ft]
def W4{A:Type}(f:Nat->A)(n:Nat):(DG f n).length=n:=by simp[DG]
def NK(l:List Ap)(k:Int):Int:=if l=DG (oF k) l.length then k+3*l.length else -1
def SE(k:Int)(n:Nat):NK (DG (oF k) n) k=k+3*n:=by
 simp only[NK,W4,BM]
def rE{A:Type}(f:Nat->A)(n:Nat):DG f (n+1)=DG f n++[f n]:=by simp[DG,mF]
def Ny{A:Type}{f:Nat->A}{n i:Nat}(h:i<n):(DG f n)[i]? =some (f i):=by simp only[DG,D1];rw[Io h];rfl
def heldO_.fv(a:(List Ap)×Int):Int:=(NK) (a.1) (a.2)
def heldO_.row:AB:=Dg (b2 (qS Ap.d_le Ap.c_n) qI) rI (λa=>0<=a.2/\a.2+3*a.1.length<=1099511627776) heldO_.fv
def heldO_.ok:AC Tryz.prog 26 heldO_.row:=by
 refine G1 tN Tryz.func26 rfl (by kernel_rfl) ?_;intro a z;simp only[Tryz.f26];simp(disch:=omega)only[ZA,simprocAttr,heldO_.fv];obtain⟨l,k⟩:=a;simp only at z⊢;obtain⟨h1,h2⟩:=z;refine AQ.old ⟨{i:Nat//i<=l.length/\l.take i=DG (oF k) i},λi=>⟨[(5,.im (.int .i64 i.1)),(4,.im (.int .i64 0)),(1,.im (.int .i64 (k+3*i.1))),(0,.im (.sl false 3 (l.map Ap.c)))],[],0⟩,λi=>l.length - i.1,λi=>⟨by simp[Aj.good,Am,Ac,A9,AV.bel],by simp⟩,⟨⟨0,by simp[DG]⟩,by simp(disch:=omega)only[ZA,simprocAttr,sub];simp⟩,λi=> ?_⟩;obtain⟨i,ab,G⟩:=i;simp(disch:=omega)only[ZA,simprocAttr,D.sc,D.scs,B4,sub,AO];intro _;have w1:IntKind.i64.wrap (k+3*(i:Int)+1)=k+3*(i:Int)+1\/ ¬i<l.length:=by
  by_cases c:i<l.length
  .exact .inl (AH (by omega) (by omega))
  .exact .inr c
 refine⟨λQ=>⟨Q,λx Z=> ?_⟩,λQ=> ?_⟩
 .have w1:IntKind.i64.wrap (k+3*(i:Int)+1)=k+3*(i:Int)+1:=AH (by omega) (by omega);have w2:IntKind.i64.wrap (k+3*(i:Int)+1+1)=k+3*(i:Int)+2:=(AH (by omega) (by omega)).trans (by omega);have w3:IntKind.i64.wrap (k+3*(i:Int)+2+1)=k+3*((i+1:Nat):Int):=(AH (by omega) (by omega)).trans (by omega);simp only[w1,w2,w3];have O:x≠oF k i-> -1=NK l k:=λc=>by
   simp only[NK];rw[Af λh=> ?_];rw[h,Ny Q] at Z;exact c (AD Z).symm
  refine⟨λc=>O λh=>c (by rw[h];rfl),λc1=>⟨Q,λy hy=> ?_⟩⟩;obtain rfl:x=y:=AD (Z.symm.trans hy);refine⟨λc=>O λh=>c (by rw[h];rfl),λc2=>⟨Q,λy hy=> ?_⟩⟩;obtain rfl:x=y:=AD (Z.symm.trans hy);refine⟨λc=>O λh=>c (by rw[h];rfl),λc3=>⟨⟨i+1,by omega,?_⟩,by simp only;omega,by rw[AH (by omega) (by omega)];simp only;omega,rfl⟩⟩;have e:x=oF k i:=by
   obtain⟨⟨u,v⟩,t⟩:=x;simp only[GA] at c1 c2 c3;simp only[oF,c1,c2,c3]
  rw[Ll Z,G,rE,e]
 .have aa:i=l.length:=by omega
  subst aa;rw[GC] at G;simp only[NK];rw[An G]
def totO(M:List (List Ap)):Nat:=(M.map List.length).sum
def mkOO.pre(a:List (List Ap)×Int):Prop:=a.1.length<=1048576/\0<=a.2/\a.2+3*totO a.1<=1099511627776
def GL(l:List Al)(k:Int):Int:=if l=DG (pF k) l.length then k+3*l.length else -1
def SF(k:Int)(n:Nat):GL (DG (pF k) n) k=k+3*n:=by
 simp only[GL,W4,BM]
def heldP_.fv(a:(List Al)×Int):Int:=(GL) (a.1) (a.2)
def heldP_.row:AB:=Dg (b2 (qS Al.d_le Al.c_n) qI) rI (λa=>0<=a.2/\a.2+3*a.1.length<=1099511627776) heldP_.fv
def heldP_.q:=DS (R:=heldP_.row) rfl
def heldP_.ok:AC Tryz.prog 63 heldP_.row:=by
 refine G1 tN Tryz.func63 rfl (by kernel_rfl) ?_;intro a z;simp only[Tryz.f63];simp(disch:=omega)only[ZA,simprocAttr,heldP_.fv];obtain⟨l,k⟩:=a;simp only at z⊢;obtain⟨h1,h2⟩:=z;refine AQ.old ⟨{i:Nat//i<=l.length/\l.take i=DG (pF k) i},λi=>⟨[(5,.im (.int .i64 i.1)),(4,.im (.int .i64 0)),(1,.im (.int .i64 (k+3*i.1))),(0,.im (.sl false 3 (l.map Al.c)))],[],0⟩,λi=>l.length - i.1,λi=>⟨by simp[Aj.good,Am,Ac,A9,AV.bel],by simp⟩,⟨⟨0,by simp[DG]⟩,by simp(disch:=omega)only[ZA,simprocAttr,sub];simp⟩,λi=> ?_⟩;obtain⟨i,ab,G⟩:=i;simp(disch:=omega)only[ZA,simprocAttr,D.sc,D.scs,B4,sub,AO];intro _;refine⟨λQ=>⟨Q,λx Z=> ?_⟩,λQ=> ?_⟩
 .have w1:IntKind.i64.wrap (k+3*(i:Int)+1)=k+3*(i:Int)+1:=AH (by omega) (by omega);have w2:IntKind.i64.wrap (k+3*(i:Int)+1+1)=k+3*(i:Int)+2:=(AH (by omega) (by omega)).trans (by omega);have w3:IntKind.i64.wrap (k+3*(i:Int)+2+1)=k+3*((i+1:Nat):Int):=(AH (by omega) (by omega)).trans (by omega);simp only[w1,w2,w3];have O:x≠pF k i-> -1=GL l k:=λc=>by
   simp only[GL];rw[Af λh=> ?_];rw[h,Ny Q] at Z;exact c (AD Z).symm
  refine⟨λc=>O λh=>c (by rw[h];rfl),λc1=>⟨Q,λy hy=> ?_⟩⟩;obtain rfl:x=y:=AD (Z.symm.trans hy);refine⟨λc=>O λh=>c (by rw[h];rfl),λc2=>⟨Q,λy hy=> ?_⟩⟩;obtain rfl:x=y:=AD (Z.symm.trans hy);refine⟨λc=>O λh=>c (by rw[h];rfl),λc3=>⟨⟨i+1,by omega,?_⟩,by simp only;omega,by rw[AH (by omega) (by omega)];simp only;omega,rfl⟩⟩;have e:x=pF k i:=by
   obtain⟨⟨u,v⟩,t⟩:=x;simp only[GA] at c1 c2 c3;simp only[pF,c1,c2,c3]
  rw[Ll Z,G,rE,e]
 .have aa:i=l.length:=by omega
  subst aa;rw[GC] at G;simp only[GL];rw[An G]
def OH(x:List Al)(k:Int):GL x k=k+3*x.length\/GL x k= -1:=by
 simp only[GL];split
 .exact .inl rfl
 .exact .inr rfl
def heldA_.fv(a:Ak×Int):Int:=(λa k=>GL a.Tiles k) (a.1) (a.2)
def heldA_.row:AB:=Dg (b2 (qR Ak.d_le) qI) rI (λa=>0<=a.2/\a.2+3*a.1.Tiles.length<=1099511627776) heldA_.fv
def heldA_.ok:AC Tryz.prog 27 heldA_.row:=by
 refine G1 (tC heldP_.ok tN) Tryz.func27 rfl (by kernel_rfl) ?_;intro a z;simp only[Tryz.f27];simp(disch:=omega)only[ZA,simprocAttr,C8,heldA_.fv,heldP_.q,heldP_.fv,D.sc,D.scs,B4];obtain⟨⟨x⟩,k⟩:=a;obtain⟨G,O⟩:=z;simp only at G O⊢;refine⟨⟨G,O⟩,?_⟩;rcases OH x k with h|h
 .rw[Af (by omega)];trivial
 .rw[An (by omega)];exact h.symm
def eqAsmF.fv(a:Ak×Ak):Bool:=(λa b=>decide (a=b)) (a.1) (a.2)
def eqAsmF.row:AB:=Dg (b2 (qR Ak.d_le) (qR Ak.d_le)) rB (λa=>True) eqAsmF.fv
def eqAsmF.ok:AC Tryz.prog 17 eqAsmF.row:=by
 refine G1 (tC eqPlacedS.ok tN) Tryz.func17 rfl (by kernel_rfl) ?_;intro a z;simp only[Tryz.f17];simp(disch:=omega)only[ZA,simprocAttr,eqAsmF.fv,eqPlacedS.q,eqPlacedS.fv,D.sc,D.scs,B4];obtain⟨⟨x⟩,⟨y⟩⟩:=a;simp only[Ak.mk.injEq]
 grind
def Jg{h:Nat->Option Au}{n:Nat}{a:Ak}(hn:h n=some (true,.arr 137 3 (a.Tiles.map Al.c))):ER h (.agg [.own n])=some (.val (.agg (Ak.c a))):=by
 simp only[ER,bk,A7,hn,Lm,CQ,Ft,Ak.c]
def Rv(a b:Ak):a2 (kR Ak.d) (kR Ak.d) [.val (.agg (Ak.c a)),.val (.agg (Ak.c b))]=some (a,b):=by simp only[a2,kR,Ak.d_c,Ey]
def OM{nx o:Nat}{tm:List (Nat×AV)}{h:Aw}{dst:Option Nat}{go:Aj->Prop}{a:Ak}{k:Int}(hk:0<=k)(Z:k+3*a.Tiles.length<=1099511627776)(hS:hget h o=some (true,.arr 137 3 (a.Tiles.map Al.c)))(aa:o<nx)
 (Q: ∀G:Aw,hget G o=some (true,.arr 137 3 ((DG (pF k) a.Tiles.length).map Al.c))->(∀m,m≠o->hget G m=hget h m)->go ((⟨tm,G,nx⟩:Aj).put dst (.im (.int .i64 (k+3*a.Tiles.length))))):
 mkAC.row [.agg [.own o],.im (.int .i64 k)] (hget h) nx (DP go ⟨tm,h,nx⟩ dst):=by
 have hd: ∀j,Ao (mkAC.H0 (a,k)) j=true->j=0:=λj z=>by
  simp only[Ao,mkAC.H0,hget] at z;by_cases h:j=0
  .exact h
  .rw[Bi _ _ (λq=>h q.symm)] at z;cases z
 refine AF.tau (a,k) (λ_=>o) ⟨hk,Z⟩ (λj z=>by rw[hd j z];rfl) (λj z=>⟨by rw[hd j z];omega,aa⟩) (λi j hi z _=>by rw[hd i hi,hd j z]) (λp hp=> ?_) ⟨rfl,hS,trivial⟩ (by simp[AV.nms]) (λG hH1 O=>Q G (hH1 0 _ rfl) λm hm=>O m λj z h=>hm h.symm);simp only[mkAC.H1,BJ] at hp;subst hp;exact⟨rfl,λm hm=>by simp[Ad.nms] at hm⟩
def pg{H H':Aw}{k m:Nat}{e:Au}{x:Option Au}(z:(k,e)::Bl H [k]=H')(h:k≠m)(g:hget H m=x):hget H' m=x:=by subst z;exact (QB _ _ _ h).trans g
section
variable {A B:Type}{k:AK A}{r:RK B}{pre:A->Prop}{f:A->B}{args:List AV}{tm:List (Nat×AV)}{h:Aw}{nx:Nat}{dst:Option Nat}
def vK.call{Q:Aj->Prop}(ps:List PK)(O:KE (hget h) args=some (ps,[]))(a:A)(Z:k.r ps=some a)(z:pre a)(G:Q ((⟨tm,h,nx⟩:Aj).put dst (.im (r.e (f a))))):vK k r pre f args (hget h) nx (DP Q ⟨tm,h,nx⟩ dst):=vN.call ps O a Z z G
def Dg.call{Q:Aj->Prop}(ps:List PK)(O:C7 (hget h) args=some ps)(a:A)(Z:k.r ps=some a)(z:pre a)(G:Q ((⟨tm,h,nx⟩:Aj).put dst (.im (r.e (f a))))):Dg k r pre f args (hget h) nx (DP Q ⟨tm,h,nx⟩ dst):=vF.call ps O a Z z G
def vK.callA{Q:Vx}{cl:List (List Nat)}{i:Nat}{acc:List Fp}(ps:List PK)(O:KE (hget h) args=some (ps,[]))(a:A)(Z:k.r ps=some a)(z:pre a)(hq:JO acc=true)(G: ∀u,Q (⟨i,u,[],nx,0⟩::acc) ((⟨tm,h,nx⟩:Aj).put dst (.im (r.e (f a))))):vK k r pre f args (hget h) nx (NM cl i acc Q ⟨tm,h,nx⟩ dst):=vN.callA ps O a Z z hq G
def Dg.callA{Q:Vx}{cl:List (List Nat)}{i:Nat}{acc:List Fp}(ps:List PK)(O:C7 (hget h) args=some ps)(a:A)(Z:k.r ps=some a)(z:pre a)(hq:JO acc=true)(G: ∀u,Q (⟨i,u,[],nx,0⟩::acc) ((⟨tm,h,nx⟩:Aj).put dst (.im (r.e (f a))))):Dg k r pre f args (hget h) nx (NM cl i acc Q ⟨tm,h,nx⟩ dst):=vF.callA ps O a Z z hq G
end
def Ni(s:Ax)(l:List Int):a2 (kR Ax.d) (kS Cq) [.val (.agg (Ax.c s)),.val (.sl false 1 (l.map Ai))]=some (s,l):=by simp only[a2,kR,kS,Ax.d_c,NT Wo,Ey]
def SJ(l:List Int):a1 (kS Cq) [.val (.sl false 1 (l.map Ai))]=some l:=by simp only[a1,kS,NT Wo,Ey]
def aW(l:List Ap)(k:Int):a2 (kS Ap.d) kI [.val (.sl false 3 (l.map Ap.c)),.val (.int .i64 k)]=some (l,k):=by simp only[a2,kS,kI,Ap.d_R,Ey]
def aE(a:Ak)(k:Int):a2 (kR Ak.d) kI [.val (.agg (Ak.c a)),.val (.int .i64 k)]=some (a,k):=by simp only[a2,kR,kI,Ak.d_c,Ey]
def toIR.row:AB:=xD toInt64S.row toIX.row
def toIR.ok:AC Tryz.prog 14 toIR.row:=KC toInt64S.ok toIX.ok
def wG(l:List Int): ∀p∈toIX.H1 l,p.1<2/\ ∀m∈p.2.2.nms,m<2:=by
 intro p hp;simp only[toIX.H1,BJ] at hp;subst hp;exact⟨by omega,by simp[Ad.nms]⟩
def S8(w:List Ap×Ak×Int): ∀p∈Hw w,p.1<20/\ ∀m∈p.2.2.nms,m<20:=by
 intro p hp;simp only[Hw,Bk,mK,gB] at hp;rcases hp with rfl|rfl
 .exact⟨by omega,by simp[Ad.nms]⟩
 .exact⟨by omega,by simp[Ad.nms]⟩
def K0(w:List Ap×Ak×Int): ∀m∈(Hv w).nms,m<20:=by simp[Hv,AV.nms,AG]
def iC(w:List Ap×Ak×Int): ∀p∈Hw w,p.1<20/\p.2.1=true/\JC p.2.2=true/\ ∀m∈p.2.2.nms,m<20:=by
 intro p hp;simp only[Hw,Bk,mK,gB] at hp;rcases hp with rfl|rfl
 .exact⟨by omega,rfl,by simp[JC,Ap.c,D.sc],by simp[Ad.nms]⟩
 .exact⟨by omega,rfl,by simp[JC,Al.c,D.sc],by simp[Ad.nms]⟩
def iB(w:List Ap×Ak×Int):Ix (Hv w)=true/\ ∀m∈(Hv w).nms,m<20:=⟨by simp[Hv,Ix,Eu,D.sc],K0 w⟩
def grV.ar:List PK->Option (Ax×List Int):=a2 (kR Ax.d) (kS Cq)
def ouC(l:List Ap)(ins:List Int)(i:Nat)(p:Ab)(d k:Nat):Bool:=decide (i<k) && (decide (l[k]?.map Ap.At=some (Bs p d)) && Ep (ins[k]?.getD 0) (((d:Int)+2) % 4))
def Es(l:List Ap)(ins:List Int)(i:Nat)(p:Ab)(d:Nat):Nat->Bool
 |0=>false
 |k+1=>Es l ins i p d k||ouC l ins i p d k
def JA(l:List Ap)(ins:List Int)(i:Nat)(p:Ab)(d:Nat):Bool:=Es l ins i p d l.length
def Ed(l:List Ap)(ins:List Int)(i:Nat)(p:Ab):Nat->Int
 |0=>0
 |d+1=>Ed l ins i p d+BN (JA l ins i p d) d
def QE{l:List Ap}{ins:List Int}{i:Nat}{p:Ab}{d:Nat}: ∀{n:Nat},Es l ins i p d n=true↔ ∃k,k<n/\ouC l ins i p d k=true
 |0=>by simp[Es]
 |n+1=>by
  simp only[Es,GY,QE (n:=n)];constructor
  .rintro (⟨k,G,z⟩|h)
   .exact⟨k,by omega,z⟩
   .exact⟨n,by omega,h⟩
  .rintro⟨k,G,z⟩;by_cases O:k=n
   .subst O;exact .inr z
   .exact .inl ⟨k,by omega,z⟩
def H5{l:List Ap}{ins:List Int}{i:Nat}{p:Ab}{d k:Nat}:ouC l ins i p d k=true↔i<k/\l[k]?.map Ap.At=some (Bs p d)/\Ep (ins[k]?.getD 0) (((d:Int)+2) % 4)=true:=by
 simp only[ouC,AR,BK]
def Xm{l:List Ap}(hd:(l.map Ap.At).Nodup){q:Ab}{j k:Nat}(z:l[j]?.map Ap.At=some q)(G:l[k]?.map Ap.At=some q):j=k:=by
 have a1:=dH hd z;have a2:=dH hd G;omega
def Yx{l:List Ap}{ins:List Int}{i:Nat}{p:Ab}{d k:Nat}(hd:(l.map Ap.At).Nodup)(h:ouC l ins i p d k=true):Es l ins i p d k=false:=by
 cases hb:Es l ins i p d k with
 |false=>rfl
 |true=>
  exfalso;obtain⟨j,G,z⟩:=QE.1 hb
  have:=Xm hd (H5.1 z).2.1 (H5.1 h).2.1
  omega
def qO{l:List Ap}{ins:List Int}{i:Nat}{p:Ab}{d k:Nat}(hd:(l.map Ap.At).Nodup):BN (Es l ins i p d (k+1)) d=BN (Es l ins i p d k) d+(if ouC l ins i p d k=true then 2^d else 0):=by
 simp only[Es];by_cases h:ouC l ins i p d k=true
 .rw[Yx hd h,h,An rfl];simp[BN]
 .rw[Af h];rw[Lq] at h;rw[h];simp
def TL{l:List Ap}{ins:List Int}{i:Nat}{p:Ab}{d:Nat}: ∀{k:Nat},k<=i+1->Es l ins i p d k=false:=by
 intro k O;cases hb:Es l ins i p d k with
 |false=>rfl
 |true=>
  exfalso;obtain⟨j,G,z⟩:=QE.1 hb
  have:=(H5.1 z).1
  omega
def Yw{l:List Ap}{ins:List Int}{i:Nat}{p:Ab}{d:Nat}(hd:(l.map Ap.At).Nodup):JA l ins i p d=true↔(i:Int)<EM l (Bs p d)/\Ep (ins[(EM l (Bs p d)).toNat]?.getD 0) (((d:Int)+2) % 4)=true:=by
 rw[JA,QE];constructor
 .rintro⟨k,Q,z⟩;obtain⟨g1,g2,O⟩:=H5.1 z;rw[dH hd g2];exact⟨by omega,by rw[Bx];exact O⟩
 .rintro⟨Q,z⟩;have G:=Ma (l:=l) (q:=Bs p d) rfl (by omega);refine⟨(EM l (Bs p d)).toNat,?_,H5.2 ⟨by omega,G,z⟩⟩;cases hk:l[(EM l (Bs p d)).toNat]? with
  |none=>rw[hk] at G;cases G
  |some y=>exact (Cd.1 hk).1
def R3(b:Bool)(k:Nat):0<=BN b k/\BN b k<=2^k:=by
 have:(0:Int)<=2^k:=Int.le_of_lt (Int.pow_pos (by omega))
 cases b<;>simp[BN,this]
def Jd(l:List Ap)(ins:List Int)(i:Nat)(p:Ab): ∀k,0<=Ed l ins i p k/\Ed l ins i p k<2^k
 |0=>by simp[Ed]
 |k+1=>by
  have z:=Jd l ins i p k;have G:=R3 (JA l ins i p k) k;have e:(2:Int)^(k+1)=2^k*2:=Int.pow_succ ..;simp only[Ed];omega
def XU(l:List Ap)(ins:List Int)(i:Nat)(p:Ab): ∀d:Nat,d<4->Ep (Ed l ins i p 4) d=JA l ins i p d:=by
 intro d hd;obtain⟨z,k1,k2,G⟩:=SD (JA l ins i p 0) (JA l ins i p 1) (JA l ins i p 2) (JA l ins i p 3);have e:Ed l ins i p 4=0+BN (JA l ins i p 0) 0+BN (JA l ins i p 1) 1+BN (JA l ins i p 2) 2+BN (JA l ins i p 3) 3:=by
  simp only[Ed]
 rw[e];rcases (by omega:d=0\/d=1\/d=2\/d=3) with rfl|rfl|rfl|rfl
 .exact z
 .exact k1
 .exact k2
 .exact G
def DU(p:Ab)(m:Int):Nat->Al->Bool
 |0,x=>decide (x.At≠p)
 |d+1,x=>DU p m d x && !(Ep m d && decide (x.At=Bs p d))
def E9(a:Ak)(p:Ab)(m:Int):Ak:=⟨a.Tiles.filter (DU p m 4)⟩
def Fa(p:Ab)(m:Int):Nat->List Ab
 |0=>[p]
 |d+1=>Fa p m d++(if Ep m d=true then [Bs p d] else [])
def bF(a:Ak)(l:List Ab):Ak:=⟨a.Tiles.filter λx=> !l.contains x.At⟩
def qM(p:Ab)(m:Int)(x:Al): ∀d,(Fa p m d).contains x.At= !(DU p m d x)
 |0=>by
  simp only[Fa,DU,ZO,ZU,Qo];by_cases h:x.At=p<;>simp[h]
 |d+1=>by
  simp only[Fa,DU,List.contains_append,qM p m x d];by_cases c:Ep m d=true
  .rw[An c,c];by_cases h:x.At=Bs p d<;>simp[h]
  .rw[Af c];rw[Lq] at c;rw[c];simp
def Zp(a:Ak)(p:Ab)(m:Int):bF a (Fa p m 4)=E9 a p m:=by
 simp only[bF,E9,qM,Bool.not_not]
def qN(p:Ab)(m:Int): ∀d,(Fa p m d).length<=d+1
 |0=>by simp[Fa]
 |d+1=>by
  have:=qN p m d
  simp only[Fa,Df]
  split<;>simp<;>omega
def OB{p:Ab}{q:Option Ab}(hq: ∀u,q=some u->Bq u p=true): ∀{r:List Al},Dc (some p) r=true->Dc q r=true
 |[],_=>sG q
 |x::r,h=>by
  rw[PV] at h⊢;simp only[AR] at h⊢;obtain⟨z,G,O,Q⟩:=h;refine⟨z,G,?_,Q⟩;cases q with
  |none=>rfl
  |some u=>exact Wu (hq u rfl) O
def qK(c:Al->Bool): ∀(l:List Al) (q:Option Ab),Dc q l=true->Dc q (l.filter c)=true
 |[],q,_=>sG q
 |x::r,q,h=>by
  rw[PV] at h;simp only[AR] at h;obtain⟨G,O,z,Q⟩:=h;have ih:=qK c r (some x.At) Q;rw[Zec];split
  .rw[PV];simp only[AR];exact⟨G,O,z,ih⟩
  .refine OB (λu Z=> ?_) ih;subst Z;exact z
def KU{s:AA}{a:Ak}(h:DM s a)(p:Ab)(m:Int):DM s (E9 a p m):=
 ⟨qK _ _ _ h.1,λx z=>h.2 x (Xe.1 z).1⟩
def Rw{a:Ak}(h:Dc none a.Tiles=true){x:Al}(z:x∈a.Tiles):Bb a x.At=x.Tile:=by
 simp only[Bb];cases hf:a.Tiles.find? (λy=>decide (y.At=x.At)) with
 |none=>
  have:=ZP.1 hf x z
  simp at this
 |some y=>
  have G:=mE hf;have e:y.At=x.At:=by simpa using Rm hf
  rw[T3 (Qix h) y G x z e];rfl
def qQ{s:AA}{f g:Ab->Int}{p:Ab}{t:Int}: ∀(k:Nat),(∀d:Nat,d<k->Gj s f p t d<=Gj s g p t d)->C4 s f p t k<=C4 s g p t k
 |0,_=>Lp _
 |k+1,h=>by
  have z:=qQ k λd hd=>h d (by omega)
  have G:=h k (by omega);simp only[C4];omega
def Sn{s:Ax}{b:Ak}{l:List Ap}(h:JN s b l)(hb:DM s.Set b)(h0:BE s.Set)(h1:s.Set.Tiles.length<=160){i:Nat}{o:Ap}(ho:l[i]? =some o)(ins:List Int):
 C4 s.Set (Bb (AX b (l.take i))) o.At o.Tile 4<=C4 s.Set (Bb (E9 (AX b l) o.At (Ed l ins i o.At 4))) o.At o.Tile 4:=by
 have ai:i<l.length:=(Cd.1 ho).1;have ab:=JP h1 hb h i (by omega);have Z:DM s.Set (AX b l):=by
  have:=JP h1 hb h l.length (AP _)
  rwa [GC] at this
 have ad:=KU Z o.At (Ed l ins i o.At 4);have G: ∀x∈(AX b (l.take i)).Tiles,∀k,i<=k->x∈(AX b (l.take k)).Tiles:=by
  intro x O k hk;rw[bZ] at O⊢;rcases O with O|⟨z,hz,e⟩
  .exact .inl O
  .refine .inr ⟨z,?_,e⟩;obtain⟨j,hj⟩:=Kl.1 hz;have ac:j<i:=by
    have:=(Cd.1 hj).1
    simp at this;omega
   rw[Kl];exact⟨j,by rw[ZdP ac] at hj;rw[ZdP (by omega)];exact hj⟩
 refine qQ 4 λd hd=> ?_
 have hp:=(fH h0 (Bb (E9 (AX b l) o.At (Ed l ins i o.At 4))) o.At o.Tile d).1;by_cases c:0<=Bb (AX b (l.take i)) (Bs o.At d)
 .obtain⟨x,O,ag⟩:=gG c;have af:x∈(AX b l).Tiles:=by
   have:=G x O l.length (by omega)
   rwa [GC] at this
  have Q:=(GI (h i o ho).1).2.2.2.2.2;have hk: ∀e:Nat,e<=4->DU o.At (Ed l ins i o.At 4) e x=true:=by
   intro e;induction e with
   |zero=>intro _;simpa[DU] using Q x O
   |succ e ih=>
    intro he;simp only[DU,ih (by omega),DZ,Ki,vB,Kk];rw[XU _ _ _ _ e (by omega)];cases hob:JA l ins i o.At e with
    |false=>exact .inl rfl
    |true=>
     right;intro aa;obtain⟨k,_,h3⟩:=QE.1 hob;obtain⟨g1,g2,_⟩:=H5.1 h3;cases hlk:l[k]? with
     |none=>rw[hlk] at g2;cases g2
     |some y=>
      rw[hlk] at g2;have hy:y.At=Bs o.At e:=by simpa using g2
      exact (GI (h k y hlk).1).2.2.2.2.2 x (G x O k (by omega)) (aa.trans hy.symm)
  have ah:x∈(E9 (AX b l) o.At (Ed l ins i o.At 4)).Tiles:=Xe.2 ⟨af,hk 4 (AP _)⟩;have e1:=Rw ab.1 O;have e2:=Rw ad.1 ah;rw[ag] at e1 e2;simp only[Gj,e1,e2];exact Lp _
 .have:Gj s.Set (Bb (AX b (l.take i))) o.At o.Tile d=0:=Af c
  omega
def Gl(s:Ax)(f:Ab->Int)(p:Ab)(t:Int):Nat->Bool
 |0=>false
 |k+1=>Gl s f p t k||(decide ((k:Int)≠t) && decide (s.Temperature<=C4 s.Set f p k 4))
def dJ{s:Ax}{f:Ab->Int}{p:Ab}{t:Int}: ∀{n:Nat},Gl s f p t n=true↔ ∃k:Nat,k<n/\(k:Int)≠t/\s.Temperature<=C4 s.Set f p k 4
 |0=>by simp[Gl]
 |n+1=>by
  simp only[Gl,GY,AR,BK,dJ (n:=n)];constructor
  .rintro (⟨k,G,z⟩|h)
   .exact⟨k,by omega,z⟩
   .exact⟨n,by omega,h⟩
  .rintro⟨k,G,z⟩;by_cases O:k=n
   .subst O;exact .inr z
   .exact .inl ⟨k,by omega,z⟩
def NQ{s:Ax}{f:Ab->Int}{p:Ab}{x:Int}: ∀{n:Nat},x∈DN s f p n↔ ∃k:Nat,k<n/\x=k/\s.Temperature<=C4 s.Set f p k 4
 |0=>by simp[DN]
 |n+1=>by
  simp only[DN,Bv,NQ (n:=n)];constructor
  .rintro (⟨k,O,z⟩|h)
   .exact⟨k,by omega,z⟩
   .split at h
    .rename_i c;exact⟨n,by omega,by simpa using h,c⟩
    .cases h
  .rintro⟨k,O,z,G⟩;by_cases Q:k=n
   .subst Q;right;rw[An G,z];exact BJ.2 rfl
   .exact .inl ⟨k,by omega,z,G⟩
def Kp{s:Ax}{f:Ab->Int}{p:Ab}: ∀n:Nat,(DN s f p n).Nodup
 |0=>by simp[DN]
 |n+1=>by
  simp only[DN];split
  .rw[VG];refine⟨Kp n,by simp,?_⟩;intro a G z Q O;rw[BJ] at Q;obtain⟨k,Z,h2,_⟩:=NQ.1 G;omega
  .rw[D2];exact Kp n
def Yu{s:Ax}{f:Ab->Int}{p:Ab}{t:Int}{n:Nat}(h1:0<=t)(h2:t<n)(h3:s.Temperature<=C4 s.Set f p t 4):(DN s f p n).length≠1↔Gl s f p t n=true:=by
 have G:t∈DN s f p n:=NQ.2 ⟨t.toNat,by omega,by omega,by rw[Zek h1];exact h3⟩;rw[dJ];constructor
 .intro h;cases z:DN s f p n with
  |nil=>rw[z] at G;cases G
  |cons x r=>
   cases r with
   |nil=>rw[z] at h;exact (h rfl).elim
   |cons y r=>
    have hn:=Kp (s:=s) (f:=f) (p:=p) n;rw[z,Im] at hn;have Q:x≠y:=λe=>hn.1 (by rw[e];exact BS ..)
    have O:x∈DN s f p n:=by rw[z];exact BS ..
    have hy:y∈DN s f p n:=by rw[z];exact BW _ (BS ..)
    obtain⟨k,a1,a2,a3⟩:=NQ.1 O;obtain⟨j,b1,b2,b3⟩:=NQ.1 hy;by_cases c:x=t
    .exact⟨j,b1,by rw[<-b2,<-c];exact λe=>Q e.symm,b3⟩
    .exact⟨k,a1,by rw[<-a2];exact c,a3⟩
 .rintro⟨k,h4,h5,h6⟩ z;obtain⟨x,O⟩:=Zdt.1 z;have Z:(k:Int)∈DN s f p n:=NQ.2 ⟨k,h4,rfl,h6⟩;rw[O,BJ] at G Z;exact h5 (Z.trans G.symm)
def Fk{A:Type}(g:Nat->Option A):Nat->Nat->Option A
 |0,_=>none
 |n+1,k=>(g k).or (Fk g n (k+1))
def dG{A:Type}{g h:Nat->Option A}: ∀(n k:Nat),(∀i,k<=i->i<k+n->g i=h i)->Fk g n k=Fk h n k
 |0,_,_=>rfl
 |n+1,k,e=>by
  simp only[Fk];rw[e k (by omega) (by omega),dG n (k+1) λi z G=>e i (by omega) (by omega)]
def Fj(s:Ax)(G:List Int)(o:Ap)(i:Nat)(z:Bool):Option (Int×Ap):=if G[i]?.getD 0≠s.Temperature then some (1,o) else if z=true then some (2,o) else none
def X8:List Ap->Option (Int×Ap)
 |[]=>none
 |o::_=>some (3,o)
def wC(s:Ax)(l:List Ap)(i:Nat):Option (Int×Ap):=
 (l[i]?).bind λo=>Fj s (C9 s s.Seed l) o i (Gl s (Bb (E9 (AX s.Seed l) o.At (Ed l (CD s s.Seed l) i o.At 4))) o.At o.Tile s.Set.Tiles.length)
def OF(s:Ax)(l:List Ap)(i:Nat):Option (Int×Ap):=
 (l[i]?).bind λo=>Fj s (C9 s s.Seed l) o i (decide ((DN s (Bb (E9 (AX s.Seed l) o.At (Ed l (CD s s.Seed l) i o.At 4))) o.At s.Set.Tiles.length).length≠1))
def qW(s:Ax): ∀(l:List Ap) (b:Ak) (k:Nat) (o:Ap),l[k]? =some o->(C9 s b l)[k]? =some (C4 s.Set (Bb (AX b (l.take k))) o.At o.Tile 4)
 |[],_,k,o,h=>by simp at h
 |x::r,b,0,o,h=>by
  simp only[G9,AJ] at h;subst h;simp[C9,AX]
 |x::r,b,k+1,o,h=>by
  rw[HF] at h;simp only[C9,HF,Ln,AX];exact qW s r _ k o h
def hZ{s:Ax}{l:List Ap}(h:KN s l)(i:Nat):wC s l i=OF s l i:=by
 obtain⟨q1,q2,q3,q4,z,q6⟩:=h;simp only[wC,OF];cases ho:l[i]? with
 |none=>rfl
 |some o=>
  simp only[Ey,Fj];rw[qW s l s.Seed i o ho,AM];by_cases c:C4 s.Set (Bb (AX s.Seed (l.take i))) o.At o.Tile 4≠s.Temperature
  .rw[An c,An c]
  rw[Af c,Af c];have Z:=Sn z q2 q1 q3 ho (CD s s.Seed l);obtain⟨g1,g2,G,O,g5,g6⟩:=GI (z i o ho).1;have Q:s.Temperature<=C4 s.Set (Bb (E9 (AX s.Seed l) o.At (Ed l (CD s s.Seed l) i o.At 4))) o.At o.Tile 4:=by
   have:C4 s.Set (Bb (AX s.Seed (l.take i))) o.At o.Tile 4=s.Temperature:=ZeD.1 c
   omega
  have:=Yu (n:=s.Set.Tiles.length) G O Q
  simp only[BK,this]
def Gq(s:Ax)(l:List Ap):Option (Int×Ap):=(Fk (OF s l) l.length 0).or (X8 (Cm s (AX s.Seed l)))
def XI{s:Ax}{l:List Ap}(h:KN s l):(Fk (wC s l) l.length 0).or (X8 (Cm s (AX s.Seed l)))=Gq s l:=by
 rw[Gq,dG l.length 0 λi _ _=>hZ h i]
def XH:Option (Int×Ap)->Int×Ab×Int
 |none=>(0,⟨0,0⟩,3)
 |some (k,o)=>(k,o.At,0)
def VN(s:Ax)(l:List Ap):Int×Ab×Int:=if (Cs s l).2.2≠0 then (0,⟨0,0⟩,(Cs s l).2.2) else XH (Gq s l)
def HW(x:List Ab):List D:=[.sl false 2 (x.map Ab.c)]
def YV:List D->Option (List Ab)
 |[.sl _ _ rows]=>AS Ab.d rows
 |_=>none
def Na: ∀ds x,YV ds=some x->CF ds (HW x):=by
 intro ds x h;unfold YV at h;split at h
 .exact⟨DE (Dz Ab.d_le _ _ h) (by simp[Ab.c]),trivial⟩
 .cases h
def UT(x:List Ab):YV (List.take 1 (HW x))=some x:=Ab.d_R x
def xN(x:List Ab):(1<=(HW x).length)=True:=aB (AP 1)
def xM(x:List Ab):iF (List.take 1 (HW x))= .sl false 2 (x.map Ab.c):=rfl
def FA(l:List Ab)(x:Al):Bool:=l.contains x.At
def Et(l:List Ab)(z:List Al):List Al:=z.filter λx=> !FA l x
def Y7(l:List Ab)(z:List Al):(Et l z).length<=z.length:=Zdy _ _
def qV(l:List Ab){z:List Al}{k:Nat}{x:Al}(h:z[k]? =some x):Et l (z.take (k+1))=Et l (z.take k)++if FA l x=false then [x] else []:=by
 rw[Il,h,vH,Et,Et,vG];congr 1;cases hg:FA l x<;>simp[hg]
def Qans{A:Type}{p:A->Bool}: ∀(l:List A) (o i:Nat),Bp p o l=((o+i:Nat):Int)-> ∀x∈l.take i,p x=false:=by
 intro l;induction l with
 |nil=>intro o i _ x z;simp at z
 |cons y r ih=>
  intro o i h x z;cases i with
  |zero=>simp at z
  |succ i=>
   simp only[Bp] at h;split at h
   .omega
   .rename_i G;rw[Ln] at z;rcases Bk.1 z with rfl|z
    .simpa using G
    .exact ih (o+1) i (by rw[h];congr 1;omega) x z
def Pk{l:List Ab}{z:List Al}{i:Nat}{x:Al}(G:z.find? (FA l)=some x)(O:Bp (FA l) 0 z=(i:Int))(Q:z[i]? =some x):Et l (z.take (i+1))=z.take i:=by
 have Z:FA l x=true:=Rm G;rw[qV l Q,Af (by rw[Z];simp),D2,Et,mC];intro y hy;rw[Qans (p:=FA l) z 0 i (by rw[O];simp) y hy];rfl
def TW{p q:Ab}:(p.X=q.X/\p.Y=q.Y)↔p=q:=by
 obtain⟨a,b⟩:=p;obtain⟨c,d⟩:=q;simp
def idxP_.fv(a:(List Ab)×Ab):Int:=(λl p=>Bp (λy=>decide (p=y)) 0 l) (a.1) (a.2)
def idxP_.row:AB:=Dg (b2 (qS Ab.d_le Ab.c_n) (qR Ab.d_le)) rI (λa=>True) idxP_.fv
def idxP_.q:=DS (R:=idxP_.row) rfl
def idxP_.ok:AC Tryz.prog 153 idxP_.row:=by
 refine G1 tN Tryz.func153 rfl (by kernel_rfl) ?_;intro a O;simp only[Tryz.f153];simp(disch:=omega)only[ZA,simprocAttr,idxP_.fv];intro hn;refine AQ.old ⟨{k:Nat//k<=a.1.length/\Bp (λy=>decide (a.2=y)) k (a.1.drop k)=Bp (λy=>decide (a.2=y)) 0 a.1},λk=>⟨[(8,.im (.int .i64 k.1)),(7,.im (.int .i64 a.1.length)),(4,.im (.int .i64 0)),(0,.im (.sl false 2 (a.1.map Ab.c))),(1,.im (.agg [.int .i64 a.2.X,.int .i64 a.2.Y])),(3,.ptr 0 0)],[(0,(true,.cells 96 [.im (.int .i64 a.2.X),.im (.int .i64 a.2.Y)]))],1⟩,λk=>a.1.length - k.1,λk=>⟨by simp[Aj.good,Am,Ac,A9,AV.bel,Aq],AP _⟩,⟨⟨0,by simp⟩,by simp(disch:=omega)only[ZA,simprocAttr,sub]⟩,λk=> ?_⟩;obtain⟨k,Q,z⟩:=k;simp(disch:=omega)only[ZA,simprocAttr,D.sc,D.scs,B4,sub,AO];refine⟨λG=>⟨G,λx Z=> ?_⟩,λG=> ?_⟩
 .rw[Fc Z,Bp] at z;refine⟨λh=> ?_,λh=>G4 G hn ⟨by omega,by rw[<-z,Af (by rw[BK,<-TW];simpa using h)]⟩⟩;rw[An (by rw[BK,<-TW];simpa using h)] at z;exact z
 .rw[Dl (by omega),Bp] at z;exact z
def contP_.fv(a:(List Ab)×Ab):Bool:=(λl p=>l.contains p) (a.1) (a.2)
def contP_.row:AB:=Dg (b2 (qS Ab.d_le Ab.c_n) (qR Ab.d_le)) rB (λa=>True) contP_.fv
def contP_.q:=DS (R:=contP_.row) rfl
def contP_.ok:AC Tryz.prog 107 contP_.row:=by
 refine G1 (tC idxP_.ok tN) Tryz.func107 rfl (by kernel_rfl) ?_;intro a G;simp only[Tryz.f107];simp(disch:=omega)only[ZA,simprocAttr,C8,contP_.fv,idxP_.q,idxP_.fv,D.sc,D.scs,B4];rw[VJ,BK,HG];rcases Qyg (λy=>decide (a.2=y)) a.1 0 with ⟨h,_⟩|⟨O,Q⟩
 .rw[h,Zeb];constructor
  .rintro⟨x,z,Z⟩
   have:a.2=x:=by simpa using Z
   rw[this];exact z
  .exact λz=>⟨_,z,by simp⟩
 .rw[Q,O];simp
def wo1.fv(a:Al×(List Ab)):Bool:=(λx l=>FA l x) (a.1) (a.2)
def wo1.row:AB:=Dg (b2 (qR Al.d_le) (qP 1 Na)) rB (λa=>True) wo1.fv
def wo1.q:=DS (R:=wo1.row) rfl
def wo1.ok:AC Tryz.prog 106 wo1.row:=by
 refine G1 (tC contP_.ok tN) Tryz.func106 rfl (by kernel_rfl) ?_;intro a z;simp only[Tryz.f106];simp(disch:=omega)only[ZA,simprocAttr,C8,wo1.fv,contP_.q,contP_.fv,D.sc,D.scs,B4];simp(disch:=omega)only[ZA,simprocAttr,xN,xM]
 try rfl
def IdxW.ar:List PK->Option ((List Al)×((List Ab)))
 |[.val (.sl _ _ O),.val (.fn 106 [] [.ref z])]=>(AS Al.d O).bind λQ=>(YV (z.take 1)).bind λG=>some (Q,G)
 |_=>none
def IdxW.ae(a:(List Al)×((List Ab))):List PK:=[.val (.sl false 3 (a.1.map Al.c)),.val (.fn 106 [] [.ref (HW a.2)])]
def IdxW.le: ∀G a,IdxW.ar G=some a->BL G (IdxW.ae a):=by
 intro G a h;unfold IdxW.ar at h;split at h
 .simp only[Eg,AJ] at h;obtain⟨Q,h0,O,z,rfl⟩:=h;exact⟨DE (Dz Al.d_le _ _ h0) (by simp only[Bt];rintro r ⟨y,_,rfl⟩;rfl),V9 ⟨Ra (G3.trans_take (Na _ _ z)),trivial⟩,trivial⟩
 .cases h
def IdxW.fv(a:(List Al)×((List Ab))):Int:=(λl t=>Bp (FA t) 0 l) (a.1) (a.2)
def IdxW.row:AB:=Lg IdxW.ar (λa=>True) (λa=>(D.int .i64) (IdxW.fv a))
def IdxW.q:=xS IdxW.row rfl
def IdxW.ok:AC Tryz.prog 152 IdxW.row:=by
 refine rH CV (tC wo1.ok tN) Tryz.func152 rfl (by kernel_rfl) (by kernel_rfl) (ar:=IdxW.ar) (ae:=IdxW.ae) IdxW.le (n:=2) (λ_=>rfl) (by decide) (rc:=(DC)) (re:=(D.int .i64)) (N3) (f:=IdxW.fv) ?_;intro a O;simp only[Tryz.f152];simp(disch:=omega)only[ZA,simprocAttr,IdxW.ae,IdxW.fv];intro hn;refine AQ.old ⟨{k:Nat//k<=a.1.length/\Bp (FA a.2) k (a.1.drop k)=Bp (FA a.2) 0 a.1},λk=>⟨[(8,.im (.int .i64 k.1)),(7,.im (.int .i64 a.1.length)),(6,.im (.sl false 3 (a.1.map Al.c))),(4,.im (.int .i64 0)),(0,.im (.sl false 3 (a.1.map Al.c))),(1,.im (.fn 106 [] [.ref (HW a.2)]))],[],0⟩,λk=>a.1.length - k.1,λk=>⟨by simp[Aj.good,Am,Ac,A9,AV.bel],AP _⟩,⟨⟨0,by simp⟩,by simp(disch:=omega)only[ZA,simprocAttr,sub]⟩,λk=> ?_⟩;obtain⟨k,Q,z⟩:=k;simp(disch:=omega)only[ZA,simprocAttr,C8,wo1.q,wo1.fv,D.sc,D.scs,B4,sub,AO,UT];refine⟨λG=>⟨G,λx Z=> ?_⟩,λG=> ?_⟩
 .rw[Fc Z,Bp] at z;refine⟨λh=> ?_,λh=>G4 G hn ⟨by omega,by rw[<-z,Af (by simpa using h)]⟩⟩;rw[An (by simpa using h)] at z;exact z
 .rw[Dl (by omega),Bp] at z;exact z
def dlP.ca(a:List Al×List Ab):List AV:=[.own 0,.im (.fn 106 [] [.ref (HW a.2)])]
def dlP.H0(a:List Al×List Ab):Aw:=[(0,(true,.arr 137 3 (a.1.map Al.c)))]
def dlP.H1(a:List Al×List Ab):Aw:=[(1,(true,.arr 137 3 ((Et a.2 a.1).map Al.c)))]
def dlP.row:AB:=AF dlP.ca dlP.H0 1 (λa=>a.1.length<=1000000) (λj=>j==0) (λ_=> .own 1) dlP.H1 1000
def dlP.ok:AC Tryz.prog 104 dlP.row:=by
 refine Pb (tC IdxW.ok (tC wo1.ok tN)) Tryz.func104 rfl (by kernel_rfl) (exB:=λj=>j==1) (R:=λ_ r=>r= .own 1) (λ_=>rfl)
  (λa=>by simp[dlP.ca,dlP.H0,Aq,AV.bel,Ac,A9,BR,Ad.nms,Ao,hget]) (λa p hp=> ?_) (λa r h=>by subst h;exact CJ.refl _) ?_
 rotate_left
 intro a Q;simp only[Tryz.f104,dlP.ca,dlP.H0,dlP.H1];simp(disch:=omega)only[ZA,simprocAttr,C8,IdxW.q,IdxW.ar,IdxW.fv,Fy];simp(disch:=omega)only[ZA,simprocAttr,UT];rcases QS (FA a.2) a.1 0 with ⟨Z,O⟩|⟨i0,b0,Z,O,e3⟩
 .rw[O,An rfl];refine⟨[],[(1,some 0)],⟨[(4,.own 1)],[(1,(true,.arr 137 3 (a.1.map Al.c)))],2⟩,?_,by simp[Aj.good,Am,Ac,A9,AV.bel],by simp,?_⟩
  .simp only[Az];simp(disch:=omega)only[ZA,simprocAttr]
  .simp(disch:=omega)only[ZA,simprocAttr]
   have:Et a.2 a.1=a.1:=by
    rw[Et,mC];intro b hb
    have:=ZP.1 Z b hb
    simpa using this
   rw[this]
 .rw[FT] at O;rw[O,Af (by omega)];have aa:=(Cd.1 e3).1;rw[AH (by omega) (by omega)];obtain⟨l,hl⟩: ∃l,l=a.1:=⟨_,rfl⟩;obtain⟨t,ht⟩: ∃t,t=a.2:=⟨_,rfl⟩;simp only[<-hl,<-ht] at Z O e3 aa Q⊢;refine AQ.old ⟨{j:Nat//j<=l.length},λj=>⟨[(6,.im (.int .i64 j.1)),(5,.im (.int .i64 (Et t (l.take j.1)).length)),(0,.own 0),(1,.im (.fn 106 [] [.ref (HW t)]))],[(0,(true,.arr 137 3 ((Et t (l.take j.1)++l.drop (Et t (l.take j.1)).length).map Al.c)))],2⟩,λj=>l.length - j.1,λj=>⟨by simp[Aj.good,Am,Ac,A9,AV.bel],by simp⟩,⟨⟨i0+1,by omega⟩,?_⟩,λj=> ?_⟩
  .have h1:=Pk Z O e3;simp(disch:=omega)only[ZA,simprocAttr,sub,h1,Ce];rw[show min i0 l.length=i0 by omega,Of];exact⟨⟨by omega,rfl⟩,rfl⟩
  obtain⟨j,hj⟩:=j;obtain⟨kp,hkp⟩: ∃kp,kp=Et t (l.take j):=⟨_,rfl⟩;have ac:kp.length<=j:=by
   have:=Y7 t (l.take j)
   rw[Ce] at this;rw[hkp];omega
  have af:(kp++l.drop kp.length).length=l.length:=by simp;omega
  simp only[<-hkp];simp(disch:=omega)only[ZA,simprocAttr,C8,wo1.q,wo1.fv,sub,AO,af,UT];intro _;refine⟨λG=>⟨G,G,λb hb=> ?_⟩,λG=> ?_⟩
  .have ad:l[j]? =some b:=by
    rw[F3 ac,Iq,show kp.length+(j - kp.length)=j by omega] at hb;exact hb
   have z:=qV t ad;rw[<-hkp] at z;refine⟨λhw=>⟨by omega,by omega,λc _=>⟨⟨j+1,by omega⟩,by simp only;omega,?_⟩⟩,λhw=>⟨⟨j+1,by omega⟩,by simp only;omega,?_⟩⟩
   .rw[An hw] at z;simp only[z,Df,CM,Ha];refine⟨⟨by rw[AH (by omega) (by omega)];omega,by rw[AH (by omega) (by omega)];omega⟩,?_⟩;have h1:(kp++l.drop kp.length).set kp.length b=kp++[b]++l.drop (kp.length+1):=by
     obtain⟨c,hc⟩: ∃c,l[kp.length]? =some c:=⟨_,Bj (by omega)⟩;rw[Fc hc,mA _ _ (AP _),Hd,ZR,Hr];rfl
    rw[<-h1,Lu];rfl
   .rw[Af hw,D2] at z;simp only[z];exact⟨⟨by rw[AH (by omega) (by omega)];omega,trivial⟩,trivial⟩
  .refine⟨by omega,false,?_⟩;have ab:j=l.length:=by omega
   subst ab;rw[GC] at hkp;simp(disch:=omega)only[ZA,simprocAttr];have hA:List.take kp.length ((kp++l.drop kp.length).map Al.c)=kp.map Al.c:=by
    rw[<-List.map_take,ZeC]
   rw[hA];refine⟨by simp only[Df,GZ];omega,true,?_⟩;simp(disch:=omega)only[ZA,simprocAttr,Fy];refine⟨[],[(1,some 2)],⟨[(4,.own 1)],[(1,(true,.arr 137 3 (kp.map Al.c)))],2⟩,?_,by simp[Aj.good,Am,Ac,A9,AV.bel],by simp,?_⟩
   .simp only[Az];simp(disch:=omega)only[ZA,simprocAttr];rw[show ((kp.length:Int) - 0).toNat=(kp.map Al.c).length by simp,Hr,ZeC]
   .simp(disch:=omega)only[ZA,simprocAttr,hkp]
 simp[dlP.H1] at hp;subst hp;exact .inr ⟨by omega,by omega,rfl,rfl⟩
def dlP.H0_dom(a:List Al×List Ab)(j:Nat):Ao (dlP.H0 a) j=true↔j<1:=by
 simp only[Ao,dlP.H0,hget];by_cases h0:j=0
 .subst h0;simp
 .have z:(0==j)=false:=by simp;omega
  simp[z];omega
def woA.fv(a:Ak×(List Ab)):Ak:=(λa l=>⟨Et l a.Tiles⟩) (a.1) (a.2)
def woA.row:AB:=Dg (b2 (qR Ak.d_le) (qS Ab.d_le Ab.c_n)) (rA Ak.d_le) (λa=>a.1.Tiles.length<=1000000) woA.fv
def woA.q:=DS (R:=woA.row) rfl
def woA.ok:AC Tryz.prog 54 woA.row:=by
 refine G1 (tC clonC.ok (tC dlP.ok tN)) Tryz.func54 rfl (by kernel_rfl) ?_;intro a z;simp only[Tryz.f54];simp(disch:=omega)only[ZA,simprocAttr,woA.fv];refine AF.os a.1.Tiles [] z (λj=>by simp[Ao,hget]) rfl rfl ?_ ?_
 .simp(disch:=omega)only[ZA,simprocAttr,clonC.ca,CO]
 simp(disch:=omega)only[ZA,simprocAttr,clonC.H1];left;refine AF.os (a.1.Tiles,a.2) [3] z (λj=>dlP.H0_dom _ j) rfl rfl ?_ ?_
 .simp(disch:=omega)only[ZA,simprocAttr,Jt,dlP.ca,dlP.H0,HW,Dj]
 simp(disch:=omega)only[ZA,simprocAttr,Ak.d,Jt,D.sc,U3,B4,dlP.H1]
def F9(l:List Ap)(ins:List Int):Nat->List Int
 |0=>[]
 |i+1=>F9 l ins i++[Ed l ins i ((l[i]?.map Ap.At).getD ⟨0,0⟩) 4]
def NP(l:List Ap)(ins:List Int): ∀n,(F9 l ins n).length=n
 |0=>rfl
 |n+1=>by simp only[F9,Df,NP l ins n,Zdz]
def qL(l:List Ap)(ins:List Int): ∀(n i:Nat),i<n->(F9 l ins n)[i]? =some (Ed l ins i ((l[i]?.map Ap.At).getD ⟨0,0⟩) 4)
 |n+1,i,h=>by
  simp only[F9];by_cases c:i=n
  .subst c;rw[F3 (by rw[NP];omega),NP];simp
  .rw[EB (by rw[NP];omega)];exact qL l ins n i (by omega)
def outS_.fv(a:(List Ap)×(List Int)):List Int:=(λl ins=>F9 l ins l.length) (a.1) (a.2)
def outS_.row:AB:=vK (b2 (qS Ap.d_le Ap.c_n) (qS Dt C5)) (rS Dt C5) (λa=>(a.1.map Ap.At).Nodup/\(∀o∈a.1,FB o.At)/\a.2.length=a.1.length/\a.1.length<=500) outS_.fv
def outS_.q:=AT (R:=outS_.row) rfl
def outS_.ok:AC Tryz.prog 119 outS_.row:=by
 refine vw (tC l01Step.ok (tC Opposite_.ok tN)) Tryz.func119 rfl (by kernel_rfl) ?_;intro a aa;simp only[Tryz.f119];simp(disch:=omega)only[ZA,simprocAttr,outS_.fv];obtain⟨l,ins⟩:=a;obtain⟨h1,h2,h3,h4⟩:=aa;simp only at h1 h2 h3 h4⊢;refine AQ.ren ⟨{i:Nat//i<=l.length},λi=>⟨[(6,.im (.int .i64 i.1)),(5,.own 2),(0,.im (.sl false 3 (l.map Ap.c))),(1,.im (.sl false 1 (ins.map Ai)))],[(2,(true,.arr 2 1 ((F9 l ins i.1).map Ai)))],3⟩,λi=>l.length - i.1,λi=>⟨by simp[Aj.good,Am,Ac,A9,AV.bel],by simp⟩,⟨⟨0,Cx _⟩,[(2,some 1)],?_⟩,λi=> ?_⟩
 .simp only[Az];simp(disch:=omega)only[ZA,simprocAttr,F9]
  try simp
 obtain⟨i,hi⟩:=i;simp(disch:=omega)only[ZA,simprocAttr,AO];intro _;refine⟨λz=> ?_,λz=> ?_⟩;rotate_left
 .obtain rfl:i=l.length:=by omega
  rfl
 obtain⟨o,ho⟩: ∃o,l[i]? =some o:=⟨_,Bj z⟩;have ac:=h2 o (AZ ho);refine AQ.old ⟨{d:Nat//d<=4},λd=>⟨[(8,.im (.int .i64 d.1)),(7,.im (.int .i64 (Ed l ins i o.At d.1))),(6,.im (.int .i64 i)),(5,.own 2),(0,.im (.sl false 3 (l.map Ap.c))),(1,.im (.sl false 1 (ins.map Ai)))],[(2,(true,.arr 2 1 ((F9 l ins i).map Ai)))],3⟩,λd=>4 - d.1,λd=>⟨by simp[Aj.good,Am,Ac,A9,AV.bel],by simp⟩,⟨⟨0,Cx _⟩,by simp(disch:=omega)only[ZA,simprocAttr,sub,Ed]⟩,λd=> ?_⟩;obtain⟨d,hd⟩:=d;simp(disch:=omega)only[ZA,simprocAttr,l01Step.q,l01Step.fv,AO];refine⟨λab=> ?_,λab=> ?_⟩;rotate_left
 .obtain rfl:d=4:=by omega
  refine⟨by simp[BB,Bz,D.one],by rw[NP];omega,⟨i+1,by omega⟩,[(2,some 4)],by simp only;omega,?_⟩;simp only[Az];simp(disch:=omega)only[ZA,simprocAttr];refine⟨by rw[AH (by omega) (by omega)];omega,?_⟩;simp[F9,ho,Ai]
 refine⟨z,λx hx=> ?_⟩;obtain rfl:o=x:=AD (ho.symm.trans hx);refine⟨⟨ac,by omega⟩,?_⟩;have ah:=Jd l ins i o.At d;have O:d<4:=by omega
 have ai:=cD O;refine AQ.old ⟨{k:Nat//i+1<=k/\k<=l.length},λk=>⟨[(10,.im (.int .i64 k.1)),(9,.ptr 3 0),(8,.im (.int .i64 d)),(7,.im (.int .i64 (Ed l ins i o.At d+BN (Es l ins i o.At d k.1) d))),(6,.im (.int .i64 i)),(5,.own 2),(0,.im (.sl false 3 (l.map Ap.c))),(1,.im (.sl false 1 (ins.map Ai)))],[(3,(true,.cells 96 ((Ab.c (Bs o.At d)).map .im))),(2,(true,.arr 2 1 ((F9 l ins i).map Ai)))],4⟩,λk=>l.length - k.1,λk=>⟨by simp[Aj.good,Am,Ac,A9,AV.bel,Aq,Ab.c],by simp⟩,⟨⟨i+1,by omega⟩,?_⟩,λk=> ?_⟩
 .simp(disch:=omega)only[ZA,simprocAttr,sub,TL (AP _),BN];exact⟨by rw[AH (by omega) (by omega)];omega,by simp⟩
 obtain⟨k,af,ag⟩:=k;simp(disch:=omega)only[ZA,simprocAttr,Opposite_.q,Opposite_.fv,sub,AO];intro _;have G:k<l.length->IntKind.i64.wrap ((k:Int)+1)=((k+1:Nat):Int):=λh=>by rw[AH (by omega) (by omega)];omega
 have ad:=R3 (Es l ins i o.At d k) d;have Z:ouC l ins i o.At d k≠true->Ed l ins i o.At d+BN (Es l ins i o.At d k) d=Ed l ins i o.At d+BN (Es l ins i o.At d (k+1)) d:=λh=>by
  rw[qO h1,Af h,Zfj]
 refine⟨λQ=>⟨Q,λy hy=>⟨λc1=>⟨by omega,λv hv=>⟨by omega,by omega,λc2=>⟨⟨k+1,by omega⟩,by simp only;omega,G Q,?_⟩,λc2=>⟨⟨k+1,by omega⟩,by simp only;omega,G Q,?_⟩⟩⟩,λc1=>⟨⟨k+1,by omega⟩,by simp only;omega,G Q,?_⟩⟩⟩,λQ=>⟨⟨d+1,by omega⟩,by simp only;omega,by rw[AH (by omega) (by omega)];simp only;omega,?_⟩⟩
 .rw[QG] at c1;have hc:ouC l ins i o.At d k=true:=H5.2 ⟨by omega,by rw[hy,CQ,c1],by rw[hv,AM];simp only[Ep,BK];exact c2⟩;simp only;rw[W6 O,qO h1,An hc,AH (by omega) (by omega),Int.add_assoc]
 .refine Z λhc=>c2 ?_
  have:=(H5.1 hc).2.2
  rw[hv,AM] at this;simp only[Ep,BK] at this;exact this
 .refine Z λhc=>c1 ?_
  have:=(H5.1 hc).2.1
  rw[hy,CQ] at this;rw[QG];exact AD this
 .obtain rfl:k=l.length:=by omega
  rfl
def wO(p:Ab)(m:Int)(x:Al):(!(x.At.X==p.X && x.At.Y==p.Y))=DU p m 0 x:=by
 simp only[DU];rw[VJ];have h:=QG (p:=x.At) (q:=p);simp only[Ki,BK,ne_eq];rw[<-h];simp[vB]
def witS_.fv(a:Ak×Ab×Int):Ak:=(E9) (a.1) (a.2.1) (a.2.2)
def witS_.row:AB:=vK (b3 (qP 1 Ak.d_le) (qR Ab.d_le) qI) (rA Ak.d_le) (λa=>FB a.2.1/\0<=a.2.2/\a.2.2<=1000000/\a.1.Tiles.length<=1000000) witS_.fv
def witS_.q:=AT (R:=witS_.row) rfl
def witS_.ok:AC Tryz.prog 121 witS_.row:=by
 refine vw (tC l01Step.ok tN) Tryz.func121 rfl (by kernel_rfl) ?_;intro a Z;simp only[Tryz.f121];simp(disch:=omega)only[ZA,simprocAttr,witS_.fv];obtain⟨a,p,m⟩:=a;obtain⟨h1,h2,h3,h4⟩:=Z;simp only at h1 h2 h3 h4⊢;refine AQ.ren ⟨{i:Nat//i<=a.Tiles.length},λi=>⟨[(8,.im (.int .i64 i.1)),(7,.ptr 3 0),(6,.ptr 2 0),(4,.ptr 1 0),(0,.ptr 0 0),(2,.im (.int .i64 m))],[(4,(true,.arr 137 3 (((a.Tiles.take i.1).filter (DU p m 4)).map Al.c))),(3,(true,.cells 39 [.own 4])),(2,(true,.cells 39 [.im (.sl true 0 [])])),(1,(true,.cells 96 [.im (.int .i64 p.X),.im (.int .i64 p.Y)])),(0,(false,.view (Ak.c a)))],5⟩,λi=>a.Tiles.length - i.1,λi=>⟨by simp[Aj.good,Am,Ac,A9,AV.bel,Aq],by simp⟩,⟨⟨0,Cx _⟩,[(4,none)],?_⟩,λi=> ?_⟩
 .simp only[Az];simp(disch:=omega)only[ZA,simprocAttr,Br,ZeQ]
  try simp
 obtain⟨i,hi⟩:=i;simp(disch:=omega)only[ZA,simprocAttr,Ak.d,AO];intro _;refine⟨λz=>⟨z,λx hx=> ?_⟩,λz=> ?_⟩;rotate_left
 .rw[DY (by omega)];rfl
 refine AQ.old ⟨{d:Nat//d<=4},λd=>⟨[(10,.im (.int .i64 d.1)),(9,.im (.bool (DU p m d.1 x))),(8,.im (.int .i64 i)),(7,.ptr 3 0),(6,.ptr 2 0),(4,.ptr 1 0),(0,.ptr 0 0),(2,.im (.int .i64 m))],[(4,(true,.arr 137 3 (((a.Tiles.take i).filter (DU p m 4)).map Al.c))),(3,(true,.cells 39 [.own 4])),(2,(true,.cells 39 [.im (.sl true 0 [])])),(1,(true,.cells 96 [.im (.int .i64 p.X),.im (.int .i64 p.Y)])),(0,(false,.view (Ak.c a)))],5⟩,λd=>4 - d.1,λd=>⟨by simp[Aj.good,Am,Ac,A9,AV.bel,Aq],by simp⟩,⟨⟨0,Cx _⟩,?_⟩,λd=> ?_⟩
 .simp(disch:=omega)only[ZA,simprocAttr,sub,wO p m x]
  try simp
 obtain⟨d,hd⟩:=d;simp(disch:=omega)only[ZA,simprocAttr,l01Step.q,l01Step.fv,sub,AO];have G:IntKind.i64.wrap ((d:Int)+1)=((d+1:Nat):Int):=by rw[AH (by omega) (by omega)];omega
 simp only[<-iE];refine⟨λaa=>⟨λc1=>⟨z,λy hy=>⟨⟨h1,by omega⟩,λO=>⟨⟨d+1,by omega⟩,by simp only;omega,G,?_⟩,λO=>⟨⟨d+1,by omega⟩,by simp only;omega,G,?_⟩⟩⟩,λc1=>⟨⟨d+1,by omega⟩,by simp only;omega,G,?_⟩⟩,λaa=> ?_⟩
 .obtain rfl:x=y:=AD (hx.symm.trans hy);rw[QG] at O;simp[DU,c1,O]
 .obtain rfl:x=y:=AD (hx.symm.trans hy);rw[QG] at O;simp[DU,c1,O]
 .rw[Lq] at c1;simp[DU,c1]
 .obtain rfl:d=4:=by omega
  have ab:((a.Tiles.take i).filter (DU p m 4)).length<=a.Tiles.length:=D3 (Zdy _ _) (by simp;omega);have Q:IntKind.i64.wrap ((i:Int)+1)=((i+1:Nat):Int):=by rw[AH (by omega) (by omega)];omega
  refine⟨λc1=>⟨z,λy hy=>⟨by simp[BB,Bz,D.one],by omega,⟨i+1,by omega⟩,[(4,some 6)],by simp only;omega,?_⟩⟩,λc1=>⟨⟨i+1,by omega⟩,[(4,some 4)],by simp only;omega,?_⟩⟩
  .obtain rfl:x=y:=AD (hx.symm.trans hy);simp only[Az];simp(disch:=omega)only[ZA,simprocAttr,Br];refine⟨Q,?_⟩;rw[Ll hx,vG,ZdU c1];simp[Al.c]
  .simp only[Az];simp(disch:=omega)only[ZA,simprocAttr,Br];refine⟨Q,?_⟩;rw[Ll hx,vG,lY c1];simp
def M5{s:Ax}: ∀(l:List Ap) (b:Ak) (i:Nat),JN s b l->CK s b l i=(AX b l,0,0)
 |[],_,_,_=>rfl
 |o::r,b,i,h=>by
  have h0:=h 0 o rfl;simp only[Rn,AX] at h0;simp only[CK];rw[Af (by rw[h0.1];simp),Af (by omega),M5 r _ (i+1) λk o' z=>h (k+1) o' z];rfl
def gY:Option (Int×Ap)->Int×Ab
 |none=>(0,⟨0,0⟩)
 |some (k,o)=>(k,o.At)
def W5{A:Type}{g:Nat->Option A}{n i:Nat}{r:A}(G:i<n)(h:Fk g (n - i) i=Fk g n 0)(z:g i=some r):Fk g n 0=some r:=by
 rw[<-h,show n - i=(n - i - 1)+1 by omega];simp only[Fk,z,Zfe]
def qX{A:Type}{g:Nat->Option A}{n i:Nat}(G:i<n)(h:Fk g (n - i) i=Fk g n 0)(z:g i=none):Fk g (n - (i+1)) (i+1)=Fk g n 0:=by
 rw[<-h,show n - i=(n - (i+1))+1 by omega];simp only[Fk,z,gA]
def LL{A:Type}{g:Nat->Option A}{n:Nat}(h:Fk g (n - n) n=Fk g n 0):Fk g n 0=none:=by
 rw[<-h,Hd];rfl
def Y4(b:Ak)(p:Ab)(t:Int):(BT b p t).Tiles.length<=b.Tiles.length+1:=by
 rw[WM];exact ZeV (by rw[(lQ ⟨p,t⟩ b.Tiles).length_eq,CM])
def dK{s:Ax}: ∀(l:List Ap) (b:Ak),b.Tiles.length<=500->JN s b l->(AX b l).Tiles.length<=500
 |[],_,h,_=>h
 |o::r,b,h,hp=>by
  have h0:=(hp 0 o rfl).2;simp only[Rn,AX] at h0;have G:=Y4 b o.At o.Tile;exact dK r _ (by omega) λk o' z=>hp (k+1) o' z
def fltS_.fv(a:Ax×(List Ap)):Int×Ab:=(λs l=>gY (Gq s l)) (a.1) (a.2)
def fltS_.row:AB:=vK (b2 (qP 4 Ax.d_le) (qS Ap.d_le Ap.c_n)) (r2 rI (rA Ab.d_le)) (λa=>KN a.1 a.2/\a.1.Seed.Tiles.length<=500) fltS_.fv
def fltS_.q:=AT (R:=fltS_.row) rfl
def fltS_.ok:AC Tryz.prog 65 fltS_.row:=by
 refine vw (tC l10Inputs.ok (tC outS_.ok (tC l08Play.ok (tC witS_.ok (tC atQ_.ok (tC opsS_.ok tN)))))) Tryz.func65 rfl (by kernel_rfl) ?_;intro a aa;simp only[Tryz.f65];simp(disch:=omega)only[ZA,simprocAttr,fltS_.fv,l10Inputs.q,l10Inputs.fv,outS_.q,outS_.fv,l08Play.q,l08Play.fv];obtain⟨s,l⟩:=a;simp only at aa⊢;obtain⟨⟨q1,q2,q3,q4,q5,q6⟩,q7⟩:=aa;have ai:=oV q5;have ac:=dK l s.Seed q7 q5;have af: ∀o∈l,FB o.At:=λo G=>by
  obtain⟨k,hk⟩:=Kl.1 G;exact (GI (q5 k o hk).1).2.1
 have am:CK s s.Seed l 0=(AX s.Seed l,0,0):=M5 l s.Seed 0 q5;refine⟨⟨q1,q2,q3,q4,q5,q6⟩,⟨ai,af,Q9 ..,q6⟩,⟨q1,q2,q3,q4⟩,?_⟩;rw[am];simp only;have O:DM s.Set (AX s.Seed l):=by
  have:=JP q3 q2 q5 l.length (AP _)
  rwa [GC] at this
 obtain⟨e,he⟩: ∃e,e=AX s.Seed l:=⟨_,rfl⟩;obtain⟨ins,hins⟩: ∃ins,ins=CD s s.Seed l:=⟨_,rfl⟩;obtain⟨Q,hsms⟩: ∃Q,Q=C9 s s.Seed l:=⟨_,rfl⟩;rw[<-he] at O ac;have ao:Q.length=l.length:=by rw[hsms,QA]
 have ab: ∀i o,l[i]? =some o->OF s l i=Fj s Q o i (decide ((DN s (Bb (E9 e o.At (Ed l ins i o.At 4))) o.At s.Set.Tiles.length).length≠1)):=λi o G=>by
  simp only[OF,G,Ey,<-he,<-hins,<-hsms]
 have ag:Gq s l=(Fk (OF s l) l.length 0).or (X8 (Cm s e)):=by rw[he];rfl
 rw[ag];simp only[<-hins,<-hsms,<-he];refine AQ.old ⟨{i:Nat//i<=l.length/\Fk (OF s l) (l.length - i) i=Fk (OF s l) l.length 0},λi=>⟨[(12,.im (.int .i64 i.1)),(9,.ptr 2 0),(8,.im (.sl false 1 ((F9 l ins l.length).map Ai))),(7,.im (.sl false 1 (Q.map Ai))),(4,.im (.int .i64 0)),(5,.ptr 1 0),(0,.ptr 0 0),(1,.im (.sl false 3 (l.map Ap.c)))],[(2,(true,.cells 39 [.im (.sl false 3 (e.Tiles.map Al.c))])),(1,(true,.cells 96 [.im (.int .i64 0),.im (.int .i64 0)])),(0,(false,.view (Ax.c s)))],3⟩,λi=>l.length - i.1,λi=>⟨by simp[Aj.good,Am,Ac,A9,AV.bel,Aq],by simp⟩,⟨⟨0,Cx _,rfl⟩,by simp(disch:=omega)only[ZA,simprocAttr,sub]⟩,λi=> ?_⟩;obtain⟨i,hi,Z⟩:=i;simp(disch:=omega)only[ZA,simprocAttr,Ak.d,witS_.q,witS_.fv,atQ_.q,atQ_.fv,opsS_.q,opsS_.fv,sub,AO];intro _;refine⟨λz=>⟨by omega,λv hv=>⟨λc1=>⟨z,λo G=> ?_⟩,λc1=>⟨z,λo G=>⟨by rw[NP];exact z,λm hm=> ?_⟩⟩⟩⟩,λz=> ?_⟩
 .have hg:OF s l i=some (1,o):=by
   rw[ab i o G];simp only[Fj,hv,AM];rw[An c1]
  rw[W5 z Z hg];rfl
 .rw[qL l ins l.length i z,G] at hm;obtain rfl:=AD hm;simp only[CQ,AM];have ah:=Jd l ins i o.At 4;have ad:=af o (AZ G);have an:=KU O o.At (Ed l ins i o.At 4);refine⟨⟨ad,ah.1,by omega,by omega⟩,z,λo2 aj=> ?_⟩;obtain rfl:o=o2:=AD (G.symm.trans aj);refine⟨⟨q1,an,ad,by omega⟩,λ_=>⟨λc2=>⟨z,λo3 ak=> ?_⟩,λc2=>⟨⟨i+1,by omega,?_⟩,by simp only;omega,by rw[AH (by omega) (by omega)];simp only;omega⟩⟩⟩
  .obtain rfl:o=o3:=AD (G.symm.trans ak);rw[Lw _ _ e] at c2;have hg:OF s l i=some (2,o):=by
    rw[ab i o G];simp only[Fj,hv,AM];rw[Af c1,An (by simp only[BK];omega)]
   rw[W5 z Z hg];rfl
  .rw[Lw _ _ e] at c2;refine qX z Z ?_;rw[ab i o G];simp only[Fj,hv,AM];rw[Af c1,Af (by simp only[BK];omega)]
 .obtain rfl:i=l.length:=by omega
  rw[LL Z,gA];refine⟨⟨q1,O,ac,by omega⟩,λ_=>⟨λc=>⟨c,λo G=> ?_⟩,λc=> ?_⟩⟩
  .cases hL:Cm s e with
   |nil=>rw[hL] at G;cases G
   |cons x r=>
    rw[hL] at G;obtain rfl:x=o:=by simpa using G
    rfl
  .have:Cm s e=[]:=Qj.1 (by omega)
   rw[this];rfl
def K2{t:TypeId}{a b:D}(h:Le a b):Le (.ifc t a) (.ifc t b):=by
 intro ok hp v G;obtain⟨x,rfl,z⟩:=G;exact⟨x,rfl,h _ _ _ z⟩
def flE:Option (Int×Ap)->D
 |none=> .nili
 |some (k,o)=>if k=1 then .ifc 294 (.agg (Ap.c o)) else if k=2 then .ifc 296 (.agg (Ap.c o)) else .ifc 297 (.agg (Ap.c o))
def flD:D->Option (Option (Int×Ap))
 | .nili=>some none
 | .ifc t (.agg ds)=>(Ap.d ds).bind λo=>if t=294 then some (some (1,o)) else if t=296 then some (some (2,o)) else if t=297 then some (some (3,o)) else none
 |_=>none
def gX: ∀d b,flD d=some b->Le d (flE b):=by
 intro d b h;unfold flD at h;split at h
 .obtain rfl:=AD h;exact Le.refl _
 .simp only[Eg] at h;obtain⟨o,G,z⟩:=h;split at z
  .rename_i c;obtain rfl:=AD z;rw[c];exact K2 (QJ (Ap.d_le _ _ G))
  .split at z
   .rename_i c;obtain rfl:=AD z;rw[c];exact K2 (QJ (Ap.d_le _ _ G))
   .split at z
    .rename_i c;obtain rfl:=AD z;rw[c];exact K2 (QJ (Ap.d_le _ _ G))
    .cases z
 .cases h
def outI_.fv(a:Cl×Int):Int:=(λx i=>Ed x.Seq x.Inputs i.toNat ((x.Seq[i.toNat]?.map Ap.At).getD ⟨0,0⟩) 4) (a.1) (a.2)
def outI_.row:AB:=vK (b2 (qP 8 Cl.d_le) qI) rI (λa=>(a.1.Seq.map Ap.At).Nodup/\(∀o∈a.1.Seq,FB o.At)/\a.1.Inputs.length=a.1.Seq.length/\a.1.Seq.length<=500/\0<=a.2/\a.2<a.1.Seq.length) outI_.fv
def outI_.q:=AT (R:=outI_.row) rfl
def outI_.ok:AC Tryz.prog 251 outI_.row:=by
 refine vw (tC step_.ok (tC idxAt_.ok (tC opposite_.ok (tC has_.ok tN)))) Tryz.func251 rfl (by kernel_rfl) ?_;intro a Z;simp only[Tryz.f251];simp(disch:=omega)only[ZZ,simprocAttr,outI_.fv];obtain⟨x,i⟩:=a;obtain⟨h1,h2,h3,h4,h5,h6⟩:=Z;simp only at h1 h2 h3 h4 h5 h6⊢;obtain⟨o,ho⟩: ∃o,x.Seq[i.toNat]? =some o:=⟨_,Bj (by omega)⟩;have ac:=h2 o (AZ ho);obtain⟨n,hn⟩: ∃n:Nat,i=n:=⟨i.toNat,by omega⟩;subst hn;rw[Bx] at ho⊢;simp only[ho,CQ,AM];refine AQ.old ⟨{d:Nat//d<=4},λd=>⟨[(8,.im (.int .i64 d.1)),(5,.im (.int .i64 (Ed x.Seq x.Inputs n o.At d.1))),(0,.ptr 0 0),(1,.im (.int .i64 n))],[(0,(false,.view (Cl.c x)))],1⟩,λd=>4 - d.1,λd=>⟨by simp[Aj.good,Am,Ac,A9,AV.bel],by simp⟩,⟨⟨0,Cx _⟩,by simp(disch:=omega)only[ZZ,simprocAttr,sub,Ed]⟩,λd=> ?_⟩;obtain⟨d,hd⟩:=d;simp(disch:=omega)only[ZZ,simprocAttr,step_.q,step_.fv,step_.re,idxAt_.q,idxAt_.fv,opposite_.q,opposite_.fv,has_.q,has_.fv,sub,AO];have z:d<4->IntKind.i64.wrap ((d:Int)+1)=((d+1:Nat):Int):=λh=>by rw[AH (by omega) (by omega)];omega
 have G:=Yw (ins:=x.Inputs) (i:=n) (p:=o.At) (d:=d) h1;have Q: ¬JA x.Seq x.Inputs n o.At d=true->Ed x.Seq x.Inputs n o.At d=Ed x.Seq x.Inputs n o.At (d+1):=λh=>by
  rw[Lq] at h;simp only[Ed,h,BN];simp
 have O:=Jd x.Seq x.Inputs n o.At d;refine⟨λaa=>⟨by omega,λy hy=> ?_⟩,λaa=>by rw[show d=4 by omega]⟩;obtain rfl:o=y:=AD (ho.symm.trans hy);refine⟨⟨ac,by omega⟩,λc1=> ?_,λc1=>⟨⟨d+1,by omega⟩,by simp only;omega,z (by omega),Q λh=>c1 (G.1 h).1⟩⟩;have ad:(EM x.Seq (Bs o.At d)).toNat<x.Seq.length:=by
  have h3:=Ma (l:=x.Seq) (q:=Bs o.At d) rfl (by omega);cases hk:x.Seq[(EM x.Seq (Bs o.At d)).toNat]? with
  |none=>rw[hk] at h3;cases h3
  |some y=>exact (Cd.1 hk).1
 refine⟨by omega,by omega,λv hv=>⟨by omega,by omega,λc2=>⟨⟨d+1,by omega⟩,by simp only;omega,z (by omega),?_⟩,λc2=>⟨⟨d+1,by omega⟩,by simp only;omega,z (by omega),Q λh=>c2 ?_⟩⟩⟩
 .have ab:JA x.Seq x.Inputs n o.At d=true:=G.2 ⟨c1,by rw[hv,AM];exact c2⟩;rw[W6 (by omega),TJ (by omega) O.1 O.2];simp only[Ed,ab,BN,BM]
 .have:=(G.1 h).2
  rw[hv,AM] at this;exact this
def Rs(x:Cl)(i:Nat):Bool:=(x.Seq[i]?.map λo=>Gl x.Sys (Bb (E9 x.End o.At (Ed x.Seq x.Inputs i o.At 4))) o.At o.Tile x.Sys.Set.Tiles.length).getD false
def TU(x:Cl):Prop:=(x.Seq.map Ap.At).Nodup/\(∀o∈x.Seq,FB o.At)/\x.Inputs.length=x.Seq.length/\x.Seq.length<=500/\BE x.Sys.Set/\DM x.Sys.Set x.End/\x.End.Tiles.length<=1000000/\x.Sys.Set.Tiles.length<=160
def anoI_.fv(a:Cl×Int):Bool:=(λx i=>Rs x i.toNat) (a.1) (a.2)
def anoI_.row:AB:=vK (b2 (qP 8 Cl.d_le) qI) rB (λa=>TU a.1/\0<=a.2/\a.2<a.1.Seq.length) anoI_.fv
def anoI_.q:=AT (R:=anoI_.row) rfl
def anoI_.ok:AC Tryz.prog 214 anoI_.row:=by
 refine vw (tC outI_.ok (tC has_.ok (tC step_.ok (tC woA.ok (tC bindA.ok tN))))) Tryz.func214 rfl (by kernel_rfl) ?_;intro a ad;simp only[Tryz.f214];simp(disch:=omega)only[ZZ,simprocAttr,anoI_.fv];obtain⟨x,i⟩:=a;obtain⟨⟨h1,h2,h3,h4,h5,h6,h7,h8⟩,h9,Q⟩:=ad;simp only at h1 h2 h3 h4 h5 h6 h7 h8 h9 Q⊢;obtain⟨n,hn⟩: ∃n:Nat,i=n:=⟨i.toNat,by omega⟩;subst hn;rw[Bx];refine⟨h9,Q,λo ho=> ?_⟩;have ac:=h2 o (AZ ho);obtain⟨m,hm⟩: ∃m,m=Ed x.Seq x.Inputs n o.At 4:=⟨_,rfl⟩;have ai:=Jd x.Seq x.Inputs n o.At 4;rw[<-hm] at ai;refine AQ.ren ⟨{d:Nat//d<=4},λd=>⟨[(20,.im (.int .i64 d.1)),(6,.own 3),(5,.ptr 1 0),(0,.ptr 0 0),(1,.im (.int .i64 n))],[(3,(true,.arr 96 2 ((Fa o.At m d.1).map Ab.c))),(1,(true,.cells 108 ((Ap.c o).map .im))),(0,(false,.view (Cl.c x)))],4⟩,λd=>4 - d.1,λd=>⟨by simp[Aj.good,Am,Ac,A9,AV.bel,Aq,Ap.c],by simp⟩,⟨⟨0,Cx _⟩,[(3,some 2)],?_⟩,λd=> ?_⟩
 .simp only[Az];simp(disch:=omega)only[ZZ,simprocAttr,Br,Fa]
  try simp
 obtain⟨d,hd⟩:=d;simp(disch:=omega)only[ZZ,simprocAttr,C8,outI_.q,outI_.fv,has_.q,has_.fv,step_.q,step_.fv,step_.re,woA.q,woA.fv,AO];have Z:d<4->IntKind.i64.wrap ((d:Int)+1)=((d+1:Nat):Int):=λh=>by rw[AH (by omega) (by omega)];omega
 have aj:=qN o.At m d;simp only[ho,CQ,AM,<-hm];refine⟨λag=>⟨⟨h1,h2,h3,h4,by omega⟩,by omega,λc1=>⟨⟨ac,by omega⟩,by simp[BB,Bz,D.one],by omega,⟨d+1,by omega⟩,[(3,some 5)],by simp only;omega,?_⟩,λc1=>⟨⟨d+1,by omega⟩,[(3,some 3)],by simp only;omega,?_⟩⟩,λag=> ?_⟩
 .simp only[Az];simp(disch:=omega)only[ZA,simprocAttr,Br];refine⟨Z (by omega),?_⟩;simp[Fa,c1,Ab.c]
 .simp only[Az];simp(disch:=omega)only[ZA,simprocAttr,Br];refine⟨Z (by omega),?_⟩;rw[Lq] at c1;simp[Fa,c1]
 obtain rfl:d=4:=by omega
 have af:Et (Fa o.At m 4) x.End.Tiles=(E9 x.End o.At m).Tiles:=CR Ak.Tiles (Zp x.End o.At m);rw[af];have O:=KU h6 o.At m;have aa:Rs x n=Gl x.Sys (Bb (E9 x.End o.At m)) o.At o.Tile x.Sys.Set.Tiles.length:=by
  simp only[Rs,ho,CQ,AM,<-hm]
 obtain⟨rest,hrest⟩: ∃r,r=E9 x.End o.At m:=⟨_,rfl⟩;rw[aa];simp only[<-hrest] at O⊢;refine⟨h7,λ_=> ?_⟩;refine AQ.old ⟨{k:Nat//k<=x.Sys.Set.Tiles.length/\Gl x.Sys (Bb rest) o.At o.Tile k=false},λk=>⟨[(49,.im (.int .i64 k.1)),(48,.im (.int .i64 x.Sys.Set.Tiles.length)),(8,.ptr 4 0),(5,.ptr 1 0),(0,.ptr 0 0)],[(4,(true,.cells 39 [.im (.sl false 3 (rest.Tiles.map Al.c))])),(1,(true,.cells 108 ((Ap.c o).map .im))),(0,(false,.view (Cl.c x)))],5⟩,λk=>x.Sys.Set.Tiles.length - k.1,λk=>⟨by simp[Aj.good,Am,Ac,A9,AV.bel,Aq,Ap.c],by simp⟩,⟨⟨0,Cx _,rfl⟩,by simp(disch:=omega)only[ZZ,simprocAttr,sub]⟩,λk=> ?_⟩;obtain⟨k,hk,G⟩:=k;simp(disch:=omega)only[ZZ,simprocAttr,C8,bindA.q,bindA.ar,bindA.fv,sub,AO];have ab:k<x.Sys.Set.Tiles.length->IntKind.i64.wrap ((k:Int)+1)=((k+1:Nat):Int):=λh=>by rw[AH (by omega) (by omega)];omega
 have ah:SH x.Sys.Set (Bb rest):=λp hp=>JR O p hp
 refine⟨λz=>⟨λc1=>⟨⟨h5,ah,ac,⟨by omega,by omega⟩,O.1⟩,λc2=> ?_,λc2=>⟨⟨k+1,by omega,?_⟩,by simp only;omega,ab z⟩⟩,λc1=>⟨⟨k+1,by omega,?_⟩,by simp only;omega,ab z⟩⟩,λz=> ?_⟩
 .exact (dJ.2 ⟨k,z,c1,c2⟩).symm
 .simp only[Gl,G,aA,ZY c2,fY]
 .have:decide ((k:Int)≠o.Tile)=false:=ZY (by omega)
  simp only[Gl,G,aA,this,F5]
 .rw[<-G,show k=x.Sys.Set.Tiles.length by omega]
def XO(x:Cl)(i:Nat):Option (Int×Ap):=(x.Seq[i]?).bind λo=>Fj x.Sys x.Strength o i (Rs x i)
def XG(x:Cl):Option (Int×Ap):=(Fk (XO x) x.Seq.length 0).or (X8 (Cm x.Sys x.End))
def ifcT:Mc Tryz.prog 238=true:=by kernel_rfl
def con1:IT Tryz.prog 294=true:=by kernel_rfl
def con2:IT Tryz.prog 296=true:=by kernel_rfl
def con3:IT Tryz.prog 297=true:=by kernel_rfl
def mk1:GJ Tryz.prog 294 "loop.example/g01081/impl.kind" =some 333:=by kernel_rfl
def mk2:GJ Tryz.prog 296 "loop.example/g01081/impl.kind" =some 335:=by kernel_rfl
def mk3:GJ Tryz.prog 297 "loop.example/g01081/impl.kind" =some 337:=by kernel_rfl
def ma1:GJ Tryz.prog 294 "loop.example/g01081/impl.at" =some 332:=by kernel_rfl
def ma2:GJ Tryz.prog 296 "loop.example/g01081/impl.at" =some 334:=by kernel_rfl
def ma3:GJ Tryz.prog 297 "loop.example/g01081/impl.at" =some 336:=by kernel_rfl
def k1_.fv(a:Ap):Int:=(λ_=>1) a
def k1_.row:AB:=vK (b1 (qR Ap.d_le)) rI (λa=>True) k1_.fv
def k1_.q:=AT (R:=k1_.row) rfl
def k1_.ok:AC Tryz.prog 333 k1_.row:=by
 refine vw tN Tryz.func333 rfl (by kernel_rfl) ?_;intro a z;simp only[Tryz.f333];simp(disch:=omega)only[ZA,simprocAttr,k1_.fv]
 try trivial
def k2_.fv(a:Ap):Int:=(λ_=>2) a
def k2_.row:AB:=vK (b1 (qR Ap.d_le)) rI (λa=>True) k2_.fv
def k2_.q:=AT (R:=k2_.row) rfl
def k2_.ok:AC Tryz.prog 335 k2_.row:=by
 refine vw tN Tryz.func335 rfl (by kernel_rfl) ?_;intro a z;simp only[Tryz.f335];simp(disch:=omega)only[ZA,simprocAttr,k2_.fv]
 try trivial
def k3_.fv(a:Ap):Int:=(λ_=>3) a
def k3_.row:AB:=vK (b1 (qR Ap.d_le)) rI (λa=>True) k3_.fv
def k3_.q:=AT (R:=k3_.row) rfl
def k3_.ok:AC Tryz.prog 337 k3_.row:=by
 refine vw tN Tryz.func337 rfl (by kernel_rfl) ?_;intro a z;simp only[Tryz.f337];simp(disch:=omega)only[ZA,simprocAttr,k3_.fv]
 try trivial
def p1_.fv(a:Ap):Ab:=(λo=>o.At) a
def p1_.row:AB:=vK (b1 (qR Ap.d_le)) (rA Ab.d_le) (λa=>True) p1_.fv
def p1_.q:=AT (R:=p1_.row) rfl
def p1_.ok:AC Tryz.prog 332 p1_.row:=by
 refine vw tN Tryz.func332 rfl (by kernel_rfl) ?_;intro a z;simp only[Tryz.f332];simp(disch:=omega)only[ZA,simprocAttr,p1_.fv]
 try trivial
def p2_.fv(a:Ap):Ab:=(λo=>o.At) a
def p2_.row:AB:=vK (b1 (qR Ap.d_le)) (rA Ab.d_le) (λa=>True) p2_.fv
def p2_.q:=AT (R:=p2_.row) rfl
def p2_.ok:AC Tryz.prog 334 p2_.row:=by
 refine vw tN Tryz.func334 rfl (by kernel_rfl) ?_;intro a z;simp only[Tryz.f334];simp(disch:=omega)only[ZA,simprocAttr,p2_.fv]
 try trivial
def p3_.fv(a:Ap):Ab:=(λo=>o.At) a
def p3_.row:AB:=vK (b1 (qR Ap.d_le)) (rA Ab.d_le) (λa=>True) p3_.fv
def p3_.q:=AT (R:=p3_.row) rfl
def p3_.ok:AC Tryz.prog 336 p3_.row:=by
 refine vw tN Tryz.func336 rfl (by kernel_rfl) ?_;intro a z;simp only[Tryz.f336];simp(disch:=omega)only[ZA,simprocAttr,p3_.fv]
 try trivial
def flt_.fv(a:Cl):Option (Int×Ap):=(XG) a
def flt_.row:AB:=vK (b1 (qP 8 Cl.d_le)) (RK.mk (flD) (flE) (gX)) (λa=>TU a/\a.Strength.length=a.Seq.length/\a.End.Tiles.length<=500/\1<=a.Sys.Temperature) flt_.fv
def flt_.q:=AT (R:=flt_.row) rfl
def flt_.ok:AC Tryz.prog 175 flt_.row:=by
 refine vw (tC anoI_.ok (tC newC.ok (tC lisC.ok tN))) Tryz.func175 rfl (by kernel_rfl) ?_;intro a ab;simp only[Tryz.f175];simp(disch:=omega)only[ZZ,simprocAttr,flt_.fv];obtain⟨⟨h1,h2,h3,h4,h5,Z,h7,h8⟩,h9,ac,Q⟩:=ab;intro _;simp only[XG];refine AQ.old ⟨{i:Nat//i<=a.Seq.length/\Fk (XO a) (a.Seq.length - i) i=Fk (XO a) a.Seq.length 0},λi=>⟨[(11,.im (.int .i64 i.1)),(10,.im (.int .i64 a.Seq.length)),(9,.im (.sl false 3 (a.Seq.map Ap.c))),(2,.im .nili),(0,.ptr 0 0)],[(0,(false,.view (Cl.c a)))],1⟩,λi=>a.Seq.length - i.1,λi=>⟨by simp[Aj.good,Am,Ac,A9,AV.bel],by simp⟩,⟨⟨0,Cx _,rfl⟩,by simp(disch:=omega)only[ZZ,simprocAttr,sub]⟩,λi=> ?_⟩;obtain⟨i,hi,G⟩:=i;simp(disch:=omega)only[ZZ,simprocAttr,anoI_.q,anoI_.fv,sub,AO,con1,con2];have ad:i<a.Seq.length->IntKind.i64.wrap ((i:Int)+1)=((i+1:Nat):Int):=λh=>by rw[AH (by omega) (by omega)];omega
 refine⟨λz=>⟨z,λo ho=>⟨by omega,λv hv=>⟨λc1=> ?_,λc1=>⟨⟨⟨h1,h2,h3,h4,h5,Z,h7,h8⟩,z⟩,λc2=> ?_,λc2=>⟨⟨i+1,by omega,?_⟩,by simp only;omega,ad z⟩⟩⟩⟩⟩,λz=> ?_⟩
 .have hg:XO a i=some (1,o):=by
   simp only[XO,ho,Ey,Fj,hv,AM];rw[An c1]
  rw[W5 z G hg];rfl
 .have hg:XO a i=some (2,o):=by
   simp only[XO,ho,Ey,Fj,hv,AM];rw[Af c1,An c2]
  rw[W5 z G hg];rfl
 .refine qX z G ?_;simp only[XO,ho,Ey,Fj,hv,AM];rw[Af c1,Af c2]
 obtain rfl:i=a.Seq.length:=by omega
 rw[LL G,gA];have af:newC.pre (a.Sys,a.End):=⟨h5,by simp only;omega,λy hy=>⟨Z.2 y hy,Z9 (rW _ none Z.1 y hy).1⟩⟩;have aa:Cp (Ci a.End.Tiles)=Bb a.End:=(RM.of Z.1 λx O=>(Z.2 x O).1).at;have ag:JI a.Sys (Bb a.End) (Kf a.Sys a.End).Op:=by
  have:=TF (s:=a.Sys) (l:=a.End.Tiles) Q
  rw[aa] at this;simp only[Kf,aa];exact this
 obtain⟨g1,g2,g3⟩:=TE Q ac h8 ag;refine AF.os (a.Sys,a.End) [] af (λj=>by simp[Ao,hget]) rfl rfl ?_ ?_
 .simp(disch:=omega)only[ZA,simprocAttr,newC.ca,CO,Ax.c,Ak.c]
 simp(disch:=omega)only[ZA,simprocAttr,newC.H1];refine AF.os (Kf a.Sys a.End) [5,3,4] g2 (λj=>Ga _ j) rfl rfl ?_ ?_
 .simp(disch:=omega)only[ZA,simprocAttr,asmC.ca,B3,BU,Dj,EI]
  try exact⟨rfl,rfl,rfl,rfl⟩
 simp(disch:=omega)only[ZA,simprocAttr,lisC.r0,g1,AO,con3];intro _;refine⟨λc=>⟨c,λx O=> ?_⟩,λc=> ?_⟩
 .cases hL:Cm a.Sys a.End with
  |nil=>rw[hL] at O;cases O
  |cons y r=>
   rw[hL] at O;obtain rfl:y=x:=by simpa using O
   rfl
 .have:Cm a.Sys a.End=[]:=Qj.1 (by omega)
  rw[this];rfl
def XJ{s:Ax}{l:List Ap}(h:KN s l):XG ⟨s,l,AX s.Seed l,CD s s.Seed l,C9 s s.Seed l⟩=Gq s l:=by
 rw[<-XI h];simp only[XG];rw[dG l.length 0 (h:=wC s l) λi _ _=> ?_];simp only[XO,wC,Rs];cases l[i]? <;>rfl
def gZ{s:Ax}{z:List Int}{o:Ap}{i:Nat}{m:Bool}{q:Int×Ap}(h:Fj s z o i m=some q):q.1=1\/q.1=2:=by
 simp only[Fj] at h;split at h
 .obtain rfl:=AD h;exact .inl rfl
 .split at h
  .obtain rfl:=AD h;exact .inr rfl
  .cases h
def aL{g:Nat->Option (Int×Ap)}(z: ∀i q,g i=some q->q.1=1\/q.1=2): ∀(n k:Nat) (q:Int×Ap),Fk g n k=some q->q.1=1\/q.1=2
 |n+1,k,q,h=>by
  simp only[Fk] at h;cases hk:g k with
  |none=>rw[hk,gA] at h;exact aL z n (k+1) q h
  |some r=>rw[hk,Zfe] at h;obtain rfl:=AD h;exact z k _ hk
def Sm{s:Ax}{l:List Ap}{q:Int×Ap}(h:Gq s l=some q):q.1=1\/q.1=2\/q.1=3:=by
 simp only[Gq] at h;cases hf:Fk (OF s l) l.length 0 with
 |some r=>
  rw[hf,Zfe] at h;obtain rfl:=AD h
  have:=aL (g:=OF s l) (λi q hq=>by
   simp only[OF,Eg] at hq;obtain⟨o,_,z⟩:=hq;exact gZ z) _ _ _ hf
  rcases this with h|h
  .exact .inl h
  .exact .inr (.inl h)
 |none=>
  rw[hf,gA] at h;cases he:Cm s (AX s.Seed l) with
  |nil=>rw[he] at h;cases h
  |cons o r=>rw[he] at h;obtain rfl:=AD h;exact .inr (.inr rfl)
def iJ{s:Ax}{l:List Ap}(h:(Cs s l).2.2≠0):VN s l=(0,⟨0,0⟩,(Cs s l).2.2):=by simp only[VN];rw[An h]
def Tc{s:Ax}{l:List Ap}(h:(Cs s l).2.2=0):VN s l=XH (Gq s l):=by simp only[VN];rw[Af (λc=>c h)]
def TV{s:Ax}{l:List Ap}(c0:(Cs s l).2.2=0):(Cs s l).1=AX s.Seed l/\KN s l/\s.Seed.Tiles.length<=500/\1<=s.Temperature/\(AX s.Seed l).Tiles.length<=500/\TU ⟨s,l,AX s.Seed l,CD s s.Seed l,C9 s s.Seed l⟩:=by
 obtain⟨hE,hp,z⟩:=MS c0;have hp':=hp;obtain⟨q1,q2,q3,q4,O,q6⟩:=hp';have Z:s.Seed.Tiles.length<=500:=(Zu (Hz z).2.2).2;have hT:1<=s.Temperature:=by
  simp only[F2,Bh,AR,BK] at z;exact z.2.2.2.1.1
 have Q:=dK l s.Seed Z O;have G:DM s.Set (AX s.Seed l):=by
  have:=JP q3 q2 O l.length (AP _)
  rwa [GC] at this
 exact⟨hE,hp,Z,hT,Q,oV O,λo ho=>by
  obtain⟨k,hk⟩:=Kl.1 ho;exact (GI (O k o hk).1).2.1,Q9 ..,q6,q1,G,by simp only;omega,q3⟩
def lfI_.fv(a:Ax×(List Ap)):Int×Ab×Int:=(VN) (a.1) (a.2)
def lfI_.row:AB:=vK (b2 (qR Ax.d_le) (qS Ap.d_le Ap.c_n)) (r3 rI (rA Ab.d_le) rI) (λa=>QT a.1.Set) lfI_.fv
def lfI_.q:=AT (R:=lfI_.row) rfl
def lfI_.ok:AC Tryz.prog 125 lfI_.row:=by
 refine vw (tC play_.ok (tC flt_.ok (tC k1_.ok (tC k2_.ok (tC k3_.ok (tC p1_.ok (tC p2_.ok (tC p3_.ok tN)))))))) Tryz.func125 rfl (by kernel_rfl) ?_;intro a z;simp only[Tryz.f125];simp(disch:=omega)only[ZZ,simprocAttr,lfI_.fv,play_.q,play_.fv,flt_.q,flt_.fv,ifcT];obtain⟨s,l⟩:=a;simp only at z⊢;refine⟨z,?_⟩;by_cases c0:(Cs s l).2.2=0
 case neg=>
  have G:I6 s l=(none,(Cs s l).2.2):=by simp only[I6];rw[An c0]
  rw[G,An c0,iJ c0]
 have G:I6 s l=(some ⟨s,l,(Cs s l).1,CD s s.Seed l,C9 s s.Seed l⟩,0):=by
  simp only[I6];rw[Af (λh=>h c0)]
 obtain⟨hE,hp,h5,hT,O,Q⟩:=TV c0;rw[hE] at G;simp only[G];rw[Af (by simp)];have Z: ∀x:Cl,(kP Cl.d 8 (FV (plE (some x))))=some x:=λx=>Cl.d_c x
 simp only[Z,Ey,El];refine⟨⟨Q,QA ..,O,hT⟩,?_⟩;rw[XJ hp,Tc c0];cases hf:Gq s l with
 |none=>
  simp only[flE];simp(disch:=omega)only[ZA,simprocAttr];rfl
 |some q=>
  obtain⟨k,o⟩:=q;rcases Sm hf with h|h|h
  all_goals
   simp only at h;subst h;simp only[flE];simp(disch:=omega)only[ZA,simprocAttr,k1_.q,k1_.fv,k2_.q,k2_.fv,k3_.q,k3_.fv,p1_.q,p1_.fv,p2_.q,p2_.fv,p3_.q,p3_.fv,mk1,mk2,mk3,ma1,ma2,ma3];rfl
def rG{s:Ax}{l:List Int}(hs:s.Set.Tiles.length<=160): ∀(n:Nat) (b:Ak) (d:List Ap),DM s.Set b->(Gr s l n b d).2.2=0-> ∃r,(Gr s l n b d).1=d++r/\ ∀i,CK s b r i=((Gr s l n b d).2.1,0,0)
 |0,b,d,_,_=>⟨[],by simp[Gr],λi=>by simp only[CK,Gr]⟩
 |n+1,b,d,hb,h=>by
  rw[Gr] at h⊢;cases ho:GG s l b d.length with
  |none=>exact⟨[],by simp,λi=>by simp only[CK]⟩
  |some o=>
   rw[ho] at h;simp only at h⊢;by_cases z:500<=b.Tiles.length
   .rw[An z] at h;exact absurd h (by decide)
   .rw[Af z] at h⊢;have hc:=QF hb ho;obtain⟨r,G,O⟩:=rG hs n _ _ (QI hs hb hc) h;refine⟨o::r,by rw[G,Hr];rfl,λi=> ?_⟩;rw[CK,Af (by simp[hc]),Af z];exact O _
def iD{s:Ax}{l:List Int}(h:(Fl s l).2.2=0):Cs s (Fl s l).1=((Fl s l).2.1,0,0):=by
 have Q:=(SC s l).1;by_cases c1:F2 s=false
 .simp only[Fl] at h;rw[An c1] at h;exact absurd h (by decide)
 by_cases z:DV l=false
 .simp only[Fl] at h;rw[Af c1,An z] at h;exact absurd h (by decide)
 have e:Fl s l=Gr s l 500 s.Seed []:=by simp only[Fl];rw[Af c1,Af z]
 rw[e] at h Q⊢;obtain⟨_,Z,_,q4⟩:=MR c1;obtain⟨r,G,O⟩:=rG q4 500 s.Seed [] Z h;rw[Hb] at G;simp only[Cs];rw[Af c1,Af (by omega),G];exact O 0
def En(s:Ax)(l:List Int):List Ap×Ak×Int:=if (Fl s l).2.2≠0 then ([],⟨[]⟩,(Fl s l).2.2) else if (VN s (Fl s l).1).2.2=3 then Fl s l else ([],⟨[]⟩,3)
def fndS_.fv(a:Ax×(List Int)):(List Ap)×Ak×Int:=(En) (a.1) (a.2)
def fndS_.row:AB:=vK (b2 (qR Ax.d_le) (qS Dt C5)) (r3 (rS Ap.d_le Ap.c_n) (rA Ak.d_le) rI) (λa=>True) fndS_.fv
def fndS_.q:=AT (R:=fndS_.row) rfl
def fndS_.ok:AC Tryz.prog 28 fndS_.row:=by
 refine vw (tC GrowS_.ok (tC fltS_.ok tN)) Tryz.func28 rfl (by kernel_rfl) ?_;intro a O;simp only[Tryz.f28];simp(disch:=omega)only[ZA,simprocAttr,Ak.d,fndS_.fv,GrowS_.q,GrowS_.fv,fltS_.q,fltS_.fv];obtain⟨s,l⟩:=a;have hq:=iD (s:=s) (l:=l);obtain⟨w,hw⟩: ∃w,w=Fl s l:=⟨_,rfl⟩;simp only[En,<-hw] at hq⊢;by_cases c0:w.2.2=0
 case neg=>rw[An c0,An c0]
 have G:(if w.2.2≠0 then ([],⟨[]⟩,w.2.2) else if (VN s w.1).2.2=3 then w else ([],⟨[]⟩,3))=(if (VN s w.1).2.2=3 then w else (([]:List Ap),(⟨[]⟩:Ak),3)):=Af (λh=>h c0);rw[Af (λh=>h c0),G];have z:(Cs s w.1).2.2=0:=by rw[hq c0]
 obtain⟨_,hp,Z,_⟩:=TV z;refine⟨⟨hp,Z⟩,?_⟩;rw[Tc z];cases hf:Gq s w.1 with
 |none=>
  obtain⟨w0,w1,w2⟩:=w;simp only at c0;subst c0;rfl
 |some q=>
  obtain⟨k,o⟩:=q
  have:=Sm hf
  simp only at this;have hk: ¬(gY (some (k,o))).1=0:=by simp only[gY];omega
  have Q: ¬(XH (some (k,o))).2.2=3:=by simp[XH]
  rw[An hk,Af Q]
def islF.fv(a:Ax×(List Ap)):Bool:=(λs l=>decide ((VN s l).2.2=3)) (a.1) (a.2)
def islF.row:AB:=Dg (b2 (qR Ax.d_le) (qS Ap.d_le Ap.c_n)) rB (λa=>QT a.1.Set) islF.fv
def islF.q:=DS (R:=islF.row) rfl
def islF.ok:AC Tryz.prog 67 islF.row:=by
 refine G1 (tC lfI_.ok tN) Tryz.func67 rfl (by kernel_rfl) ?_;intro a z;simp only[Tryz.f67];simp(disch:=omega)only[ZA,simprocAttr,islF.fv,lfI_.q,lfI_.fv,D.sc,D.scs,B4];exact z
def fndI.H1(a:Ax×List Int):Aw:=Hw (En a.1 a.2)
def fndI.row:AB:=AF grI.ca (λ_=>[]) 0 (λa=>QT a.1.Set) (λ_=>false) (λa=>Hv (En a.1 a.2)) fndI.H1 20
def fndI.ok:AC Tryz.prog 29 fndI.row:=by
 refine Pb (tC grI.ok (tC islF.ok tN)) Tryz.func29 rfl (by kernel_rfl) (exB:=S7) (R:=λa r=>r=Hv (En a.1 a.2)) (λ_=>rfl)
  (λa=>by simp[grI.ca,Ax.c,Aq,AV.bel,Ac,A9,BR]) (λa p hp=> ?_) (λa r h=>by subst h;exact CJ.refl _) ?_
 rotate_left
 intro a z;simp only[Tryz.f29,grI.ca,Ax.c];simp(disch:=omega)only[ZA,simprocAttr];obtain⟨s,l⟩:=a;simp only at z⊢;obtain⟨w,hw⟩: ∃w,w=Fl s l:=⟨_,rfl⟩;refine AF.os (s,l) [] z (λj=>by simp[Ao,hget]) rfl rfl ?_ ?_
 .simp(disch:=omega)only[ZA,simprocAttr,grI.ca,Ax.c,grI.ca,CO,Ax.c]
  try exact⟨rfl,rfl⟩
 simp(disch:=omega)only[ZA,simprocAttr,C8,islF.q,islF.fv,Fy,Ax.c,grI.H1,Hw,Hv,<-hw];by_cases c0:w.2.2=0
 case neg=>
  rw[An c0];have G:En s l=([],⟨[]⟩,w.2.2):=by simp only[En,<-hw];rw[An c0]
  refine⟨[],[(0,some 24),(1,none),(2,some 2)],⟨[(4,.own 0),(5,.ptr 2 0),(6,.im (.int .i64 w.2.2))],[(2,(true,.cells 39 [.own 1])),(0,(true,.arr 108 3 ([]))),(1,(true,.arr 137 3 ([])))],3⟩,?_,by simp[Aj.good,Am,Ac,A9,AV.bel,Aq],by simp,?_⟩
  .simp only[Az];simp(disch:=omega)only[ZA,simprocAttr,Br,Xh]
   try simp
  .simp(disch:=omega)only[ZA,simprocAttr,S7,fndI.H1,G,Hw]
   try simp
 rw[Af (λh=>h c0)];refine⟨z,?_⟩;by_cases c1:(VN s w.1).2.2=3
 case neg=>
  rw[An c1];have G:En s l=([],⟨[]⟩,3):=by simp only[En,<-hw];rw[Af (λh=>h c0),Af c1]
  refine⟨[],[(0,some 24),(1,none),(2,some 2)],⟨[(4,.own 0),(5,.ptr 2 0),(6,.im (.int .i64 3))],[(2,(true,.cells 39 [.own 1])),(0,(true,.arr 108 3 ([]))),(1,(true,.arr 137 3 ([])))],3⟩,?_,by simp[Aj.good,Am,Ac,A9,AV.bel,Aq],by simp,?_⟩
  .simp only[Az];simp(disch:=omega)only[ZA,simprocAttr,Br,Xh]
   try simp
  .simp(disch:=omega)only[ZA,simprocAttr,S7,fndI.H1,G,Hw]
   try simp
 rw[Af (λh=>h c1)];have G:En s l=w:=by simp only[En,<-hw];rw[Af (λh=>h c0),An c1]
 refine⟨[],[(0,some 3),(1,some 4),(2,some 2)],⟨[(4,.own 0),(5,.ptr 2 0),(6,.im (.int .i64 0))],[(2,(true,.cells 39 [.own 1])),(0,(true,.arr 108 3 (w.1.map Ap.c))),(1,(true,.arr 137 3 (w.2.1.Tiles.map Al.c)))],3⟩,?_,by simp[Aj.good,Am,Ac,A9,AV.bel,Aq],by simp,?_⟩
 .simp only[Az];simp(disch:=omega)only[ZA,simprocAttr,Br]
  try simp
 .simp(disch:=omega)only[ZA,simprocAttr,S7,fndI.H1,G,c0,Hw]
  try simp
 simp[fndI.H1,Hw] at hp;rcases hp with rfl|rfl
 .exact .inr ⟨by omega,by omega,rfl,rfl⟩
 .exact .inr ⟨by omega,by omega,rfl,rfl⟩
def fndV.row:AB:=EZ grV.ar (λa=>QT a.1.Set) (λa=>Hv (En a.1 a.2)) fndI.H1 20
def fndV.ok:AC Tryz.prog 29 fndV.row:=
 pD (A:=Ax×List Int) (ca:=λ(a:Ax×List Int)=>[D.agg (Ax.c a.1),D.sl false 1 (a.2.map Ai)]) (by kernel_rfl) fndI.ok (λ_=>rfl) (Ro (Me Ax.d_le) (SP 1 Dt (λ_=>rfl))) (λ_=>iB _) (λ_=>iC _)
def XK(s:Ax)(l:List Int):(En s l).1.length<=500/\(En s l).2.1.Tiles.length<=500:=by
 simp only[En];split
 .simp
 split
 .exact SC s l
 .simp
def lawFL.rc:D->Option (Bool):=Vy
def lawFL.re:Bool->D:=D.bool
def lawFL.rle: ∀d b,lawFL.rc d=some b->Le d (lawFL.re b):=kA
def lawFL.fv(a:Ax×(List Int)):Bool:=(λ_ _=>true) (a.1) (a.2)
def lawFL.row:AB:=vK (b2 (qR Ax.d_le) (qS Dt C5)) (RK.mk lawFL.rc lawFL.re lawFL.rle) (λa=>OT a.1.Set) lawFL.fv
def lawFL.q:=AT (R:=lawFL.row) rfl
def lawFL.ok:AC Tryz.prog 4 lawFL.row:=by
 refine vw (tC szSystem.ok (tC toYR.ok (tC toIR.ok (tC fndS_.ok (tC fndV.ok (tC eqOptionSF.ok (tC eqAsmF.ok (tC eqSystemF.ok (tC eqInt64SF.ok (tC mkSy.ok (tC mkIC.ok (tC mkOC.ok (tC mkAC.ok (tC heldO_.ok (tC heldA_.ok tN))))))))))))))) Tryz.func4 rfl (by kernel_rfl) ?_;intro a ac;simp only[Tryz.f4];simp(disch:=omega)only[ZA,simprocAttr,lawFL.fv,lawFL.rc,szSystem.q,szSystem.fv];obtain⟨s,l⟩:=a;simp only at ac⊢;intro _;split
 .trivial
 rename_i c2;refine⟨ac,?_⟩;split
 .trivial
 rename_i c0;have hB:=Zb (s:=s) (l:=1048576) (by decide) (by decide) (by omega);have h1:=Vd (s:=s) (l:=1048576) (by decide) (by decide) (by omega);have hl:l.length<=1048576:=by omega
 have an:l.length<=1073741824:=by omega
 refine .inl (vK.call [.val (.agg (Ax.c s))] rfl s (Vb s) h1 ?_);simp(disch:=omega)only[ZA,simprocAttr,BC,toSystem.fv];refine .inl (vK.call [.val (.sl false 1 (l.map Ai))] rfl l (SJ l) an ?_);simp(disch:=omega)only[ZA,simprocAttr,fndS_.q,fndS_.fv,BC,toInt64S.fv];obtain⟨w,hw⟩: ∃w,w=En s l:=⟨_,rfl⟩;have ax:=XK s l;obtain⟨G,w1,w2⟩:=w;simp only[<-hw] at ax⊢;refine .inr (AF.nw s hB.yx rfl rfl (xV hB) (by simp[toYX.r0,AV.nms,AG]) λHH hH1 z=> ?_);have S0:EY (hget HH) 9 11 2000014 12 s:=xU hB hH1;have Z:hget HH 0=some (true,.cells 30 [AV.im (D.sl false 2 (List.map Ar.c s.Set.Glues)),AV.im (D.sl false 2 (List.map Tile.c s.Set.Tiles)),AV.im (D.sl false 3 (List.map Al.c s.Seed.Tiles)),AV.im (D.int IntKind.i64 s.Temperature)]):=z 0 (by omega);have k1:hget HH 1=some (true,.cells 39 [AV.im (D.sl false 3 (List.map Al.c w1.Tiles))]):=z 1 (by omega);clear hH1 z;simp only[toYX.r0,AV.ren,AL];simp(disch:=omega)only[ZA,simprocAttr,BC];refine .inr (AF.nw l an rfl rfl (wG l) (by simp[AV.nms]) λag hH1 z=> ?_);have Z:hget ag 0=_:=((z 0 (by omega)).trans (QB _ _ _ (by omega))).trans Z;have k1:hget ag 1=_:=((z 1 (by omega)).trans (QB _ _ _ (by omega))).trans k1;have S1:EY (hget ag) 9 11 2000014 12 s:=S0.mono λm hm=>by
  exact (z m (by have:=hB.t;omega)).trans (QB _ _ _ (by have:=hB.t;omega))
 have g8:hget ag 2000015=some (true,.cells 47 [.own 9,.own 11,.own 2000014,.im (.int .i64 s.Temperature)]):=z _ (by omega);have g9:hget ag 2000017=some (true,.arr 2 1 (l.map Ai)):=hH1 1 _ rfl;clear hH1 z S0;simp only[AV.ren];simp(disch:=omega)only[ZA,simprocAttr,BC,g8];refine EZ.nw [.val (.agg (Ax.c s)),.val (.sl false 1 (l.map Ai))] (Pg S1.pk (JM g9)) (s,l) (Ni s l) ac (S8 _) (K0 _) λQ hH1 z=> ?_
 simp only[<-hw,fndI.H1] at hH1⊢;have S2:EY (hget Q) 9 11 2000014 12 s:=S1.mono λm hm=>z m (by have:=hB.t;omega)
 have Z:hget Q 0=_:=(z 0 (by omega)).trans Z;have k1:hget Q 1=_:=(z 1 (by omega)).trans k1;have g8:hget Q 2000015=_:=(z _ (by omega)).trans g8;have g9:hget Q 2000017=_:=(z _ (by omega)).trans g9;have O:hget Q 2000018=some (true,.arr 108 3 (G.map Ap.c)):=hH1 0 _ rfl;have gp:hget Q 2000019=some (true,.arr 137 3 (w1.Tiles.map Al.c)):=hH1 1 _ rfl;clear hH1 z S1;simp only[Hv,AV.ren,AL];simp(disch:=omega)only[ZA,simprocAttr,BC];generalize hG:((2000038,(true,Ad.cells 39 [AV.own 2000019]))::Bl Q [2000038]:Aw)=H3;have S2:EY (hget H3) 9 11 2000014 12 s:=S2.mono λm hm=>by rw[<-hG];exact QB _ _ _ (by have:=hB.t;omega)
 have Z:=pg hG (by omega) Z;have k1:=pg hG (by omega) k1;have g8:=pg hG (by omega) g8;have g9:=pg hG (by omega) g9;have O:=pg hG (by omega) O;have gp:=pg hG (by omega) gp;have ga:hget H3 2000038=some (true,.cells 39 [.own 2000019]):=by rw[<-hG];rfl
 clear hG;refine Dg.call [_,_] (Pg (JM O) rfl) (G,G) (TG _ _) trivial ?_;simp(disch:=omega)only[ZA,simprocAttr,BC,k1,ga,eqOptionSF.fv];refine Dg.call [_,_] (Pg (Jg gp) rfl) (w1,w1) (Rv _ _) trivial ?_;simp(disch:=omega)only[ZA,simprocAttr,BC,Z,g8,eqAsmF.fv];refine .inl (vK.callA [.val (.agg (Ax.c s))] rfl s (Vb s) h1 rfl λu=> ?_);simp(disch:=omega)only[ZA,simprocAttr,toSystem.fv];refine Dg.callA [_,_] (Pg S2.pk rfl) (s,s) (xO _ _) trivial rfl λu2=> ?_
 simp(disch:=omega)only[ZA,simprocAttr,BC,eqSystemF.fv];refine .inl (vK.call [.val (.sl false 1 (l.map Ai))] rfl l (SJ l) an ?_);simp(disch:=omega)only[ZA,simprocAttr,toInt64S.fv];refine Dg.call [_,_] (Pg (JM g9) rfl) (l,l) (wE _ _) trivial ?_;simp(disch:=omega)only[ZA,simprocAttr,BC,g8,eqInt64SF.fv];refine OQ (N:=2) hB (by decide) (by decide) S2 (by omega) λad ab=> ?_
 have Z:hget ad 0=_:=(ab 0 (by omega)).trans Z;have k1:hget ad 1=_:=(ab 1 (by omega)).trans k1;have g9:hget ad 2000017=_:=(ab _ (by omega)).trans g9;have O:hget ad 2000018=_:=(ab _ (by omega)).trans O;have gp:hget ad 2000019=_:=(ab _ (by omega)).trans gp;have ga:hget ad 2000038=_:=(ab _ (by omega)).trans ga;obtain⟨y1,y2⟩:=hB.syK (k:=1) (by decide) (by decide);obtain⟨m1,hm1⟩: ∃m1,m1=syK (s,1)+3*s.Seed.Tiles.length:=⟨_,rfl⟩;rw[<-hm1] at y2;have y3:0<=m1:=by omega
 simp only[<-hm1];clear ab S2 g8 y1 hm1;simp(disch:=omega)only[ZA,simprocAttr,BC];refine ON y3 (by omega) g9 (by omega) λah _ af=> ?_
 have Z:hget ah 0=_:=(af 0 (by omega)).trans Z;have k1:hget ah 1=_:=(af 1 (by omega)).trans k1;have O:hget ah 2000018=_:=(af _ (by omega)).trans O;have gp:hget ah 2000019=_:=(af _ (by omega)).trans gp;have ga:hget ah 2000038=_:=(af _ (by omega)).trans ga;clear af g9;simp(disch:=omega)only[ZA,simprocAttr,BC];rw[An (by omega)];refine Dg.call [_,_] (Pg (JM O) rfl) (G,G) (TG _ _) trivial ?_;simp(disch:=omega)only[ZA,simprocAttr,BC,k1,ga,eqOptionSF.fv];refine Dg.call [_,_] (Pg (Jg gp) rfl) (w1,w1) (Rv _ _) trivial ?_;simp(disch:=omega)only[ZA,simprocAttr,BC,eqAsmF.fv];refine OP (by decide) (by omega) O (by omega) λai au aj=> ?_
 have Z:hget ai 0=_:=(aj 0 (by omega)).trans Z;have k1:hget ai 1=_:=(aj 1 (by omega)).trans k1;have O:hget ai 2000018=some (true,.arr 108 3 ((DG (oF 1) G.length).map Ap.c)):=au 0 _ rfl;have gp:hget ai 2000019=_:=(aj _ (by omega)).trans gp;have ga:hget ai 2000038=_:=(aj _ (by omega)).trans ga;clear au aj;simp(disch:=omega)only[ZA,simprocAttr,BC,ga];refine OM (by omega) (by omega) gp (by omega) λam gp ak=> ?_
 have Z:hget am 0=_:=(ak 0 (by omega)).trans Z;have k1:hget am 1=_:=(ak 1 (by omega)).trans k1;have O:hget am 2000018=_:=(ak _ (by omega)).trans O;have ga:hget am 2000038=_:=(ak _ (by omega)).trans ga;clear ak;simp(disch:=omega)only[ZA,simprocAttr,BC];have aq:(0:Int)<=1/\(1:Int)+3*(DG (oF 1) G.length).length<=1099511627776:=by rw[W4];omega
 have aw:heldO_.fv (DG (oF 1) G.length,1)=1+3*G.length:=SE 1 G.length;have ao:(0:Int)<=1+3*G.length/\(1:Int)+3*G.length+3*(DG (pF (1+3*G.length)) w1.Tiles.length).length<=1099511627776:=by rw[W4];omega
 have av:heldA_.fv (⟨DG (pF (1+3*G.length)) w1.Tiles.length⟩,1+3*G.length)=1+3*G.length+3*w1.Tiles.length:=SF _ _;refine Dg.call [_,_] (Pg (JM O) rfl) (DG (oF 1) G.length,1) (aW _ _) aq ?_;simp only[aw];simp(disch:=omega)only[ZA,simprocAttr,BC,ga];rw[Af (by omega)];refine Dg.call [_,_] (Pg (Jg (a:=⟨DG (pF (1+3*G.length)) w1.Tiles.length⟩) gp) rfl) (⟨DG (pF (1+3*G.length)) w1.Tiles.length⟩,1+3*G.length) (aE _ _) ao ?_;simp only[av];simp(disch:=omega)only[ZA,simprocAttr,BC,Z];rw[Af (by omega)];refine .inl (vK.call [.val (.agg (Ax.c s))] rfl s (Vb s) h1 ?_);simp(disch:=omega)only[ZA,simprocAttr,BC,toSystem.fv];refine .inl (vK.call [.val (.sl false 1 (l.map Ai))] rfl l (SJ l) an ?_);simp(disch:=omega)only[ZA,simprocAttr,toInt64S.fv];refine EZ.nw [.val (.agg (Ax.c s)),.val (.sl false 1 (l.map Ai))] rfl (s,l) (Ni s l) ac (S8 _) (K0 _) λaa hH1 z=> ?_
 simp only[<-hw,fndI.H1] at hH1⊢;have k1:hget aa 1=_:=(z 1 (by omega)).trans k1;have O:hget aa 2000018=_:=(z _ (by omega)).trans O;have gp:hget aa 2000019=_:=(z _ (by omega)).trans gp;have ga:hget aa 2000038=_:=(z _ (by omega)).trans ga;have gh:hget aa 2000039=some (true,.arr 108 3 (G.map Ap.c)):=hH1 0 _ rfl;have gq:hget aa 2000040=some (true,.arr 137 3 (w1.Tiles.map Al.c)):=hH1 1 _ rfl;clear hH1 z Z;simp only[Hv,AV.ren,AL];simp(disch:=omega)only[ZA,simprocAttr,BC];generalize hG:((2000059,(true,Ad.cells 39 [AV.own 2000040]))::Bl aa [2000059]:Aw)=H8;have k1:=pg hG (by omega) k1;have O:=pg hG (by omega) O;have gp:=pg hG (by omega) gp;have ga:=pg hG (by omega) ga;have gh:=pg hG (by omega) gh;have gq:=pg hG (by omega) gq;have gb:hget H8 2000059=some (true,.cells 39 [.own 2000040]):=by rw[<-hG];rfl
 clear hG;refine Dg.call [_,_] (Pg (JM gh) rfl) (G,G) (TG _ _) trivial ?_;simp(disch:=omega)only[ZA,simprocAttr,BC,k1,gb,eqOptionSF.fv];refine Dg.call [_,_] (Pg (Jg gq) rfl) (w1,w1) (Rv _ _) trivial ?_;simp(disch:=omega)only[ZA,simprocAttr,BC,eqAsmF.fv];refine Dg.call [_,_] (Pg (JM O) rfl) (DG (oF 1) G.length,1) (aW _ _) aq ?_;simp only[aw];simp(disch:=omega)only[ZA,simprocAttr,BC,ga];rw[Af (by omega)];refine Dg.call [_,_] (Pg (Jg (a:=⟨DG (pF (1+3*G.length)) w1.Tiles.length⟩) gp) rfl) (⟨DG (pF (1+3*G.length)) w1.Tiles.length⟩,1+3*G.length) (aE _ _) ao ?_;simp only[av];simp(disch:=omega)only[ZA,simprocAttr,BC];rw[Af (by omega)];trivial
end Go.Ae
