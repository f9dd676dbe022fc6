/- Lemmas. Conditions: none. -/
import Derived.Test.YtogafbdeamcpnaaGreatDoorP09
set_option linter.all false
set_option maxHeartbeats 8000000
set_option maxRecDepth 100000
namespace Go.Ae
open Go.Proofs
def Fm(n:Int)(bs:List Af):Nat->Int×List Int
 |0=>(-1,[])
 |k+1=>if (Fm n bs k).1<0\/FO (DJ n bs 0 (k+1)).2 (cP (DJ n bs 0 (k+1)).1 (k+1)) (Fm n bs k).1 (Fm n bs k).2=true then ((DJ n bs 0 (k+1)).2,cP (DJ n bs 0 (k+1)).1 (k+1)) else Fm n bs k
def weakC.fv(a:Int×(List Af)):Int×(List Int):=(λn bs=>Fm n bs (n - 1).toNat) (a.1) (a.2)
def weakC.row:A7:=vK (b2 qI (qS Af.d_le Af.c_n)) (r2 rI (rS DU Dc)) (λa=>YF (a.1,a.2)/\P0 a.2/\1<=a.1) weakC.fv
def weakC.q:=AU (R:=weakC.row) rfl
def weakC.ok:AA Tryz.prog 208 weakC.row:=by
 refine vw (tC l07Before.ok (tC flC.ok (tC sideC.ok tN))) Tryz.func208 rfl (by kernel_rfl) ?_;intro a Q;simp only[Tryz.f208];simp(disch:=omega)only[ZA,simprocAttr,weakC.fv];obtain⟨O,Z,ac⟩:=Q;have aa:=O.2.1;simp only at aa;obtain⟨n,hn⟩: ∃n:Nat,a.1=n+1:=⟨(a.1 - 1).toNat,by omega⟩;rw[show (a.1 - 1).toNat=n by omega];refine AR.frr ⟨{k:Nat//k<=n},λk=>⟨[(8,.im (.int .i64 ((k.1:Int)+1))),(7,.im (.sl false 1 ((Fm a.1 a.2 k.1).2.map Al))),(6,.im (.int .i64 (Fm a.1 a.2 k.1).1)),(0,.im (.int .i64 a.1)),(1,.im (.sl false 3 (a.2.map Af.c)))],[],2⟩,λk=>n - k.1,λk=>⟨by simp[Aj.good,An,Ac,A9,AV.bel],by simp⟩,⟨⟨0,by simp⟩,[1],[],?_⟩,λk=> ?_⟩
 .simp only[A8];simp(disch:=omega)only[ZA,simprocAttr,Fm]
  try simp
 obtain⟨k,ab⟩:=k;simp(disch:=omega)only[ZA,simprocAttr,AP];refine⟨λhk=> ?_,λhk=> ?_⟩
 .refine AF.os (a.1,a.2,0,(k:Int)+1) [] ⟨O,Z,by simp,by simp only;omega,by simp only;omega,by simp only;omega,by simp only;omega⟩ (λj=>by simp[Am,hget]) rfl rfl ?_ ?_
  .simp(disch:=omega)only[ZA,simprocAttr,flC.ca]
  .simp(disch:=omega)only[ZZ,simprocAttr,CB,l07Before.q,l07Before.fv,sideC.q,sideC.fv,flC.H1,flC.r0,AP];obtain⟨k1,k2,k3,k4,k5,_⟩:=Qu0 (p:=0) (q:=(k:Int)+1) O Z (by omega) (by omega) (by omega) (by omega) (by omega);have G:({Cnt:=a.1,Bonds:=a.2,At:=(CI a.1 a.2).At,Flow:=(flC.net (a.1,a.2,0,(k:Int)+1)).Flow}:AZ)=(DJ a.1 a.2 0 ((k:Int)+1)).1:=by
    rw[<-k5];simp only[flC.net]
    conv=>rhs;rw[show (DJ a.1 a.2 0 ((k:Int)+1)).1=⟨(DJ a.1 a.2 0 ((k:Int)+1)).1.Cnt,(DJ a.1 a.2 0 ((k:Int)+1)).1.Bonds,(DJ a.1 a.2 0 ((k:Int)+1)).1.At,(DJ a.1 a.2 0 ((k:Int)+1)).1.Flow⟩ from rfl]
    rw[k3,k4]
   rw[G];have hw:IntKind.i64.wrap ((k:Int)+1+1)=(k:Int)+1+1:=AG (by omega) (by omega);have z:Fm a.1 a.2 (k+1)=if (Fm a.1 a.2 k).1<0\/FO (DJ a.1 a.2 0 ((k:Int)+1)).2 (cP (DJ a.1 a.2 0 ((k:Int)+1)).1 ((k:Int)+1)) (Fm a.1 a.2 k).1 (Fm a.1 a.2 k).2=true then ((DJ a.1 a.2 0 ((k:Int)+1)).2,cP (DJ a.1 a.2 0 ((k:Int)+1)).1 ((k:Int)+1)) else Fm a.1 a.2 k:=rfl
   refine⟨⟨k1,by omega,by omega⟩,λh0=>⟨λh1=>⟨⟨k+1,by omega⟩,[],[],by simp only;omega,?_⟩,λh1=>⟨⟨k+1,by omega⟩,[],[],by simp only;omega,?_⟩⟩,λh0=>⟨⟨k+1,by omega⟩,[],[],by simp only;omega,?_⟩⟩
   .rw[Ao (.inr h1)] at z;simp only[A8];simp(disch:=omega)only[ZA,simprocAttr,z,hw];omega
   .rw[Ag (λh=>h.elim h0 h1)] at z;simp only[A8];simp(disch:=omega)only[ZA,simprocAttr,z,hw];omega
   .rw[Ao (.inl (F8.1 h0))] at z;simp only[A8];simp(disch:=omega)only[ZA,simprocAttr,z,hw];omega
 .have:k=n:=by omega
  rw[this]
def Qzk{n:Int}{bs:List Af}(h:YF (n,bs))(hs:P0 bs){t:Int}(ht:0<=t): ∀k:Nat,(k:Int)<n->(0<k->0<=(Fm n bs k).1/\(t<=(Fm n bs k).1↔Wd n.toNat bs t k))
 |0,_=>λh0=>by omega
 |k+1,hk=>λ_=>by
  obtain⟨f1,f2,S,f3,f4,f5⟩:=R0 h hs (p:=0) (q:=(k:Int)+1) (by omega) (by omega) (by omega) (by omega) (by omega);simp only[Int.toNat_zero,show ((k:Int)+1).toNat=k+1 by omega] at f2 f3 f4;obtain⟨v,hv⟩: ∃v,v=(DJ n bs 0 ((k:Int)+1)).2:=⟨_,rfl⟩;obtain⟨sd,hsd⟩: ∃sd,sd=cP (DJ n bs 0 ((k:Int)+1)).1 ((k:Int)+1):=⟨_,rfl⟩;have Z:t<=v↔ ∀S:Nat->Bool,S 0=true->S (k+1)=false->t<=Cz S bs:=by
   constructor
   .intro z S G hT
    have:=f2 S G hT
    omega
   .intro z
    have:=z S f3 f4
    omega
  have Q:Wd n.toNat bs t (k+1)↔Wd n.toNat bs t k/\t<=v:=by
   rw[Z];constructor
   .intro z;exact⟨λS G ⟨y,y1,y2,y3,y4⟩=>z S G ⟨y,y1,by omega,y3,y4⟩,λS G hT=>z S G ⟨k+1,by omega,by omega,by omega,hT⟩⟩
   .rintro⟨z,h2⟩ S G ⟨y,y1,y2,y3,y4⟩;by_cases hy:y<=k
    .exact z S G ⟨y,y1,hy,y3,y4⟩
    .exact h2 S G (by rw[show k+1=y by omega];exact y4)
  rw[Q];simp only[Fm,<-hv,<-hsd];by_cases aa:k=0
  .subst aa;rw[Ao (.inl (by simp[Fm]))];refine⟨by simp only;omega,?_⟩;simp only;constructor
   .intro z;exact⟨λS _ ⟨y,y1,y2,_,_⟩=>by omega,z⟩
   .exact λz=>z.2
  .obtain⟨i1,i2⟩:=Qzk h hs ht k (by omega) (by omega);rw[<-i2];by_cases hc:(Fm n bs k).1<0\/FO v sd (Fm n bs k).1 (Fm n bs k).2=true
   .rw[Ao hc];have ab:v<=(Fm n bs k).1:=by
     rcases hc with hc|hc
     .omega
     .simp only[FO] at hc;split at hc
      .omega
      .simp only[Ch] at hc;omega
    simp only;exact⟨by omega,by omega,by omega⟩
   .rw[Ag hc];have ab:(Fm n bs k).1<=v:=by
     have O: ¬FO v sd (Fm n bs k).1 (Fm n bs k).2=true:=λh=>hc (.inr h)
     simp only[FO] at O;split at O
     .omega
     .simp only[Ch] at O;omega
    exact⟨i1,by omega,by omega⟩
def EH(l:List Int):Nat->List Int
 |0=>l
 |i+1=>((EH l i).set i ((EH l i)[l.length - 1 - i]?.getD 0)).set (l.length - 1 - i) ((EH l i)[i]?.getD 0)
def wI(l:List Int): ∀i,(EH l i).length=l.length
 |0=>rfl
 |i+1=>by simp only[EH,Ew,wI l i]
def kV(l:List Int): ∀i,2*i<=l.length-> ∀k,k<l.length->(EH l i)[k]? =if k<i\/l.length - i<=k then l[l.length - 1 - k]? else l[k]?
 |0,_,k,Q=>by simp only[EH];rw[Ag (by omega)]
 |i+1,hi,k,Q=>by
  have ih:=kV l i (by omega);have Z:=wI l i;have g1:(EH l i)[l.length - 1 - i]?.getD 0=l[l.length - 1 - i]?.getD 0:=by rw[ih _ (by omega),Ag (by omega)]
  have g2:(EH l i)[i]?.getD 0=l[i]?.getD 0:=by rw[ih _ (by omega),Ag (by omega)]
  have gd: ∀j,j<l.length->some (l[j]?.getD 0)=l[j]? :=λj hj=>by rw[Bh hj];rfl
  rw[EH,g1,g2];by_cases z:l.length - 1 - i=k
  .subst z;rw[Da (by rw[Ew,Z];omega),Ao (by omega),gd _ (by omega)];congr 1;omega
  .rw[D4 z];by_cases G:i=k
   .subst G;rw[Da (by rw[Z];omega),Ao (by omega),gd _ (by omega)]
   .rw[D4 G,ih k Q];by_cases O:k<i\/l.length - i<=k
    .rw[Ao O,Ao (by omega)]
    .rw[Ag O,Ag (by omega)]
def Tv(l:List Int){i:Nat}(G:2*i<=l.length)(O:l.length<=2*i+1):EH l i=l.reverse:=by
 apply JE;intro k;by_cases z:k<l.length
 .rw[kV l i G k z,ZeO z];by_cases h:k<i\/l.length - i<=k
  .rw[Ao h]
  .rw[Ag h];congr 1;omega
 .rw[F7 (by rw[wI];omega),F7 (by rw[jB];omega)]
def bE(l:List Int)(i:Nat)(x:Int):(l.map Al).set i [.int .i64 x]=(l.set i x).map Al:=by rw[JG];rfl
def revC.ca(_:List Int):List AV:=[.own 0]
def revC.H0(a:List Int):Ap:=[(0,(true,.arr 3 1 (a.map Al)))]
def revC.H1(a:List Int):Ap:=[(0,(true,.arr 3 1 (a.reverse.map Al)))]
def revC.row:A7:=AF revC.ca revC.H0 1 (λ_=>True) (λj=>j==0) (λ_=> .im (.tup [])) revC.H1 0
def revC.ok:AA Tryz.prog 296 revC.row:=by
 refine ow tN Tryz.func296 rfl (by kernel_rfl) (exB:=λ_=>false) (R:=λ_ r=>r= .im (.tup [])) (λ_=>rfl)
  (λa=>by simp[revC.ca,revC.H0,Av,AV.bel,Ac,A9,BK,Ad.nms,Am,hget]) (λa p hp=> ?_) (λa r h=>by subst h;exact C8.refl _) ?_
 rotate_left
 intro a Q;simp only[Tryz.f296,revC.ca,revC.H0,revC.H1];simp(disch:=omega)only[ZA,simprocAttr];intro aa;rw[AG (by omega) (by omega)];refine AR.old ⟨{i:Nat//2*i<=a.length},λi=>⟨[(2,.im (.int .i64 i.1)),(3,.im (.int .i64 ((a.length:Int) - 1 - i.1))),(0,.own 0)],[(0,(true,.arr 3 1 ((EH a i.1).map Al)))],1⟩,λi=>a.length - i.1,λi=>⟨by simp[Aj.good,An,Ac,A9,AV.bel],by simp⟩,⟨⟨0,by simp⟩,?_⟩,λi=> ?_⟩
 .simp(disch:=omega)only[ZA,simprocAttr,sub];exact⟨by omega,by rw[EH]⟩
 obtain⟨i,Z⟩:=i;have O:=wI a i;simp(disch:=omega)only[ZA,simprocAttr,sub,AP,O,bE,Ew];refine⟨λG=>⟨by omega,by omega,by omega,λx hx=>⟨by omega,by omega,λy hy=>⟨by omega,by omega,λz hz=>⟨by omega,by omega,by omega,λu hu=> ?_⟩⟩⟩⟩,λG=> ?_⟩
 .refine⟨⟨i+1,by omega⟩,by simp only;omega,?_⟩;have w1:IntKind.i64.wrap ((a.length:Int) - 1 - i - 1)=(a.length:Int) - 1 - i - 1:=AG (by omega) (by omega);have w2:IntKind.i64.wrap ((i:Int)+1)=(i:Int)+1:=AG (by omega) (by omega);simp only[w1,w2];refine⟨⟨by omega,by omega⟩,?_⟩;simp only[EH];rw[show a.length - 1 - i=((a.length:Int) - 1 - i).toNat by omega,hx,hy];rfl
 .rw[Tv a Z (by omega)]
 simp[revC.H1] at hp;subst hp;exact .inl ⟨by omega,rfl,rfl⟩
def clonC.ca(a:List Ak):List AV:=[.im (.sl false 3 (a.map Ak.c))]
def clonC.H1(a:List Ak):Ap:=[(0,(true,.arr 137 3 (a.map Ak.c)))]
def clonC.row:A7:=AF clonC.ca (λ_=>[]) 0 (λa=>a.length<=1000000) (λ_=>false) (λ_=> .own 0) clonC.H1 20
def clonC.ok:AA Tryz.prog 105 clonC.row:=by
 refine SR tN Tryz.func105 rfl (by kernel_rfl) (exB:=λj=>j==0) (R:=λ_ r=>r= .own 0) (λ_=>rfl)
  (λa=>by simp[clonC.ca,Av,AV.bel,Ac,A9,BK]) (λa p hp=> ?_) (λa r h=>by subst h;exact C8.refl _) ?_
 rotate_left
 intro a z;simp only[Tryz.f105,clonC.ca,clonC.H1];simp(disch:=omega)only[ZA,simprocAttr,F3,Jq,Eh,G6];intro b hb;split
 .rename_i h;have h0:=hb h;refine⟨[],[(0,some 1)],⟨[(2,.own 0)],clonC.H1 a,1⟩,?_,by simp[clonC.H1,Aj.good,An,Ac,A9,AV.bel],by simp,?_⟩
  .simp only[A8,clonC.H1,h0];simp(disch:=omega)only[ZA,simprocAttr]
  .simp(disch:=omega)only[ZA,simprocAttr,clonC.H1]
 .refine⟨by omega,[],[(0,some 2)],⟨[(2,.own 0)],clonC.H1 a,1⟩,?_,by simp[clonC.H1,Aj.good,An,Ac,A9,AV.bel],by simp,?_⟩
  .simp only[A8,clonC.H1];simp(disch:=omega)only[ZA,simprocAttr]
  .simp(disch:=omega)only[ZA,simprocAttr,clonC.H1]
 simp[clonC.H1] at hp;subst hp;exact .inr ⟨by omega,by omega,rfl,rfl⟩
def clobC.ca(a:List Af):List AV:=[.im (.sl false 3 (a.map Af.c))]
def clobC.H1(a:List Af):Ap:=[(0,(true,.arr 318 3 (a.map Af.c)))]
def clobC.row:A7:=AF clobC.ca (λ_=>[]) 0 (λa=>a.length<=1000000) (λ_=>false) (λ_=> .own 0) clobC.H1 20
def clobC.ok:AA Tryz.prog 267 clobC.row:=by
 refine SR tN Tryz.func267 rfl (by kernel_rfl) (exB:=λj=>j==0) (R:=λ_ r=>r= .own 0) (λ_=>rfl)
  (λa=>by simp[clobC.ca,Av,AV.bel,Ac,A9,BK]) (λa p hp=> ?_) (λa r h=>by subst h;exact C8.refl _) ?_
 rotate_left
 intro a z;simp only[Tryz.f267,clobC.ca,clobC.H1];simp(disch:=omega)only[ZA,simprocAttr,F3,Jq,Eh,G6];intro b hb;split
 .rename_i h;have h0:=hb h;refine⟨[],[(0,some 1)],⟨[(2,.own 0)],clobC.H1 a,1⟩,?_,by simp[clobC.H1,Aj.good,An,Ac,A9,AV.bel],by simp,?_⟩
  .simp only[A8,clobC.H1,h0];simp(disch:=omega)only[ZA,simprocAttr]
  .simp(disch:=omega)only[ZA,simprocAttr,clobC.H1]
 .refine⟨by omega,[],[(0,some 2)],⟨[(2,.own 0)],clobC.H1 a,1⟩,?_,by simp[clobC.H1,Aj.good,An,Ac,A9,AV.bel],by simp,?_⟩
  .simp only[A8,clobC.H1];simp(disch:=omega)only[ZA,simprocAttr]
  .simp(disch:=omega)only[ZA,simprocAttr,clobC.H1]
 simp[clobC.H1] at hp;subst hp;exact .inr ⟨by omega,by omega,rfl,rfl⟩
def freeC.fv(a:Ba×Int×Int):Bool:=(UL) (a.1) (a.2.1) (a.2.2)
def freeC.row:A7:=CN (b3 (qP 2 Ba.d_le) qI qI) rB (λa=>JA a.1 a.1.Room.length/\0<=a.2.1/\a.2.1<a.1.Room.length/\0<=a.2.2/\a.2.2<a.1.Room.length) freeC.fv
def freeC.q:=DO (R:=freeC.row) rfl
def freeC.ok:AA Tryz.prog 295 freeC.row:=by
 refine FZ tN Tryz.func295 rfl (by kernel_rfl) ?_;intro a z;simp only[Tryz.f295];simp(disch:=omega)only[ZZ,simprocAttr,freeC.fv,D.sc,D.scs,Bv];obtain⟨G,O,h3,Q,Z⟩:=z;have hf:=G.f;refine⟨O,h3,λr hr=>⟨Q,by rw[G.rr r (AY hr)];exact Z,λx hx=>⟨O,by omega,λs hs=>⟨Q,by rw[G.ff s (AY hs)];exact Z,λy hy=> ?_⟩⟩⟩⟩;simp only[UL,yF,yM,hr,hs,hx,hy,AQ]
def Yx:D->Option (List Int)
 | .sl true _ rows=>AO Ck rows
 | .sl false _ (r::rows)=>AO Ck (r::rows)
 |_=>none
def Yy: ∀d x,Yx d=some x->Le d (.sl true 1 (x.map Al)):=by
 intro d x h;unfold Yx at h;split at h
 .rename_i k rows;have h1:=DV (nz:=true) (k:=k) (DP DU _ _ h) (k':=1) (by simp[Al]);intro ok hp v Q;have O:=h1 ok hp v Q;simp only[Ae.rd] at O Q⊢;rcases O with O|⟨b,p,cap,vs,T,fr,g1,g2,g3,g4,g5,g6,g7⟩
  .rcases Q with ⟨q1,G⟩|⟨b',p',z,aa,T',Z,q1,G,q3,q4,q5,q6,q7⟩
   .exact .inl ⟨q1,O.2⟩
   .obtain⟨ao,e⟩:=pT O.1;rw[e] at q1;simp only[Value.slice.injEq] at q1;exact absurd (Qv.1 q1.2.1.symm) (G trivial)
  .rcases Q with ⟨q1,G⟩|⟨b',p',z,aa,T',Z,q1,G,q3,q4,q5,q6,q7⟩
   .rw[wX q1] at g1;cases g1
   .refine .inr ⟨b,p,cap,vs,T,fr,g1,λ_ h0=> ?_,g3,g4,g5,g6,g7⟩;rw[q1] at g1;simp only[Value.slice.injEq] at g1;rw[h0,G5] at g1;exact G trivial (Qv.1 g1.2.1)
 .rename_i k r rows;have h1:=DV (nz:=false) (k:=k) (DP DU _ _ h) (k':=1) (by simp[Al]);intro ok hp v Q;have O:=h1 ok hp v Q;simp only[Ae.rd] at O Q⊢;rcases O with O|⟨b,p,cap,vs,T,fr,g1,g2,g3,g4,g5,g6,g7⟩
  .rcases Q with ⟨q1,G⟩|⟨b',p',z,aa,T',Z,q1,G,q3,q4,q5,q6,q7⟩
   .cases G
   .obtain⟨ao,e⟩:=pT O.1;rw[e] at q1;simp only[Value.slice.injEq,CY] at q1;omega
  .rcases Q with ⟨q1,G⟩|⟨b',p',z,aa,T',Z,q1,G,q3,q4,q5,q6,q7⟩
   .cases G
   .refine .inr ⟨b,p,cap,vs,T,fr,g1,λ_ h0=> ?_,g3,g4,g5,g6,g7⟩;rw[q1] at g1;simp only[Value.slice.injEq,CY] at g1;rw[h0,G5] at g1;omega
 .cases h
def pW(n:Nat)(x:Int):List.replicate n [D.int .i64 x]=(List.replicate n x).map Al:=by rw[List.map_replicate];rfl
def U5{k:Nat}{l:List Int}(h:l≠[]):Yx (.sl false k (l.map Al))=some l:=by
 cases l with
 |nil=>exact absurd rfl h
 |cons x r=>exact iL (x::r)
def dI(v:Int):D:= .int .i64 v
def rept.H0_dom(a:Int×Int)(j:Nat):Am (rept.H0 a) j=true↔j<1:=by
 simp only[Am,rept.H0,hget];by_cases h0:j=0
 .subst h0;simp
 .have z:(0==j)=false:=by simp;omega
  simp[z];omega
def revC.H0_dom(a:List Int)(j:Nat):Am (revC.H0 a) j=true↔j<1:=by
 simp only[Am,revC.H0,hget];by_cases h0:j=0
 .subst h0;simp
 .have z:(0==j)=false:=by simp;omega
  simp[z];omega
def CYc:UN Tryz.prog 382=some 3:=by kernel_rfl
def wayC.rc:D->Option (List Int):=Yx
def wayC.re:(List Int)->D:=λb=>D.sl true 1 (b.map Al)
def wayC.rle: ∀d b,wayC.rc d=some b->Le d (wayC.re b):=Yy
def wayC.fv(a:Ba×Int×Int):List Int:=(λx p q=>Cm x x.Room.length p q) (a.1) (a.2.1) (a.2.2)
def wayC.row:A7:=CN (b3 (qP 2 Ba.d_le) qI qI) (RK.mk wayC.rc wayC.re wayC.rle) (λa=>JA a.1 a.1.Room.length/\a.1.Room.length<=1000/\0<=a.2.1/\a.2.1<a.1.Room.length/\0<=a.2.2/\a.2.2<a.1.Room.length) wayC.fv
def wayC.q:=DO (R:=wayC.row) rfl
def wayC.ok:AA Tryz.prog 288 wayC.row:=by
 refine FZ (tC freeC.ok (tC rept.ok (tC revC.ok tN))) Tryz.func288 rfl (by kernel_rfl) ?_;intro a ak;simp only[Tryz.f288];simp(disch:=omega)only[ZZ,simprocAttr,wayC.fv,wayC.rc];obtain⟨aj,hn,ad,af,am,ax⟩:=ak;obtain⟨x,hx⟩: ∃x,x=a.1:=⟨_,rfl⟩;obtain⟨p,hp⟩: ∃p,p=a.2.1:=⟨_,rfl⟩;obtain⟨q,hq⟩: ∃q,q=a.2.2:=⟨_,rfl⟩;obtain⟨n,hnn⟩: ∃n,n=x.Room.length:=⟨_,rfl⟩;simp only[<-hx,<-hp,<-hq,<-hnn] at aj hn ad af am ax⊢;intro bf;refine AF.os (-1,(n:Int)) [1] ⟨by simp only;omega,by simp only;omega⟩ (λj=>rept.H0_dom _ j) rfl rfl ?_ ?_
 .simp(disch:=omega)only[ZA,simprocAttr,Jq,rept.ca,rept.H0,Eh]
 simp(disch:=omega)only[ZA,simprocAttr,CYc,rept.H1,Nw,bE,pW];refine⟨by omega,by omega,ad,af,by omega,λ_ _=> ?_⟩;refine AR.old ⟨{k:Nat//k<=(CD x n p k).2.length},λk=>⟨[(9,.ch 22),(8,.own 2),(7,.im (.int .i64 n)),(0,.ptr 0 0),(1,.im (.int .i64 p)),(2,.im (.int .i64 q))],[(2,(true,.arr 3 1 ((CD x n p k.1).1.map Al))),(22,(true,.chan (((CD x n p k.1).2.drop k.1).map dI) n)),(0,(false,.view [.sl false 1 (x.Room.map C4),.sl false 1 (x.Flow.map C4)]))],23⟩,λk=>n - k.1,λk=>⟨by simp[Aj.good,An,Ac,A9,AV.bel],by simp⟩,⟨⟨0,by simp⟩,?_⟩,λk=> ?_⟩
 .simp(disch:=omega)only[ZA,simprocAttr,sub];simp[CD,dI]
 obtain⟨k,hk⟩:=k;have Z:=Qp (x:=x) ad af k;have bg:=wV Z;simp(disch:=omega)only[ZA,simprocAttr,D.sc,D.scs,Bv,CYc,AP,Cx];refine⟨λav=> ?_,λav=> ?_⟩
 .have aw:k<(CD x n p k).2.length:=by omega
  obtain⟨u,hu⟩: ∃u,(CD x n p k).2[k]? =some u:=⟨_,Bh aw⟩;have a8:=Z.q u (AY hu);rw[Eu hu];refine⟨by simp,λd r ag=> ?_⟩;simp only[Bd,dM] at ag;obtain⟨rfl,rfl⟩:=ag;simp only[dI];obtain⟨s,hs⟩: ∃s,s=CD x n p k:=⟨_,rfl⟩;simp only[<-hs] at hu Z⊢;refine AR.old ⟨{i:Nat//i<=n},λi=>⟨[(36,.im (.int .i64 i.1)),(35,.im (.int .i64 n)),(10,.im (.int .i64 u)),(9,.ch 22),(8,.own 2),(7,.im (.int .i64 n)),(0,.ptr 0 0),(1,.im (.int .i64 p)),(2,.im (.int .i64 q))],[(2,(true,.arr 3 1 ((C3 x u s i.1).1.map Al))),(22,(true,.chan (((C3 x u s i.1).2.drop (k+1)).map dI) n)),(0,(false,.view [.sl false 1 (x.Room.map C4),.sl false 1 (x.Flow.map C4)]))],23⟩,λi=>n - i.1,λi=>⟨by simp[Aj.good,An,Ac,A9,AV.bel],by simp⟩,⟨⟨0,by simp⟩,?_⟩,λi=> ?_⟩
  .simp(disch:=omega)only[ZA,simprocAttr,sub,C3]
  obtain⟨i,hi⟩:=i;obtain⟨hQ,e,he⟩:=rD Z hu i hi;have a9:=wV hQ;have ay:=hQ.len;simp(disch:=omega)only[ZZ,simprocAttr,CB,freeC.q,freeC.fv,sub,AP,Cx,ay,bE];refine⟨λaq=>⟨by omega,by omega,λy hy=>⟨λO=>⟨⟨hnn▸aj,a8.1,by omega,by omega⟩,λhf=>⟨by omega,by omega,λy2 _=>⟨by omega,⟨i+1,by omega⟩,by simp only;omega,by rw[AG (by omega) (by omega)];simp only;omega,?_⟩⟩,λhf=>⟨⟨i+1,by omega⟩,by simp only;omega,by rw[AG (by omega) (by omega)];simp only;omega,?_⟩⟩,λO=>⟨⟨i+1,by omega⟩,by simp only;omega,by rw[AG (by omega) (by omega)];simp only;omega,?_⟩⟩⟩,λaq=> ?_⟩
  .have Q:C3 x u s (i+1)=((C3 x u s i).1.set i u,(C3 x u s i).2++[(i:Int)]):=by
    rw[C3,GG,Ao ⟨by rw[hy,AQ];exact O,hf⟩]
   have bd:=(Cd.1 hu).1;simp only[Q];refine⟨trivial,?_⟩;rw[Zdq (by rw[he,Dn];omega),F9];rfl
  .have Q:C3 x u s (i+1)=C3 x u s i:=by
    rw[C3,GG,Ag (λh=>hf h.2)]
   simp only[Q];exact⟨trivial,trivial⟩
  .have Q:C3 x u s (i+1)=C3 x u s i:=by
    rw[C3,GG,Ag (λh=>O (by have:=h.1;rw[hy,AQ] at this;exact this))]
   simp only[Q];exact⟨trivial,trivial⟩
  .have au:i=n:=by omega
   have Q:CD x n p (k+1)=C3 x u s i:=by rw[CD,<-hs,hu,au]
   refine⟨⟨k+1,by rw[Q,he,Dn];have:=(Cd.1 hu).1;omega⟩,by simp only;omega,?_⟩;simp only[Q];exact⟨trivial,trivial⟩
 .have be:(CD x n p k).2.length=k:=by omega
  have hE:CD x n p k=Bs x n p:=by
   have:=MH x n p (n - k) k (by omega)
   rw[show k+(n - k)=n by omega] at this;exact this.symm
  have ai:=Z.len;refine⟨am,by omega,by omega,λy hy=>⟨λO=> ?_,λO=> ?_⟩⟩
  .simp only[Cm,<-hE,hy,AQ];rw[Ao O];rfl
  have az:q∈(CD x n p k).2:=by
   have:=(Z.mem q.toNat y hy).1 (by omega)
   rwa [show (q.toNat:Int)=q by omega] at this
  obtain⟨i,hi⟩:=P7.1 az;obtain⟨d,ba,ab,aa⟩:=Qq3 Z hi;have bb:=(Cd.1 hi).1;have a0:qG (CD x n p k).1 p q n=d:=Qqr (by omega) ab aa;have hW:Cm x n p q=(HF (CD x n p k).1 q d).reverse:=by
   simp only[Cm,<-hE,hy,AQ];rw[Ag O,a0]
  obtain⟨G,hpar⟩: ∃G,G=(CD x n p k).1:=⟨_,rfl⟩;simp only[<-hpar] at ai ab aa hW⊢;refine AR.ren ⟨{j:Nat//j<=d},λj=>⟨[(13,.im (.int .i64 (Dm G q j.1))),(12,.own 24),(8,.own 2),(1,.im (.int .i64 p))],[(24,(true,.arr 3 1 ((HF G q j.1).map Al))),(2,(true,.arr 3 1 (G.map Al)))],25⟩,λj=>d - j.1,λj=>⟨by simp[Aj.good,An,Ac,A9,AV.bel],by simp⟩,⟨⟨0,by omega⟩,[(24,some 23)],?_⟩,λj=> ?_⟩
  .simp only[A8];simp(disch:=omega)only[ZA,simprocAttr,Bz];exact⟨rfl,rfl⟩
  obtain⟨j,hj⟩:=j;have ao:(HF G q j).length=j+1:=by simp[HF]
  simp(disch:=omega)only[ZA,simprocAttr,Jq,AP,ao];refine⟨λac=> ?_,λac=> ?_⟩
  .have ah:j<d:=by
    rcases EO j d with h|h
    .exact h
    .exact absurd (by rw[show j=d by omega];exact ab) ac
   obtain⟨j2,g1,g2⟩:=pA Z hi j (λj' bc=>by rw[<-hpar];exact aa j' (by omega));rw[<-hpar] at g2;have an:=Z.q _ (AY g2);refine⟨an.1,by omega,by omega,λz hz=>⟨by omega,⟨j+1,by omega⟩,[(24,some 26)],by simp only;omega,?_⟩⟩;have Q:Dm G q (j+1)=z:=by rw[Dm,hz,AQ]
   have e2:HF G q (j+1)=HF G q j++[z]:=by
    simp only[HF];rw[jH,F9,Bd,GR,Q]
   simp only[A8];simp(disch:=omega)only[ZA,simprocAttr,Bz,Q,e2,F9]
  .have ah:j=d:=by
    have h1:=F8.1 ac;rcases EO j d with h|h
    .exact absurd h1 (aa j h)
    .omega
   subst ah;refine AF.os (HF G q j) [24] trivial (λi=>revC.H0_dom _ i) rfl rfl ?_ ?_
   .simp(disch:=omega)only[ZA,simprocAttr,Jq,revC.ca,revC.H0,Eh]
   .simp(disch:=omega)only[ZA,simprocAttr,Jq,D.sc,T7,Bv,revC.H1,Eh];rw[hW];exact U5 (by simp[HF])
def Gg(t:Int)(bs:List Af):List Af:=bs.filter λb=>decide (t<=b.Strength)
def P1(g:Int)(r:List Int)(l:List Int):Nat->List Int
 |0=>l
 |k+1=>(P1 g r l k).set (r[k]?.getD 0).toNat g
def J8(gs:List (List Int))(l:List Int):Nat->List Int
 |0=>l
 |i+1=>P1 i (gs[i]?.getD []) (J8 gs l i) (gs[i]?.getD []).length
def vS(g:Int)(r l:List Int): ∀k,(P1 g r l k).length=l.length
 |0=>rfl
 |k+1=>by simp only[P1,Ew,vS g r l k]
def oO(gs:List (List Int))(l:List Int): ∀i,(J8 gs l i).length=l.length
 |0=>rfl
 |i+1=>by simp only[J8,vS,oO gs l i]
def Qr(n:Nat)(gs:List (List Int)):List Int:=J8 gs (List.replicate n 0) gs.length
def BG(nm:List Int)(v:Int):Int:=nm[v.toNat]?.getD 0
def Hg(nm:List Int):List Af->List Af
 |[]=>[]
 |b::r=>if BG nm b.A=BG nm b.B then Hg nm r else ⟨EC (BG nm b.A) (BG nm b.B),Ec (BG nm b.A) (BG nm b.B),b.Strength⟩::Hg nm r
def Qp2(nm:List Int): ∀(a b:List Af),Hg nm (a++b)=Hg nm a++Hg nm b
 |[],b=>rfl
 |x::r,b=>by simp only[CX,Hg,Qp2 nm r b];split<;>rfl
def Qjq(nm:List Int): ∀(a:List Af),(Hg nm a).length<=a.length
 |[]=>AN _
 |x::r=>by have:=Qjq nm r;simp only[Hg];split<;>simp only[CY]<;>omega
def Qln(t:Int)(bs:List Af):(Gg t bs).length<=bs.length:=yV _ _
def Qjs(t:Int){bs:List Af}{k:Nat}{b:Af}(h:bs[k]? =some b):Gg t (bs.take (k+1))=Gg t (bs.take k)++if t<=b.Strength then [b] else []:=by
 rw[GO,h];simp only[Gg,yQ,cY,jE,ZeN,Ch]
def kM(own:List Int)(i:Nat): ∀k,∀v∈CQ own i k,(i:Int)<=v/\v<i+k
 |0,v,h=>by simp[CQ] at h
 |k+1,v,h=>by
  simp only[CQ,Br] at h;rcases h with h|h
  .have:=kM own i k v h;omega
  .split at h
   .rw[BE] at h;omega
   .simp at h
def Qvq(own:List Int)(n:Nat): ∀k,k<=n-> ∀r∈B4 own n k,∀v∈r,0<=v/\v<n
 |0,_,r,h,_,_=>by simp[B4] at h
 |k+1,G,r,h,v,z=>by
  simp only[B4,Br] at h;rcases h with h|h
  .exact Qvq own n k (by omega) r h v z
  .split at h
   .rw[BE] at h;subst h
    have:=kM own k (n - k) v z
    omega
   .simp at h
def Qps(n:Nat)(bs:List Af): ∀r∈UF (n:Int) bs,∀v∈r,0<=v/\v<n:=by
 intro r z v G
 have:=Qvq (BX n bs bs.length) n n (AN _) r (by simpa[UF] using z) v G
 omega
def Qvc(nm:List Int){bs:List Af}{k:Nat}{b:Af}(h:bs[k]? =some b):Hg nm (bs.take (k+1))=Hg nm (bs.take k)++if BG nm b.A=BG nm b.B then [] else [⟨EC (BG nm b.A) (BG nm b.B),Ec (BG nm b.A) (BG nm b.B),b.Strength⟩]:=by
 rw[GO,h];simp only[cY,Qp2,Hg]
def Nm(n:Int)(bs:List Af)(t:Int):List (List Int):=UF n (Gg t bs)
def BY(n:Int)(bs:List Af)(t:Int):Int×List Af:=((Nm n bs t).length,Hg (Qr n.toNat (Nm n bs t)) bs)
def shrunk.fv(a:Int×(List Af)×Int):Int×(List Af):=(BY) (a.1) (a.2.1) (a.2.2)
def shrunk.row:A7:=vK (b3 qI (qS Af.d_le Af.c_n) qI) (r2 rI (rS Af.d_le Af.c_n)) (λa=>0<=a.1/\a.1<=1000000/\K0 a.1 a.2.1/\a.2.1.length<=1000000) shrunk.fv
def shrunk.q:=AU (R:=shrunk.row) rfl
def shrunk.ok:AA Tryz.prog 206 shrunk.row:=by
 refine vw (tC l06Groups.ok (tC l00Min.ok (tC l00Max.ok tN))) Tryz.func206 rfl (by kernel_rfl) ?_;intro a ag;simp only[Tryz.f206];simp(disch:=omega)only[ZA,simprocAttr,shrunk.fv];obtain⟨h0,h1,Z,ah⟩:=ag;obtain⟨n,hn⟩: ∃n:Nat,a.1=n:=⟨a.1.toNat,by omega⟩;obtain⟨bs,hbsd⟩: ∃bs,bs=a.2.1:=⟨_,rfl⟩;obtain⟨t,ht⟩: ∃t,t=a.2.2:=⟨_,rfl⟩;simp only[hn,<-hbsd,<-ht] at h0 h1 Z ah⊢;refine AR.ren ⟨{k:Nat//k<=bs.length},λk=>⟨[(9,.im (.int .i64 k.1)),(8,.own 2),(0,.im (.int .i64 n)),(1,.im (.sl false 3 (bs.map Af.c))),(2,.im (.int .i64 t))],[(2,(true,.arr 318 3 ((Gg t (bs.take k.1)).map Af.c)))],3⟩,λk=>bs.length - k.1,λk=>⟨by simp[Aj.good,An,Ac,A9,AV.bel],by simp⟩,⟨⟨0,by simp⟩,[(2,some 1)],?_⟩,λk=> ?_⟩
 .simp only[A8];simp(disch:=omega)only[ZA,simprocAttr];rfl
 obtain⟨k,aa⟩:=k;have Q:=Qln t (bs.take k);rw[Ci] at Q;simp(disch:=omega)only[ZA,simprocAttr,l06Groups.q,l06Groups.fv,AP,Nf,Na,BC,D.one];intro _;refine⟨λO=>⟨O,λb hb=>⟨λhs=>⟨O,λb' z=>⟨by omega,⟨k+1,by omega⟩,[(2,some 4)],by simp only;omega,?_⟩⟩,λhs=>⟨⟨k+1,by omega⟩,[(2,some 2)],by simp only;omega,?_⟩⟩⟩,λO=> ?_⟩
 .rw[hb] at z;obtain rfl:=AE z;simp only[A8];simp(disch:=omega)only[ZA,simprocAttr,Qjs t hb];rw[AG (by omega) (by omega),Ao hs];simp[Af.c]
 .simp only[A8];simp(disch:=omega)only[ZA,simprocAttr,Qjs t hb];rw[AG (by omega) (by omega),Ag hs,DA];simp
 have ak:k=bs.length:=by omega
 subst ak;rw[HJ];refine⟨⟨h1,λb hb=>Z b (KD.1 hb).1⟩,by omega,?_⟩;obtain⟨G,hgs⟩: ∃G,G=UF (n:Int) (Gg t bs):=⟨_,rfl⟩;have ai: ∀r∈G,∀v∈r,0<=v/\v<n:=by rw[hgs];exact Qps n _
 simp only[<-hgs];clear O Q aa;refine AR.old ⟨{i:Nat//i<=G.length},λi=>⟨[(12,.im (.int .i64 i.1)),(11,.own 3),(10,.im (.sl false 1 (G.map C4))),(0,.im (.int .i64 n)),(1,.im (.sl false 3 (bs.map Af.c))),(2,.im (.int .i64 t))],[(3,(true,.arr 2 1 ((J8 G (List.replicate n 0) i.1).map Al)))],4⟩,λi=>G.length - i.1,λi=>⟨by simp[Aj.good,An,Ac,A9,AV.bel],by simp⟩,⟨⟨0,by simp⟩,?_⟩,λi=> ?_⟩
 .simp(disch:=omega)only[ZA,simprocAttr,sub,J8,pW]
 obtain⟨i,ao⟩:=i;simp(disch:=omega)only[ZA,simprocAttr,AP];intro an;refine⟨λhi=> ?_,λhi=> ?_⟩
 .obtain⟨r,hr⟩: ∃r,G[i]? =some r:=⟨_,Bh hi⟩;have am:=ai r (AY hr);obtain⟨l,hl⟩: ∃l,l=J8 G (List.replicate n 0) i:=⟨_,rfl⟩;have aq:l.length=n:=by rw[hl,oO,Nw]
  simp only[<-hl];refine AR.old ⟨{k:Nat//k<=r.length},λk=>⟨[(13,.im (.int .i64 k.1)),(12,.im (.int .i64 i)),(11,.own 3),(10,.im (.sl false 1 (G.map C4))),(0,.im (.int .i64 n)),(1,.im (.sl false 3 (bs.map Af.c))),(2,.im (.int .i64 t))],[(3,(true,.arr 2 1 ((P1 i r l k.1).map Al)))],4⟩,λk=>r.length - k.1,λk=>⟨by simp[Aj.good,An,Ac,A9,AV.bel],by simp⟩,⟨⟨0,by simp⟩,?_⟩,λk=> ?_⟩
  .simp(disch:=omega)only[ZA,simprocAttr,sub,P1]
  obtain⟨k,aa⟩:=k;have af:=vS (i:Int) r l k;simp(disch:=omega)only[ZZ,simprocAttr,sub,AP,hr,af,bE];refine⟨hi,λr' ab au=> ?_⟩;subst ab;refine⟨λO=>⟨hi,λr' ab=> ?_⟩,λO=>⟨⟨i+1,by omega⟩,by simp only;omega,by rw[AG (by omega) (by omega)];simp only;omega,?_⟩⟩
  .subst ab;refine⟨O,λv hv=> ?_⟩;obtain⟨v1,v2⟩:=am v (AY hv);refine⟨v1,by omega,by omega,λ_ _=>⟨⟨k+1,by omega⟩,by simp only;omega,by rw[AG (by omega) (by omega)];simp only;omega,?_⟩⟩;simp only[P1,hv,AQ]
  .have:k=r.length:=by omega
   simp only[J8,hr,AQ,<-hl,this]
 .have aj:i=G.length:=by omega
  subst aj;obtain⟨nm,hnm⟩: ∃nm,nm=J8 G (List.replicate n 0) G.length:=⟨_,rfl⟩;have af:nm.length=n:=by rw[hnm,oO,Nw]
  simp only[<-hnm];refine AR.ren ⟨{k:Nat//k<=bs.length},λk=>⟨[(15,.im (.int .i64 k.1)),(14,.own 5),(11,.own 3),(10,.im (.sl false 1 (G.map C4))),(0,.im (.int .i64 n)),(1,.im (.sl false 3 (bs.map Af.c))),(2,.im (.int .i64 t))],[(5,(true,.arr 318 3 ((Hg nm (bs.take k.1)).map Af.c))),(3,(true,.arr 2 1 (nm.map Al)))],6⟩,λk=>bs.length - k.1,λk=>⟨by simp[Aj.good,An,Ac,A9,AV.bel],by simp⟩,⟨⟨0,by simp⟩,[(5,some 4)],?_⟩,λk=> ?_⟩
  .simp only[A8];simp(disch:=omega)only[ZA,simprocAttr,Bz];rfl
  obtain⟨k,aa⟩:=k;have Q:=Qjq nm (bs.take k);rw[Ci] at Q;simp(disch:=omega)only[ZA,simprocAttr,l00Min.q,l00Min.fv,l00Max.q,l00Max.fv,AP,Nf,Na,BC,D.one];intro _;refine⟨λO=>⟨O,λb hb=> ?_⟩,λO=> ?_⟩
  .obtain⟨b1,b2,b3,b4⟩:=Z b (AY hb);refine⟨b1,by omega,by omega,λx hx=>⟨O,λb' z=> ?_⟩⟩;rw[hb] at z;obtain rfl:=AE z;refine⟨b3,by omega,by omega,λy hy=> ?_⟩;have e1:BG nm b.A=x:=by simp only[BG,hx,AQ]
   have e2:BG nm b.B=y:=by simp only[BG,hy,AQ]
   have ac:=Qvc nm hb;rw[e1,e2] at ac;refine⟨λad=>⟨O,λb' z=>⟨by omega,⟨k+1,by omega⟩,[(5,some 7)],by simp only;omega,?_⟩⟩,λad=>⟨⟨k+1,by omega⟩,[(5,some 5)],by simp only;omega,?_⟩⟩
   .rw[hb] at z;obtain rfl:=AE z;simp only[A8];simp(disch:=omega)only[ZA,simprocAttr,Bz,ac];rw[AG (by omega) (by omega),Ag ad];simp[Af.c]
   .simp only[A8];simp(disch:=omega)only[ZA,simprocAttr,Bz,ac];rw[AG (by omega) (by omega),Ao (F8.1 ad),DA];simp
  .have:k=bs.length:=by omega
   subst this;rw[HJ];intro _;simp only[BY,Nm,Qr,Bt,<-hgs,<-hnm]
def Qk5(s:AB): ∀(l:List Ar) (i:Nat),Kv s i l=true-> ∀g∈l,1<=g.Strength/\g.Strength<=4
 |[],_,_,_,h=>by cases h
 |x::r,i,h,g,z=>by
  simp only[Kv,AS,Bq,Ch] at h;rcases Bi.1 z with rfl|z
  .exact⟨h.1.2.1.1,h.1.2.1.2⟩
  .exact Qk5 s r _ h.2 g z
def Qlf(s:AB): ∀(l:List Tile) (i:Nat),IU s i l=true-> ∀t∈l,t.Sides.length=4/\ ∀g∈t.Sides,0<=g/\g<=s.Glues.length
 |[],_,_,_,h=>by cases h
 |x::r,i,h,t,z=>by
  simp only[IU,AS,Ch,Dp,Bq] at h;rcases Bi.1 z with rfl|z
  .exact⟨h.1.2.1,λg G=>⟨(h.1.2.2.2 g G).1,(h.1.2.2.2 g G).2⟩⟩
  .exact Qlf s r _ h.2 t z
def Qge{s:AB}(h:Fe s=true):Cu s:=by
 simp only[Fe,AS,Ch] at h;exact⟨by omega,Qlf s _ _ h.2.2,Qk5 s _ _ h.2.1⟩
def Kz{s:AB}{a:Ah}(h:FH s a=true):Hm s a/\a.Tiles.length<=500:=by
 simp only[FH,AS,Ch,Dp,Bq] at h;exact⟨⟨h.1.1,λx z=>⟨(h.2 x z).1,by have:=(h.2 x z).2;omega⟩⟩,h.1.2⟩
def Yg(p:Ab)(d:Int):Co p d≠p:=by
 intro h;have G:(Co p d).X=p.X:=by rw[h]
 have z:(Co p d).Y=p.Y:=by rw[h]
 simp only[Co] at G z;split at G
 .rename_i h0;rw[Ao h0] at z;simp only at z;omega
 .rename_i h0;rw[Ag h0] at z;split at G
  .simp only at G;omega
  .rename_i O;rw[Ag O] at z;split at G
   .rename_i Q;rw[Ao Q] at z;simp only at z;omega
   .simp only at G;omega
def eV(a:Ah)(i:Nat)(d:Int)(Z:i<a.Tiles.length):GB a i d≠i:=by
 intro h;rcases Px (λx=>decide (x.At=Co ((a.Tiles[(i:Int).toNat]?.map Ak.At).getD ⟨0,0⟩) d)) a.Tiles 0 with ⟨_,z⟩|⟨j,x,O,z,Q⟩
 .simp only[GB,z] at h;omega
 .simp only[GB,z,Fh] at h;have G:j=i:=by omega
  subst G
  have:=Wx O
  simp only[Ch,Bt,Q,Ds,AQ] at this;exact Yg _ _ this.symm
def JI(n:Int)(b:Af):Prop:=(0<=b.A/\b.A<n/\0<=b.B/\b.B<n)/\b.A≠b.B/\0<b.Strength/\b.Strength<=4
def WB{s:AB}(hs:Cu s)(a:Ah)(i:Nat)(Z:i<a.Tiles.length)(d:Int): ∀b∈Wo s a i d,JI a.Tiles.length b:=by
 intro b hb;simp only[Wo] at hb;split at hb
 .rename_i h0;split at hb
  .rename_i z;rw[BE] at hb;subst hb;have G:=JZ a i d;have O:=eV a i d Z;have Q:K3 s (Gd a i) d (Gd a (GB a i d))<=4:=by
    simp only[K3];split
    .exact (Qp1 hs _).2
    .omega
   exact⟨⟨by simp only;omega,by simp only;omega,h0,G⟩,λh=>O h.symm,z,Q⟩
  .simp at hb
 .simp at hb
def Qzz{s:AB}(hs:Cu s)(a:Ah)(i:Nat)(z:i<a.Tiles.length): ∀k,∀b∈J5 s a i k,JI a.Tiles.length b
 |0,b,h=>by simp[J5] at h
 |k+1,b,h=>by
  simp only[J5,Br] at h;rcases h with h|h
  .exact Qzz hs a i z k b h
  .exact WB hs a i z _ b h
def xC{s:AB}(hs:Cu s)(a:Ah): ∀k,k<=a.Tiles.length-> ∀b∈Fl s a k,JI a.Tiles.length b
 |0,_,b,h=>by simp[Fl] at h
 |k+1,z,b,h=>by
  simp only[Fl,Br] at h;rcases h with h|h
  .exact xC hs a k (by omega) b h
  .exact Qzz hs a k (by omega) _ b h
def LN(g:Int)(r:List Int)(m:Int)(h0:0<=g)(O:g<m)(l:List Int)(G: ∀x∈l,0<=x/\x<m): ∀k,∀x∈P1 g r l k,0<=x/\x<m
 |0=>G
 |k+1=>by
  intro x z;simp only[P1] at z;rcases Ww z with z|z
  .exact LN g r m h0 O l G k x z
  .omega
def LM(gs:List (List Int))(l:List Int)(z: ∀x∈l,0<=x/\x<(gs.length:Int)): ∀i,i<=gs.length-> ∀x∈J8 gs l i,0<=x/\x<(gs.length:Int)
 |0,_=>z
 |i+1,G=>LN _ _ _ (by omega) (by omega) _ (LM gs l z i (by omega)) _
def yE{n:Nat}{gs:List (List Int)}(G:0<gs.length)(v:Int):0<=BG (Qr n gs) v/\BG (Qr n gs) v<(gs.length:Int):=by
 simp only[BG];cases h:(Qr n gs)[v.toNat]? with
 |none=>simp;omega
 |some x=>
  rw[AQ];exact LM gs _ (λx z=>by have:=N1 z;omega) _ (AN _) x (AY h)
def Qvw{n:Nat}{gs:List (List Int)}(z:0<gs.length): ∀(bs:List Af),(∀b∈bs,0<b.Strength/\b.Strength<=4)-> ∀b∈Hg (Qr n gs) bs,JI gs.length b
 |[],_,b,h=>by simp[Hg] at h
 |x::r,O,b,h=>by
  simp only[Hg] at h;have ih:=Qvw (n:=n) z r (λy Z=>O y (BR _ Z)) b;split at h
  .exact ih h
  .rename_i Q;rcases Bi.1 h with rfl|h
   .have h1:=yE (n:=n) z x.A;have h2:=yE (n:=n) z x.B;have G:=O x (BM ..);refine⟨?_,?_,G.1,G.2⟩
    .simp only[EC,Ec]
     split<;>split<;>omega
    .simp only[EC,Ec]
     split<;>split<;>omega
   .exact ih h
def Ms{n:Int}{bs:List Af}{t:Int}(hb: ∀b∈bs,JI n b)(Z:bs.length<=1000000)(h0:0<(BY n bs t).1)(Q:(BY n bs t).1<=64):YF (BY n bs t)/\P0 (BY n bs t).2:=by
 have G:=Qvw (n:=n.toNat) (gs:=Nm n bs t) (by simp only[BY] at h0;omega) bs (λb z=>⟨(hb b z).2.2.1,(hb b z).2.2.2⟩);have O:=Qjq (Qr n.toNat (Nm n bs t)) bs;refine⟨⟨by omega,by omega,by simp only[BY];omega,λb z=>(G b z).1,λb z=>(G b z).2.1⟩,λb z=> ?_⟩
 have:=(G b z).2.2
 omega
def cQ(s:AB)(a:Ah)(t:Int):Bool×Int:=
 if 64<(BY a.Tiles.length (Fl s a a.Tiles.length) t).1 then (false,4)
 else if (BY a.Tiles.length (Fl s a a.Tiles.length) t).1<2 then (true,0)
 else (decide (t<=(Fm (BY a.Tiles.length (Fl s a a.Tiles.length) t).1 (BY a.Tiles.length (Fl s a a.Tiles.length) t).2 ((BY a.Tiles.length (Fl s a a.Tiles.length) t).1 - 1).toNat).1),0)
def l07Stable.fv(a:AB×Ah×Int):Bool×Int:=(cQ) (a.1) (a.2.1) (a.2.2)
def l07Stable.row:A7:=vK (b3 (qP 2 AB.d_le) (qP 1 Ah.d_le) qI) (r2 rB rI) (λa=>Cu a.1/\Hm a.1 a.2.1/\a.2.1.Tiles.length<=500) l07Stable.fv
def l07Stable.q:=AU (R:=l07Stable.row) rfl
def l07Stable.ok:AA Tryz.prog 167 l07Stable.row:=by
 refine vw (tC l06Bonds.ok (tC shrunk.ok (tC weakC.ok tN))) Tryz.func167 rfl (by kernel_rfl) ?_;intro a z;simp only[Tryz.f167];simp(disch:=omega)only[ZA,simprocAttr,Ah.d,l07Stable.fv,l06Bonds.q,l06Bonds.fv,shrunk.q,shrunk.fv,weakC.q,weakC.fv];obtain⟨G,Q,h3⟩:=z;have O:=xC G a.2.1 _ (AN _);have hl:=oD a.1 a.2.1 a.2.1.Tiles.length;refine⟨⟨G,Q,by omega⟩,⟨by omega,λb hb=>(O b hb).1,by omega⟩,?_⟩;simp only[cQ];split
 .rfl
 .rename_i c1;split
  .rfl
  .rename_i c2;obtain⟨p1,Z⟩:=Ms (t:=a.2.2) O (by omega) (by omega) (by omega);exact⟨⟨p1,Z,by omega⟩,rfl⟩
def Ug(s:AB)(a:Ah)(t:Int):Bool:=(cQ s a t).1 && decide ((cQ s a t).2=0)
def Hl(y:Az):Bool:=Fe y.Set && (FH y.Set y.Seed && (!y.Seed.Tiles.isEmpty && (Bq y.Temperature 1 16 && Ug y.Set y.Seed y.Temperature)))
def l08Ok.fv(a:Az):Bool:=(Hl) a
def l08Ok.row:A7:=vK (b1 (qP 4 Az.d_le)) rB (λa=>True) l08Ok.fv
def l08Ok.q:=AU (R:=l08Ok.row) rfl
def l08Ok.ok:AA Tryz.prog 117 l08Ok.row:=by
 refine vw (tC l02Ok.ok (tC l03Ok.ok (tC l07Temperature.ok (tC l07Stable.ok tN)))) Tryz.func117 rfl (by kernel_rfl) ?_;intro a aa;simp only[Tryz.f117];simp(disch:=omega)only[ZA,simprocAttr,Ah.d,l08Ok.fv,l02Ok.q,l02Ok.fv,l03Ok.q,l03Ok.fv,l07Temperature.q,l07Temperature.fv,l07Stable.q,l07Stable.fv]
 split<;>rename_i c1
 .split<;>rename_i c2
  .have z:FH a.Set a.Seed=true:=by
    simp only[FH,AS,Ch];exact c2
   split<;>rename_i G
   .have O:a.Seed.Tiles.isEmpty=false:=by
     rw[Zew];intro h;rw[h] at G;simp at G
    split<;>rename_i Q
    .simp only[Hl,Q,Ei,Zg]
    .refine⟨⟨Qge c1,(Kz z).1,(Kz z).2⟩,?_⟩;rw[HO] at Q;simp only[Hl,c1,z,O,Q,CP,Q6,Ug]
     split<;>rename_i Z
     .rw[Z,CP]
     .rw[N3] at Z;rw[Z,Ei]
   .have O:a.Seed.Tiles=[]:=by
     have:=F8.1 G
     exact rM (by omega)
    simp[Hl,O]
  .have z:FH a.Set a.Seed=false:=by
    rw[Ny];intro h;simp only[FH,AS,Ch] at h;exact c2 h
   simp[Hl,z]
 .rw[N3] at c1;simp[Hl,c1]
def CW(b n:Nat):List (List AV):=(List.range n).map λi=>[AV.own (b+i)]
def B1(b n:Nat)(M:List (List Int)):Ap:=AT b n (λi=>(true,.arr 2 1 ((M[i]?.getD []).map Al)))
def PC(j:Nat):Bool:=Nat.blt j 3||((Nat.ble 100 j && Nat.blt j 164)||(Nat.ble 200 j && Nat.blt j 264))
def Cw(x:Ba)(n:Nat):Ap:=(0,(true,.cells 375 [.own 1,.own 2]))::(1,(true,.arrA 32 1 (CW 100 n)))::(2,(true,.arrA 32 1 (CW 200 n)))::(B1 100 n x.Room++B1 200 n x.Flow)
def nwC.ca(a:Int×List Af):List AV:=[.im (.int .i64 a.1),.im (.sl false 3 (a.2.map Af.c))]
def nwC.H1(a:Int×List Af):Ap:=Cw (D0 a.1.toNat a.2) (min a.1.toNat 64)
def LP(a:Int×List Af):Prop:=0<=a.1/\a.1<=64/\a.2.length<=1000000/\K0 a.1 a.2/\P0 a.2/\ ∀b∈a.2,b.A≠b.B
def nwC.row:A7:=AF nwC.ca (λ_=>[]) 0 LP (λ_=>false) (λ_=> .ptr 0 0) nwC.H1 320
def oV(m:Nat): ∀(a b:Ap),Ac m (a++b)=(Ac m a && Ac m b)
 |[],b=>by simp[Ac]
 |(i,(z,e))::r,b=>by
  have ih:=oV m r b;cases e<;>simp only[CX,Ac,ih,zC]
def Qmd(m:Nat): ∀(a b:Ap),A9 m (a++b)=(A9 m a && A9 m b)
 |[],b=>by simp[A9]
 |(i,(z,e))::r,b=>by simp only[CX,A9,Qmd m r b,zC]
def VO(b n N:Nat)(h:b+n<=N):(CW b n).all (Av N)=true:=by
 rw[Dp];intro r G;obtain⟨i,z,rfl⟩:=Bm.1 G
 have:=B6.1 z
 simp[Av,AV.bel];omega
def Qkf(nx:Nat): ∀(l:List Nat),Fx nx 0 l=true
 |[]=>rfl
 |x::r=>by
  have:(Nat.blt x nx||Nat.ble (nx+0) x)=true:=by
   rw[Hp,El,GU];omega
  simp only[Fx,this,Qkf nx r,Zi]
def Ih(b n:Nat):(CW b n).length=n:=by simp[CW]
def Qo7(b n i:Nat)(h:i<n):(CW b n)[i]? =some [.own (b+i)]:=by simp[CW,HK h]
def Qpf(a b:Ap):ES (a++b)=ES a++ES b:=by
 induction a with
 |nil=>rfl
 |cons x r ih=>obtain⟨i,e⟩:=x;simp only[CX,ES,ih]
def P2(m:Nat): ∀(a b:Ap),hget (a++b) m=(hget a m).or (hget b m)
 |[],b=>by simp[hget]
 |(i,e)::r,b=>by
  have ih:=P2 m r b;simp only[CX,hget];cases i==m<;>simp[ih]
def Qpw(b n:Nat)(M:List (List Int))(i:Nat)(h:i<n):hget (B1 b n M) (b+i)=some (true,.arr 2 1 ((M[i]?.getD []).map Al)):=Hh _ _ _ _ h
def Qwa(b n:Nat)(M:List (List Int))(m:Nat)(h:m<b\/b+n<=m):hget (B1 b n M) m=none:=Qmh _ _ _ _ h
def bH(k:Nat)(M N:List (List Int))(i:Nat)(h:i<k):hget (B1 100 k M++B1 200 k N) (100+i)=some (true,.arr 2 1 ((M[i]?.getD []).map Al)):=by
 rw[P2,Qpw _ _ _ _ h];rfl
def bN(k:Nat)(M N:List (List Int))(i:Nat)(z:k<=100)(h:i<k):hget (B1 100 k M++B1 200 k N) (200+i)=some (true,.arr 2 1 ((N[i]?.getD []).map Al)):=by
 rw[P2,Qwa _ _ _ _ (by omega),Qpw _ _ _ _ h];rfl
def Qxa(b n i:Nat)(K:List AV->Prop)(h:i<n):IX (CW b n) i K=K [.own (b+i)]:=by
 apply propext;unfold IX;rw[Qo7 b n i h];exact⟨λh=>h _ rfl,λh row z=>by obtain rfl:=AE z;exact h⟩
def gO(s:Aj): ∀(a b:Ap),BU s (a++b)=(BU s a/\BU s b)
 |[],b=>by simp[BU]
 |(i,e)::r,b=>by simp only[CX,BU,gO s r b,jJ]
def pG(s:Aj)(b n:Nat)(M:List (List Int)):BU s (B1 b n M)= ∀i,i<n->hget s.h (b+i)=some (true,.arr 2 1 ((M[i]?.getD []).map Al)):=by
 have: ∀(f:Nat->Aq) (l:List Nat),BU s (l.map λi=>(b+i,f i))↔ ∀i∈l,hget s.h (b+i)=some (f i):=by
  intro f l;induction l with
  |nil=>simp[BU]
  |cons i r ih=>simp only[Bd,BU,ih,Bi,yT]
 apply propext;rw[B1,AT,this];simp only[B6]
def xB{n:Nat}{bs:List Af}(hb:K0 n bs)(hs:P0 bs)(a b:Nat): ∀k,0<=DH (BO n bs k) a b/\DH (BO n bs k) a b<=2000000*(k:Int)
 |0=>by
  simp only[DH,BO,Ka,Gv,KB];split
  .rw[AQ,KB];split<;>simp
  .simp
 |k+1=>by
  have ih:=xB hb hs a b k;obtain⟨z,_⟩:=VW hb k;simp only[DH,BO] at ih⊢;split
  .rename_i x G;obtain⟨b1,b2,b3,b4⟩:=hb x (AY G);have h0:=hs x (AY G);simp only[JH];rw[show x.A=(x.A.toNat:Int) by omega,show x.B=(x.B.toNat:Int) by omega];rw[bF (n:=n) (by rw[Y5];exact z.r) (Y2 z.rr _ _ _ (by rw[z.r];simp;omega)) _ (by omega) (by omega),bF z.r z.rr _ (by omega) (by omega)]
   split<;>split<;>omega
  .omega
def SD(k:Nat)(O:k<=64):([0,1,2]++((List.range k).map (100+ ·)++(List.range k).map (200+ ·))).Nodup:=by
 rw[<-HP];refine bI _ 200 k (bI _ 100 k (by simp) (by simp)) ?_;intro x z;rcases Br.1 z with z|z
 .simp at z;omega
 .obtain⟨i,G,rfl⟩:=Bm.1 z
  have:=B6.1 G
  show 100+i<200;omega
def SC(k:Nat)(O:k<=64): ∀x∈([0,1,2]++((List.range k).map (100+ ·)++(List.range k).map (200+ ·))),x<300:=by
 intro x z;rcases Br.1 z with z|z
 .simp at z;omega
 .rcases Br.1 z with z|z<;>obtain⟨i,G,rfl⟩:=Bm.1 z<;>have:=B6.1 G
  .show 100+i<300;omega
  .show 200+i<300;omega
def Qyn{π:List (Nat×Option Nat)}{b:Nat}{g:Nat->Nat}{n:Nat}(h: ∀i,i<n->pm π (b+i)=some (g i)){R:List (List AV)}(hR:R=(List.range n).map λi=>[AV.own (g i)]):Gk π (CW b n) R:=by
 subst hR;rw[cF];refine⟨by simp[CW],λi x y G O=> ?_⟩;have z:i<n:=by have:=(Cd.1 G).1;rwa [Ih] at this
 rw[Qo7 _ _ _ z] at G;rw[D9,HK z] at O;obtain rfl:=AE G;obtain rfl:=AE O;simp only[Dz,mt,h i z,Fy,GQ]
def Ql0(b k c:Nat):CW b k++[[.own c]]=(List.range (k+1)).map λi=>[AV.own (if i<k then b+i else c)]:=by
 rw[jH,F9,CW];congr 1
 .exact Nx λi z=>by rw[Ao (B6.1 z)]
 .simp
def pX(k:Nat)(M N:List (List Int))(G:k<=64)(tm:List (Nat×AV))(z:An 300 tm=true):Aj.good ⟨tm,(0,(true,.cells 375 [.own 1,.own 2]))::(1,(true,.arrA 32 1 (CW 100 k)))::(2,(true,.arrA 32 1 (CW 200 k)))::(B1 100 k M++B1 200 k N),300⟩=true:=by
 simp only[Aj.good,Ac,A9,z,CP,oV,Qmd,B1];rw[Qk _ _ _ (λi=>rfl),Qk _ _ _ (λi=>rfl),Qa _ _ _ _ (by omega),Qa _ _ _ _ (by omega),VO _ _ _ (by omega),VO _ _ _ (by omega)];rfl
def JP(o:Nat)(h:PC o=true):o<264:=by
 simp only[PC,Hp,AS,El,GU] at h;omega
def Zt(i:Nat)(h:i<64):PC (100+i)=true:=by
 simp only[PC,Hp,AS,El,GU];omega
def Zu(i:Nat)(h:i<64):PC (200+i)=true:=by
 simp only[PC,Hp,AS,El,GU];omega
def Quc(h:Nat->Option Aq)(f:AV->Option AV): ∀(a b:Ap),EK h f (a++b)↔EK h f a/\EK h f b
 |[],b=>by simp[EK]
 |(i,e)::r,b=>by simp only[CX,EK,Quc h f r b,jJ]
def Qoq(h:Nat->Option Aq)(f:AV->Option AV)(b n:Nat)(M:List (List Int))(H: ∀i,i<n->h (b+i)=some (true,.arr 2 1 ((M[i]?.getD []).map Al))):EK h f (B1 b n M):=by
 have: ∀(l:List Nat),(∀i∈l,i<n)->EK h f (l.map λi=>(b+i,(true,Ad.arr 2 1 ((M[i]?.getD []).map Al)))):=by
  intro l;induction l with
  |nil=>intro _;simp[EK]
  |cons i r ih=>
   intro z;simp only[Bd,EK];refine⟨?_,ih (λj O=>z j (BR _ O))⟩;rw[H i (z i (BM ..))];exact⟨rfl,rfl⟩
 exact this _ (λi G=>B6.1 G)
def Quf{h:Nat->Option Aq}{kx:Nat->Option Nat}{m b n:Nat}(G: ∀i,i<n->kx (b+i)=some (b+i)):Ax (Ax (Bb h kx (m+1))) (CW b n)=some (CW b n):=by
 refine UK (g:=λi=>[AV.own (b+i)]) (k:=λi=>[AV.own (b+i)]) _ λi z=> ?_
 simp only[Ax,Bb,G i (B6.1 z),kp]
def SO{x:Ba}{n:Nat}(hn:n<=64){kx:Nat->Option Nat}(G: ∀o,PC o=true->kx o=some o):EK (hget (Cw x n)) (Bb (hget (Cw x n)) kx 9) (Cw x n):=by
 have k1:kx 1=some 1:=G 1 rfl;have k2:kx 2=some 2:=G 2 rfl;obtain⟨H,hH⟩: ∃H,H=hget (Cw x n):=⟨_,rfl⟩;have g0:H 0=some (true,.cells 375 [.own 1,.own 2]):=by rw[hH];rfl
 have g1:H 1=some (true,.arrA 32 1 (CW 100 n)):=by rw[hH];rfl
 have g2:H 2=some (true,.arrA 32 1 (CW 200 n)):=by rw[hH];rfl
 have ga: ∀i,i<n->H (100+i)=some (true,.arr 2 1 ((x.Room[i]?.getD []).map Al)):=by
  intro i z;rw[hH];simp only[Cw,hget,Be _ _ (show 0≠100+i by omega),Be _ _ (show 1≠100+i by omega),Be _ _ (show 2≠100+i by omega),B8];exact bH _ _ _ _ z
 have gb: ∀i,i<n->H (200+i)=some (true,.arr 2 1 ((x.Flow[i]?.getD []).map Al)):=by
  intro i z;rw[hH];simp only[Cw,hget,Be _ _ (show 0≠200+i by omega),Be _ _ (show 1≠200+i by omega),Be _ _ (show 2≠200+i by omega),B8];exact bN _ _ _ _ (by omega) z
 rw[<-hH];simp only[Cw,EK,Quc];refine⟨?_,?_,?_,Qoq _ _ _ _ _ ga,Qoq _ _ _ _ _ gb⟩
 .rw[g0];exact⟨rfl,by simp only[Ct,Ax,Bb,k1,k2,kp];rfl⟩
 .rw[g1];exact⟨rfl,by simp only[Ct];rw[Quf (λi z=>G _ (Zt i (by omega)))];rfl⟩
 .rw[g2];exact⟨rfl,by simp only[Ct];rw[Quf (λi z=>G _ (Zu i (by omega)))];rfl⟩
def LO{x:Ba}{n:Nat}(hn:n<=64){p:Nat×Aq}(hp:p∈Cw x n):PC p.1=true/\p.2.1=true:=by
 simp only[Cw,Bi,Br,B1,AT,Bm,B6] at hp;rcases hp with rfl|rfl|rfl|⟨i,z,rfl⟩|⟨i,z,rfl⟩
 .exact⟨rfl,rfl⟩
 .exact⟨rfl,rfl⟩
 .exact⟨rfl,rfl⟩
 .exact⟨Zt i (by omega),rfl⟩
 .exact⟨Zu i (by omega),rfl⟩
def fG{a:Int×List Af}{p:Nat×Aq}(hp:p∈nwC.H1 a):PC p.1=true/\p.2.1=true:=LO (dL _ _) hp
def nwC.ok:AA Tryz.prog 270 nwC.row:=by
 refine ow tN Tryz.func270 rfl (by kernel_rfl) (exB:=PC) (R:=λ_ r=>r= .ptr 0 0) (λ_=>rfl)
  (λa=>by simp[nwC.ca,Av,AV.bel,Ac,A9,BK]) (λa p hp=> ?_) (λa r h=>by subst h;exact C8.refl _) ?_
 rotate_left
 intro a ao;simp only[Tryz.f270,nwC.ca];simp(disch:=omega)only[ZA,simprocAttr];obtain⟨h0,O,hl,Q,ag,an⟩:=ao;obtain⟨n,hn⟩: ∃n:Nat,a.1=n:=⟨a.1.toNat,by omega⟩;obtain⟨bs,hbsd⟩: ∃bs,bs=a.2:=⟨_,rfl⟩;simp only[<-hbsd] at hl Q ag an;rw[hn] at h0 O Q;have hH1:nwC.H1 a=Cw (D0 n bs) n:=by simp only[nwC.H1,hn,Bt,hbsd];rw[ZeS (by omega)]
 rw[hH1];clear hH1;simp only[hn,<-hbsd];refine AR.ren ⟨{k:Nat//k<=n},λk=>⟨[(11,.im (.int .i64 k.1)),(10,.im (.int .i64 n)),(5,.ptr 0 0),(0,.im (.int .i64 n)),(1,.im (.sl false 3 (bs.map Af.c)))],(0,(true,.cells 375 [.own 1,.own 2]))::(1,(true,.arrA 32 1 (CW 100 k.1)))::(2,(true,.arrA 32 1 (CW 200 k.1)))::(B1 100 k.1 (List.replicate n (List.replicate n 0))++B1 200 k.1 (List.replicate n (List.replicate n 0))),300⟩,λk=>n - k.1,λk=>⟨?_,by simp⟩,⟨⟨0,by simp⟩,[(1,none),(2,none)],?_⟩,λk=> ?_⟩
 .exact pX _ _ _ (by omega) _ (by simp[An,AV.bel])
 .simp only[A8,B1,AT,CW,ZeQ,GR,DA];simp(disch:=omega)only[ZA,simprocAttr,cW]
 obtain⟨k,au⟩:=k;simp(disch:=omega)only[ZA,simprocAttr,D5,AP,Bo,Qkf,rW,rP,Je,List.all_nil,VO,Ih];refine⟨λhk=>⟨by omega,by omega,by omega,by omega,⟨k+1,by omega⟩,[(1,some 302),(2,some 305),(100+k,some 300),(200+k,some 303)],by simp only;omega,?_⟩,λhk=> ?_⟩
 .have hg: ∀i,i<n->(List.replicate n (List.replicate n (0:Int)))[i]?.getD []=List.replicate n 0:=by
   intro i z;rw[KB,Ao z,AQ]
  have ad: ∀i,i<k->pm [(1,some 302),(2,some 305),(100+k,some 300),(200+k,some 303)] (100+i)=some (100+i):=by
   intro i z;simp only[pm];rw[Ag (by omega),Ag (by omega),Ag (by omega),Ag (by omega)]
  have af: ∀i,i<k->pm [(1,some 302),(2,some 305),(100+k,some 300),(200+k,some 303)] (200+i)=some (200+i):=by
   intro i z;simp only[pm];rw[Ag (by omega),Ag (by omega),Ag (by omega),Ag (by omega)]
  have ab:pm [(1,some 302),(2,some 305),(100+k,some 300),(200+k,some 303)] (100+k)=some 300:=by
   simp only[pm];rw[Ag (by omega),Ag (by omega),Ao trivial]
  have ac:pm [(1,some 302),(2,some 305),(100+k,some 300),(200+k,some 303)] (200+k)=some 303:=by
   simp only[pm];rw[Ag (by omega),Ag (by omega),Ag (by omega),Ao trivial]
  have q0:pm [(1,some 302),(2,some 305),(100+k,some 300),(200+k,some 303)] 0=some 0:=by
   simp only[pm];rw[Ag (by omega),Ag (by omega),Ag (by omega),Ag (by omega)]
  have q1:pm [(1,some 302),(2,some 305),(100+k,some 300),(200+k,some 303)] 1=some 302:=rfl;have q2:pm [(1,some 302),(2,some 305),(100+k,some 300),(200+k,some 303)] 2=some 305:=rfl;obtain⟨π,hπ⟩: ∃π,π=[(1,some 302),(2,some 305),(100+k,some 300),(200+k,some 303)]:=⟨_,rfl⟩;rw[<-hπ] at ad af ab ac q0 q1 q2⊢;refine⟨by rw[hπ];exact⟨by omega,by omega,by omega,by omega,trivial⟩,?_,?_,?_⟩
  .rw[cA,hπ];simp only[ES,Qpf,B1,Y6];refine cE _ _ (SD (k+1) (by omega)) ?_;intro x hx y hy m ah ai;have a9:=SC (k+1) (by omega) x hx;have ba:=SC (k+1) (by omega) y hy;simp only[pm] at ah ai
   repeat' split at ah
   all_goals repeat' split at ai
   all_goals simp only[AI] at ah ai
   all_goals omega
  .simp only[P4,AD];simp(disch:=omega)only[ZA,simprocAttr,q0];rw[AG (by omega) (by omega)];omega
  .simp only[G0,Qns,B1,bS];refine⟨?_,?_,?_,λi z=> ?_,λi z=> ?_⟩
   .simp(disch:=omega)only[ZA,simprocAttr,q0,q1,q2]
   .simp(disch:=omega)only[ZA,simprocAttr,q1];refine Qyn (g:=λi=>if i<k then 100+i else 300) (λi z=> ?_) (Ql0 100 k 300);by_cases h:i<k
    .rw[Ao h,ad i h]
    .rw[Ag h,show i=k by omega,ab]
   .simp(disch:=omega)only[ZA,simprocAttr,q2];refine Qyn (g:=λi=>if i<k then 200+i else 303) (λi z=> ?_) (Ql0 200 k 303);by_cases h:i<k
    .rw[Ao h,af i h]
    .rw[Ag h,show i=k by omega,ac]
   .by_cases h:i<k
    .rw[ad i h,hg i (by omega)];simp only[Ea,hget,Be _ _ (show 0≠100+i by omega),Be _ _ (show 305≠100+i by omega),Be _ _ (show 303≠100+i by omega),Be _ _ (show 302≠100+i by omega),Be _ _ (show 300≠100+i by omega),B8,VQ];have h9:=bH k (List.replicate n (List.replicate n 0)) (List.replicate n (List.replicate n 0)) i h;simp only[B1] at h9;simp (disch:=omega) only[cX,cZ,Be,Qz,CE,Cy,h9,hg,JL,Ez,GQ]
    .rw[show i=k by omega,ab,hg k (by omega)];simp(disch:=omega)only[ZA,simprocAttr,pW]
   .by_cases h:i<k
    .rw[af i h,hg i (by omega)];simp only[Ea,hget,Be _ _ (show 0≠200+i by omega),Be _ _ (show 305≠200+i by omega),Be _ _ (show 303≠200+i by omega),Be _ _ (show 302≠200+i by omega),Be _ _ (show 300≠200+i by omega),B8,VQ];have h9:=bN k (List.replicate n (List.replicate n 0)) (List.replicate n (List.replicate n 0)) i (by omega) h;simp only[B1] at h9;simp (disch:=omega) only[cX,cZ,Be,Qz,CE,Cy,h9,hg,JL,Ez,GQ]
    .rw[show i=k by omega,ac,hg k (by omega)];simp(disch:=omega)only[ZA,simprocAttr,pW]
 .intro _;have av:k=n:=by omega
  subst av;clear hk au;refine AR.old ⟨{j:Nat//j<=bs.length},λj=>⟨[(38,.im (.int .i64 j.1)),(37,.im (.int .i64 bs.length)),(36,.im (.sl false 3 (bs.map Af.c))),(5,.ptr 0 0)],(0,(true,.cells 375 [.own 1,.own 2]))::(1,(true,.arrA 32 1 (CW 100 k)))::(2,(true,.arrA 32 1 (CW 200 k)))::(B1 100 k (BO k bs j.1).Room++B1 200 k (BO k bs j.1).Flow),300⟩,λj=>bs.length - j.1,λj=>⟨?_,by simp⟩,⟨⟨0,by simp⟩,?_⟩,λj=> ?_⟩
  .exact pX _ _ _ (by omega) _ (by simp[An,AV.bel])
  .simp only[sub,FX,BU,AD,hget,gO];simp(disch:=omega)only[ZA,simprocAttr,pG,BO,Ka];refine⟨λi z=> ?_,λi z=> ?_⟩
   .rw[Ag (by omega),Ag (by omega),Ag (by omega)];exact bH _ _ _ _ z
   .rw[Ag (by omega),Ag (by omega),Ag (by omega)];exact bN _ _ _ _ (by omega) z
  obtain⟨j,hj⟩:=j;obtain⟨aa,_⟩:=VW Q j;obtain⟨x,hx⟩: ∃x,x=BO k bs j:=⟨_,rfl⟩;simp only[<-hx] at aa⊢;simp(disch:=omega)only[ZA,simprocAttr,PC,AP,Bo,Ih];refine⟨λam=>⟨am,λb hb=> ?_⟩,λam=> ?_⟩
  .obtain⟨b1,b2,b3,b4⟩:=Q b (AY hb);have az:=an b (AY hb);have a0:=ag b (AY hb);obtain⟨u,hu⟩: ∃u:Nat,b.A=u:=⟨b.A.toNat,by omega⟩;obtain⟨v,hv⟩: ∃v:Nat,b.B=v:=⟨b.B.toNat,by omega⟩;have Z:u<k:=by omega
   have G:v<k:=by omega
   have ay:u≠v:=by omega
   simp only[hu,hv,Bt];refine⟨by omega,by omega,by omega,?_⟩;have hr: ∀i,i<k->(x.Room[i]?.getD []).length=k:=by
    intro i z;rw[Bh (by rw[aa.r];exact z),AQ];exact aa.rr _ (Q4 _)
   have aw:=hr u Z;have ax:=hr v G;simp(disch:=omega)only[ZA,simprocAttr,sub,Wb,Bo,Ih,Be,Kx,bH,aw,ax,Qxa,bE,rW,gO,pG];have aj:=xB Q ag u v j;have ak:=xB Q ag v u j;rw[<-hx] at aj ak;refine⟨by omega,G,by omega,G,λx1 e1=>⟨G,by omega,G,λx2 _=>⟨.inr (by omega),G,G,by omega,Z,by omega,Z,λx3 e3=>⟨Z,by omega,Z,λx4 _=>⟨.inr (by omega),⟨j+1,by omega⟩,by simp only;omega,by rw[AG (by omega) (by omega)];simp only;omega,?_⟩⟩⟩⟩⟩;have r1:DH x u v=x1:=by simp only[DH,Gv,e1,AQ]
   have r3:DH x v u=x3:=by simp only[DH,Gv,e3,AQ]
   rw[r1] at aj;rw[r3] at ak;rw[AG (by omega) (by omega),AG (by omega) (by omega)];have hN:BO k bs (j+1)=JH x b:=by simp only[BO,hb,<-hx]
   have hR: ∀i,i<k->(BO k bs (j+1)).Room[i]?.getD []=if v=i then (x.Room[v]?.getD []).set u (x3+b.Strength) else if u=i then (x.Room[u]?.getD []).set v (x1+b.Strength) else x.Room[i]?.getD []:=by
    intro i z;rw[hN];simp only[JH,K5,hu,hv,Bt];by_cases O:v=i
    .subst O;rw[Ao rfl,Da (by rw[Ew,aa.r];exact G),AQ,D4 ay,e3,AQ]
    .rw[Ag O,D4 O];by_cases h2:u=i
     .subst h2;rw[Ao rfl,Da (by rw[aa.r];exact Z),AQ,e1,AQ]
     .rw[Ag h2,D4 h2]
   have hF:(BO k bs (j+1)).Flow=x.Flow:=by rw[hN];rfl
   refine⟨λi z=> ?_,λi z=> ?_⟩
   .rw[hR i z];by_cases O:v=i
    .subst O;rw[Ao rfl,Ao rfl]
    .rw[Ag (by omega),Ag O];by_cases h2:u=i
     .subst h2;rw[Ao rfl,Ao rfl]
     .rw[Ag (by omega),Ag h2,Ag (by omega)];exact bH _ _ _ _ z
   .rw[Ag (by omega),hF];exact bN _ _ _ _ (by omega) z
  .have aq:j=bs.length:=by omega
   subst aq;rw[hx];exact SO (x:=D0 k bs) (n:=k) (by omega) (λo ho=>by
    have O:(Am [] o||(PC o && (Nat.ble 0 o && Nat.blt o (0+320))))=true:=by
     have h2:=JP o ho;simp[ho];omega
    simp only[I8,O,Ca])
 rcases fG hp with ⟨O,h2⟩
 have a8:=JP p.1 O;exact .inr ⟨by omega,by omega,O,h2⟩
structure SA(H:Nat->Option Aq)(x:Ba)(n:Nat):Prop where
 g0:H 0=some (true,.cells 375 [.own 1,.own 2])
 g1:H 1=some (true,.arrA 32 1 (CW 100 n))
 g2:H 2=some (true,.arrA 32 1 (CW 200 n))
 ga: ∀i,i<n->H (100+i)=some (true,.arr 2 1 ((x.Room[i]?.getD []).map Al))
 gb: ∀i,i<n->H (200+i)=some (true,.arr 2 1 ((x.Flow[i]?.getD []).map Al))
def T6{M:List (List Int)}{n:Nat}(h:M.length=n):(List.range n).map (λi=>C4 (M[i]?.getD []))=M.map C4:=by
 apply JE;intro i;rw[D9,D9];by_cases z:i<n
 .rw[HK z,Bh (by omega:i<M.length)];simp only[Ds,Bh (show i<M.length by omega),AQ]
 .rw[F7 (by simp;omega),F7 (by omega)];rfl
def LQ{H:Nat->Option Aq}{m b o n:Nat}{M:List (List Int)}(Q:M.length=n)(z:H o=some (true,.arrA 32 1 (CW b n)))(G: ∀i,i<n->H (b+i)=some (true,.arr 2 1 ((M[i]?.getD []).map Al))):
 bk H (m+2) (.own o)=some (.sl false 1 (M.map C4)):=by
 simp only[bk,z,K9];rw[CW,UK (f:=Ax (bk H (m+1))) (g:=λi=>[AV.own (b+i)]) (k:=λi=>C4 (M[i]?.getD [])),T6 Q]
 .rfl
 .intro i O;simp only[Ax,bk,G i (B6.1 O),K9];rfl
def X4{H:Nat->Option Aq}{x:Ba}{n:Nat}(h:SA H x n)(z:JA x n)(a b:D):Ce H [.ptr 0 0,.im a,.im b]=some [.ptr (Ba.c x),FU a,FU b]:=by
 have G:=LQ (m:=6) z.r h.g1 h.ga;have O:=LQ (m:=6) z.f h.g2 h.gb;simp only[Ce,Ed,h.g0,YQ,GN,Ax,G,O,X9,Ds,GY];rfl
def U6{H:Nat->Option Aq}{x:Ba}{n nx:Nat}{K:Ai}(h:SA H x n)(z:JA x n)(hn:n<=1000){p q:Int}(G:0<=p)(aa:p<n)(O:0<=q)(ab:q<n)
 (hK: ∀U,K (.im (.sl true 1 ((Cm x n p q).map Al))) {use:=U}):wayC.row [.ptr 0 0,.im (.int .i64 p),.im (.int .i64 q)] H nx K:=by
 have Q:=z.r;rw[wayC.q,X4 h z];have e:Ba.d ((Ba.c x).take 2)=some x:=Ba.d_c x;simp only[VN,b3,qP,qI,a3,kP,kI,FU,e,EN,DK];refine⟨⟨Q▸z,by omega,G,by omega,O,by omega⟩,?_⟩;have Z:wayC.re (wayC.fv (x,p,q))= .sl true 1 ((Cm x n p q).map Al):=by simp only[wayC.re,wayC.fv,Q]
 rw[Z];exact hK _
def sndC.n(a:Ba×Int×Int×Int):Nat:=min a.1.Room.length 64
def Qs(n:Nat)(p q:Int):Nat->Ba->Ba
 |0,x=>x
 |m+1,x=>if Cm x n p q=[] then x else Qs n p q m (GK x (Cm x n p q) ((Cm x n p q).length - 1))
def sndC.ca(a:Ba×Int×Int×Int):List AV:=[.ptr 0 0,.im (.int .i64 a.2.1),.im (.int .i64 a.2.2.1),.im (.int .i64 a.2.2.2)]
def sndC.H0(a:Ba×Int×Int×Int):Ap:=Cw a.1 (sndC.n a)
def sndC.H1(a:Ba×Int×Int×Int):Ap:=B1 200 (sndC.n a) (Qs (sndC.n a) a.2.1 a.2.2.1 a.2.2.2.toNat a.1).Flow
def sndC.r0(a:Ba×Int×Int×Int):AV:= .im (.int .i64 (F5 (sndC.n a) a.2.1 a.2.2.1 a.2.2.2.toNat a.1))
structure TP(a:Ba×Int×Int×Int):Prop where
 n:a.1.Room.length<=64
 ok:JA a.1 a.1.Room.length
 p0:0<=a.2.1
 p1:a.2.1<a.1.Room.length
 q0:0<=a.2.2.1
 q1:a.2.2.1<a.1.Room.length
 pq:a.2.1≠a.2.2.1
 m0:0<=a.2.2.2
 m1:a.2.2.2<=1000000
 fl: ∃v,Qg (DH a.1) (Jh a.1) a.1.Room.length a.2.1.toNat a.2.2.1.toNat v
 rm: ∀u v,DH a.1 u v<=10000000000000
def Sa(j:Nat):Bool:=Nat.ble 200 j && Nat.blt j 264
def sndC.row:A7:=AF sndC.ca sndC.H0 300 TP Sa sndC.r0 sndC.H1 10
def sndC.hbel(a:Ba×Int×Int×Int):Av 300 (sndC.ca a)=true:=rfl
def sndC.n_le(a:Ba×Int×Int×Int):sndC.n a<=64:=dL _ _
def kN(x:Ba)(n:Nat)(hn:n<=64):Ac 300 (Cw x n)=true/\A9 300 (Cw x n)=true:=by
 have:=pX n x.Room x.Flow hn [] rfl
 simp only[Aj.good,AS] at this;exact this.2
def sndC.hbH(a:Ba×Int×Int×Int):Ac 300 (sndC.H0 a)=true:=(kN _ _ (sndC.n_le a)).1
def sndC.hkH(a:Ba×Int×Int×Int):A9 300 (sndC.H0 a)=true:=(kN _ _ (sndC.n_le a)).2
def UJ(x:Ba)(n:Nat)(hn:n<=64):SA (hget (Cw x n)) x n:=by
 refine⟨rfl,rfl,rfl,λi z=> ?_,λi z=> ?_⟩
 .simp only[Cw,hget,Be _ _ (show 0≠100+i by omega),Be _ _ (show 1≠100+i by omega),Be _ _ (show 2≠100+i by omega),B8];exact bH _ _ _ _ z
 .simp only[Cw,hget,Be _ _ (show 0≠200+i by omega),Be _ _ (show 1≠200+i by omega),Be _ _ (show 2≠200+i by omega),B8];exact bN _ _ _ _ (by omega) z
def Qvt(H0:Ap): ∀(a b:Ap),BK H0 (a++b)↔BK H0 a/\BK H0 b
 |[],b=>by simp[BK]
 |(i,(z,e))::r,b=>by simp only[CX,BK,Qvt H0 r b,jJ]
def Qud(H0:Ap)(b n:Nat)(M:List (List Int)):BK H0 (B1 b n M):=by
 have: ∀(l:List Nat),BK H0 (l.map λi=>(b+i,(true,Ad.arr 2 1 ((M[i]?.getD []).map Al)))):=by
  intro l;induction l with
  |nil=>simp[BK]
  |cons i r ih=>simp only[Bd,BK];exact⟨λm z=>by simp[Ad.nms] at z,ih⟩
 exact this _
def Qu6(b n:Nat): ∀m∈B2 (CW b n),∃i,i<n/\m=b+i:=by
 have: ∀(l:List Nat),(∀i∈l,i<n)-> ∀m∈B2 (l.map λi=>[AV.own (b+i)]),∃i,i<n/\m=b+i:=by
  intro l;induction l with
  |nil=>intro _ m z;simp[B2] at z
  |cons i r ih=>
   intro G m z;simp only[Bd,B2,AC,AV.nms,DA,Br,BE] at z;rcases z with rfl|z
   .exact⟨i,G i (BM ..),rfl⟩
   .exact ih (λj Q=>G j (BR _ Q)) m z
 exact this _ (λi O=>B6.1 O)
def X3(x:Ba)(n:Nat)(hn:n<=64):BK (Cw x n) (Cw x n):=by
 have G:=UJ x n hn;have hd: ∀o e,hget (Cw x n) o=some e->Am (Cw x n) o=true:=λo e h=>by simp only[Am,h];rfl
 obtain⟨H,hH⟩: ∃H,H=Cw x n:=⟨_,rfl⟩;rw[<-hH] at G hd;rw[show BK (Cw x n) (Cw x n)=BK H (Cw x n) by rw[hH]];simp only[Cw,BK,Qvt];refine⟨λm z=> ?_,λm z=> ?_,λm z=> ?_,Qud _ _ _ _,Qud _ _ _ _⟩
 .simp only[Ad.nms,AC,AV.nms,DA,Br,BE] at z;rcases z with rfl|rfl
  .exact hd _ _ G.g1
  .exact hd _ _ G.g2
 .obtain⟨i,O,rfl⟩:=Qu6 100 n m z;exact hd _ _ (G.ga i O)
 .obtain⟨i,O,rfl⟩:=Qu6 200 n m z;exact hd _ _ (G.gb i O)
def M5{s:Aj}{x:Ba}{n:Nat}(h:SA (hget s.h) x n):BU s (Cw x n):=by
 simp only[Cw,BU,gO,pG];exact⟨h.g0,h.g1,h.g2,h.ga,h.gb⟩
def Mn(h:Nat->Option Aq)(f:Nat->Bool): ∀(a b:Ap),H3 h f (a++b)↔H3 h f a/\H3 h f b
 |[],b=>by simp[H3]
 |(i,e)::r,b=>by simp only[CX,H3,Mn h f r b,jJ]
def Zz(i:Nat)(h:i<64):Sa (200+i)=true:=by
 simp only[Sa,AS,GU,El];omega
def Qxi(h:Nat->Option Aq)(f:Nat->Bool)(b:Nat)(g:Nat->Aq)(n:Nat)(H: ∀i,i<n->f (b+i)=true\/h (b+i)=some (g i)):H3 h f (AT b n g):=by
 have: ∀(l:List Nat),(∀i∈l,i<n)->H3 h f (l.map λi=>(b+i,g i)):=by
  intro l;induction l with
  |nil=>intro _;trivial
  |cons i r ih=>
   intro G;simp only[Bd,H3];refine⟨?_,ih (λj Q=>G j (BR _ Q))⟩;rcases H i (G i (BM ..)) with z|z
   .rw[z];trivial
   .cases f (b+i)
    .exact z
    .trivial
 exact this _ (λi O=>B6.1 O)
def T3{h:Nat->Option Aq}{n:Nat}(hn:n<=64){M:List (List Int)}(H: ∀i,i<n->h (100+i)=some (true,.arr 2 1 ((M[i]?.getD []).map Al))):H3 h Sa (B1 100 n M):=Qxi _ _ _ _ _ (λi z=> .inr (H i z))
def T4{h:Nat->Option Aq}{n:Nat}(hn:n<=64){M:List (List Int)}:H3 h Sa (B1 200 n M):=Qxi _ _ _ _ _ (λi z=> .inl (Zz i (by omega)))
def sndC.hnm(a:Ba×Int×Int×Int):BK (sndC.H0 a) (sndC.H0 a):=X3 _ _ (sndC.n_le a)
def sndC.ok:AA Tryz.prog 271 sndC.row:=by
 refine ow (tC wayC.ok tN) Tryz.func271 rfl (by kernel_rfl) (exB:=λ_=>false) (R:=λa r=>r=sndC.r0 a) (λ_=>rfl)
  (λa=>⟨sndC.hbel a,sndC.hbH a,sndC.hkH a,sndC.hnm a⟩) (λa p hp=> ?_) (λa r h=>by subst h;exact C8.refl _) ?_
 rotate_left
 intro a au;simp only[Tryz.f271,sndC.ca];simp(disch:=omega)only[ZA,simprocAttr];obtain⟨x,p,q,mo⟩:=a;obtain⟨hn,ak,ac,Z,ad,af,aq,a9,ba,aj,am⟩:=au;simp only at hn ak ac Z ad af aq a9 ba aj am;obtain⟨n,hnn⟩: ∃n,n=x.Room.length:=⟨_,rfl⟩;obtain⟨M,hM⟩: ∃M:Nat,mo=M:=⟨mo.toNat,by omega⟩;subst hM;have bd: ∀y:Int×Int×Int,sndC.n (x,y)=n:=λy=>by simp only[sndC.n,<-hnn];omega
 simp only[sndC.H1,sndC.r0,sndC.H0,bd,Bt,Cw,Bo];rw[<-hnn] at hn ak Z af aj;refine AR.old ⟨{s:Nat×Ba//s.1<=M/\JA s.2 n/\s.2.Room=x.Room/\(∃v,Qg (DH x) (Jh s.2) n p.toNat q.toNat v)/\F5 n p q M x=F5 n p q (M - s.1) s.2+s.1/\Qs n p q M x=Qs n p q (M - s.1) s.2},λs=>⟨[(9,.im (.int .i64 s.1.1)),(0,.ptr 0 0),(1,.im (.int .i64 p)),(2,.im (.int .i64 q)),(3,.im (.int .i64 M))],Cw s.1.2 n,300⟩,λs=>M - s.1.1,λs=>⟨?_,by simp⟩,⟨⟨(0,x),by simp only;omega,ak,rfl,aj,by simp,by simp⟩,?_⟩,λs=> ?_⟩
 .simp only[Cw];exact pX _ _ _ hn _ (by simp[An,AV.bel])
 .simp only[sub,FX,AD];refine⟨?_,?_⟩
  .simp(disch:=omega)only[ZA,simprocAttr]
  .exact M5 (UJ x n hn)
 obtain⟨⟨k,y⟩,i1,i2,i3,i4,i5,i6⟩:=s;simp only at i1 i2 i3 i4 i5 i6;simp only[Cw];simp(disch:=omega)only[ZA,simprocAttr,Bo];refine U6 (UJ y n hn) i2 (by omega) ac Z ad af (λU=> ?_);obtain⟨L,hL⟩: ∃L,L=Cm y n p q:=⟨_,rfl⟩;rw[<-hL];simp(disch:=omega)only[ZA,simprocAttr,Bo,AP];have ah:(F5 n p q (M - k) y=0)->(Qs n p q (M - k) y=y)->(((bif Sa 0 then True else True)/\(bif Sa 1 then True else True)/\(bif Sa 2 then True else True)/\H3 (hget (Cw y n)) Sa (B1 100 n x.Room++B1 200 n x.Flow))/\(k:Int)=F5 n p q M x/\ ∀kx,EK (hget (Cw y n)) (Bb (hget (Cw y n)) kx 9) (B1 200 n (Qs n p q M x).Flow)):=by
  intro e1 e2;have hI:=UJ y n hn;refine⟨⟨trivial,trivial,trivial,(Mn _ _ _ _).2 ⟨T3 hn (λi O=>by rw[hI.ga i O,i3]),T4 hn⟩⟩,by omega,λkx=> ?_⟩;rw[i6,e2];exact Qoq _ _ _ _ _ hI.gb
 have ax:(L.map Al).isEmpty=L.isEmpty:=by cases L<;>rfl
 rw[ax];refine⟨λc1=>⟨λc2=> ?_,λc2=> ?_⟩,λc1=> ?_⟩
 .obtain⟨g1,g2,g3⟩:=ah (by rw[show M - k=0 by omega];rfl) (by rw[show M - k=0 by omega];rfl);exact⟨g1,g2,g3 _⟩
 .have aa:L≠[]:=by intro h;rw[h] at c1;cases c1
  have hW:RS y n p q L:=by rw[hL];exact U8 ac Z ad af (by rw[<-hL];exact aa)
  have bh:=hW.pos;obtain⟨v,hv⟩:=i4;have an: ∀i,i<L.length-> ∃w:Nat,L[i]? =some (w:Int)/\w<n:=by
   intro i O
   have:=hW.inb _ (Q4 O)
   refine⟨(L[i]).toNat,by rw[Bh O];congr 1;omega,by omega⟩
  refine AR.old ⟨{j:Nat//j+1<=L.length},λj=>⟨[(11,.im (.int .i64 ((j.1:Int)+1))),(10,.im (.sl true 1 (L.map Al))),(9,.im (.int .i64 k)),(0,.ptr 0 0),(1,.im (.int .i64 p)),(2,.im (.int .i64 q)),(3,.im (.int .i64 M))],Cw (GK y L j.1) n,300⟩,λj=>L.length - j.1,λj=>⟨?_,by simp⟩,⟨⟨0,by omega⟩,?_⟩,λj=> ?_⟩
  .simp only[Cw];exact pX _ _ _ hn _ (by simp[An,AV.bel])
  .simp only[sub,FX,AD];refine⟨?_,?_⟩
   .simp(disch:=omega)only[ZA,simprocAttr]
   .exact M5 (UJ y n hn)
  obtain⟨j,hj⟩:=j;have G:=wA i2 hW.inb j (by omega);obtain⟨z,hz⟩: ∃z,z=GK y L j:=⟨_,rfl⟩;simp only[<-hz] at G⊢;simp only[Cw];have ej:((j:Int)+1).toNat=j+1:=by omega
  simp(disch:=omega)only[ZA,simprocAttr,Bo,sub,AP,Ih];intro bg;have ew:IntKind.i64.wrap ((j:Int)+1 - 1)=j:=by rw[AG (by omega) (by omega)];omega
  have av:IntKind.i64.wrap ((j:Int)+1+1)=(j:Int)+1+1:=AG (by omega) (by omega);simp only[ew,Bt];refine⟨λa0=> ?_,λa0=> ?_⟩
  .obtain⟨u,ab,hu⟩:=an j (by omega);obtain⟨w,ai,Q⟩:=an (j+1) (by omega);have be:u≠w:=by
    intro h
    have:=hW.nd j (j+1) (by omega) (by omega) (by simp only[Lf,ab,ai,h])
    omega
   have hr: ∀i,i<n->(z.Flow[i]?.getD []).length=n:=by
    intro i O;rw[Bh (by rw[G.f];exact O),AQ];exact G.ff _ (Q4 _)
   have bb:=hr u hu;have bc:=hr w Q;simp only[ab,AI,forall_eq'];simp(disch:=omega)only[ZA,simprocAttr,sub,Wb,Bo,Ih,Be,Kx,bN,ew,av,ej,ab,ai,forall_eq',bb,bc,Qxa,bE,rW,gO,pG];have hb: ∀a b,a<n->b<n-> -10000000000002<=Jh z a b/\Jh z a b<=10000000000002:=by
    intro a b ha hb;have h1:=Qso i2 hW.inb a b j (by omega);have h2:=wT (L:=Lf L) (m:=L.length - 1) (λi j O hj=>hW.nd i j (by omega) (by omega)) a b j (by omega);have h3:=wT (L:=Lf L) (m:=L.length - 1) (λi j O hj=>hW.nd i j (by omega) (by omega)) b a j (by omega);have h4:=nV (Lf L) a b j;have h5:=nV (Lf L) b a j;have h6:=hv.cap a b ha hb;have h7:=hv.cap b a hb ha;have h8:=hv.anti a b ha hb;have h9:=am a b;have bi:=am b a;rw[<-hz] at h1;simp only[Jh] at*;omega
   have ay:=hb u w hu Q;have az:=hb w u Q hu;refine⟨by omega,hu,hu,by omega,by omega,by omega,Q,by omega,Q,λx1 e1=>⟨Q,by omega,Q,λ_ _=>⟨.inr (by omega),by omega,by omega,Q,Q,by omega,by omega,hu,by omega,hu,λx3 e3=>⟨hu,by omega,hu,λ_ _=>⟨.inr (by omega),⟨j+1,by omega⟩,by simp only;omega,by simp only;omega,?_⟩⟩⟩⟩⟩;have r1:Jh z u w=x1:=by simp only[Jh,Gv,e1,AQ]
   have r3:Jh z w u=x3:=by simp only[Jh,Gv,e3,AQ]
   rw[r1] at ay;rw[r3] at az;rw[AG (by omega) (by omega),AG (by omega) (by omega)];have hN:GK y L (j+1)=MS z u w:=by simp only[GK,ab,ai,AQ,<-hz]
   have hR: ∀i,i<n->(GK y L (j+1)).Flow[i]?.getD []=if w=i then (z.Flow[w]?.getD []).set u (x3 - 1) else if u=i then (z.Flow[u]?.getD []).set w (x1+1) else z.Flow[i]?.getD []:=by
    intro i O;rw[hN];simp only[MS,K5,Bt];by_cases h1:w=i
    .subst h1;rw[Ao rfl,Da (by rw[Ew,G.f];exact Q),AQ,D4 be,e3,AQ];rfl
    .rw[Ag h1,D4 h1];by_cases h2:u=i
     .subst h2;rw[Ao rfl,Da (by rw[G.f];exact hu),AQ,e1,AQ]
     .rw[Ag h2,D4 h2]
   have hF:(GK y L (j+1)).Room=z.Room:=by rw[hN];rfl
   refine⟨λi O=> ?_,λi O=> ?_⟩
   .rw[Ag (by omega),Ag (by omega)];show _=some (true,Ad.arr _ 1 (List.map Al ((GK y L (j+1)).Room[i]?.getD [])));rw[hF];exact bH _ _ _ _ O
   .show _=some (true,Ad.arr _ 1 (List.map Al ((GK y L (j+1)).Flow[i]?.getD [])));rw[hR i O];by_cases h1:w=i
    .subst h1;rw[Ao rfl,Ao rfl]
    .rw[Ag (by omega),Ag h1];by_cases h2:u=i
     .subst h2;rw[Ao rfl,Ao rfl]
     .rw[Ag (by omega),Ag h2];exact bN _ _ _ _ (by omega) O
  .have a8:j=L.length - 1:=by omega
   subst a8;obtain⟨m,hm⟩: ∃m,M - k=m+1:=⟨M - k - 1,by omega⟩;have ao: ¬Cm y n p q=[]:=by rw[<-hL];exact aa
   have e5:F5 n p q (m+1) y=F5 n p q m z+1:=by simp only[F5];rw[Ag ao,<-hL,<-hz]
   have e6:Qs n p q (m+1) y=Qs n p q m z:=by simp only[Qs];rw[Ag ao,<-hL,<-hz]
   rw[hm] at i5 i6;have ag:=(Qun i2 ac Z aq ad (v:=v) (by rw[show DH y=DH x by funext a b;simp only[DH,i3]];exact hv) hW).2;have bf:z.Room=x.Room:=by rw[hz,Ql3,i3]
   rw[show DH y=DH x by funext a b;simp only[DH,i3],<-hz] at ag;refine⟨⟨(k+1,z),by simp only;omega,G,bf,⟨_,ag⟩,by simp only;rw[show M - (k+1)=m by omega];omega,by simp only;rw[show M - (k+1)=m by omega,i6,e6]⟩,by simp only;omega,?_⟩;refine⟨by rw[AG (by omega) (by omega)];simp only;omega,?_⟩;simp only[gO,pG];exact⟨(UJ z n hn).ga,(UJ z n hn).gb⟩
 .have aa:L=[]:=by
   cases L with
   |nil=>rfl
   |cons a r=>exact absurd rfl c1
  have Q:Cm y n p q=[]:=by rw[<-hL,aa]
  have z1: ∀m,F5 n p q m y=0:=by
   intro m;cases m with
   |zero=>rfl
   |succ m=>simp only[F5];rw[Ao Q]
  have z2: ∀m,Qs n p q m y=y:=by
   intro m;cases m with
   |zero=>rfl
   |succ m=>simp only[Qs];rw[Ao Q]
  obtain⟨g1,g2,g3⟩:=ah (z1 _) (z2 _);exact⟨g1,g2,g3 _⟩
 simp only[sndC.H1,B1,AT,Bm,B6] at hp;obtain⟨i,O,rfl⟩:=hp;have aw:=sndC.n_le a;refine .inl ⟨by omega,by simp only[Sa,AS,GU,El];omega,?_⟩;simp only[Am,sndC.H0];rw[(UJ a.1 (sndC.n a) aw).gb i O];rfl
def Qwi(h:Nat->Option Aq)(σ:Nat->Nat): ∀(a b:Ap),D3 h σ (a++b)↔D3 h σ a/\D3 h σ b
 |[],b=>by simp[D3]
 |(i,(z,e))::r,b=>by simp only[CX,D3,Qwi h σ r b,jJ]
def Qt1{h:Nat->Option Aq}{σ:Nat->Nat}{b n:Nat}{M:List (List Int)}(H: ∀i,i<n->h (σ (b+i))=some (true,.arr 2 1 ((M[i]?.getD []).map Al))):D3 h σ (B1 b n M):=by
 have: ∀(l:List Nat),(∀i∈l,i<n)->D3 h σ (l.map λi=>(b+i,(true,Ad.arr 2 1 ((M[i]?.getD []).map Al)))):=by
  intro l;induction l with
  |nil=>intro _;trivial
  |cons i r ih=>
   intro z;simp only[Bd,D3];exact⟨H i (z i (BM ..)),ih (λj O=>z j (BR _ O))⟩
 exact this _ (λi G=>B6.1 G)
def Qth{σ:Nat->Nat}{b n:Nat}{M:List (List Int)}(H: ∀i,i<n->σ (b+i)=b+i):AW σ (B1 b n M)=B1 b n M:=by
 have: ∀(l:List Nat),(∀i∈l,i<n)->AW σ (l.map λi=>(b+i,(true,Ad.arr 2 1 ((M[i]?.getD []).map Al))))=l.map λi=>(b+i,(true,Ad.arr 2 1 ((M[i]?.getD []).map Al))):=by
  intro l;induction l with
  |nil=>intro _;rfl
  |cons i r ih=>
   intro z;simp only[Bd,AW];rw[H i (z i (BM ..)),ih (λj O=>z j (BR _ O))];rfl
 exact this _ (λi G=>B6.1 G)
def vM{σ:Nat->Nat}{b n:Nat}(H: ∀i,i<n->σ (b+i)=b+i):(CW b n).map (AL σ)=CW b n:=by
 simp only[CW,Q3];refine Nx λi z=> ?_
 simp only[Function.comp,AL,AV.ren,H i (B6.1 z)]
def Qzq(σ:Nat->Nat): ∀(a b:Ap),AW σ (a++b)=AW σ a++AW σ b
 |[],b=>rfl
 |(i,(z,e))::r,b=>by simp only[CX,AW,Qzq σ r b]
def XH{σ:Nat->Nat}{x:Ba}{n:Nat}(hn:n<=64)(H: ∀j,j<300->σ j=j):AW σ (Cw x n)=Cw x n:=by
 simp only[Cw,AW,Qzq,Ad.ren,AL,AV.ren,H 0 (by omega),H 1 (by omega),H 2 (by omega),vM (b:=100) (n:=n) (λi z=>H (100+i) (by omega)),vM (b:=200) (n:=n) (λi z=>H (200+i) (by omega)),Qth (b:=100) (n:=n) (λi z=>H (100+i) (by omega)),Qth (b:=200) (n:=n) (λi z=>H (200+i) (by omega))]
def Kb{x:Ba}{n:Nat}(hn:n<=64){j:Nat}(h:Am (Cw x n) j=true):j<264/\(200<=j-> ∃i,i<n/\j=200+i)/\j∈[0,1,2]++((List.range n).map (100+ ·)++(List.range n).map (200+ ·)):=by
 have z:j∈[0,1,2]++((List.range n).map (100+ ·)++(List.range n).map (200+ ·)):=by
  have: ∀(H:Ap),Am H j=true->j∈ES H:=by
   intro H;induction H with
   |nil=>intro h;simp[Am,hget] at h
   |cons e r ih=>
    obtain⟨i,e⟩:=e;intro h;simp only[Am,hget] at h;simp only[ES,Bi];by_cases O:i=j
    .exact .inl O.symm
    .have:(i==j)=false:=by simpa using O
     rw[this] at h;exact .inr (ih h)
  have Z:=this _ h;simp only[Cw,ES,Qpf,B1,Y6] at Z;simpa using Z
 refine⟨?_,λG=> ?_,z⟩
 .have:=SC n hn j z
  rcases Br.1 z with z|z
  .simp at z;omega
  .rcases Br.1 z with z|z<;>obtain⟨i,Q,rfl⟩:=Bm.1 z<;>have:=B6.1 Q
   .show 100+i<264;omega
   .show 200+i<264;omega
 .rcases Br.1 z with z|z
  .simp at z;omega
  .rcases Br.1 z with z|z<;>obtain⟨i,Q,rfl⟩:=Bm.1 z<;>have:=B6.1 Q
   .have h3:200<=100+i:=G;omega
   .exact⟨i,this,rfl⟩
def Ol{kill:List Nat}{nx cnt b n:Nat}{M:List (List Int)}(H: ∀i,i<n->kill.contains (b+i)=true/\b+i<nx):G1 kill nx cnt (B1 b n M)=true:=by
 have: ∀(l:List Nat),(∀i∈l,i<n)->G1 kill nx cnt (l.map λi=>(b+i,(true,Ad.arr 2 1 ((M[i]?.getD []).map Al))))=true:=by
  intro l;induction l with
  |nil=>intro _;rfl
  |cons i r ih=>
   intro z;simp only[Bd,G1,Jy,AS,Hp,GU,El];exact⟨.inr (H i (z i (BM ..))),ih (λj O=>z j (BR _ O))⟩
 exact this _ (λi G=>B6.1 G)
def TR{H:Nat->Option Aq}{x:Ba}{nx:Nat}{K:Ai}{p q O:Int}(hH:SA H x x.Room.length)(Q:TP (x,p,q,O))(aa:300<=nx)
 (hK: ∀E:Bk,E.cnt=10->E.ok nx (.im (.int .i64 (F5 x.Room.length p q O.toNat x)))=true->K (.im (.int .i64 (F5 x.Room.length p q O.toNat x))) E):sndC.row [.ptr 0 0,.im (.int .i64 p),.im (.int .i64 q),.im (.int .i64 O)] H nx K:=by
 have hn:x.Room.length<=64:=Q.n;have G:sndC.n (x,p,q,O)=x.Room.length:=by simp only[sndC.n];omega
 have hσ: ∀j,j<300->BT (λj=>j) 300 nx j=j:=λj Z=>Ao Z
 refine⟨(x,p,q,O),λj=>j,[0,1,2]++((List.range x.Room.length).map (100+ ·)++(List.range x.Room.length).map (200+ ·)),(List.range x.Room.length).map (200+ ·),Q,?_,?_,?_,?_⟩
 .simp only[sndC.ca,AL,AV.ren,hσ 0 (by omega)]
 .simp only[sndC.H0,G,Cw,D3,Qwi,Ad.ren,AL,AV.ren,hσ 0 (by omega),hσ 1 (by omega),hσ 2 (by omega),vM (b:=100) (n:=x.Room.length) (λi z=>hσ (100+i) (by omega)),vM (b:=200) (n:=x.Room.length) (λi z=>hσ (200+i) (by omega))];exact⟨hH.g0,hH.g1,hH.g2,Qt1 (λi z=>by rw[hσ _ (by omega)];exact hH.ga i z),Qt1 (λi z=>by rw[hσ _ (by omega)];exact hH.gb i z)⟩
 .have hd: ∀j,Am (sndC.H0 (x,p,q,O)) j=true->Am (Cw x x.Room.length) j=true:=λj h=>by simpa only[sndC.H0,G] using h
  refine⟨λi j _ _ h=>h,λj Z=> ?_,λj Z=>(Kb hn (hd j Z)).2.2,λm hm=> ?_,λj Z hk=> ?_⟩
  .have:=(Kb hn (hd j Z)).1
   omega
  .obtain⟨i,z,rfl⟩:=Bm.1 hm
   have:=B6.1 z
   refine⟨200+i,?_,Zz i (by omega),rfl⟩;simp only[Am,sndC.H0,G];rw[(UJ x _ hn).gb i this];rfl
  .simp only[Sa,AS,GU,El] at hk;obtain⟨i,z,rfl⟩:=(Kb hn (hd j Z)).2.1 hk.1;exact Bm.2 ⟨i,B6.2 z,rfl⟩
 .have e:(sndC.r0 (x,p,q,O)).ren (BT (λj=>j) 300 nx)= .im (.int .i64 (F5 x.Room.length p q O.toNat x)):=by simp only[sndC.r0,G,AV.ren]
  rw[e];refine hK _ rfl ?_;simp only[Bk.ok,AV.bel,CP,sndC.H1,G];rw[Qth (λi z=>hσ _ (by omega)),AS];refine⟨Qk _ _ _ (λi=>rfl) _,Ol λi z=>⟨?_,by omega⟩⟩;rw[Gi];exact Bm.2 ⟨i,B6.2 z,rfl⟩
def Qu2(cnt:Nat): ∀(H:Ap),(∀p∈H,p.1<cnt)->G1 [] 0 cnt H=true
 |[],_=>rfl
 |(i,e)::r,h=>by
  have z:=h (i,e) (BM ..);simp only at z;simp only[G1,Jy,Qu2 cnt r (λp hp=>h p (BR _ hp)),ET,Hp,AS,GU,El];exact .inl ⟨by omega,by omega⟩
def SB{x:Ba}{n:Nat}(r:AV)(hn:n<=64)(z:r.bel 320=true){use:List Nat}:Bk.ok {use:=use,kill:=[],new:=Cw x n,cnt:=320} 0 r=true:=by
 simp only[Bk.ok,Fh,z,CP,AS];refine⟨?_,Qu2 _ _ λp hp=>by have:=JP _ (LO hn hp).1;omega⟩;simp only[Cw,Ac,oV,B1];rw[Qk _ _ _ (λi=>rfl),Qk _ _ _ (λi=>rfl),VO _ _ _ (by omega),VO _ _ _ (by omega)];rfl
def Qt8(n:Nat)(bs:List Af)(t:Int)(k:Nat)(h:Ql n bs t k=false): ∀m,Ql n bs t (k+m)=false
 |0=>h
 |m+1=>by rw[show k+(m+1)=k+m+1 by omega,Ql,Qt8 n bs t k h m,Ei]
def rC(n:Int)(bs:List Af)(t:Int):Bool:=Ql n.toNat bs t (n.toNat - 1)
def holds_.fv(a:Int×(List Af)×Int):Bool:=(rC) (a.1) (a.2.1) (a.2.2)
def holds_.row:A7:=vK (b3 qI (qS Af.d_le Af.c_n) qI) rB (λa=>LP (a.1,a.2.1)/\0<=a.2.2/\a.2.2<=1000000) holds_.fv
def holds_.q:=AU (R:=holds_.row) rfl
def holds_.ok:AA Tryz.prog 247 holds_.row:=by
 refine vw (tC nwC.ok (tC sndC.ok tN)) Tryz.func247 rfl (by kernel_rfl) ?_;intro a ac;simp only[Tryz.f247];simp(disch:=omega)only[ZA,simprocAttr,holds_.fv];obtain⟨hp,ad,af⟩:=ac;obtain⟨h0,h1,hl,z,G,O⟩:=hp;simp only at h0 h1 hl z G O;obtain⟨n,hn⟩: ∃n:Nat,a.1=n:=⟨a.1.toNat,by omega⟩;obtain⟨bs,hbsd⟩: ∃bs,bs=a.2.1:=⟨_,rfl⟩;obtain⟨t,ht⟩: ∃t,t=a.2.2:=⟨_,rfl⟩;simp only[hn,<-hbsd,<-ht,rC,Bt] at h0 h1 hl z G O ad af⊢;have Q:LP ((n:Int),bs):=⟨h0,h1,hl,z,G,O⟩;refine AR.old ⟨{k:Nat//(k=0\/k+1<=n)/\Ql n bs t k=true},λk=>⟨[(7,.im (.int .i64 ((k.1:Int)+1))),(0,.im (.int .i64 n)),(1,.im (.sl false 3 (bs.map Af.c))),(2,.im (.int .i64 t))],[],0⟩,λk=>n - k.1,λk=>⟨by simp[Aj.good,An,Ac,A9,AV.bel],by simp⟩,⟨⟨0,.inl rfl,rfl⟩,by simp(disch:=omega)only[ZA,simprocAttr,sub]⟩,λk=> ?_⟩;obtain⟨k,aa,ab⟩:=k;simp(disch:=omega)only[ZA,simprocAttr,AP];refine⟨λhk=> ?_,λhk=> ?_⟩
 .refine AF.os ((n:Int),bs) [] Q (λj=>by simp[Am,hget]) rfl rfl ?_ ?_
  .simp(disch:=omega)only[ZA,simprocAttr,nwC.ca]
  .have e1:AW (BT (HT []) 0 0) (nwC.H1 ((n:Int),bs))=Cw (D0 n bs) n:=by
    simp only[nwC.H1,Bt];rw[ZeS (by omega)];exact XH (by omega) (λj _=>by simp[BT])
   rw[e1];refine⟨SB _ (by omega) rfl,?_⟩;simp(disch:=omega)only[ZA,simprocAttr,Bo];have Z:(D0 n bs).Room.length=n:=(VW z bs.length).1.r;have hI:=UJ (D0 n bs) n (by omega);rw[show hget (Cw (D0 n bs) n)=hget (Cw (D0 n bs) n) from rfl];refine TR (x:=D0 n bs) (by rw[Z];exact hI) ?_ (by omega) (λE ai ag=> ?_)
   .refine⟨by simp only;omega,by simp only[Z];exact (VW z bs.length).1,by simp,by simp only[Z];omega,by simp only;omega,by simp only[Z];omega,by simp only;omega,ad,af,⟨0,by simp only[Z];exact kG z G _ _⟩,λu v=> ?_⟩
    have:=(xB z G u v bs.length).2
    simp only[D0];omega
   .refine⟨ag,?_⟩;rw[Z];obtain⟨sv,hsv⟩: ∃sv,sv=F5 n 0 ((k:Int)+1) t.toNat (D0 n bs):=⟨_,rfl⟩;rw[<-hsv];have hs:Ql n bs t (k+1)=(Ql n bs t k && decide (t<=sv)):=by rw[hsv];rfl
    rw[ab,CP] at hs;simp(disch:=omega)only[ZA,simprocAttr,Aj.app,sub,AP];refine⟨λah=> ?_,λah=>⟨⟨k+1,.inr (by omega),by rw[hs];exact Zh (by omega)⟩,by simp only;omega,by rw[AG (by omega) (by omega)];simp only;omega⟩⟩;have h9:=Qt8 n bs t (k+1) (by rw[hs];exact dN (by omega)) (n - 1 - (k+1));rw[show k+1+(n - 1 - (k+1))=n - 1 by omega] at h9;exact h9.symm
 .rcases aa with rfl|aa
  .rw[show n - 1=0 by omega];rfl
  .rw[show n - 1=k by omega];exact ab.symm
def J9(t:Int)(b:Af):Bool:=decide (b.Strength<t)
def CT1.fv(a:Af×Int):Bool:=(λb t=>J9 t b) (a.1) (a.2)
def CT1.row:A7:=CN (b2 (qR Af.d_le) (qP 1 DU)) rB (λa=>True) CT1.fv
def CT1.q:=DO (R:=CT1.row) rfl
def CT1.ok:AA Tryz.prog 268 CT1.row:=by
 refine FZ tN Tryz.func268 rfl (by kernel_rfl) ?_;intro a z;simp only[Tryz.f268];simp(disch:=omega)only[ZA,simprocAttr,CT1.fv,D.sc,D.scs,Bv];rfl
def IdxB.ar:List PK->Option ((List Af)×Int)
 |[.val (.sl _ _ G),.val (.fn 268 [] [.ref [.int .i64 z]])]=>(AO Af.d G).bind λO=>some (O,z)
 |_=>none
def IdxB.ae(a:(List Af)×Int):List PK:=[.val (.sl false 3 (a.1.map Af.c)),.val (.fn 268 [] [.ref [.int .i64 a.2]])]
def IdxB.le: ∀z a,IdxB.ar z=some a->BA z (IdxB.ae a):=by
 intro z a h;unfold IdxB.ar at h;split at h
 .simp only[Eg,AI] at h;obtain⟨G,h0,rfl⟩:=h;exact⟨DV (DP Af.d_le _ _ h0) (by simp only[Bm];rintro r ⟨y,_,rfl⟩;rfl),Qq ⟨Le.refl _,trivial⟩,trivial⟩
 .cases h
def IdxB.fv(a:(List Af)×Int):Int:=(λl t=>Bn (J9 t) 0 l) (a.1) (a.2)
def IdxB.row:A7:=K2 IdxB.ar (λa=>True) (λa=>(D.int .i64) (IdxB.fv a))
def IdxB.q:=uH IdxB.row rfl
def IdxB.ok:AA Tryz.prog 285 IdxB.row:=by
 refine nR C9 (tC CT1.ok tN) Tryz.func285 rfl (by kernel_rfl) (by kernel_rfl) (ar:=IdxB.ar) (ae:=IdxB.ae) IdxB.le (n:=2) (λ_=>rfl) (by decide) (rc:=(Dj)) (re:=(D.int .i64)) (Kt) (f:=IdxB.fv) ?_;intro a O;simp only[Tryz.f285];simp(disch:=omega)only[ZA,simprocAttr,IdxB.ae,IdxB.fv];intro hn;refine AR.old ⟨{k:Nat//k<=a.1.length/\Bn (J9 a.2) k (a.1.drop k)=Bn (J9 a.2) 0 a.1},λk=>⟨[(8,.im (.int .i64 k.1)),(7,.im (.int .i64 a.1.length)),(6,.im (.sl false 3 (a.1.map Af.c))),(4,.im (.int .i64 0)),(0,.im (.sl false 3 (a.1.map Af.c))),(1,.im (.fn 268 [] [.ref [.int .i64 a.2]]))],[],0⟩,λk=>a.1.length - k.1,λk=>⟨by simp[Aj.good,An,Ac,A9,AV.bel],AN _⟩,⟨⟨0,by simp⟩,by simp(disch:=omega)only[ZA,simprocAttr,sub]⟩,λk=> ?_⟩;obtain⟨k,Q,z⟩:=k;simp(disch:=omega)only[ZA,simprocAttr,CB,CT1.q,CT1.fv,D.sc,D.scs,Bv,sub,AP];refine⟨λG=>⟨G,λx Z=> ?_⟩,λG=> ?_⟩
 .rw[Eu Z,Bn] at z;refine⟨λh=> ?_,λh=>F2 G hn ⟨by omega,by rw[<-z,Ag (by simpa using h)]⟩⟩;rw[Ao (by simpa using h)] at z;exact z
 .rw[CZ (by omega),Bn] at z;exact z
def Qu3{t:Int}{l:List Af}{i:Nat}{b:Af}(Q:l.find? (J9 t)=some b)(Z:Bn (J9 t) 0 l=(i:Int))(h3:l[i]? =some b):Gg t (l.take (i+1))=l.take i:=by
 have hw:J9 t b=true:=Wx Q;have G: ∀(l:List Af) (o i:Nat),Bn (J9 t) o l=((o+i:Nat):Int)-> ∀x∈l.take i,J9 t x=false:=by
  intro l;induction l with
  |nil=>intro o i _ x z;simp at z
  |cons y r ih=>
   intro o i h x z;cases i with
   |zero=>simp at z
   |succ i=>
    simp only[Bn] at h;split at h
    .omega
    .rename_i hy;rw[P9] at z;rcases Bi.1 z with rfl|z
     .simpa using hy
     .exact ih (o+1) i (by rw[h];congr 1;omega) x z
 rw[GO,h3,cY,Gg,yQ];have O:(l.take i).filter (λb=>decide (t<=b.Strength))=l.take i:=by
  rw[Ze];intro x z
  have:=G l 0 i (by rw[Z];simp) x z
  simp only[J9,KC] at this;simp only[Ch];omega
 simp only[J9,Ch] at hw;rw[O,rK (by simp;omega),ZeN,DA]
def dlC.ca(a:List Af×Int):List AV:=[.own 0,.im (.fn 268 [] [.ref [.int .i64 a.2]])]
def dlC.H0(a:List Af×Int):Ap:=[(0,(true,.arr 318 3 (a.1.map Af.c)))]
def dlC.H1(a:List Af×Int):Ap:=[(1,(true,.arr 318 3 ((Gg a.2 a.1).map Af.c)))]
def dlC.row:A7:=AF dlC.ca dlC.H0 1 (λa=>a.1.length<=1000000) (λj=>j==0) (λ_=> .own 1) dlC.H1 1000
def dlC.ok:AA Tryz.prog 266 dlC.row:=by
 refine SR (tC IdxB.ok (tC CT1.ok tN)) Tryz.func266 rfl (by kernel_rfl) (exB:=λj=>j==1) (R:=λ_ r=>r= .own 1) (λ_=>rfl)
  (λa=>by simp[dlC.ca,dlC.H0,Av,AV.bel,Ac,A9,BK,Ad.nms,Am,hget]) (λa p hp=> ?_) (λa r h=>by subst h;exact C8.refl _) ?_
 rotate_left
 intro a Q;simp only[Tryz.f266,dlC.ca,dlC.H0,dlC.H1];simp(disch:=omega)only[ZA,simprocAttr,CB,IdxB.q,IdxB.ar,IdxB.fv,F3];rcases Px (J9 a.2) a.1 0 with ⟨Z,O⟩|⟨i0,b0,Z,O,e3⟩
 .rw[O,Ao rfl];refine⟨[],[(1,some 0)],⟨[(4,.own 1)],[(1,(true,.arr 318 3 (a.1.map Af.c)))],2⟩,?_,by simp[Aj.good,An,Ac,A9,AV.bel],by simp,?_⟩
  .simp only[A8];simp(disch:=omega)only[ZA,simprocAttr]
  .simp(disch:=omega)only[ZA,simprocAttr]
   have:Gg a.2 a.1=a.1:=by
    rw[Gg,Ze];intro b hb
    have:=YY.1 Z b hb
    simp only[J9,Ch] at this⊢;omega
   rw[this]
 .rw[Fh] at O;rw[O,Ag (by omega)];have aa:=(Cd.1 e3).1;rw[AG (by omega) (by omega)];obtain⟨l,hl⟩: ∃l,l=a.1:=⟨_,rfl⟩;obtain⟨t,ht⟩: ∃t,t=a.2:=⟨_,rfl⟩;simp only[<-hl,<-ht] at Z O e3 aa Q⊢;refine AR.old ⟨{j:Nat//j<=l.length},λj=>⟨[(6,.im (.int .i64 j.1)),(5,.im (.int .i64 (Gg t (l.take j.1)).length)),(0,.own 0),(1,.im (.fn 268 [] [.ref [.int .i64 t]]))],[(0,(true,.arr 318 3 ((Gg t (l.take j.1)++l.drop (Gg t (l.take j.1)).length).map Af.c)))],2⟩,λj=>l.length - j.1,λj=>⟨by simp[Aj.good,An,Ac,A9,AV.bel],by simp⟩,⟨⟨i0+1,by omega⟩,?_⟩,λj=> ?_⟩
  .have h1:=Qu3 Z O e3;simp(disch:=omega)only[ZA,simprocAttr,sub,h1,Ci];rw[show min i0 l.length=i0 by omega,KA];exact⟨⟨by omega,rfl⟩,rfl⟩
  obtain⟨j,hj⟩:=j;obtain⟨kp,hkp⟩: ∃kp,kp=Gg t (l.take j):=⟨_,rfl⟩;have ac:kp.length<=j:=by
   have:=Qln t (l.take j)
   rw[Ci] at this;rw[hkp];omega
  have af:(kp++l.drop kp.length).length=l.length:=by simp;omega
  simp only[<-hkp];simp(disch:=omega)only[ZA,simprocAttr,CB,CT1.q,CT1.fv,sub,AP,af];intro _;refine⟨λG=>⟨G,G,λb hb=> ?_⟩,λG=> ?_⟩
  .have ad:l[j]? =some b:=by
    rw[Fo ac,HN,show kp.length+(j - kp.length)=j by omega] at hb;exact hb
   have z:=Qjs t ad;rw[<-hkp] at z;refine⟨λhw=>⟨by omega,by omega,λc _=>⟨⟨j+1,by omega⟩,by simp only;omega,?_⟩⟩,λhw=>⟨⟨j+1,by omega⟩,by simp only;omega,?_⟩⟩
   .have hs:t<=b.Strength:=by
     simp only[J9,KC] at hw;omega
    rw[Ao hs] at z;simp only[z,Dn,CY,G5];refine⟨⟨by rw[AG (by omega) (by omega)];omega,by rw[AG (by omega) (by omega)];omega⟩,?_⟩;have h1:(kp++l.drop kp.length).set kp.length b=kp++[b]++l.drop (kp.length+1):=by
     obtain⟨c,hc⟩: ∃c,l[kp.length]? =some c:=⟨_,Bh (by omega)⟩;rw[Eu hc,iV _ _ (AN _),GS,Za,HP];rfl
    rw[<-h1,JG];rfl
   .have hs: ¬t<=b.Strength:=by
     rw[HO] at hw;simp only[J9,Ch] at hw;omega
    rw[Ag hs,DA] at z;simp only[z];exact⟨⟨by rw[AG (by omega) (by omega)];omega,trivial⟩,trivial⟩
  .refine⟨by omega,false,?_⟩;have ab:j=l.length:=by omega
   subst ab;rw[HJ] at hkp;simp(disch:=omega)only[ZA,simprocAttr];have hA:List.take kp.length ((kp++l.drop kp.length).map Af.c)=kp.map Af.c:=by
    rw[<-Zff,zF]
   rw[hA];refine⟨by simp only[Dn,FM];omega,true,?_⟩;simp(disch:=omega)only[ZA,simprocAttr,F3];refine⟨[],[(1,some 2)],⟨[(4,.own 1)],[(1,(true,.arr 318 3 (kp.map Af.c)))],2⟩,?_,by simp[Aj.good,An,Ac,A9,AV.bel],by simp,?_⟩
   .simp only[A8];simp(disch:=omega)only[ZA,simprocAttr];rw[show ((kp.length:Int) - 0).toNat=(kp.map Af.c).length by simp,HP,zF]
   .simp(disch:=omega)only[ZA,simprocAttr,hkp]
 simp[dlC.H1] at hp;subst hp;exact .inr ⟨by omega,by omega,rfl,rfl⟩
def L8(b i:Nat)(x:Int):AV:=if 0<=x/\x<i then .ptr (b+x.toNat) 0 else .im .nilp
def GV(b:Nat)(L:List Int)(i:Nat):Aq:=(true,.cells 369 [L8 b i (L[i]?.getD (-1)),.im (.int .i64 i)])
def En(b:Nat)(L:List Int)(n:Nat):Ap:=AT b n (GV b L)
def FR(L:List Int):Prop:= ∀(i:Nat) (x:Int),L[i]? =some x->x<i
def Nr(L:List Int)(i:Nat):Nat->Nat
 |0=>i
 |m+1=>if L[i]?.getD (-1)<0 then i else Nr L (L[i]?.getD (-1)).toNat m
def Ef(L:List Int)(i:Nat):Nat:=Nr L i i
def Qabj{L:List Int}(h:FR L): ∀(i m m':Nat),i<=m->i<=m'->Nr L i m=Nr L i m':=by
 intro i;induction i using Nat.strongRecOn with
 |_ i ih=>
  intro m m' z G;cases hi:L[i]? with
  |none=>
   cases m<;>cases m'<;>simp[Nr,hi]
  |some x=>
   have O:=h i x hi;by_cases h0:x<0
   .cases m<;>cases m'<;>simp[Nr,hi,h0]
   .cases m with
    |zero=>omega
    |succ m=>
     cases m' with
     |zero=>omega
     |succ m'=>
      simp only[Nr,hi,AQ,Ag h0];exact ih x.toNat (by omega) m m' (by omega) (by omega)
def Y4{L:List Int}(h:FR L){i:Nat}{x:Int}(z:L[i]? =some x):Ef L i=if x<0 then i else Ef L x.toNat:=by
 have G:=h i x z;by_cases h0:x<0
 .rw[Ao h0,Ef];cases i with
  |zero=>rfl
  |succ i=>simp only[Nr,z,AQ,Ao h0]
 .rw[Ag h0,Ef];cases i with
  |zero=>omega
  |succ i=>
   simp only[Nr,z,AQ,Ag h0];exact Qabj h _ _ _ (by omega) (AN _)
def wL{L:List Int}(h:FR L): ∀(i:Nat),Ef L i<=i:=by
 intro i;induction i using Nat.strongRecOn with
 |_ i ih=>
  cases hi:L[i]? with
  |none=>rw[Ef];cases i<;>simp[Nr,hi]
  |some x=>
   rw[Y4 h hi];have z:=h i x hi;split
   .exact AN _
   .have:=ih x.toNat (by omega);omega
def firC.n(a:List Int×Nat):Nat:=min a.1.length 512
def firC.ca(a:List Int×Nat):List AV:=[.ptr (min a.2 511) 0]
def firC.H0(a:List Int×Nat):Ap:=En 0 a.1 (firC.n a)
def firC.r0(a:List Int×Nat):AV:= .ptr (Ef a.1 a.2) 0
def firC.pre(a:List Int×Nat):Prop:=a.1.length<=512/\a.2<a.1.length/\FR a.1
def firC.row:A7:=AF firC.ca firC.H0 600 firC.pre (λ_=>false) firC.r0 (λ_=>[]) 0
def firC.hbel(a:List Int×Nat):Av 600 (firC.ca a)=true:=by
 simp only[firC.ca,Av,AV.bel,ET,El];omega
def Qt5(nx b:Nat)(f:Nat->Aq)(n:Nat)(hf: ∀i,i<n->Ac nx [(b+i,f i)]=true):Ac nx (AT b n f)=true:=by
 have: ∀(l:List Nat),(∀i∈l,i<n)->Ac nx (l.map λi=>(b+i,f i))=true:=by
  intro l;induction l with
  |nil=>intro _;rfl
  |cons i r ih=>
   intro z;rw[Bd,show (b+i,f i)::(r.map λi=>(b+i,f i))=[(b+i,f i)]++(r.map λi=>(b+i,f i)) from rfl,oV,hf i (z i (BM ..)),ih (λj O=>z j (BR _ O))];rfl
 exact this _ (λi G=>B6.1 G)
def Xp(b i N:Nat)(x:Int)(h:b+i<=N):(L8 b i x).bel N=true:=by
 simp only[L8];split
 .simp only[AV.bel,El];omega
 .rfl
def pM(b n N:Nat)(L:List Int)(h:b+n<=N):Ac N (En b L n)=true:=Qt5 _ _ _ _ λi z=>by
 simp only[GV,Ac,Av,Xp b i N _ (by omega),AV.bel,Zi]
def firC.n_le(a:List Int×Nat):firC.n a<=512:=dL _ _
def firC.hbH(a:List Int×Nat):Ac 600 (firC.H0 a)=true:=pM _ _ _ _ (by have:=firC.n_le a;omega)
def firC.hkH(a:List Int×Nat):A9 600 (firC.H0 a)=true:=Qa _ _ _ _ (by have:=firC.n_le a;omega)
def J4(b n:Nat)(L:List Int)(i:Nat)(h:i<n):hget (En b L n) (b+i)=some (GV b L i):=Hh _ _ _ _ h
def lK{H0:Ap}{b n:Nat}{f:Nat->Aq}(h: ∀i,i<n-> ∀m∈(f i).2.nms,Am H0 m=true):BK H0 (AT b n f):=by
 have: ∀(l:List Nat),(∀i∈l,i<n)->BK H0 (l.map λi=>(b+i,f i)):=by
  intro l;induction l with
  |nil=>intro _;trivial
  |cons i r ih=>
   intro z;simp only[Bd];exact⟨h i (z i (BM ..)),ih (λj O=>z j (BR _ O))⟩
 exact this _ (λi G=>B6.1 G)
def firC.hnm(a:List Int×Nat):BK (firC.H0 a) (firC.H0 a):=by
 refine lK λi G m z=> ?_
 simp only[GV,Ad.nms,AC,L8] at z;split at z
 .simp only[AV.nms,DA,BE] at z;subst z;rename_i h;simp only[Am,firC.H0];rw[J4 0 _ _ _ (by omega)];rfl
 .simp[AV.nms] at z
def OZ(s:Aj)(b n:Nat)(f:Nat->Aq):BU s (AT b n f)= ∀i,i<n->hget s.h (b+i)=some (f i):=by
 have: ∀(l:List Nat),BU s (l.map λi=>(b+i,f i))↔ ∀i∈l,hget s.h (b+i)=some (f i):=by
  intro l;induction l with
  |nil=>simp[BU]
  |cons i r ih=>simp only[Bd,BU,ih,Bi,yT]
 apply propext;rw[AT,this];simp only[B6]
def pQ{s:Aj}{b n:Nat}{L:List Int}(h: ∀i,i<n->hget s.h (b+i)=some (GV b L i)):BU s (En b L n):=by
 rw[En,OZ];exact h
def firC.ok:AA Tryz.prog 284 firC.row:=by
 refine ow tN Tryz.func284 rfl (by kernel_rfl) (exB:=λ_=>false) (R:=λa r=>r=firC.r0 a) (λ_=>rfl)
  (λa=>⟨firC.hbel a,firC.hbH a,firC.hkH a,firC.hnm a⟩) (λa p hp=> ?_) (λa r h=>by subst h;exact C8.refl _) ?_
 rotate_left
 intro a Z;simp only[Tryz.f284,firC.ca];simp(disch:=omega)only[ZA,simprocAttr];obtain⟨L,i⟩:=a;obtain⟨h1,h2,h3⟩:=Z;simp only at h1 h2 h3;obtain⟨n,hn⟩: ∃n,n=L.length:=⟨_,rfl⟩;have ab:firC.n (L,i)=n:=by simp only[firC.n,<-hn];omega
 simp only[firC.H0,firC.r0,ab,Bo];rw[<-hn] at h1 h2;rw[show min i 511=i by omega];refine AR.old ⟨{g:Nat//g<n/\Ef L g=Ef L i},λg=>⟨[(0,.ptr g.1 0)],En 0 L n,600⟩,λg=>g.1,λg=>⟨?_,by simp⟩,⟨⟨i,h2,rfl⟩,?_⟩,λg=> ?_⟩
 .simp only[Aj.good,An,AV.bel,ET,AS,El];exact⟨by omega,pM _ _ _ _ (by omega),Qa _ _ _ _ (by omega)⟩
 .simp only[sub,FX,AD];refine⟨?_,pQ (λi Q=>J4 0 n L i Q)⟩;simp(disch:=omega)only[ZA,simprocAttr]
 obtain⟨g,hg,hr⟩:=g;obtain⟨x,hx⟩: ∃x,L[g]? =some x:=⟨_,Bh (by omega)⟩;have ac:=h3 g x hx;have z:=J4 0 n L g hg;rw[Fh] at z;simp only[GV,hx,AQ] at z;have aa:=Y4 h3 hx;by_cases h0:x<0
 .have G:L8 0 g x= .im .nilp:=Ag (by omega);rw[G] at z;simp(disch:=omega)only[ZA,simprocAttr,z,Bo];rw[Ao h0] at aa;exact⟨by omega,by omega,by omega,by omega,by omega,Qxi _ _ _ _ _ (λi Q=> .inr (J4 0 n L i Q)),by omega⟩
 .have G:L8 0 g x= .ptr x.toNat 0:=by simp only[L8];rw[Ao ⟨by omega,ac⟩,Fh]
  rw[G] at z;have O:=J4 0 n L x.toNat (by omega);rw[Fh] at O;simp(disch:=omega)only[ZA,simprocAttr,sub,z,O,Bo];rw[Ag h0] at aa;exact⟨by omega,by omega,by omega,by omega,by omega,by omega,by omega,by omega,by omega,⟨x.toNat,by omega,by omega⟩,by simp only;omega,rfl,pQ (λi Q=>J4 0 n L i Q)⟩
 simp at hp
def J6(b n k:Nat):List (List AV):=(List.range n).map λi=>if i<k then [AV.ptr (b+i) 0] else [.im .nilp]
def Y1(b n k:Nat):(J6 b n k).length=n:=by simp[J6]
def vJ(b n k i:Nat)(h:i<n):(J6 b n k)[i]? =some (if i<k then [.ptr (b+i) 0] else [.im .nilp]):=by simp[J6,HK h]
def xT(b n k i:Nat)(K:List AV->Prop)(h:i<n):IX (J6 b n k) i K=K (if i<k then [.ptr (b+i) 0] else [.im .nilp]):=by
 apply propext;unfold IX;rw[vJ b n k i h];exact⟨λh=>h _ rfl,λh row z=>by obtain rfl:=AE z;exact h⟩
def vW(b n k N:Nat)(h:b+k<=N):(J6 b n k).all (Av N)=true:=by
 rw[Dp];intro r z;obtain⟨i,G,rfl⟩:=Bm.1 z;split
 .simp[Av,AV.bel];omega
 .simp[Av,AV.bel]
def Qnw(b n N:Nat)(L:List Int)(h:b+n<=N):A9 N (En b L n)=true:=Qa _ _ _ _ h
def OC(b n:Nat)(π:List (Nat×Option Nat)):Gk π (J6 b n 0) (Bl (List.replicate n [.nilp])):=by
 have e:J6 b n 0=Bl (List.replicate n [.nilp]):=by
  simp only[J6,Bl,jI,Cy,List.map_replicate];rw[List.map_const',Zc];rfl
 rw[e];exact yK _ _
def Xq{σ:Nat->Nat}{i:Nat}{x:Int}(h: ∀j,j<i->σ j=1000+j):(L8 0 i x).ren σ=L8 1000 i x:=by
 simp only[L8];split
 .simp only[AV.ren,Fh];rw[h _ (by omega)]
 .rfl
def Vu{h:Nat->Option Aq}{σ:Nat->Nat}{b n:Nat}{f:Nat->Aq}(H: ∀i,i<n->h (σ (b+i))=some ((f i).1,(f i).2.ren σ)):D3 h σ (AT b n f):=by
 have: ∀(l:List Nat),(∀i∈l,i<n)->D3 h σ (l.map λi=>(b+i,f i)):=by
  intro l;induction l with
  |nil=>intro _;trivial
  |cons i r ih=>
   intro z;simp only[Bd];exact⟨H i (z i (BM ..)),ih (λj O=>z j (BR _ O))⟩
 exact this _ (λi G=>B6.1 G)
def Xb{n:Nat}{L:List Int}{j:Nat}(h:Am (En 0 L n) j=true):j<n:=by
 simp only[Am,En,iI] at h;split at h
 .omega
 .cases h
def Qtp{H:Nat->Option Aq}{L:List Int}{k nx u:Nat}{K:Ai}(Q:L.length=k)(hk:k<=512)(G:FR L)(hu:u<k)(aa:2000<=nx)(hH: ∀i,i<k->H (1000+i)=some (GV 1000 L i))
 (O: ∀U,K (.ptr (1000+Ef L u) 0) {use:=U}):firC.row [.ptr (1000+u) 0] H nx K:=by
 have hσ: ∀j,j<600->BT (λj=>1000+j) 600 nx j=1000+j:=λj z=>Ao z
 have hn:firC.n (L,u)=k:=by simp only[firC.n,Q];omega
 have hr:=wL G u;refine⟨(L,u),λj=>1000+j,(List.range k).map (1000+ ·),[],⟨by simp only;omega,by simp only;omega,G⟩,?_,?_,?_,?_⟩
 .simp only[firC.ca,AL,AV.ren];rw[show min u 511=u by omega,hσ u (by omega)]
 .simp only[firC.H0,hn,En];refine Vu λi Z=> ?_
  rw[Fh,hσ i (by omega),hH i Z];simp only[GV,Ad.ren,AL,AV.ren];rw[Xq (λj z=>hσ j (by omega))]
 .have hd: ∀j,Am (firC.H0 (L,u)) j=true->j<k:=λj z=>by simp only[firC.H0,hn] at z;exact Xb z
  refine⟨λi j _ _ h=> ?_,λj z=> ?_,λj z=> ?_,λm hm=>(by cases hm),λj _ z=>(by cases z)⟩
  .have h:1000+i=1000+j:=h;omega
  .have:=hd j z
   show 1000+j<nx;omega
  exact Bm.2 ⟨j,B6.2 (hd j z),rfl⟩
 .have e:(firC.r0 (L,u)).ren (BT (λj=>1000+j) 600 nx)= .ptr (1000+Ef L u) 0:=by
   simp only[firC.r0,AV.ren];rw[hσ _ (by omega)]
  rw[e];exact O _
def Qug(k:Nat):FR (List.replicate k (-1)):=by
 intro i x h
 have:=N1 (AY h)
 omega
def vL: ∀(k i:Nat),i<k->(Wq k)[i]? =some (i:Int)
 |0,i,h=>by omega
 |k+1,i,h=>by
  simp only[Wq];by_cases z:i<k
  .rw[E7 (by rw[bO];exact z)];exact vL k i z
  .have:i=k:=by omega
   subst this;rw[Fo (by rw[bO];exact AN _),bO,GS];rfl
def Oz{k i:Nat}{bs:List Af}(h:i<k):(BX k bs 0)[i]? =some ((Ef (List.replicate k (-1)) i:Nat):Int):=by
 simp only[BX];rw[vL k i h]
 have:=Y4 (Qug k) (i:=i) (x:= -1) (by rw[KB,Ao h])
 rw[this,Ao (by omega)]
def Qls{L:List Int}(h:FR L): ∀(i:Nat),Ef L (Ef L i)=Ef L i:=by
 intro i;induction i using Nat.strongRecOn with
 |_ i ih=>
  cases hi:L[i]? with
  |none=>
   have:Ef L i=i:=by rw[Ef];cases i<;>simp[Nr,hi]
   rw[this,this]
  |some x=>
   have z:=h i x hi;rw[Y4 h hi];split
   .rename_i h0;rw[Y4 h hi,Ao h0]
   .exact ih x.toNat (by omega)
def Qsx{L:List Int}(h:FR L){p q:Nat}(O:p<q):FR (L.set q (p:Int)):=by
 intro i x z;by_cases hq:q=i
 .subst hq;have G:q<L.length:=by have:=(Cd.1 z).1;simpa using this
  rw[Da G] at z;obtain rfl:=AE z;omega
 .rw[D4 hq] at z;exact h i x z
def Qqx{L:List Int}(h:FR L){p q:Nat}(hp:Ef L p=p)(hq:Ef L q=q)(G:p<q)(O:q<L.length): ∀(i:Nat),Ef (L.set q (p:Int)) i=if Ef L i=q then p else Ef L i:=by
 have h':=Qsx h G;intro i;induction i using Nat.strongRecOn with
 |_ i ih=>
  by_cases z:q=i
  .subst z;have e:(L.set q (p:Int))[q]? =some (p:Int):=Da O;rw[Y4 h' e,Ag (by omega),Bt,ih p G,hp,Ag (by omega),hq,Ao rfl]
  .have e:(L.set q (p:Int))[i]? =L[i]? :=D4 z;cases hi:L[i]? with
   |none=>
    have Q:Ef L i=i:=by rw[Ef];cases i<;>simp[Nr,hi]
    have r2:Ef (L.set q (p:Int)) i=i:=by rw[Ef];cases i<;>simp[Nr,e,hi]
    rw[Q,r2,Ag (E9 z)]
   |some x=>
    have Z:=h i x hi;rw[hi] at e;rw[Y4 h' e,Y4 h hi];by_cases h0:x<0
    .rw[Ao h0,Ao h0,Ag (E9 z)]
    .rw[Ag h0,Ag h0];exact ih x.toNat (by omega)
def L4{x y:Nat}(h:x<y)(r:Nat):IY (x:Int) (y:Int) (r:Int)=((if r=y then x else r:Nat):Int)/\IY (y:Int) (x:Int) (r:Int)=((if r=y then x else r:Nat):Int):=by
 have m1:Ec (x:Int) y=y:=Ag (by omega);have G:Ec (y:Int) x=y:=Ao (by omega);have O:EC (x:Int) y=x:=Ao (by omega);have Q:EC (y:Int) x=x:=Ag (by omega);simp only[IY,m1,G,O,Q];by_cases z:r=y
 .rw[Ao z,Ao (by omega)];exact⟨rfl,rfl⟩
 .rw[Ag z,Ag (by omega)];exact⟨rfl,rfl⟩
def Xm(x r:Nat):IY (x:Int) (x:Int) (r:Int)=(r:Int):=by
 have m1:Ec (x:Int) x=x:=Ag (by omega);have G:EC (x:Int) x=x:=Ag (by omega);simp only[IY,m1,G];by_cases z:(r:Int)=x
 .rw[Ao z,z]
 .rw[Ag z]
def Va(p:Int×Int):D×D:=(.int .i64 p.1,.int .i64 p.2)
def HS(M:List (Int×Int))(x:Int):Option Int:=(M.find? (λp=>p.1==x)).map (·.2)
def Sh(x:Int): ∀(M:List (Int×Int)),lk (M.map Va) (.int .i64 x)=(HS M x).map (D.int .i64)
 |[]=>rfl
 |(k,v)::r=>by
  have ih:=Sh x r;simp only[HS] at ih;by_cases h:k=x
  .subst h;simp[lk,Va,HS,D.beq]
  .have z: ¬x=k:=λe=>h e.symm
   have G:(x==k)=false:=by simpa using z
   simp[lk,Va,HS,D.beq,h,G,ih]
def Xr(x:Int)(M:List (Int×Int))(Ks:D->Prop)(Kn:Prop):FD (M.map Va) (.int .i64 x) Ks Kn=((∀v,HS M x=some v->Ks (.int .i64 v))/\(HS M x=none->Kn)):=by
 apply propext;unfold FD;rw[Sh];cases HS M x<;>simp
def MF(x v:Int): ∀(M:List (Int×Int)),HS M x=none->FY (M.map Va) (.int .i64 x) (.int .i64 v)=(M++[(x,v)]).map Va
 |[],_=>rfl
 |(k,w)::r,h=>by
  by_cases z:k=x
  .subst z;simp[HS] at h
  .have G: ¬x=k:=λe=>z e.symm
   have Q:HS r x=none:=by simpa[HS,z] using h
   have ih:=MF x v r Q;simp only[Bd,CX,Va] at ih⊢;have O:(x==k)=false:=by simpa using G
   simp[FY,D.beq,O,ih,Va]
def LC(M:List (Int×Int))(x v y:Int):HS (M++[(x,v)]) y=(HS M y).or (if x=y then some v else none):=by
 simp only[HS,List.find?_append];cases h:M.find? (λp=>p.1==y) with
 |some p=>simp
 |none=>
  by_cases z:x=y
  .subst z;simp
  .simp[z]
def vV{own:List Int}{i:Nat}(h:own[i]? =some (i:Int)): ∀k,∃z,CQ own i (k+1)=(i:Int)::z
 |0=>⟨[],by simp[CQ,h]⟩
 |k+1=>by
  obtain⟨z,G⟩:=vV h k;rw[CQ,G];exact⟨_,rfl⟩
def Qjv(own:List Int)(n:Nat): ∀k,k<=n-> ∀g∈B4 own n k,∃(r:Nat) (rest:List Int),g=(r:Int)::rest/\r<k/\own[r]? =some (r:Int)
 |0,_,g,h=>by simp[B4] at h
 |k+1,hk,g,h=>by
  simp only[B4,Br] at h;rcases h with h|h
  .obtain⟨r,rest,O,Z,Q⟩:=Qjv own n k (by omega) g h;exact⟨r,rest,O,by omega,Q⟩
  .split at h
   .rename_i z;obtain rfl:=BE.1 h;obtain⟨rest,G⟩:=vV z (n - k - 1);rw[show n - k - 1+1=n - k by omega] at G;exact⟨k,rest,G,by omega,z⟩
   .cases h
def Qo6(own:List Int)(n:Nat)(r:Nat)(O:own[r]? =some (r:Int)): ∀k,k<=n->r<k-> ∃z,((r:Int)::z)∈B4 own n k
 |0,_,h=>by omega
 |k+1,Z,h=>by
  by_cases G:r=k
  .subst G;obtain⟨z,G⟩:=vV O (n - r - 1);rw[show n - r - 1+1=n - r by omega] at G;exact⟨z,by simp[B4,O,G]⟩
  .obtain⟨z,Q⟩:=Qo6 own n r O k (by omega) (by omega);exact⟨z,by simp only[B4,Br];exact .inl Q⟩
def Qy0(own:List Int)(n:Nat): ∀k,∀g∈B4 own n k,g.length<=n
 |0,g,h=>by simp[B4] at h
 |k+1,g,h=>by
  simp only[B4,Br] at h;rcases h with h|h
  .exact Qy0 own n k g h
  .split at h
   .obtain rfl:=BE.1 h
    have:=Qsd own k (n - k)
    omega
   .cases h
def NL{h:Nat->Option Aq}{b m:Nat}{G:List (List Int)}(H: ∀q,q<G.length->h (b+q)=some (true,.arr 2 1 ((G[q]?.getD []).map Al))):
 Ax (Ax λx=>DW (Bb h (Hx 0 []) (m+1) x)) (CW b G.length)=some (G.map C4):=by
 have: ∀(l:List Nat),(∀q∈l,q<G.length)->Ax (Ax λx=>DW (Bb h (Hx 0 []) (m+1) x)) (l.map λi=>[AV.own (b+i)])=some (l.map λq=>C4 (G[q]?.getD [])):=by
  intro l;induction l with
  |nil=>intro _;rfl
  |cons q r ih=>
   intro Q;have h0:Hx 0 [] (b+q)=none:=rfl;have O:=ih (λx Z=>Q x (BR _ Z));have e:Ax (λx=>DW (Bb h (Hx 0 []) (m+1) x)) [AV.own (b+q)]=some (C4 (G[q]?.getD [])):=by
    simp only[Ax,Bb,h0,H q (Q q (BM ..)),Pz,kp,Ds,DW,AV.asD];rfl
   rw[Bd,Ax,e,O];rfl
 rw[CW,this _ (λq hq=>B6.1 hq)];congr 1;apply JE;intro j;by_cases z:j<G.length
 .rw[D9,HK z,D9,Bh z,Ds,Ds,Bh z,AQ]
 .rw[F7 (by simp;omega),F7 (by simp;omega)]
def I5(r:Int)(m:Nat)(g:List Int):List Int:=if g.head? =some r then g++[(m:Int)] else g
def Ql4(own:List Int)(m:Nat)(r:Int)(Q:own[m]? =some r): ∀k,k<=m->B4 own (m+1) k=(B4 own m k).map (I5 r m)
 |0,_=>rfl
 |k+1,hk=>by
  rw[B4,B4,F9,Ql4 own m r Q k (by omega)];congr 1;by_cases G:own[k]? =some (k:Int)
  .rw[Ao G,Ao G];obtain⟨Z,O⟩:=vV G (m - k - 1);rw[show m - k - 1+1=m - k by omega] at O;have e:CQ own k (m+1 - k)=CQ own k (m - k)++(if own[m]? =some (k:Int) then [(m:Int)] else []):=by
    rw[show m+1 - k=(m - k)+1 by omega,CQ,show k+(m - k)=m by omega]
   rw[e,Q];simp only[Bd,GR,I5,O,ZeP,AI];by_cases z:r=(k:Int)
   .rw[Ao z,Ao z.symm]
   .rw[Ag z,Ag (E9 z),DA]
  .rw[Ag G,Ag G];rfl
structure qA(out:List (List Int))(M:List (Int×Int)):Prop where
 a: ∀r v,HS M r=some v-> ∃(g:Nat) (rest:List Int),v=g/\out[g]? =some (r::rest)
 b: ∀(g:Nat) (r:Int) (rest:List Int),out[g]? =some (r::rest)->HS M r=some (g:Int)
def RG{own:List Int}{i:Nat}{M:List (Int×Int)}{r:Nat}(hP:qA (B4 own i i) M)(ho:own[i]? =some (r:Int))(hr:r<=i)(ab:own[r]? =some (r:Int))(hn:HS M r=none):
 r=i/\B4 own (i+1) (i+1)=B4 own i i++[[(i:Int)]]/\qA (B4 own (i+1) (i+1)) (M++[((i:Int),((B4 own i i).length:Int))]):=by
 have aa:r=i:=by
  by_cases h:r<i
  .obtain⟨z,hm⟩:=Qo6 own i r ab i (by omega) h;obtain⟨g,G⟩:=P7.1 hm;rw[hP.b g _ _ G] at hn;cases hn
  .omega
 subst aa;have e:B4 own (r+1) (r+1)=B4 own r r++[[(r:Int)]]:=by
  rw[B4,Ql4 own r r ho r (AN _),Ao ho];congr 1
  .conv=>rhs;rw[<-List.map_id (B4 own r r)]
   apply Nx;intro g G;obtain⟨q,z,Q,Z,_⟩:=Qjv own r r (AN _) g G;simp only[I5,Q,ZeP,AI,id];rw[Ag (by omega)]
  .rw[show r+1 - r=0+1 by omega];simp[CQ,ho]
 refine⟨rfl,e,?_⟩;rw[e];refine⟨λq v O=> ?_,λg q z G=> ?_⟩
 .rw[LC] at O;cases hq:HS M q with
  |some w=>
   rw[hq] at O;obtain rfl:=AE O;obtain⟨g,z,Q,Z⟩:=hP.a q _ hq;exact⟨g,z,Q,by rw[E7 (Cd.1 Z).1];exact Z⟩
  |none=>
   rw[hq] at O;simp only[Option.none_or] at O;split at O
   .rename_i h;obtain rfl:=AE O;exact⟨_,[],rfl,by rw[Fo (AN _),GS,<-h];rfl⟩
   .cases O
 .rw[LC];by_cases hl:g<(B4 own r r).length
  .rw[E7 hl] at G;rw[hP.b g q z G];rfl
  .rw[Fo (by omega)] at G;have h0:g - (B4 own r r).length=0:=by
    have:=(Cd.1 G).1
    simpa using this
   rw[h0] at G;simp only[GL,AI,dM] at G;rw[<-G.1,hn,Ao rfl,Option.none_or];congr 1;omega
def RH{own:List Int}{i:Nat}{M:List (Int×Int)}{r:Int}{g:Nat}{rest:List Int}(hP:qA (B4 own i i) M)(ho:own[i]? =some r)(Q:(B4 own i i)[g]? =some (r::rest)):
 B4 own (i+1) (i+1)=(B4 own i i).set g (r::rest++[(i:Int)])/\qA (B4 own (i+1) (i+1)) M:=by
 have ab:r≠i:=by
  obtain⟨q,rs,Z,G,_⟩:=Qjv own i i (AN _) _ (AY Q)
  have:=(Zfd Z).1
  omega
 have e:B4 own (i+1) (i+1)=(B4 own i i).set g (r::rest++[(i:Int)]):=by
  rw[B4,Ql4 own i r ho i (AN _),Ag (by rw[ho];simpa using ab),DA];apply JE;intro j;rw[D9];by_cases O:g=j
  .subst O;rw[Da (Cd.1 Q).1,Q];simp[I5]
  .rw[D4 O];cases hx:(B4 own i i)[j]? with
   |none=>rfl
   |some x=>
    simp only[Ds,I5];rw[Ag];intro hh;cases x with
    |nil=>cases hh
    |cons q rs=>
     simp only[ZeP,AI] at hh;subst hh;have Z:=hP.b j _ _ hx;have G:=hP.b g _ _ Q;rw[Z] at G
     have:=AE G
     omega
 refine⟨e,?_⟩;rw[e];have aa:=(Cd.1 Q).1;refine⟨λq v hv=> ?_,λg' q rs z=> ?_⟩
 .obtain⟨j,rs,Z,G⟩:=hP.a q v hv;by_cases O:g=j
  .subst O;rw[Q] at G;simp only[AI,dM] at G;exact⟨g,rest++[(i:Int)],Z,by rw[Da aa,G.1];rfl⟩
  .exact⟨j,rs,Z,by rw[D4 O];exact G⟩
 .by_cases O:g=g'
  .subst O;rw[Da aa] at z;simp only[AI,CX,dM] at z;rw[<-z.1];exact hP.b g _ _ Q
  .rw[D4 O] at z;exact hP.b g' _ _ z
def EB(b:Nat)(G:List (List Int)):Ap:=AT b G.length (λi=>(true,.arr 2 1 ((G[i]?.getD []).map Al)))
def RC(b N:Nat)(G:List (List Int))(h:b+G.length<=N):Ac N (EB b G)=true:=Qt5 _ _ _ _ λi z=>by simp[Ac]
def RD(b N:Nat)(G:List (List Int))(h:b+G.length<=N):A9 N (EB b G)=true:=Qa _ _ _ _ h
def tF{π:List (Nat×Option Nat)}{b n k:Nat}(h: ∀i,i<k->pm π (b+i)=some (b+i)):Gk π (J6 b n k) (J6 b n k):=by
 rw[cF];refine⟨rfl,λi x y z Q=> ?_⟩;rw[z] at Q;obtain rfl:=AE Q;have G:i<n:=by have:=(Cd.1 z).1;rwa [Y1] at this
 rw[vJ _ _ _ _ G] at z;obtain rfl:=AE z;split
 .rename_i O;simp only[Dz,mt,h i O,Gz,GQ]
 .simp only[Dz,mt,GQ]
def Ot(A:List Nat)(b n c m:Nat)(h:A.Nodup)(Z: ∀x∈A,(x<b\/b+n<=x)/\(x<c\/c+m<=x))(aa:b+n<=c):(A++((List.range n).map (b+ ·)++(List.range m).map (c+ ·))).Nodup:=by
 have Q: ∀b n,((List.range n).map (b+ ·)).Nodup:=λb n=>by have:=bI [] b n (by simp) (by simp);simpa using this
 rw[US];refine⟨h,?_,λx O y z=> ?_⟩
 .rw[US];refine⟨Q _ _,Q _ _,λx O y z=> ?_⟩;obtain⟨i,hi,rfl⟩:=Bm.1 O;obtain⟨j,G,rfl⟩:=Bm.1 z
  have:=B6.1 hi
  omega
 .have:=Z x O
  rcases Br.1 z with z|z
  .obtain⟨j,G,rfl⟩:=Bm.1 z
   have:=B6.1 G
   omega
  .obtain⟨j,G,rfl⟩:=Bm.1 z
   have:=B6.1 G
   omega
def Qyb(b:Nat)(G:List (List Int))(g:Nat)(h:g<G.length):hget (EB b G) (b+g)=some (true,.arr 2 1 ((G[g]?.getD []).map Al)):=Hh _ _ _ _ h
def Xc(b k:Nat)(L:List Int)(m:Nat)(h:m<b\/b+k<=m):hget (En b L k) m=none:=Qmh _ _ _ _ h
def wF(k:Nat)(L:List Int)(G:List (List Int))(i:Nat)(h:i<k):hget (En 1000 L k++EB 3000 G) (1000+i)=some (GV 1000 L i):=by
 rw[P2,J4 _ _ _ _ h];rfl
def wH(k:Nat)(L:List Int)(G:List (List Int))(g:Nat)(z:k<=512)(h:g<G.length):hget (En 1000 L k++EB 3000 G) (3000+g)=some (true,.arr 2 1 ((G[g]?.getD []).map Al)):=by
 rw[P2,Xc _ _ _ _ (by omega),Qyb _ _ _ h];rfl
def RZ(k:Nat)(L:List Int)(G:List (List Int)):ES (En 1000 L k++EB 3000 G)=(List.range k).map (1000+ ·)++(List.range G.length).map (3000+ ·):=by
 rw[Qpf,En,EB,Y6,Y6]
def gI(k:Nat)(L:List Int)(i:Nat)(M:List (Int×Int))(G:List (List Int)):Aj:=⟨[(81,.im (.int .i64 i)),(80,.im (.int .i64 k)),(79,.own 2),(12,.mp 2001),(11,.own 2100)],(2001,(true,.map {agg:=false,ks:=[KK.int .i64]} (M.map Va)))::(2100,(true,.arrA 32 1 (CW 3000 G.length)))::(2,(true,.arrA 367 1 (J6 1000 k k)))::(En 1000 L k++EB 3000 G),4000⟩
def WZ{k:Nat}{L:List Int}{i:Nat}{M:List (Int×Int)}{G:List (List Int)}(O:k<=512)(z:G.length<=512):(gI k L i M G).good=true:=by
 simp only[gI,Aj.good,Ac,A9,oV,Qmd,pM 1000 k 4000 _ (by omega),vW 1000 k k 4000 (by omega),Qnw 1000 k 4000 _ (by omega),VO 3000 G.length 4000 (by omega),RC 3000 4000 G (by omega),RD 3000 4000 G (by omega)];simp[An,AV.bel]
def Qxg{π:List (Nat×Option Nat)}{s:Aj}{k:Nat}{L:List Int}{i:Nat}{M:List (Int×Int)}{G:List (List Int)}{O:Nat}{T:Nat->Nat}(hk:k<=512)(hG:G.length<=512)
 (ac:UW 2002 π)(p1:pm π 2001=some 2001)(p2:pm π 2=some 2)(p3: ∀j,j<k->pm π (1000+j)=some (1000+j))(p4:pm π 2100=some O)(p5: ∀q,q<G.length->pm π (3000+q)=some (T q))
 (t1:AD s.tm 81= .im (.int .i64 i))(t2:AD s.tm 80= .im (.int .i64 k))(t3:AD s.tm 79= .own 2)(t4:AD s.tm 12= .mp 2001)(t5:AD s.tm 11= .own O)
 (g1:hget s.h 2001=some (true,.map {agg:=false,ks:=[KK.int .i64]} (M.map Va)))(g2:hget s.h 2=some (true,.arrA 367 1 (J6 1000 k k)))(g3: ∀j,j<k->hget s.h (1000+j)=some (GV 1000 L j))
 (g4:(G.length=0/\hget s.h O=some (true,.arr 32 1 []))\/hget s.h O=some (true,.arrA 32 1 ((List.range G.length).map λq=>[.own (T q)])))
 (g5: ∀q,q<G.length->hget s.h (T q)=some (true,.arr 2 1 ((G[q]?.getD []).map Al)))
 (inj: ∀q q',q<G.length->q'<G.length->T q=T q'->q=q')(out: ∀q,q<G.length->T q≠O/\3000<=T q)(hO:2000<=O/\O≠2001):A8 2002 π s (gI k L i M G):=by
 refine⟨ac,?_,?_,?_⟩
 .rw[cA];simp only[gI,ES,RZ];have ab: ∀x∈[2001,2100,2]++((List.range k).map (1000+ ·)++(List.range G.length).map (3000+ ·)),(x=2001/\pm π x=some 2001)\/(x=2/\pm π x=some 2)\/(x=2100/\pm π x=some O)\/(1000<=x/\x<1000+k/\pm π x=some x)\/(3000<=x/\x<3000+G.length/\pm π x=some (T (x - 3000))):=by
   intro x z;rcases Br.1 z with z|z
   .simp only[Bi,jF,dP] at z;rcases z with rfl|rfl|rfl
    .exact .inl ⟨rfl,p1⟩
    .exact .inr (.inr (.inl ⟨rfl,p4⟩))
    .exact .inr (.inl ⟨rfl,p2⟩)
   .rcases Br.1 z with z|z
    .obtain⟨j,Q,rfl⟩:=Bm.1 z;have Q:=B6.1 Q;exact .inr (.inr (.inr (.inl ⟨by show 1000<=1000+j;omega,by show 1000+j<1000+k;omega,p3 j Q⟩)))
    .obtain⟨j,Q,rfl⟩:=Bm.1 z;have Q:=B6.1 Q;exact .inr (.inr (.inr (.inr ⟨by show 3000<=3000+j;omega,by show 3000+j<3000+G.length;omega,by show pm π (3000+j)=some (T (3000+j - 3000));rw[show 3000+j - 3000=j by omega];exact p5 j Q⟩)))
  refine cE _ _ (Ot [2001,2100,2] 1000 k 3000 G.length (by simp) (by simp;omega) (by omega)) ?_;intro x z y hy m Z aa;rcases ab x z with ⟨a1,a2⟩|⟨a1,a2⟩|⟨a1,a2⟩|⟨a0,a1,a2⟩|⟨a0,a1,a2⟩<;>rcases ab y hy with ⟨b1,b2⟩|⟨b1,b2⟩|⟨b1,b2⟩|⟨b0,b1,b2⟩|⟨b0,b1,b2⟩<;>
   rw[a2] at Z<;>rw[b2] at aa<;>have Z:=AE Z<;>have aa:=AE aa<;>first
   |omega
   |(have:=out (x - 3000) (by omega);omega)
   |(have:=out (y - 3000) (by omega);omega)
   |(have:=inj (x - 3000) (y - 3000) (by omega) (by omega) (Z.trans aa.symm);omega)
 .simp only[gI,P4,t1,t2,t3,t4,t5,mt,p2,p1,p4,Fy,Gz,GQ]
 .simp only[gI,G0,Qns,p1,p2,p4,Ea,g1,g2];refine⟨⟨rfl,rfl⟩,?_,⟨rfl,rfl,rfl,tF p3⟩,?_,?_⟩
  .rcases g4 with ⟨h0,h1⟩|h1
   .rw[h1,h0];exact⟨rfl,rfl,rfl,trivial⟩
   .rw[h1];exact⟨rfl,rfl,rfl,Qyn p5 rfl⟩
  .rw[En,bS];intro j Q;rw[p3 j Q,Ea,g3 j Q];refine⟨rfl,?_⟩;simp only[GV,Ez,Dz,mt,GQ,and_true,rX];simp only[L8];split
   .simp only[mt,p3 _ (show (L[j]?.getD (-1)).toNat<k by omega),Gz]
   .rfl
  .rw[EB,bS];intro q hq;rw[p5 q hq,Ea,g5 q hq];exact⟨rfl,rfl⟩
def RF(a:Int×List Af):Prop:=0<=a.1/\a.1<=512/\K0 a.1 a.2/\a.2.length<=1000000
def groupsBy_.fv(a:Int×(List Af)):List (List Int):=(UF) (a.1) (a.2)
def groupsBy_.row:A7:=vK (b2 qI (qS Af.d_le Af.c_n)) (rS cB Mt) (λa=>RF (a.1,a.2)) groupsBy_.fv
def groupsBy_.q:=AU (R:=groupsBy_.row) rfl
def groupsBy_.ok:AA Tryz.prog 265 groupsBy_.row:=by
 refine vw (tC firC.ok tN) Tryz.func265 rfl (by kernel_rfl) ?_;intro a a8;simp only[Tryz.f265];simp(disch:=omega)only[ZA,simprocAttr,groupsBy_.fv];obtain⟨h0,h1,aw,hl⟩:=a8;obtain⟨n,hn⟩: ∃n:Nat,a.1=n:=⟨a.1.toNat,by simp only at h0;omega⟩;obtain⟨bs,hbsd⟩: ∃bs,bs=a.2:=⟨_,rfl⟩;simp only[hn,<-hbsd,Bt] at h0 h1 aw hl⊢;refine⟨h0,PB _,by omega,λ_=> ?_⟩;rw[Nw];refine AR.ren ⟨{k:Nat//k<=n},λk=>⟨[(21,.im (.int .i64 k.1)),(20,.im (.int .i64 n)),(19,.own 2),(5,.own 2),(0,.im (.int .i64 n)),(1,.im (.sl false 3 (bs.map Af.c)))],(2,(true,.arrA 367 1 (J6 1000 n k.1)))::En 1000 (List.replicate n (-1)) k.1,2000⟩,λk=>n - k.1,λk=>⟨?_,by simp⟩,⟨⟨0,by simp⟩,[(2,some 1)],?_⟩,λk=> ?_⟩
 .simp only[Aj.good,Ac,A9,pM 1000 k.1 2000 _ (by omega),vW 1000 n k.1 2000 (by omega),Qnw 1000 k.1 2000 _ (by omega)];simp[An,AV.bel]
 .simp only[A8,En,AT,ZeQ,GR];simp(disch:=omega)only[ZA,simprocAttr];exact OC _ _ _
 obtain⟨k,bd⟩:=k;simp(disch:=omega)only[ZA,simprocAttr,AP,Bo,Y1];refine⟨λhk=>⟨hk,hk,?_⟩,λhk=> ?_⟩
 .simp(disch:=omega)only[ZA,simprocAttr,Bo,xT,Zfh];refine⟨?_,⟨k+1,by omega⟩,[(1000+k,some 2000)],by simp only;omega,?_⟩
  .rw[Dp];intro r hr;rcases Ww hr with hr|hr
   .exact Dp.1 (vW 1000 n k 2001 (by omega)) r hr
   .subst hr;simp[Av,AV.bel]
  have qi: ∀i,i≠1000+k->pm [(1000+k,some 2000)] i=some i:=by intro i z;simp only[pm];rw[Ag (by omega)]
  have qk:pm [(1000+k,some 2000)] (1000+k)=some 2000:=by simp only[pm];rw[Ao trivial]
  obtain⟨π,hπ⟩: ∃π,π=[(1000+k,some 2000)]:=⟨_,rfl⟩;rw[<-hπ] at qi qk⊢;refine⟨by rw[hπ];exact⟨by omega,trivial⟩,?_,?_,?_⟩
  .rw[cA,hπ];simp only[ES,En,Y6];refine cE _ _ (bI [2] 1000 (k+1) (by simp) (by simp)) ?_;intro x hx y hy m aq ag;have bj:x<2000:=by
    rcases Bi.1 hx with hx|hx
    .omega
    .obtain⟨i,z,rfl⟩:=Bm.1 hx
     have:=B6.1 z
     show 1000+i<2000;omega
   have bl:y<2000:=by
    rcases Bi.1 hy with hy|hy
    .omega
    .obtain⟨i,z,rfl⟩:=Bm.1 hy
     have:=B6.1 z
     show 1000+i<2000;omega
   simp only[pm] at aq ag;split at aq<;>split at ag<;>simp only[AI] at aq ag<;>omega
  .simp only[P4,AD];simp(disch:=omega)only[ZA,simprocAttr,qi 2 (by omega)];rw[AG (by omega) (by omega)];omega
  .simp only[G0,En,bS];refine⟨?_,λi z=> ?_⟩
   .simp(disch:=omega)only[ZA,simprocAttr,qi 2 (by omega)];rw[cF];refine⟨by simp[Y1],λi x y hx hy=> ?_⟩;have ax:i<n:=by have:=(Cd.1 hx).1;rwa [Y1] at this
    rw[vJ _ _ _ _ ax] at hx;obtain rfl:=AE hx;by_cases ad:k=i
    .subst ad;rw[Da (by rw[Y1];exact hk)] at hy;obtain rfl:=AE hy;rw[Ao (by omega)];simp only[Dz,mt,qk,Gz,GQ]
    .rw[D4 ad,vJ _ _ _ _ ax] at hy;obtain rfl:=AE hy;by_cases az:i<k
     .rw[Ao (by omega),Ao az];simp only[Dz,mt,qi (1000+i) (by omega),Gz,GQ]
     .rw[Ag (by omega),Ag az];simp only[Dz,mt,GQ]
   .have hg: ∀i,i<n->(List.replicate n (-1:Int))[i]?.getD (-1)= -1:=by
     intro i z;rw[KB,Ao z,AQ]
    have ay:L8 1000 i (-1)= .im .nilp:=by simp only[L8];rw[Ag (by omega)]
    simp only[GV,hg i (by omega),ay];by_cases ad:i=k
    .subst ad;rw[qk];simp(disch:=omega)only[ZA,simprocAttr]
    .rw[qi (1000+i) (by omega)];have h9:=J4 1000 k (List.replicate n (-1)) i (by omega);simp only[GV,hg i (by omega),ay,En] at h9;simp (disch:=omega) only[Ea,hget,Be,B8,VQ,cX,cZ,Qz,CE,Cy];rw[h9];simp only[JL,Ez,Dz,mt,GQ]
 .intro _;have be:k=n:=by omega
  subst be;clear hk bd;refine AR.old ⟨{s:Nat×List Int//s.1<=bs.length/\s.2.length=k/\FR s.2/\ ∀i,i<k->(BX k bs s.1)[i]? =some ((Ef s.2 i:Nat):Int)},λs=>⟨[(33,.im (.int .i64 s.1.1)),(32,.im (.int .i64 bs.length)),(31,.im (.sl false 3 (bs.map Af.c))),(5,.own 2),(0,.im (.int .i64 k))],(2,(true,.arrA 367 1 (J6 1000 k k)))::En 1000 s.1.2 k,2000⟩,λs=>bs.length - s.1.1,λs=>⟨?_,by simp⟩,⟨⟨(0,List.replicate k (-1)),by simp only;omega,by simp,Qug k,λi z=>Oz z⟩,?_⟩,λs=> ?_⟩
  .simp only[Aj.good,Ac,A9,pM 1000 k 2000 _ (by omega),vW 1000 k k 2000 (by omega),Qnw 1000 k 2000 _ (by omega)];simp[An,AV.bel]
  .simp only[sub,FX,AD];refine⟨?_,?_⟩
   .simp(disch:=omega)only[ZA,simprocAttr]
   .simp only[BU];refine⟨rfl,pQ λi z=> ?_⟩;simp only[hget,Be _ _ (show 2≠1000+i by omega),B8];exact J4 _ _ _ _ z
  obtain⟨⟨j,L⟩,i1,i2,i3,i4⟩:=s;simp only at i1 i2 i3 i4;simp(disch:=omega)only[ZA,simprocAttr,AP,Bo,Y1];refine⟨λhj=>⟨hj,λb hb=> ?_⟩,λhj=> ?_⟩
  .obtain⟨b1,b2,b3,b4⟩:=aw b (AY hb);obtain⟨u,hu⟩: ∃u:Nat,b.A=u:=⟨b.A.toNat,by omega⟩;obtain⟨w,hw⟩: ∃w:Nat,b.B=w:=⟨b.B.toNat,by omega⟩;have ak:u<k:=by omega
   have ah:w<k:=by omega
   have bh:=wL i3 u;have bi:=wL i3 w;simp only[hu,hw,Bt];refine⟨by omega,by omega,ak,?_⟩;simp(disch:=omega)only[ZA,simprocAttr,Bo,xT,Ao ak,rW];have hH: ∀(e Z:Aq) (i:Nat),i<k->hget ((2000,e)::(2,Z)::Bg (En 1000 L k) [2000]) (1000+i)=some (GV 1000 L i):=by
    intro e Z i z;have h9:=J4 1000 k L i z;simp (disch:=omega) only[hget,Be,B8,VQ,cX,cZ,Qz,CE,Cy,h9]
   refine⟨by omega,Qtp (nx:=2001) i2 (by omega) i3 ak (by decide) (hH _ _) (λU=> ?_)⟩;simp(disch:=omega)only[ZA,simprocAttr,Bo,Y1,xT,Ao ah,rW];refine⟨by omega,ah,ah,by omega,Ao (.inl (by omega)),Qtp (nx:=2001) i2 (by omega) i3 ah (by decide) (hH _ _) (λU2=> ?_)⟩;obtain⟨x,hx⟩: ∃x,x=Ef L u:=⟨_,rfl⟩;obtain⟨y,hy⟩: ∃y,y=Ef L w:=⟨_,rfl⟩;rw[<-hx] at bh⊢;rw[<-hy] at bi⊢;have gx:=J4 1000 k L x (by omega);have gy:=J4 1000 k L y (by omega);simp only[GV] at gx gy;simp(disch:=omega)only[ZA,simprocAttr,sub,AP,Bo,Wb,Be,Kx,gx,gy,Zk (show 1000+x<2001 by omega),Zk (show 1000+y<2001 by omega)];have ba:Ef L x=x:=by rw[hx];exact Qls i3 u
   have bb:Ef L y=y:=by rw[hy];exact Qls i3 w
   have ou:=i4 u ak;have ow:=i4 w ah;rw[<-hx] at ou;rw[<-hy] at ow;have hS:BX k bs (j+1)=(BX k bs j).map (IY (x:Int) (y:Int)):=by
    simp only[BX,hb,pO,hu,hw,Bt,ou,ow,AQ]
   have ac: ∀(p q:Nat),p<q->q<k-> ∀(i:Nat),i<k->GV 1000 (L.set q (p:Int)) i=if i=q then (true,.cells 369 [.ptr (1000+p) 0,.im (.int .i64 q)]) else GV 1000 L i:=by
    intro p q a0 hq i z;simp only[GV];by_cases h:i=q
    .subst h;rw[Ao rfl,Da (by omega),AQ];simp only[L8];rw[Ao ⟨by omega,by omega⟩,Bt]
    .rw[Ag h,D4 (E9 h)]
   have af: ∀(p q:Nat),p<q->q<k-> ∀(e Z:Aq) (tm:List (Nat×AV)),BU ⟨tm,(1000+q,(true,.cells 369 [.ptr (1000+p) 0,.im (.int .i64 q)]))::(2000,e)::(2,Z)::Bg (Bg (En 1000 L k) [2000]) [1000+q],2001⟩ (En 1000 (L.set q (p:Int)) k):=by
    intro p q a0 hq e Z tm;refine pQ λi z=> ?_
    rw[ac p q a0 hq i z];by_cases h:i=q
    .subst h;simp only[hget,rO,Ca,BI]
    .rw[Ag h];have h9:=J4 1000 k L i z;simp (disch:=omega) only[hget,Be,B8,Kx,h9]
   refine⟨λai=>⟨⟨(j+1,L.set y (x:Int)),by simp only;omega,by simp only[Ew];exact i2,Qsx i3 ai,λi z=> ?_⟩,by simp only;omega,by rw[AG (by omega) (by omega)];simp only;omega,af x y ai (by omega) _ _ _⟩,λai=>⟨λaj=>⟨⟨(j+1,L.set x (y:Int)),by simp only;omega,by simp only[Ew];exact i2,Qsx i3 aj,λi z=> ?_⟩,by simp only;omega,by rw[AG (by omega) (by omega)];simp only;omega,af y x aj (by omega) _ _ _⟩,λaj=>⟨⟨(j+1,L),by simp only;omega,i2,i3,λi z=> ?_⟩,by simp only;omega,by rw[AG (by omega) (by omega)];simp only;omega,?_⟩⟩⟩
   .rw[hS,D9,i4 i z,Ds,Qqx i3 ba bb ai (by omega) i,(L4 ai _).1]
   .rw[hS,D9,i4 i z,Ds,Qqx i3 bb ba aj (by omega) i,(L4 aj _).2]
   .rw[hS,D9,i4 i z,Ds,show y=x by omega,Xm]
   .refine pQ λi z=> ?_
    have h9:=J4 1000 k L i z;simp (disch:=omega) only[hget,Be,B8,Kx,h9]
  .have bc:j=bs.length:=by omega
   subst bc;obtain⟨own,hown⟩: ∃own,own=BX k bs bs.length:=⟨_,rfl⟩;rw[<-hown] at i4;intro _;refine AR.ren ⟨{s:Nat×List (Int×Int)//s.1<=k/\qA (B4 own s.1 s.1) s.2},λs=>gI k L s.1.1 s.1.2 (B4 own s.1.1 s.1.1),λs=>k - s.1.1,λs=>⟨?_,by simp[gI]⟩,⟨⟨(0,[]),by simp only;omega,?_⟩,[(2100,some 2000)],?_⟩,λs=> ?_⟩
   .have ab:=oL own s.1.1 s.1.1;have hs:=s.2.1;exact WZ (by omega) (by omega)
   .exact⟨λr v h=>(by cases h),λg r am h=>(by simp[B4] at h)⟩
   .refine Qxg (O:=2000) (T:=λq=>3000+q) (by omega) (by simp[B4]) ⟨by omega,trivial⟩ rfl rfl (λj hj=> ?_) rfl (λq hq=>(by simp[B4] at hq)) rfl rfl rfl rfl rfl rfl rfl (λj hj=> ?_) (.inl ⟨rfl,rfl⟩) (λq hq=>(by simp[B4] at hq)) (λq q' hq=>(by simp[B4] at hq)) (λq hq=>(by simp[B4] at hq)) (by omega)
    .simp only[pm];rw[Ag (by omega)]
    .have h9:=J4 1000 k L j hj;simp (disch:=omega) only[hget,Be,B8,h9]
   obtain⟨⟨i,M⟩,q1,q2⟩:=s;simp only at q1 q2;simp only[gI];have an:=oL own i i;simp(disch:=omega)only[ZA,simprocAttr,AP,Bo,Y1];refine⟨λz=>⟨z,z,?_⟩,λz=> ?_⟩
   .simp(disch:=omega)only[ZA,simprocAttr,Bo,xT,Ao z];have hH: ∀(e1 Z e3:Aq) (j:Nat),j<k->hget ((2001,e1)::(2100,Z)::(2,e3)::(En 1000 L k++EB 3000 (B4 own i i))) (1000+j)=some (GV 1000 L j):=by
     intro e1 Z e3 j hj;have h9:=wF k L (B4 own i i) j hj;simp (disch:=omega) only[hget,Be,B8,h9]
    have ho:=i4 i z;obtain⟨r,hr⟩: ∃r,r=Ef L i:=⟨_,rfl⟩;have bf:r<=i:=by rw[hr];exact wL i3 i
    have bg:own[r]? =some (r:Int):=by
     have:=i4 r (by omega)
     rwa [hr,Qls i3 i,<-hr] at this
    rw[<-hr] at ho;have gr:=wF k L (B4 own i i) r (by omega);simp only[GV] at gr;refine⟨by omega,by omega,by omega,Qtp (nx:=4000) i2 (by omega) i3 z (by omega) (hH _ _ _) (λU=> ?_)⟩;rw[<-hr];simp(disch:=omega)only[ZA,simprocAttr,Wb,Bo,Ih,Be,gr,Xr,Zk (show 1000+r<4000 by omega)];refine⟨λv hv=> ?_,λhn=> ?_⟩
    .obtain⟨g,am,rfl,hg⟩:=q2.a _ v hv;have ab:=(Cd.1 hg).1;have an:=oL own i i;have gg:=wH k L (B4 own i i) g (by omega) ab;rw[hg,AQ] at gg;simp(disch:=omega)only[ZA,simprocAttr,Wb,Bo,Ih,Be,gg,Qxa];obtain⟨e1,Z⟩:=RH q2 ho hg;obtain⟨G,hG⟩: ∃G,G=B4 own i i:=⟨_,rfl⟩;rw[<-hG] at hg ab an e1 gg⊢;have ac:(CW 3000 G.length).set g [AV.own 4001]=(List.range G.length).map λq=>[AV.own (if q=g then 4001 else 3000+q)]:=by
      apply JE;intro j;rw[D9];by_cases hj:j<G.length
      .rw[HK hj];by_cases h:g=j
       .subst h;rw[Da (by rw[Ih];exact ab)];simp
       .rw[D4 h,Qo7 _ _ _ hj,Ds,Ag (E9 h)]
      .rw[F7 (by simp[Ih];omega),F7 (by simp;omega)];rfl
     refine⟨ab,ab,by omega,?_,by omega,?_,ab,ab,?_,⟨(i+1,M),by simp only;omega,Z⟩,[(3000+g,some 4001)],by simp only;omega,?_⟩
     .intro row Q;obtain rfl:=BE.1 Q;rfl
     .have h6:(r::am:List Int).length<=1000:=Dt (by rw[hG] at hg;exact Qy0 own i i _ (AY hg)) (by omega);simp only[CY] at h6;omega
     .rw[Dp];intro row Q;rcases Ww Q with hr|hr
      .exact Dp.1 (VO 3000 G.length 4002 (by omega)) row hr
      .subst hr;simp[Av,AV.bel]
     have pn: ∀m,m≠3000+g->pm [(3000+g,some 4001)] m=some m:=by intro m hm;simp only[pm];rw[Ag (E9 hm)]
     simp only[e1];rw[AG (by omega) (by omega)];have hh: ∀(e1 Z e3 e4 e5:Aq) (m:Nat),hget ((2100,e1)::(4001,Z)::(4000,e3)::(2001,e4)::(2,e5)::Bg (Bg (En 1000 L k++EB 3000 G) [3000+g]) [2100]) m=if m=2100 then some e1 else if m=4001 then some Z else if m=4000 then some e3 else if m=2001 then some e4 else if m=2 then some e5 else if m=3000+g then none else hget (En 1000 L k++EB 3000 G) m:=by
      intro e1 Z e3 e4 e5 m;simp only[hget,VQ,cX,cZ,Qz,N5,ZeF];by_cases h1:m=2100
      .subst h1;simp
      by_cases h2:m=4001
      .subst h2;simp
      by_cases h3:m=4000
      .subst h3;simp
      by_cases h4:m=2001
      .subst h4;simp
      by_cases h5:m=2
      .subst h5;simp
      simp only[Ag h1,Ag h2,Ag h3,Ag h4,Ag h5,Ag (E9 h1),Ag (E9 h2),Ag (E9 h3),Ag (E9 h4),Ag (E9 h5)]
     refine Qxg (O:=2100) (T:=λq=>if q=g then 4001 else 3000+q) (by omega) (by rw[Ew];omega) ⟨by omega,trivial⟩ (pn _ (by omega)) (pn _ (by omega)) (λj hj=>pn _ (by omega)) (pn _ (by omega)) (λq hq=> ?_) rfl rfl rfl rfl rfl ?_ ?_ (λj hj=> ?_) (.inr ?_) (λq hq=> ?_) (λq q' hq=> ?_) (λq hq=> ?_) (by omega)
     .by_cases h:q=g
      .subst h;simp[pm]
      .rw[pn _ (by omega),Ag h]
     .rw[hh];rfl
     .rw[hh];rfl
     .rw[hh,Ag (by omega),Ag (by omega),Ag (by omega),Ag (by omega),Ag (by omega),Ag (by omega)];exact wF _ _ _ _ hj
     .rw[hh,Ao rfl,ac,Ew]
     .rw[Ew] at hq;rw[hh];by_cases h:q=g
      .subst h;rw[Ao rfl,Ag (by omega),Ao rfl,Da ab,AQ];simp[Al]
      .rw[Ag h,Ag (by omega),Ag (by omega),Ag (by omega),Ag (by omega),Ag (by omega),Ag (by omega),D4 (E9 h)];exact wH _ _ _ _ (by omega) hq
     .rw[Ew] at hq;intro au he;rw[Ew] at au;by_cases h:q=g<;>by_cases h2:q'=g<;>simp only[h,h2,BI,Cy] at he⊢ <;>omega
     .rw[Ew] at hq;by_cases h:q=g<;>simp only[h,BI,Cy]<;>omega
    .obtain⟨a9,e1,Z⟩:=RG q2 ho bf bg hn;have Q:(CW 3000 (B4 own i i).length++[[AV.im (D.sl true 0 [])]])[(B4 own i i).length]? =some [AV.im (D.sl true 0 [])]:=by
      rw[Fo (by rw[Ih];exact AN _),Ih,GS];rfl
     have av: ∀N,4000<=N->(CW 3000 (B4 own i i).length++[[AV.im (D.sl true 0 [])]]).all (Av N)=true:=by
      intro N hN;rw[rP,VO _ _ _ (by omega)];rfl
     intro _;refine⟨?_,by omega,av _ (by omega),by simp[Ih],by simp[Ih],Hj Q ?_⟩
     .intro row Q;obtain rfl:=BE.1 Q;rfl
     have ac:(CW 3000 (B4 own i i).length++[[AV.im (D.sl true 0 [])]]).set (B4 own i i).length [AV.own 4003]=CW 3000 (B4 own i i).length++[[AV.own 4003]]:=by
      have: ∀(l:List (List AV)) n x y,l.length=n->(l++[x]).set n y=l++[y]:=by
       intro l n x y h;subst h;rw[iV _ _ (AN _),GS];rfl
      exact this _ _ _ _ (Ih _ _)
     have ao: ∀N,4003<N->(CW 3000 (B4 own i i).length++[[AV.own 4003]]).all (Av N)=true:=by
      intro N hN;rw[rP,VO _ _ _ (by omega)];simp[Av,AV.bel];omega
     simp(disch:=omega)only[ZA,simprocAttr,Bo];refine⟨?_,by simp[Ih],by simp[Ih],Hj Q ?_⟩
     .intro row Q;obtain rfl:=BE.1 Q;rfl
     simp(disch:=omega)only[ZA,simprocAttr,Bo,Be,ac];refine⟨ao _ (by omega),⟨(i+1,M++[((i:Int),((B4 own i i).length:Int))]),by simp only;omega,by simp only;exact Z⟩,[(2100,some 4001),(3000+(B4 own i i).length,some 4003)],by simp only;omega,?_⟩;simp only[e1];obtain⟨G,hG⟩: ∃G,G=B4 own i i:=⟨_,rfl⟩;simp only[<-hG] at an⊢;rw[AG (by omega) (by omega)];have pn: ∀m,m≠2100->m≠3000+G.length->pm [(2100,some 4001),(3000+G.length,some 4003)] m=some m:=by intro m hm ag;simp only[pm];rw[Ag (E9 hm),Ag (E9 ag)]
     have hh: ∀(e1 Z e3 e4 e5 e6:Aq) (m:Nat),hget ((4001,e1)::(4003,Z)::(4002,e3)::(4000,e4)::(2001,e5)::(2,e6)::Bg (Bg (Bg (En 1000 L k++EB 3000 G) [2001]) [2100]) [4001]) m=if m=4001 then some e1 else if m=4003 then some Z else if m=4002 then some e3 else if m=4000 then some e4 else if m=2001 then some e5 else if m=2 then some e6 else if m=2100 then none else hget (En 1000 L k++EB 3000 G) m:=by
      intro e1 Z e3 e4 e5 e6 m;simp only[hget,VQ,cX,cZ,Qz,N5,ZeF];by_cases h1:m=4001
      .subst h1;simp
      by_cases h2:m=4003
      .subst h2;simp
      by_cases h3:m=4002
      .subst h3;simp
      by_cases h4:m=4000
      .subst h4;simp
      by_cases h5:m=2001
      .subst h5;simp
      by_cases h6:m=2
      .subst h6;simp
      simp only[Ag h1,Ag h2,Ag h3,Ag h4,Ag h5,Ag h6,Ag (E9 h1),Ag (E9 h2),Ag (E9 h3),Ag (E9 h4),Ag (E9 h5),Ag (E9 h6)]
     have aa:(G++[[(i:Int)]]).length=G.length+1:=by simp
     refine Qxg (O:=4001) (T:=λq=>if q<G.length then 3000+q else 4003) (by omega) (by rw[aa];omega) ⟨by omega,by omega,trivial⟩ (pn _ (by omega) (by omega)) (pn _ (by omega) (by omega)) (λj hj=>pn _ (by omega) (by omega)) (by simp[pm]) (λq hq=> ?_) rfl rfl rfl rfl rfl ?_ ?_ (λj hj=> ?_) (.inr ?_) (λq hq=> ?_) (λq q' hq=> ?_) (λq hq=> ?_) (by omega)
     .rw[aa] at hq;by_cases h:q<G.length
      .rw[pn _ (by omega) (by omega),Ao h]
      .obtain rfl:q=G.length:=by omega
       rw[Ag h];simp only[pm];rw[Ag (by omega),Ao trivial]
     .rw[hh,<-a9,<-MF _ _ _ hn];rfl
     .rw[hh];rfl
     .rw[hh,Ag (by omega),Ag (by omega),Ag (by omega),Ag (by omega),Ag (by omega),Ag (by omega),Ag (by omega)];exact wF _ _ _ _ hj
     .rw[hh,Ao rfl,Ql0,aa]
     .rw[aa] at hq;rw[hh];by_cases h:q<G.length
      .rw[Ao h,Ag (by omega),Ag (by omega),Ag (by omega),Ag (by omega),Ag (by omega),Ag (by omega),Ag (by omega),E7 h];exact wH _ _ _ _ (by omega) h
      .obtain rfl:q=G.length:=by omega
       rw[Ag h,Ag (by omega),Ao rfl,Fo (AN _),GS];rfl
     .rw[aa] at hq;intro au he;rw[aa] at au;by_cases h:q<G.length<;>by_cases h2:q'<G.length<;>simp only[h,h2,BI,Cy] at he⊢ <;>omega
     .by_cases h:q<G.length<;>simp only[h,BI,Cy]<;>omega
   .have ad:i=k:=by omega
    subst ad;rw[UF,Bt,<-hown];rw[NL (m:=7) (G:=B4 own i i)]
    .simp(disch:=omega)only[ZZ,simprocAttr]
    .intro q hq;have h9:=wH i L (B4 own i i) q (by omega) hq;simp (disch:=omega) only[hget,Be,B8,h9]
def Gu(nm:List Int):List Af->List Af
 |[]=>[]
 |b::r=>if BG nm b.A=BG nm b.B then Gu nm r else ⟨BG nm b.A,BG nm b.B,b.Strength⟩::Gu nm r
def Qvj(nm:List Int): ∀(a b:List Af),Gu nm (a++b)=Gu nm a++Gu nm b
 |[],b=>rfl
 |x::r,b=>by simp only[CX,Gu,Qvj nm r b];split<;>rfl
def Qpl(nm:List Int): ∀(a:List Af),(Gu nm a).length<=a.length
 |[]=>AN _
 |x::r=>by have:=Qpl nm r;simp only[Gu];split<;>simp only[CY]<;>omega
def Qab6(nm:List Int){bs:List Af}{k:Nat}{b:Af}(h:bs[k]? =some b):Gu nm (bs.take (k+1))=Gu nm (bs.take k)++if BG nm b.A=BG nm b.B then [] else [⟨BG nm b.A,BG nm b.B,b.Strength⟩]:=by
 rw[GO,h];simp only[cY,Qvj,Gu]
def Dg(n:Int)(bs:List Af)(t:Int):Int×List Af:=((Nm n bs t).length,Gu (Qr n.toNat (Nm n bs t)) bs)
def dlC.H0_dom(a:List Af×Int)(j:Nat):Am (dlC.H0 a) j=true↔j<1:=by
 simp only[Am,dlC.H0,hget];by_cases h0:j=0
 .subst h0;simp
 .have z:(0==j)=false:=by simp;omega
  simp[z];omega
def contr.fv(a:Int×(List Af)×Int):Int×(List Af):=(Dg) (a.1) (a.2.1) (a.2.2)
def contr.row:A7:=vK (b3 qI (qS Af.d_le Af.c_n) qI) (r2 rI (rS Af.d_le Af.c_n)) (λa=>0<=a.1/\a.1<=512/\K0 a.1 a.2.1/\a.2.1.length<=1000000) contr.fv
def contr.q:=AU (R:=contr.row) rfl
def contr.ok:AA Tryz.prog 245 contr.row:=by
 refine vw (tC clobC.ok (tC dlC.ok (tC groupsBy_.ok tN))) Tryz.func245 rfl (by kernel_rfl) ?_;intro a ac;simp only[Tryz.f245];simp(disch:=omega)only[ZA,simprocAttr,contr.fv];obtain⟨h0,h1,O,G⟩:=ac;obtain⟨n,hn⟩: ∃n:Nat,a.1=n:=⟨a.1.toNat,by omega⟩;obtain⟨bs,hbsd⟩: ∃bs,bs=a.2.1:=⟨_,rfl⟩;obtain⟨t,ht⟩: ∃t,t=a.2.2:=⟨_,rfl⟩;simp only[hn,<-hbsd,<-ht] at h0 h1 O G⊢;refine AF.os bs [] G (λj=>by simp[Am,hget]) rfl rfl ?_ ?_
 .simp(disch:=omega)only[ZA,simprocAttr,clobC.ca,D3]
 simp(disch:=omega)only[ZA,simprocAttr,clobC.H1];left;refine AF.os (bs,t) [2] G (λj=>dlC.H0_dom _ j) rfl rfl ?_ ?_
 .simp(disch:=omega)only[ZA,simprocAttr,dlC.ca,dlC.H0,Eh]
 simp(disch:=omega)only[ZA,simprocAttr,groupsBy_.q,groupsBy_.fv,dlC.H1];have Q:RF ((n:Int),Gg t bs):=⟨by simp only;omega,by simp only;omega,λb hb=>O b (KD.1 hb).1,by have:=Qln t bs;simp only;omega⟩;refine⟨Q,by omega,?_⟩;obtain⟨z,hgs⟩: ∃z,z=UF (n:Int) (Gg t bs):=⟨_,rfl⟩;have ag: ∀r∈z,∀v∈r,0<=v/\v<n:=by rw[hgs];exact Qps n _
 simp only[<-hgs];intro an;refine AR.old ⟨{i:Nat//i<=z.length},λi=>⟨[(27,.im (.int .i64 i.1)),(26,.im (.int .i64 z.length)),(25,.im (.sl false 1 (z.map C4))),(9,.own 1022),(8,.im (.sl false 1 (z.map C4))),(1,.im (.sl false 3 (bs.map Af.c)))],[(1022,(true,.arr 2 1 ((J8 z (List.replicate n 0) i.1).map Al)))],1023⟩,λi=>z.length - i.1,λi=>⟨by simp[Aj.good,An,Ac,A9,AV.bel],by simp⟩,⟨⟨0,by simp⟩,?_⟩,λi=> ?_⟩
 .simp(disch:=omega)only[ZA,simprocAttr,sub,J8,pW]
 obtain⟨i,ao⟩:=i;simp(disch:=omega)only[ZZ,simprocAttr,AP];refine⟨λhi=>⟨hi,λr hr=> ?_⟩,λhi=> ?_⟩
 .have aj:=ag r (AY hr);obtain⟨l,hl⟩: ∃l,l=J8 z (List.replicate n 0) i:=⟨_,rfl⟩;have aq:l.length=n:=by rw[hl,oO,Nw]
  simp only[<-hl];intro au;refine AR.old ⟨{k:Nat//k<=r.length},λk=>⟨[(34,.im (.int .i64 k.1)),(33,.im (.int .i64 r.length)),(32,.im (.sl false 1 (r.map Al))),(10,.im (.int .i64 i)),(27,.im (.int .i64 i)),(26,.im (.int .i64 z.length)),(25,.im (.sl false 1 (z.map C4))),(9,.own 1022),(8,.im (.sl false 1 (z.map C4))),(1,.im (.sl false 3 (bs.map Af.c)))],[(1022,(true,.arr 2 1 ((P1 i r l k.1).map Al)))],1023⟩,λk=>r.length - k.1,λk=>⟨by simp[Aj.good,An,Ac,A9,AV.bel],by simp⟩,⟨⟨0,by simp⟩,?_⟩,λk=> ?_⟩
  .simp(disch:=omega)only[ZA,simprocAttr,sub,P1]
  obtain⟨k,ai⟩:=k;have ab:=vS (i:Int) r l k;simp(disch:=omega)only[ZA,simprocAttr,sub,AP,ab,bE];refine⟨λhk=>⟨hk,λv hv=> ?_⟩,λhk=> ?_⟩
  .obtain⟨v1,v2⟩:=aj v (AY hv);refine⟨v1,by omega,by omega,λ_ _=>⟨⟨k+1,by omega⟩,by simp only;omega,by rw[AG (by omega) (by omega)];simp only;omega,?_⟩⟩;simp only[P1,hv,AQ]
  .have:k=r.length:=by omega
   refine⟨⟨i+1,by omega⟩,by simp only;omega,by rw[AG (by omega) (by omega)];simp only;omega,?_⟩;simp only[J8,hr,AQ,<-hl,this]
 .have ah:i=z.length:=by omega
  subst ah;obtain⟨nm,hnm⟩: ∃nm,nm=J8 z (List.replicate n 0) z.length:=⟨_,rfl⟩;have ab:nm.length=n:=by rw[hnm,oO,Nw]
  simp only[<-hnm];intro am;refine AR.ren ⟨{k:Nat//k<=bs.length},λk=>⟨[(46,.im (.int .i64 k.1)),(45,.im (.int .i64 bs.length)),(44,.im (.sl false 3 (bs.map Af.c))),(14,.own 1024),(9,.own 1022),(8,.im (.sl false 1 (z.map C4)))],[(1024,(true,.arr 318 3 ((Gu nm (bs.take k.1)).map Af.c))),(1022,(true,.arr 2 1 (nm.map Al)))],1025⟩,λk=>bs.length - k.1,λk=>⟨by simp[Aj.good,An,Ac,A9,AV.bel],by simp⟩,⟨⟨0,by simp⟩,[(1024,some 1023)],?_⟩,λk=> ?_⟩
  .simp only[A8];simp(disch:=omega)only[ZA,simprocAttr,Bz];rfl
  obtain⟨k,ai⟩:=k;have ak:=Qpl nm (bs.take k);rw[Ci] at ak;simp(disch:=omega)only[ZA,simprocAttr,AP,Nf,Na,BC,D.one];refine⟨λhk=>⟨hk,λb hb=> ?_⟩,λhk=> ?_⟩
  .obtain⟨b1,b2,b3,b4⟩:=O b (AY hb);refine⟨b1,by omega,by omega,λx hx=>⟨b3,by omega,by omega,λy hy=> ?_⟩⟩;have e1:BG nm b.A=x:=by simp only[BG,hx,AQ]
   have e2:BG nm b.B=y:=by simp only[BG,hy,AQ]
   have Z:=Qab6 nm hb;rw[e1,e2] at Z;refine⟨λaa=>⟨b1,by omega,by omega,λx' ad=>⟨b3,by omega,by omega,λy' af=>⟨by omega,⟨k+1,by omega⟩,[(1024,some 1027)],by simp only;omega,?_⟩⟩⟩,λaa=>⟨⟨k+1,by omega⟩,[],by simp only;omega,?_⟩⟩
   .rw[hx] at ad;rw[hy] at af;obtain rfl:=AE ad;obtain rfl:=AE af;simp only[A8];simp(disch:=omega)only[ZA,simprocAttr,Bz,Z];rw[AG (by omega) (by omega),Ag aa];simp[Af.c]
   .simp only[A8];simp(disch:=omega)only[ZA,simprocAttr,Bz,Z];rw[AG (by omega) (by omega),Ao (F8.1 aa),DA];simp
  .have:k=bs.length:=by omega
   subst this;rw[HJ];intro _;simp only[Dg,Nm,Qr,Bt,<-hgs,<-hnm]
end Go.Ae
