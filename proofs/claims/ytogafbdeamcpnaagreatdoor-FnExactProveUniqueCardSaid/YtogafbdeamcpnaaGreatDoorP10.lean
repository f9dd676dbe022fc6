/- Lemmas. Conditions: none. -/
import Derived.Test.YtogafbdeamcpnaaGreatDoorP09
set_option linter.all false
set_option maxHeartbeats 8000000
set_option maxRecDepth 100000
namespace Go.Ae
open Go.Proofs
def ET(l:List Int):Nat->List Int
 |0=>l
 |i+1=>((ET l i).set i ((ET l i)[l.length - 1 - i]?.getD 0)).set (l.length - 1 - i) ((ET l i)[i]?.getD 0)
def Qnf(l:List Int): ∀i,(ET l i).length=l.length
 |0=>rfl
 |i+1=>by simp only[ET,EZ,Qnf l i]
def oJ(l:List Int): ∀i,2*i<=l.length-> ∀k,k<l.length->(ET l i)[k]? =if k<i\/l.length - i<=k then l[l.length - 1 - k]? else l[k]?
 |0,_,k,Q=>by simp only[ET];rw[Af (by omega)]
 |i+1,hi,k,Q=>by
  have ih:=oJ l i (by omega);have Z:=Qnf l i;have g1:(ET l i)[l.length - 1 - i]?.getD 0=l[l.length - 1 - i]?.getD 0:=by rw[ih _ (by omega),Af (by omega)]
  have g2:(ET l i)[i]?.getD 0=l[i]?.getD 0:=by rw[ih _ (by omega),Af (by omega)]
  have gd: ∀j,j<l.length->some (l[j]?.getD 0)=l[j]? :=λj hj=>by rw[Bk hj];rfl
  rw[ET,g1,g2];by_cases z:l.length - 1 - i=k
  .subst z;rw[Du (by rw[EZ,Z];omega),An (by omega),gd _ (by omega)];congr 1;omega
  .rw[DK z];by_cases G:i=k
   .subst G;rw[Du (by rw[Z];omega),An (by omega),gd _ (by omega)]
   .rw[DK G,ih k Q];by_cases O:k<i\/l.length - i<=k
    .rw[An O,An (by omega)]
    .rw[Af O,Af (by omega)]
def Uy(l:List Int){i:Nat}(G:2*i<=l.length)(O:l.length<=2*i+1):ET l i=l.reverse:=by
 apply Kr;intro k;by_cases z:k<l.length
 .rw[oJ l i G k z,ZeR z];by_cases h:k<i\/l.length - i<=k
  .rw[An h]
  .rw[Af h];congr 1;omega
 .rw[FG (by rw[Qnf];omega),FG (by rw[mM];omega)]
def dX(l:List Int)(i:Nat)(x:Int):(l.map Aj).set i [.int .i64 x]=(l.set i x).map Aj:=by rw[Ly];rfl
def revC.ca(_:List Int):List AV:=[.own 0]
def revC.H0(a:List Int):Av:=[(0,(true,.arr 3 1 (a.map Aj)))]
def revC.H1(a:List Int):Av:=[(0,(true,.arr 3 1 (a.reverse.map Aj)))]
def revC.row:AA:=AE revC.ca revC.H0 1 (λ_=>True) (λj=>j==0) (λ_=> .im (.tup [])) revC.H1 0
def revC.ok:AB Tryz.prog 296 revC.row:=by
 refine ow tN Tryz.func296 rfl (by kernel_rfl) (exB:=λ_=>false) (R:=λ_ r=>r= .im (.tup [])) (λ_=>rfl)
  (λa=>by simp[revC.ca,revC.H0,Aq,AV.bel,Ac,A8,BO,Ad.nms,Ao,hget]) (λa p hp=> ?_) (λa r h=>by subst h;exact CF.refl _) ?_
 rotate_left
 intro a Q;simp only[Tryz.f296,revC.ca,revC.H0,revC.H1];simp(disch:=omega)only[ZA,simprocAttr];intro aa;rw[AG (by omega) (by omega)];refine AP.old ⟨{i:Nat//2*i<=a.length},λi=>⟨[(2,.im (.int .i64 i.1)),(3,.im (.int .i64 ((a.length:Int) - 1 - i.1))),(0,.own 0)],[(0,(true,.arr 3 1 ((ET a i.1).map Aj)))],1⟩,λi=>a.length - i.1,λi=>⟨by simp[Ai.good,Am,Ac,A8,AV.bel],by simp⟩,⟨⟨0,by simp⟩,?_⟩,λi=> ?_⟩
 .simp(disch:=omega)only[ZA,simprocAttr,sub];exact⟨by omega,by rw[ET]⟩
 obtain⟨i,Z⟩:=i;have O:=Qnf a i;simp(disch:=omega)only[ZA,simprocAttr,sub,AO,O,dX,EZ];refine⟨λG=>⟨by omega,by omega,by omega,λx hx=>⟨by omega,by omega,λy hy=>⟨by omega,by omega,λz hz=>⟨by omega,by omega,by omega,λu hu=> ?_⟩⟩⟩⟩,λG=> ?_⟩
 .refine⟨⟨i+1,by omega⟩,by simp only;omega,?_⟩;have w1:IntKind.i64.wrap ((a.length:Int) - 1 - i - 1)=(a.length:Int) - 1 - i - 1:=AG (by omega) (by omega);have w2:IntKind.i64.wrap ((i:Int)+1)=(i:Int)+1:=AG (by omega) (by omega);simp only[w1,w2];refine⟨⟨by omega,by omega⟩,?_⟩;simp only[ET];rw[show a.length - 1 - i=((a.length:Int) - 1 - i).toNat by omega,hx,hy];rfl
 .rw[Uy a Z (by omega)]
 simp[revC.H1] at hp;subst hp;exact .inl ⟨by omega,rfl,rfl⟩
def clonC.ca(a:List Al):List AV:=[.im (.sl false 3 (a.map Al.c))]
def clonC.H1(a:List Al):Av:=[(0,(true,.arr 137 3 (a.map Al.c)))]
def clonC.row:AA:=AE clonC.ca (λ_=>[]) 0 (λa=>a.length<=1000000) (λ_=>false) (λ_=> .own 0) clonC.H1 20
def clonC.ok:AB Tryz.prog 105 clonC.row:=by
 refine M8 tN Tryz.func105 rfl (by kernel_rfl) (exB:=λj=>j==0) (R:=λ_ r=>r= .own 0) (λ_=>rfl)
  (λa=>by simp[clonC.ca,Aq,AV.bel,Ac,A8,BO]) (λa p hp=> ?_) (λa r h=>by subst h;exact CF.refl _) ?_
 rotate_left
 intro a z;simp only[Tryz.f105,clonC.ca,clonC.H1];simp(disch:=omega)only[ZA,simprocAttr,Fe,GM,De,EE];intro b hb;split
 .rename_i h;have h0:=hb h;refine⟨[],[(0,some 1)],⟨[(2,.own 0)],clonC.H1 a,1⟩,?_,by simp[clonC.H1,Ai.good,Am,Ac,A8,AV.bel],by simp,?_⟩
  .simp only[Ay,clonC.H1,h0];simp(disch:=omega)only[ZA,simprocAttr]
  .simp(disch:=omega)only[ZA,simprocAttr,clonC.H1]
 .refine⟨by omega,[],[(0,some 2)],⟨[(2,.own 0)],clonC.H1 a,1⟩,?_,by simp[clonC.H1,Ai.good,Am,Ac,A8,AV.bel],by simp,?_⟩
  .simp only[Ay,clonC.H1];simp(disch:=omega)only[ZA,simprocAttr]
  .simp(disch:=omega)only[ZA,simprocAttr,clonC.H1]
 simp[clonC.H1] at hp;subst hp;exact .inr ⟨by omega,by omega,rfl,rfl⟩
def clobC.ca(a:List Ag):List AV:=[.im (.sl false 3 (a.map Ag.c))]
def clobC.H1(a:List Ag):Av:=[(0,(true,.arr 318 3 (a.map Ag.c)))]
def clobC.row:AA:=AE clobC.ca (λ_=>[]) 0 (λa=>a.length<=1000000) (λ_=>false) (λ_=> .own 0) clobC.H1 20
def clobC.ok:AB Tryz.prog 267 clobC.row:=by
 refine M8 tN Tryz.func267 rfl (by kernel_rfl) (exB:=λj=>j==0) (R:=λ_ r=>r= .own 0) (λ_=>rfl)
  (λa=>by simp[clobC.ca,Aq,AV.bel,Ac,A8,BO]) (λa p hp=> ?_) (λa r h=>by subst h;exact CF.refl _) ?_
 rotate_left
 intro a z;simp only[Tryz.f267,clobC.ca,clobC.H1];simp(disch:=omega)only[ZA,simprocAttr,Fe,GM,De,EE];intro b hb;split
 .rename_i h;have h0:=hb h;refine⟨[],[(0,some 1)],⟨[(2,.own 0)],clobC.H1 a,1⟩,?_,by simp[clobC.H1,Ai.good,Am,Ac,A8,AV.bel],by simp,?_⟩
  .simp only[Ay,clobC.H1,h0];simp(disch:=omega)only[ZA,simprocAttr]
  .simp(disch:=omega)only[ZA,simprocAttr,clobC.H1]
 .refine⟨by omega,[],[(0,some 2)],⟨[(2,.own 0)],clobC.H1 a,1⟩,?_,by simp[clobC.H1,Ai.good,Am,Ac,A8,AV.bel],by simp,?_⟩
  .simp only[Ay,clobC.H1];simp(disch:=omega)only[ZA,simprocAttr]
  .simp(disch:=omega)only[ZA,simprocAttr,clobC.H1]
 simp[clobC.H1] at hp;subst hp;exact .inr ⟨by omega,by omega,rfl,rfl⟩
def freeC.fv(a:Bc×Int×Int):Bool:=(VG) (a.1) (a.2.1) (a.2.2)
def freeC.row:AA:=CR (b3 (qP 2 Bc.d_le) qI qI) rB (λa=>Ki a.1 a.1.Room.length/\0<=a.2.1/\a.2.1<a.1.Room.length/\0<=a.2.2/\a.2.2<a.1.Room.length) freeC.fv
def freeC.q:=CY (R:=freeC.row) rfl
def freeC.ok:AB Tryz.prog 295 freeC.row:=by
 refine Fy tN Tryz.func295 rfl (by kernel_rfl) ?_;intro a z;simp only[Tryz.f295];simp(disch:=omega)only[ZZ,simprocAttr,freeC.fv,D.sc,D.scs,Bn];obtain⟨G,O,h3,Q,Z⟩:=z;have hf:=G.f;refine⟨O,h3,λr hr=>⟨Q,by rw[G.rr r (AZ hr)];exact Z,λx hx=>⟨O,by omega,λs hs=>⟨Q,by rw[G.ff s (AZ hs)];exact Z,λy hy=> ?_⟩⟩⟩⟩;simp only[VG,Qyw,Qzr,hr,hs,hx,hy,AM]
def Zw:D->Option (List Int)
 | .sl true _ rows=>AR Cu rows
 | .sl false _ (r::rows)=>AR Cu (r::rows)
 |_=>none
def Zx: ∀d x,Zw d=some x->Le d (.sl true 1 (x.map Aj)):=by
 intro d x h;unfold Zw at h;split at h
 .rename_i k rows;have h1:=Dn (nz:=true) (k:=k) (Dd Da _ _ h) (k':=1) (by simp[Aj]);intro ok hp v Q;have O:=h1 ok hp v Q;simp only[Ae.rd] at O Q⊢;rcases O with O|⟨b,p,cap,vs,T,fr,g1,g2,g3,g4,g5,g6,g7⟩
  .rcases Q with ⟨q1,G⟩|⟨b',p',z,aa,T',Z,q1,G,q3,q4,q5,q6,q7⟩
   .exact .inl ⟨q1,O.2⟩
   .obtain⟨ao,e⟩:=tY O.1;rw[e] at q1;simp only[Value.slice.injEq] at q1;exact absurd (Qo.1 q1.2.1.symm) (G trivial)
  .rcases Q with ⟨q1,G⟩|⟨b',p',z,aa,T',Z,q1,G,q3,q4,q5,q6,q7⟩
   .rw[Qr7 q1] at g1;cases g1
   .refine .inr ⟨b,p,cap,vs,T,fr,g1,λ_ h0=> ?_,g3,g4,g5,g6,g7⟩;rw[q1] at g1;simp only[Value.slice.injEq] at g1;rw[h0,Hf] at g1;exact G trivial (Qo.1 g1.2.1)
 .rename_i k r rows;have h1:=Dn (nz:=false) (k:=k) (Dd Da _ _ h) (k':=1) (by simp[Aj]);intro ok hp v Q;have O:=h1 ok hp v Q;simp only[Ae.rd] at O Q⊢;rcases O with O|⟨b,p,cap,vs,T,fr,g1,g2,g3,g4,g5,g6,g7⟩
  .rcases Q with ⟨q1,G⟩|⟨b',p',z,aa,T',Z,q1,G,q3,q4,q5,q6,q7⟩
   .cases G
   .obtain⟨ao,e⟩:=tY O.1;rw[e] at q1;simp only[Value.slice.injEq,CP] at q1;omega
  .rcases Q with ⟨q1,G⟩|⟨b',p',z,aa,T',Z,q1,G,q3,q4,q5,q6,q7⟩
   .cases G
   .refine .inr ⟨b,p,cap,vs,T,fr,g1,λ_ h0=> ?_,g3,g4,g5,g6,g7⟩;rw[q1] at g1;simp only[Value.slice.injEq,CP] at g1;rw[h0,Hf] at g1;omega
 .cases h
def uC(n:Nat)(x:Int):List.replicate n [D.int .i64 x]=(List.replicate n x).map Aj:=by rw[List.map_replicate];rfl
def Vy{k:Nat}{l:List Int}(h:l≠[]):Zw (.sl false k (l.map Aj))=some l:=by
 cases l with
 |nil=>exact absurd rfl h
 |cons x r=>exact ZO (x::r)
def dI(v:Int):D:= .int .i64 v
def rept.H0_dom(a:Int×Int)(j:Nat):Ao (rept.H0 a) j=true↔j<1:=by
 simp only[Ao,rept.H0,hget];by_cases h0:j=0
 .subst h0;simp
 .have z:(0==j)=false:=by simp;omega
  simp[z];omega
def revC.H0_dom(a:List Int)(j:Nat):Ao (revC.H0 a) j=true↔j<1:=by
 simp only[Ao,revC.H0,hget];by_cases h0:j=0
 .subst h0;simp
 .have z:(0==j)=false:=by simp;omega
  simp[z];omega
def CYc:VI Tryz.prog 382=some 3:=by kernel_rfl
def wayC.rc:D->Option (List Int):=Zw
def wayC.re:(List Int)->D:=λb=>D.sl true 1 (b.map Aj)
def wayC.rle: ∀d b,wayC.rc d=some b->Le d (wayC.re b):=Zx
def wayC.fv(a:Bc×Int×Int):List Int:=(λx p q=>Cx x x.Room.length p q) (a.1) (a.2.1) (a.2.2)
def wayC.row:AA:=CR (b3 (qP 2 Bc.d_le) qI qI) (RK.mk wayC.rc wayC.re wayC.rle) (λa=>Ki a.1 a.1.Room.length/\a.1.Room.length<=1000/\0<=a.2.1/\a.2.1<a.1.Room.length/\0<=a.2.2/\a.2.2<a.1.Room.length) wayC.fv
def wayC.q:=CY (R:=wayC.row) rfl
def wayC.ok:AB Tryz.prog 288 wayC.row:=by
 refine Fy (tC freeC.ok (tC rept.ok (tC revC.ok tN))) Tryz.func288 rfl (by kernel_rfl) ?_;intro a ak;simp only[Tryz.f288];simp(disch:=omega)only[ZZ,simprocAttr,wayC.fv,wayC.rc];obtain⟨aj,hn,ad,af,am,ax⟩:=ak;obtain⟨x,hx⟩: ∃x,x=a.1:=⟨_,rfl⟩;obtain⟨p,hp⟩: ∃p,p=a.2.1:=⟨_,rfl⟩;obtain⟨q,hq⟩: ∃q,q=a.2.2:=⟨_,rfl⟩;obtain⟨n,hnn⟩: ∃n,n=x.Room.length:=⟨_,rfl⟩;simp only[<-hx,<-hp,<-hq,<-hnn] at aj hn ad af am ax⊢;intro bf;refine AE.os (-1,(n:Int)) [1] ⟨by simp only;omega,by simp only;omega⟩ (λj=>rept.H0_dom _ j) rfl rfl ?_ ?_
 .simp(disch:=omega)only[ZA,simprocAttr,GM,rept.ca,rept.H0,De]
 simp(disch:=omega)only[ZA,simprocAttr,CYc,rept.H1,Oh,dX,uC];refine⟨by omega,by omega,ad,af,by omega,λ_ _=> ?_⟩;refine AP.old ⟨{k:Nat//k<=(CS x n p k).2.length},λk=>⟨[(9,.ch 22),(8,.own 2),(7,.im (.int .i64 n)),(0,.ptr 0 0),(1,.im (.int .i64 p)),(2,.im (.int .i64 q))],[(2,(true,.arr 3 1 ((CS x n p k.1).1.map Aj))),(22,(true,.chan (((CS x n p k.1).2.drop k.1).map dI) n)),(0,(false,.view [.sl false 1 (x.Room.map C8),.sl false 1 (x.Flow.map C8)]))],23⟩,λk=>n - k.1,λk=>⟨by simp[Ai.good,Am,Ac,A8,AV.bel],by simp⟩,⟨⟨0,by simp⟩,?_⟩,λk=> ?_⟩
 .simp(disch:=omega)only[ZA,simprocAttr,sub];simp[CS,dI]
 obtain⟨k,hk⟩:=k;have Z:=Rf (x:=x) ad af k;have bg:=Qr3 Z;simp(disch:=omega)only[ZA,simprocAttr,D.sc,D.scs,Bn,CYc,AO,CG];refine⟨λav=> ?_,λav=> ?_⟩
 .have aw:k<(CS x n p k).2.length:=by omega
  obtain⟨u,hu⟩: ∃u,(CS x n p k).2[k]? =some u:=⟨_,Bk aw⟩;have a8:=Z.q u (AZ hu);rw[EW hu];refine⟨by simp,λd r ag=> ?_⟩;simp only[Bd,gH] at ag;obtain⟨rfl,rfl⟩:=ag;simp only[dI];obtain⟨s,hs⟩: ∃s,s=CS x n p k:=⟨_,rfl⟩;simp only[<-hs] at hu Z⊢;refine AP.old ⟨{i:Nat//i<=n},λi=>⟨[(36,.im (.int .i64 i.1)),(35,.im (.int .i64 n)),(10,.im (.int .i64 u)),(9,.ch 22),(8,.own 2),(7,.im (.int .i64 n)),(0,.ptr 0 0),(1,.im (.int .i64 p)),(2,.im (.int .i64 q))],[(2,(true,.arr 3 1 ((CJ x u s i.1).1.map Aj))),(22,(true,.chan (((CJ x u s i.1).2.drop (k+1)).map dI) n)),(0,(false,.view [.sl false 1 (x.Room.map C8),.sl false 1 (x.Flow.map C8)]))],23⟩,λi=>n - i.1,λi=>⟨by simp[Ai.good,Am,Ac,A8,AV.bel],by simp⟩,⟨⟨0,by simp⟩,?_⟩,λi=> ?_⟩
  .simp(disch:=omega)only[ZA,simprocAttr,sub,CJ]
  obtain⟨i,hi⟩:=i;obtain⟨hQ,e,he⟩:=vA Z hu i hi;have a9:=Qr3 hQ;have ay:=hQ.len;simp(disch:=omega)only[ZZ,simprocAttr,Cl,freeC.q,freeC.fv,sub,AO,CG,ay,dX];refine⟨λaq=>⟨by omega,by omega,λy hy=>⟨λO=>⟨⟨hnn▸aj,a8.1,by omega,by omega⟩,λhf=>⟨by omega,by omega,λy2 _=>⟨by omega,⟨i+1,by omega⟩,by simp only;omega,by rw[AG (by omega) (by omega)];simp only;omega,?_⟩⟩,λhf=>⟨⟨i+1,by omega⟩,by simp only;omega,by rw[AG (by omega) (by omega)];simp only;omega,?_⟩⟩,λO=>⟨⟨i+1,by omega⟩,by simp only;omega,by rw[AG (by omega) (by omega)];simp only;omega,?_⟩⟩⟩,λaq=> ?_⟩
  .have Q:CJ x u s (i+1)=((CJ x u s i).1.set i u,(CJ x u s i).2++[(i:Int)]):=by
    rw[CJ,Hq,An ⟨by rw[hy,AM];exact O,hf⟩]
   have bd:=(Ce.1 hu).1;simp only[Q];refine⟨trivial,?_⟩;rw[Zdo (by rw[he,Dq];omega),GH];rfl
  .have Q:CJ x u s (i+1)=CJ x u s i:=by
    rw[CJ,Hq,Af (λh=>hf h.2)]
   simp only[Q];exact⟨trivial,trivial⟩
  .have Q:CJ x u s (i+1)=CJ x u s i:=by
    rw[CJ,Hq,Af (λh=>O (by have:=h.1;rw[hy,AM] at this;exact this))]
   simp only[Q];exact⟨trivial,trivial⟩
  .have au:i=n:=by omega
   have Q:CS x n p (k+1)=CJ x u s i:=by rw[CS,<-hs,hu,au]
   refine⟨⟨k+1,by rw[Q,he,Dq];have:=(Ce.1 hu).1;omega⟩,by simp only;omega,?_⟩;simp only[Q];exact⟨trivial,trivial⟩
 .have be:(CS x n p k).2.length=k:=by omega
  have hE:CS x n p k=Bz x n p:=by
   have:=N1 x n p (n - k) k (by omega)
   rw[show k+(n - k)=n by omega] at this;exact this.symm
  have ai:=Z.len;refine⟨am,by omega,by omega,λy hy=>⟨λO=> ?_,λO=> ?_⟩⟩
  .simp only[Cx,<-hE,hy,AM];rw[An O];rfl
  have az:q∈(CS x n p k).2:=by
   have:=(Z.mem q.toNat y hy).1 (by omega)
   rwa [show (q.toNat:Int)=q by omega] at this
  obtain⟨i,hi⟩:=Ku.1 az;obtain⟨d,ba,ab,aa⟩:=Qq3 Z hi;have bb:=(Ce.1 hi).1;have a0:uL (CS x n p k).1 p q n=d:=Qqr (by omega) ab aa;have hW:Cx x n p q=(Im (CS x n p k).1 q d).reverse:=by
   simp only[Cx,<-hE,hy,AM];rw[Af O,a0]
  obtain⟨G,hpar⟩: ∃G,G=(CS x n p k).1:=⟨_,rfl⟩;simp only[<-hpar] at ai ab aa hW⊢;refine AP.ren ⟨{j:Nat//j<=d},λj=>⟨[(13,.im (.int .i64 (D1 G q j.1))),(12,.own 24),(8,.own 2),(1,.im (.int .i64 p))],[(24,(true,.arr 3 1 ((Im G q j.1).map Aj))),(2,(true,.arr 3 1 (G.map Aj)))],25⟩,λj=>d - j.1,λj=>⟨by simp[Ai.good,Am,Ac,A8,AV.bel],by simp⟩,⟨⟨0,by omega⟩,[(24,some 23)],?_⟩,λj=> ?_⟩
  .simp only[Ay];simp(disch:=omega)only[ZA,simprocAttr,Bp];exact⟨rfl,rfl⟩
  obtain⟨j,hj⟩:=j;have ao:(Im G q j).length=j+1:=by simp[Im]
  simp(disch:=omega)only[ZA,simprocAttr,GM,AO,ao];refine⟨λac=> ?_,λac=> ?_⟩
  .have ah:j<d:=by
    rcases Fj j d with h|h
    .exact h
    .exact absurd (by rw[show j=d by omega];exact ab) ac
   obtain⟨j2,g1,g2⟩:=tB Z hi j (λj' bc=>by rw[<-hpar];exact aa j' (by omega));rw[<-hpar] at g2;have an:=Z.q _ (AZ g2);refine⟨an.1,by omega,by omega,λz hz=>⟨by omega,⟨j+1,by omega⟩,[(24,some 26)],by simp only;omega,?_⟩⟩;have Q:D1 G q (j+1)=z:=by rw[D1,hz,AM]
   have e2:Im G q (j+1)=Im G q j++[z]:=by
    simp only[Im];rw[mO,GH,Bd,Gq,Q]
   simp only[Ay];simp(disch:=omega)only[ZA,simprocAttr,Bp,Q,e2,GH]
  .have ah:j=d:=by
    have h1:=FX.1 ac;rcases Fj j d with h|h
    .exact absurd h1 (aa j h)
    .omega
   subst ah;refine AE.os (Im G q j) [24] trivial (λi=>revC.H0_dom _ i) rfl rfl ?_ ?_
   .simp(disch:=omega)only[ZA,simprocAttr,GM,revC.ca,revC.H0,De]
   .simp(disch:=omega)only[ZA,simprocAttr,GM,D.sc,JH,Bn,revC.H1,De];rw[hW];exact Vy (by simp[Im])
def GC(t:Int)(bs:List Ag):List Ag:=bs.filter λb=>decide (t<=b.Strength)
def Qk(g:Int)(r:List Int)(l:List Int):Nat->List Int
 |0=>l
 |k+1=>(Qk g r l k).set (r[k]?.getD 0).toNat g
def Kg(gs:List (List Int))(l:List Int):Nat->List Int
 |0=>l
 |i+1=>Qk i (gs[i]?.getD []) (Kg gs l i) (gs[i]?.getD []).length
def zM(g:Int)(r l:List Int): ∀k,(Qk g r l k).length=l.length
 |0=>rfl
 |k+1=>by simp only[Qk,EZ,zM g r l k]
def sS(gs:List (List Int))(l:List Int): ∀i,(Kg gs l i).length=l.length
 |0=>rfl
 |i+1=>by simp only[Kg,zM,sS gs l i]
def Rg(n:Nat)(gs:List (List Int)):List Int:=Kg gs (List.replicate n 0) gs.length
def BQ(nm:List Int)(v:Int):Int:=nm[v.toNat]?.getD 0
def HC(nm:List Int):List Ag->List Ag
 |[]=>[]
 |b::r=>if BQ nm b.A=BQ nm b.B then HC nm r else ⟨EO (BQ nm b.A) (BQ nm b.B),Et (BQ nm b.A) (BQ nm b.B),b.Strength⟩::HC nm r
def Qp2(nm:List Int): ∀(a b:List Ag),HC nm (a++b)=HC nm a++HC nm b
 |[],b=>rfl
 |x::r,b=>by simp only[CT,HC,Qp2 nm r b];split<;>rfl
def Qjq(nm:List Int): ∀(a:List Ag),(HC nm a).length<=a.length
 |[]=>AQ _
 |x::r=>by have:=Qjq nm r;simp only[HC];split<;>simp only[CP]<;>omega
def Qln(t:Int)(bs:List Ag):(GC t bs).length<=bs.length:=Zdy _ _
def Qjs(t:Int){bs:List Ag}{k:Nat}{b:Ag}(h:bs[k]? =some b):GC t (bs.take (k+1))=GC t (bs.take k)++if t<=b.Strength then [b] else []:=by
 rw[Iq,h];simp only[GC,vV,vW,Zec,ZeQ,BL]
def oE(own:List Int)(i:Nat): ∀k,∀v∈Dg own i k,(i:Int)<=v/\v<i+k
 |0,v,h=>by simp[Dg] at h
 |k+1,v,h=>by
  simp only[Dg,Bx] at h;rcases h with h|h
  .have:=oE own i k v h;omega
  .split at h
   .rw[BK] at h;omega
   .simp at h
def Qvq(own:List Int)(n:Nat): ∀k,k<=n-> ∀r∈B8 own n k,∀v∈r,0<=v/\v<n
 |0,_,r,h,_,_=>by simp[B8] at h
 |k+1,G,r,h,v,z=>by
  simp only[B8,Bx] at h;rcases h with h|h
  .exact Qvq own n k (by omega) r h v z
  .split at h
   .rw[BK] at h;subst h
    have:=oE own k (n - k) v z
    omega
   .simp at h
def Qps(n:Nat)(bs:List Ag): ∀r∈VA (n:Int) bs,∀v∈r,0<=v/\v<n:=by
 intro r z v G
 have:=Qvq (Cg n bs bs.length) n n (AQ _) r (by simpa[VA] using z) v G
 omega
def Qvc(nm:List Int){bs:List Ag}{k:Nat}{b:Ag}(h:bs[k]? =some b):HC nm (bs.take (k+1))=HC nm (bs.take k)++if BQ nm b.A=BQ nm b.B then [] else [⟨EO (BQ nm b.A) (BQ nm b.B),Et (BQ nm b.A) (BQ nm b.B),b.Strength⟩]:=by
 rw[Iq,h];simp only[vW,Qp2,HC]
def NZ(n:Int)(bs:List Ag)(t:Int):List (List Int):=VA n (GC t bs)
def Ch(n:Int)(bs:List Ag)(t:Int):Int×List Ag:=((NZ n bs t).length,HC (Rg n.toNat (NZ n bs t)) bs)
def shrunk.fv(a:Int×(List Ag)×Int):Int×(List Ag):=(Ch) (a.1) (a.2.1) (a.2.2)
def shrunk.row:AA:=vK (b3 qI (qS Ag.d_le Ag.c_n) qI) (r2 rI (rS Ag.d_le Ag.c_n)) (λa=>0<=a.1/\a.1<=1000000/\Lk a.1 a.2.1/\a.2.1.length<=1000000) shrunk.fv
def shrunk.q:=AT (R:=shrunk.row) rfl
def shrunk.ok:AB Tryz.prog 206 shrunk.row:=by
 refine vw (tC l06Groups.ok (tC l00Min.ok (tC l00Max.ok tN))) Tryz.func206 rfl (by kernel_rfl) ?_;intro a ag;simp only[Tryz.f206];simp(disch:=omega)only[ZA,simprocAttr,shrunk.fv];obtain⟨h0,h1,Z,ah⟩:=ag;obtain⟨n,hn⟩: ∃n:Nat,a.1=n:=⟨a.1.toNat,by omega⟩;obtain⟨bs,hbsd⟩: ∃bs,bs=a.2.1:=⟨_,rfl⟩;obtain⟨t,ht⟩: ∃t,t=a.2.2:=⟨_,rfl⟩;simp only[hn,<-hbsd,<-ht] at h0 h1 Z ah⊢;refine AP.ren ⟨{k:Nat//k<=bs.length},λk=>⟨[(9,.im (.int .i64 k.1)),(8,.own 2),(0,.im (.int .i64 n)),(1,.im (.sl false 3 (bs.map Ag.c))),(2,.im (.int .i64 t))],[(2,(true,.arr 318 3 ((GC t (bs.take k.1)).map Ag.c)))],3⟩,λk=>bs.length - k.1,λk=>⟨by simp[Ai.good,Am,Ac,A8,AV.bel],by simp⟩,⟨⟨0,by simp⟩,[(2,some 1)],?_⟩,λk=> ?_⟩
 .simp only[Ay];simp(disch:=omega)only[ZA,simprocAttr];rfl
 obtain⟨k,aa⟩:=k;have Q:=Qln t (bs.take k);rw[Cf] at Q;simp(disch:=omega)only[ZA,simprocAttr,l06Groups.q,l06Groups.fv,AO,NN,NJ,B1,D.one];intro _;refine⟨λO=>⟨O,λb hb=>⟨λhs=>⟨O,λb' z=>⟨by omega,⟨k+1,by omega⟩,[(2,some 4)],by simp only;omega,?_⟩⟩,λhs=>⟨⟨k+1,by omega⟩,[(2,some 2)],by simp only;omega,?_⟩⟩⟩,λO=> ?_⟩
 .rw[hb] at z;obtain rfl:=AD z;simp only[Ay];simp(disch:=omega)only[ZA,simprocAttr,Qjs t hb];rw[AG (by omega) (by omega),An hs];simp[Ag.c]
 .simp only[Ay];simp(disch:=omega)only[ZA,simprocAttr,Qjs t hb];rw[AG (by omega) (by omega),Af hs,D8];simp
 have ak:k=bs.length:=by omega
 subst ak;rw[Gs];refine⟨⟨h1,λb hb=>Z b (Xn.1 hb).1⟩,by omega,?_⟩;obtain⟨G,hgs⟩: ∃G,G=VA (n:Int) (GC t bs):=⟨_,rfl⟩;have ai: ∀r∈G,∀v∈r,0<=v/\v<n:=by rw[hgs];exact Qps n _
 simp only[<-hgs];clear O Q aa;refine AP.old ⟨{i:Nat//i<=G.length},λi=>⟨[(12,.im (.int .i64 i.1)),(11,.own 3),(10,.im (.sl false 1 (G.map C8))),(0,.im (.int .i64 n)),(1,.im (.sl false 3 (bs.map Ag.c))),(2,.im (.int .i64 t))],[(3,(true,.arr 2 1 ((Kg G (List.replicate n 0) i.1).map Aj)))],4⟩,λi=>G.length - i.1,λi=>⟨by simp[Ai.good,Am,Ac,A8,AV.bel],by simp⟩,⟨⟨0,by simp⟩,?_⟩,λi=> ?_⟩
 .simp(disch:=omega)only[ZA,simprocAttr,sub,Kg,uC]
 obtain⟨i,ao⟩:=i;simp(disch:=omega)only[ZA,simprocAttr,AO];intro an;refine⟨λhi=> ?_,λhi=> ?_⟩
 .obtain⟨r,hr⟩: ∃r,G[i]? =some r:=⟨_,Bk hi⟩;have am:=ai r (AZ hr);obtain⟨l,hl⟩: ∃l,l=Kg G (List.replicate n 0) i:=⟨_,rfl⟩;have aq:l.length=n:=by rw[hl,sS,Oh]
  simp only[<-hl];refine AP.old ⟨{k:Nat//k<=r.length},λk=>⟨[(13,.im (.int .i64 k.1)),(12,.im (.int .i64 i)),(11,.own 3),(10,.im (.sl false 1 (G.map C8))),(0,.im (.int .i64 n)),(1,.im (.sl false 3 (bs.map Ag.c))),(2,.im (.int .i64 t))],[(3,(true,.arr 2 1 ((Qk i r l k.1).map Aj)))],4⟩,λk=>r.length - k.1,λk=>⟨by simp[Ai.good,Am,Ac,A8,AV.bel],by simp⟩,⟨⟨0,by simp⟩,?_⟩,λk=> ?_⟩
  .simp(disch:=omega)only[ZA,simprocAttr,sub,Qk]
  obtain⟨k,aa⟩:=k;have af:=zM (i:Int) r l k;simp(disch:=omega)only[ZZ,simprocAttr,sub,AO,hr,af,dX];refine⟨hi,λr' ab au=> ?_⟩;subst ab;refine⟨λO=>⟨hi,λr' ab=> ?_⟩,λO=>⟨⟨i+1,by omega⟩,by simp only;omega,by rw[AG (by omega) (by omega)];simp only;omega,?_⟩⟩
  .subst ab;refine⟨O,λv hv=> ?_⟩;obtain⟨v1,v2⟩:=am v (AZ hv);refine⟨v1,by omega,by omega,λ_ _=>⟨⟨k+1,by omega⟩,by simp only;omega,by rw[AG (by omega) (by omega)];simp only;omega,?_⟩⟩;simp only[Qk,hv,AM]
  .have:k=r.length:=by omega
   simp only[Kg,hr,AM,<-hl,this]
 .have aj:i=G.length:=by omega
  subst aj;obtain⟨nm,hnm⟩: ∃nm,nm=Kg G (List.replicate n 0) G.length:=⟨_,rfl⟩;have af:nm.length=n:=by rw[hnm,sS,Oh]
  simp only[<-hnm];refine AP.ren ⟨{k:Nat//k<=bs.length},λk=>⟨[(15,.im (.int .i64 k.1)),(14,.own 5),(11,.own 3),(10,.im (.sl false 1 (G.map C8))),(0,.im (.int .i64 n)),(1,.im (.sl false 3 (bs.map Ag.c))),(2,.im (.int .i64 t))],[(5,(true,.arr 318 3 ((HC nm (bs.take k.1)).map Ag.c))),(3,(true,.arr 2 1 (nm.map Aj)))],6⟩,λk=>bs.length - k.1,λk=>⟨by simp[Ai.good,Am,Ac,A8,AV.bel],by simp⟩,⟨⟨0,by simp⟩,[(5,some 4)],?_⟩,λk=> ?_⟩
  .simp only[Ay];simp(disch:=omega)only[ZA,simprocAttr,Bp];rfl
  obtain⟨k,aa⟩:=k;have Q:=Qjq nm (bs.take k);rw[Cf] at Q;simp(disch:=omega)only[ZA,simprocAttr,l00Min.q,l00Min.fv,l00Max.q,l00Max.fv,AO,NN,NJ,B1,D.one];intro _;refine⟨λO=>⟨O,λb hb=> ?_⟩,λO=> ?_⟩
  .obtain⟨b1,b2,b3,b4⟩:=Z b (AZ hb);refine⟨b1,by omega,by omega,λx hx=>⟨O,λb' z=> ?_⟩⟩;rw[hb] at z;obtain rfl:=AD z;refine⟨b3,by omega,by omega,λy hy=> ?_⟩;have e1:BQ nm b.A=x:=by simp only[BQ,hx,AM]
   have e2:BQ nm b.B=y:=by simp only[BQ,hy,AM]
   have ac:=Qvc nm hb;rw[e1,e2] at ac;refine⟨λad=>⟨O,λb' z=>⟨by omega,⟨k+1,by omega⟩,[(5,some 7)],by simp only;omega,?_⟩⟩,λad=>⟨⟨k+1,by omega⟩,[(5,some 5)],by simp only;omega,?_⟩⟩
   .rw[hb] at z;obtain rfl:=AD z;simp only[Ay];simp(disch:=omega)only[ZA,simprocAttr,Bp,ac];rw[AG (by omega) (by omega),Af ad];simp[Ag.c]
   .simp only[Ay];simp(disch:=omega)only[ZA,simprocAttr,Bp,ac];rw[AG (by omega) (by omega),An (FX.1 ad),D8];simp
  .have:k=bs.length:=by omega
   subst this;rw[Gs];intro _;simp only[Ch,NZ,Rg,B0,<-hgs,<-hnm]
def Qk5(s:AC): ∀(l:List Ar) (i:Nat),Ld s i l=true-> ∀g∈l,1<=g.Strength/\g.Strength<=4
 |[],_,_,_,h=>by cases h
 |x::r,i,h,g,z=>by
  simp only[Ld,AS,Bj,BL] at h;rcases Bm.1 z with rfl|z
  .exact⟨h.1.2.1.1,h.1.2.1.2⟩
  .exact Qk5 s r _ h.2 g z
def Qlf(s:AC): ∀(l:List Tile) (i:Nat),Jy s i l=true-> ∀t∈l,t.Sides.length=4/\ ∀g∈t.Sides,0<=g/\g<=s.Glues.length
 |[],_,_,_,h=>by cases h
 |x::r,i,h,t,z=>by
  simp only[Jy,AS,BL,D3,Bj] at h;rcases Bm.1 z with rfl|z
  .exact⟨h.1.2.1,λg G=>⟨(h.1.2.2.2 g G).1,(h.1.2.2.2 g G).2⟩⟩
  .exact Qlf s r _ h.2 t z
def Qge{s:AC}(h:F1 s=true):BF s:=by
 simp only[F1,AS,BL] at h;exact⟨by omega,Qlf s _ _ h.2.2,Qk5 s _ _ h.2.1⟩
def Z3{s:AC}{a:Ak}(h:Kb s a=true):DP s a/\a.Tiles.length<=500:=by
 simp only[Kb,AS,BL,D3,Bj] at h;exact⟨⟨h.1.1,λx z=>⟨(h.2 x z).1,by have:=(h.2 x z).2;omega⟩⟩,h.1.2⟩
def Zh(p:Ab)(d:Int):Bu p d≠p:=by
 intro h;have G:(Bu p d).X=p.X:=by rw[h]
 have z:(Bu p d).Y=p.Y:=by rw[h]
 simp only[Bu] at G z;split at G
 .rename_i h0;rw[An h0] at z;simp only at z;omega
 .rename_i h0;rw[Af h0] at z;split at G
  .simp only at G;omega
  .rename_i O;rw[Af O] at z;split at G
   .rename_i Q;rw[An Q] at z;simp only at z;omega
   .simp only at G;omega
def iW(a:Ak)(i:Nat)(d:Int)(Z:i<a.Tiles.length):Hm a i d≠i:=by
 intro h;rcases QW (λx=>decide (x.At=Bu ((a.Tiles[(i:Int).toNat]?.map Al.At).getD ⟨0,0⟩) d)) a.Tiles 0 with ⟨_,z⟩|⟨j,x,O,z,Q⟩
 .simp only[Hm,z] at h;omega
 .simp only[Hm,z,FV] at h;have G:j=i:=by omega
  subst G
  have:=Rp O
  simp only[BL,B0,Q,CQ,AM] at this;exact Zh _ _ this.symm
def Ky(n:Int)(b:Ag):Prop:=(0<=b.A/\b.A<n/\0<=b.B/\b.B<n)/\b.A≠b.B/\0<b.Strength/\b.Strength<=4
def Xz{s:AC}(hs:BF s)(a:Ak)(i:Nat)(Z:i<a.Tiles.length)(d:Int): ∀b∈Xe s a i d,Ky a.Tiles.length b:=by
 intro b hb;simp only[Xe] at hb;split at hb
 .rename_i h0;split at hb
  .rename_i z;rw[BK] at hb;subst hb;have G:=KF a i d;have O:=iW a i d Z;have Q:Gk s (GA a i) d (GA a (Hm a i d))<=4:=by
    simp only[Gk];split
    .exact (Qp1 hs _).2
    .omega
   exact⟨⟨by simp only;omega,by simp only;omega,h0,G⟩,λh=>O h.symm,z,Q⟩
  .simp at hb
 .simp at hb
def Qzz{s:AC}(hs:BF s)(a:Ak)(i:Nat)(z:i<a.Tiles.length): ∀k,∀b∈Kd s a i k,Ky a.Tiles.length b
 |0,b,h=>by simp[Kd] at h
 |k+1,b,h=>by
  simp only[Kd,Bx] at h;rcases h with h|h
  .exact Qzz hs a i z k b h
  .exact Xz hs a i z _ b h
def Qro{s:AC}(hs:BF s)(a:Ak): ∀k,k<=a.Tiles.length-> ∀b∈FE s a k,Ky a.Tiles.length b
 |0,_,b,h=>by simp[FE] at h
 |k+1,z,b,h=>by
  simp only[FE,Bx] at h;rcases h with h|h
  .exact Qro hs a k (by omega) b h
  .exact Qzz hs a k (by omega) _ b h
def M2(g:Int)(r:List Int)(m:Int)(h0:0<=g)(O:g<m)(l:List Int)(G: ∀x∈l,0<=x/\x<m): ∀k,∀x∈Qk g r l k,0<=x/\x<m
 |0=>G
 |k+1=>by
  intro x z;simp only[Qk] at z;rcases Xm z with z|z
  .exact M2 g r m h0 O l G k x z
  .omega
def M1(gs:List (List Int))(l:List Int)(z: ∀x∈l,0<=x/\x<(gs.length:Int)): ∀i,i<=gs.length-> ∀x∈Kg gs l i,0<=x/\x<(gs.length:Int)
 |0,_=>z
 |i+1,G=>M2 _ _ _ (by omega) (by omega) _ (M1 gs l z i (by omega)) _
def Qy8{n:Nat}{gs:List (List Int)}(G:0<gs.length)(v:Int):0<=BQ (Rg n gs) v/\BQ (Rg n gs) v<(gs.length:Int):=by
 simp only[BQ];cases h:(Rg n gs)[v.toNat]? with
 |none=>simp;omega
 |some x=>
  rw[AM];exact M1 gs _ (λx z=>by have:=Ol z;omega) _ (AQ _) x (AZ h)
def Qvw{n:Nat}{gs:List (List Int)}(z:0<gs.length): ∀(bs:List Ag),(∀b∈bs,0<b.Strength/\b.Strength<=4)-> ∀b∈HC (Rg n gs) bs,Ky gs.length b
 |[],_,b,h=>by simp[HC] at h
 |x::r,O,b,h=>by
  simp only[HC] at h;have ih:=Qvw (n:=n) z r (λy Z=>O y (BX _ Z)) b;split at h
  .exact ih h
  .rename_i Q;rcases Bm.1 h with rfl|h
   .have h1:=Qy8 (n:=n) z x.A;have h2:=Qy8 (n:=n) z x.B;have G:=O x (BT ..);refine⟨?_,?_,G.1,G.2⟩
    .simp only[EO,Et]
     split<;>split<;>omega
    .simp only[EO,Et]
     split<;>split<;>omega
   .exact ih h
def Na{n:Int}{bs:List Ag}{t:Int}(hb: ∀b∈bs,Ky n b)(Z:bs.length<=1000000)(h0:0<(Ch n bs t).1)(Q:(Ch n bs t).1<=64):ZF (Ch n bs t)/\Qj (Ch n bs t).2:=by
 have G:=Qvw (n:=n.toNat) (gs:=NZ n bs t) (by simp only[Ch] at h0;omega) bs (λb z=>⟨(hb b z).2.2.1,(hb b z).2.2.2⟩);have O:=Qjq (Rg n.toNat (NZ n bs t)) bs;refine⟨⟨by omega,by omega,by simp only[Ch];omega,λb z=>(G b z).1,λb z=>(G b z).2.1⟩,λb z=> ?_⟩
 have:=(G b z).2.2
 omega
def fP(s:AC)(a:Ak)(t:Int):Bool×Int:=
 if 64<(Ch a.Tiles.length (FE s a a.Tiles.length) t).1 then (false,4)
 else if (Ch a.Tiles.length (FE s a a.Tiles.length) t).1<2 then (true,0)
 else (decide (t<=(FF (Ch a.Tiles.length (FE s a a.Tiles.length) t).1 (Ch a.Tiles.length (FE s a a.Tiles.length) t).2 ((Ch a.Tiles.length (FE s a a.Tiles.length) t).1 - 1).toNat).1),0)
def l07Stable.fv(a:AC×Ak×Int):Bool×Int:=(fP) (a.1) (a.2.1) (a.2.2)
def l07Stable.row:AA:=vK (b3 (qP 2 AC.d_le) (qP 1 Ak.d_le) qI) (r2 rB rI) (λa=>BF a.1/\DP a.1 a.2.1/\a.2.1.Tiles.length<=500) l07Stable.fv
def l07Stable.q:=AT (R:=l07Stable.row) rfl
def l07Stable.ok:AB Tryz.prog 167 l07Stable.row:=by
 refine vw (tC l06Bonds.ok (tC shrunk.ok (tC weakC.ok tN))) Tryz.func167 rfl (by kernel_rfl) ?_;intro a z;simp only[Tryz.f167];simp(disch:=omega)only[ZA,simprocAttr,Ak.d,l07Stable.fv,l06Bonds.q,l06Bonds.fv,shrunk.q,shrunk.fv,weakC.q,weakC.fv];obtain⟨G,Q,h3⟩:=z;have O:=Qro G a.2.1 _ (AQ _);have hl:=sI a.1 a.2.1 a.2.1.Tiles.length;refine⟨⟨G,Q,by omega⟩,⟨by omega,λb hb=>(O b hb).1,by omega⟩,?_⟩;simp only[fP];split
 .rfl
 .rename_i c1;split
  .rfl
  .rename_i c2;obtain⟨p1,Z⟩:=Na (t:=a.2.2) O (by omega) (by omega) (by omega);exact⟨⟨p1,Z,by omega⟩,rfl⟩
def Vd(s:AC)(a:Ak)(t:Int):Bool:=(fP s a t).1 && decide ((fP s a t).2=0)
def F3(y:Ax):Bool:=F1 y.Set && (Kb y.Set y.Seed && (!y.Seed.Tiles.isEmpty && (Bj y.Temperature 1 16 && Vd y.Set y.Seed y.Temperature)))
def l08Ok.fv(a:Ax):Bool:=(F3) a
def l08Ok.row:AA:=vK (b1 (qP 4 Ax.d_le)) rB (λa=>True) l08Ok.fv
def l08Ok.q:=AT (R:=l08Ok.row) rfl
def l08Ok.ok:AB Tryz.prog 117 l08Ok.row:=by
 refine vw (tC l02Ok.ok (tC l03Ok.ok (tC l07Temperature.ok (tC l07Stable.ok tN)))) Tryz.func117 rfl (by kernel_rfl) ?_;intro a aa;simp only[Tryz.f117];simp(disch:=omega)only[ZA,simprocAttr,Ak.d,l08Ok.fv,l02Ok.q,l02Ok.fv,l03Ok.q,l03Ok.fv,l07Temperature.q,l07Temperature.fv,l07Stable.q,l07Stable.fv]
 split<;>rename_i c1
 .split<;>rename_i c2
  .have z:Kb a.Set a.Seed=true:=by
    simp only[Kb,AS,BL];exact c2
   split<;>rename_i G
   .have O:a.Seed.Tiles.isEmpty=false:=by
     rw[ZdK];intro h;rw[h] at G;simp at G
    split<;>rename_i Q
    .simp only[F3,Q,F6,gK]
    .refine⟨⟨Qge c1,(Z3 z).1,(Z3 z).2⟩,?_⟩;rw[FW] at Q;simp only[F3,c1,z,O,Q,Eb,Xo,Vd]
     split<;>rename_i Z
     .rw[Z,Eb]
     .rw[Lv] at Z;rw[Z,F6]
   .have O:a.Seed.Tiles=[]:=by
     have:=FX.1 G
     exact vL (by omega)
    simp[F3,O]
  .have z:Kb a.Set a.Seed=false:=by
    rw[Qs];intro h;simp only[Kb,AS,BL] at h;exact c2 h
   simp[F3,z]
 .rw[Lv] at c1;simp[F3,c1]
def Dp(b n:Nat):List (List AV):=(List.range n).map λi=>[AV.own (b+i)]
def B6(b n:Nat)(M:List (List Int)):Av:=AU b n (λi=>(true,.arr 2 1 ((M[i]?.getD []).map Aj)))
def Qv(j:Nat):Bool:=Nat.blt j 3||((Nat.ble 100 j && Nat.blt j 164)||(Nat.ble 200 j && Nat.blt j 264))
def CD(x:Bc)(n:Nat):Av:=(0,(true,.cells 375 [.own 1,.own 2]))::(1,(true,.arrA 32 1 (Dp 100 n)))::(2,(true,.arrA 32 1 (Dp 200 n)))::(B6 100 n x.Room++B6 200 n x.Flow)
def nwC.ca(a:Int×List Ag):List AV:=[.im (.int .i64 a.1),.im (.sl false 3 (a.2.map Ag.c))]
def nwC.H1(a:Int×List Ag):Av:=CD (DH a.1.toNat a.2) (min a.1.toNat 64)
def M4(a:Int×List Ag):Prop:=0<=a.1/\a.1<=64/\a.2.length<=1000000/\Lk a.1 a.2/\Qj a.2/\ ∀b∈a.2,b.A≠b.B
def nwC.row:AA:=AE nwC.ca (λ_=>[]) 0 M4 (λ_=>false) (λ_=> .ptr 0 0) nwC.H1 320
def sY(m:Nat): ∀(a b:Av),Ac m (a++b)=(Ac m a && Ac m b)
 |[],b=>by simp[Ac]
 |(i,(z,e))::r,b=>by
  have ih:=sY m r b;cases e<;>simp only[CT,Ac,ih,Zez]
def Qmd(m:Nat): ∀(a b:Av),A8 m (a++b)=(A8 m a && A8 m b)
 |[],b=>by simp[A8]
 |(i,(z,e))::r,b=>by simp only[CT,A8,Qmd m r b,Zez]
def WK(b n N:Nat)(h:b+n<=N):(Dp b n).all (Aq N)=true:=by
 rw[D3];intro r G;obtain⟨i,z,rfl⟩:=Bv.1 G
 have:=BD.1 z
 simp[Aq,AV.bel];omega
def Qkf(nx:Nat): ∀(l:List Nat),G3 nx 0 l=true
 |[]=>rfl
 |x::r=>by
  have:(Nat.blt x nx||Nat.ble (nx+0) x)=true:=by
   rw[Hd,E4,Hy];omega
  simp only[G3,this,Qkf nx r,gB]
def IA(b n:Nat):(Dp b n).length=n:=by simp[Dp]
def Qo7(b n i:Nat)(h:i<n):(Dp b n)[i]? =some [.own (b+i)]:=by simp[Dp,HN h]
def Qpf(a b:Av):Fh (a++b)=Fh a++Fh b:=by
 induction a with
 |nil=>rfl
 |cons x r ih=>obtain⟨i,e⟩:=x;simp only[CT,Fh,ih]
def Ql(m:Nat): ∀(a b:Av),hget (a++b) m=(hget a m).or (hget b m)
 |[],b=>by simp[hget]
 |(i,e)::r,b=>by
  have ih:=Ql m r b;simp only[CT,hget];cases i==m<;>simp[ih]
def Qpw(b n:Nat)(M:List (List Int))(i:Nat)(h:i<n):hget (B6 b n M) (b+i)=some (true,.arr 2 1 ((M[i]?.getD []).map Aj)):=HE _ _ _ _ h
def Qwa(b n:Nat)(M:List (List Int))(m:Nat)(h:m<b\/b+n<=m):hget (B6 b n M) m=none:=Qmh _ _ _ _ h
def eA(k:Nat)(M N:List (List Int))(i:Nat)(h:i<k):hget (B6 100 k M++B6 200 k N) (100+i)=some (true,.arr 2 1 ((M[i]?.getD []).map Aj)):=by
 rw[Ql,Qpw _ _ _ _ h];rfl
def eF(k:Nat)(M N:List (List Int))(i:Nat)(z:k<=100)(h:i<k):hget (B6 100 k M++B6 200 k N) (200+i)=some (true,.arr 2 1 ((N[i]?.getD []).map Aj)):=by
 rw[Ql,Qwa _ _ _ _ (by omega),Qpw _ _ _ _ h];rfl
def Qxa(b n i:Nat)(K:List AV->Prop)(h:i<n):J1 (Dp b n) i K=K [.own (b+i)]:=by
 apply propext;unfold J1;rw[Qo7 b n i h];exact⟨λh=>h _ rfl,λh row z=>by obtain rfl:=AD z;exact h⟩
def lB(s:Ai): ∀(a b:Av),Cb s (a++b)=(Cb s a/\Cb s b)
 |[],b=>by simp[Cb]
 |(i,e)::r,b=>by simp only[CT,Cb,lB s r b,mV]
def tJ(s:Ai)(b n:Nat)(M:List (List Int)):Cb s (B6 b n M)= ∀i,i<n->hget s.h (b+i)=some (true,.arr 2 1 ((M[i]?.getD []).map Aj)):=by
 have: ∀(f:Nat->Au) (l:List Nat),Cb s (l.map λi=>(b+i,f i))↔ ∀i∈l,hget s.h (b+i)=some (f i):=by
  intro f l;induction l with
  |nil=>simp[Cb]
  |cons i r ih=>simp only[Bd,Cb,ih,Bm,Zed]
 apply propext;rw[B6,AU,this];simp only[BD]
def Qrm{n:Nat}{bs:List Ag}(hb:Lk n bs)(hs:Qj bs)(a b:Nat): ∀k,0<=DV (BW n bs k) a b/\DV (BW n bs k) a b<=2000000*(k:Int)
 |0=>by
  simp only[DV,BW,KG,GV,Ls];split
  .rw[AM,Ls];split<;>simp
  .simp
 |k+1=>by
  have ih:=Qrm hb hs a b k;obtain⟨z,_⟩:=WR hb k;simp only[DV,BW] at ih⊢;split
  .rename_i x G;obtain⟨b1,b2,b3,b4⟩:=hb x (AZ G);have h0:=hs x (AZ G);simp only[Kw];rw[show x.A=(x.A.toNat:Int) by omega,show x.B=(x.B.toNat:Int) by omega];rw[dY (n:=n) (by rw[Z5];exact z.r) (Z1 z.rr _ _ _ (by rw[z.r];simp;omega)) _ (by omega) (by omega),dY z.r z.rr _ (by omega) (by omega)]
   split<;>split<;>omega
  .omega
def TC(k:Nat)(O:k<=64):([0,1,2]++((List.range k).map (100+ ·)++(List.range k).map (200+ ·))).Nodup:=by
 rw[<-Hw];refine eB _ 200 k (eB _ 100 k (by simp) (by simp)) ?_;intro x z;rcases Bx.1 z with z|z
 .simp at z;omega
 .obtain⟨i,G,rfl⟩:=Bv.1 z
  have:=BD.1 G
  show 100+i<200;omega
def TB(k:Nat)(O:k<=64): ∀x∈([0,1,2]++((List.range k).map (100+ ·)++(List.range k).map (200+ ·))),x<300:=by
 intro x z;rcases Bx.1 z with z|z
 .simp at z;omega
 .rcases Bx.1 z with z|z<;>obtain⟨i,G,rfl⟩:=Bv.1 z<;>have:=BD.1 G
  .show 100+i<300;omega
  .show 200+i<300;omega
def Qyn{π:List (Nat×Option Nat)}{b:Nat}{g:Nat->Nat}{n:Nat}(h: ∀i,i<n->pm π (b+i)=some (g i)){R:List (List AV)}(hR:R=(List.range n).map λi=>[AV.own (g i)]):GJ π (Dp b n) R:=by
 subst hR;rw[fD];refine⟨by simp[Dp],λi x y G O=> ?_⟩;have z:i<n:=by have:=(Ce.1 G).1;rwa [IA] at this
 rw[Qo7 _ _ _ z] at G;rw[D2,HN z] at O;obtain rfl:=AD G;obtain rfl:=AD O;simp only[DG,mt,h i z,FN,Hx]
def Ql0(b k c:Nat):Dp b k++[[.own c]]=(List.range (k+1)).map λi=>[AV.own (if i<k then b+i else c)]:=by
 rw[mO,GH,Dp];congr 1
 .exact Oj λi z=>by rw[An (BD.1 z)]
 .simp
def uD(k:Nat)(M N:List (List Int))(G:k<=64)(tm:List (Nat×AV))(z:Am 300 tm=true):Ai.good ⟨tm,(0,(true,.cells 375 [.own 1,.own 2]))::(1,(true,.arrA 32 1 (Dp 100 k)))::(2,(true,.arrA 32 1 (Dp 200 k)))::(B6 100 k M++B6 200 k N),300⟩=true:=by
 simp only[Ai.good,Ac,A8,z,Eb,sY,Qmd,B6];rw[Rb _ _ _ (λi=>rfl),Rb _ _ _ (λi=>rfl),QQ _ _ _ _ (by omega),QQ _ _ _ _ (by omega),WK _ _ _ (by omega),WK _ _ _ (by omega)];rfl
def K4(o:Nat)(h:Qv o=true):o<264:=by
 simp only[Qv,Hd,AS,E4,Hy] at h;omega
def aT(i:Nat)(h:i<64):Qv (100+i)=true:=by
 simp only[Qv,Hd,AS,E4,Hy];omega
def aU(i:Nat)(h:i<64):Qv (200+i)=true:=by
 simp only[Qv,Hd,AS,E4,Hy];omega
def Quc(h:Nat->Option Au)(f:AV->Option AV): ∀(a b:Av),EY h f (a++b)↔EY h f a/\EY h f b
 |[],b=>by simp[EY]
 |(i,e)::r,b=>by simp only[CT,EY,Quc h f r b,mV]
def Qoq(h:Nat->Option Au)(f:AV->Option AV)(b n:Nat)(M:List (List Int))(H: ∀i,i<n->h (b+i)=some (true,.arr 2 1 ((M[i]?.getD []).map Aj))):EY h f (B6 b n M):=by
 have: ∀(l:List Nat),(∀i∈l,i<n)->EY h f (l.map λi=>(b+i,(true,Ad.arr 2 1 ((M[i]?.getD []).map Aj)))):=by
  intro l;induction l with
  |nil=>intro _;simp[EY]
  |cons i r ih=>
   intro z;simp only[Bd,EY];refine⟨?_,ih (λj O=>z j (BX _ O))⟩;rw[H i (z i (BT ..))];exact⟨rfl,rfl⟩
 exact this _ (λi G=>BD.1 G)
def Quf{h:Nat->Option Au}{kx:Nat->Option Nat}{m b n:Nat}(G: ∀i,i<n->kx (b+i)=some (b+i)):A7 (A7 (Be h kx (m+1))) (Dp b n)=some (Dp b n):=by
 refine VE (g:=λi=>[AV.own (b+i)]) (k:=λi=>[AV.own (b+i)]) _ λi z=> ?_
 simp only[A7,Be,G i (BD.1 z),kp]
def TR{x:Bc}{n:Nat}(hn:n<=64){kx:Nat->Option Nat}(G: ∀o,Qv o=true->kx o=some o):EY (hget (CD x n)) (Be (hget (CD x n)) kx 9) (CD x n):=by
 have k1:kx 1=some 1:=G 1 rfl;have k2:kx 2=some 2:=G 2 rfl;obtain⟨H,hH⟩: ∃H,H=hget (CD x n):=⟨_,rfl⟩;have g0:H 0=some (true,.cells 375 [.own 1,.own 2]):=by rw[hH];rfl
 have g1:H 1=some (true,.arrA 32 1 (Dp 100 n)):=by rw[hH];rfl
 have g2:H 2=some (true,.arrA 32 1 (Dp 200 n)):=by rw[hH];rfl
 have ga: ∀i,i<n->H (100+i)=some (true,.arr 2 1 ((x.Room[i]?.getD []).map Aj)):=by
  intro i z;rw[hH];simp only[CD,hget,Bi _ _ (show 0≠100+i by omega),Bi _ _ (show 1≠100+i by omega),Bi _ _ (show 2≠100+i by omega),BC];exact eA _ _ _ _ z
 have gb: ∀i,i<n->H (200+i)=some (true,.arr 2 1 ((x.Flow[i]?.getD []).map Aj)):=by
  intro i z;rw[hH];simp only[CD,hget,Bi _ _ (show 0≠200+i by omega),Bi _ _ (show 1≠200+i by omega),Bi _ _ (show 2≠200+i by omega),BC];exact eF _ _ _ _ (by omega) z
 rw[<-hH];simp only[CD,EY,Quc];refine⟨?_,?_,?_,Qoq _ _ _ _ _ ga,Qoq _ _ _ _ _ gb⟩
 .rw[g0];exact⟨rfl,by simp only[C5,A7,Be,k1,k2,kp];rfl⟩
 .rw[g1];exact⟨rfl,by simp only[C5];rw[Quf (λi z=>G _ (aT i (by omega)))];rfl⟩
 .rw[g2];exact⟨rfl,by simp only[C5];rw[Quf (λi z=>G _ (aU i (by omega)))];rfl⟩
def M3{x:Bc}{n:Nat}(hn:n<=64){p:Nat×Au}(hp:p∈CD x n):Qv p.1=true/\p.2.1=true:=by
 simp only[CD,Bm,Bx,B6,AU,Bv,BD] at hp;rcases hp with rfl|rfl|rfl|⟨i,z,rfl⟩|⟨i,z,rfl⟩
 .exact⟨rfl,rfl⟩
 .exact⟨rfl,rfl⟩
 .exact⟨rfl,rfl⟩
 .exact⟨aT i (by omega),rfl⟩
 .exact⟨aU i (by omega),rfl⟩
def jH{a:Int×List Ag}{p:Nat×Au}(hp:p∈nwC.H1 a):Qv p.1=true/\p.2.1=true:=M3 (gG _ _) hp
def nwC.ok:AB Tryz.prog 270 nwC.row:=by
 refine ow tN Tryz.func270 rfl (by kernel_rfl) (exB:=Qv) (R:=λ_ r=>r= .ptr 0 0) (λ_=>rfl)
  (λa=>by simp[nwC.ca,Aq,AV.bel,Ac,A8,BO]) (λa p hp=> ?_) (λa r h=>by subst h;exact CF.refl _) ?_
 rotate_left
 intro a ao;simp only[Tryz.f270,nwC.ca];simp(disch:=omega)only[ZA,simprocAttr];obtain⟨h0,O,hl,Q,ag,an⟩:=ao;obtain⟨n,hn⟩: ∃n:Nat,a.1=n:=⟨a.1.toNat,by omega⟩;obtain⟨bs,hbsd⟩: ∃bs,bs=a.2:=⟨_,rfl⟩;simp only[<-hbsd] at hl Q ag an;rw[hn] at h0 O Q;have hH1:nwC.H1 a=CD (DH n bs) n:=by simp only[nwC.H1,hn,B0,hbsd];rw[ZeW (by omega)]
 rw[hH1];clear hH1;simp only[hn,<-hbsd];refine AP.ren ⟨{k:Nat//k<=n},λk=>⟨[(11,.im (.int .i64 k.1)),(10,.im (.int .i64 n)),(5,.ptr 0 0),(0,.im (.int .i64 n)),(1,.im (.sl false 3 (bs.map Ag.c)))],(0,(true,.cells 375 [.own 1,.own 2]))::(1,(true,.arrA 32 1 (Dp 100 k.1)))::(2,(true,.arrA 32 1 (Dp 200 k.1)))::(B6 100 k.1 (List.replicate n (List.replicate n 0))++B6 200 k.1 (List.replicate n (List.replicate n 0))),300⟩,λk=>n - k.1,λk=>⟨?_,by simp⟩,⟨⟨0,by simp⟩,[(1,none),(2,none)],?_⟩,λk=> ?_⟩
 .exact uD _ _ _ (by omega) _ (by simp[Am,AV.bel])
 .simp only[Ay,B6,AU,Dp,ZeT,Gq,D8];simp(disch:=omega)only[ZA,simprocAttr,VL]
 obtain⟨k,au⟩:=k;simp(disch:=omega)only[ZA,simprocAttr,D6,AO,BB,Qkf,vZ,vP,Lw,List.all_nil,WK,IA];refine⟨λhk=>⟨by omega,by omega,by omega,by omega,⟨k+1,by omega⟩,[(1,some 302),(2,some 305),(100+k,some 300),(200+k,some 303)],by simp only;omega,?_⟩,λhk=> ?_⟩
 .have hg: ∀i,i<n->(List.replicate n (List.replicate n (0:Int)))[i]?.getD []=List.replicate n 0:=by
   intro i z;rw[Ls,An z,AM]
  have ad: ∀i,i<k->pm [(1,some 302),(2,some 305),(100+k,some 300),(200+k,some 303)] (100+i)=some (100+i):=by
   intro i z;simp only[pm];rw[Af (by omega),Af (by omega),Af (by omega),Af (by omega)]
  have af: ∀i,i<k->pm [(1,some 302),(2,some 305),(100+k,some 300),(200+k,some 303)] (200+i)=some (200+i):=by
   intro i z;simp only[pm];rw[Af (by omega),Af (by omega),Af (by omega),Af (by omega)]
  have ab:pm [(1,some 302),(2,some 305),(100+k,some 300),(200+k,some 303)] (100+k)=some 300:=by
   simp only[pm];rw[Af (by omega),Af (by omega),An trivial]
  have ac:pm [(1,some 302),(2,some 305),(100+k,some 300),(200+k,some 303)] (200+k)=some 303:=by
   simp only[pm];rw[Af (by omega),Af (by omega),Af (by omega),An trivial]
  have q0:pm [(1,some 302),(2,some 305),(100+k,some 300),(200+k,some 303)] 0=some 0:=by
   simp only[pm];rw[Af (by omega),Af (by omega),Af (by omega),Af (by omega)]
  have q1:pm [(1,some 302),(2,some 305),(100+k,some 300),(200+k,some 303)] 1=some 302:=rfl;have q2:pm [(1,some 302),(2,some 305),(100+k,some 300),(200+k,some 303)] 2=some 305:=rfl;obtain⟨π,hπ⟩: ∃π,π=[(1,some 302),(2,some 305),(100+k,some 300),(200+k,some 303)]:=⟨_,rfl⟩;rw[<-hπ] at ad af ab ac q0 q1 q2⊢;refine⟨by rw[hπ];exact⟨by omega,by omega,by omega,by omega,trivial⟩,?_,?_,?_⟩
  .rw[eV,hπ];simp only[Fh,Qpf,B6,Z6];refine fC _ _ (TC (k+1) (by omega)) ?_;intro x hx y hy m ah ai;have a9:=TB (k+1) (by omega) x hx;have ba:=TB (k+1) (by omega) y hy;simp only[pm] at ah ai
   repeat' split at ah
   all_goals repeat' split at ai
   all_goals simp only[AJ] at ah ai
   all_goals omega
  .simp only[Qn,AF];simp(disch:=omega)only[ZA,simprocAttr,q0];rw[AG (by omega) (by omega)];omega
  .simp only[Ha,Qns,B6,eL];refine⟨?_,?_,?_,λi z=> ?_,λi z=> ?_⟩
   .simp(disch:=omega)only[ZA,simprocAttr,q0,q1,q2]
   .simp(disch:=omega)only[ZA,simprocAttr,q1];refine Qyn (g:=λi=>if i<k then 100+i else 300) (λi z=> ?_) (Ql0 100 k 300);by_cases h:i<k
    .rw[An h,ad i h]
    .rw[Af h,show i=k by omega,ab]
   .simp(disch:=omega)only[ZA,simprocAttr,q2];refine Qyn (g:=λi=>if i<k then 200+i else 303) (λi z=> ?_) (Ql0 200 k 303);by_cases h:i<k
    .rw[An h,af i h]
    .rw[Af h,show i=k by omega,ac]
   .by_cases h:i<k
    .rw[ad i h,hg i (by omega)];simp only[Ep,hget,Bi _ _ (show 0≠100+i by omega),Bi _ _ (show 305≠100+i by omega),Bi _ _ (show 303≠100+i by omega),Bi _ _ (show 302≠100+i by omega),Bi _ _ (show 300≠100+i by omega),BC,WM];have h9:=eA k (List.replicate n (List.replicate n 0)) (List.replicate n (List.replicate n 0)) i h;simp only[B6] at h9;simp (disch:=omega) only[aA,aG,Bi,Qt,Df,CK,h9,hg,K0,EG,Hx]
    .rw[show i=k by omega,ab,hg k (by omega)];simp(disch:=omega)only[ZA,simprocAttr,uC]
   .by_cases h:i<k
    .rw[af i h,hg i (by omega)];simp only[Ep,hget,Bi _ _ (show 0≠200+i by omega),Bi _ _ (show 305≠200+i by omega),Bi _ _ (show 303≠200+i by omega),Bi _ _ (show 302≠200+i by omega),Bi _ _ (show 300≠200+i by omega),BC,WM];have h9:=eF k (List.replicate n (List.replicate n 0)) (List.replicate n (List.replicate n 0)) i (by omega) h;simp only[B6] at h9;simp (disch:=omega) only[aA,aG,Bi,Qt,Df,CK,h9,hg,K0,EG,Hx]
    .rw[show i=k by omega,ac,hg k (by omega)];simp(disch:=omega)only[ZA,simprocAttr,uC]
 .intro _;have av:k=n:=by omega
  subst av;clear hk au;refine AP.old ⟨{j:Nat//j<=bs.length},λj=>⟨[(38,.im (.int .i64 j.1)),(37,.im (.int .i64 bs.length)),(36,.im (.sl false 3 (bs.map Ag.c))),(5,.ptr 0 0)],(0,(true,.cells 375 [.own 1,.own 2]))::(1,(true,.arrA 32 1 (Dp 100 k)))::(2,(true,.arrA 32 1 (Dp 200 k)))::(B6 100 k (BW k bs j.1).Room++B6 200 k (BW k bs j.1).Flow),300⟩,λj=>bs.length - j.1,λj=>⟨?_,by simp⟩,⟨⟨0,by simp⟩,?_⟩,λj=> ?_⟩
  .exact uD _ _ _ (by omega) _ (by simp[Am,AV.bel])
  .simp only[sub,G6,Cb,AF,hget,lB];simp(disch:=omega)only[ZA,simprocAttr,tJ,BW,KG];refine⟨λi z=> ?_,λi z=> ?_⟩
   .rw[Af (by omega),Af (by omega),Af (by omega)];exact eA _ _ _ _ z
   .rw[Af (by omega),Af (by omega),Af (by omega)];exact eF _ _ _ _ (by omega) z
  obtain⟨j,hj⟩:=j;obtain⟨aa,_⟩:=WR Q j;obtain⟨x,hx⟩: ∃x,x=BW k bs j:=⟨_,rfl⟩;simp only[<-hx] at aa⊢;simp(disch:=omega)only[ZA,simprocAttr,Qv,AO,BB,IA];refine⟨λam=>⟨am,λb hb=> ?_⟩,λam=> ?_⟩
  .obtain⟨b1,b2,b3,b4⟩:=Q b (AZ hb);have az:=an b (AZ hb);have a0:=ag b (AZ hb);obtain⟨u,hu⟩: ∃u:Nat,b.A=u:=⟨b.A.toNat,by omega⟩;obtain⟨v,hv⟩: ∃v:Nat,b.B=v:=⟨b.B.toNat,by omega⟩;have Z:u<k:=by omega
   have G:v<k:=by omega
   have ay:u≠v:=by omega
   simp only[hu,hv,B0];refine⟨by omega,by omega,by omega,?_⟩;have hr: ∀i,i<k->(x.Room[i]?.getD []).length=k:=by
    intro i z;rw[Bk (by rw[aa.r];exact z),AM];exact aa.rr _ (Ro _)
   have aw:=hr u Z;have ax:=hr v G;simp(disch:=omega)only[ZA,simprocAttr,sub,WW,BB,IA,Bi,Lh,eA,aw,ax,Qxa,dX,vZ,lB,tJ];have aj:=Qrm Q ag u v j;have ak:=Qrm Q ag v u j;rw[<-hx] at aj ak;refine⟨by omega,G,by omega,G,λx1 e1=>⟨G,by omega,G,λx2 _=>⟨.inr (by omega),G,G,by omega,Z,by omega,Z,λx3 e3=>⟨Z,by omega,Z,λx4 _=>⟨.inr (by omega),⟨j+1,by omega⟩,by simp only;omega,by rw[AG (by omega) (by omega)];simp only;omega,?_⟩⟩⟩⟩⟩;have r1:DV x u v=x1:=by simp only[DV,GV,e1,AM]
   have r3:DV x v u=x3:=by simp only[DV,GV,e3,AM]
   rw[r1] at aj;rw[r3] at ak;rw[AG (by omega) (by omega),AG (by omega) (by omega)];have hN:BW k bs (j+1)=Kw x b:=by simp only[BW,hb,<-hx]
   have hR: ∀i,i<k->(BW k bs (j+1)).Room[i]?.getD []=if v=i then (x.Room[v]?.getD []).set u (x3+b.Strength) else if u=i then (x.Room[u]?.getD []).set v (x1+b.Strength) else x.Room[i]?.getD []:=by
    intro i z;rw[hN];simp only[Kw,Lo,hu,hv,B0];by_cases O:v=i
    .subst O;rw[An rfl,Du (by rw[EZ,aa.r];exact G),AM,DK ay,e3,AM]
    .rw[Af O,DK O];by_cases h2:u=i
     .subst h2;rw[An rfl,Du (by rw[aa.r];exact Z),AM,e1,AM]
     .rw[Af h2,DK h2]
   have hF:(BW k bs (j+1)).Flow=x.Flow:=by rw[hN];rfl
   refine⟨λi z=> ?_,λi z=> ?_⟩
   .rw[hR i z];by_cases O:v=i
    .subst O;rw[An rfl,An rfl]
    .rw[Af (by omega),Af O];by_cases h2:u=i
     .subst h2;rw[An rfl,An rfl]
     .rw[Af (by omega),Af h2,Af (by omega)];exact eA _ _ _ _ z
   .rw[Af (by omega),hF];exact eF _ _ _ _ (by omega) z
  .have aq:j=bs.length:=by omega
   subst aq;rw[hx];exact TR (x:=DH k bs) (n:=k) (by omega) (λo ho=>by
    have O:(Ao [] o||(Qv o && (Nat.ble 0 o && Nat.blt o (0+320))))=true:=by
     have h2:=K4 o ho;simp[ho];omega
    simp only[IZ,O,Ck])
 rcases jH hp with ⟨O,h2⟩
 have a8:=K4 p.1 O;exact .inr ⟨by omega,by omega,O,h2⟩
structure T9(H:Nat->Option Au)(x:Bc)(n:Nat):Prop where
 g0:H 0=some (true,.cells 375 [.own 1,.own 2])
 g1:H 1=some (true,.arrA 32 1 (Dp 100 n))
 g2:H 2=some (true,.arrA 32 1 (Dp 200 n))
 ga: ∀i,i<n->H (100+i)=some (true,.arr 2 1 ((x.Room[i]?.getD []).map Aj))
 gb: ∀i,i<n->H (200+i)=some (true,.arr 2 1 ((x.Flow[i]?.getD []).map Aj))
def U8{M:List (List Int)}{n:Nat}(h:M.length=n):(List.range n).map (λi=>C8 (M[i]?.getD []))=M.map C8:=by
 apply Kr;intro i;rw[D2,D2];by_cases z:i<n
 .rw[HN z,Bk (by omega:i<M.length)];simp only[CQ,Bk (show i<M.length by omega),AM]
 .rw[FG (by simp;omega),FG (by omega)];rfl
def M5{H:Nat->Option Au}{m b o n:Nat}{M:List (List Int)}(Q:M.length=n)(z:H o=some (true,.arrA 32 1 (Dp b n)))(G: ∀i,i<n->H (b+i)=some (true,.arr 2 1 ((M[i]?.getD []).map Aj))):
 bk H (m+2) (.own o)=some (.sl false 1 (M.map C8)):=by
 simp only[bk,z,Km];rw[Dp,VE (f:=A7 (bk H (m+1))) (g:=λi=>[AV.own (b+i)]) (k:=λi=>C8 (M[i]?.getD [])),U8 Q]
 .rfl
 .intro i O;simp only[A7,bk,G i (BD.1 O),Km];rfl
def Y1{H:Nat->Option Au}{x:Bc}{n:Nat}(h:T9 H x n)(z:Ki x n)(a b:D):CB H [.ptr 0 0,.im a,.im b]=some [.ptr (Bc.c x),FY a,FY b]:=by
 have G:=M5 (m:=6) z.r h.g1 h.ga;have O:=M5 (m:=6) z.f h.g2 h.gb;simp only[CB,E7,h.g0,ZS,Hh,A7,G,O,Y9,CQ,I3];rfl
def Vz{H:Nat->Option Au}{x:Bc}{n nx:Nat}{K:Ah}(h:T9 H x n)(z:Ki x n)(hn:n<=1000){p q:Int}(G:0<=p)(aa:p<n)(O:0<=q)(ab:q<n)
 (hK: ∀U,K (.im (.sl true 1 ((Cx x n p q).map Aj))) {use:=U}):wayC.row [.ptr 0 0,.im (.int .i64 p),.im (.int .i64 q)] H nx K:=by
 have Q:=z.r;rw[wayC.q,Y1 h z];have e:Bc.d ((Bc.c x).take 2)=some x:=Bc.d_c x;simp only[WJ,b3,qP,qI,a3,kP,kI,FY,e,Eg,Eo];refine⟨⟨Q▸z,by omega,G,by omega,O,by omega⟩,?_⟩;have Z:wayC.re (wayC.fv (x,p,q))= .sl true 1 ((Cx x n p q).map Aj):=by simp only[wayC.re,wayC.fv,Q]
 rw[Z];exact hK _
def sndC.n(a:Bc×Int×Int×Int):Nat:=min a.1.Room.length 64
def Rh(n:Nat)(p q:Int):Nat->Bc->Bc
 |0,x=>x
 |m+1,x=>if Cx x n p q=[] then x else Rh n p q m (Hu x (Cx x n p q) ((Cx x n p q).length - 1))
def sndC.ca(a:Bc×Int×Int×Int):List AV:=[.ptr 0 0,.im (.int .i64 a.2.1),.im (.int .i64 a.2.2.1),.im (.int .i64 a.2.2.2)]
def sndC.H0(a:Bc×Int×Int×Int):Av:=CD a.1 (sndC.n a)
def sndC.H1(a:Bc×Int×Int×Int):Av:=B6 200 (sndC.n a) (Rh (sndC.n a) a.2.1 a.2.2.1 a.2.2.2.toNat a.1).Flow
def sndC.r0(a:Bc×Int×Int×Int):AV:= .im (.int .i64 (FT (sndC.n a) a.2.1 a.2.2.1 a.2.2.2.toNat a.1))
structure UO(a:Bc×Int×Int×Int):Prop where
 n:a.1.Room.length<=64
 ok:Ki a.1 a.1.Room.length
 p0:0<=a.2.1
 p1:a.2.1<a.1.Room.length
 q0:0<=a.2.2.1
 q1:a.2.2.1<a.1.Room.length
 pq:a.2.1≠a.2.2.1
 m0:0<=a.2.2.2
 m1:a.2.2.2<=1000000
 fl: ∃v,QX (DV a.1) (JB a.1) a.1.Room.length a.2.1.toNat a.2.2.1.toNat v
 rm: ∀u v,DV a.1 u v<=10000000000000
def Ta(j:Nat):Bool:=Nat.ble 200 j && Nat.blt j 264
def sndC.row:AA:=AE sndC.ca sndC.H0 300 UO Ta sndC.r0 sndC.H1 10
def sndC.hbel(a:Bc×Int×Int×Int):Aq 300 (sndC.ca a)=true:=rfl
def sndC.n_le(a:Bc×Int×Int×Int):sndC.n a<=64:=gG _ _
def oG(x:Bc)(n:Nat)(hn:n<=64):Ac 300 (CD x n)=true/\A8 300 (CD x n)=true:=by
 have:=uD n x.Room x.Flow hn [] rfl
 simp only[Ai.good,AS] at this;exact this.2
def sndC.hbH(a:Bc×Int×Int×Int):Ac 300 (sndC.H0 a)=true:=(oG _ _ (sndC.n_le a)).1
def sndC.hkH(a:Bc×Int×Int×Int):A8 300 (sndC.H0 a)=true:=(oG _ _ (sndC.n_le a)).2
def VD(x:Bc)(n:Nat)(hn:n<=64):T9 (hget (CD x n)) x n:=by
 refine⟨rfl,rfl,rfl,λi z=> ?_,λi z=> ?_⟩
 .simp only[CD,hget,Bi _ _ (show 0≠100+i by omega),Bi _ _ (show 1≠100+i by omega),Bi _ _ (show 2≠100+i by omega),BC];exact eA _ _ _ _ z
 .simp only[CD,hget,Bi _ _ (show 0≠200+i by omega),Bi _ _ (show 1≠200+i by omega),Bi _ _ (show 2≠200+i by omega),BC];exact eF _ _ _ _ (by omega) z
def Qvt(H0:Av): ∀(a b:Av),BO H0 (a++b)↔BO H0 a/\BO H0 b
 |[],b=>by simp[BO]
 |(i,(z,e))::r,b=>by simp only[CT,BO,Qvt H0 r b,mV]
def Qud(H0:Av)(b n:Nat)(M:List (List Int)):BO H0 (B6 b n M):=by
 have: ∀(l:List Nat),BO H0 (l.map λi=>(b+i,(true,Ad.arr 2 1 ((M[i]?.getD []).map Aj)))):=by
  intro l;induction l with
  |nil=>simp[BO]
  |cons i r ih=>simp only[Bd,BO];exact⟨λm z=>by simp[Ad.nms] at z,ih⟩
 exact this _
def Qu6(b n:Nat): ∀m∈B7 (Dp b n),∃i,i<n/\m=b+i:=by
 have: ∀(l:List Nat),(∀i∈l,i<n)-> ∀m∈B7 (l.map λi=>[AV.own (b+i)]),∃i,i<n/\m=b+i:=by
  intro l;induction l with
  |nil=>intro _ m z;simp[B7] at z
  |cons i r ih=>
   intro G m z;simp only[Bd,B7,AH,AV.nms,D8,Bx,BK] at z;rcases z with rfl|z
   .exact⟨i,G i (BT ..),rfl⟩
   .exact ih (λj Q=>G j (BX _ Q)) m z
 exact this _ (λi O=>BD.1 O)
def Y0(x:Bc)(n:Nat)(hn:n<=64):BO (CD x n) (CD x n):=by
 have G:=VD x n hn;have hd: ∀o e,hget (CD x n) o=some e->Ao (CD x n) o=true:=λo e h=>by simp only[Ao,h];rfl
 obtain⟨H,hH⟩: ∃H,H=CD x n:=⟨_,rfl⟩;rw[<-hH] at G hd;rw[show BO (CD x n) (CD x n)=BO H (CD x n) by rw[hH]];simp only[CD,BO,Qvt];refine⟨λm z=> ?_,λm z=> ?_,λm z=> ?_,Qud _ _ _ _,Qud _ _ _ _⟩
 .simp only[Ad.nms,AH,AV.nms,D8,Bx,BK] at z;rcases z with rfl|rfl
  .exact hd _ _ G.g1
  .exact hd _ _ G.g2
 .obtain⟨i,O,rfl⟩:=Qu6 100 n m z;exact hd _ _ (G.ga i O)
 .obtain⟨i,O,rfl⟩:=Qu6 200 n m z;exact hd _ _ (G.gb i O)
def Nk{s:Ai}{x:Bc}{n:Nat}(h:T9 (hget s.h) x n):Cb s (CD x n):=by
 simp only[CD,Cb,lB,tJ];exact⟨h.g0,h.g1,h.g2,h.ga,h.gb⟩
def MT(h:Nat->Option Au)(f:Nat->Bool): ∀(a b:Av),Ia h f (a++b)↔Ia h f a/\Ia h f b
 |[],b=>by simp[Ia]
 |(i,e)::r,b=>by simp only[CT,Ia,MT h f r b,mV]
def aY(i:Nat)(h:i<64):Ta (200+i)=true:=by
 simp only[Ta,AS,Hy,E4];omega
def Qxi(h:Nat->Option Au)(f:Nat->Bool)(b:Nat)(g:Nat->Au)(n:Nat)(H: ∀i,i<n->f (b+i)=true\/h (b+i)=some (g i)):Ia h f (AU b n g):=by
 have: ∀(l:List Nat),(∀i∈l,i<n)->Ia h f (l.map λi=>(b+i,g i)):=by
  intro l;induction l with
  |nil=>intro _;trivial
  |cons i r ih=>
   intro G;simp only[Bd,Ia];refine⟨?_,ih (λj Q=>G j (BX _ Q))⟩;rcases H i (G i (BT ..)) with z|z
   .rw[z];trivial
   .cases f (b+i)
    .exact z
    .trivial
 exact this _ (λi O=>BD.1 O)
def U5{h:Nat->Option Au}{n:Nat}(hn:n<=64){M:List (List Int)}(H: ∀i,i<n->h (100+i)=some (true,.arr 2 1 ((M[i]?.getD []).map Aj))):Ia h Ta (B6 100 n M):=Qxi _ _ _ _ _ (λi z=> .inr (H i z))
def U6{h:Nat->Option Au}{n:Nat}(hn:n<=64){M:List (List Int)}:Ia h Ta (B6 200 n M):=Qxi _ _ _ _ _ (λi z=> .inl (aY i (by omega)))
def sndC.hnm(a:Bc×Int×Int×Int):BO (sndC.H0 a) (sndC.H0 a):=Y0 _ _ (sndC.n_le a)
def sndC.ok:AB Tryz.prog 271 sndC.row:=by
 refine ow (tC wayC.ok tN) Tryz.func271 rfl (by kernel_rfl) (exB:=λ_=>false) (R:=λa r=>r=sndC.r0 a) (λ_=>rfl)
  (λa=>⟨sndC.hbel a,sndC.hbH a,sndC.hkH a,sndC.hnm a⟩) (λa p hp=> ?_) (λa r h=>by subst h;exact CF.refl _) ?_
 rotate_left
 intro a au;simp only[Tryz.f271,sndC.ca];simp(disch:=omega)only[ZA,simprocAttr];obtain⟨x,p,q,mo⟩:=a;obtain⟨hn,ak,ac,Z,ad,af,aq,a9,ba,aj,am⟩:=au;simp only at hn ak ac Z ad af aq a9 ba aj am;obtain⟨n,hnn⟩: ∃n,n=x.Room.length:=⟨_,rfl⟩;obtain⟨M,hM⟩: ∃M:Nat,mo=M:=⟨mo.toNat,by omega⟩;subst hM;have bd: ∀y:Int×Int×Int,sndC.n (x,y)=n:=λy=>by simp only[sndC.n,<-hnn];omega
 simp only[sndC.H1,sndC.r0,sndC.H0,bd,B0,CD,BB];rw[<-hnn] at hn ak Z af aj;refine AP.old ⟨{s:Nat×Bc//s.1<=M/\Ki s.2 n/\s.2.Room=x.Room/\(∃v,QX (DV x) (JB s.2) n p.toNat q.toNat v)/\FT n p q M x=FT n p q (M - s.1) s.2+s.1/\Rh n p q M x=Rh n p q (M - s.1) s.2},λs=>⟨[(9,.im (.int .i64 s.1.1)),(0,.ptr 0 0),(1,.im (.int .i64 p)),(2,.im (.int .i64 q)),(3,.im (.int .i64 M))],CD s.1.2 n,300⟩,λs=>M - s.1.1,λs=>⟨?_,by simp⟩,⟨⟨(0,x),by simp only;omega,ak,rfl,aj,by simp,by simp⟩,?_⟩,λs=> ?_⟩
 .simp only[CD];exact uD _ _ _ hn _ (by simp[Am,AV.bel])
 .simp only[sub,G6,AF];refine⟨?_,?_⟩
  .simp(disch:=omega)only[ZA,simprocAttr]
  .exact Nk (VD x n hn)
 obtain⟨⟨k,y⟩,i1,i2,i3,i4,i5,i6⟩:=s;simp only at i1 i2 i3 i4 i5 i6;simp only[CD];simp(disch:=omega)only[ZA,simprocAttr,BB];refine Vz (VD y n hn) i2 (by omega) ac Z ad af (λU=> ?_);obtain⟨L,hL⟩: ∃L,L=Cx y n p q:=⟨_,rfl⟩;rw[<-hL];simp(disch:=omega)only[ZA,simprocAttr,BB,AO];have ah:(FT n p q (M - k) y=0)->(Rh n p q (M - k) y=y)->(((bif Ta 0 then True else True)/\(bif Ta 1 then True else True)/\(bif Ta 2 then True else True)/\Ia (hget (CD y n)) Ta (B6 100 n x.Room++B6 200 n x.Flow))/\(k:Int)=FT n p q M x/\ ∀kx,EY (hget (CD y n)) (Be (hget (CD y n)) kx 9) (B6 200 n (Rh n p q M x).Flow)):=by
  intro e1 e2;have hI:=VD y n hn;refine⟨⟨trivial,trivial,trivial,(MT _ _ _ _).2 ⟨U5 hn (λi O=>by rw[hI.ga i O,i3]),U6 hn⟩⟩,by omega,λkx=> ?_⟩;rw[i6,e2];exact Qoq _ _ _ _ _ hI.gb
 have ax:(L.map Aj).isEmpty=L.isEmpty:=by cases L<;>rfl
 rw[ax];refine⟨λc1=>⟨λc2=> ?_,λc2=> ?_⟩,λc1=> ?_⟩
 .obtain⟨g1,g2,g3⟩:=ah (by rw[show M - k=0 by omega];rfl) (by rw[show M - k=0 by omega];rfl);exact⟨g1,g2,g3 _⟩
 .have aa:L≠[]:=by intro h;rw[h] at c1;cases c1
  have hW:SP y n p q L:=by rw[hL];exact V1 ac Z ad af (by rw[<-hL];exact aa)
  have bh:=hW.pos;obtain⟨v,hv⟩:=i4;have an: ∀i,i<L.length-> ∃w:Nat,L[i]? =some (w:Int)/\w<n:=by
   intro i O
   have:=hW.inb _ (Ro O)
   refine⟨(L[i]).toNat,by rw[Bk O];congr 1;omega,by omega⟩
  refine AP.old ⟨{j:Nat//j+1<=L.length},λj=>⟨[(11,.im (.int .i64 ((j.1:Int)+1))),(10,.im (.sl true 1 (L.map Aj))),(9,.im (.int .i64 k)),(0,.ptr 0 0),(1,.im (.int .i64 p)),(2,.im (.int .i64 q)),(3,.im (.int .i64 M))],CD (Hu y L j.1) n,300⟩,λj=>L.length - j.1,λj=>⟨?_,by simp⟩,⟨⟨0,by omega⟩,?_⟩,λj=> ?_⟩
  .simp only[CD];exact uD _ _ _ hn _ (by simp[Am,AV.bel])
  .simp only[sub,G6,AF];refine⟨?_,?_⟩
   .simp(disch:=omega)only[ZA,simprocAttr]
   .exact Nk (VD y n hn)
  obtain⟨j,hj⟩:=j;have G:=zV i2 hW.inb j (by omega);obtain⟨z,hz⟩: ∃z,z=Hu y L j:=⟨_,rfl⟩;simp only[<-hz] at G⊢;simp only[CD];have ej:((j:Int)+1).toNat=j+1:=by omega
  simp(disch:=omega)only[ZA,simprocAttr,BB,sub,AO,IA];intro bg;have ew:IntKind.i64.wrap ((j:Int)+1 - 1)=j:=by rw[AG (by omega) (by omega)];omega
  have av:IntKind.i64.wrap ((j:Int)+1+1)=(j:Int)+1+1:=AG (by omega) (by omega);simp only[ew,B0];refine⟨λa0=> ?_,λa0=> ?_⟩
  .obtain⟨u,ab,hu⟩:=an j (by omega);obtain⟨w,ai,Q⟩:=an (j+1) (by omega);have be:u≠w:=by
    intro h
    have:=hW.nd j (j+1) (by omega) (by omega) (by simp only[Lf,ab,ai,h])
    omega
   have hr: ∀i,i<n->(z.Flow[i]?.getD []).length=n:=by
    intro i O;rw[Bk (by rw[G.f];exact O),AM];exact G.ff _ (Ro _)
   have bb:=hr u hu;have bc:=hr w Q;simp only[ab,AJ,forall_eq'];simp(disch:=omega)only[ZA,simprocAttr,sub,WW,BB,IA,Bi,Lh,eF,ew,av,ej,ab,ai,forall_eq',bb,bc,Qxa,dX,vZ,lB,tJ];have hb: ∀a b,a<n->b<n-> -10000000000002<=JB z a b/\JB z a b<=10000000000002:=by
    intro a b ha hb;have h1:=Qso i2 hW.inb a b j (by omega);have h2:=Qr1 (L:=Lf L) (m:=L.length - 1) (λi j O hj=>hW.nd i j (by omega) (by omega)) a b j (by omega);have h3:=Qr1 (L:=Lf L) (m:=L.length - 1) (λi j O hj=>hW.nd i j (by omega) (by omega)) b a j (by omega);have h4:=sA (Lf L) a b j;have h5:=sA (Lf L) b a j;have h6:=hv.cap a b ha hb;have h7:=hv.cap b a hb ha;have h8:=hv.anti a b ha hb;have h9:=am a b;have bi:=am b a;rw[<-hz] at h1;simp only[JB] at*;omega
   have ay:=hb u w hu Q;have az:=hb w u Q hu;refine⟨by omega,hu,hu,by omega,by omega,by omega,Q,by omega,Q,λx1 e1=>⟨Q,by omega,Q,λ_ _=>⟨.inr (by omega),by omega,by omega,Q,Q,by omega,by omega,hu,by omega,hu,λx3 e3=>⟨hu,by omega,hu,λ_ _=>⟨.inr (by omega),⟨j+1,by omega⟩,by simp only;omega,by simp only;omega,?_⟩⟩⟩⟩⟩;have r1:JB z u w=x1:=by simp only[JB,GV,e1,AM]
   have r3:JB z w u=x3:=by simp only[JB,GV,e3,AM]
   rw[r1] at ay;rw[r3] at az;rw[AG (by omega) (by omega),AG (by omega) (by omega)];have hN:Hu y L (j+1)=NA z u w:=by simp only[Hu,ab,ai,AM,<-hz]
   have hR: ∀i,i<n->(Hu y L (j+1)).Flow[i]?.getD []=if w=i then (z.Flow[w]?.getD []).set u (x3 - 1) else if u=i then (z.Flow[u]?.getD []).set w (x1+1) else z.Flow[i]?.getD []:=by
    intro i O;rw[hN];simp only[NA,Lo,B0];by_cases h1:w=i
    .subst h1;rw[An rfl,Du (by rw[EZ,G.f];exact Q),AM,DK be,e3,AM];rfl
    .rw[Af h1,DK h1];by_cases h2:u=i
     .subst h2;rw[An rfl,Du (by rw[G.f];exact hu),AM,e1,AM]
     .rw[Af h2,DK h2]
   have hF:(Hu y L (j+1)).Room=z.Room:=by rw[hN];rfl
   refine⟨λi O=> ?_,λi O=> ?_⟩
   .rw[Af (by omega),Af (by omega)];show _=some (true,Ad.arr _ 1 (List.map Aj ((Hu y L (j+1)).Room[i]?.getD [])));rw[hF];exact eA _ _ _ _ O
   .show _=some (true,Ad.arr _ 1 (List.map Aj ((Hu y L (j+1)).Flow[i]?.getD [])));rw[hR i O];by_cases h1:w=i
    .subst h1;rw[An rfl,An rfl]
    .rw[Af (by omega),Af h1];by_cases h2:u=i
     .subst h2;rw[An rfl,An rfl]
     .rw[Af (by omega),Af h2];exact eF _ _ _ _ (by omega) O
  .have a8:j=L.length - 1:=by omega
   subst a8;obtain⟨m,hm⟩: ∃m,M - k=m+1:=⟨M - k - 1,by omega⟩;have ao: ¬Cx y n p q=[]:=by rw[<-hL];exact aa
   have e5:FT n p q (m+1) y=FT n p q m z+1:=by simp only[FT];rw[Af ao,<-hL,<-hz]
   have e6:Rh n p q (m+1) y=Rh n p q m z:=by simp only[Rh];rw[Af ao,<-hL,<-hz]
   rw[hm] at i5 i6;have ag:=(Qun i2 ac Z aq ad (v:=v) (by rw[show DV y=DV x by funext a b;simp only[DV,i3]];exact hv) hW).2;have bf:z.Room=x.Room:=by rw[hz,Ql3,i3]
   rw[show DV y=DV x by funext a b;simp only[DV,i3],<-hz] at ag;refine⟨⟨(k+1,z),by simp only;omega,G,bf,⟨_,ag⟩,by simp only;rw[show M - (k+1)=m by omega];omega,by simp only;rw[show M - (k+1)=m by omega,i6,e6]⟩,by simp only;omega,?_⟩;refine⟨by rw[AG (by omega) (by omega)];simp only;omega,?_⟩;simp only[lB,tJ];exact⟨(VD z n hn).ga,(VD z n hn).gb⟩
 .have aa:L=[]:=by
   cases L with
   |nil=>rfl
   |cons a r=>exact absurd rfl c1
  have Q:Cx y n p q=[]:=by rw[<-hL,aa]
  have z1: ∀m,FT n p q m y=0:=by
   intro m;cases m with
   |zero=>rfl
   |succ m=>simp only[FT];rw[An Q]
  have z2: ∀m,Rh n p q m y=y:=by
   intro m;cases m with
   |zero=>rfl
   |succ m=>simp only[Rh];rw[An Q]
  obtain⟨g1,g2,g3⟩:=ah (z1 _) (z2 _);exact⟨g1,g2,g3 _⟩
 simp only[sndC.H1,B6,AU,Bv,BD] at hp;obtain⟨i,O,rfl⟩:=hp;have aw:=sndC.n_le a;refine .inl ⟨by omega,by simp only[Ta,AS,Hy,E4];omega,?_⟩;simp only[Ao,sndC.H0];rw[(VD a.1 (sndC.n a) aw).gb i O];rfl
def Qwi(h:Nat->Option Au)(σ:Nat->Nat): ∀(a b:Av),CO h σ (a++b)↔CO h σ a/\CO h σ b
 |[],b=>by simp[CO]
 |(i,(z,e))::r,b=>by simp only[CT,CO,Qwi h σ r b,mV]
def Qt1{h:Nat->Option Au}{σ:Nat->Nat}{b n:Nat}{M:List (List Int)}(H: ∀i,i<n->h (σ (b+i))=some (true,.arr 2 1 ((M[i]?.getD []).map Aj))):CO h σ (B6 b n M):=by
 have: ∀(l:List Nat),(∀i∈l,i<n)->CO h σ (l.map λi=>(b+i,(true,Ad.arr 2 1 ((M[i]?.getD []).map Aj)))):=by
  intro l;induction l with
  |nil=>intro _;trivial
  |cons i r ih=>
   intro z;simp only[Bd,CO];exact⟨H i (z i (BT ..)),ih (λj O=>z j (BX _ O))⟩
 exact this _ (λi G=>BD.1 G)
def Qth{σ:Nat->Nat}{b n:Nat}{M:List (List Int)}(H: ∀i,i<n->σ (b+i)=b+i):AY σ (B6 b n M)=B6 b n M:=by
 have: ∀(l:List Nat),(∀i∈l,i<n)->AY σ (l.map λi=>(b+i,(true,Ad.arr 2 1 ((M[i]?.getD []).map Aj))))=l.map λi=>(b+i,(true,Ad.arr 2 1 ((M[i]?.getD []).map Aj))):=by
  intro l;induction l with
  |nil=>intro _;rfl
  |cons i r ih=>
   intro z;simp only[Bd,AY];rw[H i (z i (BT ..)),ih (λj O=>z j (BX _ O))];rfl
 exact this _ (λi G=>BD.1 G)
def zH{σ:Nat->Nat}{b n:Nat}(H: ∀i,i<n->σ (b+i)=b+i):(Dp b n).map (AL σ)=Dp b n:=by
 simp only[Dp,Rn];refine Oj λi z=> ?_
 simp only[Function.comp,AL,AV.ren,H i (BD.1 z)]
def Qzq(σ:Nat->Nat): ∀(a b:Av),AY σ (a++b)=AY σ a++AY σ b
 |[],b=>rfl
 |(i,(z,e))::r,b=>by simp only[CT,AY,Qzq σ r b]
def YH{σ:Nat->Nat}{x:Bc}{n:Nat}(hn:n<=64)(H: ∀j,j<300->σ j=j):AY σ (CD x n)=CD x n:=by
 simp only[CD,AY,Qzq,Ad.ren,AL,AV.ren,H 0 (by omega),H 1 (by omega),H 2 (by omega),zH (b:=100) (n:=n) (λi z=>H (100+i) (by omega)),zH (b:=200) (n:=n) (λi z=>H (200+i) (by omega)),Qth (b:=100) (n:=n) (λi z=>H (100+i) (by omega)),Qth (b:=200) (n:=n) (λi z=>H (200+i) (by omega))]
def KH{x:Bc}{n:Nat}(hn:n<=64){j:Nat}(h:Ao (CD x n) j=true):j<264/\(200<=j-> ∃i,i<n/\j=200+i)/\j∈[0,1,2]++((List.range n).map (100+ ·)++(List.range n).map (200+ ·)):=by
 have z:j∈[0,1,2]++((List.range n).map (100+ ·)++(List.range n).map (200+ ·)):=by
  have: ∀(H:Av),Ao H j=true->j∈Fh H:=by
   intro H;induction H with
   |nil=>intro h;simp[Ao,hget] at h
   |cons e r ih=>
    obtain⟨i,e⟩:=e;intro h;simp only[Ao,hget] at h;simp only[Fh,Bm];by_cases O:i=j
    .exact .inl O.symm
    .have:(i==j)=false:=by simpa using O
     rw[this] at h;exact .inr (ih h)
  have Z:=this _ h;simp only[CD,Fh,Qpf,B6,Z6] at Z;simpa using Z
 refine⟨?_,λG=> ?_,z⟩
 .have:=TB n hn j z
  rcases Bx.1 z with z|z
  .simp at z;omega
  .rcases Bx.1 z with z|z<;>obtain⟨i,Q,rfl⟩:=Bv.1 z<;>have:=BD.1 Q
   .show 100+i<264;omega
   .show 200+i<264;omega
 .rcases Bx.1 z with z|z
  .simp at z;omega
  .rcases Bx.1 z with z|z<;>obtain⟨i,Q,rfl⟩:=Bv.1 z<;>have:=BD.1 Q
   .have h3:200<=100+i:=G;omega
   .exact⟨i,this,rfl⟩
def OW{kill:List Nat}{nx cnt b n:Nat}{M:List (List Int)}(H: ∀i,i<n->kill.contains (b+i)=true/\b+i<nx):Hv kill nx cnt (B6 b n M)=true:=by
 have: ∀(l:List Nat),(∀i∈l,i<n)->Hv kill nx cnt (l.map λi=>(b+i,(true,Ad.arr 2 1 ((M[i]?.getD []).map Aj))))=true:=by
  intro l;induction l with
  |nil=>intro _;rfl
  |cons i r ih=>
   intro z;simp only[Bd,Hv,JV,AS,Hd,Hy,E4];exact⟨.inr (H i (z i (BT ..))),ih (λj O=>z j (BX _ O))⟩
 exact this _ (λi G=>BD.1 G)
def UQ{H:Nat->Option Au}{x:Bc}{nx:Nat}{K:Ah}{p q O:Int}(hH:T9 H x x.Room.length)(Q:UO (x,p,q,O))(aa:300<=nx)
 (hK: ∀E:Br,E.cnt=10->E.ok nx (.im (.int .i64 (FT x.Room.length p q O.toNat x)))=true->K (.im (.int .i64 (FT x.Room.length p q O.toNat x))) E):sndC.row [.ptr 0 0,.im (.int .i64 p),.im (.int .i64 q),.im (.int .i64 O)] H nx K:=by
 have hn:x.Room.length<=64:=Q.n;have G:sndC.n (x,p,q,O)=x.Room.length:=by simp only[sndC.n];omega
 have hσ: ∀j,j<300->Cm (λj=>j) 300 nx j=j:=λj Z=>An Z
 refine⟨(x,p,q,O),λj=>j,[0,1,2]++((List.range x.Room.length).map (100+ ·)++(List.range x.Room.length).map (200+ ·)),(List.range x.Room.length).map (200+ ·),Q,?_,?_,?_,?_⟩
 .simp only[sndC.ca,AL,AV.ren,hσ 0 (by omega)]
 .simp only[sndC.H0,G,CD,CO,Qwi,Ad.ren,AL,AV.ren,hσ 0 (by omega),hσ 1 (by omega),hσ 2 (by omega),zH (b:=100) (n:=x.Room.length) (λi z=>hσ (100+i) (by omega)),zH (b:=200) (n:=x.Room.length) (λi z=>hσ (200+i) (by omega))];exact⟨hH.g0,hH.g1,hH.g2,Qt1 (λi z=>by rw[hσ _ (by omega)];exact hH.ga i z),Qt1 (λi z=>by rw[hσ _ (by omega)];exact hH.gb i z)⟩
 .have hd: ∀j,Ao (sndC.H0 (x,p,q,O)) j=true->Ao (CD x x.Room.length) j=true:=λj h=>by simpa only[sndC.H0,G] using h
  refine⟨λi j _ _ h=>h,λj Z=> ?_,λj Z=>(KH hn (hd j Z)).2.2,λm hm=> ?_,λj Z hk=> ?_⟩
  .have:=(KH hn (hd j Z)).1
   omega
  .obtain⟨i,z,rfl⟩:=Bv.1 hm
   have:=BD.1 z
   refine⟨200+i,?_,aY i (by omega),rfl⟩;simp only[Ao,sndC.H0,G];rw[(VD x _ hn).gb i this];rfl
  .simp only[Ta,AS,Hy,E4] at hk;obtain⟨i,z,rfl⟩:=(KH hn (hd j Z)).2.1 hk.1;exact Bv.2 ⟨i,BD.2 z,rfl⟩
 .have e:(sndC.r0 (x,p,q,O)).ren (Cm (λj=>j) 300 nx)= .im (.int .i64 (FT x.Room.length p q O.toNat x)):=by simp only[sndC.r0,G,AV.ren]
  rw[e];refine hK _ rfl ?_;simp only[Br.ok,AV.bel,Eb,sndC.H1,G];rw[Qth (λi z=>hσ _ (by omega)),AS];refine⟨Rb _ _ _ (λi=>rfl) _,OW λi z=>⟨?_,by omega⟩⟩;rw[HK];exact Bv.2 ⟨i,BD.2 z,rfl⟩
def Qu2(cnt:Nat): ∀(H:Av),(∀p∈H,p.1<cnt)->Hv [] 0 cnt H=true
 |[],_=>rfl
 |(i,e)::r,h=>by
  have z:=h (i,e) (BT ..);simp only at z;simp only[Hv,JV,Qu2 cnt r (λp hp=>h p (BX _ hp)),F7,Hd,AS,Hy,E4];exact .inl ⟨by omega,by omega⟩
def TA{x:Bc}{n:Nat}(r:AV)(hn:n<=64)(z:r.bel 320=true){use:List Nat}:Br.ok {use:=use,kill:=[],new:=CD x n,cnt:=320} 0 r=true:=by
 simp only[Br.ok,FV,z,Eb,AS];refine⟨?_,Qu2 _ _ λp hp=>by have:=K4 _ (M3 hn hp).1;omega⟩;simp only[CD,Ac,sY,B6];rw[Rb _ _ _ (λi=>rfl),Rb _ _ _ (λi=>rfl),WK _ _ _ (by omega),WK _ _ _ (by omega)];rfl
def Qt8(n:Nat)(bs:List Ag)(t:Int)(k:Nat)(h:Rc n bs t k=false): ∀m,Rc n bs t (k+m)=false
 |0=>h
 |m+1=>by rw[show k+(m+1)=k+m+1 by omega,Rc,Qt8 n bs t k h m,F6]
def uZ(n:Int)(bs:List Ag)(t:Int):Bool:=Rc n.toNat bs t (n.toNat - 1)
def holds_.fv(a:Int×(List Ag)×Int):Bool:=(uZ) (a.1) (a.2.1) (a.2.2)
def holds_.row:AA:=vK (b3 qI (qS Ag.d_le Ag.c_n) qI) rB (λa=>M4 (a.1,a.2.1)/\0<=a.2.2/\a.2.2<=1000000) holds_.fv
def holds_.q:=AT (R:=holds_.row) rfl
def holds_.ok:AB Tryz.prog 247 holds_.row:=by
 refine vw (tC nwC.ok (tC sndC.ok tN)) Tryz.func247 rfl (by kernel_rfl) ?_;intro a ac;simp only[Tryz.f247];simp(disch:=omega)only[ZA,simprocAttr,holds_.fv];obtain⟨hp,ad,af⟩:=ac;obtain⟨h0,h1,hl,z,G,O⟩:=hp;simp only at h0 h1 hl z G O;obtain⟨n,hn⟩: ∃n:Nat,a.1=n:=⟨a.1.toNat,by omega⟩;obtain⟨bs,hbsd⟩: ∃bs,bs=a.2.1:=⟨_,rfl⟩;obtain⟨t,ht⟩: ∃t,t=a.2.2:=⟨_,rfl⟩;simp only[hn,<-hbsd,<-ht,uZ,B0] at h0 h1 hl z G O ad af⊢;have Q:M4 ((n:Int),bs):=⟨h0,h1,hl,z,G,O⟩;refine AP.old ⟨{k:Nat//(k=0\/k+1<=n)/\Rc n bs t k=true},λk=>⟨[(7,.im (.int .i64 ((k.1:Int)+1))),(0,.im (.int .i64 n)),(1,.im (.sl false 3 (bs.map Ag.c))),(2,.im (.int .i64 t))],[],0⟩,λk=>n - k.1,λk=>⟨by simp[Ai.good,Am,Ac,A8,AV.bel],by simp⟩,⟨⟨0,.inl rfl,rfl⟩,by simp(disch:=omega)only[ZA,simprocAttr,sub]⟩,λk=> ?_⟩;obtain⟨k,aa,ab⟩:=k;simp(disch:=omega)only[ZA,simprocAttr,AO];refine⟨λhk=> ?_,λhk=> ?_⟩
 .refine AE.os ((n:Int),bs) [] Q (λj=>by simp[Ao,hget]) rfl rfl ?_ ?_
  .simp(disch:=omega)only[ZA,simprocAttr,nwC.ca]
  .have e1:AY (Cm (Iz []) 0 0) (nwC.H1 ((n:Int),bs))=CD (DH n bs) n:=by
    simp only[nwC.H1,B0];rw[ZeW (by omega)];exact YH (by omega) (λj _=>by simp[Cm])
   rw[e1];refine⟨TA _ (by omega) rfl,?_⟩;simp(disch:=omega)only[ZA,simprocAttr,BB];have Z:(DH n bs).Room.length=n:=(WR z bs.length).1.r;have hI:=VD (DH n bs) n (by omega);rw[show hget (CD (DH n bs) n)=hget (CD (DH n bs) n) from rfl];refine UQ (x:=DH n bs) (by rw[Z];exact hI) ?_ (by omega) (λE ai ag=> ?_)
   .refine⟨by simp only;omega,by simp only[Z];exact (WR z bs.length).1,by simp,by simp only[Z];omega,by simp only;omega,by simp only[Z];omega,by simp only;omega,ad,af,⟨0,by simp only[Z];exact nZ z G _ _⟩,λu v=> ?_⟩
    have:=(Qrm z G u v bs.length).2
    simp only[DH];omega
   .refine⟨ag,?_⟩;rw[Z];obtain⟨sv,hsv⟩: ∃sv,sv=FT n 0 ((k:Int)+1) t.toNat (DH n bs):=⟨_,rfl⟩;rw[<-hsv];have hs:Rc n bs t (k+1)=(Rc n bs t k && decide (t<=sv)):=by rw[hsv];rfl
    rw[ab,Eb] at hs;simp(disch:=omega)only[ZA,simprocAttr,Ai.app,sub,AO];refine⟨λah=> ?_,λah=>⟨⟨k+1,.inr (by omega),by rw[hs];exact vQ (by omega)⟩,by simp only;omega,by rw[AG (by omega) (by omega)];simp only;omega⟩⟩;have h9:=Qt8 n bs t (k+1) (by rw[hs];exact aK (by omega)) (n - 1 - (k+1));rw[show k+1+(n - 1 - (k+1))=n - 1 by omega] at h9;exact h9.symm
 .rcases aa with rfl|aa
  .rw[show n - 1=0 by omega];rfl
  .rw[show n - 1=k by omega];exact ab.symm
def Kh(t:Int)(b:Ag):Bool:=decide (b.Strength<t)
def CT1.fv(a:Ag×Int):Bool:=(λb t=>Kh t b) (a.1) (a.2)
def CT1.row:AA:=CR (b2 (qR Ag.d_le) (qP 1 Da)) rB (λa=>True) CT1.fv
def CT1.q:=CY (R:=CT1.row) rfl
def CT1.ok:AB Tryz.prog 268 CT1.row:=by
 refine Fy tN Tryz.func268 rfl (by kernel_rfl) ?_;intro a z;simp only[Tryz.f268];simp(disch:=omega)only[ZA,simprocAttr,CT1.fv,D.sc,D.scs,Bn];rfl
def IdxB.ar:List PK->Option ((List Ag)×Int)
 |[.val (.sl _ _ G),.val (.fn 268 [] [.ref [.int .i64 z]])]=>(AR Ag.d G).bind λO=>some (O,z)
 |_=>none
def IdxB.ae(a:(List Ag)×Int):List PK:=[.val (.sl false 3 (a.1.map Ag.c)),.val (.fn 268 [] [.ref [.int .i64 a.2]])]
def IdxB.le: ∀z a,IdxB.ar z=some a->BN z (IdxB.ae a):=by
 intro z a h;unfold IdxB.ar at h;split at h
 .simp only[Ef,AJ] at h;obtain⟨G,h0,rfl⟩:=h;exact⟨Dn (Dd Ag.d_le _ _ h0) (by simp only[Bv];rintro r ⟨y,_,rfl⟩;rfl),VF ⟨Le.refl _,trivial⟩,trivial⟩
 .cases h
def IdxB.fv(a:(List Ag)×Int):Int:=(λl t=>Bs (Kh t) 0 l) (a.1) (a.2)
def IdxB.row:AA:=Lm IdxB.ar (λa=>True) (λa=>(D.int .i64) (IdxB.fv a))
def IdxB.q:=yG IdxB.row rfl
def IdxB.ok:AB Tryz.prog 285 IdxB.row:=by
 refine rX CZ (tC CT1.ok tN) Tryz.func285 rfl (by kernel_rfl) (by kernel_rfl) (ar:=IdxB.ar) (ae:=IdxB.ae) IdxB.le (n:=2) (λ_=>rfl) (by decide) (rc:=(DJ)) (re:=(D.int .i64)) (N7) (f:=IdxB.fv) ?_;intro a O;simp only[Tryz.f285];simp(disch:=omega)only[ZA,simprocAttr,IdxB.ae,IdxB.fv];intro hn;refine AP.old ⟨{k:Nat//k<=a.1.length/\Bs (Kh a.2) k (a.1.drop k)=Bs (Kh a.2) 0 a.1},λk=>⟨[(8,.im (.int .i64 k.1)),(7,.im (.int .i64 a.1.length)),(6,.im (.sl false 3 (a.1.map Ag.c))),(4,.im (.int .i64 0)),(0,.im (.sl false 3 (a.1.map Ag.c))),(1,.im (.fn 268 [] [.ref [.int .i64 a.2]]))],[],0⟩,λk=>a.1.length - k.1,λk=>⟨by simp[Ai.good,Am,Ac,A8,AV.bel],AQ _⟩,⟨⟨0,by simp⟩,by simp(disch:=omega)only[ZA,simprocAttr,sub]⟩,λk=> ?_⟩;obtain⟨k,Q,z⟩:=k;simp(disch:=omega)only[ZA,simprocAttr,Cl,CT1.q,CT1.fv,D.sc,D.scs,Bn,sub,AO];refine⟨λG=>⟨G,λx Z=> ?_⟩,λG=> ?_⟩
 .rw[EW Z,Bs] at z;refine⟨λh=> ?_,λh=>Gi G hn ⟨by omega,by rw[<-z,Af (by simpa using h)]⟩⟩;rw[An (by simpa using h)] at z;exact z
 .rw[Dr (by omega),Bs] at z;exact z
def Qu3{t:Int}{l:List Ag}{i:Nat}{b:Ag}(Q:l.find? (Kh t)=some b)(Z:Bs (Kh t) 0 l=(i:Int))(h3:l[i]? =some b):GC t (l.take (i+1))=l.take i:=by
 have hw:Kh t b=true:=Rp Q;have G: ∀(l:List Ag) (o i:Nat),Bs (Kh t) o l=((o+i:Nat):Int)-> ∀x∈l.take i,Kh t x=false:=by
  intro l;induction l with
  |nil=>intro o i _ x z;simp at z
  |cons y r ih=>
   intro o i h x z;cases i with
   |zero=>simp at z
   |succ i=>
    simp only[Bs] at h;split at h
    .omega
    .rename_i hy;rw[Lr] at z;rcases Bm.1 z with rfl|z
     .simpa using hy
     .exact ih (o+1) i (by rw[h];congr 1;omega) x z
 rw[Iq,h3,vW,GC,vV];have O:(l.take i).filter (λb=>decide (t<=b.Strength))=l.take i:=by
  rw[mL];intro x z
  have:=G l 0 i (by rw[Z];simp) x z
  simp only[Kh,Kt] at this;simp only[BL];omega
 simp only[Kh,BL] at hw;rw[O,mH (by simp;omega),ZeQ,D8]
def dlC.ca(a:List Ag×Int):List AV:=[.own 0,.im (.fn 268 [] [.ref [.int .i64 a.2]])]
def dlC.H0(a:List Ag×Int):Av:=[(0,(true,.arr 318 3 (a.1.map Ag.c)))]
def dlC.H1(a:List Ag×Int):Av:=[(1,(true,.arr 318 3 ((GC a.2 a.1).map Ag.c)))]
def dlC.row:AA:=AE dlC.ca dlC.H0 1 (λa=>a.1.length<=1000000) (λj=>j==0) (λ_=> .own 1) dlC.H1 1000
def dlC.ok:AB Tryz.prog 266 dlC.row:=by
 refine M8 (tC IdxB.ok (tC CT1.ok tN)) Tryz.func266 rfl (by kernel_rfl) (exB:=λj=>j==1) (R:=λ_ r=>r= .own 1) (λ_=>rfl)
  (λa=>by simp[dlC.ca,dlC.H0,Aq,AV.bel,Ac,A8,BO,Ad.nms,Ao,hget]) (λa p hp=> ?_) (λa r h=>by subst h;exact CF.refl _) ?_
 rotate_left
 intro a Q;simp only[Tryz.f266,dlC.ca,dlC.H0,dlC.H1];simp(disch:=omega)only[ZA,simprocAttr,Cl,IdxB.q,IdxB.ar,IdxB.fv,Fe];rcases QW (Kh a.2) a.1 0 with ⟨Z,O⟩|⟨i0,b0,Z,O,e3⟩
 .rw[O,An rfl];refine⟨[],[(1,some 0)],⟨[(4,.own 1)],[(1,(true,.arr 318 3 (a.1.map Ag.c)))],2⟩,?_,by simp[Ai.good,Am,Ac,A8,AV.bel],by simp,?_⟩
  .simp only[Ay];simp(disch:=omega)only[ZA,simprocAttr]
  .simp(disch:=omega)only[ZA,simprocAttr]
   have:GC a.2 a.1=a.1:=by
    rw[GC,mL];intro b hb
    have:=aB.1 Z b hb
    simp only[Kh,BL] at this⊢;omega
   rw[this]
 .rw[FV] at O;rw[O,Af (by omega)];have aa:=(Ce.1 e3).1;rw[AG (by omega) (by omega)];obtain⟨l,hl⟩: ∃l,l=a.1:=⟨_,rfl⟩;obtain⟨t,ht⟩: ∃t,t=a.2:=⟨_,rfl⟩;simp only[<-hl,<-ht] at Z O e3 aa Q⊢;refine AP.old ⟨{j:Nat//j<=l.length},λj=>⟨[(6,.im (.int .i64 j.1)),(5,.im (.int .i64 (GC t (l.take j.1)).length)),(0,.own 0),(1,.im (.fn 268 [] [.ref [.int .i64 t]]))],[(0,(true,.arr 318 3 ((GC t (l.take j.1)++l.drop (GC t (l.take j.1)).length).map Ag.c)))],2⟩,λj=>l.length - j.1,λj=>⟨by simp[Ai.good,Am,Ac,A8,AV.bel],by simp⟩,⟨⟨i0+1,by omega⟩,?_⟩,λj=> ?_⟩
  .have h1:=Qu3 Z O e3;simp(disch:=omega)only[ZA,simprocAttr,sub,h1,Cf];rw[show min i0 l.length=i0 by omega,Oi];exact⟨⟨by omega,rfl⟩,rfl⟩
  obtain⟨j,hj⟩:=j;obtain⟨kp,hkp⟩: ∃kp,kp=GC t (l.take j):=⟨_,rfl⟩;have ac:kp.length<=j:=by
   have:=Qln t (l.take j)
   rw[Cf] at this;rw[hkp];omega
  have af:(kp++l.drop kp.length).length=l.length:=by simp;omega
  simp only[<-hkp];simp(disch:=omega)only[ZA,simprocAttr,Cl,CT1.q,CT1.fv,sub,AO,af];intro _;refine⟨λG=>⟨G,G,λb hb=> ?_⟩,λG=> ?_⟩
  .have ad:l[j]? =some b:=by
    rw[F4 ac,Iv,show kp.length+(j - kp.length)=j by omega] at hb;exact hb
   have z:=Qjs t ad;rw[<-hkp] at z;refine⟨λhw=>⟨by omega,by omega,λc _=>⟨⟨j+1,by omega⟩,by simp only;omega,?_⟩⟩,λhw=>⟨⟨j+1,by omega⟩,by simp only;omega,?_⟩⟩
   .have hs:t<=b.Strength:=by
     simp only[Kh,Kt] at hw;omega
    rw[An hs] at z;simp only[z,Dq,CP,Hf];refine⟨⟨by rw[AG (by omega) (by omega)];omega,by rw[AG (by omega) (by omega)];omega⟩,?_⟩;have h1:(kp++l.drop kp.length).set kp.length b=kp++[b]++l.drop (kp.length+1):=by
     obtain⟨c,hc⟩: ∃c,l[kp.length]? =some c:=⟨_,Bk (by omega)⟩;rw[EW hc,mJ _ _ (AQ _),Hi,aD,Hw];rfl
    rw[<-h1,Ly];rfl
   .have hs: ¬t<=b.Strength:=by
     rw[FW] at hw;simp only[Kh,BL] at hw;omega
    rw[Af hs,D8] at z;simp only[z];exact⟨⟨by rw[AG (by omega) (by omega)];omega,trivial⟩,trivial⟩
  .refine⟨by omega,false,?_⟩;have ab:j=l.length:=by omega
   subst ab;rw[Gs] at hkp;simp(disch:=omega)only[ZA,simprocAttr];have hA:List.take kp.length ((kp++l.drop kp.length).map Ag.c)=kp.map Ag.c:=by
    rw[<-List.map_take,ZeC]
   rw[hA];refine⟨by simp only[Dq,He];omega,true,?_⟩;simp(disch:=omega)only[ZA,simprocAttr,Fe];refine⟨[],[(1,some 2)],⟨[(4,.own 1)],[(1,(true,.arr 318 3 (kp.map Ag.c)))],2⟩,?_,by simp[Ai.good,Am,Ac,A8,AV.bel],by simp,?_⟩
   .simp only[Ay];simp(disch:=omega)only[ZA,simprocAttr];rw[show ((kp.length:Int) - 0).toNat=(kp.map Ag.c).length by simp,Hw,ZeC]
   .simp(disch:=omega)only[ZA,simprocAttr,hkp]
 simp[dlC.H1] at hp;subst hp;exact .inr ⟨by omega,by omega,rfl,rfl⟩
def Mm(b i:Nat)(x:Int):AV:=if 0<=x/\x<i then .ptr (b+x.toNat) 0 else .im .nilp
def Hz(b:Nat)(L:List Int)(i:Nat):Au:=(true,.cells 369 [Mm b i (L[i]?.getD (-1)),.im (.int .i64 i)])
def E5(b:Nat)(L:List Int)(n:Nat):Av:=AU b n (Hz b L)
def G0(L:List Int):Prop:= ∀(i:Nat) (x:Int),L[i]? =some x->x<i
def Od(L:List Int)(i:Nat):Nat->Nat
 |0=>i
 |m+1=>if L[i]?.getD (-1)<0 then i else Od L (L[i]?.getD (-1)).toNat m
def Ez(L:List Int)(i:Nat):Nat:=Od L i i
def Qabj{L:List Int}(h:G0 L): ∀(i m m':Nat),i<=m->i<=m'->Od L i m=Od L i m':=by
 intro i;induction i using Nat.strongRecOn with
 |_ i ih=>
  intro m m' z G;cases hi:L[i]? with
  |none=>
   cases m<;>cases m'<;>simp[Od,hi]
  |some x=>
   have O:=h i x hi;by_cases h0:x<0
   .cases m<;>cases m'<;>simp[Od,hi,h0]
   .cases m with
    |zero=>omega
    |succ m=>
     cases m' with
     |zero=>omega
     |succ m'=>
      simp only[Od,hi,AM,Af h0];exact ih x.toNat (by omega) m m' (by omega) (by omega)
def Z4{L:List Int}(h:G0 L){i:Nat}{x:Int}(z:L[i]? =some x):Ez L i=if x<0 then i else Ez L x.toNat:=by
 have G:=h i x z;by_cases h0:x<0
 .rw[An h0,Ez];cases i with
  |zero=>rfl
  |succ i=>simp only[Od,z,AM,An h0]
 .rw[Af h0,Ez];cases i with
  |zero=>omega
  |succ i=>
   simp only[Od,z,AM,Af h0];exact Qabj h _ _ _ (by omega) (AQ _)
def Qnj{L:List Int}(h:G0 L): ∀(i:Nat),Ez L i<=i:=by
 intro i;induction i using Nat.strongRecOn with
 |_ i ih=>
  cases hi:L[i]? with
  |none=>rw[Ez];cases i<;>simp[Od,hi]
  |some x=>
   rw[Z4 h hi];have z:=h i x hi;split
   .exact AQ _
   .have:=ih x.toNat (by omega);omega
def firC.n(a:List Int×Nat):Nat:=min a.1.length 512
def firC.ca(a:List Int×Nat):List AV:=[.ptr (min a.2 511) 0]
def firC.H0(a:List Int×Nat):Av:=E5 0 a.1 (firC.n a)
def firC.r0(a:List Int×Nat):AV:= .ptr (Ez a.1 a.2) 0
def firC.pre(a:List Int×Nat):Prop:=a.1.length<=512/\a.2<a.1.length/\G0 a.1
def firC.row:AA:=AE firC.ca firC.H0 600 firC.pre (λ_=>false) firC.r0 (λ_=>[]) 0
def firC.hbel(a:List Int×Nat):Aq 600 (firC.ca a)=true:=by
 simp only[firC.ca,Aq,AV.bel,F7,E4];omega
def Qt5(nx b:Nat)(f:Nat->Au)(n:Nat)(hf: ∀i,i<n->Ac nx [(b+i,f i)]=true):Ac nx (AU b n f)=true:=by
 have: ∀(l:List Nat),(∀i∈l,i<n)->Ac nx (l.map λi=>(b+i,f i))=true:=by
  intro l;induction l with
  |nil=>intro _;rfl
  |cons i r ih=>
   intro z;rw[Bd,show (b+i,f i)::(r.map λi=>(b+i,f i))=[(b+i,f i)]++(r.map λi=>(b+i,f i)) from rfl,sY,hf i (z i (BT ..)),ih (λj O=>z j (BX _ O))];rfl
 exact this _ (λi G=>BD.1 G)
def Yl(b i N:Nat)(x:Int)(h:b+i<=N):(Mm b i x).bel N=true:=by
 simp only[Mm];split
 .simp only[AV.bel,E4];omega
 .rfl
def tQ(b n N:Nat)(L:List Int)(h:b+n<=N):Ac N (E5 b L n)=true:=Qt5 _ _ _ _ λi z=>by
 simp only[Hz,Ac,Aq,Yl b i N _ (by omega),AV.bel,gB]
def firC.n_le(a:List Int×Nat):firC.n a<=512:=gG _ _
def firC.hbH(a:List Int×Nat):Ac 600 (firC.H0 a)=true:=tQ _ _ _ _ (by have:=firC.n_le a;omega)
def firC.hkH(a:List Int×Nat):A8 600 (firC.H0 a)=true:=QQ _ _ _ _ (by have:=firC.n_le a;omega)
def Kc(b n:Nat)(L:List Int)(i:Nat)(h:i<n):hget (E5 b L n) (b+i)=some (Hz b L i):=HE _ _ _ _ h
def oY{H0:Av}{b n:Nat}{f:Nat->Au}(h: ∀i,i<n-> ∀m∈(f i).2.nms,Ao H0 m=true):BO H0 (AU b n f):=by
 have: ∀(l:List Nat),(∀i∈l,i<n)->BO H0 (l.map λi=>(b+i,f i)):=by
  intro l;induction l with
  |nil=>intro _;trivial
  |cons i r ih=>
   intro z;simp only[Bd];exact⟨h i (z i (BT ..)),ih (λj O=>z j (BX _ O))⟩
 exact this _ (λi G=>BD.1 G)
def firC.hnm(a:List Int×Nat):BO (firC.H0 a) (firC.H0 a):=by
 refine oY λi G m z=> ?_
 simp only[Hz,Ad.nms,AH,Mm] at z;split at z
 .simp only[AV.nms,D8,BK] at z;subst z;rename_i h;simp only[Ao,firC.H0];rw[Kc 0 _ _ _ (by omega)];rfl
 .simp[AV.nms] at z
def PI(s:Ai)(b n:Nat)(f:Nat->Au):Cb s (AU b n f)= ∀i,i<n->hget s.h (b+i)=some (f i):=by
 have: ∀(l:List Nat),Cb s (l.map λi=>(b+i,f i))↔ ∀i∈l,hget s.h (b+i)=some (f i):=by
  intro l;induction l with
  |nil=>simp[Cb]
  |cons i r ih=>simp only[Bd,Cb,ih,Bm,Zed]
 apply propext;rw[AU,this];simp only[BD]
def tV{s:Ai}{b n:Nat}{L:List Int}(h: ∀i,i<n->hget s.h (b+i)=some (Hz b L i)):Cb s (E5 b L n):=by
 rw[E5,PI];exact h
def firC.ok:AB Tryz.prog 284 firC.row:=by
 refine ow tN Tryz.func284 rfl (by kernel_rfl) (exB:=λ_=>false) (R:=λa r=>r=firC.r0 a) (λ_=>rfl)
  (λa=>⟨firC.hbel a,firC.hbH a,firC.hkH a,firC.hnm a⟩) (λa p hp=> ?_) (λa r h=>by subst h;exact CF.refl _) ?_
 rotate_left
 intro a Z;simp only[Tryz.f284,firC.ca];simp(disch:=omega)only[ZA,simprocAttr];obtain⟨L,i⟩:=a;obtain⟨h1,h2,h3⟩:=Z;simp only at h1 h2 h3;obtain⟨n,hn⟩: ∃n,n=L.length:=⟨_,rfl⟩;have ab:firC.n (L,i)=n:=by simp only[firC.n,<-hn];omega
 simp only[firC.H0,firC.r0,ab,BB];rw[<-hn] at h1 h2;rw[show min i 511=i by omega];refine AP.old ⟨{g:Nat//g<n/\Ez L g=Ez L i},λg=>⟨[(0,.ptr g.1 0)],E5 0 L n,600⟩,λg=>g.1,λg=>⟨?_,by simp⟩,⟨⟨i,h2,rfl⟩,?_⟩,λg=> ?_⟩
 .simp only[Ai.good,Am,AV.bel,F7,AS,E4];exact⟨by omega,tQ _ _ _ _ (by omega),QQ _ _ _ _ (by omega)⟩
 .simp only[sub,G6,AF];refine⟨?_,tV (λi Q=>Kc 0 n L i Q)⟩;simp(disch:=omega)only[ZA,simprocAttr]
 obtain⟨g,hg,hr⟩:=g;obtain⟨x,hx⟩: ∃x,L[g]? =some x:=⟨_,Bk (by omega)⟩;have ac:=h3 g x hx;have z:=Kc 0 n L g hg;rw[FV] at z;simp only[Hz,hx,AM] at z;have aa:=Z4 h3 hx;by_cases h0:x<0
 .have G:Mm 0 g x= .im .nilp:=Af (by omega);rw[G] at z;simp(disch:=omega)only[ZA,simprocAttr,z,BB];rw[An h0] at aa;exact⟨by omega,by omega,by omega,by omega,by omega,Qxi _ _ _ _ _ (λi Q=> .inr (Kc 0 n L i Q)),by omega⟩
 .have G:Mm 0 g x= .ptr x.toNat 0:=by simp only[Mm];rw[An ⟨by omega,ac⟩,FV]
  rw[G] at z;have O:=Kc 0 n L x.toNat (by omega);rw[FV] at O;simp(disch:=omega)only[ZA,simprocAttr,sub,z,O,BB];rw[Af h0] at aa;exact⟨by omega,by omega,by omega,by omega,by omega,by omega,by omega,by omega,by omega,⟨x.toNat,by omega,by omega⟩,by simp only;omega,rfl,tV (λi Q=>Kc 0 n L i Q)⟩
 simp at hp
def Ke(b n k:Nat):List (List AV):=(List.range n).map λi=>if i<k then [AV.ptr (b+i) 0] else [.im .nilp]
def Z0(b n k:Nat):(Ke b n k).length=n:=by simp[Ke]
def zF(b n k i:Nat)(h:i<n):(Ke b n k)[i]? =some (if i<k then [.ptr (b+i) 0] else [.im .nilp]):=by simp[Ke,HN h]
def Qtr(b n k i:Nat)(K:List AV->Prop)(h:i<n):J1 (Ke b n k) i K=K (if i<k then [.ptr (b+i) 0] else [.im .nilp]):=by
 apply propext;unfold J1;rw[zF b n k i h];exact⟨λh=>h _ rfl,λh row z=>by obtain rfl:=AD z;exact h⟩
def zR(b n k N:Nat)(h:b+k<=N):(Ke b n k).all (Aq N)=true:=by
 rw[D3];intro r z;obtain⟨i,G,rfl⟩:=Bv.1 z;split
 .simp[Aq,AV.bel];omega
 .simp[Aq,AV.bel]
def Qnw(b n N:Nat)(L:List Int)(h:b+n<=N):A8 N (E5 b L n)=true:=QQ _ _ _ _ h
def Pv(b n:Nat)(π:List (Nat×Option Nat)):GJ π (Ke b n 0) (Bq (List.replicate n [.nilp])):=by
 have e:Ke b n 0=Bq (List.replicate n [.nilp]):=by
  simp only[Ke,Bq,mP,CK,List.map_replicate];rw[List.map_const',aH];rfl
 rw[e];exact Qzo _ _
def Ym{σ:Nat->Nat}{i:Nat}{x:Int}(h: ∀j,j<i->σ j=1000+j):(Mm 0 i x).ren σ=Mm 1000 i x:=by
 simp only[Mm];split
 .simp only[AV.ren,FV];rw[h _ (by omega)]
 .rfl
def Wp{h:Nat->Option Au}{σ:Nat->Nat}{b n:Nat}{f:Nat->Au}(H: ∀i,i<n->h (σ (b+i))=some ((f i).1,(f i).2.ren σ)):CO h σ (AU b n f):=by
 have: ∀(l:List Nat),(∀i∈l,i<n)->CO h σ (l.map λi=>(b+i,f i)):=by
  intro l;induction l with
  |nil=>intro _;trivial
  |cons i r ih=>
   intro z;simp only[Bd];exact⟨H i (z i (BT ..)),ih (λj O=>z j (BX _ O))⟩
 exact this _ (λi G=>BD.1 G)
def XX{n:Nat}{L:List Int}{j:Nat}(h:Ao (E5 0 L n) j=true):j<n:=by
 simp only[Ao,E5,lW] at h;split at h
 .omega
 .cases h
def Qtp{H:Nat->Option Au}{L:List Int}{k nx u:Nat}{K:Ah}(Q:L.length=k)(hk:k<=512)(G:G0 L)(hu:u<k)(aa:2000<=nx)(hH: ∀i,i<k->H (1000+i)=some (Hz 1000 L i))
 (O: ∀U,K (.ptr (1000+Ez L u) 0) {use:=U}):firC.row [.ptr (1000+u) 0] H nx K:=by
 have hσ: ∀j,j<600->Cm (λj=>1000+j) 600 nx j=1000+j:=λj z=>An z
 have hn:firC.n (L,u)=k:=by simp only[firC.n,Q];omega
 have hr:=Qnj G u;refine⟨(L,u),λj=>1000+j,(List.range k).map (1000+ ·),[],⟨by simp only;omega,by simp only;omega,G⟩,?_,?_,?_,?_⟩
 .simp only[firC.ca,AL,AV.ren];rw[show min u 511=u by omega,hσ u (by omega)]
 .simp only[firC.H0,hn,E5];refine Wp λi Z=> ?_
  rw[FV,hσ i (by omega),hH i Z];simp only[Hz,Ad.ren,AL,AV.ren];rw[Ym (λj z=>hσ j (by omega))]
 .have hd: ∀j,Ao (firC.H0 (L,u)) j=true->j<k:=λj z=>by simp only[firC.H0,hn] at z;exact XX z
  refine⟨λi j _ _ h=> ?_,λj z=> ?_,λj z=> ?_,λm hm=>(by cases hm),λj _ z=>(by cases z)⟩
  .have h:1000+i=1000+j:=h;omega
  .have:=hd j z
   show 1000+j<nx;omega
  exact Bv.2 ⟨j,BD.2 (hd j z),rfl⟩
 .have e:(firC.r0 (L,u)).ren (Cm (λj=>1000+j) 600 nx)= .ptr (1000+Ez L u) 0:=by
   simp only[firC.r0,AV.ren];rw[hσ _ (by omega)]
  rw[e];exact O _
def Qug(k:Nat):G0 (List.replicate k (-1)):=by
 intro i x h
 have:=Ol (AZ h)
 omega
def zG: ∀(k i:Nat),i<k->(Xg k)[i]? =some (i:Int)
 |0,i,h=>by omega
 |k+1,i,h=>by
  simp only[Xg];by_cases z:i<k
  .rw[ED (by rw[eG];exact z)];exact zG k i z
  .have:i=k:=by omega
   subst this;rw[F4 (by rw[eG];exact AQ _),eG,Hi];rfl
def Pg{k i:Nat}{bs:List Ag}(h:i<k):(Cg k bs 0)[i]? =some ((Ez (List.replicate k (-1)) i:Nat):Int):=by
 simp only[Cg];rw[zG k i h]
 have:=Z4 (Qug k) (i:=i) (x:= -1) (by rw[Ls,An h])
 rw[this,An (by omega)]
def Qls{L:List Int}(h:G0 L): ∀(i:Nat),Ez L (Ez L i)=Ez L i:=by
 intro i;induction i using Nat.strongRecOn with
 |_ i ih=>
  cases hi:L[i]? with
  |none=>
   have:Ez L i=i:=by rw[Ez];cases i<;>simp[Od,hi]
   rw[this,this]
  |some x=>
   have z:=h i x hi;rw[Z4 h hi];split
   .rename_i h0;rw[Z4 h hi,An h0]
   .exact ih x.toNat (by omega)
def Qsx{L:List Int}(h:G0 L){p q:Nat}(O:p<q):G0 (L.set q (p:Int)):=by
 intro i x z;by_cases hq:q=i
 .subst hq;have G:q<L.length:=by have:=(Ce.1 z).1;simpa using this
  rw[Du G] at z;obtain rfl:=AD z;omega
 .rw[DK hq] at z;exact h i x z
def Qqx{L:List Int}(h:G0 L){p q:Nat}(hp:Ez L p=p)(hq:Ez L q=q)(G:p<q)(O:q<L.length): ∀(i:Nat),Ez (L.set q (p:Int)) i=if Ez L i=q then p else Ez L i:=by
 have h':=Qsx h G;intro i;induction i using Nat.strongRecOn with
 |_ i ih=>
  by_cases z:q=i
  .subst z;have e:(L.set q (p:Int))[q]? =some (p:Int):=Du O;rw[Z4 h' e,Af (by omega),B0,ih p G,hp,Af (by omega),hq,An rfl]
  .have e:(L.set q (p:Int))[i]? =L[i]? :=DK z;cases hi:L[i]? with
   |none=>
    have Q:Ez L i=i:=by rw[Ez];cases i<;>simp[Od,hi]
    have r2:Ez (L.set q (p:Int)) i=i:=by rw[Ez];cases i<;>simp[Od,e,hi]
    rw[Q,r2,Af (EK z)]
   |some x=>
    have Z:=h i x hi;rw[hi] at e;rw[Z4 h' e,Z4 h hi];by_cases h0:x<0
    .rw[An h0,An h0,Af (EK z)]
    .rw[Af h0,Af h0];exact ih x.toNat (by omega)
def Mi{x y:Nat}(h:x<y)(r:Nat):J2 (x:Int) (y:Int) (r:Int)=((if r=y then x else r:Nat):Int)/\J2 (y:Int) (x:Int) (r:Int)=((if r=y then x else r:Nat):Int):=by
 have m1:Et (x:Int) y=y:=Af (by omega);have G:Et (y:Int) x=y:=An (by omega);have O:EO (x:Int) y=x:=An (by omega);have Q:EO (y:Int) x=x:=Af (by omega);simp only[J2,m1,G,O,Q];by_cases z:r=y
 .rw[An z,An (by omega)];exact⟨rfl,rfl⟩
 .rw[Af z,Af (by omega)];exact⟨rfl,rfl⟩
def Yi(x r:Nat):J2 (x:Int) (x:Int) (r:Int)=(r:Int):=by
 have m1:Et (x:Int) x=x:=Af (by omega);have G:EO (x:Int) x=x:=Af (by omega);simp only[J2,m1,G];by_cases z:(r:Int)=x
 .rw[An z,z]
 .rw[Af z]
def VV(p:Int×Int):D×D:=(.int .i64 p.1,.int .i64 p.2)
def Iy(M:List (Int×Int))(x:Int):Option Int:=(M.find? (λp=>p.1==x)).map (·.2)
def Ti(x:Int): ∀(M:List (Int×Int)),lk (M.map VV) (.int .i64 x)=(Iy M x).map (D.int .i64)
 |[]=>rfl
 |(k,v)::r=>by
  have ih:=Ti x r;simp only[Iy] at ih;by_cases h:k=x
  .subst h;simp[lk,VV,Iy,D.beq]
  .have z: ¬x=k:=λe=>h e.symm
   have G:(x==k)=false:=by simpa using z
   simp[lk,VV,Iy,D.beq,h,G,ih]
def Yn(x:Int)(M:List (Int×Int))(Ks:D->Prop)(Kn:Prop):Gb (M.map VV) (.int .i64 x) Ks Kn=((∀v,Iy M x=some v->Ks (.int .i64 v))/\(Iy M x=none->Kn)):=by
 apply propext;unfold Gb;rw[Ti];cases Iy M x<;>simp
def Nz(x v:Int): ∀(M:List (Int×Int)),Iy M x=none->G7 (M.map VV) (.int .i64 x) (.int .i64 v)=(M++[(x,v)]).map VV
 |[],_=>rfl
 |(k,w)::r,h=>by
  by_cases z:k=x
  .subst z;simp[Iy] at h
  .have G: ¬x=k:=λe=>z e.symm
   have Q:Iy r x=none:=by simpa[Iy,z] using h
   have ih:=Nz x v r Q;simp only[Bd,CT,VV] at ih⊢;have O:(x==k)=false:=by simpa using G
   simp[G7,D.beq,O,ih,VV]
def Mq(M:List (Int×Int))(x v y:Int):Iy (M++[(x,v)]) y=(Iy M y).or (if x=y then some v else none):=by
 simp only[Iy,List.find?_append];cases h:M.find? (λp=>p.1==y) with
 |some p=>simp
 |none=>
  by_cases z:x=y
  .subst z;simp
  .simp[z]
def zQ{own:List Int}{i:Nat}(h:own[i]? =some (i:Int)): ∀k,∃z,Dg own i (k+1)=(i:Int)::z
 |0=>⟨[],by simp[Dg,h]⟩
 |k+1=>by
  obtain⟨z,G⟩:=zQ h k;rw[Dg,G];exact⟨_,rfl⟩
def Qjv(own:List Int)(n:Nat): ∀k,k<=n-> ∀g∈B8 own n k,∃(r:Nat) (rest:List Int),g=(r:Int)::rest/\r<k/\own[r]? =some (r:Int)
 |0,_,g,h=>by simp[B8] at h
 |k+1,hk,g,h=>by
  simp only[B8,Bx] at h;rcases h with h|h
  .obtain⟨r,rest,O,Z,Q⟩:=Qjv own n k (by omega) g h;exact⟨r,rest,O,by omega,Q⟩
  .split at h
   .rename_i z;obtain rfl:=BK.1 h;obtain⟨rest,G⟩:=zQ z (n - k - 1);rw[show n - k - 1+1=n - k by omega] at G;exact⟨k,rest,G,by omega,z⟩
   .cases h
def Qo6(own:List Int)(n:Nat)(r:Nat)(O:own[r]? =some (r:Int)): ∀k,k<=n->r<k-> ∃z,((r:Int)::z)∈B8 own n k
 |0,_,h=>by omega
 |k+1,Z,h=>by
  by_cases G:r=k
  .subst G;obtain⟨z,G⟩:=zQ O (n - r - 1);rw[show n - r - 1+1=n - r by omega] at G;exact⟨z,by simp[B8,O,G]⟩
  .obtain⟨z,Q⟩:=Qo6 own n r O k (by omega) (by omega);exact⟨z,by simp only[B8,Bx];exact .inl Q⟩
def Qy0(own:List Int)(n:Nat): ∀k,∀g∈B8 own n k,g.length<=n
 |0,g,h=>by simp[B8] at h
 |k+1,g,h=>by
  simp only[B8,Bx] at h;rcases h with h|h
  .exact Qy0 own n k g h
  .split at h
   .obtain rfl:=BK.1 h
    have:=Qsd own k (n - k)
    omega
   .cases h
def O7{h:Nat->Option Au}{b m:Nat}{G:List (List Int)}(H: ∀q,q<G.length->h (b+q)=some (true,.arr 2 1 ((G[q]?.getD []).map Aj))):
 A7 (A7 λx=>Ek (Be h (HU 0 []) (m+1) x)) (Dp b G.length)=some (G.map C8):=by
 have: ∀(l:List Nat),(∀q∈l,q<G.length)->A7 (A7 λx=>Ek (Be h (HU 0 []) (m+1) x)) (l.map λi=>[AV.own (b+i)])=some (l.map λq=>C8 (G[q]?.getD [])):=by
  intro l;induction l with
  |nil=>intro _;rfl
  |cons q r ih=>
   intro Q;have h0:HU 0 [] (b+q)=none:=rfl;have O:=ih (λx Z=>Q x (BX _ Z));have e:A7 (λx=>Ek (Be h (HU 0 []) (m+1) x)) [AV.own (b+q)]=some (C8 (G[q]?.getD [])):=by
    simp only[A7,Be,h0,H q (Q q (BT ..)),Qh,kp,CQ,Ek,AV.asD];rfl
   rw[Bd,A7,e,O];rfl
 rw[Dp,this _ (λq hq=>BD.1 hq)];congr 1;apply Kr;intro j;by_cases z:j<G.length
 .rw[D2,HN z,D2,Bk z,CQ,CQ,Bk z,AM]
 .rw[FG (by simp;omega),FG (by simp;omega)]
def IX(r:Int)(m:Nat)(g:List Int):List Int:=if g.head? =some r then g++[(m:Int)] else g
def Ql4(own:List Int)(m:Nat)(r:Int)(Q:own[m]? =some r): ∀k,k<=m->B8 own (m+1) k=(B8 own m k).map (IX r m)
 |0,_=>rfl
 |k+1,hk=>by
  rw[B8,B8,GH,Ql4 own m r Q k (by omega)];congr 1;by_cases G:own[k]? =some (k:Int)
  .rw[An G,An G];obtain⟨Z,O⟩:=zQ G (m - k - 1);rw[show m - k - 1+1=m - k by omega] at O;have e:Dg own k (m+1 - k)=Dg own k (m - k)++(if own[m]? =some (k:Int) then [(m:Int)] else []):=by
    rw[show m+1 - k=(m - k)+1 by omega,Dg,show k+(m - k)=m by omega]
   rw[e,Q];simp only[Bd,Gq,IX,O,ZeS,AJ];by_cases z:r=(k:Int)
   .rw[An z,An z.symm]
   .rw[Af z,Af (EK z),D8]
  .rw[Af G,Af G];rfl
structure uH(out:List (List Int))(M:List (Int×Int)):Prop where
 a: ∀r v,Iy M r=some v-> ∃(g:Nat) (rest:List Int),v=g/\out[g]? =some (r::rest)
 b: ∀(g:Nat) (r:Int) (rest:List Int),out[g]? =some (r::rest)->Iy M r=some (g:Int)
def SD{own:List Int}{i:Nat}{M:List (Int×Int)}{r:Nat}(hP:uH (B8 own i i) M)(ho:own[i]? =some (r:Int))(hr:r<=i)(ab:own[r]? =some (r:Int))(hn:Iy M r=none):
 r=i/\B8 own (i+1) (i+1)=B8 own i i++[[(i:Int)]]/\uH (B8 own (i+1) (i+1)) (M++[((i:Int),((B8 own i i).length:Int))]):=by
 have aa:r=i:=by
  by_cases h:r<i
  .obtain⟨z,hm⟩:=Qo6 own i r ab i (by omega) h;obtain⟨g,G⟩:=Ku.1 hm;rw[hP.b g _ _ G] at hn;cases hn
  .omega
 subst aa;have e:B8 own (r+1) (r+1)=B8 own r r++[[(r:Int)]]:=by
  rw[B8,Ql4 own r r ho r (AQ _),An ho];congr 1
  .conv=>rhs;rw[<-List.map_id (B8 own r r)]
   apply Oj;intro g G;obtain⟨q,z,Q,Z,_⟩:=Qjv own r r (AQ _) g G;simp only[IX,Q,ZeS,AJ,id];rw[Af (by omega)]
  .rw[show r+1 - r=0+1 by omega];simp[Dg,ho]
 refine⟨rfl,e,?_⟩;rw[e];refine⟨λq v O=> ?_,λg q z G=> ?_⟩
 .rw[Mq] at O;cases hq:Iy M q with
  |some w=>
   rw[hq] at O;obtain rfl:=AD O;obtain⟨g,z,Q,Z⟩:=hP.a q _ hq;exact⟨g,z,Q,by rw[ED (Ce.1 Z).1];exact Z⟩
  |none=>
   rw[hq] at O;simp only[gM] at O;split at O
   .rename_i h;obtain rfl:=AD O;exact⟨_,[],rfl,by rw[F4 (AQ _),Hi,<-h];rfl⟩
   .cases O
 .rw[Mq];by_cases hl:g<(B8 own r r).length
  .rw[ED hl] at G;rw[hP.b g q z G];rfl
  .rw[F4 (by omega)] at G;have h0:g - (B8 own r r).length=0:=by
    have:=(Ce.1 G).1
    simpa using this
   rw[h0] at G;simp only[GF,AJ,gH] at G;rw[<-G.1,hn,An rfl,gM];congr 1;omega
def SE{own:List Int}{i:Nat}{M:List (Int×Int)}{r:Int}{g:Nat}{rest:List Int}(hP:uH (B8 own i i) M)(ho:own[i]? =some r)(Q:(B8 own i i)[g]? =some (r::rest)):
 B8 own (i+1) (i+1)=(B8 own i i).set g (r::rest++[(i:Int)])/\uH (B8 own (i+1) (i+1)) M:=by
 have ab:r≠i:=by
  obtain⟨q,rs,Z,G,_⟩:=Qjv own i i (AQ _) _ (AZ Q)
  have:=(List.cons.inj Z).1
  omega
 have e:B8 own (i+1) (i+1)=(B8 own i i).set g (r::rest++[(i:Int)]):=by
  rw[B8,Ql4 own i r ho i (AQ _),Af (by rw[ho];simpa using ab),D8];apply Kr;intro j;rw[D2];by_cases O:g=j
  .subst O;rw[Du (Ce.1 Q).1,Q];simp[IX]
  .rw[DK O];cases hx:(B8 own i i)[j]? with
   |none=>rfl
   |some x=>
    simp only[CQ,IX];rw[Af];intro hh;cases x with
    |nil=>cases hh
    |cons q rs=>
     simp only[ZeS,AJ] at hh;subst hh;have Z:=hP.b j _ _ hx;have G:=hP.b g _ _ Q;rw[Z] at G
     have:=AD G
     omega
 refine⟨e,?_⟩;rw[e];have aa:=(Ce.1 Q).1;refine⟨λq v hv=> ?_,λg' q rs z=> ?_⟩
 .obtain⟨j,rs,Z,G⟩:=hP.a q v hv;by_cases O:g=j
  .subst O;rw[Q] at G;simp only[AJ,gH] at G;exact⟨g,rest++[(i:Int)],Z,by rw[Du aa,G.1];rfl⟩
  .exact⟨j,rs,Z,by rw[DK O];exact G⟩
 .by_cases O:g=g'
  .subst O;rw[Du aa] at z;simp only[AJ,CT,gH] at z;rw[<-z.1];exact hP.b g _ _ Q
  .rw[DK O] at z;exact hP.b g' _ _ z
def EM(b:Nat)(G:List (List Int)):Av:=AU b G.length (λi=>(true,.arr 2 1 ((G[i]?.getD []).map Aj)))
def S9(b N:Nat)(G:List (List Int))(h:b+G.length<=N):Ac N (EM b G)=true:=Qt5 _ _ _ _ λi z=>by simp[Ac]
def SA(b N:Nat)(G:List (List Int))(h:b+G.length<=N):A8 N (EM b G)=true:=QQ _ _ _ _ h
def xH{π:List (Nat×Option Nat)}{b n k:Nat}(h: ∀i,i<k->pm π (b+i)=some (b+i)):GJ π (Ke b n k) (Ke b n k):=by
 rw[fD];refine⟨rfl,λi x y z Q=> ?_⟩;rw[z] at Q;obtain rfl:=AD Q;have G:i<n:=by have:=(Ce.1 z).1;rwa [Z0] at this
 rw[zF _ _ _ _ G] at z;obtain rfl:=AD z;split
 .rename_i O;simp only[DG,mt,h i O,GZ,Hx]
 .simp only[DG,mt,Hx]
def Pa(A:List Nat)(b n c m:Nat)(h:A.Nodup)(Z: ∀x∈A,(x<b\/b+n<=x)/\(x<c\/c+m<=x))(aa:b+n<=c):(A++((List.range n).map (b+ ·)++(List.range m).map (c+ ·))).Nodup:=by
 have Q: ∀b n,((List.range n).map (b+ ·)).Nodup:=λb n=>by have:=eB [] b n (by simp) (by simp);simpa using this
 rw[VN];refine⟨h,?_,λx O y z=> ?_⟩
 .rw[VN];refine⟨Q _ _,Q _ _,λx O y z=> ?_⟩;obtain⟨i,hi,rfl⟩:=Bv.1 O;obtain⟨j,G,rfl⟩:=Bv.1 z
  have:=BD.1 hi
  omega
 .have:=Z x O
  rcases Bx.1 z with z|z
  .obtain⟨j,G,rfl⟩:=Bv.1 z
   have:=BD.1 G
   omega
  .obtain⟨j,G,rfl⟩:=Bv.1 z
   have:=BD.1 G
   omega
def Qyb(b:Nat)(G:List (List Int))(g:Nat)(h:g<G.length):hget (EM b G) (b+g)=some (true,.arr 2 1 ((G[g]?.getD []).map Aj)):=HE _ _ _ _ h
def XY(b k:Nat)(L:List Int)(m:Nat)(h:m<b\/b+k<=m):hget (E5 b L k) m=none:=Qmh _ _ _ _ h
def Qnb(k:Nat)(L:List Int)(G:List (List Int))(i:Nat)(h:i<k):hget (E5 1000 L k++EM 3000 G) (1000+i)=some (Hz 1000 L i):=by
 rw[Ql,Kc _ _ _ _ h];rfl
def Qne(k:Nat)(L:List Int)(G:List (List Int))(g:Nat)(z:k<=512)(h:g<G.length):hget (E5 1000 L k++EM 3000 G) (3000+g)=some (true,.arr 2 1 ((G[g]?.getD []).map Aj)):=by
 rw[Ql,XY _ _ _ _ (by omega),Qyb _ _ _ h];rfl
def SZ(k:Nat)(L:List Int)(G:List (List Int)):Fh (E5 1000 L k++EM 3000 G)=(List.range k).map (1000+ ·)++(List.range G.length).map (3000+ ·):=by
 rw[Qpf,E5,EM,Z6,Z6]
def gI(k:Nat)(L:List Int)(i:Nat)(M:List (Int×Int))(G:List (List Int)):Ai:=⟨[(81,.im (.int .i64 i)),(80,.im (.int .i64 k)),(79,.own 2),(12,.mp 2001),(11,.own 2100)],(2001,(true,.map {agg:=false,ks:=[KK.int .i64]} (M.map VV)))::(2100,(true,.arrA 32 1 (Dp 3000 G.length)))::(2,(true,.arrA 367 1 (Ke 1000 k k)))::(E5 1000 L k++EM 3000 G),4000⟩
def XU{k:Nat}{L:List Int}{i:Nat}{M:List (Int×Int)}{G:List (List Int)}(O:k<=512)(z:G.length<=512):(gI k L i M G).good=true:=by
 simp only[gI,Ai.good,Ac,A8,sY,Qmd,tQ 1000 k 4000 _ (by omega),zR 1000 k k 4000 (by omega),Qnw 1000 k 4000 _ (by omega),WK 3000 G.length 4000 (by omega),S9 3000 4000 G (by omega),SA 3000 4000 G (by omega)];simp[Am,AV.bel]
def Qxg{π:List (Nat×Option Nat)}{s:Ai}{k:Nat}{L:List Int}{i:Nat}{M:List (Int×Int)}{G:List (List Int)}{O:Nat}{T:Nat->Nat}(hk:k<=512)(hG:G.length<=512)
 (ac:VS 2002 π)(p1:pm π 2001=some 2001)(p2:pm π 2=some 2)(p3: ∀j,j<k->pm π (1000+j)=some (1000+j))(p4:pm π 2100=some O)(p5: ∀q,q<G.length->pm π (3000+q)=some (T q))
 (t1:AF s.tm 81= .im (.int .i64 i))(t2:AF s.tm 80= .im (.int .i64 k))(t3:AF s.tm 79= .own 2)(t4:AF s.tm 12= .mp 2001)(t5:AF s.tm 11= .own O)
 (g1:hget s.h 2001=some (true,.map {agg:=false,ks:=[KK.int .i64]} (M.map VV)))(g2:hget s.h 2=some (true,.arrA 367 1 (Ke 1000 k k)))(g3: ∀j,j<k->hget s.h (1000+j)=some (Hz 1000 L j))
 (g4:(G.length=0/\hget s.h O=some (true,.arr 32 1 []))\/hget s.h O=some (true,.arrA 32 1 ((List.range G.length).map λq=>[.own (T q)])))
 (g5: ∀q,q<G.length->hget s.h (T q)=some (true,.arr 2 1 ((G[q]?.getD []).map Aj)))
 (inj: ∀q q',q<G.length->q'<G.length->T q=T q'->q=q')(out: ∀q,q<G.length->T q≠O/\3000<=T q)(hO:2000<=O/\O≠2001):Ay 2002 π s (gI k L i M G):=by
 refine⟨ac,?_,?_,?_⟩
 .rw[eV];simp only[gI,Fh,SZ];have ab: ∀x∈[2001,2100,2]++((List.range k).map (1000+ ·)++(List.range G.length).map (3000+ ·)),(x=2001/\pm π x=some 2001)\/(x=2/\pm π x=some 2)\/(x=2100/\pm π x=some O)\/(1000<=x/\x<1000+k/\pm π x=some x)\/(3000<=x/\x<3000+G.length/\pm π x=some (T (x - 3000))):=by
   intro x z;rcases Bx.1 z with z|z
   .simp only[Bm,mU,gO] at z;rcases z with rfl|rfl|rfl
    .exact .inl ⟨rfl,p1⟩
    .exact .inr (.inr (.inl ⟨rfl,p4⟩))
    .exact .inr (.inl ⟨rfl,p2⟩)
   .rcases Bx.1 z with z|z
    .obtain⟨j,Q,rfl⟩:=Bv.1 z;have Q:=BD.1 Q;exact .inr (.inr (.inr (.inl ⟨by show 1000<=1000+j;omega,by show 1000+j<1000+k;omega,p3 j Q⟩)))
    .obtain⟨j,Q,rfl⟩:=Bv.1 z;have Q:=BD.1 Q;exact .inr (.inr (.inr (.inr ⟨by show 3000<=3000+j;omega,by show 3000+j<3000+G.length;omega,by show pm π (3000+j)=some (T (3000+j - 3000));rw[show 3000+j - 3000=j by omega];exact p5 j Q⟩)))
  refine fC _ _ (Pa [2001,2100,2] 1000 k 3000 G.length (by simp) (by simp;omega) (by omega)) ?_;intro x z y hy m Z aa;rcases ab x z with ⟨a1,a2⟩|⟨a1,a2⟩|⟨a1,a2⟩|⟨a0,a1,a2⟩|⟨a0,a1,a2⟩<;>rcases ab y hy with ⟨b1,b2⟩|⟨b1,b2⟩|⟨b1,b2⟩|⟨b0,b1,b2⟩|⟨b0,b1,b2⟩<;>
   rw[a2] at Z<;>rw[b2] at aa<;>have Z:=AD Z<;>have aa:=AD aa<;>first
   |omega
   |(have:=out (x - 3000) (by omega);omega)
   |(have:=out (y - 3000) (by omega);omega)
   |(have:=inj (x - 3000) (y - 3000) (by omega) (by omega) (Z.trans aa.symm);omega)
 .simp only[gI,Qn,t1,t2,t3,t4,t5,mt,p2,p1,p4,FN,GZ,Hx]
 .simp only[gI,Ha,Qns,p1,p2,p4,Ep,g1,g2];refine⟨⟨rfl,rfl⟩,?_,⟨rfl,rfl,rfl,xH p3⟩,?_,?_⟩
  .rcases g4 with ⟨h0,h1⟩|h1
   .rw[h1,h0];exact⟨rfl,rfl,rfl,trivial⟩
   .rw[h1];exact⟨rfl,rfl,rfl,Qyn p5 rfl⟩
  .rw[E5,eL];intro j Q;rw[p3 j Q,Ep,g3 j Q];refine⟨rfl,?_⟩;simp only[Hz,EG,DG,mt,Hx,and_true,wA];simp only[Mm];split
   .simp only[mt,p3 _ (show (L[j]?.getD (-1)).toNat<k by omega),GZ]
   .rfl
  .rw[EM,eL];intro q hq;rw[p5 q hq,Ep,g5 q hq];exact⟨rfl,rfl⟩
def SC(a:Int×List Ag):Prop:=0<=a.1/\a.1<=512/\Lk a.1 a.2/\a.2.length<=1000000
def groupsBy_.fv(a:Int×(List Ag)):List (List Int):=(VA) (a.1) (a.2)
def groupsBy_.row:AA:=vK (b2 qI (qS Ag.d_le Ag.c_n)) (rS Qi NW) (λa=>SC (a.1,a.2)) groupsBy_.fv
def groupsBy_.q:=AT (R:=groupsBy_.row) rfl
def groupsBy_.ok:AB Tryz.prog 265 groupsBy_.row:=by
 refine vw (tC firC.ok tN) Tryz.func265 rfl (by kernel_rfl) ?_;intro a a8;simp only[Tryz.f265];simp(disch:=omega)only[ZA,simprocAttr,groupsBy_.fv];obtain⟨h0,h1,aw,hl⟩:=a8;obtain⟨n,hn⟩: ∃n:Nat,a.1=n:=⟨a.1.toNat,by simp only at h0;omega⟩;obtain⟨bs,hbsd⟩: ∃bs,bs=a.2:=⟨_,rfl⟩;simp only[hn,<-hbsd,B0] at h0 h1 aw hl⊢;refine⟨h0,Lu _,by omega,λ_=> ?_⟩;rw[Oh];refine AP.ren ⟨{k:Nat//k<=n},λk=>⟨[(21,.im (.int .i64 k.1)),(20,.im (.int .i64 n)),(19,.own 2),(5,.own 2),(0,.im (.int .i64 n)),(1,.im (.sl false 3 (bs.map Ag.c)))],(2,(true,.arrA 367 1 (Ke 1000 n k.1)))::E5 1000 (List.replicate n (-1)) k.1,2000⟩,λk=>n - k.1,λk=>⟨?_,by simp⟩,⟨⟨0,by simp⟩,[(2,some 1)],?_⟩,λk=> ?_⟩
 .simp only[Ai.good,Ac,A8,tQ 1000 k.1 2000 _ (by omega),zR 1000 n k.1 2000 (by omega),Qnw 1000 k.1 2000 _ (by omega)];simp[Am,AV.bel]
 .simp only[Ay,E5,AU,ZeT,Gq];simp(disch:=omega)only[ZA,simprocAttr];exact Pv _ _ _
 obtain⟨k,bd⟩:=k;simp(disch:=omega)only[ZA,simprocAttr,AO,BB,Z0];refine⟨λhk=>⟨hk,hk,?_⟩,λhk=> ?_⟩
 .simp(disch:=omega)only[ZA,simprocAttr,BB,Qtr,Zfi];refine⟨?_,⟨k+1,by omega⟩,[(1000+k,some 2000)],by simp only;omega,?_⟩
  .rw[D3];intro r hr;rcases Xm hr with hr|hr
   .exact D3.1 (zR 1000 n k 2001 (by omega)) r hr
   .subst hr;simp[Aq,AV.bel]
  have qi: ∀i,i≠1000+k->pm [(1000+k,some 2000)] i=some i:=by intro i z;simp only[pm];rw[Af (by omega)]
  have qk:pm [(1000+k,some 2000)] (1000+k)=some 2000:=by simp only[pm];rw[An trivial]
  obtain⟨π,hπ⟩: ∃π,π=[(1000+k,some 2000)]:=⟨_,rfl⟩;rw[<-hπ] at qi qk⊢;refine⟨by rw[hπ];exact⟨by omega,trivial⟩,?_,?_,?_⟩
  .rw[eV,hπ];simp only[Fh,E5,Z6];refine fC _ _ (eB [2] 1000 (k+1) (by simp) (by simp)) ?_;intro x hx y hy m aq ag;have bj:x<2000:=by
    rcases Bm.1 hx with hx|hx
    .omega
    .obtain⟨i,z,rfl⟩:=Bv.1 hx
     have:=BD.1 z
     show 1000+i<2000;omega
   have bl:y<2000:=by
    rcases Bm.1 hy with hy|hy
    .omega
    .obtain⟨i,z,rfl⟩:=Bv.1 hy
     have:=BD.1 z
     show 1000+i<2000;omega
   simp only[pm] at aq ag;split at aq<;>split at ag<;>simp only[AJ] at aq ag<;>omega
  .simp only[Qn,AF];simp(disch:=omega)only[ZA,simprocAttr,qi 2 (by omega)];rw[AG (by omega) (by omega)];omega
  .simp only[Ha,E5,eL];refine⟨?_,λi z=> ?_⟩
   .simp(disch:=omega)only[ZA,simprocAttr,qi 2 (by omega)];rw[fD];refine⟨by simp[Z0],λi x y hx hy=> ?_⟩;have ax:i<n:=by have:=(Ce.1 hx).1;rwa [Z0] at this
    rw[zF _ _ _ _ ax] at hx;obtain rfl:=AD hx;by_cases ad:k=i
    .subst ad;rw[Du (by rw[Z0];exact hk)] at hy;obtain rfl:=AD hy;rw[An (by omega)];simp only[DG,mt,qk,GZ,Hx]
    .rw[DK ad,zF _ _ _ _ ax] at hy;obtain rfl:=AD hy;by_cases az:i<k
     .rw[An (by omega),An az];simp only[DG,mt,qi (1000+i) (by omega),GZ,Hx]
     .rw[Af (by omega),Af az];simp only[DG,mt,Hx]
   .have hg: ∀i,i<n->(List.replicate n (-1:Int))[i]?.getD (-1)= -1:=by
     intro i z;rw[Ls,An z,AM]
    have ay:Mm 1000 i (-1)= .im .nilp:=by simp only[Mm];rw[Af (by omega)]
    simp only[Hz,hg i (by omega),ay];by_cases ad:i=k
    .subst ad;rw[qk];simp(disch:=omega)only[ZA,simprocAttr]
    .rw[qi (1000+i) (by omega)];have h9:=Kc 1000 k (List.replicate n (-1)) i (by omega);simp only[Hz,hg i (by omega),ay,E5] at h9;simp (disch:=omega) only[Ep,hget,Bi,BC,WM,aA,aG,Qt,Df,CK];rw[h9];simp only[K0,EG,DG,mt,Hx]
 .intro _;have be:k=n:=by omega
  subst be;clear hk bd;refine AP.old ⟨{s:Nat×List Int//s.1<=bs.length/\s.2.length=k/\G0 s.2/\ ∀i,i<k->(Cg k bs s.1)[i]? =some ((Ez s.2 i:Nat):Int)},λs=>⟨[(33,.im (.int .i64 s.1.1)),(32,.im (.int .i64 bs.length)),(31,.im (.sl false 3 (bs.map Ag.c))),(5,.own 2),(0,.im (.int .i64 k))],(2,(true,.arrA 367 1 (Ke 1000 k k)))::E5 1000 s.1.2 k,2000⟩,λs=>bs.length - s.1.1,λs=>⟨?_,by simp⟩,⟨⟨(0,List.replicate k (-1)),by simp only;omega,by simp,Qug k,λi z=>Pg z⟩,?_⟩,λs=> ?_⟩
  .simp only[Ai.good,Ac,A8,tQ 1000 k 2000 _ (by omega),zR 1000 k k 2000 (by omega),Qnw 1000 k 2000 _ (by omega)];simp[Am,AV.bel]
  .simp only[sub,G6,AF];refine⟨?_,?_⟩
   .simp(disch:=omega)only[ZA,simprocAttr]
   .simp only[Cb];refine⟨rfl,tV λi z=> ?_⟩;simp only[hget,Bi _ _ (show 2≠1000+i by omega),BC];exact Kc _ _ _ _ z
  obtain⟨⟨j,L⟩,i1,i2,i3,i4⟩:=s;simp only at i1 i2 i3 i4;simp(disch:=omega)only[ZA,simprocAttr,AO,BB,Z0];refine⟨λhj=>⟨hj,λb hb=> ?_⟩,λhj=> ?_⟩
  .obtain⟨b1,b2,b3,b4⟩:=aw b (AZ hb);obtain⟨u,hu⟩: ∃u:Nat,b.A=u:=⟨b.A.toNat,by omega⟩;obtain⟨w,hw⟩: ∃w:Nat,b.B=w:=⟨b.B.toNat,by omega⟩;have ak:u<k:=by omega
   have ah:w<k:=by omega
   have bh:=Qnj i3 u;have bi:=Qnj i3 w;simp only[hu,hw,B0];refine⟨by omega,by omega,ak,?_⟩;simp(disch:=omega)only[ZA,simprocAttr,BB,Qtr,An ak,vZ];have hH: ∀(e Z:Au) (i:Nat),i<k->hget ((2000,e)::(2,Z)::Bh (E5 1000 L k) [2000]) (1000+i)=some (Hz 1000 L i):=by
    intro e Z i z;have h9:=Kc 1000 k L i z;simp (disch:=omega) only[hget,Bi,BC,WM,aA,aG,Qt,Df,CK,h9]
   refine⟨by omega,Qtp (nx:=2001) i2 (by omega) i3 ak (by decide) (hH _ _) (λU=> ?_)⟩;simp(disch:=omega)only[ZA,simprocAttr,BB,Z0,Qtr,An ah,vZ];refine⟨by omega,ah,ah,by omega,An (.inl (by omega)),Qtp (nx:=2001) i2 (by omega) i3 ah (by decide) (hH _ _) (λU2=> ?_)⟩;obtain⟨x,hx⟩: ∃x,x=Ez L u:=⟨_,rfl⟩;obtain⟨y,hy⟩: ∃y,y=Ez L w:=⟨_,rfl⟩;rw[<-hx] at bh⊢;rw[<-hy] at bi⊢;have gx:=Kc 1000 k L x (by omega);have gy:=Kc 1000 k L y (by omega);simp only[Hz] at gx gy;simp(disch:=omega)only[ZA,simprocAttr,sub,AO,BB,WW,Bi,Lh,gx,gy,aM (show 1000+x<2001 by omega),aM (show 1000+y<2001 by omega)];have ba:Ez L x=x:=by rw[hx];exact Qls i3 u
   have bb:Ez L y=y:=by rw[hy];exact Qls i3 w
   have ou:=i4 u ak;have ow:=i4 w ah;rw[<-hx] at ou;rw[<-hy] at ow;have hS:Cg k bs (j+1)=(Cg k bs j).map (J2 (x:Int) (y:Int)):=by
    simp only[Cg,hb,tS,hu,hw,B0,ou,ow,AM]
   have ac: ∀(p q:Nat),p<q->q<k-> ∀(i:Nat),i<k->Hz 1000 (L.set q (p:Int)) i=if i=q then (true,.cells 369 [.ptr (1000+p) 0,.im (.int .i64 q)]) else Hz 1000 L i:=by
    intro p q a0 hq i z;simp only[Hz];by_cases h:i=q
    .subst h;rw[An rfl,Du (by omega),AM];simp only[Mm];rw[An ⟨by omega,by omega⟩,B0]
    .rw[Af h,DK (EK h)]
   have af: ∀(p q:Nat),p<q->q<k-> ∀(e Z:Au) (tm:List (Nat×AV)),Cb ⟨tm,(1000+q,(true,.cells 369 [.ptr (1000+p) 0,.im (.int .i64 q)]))::(2000,e)::(2,Z)::Bh (Bh (E5 1000 L k) [2000]) [1000+q],2001⟩ (E5 1000 (L.set q (p:Int)) k):=by
    intro p q a0 hq e Z tm;refine tV λi z=> ?_
    rw[ac p q a0 hq i z];by_cases h:i=q
    .subst h;simp only[hget,vO,Ck,BM]
    .rw[Af h];have h9:=Kc 1000 k L i z;simp (disch:=omega) only[hget,Bi,BC,Lh,h9]
   refine⟨λai=>⟨⟨(j+1,L.set y (x:Int)),by simp only;omega,by simp only[EZ];exact i2,Qsx i3 ai,λi z=> ?_⟩,by simp only;omega,by rw[AG (by omega) (by omega)];simp only;omega,af x y ai (by omega) _ _ _⟩,λai=>⟨λaj=>⟨⟨(j+1,L.set x (y:Int)),by simp only;omega,by simp only[EZ];exact i2,Qsx i3 aj,λi z=> ?_⟩,by simp only;omega,by rw[AG (by omega) (by omega)];simp only;omega,af y x aj (by omega) _ _ _⟩,λaj=>⟨⟨(j+1,L),by simp only;omega,i2,i3,λi z=> ?_⟩,by simp only;omega,by rw[AG (by omega) (by omega)];simp only;omega,?_⟩⟩⟩
   .rw[hS,D2,i4 i z,CQ,Qqx i3 ba bb ai (by omega) i,(Mi ai _).1]
   .rw[hS,D2,i4 i z,CQ,Qqx i3 bb ba aj (by omega) i,(Mi aj _).2]
   .rw[hS,D2,i4 i z,CQ,show y=x by omega,Yi]
   .refine tV λi z=> ?_
    have h9:=Kc 1000 k L i z;simp (disch:=omega) only[hget,Bi,BC,Lh,h9]
  .have bc:j=bs.length:=by omega
   subst bc;obtain⟨own,hown⟩: ∃own,own=Cg k bs bs.length:=⟨_,rfl⟩;rw[<-hown] at i4;intro _;refine AP.ren ⟨{s:Nat×List (Int×Int)//s.1<=k/\uH (B8 own s.1 s.1) s.2},λs=>gI k L s.1.1 s.1.2 (B8 own s.1.1 s.1.1),λs=>k - s.1.1,λs=>⟨?_,by simp[gI]⟩,⟨⟨(0,[]),by simp only;omega,?_⟩,[(2100,some 2000)],?_⟩,λs=> ?_⟩
   .have ab:=sP own s.1.1 s.1.1;have hs:=s.2.1;exact XU (by omega) (by omega)
   .exact⟨λr v h=>(by cases h),λg r am h=>(by simp[B8] at h)⟩
   .refine Qxg (O:=2000) (T:=λq=>3000+q) (by omega) (by simp[B8]) ⟨by omega,trivial⟩ rfl rfl (λj hj=> ?_) rfl (λq hq=>(by simp[B8] at hq)) rfl rfl rfl rfl rfl rfl rfl (λj hj=> ?_) (.inl ⟨rfl,rfl⟩) (λq hq=>(by simp[B8] at hq)) (λq q' hq=>(by simp[B8] at hq)) (λq hq=>(by simp[B8] at hq)) (by omega)
    .simp only[pm];rw[Af (by omega)]
    .have h9:=Kc 1000 k L j hj;simp (disch:=omega) only[hget,Bi,BC,h9]
   obtain⟨⟨i,M⟩,q1,q2⟩:=s;simp only at q1 q2;simp only[gI];have an:=sP own i i;simp(disch:=omega)only[ZA,simprocAttr,AO,BB,Z0];refine⟨λz=>⟨z,z,?_⟩,λz=> ?_⟩
   .simp(disch:=omega)only[ZA,simprocAttr,BB,Qtr,An z];have hH: ∀(e1 Z e3:Au) (j:Nat),j<k->hget ((2001,e1)::(2100,Z)::(2,e3)::(E5 1000 L k++EM 3000 (B8 own i i))) (1000+j)=some (Hz 1000 L j):=by
     intro e1 Z e3 j hj;have h9:=Qnb k L (B8 own i i) j hj;simp (disch:=omega) only[hget,Bi,BC,h9]
    have ho:=i4 i z;obtain⟨r,hr⟩: ∃r,r=Ez L i:=⟨_,rfl⟩;have bf:r<=i:=by rw[hr];exact Qnj i3 i
    have bg:own[r]? =some (r:Int):=by
     have:=i4 r (by omega)
     rwa [hr,Qls i3 i,<-hr] at this
    rw[<-hr] at ho;have gr:=Qnb k L (B8 own i i) r (by omega);simp only[Hz] at gr;refine⟨by omega,by omega,by omega,Qtp (nx:=4000) i2 (by omega) i3 z (by omega) (hH _ _ _) (λU=> ?_)⟩;rw[<-hr];simp(disch:=omega)only[ZA,simprocAttr,WW,BB,IA,Bi,gr,Yn,aM (show 1000+r<4000 by omega)];refine⟨λv hv=> ?_,λhn=> ?_⟩
    .obtain⟨g,am,rfl,hg⟩:=q2.a _ v hv;have ab:=(Ce.1 hg).1;have an:=sP own i i;have gg:=Qne k L (B8 own i i) g (by omega) ab;rw[hg,AM] at gg;simp(disch:=omega)only[ZA,simprocAttr,WW,BB,IA,Bi,gg,Qxa];obtain⟨e1,Z⟩:=SE q2 ho hg;obtain⟨G,hG⟩: ∃G,G=B8 own i i:=⟨_,rfl⟩;rw[<-hG] at hg ab an e1 gg⊢;have ac:(Dp 3000 G.length).set g [AV.own 4001]=(List.range G.length).map λq=>[AV.own (if q=g then 4001 else 3000+q)]:=by
      apply Kr;intro j;rw[D2];by_cases hj:j<G.length
      .rw[HN hj];by_cases h:g=j
       .subst h;rw[Du (by rw[IA];exact ab)];simp
       .rw[DK h,Qo7 _ _ _ hj,CQ,Af (EK h)]
      .rw[FG (by simp[IA];omega),FG (by simp;omega)];rfl
     refine⟨ab,ab,by omega,?_,by omega,?_,ab,ab,?_,⟨(i+1,M),by simp only;omega,Z⟩,[(3000+g,some 4001)],by simp only;omega,?_⟩
     .intro row Q;obtain rfl:=BK.1 Q;rfl
     .have h6:(r::am:List Int).length<=1000:=D9 (by rw[hG] at hg;exact Qy0 own i i _ (AZ hg)) (by omega);simp only[CP] at h6;omega
     .rw[D3];intro row Q;rcases Xm Q with hr|hr
      .exact D3.1 (WK 3000 G.length 4002 (by omega)) row hr
      .subst hr;simp[Aq,AV.bel]
     have pn: ∀m,m≠3000+g->pm [(3000+g,some 4001)] m=some m:=by intro m hm;simp only[pm];rw[Af (EK hm)]
     simp only[e1];rw[AG (by omega) (by omega)];have hh: ∀(e1 Z e3 e4 e5:Au) (m:Nat),hget ((2100,e1)::(4001,Z)::(4000,e3)::(2001,e4)::(2,e5)::Bh (Bh (E5 1000 L k++EM 3000 G) [3000+g]) [2100]) m=if m=2100 then some e1 else if m=4001 then some Z else if m=4000 then some e3 else if m=2001 then some e4 else if m=2 then some e5 else if m=3000+g then none else hget (E5 1000 L k++EM 3000 G) m:=by
      intro e1 Z e3 e4 e5 m;simp only[hget,WM,aA,aG,Qt,Qu,ZeI];by_cases h1:m=2100
      .subst h1;simp
      by_cases h2:m=4001
      .subst h2;simp
      by_cases h3:m=4000
      .subst h3;simp
      by_cases h4:m=2001
      .subst h4;simp
      by_cases h5:m=2
      .subst h5;simp
      simp only[Af h1,Af h2,Af h3,Af h4,Af h5,Af (EK h1),Af (EK h2),Af (EK h3),Af (EK h4),Af (EK h5)]
     refine Qxg (O:=2100) (T:=λq=>if q=g then 4001 else 3000+q) (by omega) (by rw[EZ];omega) ⟨by omega,trivial⟩ (pn _ (by omega)) (pn _ (by omega)) (λj hj=>pn _ (by omega)) (pn _ (by omega)) (λq hq=> ?_) rfl rfl rfl rfl rfl ?_ ?_ (λj hj=> ?_) (.inr ?_) (λq hq=> ?_) (λq q' hq=> ?_) (λq hq=> ?_) (by omega)
     .by_cases h:q=g
      .subst h;simp[pm]
      .rw[pn _ (by omega),Af h]
     .rw[hh];rfl
     .rw[hh];rfl
     .rw[hh,Af (by omega),Af (by omega),Af (by omega),Af (by omega),Af (by omega),Af (by omega)];exact Qnb _ _ _ _ hj
     .rw[hh,An rfl,ac,EZ]
     .rw[EZ] at hq;rw[hh];by_cases h:q=g
      .subst h;rw[An rfl,Af (by omega),An rfl,Du ab,AM];simp[Aj]
      .rw[Af h,Af (by omega),Af (by omega),Af (by omega),Af (by omega),Af (by omega),Af (by omega),DK (EK h)];exact Qne _ _ _ _ (by omega) hq
     .rw[EZ] at hq;intro au he;rw[EZ] at au;by_cases h:q=g<;>by_cases h2:q'=g<;>simp only[h,h2,BM,CK] at he⊢ <;>omega
     .rw[EZ] at hq;by_cases h:q=g<;>simp only[h,BM,CK]<;>omega
    .obtain⟨a9,e1,Z⟩:=SD q2 ho bf bg hn;have Q:(Dp 3000 (B8 own i i).length++[[AV.im (D.sl true 0 [])]])[(B8 own i i).length]? =some [AV.im (D.sl true 0 [])]:=by
      rw[F4 (by rw[IA];exact AQ _),IA,Hi];rfl
     have av: ∀N,4000<=N->(Dp 3000 (B8 own i i).length++[[AV.im (D.sl true 0 [])]]).all (Aq N)=true:=by
      intro N hN;rw[vP,WK _ _ _ (by omega)];rfl
     intro _;refine⟨?_,by omega,av _ (by omega),by simp[IA],by simp[IA],J0 Q ?_⟩
     .intro row Q;obtain rfl:=BK.1 Q;rfl
     have ac:(Dp 3000 (B8 own i i).length++[[AV.im (D.sl true 0 [])]]).set (B8 own i i).length [AV.own 4003]=Dp 3000 (B8 own i i).length++[[AV.own 4003]]:=by
      have: ∀(l:List (List AV)) n x y,l.length=n->(l++[x]).set n y=l++[y]:=by
       intro l n x y h;subst h;rw[mJ _ _ (AQ _),Hi];rfl
      exact this _ _ _ _ (IA _ _)
     have ao: ∀N,4003<N->(Dp 3000 (B8 own i i).length++[[AV.own 4003]]).all (Aq N)=true:=by
      intro N hN;rw[vP,WK _ _ _ (by omega)];simp[Aq,AV.bel];omega
     simp(disch:=omega)only[ZA,simprocAttr,BB];refine⟨?_,by simp[IA],by simp[IA],J0 Q ?_⟩
     .intro row Q;obtain rfl:=BK.1 Q;rfl
     simp(disch:=omega)only[ZA,simprocAttr,BB,Bi,ac];refine⟨ao _ (by omega),⟨(i+1,M++[((i:Int),((B8 own i i).length:Int))]),by simp only;omega,by simp only;exact Z⟩,[(2100,some 4001),(3000+(B8 own i i).length,some 4003)],by simp only;omega,?_⟩;simp only[e1];obtain⟨G,hG⟩: ∃G,G=B8 own i i:=⟨_,rfl⟩;simp only[<-hG] at an⊢;rw[AG (by omega) (by omega)];have pn: ∀m,m≠2100->m≠3000+G.length->pm [(2100,some 4001),(3000+G.length,some 4003)] m=some m:=by intro m hm ag;simp only[pm];rw[Af (EK hm),Af (EK ag)]
     have hh: ∀(e1 Z e3 e4 e5 e6:Au) (m:Nat),hget ((4001,e1)::(4003,Z)::(4002,e3)::(4000,e4)::(2001,e5)::(2,e6)::Bh (Bh (Bh (E5 1000 L k++EM 3000 G) [2001]) [2100]) [4001]) m=if m=4001 then some e1 else if m=4003 then some Z else if m=4002 then some e3 else if m=4000 then some e4 else if m=2001 then some e5 else if m=2 then some e6 else if m=2100 then none else hget (E5 1000 L k++EM 3000 G) m:=by
      intro e1 Z e3 e4 e5 e6 m;simp only[hget,WM,aA,aG,Qt,Qu,ZeI];by_cases h1:m=4001
      .subst h1;simp
      by_cases h2:m=4003
      .subst h2;simp
      by_cases h3:m=4002
      .subst h3;simp
      by_cases h4:m=4000
      .subst h4;simp
      by_cases h5:m=2001
      .subst h5;simp
      by_cases h6:m=2
      .subst h6;simp
      simp only[Af h1,Af h2,Af h3,Af h4,Af h5,Af h6,Af (EK h1),Af (EK h2),Af (EK h3),Af (EK h4),Af (EK h5),Af (EK h6)]
     have aa:(G++[[(i:Int)]]).length=G.length+1:=by simp
     refine Qxg (O:=4001) (T:=λq=>if q<G.length then 3000+q else 4003) (by omega) (by rw[aa];omega) ⟨by omega,by omega,trivial⟩ (pn _ (by omega) (by omega)) (pn _ (by omega) (by omega)) (λj hj=>pn _ (by omega) (by omega)) (by simp[pm]) (λq hq=> ?_) rfl rfl rfl rfl rfl ?_ ?_ (λj hj=> ?_) (.inr ?_) (λq hq=> ?_) (λq q' hq=> ?_) (λq hq=> ?_) (by omega)
     .rw[aa] at hq;by_cases h:q<G.length
      .rw[pn _ (by omega) (by omega),An h]
      .obtain rfl:q=G.length:=by omega
       rw[Af h];simp only[pm];rw[Af (by omega),An trivial]
     .rw[hh,<-a9,<-Nz _ _ _ hn];rfl
     .rw[hh];rfl
     .rw[hh,Af (by omega),Af (by omega),Af (by omega),Af (by omega),Af (by omega),Af (by omega),Af (by omega)];exact Qnb _ _ _ _ hj
     .rw[hh,An rfl,Ql0,aa]
     .rw[aa] at hq;rw[hh];by_cases h:q<G.length
      .rw[An h,Af (by omega),Af (by omega),Af (by omega),Af (by omega),Af (by omega),Af (by omega),Af (by omega),ED h];exact Qne _ _ _ _ (by omega) h
      .obtain rfl:q=G.length:=by omega
       rw[Af h,Af (by omega),An rfl,F4 (AQ _),Hi];rfl
     .rw[aa] at hq;intro au he;rw[aa] at au;by_cases h:q<G.length<;>by_cases h2:q'<G.length<;>simp only[h,h2,BM,CK] at he⊢ <;>omega
     .by_cases h:q<G.length<;>simp only[h,BM,CK]<;>omega
   .have ad:i=k:=by omega
    subst ad;rw[VA,B0,<-hown];rw[O7 (m:=7) (G:=B8 own i i)]
    .simp(disch:=omega)only[ZZ,simprocAttr]
    .intro q hq;have h9:=Qne i L (B8 own i i) q (by omega) hq;simp (disch:=omega) only[hget,Bi,BC,h9]
def GU(nm:List Int):List Ag->List Ag
 |[]=>[]
 |b::r=>if BQ nm b.A=BQ nm b.B then GU nm r else ⟨BQ nm b.A,BQ nm b.B,b.Strength⟩::GU nm r
def Qvj(nm:List Int): ∀(a b:List Ag),GU nm (a++b)=GU nm a++GU nm b
 |[],b=>rfl
 |x::r,b=>by simp only[CT,GU,Qvj nm r b];split<;>rfl
def Qpl(nm:List Int): ∀(a:List Ag),(GU nm a).length<=a.length
 |[]=>AQ _
 |x::r=>by have:=Qpl nm r;simp only[GU];split<;>simp only[CP]<;>omega
def Qab6(nm:List Int){bs:List Ag}{k:Nat}{b:Ag}(h:bs[k]? =some b):GU nm (bs.take (k+1))=GU nm (bs.take k)++if BQ nm b.A=BQ nm b.B then [] else [⟨BQ nm b.A,BQ nm b.B,b.Strength⟩]:=by
 rw[Iq,h];simp only[vW,Qvj,GU]
def Dw(n:Int)(bs:List Ag)(t:Int):Int×List Ag:=((NZ n bs t).length,GU (Rg n.toNat (NZ n bs t)) bs)
def dlC.H0_dom(a:List Ag×Int)(j:Nat):Ao (dlC.H0 a) j=true↔j<1:=by
 simp only[Ao,dlC.H0,hget];by_cases h0:j=0
 .subst h0;simp
 .have z:(0==j)=false:=by simp;omega
  simp[z];omega
def contr.fv(a:Int×(List Ag)×Int):Int×(List Ag):=(Dw) (a.1) (a.2.1) (a.2.2)
def contr.row:AA:=vK (b3 qI (qS Ag.d_le Ag.c_n) qI) (r2 rI (rS Ag.d_le Ag.c_n)) (λa=>0<=a.1/\a.1<=512/\Lk a.1 a.2.1/\a.2.1.length<=1000000) contr.fv
def contr.q:=AT (R:=contr.row) rfl
def contr.ok:AB Tryz.prog 245 contr.row:=by
 refine vw (tC clobC.ok (tC dlC.ok (tC groupsBy_.ok tN))) Tryz.func245 rfl (by kernel_rfl) ?_;intro a ac;simp only[Tryz.f245];simp(disch:=omega)only[ZA,simprocAttr,contr.fv];obtain⟨h0,h1,O,G⟩:=ac;obtain⟨n,hn⟩: ∃n:Nat,a.1=n:=⟨a.1.toNat,by omega⟩;obtain⟨bs,hbsd⟩: ∃bs,bs=a.2.1:=⟨_,rfl⟩;obtain⟨t,ht⟩: ∃t,t=a.2.2:=⟨_,rfl⟩;simp only[hn,<-hbsd,<-ht] at h0 h1 O G⊢;refine AE.os bs [] G (λj=>by simp[Ao,hget]) rfl rfl ?_ ?_
 .simp(disch:=omega)only[ZA,simprocAttr,clobC.ca,CO]
 simp(disch:=omega)only[ZA,simprocAttr,clobC.H1];left;refine AE.os (bs,t) [2] G (λj=>dlC.H0_dom _ j) rfl rfl ?_ ?_
 .simp(disch:=omega)only[ZA,simprocAttr,dlC.ca,dlC.H0,De]
 simp(disch:=omega)only[ZA,simprocAttr,groupsBy_.q,groupsBy_.fv,dlC.H1];have Q:SC ((n:Int),GC t bs):=⟨by simp only;omega,by simp only;omega,λb hb=>O b (Xn.1 hb).1,by have:=Qln t bs;simp only;omega⟩;refine⟨Q,by omega,?_⟩;obtain⟨z,hgs⟩: ∃z,z=VA (n:Int) (GC t bs):=⟨_,rfl⟩;have ag: ∀r∈z,∀v∈r,0<=v/\v<n:=by rw[hgs];exact Qps n _
 simp only[<-hgs];intro an;refine AP.old ⟨{i:Nat//i<=z.length},λi=>⟨[(27,.im (.int .i64 i.1)),(26,.im (.int .i64 z.length)),(25,.im (.sl false 1 (z.map C8))),(9,.own 1022),(8,.im (.sl false 1 (z.map C8))),(1,.im (.sl false 3 (bs.map Ag.c)))],[(1022,(true,.arr 2 1 ((Kg z (List.replicate n 0) i.1).map Aj)))],1023⟩,λi=>z.length - i.1,λi=>⟨by simp[Ai.good,Am,Ac,A8,AV.bel],by simp⟩,⟨⟨0,by simp⟩,?_⟩,λi=> ?_⟩
 .simp(disch:=omega)only[ZA,simprocAttr,sub,Kg,uC]
 obtain⟨i,ao⟩:=i;simp(disch:=omega)only[ZZ,simprocAttr,AO];refine⟨λhi=>⟨hi,λr hr=> ?_⟩,λhi=> ?_⟩
 .have aj:=ag r (AZ hr);obtain⟨l,hl⟩: ∃l,l=Kg z (List.replicate n 0) i:=⟨_,rfl⟩;have aq:l.length=n:=by rw[hl,sS,Oh]
  simp only[<-hl];intro au;refine AP.old ⟨{k:Nat//k<=r.length},λk=>⟨[(34,.im (.int .i64 k.1)),(33,.im (.int .i64 r.length)),(32,.im (.sl false 1 (r.map Aj))),(10,.im (.int .i64 i)),(27,.im (.int .i64 i)),(26,.im (.int .i64 z.length)),(25,.im (.sl false 1 (z.map C8))),(9,.own 1022),(8,.im (.sl false 1 (z.map C8))),(1,.im (.sl false 3 (bs.map Ag.c)))],[(1022,(true,.arr 2 1 ((Qk i r l k.1).map Aj)))],1023⟩,λk=>r.length - k.1,λk=>⟨by simp[Ai.good,Am,Ac,A8,AV.bel],by simp⟩,⟨⟨0,by simp⟩,?_⟩,λk=> ?_⟩
  .simp(disch:=omega)only[ZA,simprocAttr,sub,Qk]
  obtain⟨k,ai⟩:=k;have ab:=zM (i:Int) r l k;simp(disch:=omega)only[ZA,simprocAttr,sub,AO,ab,dX];refine⟨λhk=>⟨hk,λv hv=> ?_⟩,λhk=> ?_⟩
  .obtain⟨v1,v2⟩:=aj v (AZ hv);refine⟨v1,by omega,by omega,λ_ _=>⟨⟨k+1,by omega⟩,by simp only;omega,by rw[AG (by omega) (by omega)];simp only;omega,?_⟩⟩;simp only[Qk,hv,AM]
  .have:k=r.length:=by omega
   refine⟨⟨i+1,by omega⟩,by simp only;omega,by rw[AG (by omega) (by omega)];simp only;omega,?_⟩;simp only[Kg,hr,AM,<-hl,this]
 .have ah:i=z.length:=by omega
  subst ah;obtain⟨nm,hnm⟩: ∃nm,nm=Kg z (List.replicate n 0) z.length:=⟨_,rfl⟩;have ab:nm.length=n:=by rw[hnm,sS,Oh]
  simp only[<-hnm];intro am;refine AP.ren ⟨{k:Nat//k<=bs.length},λk=>⟨[(46,.im (.int .i64 k.1)),(45,.im (.int .i64 bs.length)),(44,.im (.sl false 3 (bs.map Ag.c))),(14,.own 1024),(9,.own 1022),(8,.im (.sl false 1 (z.map C8)))],[(1024,(true,.arr 318 3 ((GU nm (bs.take k.1)).map Ag.c))),(1022,(true,.arr 2 1 (nm.map Aj)))],1025⟩,λk=>bs.length - k.1,λk=>⟨by simp[Ai.good,Am,Ac,A8,AV.bel],by simp⟩,⟨⟨0,by simp⟩,[(1024,some 1023)],?_⟩,λk=> ?_⟩
  .simp only[Ay];simp(disch:=omega)only[ZA,simprocAttr,Bp];rfl
  obtain⟨k,ai⟩:=k;have ak:=Qpl nm (bs.take k);rw[Cf] at ak;simp(disch:=omega)only[ZA,simprocAttr,AO,NN,NJ,B1,D.one];refine⟨λhk=>⟨hk,λb hb=> ?_⟩,λhk=> ?_⟩
  .obtain⟨b1,b2,b3,b4⟩:=O b (AZ hb);refine⟨b1,by omega,by omega,λx hx=>⟨b3,by omega,by omega,λy hy=> ?_⟩⟩;have e1:BQ nm b.A=x:=by simp only[BQ,hx,AM]
   have e2:BQ nm b.B=y:=by simp only[BQ,hy,AM]
   have Z:=Qab6 nm hb;rw[e1,e2] at Z;refine⟨λaa=>⟨b1,by omega,by omega,λx' ad=>⟨b3,by omega,by omega,λy' af=>⟨by omega,⟨k+1,by omega⟩,[(1024,some 1027)],by simp only;omega,?_⟩⟩⟩,λaa=>⟨⟨k+1,by omega⟩,[],by simp only;omega,?_⟩⟩
   .rw[hx] at ad;rw[hy] at af;obtain rfl:=AD ad;obtain rfl:=AD af;simp only[Ay];simp(disch:=omega)only[ZA,simprocAttr,Bp,Z];rw[AG (by omega) (by omega),Af aa];simp[Ag.c]
   .simp only[Ay];simp(disch:=omega)only[ZA,simprocAttr,Bp,Z];rw[AG (by omega) (by omega),An (FX.1 aa),D8];simp
  .have:k=bs.length:=by omega
   subst this;rw[Gs];intro _;simp only[Dw,NZ,Rg,B0,<-hgs,<-hnm]
end Go.Ae
