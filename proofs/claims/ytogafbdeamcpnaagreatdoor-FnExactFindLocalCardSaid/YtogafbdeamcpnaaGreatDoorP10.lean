/- Lemmas. Conditions: none. -/
import Derived.Test.YtogafbdeamcpnaaGreatDoorP09
set_option linter.all false
set_option maxHeartbeats 8000000
set_option maxRecDepth 100000
namespace Go.Ae
open Go.Proofs
def ES(l:List Int):Nat->List Int
 |0=>l
 |i+1=>((ES l i).set i ((ES l i)[l.length - 1 - i]?.getD 0)).set (l.length - 1 - i) ((ES l i)[i]?.getD 0)
def zR(l:List Int): ∀i,(ES l i).length=l.length
 |0=>rfl
 |i+1=>by simp only[ES,EX,zR l i]
def nW(l:List Int): ∀i,2*i<=l.length-> ∀k,k<l.length->(ES l i)[k]? =if k<i\/l.length - i<=k then l[l.length - 1 - k]? else l[k]?
 |0,_,k,Q=>by simp only[ES];rw[Af (by omega)]
 |i+1,hi,k,Q=>by
  have ih:=nW l i (by omega);have Z:=zR l i;have g1:(ES l i)[l.length - 1 - i]?.getD 0=l[l.length - 1 - i]?.getD 0:=by rw[ih _ (by omega),Af (by omega)]
  have g2:(ES l i)[i]?.getD 0=l[i]?.getD 0:=by rw[ih _ (by omega),Af (by omega)]
  have gd: ∀j,j<l.length->some (l[j]?.getD 0)=l[j]? :=λj hj=>by rw[Bj hj];rfl
  rw[ES,g1,g2];by_cases z:l.length - 1 - i=k
  .subst z;rw[Dm (by rw[EX,Z];omega),An (by omega),gd _ (by omega)];congr 1;omega
  .rw[DF z];by_cases G:i=k
   .subst G;rw[Dm (by rw[Z];omega),An (by omega),gd _ (by omega)]
   .rw[DF G,ih k Q];by_cases O:k<i\/l.length - i<=k
    .rw[An O,An (by omega)]
    .rw[Af O,Af (by omega)]
def Ur(l:List Int){i:Nat}(G:2*i<=l.length)(O:l.length<=2*i+1):ES l i=l.reverse:=by
 apply Kj;intro k;by_cases z:k<l.length
 .rw[nW l i G k z,ZeR z];by_cases h:k<i\/l.length - i<=k
  .rw[An h]
  .rw[Af h];congr 1;omega
 .rw[FE (by rw[zR];omega),FE (by rw[mD];omega)]
def dM(l:List Int)(i:Nat)(x:Int):(l.map Ai).set i [.int .i64 x]=(l.set i x).map Ai:=by rw[Lu];rfl
def revC.ca(_:List Int):List AV:=[.own 0]
def revC.H0(a:List Int):Aw:=[(0,(true,.arr 3 1 (a.map Ai)))]
def revC.H1(a:List Int):Aw:=[(0,(true,.arr 3 1 (a.reverse.map Ai)))]
def revC.row:AB:=AF revC.ca revC.H0 1 (λ_=>True) (λj=>j==0) (λ_=> .im (.tup [])) revC.H1 0
def revC.ok:AC Tryz.prog 296 revC.row:=by
 refine ow tN Tryz.func296 rfl (by kernel_rfl) (exB:=λ_=>false) (R:=λ_ r=>r= .im (.tup [])) (λ_=>rfl)
  (λa=>by simp[revC.ca,revC.H0,Aq,AV.bel,Ac,A9,BR,Ad.nms,Ao,hget]) (λa p hp=> ?_) (λa r h=>by subst h;exact CJ.refl _) ?_
 rotate_left
 intro a Q;simp only[Tryz.f296,revC.ca,revC.H0,revC.H1];simp(disch:=omega)only[ZA,simprocAttr];intro aa;rw[AH (by omega) (by omega)];refine AQ.old ⟨{i:Nat//2*i<=a.length},λi=>⟨[(2,.im (.int .i64 i.1)),(3,.im (.int .i64 ((a.length:Int) - 1 - i.1))),(0,.own 0)],[(0,(true,.arr 3 1 ((ES a i.1).map Ai)))],1⟩,λi=>a.length - i.1,λi=>⟨by simp[Aj.good,Am,Ac,A9,AV.bel],by simp⟩,⟨⟨0,by simp⟩,?_⟩,λi=> ?_⟩
 .simp(disch:=omega)only[ZA,simprocAttr,sub];exact⟨by omega,by rw[ES]⟩
 obtain⟨i,Z⟩:=i;have O:=zR a i;simp(disch:=omega)only[ZA,simprocAttr,sub,AO,O,dM,EX];refine⟨λG=>⟨by omega,by omega,by omega,λx hx=>⟨by omega,by omega,λy hy=>⟨by omega,by omega,λz hz=>⟨by omega,by omega,by omega,λu hu=> ?_⟩⟩⟩⟩,λG=> ?_⟩
 .refine⟨⟨i+1,by omega⟩,by simp only;omega,?_⟩;have w1:IntKind.i64.wrap ((a.length:Int) - 1 - i - 1)=(a.length:Int) - 1 - i - 1:=AH (by omega) (by omega);have w2:IntKind.i64.wrap ((i:Int)+1)=(i:Int)+1:=AH (by omega) (by omega);simp only[w1,w2];refine⟨⟨by omega,by omega⟩,?_⟩;simp only[ES];rw[show a.length - 1 - i=((a.length:Int) - 1 - i).toNat by omega,hx,hy];rfl
 .rw[Ur a Z (by omega)]
 simp[revC.H1] at hp;subst hp;exact .inl ⟨by omega,rfl,rfl⟩
def clonC.ca(a:List Al):List AV:=[.im (.sl false 3 (a.map Al.c))]
def clonC.H1(a:List Al):Aw:=[(0,(true,.arr 137 3 (a.map Al.c)))]
def clonC.row:AB:=AF clonC.ca (λ_=>[]) 0 (λa=>a.length<=1000000) (λ_=>false) (λ_=> .own 0) clonC.H1 20
def clonC.ok:AC Tryz.prog 105 clonC.row:=by
 refine Pb tN Tryz.func105 rfl (by kernel_rfl) (exB:=λj=>j==0) (R:=λ_ r=>r= .own 0) (λ_=>rfl)
  (λa=>by simp[clonC.ca,Aq,AV.bel,Ac,A9,BR]) (λa p hp=> ?_) (λa r h=>by subst h;exact CJ.refl _) ?_
 rotate_left
 intro a z;simp only[Tryz.f105,clonC.ca,clonC.H1];simp(disch:=omega)only[ZA,simprocAttr,Fy,Jt,Dj,EI];intro b hb;split
 .rename_i h;have h0:=hb h;refine⟨[],[(0,some 1)],⟨[(2,.own 0)],clonC.H1 a,1⟩,?_,by simp[clonC.H1,Aj.good,Am,Ac,A9,AV.bel],by simp,?_⟩
  .simp only[Az,clonC.H1,h0];simp(disch:=omega)only[ZA,simprocAttr]
  .simp(disch:=omega)only[ZA,simprocAttr,clonC.H1]
 .refine⟨by omega,[],[(0,some 2)],⟨[(2,.own 0)],clonC.H1 a,1⟩,?_,by simp[clonC.H1,Aj.good,Am,Ac,A9,AV.bel],by simp,?_⟩
  .simp only[Az,clonC.H1];simp(disch:=omega)only[ZA,simprocAttr]
  .simp(disch:=omega)only[ZA,simprocAttr,clonC.H1]
 simp[clonC.H1] at hp;subst hp;exact .inr ⟨by omega,by omega,rfl,rfl⟩
def clobC.ca(a:List Ag):List AV:=[.im (.sl false 3 (a.map Ag.c))]
def clobC.H1(a:List Ag):Aw:=[(0,(true,.arr 318 3 (a.map Ag.c)))]
def clobC.row:AB:=AF clobC.ca (λ_=>[]) 0 (λa=>a.length<=1000000) (λ_=>false) (λ_=> .own 0) clobC.H1 20
def clobC.ok:AC Tryz.prog 267 clobC.row:=by
 refine Pb tN Tryz.func267 rfl (by kernel_rfl) (exB:=λj=>j==0) (R:=λ_ r=>r= .own 0) (λ_=>rfl)
  (λa=>by simp[clobC.ca,Aq,AV.bel,Ac,A9,BR]) (λa p hp=> ?_) (λa r h=>by subst h;exact CJ.refl _) ?_
 rotate_left
 intro a z;simp only[Tryz.f267,clobC.ca,clobC.H1];simp(disch:=omega)only[ZA,simprocAttr,Fy,Jt,Dj,EI];intro b hb;split
 .rename_i h;have h0:=hb h;refine⟨[],[(0,some 1)],⟨[(2,.own 0)],clobC.H1 a,1⟩,?_,by simp[clobC.H1,Aj.good,Am,Ac,A9,AV.bel],by simp,?_⟩
  .simp only[Az,clobC.H1,h0];simp(disch:=omega)only[ZA,simprocAttr]
  .simp(disch:=omega)only[ZA,simprocAttr,clobC.H1]
 .refine⟨by omega,[],[(0,some 2)],⟨[(2,.own 0)],clobC.H1 a,1⟩,?_,by simp[clobC.H1,Aj.good,Am,Ac,A9,AV.bel],by simp,?_⟩
  .simp only[Az,clobC.H1];simp(disch:=omega)only[ZA,simprocAttr]
  .simp(disch:=omega)only[ZA,simprocAttr,clobC.H1]
 simp[clobC.H1] at hp;subst hp;exact .inr ⟨by omega,by omega,rfl,rfl⟩
def freeC.fv(a:Bc×Int×Int):Bool:=(VA) (a.1) (a.2.1) (a.2.2)
def freeC.row:AB:=Dg (b3 (qP 2 Bc.d_le) qI qI) rB (λa=>Kd a.1 a.1.Room.length/\0<=a.2.1/\a.2.1<a.1.Room.length/\0<=a.2.2/\a.2.2<a.1.Room.length) freeC.fv
def freeC.q:=DS (R:=freeC.row) rfl
def freeC.ok:AC Tryz.prog 295 freeC.row:=by
 refine G1 tN Tryz.func295 rfl (by kernel_rfl) ?_;intro a z;simp only[Tryz.f295];simp(disch:=omega)only[ZZ,simprocAttr,freeC.fv,D.sc,D.scs,B4];obtain⟨G,O,h3,Q,Z⟩:=z;have hf:=G.f;refine⟨O,h3,λr hr=>⟨Q,by rw[G.rr r (AZ hr)];exact Z,λx hx=>⟨O,by omega,λs hs=>⟨Q,by rw[G.ff s (AZ hs)];exact Z,λy hy=> ?_⟩⟩⟩⟩;simp only[VA,Qyw,Qzr,hr,hs,hx,hy,AM]
def Zn:D->Option (List Int)
 | .sl true _ rows=>AS Cq rows
 | .sl false _ (r::rows)=>AS Cq (r::rows)
 |_=>none
def Zo: ∀d x,Zn d=some x->Le d (.sl true 1 (x.map Ai)):=by
 intro d x h;unfold Zn at h;split at h
 .rename_i k rows;have h1:=DE (nz:=true) (k:=k) (Dz Dt _ _ h) (k':=1) (by simp[Ai]);intro ok hp v Q;have O:=h1 ok hp v Q;simp only[Ae.rd] at O Q⊢;rcases O with O|⟨b,p,cap,vs,T,fr,g1,g2,g3,g4,g5,g6,g7⟩
  .rcases Q with ⟨q1,G⟩|⟨b',p',z,aa,T',Z,q1,G,q3,q4,q5,q6,q7⟩
   .exact .inl ⟨q1,O.2⟩
   .obtain⟨ao,e⟩:=tJ O.1;rw[e] at q1;simp only[Value.slice.injEq] at q1;exact absurd (Qj.1 q1.2.1.symm) (G trivial)
  .rcases Q with ⟨q1,G⟩|⟨b',p',z,aa,T',Z,q1,G,q3,q4,q5,q6,q7⟩
   .rw[Qr7 q1] at g1;cases g1
   .refine .inr ⟨b,p,cap,vs,T,fr,g1,λ_ h0=> ?_,g3,g4,g5,g6,g7⟩;rw[q1] at g1;simp only[Value.slice.injEq] at g1;rw[h0,Ha] at g1;exact G trivial (Qj.1 g1.2.1)
 .rename_i k r rows;have h1:=DE (nz:=false) (k:=k) (Dz Dt _ _ h) (k':=1) (by simp[Ai]);intro ok hp v Q;have O:=h1 ok hp v Q;simp only[Ae.rd] at O Q⊢;rcases O with O|⟨b,p,cap,vs,T,fr,g1,g2,g3,g4,g5,g6,g7⟩
  .rcases Q with ⟨q1,G⟩|⟨b',p',z,aa,T',Z,q1,G,q3,q4,q5,q6,q7⟩
   .cases G
   .obtain⟨ao,e⟩:=tJ O.1;rw[e] at q1;simp only[Value.slice.injEq,CM] at q1;omega
  .rcases Q with ⟨q1,G⟩|⟨b',p',z,aa,T',Z,q1,G,q3,q4,q5,q6,q7⟩
   .cases G
   .refine .inr ⟨b,p,cap,vs,T,fr,g1,λ_ h0=> ?_,g3,g4,g5,g6,g7⟩;rw[q1] at g1;simp only[Value.slice.injEq,CM] at g1;rw[h0,Ha] at g1;omega
 .cases h
def tO(n:Nat)(x:Int):List.replicate n [D.int .i64 x]=(List.replicate n x).map Ai:=by rw[List.map_replicate];rfl
def Vs{k:Nat}{l:List Int}(h:l≠[]):Zn (.sl false k (l.map Ai))=some l:=by
 cases l with
 |nil=>exact absurd rfl h
 |cons x r=>exact eU (x::r)
def dI(v:Int):D:= .int .i64 v
def rept.H0_dom(a:Int×Int)(j:Nat):Ao (rept.H0 a) j=true↔j<1:=by
 simp only[Ao,rept.H0,hget];by_cases h0:j=0
 .subst h0;simp
 .have z:(0==j)=false:=by simp;omega
  simp[z];omega
def revC.H0_dom(a:List Int)(j:Nat):Ao (revC.H0 a) j=true↔j<1:=by
 simp only[Ao,revC.H0,hget];by_cases h0:j=0
 .subst h0;simp
 .have z:(0==j)=false:=by simp;omega
  simp[z];omega
def CYc:VC Tryz.prog 382=some 3:=by kernel_rfl
def wayC.rc:D->Option (List Int):=Zn
def wayC.re:(List Int)->D:=λb=>D.sl true 1 (b.map Ai)
def wayC.rle: ∀d b,wayC.rc d=some b->Le d (wayC.re b):=Zo
def wayC.fv(a:Bc×Int×Int):List Int:=(λx p q=>Ct x x.Room.length p q) (a.1) (a.2.1) (a.2.2)
def wayC.row:AB:=Dg (b3 (qP 2 Bc.d_le) qI qI) (RK.mk wayC.rc wayC.re wayC.rle) (λa=>Kd a.1 a.1.Room.length/\a.1.Room.length<=1000/\0<=a.2.1/\a.2.1<a.1.Room.length/\0<=a.2.2/\a.2.2<a.1.Room.length) wayC.fv
def wayC.q:=DS (R:=wayC.row) rfl
def wayC.ok:AC Tryz.prog 288 wayC.row:=by
 refine G1 (tC freeC.ok (tC rept.ok (tC revC.ok tN))) Tryz.func288 rfl (by kernel_rfl) ?_;intro a ak;simp only[Tryz.f288];simp(disch:=omega)only[ZZ,simprocAttr,wayC.fv,wayC.rc];obtain⟨aj,hn,ad,af,am,ax⟩:=ak;obtain⟨x,hx⟩: ∃x,x=a.1:=⟨_,rfl⟩;obtain⟨p,hp⟩: ∃p,p=a.2.1:=⟨_,rfl⟩;obtain⟨q,hq⟩: ∃q,q=a.2.2:=⟨_,rfl⟩;obtain⟨n,hnn⟩: ∃n,n=x.Room.length:=⟨_,rfl⟩;simp only[<-hx,<-hp,<-hq,<-hnn] at aj hn ad af am ax⊢;intro bf;refine AF.os (-1,(n:Int)) [1] ⟨by simp only;omega,by simp only;omega⟩ (λj=>rept.H0_dom _ j) rfl rfl ?_ ?_
 .simp(disch:=omega)only[ZA,simprocAttr,Jt,rept.ca,rept.H0,Dj]
 simp(disch:=omega)only[ZA,simprocAttr,CYc,rept.H1,Oe,dM,tO];refine⟨by omega,by omega,ad,af,by omega,λ_ _=> ?_⟩;refine AQ.old ⟨{k:Nat//k<=(CN x n p k).2.length},λk=>⟨[(9,.ch 22),(8,.own 2),(7,.im (.int .i64 n)),(0,.ptr 0 0),(1,.im (.int .i64 p)),(2,.im (.int .i64 q))],[(2,(true,.arr 3 1 ((CN x n p k.1).1.map Ai))),(22,(true,.chan (((CN x n p k.1).2.drop k.1).map dI) n)),(0,(false,.view [.sl false 1 (x.Room.map CG),.sl false 1 (x.Flow.map CG)]))],23⟩,λk=>n - k.1,λk=>⟨by simp[Aj.good,Am,Ac,A9,AV.bel],by simp⟩,⟨⟨0,by simp⟩,?_⟩,λk=> ?_⟩
 .simp(disch:=omega)only[ZA,simprocAttr,sub];simp[CN,dI]
 obtain⟨k,hk⟩:=k;have Z:=Rc (x:=x) ad af k;have bg:=Qr3 Z;simp(disch:=omega)only[ZA,simprocAttr,D.sc,D.scs,B4,CYc,AO,CB];refine⟨λav=> ?_,λav=> ?_⟩
 .have aw:k<(CN x n p k).2.length:=by omega
  obtain⟨u,hu⟩: ∃u,(CN x n p k).2[k]? =some u:=⟨_,Bj aw⟩;have a8:=Z.q u (AZ hu);rw[Fc hu];refine⟨by simp,λd r ag=> ?_⟩;simp only[Be,fW] at ag;obtain⟨rfl,rfl⟩:=ag;simp only[dI];obtain⟨s,hs⟩: ∃s,s=CN x n p k:=⟨_,rfl⟩;simp only[<-hs] at hu Z⊢;refine AQ.old ⟨{i:Nat//i<=n},λi=>⟨[(36,.im (.int .i64 i.1)),(35,.im (.int .i64 n)),(10,.im (.int .i64 u)),(9,.ch 22),(8,.own 2),(7,.im (.int .i64 n)),(0,.ptr 0 0),(1,.im (.int .i64 p)),(2,.im (.int .i64 q))],[(2,(true,.arr 3 1 ((CE x u s i.1).1.map Ai))),(22,(true,.chan (((CE x u s i.1).2.drop (k+1)).map dI) n)),(0,(false,.view [.sl false 1 (x.Room.map CG),.sl false 1 (x.Flow.map CG)]))],23⟩,λi=>n - i.1,λi=>⟨by simp[Aj.good,Am,Ac,A9,AV.bel],by simp⟩,⟨⟨0,by simp⟩,?_⟩,λi=> ?_⟩
  .simp(disch:=omega)only[ZA,simprocAttr,sub,CE]
  obtain⟨i,hi⟩:=i;obtain⟨hQ,e,he⟩:=uM Z hu i hi;have a9:=Qr3 hQ;have ay:=hQ.len;simp(disch:=omega)only[ZZ,simprocAttr,C8,freeC.q,freeC.fv,sub,AO,CB,ay,dM];refine⟨λaq=>⟨by omega,by omega,λy hy=>⟨λO=>⟨⟨hnn▸aj,a8.1,by omega,by omega⟩,λhf=>⟨by omega,by omega,λy2 _=>⟨by omega,⟨i+1,by omega⟩,by simp only;omega,by rw[AH (by omega) (by omega)];simp only;omega,?_⟩⟩,λhf=>⟨⟨i+1,by omega⟩,by simp only;omega,by rw[AH (by omega) (by omega)];simp only;omega,?_⟩⟩,λO=>⟨⟨i+1,by omega⟩,by simp only;omega,by rw[AH (by omega) (by omega)];simp only;omega,?_⟩⟩⟩,λaq=> ?_⟩
  .have Q:CE x u s (i+1)=((CE x u s i).1.set i u,(CE x u s i).2++[(i:Int)]):=by
    rw[CE,Hk,An ⟨by rw[hy,AM];exact O,hf⟩]
   have bd:=(Cd.1 hu).1;simp only[Q];refine⟨trivial,?_⟩;rw[Zdo (by rw[he,Df];omega),GD];rfl
  .have Q:CE x u s (i+1)=CE x u s i:=by
    rw[CE,Hk,Af (λh=>hf h.2)]
   simp only[Q];exact⟨trivial,trivial⟩
  .have Q:CE x u s (i+1)=CE x u s i:=by
    rw[CE,Hk,Af (λh=>O (by have:=h.1;rw[hy,AM] at this;exact this))]
   simp only[Q];exact⟨trivial,trivial⟩
  .have au:i=n:=by omega
   have Q:CN x n p (k+1)=CE x u s i:=by rw[CN,<-hs,hu,au]
   refine⟨⟨k+1,by rw[Q,he,Df];have:=(Cd.1 hu).1;omega⟩,by simp only;omega,?_⟩;simp only[Q];exact⟨trivial,trivial⟩
 .have be:(CN x n p k).2.length=k:=by omega
  have hE:CN x n p k=Bw x n p:=by
   have:=Nx x n p (n - k) k (by omega)
   rw[show k+(n - k)=n by omega] at this;exact this.symm
  have ai:=Z.len;refine⟨am,by omega,by omega,λy hy=>⟨λO=> ?_,λO=> ?_⟩⟩
  .simp only[Ct,<-hE,hy,AM];rw[An O];rfl
  have az:q∈(CN x n p k).2:=by
   have:=(Z.mem q.toNat y hy).1 (by omega)
   rwa [show (q.toNat:Int)=q by omega] at this
  obtain⟨i,hi⟩:=Kl.1 az;obtain⟨d,ba,ab,aa⟩:=Qq3 Z hi;have bb:=(Cd.1 hi).1;have a0:tX (CN x n p k).1 p q n=d:=Qqr (by omega) ab aa;have hW:Ct x n p q=(Ii (CN x n p k).1 q d).reverse:=by
   simp only[Ct,<-hE,hy,AM];rw[Af O,a0]
  obtain⟨G,hpar⟩: ∃G,G=(CN x n p k).1:=⟨_,rfl⟩;simp only[<-hpar] at ai ab aa hW⊢;refine AQ.ren ⟨{j:Nat//j<=d},λj=>⟨[(13,.im (.int .i64 (Dv G q j.1))),(12,.own 24),(8,.own 2),(1,.im (.int .i64 p))],[(24,(true,.arr 3 1 ((Ii G q j.1).map Ai))),(2,(true,.arr 3 1 (G.map Ai)))],25⟩,λj=>d - j.1,λj=>⟨by simp[Aj.good,Am,Ac,A9,AV.bel],by simp⟩,⟨⟨0,by omega⟩,[(24,some 23)],?_⟩,λj=> ?_⟩
  .simp only[Az];simp(disch:=omega)only[ZA,simprocAttr,Br];exact⟨rfl,rfl⟩
  obtain⟨j,hj⟩:=j;have ao:(Ii G q j).length=j+1:=by simp[Ii]
  simp(disch:=omega)only[ZA,simprocAttr,Jt,AO,ao];refine⟨λac=> ?_,λac=> ?_⟩
  .have ah:j<d:=by
    rcases Fh j d with h|h
    .exact h
    .exact absurd (by rw[show j=d by omega];exact ab) ac
   obtain⟨j2,g1,g2⟩:=sN Z hi j (λj' bc=>by rw[<-hpar];exact aa j' (by omega));rw[<-hpar] at g2;have an:=Z.q _ (AZ g2);refine⟨an.1,by omega,by omega,λz hz=>⟨by omega,⟨j+1,by omega⟩,[(24,some 26)],by simp only;omega,?_⟩⟩;have Q:Dv G q (j+1)=z:=by rw[Dv,hz,AM]
   have e2:Ii G q (j+1)=Ii G q j++[z]:=by
    simp only[Ii];rw[mF,GD,Be,Hc,Q]
   simp only[Az];simp(disch:=omega)only[ZA,simprocAttr,Br,Q,e2,GD]
  .have ah:j=d:=by
    have h1:=GA.1 ac;rcases Fh j d with h|h
    .exact absurd h1 (aa j h)
    .omega
   subst ah;refine AF.os (Ii G q j) [24] trivial (λi=>revC.H0_dom _ i) rfl rfl ?_ ?_
   .simp(disch:=omega)only[ZA,simprocAttr,Jt,revC.ca,revC.H0,Dj]
   .simp(disch:=omega)only[ZA,simprocAttr,Jt,D.sc,U3,B4,revC.H1,Dj];rw[hW];exact Vs (by simp[Ii])
def G7(t:Int)(bs:List Ag):List Ag:=bs.filter λb=>decide (t<=b.Strength)
def Qf(g:Int)(r:List Int)(l:List Int):Nat->List Int
 |0=>l
 |k+1=>(Qf g r l k).set (r[k]?.getD 0).toNat g
def Kb(gs:List (List Int))(l:List Int):Nat->List Int
 |0=>l
 |i+1=>Qf i (gs[i]?.getD []) (Kb gs l i) (gs[i]?.getD []).length
def yZ(g:Int)(r l:List Int): ∀k,(Qf g r l k).length=l.length
 |0=>rfl
 |k+1=>by simp only[Qf,EX,yZ g r l k]
def sF(gs:List (List Int))(l:List Int): ∀i,(Kb gs l i).length=l.length
 |0=>rfl
 |i+1=>by simp only[Kb,yZ,sF gs l i]
def Rd(n:Nat)(gs:List (List Int)):List Int:=Kb gs (List.replicate n 0) gs.length
def BO(nm:List Int)(v:Int):Int:=nm[v.toNat]?.getD 0
def H9(nm:List Int):List Ag->List Ag
 |[]=>[]
 |b::r=>if BO nm b.A=BO nm b.B then H9 nm r else ⟨EN (BO nm b.A) (BO nm b.B),Er (BO nm b.A) (BO nm b.B),b.Strength⟩::H9 nm r
def Qp2(nm:List Int): ∀(a b:List Ag),H9 nm (a++b)=H9 nm a++H9 nm b
 |[],b=>rfl
 |x::r,b=>by simp only[CP,H9,Qp2 nm r b];split<;>rfl
def Qjq(nm:List Int): ∀(a:List Ag),(H9 nm a).length<=a.length
 |[]=>AP _
 |x::r=>by have:=Qjq nm r;simp only[H9];split<;>simp only[CM]<;>omega
def Qln(t:Int)(bs:List Ag):(G7 t bs).length<=bs.length:=Zdy _ _
def Qjs(t:Int){bs:List Ag}{k:Nat}{b:Ag}(h:bs[k]? =some b):G7 t (bs.take (k+1))=G7 t (bs.take k)++if t<=b.Strength then [b] else []:=by
 rw[Il,h];simp only[G7,vG,vH,Zec,ZeQ,BK]
def nR(own:List Int)(i:Nat): ∀k,∀v∈CZ own i k,(i:Int)<=v/\v<i+k
 |0,v,h=>by simp[CZ] at h
 |k+1,v,h=>by
  simp only[CZ,Bv] at h;rcases h with h|h
  .have:=nR own i k v h;omega
  .split at h
   .rw[BJ] at h;omega
   .simp at h
def Qvq(own:List Int)(n:Nat): ∀k,k<=n-> ∀r∈B7 own n k,∀v∈r,0<=v/\v<n
 |0,_,r,h,_,_=>by simp[B7] at h
 |k+1,G,r,h,v,z=>by
  simp only[B7,Bv] at h;rcases h with h|h
  .exact Qvq own n k (by omega) r h v z
  .split at h
   .rw[BJ] at h;subst h
    have:=nR own k (n - k) v z
    omega
   .simp at h
def Qps(n:Nat)(bs:List Ag): ∀r∈V4 (n:Int) bs,∀v∈r,0<=v/\v<n:=by
 intro r z v G
 have:=Qvq (Cf n bs bs.length) n n (AP _) r (by simpa[V4] using z) v G
 omega
def Qvc(nm:List Int){bs:List Ag}{k:Nat}{b:Ag}(h:bs[k]? =some b):H9 nm (bs.take (k+1))=H9 nm (bs.take k)++if BO nm b.A=BO nm b.B then [] else [⟨EN (BO nm b.A) (BO nm b.B),Er (BO nm b.A) (BO nm b.B),b.Strength⟩]:=by
 rw[Il,h];simp only[vH,Qp2,H9]
def NW(n:Int)(bs:List Ag)(t:Int):List (List Int):=V4 n (G7 t bs)
def Ch(n:Int)(bs:List Ag)(t:Int):Int×List Ag:=((NW n bs t).length,H9 (Rd n.toNat (NW n bs t)) bs)
def shrunk.fv(a:Int×(List Ag)×Int):Int×(List Ag):=(Ch) (a.1) (a.2.1) (a.2.2)
def shrunk.row:AB:=vK (b3 qI (qS Ag.d_le Ag.c_n) qI) (r2 rI (rS Ag.d_le Ag.c_n)) (λa=>0<=a.1/\a.1<=1000000/\Lc a.1 a.2.1/\a.2.1.length<=1000000) shrunk.fv
def shrunk.q:=AT (R:=shrunk.row) rfl
def shrunk.ok:AC Tryz.prog 206 shrunk.row:=by
 refine vw (tC l06Groups.ok (tC l00Min.ok (tC l00Max.ok tN))) Tryz.func206 rfl (by kernel_rfl) ?_;intro a ag;simp only[Tryz.f206];simp(disch:=omega)only[ZA,simprocAttr,shrunk.fv];obtain⟨h0,h1,Z,ah⟩:=ag;obtain⟨n,hn⟩: ∃n:Nat,a.1=n:=⟨a.1.toNat,by omega⟩;obtain⟨bs,hbsd⟩: ∃bs,bs=a.2.1:=⟨_,rfl⟩;obtain⟨t,ht⟩: ∃t,t=a.2.2:=⟨_,rfl⟩;simp only[hn,<-hbsd,<-ht] at h0 h1 Z ah⊢;refine AQ.ren ⟨{k:Nat//k<=bs.length},λk=>⟨[(9,.im (.int .i64 k.1)),(8,.own 2),(0,.im (.int .i64 n)),(1,.im (.sl false 3 (bs.map Ag.c))),(2,.im (.int .i64 t))],[(2,(true,.arr 318 3 ((G7 t (bs.take k.1)).map Ag.c)))],3⟩,λk=>bs.length - k.1,λk=>⟨by simp[Aj.good,Am,Ac,A9,AV.bel],by simp⟩,⟨⟨0,by simp⟩,[(2,some 1)],?_⟩,λk=> ?_⟩
 .simp only[Az];simp(disch:=omega)only[ZA,simprocAttr];rfl
 obtain⟨k,aa⟩:=k;have Q:=Qln t (bs.take k);rw[Ce] at Q;simp(disch:=omega)only[ZA,simprocAttr,l06Groups.q,l06Groups.fv,AO,NJ,NF,Bz,D.one];intro _;refine⟨λO=>⟨O,λb hb=>⟨λhs=>⟨O,λb' z=>⟨by omega,⟨k+1,by omega⟩,[(2,some 4)],by simp only;omega,?_⟩⟩,λhs=>⟨⟨k+1,by omega⟩,[(2,some 2)],by simp only;omega,?_⟩⟩⟩,λO=> ?_⟩
 .rw[hb] at z;obtain rfl:=AD z;simp only[Az];simp(disch:=omega)only[ZA,simprocAttr,Qjs t hb];rw[AH (by omega) (by omega),An hs];simp[Ag.c]
 .simp only[Az];simp(disch:=omega)only[ZA,simprocAttr,Qjs t hb];rw[AH (by omega) (by omega),Af hs,D2];simp
 have ak:k=bs.length:=by omega
 subst ak;rw[GC];refine⟨⟨h1,λb hb=>Z b (Xe.1 hb).1⟩,by omega,?_⟩;obtain⟨G,hgs⟩: ∃G,G=V4 (n:Int) (G7 t bs):=⟨_,rfl⟩;have ai: ∀r∈G,∀v∈r,0<=v/\v<n:=by rw[hgs];exact Qps n _
 simp only[<-hgs];clear O Q aa;refine AQ.old ⟨{i:Nat//i<=G.length},λi=>⟨[(12,.im (.int .i64 i.1)),(11,.own 3),(10,.im (.sl false 1 (G.map CG))),(0,.im (.int .i64 n)),(1,.im (.sl false 3 (bs.map Ag.c))),(2,.im (.int .i64 t))],[(3,(true,.arr 2 1 ((Kb G (List.replicate n 0) i.1).map Ai)))],4⟩,λi=>G.length - i.1,λi=>⟨by simp[Aj.good,Am,Ac,A9,AV.bel],by simp⟩,⟨⟨0,by simp⟩,?_⟩,λi=> ?_⟩
 .simp(disch:=omega)only[ZA,simprocAttr,sub,Kb,tO]
 obtain⟨i,ao⟩:=i;simp(disch:=omega)only[ZA,simprocAttr,AO];intro an;refine⟨λhi=> ?_,λhi=> ?_⟩
 .obtain⟨r,hr⟩: ∃r,G[i]? =some r:=⟨_,Bj hi⟩;have am:=ai r (AZ hr);obtain⟨l,hl⟩: ∃l,l=Kb G (List.replicate n 0) i:=⟨_,rfl⟩;have aq:l.length=n:=by rw[hl,sF,Oe]
  simp only[<-hl];refine AQ.old ⟨{k:Nat//k<=r.length},λk=>⟨[(13,.im (.int .i64 k.1)),(12,.im (.int .i64 i)),(11,.own 3),(10,.im (.sl false 1 (G.map CG))),(0,.im (.int .i64 n)),(1,.im (.sl false 3 (bs.map Ag.c))),(2,.im (.int .i64 t))],[(3,(true,.arr 2 1 ((Qf i r l k.1).map Ai)))],4⟩,λk=>r.length - k.1,λk=>⟨by simp[Aj.good,Am,Ac,A9,AV.bel],by simp⟩,⟨⟨0,by simp⟩,?_⟩,λk=> ?_⟩
  .simp(disch:=omega)only[ZA,simprocAttr,sub,Qf]
  obtain⟨k,aa⟩:=k;have af:=yZ (i:Int) r l k;simp(disch:=omega)only[ZZ,simprocAttr,sub,AO,hr,af,dM];refine⟨hi,λr' ab au=> ?_⟩;subst ab;refine⟨λO=>⟨hi,λr' ab=> ?_⟩,λO=>⟨⟨i+1,by omega⟩,by simp only;omega,by rw[AH (by omega) (by omega)];simp only;omega,?_⟩⟩
  .subst ab;refine⟨O,λv hv=> ?_⟩;obtain⟨v1,v2⟩:=am v (AZ hv);refine⟨v1,by omega,by omega,λ_ _=>⟨⟨k+1,by omega⟩,by simp only;omega,by rw[AH (by omega) (by omega)];simp only;omega,?_⟩⟩;simp only[Qf,hv,AM]
  .have:k=r.length:=by omega
   simp only[Kb,hr,AM,<-hl,this]
 .have aj:i=G.length:=by omega
  subst aj;obtain⟨nm,hnm⟩: ∃nm,nm=Kb G (List.replicate n 0) G.length:=⟨_,rfl⟩;have af:nm.length=n:=by rw[hnm,sF,Oe]
  simp only[<-hnm];refine AQ.ren ⟨{k:Nat//k<=bs.length},λk=>⟨[(15,.im (.int .i64 k.1)),(14,.own 5),(11,.own 3),(10,.im (.sl false 1 (G.map CG))),(0,.im (.int .i64 n)),(1,.im (.sl false 3 (bs.map Ag.c))),(2,.im (.int .i64 t))],[(5,(true,.arr 318 3 ((H9 nm (bs.take k.1)).map Ag.c))),(3,(true,.arr 2 1 (nm.map Ai)))],6⟩,λk=>bs.length - k.1,λk=>⟨by simp[Aj.good,Am,Ac,A9,AV.bel],by simp⟩,⟨⟨0,by simp⟩,[(5,some 4)],?_⟩,λk=> ?_⟩
  .simp only[Az];simp(disch:=omega)only[ZA,simprocAttr,Br];rfl
  obtain⟨k,aa⟩:=k;have Q:=Qjq nm (bs.take k);rw[Ce] at Q;simp(disch:=omega)only[ZA,simprocAttr,l00Min.q,l00Min.fv,l00Max.q,l00Max.fv,AO,NJ,NF,Bz,D.one];intro _;refine⟨λO=>⟨O,λb hb=> ?_⟩,λO=> ?_⟩
  .obtain⟨b1,b2,b3,b4⟩:=Z b (AZ hb);refine⟨b1,by omega,by omega,λx hx=>⟨O,λb' z=> ?_⟩⟩;rw[hb] at z;obtain rfl:=AD z;refine⟨b3,by omega,by omega,λy hy=> ?_⟩;have e1:BO nm b.A=x:=by simp only[BO,hx,AM]
   have e2:BO nm b.B=y:=by simp only[BO,hy,AM]
   have ac:=Qvc nm hb;rw[e1,e2] at ac;refine⟨λad=>⟨O,λb' z=>⟨by omega,⟨k+1,by omega⟩,[(5,some 7)],by simp only;omega,?_⟩⟩,λad=>⟨⟨k+1,by omega⟩,[(5,some 5)],by simp only;omega,?_⟩⟩
   .rw[hb] at z;obtain rfl:=AD z;simp only[Az];simp(disch:=omega)only[ZA,simprocAttr,Br,ac];rw[AH (by omega) (by omega),Af ad];simp[Ag.c]
   .simp only[Az];simp(disch:=omega)only[ZA,simprocAttr,Br,ac];rw[AH (by omega) (by omega),An (GA.1 ad),D2];simp
  .have:k=bs.length:=by omega
   subst this;rw[GC];intro _;simp only[Ch,NW,Rd,Bx,<-hgs,<-hnm]
def Qk5(s:AA): ∀(l:List Ar) (i:Nat),KY s i l=true-> ∀g∈l,1<=g.Strength/\g.Strength<=4
 |[],_,_,_,h=>by cases h
 |x::r,i,h,g,z=>by
  simp only[KY,AR,Bh,BK] at h;rcases Bk.1 z with rfl|z
  .exact⟨h.1.2.1.1,h.1.2.1.2⟩
  .exact Qk5 s r _ h.2 g z
def Qlf(s:AA): ∀(l:List Tile) (i:Nat),Ju s i l=true-> ∀t∈l,t.Sides.length=4/\ ∀g∈t.Sides,0<=g/\g<=s.Glues.length
 |[],_,_,_,h=>by cases h
 |x::r,i,h,t,z=>by
  simp only[Ju,AR,BK,Dw,Bh] at h;rcases Bk.1 z with rfl|z
  .exact⟨h.1.2.1,λg G=>⟨(h.1.2.2.2 g G).1,(h.1.2.2.2 g G).2⟩⟩
  .exact Qlf s r _ h.2 t z
def Qge{s:AA}(h:Fz s=true):BE s:=by
 simp only[Fz,AR,BK] at h;exact⟨by omega,Qlf s _ _ h.2.2,Qk5 s _ _ h.2.1⟩
def Zu{s:AA}{a:Ak}(h:JW s a=true):DM s a/\a.Tiles.length<=500:=by
 simp only[JW,AR,BK,Dw,Bh] at h;exact⟨⟨h.1.1,λx z=>⟨(h.2 x z).1,by have:=(h.2 x z).2;omega⟩⟩,h.1.2⟩
def YY(p:Ab)(d:Int):Bs p d≠p:=by
 intro h;have G:(Bs p d).X=p.X:=by rw[h]
 have z:(Bs p d).Y=p.Y:=by rw[h]
 simp only[Bs] at G z;split at G
 .rename_i h0;rw[An h0] at z;simp only at z;omega
 .rename_i h0;rw[Af h0] at z;split at G
  .simp only at G;omega
  .rename_i O;rw[Af O] at z;split at G
   .rename_i Q;rw[An Q] at z;simp only at z;omega
   .simp only at G;omega
def iN(a:Ak)(i:Nat)(d:Int)(Z:i<a.Tiles.length):Hh a i d≠i:=by
 intro h;rcases QS (λx=>decide (x.At=Bs ((a.Tiles[(i:Int).toNat]?.map Al.At).getD ⟨0,0⟩) d)) a.Tiles 0 with ⟨_,z⟩|⟨j,x,O,z,Q⟩
 .simp only[Hh,z] at h;omega
 .simp only[Hh,z,FT] at h;have G:j=i:=by omega
  subst G
  have:=Rm O
  simp only[BK,Bx,Q,CQ,AM] at this;exact YY _ _ this.symm
def Kq(n:Int)(b:Ag):Prop:=(0<=b.A/\b.A<n/\0<=b.B/\b.B<n)/\b.A≠b.B/\0<b.Strength/\b.Strength<=4
def Xr{s:AA}(hs:BE s)(a:Ak)(i:Nat)(Z:i<a.Tiles.length)(d:Int): ∀b∈WV s a i d,Kq a.Tiles.length b:=by
 intro b hb;simp only[WV] at hb;split at hb
 .rename_i h0;split at hb
  .rename_i z;rw[BJ] at hb;subst hb;have G:=K9 a i d;have O:=iN a i d Z;have Q:Gf s (G5 a i) d (G5 a (Hh a i d))<=4:=by
    simp only[Gf];split
    .exact (Qp1 hs _).2
    .omega
   exact⟨⟨by simp only;omega,by simp only;omega,h0,G⟩,λh=>O h.symm,z,Q⟩
  .simp at hb
 .simp at hb
def Qzz{s:AA}(hs:BE s)(a:Ak)(i:Nat)(z:i<a.Tiles.length): ∀k,∀b∈JY s a i k,Kq a.Tiles.length b
 |0,b,h=>by simp[JY] at h
 |k+1,b,h=>by
  simp only[JY,Bv] at h;rcases h with h|h
  .exact Qzz hs a i z k b h
  .exact Xr hs a i z _ b h
def Qro{s:AA}(hs:BE s)(a:Ak): ∀k,k<=a.Tiles.length-> ∀b∈FC s a k,Kq a.Tiles.length b
 |0,_,b,h=>by simp[FC] at h
 |k+1,z,b,h=>by
  simp only[FC,Bv] at h;rcases h with h|h
  .exact Qro hs a k (by omega) b h
  .exact Qzz hs a k (by omega) _ b h
def Mw(g:Int)(r:List Int)(m:Int)(h0:0<=g)(O:g<m)(l:List Int)(G: ∀x∈l,0<=x/\x<m): ∀k,∀x∈Qf g r l k,0<=x/\x<m
 |0=>G
 |k+1=>by
  intro x z;simp only[Qf] at z;rcases Xd z with z|z
  .exact Mw g r m h0 O l G k x z
  .omega
def Mv(gs:List (List Int))(l:List Int)(z: ∀x∈l,0<=x/\x<(gs.length:Int)): ∀i,i<=gs.length-> ∀x∈Kb gs l i,0<=x/\x<(gs.length:Int)
 |0,_=>z
 |i+1,G=>Mw _ _ _ (by omega) (by omega) _ (Mv gs l z i (by omega)) _
def Qy8{n:Nat}{gs:List (List Int)}(G:0<gs.length)(v:Int):0<=BO (Rd n gs) v/\BO (Rd n gs) v<(gs.length:Int):=by
 simp only[BO];cases h:(Rd n gs)[v.toNat]? with
 |none=>simp;omega
 |some x=>
  rw[AM];exact Mv gs _ (λx z=>by have:=Oh z;omega) _ (AP _) x (AZ h)
def Qvw{n:Nat}{gs:List (List Int)}(z:0<gs.length): ∀(bs:List Ag),(∀b∈bs,0<b.Strength/\b.Strength<=4)-> ∀b∈H9 (Rd n gs) bs,Kq gs.length b
 |[],_,b,h=>by simp[H9] at h
 |x::r,O,b,h=>by
  simp only[H9] at h;have ih:=Qvw (n:=n) z r (λy Z=>O y (BW _ Z)) b;split at h
  .exact ih h
  .rename_i Q;rcases Bk.1 h with rfl|h
   .have h1:=Qy8 (n:=n) z x.A;have h2:=Qy8 (n:=n) z x.B;have G:=O x (BS ..);refine⟨?_,?_,G.1,G.2⟩
    .simp only[EN,Er]
     split<;>split<;>omega
    .simp only[EN,Er]
     split<;>split<;>omega
   .exact ih h
def MU{n:Int}{bs:List Ag}{t:Int}(hb: ∀b∈bs,Kq n b)(Z:bs.length<=1000000)(h0:0<(Ch n bs t).1)(Q:(Ch n bs t).1<=64):Z5 (Ch n bs t)/\Qe (Ch n bs t).2:=by
 have G:=Qvw (n:=n.toNat) (gs:=NW n bs t) (by simp only[Ch] at h0;omega) bs (λb z=>⟨(hb b z).2.2.1,(hb b z).2.2.2⟩);have O:=Qjq (Rd n.toNat (NW n bs t)) bs;refine⟨⟨by omega,by omega,by simp only[Ch];omega,λb z=>(G b z).1,λb z=>(G b z).2.1⟩,λb z=> ?_⟩
 have:=(G b z).2.2
 omega
def fF(s:AA)(a:Ak)(t:Int):Bool×Int:=
 if 64<(Ch a.Tiles.length (FC s a a.Tiles.length) t).1 then (false,4)
 else if (Ch a.Tiles.length (FC s a a.Tiles.length) t).1<2 then (true,0)
 else (decide (t<=(FD (Ch a.Tiles.length (FC s a a.Tiles.length) t).1 (Ch a.Tiles.length (FC s a a.Tiles.length) t).2 ((Ch a.Tiles.length (FC s a a.Tiles.length) t).1 - 1).toNat).1),0)
def l07Stable.fv(a:AA×Ak×Int):Bool×Int:=(fF) (a.1) (a.2.1) (a.2.2)
def l07Stable.row:AB:=vK (b3 (qP 2 AA.d_le) (qP 1 Ak.d_le) qI) (r2 rB rI) (λa=>BE a.1/\DM a.1 a.2.1/\a.2.1.Tiles.length<=500) l07Stable.fv
def l07Stable.q:=AT (R:=l07Stable.row) rfl
def l07Stable.ok:AC Tryz.prog 167 l07Stable.row:=by
 refine vw (tC l06Bonds.ok (tC shrunk.ok (tC weakC.ok tN))) Tryz.func167 rfl (by kernel_rfl) ?_;intro a z;simp only[Tryz.f167];simp(disch:=omega)only[ZA,simprocAttr,Ak.d,l07Stable.fv,l06Bonds.q,l06Bonds.fv,shrunk.q,shrunk.fv,weakC.q,weakC.fv];obtain⟨G,Q,h3⟩:=z;have O:=Qro G a.2.1 _ (AP _);have hl:=rV a.1 a.2.1 a.2.1.Tiles.length;refine⟨⟨G,Q,by omega⟩,⟨by omega,λb hb=>(O b hb).1,by omega⟩,?_⟩;simp only[fF];split
 .rfl
 .rename_i c1;split
  .rfl
  .rename_i c2;obtain⟨p1,Z⟩:=MU (t:=a.2.2) O (by omega) (by omega) (by omega);exact⟨⟨p1,Z,by omega⟩,rfl⟩
def UY(s:AA)(a:Ak)(t:Int):Bool:=(fF s a t).1 && decide ((fF s a t).2=0)
def F2(y:Ax):Bool:=Fz y.Set && (JW y.Set y.Seed && (!y.Seed.Tiles.isEmpty && (Bh y.Temperature 1 16 && UY y.Set y.Seed y.Temperature)))
def l08Ok.fv(a:Ax):Bool:=(F2) a
def l08Ok.row:AB:=vK (b1 (qP 4 Ax.d_le)) rB (λa=>True) l08Ok.fv
def l08Ok.q:=AT (R:=l08Ok.row) rfl
def l08Ok.ok:AC Tryz.prog 117 l08Ok.row:=by
 refine vw (tC l02Ok.ok (tC l03Ok.ok (tC l07Temperature.ok (tC l07Stable.ok tN)))) Tryz.func117 rfl (by kernel_rfl) ?_;intro a aa;simp only[Tryz.f117];simp(disch:=omega)only[ZA,simprocAttr,Ak.d,l08Ok.fv,l02Ok.q,l02Ok.fv,l03Ok.q,l03Ok.fv,l07Temperature.q,l07Temperature.fv,l07Stable.q,l07Stable.fv]
 split<;>rename_i c1
 .split<;>rename_i c2
  .have z:JW a.Set a.Seed=true:=by
    simp only[JW,AR,BK];exact c2
   split<;>rename_i G
   .have O:a.Seed.Tiles.isEmpty=false:=by
     rw[ZdK];intro h;rw[h] at G;simp at G
    split<;>rename_i Q
    .simp only[F2,Q,F5,fY]
    .refine⟨⟨Qge c1,(Zu z).1,(Zu z).2⟩,?_⟩;rw[FU] at Q;simp only[F2,c1,z,O,Q,DZ,Xf,UY]
     split<;>rename_i Z
     .rw[Z,DZ]
     .rw[Lq] at Z;rw[Z,F5]
   .have O:a.Seed.Tiles=[]:=by
     have:=GA.1 G
     exact uV (by omega)
    simp[F2,O]
  .have z:JW a.Set a.Seed=false:=by
    rw[Qn];intro h;simp only[JW,AR,BK] at h;exact c2 h
   simp[F2,z]
 .rw[Lq] at c1;simp[F2,c1]
def De(b n:Nat):List (List AV):=(List.range n).map λi=>[AV.own (b+i)]
def B5(b n:Nat)(M:List (List Int)):Aw:=AU b n (λi=>(true,.arr 2 1 ((M[i]?.getD []).map Ai)))
def Qq(j:Nat):Bool:=Nat.blt j 3||((Nat.ble 100 j && Nat.blt j 164)||(Nat.ble 200 j && Nat.blt j 264))
def CA(x:Bc)(n:Nat):Aw:=(0,(true,.cells 375 [.own 1,.own 2]))::(1,(true,.arrA 32 1 (De 100 n)))::(2,(true,.arrA 32 1 (De 200 n)))::(B5 100 n x.Room++B5 200 n x.Flow)
def nwC.ca(a:Int×List Ag):List AV:=[.im (.int .i64 a.1),.im (.sl false 3 (a.2.map Ag.c))]
def nwC.H1(a:Int×List Ag):Aw:=CA (DA a.1.toNat a.2) (min a.1.toNat 64)
def My(a:Int×List Ag):Prop:=0<=a.1/\a.1<=64/\a.2.length<=1000000/\Lc a.1 a.2/\Qe a.2/\ ∀b∈a.2,b.A≠b.B
def nwC.row:AB:=AF nwC.ca (λ_=>[]) 0 My (λ_=>false) (λ_=> .ptr 0 0) nwC.H1 320
def sK(m:Nat): ∀(a b:Aw),Ac m (a++b)=(Ac m a && Ac m b)
 |[],b=>by simp[Ac]
 |(i,(z,e))::r,b=>by
  have ih:=sK m r b;cases e<;>simp only[CP,Ac,ih,Zez]
def Qmd(m:Nat): ∀(a b:Aw),A9 m (a++b)=(A9 m a && A9 m b)
 |[],b=>by simp[A9]
 |(i,(z,e))::r,b=>by simp only[CP,A9,Qmd m r b,Zez]
def WB(b n N:Nat)(h:b+n<=N):(De b n).all (Aq N)=true:=by
 rw[Dw];intro r G;obtain⟨i,z,rfl⟩:=Bt.1 G
 have:=BA.1 z
 simp[Aq,AV.bel];omega
def Qkf(nx:Nat): ∀(l:List Nat),Gw nx 0 l=true
 |[]=>rfl
 |x::r=>by
  have:(Nat.blt x nx||Nat.ble (nx+0) x)=true:=by
   rw[GY,E3,Ht];omega
  simp only[Gw,this,Qkf nx r,fR]
def I7(b n:Nat):(De b n).length=n:=by simp[De]
def Qo7(b n i:Nat)(h:i<n):(De b n)[i]? =some [.own (b+i)]:=by simp[De,Io h]
def Qpf(a b:Aw):Ff (a++b)=Ff a++Ff b:=by
 induction a with
 |nil=>rfl
 |cons x r ih=>obtain⟨i,e⟩:=x;simp only[CP,Ff,ih]
def Qg(m:Nat): ∀(a b:Aw),hget (a++b) m=(hget a m).or (hget b m)
 |[],b=>by simp[hget]
 |(i,e)::r,b=>by
  have ih:=Qg m r b;simp only[CP,hget];cases i==m<;>simp[ih]
def Qpw(b n:Nat)(M:List (List Int))(i:Nat)(h:i<n):hget (B5 b n M) (b+i)=some (true,.arr 2 1 ((M[i]?.getD []).map Ai)):=HA _ _ _ _ h
def Qwa(b n:Nat)(M:List (List Int))(m:Nat)(h:m<b\/b+n<=m):hget (B5 b n M) m=none:=Qmh _ _ _ _ h
def dP(k:Nat)(M N:List (List Int))(i:Nat)(h:i<k):hget (B5 100 k M++B5 200 k N) (100+i)=some (true,.arr 2 1 ((M[i]?.getD []).map Ai)):=by
 rw[Qg,Qpw _ _ _ _ h];rfl
def dT(k:Nat)(M N:List (List Int))(i:Nat)(z:k<=100)(h:i<k):hget (B5 100 k M++B5 200 k N) (200+i)=some (true,.arr 2 1 ((N[i]?.getD []).map Ai)):=by
 rw[Qg,Qwa _ _ _ _ (by omega),Qpw _ _ _ _ h];rfl
def Qxa(b n i:Nat)(K:List AV->Prop)(h:i<n):Jx (De b n) i K=K [.own (b+i)]:=by
 apply propext;unfold Jx;rw[Qo7 b n i h];exact⟨λh=>h _ rfl,λh row z=>by obtain rfl:=AD z;exact h⟩
def kM(s:Aj): ∀(a b:Aw),Ca s (a++b)=(Ca s a/\Ca s b)
 |[],b=>by simp[Ca]
 |(i,e)::r,b=>by simp only[CP,Ca,kM s r b,mL]
def sU(s:Aj)(b n:Nat)(M:List (List Int)):Ca s (B5 b n M)= ∀i,i<n->hget s.h (b+i)=some (true,.arr 2 1 ((M[i]?.getD []).map Ai)):=by
 have: ∀(f:Nat->Au) (l:List Nat),Ca s (l.map λi=>(b+i,f i))↔ ∀i∈l,hget s.h (b+i)=some (f i):=by
  intro f l;induction l with
  |nil=>simp[Ca]
  |cons i r ih=>simp only[Be,Ca,ih,Bk,Zed]
 apply propext;rw[B5,AU,this];simp only[BA]
def Qrm{n:Nat}{bs:List Ag}(hb:Lc n bs)(hs:Qe bs)(a b:Nat): ∀k,0<=DR (BV n bs k) a b/\DR (BV n bs k) a b<=2000000*(k:Int)
 |0=>by
  simp only[DR,BV,KA,GO,Lo];split
  .rw[AM,Lo];split<;>simp
  .simp
 |k+1=>by
  have ih:=Qrm hb hs a b k;obtain⟨z,_⟩:=WI hb k;simp only[DR,BV] at ih⊢;split
  .rename_i x G;obtain⟨b1,b2,b3,b4⟩:=hb x (AZ G);have h0:=hs x (AZ G);simp only[Ko];rw[show x.A=(x.A.toNat:Int) by omega,show x.B=(x.B.toNat:Int) by omega];rw[dN (n:=n) (by rw[Zw];exact z.r) (Zs z.rr _ _ _ (by rw[z.r];simp;omega)) _ (by omega) (by omega),dN z.r z.rr _ (by omega) (by omega)]
   split<;>split<;>omega
  .omega
def T8(k:Nat)(O:k<=64):([0,1,2]++((List.range k).map (100+ ·)++(List.range k).map (200+ ·))).Nodup:=by
 rw[<-Hr];refine dQ _ 200 k (dQ _ 100 k (by simp) (by simp)) ?_;intro x z;rcases Bv.1 z with z|z
 .simp at z;omega
 .obtain⟨i,G,rfl⟩:=Bt.1 z
  have:=BA.1 G
  show 100+i<200;omega
def T7(k:Nat)(O:k<=64): ∀x∈([0,1,2]++((List.range k).map (100+ ·)++(List.range k).map (200+ ·))),x<300:=by
 intro x z;rcases Bv.1 z with z|z
 .simp at z;omega
 .rcases Bv.1 z with z|z<;>obtain⟨i,G,rfl⟩:=Bt.1 z<;>have:=BA.1 G
  .show 100+i<300;omega
  .show 200+i<300;omega
def Qyn{π:List (Nat×Option Nat)}{b:Nat}{g:Nat->Nat}{n:Nat}(h: ∀i,i<n->pm π (b+i)=some (g i)){R:List (List AV)}(hR:R=(List.range n).map λi=>[AV.own (g i)]):GF π (De b n) R:=by
 subst hR;rw[eQ];refine⟨by simp[De],λi x y G O=> ?_⟩;have z:i<n:=by have:=(Cd.1 G).1;rwa [I7] at this
 rw[Qo7 _ _ _ z] at G;rw[D1,Io z] at O;obtain rfl:=AD G;obtain rfl:=AD O;simp only[D9,mt,h i z,FL,Hs]
def Ql0(b k c:Nat):De b k++[[.own c]]=(List.range (k+1)).map λi=>[AV.own (if i<k then b+i else c)]:=by
 rw[mF,GD,De];congr 1
 .exact Og λi z=>by rw[An (BA.1 z)]
 .simp
def tP(k:Nat)(M N:List (List Int))(G:k<=64)(tm:List (Nat×AV))(z:Am 300 tm=true):Aj.good ⟨tm,(0,(true,.cells 375 [.own 1,.own 2]))::(1,(true,.arrA 32 1 (De 100 k)))::(2,(true,.arrA 32 1 (De 200 k)))::(B5 100 k M++B5 200 k N),300⟩=true:=by
 simp only[Aj.good,Ac,A9,z,DZ,sK,Qmd,B5];rw[QY _ _ _ (λi=>rfl),QY _ _ _ (λi=>rfl),QM _ _ _ _ (by omega),QM _ _ _ _ (by omega),WB _ _ _ (by omega),WB _ _ _ (by omega)];rfl
def Kx(o:Nat)(h:Qq o=true):o<264:=by
 simp only[Qq,GY,AR,E3,Ht] at h;omega
def aI(i:Nat)(h:i<64):Qq (100+i)=true:=by
 simp only[Qq,GY,AR,E3,Ht];omega
def aJ(i:Nat)(h:i<64):Qq (200+i)=true:=by
 simp only[Qq,GY,AR,E3,Ht];omega
def Quc(h:Nat->Option Au)(f:AV->Option AV): ∀(a b:Aw),EW h f (a++b)↔EW h f a/\EW h f b
 |[],b=>by simp[EW]
 |(i,e)::r,b=>by simp only[CP,EW,Quc h f r b,mL]
def Qoq(h:Nat->Option Au)(f:AV->Option AV)(b n:Nat)(M:List (List Int))(H: ∀i,i<n->h (b+i)=some (true,.arr 2 1 ((M[i]?.getD []).map Ai))):EW h f (B5 b n M):=by
 have: ∀(l:List Nat),(∀i∈l,i<n)->EW h f (l.map λi=>(b+i,(true,Ad.arr 2 1 ((M[i]?.getD []).map Ai)))):=by
  intro l;induction l with
  |nil=>intro _;simp[EW]
  |cons i r ih=>
   intro z;simp only[Be,EW];refine⟨?_,ih (λj O=>z j (BW _ O))⟩;rw[H i (z i (BS ..))];exact⟨rfl,rfl⟩
 exact this _ (λi G=>BA.1 G)
def Quf{h:Nat->Option Au}{kx:Nat->Option Nat}{m b n:Nat}(G: ∀i,i<n->kx (b+i)=some (b+i)):A7 (A7 (Bd h kx (m+1))) (De b n)=some (De b n):=by
 refine V8 (g:=λi=>[AV.own (b+i)]) (k:=λi=>[AV.own (b+i)]) _ λi z=> ?_
 simp only[A7,Bd,G i (BA.1 z),kp]
def TO{x:Bc}{n:Nat}(hn:n<=64){kx:Nat->Option Nat}(G: ∀o,Qq o=true->kx o=some o):EW (hget (CA x n)) (Bd (hget (CA x n)) kx 9) (CA x n):=by
 have k1:kx 1=some 1:=G 1 rfl;have k2:kx 2=some 2:=G 2 rfl;obtain⟨H,hH⟩: ∃H,H=hget (CA x n):=⟨_,rfl⟩;have g0:H 0=some (true,.cells 375 [.own 1,.own 2]):=by rw[hH];rfl
 have g1:H 1=some (true,.arrA 32 1 (De 100 n)):=by rw[hH];rfl
 have g2:H 2=some (true,.arrA 32 1 (De 200 n)):=by rw[hH];rfl
 have ga: ∀i,i<n->H (100+i)=some (true,.arr 2 1 ((x.Room[i]?.getD []).map Ai)):=by
  intro i z;rw[hH];simp only[CA,hget,Bi _ _ (show 0≠100+i by omega),Bi _ _ (show 1≠100+i by omega),Bi _ _ (show 2≠100+i by omega),BD];exact dP _ _ _ _ z
 have gb: ∀i,i<n->H (200+i)=some (true,.arr 2 1 ((x.Flow[i]?.getD []).map Ai)):=by
  intro i z;rw[hH];simp only[CA,hget,Bi _ _ (show 0≠200+i by omega),Bi _ _ (show 1≠200+i by omega),Bi _ _ (show 2≠200+i by omega),BD];exact dT _ _ _ _ (by omega) z
 rw[<-hH];simp only[CA,EW,Quc];refine⟨?_,?_,?_,Qoq _ _ _ _ _ ga,Qoq _ _ _ _ _ gb⟩
 .rw[g0];exact⟨rfl,by simp only[Cy,A7,Bd,k1,k2,kp];rfl⟩
 .rw[g1];exact⟨rfl,by simp only[Cy];rw[Quf (λi z=>G _ (aI i (by omega)))];rfl⟩
 .rw[g2];exact⟨rfl,by simp only[Cy];rw[Quf (λi z=>G _ (aJ i (by omega)))];rfl⟩
def Mx{x:Bc}{n:Nat}(hn:n<=64){p:Nat×Au}(hp:p∈CA x n):Qq p.1=true/\p.2.1=true:=by
 simp only[CA,Bk,Bv,B5,AU,Bt,BA] at hp;rcases hp with rfl|rfl|rfl|⟨i,z,rfl⟩|⟨i,z,rfl⟩
 .exact⟨rfl,rfl⟩
 .exact⟨rfl,rfl⟩
 .exact⟨rfl,rfl⟩
 .exact⟨aI i (by omega),rfl⟩
 .exact⟨aJ i (by omega),rfl⟩
def iY{a:Int×List Ag}{p:Nat×Au}(hp:p∈nwC.H1 a):Qq p.1=true/\p.2.1=true:=Mx (fV _ _) hp
def nwC.ok:AC Tryz.prog 270 nwC.row:=by
 refine ow tN Tryz.func270 rfl (by kernel_rfl) (exB:=Qq) (R:=λ_ r=>r= .ptr 0 0) (λ_=>rfl)
  (λa=>by simp[nwC.ca,Aq,AV.bel,Ac,A9,BR]) (λa p hp=> ?_) (λa r h=>by subst h;exact CJ.refl _) ?_
 rotate_left
 intro a ao;simp only[Tryz.f270,nwC.ca];simp(disch:=omega)only[ZA,simprocAttr];obtain⟨h0,O,hl,Q,ag,an⟩:=ao;obtain⟨n,hn⟩: ∃n:Nat,a.1=n:=⟨a.1.toNat,by omega⟩;obtain⟨bs,hbsd⟩: ∃bs,bs=a.2:=⟨_,rfl⟩;simp only[<-hbsd] at hl Q ag an;rw[hn] at h0 O Q;have hH1:nwC.H1 a=CA (DA n bs) n:=by simp only[nwC.H1,hn,Bx,hbsd];rw[ZeW (by omega)]
 rw[hH1];clear hH1;simp only[hn,<-hbsd];refine AQ.ren ⟨{k:Nat//k<=n},λk=>⟨[(11,.im (.int .i64 k.1)),(10,.im (.int .i64 n)),(5,.ptr 0 0),(0,.im (.int .i64 n)),(1,.im (.sl false 3 (bs.map Ag.c)))],(0,(true,.cells 375 [.own 1,.own 2]))::(1,(true,.arrA 32 1 (De 100 k.1)))::(2,(true,.arrA 32 1 (De 200 k.1)))::(B5 100 k.1 (List.replicate n (List.replicate n 0))++B5 200 k.1 (List.replicate n (List.replicate n 0))),300⟩,λk=>n - k.1,λk=>⟨?_,by simp⟩,⟨⟨0,by simp⟩,[(1,none),(2,none)],?_⟩,λk=> ?_⟩
 .exact tP _ _ _ (by omega) _ (by simp[Am,AV.bel])
 .simp only[Az,B5,AU,De,ZeT,Hc,D2];simp(disch:=omega)only[ZA,simprocAttr,Xh]
 obtain⟨k,au⟩:=k;simp(disch:=omega)only[ZA,simprocAttr,DH,AO,BC,Qkf,vL,uY,Lr,List.all_nil,WB,I7];refine⟨λhk=>⟨by omega,by omega,by omega,by omega,⟨k+1,by omega⟩,[(1,some 302),(2,some 305),(100+k,some 300),(200+k,some 303)],by simp only;omega,?_⟩,λhk=> ?_⟩
 .have hg: ∀i,i<n->(List.replicate n (List.replicate n (0:Int)))[i]?.getD []=List.replicate n 0:=by
   intro i z;rw[Lo,An z,AM]
  have ad: ∀i,i<k->pm [(1,some 302),(2,some 305),(100+k,some 300),(200+k,some 303)] (100+i)=some (100+i):=by
   intro i z;simp only[pm];rw[Af (by omega),Af (by omega),Af (by omega),Af (by omega)]
  have af: ∀i,i<k->pm [(1,some 302),(2,some 305),(100+k,some 300),(200+k,some 303)] (200+i)=some (200+i):=by
   intro i z;simp only[pm];rw[Af (by omega),Af (by omega),Af (by omega),Af (by omega)]
  have ab:pm [(1,some 302),(2,some 305),(100+k,some 300),(200+k,some 303)] (100+k)=some 300:=by
   simp only[pm];rw[Af (by omega),Af (by omega),An trivial]
  have ac:pm [(1,some 302),(2,some 305),(100+k,some 300),(200+k,some 303)] (200+k)=some 303:=by
   simp only[pm];rw[Af (by omega),Af (by omega),Af (by omega),An trivial]
  have q0:pm [(1,some 302),(2,some 305),(100+k,some 300),(200+k,some 303)] 0=some 0:=by
   simp only[pm];rw[Af (by omega),Af (by omega),Af (by omega),Af (by omega)]
  have q1:pm [(1,some 302),(2,some 305),(100+k,some 300),(200+k,some 303)] 1=some 302:=rfl;have q2:pm [(1,some 302),(2,some 305),(100+k,some 300),(200+k,some 303)] 2=some 305:=rfl;obtain⟨π,hπ⟩: ∃π,π=[(1,some 302),(2,some 305),(100+k,some 300),(200+k,some 303)]:=⟨_,rfl⟩;rw[<-hπ] at ad af ab ac q0 q1 q2⊢;refine⟨by rw[hπ];exact⟨by omega,by omega,by omega,by omega,trivial⟩,?_,?_,?_⟩
  .rw[eG,hπ];simp only[Ff,Qpf,B5,Zx];refine eP _ _ (T8 (k+1) (by omega)) ?_;intro x hx y hy m ah ai;have a9:=T7 (k+1) (by omega) x hx;have ba:=T7 (k+1) (by omega) y hy;simp only[pm] at ah ai
   repeat' split at ah
   all_goals repeat' split at ai
   all_goals simp only[AJ] at ah ai
   all_goals omega
  .simp only[Qi,AE];simp(disch:=omega)only[ZA,simprocAttr,q0];rw[AH (by omega) (by omega)];omega
  .simp only[GV,Qns,B5,dY];refine⟨?_,?_,?_,λi z=> ?_,λi z=> ?_⟩
   .simp(disch:=omega)only[ZA,simprocAttr,q0,q1,q2]
   .simp(disch:=omega)only[ZA,simprocAttr,q1];refine Qyn (g:=λi=>if i<k then 100+i else 300) (λi z=> ?_) (Ql0 100 k 300);by_cases h:i<k
    .rw[An h,ad i h]
    .rw[Af h,show i=k by omega,ab]
   .simp(disch:=omega)only[ZA,simprocAttr,q2];refine Qyn (g:=λi=>if i<k then 200+i else 303) (λi z=> ?_) (Ql0 200 k 303);by_cases h:i<k
    .rw[An h,af i h]
    .rw[Af h,show i=k by omega,ac]
   .by_cases h:i<k
    .rw[ad i h,hg i (by omega)];simp only[Em,hget,Bi _ _ (show 0≠100+i by omega),Bi _ _ (show 305≠100+i by omega),Bi _ _ (show 303≠100+i by omega),Bi _ _ (show 302≠100+i by omega),Bi _ _ (show 300≠100+i by omega),BD,WD];have h9:=dP k (List.replicate n (List.replicate n 0)) (List.replicate n (List.replicate n 0)) i h;simp only[B5] at h9;simp (disch:=omega) only[ZO,ZU,Bi,Qo,CY,CH,h9,hg,Kt,ED,Hs]
    .rw[show i=k by omega,ab,hg k (by omega)];simp(disch:=omega)only[ZA,simprocAttr,tO]
   .by_cases h:i<k
    .rw[af i h,hg i (by omega)];simp only[Em,hget,Bi _ _ (show 0≠200+i by omega),Bi _ _ (show 305≠200+i by omega),Bi _ _ (show 303≠200+i by omega),Bi _ _ (show 302≠200+i by omega),Bi _ _ (show 300≠200+i by omega),BD,WD];have h9:=dT k (List.replicate n (List.replicate n 0)) (List.replicate n (List.replicate n 0)) i (by omega) h;simp only[B5] at h9;simp (disch:=omega) only[ZO,ZU,Bi,Qo,CY,CH,h9,hg,Kt,ED,Hs]
    .rw[show i=k by omega,ac,hg k (by omega)];simp(disch:=omega)only[ZA,simprocAttr,tO]
 .intro _;have av:k=n:=by omega
  subst av;clear hk au;refine AQ.old ⟨{j:Nat//j<=bs.length},λj=>⟨[(38,.im (.int .i64 j.1)),(37,.im (.int .i64 bs.length)),(36,.im (.sl false 3 (bs.map Ag.c))),(5,.ptr 0 0)],(0,(true,.cells 375 [.own 1,.own 2]))::(1,(true,.arrA 32 1 (De 100 k)))::(2,(true,.arrA 32 1 (De 200 k)))::(B5 100 k (BV k bs j.1).Room++B5 200 k (BV k bs j.1).Flow),300⟩,λj=>bs.length - j.1,λj=>⟨?_,by simp⟩,⟨⟨0,by simp⟩,?_⟩,λj=> ?_⟩
  .exact tP _ _ _ (by omega) _ (by simp[Am,AV.bel])
  .simp only[sub,Gz,Ca,AE,hget,kM];simp(disch:=omega)only[ZA,simprocAttr,sU,BV,KA];refine⟨λi z=> ?_,λi z=> ?_⟩
   .rw[Af (by omega),Af (by omega),Af (by omega)];exact dP _ _ _ _ z
   .rw[Af (by omega),Af (by omega),Af (by omega)];exact dT _ _ _ _ (by omega) z
  obtain⟨j,hj⟩:=j;obtain⟨aa,_⟩:=WI Q j;obtain⟨x,hx⟩: ∃x,x=BV k bs j:=⟨_,rfl⟩;simp only[<-hx] at aa⊢;simp(disch:=omega)only[ZA,simprocAttr,Qq,AO,BC,I7];refine⟨λam=>⟨am,λb hb=> ?_⟩,λam=> ?_⟩
  .obtain⟨b1,b2,b3,b4⟩:=Q b (AZ hb);have az:=an b (AZ hb);have a0:=ag b (AZ hb);obtain⟨u,hu⟩: ∃u:Nat,b.A=u:=⟨b.A.toNat,by omega⟩;obtain⟨v,hv⟩: ∃v:Nat,b.B=v:=⟨b.B.toNat,by omega⟩;have Z:u<k:=by omega
   have G:v<k:=by omega
   have ay:u≠v:=by omega
   simp only[hu,hv,Bx];refine⟨by omega,by omega,by omega,?_⟩;have hr: ∀i,i<k->(x.Room[i]?.getD []).length=k:=by
    intro i z;rw[Bj (by rw[aa.r];exact z),AM];exact aa.rr _ (Rl _)
   have aw:=hr u Z;have ax:=hr v G;simp(disch:=omega)only[ZA,simprocAttr,sub,WN,BC,I7,Bi,NV,dP,aw,ax,Qxa,dM,vL,kM,sU];have aj:=Qrm Q ag u v j;have ak:=Qrm Q ag v u j;rw[<-hx] at aj ak;refine⟨by omega,G,by omega,G,λx1 e1=>⟨G,by omega,G,λx2 _=>⟨.inr (by omega),G,G,by omega,Z,by omega,Z,λx3 e3=>⟨Z,by omega,Z,λx4 _=>⟨.inr (by omega),⟨j+1,by omega⟩,by simp only;omega,by rw[AH (by omega) (by omega)];simp only;omega,?_⟩⟩⟩⟩⟩;have r1:DR x u v=x1:=by simp only[DR,GO,e1,AM]
   have r3:DR x v u=x3:=by simp only[DR,GO,e3,AM]
   rw[r1] at aj;rw[r3] at ak;rw[AH (by omega) (by omega),AH (by omega) (by omega)];have hN:BV k bs (j+1)=Ko x b:=by simp only[BV,hb,<-hx]
   have hR: ∀i,i<k->(BV k bs (j+1)).Room[i]?.getD []=if v=i then (x.Room[v]?.getD []).set u (x3+b.Strength) else if u=i then (x.Room[u]?.getD []).set v (x1+b.Strength) else x.Room[i]?.getD []:=by
    intro i z;rw[hN];simp only[Ko,Li,hu,hv,Bx];by_cases O:v=i
    .subst O;rw[An rfl,Dm (by rw[EX,aa.r];exact G),AM,DF ay,e3,AM]
    .rw[Af O,DF O];by_cases h2:u=i
     .subst h2;rw[An rfl,Dm (by rw[aa.r];exact Z),AM,e1,AM]
     .rw[Af h2,DF h2]
   have hF:(BV k bs (j+1)).Flow=x.Flow:=by rw[hN];rfl
   refine⟨λi z=> ?_,λi z=> ?_⟩
   .rw[hR i z];by_cases O:v=i
    .subst O;rw[An rfl,An rfl]
    .rw[Af (by omega),Af O];by_cases h2:u=i
     .subst h2;rw[An rfl,An rfl]
     .rw[Af (by omega),Af h2,Af (by omega)];exact dP _ _ _ _ z
   .rw[Af (by omega),hF];exact dT _ _ _ _ (by omega) z
  .have aq:j=bs.length:=by omega
   subst aq;rw[hx];exact TO (x:=DA k bs) (n:=k) (by omega) (λo ho=>by
    have O:(Ao [] o||(Qq o && (Nat.ble 0 o && Nat.blt o (0+320))))=true:=by
     have h2:=Kx o ho;simp[ho];omega
    simp only[IW,O,Ck])
 rcases iY hp with ⟨O,h2⟩
 have a8:=Kx p.1 O;exact .inr ⟨by omega,by omega,O,h2⟩
structure T5(H:Nat->Option Au)(x:Bc)(n:Nat):Prop where
 g0:H 0=some (true,.cells 375 [.own 1,.own 2])
 g1:H 1=some (true,.arrA 32 1 (De 100 n))
 g2:H 2=some (true,.arrA 32 1 (De 200 n))
 ga: ∀i,i<n->H (100+i)=some (true,.arr 2 1 ((x.Room[i]?.getD []).map Ai))
 gb: ∀i,i<n->H (200+i)=some (true,.arr 2 1 ((x.Flow[i]?.getD []).map Ai))
def U1{M:List (List Int)}{n:Nat}(h:M.length=n):(List.range n).map (λi=>CG (M[i]?.getD []))=M.map CG:=by
 apply Kj;intro i;rw[D1,D1];by_cases z:i<n
 .rw[Io z,Bj (by omega:i<M.length)];simp only[CQ,Bj (show i<M.length by omega),AM]
 .rw[FE (by simp;omega),FE (by omega)];rfl
def Mz{H:Nat->Option Au}{m b o n:Nat}{M:List (List Int)}(Q:M.length=n)(z:H o=some (true,.arrA 32 1 (De b n)))(G: ∀i,i<n->H (b+i)=some (true,.arr 2 1 ((M[i]?.getD []).map Ai))):
 bk H (m+2) (.own o)=some (.sl false 1 (M.map CG)):=by
 simp only[bk,z,Lm];rw[De,V8 (f:=A7 (bk H (m+1))) (g:=λi=>[AV.own (b+i)]) (k:=λi=>CG (M[i]?.getD [])),U1 Q]
 .rfl
 .intro i O;simp only[A7,bk,G i (BA.1 O),Lm];rfl
def Ys{H:Nat->Option Au}{x:Bc}{n:Nat}(h:T5 H x n)(z:Kd x n)(a b:D):C7 H [.ptr 0 0,.im a,.im b]=some [.ptr (Bc.c x),FV a,FV b]:=by
 have G:=Mz (m:=6) z.r h.g1 h.ga;have O:=Mz (m:=6) z.f h.g2 h.gb;simp only[C7,ER,h.g0,ZI,Hq,A7,G,O,Y0,CQ,I1];rfl
def Vt{H:Nat->Option Au}{x:Bc}{n nx:Nat}{K:Ah}(h:T5 H x n)(z:Kd x n)(hn:n<=1000){p q:Int}(G:0<=p)(aa:p<n)(O:0<=q)(ab:q<n)
 (hK: ∀U,K (.im (.sl true 1 ((Ct x n p q).map Ai))) {use:=U}):wayC.row [.ptr 0 0,.im (.int .i64 p),.im (.int .i64 q)] H nx K:=by
 have Q:=z.r;rw[wayC.q,Ys h z];have e:Bc.d ((Bc.c x).take 2)=some x:=Bc.d_c x;simp only[WA,b3,qP,qI,a3,kP,kI,FV,e,Ey,El];refine⟨⟨Q▸z,by omega,G,by omega,O,by omega⟩,?_⟩;have Z:wayC.re (wayC.fv (x,p,q))= .sl true 1 ((Ct x n p q).map Ai):=by simp only[wayC.re,wayC.fv,Q]
 rw[Z];exact hK _
def sndC.n(a:Bc×Int×Int×Int):Nat:=min a.1.Room.length 64
def Re(n:Nat)(p q:Int):Nat->Bc->Bc
 |0,x=>x
 |m+1,x=>if Ct x n p q=[] then x else Re n p q m (Ho x (Ct x n p q) ((Ct x n p q).length - 1))
def sndC.ca(a:Bc×Int×Int×Int):List AV:=[.ptr 0 0,.im (.int .i64 a.2.1),.im (.int .i64 a.2.2.1),.im (.int .i64 a.2.2.2)]
def sndC.H0(a:Bc×Int×Int×Int):Aw:=CA a.1 (sndC.n a)
def sndC.H1(a:Bc×Int×Int×Int):Aw:=B5 200 (sndC.n a) (Re (sndC.n a) a.2.1 a.2.2.1 a.2.2.2.toNat a.1).Flow
def sndC.r0(a:Bc×Int×Int×Int):AV:= .im (.int .i64 (FR (sndC.n a) a.2.1 a.2.2.1 a.2.2.2.toNat a.1))
structure UJ(a:Bc×Int×Int×Int):Prop where
 n:a.1.Room.length<=64
 ok:Kd a.1 a.1.Room.length
 p0:0<=a.2.1
 p1:a.2.1<a.1.Room.length
 q0:0<=a.2.2.1
 q1:a.2.2.1<a.1.Room.length
 pq:a.2.1≠a.2.2.1
 m0:0<=a.2.2.2
 m1:a.2.2.2<=1000000
 fl: ∃v,QU (DR a.1) (J7 a.1) a.1.Room.length a.2.1.toNat a.2.2.1.toNat v
 rm: ∀u v,DR a.1 u v<=10000000000000
def SU(j:Nat):Bool:=Nat.ble 200 j && Nat.blt j 264
def sndC.row:AB:=AF sndC.ca sndC.H0 300 UJ SU sndC.r0 sndC.H1 10
def sndC.hbel(a:Bc×Int×Int×Int):Aq 300 (sndC.ca a)=true:=rfl
def sndC.n_le(a:Bc×Int×Int×Int):sndC.n a<=64:=fV _ _
def nS(x:Bc)(n:Nat)(hn:n<=64):Ac 300 (CA x n)=true/\A9 300 (CA x n)=true:=by
 have:=tP n x.Room x.Flow hn [] rfl
 simp only[Aj.good,AR] at this;exact this.2
def sndC.hbH(a:Bc×Int×Int×Int):Ac 300 (sndC.H0 a)=true:=(nS _ _ (sndC.n_le a)).1
def sndC.hkH(a:Bc×Int×Int×Int):A9 300 (sndC.H0 a)=true:=(nS _ _ (sndC.n_le a)).2
def V7(x:Bc)(n:Nat)(hn:n<=64):T5 (hget (CA x n)) x n:=by
 refine⟨rfl,rfl,rfl,λi z=> ?_,λi z=> ?_⟩
 .simp only[CA,hget,Bi _ _ (show 0≠100+i by omega),Bi _ _ (show 1≠100+i by omega),Bi _ _ (show 2≠100+i by omega),BD];exact dP _ _ _ _ z
 .simp only[CA,hget,Bi _ _ (show 0≠200+i by omega),Bi _ _ (show 1≠200+i by omega),Bi _ _ (show 2≠200+i by omega),BD];exact dT _ _ _ _ (by omega) z
def Qvt(H0:Aw): ∀(a b:Aw),BR H0 (a++b)↔BR H0 a/\BR H0 b
 |[],b=>by simp[BR]
 |(i,(z,e))::r,b=>by simp only[CP,BR,Qvt H0 r b,mL]
def Qud(H0:Aw)(b n:Nat)(M:List (List Int)):BR H0 (B5 b n M):=by
 have: ∀(l:List Nat),BR H0 (l.map λi=>(b+i,(true,Ad.arr 2 1 ((M[i]?.getD []).map Ai)))):=by
  intro l;induction l with
  |nil=>simp[BR]
  |cons i r ih=>simp only[Be,BR];exact⟨λm z=>by simp[Ad.nms] at z,ih⟩
 exact this _
def Qu6(b n:Nat): ∀m∈B6 (De b n),∃i,i<n/\m=b+i:=by
 have: ∀(l:List Nat),(∀i∈l,i<n)-> ∀m∈B6 (l.map λi=>[AV.own (b+i)]),∃i,i<n/\m=b+i:=by
  intro l;induction l with
  |nil=>intro _ m z;simp[B6] at z
  |cons i r ih=>
   intro G m z;simp only[Be,B6,AG,AV.nms,D2,Bv,BJ] at z;rcases z with rfl|z
   .exact⟨i,G i (BS ..),rfl⟩
   .exact ih (λj Q=>G j (BW _ Q)) m z
 exact this _ (λi O=>BA.1 O)
def Yr(x:Bc)(n:Nat)(hn:n<=64):BR (CA x n) (CA x n):=by
 have G:=V7 x n hn;have hd: ∀o e,hget (CA x n) o=some e->Ao (CA x n) o=true:=λo e h=>by simp only[Ao,h];rfl
 obtain⟨H,hH⟩: ∃H,H=CA x n:=⟨_,rfl⟩;rw[<-hH] at G hd;rw[show BR (CA x n) (CA x n)=BR H (CA x n) by rw[hH]];simp only[CA,BR,Qvt];refine⟨λm z=> ?_,λm z=> ?_,λm z=> ?_,Qud _ _ _ _,Qud _ _ _ _⟩
 .simp only[Ad.nms,AG,AV.nms,D2,Bv,BJ] at z;rcases z with rfl|rfl
  .exact hd _ _ G.g1
  .exact hd _ _ G.g2
 .obtain⟨i,O,rfl⟩:=Qu6 100 n m z;exact hd _ _ (G.ga i O)
 .obtain⟨i,O,rfl⟩:=Qu6 200 n m z;exact hd _ _ (G.gb i O)
def Ng{s:Aj}{x:Bc}{n:Nat}(h:T5 (hget s.h) x n):Ca s (CA x n):=by
 simp only[CA,Ca,kM,sU];exact⟨h.g0,h.g1,h.g2,h.ga,h.gb⟩
def MN(h:Nat->Option Au)(f:Nat->Bool): ∀(a b:Aw),HU h f (a++b)↔HU h f a/\HU h f b
 |[],b=>by simp[HU]
 |(i,e)::r,b=>by simp only[CP,HU,MN h f r b,mL]
def aN(i:Nat)(h:i<64):SU (200+i)=true:=by
 simp only[SU,AR,Ht,E3];omega
def Qxi(h:Nat->Option Au)(f:Nat->Bool)(b:Nat)(g:Nat->Au)(n:Nat)(H: ∀i,i<n->f (b+i)=true\/h (b+i)=some (g i)):HU h f (AU b n g):=by
 have: ∀(l:List Nat),(∀i∈l,i<n)->HU h f (l.map λi=>(b+i,g i)):=by
  intro l;induction l with
  |nil=>intro _;trivial
  |cons i r ih=>
   intro G;simp only[Be,HU];refine⟨?_,ih (λj Q=>G j (BW _ Q))⟩;rcases H i (G i (BS ..)) with z|z
   .rw[z];trivial
   .cases f (b+i)
    .exact z
    .trivial
 exact this _ (λi O=>BA.1 O)
def Ux{h:Nat->Option Au}{n:Nat}(hn:n<=64){M:List (List Int)}(H: ∀i,i<n->h (100+i)=some (true,.arr 2 1 ((M[i]?.getD []).map Ai))):HU h SU (B5 100 n M):=Qxi _ _ _ _ _ (λi z=> .inr (H i z))
def Uy{h:Nat->Option Au}{n:Nat}(hn:n<=64){M:List (List Int)}:HU h SU (B5 200 n M):=Qxi _ _ _ _ _ (λi z=> .inl (aN i (by omega)))
def sndC.hnm(a:Bc×Int×Int×Int):BR (sndC.H0 a) (sndC.H0 a):=Yr _ _ (sndC.n_le a)
def sndC.ok:AC Tryz.prog 271 sndC.row:=by
 refine ow (tC wayC.ok tN) Tryz.func271 rfl (by kernel_rfl) (exB:=λ_=>false) (R:=λa r=>r=sndC.r0 a) (λ_=>rfl)
  (λa=>⟨sndC.hbel a,sndC.hbH a,sndC.hkH a,sndC.hnm a⟩) (λa p hp=> ?_) (λa r h=>by subst h;exact CJ.refl _) ?_
 rotate_left
 intro a au;simp only[Tryz.f271,sndC.ca];simp(disch:=omega)only[ZA,simprocAttr];obtain⟨x,p,q,mo⟩:=a;obtain⟨hn,ak,ac,Z,ad,af,aq,a9,ba,aj,am⟩:=au;simp only at hn ak ac Z ad af aq a9 ba aj am;obtain⟨n,hnn⟩: ∃n,n=x.Room.length:=⟨_,rfl⟩;obtain⟨M,hM⟩: ∃M:Nat,mo=M:=⟨mo.toNat,by omega⟩;subst hM;have bd: ∀y:Int×Int×Int,sndC.n (x,y)=n:=λy=>by simp only[sndC.n,<-hnn];omega
 simp only[sndC.H1,sndC.r0,sndC.H0,bd,Bx,CA,BC];rw[<-hnn] at hn ak Z af aj;refine AQ.old ⟨{s:Nat×Bc//s.1<=M/\Kd s.2 n/\s.2.Room=x.Room/\(∃v,QU (DR x) (J7 s.2) n p.toNat q.toNat v)/\FR n p q M x=FR n p q (M - s.1) s.2+s.1/\Re n p q M x=Re n p q (M - s.1) s.2},λs=>⟨[(9,.im (.int .i64 s.1.1)),(0,.ptr 0 0),(1,.im (.int .i64 p)),(2,.im (.int .i64 q)),(3,.im (.int .i64 M))],CA s.1.2 n,300⟩,λs=>M - s.1.1,λs=>⟨?_,by simp⟩,⟨⟨(0,x),by simp only;omega,ak,rfl,aj,by simp,by simp⟩,?_⟩,λs=> ?_⟩
 .simp only[CA];exact tP _ _ _ hn _ (by simp[Am,AV.bel])
 .simp only[sub,Gz,AE];refine⟨?_,?_⟩
  .simp(disch:=omega)only[ZA,simprocAttr]
  .exact Ng (V7 x n hn)
 obtain⟨⟨k,y⟩,i1,i2,i3,i4,i5,i6⟩:=s;simp only at i1 i2 i3 i4 i5 i6;simp only[CA];simp(disch:=omega)only[ZA,simprocAttr,BC];refine Vt (V7 y n hn) i2 (by omega) ac Z ad af (λU=> ?_);obtain⟨L,hL⟩: ∃L,L=Ct y n p q:=⟨_,rfl⟩;rw[<-hL];simp(disch:=omega)only[ZA,simprocAttr,BC,AO];have ah:(FR n p q (M - k) y=0)->(Re n p q (M - k) y=y)->(((bif SU 0 then True else True)/\(bif SU 1 then True else True)/\(bif SU 2 then True else True)/\HU (hget (CA y n)) SU (B5 100 n x.Room++B5 200 n x.Flow))/\(k:Int)=FR n p q M x/\ ∀kx,EW (hget (CA y n)) (Bd (hget (CA y n)) kx 9) (B5 200 n (Re n p q M x).Flow)):=by
  intro e1 e2;have hI:=V7 y n hn;refine⟨⟨trivial,trivial,trivial,(MN _ _ _ _).2 ⟨Ux hn (λi O=>by rw[hI.ga i O,i3]),Uy hn⟩⟩,by omega,λkx=> ?_⟩;rw[i6,e2];exact Qoq _ _ _ _ _ hI.gb
 have ax:(L.map Ai).isEmpty=L.isEmpty:=by cases L<;>rfl
 rw[ax];refine⟨λc1=>⟨λc2=> ?_,λc2=> ?_⟩,λc1=> ?_⟩
 .obtain⟨g1,g2,g3⟩:=ah (by rw[show M - k=0 by omega];rfl) (by rw[show M - k=0 by omega];rfl);exact⟨g1,g2,g3 _⟩
 .have aa:L≠[]:=by intro h;rw[h] at c1;cases c1
  have hW:SK y n p q L:=by rw[hL];exact Vv ac Z ad af (by rw[<-hL];exact aa)
  have bh:=hW.pos;obtain⟨v,hv⟩:=i4;have an: ∀i,i<L.length-> ∃w:Nat,L[i]? =some (w:Int)/\w<n:=by
   intro i O
   have:=hW.inb _ (Rl O)
   refine⟨(L[i]).toNat,by rw[Bj O];congr 1;omega,by omega⟩
  refine AQ.old ⟨{j:Nat//j+1<=L.length},λj=>⟨[(11,.im (.int .i64 ((j.1:Int)+1))),(10,.im (.sl true 1 (L.map Ai))),(9,.im (.int .i64 k)),(0,.ptr 0 0),(1,.im (.int .i64 p)),(2,.im (.int .i64 q)),(3,.im (.int .i64 M))],CA (Ho y L j.1) n,300⟩,λj=>L.length - j.1,λj=>⟨?_,by simp⟩,⟨⟨0,by omega⟩,?_⟩,λj=> ?_⟩
  .simp only[CA];exact tP _ _ _ hn _ (by simp[Am,AV.bel])
  .simp only[sub,Gz,AE];refine⟨?_,?_⟩
   .simp(disch:=omega)only[ZA,simprocAttr]
   .exact Ng (V7 y n hn)
  obtain⟨j,hj⟩:=j;have G:=zJ i2 hW.inb j (by omega);obtain⟨z,hz⟩: ∃z,z=Ho y L j:=⟨_,rfl⟩;simp only[<-hz] at G⊢;simp only[CA];have ej:((j:Int)+1).toNat=j+1:=by omega
  simp(disch:=omega)only[ZA,simprocAttr,BC,sub,AO,I7];intro bg;have ew:IntKind.i64.wrap ((j:Int)+1 - 1)=j:=by rw[AH (by omega) (by omega)];omega
  have av:IntKind.i64.wrap ((j:Int)+1+1)=(j:Int)+1+1:=AH (by omega) (by omega);simp only[ew,Bx];refine⟨λa0=> ?_,λa0=> ?_⟩
  .obtain⟨u,ab,hu⟩:=an j (by omega);obtain⟨w,ai,Q⟩:=an (j+1) (by omega);have be:u≠w:=by
    intro h
    have:=hW.nd j (j+1) (by omega) (by omega) (by simp only[Lf,ab,ai,h])
    omega
   have hr: ∀i,i<n->(z.Flow[i]?.getD []).length=n:=by
    intro i O;rw[Bj (by rw[G.f];exact O),AM];exact G.ff _ (Rl _)
   have bb:=hr u hu;have bc:=hr w Q;simp only[ab,AJ,forall_eq'];simp(disch:=omega)only[ZA,simprocAttr,sub,WN,BC,I7,Bi,NV,dT,ew,av,ej,ab,ai,forall_eq',bb,bc,Qxa,dM,vL,kM,sU];have hb: ∀a b,a<n->b<n-> -10000000000002<=J7 z a b/\J7 z a b<=10000000000002:=by
    intro a b ha hb;have h1:=Qso i2 hW.inb a b j (by omega);have h2:=Qr1 (L:=Lf L) (m:=L.length - 1) (λi j O hj=>hW.nd i j (by omega) (by omega)) a b j (by omega);have h3:=Qr1 (L:=Lf L) (m:=L.length - 1) (λi j O hj=>hW.nd i j (by omega) (by omega)) b a j (by omega);have h4:=rL (Lf L) a b j;have h5:=rL (Lf L) b a j;have h6:=hv.cap a b ha hb;have h7:=hv.cap b a hb ha;have h8:=hv.anti a b ha hb;have h9:=am a b;have bi:=am b a;rw[<-hz] at h1;simp only[J7] at*;omega
   have ay:=hb u w hu Q;have az:=hb w u Q hu;refine⟨by omega,hu,hu,by omega,by omega,by omega,Q,by omega,Q,λx1 e1=>⟨Q,by omega,Q,λ_ _=>⟨.inr (by omega),by omega,by omega,Q,Q,by omega,by omega,hu,by omega,hu,λx3 e3=>⟨hu,by omega,hu,λ_ _=>⟨.inr (by omega),⟨j+1,by omega⟩,by simp only;omega,by simp only;omega,?_⟩⟩⟩⟩⟩;have r1:J7 z u w=x1:=by simp only[J7,GO,e1,AM]
   have r3:J7 z w u=x3:=by simp only[J7,GO,e3,AM]
   rw[r1] at ay;rw[r3] at az;rw[AH (by omega) (by omega),AH (by omega) (by omega)];have hN:Ho y L (j+1)=N6 z u w:=by simp only[Ho,ab,ai,AM,<-hz]
   have hR: ∀i,i<n->(Ho y L (j+1)).Flow[i]?.getD []=if w=i then (z.Flow[w]?.getD []).set u (x3 - 1) else if u=i then (z.Flow[u]?.getD []).set w (x1+1) else z.Flow[i]?.getD []:=by
    intro i O;rw[hN];simp only[N6,Li,Bx];by_cases h1:w=i
    .subst h1;rw[An rfl,Dm (by rw[EX,G.f];exact Q),AM,DF be,e3,AM];rfl
    .rw[Af h1,DF h1];by_cases h2:u=i
     .subst h2;rw[An rfl,Dm (by rw[G.f];exact hu),AM,e1,AM]
     .rw[Af h2,DF h2]
   have hF:(Ho y L (j+1)).Room=z.Room:=by rw[hN];rfl
   refine⟨λi O=> ?_,λi O=> ?_⟩
   .rw[Af (by omega),Af (by omega)];show _=some (true,Ad.arr _ 1 (List.map Ai ((Ho y L (j+1)).Room[i]?.getD [])));rw[hF];exact dP _ _ _ _ O
   .show _=some (true,Ad.arr _ 1 (List.map Ai ((Ho y L (j+1)).Flow[i]?.getD [])));rw[hR i O];by_cases h1:w=i
    .subst h1;rw[An rfl,An rfl]
    .rw[Af (by omega),Af h1];by_cases h2:u=i
     .subst h2;rw[An rfl,An rfl]
     .rw[Af (by omega),Af h2];exact dT _ _ _ _ (by omega) O
  .have a8:j=L.length - 1:=by omega
   subst a8;obtain⟨m,hm⟩: ∃m,M - k=m+1:=⟨M - k - 1,by omega⟩;have ao: ¬Ct y n p q=[]:=by rw[<-hL];exact aa
   have e5:FR n p q (m+1) y=FR n p q m z+1:=by simp only[FR];rw[Af ao,<-hL,<-hz]
   have e6:Re n p q (m+1) y=Re n p q m z:=by simp only[Re];rw[Af ao,<-hL,<-hz]
   rw[hm] at i5 i6;have ag:=(Qun i2 ac Z aq ad (v:=v) (by rw[show DR y=DR x by funext a b;simp only[DR,i3]];exact hv) hW).2;have bf:z.Room=x.Room:=by rw[hz,Ql3,i3]
   rw[show DR y=DR x by funext a b;simp only[DR,i3],<-hz] at ag;refine⟨⟨(k+1,z),by simp only;omega,G,bf,⟨_,ag⟩,by simp only;rw[show M - (k+1)=m by omega];omega,by simp only;rw[show M - (k+1)=m by omega,i6,e6]⟩,by simp only;omega,?_⟩;refine⟨by rw[AH (by omega) (by omega)];simp only;omega,?_⟩;simp only[kM,sU];exact⟨(V7 z n hn).ga,(V7 z n hn).gb⟩
 .have aa:L=[]:=by
   cases L with
   |nil=>rfl
   |cons a r=>exact absurd rfl c1
  have Q:Ct y n p q=[]:=by rw[<-hL,aa]
  have z1: ∀m,FR n p q m y=0:=by
   intro m;cases m with
   |zero=>rfl
   |succ m=>simp only[FR];rw[An Q]
  have z2: ∀m,Re n p q m y=y:=by
   intro m;cases m with
   |zero=>rfl
   |succ m=>simp only[Re];rw[An Q]
  obtain⟨g1,g2,g3⟩:=ah (z1 _) (z2 _);exact⟨g1,g2,g3 _⟩
 simp only[sndC.H1,B5,AU,Bt,BA] at hp;obtain⟨i,O,rfl⟩:=hp;have aw:=sndC.n_le a;refine .inl ⟨by omega,by simp only[SU,AR,Ht,E3];omega,?_⟩;simp only[Ao,sndC.H0];rw[(V7 a.1 (sndC.n a) aw).gb i O];rfl
def Qwi(h:Nat->Option Au)(σ:Nat->Nat): ∀(a b:Aw),CO h σ (a++b)↔CO h σ a/\CO h σ b
 |[],b=>by simp[CO]
 |(i,(z,e))::r,b=>by simp only[CP,CO,Qwi h σ r b,mL]
def Qt1{h:Nat->Option Au}{σ:Nat->Nat}{b n:Nat}{M:List (List Int)}(H: ∀i,i<n->h (σ (b+i))=some (true,.arr 2 1 ((M[i]?.getD []).map Ai))):CO h σ (B5 b n M):=by
 have: ∀(l:List Nat),(∀i∈l,i<n)->CO h σ (l.map λi=>(b+i,(true,Ad.arr 2 1 ((M[i]?.getD []).map Ai)))):=by
  intro l;induction l with
  |nil=>intro _;trivial
  |cons i r ih=>
   intro z;simp only[Be,CO];exact⟨H i (z i (BS ..)),ih (λj O=>z j (BW _ O))⟩
 exact this _ (λi G=>BA.1 G)
def Qth{σ:Nat->Nat}{b n:Nat}{M:List (List Int)}(H: ∀i,i<n->σ (b+i)=b+i):AY σ (B5 b n M)=B5 b n M:=by
 have: ∀(l:List Nat),(∀i∈l,i<n)->AY σ (l.map λi=>(b+i,(true,Ad.arr 2 1 ((M[i]?.getD []).map Ai))))=l.map λi=>(b+i,(true,Ad.arr 2 1 ((M[i]?.getD []).map Ai))):=by
  intro l;induction l with
  |nil=>intro _;rfl
  |cons i r ih=>
   intro z;simp only[Be,AY];rw[H i (z i (BS ..)),ih (λj O=>z j (BW _ O))];rfl
 exact this _ (λi G=>BA.1 G)
def yU{σ:Nat->Nat}{b n:Nat}(H: ∀i,i<n->σ (b+i)=b+i):(De b n).map (AL σ)=De b n:=by
 simp only[De,Rk];refine Og λi z=> ?_
 simp only[Function.comp,AL,AV.ren,H i (BA.1 z)]
def Qzq(σ:Nat->Nat): ∀(a b:Aw),AY σ (a++b)=AY σ a++AY σ b
 |[],b=>rfl
 |(i,(z,e))::r,b=>by simp only[CP,AY,Qzq σ r b]
def Y8{σ:Nat->Nat}{x:Bc}{n:Nat}(hn:n<=64)(H: ∀j,j<300->σ j=j):AY σ (CA x n)=CA x n:=by
 simp only[CA,AY,Qzq,Ad.ren,AL,AV.ren,H 0 (by omega),H 1 (by omega),H 2 (by omega),yU (b:=100) (n:=n) (λi z=>H (100+i) (by omega)),yU (b:=200) (n:=n) (λi z=>H (200+i) (by omega)),Qth (b:=100) (n:=n) (λi z=>H (100+i) (by omega)),Qth (b:=200) (n:=n) (λi z=>H (200+i) (by omega))]
def KB{x:Bc}{n:Nat}(hn:n<=64){j:Nat}(h:Ao (CA x n) j=true):j<264/\(200<=j-> ∃i,i<n/\j=200+i)/\j∈[0,1,2]++((List.range n).map (100+ ·)++(List.range n).map (200+ ·)):=by
 have z:j∈[0,1,2]++((List.range n).map (100+ ·)++(List.range n).map (200+ ·)):=by
  have: ∀(H:Aw),Ao H j=true->j∈Ff H:=by
   intro H;induction H with
   |nil=>intro h;simp[Ao,hget] at h
   |cons e r ih=>
    obtain⟨i,e⟩:=e;intro h;simp only[Ao,hget] at h;simp only[Ff,Bk];by_cases O:i=j
    .exact .inl O.symm
    .have:(i==j)=false:=by simpa using O
     rw[this] at h;exact .inr (ih h)
  have Z:=this _ h;simp only[CA,Ff,Qpf,B5,Zx] at Z;simpa using Z
 refine⟨?_,λG=> ?_,z⟩
 .have:=T7 n hn j z
  rcases Bv.1 z with z|z
  .simp at z;omega
  .rcases Bv.1 z with z|z<;>obtain⟨i,Q,rfl⟩:=Bt.1 z<;>have:=BA.1 Q
   .show 100+i<264;omega
   .show 200+i<264;omega
 .rcases Bv.1 z with z|z
  .simp at z;omega
  .rcases Bv.1 z with z|z<;>obtain⟨i,Q,rfl⟩:=Bt.1 z<;>have:=BA.1 Q
   .have h3:200<=100+i:=G;omega
   .exact⟨i,this,rfl⟩
def OS{kill:List Nat}{nx cnt b n:Nat}{M:List (List Int)}(H: ∀i,i<n->kill.contains (b+i)=true/\b+i<nx):Hp kill nx cnt (B5 b n M)=true:=by
 have: ∀(l:List Nat),(∀i∈l,i<n)->Hp kill nx cnt (l.map λi=>(b+i,(true,Ad.arr 2 1 ((M[i]?.getD []).map Ai))))=true:=by
  intro l;induction l with
  |nil=>intro _;rfl
  |cons i r ih=>
   intro z;simp only[Be,Hp,JQ,AR,GY,Ht,E3];exact⟨.inr (H i (z i (BS ..))),ih (λj O=>z j (BW _ O))⟩
 exact this _ (λi G=>BA.1 G)
def UL{H:Nat->Option Au}{x:Bc}{nx:Nat}{K:Ah}{p q O:Int}(hH:T5 H x x.Room.length)(Q:UJ (x,p,q,O))(aa:300<=nx)
 (hK: ∀E:Bo,E.cnt=10->E.ok nx (.im (.int .i64 (FR x.Room.length p q O.toNat x)))=true->K (.im (.int .i64 (FR x.Room.length p q O.toNat x))) E):sndC.row [.ptr 0 0,.im (.int .i64 p),.im (.int .i64 q),.im (.int .i64 O)] H nx K:=by
 have hn:x.Room.length<=64:=Q.n;have G:sndC.n (x,p,q,O)=x.Room.length:=by simp only[sndC.n];omega
 have hσ: ∀j,j<300->Cg (λj=>j) 300 nx j=j:=λj Z=>An Z
 refine⟨(x,p,q,O),λj=>j,[0,1,2]++((List.range x.Room.length).map (100+ ·)++(List.range x.Room.length).map (200+ ·)),(List.range x.Room.length).map (200+ ·),Q,?_,?_,?_,?_⟩
 .simp only[sndC.ca,AL,AV.ren,hσ 0 (by omega)]
 .simp only[sndC.H0,G,CA,CO,Qwi,Ad.ren,AL,AV.ren,hσ 0 (by omega),hσ 1 (by omega),hσ 2 (by omega),yU (b:=100) (n:=x.Room.length) (λi z=>hσ (100+i) (by omega)),yU (b:=200) (n:=x.Room.length) (λi z=>hσ (200+i) (by omega))];exact⟨hH.g0,hH.g1,hH.g2,Qt1 (λi z=>by rw[hσ _ (by omega)];exact hH.ga i z),Qt1 (λi z=>by rw[hσ _ (by omega)];exact hH.gb i z)⟩
 .have hd: ∀j,Ao (sndC.H0 (x,p,q,O)) j=true->Ao (CA x x.Room.length) j=true:=λj h=>by simpa only[sndC.H0,G] using h
  refine⟨λi j _ _ h=>h,λj Z=> ?_,λj Z=>(KB hn (hd j Z)).2.2,λm hm=> ?_,λj Z hk=> ?_⟩
  .have:=(KB hn (hd j Z)).1
   omega
  .obtain⟨i,z,rfl⟩:=Bt.1 hm
   have:=BA.1 z
   refine⟨200+i,?_,aN i (by omega),rfl⟩;simp only[Ao,sndC.H0,G];rw[(V7 x _ hn).gb i this];rfl
  .simp only[SU,AR,Ht,E3] at hk;obtain⟨i,z,rfl⟩:=(KB hn (hd j Z)).2.1 hk.1;exact Bt.2 ⟨i,BA.2 z,rfl⟩
 .have e:(sndC.r0 (x,p,q,O)).ren (Cg (λj=>j) 300 nx)= .im (.int .i64 (FR x.Room.length p q O.toNat x)):=by simp only[sndC.r0,G,AV.ren]
  rw[e];refine hK _ rfl ?_;simp only[Bo.ok,AV.bel,DZ,sndC.H1,G];rw[Qth (λi z=>hσ _ (by omega)),AR];refine⟨QY _ _ _ (λi=>rfl) _,OS λi z=>⟨?_,by omega⟩⟩;rw[HG];exact Bt.2 ⟨i,BA.2 z,rfl⟩
def Qu2(cnt:Nat): ∀(H:Aw),(∀p∈H,p.1<cnt)->Hp [] 0 cnt H=true
 |[],_=>rfl
 |(i,e)::r,h=>by
  have z:=h (i,e) (BS ..);simp only at z;simp only[Hp,JQ,Qu2 cnt r (λp hp=>h p (BW _ hp)),F6,GY,AR,Ht,E3];exact .inl ⟨by omega,by omega⟩
def T6{x:Bc}{n:Nat}(r:AV)(hn:n<=64)(z:r.bel 320=true){use:List Nat}:Bo.ok {use:=use,kill:=[],new:=CA x n,cnt:=320} 0 r=true:=by
 simp only[Bo.ok,FT,z,DZ,AR];refine⟨?_,Qu2 _ _ λp hp=>by have:=Kx _ (Mx hn hp).1;omega⟩;simp only[CA,Ac,sK,B5];rw[QY _ _ _ (λi=>rfl),QY _ _ _ (λi=>rfl),WB _ _ _ (by omega),WB _ _ _ (by omega)];rfl
def Qt8(n:Nat)(bs:List Ag)(t:Int)(k:Nat)(h:QZ n bs t k=false): ∀m,QZ n bs t (k+m)=false
 |0=>h
 |m+1=>by rw[show k+(m+1)=k+m+1 by omega,QZ,Qt8 n bs t k h m,F5]
def uL(n:Int)(bs:List Ag)(t:Int):Bool:=QZ n.toNat bs t (n.toNat - 1)
def holds_.fv(a:Int×(List Ag)×Int):Bool:=(uL) (a.1) (a.2.1) (a.2.2)
def holds_.row:AB:=vK (b3 qI (qS Ag.d_le Ag.c_n) qI) rB (λa=>My (a.1,a.2.1)/\0<=a.2.2/\a.2.2<=1000000) holds_.fv
def holds_.q:=AT (R:=holds_.row) rfl
def holds_.ok:AC Tryz.prog 247 holds_.row:=by
 refine vw (tC nwC.ok (tC sndC.ok tN)) Tryz.func247 rfl (by kernel_rfl) ?_;intro a ac;simp only[Tryz.f247];simp(disch:=omega)only[ZA,simprocAttr,holds_.fv];obtain⟨hp,ad,af⟩:=ac;obtain⟨h0,h1,hl,z,G,O⟩:=hp;simp only at h0 h1 hl z G O;obtain⟨n,hn⟩: ∃n:Nat,a.1=n:=⟨a.1.toNat,by omega⟩;obtain⟨bs,hbsd⟩: ∃bs,bs=a.2.1:=⟨_,rfl⟩;obtain⟨t,ht⟩: ∃t,t=a.2.2:=⟨_,rfl⟩;simp only[hn,<-hbsd,<-ht,uL,Bx] at h0 h1 hl z G O ad af⊢;have Q:My ((n:Int),bs):=⟨h0,h1,hl,z,G,O⟩;refine AQ.old ⟨{k:Nat//(k=0\/k+1<=n)/\QZ n bs t k=true},λk=>⟨[(7,.im (.int .i64 ((k.1:Int)+1))),(0,.im (.int .i64 n)),(1,.im (.sl false 3 (bs.map Ag.c))),(2,.im (.int .i64 t))],[],0⟩,λk=>n - k.1,λk=>⟨by simp[Aj.good,Am,Ac,A9,AV.bel],by simp⟩,⟨⟨0,.inl rfl,rfl⟩,by simp(disch:=omega)only[ZA,simprocAttr,sub]⟩,λk=> ?_⟩;obtain⟨k,aa,ab⟩:=k;simp(disch:=omega)only[ZA,simprocAttr,AO];refine⟨λhk=> ?_,λhk=> ?_⟩
 .refine AF.os ((n:Int),bs) [] Q (λj=>by simp[Ao,hget]) rfl rfl ?_ ?_
  .simp(disch:=omega)only[ZA,simprocAttr,nwC.ca]
  .have e1:AY (Cg (Iw []) 0 0) (nwC.H1 ((n:Int),bs))=CA (DA n bs) n:=by
    simp only[nwC.H1,Bx];rw[ZeW (by omega)];exact Y8 (by omega) (λj _=>by simp[Cg])
   rw[e1];refine⟨T6 _ (by omega) rfl,?_⟩;simp(disch:=omega)only[ZA,simprocAttr,BC];have Z:(DA n bs).Room.length=n:=(WI z bs.length).1.r;have hI:=V7 (DA n bs) n (by omega);rw[show hget (CA (DA n bs) n)=hget (CA (DA n bs) n) from rfl];refine UL (x:=DA n bs) (by rw[Z];exact hI) ?_ (by omega) (λE ai ag=> ?_)
   .refine⟨by simp only;omega,by simp only[Z];exact (WI z bs.length).1,by simp,by simp only[Z];omega,by simp only;omega,by simp only[Z];omega,by simp only;omega,ad,af,⟨0,by simp only[Z];exact nM z G _ _⟩,λu v=> ?_⟩
    have:=(Qrm z G u v bs.length).2
    simp only[DA];omega
   .refine⟨ag,?_⟩;rw[Z];obtain⟨sv,hsv⟩: ∃sv,sv=FR n 0 ((k:Int)+1) t.toNat (DA n bs):=⟨_,rfl⟩;rw[<-hsv];have hs:QZ n bs t (k+1)=(QZ n bs t k && decide (t<=sv)):=by rw[hsv];rfl
    rw[ab,DZ] at hs;simp(disch:=omega)only[ZA,simprocAttr,Aj.app,sub,AO];refine⟨λah=> ?_,λah=>⟨⟨k+1,.inr (by omega),by rw[hs];exact uZ (by omega)⟩,by simp only;omega,by rw[AH (by omega) (by omega)];simp only;omega⟩⟩;have h9:=Qt8 n bs t (k+1) (by rw[hs];exact ZY (by omega)) (n - 1 - (k+1));rw[show k+1+(n - 1 - (k+1))=n - 1 by omega] at h9;exact h9.symm
 .rcases aa with rfl|aa
  .rw[show n - 1=0 by omega];rfl
  .rw[show n - 1=k by omega];exact ab.symm
def Kc(t:Int)(b:Ag):Bool:=decide (b.Strength<t)
def CT1.fv(a:Ag×Int):Bool:=(λb t=>Kc t b) (a.1) (a.2)
def CT1.row:AB:=Dg (b2 (qR Ag.d_le) (qP 1 Dt)) rB (λa=>True) CT1.fv
def CT1.q:=DS (R:=CT1.row) rfl
def CT1.ok:AC Tryz.prog 268 CT1.row:=by
 refine G1 tN Tryz.func268 rfl (by kernel_rfl) ?_;intro a z;simp only[Tryz.f268];simp(disch:=omega)only[ZA,simprocAttr,CT1.fv,D.sc,D.scs,B4];rfl
def IdxB.ar:List PK->Option ((List Ag)×Int)
 |[.val (.sl _ _ G),.val (.fn 268 [] [.ref [.int .i64 z]])]=>(AS Ag.d G).bind λO=>some (O,z)
 |_=>none
def IdxB.ae(a:(List Ag)×Int):List PK:=[.val (.sl false 3 (a.1.map Ag.c)),.val (.fn 268 [] [.ref [.int .i64 a.2]])]
def IdxB.le: ∀z a,IdxB.ar z=some a->BL z (IdxB.ae a):=by
 intro z a h;unfold IdxB.ar at h;split at h
 .simp only[Eg,AJ] at h;obtain⟨G,h0,rfl⟩:=h;exact⟨DE (Dz Ag.d_le _ _ h0) (by simp only[Bt];rintro r ⟨y,_,rfl⟩;rfl),V9 ⟨Le.refl _,trivial⟩,trivial⟩
 .cases h
def IdxB.fv(a:(List Ag)×Int):Int:=(λl t=>Bp (Kc t) 0 l) (a.1) (a.2)
def IdxB.row:AB:=Lg IdxB.ar (λa=>True) (λa=>(D.int .i64) (IdxB.fv a))
def IdxB.q:=xS IdxB.row rfl
def IdxB.ok:AC Tryz.prog 285 IdxB.row:=by
 refine rH CV (tC CT1.ok tN) Tryz.func285 rfl (by kernel_rfl) (by kernel_rfl) (ar:=IdxB.ar) (ae:=IdxB.ae) IdxB.le (n:=2) (λ_=>rfl) (by decide) (rc:=(DC)) (re:=(D.int .i64)) (N3) (f:=IdxB.fv) ?_;intro a O;simp only[Tryz.f285];simp(disch:=omega)only[ZA,simprocAttr,IdxB.ae,IdxB.fv];intro hn;refine AQ.old ⟨{k:Nat//k<=a.1.length/\Bp (Kc a.2) k (a.1.drop k)=Bp (Kc a.2) 0 a.1},λk=>⟨[(8,.im (.int .i64 k.1)),(7,.im (.int .i64 a.1.length)),(6,.im (.sl false 3 (a.1.map Ag.c))),(4,.im (.int .i64 0)),(0,.im (.sl false 3 (a.1.map Ag.c))),(1,.im (.fn 268 [] [.ref [.int .i64 a.2]]))],[],0⟩,λk=>a.1.length - k.1,λk=>⟨by simp[Aj.good,Am,Ac,A9,AV.bel],AP _⟩,⟨⟨0,by simp⟩,by simp(disch:=omega)only[ZA,simprocAttr,sub]⟩,λk=> ?_⟩;obtain⟨k,Q,z⟩:=k;simp(disch:=omega)only[ZA,simprocAttr,C8,CT1.q,CT1.fv,D.sc,D.scs,B4,sub,AO];refine⟨λG=>⟨G,λx Z=> ?_⟩,λG=> ?_⟩
 .rw[Fc Z,Bp] at z;refine⟨λh=> ?_,λh=>G4 G hn ⟨by omega,by rw[<-z,Af (by simpa using h)]⟩⟩;rw[An (by simpa using h)] at z;exact z
 .rw[Dl (by omega),Bp] at z;exact z
def Qu3{t:Int}{l:List Ag}{i:Nat}{b:Ag}(Q:l.find? (Kc t)=some b)(Z:Bp (Kc t) 0 l=(i:Int))(h3:l[i]? =some b):G7 t (l.take (i+1))=l.take i:=by
 have hw:Kc t b=true:=Rm Q;have G: ∀(l:List Ag) (o i:Nat),Bp (Kc t) o l=((o+i:Nat):Int)-> ∀x∈l.take i,Kc t x=false:=by
  intro l;induction l with
  |nil=>intro o i _ x z;simp at z
  |cons y r ih=>
   intro o i h x z;cases i with
   |zero=>simp at z
   |succ i=>
    simp only[Bp] at h;split at h
    .omega
    .rename_i hy;rw[Ln] at z;rcases Bk.1 z with rfl|z
     .simpa using hy
     .exact ih (o+1) i (by rw[h];congr 1;omega) x z
 rw[Il,h3,vH,G7,vG];have O:(l.take i).filter (λb=>decide (t<=b.Strength))=l.take i:=by
  rw[mC];intro x z
  have:=G l 0 i (by rw[Z];simp) x z
  simp only[Kc,Kk] at this;simp only[BK];omega
 simp only[Kc,BK] at hw;rw[O,lY (by simp;omega),ZeQ,D2]
def dlC.ca(a:List Ag×Int):List AV:=[.own 0,.im (.fn 268 [] [.ref [.int .i64 a.2]])]
def dlC.H0(a:List Ag×Int):Aw:=[(0,(true,.arr 318 3 (a.1.map Ag.c)))]
def dlC.H1(a:List Ag×Int):Aw:=[(1,(true,.arr 318 3 ((G7 a.2 a.1).map Ag.c)))]
def dlC.row:AB:=AF dlC.ca dlC.H0 1 (λa=>a.1.length<=1000000) (λj=>j==0) (λ_=> .own 1) dlC.H1 1000
def dlC.ok:AC Tryz.prog 266 dlC.row:=by
 refine Pb (tC IdxB.ok (tC CT1.ok tN)) Tryz.func266 rfl (by kernel_rfl) (exB:=λj=>j==1) (R:=λ_ r=>r= .own 1) (λ_=>rfl)
  (λa=>by simp[dlC.ca,dlC.H0,Aq,AV.bel,Ac,A9,BR,Ad.nms,Ao,hget]) (λa p hp=> ?_) (λa r h=>by subst h;exact CJ.refl _) ?_
 rotate_left
 intro a Q;simp only[Tryz.f266,dlC.ca,dlC.H0,dlC.H1];simp(disch:=omega)only[ZA,simprocAttr,C8,IdxB.q,IdxB.ar,IdxB.fv,Fy];rcases QS (Kc a.2) a.1 0 with ⟨Z,O⟩|⟨i0,b0,Z,O,e3⟩
 .rw[O,An rfl];refine⟨[],[(1,some 0)],⟨[(4,.own 1)],[(1,(true,.arr 318 3 (a.1.map Ag.c)))],2⟩,?_,by simp[Aj.good,Am,Ac,A9,AV.bel],by simp,?_⟩
  .simp only[Az];simp(disch:=omega)only[ZA,simprocAttr]
  .simp(disch:=omega)only[ZA,simprocAttr]
   have:G7 a.2 a.1=a.1:=by
    rw[G7,mC];intro b hb
    have:=ZP.1 Z b hb
    simp only[Kc,BK] at this⊢;omega
   rw[this]
 .rw[FT] at O;rw[O,Af (by omega)];have aa:=(Cd.1 e3).1;rw[AH (by omega) (by omega)];obtain⟨l,hl⟩: ∃l,l=a.1:=⟨_,rfl⟩;obtain⟨t,ht⟩: ∃t,t=a.2:=⟨_,rfl⟩;simp only[<-hl,<-ht] at Z O e3 aa Q⊢;refine AQ.old ⟨{j:Nat//j<=l.length},λj=>⟨[(6,.im (.int .i64 j.1)),(5,.im (.int .i64 (G7 t (l.take j.1)).length)),(0,.own 0),(1,.im (.fn 268 [] [.ref [.int .i64 t]]))],[(0,(true,.arr 318 3 ((G7 t (l.take j.1)++l.drop (G7 t (l.take j.1)).length).map Ag.c)))],2⟩,λj=>l.length - j.1,λj=>⟨by simp[Aj.good,Am,Ac,A9,AV.bel],by simp⟩,⟨⟨i0+1,by omega⟩,?_⟩,λj=> ?_⟩
  .have h1:=Qu3 Z O e3;simp(disch:=omega)only[ZA,simprocAttr,sub,h1,Ce];rw[show min i0 l.length=i0 by omega,Of];exact⟨⟨by omega,rfl⟩,rfl⟩
  obtain⟨j,hj⟩:=j;obtain⟨kp,hkp⟩: ∃kp,kp=G7 t (l.take j):=⟨_,rfl⟩;have ac:kp.length<=j:=by
   have:=Qln t (l.take j)
   rw[Ce] at this;rw[hkp];omega
  have af:(kp++l.drop kp.length).length=l.length:=by simp;omega
  simp only[<-hkp];simp(disch:=omega)only[ZA,simprocAttr,C8,CT1.q,CT1.fv,sub,AO,af];intro _;refine⟨λG=>⟨G,G,λb hb=> ?_⟩,λG=> ?_⟩
  .have ad:l[j]? =some b:=by
    rw[F3 ac,Iq,show kp.length+(j - kp.length)=j by omega] at hb;exact hb
   have z:=Qjs t ad;rw[<-hkp] at z;refine⟨λhw=>⟨by omega,by omega,λc _=>⟨⟨j+1,by omega⟩,by simp only;omega,?_⟩⟩,λhw=>⟨⟨j+1,by omega⟩,by simp only;omega,?_⟩⟩
   .have hs:t<=b.Strength:=by
     simp only[Kc,Kk] at hw;omega
    rw[An hs] at z;simp only[z,Df,CM,Ha];refine⟨⟨by rw[AH (by omega) (by omega)];omega,by rw[AH (by omega) (by omega)];omega⟩,?_⟩;have h1:(kp++l.drop kp.length).set kp.length b=kp++[b]++l.drop (kp.length+1):=by
     obtain⟨c,hc⟩: ∃c,l[kp.length]? =some c:=⟨_,Bj (by omega)⟩;rw[Fc hc,mA _ _ (AP _),Hd,ZR,Hr];rfl
    rw[<-h1,Lu];rfl
   .have hs: ¬t<=b.Strength:=by
     rw[FU] at hw;simp only[Kc,BK] at hw;omega
    rw[Af hs,D2] at z;simp only[z];exact⟨⟨by rw[AH (by omega) (by omega)];omega,trivial⟩,trivial⟩
  .refine⟨by omega,false,?_⟩;have ab:j=l.length:=by omega
   subst ab;rw[GC] at hkp;simp(disch:=omega)only[ZA,simprocAttr];have hA:List.take kp.length ((kp++l.drop kp.length).map Ag.c)=kp.map Ag.c:=by
    rw[<-List.map_take,ZeC]
   rw[hA];refine⟨by simp only[Df,GZ];omega,true,?_⟩;simp(disch:=omega)only[ZA,simprocAttr,Fy];refine⟨[],[(1,some 2)],⟨[(4,.own 1)],[(1,(true,.arr 318 3 (kp.map Ag.c)))],2⟩,?_,by simp[Aj.good,Am,Ac,A9,AV.bel],by simp,?_⟩
   .simp only[Az];simp(disch:=omega)only[ZA,simprocAttr];rw[show ((kp.length:Int) - 0).toNat=(kp.map Ag.c).length by simp,Hr,ZeC]
   .simp(disch:=omega)only[ZA,simprocAttr,hkp]
 simp[dlC.H1] at hp;subst hp;exact .inr ⟨by omega,by omega,rfl,rfl⟩
def Mh(b i:Nat)(x:Int):AV:=if 0<=x/\x<i then .ptr (b+x.toNat) 0 else .im .nilp
def Hu(b:Nat)(L:List Int)(i:Nat):Au:=(true,.cells 369 [Mh b i (L[i]?.getD (-1)),.im (.int .i64 i)])
def E4(b:Nat)(L:List Int)(n:Nat):Aw:=AU b n (Hu b L)
def Gs(L:List Int):Prop:= ∀(i:Nat) (x:Int),L[i]? =some x->x<i
def Oa(L:List Int)(i:Nat):Nat->Nat
 |0=>i
 |m+1=>if L[i]?.getD (-1)<0 then i else Oa L (L[i]?.getD (-1)).toNat m
def Ew(L:List Int)(i:Nat):Nat:=Oa L i i
def Qabj{L:List Int}(h:Gs L): ∀(i m m':Nat),i<=m->i<=m'->Oa L i m=Oa L i m':=by
 intro i;induction i using Nat.strongRecOn with
 |_ i ih=>
  intro m m' z G;cases hi:L[i]? with
  |none=>
   cases m<;>cases m'<;>simp[Oa,hi]
  |some x=>
   have O:=h i x hi;by_cases h0:x<0
   .cases m<;>cases m'<;>simp[Oa,hi,h0]
   .cases m with
    |zero=>omega
    |succ m=>
     cases m' with
     |zero=>omega
     |succ m'=>
      simp only[Oa,hi,AM,Af h0];exact ih x.toNat (by omega) m m' (by omega) (by omega)
def Zv{L:List Int}(h:Gs L){i:Nat}{x:Int}(z:L[i]? =some x):Ew L i=if x<0 then i else Ew L x.toNat:=by
 have G:=h i x z;by_cases h0:x<0
 .rw[An h0,Ew];cases i with
  |zero=>rfl
  |succ i=>simp only[Oa,z,AM,An h0]
 .rw[Af h0,Ew];cases i with
  |zero=>omega
  |succ i=>
   simp only[Oa,z,AM,Af h0];exact Qabj h _ _ _ (by omega) (AP _)
def zU{L:List Int}(h:Gs L): ∀(i:Nat),Ew L i<=i:=by
 intro i;induction i using Nat.strongRecOn with
 |_ i ih=>
  cases hi:L[i]? with
  |none=>rw[Ew];cases i<;>simp[Oa,hi]
  |some x=>
   rw[Zv h hi];have z:=h i x hi;split
   .exact AP _
   .have:=ih x.toNat (by omega);omega
def firC.n(a:List Int×Nat):Nat:=min a.1.length 512
def firC.ca(a:List Int×Nat):List AV:=[.ptr (min a.2 511) 0]
def firC.H0(a:List Int×Nat):Aw:=E4 0 a.1 (firC.n a)
def firC.r0(a:List Int×Nat):AV:= .ptr (Ew a.1 a.2) 0
def firC.pre(a:List Int×Nat):Prop:=a.1.length<=512/\a.2<a.1.length/\Gs a.1
def firC.row:AB:=AF firC.ca firC.H0 600 firC.pre (λ_=>false) firC.r0 (λ_=>[]) 0
def firC.hbel(a:List Int×Nat):Aq 600 (firC.ca a)=true:=by
 simp only[firC.ca,Aq,AV.bel,F6,E3];omega
def Qt5(nx b:Nat)(f:Nat->Au)(n:Nat)(hf: ∀i,i<n->Ac nx [(b+i,f i)]=true):Ac nx (AU b n f)=true:=by
 have: ∀(l:List Nat),(∀i∈l,i<n)->Ac nx (l.map λi=>(b+i,f i))=true:=by
  intro l;induction l with
  |nil=>intro _;rfl
  |cons i r ih=>
   intro z;rw[Be,show (b+i,f i)::(r.map λi=>(b+i,f i))=[(b+i,f i)]++(r.map λi=>(b+i,f i)) from rfl,sK,hf i (z i (BS ..)),ih (λj O=>z j (BW _ O))];rfl
 exact this _ (λi G=>BA.1 G)
def Yd(b i N:Nat)(x:Int)(h:b+i<=N):(Mh b i x).bel N=true:=by
 simp only[Mh];split
 .simp only[AV.bel,E3];omega
 .rfl
def tA(b n N:Nat)(L:List Int)(h:b+n<=N):Ac N (E4 b L n)=true:=Qt5 _ _ _ _ λi z=>by
 simp only[Hu,Ac,Aq,Yd b i N _ (by omega),AV.bel,fR]
def firC.n_le(a:List Int×Nat):firC.n a<=512:=fV _ _
def firC.hbH(a:List Int×Nat):Ac 600 (firC.H0 a)=true:=tA _ _ _ _ (by have:=firC.n_le a;omega)
def firC.hkH(a:List Int×Nat):A9 600 (firC.H0 a)=true:=QM _ _ _ _ (by have:=firC.n_le a;omega)
def JX(b n:Nat)(L:List Int)(i:Nat)(h:i<n):hget (E4 b L n) (b+i)=some (Hu b L i):=HA _ _ _ _ h
def oL{H0:Aw}{b n:Nat}{f:Nat->Au}(h: ∀i,i<n-> ∀m∈(f i).2.nms,Ao H0 m=true):BR H0 (AU b n f):=by
 have: ∀(l:List Nat),(∀i∈l,i<n)->BR H0 (l.map λi=>(b+i,f i)):=by
  intro l;induction l with
  |nil=>intro _;trivial
  |cons i r ih=>
   intro z;simp only[Be];exact⟨h i (z i (BS ..)),ih (λj O=>z j (BW _ O))⟩
 exact this _ (λi G=>BA.1 G)
def firC.hnm(a:List Int×Nat):BR (firC.H0 a) (firC.H0 a):=by
 refine oL λi G m z=> ?_
 simp only[Hu,Ad.nms,AG,Mh] at z;split at z
 .simp only[AV.nms,D2,BJ] at z;subst z;rename_i h;simp only[Ao,firC.H0];rw[JX 0 _ _ _ (by omega)];rfl
 .simp[AV.nms] at z
def PF(s:Aj)(b n:Nat)(f:Nat->Au):Ca s (AU b n f)= ∀i,i<n->hget s.h (b+i)=some (f i):=by
 have: ∀(l:List Nat),Ca s (l.map λi=>(b+i,f i))↔ ∀i∈l,hget s.h (b+i)=some (f i):=by
  intro l;induction l with
  |nil=>simp[Ca]
  |cons i r ih=>simp only[Be,Ca,ih,Bk,Zed]
 apply propext;rw[AU,this];simp only[BA]
def tF{s:Aj}{b n:Nat}{L:List Int}(h: ∀i,i<n->hget s.h (b+i)=some (Hu b L i)):Ca s (E4 b L n):=by
 rw[E4,PF];exact h
def firC.ok:AC Tryz.prog 284 firC.row:=by
 refine ow tN Tryz.func284 rfl (by kernel_rfl) (exB:=λ_=>false) (R:=λa r=>r=firC.r0 a) (λ_=>rfl)
  (λa=>⟨firC.hbel a,firC.hbH a,firC.hkH a,firC.hnm a⟩) (λa p hp=> ?_) (λa r h=>by subst h;exact CJ.refl _) ?_
 rotate_left
 intro a Z;simp only[Tryz.f284,firC.ca];simp(disch:=omega)only[ZA,simprocAttr];obtain⟨L,i⟩:=a;obtain⟨h1,h2,h3⟩:=Z;simp only at h1 h2 h3;obtain⟨n,hn⟩: ∃n,n=L.length:=⟨_,rfl⟩;have ab:firC.n (L,i)=n:=by simp only[firC.n,<-hn];omega
 simp only[firC.H0,firC.r0,ab,BC];rw[<-hn] at h1 h2;rw[show min i 511=i by omega];refine AQ.old ⟨{g:Nat//g<n/\Ew L g=Ew L i},λg=>⟨[(0,.ptr g.1 0)],E4 0 L n,600⟩,λg=>g.1,λg=>⟨?_,by simp⟩,⟨⟨i,h2,rfl⟩,?_⟩,λg=> ?_⟩
 .simp only[Aj.good,Am,AV.bel,F6,AR,E3];exact⟨by omega,tA _ _ _ _ (by omega),QM _ _ _ _ (by omega)⟩
 .simp only[sub,Gz,AE];refine⟨?_,tF (λi Q=>JX 0 n L i Q)⟩;simp(disch:=omega)only[ZA,simprocAttr]
 obtain⟨g,hg,hr⟩:=g;obtain⟨x,hx⟩: ∃x,L[g]? =some x:=⟨_,Bj (by omega)⟩;have ac:=h3 g x hx;have z:=JX 0 n L g hg;rw[FT] at z;simp only[Hu,hx,AM] at z;have aa:=Zv h3 hx;by_cases h0:x<0
 .have G:Mh 0 g x= .im .nilp:=Af (by omega);rw[G] at z;simp(disch:=omega)only[ZA,simprocAttr,z,BC];rw[An h0] at aa;exact⟨by omega,by omega,by omega,by omega,by omega,Qxi _ _ _ _ _ (λi Q=> .inr (JX 0 n L i Q)),by omega⟩
 .have G:Mh 0 g x= .ptr x.toNat 0:=by simp only[Mh];rw[An ⟨by omega,ac⟩,FT]
  rw[G] at z;have O:=JX 0 n L x.toNat (by omega);rw[FT] at O;simp(disch:=omega)only[ZA,simprocAttr,sub,z,O,BC];rw[Af h0] at aa;exact⟨by omega,by omega,by omega,by omega,by omega,by omega,by omega,by omega,by omega,⟨x.toNat,by omega,by omega⟩,by simp only;omega,rfl,tF (λi Q=>JX 0 n L i Q)⟩
 simp at hp
def JZ(b n k:Nat):List (List AV):=(List.range n).map λi=>if i<k then [AV.ptr (b+i) 0] else [.im .nilp]
def Zr(b n k:Nat):(JZ b n k).length=n:=by simp[JZ]
def yS(b n k i:Nat)(h:i<n):(JZ b n k)[i]? =some (if i<k then [.ptr (b+i) 0] else [.im .nilp]):=by simp[JZ,Io h]
def Qtr(b n k i:Nat)(K:List AV->Prop)(h:i<n):Jx (JZ b n k) i K=K (if i<k then [.ptr (b+i) 0] else [.im .nilp]):=by
 apply propext;unfold Jx;rw[yS b n k i h];exact⟨λh=>h _ rfl,λh row z=>by obtain rfl:=AD z;exact h⟩
def zF(b n k N:Nat)(h:b+k<=N):(JZ b n k).all (Aq N)=true:=by
 rw[Dw];intro r z;obtain⟨i,G,rfl⟩:=Bt.1 z;split
 .simp[Aq,AV.bel];omega
 .simp[Aq,AV.bel]
def Qnw(b n N:Nat)(L:List Int)(h:b+n<=N):A9 N (E4 b L n)=true:=QM _ _ _ _ h
def Ps(b n:Nat)(π:List (Nat×Option Nat)):GF π (JZ b n 0) (Bn (List.replicate n [.nilp])):=by
 have e:JZ b n 0=Bn (List.replicate n [.nilp]):=by
  simp only[JZ,Bn,mG,CH,List.map_replicate];rw[List.map_const',ZV];rfl
 rw[e];exact Qzo _ _
def Ye{σ:Nat->Nat}{i:Nat}{x:Int}(h: ∀j,j<i->σ j=1000+j):(Mh 0 i x).ren σ=Mh 1000 i x:=by
 simp only[Mh];split
 .simp only[AV.ren,FT];rw[h _ (by omega)]
 .rfl
def Wj{h:Nat->Option Au}{σ:Nat->Nat}{b n:Nat}{f:Nat->Au}(H: ∀i,i<n->h (σ (b+i))=some ((f i).1,(f i).2.ren σ)):CO h σ (AU b n f):=by
 have: ∀(l:List Nat),(∀i∈l,i<n)->CO h σ (l.map λi=>(b+i,f i)):=by
  intro l;induction l with
  |nil=>intro _;trivial
  |cons i r ih=>
   intro z;simp only[Be];exact⟨H i (z i (BS ..)),ih (λj O=>z j (BW _ O))⟩
 exact this _ (λi G=>BA.1 G)
def XP{n:Nat}{L:List Int}{j:Nat}(h:Ao (E4 0 L n) j=true):j<n:=by
 simp only[Ao,E4,lN] at h;split at h
 .omega
 .cases h
def Qtp{H:Nat->Option Au}{L:List Int}{k nx u:Nat}{K:Ah}(Q:L.length=k)(hk:k<=512)(G:Gs L)(hu:u<k)(aa:2000<=nx)(hH: ∀i,i<k->H (1000+i)=some (Hu 1000 L i))
 (O: ∀U,K (.ptr (1000+Ew L u) 0) {use:=U}):firC.row [.ptr (1000+u) 0] H nx K:=by
 have hσ: ∀j,j<600->Cg (λj=>1000+j) 600 nx j=1000+j:=λj z=>An z
 have hn:firC.n (L,u)=k:=by simp only[firC.n,Q];omega
 have hr:=zU G u;refine⟨(L,u),λj=>1000+j,(List.range k).map (1000+ ·),[],⟨by simp only;omega,by simp only;omega,G⟩,?_,?_,?_,?_⟩
 .simp only[firC.ca,AL,AV.ren];rw[show min u 511=u by omega,hσ u (by omega)]
 .simp only[firC.H0,hn,E4];refine Wj λi Z=> ?_
  rw[FT,hσ i (by omega),hH i Z];simp only[Hu,Ad.ren,AL,AV.ren];rw[Ye (λj z=>hσ j (by omega))]
 .have hd: ∀j,Ao (firC.H0 (L,u)) j=true->j<k:=λj z=>by simp only[firC.H0,hn] at z;exact XP z
  refine⟨λi j _ _ h=> ?_,λj z=> ?_,λj z=> ?_,λm hm=>(by cases hm),λj _ z=>(by cases z)⟩
  .have h:1000+i=1000+j:=h;omega
  .have:=hd j z
   show 1000+j<nx;omega
  exact Bt.2 ⟨j,BA.2 (hd j z),rfl⟩
 .have e:(firC.r0 (L,u)).ren (Cg (λj=>1000+j) 600 nx)= .ptr (1000+Ew L u) 0:=by
   simp only[firC.r0,AV.ren];rw[hσ _ (by omega)]
  rw[e];exact O _
def Qug(k:Nat):Gs (List.replicate k (-1)):=by
 intro i x h
 have:=Oh (AZ h)
 omega
def yT: ∀(k i:Nat),i<k->(WX k)[i]? =some (i:Int)
 |0,i,h=>by omega
 |k+1,i,h=>by
  simp only[WX];by_cases z:i<k
  .rw[EB (by rw[dU];exact z)];exact yT k i z
  .have:i=k:=by omega
   subst this;rw[F3 (by rw[dU];exact AP _),dU,Hd];rfl
def Pd{k i:Nat}{bs:List Ag}(h:i<k):(Cf k bs 0)[i]? =some ((Ew (List.replicate k (-1)) i:Nat):Int):=by
 simp only[Cf];rw[yT k i h]
 have:=Zv (Qug k) (i:=i) (x:= -1) (by rw[Lo,An h])
 rw[this,An (by omega)]
def Qls{L:List Int}(h:Gs L): ∀(i:Nat),Ew L (Ew L i)=Ew L i:=by
 intro i;induction i using Nat.strongRecOn with
 |_ i ih=>
  cases hi:L[i]? with
  |none=>
   have:Ew L i=i:=by rw[Ew];cases i<;>simp[Oa,hi]
   rw[this,this]
  |some x=>
   have z:=h i x hi;rw[Zv h hi];split
   .rename_i h0;rw[Zv h hi,An h0]
   .exact ih x.toNat (by omega)
def Qsx{L:List Int}(h:Gs L){p q:Nat}(O:p<q):Gs (L.set q (p:Int)):=by
 intro i x z;by_cases hq:q=i
 .subst hq;have G:q<L.length:=by have:=(Cd.1 z).1;simpa using this
  rw[Dm G] at z;obtain rfl:=AD z;omega
 .rw[DF hq] at z;exact h i x z
def Qqx{L:List Int}(h:Gs L){p q:Nat}(hp:Ew L p=p)(hq:Ew L q=q)(G:p<q)(O:q<L.length): ∀(i:Nat),Ew (L.set q (p:Int)) i=if Ew L i=q then p else Ew L i:=by
 have h':=Qsx h G;intro i;induction i using Nat.strongRecOn with
 |_ i ih=>
  by_cases z:q=i
  .subst z;have e:(L.set q (p:Int))[q]? =some (p:Int):=Dm O;rw[Zv h' e,Af (by omega),Bx,ih p G,hp,Af (by omega),hq,An rfl]
  .have e:(L.set q (p:Int))[i]? =L[i]? :=DF z;cases hi:L[i]? with
   |none=>
    have Q:Ew L i=i:=by rw[Ew];cases i<;>simp[Oa,hi]
    have r2:Ew (L.set q (p:Int)) i=i:=by rw[Ew];cases i<;>simp[Oa,e,hi]
    rw[Q,r2,Af (EJ z)]
   |some x=>
    have Z:=h i x hi;rw[hi] at e;rw[Zv h' e,Zv h hi];by_cases h0:x<0
    .rw[An h0,An h0,Af (EJ z)]
    .rw[Af h0,Af h0];exact ih x.toNat (by omega)
def Md{x y:Nat}(h:x<y)(r:Nat):Jy (x:Int) (y:Int) (r:Int)=((if r=y then x else r:Nat):Int)/\Jy (y:Int) (x:Int) (r:Int)=((if r=y then x else r:Nat):Int):=by
 have m1:Er (x:Int) y=y:=Af (by omega);have G:Er (y:Int) x=y:=An (by omega);have O:EN (x:Int) y=x:=An (by omega);have Q:EN (y:Int) x=x:=Af (by omega);simp only[Jy,m1,G,O,Q];by_cases z:r=y
 .rw[An z,An (by omega)];exact⟨rfl,rfl⟩
 .rw[Af z,Af (by omega)];exact⟨rfl,rfl⟩
def Ya(x r:Nat):Jy (x:Int) (x:Int) (r:Int)=(r:Int):=by
 have m1:Er (x:Int) x=x:=Af (by omega);have G:EN (x:Int) x=x:=Af (by omega);simp only[Jy,m1,G];by_cases z:(r:Int)=x
 .rw[An z,z]
 .rw[Af z]
def VO(p:Int×Int):D×D:=(.int .i64 p.1,.int .i64 p.2)
def Iv(M:List (Int×Int))(x:Int):Option Int:=(M.find? (λp=>p.1==x)).map (·.2)
def Td(x:Int): ∀(M:List (Int×Int)),lk (M.map VO) (.int .i64 x)=(Iv M x).map (D.int .i64)
 |[]=>rfl
 |(k,v)::r=>by
  have ih:=Td x r;simp only[Iv] at ih;by_cases h:k=x
  .subst h;simp[lk,VO,Iv,D.beq]
  .have z: ¬x=k:=λe=>h e.symm
   have G:(x==k)=false:=by simpa using z
   simp[lk,VO,Iv,D.beq,h,G,ih]
def Yf(x:Int)(M:List (Int×Int))(Ks:D->Prop)(Kn:Prop):FY (M.map VO) (.int .i64 x) Ks Kn=((∀v,Iv M x=some v->Ks (.int .i64 v))/\(Iv M x=none->Kn)):=by
 apply propext;unfold FY;rw[Td];cases Iv M x<;>simp
def Nv(x v:Int): ∀(M:List (Int×Int)),Iv M x=none->G0 (M.map VO) (.int .i64 x) (.int .i64 v)=(M++[(x,v)]).map VO
 |[],_=>rfl
 |(k,w)::r,h=>by
  by_cases z:k=x
  .subst z;simp[Iv] at h
  .have G: ¬x=k:=λe=>z e.symm
   have Q:Iv r x=none:=by simpa[Iv,z] using h
   have ih:=Nv x v r Q;simp only[Be,CP,VO] at ih⊢;have O:(x==k)=false:=by simpa using G
   simp[G0,D.beq,O,ih,VO]
def Ml(M:List (Int×Int))(x v y:Int):Iv (M++[(x,v)]) y=(Iv M y).or (if x=y then some v else none):=by
 simp only[Iv,List.find?_append];cases h:M.find? (λp=>p.1==y) with
 |some p=>simp
 |none=>
  by_cases z:x=y
  .subst z;simp
  .simp[z]
def zE{own:List Int}{i:Nat}(h:own[i]? =some (i:Int)): ∀k,∃z,CZ own i (k+1)=(i:Int)::z
 |0=>⟨[],by simp[CZ,h]⟩
 |k+1=>by
  obtain⟨z,G⟩:=zE h k;rw[CZ,G];exact⟨_,rfl⟩
def Qjv(own:List Int)(n:Nat): ∀k,k<=n-> ∀g∈B7 own n k,∃(r:Nat) (rest:List Int),g=(r:Int)::rest/\r<k/\own[r]? =some (r:Int)
 |0,_,g,h=>by simp[B7] at h
 |k+1,hk,g,h=>by
  simp only[B7,Bv] at h;rcases h with h|h
  .obtain⟨r,rest,O,Z,Q⟩:=Qjv own n k (by omega) g h;exact⟨r,rest,O,by omega,Q⟩
  .split at h
   .rename_i z;obtain rfl:=BJ.1 h;obtain⟨rest,G⟩:=zE z (n - k - 1);rw[show n - k - 1+1=n - k by omega] at G;exact⟨k,rest,G,by omega,z⟩
   .cases h
def Qo6(own:List Int)(n:Nat)(r:Nat)(O:own[r]? =some (r:Int)): ∀k,k<=n->r<k-> ∃z,((r:Int)::z)∈B7 own n k
 |0,_,h=>by omega
 |k+1,Z,h=>by
  by_cases G:r=k
  .subst G;obtain⟨z,G⟩:=zE O (n - r - 1);rw[show n - r - 1+1=n - r by omega] at G;exact⟨z,by simp[B7,O,G]⟩
  .obtain⟨z,Q⟩:=Qo6 own n r O k (by omega) (by omega);exact⟨z,by simp only[B7,Bv];exact .inl Q⟩
def Qy0(own:List Int)(n:Nat): ∀k,∀g∈B7 own n k,g.length<=n
 |0,g,h=>by simp[B7] at h
 |k+1,g,h=>by
  simp only[B7,Bv] at h;rcases h with h|h
  .exact Qy0 own n k g h
  .split at h
   .obtain rfl:=BJ.1 h
    have:=Qsd own k (n - k)
    omega
   .cases h
def O4{h:Nat->Option Au}{b m:Nat}{G:List (List Int)}(H: ∀q,q<G.length->h (b+q)=some (true,.arr 2 1 ((G[q]?.getD []).map Ai))):
 A7 (A7 λx=>Eh (Bd h (HQ 0 []) (m+1) x)) (De b G.length)=some (G.map CG):=by
 have: ∀(l:List Nat),(∀q∈l,q<G.length)->A7 (A7 λx=>Eh (Bd h (HQ 0 []) (m+1) x)) (l.map λi=>[AV.own (b+i)])=some (l.map λq=>CG (G[q]?.getD [])):=by
  intro l;induction l with
  |nil=>intro _;rfl
  |cons q r ih=>
   intro Q;have h0:HQ 0 [] (b+q)=none:=rfl;have O:=ih (λx Z=>Q x (BW _ Z));have e:A7 (λx=>Eh (Bd h (HQ 0 []) (m+1) x)) [AV.own (b+q)]=some (CG (G[q]?.getD [])):=by
    simp only[A7,Bd,h0,H q (Q q (BS ..)),Qd,kp,CQ,Eh,AV.asD];rfl
   rw[Be,A7,e,O];rfl
 rw[De,this _ (λq hq=>BA.1 hq)];congr 1;apply Kj;intro j;by_cases z:j<G.length
 .rw[D1,Io z,D1,Bj z,CQ,CQ,Bj z,AM]
 .rw[FE (by simp;omega),FE (by simp;omega)]
def IU(r:Int)(m:Nat)(g:List Int):List Int:=if g.head? =some r then g++[(m:Int)] else g
def Ql4(own:List Int)(m:Nat)(r:Int)(Q:own[m]? =some r): ∀k,k<=m->B7 own (m+1) k=(B7 own m k).map (IU r m)
 |0,_=>rfl
 |k+1,hk=>by
  rw[B7,B7,GD,Ql4 own m r Q k (by omega)];congr 1;by_cases G:own[k]? =some (k:Int)
  .rw[An G,An G];obtain⟨Z,O⟩:=zE G (m - k - 1);rw[show m - k - 1+1=m - k by omega] at O;have e:CZ own k (m+1 - k)=CZ own k (m - k)++(if own[m]? =some (k:Int) then [(m:Int)] else []):=by
    rw[show m+1 - k=(m - k)+1 by omega,CZ,show k+(m - k)=m by omega]
   rw[e,Q];simp only[Be,Hc,IU,O,ZeS,AJ];by_cases z:r=(k:Int)
   .rw[An z,An z.symm]
   .rw[Af z,Af (EJ z),D2]
  .rw[Af G,Af G];rfl
structure tS(out:List (List Int))(M:List (Int×Int)):Prop where
 a: ∀r v,Iv M r=some v-> ∃(g:Nat) (rest:List Int),v=g/\out[g]? =some (r::rest)
 b: ∀(g:Nat) (r:Int) (rest:List Int),out[g]? =some (r::rest)->Iv M r=some (g:Int)
def SA{own:List Int}{i:Nat}{M:List (Int×Int)}{r:Nat}(hP:tS (B7 own i i) M)(ho:own[i]? =some (r:Int))(hr:r<=i)(ab:own[r]? =some (r:Int))(hn:Iv M r=none):
 r=i/\B7 own (i+1) (i+1)=B7 own i i++[[(i:Int)]]/\tS (B7 own (i+1) (i+1)) (M++[((i:Int),((B7 own i i).length:Int))]):=by
 have aa:r=i:=by
  by_cases h:r<i
  .obtain⟨z,hm⟩:=Qo6 own i r ab i (by omega) h;obtain⟨g,G⟩:=Kl.1 hm;rw[hP.b g _ _ G] at hn;cases hn
  .omega
 subst aa;have e:B7 own (r+1) (r+1)=B7 own r r++[[(r:Int)]]:=by
  rw[B7,Ql4 own r r ho r (AP _),An ho];congr 1
  .conv=>rhs;rw[<-List.map_id (B7 own r r)]
   apply Og;intro g G;obtain⟨q,z,Q,Z,_⟩:=Qjv own r r (AP _) g G;simp only[IU,Q,ZeS,AJ,id];rw[Af (by omega)]
  .rw[show r+1 - r=0+1 by omega];simp[CZ,ho]
 refine⟨rfl,e,?_⟩;rw[e];refine⟨λq v O=> ?_,λg q z G=> ?_⟩
 .rw[Ml] at O;cases hq:Iv M q with
  |some w=>
   rw[hq] at O;obtain rfl:=AD O;obtain⟨g,z,Q,Z⟩:=hP.a q _ hq;exact⟨g,z,Q,by rw[EB (Cd.1 Z).1];exact Z⟩
  |none=>
   rw[hq] at O;simp only[gA] at O;split at O
   .rename_i h;obtain rfl:=AD O;exact⟨_,[],rfl,by rw[F3 (AP _),Hd,<-h];rfl⟩
   .cases O
 .rw[Ml];by_cases hl:g<(B7 own r r).length
  .rw[EB hl] at G;rw[hP.b g q z G];rfl
  .rw[F3 (by omega)] at G;have h0:g - (B7 own r r).length=0:=by
    have:=(Cd.1 G).1
    simpa using this
   rw[h0] at G;simp only[G9,AJ,fW] at G;rw[<-G.1,hn,An rfl,gA];congr 1;omega
def SB{own:List Int}{i:Nat}{M:List (Int×Int)}{r:Int}{g:Nat}{rest:List Int}(hP:tS (B7 own i i) M)(ho:own[i]? =some r)(Q:(B7 own i i)[g]? =some (r::rest)):
 B7 own (i+1) (i+1)=(B7 own i i).set g (r::rest++[(i:Int)])/\tS (B7 own (i+1) (i+1)) M:=by
 have ab:r≠i:=by
  obtain⟨q,rs,Z,G,_⟩:=Qjv own i i (AP _) _ (AZ Q)
  have:=(List.cons.inj Z).1
  omega
 have e:B7 own (i+1) (i+1)=(B7 own i i).set g (r::rest++[(i:Int)]):=by
  rw[B7,Ql4 own i r ho i (AP _),Af (by rw[ho];simpa using ab),D2];apply Kj;intro j;rw[D1];by_cases O:g=j
  .subst O;rw[Dm (Cd.1 Q).1,Q];simp[IU]
  .rw[DF O];cases hx:(B7 own i i)[j]? with
   |none=>rfl
   |some x=>
    simp only[CQ,IU];rw[Af];intro hh;cases x with
    |nil=>cases hh
    |cons q rs=>
     simp only[ZeS,AJ] at hh;subst hh;have Z:=hP.b j _ _ hx;have G:=hP.b g _ _ Q;rw[Z] at G
     have:=AD G
     omega
 refine⟨e,?_⟩;rw[e];have aa:=(Cd.1 Q).1;refine⟨λq v hv=> ?_,λg' q rs z=> ?_⟩
 .obtain⟨j,rs,Z,G⟩:=hP.a q v hv;by_cases O:g=j
  .subst O;rw[Q] at G;simp only[AJ,fW] at G;exact⟨g,rest++[(i:Int)],Z,by rw[Dm aa,G.1];rfl⟩
  .exact⟨j,rs,Z,by rw[DF O];exact G⟩
 .by_cases O:g=g'
  .subst O;rw[Dm aa] at z;simp only[AJ,CP,fW] at z;rw[<-z.1];exact hP.b g _ _ Q
  .rw[DF O] at z;exact hP.b g' _ _ z
def EL(b:Nat)(G:List (List Int)):Aw:=AU b G.length (λi=>(true,.arr 2 1 ((G[i]?.getD []).map Ai)))
def S5(b N:Nat)(G:List (List Int))(h:b+G.length<=N):Ac N (EL b G)=true:=Qt5 _ _ _ _ λi z=>by simp[Ac]
def S6(b N:Nat)(G:List (List Int))(h:b+G.length<=N):A9 N (EL b G)=true:=QM _ _ _ _ h
def wU{π:List (Nat×Option Nat)}{b n k:Nat}(h: ∀i,i<k->pm π (b+i)=some (b+i)):GF π (JZ b n k) (JZ b n k):=by
 rw[eQ];refine⟨rfl,λi x y z Q=> ?_⟩;rw[z] at Q;obtain rfl:=AD Q;have G:i<n:=by have:=(Cd.1 z).1;rwa [Zr] at this
 rw[yS _ _ _ _ G] at z;obtain rfl:=AD z;split
 .rename_i O;simp only[D9,mt,h i O,GU,Hs]
 .simp only[D9,mt,Hs]
def OW(A:List Nat)(b n c m:Nat)(h:A.Nodup)(Z: ∀x∈A,(x<b\/b+n<=x)/\(x<c\/c+m<=x))(aa:b+n<=c):(A++((List.range n).map (b+ ·)++(List.range m).map (c+ ·))).Nodup:=by
 have Q: ∀b n,((List.range n).map (b+ ·)).Nodup:=λb n=>by have:=dQ [] b n (by simp) (by simp);simpa using this
 rw[VG];refine⟨h,?_,λx O y z=> ?_⟩
 .rw[VG];refine⟨Q _ _,Q _ _,λx O y z=> ?_⟩;obtain⟨i,hi,rfl⟩:=Bt.1 O;obtain⟨j,G,rfl⟩:=Bt.1 z
  have:=BA.1 hi
  omega
 .have:=Z x O
  rcases Bv.1 z with z|z
  .obtain⟨j,G,rfl⟩:=Bt.1 z
   have:=BA.1 G
   omega
  .obtain⟨j,G,rfl⟩:=Bt.1 z
   have:=BA.1 G
   omega
def Qyb(b:Nat)(G:List (List Int))(g:Nat)(h:g<G.length):hget (EL b G) (b+g)=some (true,.arr 2 1 ((G[g]?.getD []).map Ai)):=HA _ _ _ _ h
def XQ(b k:Nat)(L:List Int)(m:Nat)(h:m<b\/b+k<=m):hget (E4 b L k) m=none:=Qmh _ _ _ _ h
def zO(k:Nat)(L:List Int)(G:List (List Int))(i:Nat)(h:i<k):hget (E4 1000 L k++EL 3000 G) (1000+i)=some (Hu 1000 L i):=by
 rw[Qg,JX _ _ _ _ h];rfl
def zQ(k:Nat)(L:List Int)(G:List (List Int))(g:Nat)(z:k<=512)(h:g<G.length):hget (E4 1000 L k++EL 3000 G) (3000+g)=some (true,.arr 2 1 ((G[g]?.getD []).map Ai)):=by
 rw[Qg,XQ _ _ _ _ (by omega),Qyb _ _ _ h];rfl
def SS(k:Nat)(L:List Int)(G:List (List Int)):Ff (E4 1000 L k++EL 3000 G)=(List.range k).map (1000+ ·)++(List.range G.length).map (3000+ ·):=by
 rw[Qpf,E4,EL,Zx,Zx]
def gI(k:Nat)(L:List Int)(i:Nat)(M:List (Int×Int))(G:List (List Int)):Aj:=⟨[(81,.im (.int .i64 i)),(80,.im (.int .i64 k)),(79,.own 2),(12,.mp 2001),(11,.own 2100)],(2001,(true,.map {agg:=false,ks:=[KK.int .i64]} (M.map VO)))::(2100,(true,.arrA 32 1 (De 3000 G.length)))::(2,(true,.arrA 367 1 (JZ 1000 k k)))::(E4 1000 L k++EL 3000 G),4000⟩
def XM{k:Nat}{L:List Int}{i:Nat}{M:List (Int×Int)}{G:List (List Int)}(O:k<=512)(z:G.length<=512):(gI k L i M G).good=true:=by
 simp only[gI,Aj.good,Ac,A9,sK,Qmd,tA 1000 k 4000 _ (by omega),zF 1000 k k 4000 (by omega),Qnw 1000 k 4000 _ (by omega),WB 3000 G.length 4000 (by omega),S5 3000 4000 G (by omega),S6 3000 4000 G (by omega)];simp[Am,AV.bel]
def Qxg{π:List (Nat×Option Nat)}{s:Aj}{k:Nat}{L:List Int}{i:Nat}{M:List (Int×Int)}{G:List (List Int)}{O:Nat}{T:Nat->Nat}(hk:k<=512)(hG:G.length<=512)
 (ac:VL 2002 π)(p1:pm π 2001=some 2001)(p2:pm π 2=some 2)(p3: ∀j,j<k->pm π (1000+j)=some (1000+j))(p4:pm π 2100=some O)(p5: ∀q,q<G.length->pm π (3000+q)=some (T q))
 (t1:AE s.tm 81= .im (.int .i64 i))(t2:AE s.tm 80= .im (.int .i64 k))(t3:AE s.tm 79= .own 2)(t4:AE s.tm 12= .mp 2001)(t5:AE s.tm 11= .own O)
 (g1:hget s.h 2001=some (true,.map {agg:=false,ks:=[KK.int .i64]} (M.map VO)))(g2:hget s.h 2=some (true,.arrA 367 1 (JZ 1000 k k)))(g3: ∀j,j<k->hget s.h (1000+j)=some (Hu 1000 L j))
 (g4:(G.length=0/\hget s.h O=some (true,.arr 32 1 []))\/hget s.h O=some (true,.arrA 32 1 ((List.range G.length).map λq=>[.own (T q)])))
 (g5: ∀q,q<G.length->hget s.h (T q)=some (true,.arr 2 1 ((G[q]?.getD []).map Ai)))
 (inj: ∀q q',q<G.length->q'<G.length->T q=T q'->q=q')(out: ∀q,q<G.length->T q≠O/\3000<=T q)(hO:2000<=O/\O≠2001):Az 2002 π s (gI k L i M G):=by
 refine⟨ac,?_,?_,?_⟩
 .rw[eG];simp only[gI,Ff,SS];have ab: ∀x∈[2001,2100,2]++((List.range k).map (1000+ ·)++(List.range G.length).map (3000+ ·)),(x=2001/\pm π x=some 2001)\/(x=2/\pm π x=some 2)\/(x=2100/\pm π x=some O)\/(1000<=x/\x<1000+k/\pm π x=some x)\/(3000<=x/\x<3000+G.length/\pm π x=some (T (x - 3000))):=by
   intro x z;rcases Bv.1 z with z|z
   .simp only[Bk,mK,gB] at z;rcases z with rfl|rfl|rfl
    .exact .inl ⟨rfl,p1⟩
    .exact .inr (.inr (.inl ⟨rfl,p4⟩))
    .exact .inr (.inl ⟨rfl,p2⟩)
   .rcases Bv.1 z with z|z
    .obtain⟨j,Q,rfl⟩:=Bt.1 z;have Q:=BA.1 Q;exact .inr (.inr (.inr (.inl ⟨by show 1000<=1000+j;omega,by show 1000+j<1000+k;omega,p3 j Q⟩)))
    .obtain⟨j,Q,rfl⟩:=Bt.1 z;have Q:=BA.1 Q;exact .inr (.inr (.inr (.inr ⟨by show 3000<=3000+j;omega,by show 3000+j<3000+G.length;omega,by show pm π (3000+j)=some (T (3000+j - 3000));rw[show 3000+j - 3000=j by omega];exact p5 j Q⟩)))
  refine eP _ _ (OW [2001,2100,2] 1000 k 3000 G.length (by simp) (by simp;omega) (by omega)) ?_;intro x z y hy m Z aa;rcases ab x z with ⟨a1,a2⟩|⟨a1,a2⟩|⟨a1,a2⟩|⟨a0,a1,a2⟩|⟨a0,a1,a2⟩<;>rcases ab y hy with ⟨b1,b2⟩|⟨b1,b2⟩|⟨b1,b2⟩|⟨b0,b1,b2⟩|⟨b0,b1,b2⟩<;>
   rw[a2] at Z<;>rw[b2] at aa<;>have Z:=AD Z<;>have aa:=AD aa<;>first
   |omega
   |(have:=out (x - 3000) (by omega);omega)
   |(have:=out (y - 3000) (by omega);omega)
   |(have:=inj (x - 3000) (y - 3000) (by omega) (by omega) (Z.trans aa.symm);omega)
 .simp only[gI,Qi,t1,t2,t3,t4,t5,mt,p2,p1,p4,FL,GU,Hs]
 .simp only[gI,GV,Qns,p1,p2,p4,Em,g1,g2];refine⟨⟨rfl,rfl⟩,?_,⟨rfl,rfl,rfl,wU p3⟩,?_,?_⟩
  .rcases g4 with ⟨h0,h1⟩|h1
   .rw[h1,h0];exact⟨rfl,rfl,rfl,trivial⟩
   .rw[h1];exact⟨rfl,rfl,rfl,Qyn p5 rfl⟩
  .rw[E4,dY];intro j Q;rw[p3 j Q,Em,g3 j Q];refine⟨rfl,?_⟩;simp only[Hu,ED,D9,mt,Hs,and_true,vM];simp only[Mh];split
   .simp only[mt,p3 _ (show (L[j]?.getD (-1)).toNat<k by omega),GU]
   .rfl
  .rw[EL,dY];intro q hq;rw[p5 q hq,Em,g5 q hq];exact⟨rfl,rfl⟩
def S9(a:Int×List Ag):Prop:=0<=a.1/\a.1<=512/\Lc a.1 a.2/\a.2.length<=1000000
def groupsBy_.fv(a:Int×(List Ag)):List (List Int):=(V4) (a.1) (a.2)
def groupsBy_.row:AB:=vK (b2 qI (qS Ag.d_le Ag.c_n)) (rS eH MV) (λa=>S9 (a.1,a.2)) groupsBy_.fv
def groupsBy_.q:=AT (R:=groupsBy_.row) rfl
def groupsBy_.ok:AC Tryz.prog 265 groupsBy_.row:=by
 refine vw (tC firC.ok tN) Tryz.func265 rfl (by kernel_rfl) ?_;intro a a8;simp only[Tryz.f265];simp(disch:=omega)only[ZA,simprocAttr,groupsBy_.fv];obtain⟨h0,h1,aw,hl⟩:=a8;obtain⟨n,hn⟩: ∃n:Nat,a.1=n:=⟨a.1.toNat,by simp only at h0;omega⟩;obtain⟨bs,hbsd⟩: ∃bs,bs=a.2:=⟨_,rfl⟩;simp only[hn,<-hbsd,Bx] at h0 h1 aw hl⊢;refine⟨h0,Lp _,by omega,λ_=> ?_⟩;rw[Oe];refine AQ.ren ⟨{k:Nat//k<=n},λk=>⟨[(21,.im (.int .i64 k.1)),(20,.im (.int .i64 n)),(19,.own 2),(5,.own 2),(0,.im (.int .i64 n)),(1,.im (.sl false 3 (bs.map Ag.c)))],(2,(true,.arrA 367 1 (JZ 1000 n k.1)))::E4 1000 (List.replicate n (-1)) k.1,2000⟩,λk=>n - k.1,λk=>⟨?_,by simp⟩,⟨⟨0,by simp⟩,[(2,some 1)],?_⟩,λk=> ?_⟩
 .simp only[Aj.good,Ac,A9,tA 1000 k.1 2000 _ (by omega),zF 1000 n k.1 2000 (by omega),Qnw 1000 k.1 2000 _ (by omega)];simp[Am,AV.bel]
 .simp only[Az,E4,AU,ZeT,Hc];simp(disch:=omega)only[ZA,simprocAttr];exact Ps _ _ _
 obtain⟨k,bd⟩:=k;simp(disch:=omega)only[ZA,simprocAttr,AO,BC,Zr];refine⟨λhk=>⟨hk,hk,?_⟩,λhk=> ?_⟩
 .simp(disch:=omega)only[ZA,simprocAttr,BC,Qtr,Zfi];refine⟨?_,⟨k+1,by omega⟩,[(1000+k,some 2000)],by simp only;omega,?_⟩
  .rw[Dw];intro r hr;rcases Xd hr with hr|hr
   .exact Dw.1 (zF 1000 n k 2001 (by omega)) r hr
   .subst hr;simp[Aq,AV.bel]
  have qi: ∀i,i≠1000+k->pm [(1000+k,some 2000)] i=some i:=by intro i z;simp only[pm];rw[Af (by omega)]
  have qk:pm [(1000+k,some 2000)] (1000+k)=some 2000:=by simp only[pm];rw[An trivial]
  obtain⟨π,hπ⟩: ∃π,π=[(1000+k,some 2000)]:=⟨_,rfl⟩;rw[<-hπ] at qi qk⊢;refine⟨by rw[hπ];exact⟨by omega,trivial⟩,?_,?_,?_⟩
  .rw[eG,hπ];simp only[Ff,E4,Zx];refine eP _ _ (dQ [2] 1000 (k+1) (by simp) (by simp)) ?_;intro x hx y hy m aq ag;have bj:x<2000:=by
    rcases Bk.1 hx with hx|hx
    .omega
    .obtain⟨i,z,rfl⟩:=Bt.1 hx
     have:=BA.1 z
     show 1000+i<2000;omega
   have bl:y<2000:=by
    rcases Bk.1 hy with hy|hy
    .omega
    .obtain⟨i,z,rfl⟩:=Bt.1 hy
     have:=BA.1 z
     show 1000+i<2000;omega
   simp only[pm] at aq ag;split at aq<;>split at ag<;>simp only[AJ] at aq ag<;>omega
  .simp only[Qi,AE];simp(disch:=omega)only[ZA,simprocAttr,qi 2 (by omega)];rw[AH (by omega) (by omega)];omega
  .simp only[GV,E4,dY];refine⟨?_,λi z=> ?_⟩
   .simp(disch:=omega)only[ZA,simprocAttr,qi 2 (by omega)];rw[eQ];refine⟨by simp[Zr],λi x y hx hy=> ?_⟩;have ax:i<n:=by have:=(Cd.1 hx).1;rwa [Zr] at this
    rw[yS _ _ _ _ ax] at hx;obtain rfl:=AD hx;by_cases ad:k=i
    .subst ad;rw[Dm (by rw[Zr];exact hk)] at hy;obtain rfl:=AD hy;rw[An (by omega)];simp only[D9,mt,qk,GU,Hs]
    .rw[DF ad,yS _ _ _ _ ax] at hy;obtain rfl:=AD hy;by_cases az:i<k
     .rw[An (by omega),An az];simp only[D9,mt,qi (1000+i) (by omega),GU,Hs]
     .rw[Af (by omega),Af az];simp only[D9,mt,Hs]
   .have hg: ∀i,i<n->(List.replicate n (-1:Int))[i]?.getD (-1)= -1:=by
     intro i z;rw[Lo,An z,AM]
    have ay:Mh 1000 i (-1)= .im .nilp:=by simp only[Mh];rw[Af (by omega)]
    simp only[Hu,hg i (by omega),ay];by_cases ad:i=k
    .subst ad;rw[qk];simp(disch:=omega)only[ZA,simprocAttr]
    .rw[qi (1000+i) (by omega)];have h9:=JX 1000 k (List.replicate n (-1)) i (by omega);simp only[Hu,hg i (by omega),ay,E4] at h9;simp (disch:=omega) only[Em,hget,Bi,BD,WD,ZO,ZU,Qo,CY,CH];rw[h9];simp only[Kt,ED,D9,mt,Hs]
 .intro _;have be:k=n:=by omega
  subst be;clear hk bd;refine AQ.old ⟨{s:Nat×List Int//s.1<=bs.length/\s.2.length=k/\Gs s.2/\ ∀i,i<k->(Cf k bs s.1)[i]? =some ((Ew s.2 i:Nat):Int)},λs=>⟨[(33,.im (.int .i64 s.1.1)),(32,.im (.int .i64 bs.length)),(31,.im (.sl false 3 (bs.map Ag.c))),(5,.own 2),(0,.im (.int .i64 k))],(2,(true,.arrA 367 1 (JZ 1000 k k)))::E4 1000 s.1.2 k,2000⟩,λs=>bs.length - s.1.1,λs=>⟨?_,by simp⟩,⟨⟨(0,List.replicate k (-1)),by simp only;omega,by simp,Qug k,λi z=>Pd z⟩,?_⟩,λs=> ?_⟩
  .simp only[Aj.good,Ac,A9,tA 1000 k 2000 _ (by omega),zF 1000 k k 2000 (by omega),Qnw 1000 k 2000 _ (by omega)];simp[Am,AV.bel]
  .simp only[sub,Gz,AE];refine⟨?_,?_⟩
   .simp(disch:=omega)only[ZA,simprocAttr]
   .simp only[Ca];refine⟨rfl,tF λi z=> ?_⟩;simp only[hget,Bi _ _ (show 2≠1000+i by omega),BD];exact JX _ _ _ _ z
  obtain⟨⟨j,L⟩,i1,i2,i3,i4⟩:=s;simp only at i1 i2 i3 i4;simp(disch:=omega)only[ZA,simprocAttr,AO,BC,Zr];refine⟨λhj=>⟨hj,λb hb=> ?_⟩,λhj=> ?_⟩
  .obtain⟨b1,b2,b3,b4⟩:=aw b (AZ hb);obtain⟨u,hu⟩: ∃u:Nat,b.A=u:=⟨b.A.toNat,by omega⟩;obtain⟨w,hw⟩: ∃w:Nat,b.B=w:=⟨b.B.toNat,by omega⟩;have ak:u<k:=by omega
   have ah:w<k:=by omega
   have bh:=zU i3 u;have bi:=zU i3 w;simp only[hu,hw,Bx];refine⟨by omega,by omega,ak,?_⟩;simp(disch:=omega)only[ZA,simprocAttr,BC,Qtr,An ak,vL];have hH: ∀(e Z:Au) (i:Nat),i<k->hget ((2000,e)::(2,Z)::Bl (E4 1000 L k) [2000]) (1000+i)=some (Hu 1000 L i):=by
    intro e Z i z;have h9:=JX 1000 k L i z;simp (disch:=omega) only[hget,Bi,BD,WD,ZO,ZU,Qo,CY,CH,h9]
   refine⟨by omega,Qtp (nx:=2001) i2 (by omega) i3 ak (by decide) (hH _ _) (λU=> ?_)⟩;simp(disch:=omega)only[ZA,simprocAttr,BC,Zr,Qtr,An ah,vL];refine⟨by omega,ah,ah,by omega,An (.inl (by omega)),Qtp (nx:=2001) i2 (by omega) i3 ah (by decide) (hH _ _) (λU2=> ?_)⟩;obtain⟨x,hx⟩: ∃x,x=Ew L u:=⟨_,rfl⟩;obtain⟨y,hy⟩: ∃y,y=Ew L w:=⟨_,rfl⟩;rw[<-hx] at bh⊢;rw[<-hy] at bi⊢;have gx:=JX 1000 k L x (by omega);have gy:=JX 1000 k L y (by omega);simp only[Hu] at gx gy;simp(disch:=omega)only[ZA,simprocAttr,sub,AO,BC,WN,Bi,NV,gx,gy,aB (show 1000+x<2001 by omega),aB (show 1000+y<2001 by omega)];have ba:Ew L x=x:=by rw[hx];exact Qls i3 u
   have bb:Ew L y=y:=by rw[hy];exact Qls i3 w
   have ou:=i4 u ak;have ow:=i4 w ah;rw[<-hx] at ou;rw[<-hy] at ow;have hS:Cf k bs (j+1)=(Cf k bs j).map (Jy (x:Int) (y:Int)):=by
    simp only[Cf,hb,tD,hu,hw,Bx,ou,ow,AM]
   have ac: ∀(p q:Nat),p<q->q<k-> ∀(i:Nat),i<k->Hu 1000 (L.set q (p:Int)) i=if i=q then (true,.cells 369 [.ptr (1000+p) 0,.im (.int .i64 q)]) else Hu 1000 L i:=by
    intro p q a0 hq i z;simp only[Hu];by_cases h:i=q
    .subst h;rw[An rfl,Dm (by omega),AM];simp only[Mh];rw[An ⟨by omega,by omega⟩,Bx]
    .rw[Af h,DF (EJ h)]
   have af: ∀(p q:Nat),p<q->q<k-> ∀(e Z:Au) (tm:List (Nat×AV)),Ca ⟨tm,(1000+q,(true,.cells 369 [.ptr (1000+p) 0,.im (.int .i64 q)]))::(2000,e)::(2,Z)::Bl (Bl (E4 1000 L k) [2000]) [1000+q],2001⟩ (E4 1000 (L.set q (p:Int)) k):=by
    intro p q a0 hq e Z tm;refine tF λi z=> ?_
    rw[ac p q a0 hq i z];by_cases h:i=q
    .subst h;simp only[hget,uX,Ck,BM]
    .rw[Af h];have h9:=JX 1000 k L i z;simp (disch:=omega) only[hget,Bi,BD,NV,h9]
   refine⟨λai=>⟨⟨(j+1,L.set y (x:Int)),by simp only;omega,by simp only[EX];exact i2,Qsx i3 ai,λi z=> ?_⟩,by simp only;omega,by rw[AH (by omega) (by omega)];simp only;omega,af x y ai (by omega) _ _ _⟩,λai=>⟨λaj=>⟨⟨(j+1,L.set x (y:Int)),by simp only;omega,by simp only[EX];exact i2,Qsx i3 aj,λi z=> ?_⟩,by simp only;omega,by rw[AH (by omega) (by omega)];simp only;omega,af y x aj (by omega) _ _ _⟩,λaj=>⟨⟨(j+1,L),by simp only;omega,i2,i3,λi z=> ?_⟩,by simp only;omega,by rw[AH (by omega) (by omega)];simp only;omega,?_⟩⟩⟩
   .rw[hS,D1,i4 i z,CQ,Qqx i3 ba bb ai (by omega) i,(Md ai _).1]
   .rw[hS,D1,i4 i z,CQ,Qqx i3 bb ba aj (by omega) i,(Md aj _).2]
   .rw[hS,D1,i4 i z,CQ,show y=x by omega,Ya]
   .refine tF λi z=> ?_
    have h9:=JX 1000 k L i z;simp (disch:=omega) only[hget,Bi,BD,NV,h9]
  .have bc:j=bs.length:=by omega
   subst bc;obtain⟨own,hown⟩: ∃own,own=Cf k bs bs.length:=⟨_,rfl⟩;rw[<-hown] at i4;intro _;refine AQ.ren ⟨{s:Nat×List (Int×Int)//s.1<=k/\tS (B7 own s.1 s.1) s.2},λs=>gI k L s.1.1 s.1.2 (B7 own s.1.1 s.1.1),λs=>k - s.1.1,λs=>⟨?_,by simp[gI]⟩,⟨⟨(0,[]),by simp only;omega,?_⟩,[(2100,some 2000)],?_⟩,λs=> ?_⟩
   .have ab:=sC own s.1.1 s.1.1;have hs:=s.2.1;exact XM (by omega) (by omega)
   .exact⟨λr v h=>(by cases h),λg r am h=>(by simp[B7] at h)⟩
   .refine Qxg (O:=2000) (T:=λq=>3000+q) (by omega) (by simp[B7]) ⟨by omega,trivial⟩ rfl rfl (λj hj=> ?_) rfl (λq hq=>(by simp[B7] at hq)) rfl rfl rfl rfl rfl rfl rfl (λj hj=> ?_) (.inl ⟨rfl,rfl⟩) (λq hq=>(by simp[B7] at hq)) (λq q' hq=>(by simp[B7] at hq)) (λq hq=>(by simp[B7] at hq)) (by omega)
    .simp only[pm];rw[Af (by omega)]
    .have h9:=JX 1000 k L j hj;simp (disch:=omega) only[hget,Bi,BD,h9]
   obtain⟨⟨i,M⟩,q1,q2⟩:=s;simp only at q1 q2;simp only[gI];have an:=sC own i i;simp(disch:=omega)only[ZA,simprocAttr,AO,BC,Zr];refine⟨λz=>⟨z,z,?_⟩,λz=> ?_⟩
   .simp(disch:=omega)only[ZA,simprocAttr,BC,Qtr,An z];have hH: ∀(e1 Z e3:Au) (j:Nat),j<k->hget ((2001,e1)::(2100,Z)::(2,e3)::(E4 1000 L k++EL 3000 (B7 own i i))) (1000+j)=some (Hu 1000 L j):=by
     intro e1 Z e3 j hj;have h9:=zO k L (B7 own i i) j hj;simp (disch:=omega) only[hget,Bi,BD,h9]
    have ho:=i4 i z;obtain⟨r,hr⟩: ∃r,r=Ew L i:=⟨_,rfl⟩;have bf:r<=i:=by rw[hr];exact zU i3 i
    have bg:own[r]? =some (r:Int):=by
     have:=i4 r (by omega)
     rwa [hr,Qls i3 i,<-hr] at this
    rw[<-hr] at ho;have gr:=zO k L (B7 own i i) r (by omega);simp only[Hu] at gr;refine⟨by omega,by omega,by omega,Qtp (nx:=4000) i2 (by omega) i3 z (by omega) (hH _ _ _) (λU=> ?_)⟩;rw[<-hr];simp(disch:=omega)only[ZA,simprocAttr,WN,BC,I7,Bi,gr,Yf,aB (show 1000+r<4000 by omega)];refine⟨λv hv=> ?_,λhn=> ?_⟩
    .obtain⟨g,am,rfl,hg⟩:=q2.a _ v hv;have ab:=(Cd.1 hg).1;have an:=sC own i i;have gg:=zQ k L (B7 own i i) g (by omega) ab;rw[hg,AM] at gg;simp(disch:=omega)only[ZA,simprocAttr,WN,BC,I7,Bi,gg,Qxa];obtain⟨e1,Z⟩:=SB q2 ho hg;obtain⟨G,hG⟩: ∃G,G=B7 own i i:=⟨_,rfl⟩;rw[<-hG] at hg ab an e1 gg⊢;have ac:(De 3000 G.length).set g [AV.own 4001]=(List.range G.length).map λq=>[AV.own (if q=g then 4001 else 3000+q)]:=by
      apply Kj;intro j;rw[D1];by_cases hj:j<G.length
      .rw[Io hj];by_cases h:g=j
       .subst h;rw[Dm (by rw[I7];exact ab)];simp
       .rw[DF h,Qo7 _ _ _ hj,CQ,Af (EJ h)]
      .rw[FE (by simp[I7];omega),FE (by simp;omega)];rfl
     refine⟨ab,ab,by omega,?_,by omega,?_,ab,ab,?_,⟨(i+1,M),by simp only;omega,Z⟩,[(3000+g,some 4001)],by simp only;omega,?_⟩
     .intro row Q;obtain rfl:=BJ.1 Q;rfl
     .have h6:(r::am:List Int).length<=1000:=D3 (by rw[hG] at hg;exact Qy0 own i i _ (AZ hg)) (by omega);simp only[CM] at h6;omega
     .rw[Dw];intro row Q;rcases Xd Q with hr|hr
      .exact Dw.1 (WB 3000 G.length 4002 (by omega)) row hr
      .subst hr;simp[Aq,AV.bel]
     have pn: ∀m,m≠3000+g->pm [(3000+g,some 4001)] m=some m:=by intro m hm;simp only[pm];rw[Af (EJ hm)]
     simp only[e1];rw[AH (by omega) (by omega)];have hh: ∀(e1 Z e3 e4 e5:Au) (m:Nat),hget ((2100,e1)::(4001,Z)::(4000,e3)::(2001,e4)::(2,e5)::Bl (Bl (E4 1000 L k++EL 3000 G) [3000+g]) [2100]) m=if m=2100 then some e1 else if m=4001 then some Z else if m=4000 then some e3 else if m=2001 then some e4 else if m=2 then some e5 else if m=3000+g then none else hget (E4 1000 L k++EL 3000 G) m:=by
      intro e1 Z e3 e4 e5 m;simp only[hget,WD,ZO,ZU,Qo,Qp,ZeI];by_cases h1:m=2100
      .subst h1;simp
      by_cases h2:m=4001
      .subst h2;simp
      by_cases h3:m=4000
      .subst h3;simp
      by_cases h4:m=2001
      .subst h4;simp
      by_cases h5:m=2
      .subst h5;simp
      simp only[Af h1,Af h2,Af h3,Af h4,Af h5,Af (EJ h1),Af (EJ h2),Af (EJ h3),Af (EJ h4),Af (EJ h5)]
     refine Qxg (O:=2100) (T:=λq=>if q=g then 4001 else 3000+q) (by omega) (by rw[EX];omega) ⟨by omega,trivial⟩ (pn _ (by omega)) (pn _ (by omega)) (λj hj=>pn _ (by omega)) (pn _ (by omega)) (λq hq=> ?_) rfl rfl rfl rfl rfl ?_ ?_ (λj hj=> ?_) (.inr ?_) (λq hq=> ?_) (λq q' hq=> ?_) (λq hq=> ?_) (by omega)
     .by_cases h:q=g
      .subst h;simp[pm]
      .rw[pn _ (by omega),Af h]
     .rw[hh];rfl
     .rw[hh];rfl
     .rw[hh,Af (by omega),Af (by omega),Af (by omega),Af (by omega),Af (by omega),Af (by omega)];exact zO _ _ _ _ hj
     .rw[hh,An rfl,ac,EX]
     .rw[EX] at hq;rw[hh];by_cases h:q=g
      .subst h;rw[An rfl,Af (by omega),An rfl,Dm ab,AM];simp[Ai]
      .rw[Af h,Af (by omega),Af (by omega),Af (by omega),Af (by omega),Af (by omega),Af (by omega),DF (EJ h)];exact zQ _ _ _ _ (by omega) hq
     .rw[EX] at hq;intro au he;rw[EX] at au;by_cases h:q=g<;>by_cases h2:q'=g<;>simp only[h,h2,BM,CH] at he⊢ <;>omega
     .rw[EX] at hq;by_cases h:q=g<;>simp only[h,BM,CH]<;>omega
    .obtain⟨a9,e1,Z⟩:=SA q2 ho bf bg hn;have Q:(De 3000 (B7 own i i).length++[[AV.im (D.sl true 0 [])]])[(B7 own i i).length]? =some [AV.im (D.sl true 0 [])]:=by
      rw[F3 (by rw[I7];exact AP _),I7,Hd];rfl
     have av: ∀N,4000<=N->(De 3000 (B7 own i i).length++[[AV.im (D.sl true 0 [])]]).all (Aq N)=true:=by
      intro N hN;rw[uY,WB _ _ _ (by omega)];rfl
     intro _;refine⟨?_,by omega,av _ (by omega),by simp[I7],by simp[I7],Jw Q ?_⟩
     .intro row Q;obtain rfl:=BJ.1 Q;rfl
     have ac:(De 3000 (B7 own i i).length++[[AV.im (D.sl true 0 [])]]).set (B7 own i i).length [AV.own 4003]=De 3000 (B7 own i i).length++[[AV.own 4003]]:=by
      have: ∀(l:List (List AV)) n x y,l.length=n->(l++[x]).set n y=l++[y]:=by
       intro l n x y h;subst h;rw[mA _ _ (AP _),Hd];rfl
      exact this _ _ _ _ (I7 _ _)
     have ao: ∀N,4003<N->(De 3000 (B7 own i i).length++[[AV.own 4003]]).all (Aq N)=true:=by
      intro N hN;rw[uY,WB _ _ _ (by omega)];simp[Aq,AV.bel];omega
     simp(disch:=omega)only[ZA,simprocAttr,BC];refine⟨?_,by simp[I7],by simp[I7],Jw Q ?_⟩
     .intro row Q;obtain rfl:=BJ.1 Q;rfl
     simp(disch:=omega)only[ZA,simprocAttr,BC,Bi,ac];refine⟨ao _ (by omega),⟨(i+1,M++[((i:Int),((B7 own i i).length:Int))]),by simp only;omega,by simp only;exact Z⟩,[(2100,some 4001),(3000+(B7 own i i).length,some 4003)],by simp only;omega,?_⟩;simp only[e1];obtain⟨G,hG⟩: ∃G,G=B7 own i i:=⟨_,rfl⟩;simp only[<-hG] at an⊢;rw[AH (by omega) (by omega)];have pn: ∀m,m≠2100->m≠3000+G.length->pm [(2100,some 4001),(3000+G.length,some 4003)] m=some m:=by intro m hm ag;simp only[pm];rw[Af (EJ hm),Af (EJ ag)]
     have hh: ∀(e1 Z e3 e4 e5 e6:Au) (m:Nat),hget ((4001,e1)::(4003,Z)::(4002,e3)::(4000,e4)::(2001,e5)::(2,e6)::Bl (Bl (Bl (E4 1000 L k++EL 3000 G) [2001]) [2100]) [4001]) m=if m=4001 then some e1 else if m=4003 then some Z else if m=4002 then some e3 else if m=4000 then some e4 else if m=2001 then some e5 else if m=2 then some e6 else if m=2100 then none else hget (E4 1000 L k++EL 3000 G) m:=by
      intro e1 Z e3 e4 e5 e6 m;simp only[hget,WD,ZO,ZU,Qo,Qp,ZeI];by_cases h1:m=4001
      .subst h1;simp
      by_cases h2:m=4003
      .subst h2;simp
      by_cases h3:m=4002
      .subst h3;simp
      by_cases h4:m=4000
      .subst h4;simp
      by_cases h5:m=2001
      .subst h5;simp
      by_cases h6:m=2
      .subst h6;simp
      simp only[Af h1,Af h2,Af h3,Af h4,Af h5,Af h6,Af (EJ h1),Af (EJ h2),Af (EJ h3),Af (EJ h4),Af (EJ h5),Af (EJ h6)]
     have aa:(G++[[(i:Int)]]).length=G.length+1:=by simp
     refine Qxg (O:=4001) (T:=λq=>if q<G.length then 3000+q else 4003) (by omega) (by rw[aa];omega) ⟨by omega,by omega,trivial⟩ (pn _ (by omega) (by omega)) (pn _ (by omega) (by omega)) (λj hj=>pn _ (by omega) (by omega)) (by simp[pm]) (λq hq=> ?_) rfl rfl rfl rfl rfl ?_ ?_ (λj hj=> ?_) (.inr ?_) (λq hq=> ?_) (λq q' hq=> ?_) (λq hq=> ?_) (by omega)
     .rw[aa] at hq;by_cases h:q<G.length
      .rw[pn _ (by omega) (by omega),An h]
      .obtain rfl:q=G.length:=by omega
       rw[Af h];simp only[pm];rw[Af (by omega),An trivial]
     .rw[hh,<-a9,<-Nv _ _ _ hn];rfl
     .rw[hh];rfl
     .rw[hh,Af (by omega),Af (by omega),Af (by omega),Af (by omega),Af (by omega),Af (by omega),Af (by omega)];exact zO _ _ _ _ hj
     .rw[hh,An rfl,Ql0,aa]
     .rw[aa] at hq;rw[hh];by_cases h:q<G.length
      .rw[An h,Af (by omega),Af (by omega),Af (by omega),Af (by omega),Af (by omega),Af (by omega),Af (by omega),EB h];exact zQ _ _ _ _ (by omega) h
      .obtain rfl:q=G.length:=by omega
       rw[Af h,Af (by omega),An rfl,F3 (AP _),Hd];rfl
     .rw[aa] at hq;intro au he;rw[aa] at au;by_cases h:q<G.length<;>by_cases h2:q'<G.length<;>simp only[h,h2,BM,CH] at he⊢ <;>omega
     .by_cases h:q<G.length<;>simp only[h,BM,CH]<;>omega
   .have ad:i=k:=by omega
    subst ad;rw[V4,Bx,<-hown];rw[O4 (m:=7) (G:=B7 own i i)]
    .simp(disch:=omega)only[ZZ,simprocAttr]
    .intro q hq;have h9:=zQ i L (B7 own i i) q (by omega) hq;simp (disch:=omega) only[hget,Bi,BD,h9]
def GN(nm:List Int):List Ag->List Ag
 |[]=>[]
 |b::r=>if BO nm b.A=BO nm b.B then GN nm r else ⟨BO nm b.A,BO nm b.B,b.Strength⟩::GN nm r
def Qvj(nm:List Int): ∀(a b:List Ag),GN nm (a++b)=GN nm a++GN nm b
 |[],b=>rfl
 |x::r,b=>by simp only[CP,GN,Qvj nm r b];split<;>rfl
def Qpl(nm:List Int): ∀(a:List Ag),(GN nm a).length<=a.length
 |[]=>AP _
 |x::r=>by have:=Qpl nm r;simp only[GN];split<;>simp only[CM]<;>omega
def Qab6(nm:List Int){bs:List Ag}{k:Nat}{b:Ag}(h:bs[k]? =some b):GN nm (bs.take (k+1))=GN nm (bs.take k)++if BO nm b.A=BO nm b.B then [] else [⟨BO nm b.A,BO nm b.B,b.Strength⟩]:=by
 rw[Il,h];simp only[vH,Qvj,GN]
def Dp(n:Int)(bs:List Ag)(t:Int):Int×List Ag:=((NW n bs t).length,GN (Rd n.toNat (NW n bs t)) bs)
def dlC.H0_dom(a:List Ag×Int)(j:Nat):Ao (dlC.H0 a) j=true↔j<1:=by
 simp only[Ao,dlC.H0,hget];by_cases h0:j=0
 .subst h0;simp
 .have z:(0==j)=false:=by simp;omega
  simp[z];omega
def contr.fv(a:Int×(List Ag)×Int):Int×(List Ag):=(Dp) (a.1) (a.2.1) (a.2.2)
def contr.row:AB:=vK (b3 qI (qS Ag.d_le Ag.c_n) qI) (r2 rI (rS Ag.d_le Ag.c_n)) (λa=>0<=a.1/\a.1<=512/\Lc a.1 a.2.1/\a.2.1.length<=1000000) contr.fv
def contr.q:=AT (R:=contr.row) rfl
def contr.ok:AC Tryz.prog 245 contr.row:=by
 refine vw (tC clobC.ok (tC dlC.ok (tC groupsBy_.ok tN))) Tryz.func245 rfl (by kernel_rfl) ?_;intro a ac;simp only[Tryz.f245];simp(disch:=omega)only[ZA,simprocAttr,contr.fv];obtain⟨h0,h1,O,G⟩:=ac;obtain⟨n,hn⟩: ∃n:Nat,a.1=n:=⟨a.1.toNat,by omega⟩;obtain⟨bs,hbsd⟩: ∃bs,bs=a.2.1:=⟨_,rfl⟩;obtain⟨t,ht⟩: ∃t,t=a.2.2:=⟨_,rfl⟩;simp only[hn,<-hbsd,<-ht] at h0 h1 O G⊢;refine AF.os bs [] G (λj=>by simp[Ao,hget]) rfl rfl ?_ ?_
 .simp(disch:=omega)only[ZA,simprocAttr,clobC.ca,CO]
 simp(disch:=omega)only[ZA,simprocAttr,clobC.H1];left;refine AF.os (bs,t) [2] G (λj=>dlC.H0_dom _ j) rfl rfl ?_ ?_
 .simp(disch:=omega)only[ZA,simprocAttr,dlC.ca,dlC.H0,Dj]
 simp(disch:=omega)only[ZA,simprocAttr,groupsBy_.q,groupsBy_.fv,dlC.H1];have Q:S9 ((n:Int),G7 t bs):=⟨by simp only;omega,by simp only;omega,λb hb=>O b (Xe.1 hb).1,by have:=Qln t bs;simp only;omega⟩;refine⟨Q,by omega,?_⟩;obtain⟨z,hgs⟩: ∃z,z=V4 (n:Int) (G7 t bs):=⟨_,rfl⟩;have ag: ∀r∈z,∀v∈r,0<=v/\v<n:=by rw[hgs];exact Qps n _
 simp only[<-hgs];intro an;refine AQ.old ⟨{i:Nat//i<=z.length},λi=>⟨[(27,.im (.int .i64 i.1)),(26,.im (.int .i64 z.length)),(25,.im (.sl false 1 (z.map CG))),(9,.own 1022),(8,.im (.sl false 1 (z.map CG))),(1,.im (.sl false 3 (bs.map Ag.c)))],[(1022,(true,.arr 2 1 ((Kb z (List.replicate n 0) i.1).map Ai)))],1023⟩,λi=>z.length - i.1,λi=>⟨by simp[Aj.good,Am,Ac,A9,AV.bel],by simp⟩,⟨⟨0,by simp⟩,?_⟩,λi=> ?_⟩
 .simp(disch:=omega)only[ZA,simprocAttr,sub,Kb,tO]
 obtain⟨i,ao⟩:=i;simp(disch:=omega)only[ZZ,simprocAttr,AO];refine⟨λhi=>⟨hi,λr hr=> ?_⟩,λhi=> ?_⟩
 .have aj:=ag r (AZ hr);obtain⟨l,hl⟩: ∃l,l=Kb z (List.replicate n 0) i:=⟨_,rfl⟩;have aq:l.length=n:=by rw[hl,sF,Oe]
  simp only[<-hl];intro au;refine AQ.old ⟨{k:Nat//k<=r.length},λk=>⟨[(34,.im (.int .i64 k.1)),(33,.im (.int .i64 r.length)),(32,.im (.sl false 1 (r.map Ai))),(10,.im (.int .i64 i)),(27,.im (.int .i64 i)),(26,.im (.int .i64 z.length)),(25,.im (.sl false 1 (z.map CG))),(9,.own 1022),(8,.im (.sl false 1 (z.map CG))),(1,.im (.sl false 3 (bs.map Ag.c)))],[(1022,(true,.arr 2 1 ((Qf i r l k.1).map Ai)))],1023⟩,λk=>r.length - k.1,λk=>⟨by simp[Aj.good,Am,Ac,A9,AV.bel],by simp⟩,⟨⟨0,by simp⟩,?_⟩,λk=> ?_⟩
  .simp(disch:=omega)only[ZA,simprocAttr,sub,Qf]
  obtain⟨k,ai⟩:=k;have ab:=yZ (i:Int) r l k;simp(disch:=omega)only[ZA,simprocAttr,sub,AO,ab,dM];refine⟨λhk=>⟨hk,λv hv=> ?_⟩,λhk=> ?_⟩
  .obtain⟨v1,v2⟩:=aj v (AZ hv);refine⟨v1,by omega,by omega,λ_ _=>⟨⟨k+1,by omega⟩,by simp only;omega,by rw[AH (by omega) (by omega)];simp only;omega,?_⟩⟩;simp only[Qf,hv,AM]
  .have:k=r.length:=by omega
   refine⟨⟨i+1,by omega⟩,by simp only;omega,by rw[AH (by omega) (by omega)];simp only;omega,?_⟩;simp only[Kb,hr,AM,<-hl,this]
 .have ah:i=z.length:=by omega
  subst ah;obtain⟨nm,hnm⟩: ∃nm,nm=Kb z (List.replicate n 0) z.length:=⟨_,rfl⟩;have ab:nm.length=n:=by rw[hnm,sF,Oe]
  simp only[<-hnm];intro am;refine AQ.ren ⟨{k:Nat//k<=bs.length},λk=>⟨[(46,.im (.int .i64 k.1)),(45,.im (.int .i64 bs.length)),(44,.im (.sl false 3 (bs.map Ag.c))),(14,.own 1024),(9,.own 1022),(8,.im (.sl false 1 (z.map CG)))],[(1024,(true,.arr 318 3 ((GN nm (bs.take k.1)).map Ag.c))),(1022,(true,.arr 2 1 (nm.map Ai)))],1025⟩,λk=>bs.length - k.1,λk=>⟨by simp[Aj.good,Am,Ac,A9,AV.bel],by simp⟩,⟨⟨0,by simp⟩,[(1024,some 1023)],?_⟩,λk=> ?_⟩
  .simp only[Az];simp(disch:=omega)only[ZA,simprocAttr,Br];rfl
  obtain⟨k,ai⟩:=k;have ak:=Qpl nm (bs.take k);rw[Ce] at ak;simp(disch:=omega)only[ZA,simprocAttr,AO,NJ,NF,Bz,D.one];refine⟨λhk=>⟨hk,λb hb=> ?_⟩,λhk=> ?_⟩
  .obtain⟨b1,b2,b3,b4⟩:=O b (AZ hb);refine⟨b1,by omega,by omega,λx hx=>⟨b3,by omega,by omega,λy hy=> ?_⟩⟩;have e1:BO nm b.A=x:=by simp only[BO,hx,AM]
   have e2:BO nm b.B=y:=by simp only[BO,hy,AM]
   have Z:=Qab6 nm hb;rw[e1,e2] at Z;refine⟨λaa=>⟨b1,by omega,by omega,λx' ad=>⟨b3,by omega,by omega,λy' af=>⟨by omega,⟨k+1,by omega⟩,[(1024,some 1027)],by simp only;omega,?_⟩⟩⟩,λaa=>⟨⟨k+1,by omega⟩,[],by simp only;omega,?_⟩⟩
   .rw[hx] at ad;rw[hy] at af;obtain rfl:=AD ad;obtain rfl:=AD af;simp only[Az];simp(disch:=omega)only[ZA,simprocAttr,Br,Z];rw[AH (by omega) (by omega),Af aa];simp[Ag.c]
   .simp only[Az];simp(disch:=omega)only[ZA,simprocAttr,Br,Z];rw[AH (by omega) (by omega),An (GA.1 aa),D2];simp
  .have:k=bs.length:=by omega
   subst this;rw[GC];intro _;simp only[Dp,NW,Rd,Bx,<-hgs,<-hnm]
end Go.Ae
