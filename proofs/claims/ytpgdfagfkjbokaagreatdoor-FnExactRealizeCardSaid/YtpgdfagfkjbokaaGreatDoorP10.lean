/- Lemmas. Conditions: none. -/
import Derived.Test.YtpgdfagfkjbokaaGreatDoorP09
set_option linter.all false
set_option maxHeartbeats 8000000
set_option maxRecDepth 100000
namespace Go.Ae
open Go.Proofs
def Fa(l:List Int):Nat->List Int
 |0=>l
 |i+1=>((Fa l i).set i ((Fa l i)[l.length - 1 - i]?.getD 0)).set (l.length - 1 - i) ((Fa l i)[i]?.getD 0)
def Qnf(l:List Int): ∀i,(Fa l i).length=l.length
 |0=>rfl
 |i+1=>by simp only[Fa,EA,Qnf l i]
def pI(l:List Int): ∀i,2*i<=l.length-> ∀k,k<l.length->(Fa l i)[k]? =if k<i\/l.length - i<=k then l[l.length - 1 - k]? else l[k]?
 |0,_,k,Z=>by simp only[Fa];rw[Af (by omega)]
 |i+1,hi,k,Z=>by
  have ih:=pI l i (by omega);have hl:=Qnf l i;have g1:(Fa l i)[l.length - 1 - i]?.getD 0=l[l.length - 1 - i]?.getD 0:=by rw[ih _ (by omega),Af (by omega)]
  have g2:(Fa l i)[i]?.getD 0=l[i]?.getD 0:=by rw[ih _ (by omega),Af (by omega)]
  have gd: ∀j,j<l.length->some (l[j]?.getD 0)=l[j]? :=λj hj=>by rw[Bi hj];rfl
  rw[Fa,g1,g2];by_cases z:l.length - 1 - i=k
  .subst z;rw[CY (by rw[EA,hl];omega),Ai (by omega),gd _ (by omega)];congr 1;omega
  .rw[Dw z];by_cases O:i=k
   .subst O;rw[CY (by rw[hl];omega),Ai (by omega),gd _ (by omega)]
   .rw[Dw O,ih k Z];by_cases Q:k<i\/l.length - i<=k
    .rw[Ai Q,Ai (by omega)]
    .rw[Af Q,Af (by omega)]
def Uh(l:List Int){i:Nat}(O:2*i<=l.length)(Q:l.length<=2*i+1):Fa l i=l.reverse:=by
 apply Io;intro k;by_cases z:k<l.length
 .rw[pI l i O k z,Zeg z];by_cases h:k<i\/l.length - i<=k
  .rw[Ai h]
  .rw[Af h];congr 1;omega
 .rw[E9 (by rw[Qnf];omega),E9 (by rw[gE];omega)]
def eI(l:List Int)(i:Nat)(x:Int):(l.map Al).set i [.int .i64 x]=(l.set i x).map Al:=by rw[JM];rfl
def revC.ca(_:List Int):List AV:=[.own 0]
def revC.H0(a:List Int):Ap:=[(0,(true,.arr 3 1 (a.map Al)))]
def revC.H1(a:List Int):Ap:=[(0,(true,.arr 3 1 (a.reverse.map Al)))]
def revC.row:A7:=AB revC.ca revC.H0 1 (λ_=>True) (λj=>j==0) (λ_=> .im (.tup [])) revC.H1 0
def revC.ok:AC 242 revC.row:=by
 refine ow tN Tryz.func242 (exB:=λ_=>false) (R:=λ_ r=>r= .im (.tup [])) (λ_=>rfl)
  (λa=>by simp[revC.ca,revC.H0,AF,AV.bel,Aw,B9,BS,Ab.nms,Ak,hget]) (λa p hp=> ?_) (λa r h=>by subst h;exact CU.refl _) ?_
 rotate_left
 intro a Z;simp only[Tryz.f242,revC.ca,revC.H0,revC.H1];simp only[ZA,simprocAttr];intro aa;rw[AD (by omega) (by omega)];refine AT.old ⟨{i:Nat//2*i<=a.length},λi=>⟨[(2,.im (.int .i64 i.1)),(3,.im (.int .i64 ((a.length:Int) - 1 - i.1))),(0,.own 0)],[(0,(true,.arr 3 1 ((Fa a i.1).map Al)))],1⟩,λi=>a.length - i.1,λi=>⟨by simp[ZG],by simp⟩,⟨⟨0,by simp⟩,?_⟩,λi=> ?_⟩
 .simp only[ZA,simprocAttr,sub];exact⟨by omega,by rw[Fa]⟩
 obtain⟨i,hi⟩:=i;have Q:=Qnf a i;simp only[ZA,simprocAttr,sub,AO,Q,eI,EA];refine⟨λO=>⟨by omega,by omega,by omega,λx hx=>⟨by omega,by omega,λy hy=>⟨by omega,by omega,λz hz=>⟨by omega,by omega,by omega,λu hu=> ?_⟩⟩⟩⟩,λO=> ?_⟩
 .refine⟨⟨i+1,by omega⟩,by simp only;omega,?_⟩;have w1:IntKind.i64.wrap ((a.length:Int) - 1 - i - 1)=(a.length:Int) - 1 - i - 1:=AD (by omega) (by omega);have w2:IntKind.i64.wrap ((i:Int)+1)=(i:Int)+1:=AD (by omega) (by omega);simp only[w1,w2];refine⟨⟨by omega,by omega⟩,?_⟩;simp only[Fa];rw[show a.length - 1 - i=((a.length:Int) - 1 - i).toNat by omega,hx,hy];rfl
 .rw[Uh a hi (by omega)]
 simp[revC.H1] at hp;subst hp;exact .inl ⟨by omega,rfl,rfl⟩
def clonC.ca(a:List Aj):List AV:=[.im (.sl false 3 (a.map Aj.c))]
def clonC.H1(a:List Aj):Ap:=[(0,(true,.arr 115 3 (a.map Aj.c)))]
def clonC.row:A7:=AB clonC.ca (λ_=>[]) 0 (λa=>a.length<=1000000) (λ_=>false) (λ_=> .own 0) clonC.H1 20
def clonC.ok:AC 74 clonC.row:=by
 refine VO tN Tryz.func74 (exB:=λj=>j==0) (R:=λ_ r=>r= .own 0) (λ_=>rfl)
  (λa=>by simp[clonC.ca,AF,AV.bel,Aw,B9,BS]) (λa p hp=> ?_) (λa r h=>by subst h;exact CU.refl _) ?_
 rotate_left
 intro a z;simp only[Tryz.f74,clonC.ca,clonC.H1];simp only[ZA,simprocAttr,FK,HW,Ef,Ht];intro b O;split
 .rename_i h;have h0:=O h;refine⟨[],[(0,some 1)],⟨[(2,.own 0)],clonC.H1 a,1⟩,?_,by simp[clonC.H1,ZG],by simp,?_⟩
  .simp only[Aq,clonC.H1,h0];simp only[ZA,simprocAttr]
  .simp only[ZA,simprocAttr,clonC.H1]
 .refine⟨by omega,[],[(0,some 2)],⟨[(2,.own 0)],clonC.H1 a,1⟩,?_,by simp[clonC.H1,ZG],by simp,?_⟩
  .simp only[Aq,clonC.H1];simp only[ZA,simprocAttr]
  .simp only[ZA,simprocAttr,clonC.H1]
 simp[clonC.H1] at hp;subst hp;exact .inr ⟨by omega,by omega,rfl,rfl⟩
def clobC.ca(a:List Ag):List AV:=[.im (.sl false 3 (a.map Ag.c))]
def clobC.H1(a:List Ag):Ap:=[(0,(true,.arr 259 3 (a.map Ag.c)))]
def clobC.row:A7:=AB clobC.ca (λ_=>[]) 0 (λa=>a.length<=1000000) (λ_=>false) (λ_=> .own 0) clobC.H1 20
def clobC.ok:AC 217 clobC.row:=by
 refine VO tN Tryz.func217 (exB:=λj=>j==0) (R:=λ_ r=>r= .own 0) (λ_=>rfl)
  (λa=>by simp[clobC.ca,AF,AV.bel,Aw,B9,BS]) (λa p hp=> ?_) (λa r h=>by subst h;exact CU.refl _) ?_
 rotate_left
 intro a z;simp only[Tryz.f217,clobC.ca,clobC.H1];simp only[ZA,simprocAttr,FK,HW,Ef,Ht];intro b O;split
 .rename_i h;have h0:=O h;refine⟨[],[(0,some 1)],⟨[(2,.own 0)],clobC.H1 a,1⟩,?_,by simp[clobC.H1,ZG],by simp,?_⟩
  .simp only[Aq,clobC.H1,h0];simp only[ZA,simprocAttr]
  .simp only[ZA,simprocAttr,clobC.H1]
 .refine⟨by omega,[],[(0,some 2)],⟨[(2,.own 0)],clobC.H1 a,1⟩,?_,by simp[clobC.H1,ZG],by simp,?_⟩
  .simp only[Aq,clobC.H1];simp only[ZA,simprocAttr]
  .simp only[ZA,simprocAttr,clobC.H1]
 simp[clobC.H1] at hp;subst hp;exact .inr ⟨by omega,by omega,rfl,rfl⟩
def freeC.fv(a:Bd×Int×Int):Bool:=(V8) (a.1) (a.2.1) (a.2.2)
def freeC.row:A7:=Dy (b3 (qP 2 Bd.d_le) qI qI) rB (λa=>Kt a.1 a.1.Room.length/\0<=a.2.1/\a.2.1<a.1.Room.length/\0<=a.2.2/\a.2.2<a.1.Room.length) freeC.fv
def freeC.q:=CP (R:=freeC.row) rfl
def freeC.ok:AC 241 freeC.row:=by
 refine Gz tN Tryz.func241 ?_;intro a z;simp only[Tryz.f241];simp only[ZZ,simprocAttr,freeC.fv,D.sc,D.scs,BC];obtain⟨O,Q,h3,Z,h5⟩:=z;have hf:=O.f;refine⟨Q,h3,λr hr=>⟨Z,by rw[O.rr r (AZ hr)];exact h5,λx hx=>⟨Q,by omega,λs hs=>⟨Z,by rw[O.ff s (AZ hs)];exact h5,λy hy=> ?_⟩⟩⟩⟩;simp only[V8,Qyw,Qzr,hr,hs,hx,hy,AP]
def Zt:D->Option (List Int)
 | .sl true _ rows=>AR Da rows
 | .sl false _ (r::rows)=>AR Da (r::rows)
 |_=>none
def Zu: ∀d x,Zt d=some x->Le d (.sl true 1 (x.map Al)):=by
 intro d x h;unfold Zt at h;split at h
 .rename_i k rows;have h1:=Ed (nz:=true) (k:=k) (DQ Fh _ _ h) (k':=1) (by simp[Al]);intro ok hp v Z;have Q:=h1 ok hp v Z;simp only[Ae.rd] at Q Z⊢;rcases Q with Q|⟨b,p,cap,vs,T,fr,g1,g2,g3,g4,g5,g6,g7⟩
  .rcases Z with ⟨q1,O⟩|⟨b',p',z,ab,T',aa,q1,O,q3,q4,q5,q6,q7⟩
   .exact .inl ⟨q1,Q.2⟩
   .obtain⟨ao,e⟩:=uU Q.1;rw[e] at q1;simp only[Value.slice.injEq] at q1;exact absurd (Xl.1 q1.2.1.symm) (O trivial)
  .rcases Z with ⟨q1,O⟩|⟨b',p',z,ab,T',aa,q1,O,q3,q4,q5,q6,q7⟩
   .rw[Qr7 q1] at g1;cases g1
   .refine .inr ⟨b,p,cap,vs,T,fr,g1,λ_ h0=> ?_,g3,g4,g5,g6,g7⟩;rw[q1] at g1;simp only[Value.slice.injEq] at g1;rw[h0,FA] at g1;exact O trivial (Xl.1 g1.2.1)
 .rename_i k r rows;have h1:=Ed (nz:=false) (k:=k) (DQ Fh _ _ h) (k':=1) (by simp[Al]);intro ok hp v Z;have Q:=h1 ok hp v Z;simp only[Ae.rd] at Q Z⊢;rcases Q with Q|⟨b,p,cap,vs,T,fr,g1,g2,g3,g4,g5,g6,g7⟩
  .rcases Z with ⟨q1,O⟩|⟨b',p',z,ab,T',aa,q1,O,q3,q4,q5,q6,q7⟩
   .cases O
   .obtain⟨ao,e⟩:=uU Q.1;rw[e] at q1;simp only[Value.slice.injEq,Cv] at q1;omega
  .rcases Z with ⟨q1,O⟩|⟨b',p',z,ab,T',aa,q1,O,q3,q4,q5,q6,q7⟩
   .cases O
   .refine .inr ⟨b,p,cap,vs,T,fr,g1,λ_ h0=> ?_,g3,g4,g5,g6,g7⟩;rw[q1] at g1;simp only[Value.slice.injEq,Cv] at g1;rw[h0,FA] at g1;omega
 .cases h
def uX(n:Nat)(x:Int):List.replicate n [D.int .i64 x]=(List.replicate n x).map Al:=by rw[List.map_replicate];rfl
def Vn{k:Nat}{l:List Int}(h:l≠[]):Zt (.sl false k (l.map Al))=some l:=by
 cases l with
 |nil=>exact absurd rfl h
 |cons x r=>exact fN (x::r)
def dI(v:Int):D:= .int .i64 v
def rept.H0_dom(a:Int×Int)(j:Nat):Ak (rept.H0 a) j=true↔j<1:=by
 simp only[Ak,rept.H0,hget];by_cases h0:j=0
 .subst h0;simp
 .have z:(0==j)=false:=by simp;omega
  simp[z];omega
def revC.H0_dom(a:List Int)(j:Nat):Ak (revC.H0 a) j=true↔j<1:=by
 simp only[Ak,revC.H0,hget];by_cases h0:j=0
 .subst h0;simp
 .have z:(0==j)=false:=by simp;omega
  simp[z];omega
def CYc:VA Tryz.prog 326=some 3:=by kernel_rfl
def wayC.rc:D->Option (List Int):=Zt
def wayC.re:(List Int)->D:=λb=>D.sl true 1 (b.map Al)
def wayC.rle: ∀d b,wayC.rc d=some b->Le d (wayC.re b):=Zu
def wayC.fv(a:Bd×Int×Int):List Int:=(λx p q=>Cy x x.Room.length p q) (a.1) (a.2.1) (a.2.2)
def wayC.row:A7:=Dy (b3 (qP 2 Bd.d_le) qI qI) (RK.mk wayC.rc wayC.re wayC.rle) (λa=>Kt a.1 a.1.Room.length/\a.1.Room.length<=1000/\0<=a.2.1/\a.2.1<a.1.Room.length/\0<=a.2.2/\a.2.2<a.1.Room.length) wayC.fv
def wayC.q:=CP (R:=wayC.row) rfl
def wayC.ok:AC 236 wayC.row:=by
 refine Gz (tC freeC.ok (tC rept.ok (tC revC.ok tN))) Tryz.func236 ?_;intro a ak;simp only[Tryz.f236];simp only[ZZ,simprocAttr,wayC.fv,wayC.rc];obtain⟨aj,hn,ad,af,am,ax⟩:=ak;obtain⟨x,hx⟩: ∃x,x=a.1:=⟨_,rfl⟩;obtain⟨p,hp⟩: ∃p,p=a.2.1:=⟨_,rfl⟩;obtain⟨q,hq⟩: ∃q,q=a.2.2:=⟨_,rfl⟩;obtain⟨n,hnn⟩: ∃n,n=x.Room.length:=⟨_,rfl⟩;simp only[<-hx,<-hp,<-hq,<-hnn] at aj hn ad af am ax⊢;intro bf;refine AB.os (-1,(n:Int)) [1] ⟨by simp only;omega,by simp only;omega⟩ (λj=>rept.H0_dom _ j) rfl rfl ?_ ?_
 .simp only[ZA,simprocAttr,HW,rept.ca,rept.H0,Ef]
 simp only[ZA,simprocAttr,CYc,rept.H1,Oc,eI,uX];refine⟨by omega,by omega,ad,af,by omega,λ_ _=> ?_⟩;refine AT.old ⟨{k:Nat//k<=(CW x n p k).2.length},λk=>⟨[(9,.ch 22),(8,.own 2),(7,.im (.int .i64 n)),(0,.ptr 0 0),(1,.im (.int .i64 p)),(2,.im (.int .i64 q))],[(2,(true,.arr 3 1 ((CW x n p k.1).1.map Al))),(22,(true,.chan (((CW x n p k.1).2.drop k.1).map dI) n)),(0,(false,.view [.sl false 1 (x.Room.map CX),.sl false 1 (x.Flow.map CX)]))],23⟩,λk=>n - k.1,λk=>⟨by simp[ZG],by simp⟩,⟨⟨0,by simp⟩,?_⟩,λk=> ?_⟩
 .simp only[ZA,simprocAttr,sub];simp[CW,dI]
 obtain⟨k,hk⟩:=k;have hP:=Re (x:=x) ad af k;have bg:=Qr3 hP;simp only[ZA,simprocAttr,D.sc,D.scs,BC,CYc,AO,Ce];refine⟨λav=> ?_,λav=> ?_⟩
 .have aw:k<(CW x n p k).2.length:=by omega
  obtain⟨u,hu⟩: ∃u,(CW x n p k).2[k]? =some u:=⟨_,Bi aw⟩;have a8:=hP.q u (AZ hu);rw[F5 hu];refine⟨by simp,λd r ag=> ?_⟩;simp only[Bf,VG] at ag;obtain⟨rfl,rfl⟩:=ag;simp only[dI];obtain⟨s,hs⟩: ∃s,s=CW x n p k:=⟨_,rfl⟩;simp only[<-hs] at hu hP⊢;refine AT.old ⟨{i:Nat//i<=n},λi=>⟨[(36,.im (.int .i64 i.1)),(35,.im (.int .i64 n)),(10,.im (.int .i64 u)),(9,.ch 22),(8,.own 2),(7,.im (.int .i64 n)),(0,.ptr 0 0),(1,.im (.int .i64 p)),(2,.im (.int .i64 q))],[(2,(true,.arr 3 1 ((CI x u s i.1).1.map Al))),(22,(true,.chan (((CI x u s i.1).2.drop (k+1)).map dI) n)),(0,(false,.view [.sl false 1 (x.Room.map CX),.sl false 1 (x.Flow.map CX)]))],23⟩,λi=>n - i.1,λi=>⟨by simp[ZG],by simp⟩,⟨⟨0,by simp⟩,?_⟩,λi=> ?_⟩
  .simp only[ZA,simprocAttr,sub,CI]
  obtain⟨i,hi⟩:=i;obtain⟨hQ,e,he⟩:=vV hP hu i hi;have a9:=Qr3 hQ;have ay:=hQ.len;simp only[ZZ,simprocAttr,C3,freeC.q,freeC.fv,sub,AO,Ce,ay,eI];refine⟨λaq=>⟨by omega,by omega,λy hy=>⟨λQ=>⟨⟨hnn▸aj,a8.1,by omega,by omega⟩,λhf=>⟨by omega,by omega,λy2 _=>⟨by omega,⟨i+1,by omega⟩,by simp only;omega,by rw[AD (by omega) (by omega)];simp only;omega,?_⟩⟩,λhf=>⟨⟨i+1,by omega⟩,by simp only;omega,by rw[AD (by omega) (by omega)];simp only;omega,?_⟩⟩,λQ=>⟨⟨i+1,by omega⟩,by simp only;omega,by rw[AD (by omega) (by omega)];simp only;omega,?_⟩⟩⟩,λaq=> ?_⟩
  .have Z:CI x u s (i+1)=((CI x u s i).1.set i u,(CI x u s i).2++[(i:Int)]):=by
    rw[CI,Hm,Ai ⟨by rw[hy,AP];exact Q,hf⟩]
   have bd:=(BW.1 hu).1;simp only[Z];refine⟨trivial,?_⟩;rw[nH (by rw[he,C9];omega),ES];rfl
  .have Z:CI x u s (i+1)=CI x u s i:=by
    rw[CI,Hm,Af (λh=>hf h.2)]
   simp only[Z];exact⟨trivial,trivial⟩
  .have Z:CI x u s (i+1)=CI x u s i:=by
    rw[CI,Hm,Af (λh=>Q (by have:=h.1;rw[hy,AP] at this;exact this))]
   simp only[Z];exact⟨trivial,trivial⟩
  .have au:i=n:=by omega
   have Z:CW x n p (k+1)=CI x u s i:=by rw[CW,<-hs,hu,au]
   refine⟨⟨k+1,by rw[Z,he,C9];have:=(BW.1 hu).1;omega⟩,by simp only;omega,?_⟩;simp only[Z];exact⟨trivial,trivial⟩
 .have be:(CW x n p k).2.length=k:=by omega
  have hE:CW x n p k=Bu x n p:=by
   have:=Nx x n p (n - k) k (by omega)
   rw[show k+(n - k)=n by omega] at this;exact this.symm
  have ai:=hP.len;refine⟨am,by omega,by omega,λy hy=>⟨λQ=> ?_,λQ=> ?_⟩⟩
  .simp only[Cy,<-hE,hy,AP];rw[Ai Q];rfl
  have az:q∈(CW x n p k).2:=by
   have:=(hP.mem q.toNat y hy).1 (by omega)
   rwa [show (q.toNat:Int)=q by omega] at this
  obtain⟨i,hi⟩:=JK.1 az;obtain⟨d,ba,ab,aa⟩:=Qq3 hP hi;have bb:=(BW.1 hi).1;have a0:vG (CW x n p k).1 p q n=d:=Qqr (by omega) ab aa;have hW:Cy x n p q=(Ig (CW x n p k).1 q d).reverse:=by
   simp only[Cy,<-hE,hy,AP];rw[Af Q,a0]
  obtain⟨O,hpar⟩: ∃O,O=(CW x n p k).1:=⟨_,rfl⟩;simp only[<-hpar] at ai ab aa hW⊢;refine AT.ren ⟨{j:Nat//j<=d},λj=>⟨[(13,.im (.int .i64 (DB O q j.1))),(12,.own 24),(8,.own 2),(1,.im (.int .i64 p))],[(24,(true,.arr 3 1 ((Ig O q j.1).map Al))),(2,(true,.arr 3 1 (O.map Al)))],25⟩,λj=>d - j.1,λj=>⟨by simp[ZG],by simp⟩,⟨⟨0,by omega⟩,[(24,some 23)],?_⟩,λj=> ?_⟩
  .simp only[Aq];simp only[ZA,simprocAttr,Bs];exact⟨rfl,rfl⟩
  obtain⟨j,hj⟩:=j;have ao:(Ig O q j).length=j+1:=by simp[Ig]
  simp only[ZA,simprocAttr,HW,AO,ao];refine⟨λac=> ?_,λac=> ?_⟩
  .have ah:j<d:=by
    rcases ER j d with h|h
    .exact h
    .exact absurd (by rw[show j=d by omega];exact ab) ac
   obtain⟨j2,g1,g2⟩:=uA hP hi j (λj' bc=>by rw[<-hpar];exact aa j' (by omega));rw[<-hpar] at g2;have an:=hP.q _ (AZ g2);refine⟨an.1,by omega,by omega,λz hz=>⟨by omega,⟨j+1,by omega⟩,[(24,some 26)],by simp only;omega,?_⟩⟩;have Z:DB O q (j+1)=z:=by rw[DB,hz,AP]
   have e2:Ig O q (j+1)=Ig O q j++[z]:=by
    simp only[Ig];rw[nK,ES,Bf,F9,Z]
   simp only[Aq];simp only[ZA,simprocAttr,Bs,Z,e2,ES]
  .have ah:j=d:=by
    have h1:=Ha.1 ac;rcases ER j d with h|h
    .exact absurd h1 (aa j h)
    .omega
   subst ah;refine AB.os (Ig O q j) [24] trivial (λi=>revC.H0_dom _ i) rfl rfl ?_ ?_
   .simp only[ZA,simprocAttr,HW,revC.ca,revC.H0,Ef]
   .simp only[ZA,simprocAttr,HW,D.sc,Ur,BC,revC.H1,Ef];rw[hW];exact Vn (by simp[Ig])
def G3(t:Int)(bs:List Ag):List Ag:=bs.filter λb=>decide (t<=b.Strength)
def Qk(g:Int)(r:List Int)(l:List Int):Nat->List Int
 |0=>l
 |k+1=>(Qk g r l k).set (r[k]?.getD 0).toNat g
def Kq(gs:List (List Int))(l:List Int):Nat->List Int
 |0=>l
 |i+1=>Qk i (gs[i]?.getD []) (Kq gs l i) (gs[i]?.getD []).length
def Qkb(g:Int)(r l:List Int): ∀k,(Qk g r l k).length=l.length
 |0=>rfl
 |k+1=>by simp only[Qk,EA,Qkb g r l k]
def tP(gs:List (List Int))(l:List Int): ∀i,(Kq gs l i).length=l.length
 |0=>rfl
 |i+1=>by simp only[Kq,Qkb,tP gs l i]
def Rf(n:Nat)(gs:List (List Int)):List Int:=Kq gs (List.replicate n 0) gs.length
def BQ(nm:List Int)(v:Int):Int:=nm[v.toNat]?.getD 0
def HB(nm:List Int):List Ag->List Ag
 |[]=>[]
 |b::r=>if BQ nm b.A=BQ nm b.B then HB nm r else ⟨EW (BQ nm b.A) (BQ nm b.B),Ew (BQ nm b.A) (BQ nm b.B),b.Strength⟩::HB nm r
def Qp2(nm:List Int): ∀(a b:List Ag),HB nm (a++b)=HB nm a++HB nm b
 |[],b=>rfl
 |x::r,b=>by simp only[CO,HB,Qp2 nm r b];split<;>rfl
def Qjq(nm:List Int): ∀(a:List Ag),(HB nm a).length<=a.length
 |[]=>AL _
 |x::r=>by have:=Qjq nm r;simp only[HB];split<;>simp only[Cv]<;>omega
def Qln(t:Int)(bs:List Ag):(G3 t bs).length<=bs.length:=Zfe _ _
def Qjs(t:Int){bs:List Ag}{k:Nat}{b:Ag}(h:bs[k]? =some b):G3 t (bs.take (k+1))=G3 t (bs.take k)++if t<=b.Strength then [b] else []:=by
 rw[Ip,h];simp only[G3,ZeD,wE,ZeX,List.filter_nil,Bq]
def pD(own:List Int)(i:Nat): ∀k,∀v∈Dm own i k,(i:Int)<=v/\v<i+k
 |0,v,h=>by simp[Dm] at h
 |k+1,v,h=>by
  simp only[Dm,Bn] at h;rcases h with h|h
  .have:=pD own i k v h;omega
  .split at h
   .rw[Bz] at h;omega
   .simp at h
def Qvq(own:List Int)(n:Nat): ∀k,k<=n-> ∀r∈B7 own n k,∀v∈r,0<=v/\v<n
 |0,_,r,h,_,_=>by simp[B7] at h
 |k+1,O,r,h,v,z=>by
  simp only[B7,Bn] at h;rcases h with h|h
  .exact Qvq own n k (by omega) r h v z
  .split at h
   .rw[Bz] at h;subst h
    have:=pD own k (n - k) v z
    omega
   .simp at h
def Qps(n:Nat)(bs:List Ag): ∀r∈V2 (n:Int) bs,∀v∈r,0<=v/\v<n:=by
 intro r z v O
 have:=Qvq (Cn n bs bs.length) n n (AL _) r (by simpa[V2] using z) v O
 omega
def Qvc(nm:List Int){bs:List Ag}{k:Nat}{b:Ag}(h:bs[k]? =some b):HB nm (bs.take (k+1))=HB nm (bs.take k)++if BQ nm b.A=BQ nm b.B then [] else [⟨EW (BQ nm b.A) (BQ nm b.B),Ew (BQ nm b.A) (BQ nm b.B),b.Strength⟩]:=by
 rw[Ip,h];simp only[wE,Qp2,HB]
def NS(n:Int)(bs:List Ag)(t:Int):List (List Int):=V2 n (G3 t bs)
def Co(n:Int)(bs:List Ag)(t:Int):Int×List Ag:=((NS n bs t).length,HB (Rf n.toNat (NS n bs t)) bs)
def shrunk.fv(a:Int×(List Ag)×Int):Int×(List Ag):=(Co) (a.1) (a.2.1) (a.2.2)
def shrunk.row:A7:=vK (b3 qI (qS Ag.d_le Ag.c_n) qI) (r2 rI (rS Ag.d_le Ag.c_n)) (λa=>0<=a.1/\a.1<=1000000/\Ll a.1 a.2.1/\a.2.1.length<=1000000) shrunk.fv
def shrunk.q:=AY (R:=shrunk.row) rfl
def shrunk.ok:AC 161 shrunk.row:=by
 refine vw (tC l06Groups.ok (tC l00Min.ok (tC l00Max.ok tN))) Tryz.func161 ?_;intro a ai;simp only[Tryz.f161];simp only[ZA,simprocAttr,shrunk.fv];obtain⟨h0,h1,ab,aj⟩:=ai;obtain⟨n,hn⟩: ∃n:Nat,a.1=n:=⟨a.1.toNat,by omega⟩;obtain⟨bs,hbsd⟩: ∃bs,bs=a.2.1:=⟨_,rfl⟩;obtain⟨t,ht⟩: ∃t,t=a.2.2:=⟨_,rfl⟩;simp only[hn,<-hbsd,<-ht] at h0 h1 ab aj⊢;refine AT.ren ⟨{k:Nat//k<=bs.length},λk=>⟨[(9,.im (.int .i64 k.1)),(8,.own 2),(0,.im (.int .i64 n)),(1,.im (.sl false 3 (bs.map Ag.c))),(2,.im (.int .i64 t))],[(2,(true,.arr 259 3 ((G3 t (bs.take k.1)).map Ag.c)))],3⟩,λk=>bs.length - k.1,λk=>⟨by simp[ZG],by simp⟩,⟨⟨0,by simp⟩,[(2,some 1)],?_⟩,λk=> ?_⟩
 .simp only[Aq];simp only[ZA,simprocAttr];rfl
 obtain⟨k,ac⟩:=k;have aa:=Qln t (bs.take k);rw[BB] at aa;simp only[ZA,simprocAttr,l06Groups.q,l06Groups.fv,AO,NK,NI,BT,D.one];intro _;refine⟨λQ=>⟨Q,λb Z=>⟨λhs=>⟨Q,λb' z=>⟨by omega,⟨k+1,by omega⟩,[(2,some 4)],by simp only;omega,?_⟩⟩,λhs=>⟨⟨k+1,by omega⟩,[(2,some 2)],by simp only;omega,?_⟩⟩⟩,λQ=> ?_⟩
 .rw[Z] at z;obtain rfl:=Ay z;simp only[Aq];simp only[ZA,simprocAttr,Qjs t Z];rw[AD (by omega) (by omega),Ai hs];simp[Ag.c]
 .simp only[Aq];simp only[ZA,simprocAttr,Qjs t Z];rw[AD (by omega) (by omega),Af hs,D2];simp
 have an:k=bs.length:=by omega
 subst an;rw[IS];refine⟨⟨h1,λb Z=>ab b (gW.1 Z).1⟩,by omega,?_⟩;obtain⟨O,hgs⟩: ∃O,O=V2 (n:Int) (G3 t bs):=⟨_,rfl⟩;have ak: ∀r∈O,∀v∈r,0<=v/\v<n:=by rw[hgs];exact Qps n _
 simp only[<-hgs];clear Q aa ac;refine AT.old ⟨{i:Nat//i<=O.length},λi=>⟨[(12,.im (.int .i64 i.1)),(11,.own 3),(10,.im (.sl false 1 (O.map CX))),(0,.im (.int .i64 n)),(1,.im (.sl false 3 (bs.map Ag.c))),(2,.im (.int .i64 t))],[(3,(true,.arr 2 1 ((Kq O (List.replicate n 0) i.1).map Al)))],4⟩,λi=>O.length - i.1,λi=>⟨by simp[ZG],by simp⟩,⟨⟨0,by simp⟩,?_⟩,λi=> ?_⟩
 .simp only[ZA,simprocAttr,sub,Kq,uX]
 obtain⟨i,au⟩:=i;simp only[ZA,simprocAttr,AO];intro aq;refine⟨λhi=> ?_,λhi=> ?_⟩
 .obtain⟨r,hr⟩: ∃r,O[i]? =some r:=⟨_,Bi hi⟩;have ao:=ak r (AZ hr);obtain⟨l,hl⟩: ∃l,l=Kq O (List.replicate n 0) i:=⟨_,rfl⟩;have av:l.length=n:=by rw[hl,tP,Oc]
  simp only[<-hl];refine AT.old ⟨{k:Nat//k<=r.length},λk=>⟨[(13,.im (.int .i64 k.1)),(12,.im (.int .i64 i)),(11,.own 3),(10,.im (.sl false 1 (O.map CX))),(0,.im (.int .i64 n)),(1,.im (.sl false 3 (bs.map Ag.c))),(2,.im (.int .i64 t))],[(3,(true,.arr 2 1 ((Qk i r l k.1).map Al)))],4⟩,λk=>r.length - k.1,λk=>⟨by simp[ZG],by simp⟩,⟨⟨0,by simp⟩,?_⟩,λk=> ?_⟩
  .simp only[ZA,simprocAttr,sub,Qk]
  obtain⟨k,ac⟩:=k;have ah:=Qkb (i:Int) r l k;simp only[ZZ,simprocAttr,sub,AO,hr,ah,eI];refine⟨hi,λr' ad aw=> ?_⟩;subst ad;refine⟨λQ=>⟨hi,λr' ad=> ?_⟩,λQ=>⟨⟨i+1,by omega⟩,by simp only;omega,by rw[AD (by omega) (by omega)];simp only;omega,?_⟩⟩
  .subst ad;refine⟨Q,λv hv=> ?_⟩;obtain⟨v1,v2⟩:=ao v (AZ hv);refine⟨v1,by omega,by omega,λ_ _=>⟨⟨k+1,by omega⟩,by simp only;omega,by rw[AD (by omega) (by omega)];simp only;omega,?_⟩⟩;simp only[Qk,hv,AP]
  .have:k=r.length:=by omega
   simp only[Kq,hr,AP,<-hl,this]
 .have am:i=O.length:=by omega
  subst am;obtain⟨nm,hnm⟩: ∃nm,nm=Kq O (List.replicate n 0) O.length:=⟨_,rfl⟩;have ah:nm.length=n:=by rw[hnm,tP,Oc]
  simp only[<-hnm];refine AT.ren ⟨{k:Nat//k<=bs.length},λk=>⟨[(15,.im (.int .i64 k.1)),(14,.own 5),(11,.own 3),(10,.im (.sl false 1 (O.map CX))),(0,.im (.int .i64 n)),(1,.im (.sl false 3 (bs.map Ag.c))),(2,.im (.int .i64 t))],[(5,(true,.arr 259 3 ((HB nm (bs.take k.1)).map Ag.c))),(3,(true,.arr 2 1 (nm.map Al)))],6⟩,λk=>bs.length - k.1,λk=>⟨by simp[ZG],by simp⟩,⟨⟨0,by simp⟩,[(5,some 4)],?_⟩,λk=> ?_⟩
  .simp only[Aq];simp only[ZA,simprocAttr,Bs];rfl
  obtain⟨k,ac⟩:=k;have aa:=Qjq nm (bs.take k);rw[BB] at aa;simp only[ZA,simprocAttr,l00Min.q,l00Min.fv,l00Max.q,l00Max.fv,AO,NK,NI,BT,D.one];intro _;refine⟨λQ=>⟨Q,λb Z=> ?_⟩,λQ=> ?_⟩
  .obtain⟨b1,b2,b3,b4⟩:=ab b (AZ Z);refine⟨b1,by omega,by omega,λx hx=>⟨Q,λb' z=> ?_⟩⟩;rw[Z] at z;obtain rfl:=Ay z;refine⟨b3,by omega,by omega,λy hy=> ?_⟩;have e1:BQ nm b.A=x:=by simp only[BQ,hx,AP]
   have e2:BQ nm b.B=y:=by simp only[BQ,hy,AP]
   have af:=Qvc nm Z;rw[e1,e2] at af;refine⟨λag=>⟨Q,λb' z=>⟨by omega,⟨k+1,by omega⟩,[(5,some 7)],by simp only;omega,?_⟩⟩,λag=>⟨⟨k+1,by omega⟩,[(5,some 5)],by simp only;omega,?_⟩⟩
   .rw[Z] at z;obtain rfl:=Ay z;simp only[Aq];simp only[ZA,simprocAttr,Bs,af];rw[AD (by omega) (by omega),Af ag];simp[Ag.c]
   .simp only[Aq];simp only[ZA,simprocAttr,Bs,af];rw[AD (by omega) (by omega),Ai (Ha.1 ag),D2];simp
  .have:k=bs.length:=by omega
   subst this;rw[IS];intro _;simp only[Co,NS,Rf,B8,<-hgs,<-hnm]
def Qk5(s:Az): ∀(l:List Am) (i:Nat),Lh s i l=true-> ∀g∈l,1<=g.Strength/\g.Strength<=4
 |[],_,_,_,h=>by cases h
 |x::r,i,h,g,z=>by
  simp only[Lh,AN,AX,Bq] at h;rcases Bh.1 z with rfl|z
  .exact⟨h.1.2.1.1,h.1.2.1.2⟩
  .exact Qk5 s r _ h.2 g z
def Qlf(s:Az): ∀(l:List Tile) (i:Nat),J9 s i l=true-> ∀t∈l,t.Sides.length=4/\ ∀g∈t.Sides,0<=g/\g<=s.Glues.length
 |[],_,_,_,h=>by cases h
 |x::r,i,h,t,z=>by
  simp only[J9,AN,Bq,CA,AX] at h;rcases Bh.1 z with rfl|z
  .exact⟨h.1.2.1,λg O=>⟨(h.1.2.2.2 g O).1,(h.1.2.2.2 g O).2⟩⟩
  .exact Qlf s r _ h.2 t z
def sV{s:Az}(h:DT s=true):Ct s:=by
 simp only[DT,AN,Bq] at h;exact⟨by omega,Qlf s _ _ h.2.2,Qk5 s _ _ h.2.1⟩
def Kj{s:Az}{a:Ad}(h:D1 s a=true):Il s a/\a.Tiles.length<=500:=by
 simp only[D1,AN,Bq,CA,AX] at h;exact⟨⟨h.1.1,λx z=>⟨(h.2 x z).1,by have:=(h.2 x z).2;omega⟩⟩,h.1.2⟩
def Zc(p:Ac)(d:Int):Cz p d≠p:=by
 intro h;have O:(Cz p d).X=p.X:=by rw[h]
 have z:(Cz p d).Y=p.Y:=by rw[h]
 simp only[Cz] at O z;split at O
 .rename_i h0;rw[Ai h0] at z;simp only at z;omega
 .rename_i h0;rw[Af h0] at z;split at O
  .simp only at O;omega
  .rename_i Q;rw[Af Q] at z;split at O
   .rename_i Z;rw[Ai Z] at z;simp only at z;omega
   .simp only at O;omega
def jA(a:Ad)(i:Nat)(d:Int)(hi:i<a.Tiles.length):Hj a i d≠i:=by
 intro h;rcases ZE (λx=>decide (x.At=Cz ((a.Tiles[(i:Int).toNat]?.map Aj.At).getD ⟨0,0⟩) d)) a.Tiles 0 with ⟨_,z⟩|⟨j,x,Q,z,Z⟩
 .simp only[Hj,z] at h;omega
 .simp only[Hj,z,FP] at h;have O:j=i:=by omega
  subst O
  have:=gV Q
  simp only[Bq,B8,Z,D3,AP] at this;exact Zc _ _ this.symm
def K2(n:Int)(b:Ag):Prop:=(0<=b.A/\b.A<n/\0<=b.B/\b.B<n)/\b.A≠b.B/\0<b.Strength/\b.Strength<=4
def Xz{s:Az}(hs:Ct s)(a:Ad)(i:Nat)(hi:i<a.Tiles.length)(d:Int): ∀b∈WX s a i d,K2 a.Tiles.length b:=by
 intro b z;simp only[WX] at z;split at z
 .rename_i h0;split at z
  .rename_i O;rw[Bz] at z;subst z;have Q:=KH a i d;have Z:=jA a i d hi;have h4:Km s (G1 a i) d (G1 a (Hj a i d))<=4:=by
    simp only[Km];split
    .exact (Qp1 hs _).2
    .omega
   exact⟨⟨by simp only;omega,by simp only;omega,h0,Q⟩,λh=>Z h.symm,O,h4⟩
  .simp at z
 .simp at z
def Qzz{s:Az}(hs:Ct s)(a:Ad)(i:Nat)(z:i<a.Tiles.length): ∀k,∀b∈Kl s a i k,K2 a.Tiles.length b
 |0,b,h=>by simp[Kl] at h
 |k+1,b,h=>by
  simp only[Kl,Bn] at h;rcases h with h|h
  .exact Qzz hs a i z k b h
  .exact Xz hs a i z _ b h
def Qro{s:Az}(hs:Ct s)(a:Ad): ∀k,k<=a.Tiles.length-> ∀b∈F6 s a k,K2 a.Tiles.length b
 |0,_,b,h=>by simp[F6] at h
 |k+1,z,b,h=>by
  simp only[F6,Bn] at h;rcases h with h|h
  .exact Qro hs a k (by omega) b h
  .exact Qzz hs a k (by omega) _ b h
def Mt(g:Int)(r:List Int)(m:Int)(h0:0<=g)(Q:g<m)(l:List Int)(O: ∀x∈l,0<=x/\x<m): ∀k,∀x∈Qk g r l k,0<=x/\x<m
 |0=>O
 |k+1=>by
  intro x z;simp only[Qk] at z;rcases Xk z with z|z
  .exact Mt g r m h0 Q l O k x z
  .omega
def Ms(gs:List (List Int))(l:List Int)(z: ∀x∈l,0<=x/\x<(gs.length:Int)): ∀i,i<=gs.length-> ∀x∈Kq gs l i,0<=x/\x<(gs.length:Int)
 |0,_=>z
 |i+1,O=>Mt _ _ _ (by omega) (by omega) _ (Ms gs l z i (by omega)) _
def Qy8{n:Nat}{gs:List (List Int)}(O:0<gs.length)(v:Int):0<=BQ (Rf n gs) v/\BQ (Rf n gs) v<(gs.length:Int):=by
 simp only[BQ];cases h:(Rf n gs)[v.toNat]? with
 |none=>simp;omega
 |some x=>
  rw[AP];exact Ms gs _ (λx z=>by have:=Ob z;omega) _ (AL _) x (AZ h)
def Qvw{n:Nat}{gs:List (List Int)}(z:0<gs.length): ∀(bs:List Ag),(∀b∈bs,0<b.Strength/\b.Strength<=4)-> ∀b∈HB (Rf n gs) bs,K2 gs.length b
 |[],_,b,h=>by simp[HB] at h
 |x::r,Q,b,h=>by
  simp only[HB] at h;have ih:=Qvw (n:=n) z r (λy hy=>Q y (BP _ hy)) b;split at h
  .exact ih h
  .rename_i Z;rcases Bh.1 h with rfl|h
   .have h1:=Qy8 (n:=n) z x.A;have h2:=Qy8 (n:=n) z x.B;have O:=Q x (BM ..);refine⟨?_,?_,O.1,O.2⟩
    .simp only[EW,Ew]
     split<;>split<;>omega
    .simp only[EW,Ew]
     split<;>split<;>omega
   .exact ih h
def MT{n:Int}{bs:List Ag}{t:Int}(Q: ∀b∈bs,K2 n b)(hl:bs.length<=1000000)(h0:0<(Co n bs t).1)(h1:(Co n bs t).1<=64):ZM (Co n bs t)/\Qj (Co n bs t).2:=by
 have O:=Qvw (n:=n.toNat) (gs:=NS n bs t) (by simp only[Co] at h0;omega) bs (λb z=>⟨(Q b z).2.2.1,(Q b z).2.2.2⟩);have Z:=Qjq (Rf n.toNat (NS n bs t)) bs;refine⟨⟨by omega,by omega,by simp only[Co];omega,λb z=>(O b z).1,λb z=>(O b z).2.1⟩,λb z=> ?_⟩
 have:=(O b z).2.2
 omega
def fY(s:Az)(a:Ad)(t:Int):Bool×Int:=
 if 64<(Co a.Tiles.length (F6 s a a.Tiles.length) t).1 then (false,4)
 else if (Co a.Tiles.length (F6 s a a.Tiles.length) t).1<2 then (true,0)
 else (decide (t<=(F7 (Co a.Tiles.length (F6 s a a.Tiles.length) t).1 (Co a.Tiles.length (F6 s a a.Tiles.length) t).2 ((Co a.Tiles.length (F6 s a a.Tiles.length) t).1 - 1).toNat).1),0)
def l07Stable.fv(a:Az×Ad×Int):Bool×Int:=(fY) (a.1) (a.2.1) (a.2.2)
def l07Stable.row:A7:=vK (b3 (qP 2 Az.d_le) (qP 1 Ad.d_le) qI) (r2 rB rI) (λa=>Ct a.1/\Il a.1 a.2.1/\a.2.1.Tiles.length<=500) l07Stable.fv
def l07Stable.q:=AY (R:=l07Stable.row) rfl
def l07Stable.ok:AC 127 l07Stable.row:=by
 refine vw (tC l06Bonds.ok (tC shrunk.ok (tC weakC.ok tN))) Tryz.func127 ?_;intro a z;simp only[Tryz.f127];simp only[ZA,simprocAttr,Ad.d,l07Stable.fv,l06Bonds.q,l06Bonds.fv,shrunk.q,shrunk.fv,weakC.q,weakC.fv];obtain⟨O,Z,h3⟩:=z;have Q:=Qro O a.2.1 _ (AL _);have hl:=tF a.1 a.2.1 a.2.1.Tiles.length;refine⟨⟨O,Z,by omega⟩,⟨by omega,λb hb=>(Q b hb).1,by omega⟩,?_⟩;simp only[fY];split
 .rfl
 .rename_i c1;split
  .rfl
  .rename_i c2;obtain⟨p1,p2⟩:=MT (t:=a.2.2) Q (by omega) (by omega) (by omega);exact⟨⟨p1,p2,by omega⟩,rfl⟩
def US(s:Az)(a:Ad)(t:Int):Bool:=(fY s a t).1 && decide ((fY s a t).2=0)
def GV(y:AM):Bool:=DT y.Set && (D1 y.Set y.Seed && (!y.Seed.Tiles.isEmpty && (AX y.Temperature 1 16 && US y.Set y.Seed y.Temperature)))
def l08Ok.fv(a:AM):Bool:=(GV) a
def l08Ok.row:A7:=vK (b1 (qP 4 AM.d_le)) rB (λa=>True) l08Ok.fv
def l08Ok.q:=AY (R:=l08Ok.row) rfl
def l08Ok.ok:AC 81 l08Ok.row:=by
 refine vw (tC l02Ok.ok (tC l03Ok.ok (tC l07Temperature.ok (tC l07Stable.ok tN)))) Tryz.func81 ?_;intro a aa;simp only[Tryz.f81];simp only[ZA,simprocAttr,Ad.d,l08Ok.fv,l02Ok.q,l02Ok.fv,l03Ok.q,l03Ok.fv,l07Temperature.q,l07Temperature.fv,l07Stable.q,l07Stable.fv]
 split<;>rename_i c1
 .split<;>rename_i c2
  .have z:D1 a.Set a.Seed=true:=by
    simp only[D1,AN,Bq];exact c2
   split<;>rename_i O
   .have Q:a.Seed.Tiles.isEmpty=false:=by
     rw[ZeL];intro h;rw[h] at O;simp at O
    split<;>rename_i Z
    .simp only[GV,Z,Gf,nL]
    .refine⟨⟨sV c1,(Kj z).1,(Kj z).2⟩,?_⟩;rw[Im] at Z;simp only[GV,c1,z,Q,Z,Eg,Xn,US]
     split<;>rename_i c7
     .rw[c7,Eg]
     .rw[Gi] at c7;rw[c7,Gf]
   .have Q:a.Seed.Tiles=[]:=by
     have:=Ha.1 O
     exact wC (by omega)
    simp[GV,Q]
  .have z:D1 a.Set a.Seed=false:=by
    rw[Qr];intro h;simp only[D1,AN,Bq] at h;exact c2 h
   simp[GV,z]
 .rw[Gi] at c1;simp[GV,c1]
def NX(m:AE):Bool:=m.Labels.all λx=>AX x (-1) (m.Small.Set.Tiles.length - 1)
def Fk(m:AE):Bool:=GV m.Big && (GV m.Small && (AX m.Scale 1 4 && (decide (m.Labels.length=m.Big.Set.Tiles.length) && NX m)))
def l32Ok.fv(a:AE):Bool:=(Fk) a
def l32Ok.row:A7:=vK (b1 (qP 10 AE.d_le)) rB (λa=>True) l32Ok.fv
def l32Ok.q:=AY (R:=l32Ok.row) rfl
def l32Ok.ok:AC 44 l32Ok.row:=by
 refine vw (tC l08Ok.ok (tC l00In.ok tN)) Tryz.func44 ?_;intro a aa;simp only[Tryz.f44];simp only[ZA,simprocAttr,l32Ok.fv,l08Ok.q,l08Ok.fv,l00In.q,l00In.fv];by_cases c1:GV a.Big=true
 case neg=>rw[Af c1];rw[Gi] at c1;simp[Fk,c1]
 rw[Ai c1];by_cases O:GV a.Small=true
 case neg=>rw[Af O];rw[Gi] at O;simp[Fk,O]
 rw[Ai O];by_cases Q:AX a.Scale 1 4=true
 case neg=>rw[Af Q];rw[Gi] at Q;simp[Fk,Q]
 rw[Ai Q]
 split<;>rename_i c4
 .have: ¬a.Labels.length=a.Big.Set.Tiles.length:=by omega
  simp[Fk,this]
 have c5:a.Labels.length=a.Big.Set.Tiles.length:=by omega
 have hS:Fk a=NX a:=by simp only[Fk,c1,O,Q,c5,Zfu,Eg]
 rw[hS];refine AT.old ⟨{k:Nat//k<=a.Labels.length/\(a.Labels.drop k).all (λx=>AX x (-1) (a.Small.Set.Tiles.length - 1))=NX a},λk=>⟨[(3,.im (.int .i64 k.1)),(0,.ptr 0 0)],[(0,(false,.view (AE.c a)))],1⟩,λk=>a.Labels.length - k.1,λk=>⟨by simp[ZG],AL _⟩,⟨⟨0,by simp[NX]⟩,by simp only[ZA,simprocAttr,sub]⟩,λk=> ?_⟩;obtain⟨k,ab,z⟩:=k;simp only[ZA,simprocAttr,l00In.q,l00In.fv,sub,AO];intro _;have ac:a.Small.Set.Tiles.length<=160:=by
  simp only[GV,DT,AN,Bq,AX] at O;omega
 rw[AD (by omega) (by omega)];refine⟨λZ=>⟨Z,λx hx=> ?_⟩,λZ=> ?_⟩
 .rw[F5 hx,JL] at z;refine⟨λh=> ?_,λh=>⟨⟨k+1,by omega,?_⟩,by simp only;omega,by rw[AD (by omega) (by omega)];simp only;omega⟩⟩
  .rw[h,Gf] at z;exact z
  .rw[Im] at h;rw[h,Eg] at z;exact z
 .rw[CS (by omega)] at z;exact z
def l32Asked.fv(a:AE×Ad):Int:=(λm a=>if Fk m=true/\D1 m.Big.Set a=true then 0 else 1) (a.1) (a.2)
def l32Asked.row:A7:=vK (b2 (qP 10 AE.d_le) (qP 1 Ad.d_le)) rI (λa=>True) l32Asked.fv
def l32Asked.q:=AY (R:=l32Asked.row) rfl
def l32Asked.ok:AC 21 l32Asked.row:=by
 refine vw (tC l32Ok.ok (tC l03Ok.ok tN)) Tryz.func21 ?_;intro a z;simp only[Tryz.f21];simp(disch:=omega)only[ZA,simprocAttr,Ad.d,l32Asked.fv,l32Ok.q,l32Ok.fv,l03Ok.q,l03Ok.fv];have e:(De none a.2.Tiles && decide (a.2.Tiles.length<=500) && a.2.Tiles.all λx=>AX x.Tile 0 ((a.1.Big.Set.Tiles.length:Int) - 1))=D1 a.1.Big.Set a.2:=rfl;rw[e];cases Fk a.1<;>cases D1 a.1.Big.Set a.2<;>simp
def Qq4{a b:Ac}(h:Bl a b=false)(O:a≠b):Bl b a=true:=by
 obtain⟨x,y⟩:=a;obtain⟨z,w⟩:=b;simp only[Bl,ne_eq,Ac.mk.injEq] at*
 grind
def CH(p:Ac)(t:Int):List Aj->List Aj
 |[]=>[⟨p,t⟩]
 |x::r=>if Bl p x.At=true then ⟨p,t⟩::x::r else x::CH p t r
def M6(p:Ac)(t:Int): ∀(l:List Aj),GR p t false l++(if IK p l=true then [] else [⟨p,t⟩])=CH p t l
 |[]=>rfl
 |x::r=>by
  have ih:=M6 p t r;by_cases h:Bl p x.At=true
  .have e:IK p (x::r)=true:=by simp only[IK,Ai h]
   simp only[e,BI,D2,GR,CH,Ai h,vE]
  .have e:IK p (x::r)=IK p r:=by simp only[IK,Af h]
   simp only[e,GR,CH,Af h,CO,ih]
def Ra(a:Ad)(p:Ac)(t:Int):Cg a p t=⟨CH p t a.Tiles⟩:=by simp only[Cg,M6]
def tY(p:Ac)(t:Int): ∀(l:List Aj),(CH p t l).length=l.length+1
 |[]=>rfl
 |x::r=>by simp only[CH];split<;>simp[tY p t r]
def uG(p:Ac)(t:Int)(y:Aj): ∀(l:List Aj),y∈CH p t l↔y=⟨p,t⟩\/y∈l
 |[]=>by simp[CH]
 |x::r=>by
  simp only[CH];split
  .simp
  .simp only[Bh,uG p t y r];constructor
   .rintro (h|h|h)
    .exact .inr (.inl h)
    .exact .inl h
    .exact .inr (.inr h)
   .rintro (h|h|h)
    .exact .inr (.inl h)
    .exact .inl h
    .exact .inr (.inr h)
def Qki{p:Ac}{t:Int}(hp:DA p=true)(ht:AX t 0 159=true): ∀(l:List Aj) (q:Option Ac),De q l=true->(∀q',q=some q'->Bl q' p=true)->(∀x∈l,x.At≠p)->De q (CH p t l)=true
 |[],q,_,O,_=>by
  simp only[CH,Vw,Qik,hp,ht,Eg,Fo];cases q with
  |none=>rfl
  |some q'=>exact O q' rfl
 |x::r,q,z,O,h3=>by
  have hx:=h3 x (BM ..);rw[Vw] at z;simp only[AN] at z;obtain⟨g1,g2,g3,g4⟩:=z;simp only[CH];split
  .rename_i Q;rw[Vw,Vw];simp only[hp,ht,g1,g2,g4,Q,Eg,Fo];cases q with
   |none=>rfl
   |some q'=>exact O q' rfl
  .rename_i Q;rw[Vw];have ih:=Qki hp ht r (some x.At) g4 (λq' Z=>by
    obtain rfl:=Ay Z;exact Qq4 (by simpa using Q) (E5 hx)) (λy hy=>h3 y (BP _ hy))
   simp only[g1,g2,ih,Eg,Fo];exact g3
def Rv{a:Ad}(hf:De none a.Tiles=true){p:Ac}(h:BG a p<0): ∀x∈a.Tiles,x.At≠p:=by
 intro x Q O;have z:(a.Tiles.find? (λx=>decide (x.At=p))).isSome=true:=by
  rw[List.find?_isSome];exact⟨x,Q,by simpa using O⟩
 cases hq:a.Tiles.find? (λx=>decide (x.At=p)) with
 |none=>rw[hq] at z;cases z
 |some y=>
  simp only[BG,hq,D3,AP] at h
  have:=(V5 _ _ hf y (nI hq)).2
  simp only[AX,AN,Bq] at this;omega
def R5{p:Ac}{k:Int}(hp:DA p=true)(O:AX k 1 4=true):DA (NU p k).1=true:=by
 simp only[DA,AX,AN,Bq,NU] at*;obtain⟨Q,Z⟩:=O;have z:k=1\/k=2\/k=3\/k=4:=by omega
 rcases z with rfl|rfl|rfl|rfl<;>exact⟨⟨gO (by omega),gO (by omega)⟩,gO (by omega),gO (by omega)⟩
def aE(m:AE)(o:Ad)(x:Aj):Option Ad:=
 if (m.Labels[x.Tile.toNat]?.getD 0)<0 then some o
 else if 0<=BG o (NU x.At m.Scale).1/\BG o (NU x.At m.Scale).1≠(m.Labels[x.Tile.toNat]?.getD 0) then none
 else if BG o (NU x.At m.Scale).1<0 then some (Cg o (NU x.At m.Scale).1 (m.Labels[x.Tile.toNat]?.getD 0)) else some o
def G4(m:AE)(a:Ad):Nat->Option Ad
 |0=>some ⟨[]⟩
 |k+1=>match a.Tiles[k]?,G4 m a k with
  |some x,some o=>aE m o x
  |_,r=>r
def BD(m:AE)(a:Ad):Ad×Bool:=match G4 m a a.Tiles.length with
 |some o=>(o,true)
 |none=>(⟨[]⟩,false)
def oD(o:Ad):D:=if o.Tiles=[] then .sl true 0 [] else .sl false 3 (o.Tiles.map Aj.c)
def oD_d(o:Ad):Ad.d [oD o]=some o:=by
 obtain⟨l⟩:=o;cases l with
 |nil=>rfl
 |cons x r=>simp only[oD];rw[Af (by simp)];exact Ad.d_c ⟨x::r⟩
def jN(o:Ad)(p:Ac)(t:Int):D.sl false 3 ((Cg o p t).Tiles.map Aj.c)=oD (Cg o p t):=by
 rw[Ra,oD,Af];intro h
 have:=tY p t o.Tiles
 simp only at h;rw[h] at this;simp at this
def yK{m:AE}(h:NX m=true)(hs:m.Small.Set.Tiles.length<=160)(i:Nat): -1<=m.Labels[i]?.getD 0/\m.Labels[i]?.getD 0<=159:=by
 cases hi:m.Labels[i]? with
 |none=>simp
 |some x=>
  simp only[NX,CA,AX,AN,Bq] at h
  have:=h x (AZ hi)
  rw[AP];omega
def tW{m:AE}{a:Ad}(O:NX m=true)(Q:AX m.Scale 1 4=true)(Z:m.Small.Set.Tiles.length<=160)(h4:De none a.Tiles=true): ∀k o,G4 m a k=some o->De none o.Tiles=true/\o.Tiles.length<=k
 |0,o,h=>by
  simp only[G4,AI] at h;subst h;exact⟨rfl,AL _⟩
 |k+1,o,h=>by
  simp only[G4] at h;split at h
  .rename_i x o' hx ho;obtain⟨z,i2⟩:=tW O Q Z h4 k o' ho;simp only[aE] at h;have aa:=(V5 _ _ h4 x (AZ hx)).1;have ab:=yK O Z x.Tile.toNat;split at h
   .obtain rfl:=Ay h;exact⟨z,by omega⟩
   .split at h
    .cases h
    .split at h
     .obtain rfl:=Ay h;rename_i c1 c2 c3;rw[Ra];refine⟨Qki (R5 aa Q) (by simp only[AX,AN,Bq];omega) _ _ z (λ_ h=>by cases h) (Rv z c3),by simp only[tY];omega⟩
     .obtain rfl:=Ay h;exact⟨z,by omega⟩
  .obtain⟨z,i2⟩:=tW O Q Z h4 k o h;exact⟨z,by omega⟩
def Qra(m:AE)(a:Ad)(k:Nat)(h:G4 m a k=none): ∀j,G4 m a (k+j)=none
 |0=>h
 |j+1=>by
  have ih:=Qra m a k h j;rw[show k+(j+1)=k+j+1 by omega,G4,ih];split
  .rename_i z;cases z
  .rfl
def l32Represent.fv(a:AE×Ad):Ad×Bool:=(BD) (a.1) (a.2)
def l32Represent.row:A7:=vK (b2 (qP 10 AE.d_le) (qP 1 Ad.d_le)) (r2 (rA Ad.d_le) rB) (λa=>NX a.1=true/\AX a.1.Scale 1 4=true/\a.1.Small.Set.Tiles.length<=160/\D1 a.1.Big.Set a.2=true/\a.1.Labels.length=a.1.Big.Set.Tiles.length) l32Represent.fv
def l32Represent.q:=AY (R:=l32Represent.row) rfl
def l32Represent.ok:AC 46 l32Represent.row:=by
 refine vw (tC l26Block.ok (tC l03At.ok (tC l03Put.ok tN))) Tryz.func46 ?_;intro a ab;simp only[Tryz.f46];simp only[ZA,simprocAttr,l32Represent.fv];obtain⟨h1,h2,h3,h4,h5⟩:=ab;have aa:=Kj h4;have z:=aa.1.1;refine AT.old ⟨{k:Nat×Ad//k.1<=a.2.Tiles.length/\G4 a.1 a.2 k.1=some k.2},λk=>⟨[(7,.im (.int .i64 k.1.1)),(6,.ptr 3 0),(4,.ptr 2 0),(0,.ptr 0 0),(1,.ptr 1 0)],[(3,(true,.cells 49 [.im (oD k.1.2)])),(2,(true,.cells 49 [.im (.sl true 0 [])])),(0,(false,.view (AE.c a.1))),(1,(false,.view (Ad.c a.2)))],4⟩,λk=>a.2.Tiles.length - k.1.1,λk=>⟨by simp[ZG],by simp⟩,⟨⟨(0,⟨[]⟩),by simp[G4]⟩,by simp only[ZA,simprocAttr,sub,oD]⟩,λk=> ?_⟩;obtain⟨⟨k,o⟩,ah,O⟩:=k;simp only at ah O;obtain⟨ak,am⟩:=tW h1 h2 h3 z k o O;simp only[ZA,simprocAttr,Ad.d,l26Block.q,l26Block.fv,l03At.q,l03At.fv,l03Put.q,l03Put.fv,sub,AO,-Ad.d,oD_d];intro _;refine⟨λhk=>⟨hk,λx hx=> ?_⟩,λhk=> ?_⟩
 .have ag:=AZ hx;have ad:=aa.1.2 x ag;refine⟨ad.1,by rw[h5];exact ad.2,λlb aj=> ?_⟩;have Q:G4 a.1 a.2 (k+1)=aE a.1 o x:=by simp only[G4,hx,O]
  simp only[aE,aj,AP] at Q;refine⟨λc1=> ?_,λc1=>⟨hk,λx' af=> ?_⟩⟩
  .rw[Ai c1] at Q;exact⟨⟨(k+1,o),by simp only;omega,Q⟩,by simp only;omega,by rw[AD (by omega) (by omega)];simp only;omega,rfl⟩
  .rw[hx] at af;obtain rfl:=Ay af;rw[Af c1] at Q;have ac:=h2;simp only[AX,AN,Bq] at ac;refine⟨⟨Qi (V5 _ _ z x ag).1,ac.1,by omega⟩,ak,λc2=>⟨λZ=> ?_,λZ=>⟨λc4=>by omega,λc4=> ?_⟩⟩,λc2=>⟨λZ=>⟨by omega,?_⟩,λZ=>by omega⟩⟩
   .rw[Ai ⟨c2,Z⟩] at Q
    have:=Qra a.1 a.2 (k+1) Q (a.2.Tiles.length - (k+1))
    rw[show k+1+(a.2.Tiles.length - (k+1))=a.2.Tiles.length by omega] at this;simp only[BD,this]
   .rw[Af (λh=>Z h.2),Af c4] at Q;exact⟨⟨(k+1,o),by simp only;omega,Q⟩,by simp only;omega,by rw[AD (by omega) (by omega)];simp only;omega,rfl⟩
   .rw[Af (λh=>c2 h.1),Ai Z] at Q;exact⟨⟨(k+1,_),by simp only;omega,Q⟩,by simp only;omega,by rw[AD (by omega) (by omega)];simp only;omega,jN o _ lb⟩
 .have ai:k=a.2.Tiles.length:=by omega
  refine⟨?_,?_⟩
  .simp only[oD];split<;>rfl
  .rw[ai] at O;simp only[BD,O]
def Hd:List Aj->List Aj->Bool
 |x::l,y::m=>if x.At≠y.At then Bl x.At y.At else if x.Tile≠y.Tile then decide (x.Tile<y.Tile) else Hd l m
 |_,_=>false
def BJ(a b:Ad):Bool:=if a.Tiles.length≠b.Tiles.length then decide (a.Tiles.length<b.Tiles.length) else Hd a.Tiles b.Tiles
def L3: ∀l,Hd l l=false
 |[]=>rfl
 |x::l=>by
  simp only[Hd,ne_eq,not_true,Cr];exact L3 l
def sE: ∀{a b c:List Aj},Hd a b=true->Hd b c=true->Hd a c=true
 |[],_,_,h,_=>by simp[Hd] at h
 |_::_,[],_,h,_=>by simp[Hd] at h
 |_::_,_::_,[],_,h=>by simp[Hd] at h
 |x::a,y::b,z::c,h,g=>by
  simp only[Hd] at h g⊢;by_cases Q:x.At=y.At
  .rw[Af (λn=>n Q)] at h;by_cases O:y.At=z.At
   .rw[Af (λn=>n O)] at g;rw[Af (λn=>n (Q.trans O))];by_cases t1:x.Tile=y.Tile
    .rw[Af (λn=>n t1)] at h;by_cases Z:y.Tile=z.Tile
     .rw[Af (λn=>n Z)] at g;rw[Af (λn=>n (t1.trans Z))];exact sE h g
     .rw[Ai Z,Bq] at g;rw[Ai (by omega),Bq];omega
    .rw[Ai t1,Bq] at h;by_cases Z:y.Tile=z.Tile
     .rw[Ai (by omega),Bq];omega
     .rw[Ai Z,Bq] at g;rw[Ai (by omega),Bq];omega
   .rw[Ai O] at g;rw[Ai (λn=>O (Q.symm.trans n)),Q];exact g
  .rw[Ai Q] at h;by_cases O:y.At=z.At
   .rw[Ai (λn=>Q (n.trans O.symm)),<-O];exact h
   .rw[Ai O] at g;have h3:=eO h g;rw[Ai (λn=>by rw[n,mE] at h3;cases h3)];exact h3
def L4: ∀{a b:List Aj},a.length=b.length->Hd a b=false->Hd b a=false->a=b
 |[],[],_,_,_=>rfl
 |[],_::_,h,_,_=>by simp at h
 |_::_,[],h,_,_=>by simp at h
 |x::a,y::b,Q,h,g=>by
  simp only[Hd] at h g;by_cases z:x.At=y.At
  .rw[Af (λn=>n z)] at h;rw[Af (λn=>n z.symm)] at g;by_cases O:x.Tile=y.Tile
   .rw[Af (λn=>n O)] at h;rw[Af (λn=>n O.symm)] at g;have ih:=L4 (by simpa using Q) h g;cases x;cases y;simp only at z O;rw[z,O,ih]
   .rw[Ai O,Iu] at h;rw[Ai (λn=>O n.symm),Iu] at g;omega
  .rw[Ai z] at h;rw[Ai (λn=>z n.symm)] at g
   have:=Qq4 h z
   rw[this] at g;cases g
def Rz(a:Ad):BJ a a=false:=by
 simp only[BJ,ne_eq,not_true,Cr];exact L3 _
def eC{a b c:Ad}(h:BJ a b=true)(g:BJ b c=true):BJ a c=true:=by
 simp only[BJ] at h g⊢;by_cases O:a.Tiles.length=b.Tiles.length
 .rw[Af (λn=>n O)] at h;by_cases z:b.Tiles.length=c.Tiles.length
  .rw[Af (λn=>n z)] at g;rw[Af (λn=>n (O.trans z))];exact sE h g
  .rw[Ai z,Bq] at g;rw[Ai (by omega),Bq];omega
 .rw[Ai O,Bq] at h;by_cases z:b.Tiles.length=c.Tiles.length
  .rw[Ai (by omega),Bq];omega
  .rw[Ai z,Bq] at g;rw[Ai (by omega),Bq];omega
def R0{a b:Ad}(h:BJ a b=false)(g:BJ b a=false):a=b:=by
 simp only[BJ] at h g;by_cases z:a.Tiles.length=b.Tiles.length
 .rw[Af (λn=>n z)] at h;rw[Af (λn=>n z.symm)] at g
  have:=L4 z h g
  cases a;cases b;simp only at this;rw[this]
 .rw[Ai z,Iu] at h;rw[Ai (λn=>z n.symm),Iu] at g;omega
def R1{l m:List Aj}{k:Nat}{x y:Aj}(z:l[k]? =some x)(O:m[k]? =some y):Hd (l.drop k) (m.drop k)=if x.At≠y.At then Bl x.At y.At else if x.Tile≠y.Tile then decide (x.Tile<y.Tile) else Hd (l.drop (k+1)) (m.drop (k+1)):=by
 rw[F5 z,F5 O,Hd]
def befB_.fv(a:Ad×Ad):Bool:=(BJ) (a.1) (a.2)
def befB_.row:A7:=vK (b2 (qP 1 Ad.d_le) (qP 1 Ad.d_le)) rB (λa=>True) befB_.fv
def befB_.ok:AC 92 befB_.row:=by
 refine vw (tC l_LessPoint.ok tN) Tryz.func92 ?_;intro a aa;simp only[Tryz.f92];simp only[ZA,simprocAttr,befB_.fv];simp only[AO];refine⟨λhl=> ?_,λhl=> ?_⟩
 .simp only[BJ];rw[Ai (by omega)]
 have Q:a.1.Tiles.length=a.2.Tiles.length:=by omega
 have hA:BJ a.1 a.2=Hd a.1.Tiles a.2.Tiles:=by
  simp only[BJ];rw[Af (λh=>h Q)]
 rw[hA];refine AT.old ⟨{k:Nat//k<=a.1.Tiles.length/\Hd a.1.Tiles a.2.Tiles=Hd (a.1.Tiles.drop k) (a.2.Tiles.drop k)},λk=>⟨[(5,.im (.int .i64 k.1)),(4,.im (.bool false)),(0,.ptr 0 0),(1,.ptr 1 0)],[(0,(false,.view [.sl false 3 (a.1.Tiles.map Aj.c)])),(1,(false,.view [.sl false 3 (a.2.Tiles.map Aj.c)]))],2⟩,λk=>a.1.Tiles.length - k.1,λk=>⟨by simp[ZG],AL _⟩,⟨⟨0,by simp⟩,by simp only[ZA,simprocAttr,sub]⟩,λk=> ?_⟩;obtain⟨k,ab,z⟩:=k;simp only[ZA,simprocAttr,l_LessPoint.q,l_LessPoint.fv,sub,AO];intro h1;refine⟨λhk=>⟨hk,λx hx=>⟨by omega,λy hy=> ?_⟩⟩,λhk=> ?_⟩
 .rw[R1 hx hy] at z;rw[z];simp only[ZA];have O:x.At=y.At↔ ¬(x.At.X==y.At.X && x.At.Y==y.At.Y)=false:=by
   rw[Im,AN,Qs,Qs];constructor
   .intro e;rw[e];exact⟨rfl,rfl⟩
   .rintro⟨Z,e2⟩;cases hp:x.At;cases hq:y.At;simp only[hp,hq] at Z e2;rw[Z,e2]
  refine⟨λc=> ?_,λc=>⟨λt=> ?_,λt=> ?_⟩⟩
  .rw[Ai (λe=>O.1 e c)]
  .rw[Af (λe=>e (O.2 c)),Ai t]
  .exact⟨⟨k+1,by omega,by rw[Af (λe=>e (O.2 c)),Af t]⟩,by simp only;omega,by rw[AD (by omega) (by omega)];simp only;omega⟩
 .rw[CS (by omega)] at z;rw[z];simp[Hd]
def oE:PK->Prop
 | .ptr _=>True
 | .val d=>F4 d= .val d
def jT(d:D):oE (F4 d):=by cases d<;>simp[F4,oE]
def jS{h:Nat->Option Ao}{x:AV}{p:PK}(hp:Dc h x=some p):oE p:=by
 cases x with
 |im d=>
  simp only[Dc,AI] at hp;subst hp;exact jT d
 |ptr o off=>
  simp only[Dc,Jr,CT] at hp;obtain⟨_,_,rfl⟩:=hp;trivial
 |eptr o i off=>
  simp only[Dc,Jr,CT] at hp;obtain⟨_,_,rfl⟩:=hp;trivial
 |own o=>
  simp only[Dc,DY,bk,CT] at hp;obtain⟨d,hd,rfl⟩:=hp;unfold Kv at hd;split at hd
  .obtain rfl:=Ay hd;rfl
  .simp only[CT] at hd;obtain⟨_,_,rfl⟩:=hd;rfl
  .cases hd
 |mp o=>
  simp only[Dc,DY,bk,CT] at hp;obtain⟨d,hd,rfl⟩:=hp;unfold L8 at hd;split at hd
  .obtain rfl:=Ay hd;rfl
  .cases hd
 |agg cs=>
  simp only[Dc,DY,bk,CT] at hp;obtain⟨d,⟨_,_,rfl⟩,rfl⟩:=hp;rfl
 |tup cs=>
  simp only[Dc,DY,bk,CT] at hp;obtain⟨d,⟨_,_,rfl⟩,rfl⟩:=hp;rfl
 |clo f a c=>
  simp only[Dc,DY,bk,CT] at hp;obtain⟨d,hd,rfl⟩:=hp;unfold Ot at hd;split at hd
  .obtain rfl:=Ay hd;rfl
  .cases hd
  .cases hd
 |_=>cases hp
def M2{h:Nat->Option Ao}: ∀(xs:List AV) (ps:List PK),Cf h xs=some ps-> ∀p∈ps,oE p
 |[],ps,hp=>by
  simp only[Cf,AI] at hp;subst hp;intro p z;cases z
 |x::xs,ps,hp=>by
  simp only[Cf] at hp;cases hx:Dc h x with
  |none=>rw[hx] at hp;cases hp
  |some p=>
   cases hr:Cf h xs with
   |none=>rw[hx,hr] at hp;cases hp
   |some qs=>
    rw[hx,hr] at hp;simp only[Hz,AI] at hp;subst hp;intro q hq;rcases Bh.1 hq with rfl|hq
    .exact jS hx
    .exact M2 xs qs hr q hq
def eD: ∀(ps:List PK) (j:Nat) (H:Nat->Option Ao),(∀p∈ps,oE p)->(∀n e,hget (CQ j ps) n=some e->H n=some e)->Hv H (CR j ps)=some (ps,[])
 |[],_,_,_,_=>rfl
 | .val d::r,j,H,hn,hH=>by
   have z:=hn _ (BM ..);simp only[oE] at z;simp only[CR,Hv,I8,z,eD r j H (λp hp=>hn p (BP _ hp)) (by simpa only[CQ] using hH),WT,D2]
 | .ptr cs::r,j,H,hn,hH=>by
   have z:=hH j (false,.view cs) (by simp only[CQ,hget,aP,BX]);have Q:=eD r (j+1) H (λp hp=>hn p (BP _ hp)) (λn e O=>hH n e (by
    have Z:=(FW (j+1) r n e O).1;have hq:(j==n)=false:=by rw[HJ];omega
    simp only[CQ,hget,hq,Bm];exact O))
   simp only[CR,Hv,I8,z,Qy,F8,Q,WT,D2]
def Nw{P:Program}{g:FuncId}{A B:Type}{k:AK A}{r:RK B}{pre:A->Prop}{f:A->B}(hr: ∀b,(r.e b).scs=true)(h:H8 P g (vK k r pre f)):H8 P g (Dy k r pre f):=by
 intro args hh nx K z;unfold Dy NT at z;cases hp:Cf hh args with
 |none=>rw[hp] at z;exact z.elim
 |some Q=>
  rw[hp] at z;simp only[Vy] at z;cases ha:k.r Q with
  |none=>rw[ha] at z;exact z.elim
  |some a=>
   rw[ha] at z;simp only[DV] at z;obtain⟨ai,hK⟩:=z;have au:=eD Q 0 (hget (CQ 0 Q)) (M2 args Q hp) (λ_ _ h=>h);obtain⟨hcl,r',E,hT,aw,hE⟩:=h (CR 0 Q) (hget (CQ 0 Q)) (BK Q) (λx E=>x= .im (r.e (f a))/\E={use:=AA (CR 0 Q)}) (by
    unfold vK DO;rw[au];simp only[Vt,ha,DV,O8];exact⟨ai,by trivial,by trivial⟩)
   subst aw hE;refine⟨hcl,_,_,?_,hK⟩;intro C S vs RR hW aj ak am ab ag;have av:=Qtx hW args Q vs.toList (λm hm=>aj m (GZ _ hm)) hp ab;have af:=mX hW;obtain⟨ls,ah,hcl⟩:=mN Q vs.toList 0 av
   let S0:Au:=⟨ls,S.froz.ok,hget (CQ 0 Q),S.w⟩
   let C0:AU:=⟨S.w,λ_=>False,S.froz.ok,0,λ_=>none,λ_=>none,[]⟩
   have ao:Wf C0 S0:=by
    refine⟨rfl,rfl,rfl,AL _,λ_ _ _=>rfl,λ_ Z=>Z,λ_ Z=> .inl Z,af.oks,?_,?_,?_,af.glN λ_ h=>h.elim⟩
    .intro n e he;obtain⟨l,h1,_,h3⟩:=ah n e he;have h4:S0.ρ n=some l:=h1;rw[h4];obtain⟨_,cs,rfl⟩:=FW 0 Q n e he;simp only[An] at h3⊢;exact h3
    .intro n e l he hl;obtain⟨l',h1,h2,h3⟩:=ah n e he;have h4:S0.ρ n=some l':=h1;rw[h4] at hl;obtain rfl:=Ay hl;obtain⟨_,cs,rfl⟩:=FW 0 Q n e he;exact⟨h2,.inr rfl⟩
    .intro n n' e e' l l' he ac hl az ay aq;obtain⟨_,cs,rfl⟩:=FW 0 Q n e he;obtain⟨_,ax,rfl⟩:=FW 0 Q n' e' ac;simp at aq
   refine hT C0 S0 vs RR ao (λ_ _=>rfl) (λn hn=>absurd hn (by unfold Fr;simp)) (λn e _ m _=>by unfold Fr;simp) (hcl S0 rfl rfl (λn _=>⟨rfl,rfl⟩)) ?_;intro v S1 aa _ _ hv;have O: ∀b,b<S.w.heap.size->S1.w.heap[b]? =S.w.heap[b]? :=λb Z=>aa.keep b Z (λh=>h)
   have ad:S.w.heap.size<=S1.w.heap.size:=aa.size
   let S':Au:={S with w:=S1.w}
   have hp':Bv (λ_=>True) S S':=⟨λb Z=>⟨Z,O b (hW.oks b Z)⟩,λo _ e' ac=>⟨e',ac,rfl,rfl,rfl⟩⟩;have an:Wf C S':=by
    refine⟨?_,?_,?_,DH hW.size ad,?_,hW.ok0,hW.ok1,?_,?_,?_,hW.inj,hW.gl⟩
    .exact aa.os.trans hW.os
    .exact aa.tape.trans hW.tape
    .exact aa.output.trans hW.output
    .intro b Z hM;exact (O b (EJ Z hW.size)).trans (hW.keep b Z hM)
    .intro b Z;exact EJ (hW.oks b Z) ad
    .intro o e he;exact Ho hp' (λlc hl=>O lc.b (hW.loc o e lc he hl).1) _ (λ_ _=>trivial) (hW.obj o e he)
    .intro o e l he hl;obtain⟨h2,h3⟩:=hW.loc o e l he hl;exact⟨EJ h2 ad,h3⟩
   refine ag v S' an ?_ ⟨hp'.ok,λo _=>hp'.nm o trivial⟩ ?_
   .show S.h=_;funext m;simp[Bk.appf,hget]
   .simp only[Aa] at hv⊢;exact W5 (hr _) hv
def GH(l:List Ad):Prop:=l.Pairwise λa b=>BJ a b=true
def OH(l:List Ad)(a:Ad):Nat:=(l.filter λx=>BJ x a).length
def DG(l:List Ad)(a:Ad):List Ad×Bool:=if a∈l then (l,false) else (l.take (OH l a)++a::l.drop (OH l a),true)
def eF{l:List Ad}(h:GH l){i j:Nat}{x y:Ad}(Z:l[i]? =some x)(hj:l[j]? =some y)(z:i<j):BJ x y=true:=by
 obtain⟨O,rfl⟩:=BW.1 Z;obtain⟨Q,rfl⟩:=BW.1 hj;exact Zdm.1 h i j O Q z
def SZ{l:List Ad}{a:Ad}{k:Nat}(hk:k<=l.length)(h1: ∀i x,i<k->l[i]? =some x->BJ x a=true)(h2: ∀i x,k<=i->l[i]? =some x->BJ x a=false):OH l a=k:=by
 have e:l=l.take k++l.drop k:=(Iv k l).symm;have Z:(l.take k).filter (λx=>BJ x a)=l.take k:=wT.2 λx Q=>by
  obtain⟨i,z⟩:=JK.1 Q;have O:i<k:=by
   have:=(BW.1 z).1
   simp at this;omega
  rw[ZeR O] at z;exact h1 i x O z
 have f2:(l.drop k).filter (λx=>BJ x a)=[]:=ZeZ.2 λx Q=>by
  obtain⟨i,z⟩:=JK.1 Q;rw[EQ] at z;rw[h2 (k+i) x (by omega) z];decide
 have:OH l a=((l.take k++l.drop k).filter λx=>BJ x a).length:=by rw[<-e];rfl
 rw[this,ZeD,Z,f2,D2,BB];omega
def Yn{l:List Ad}(h:GH l){a:Ad}{k:Nat}(h1: ∀i x,i<k->l[i]? =some x->BJ x a=true)(h2: ∀i x,k<=i->l[i]? =some x->BJ x a=false):a∈l↔l[k]? =some a:=by
 refine⟨λhm=> ?_,AZ⟩;obtain⟨j,O⟩:=JK.1 hm;rcases nP j k with z|rfl|z
 .have:=h1 j a z O
  rw[Rz] at this;cases this
 .exact O
 .have Q:k<l.length:=by have:=(BW.1 O).1;omega
  have Z:l[k]? =some l[k]:=Bi Q
  have:=eF h Z O z
  rw[h2 k _ (AL _) Z] at this;cases this
def Qauj{l:List Ad}(h:GH l)(a:Ad):GH (DG l a).1:=by
 simp only[DG];split
 .exact h
 .rename_i hn;have e: ∀k,(∀x∈l.take k,BJ x a=true)->(∀x∈l.drop k,BJ a x=true)->GH (l.take k++a::l.drop k):=by
   intro k g1 g2;have Z:(l.take k++l.drop k).Pairwise λa b=>BJ a b=true:=by rw[Iv];exact h
   rw[Zfp] at Z;simp only[GH];rw[Zfp,Qq];refine⟨Z.1,⟨g2,Z.2.1⟩,λx z y hy=> ?_⟩;rcases Bh.1 hy with rfl|hy
   .exact g1 x z
   .exact Z.2.2 x z y hy
  have aa: ∃k,k<=l.length/\(∀i x,i<k->l[i]? =some x->BJ x a=true)/\(∀i x,k<=i->l[i]? =some x->BJ x a=false):=by
   clear e hn;induction l with
   |nil=>exact⟨0,AL _,λi x O=>by omega,λi x _ z=>by simp at z⟩
   |cons y r ih=>
    rw[GH,Qq] at h;by_cases c:BJ y a=true
    .obtain⟨k,k1,k2,k3⟩:=ih h.2;refine⟨k+1,by simp only[Cv];omega,λi x O z=> ?_,λi x O z=> ?_⟩
     .cases i with
      |zero=>simp at z;rw[<-z];exact c
      |succ i=>exact k2 i x (by omega) (by simpa using z)
     .cases i with
      |zero=>omega
      |succ i=>exact k3 i x (by omega) (by simpa using z)
    .refine⟨0,CC _,λi x O=>by omega,λi x _ z=> ?_⟩;rw[Gi] at c;cases i with
     |zero=>simp at z;rw[<-z];exact c
     |succ i=>
      have hm:x∈r:=AZ (by simpa using z);cases hb:BJ x a with
      |false=>rfl
      |true=>
       have:=eC (h.1 x hm) hb
       rw[c] at this;cases this
  obtain⟨k,k1,k2,k3⟩:=aa;rw[SZ k1 k2 k3];refine e k (λx z=> ?_) (λx z=> ?_)
  .obtain⟨i,O⟩:=JK.1 z;have Q:i<k:=by
    have:=(BW.1 O).1
    simp at this;omega
   rw[ZeR Q] at O;exact k2 i x Q O
  .obtain⟨i,O⟩:=JK.1 z;rw[EQ] at O;have g:=k3 (k+i) x (by omega) O;cases hb:BJ a x with
   |true=>rfl
   |false=>exact absurd (by rw[<-R0 g hb];exact AZ O) hn
def Pe(l:List Ad)(a x:Ad):x∈(DG l a).1↔x∈l\/x=a:=by
 simp only[DG];split
 .rename_i h;refine⟨.inl,λg=>g.elim id λe=>e▸h⟩
 .rw[Bn,Bh];have e:x∈l↔x∈l.take (OH l a)\/x∈l.drop (OH l a):=by
   rw[<-Bn,Iv]
  rw[e];constructor
  .rintro (h|rfl|h)
   .exact .inl (.inl h)
   .exact .inr rfl
   .exact .inl (.inr h)
  .rintro ((h|h)|rfl)
   .exact .inl h
   .exact .inr (.inr h)
   .exact .inr (.inl rfl)
def Pd(l:List Ad)(a:Ad):(DG l a).1.length<=l.length+1:=by
 simp only[DG];split
 .simp
 .simp only[C9,BB,Cv,Ce];omega
def befF_.fv(a:Ad×Ad):Bool:=(BJ) (a.1) (a.2)
def befF_.row:A7:=Dy (b2 (qP 1 Ad.d_le) (qP 1 Ad.d_le)) rB (λa=>True) befF_.fv
def befF_.q:=CP (R:=befF_.row) rfl
def befF_.ok:AC 92 befF_.row:=Nw (λ_=>rfl) befB_.ok
def smF_.fv(a:Ad×Ad):Bool:=(λa b=>decide (a=b)) (a.1) (a.2)
def smF_.row:A7:=Dy (b2 (qP 1 Ad.d_le) (qP 1 Ad.d_le)) rB (λa=>True) smF_.fv
def smF_.q:=CP (R:=smF_.row) rfl
def smF_.ok:AC 52 smF_.row:=Nw (λ_=>rfl) l03Same.ok
def MR(p:Ad)(l:List Ad)(i:Nat):List Ad:=(l++[p]).take (i+1)++l.drop i
def dX{p:Ad}{l:List Ad}{i:Nat}(h:i<=l.length):(MR p l i).length=l.length+1:=by simp[MR];omega
def YL(p:Ad)(l:List Ad):MR p l l.length=l++[p]:=by simp[MR,DE]
def U7{p x:Ad}{l:List Ad}{i:Nat}(h:i+1<=l.length)(hx:(MR p l (i+1))[i]? =some x):(MR p l (i+1)).set (i+1) x=MR p l i:=by
 have z:l[i]? =some x:=by
  rw[<-hx,MR,Dj (by simp;omega),Lv,Ai (by omega),Dj (by omega)]
 apply Io;intro j;have Z:((l++[p]).take (i+1+1)).length=i+2:=by simp;omega
 have O:((l++[p]).take (i+1)).length=i+1:=by simp;omega
 by_cases c:j=i+1
 .subst c;rw[CY (by rw[dX h];omega),MR,E3 (by omega),O,Gh,EQ,Lx,z]
 .rw[Dw (E5 c)];simp only[MR];by_cases Q:j<i+1
  .rw[Dj (by omega),Dj (by omega),Lv,Lv,Ai (by omega),Ai Q]
  .rw[E3 (by omega),E3 (by omega),Z,O,EQ,EQ];congr 1;omega
def YM{p:Ad}{l:List Ad}{k:Nat}(h:k<=l.length):(MR p l k).set k p=l.take k++p::l.drop k:=by
 apply Io;intro j;have Q:((l++[p]).take (k+1)).length=k+1:=by simp;omega
 have z:(l.take k).length=k:=by simp;omega
 by_cases c:j=k
 .subst c;rw[CY (by rw[dX h];omega),E3 (by omega),z,Gh];simp
 .rw[Dw (E5 c)];simp only[MR];by_cases O:j<k
  .rw[Dj (by omega),Dj (by omega),Lv,Lv,Ai (by omega),Ai O,Dj (by omega)]
  .obtain⟨m,rfl⟩: ∃m,j=k+1+m:=⟨j - (k+1),by omega⟩;rw[E3 (by omega),E3 (by omega),Q,z,EQ,show k+1+m - k=m+1 by omega,Ir,EQ];congr 1;omega
def yH(j:Nat):Bool:=j==0
def pu_.ca(a:List Ad×Ad):List AV:=[.own 0,.im (.agg (Ad.c a.2))]
def pu_.H0(a:List Ad×Ad):Ap:=[(0,(true,.arr 49 1 (a.1.map Ad.c)))]
def pu_.H1(a:List Ad×Ad):Ap:=[(1,(true,.arr 49 1 ((DG a.1 a.2).1.map Ad.c)))]
def pu_.r0(a:List Ad×Ad):AV:= .tup [.own 1,.im (.bool (DG a.1 a.2).2)]
def pu_.row:A7:=AB pu_.ca pu_.H0 1 (λa=>GH a.1/\a.1.length<=1000000) yH pu_.r0 pu_.H1 20
def pu_.ok:AC 54 pu_.row:=by
 refine VO (tC befF_.ok (tC smF_.ok tN)) Tryz.func54 (exB:=λj=>j==1) (R:=λa r=>r=pu_.r0 a) (λ_=>rfl)
  (λa=>by simp[pu_.ca,pu_.H0,AF,AV.bel,Aw,B9,BS,Ab.nms,Ak,hget]) (λa p hp=> ?_) (λa r h=>by subst h;exact CU.refl _) ?_
 rotate_left
 intro a af;simp only[Tryz.f54,pu_.ca,pu_.H0,pu_.H1];simp only[ZA,simprocAttr];rotate_left
 .simp[pu_.H1] at hp;subst hp;exact .inr ⟨by omega,by omega,rfl,rfl⟩
 .obtain⟨l,x⟩:=a;obtain⟨hs,hl⟩:=af;simp only at hs hl⊢;intro _;refine AT.old ⟨{q:Nat×Nat//q.1<=q.2/\q.2<=l.length/\(∀i y,i<q.1->l[i]? =some y->BJ y x=true)/\ ∀i y,q.2<=i->l[i]? =some y->BJ y x=false},λq=>⟨[(7,.im (.int .i64 q.1.2)),(6,.im (.int .i64 q.1.1)),(3,.ptr 1 0),(0,.own 0)],[(1,(true,.cells 49 [.im (.sl false 3 (x.Tiles.map Aj.c))])),(0,(true,.arr 49 1 (l.map Ad.c)))],3⟩,λq=>q.1.2 - q.1.1,λq=>⟨by simp[ZG],by simp⟩,⟨⟨(0,l.length),CC _,AL _,λi y O=>by omega,λi y O hy=>by have:=(BW.1 hy).1;simp only at O;omega⟩,by simp only[ZA,simprocAttr,sub]⟩,λq=> ?_⟩;obtain⟨⟨lo,O⟩,q1,q2,q3,q4⟩:=q;simp only at q1 q2 q3 q4;have ac:(IntKind.i64.wrap ((lo:Int)+O)).tdiv 2=(((lo+O)/2:Nat):Int):=by
   rw[AD (by omega) (by omega),wB (by omega)];omega
  have aa:IntKind.i64.wrap ((IntKind.i64.wrap ((lo:Int)+O)).tdiv 2)=(((lo+O)/2:Nat):Int):=by
   rw[ac,AD (by omega) (by omega)]
  simp only[ZA,simprocAttr,C3,befF_.q,befF_.fv,smF_.q,smF_.fv,Ec,AO,aa];refine⟨λc=> ?_,λc=> ?_⟩
  .have ad:(lo+O)/2<l.length:=by omega
   obtain⟨y,hy⟩: ∃y,l[(lo+O)/2]? =some y:=⟨_,Bi ad⟩;refine⟨ad,?_⟩;simp only[ZA,simprocAttr,Ad.d,sub,AO,CM,hy];refine⟨λh=>⟨⟨((lo+O)/2+1,O),by simp only;omega,q2,λi z Q hz=> ?_,q4⟩,by simp only;omega,rfl,by rw[AD (by omega) (by omega)];rfl⟩,λh=>⟨⟨(lo,(lo+O)/2),by simp only;omega,by simp only;omega,q3,λi z Q hz=> ?_⟩,by simp only;omega,rfl,rfl⟩⟩
   .simp only at Q;by_cases e:i=(lo+O)/2
    .subst e;obtain rfl:=Ay (hy.symm.trans hz);exact h
    .exact eC (eF hs hz hy (by omega)) h
   .simp only at Q;rw[Gi] at h;by_cases e:i=(lo+O)/2
    .subst e;obtain rfl:=Ay (hy.symm.trans hz);exact h
    .cases hb:BJ z x with
     |false=>rfl
     |true=>
      have:=eC (eF hs hy hz (by omega)) hb
      rw[h] at this;cases this
  .intro _;obtain rfl:lo=O:=by omega
   have ab:=SZ q2 q3 q4;have Z:=Yn hs q3 q4;have aj:l.map Ad.c++[[D.sl false 3 (x.Tiles.map Aj.c)]]=(l++[x]).map Ad.c:=by rw[ES];rfl
   have ag: ∀hn:x∉l,(DG l x).1=l.take lo++x::l.drop lo/\(DG l x).2=true:=λhn=>by
    simp only[DG];rw[Af hn,ab];exact⟨rfl,rfl⟩
   refine⟨λc=>⟨c,?g1⟩,λc=> ?g2⟩
   case' g1=>
    obtain⟨y,hy⟩: ∃y,l[lo]? =some y:=⟨_,Bi c⟩;simp only[ZA,simprocAttr,Ad.d,FK,Ec,AO,CM,hy];refine⟨λe=> ?g3,λe=> ?g4⟩
    case' g4=>
     have ai:x∉l:=λh=>e (Ay (hy.symm.trans (Z.1 h)))
    case g3=>
     have ak:x∈l:=Z.2 (by rw[hy,e]);have hp:DG l x=(l,false):=by simp only[DG];rw[Ai ak]
     refine⟨[],[(1,some 0)],⟨[(5,.im (.bool false)),(4,.own 1)],pu_.H1 (l,x),2⟩,?_,by simp[pu_.H1,ZG],by simp,?_⟩
     .simp only[Aq,pu_.H1,hp];simp only[ZA,simprocAttr]
     .simp only[ZA,simprocAttr,pu_.H1,yH,pu_.H1,pu_.r0,hp]
   case' g2=>
    have ai:x∉l:=λh=>by rw[Z,E9 (by omega)] at h;cases h
   all_goals
    obtain⟨ao,aq⟩:=ag ai;rw[aj];refine⟨by omega,λ_=> ?_⟩;refine AT.old ⟨{i:Nat//lo<=i/\i<=l.length},λi=>⟨[(9,.im (.int .i64 i.1)),(6,.im (.int .i64 lo)),(0,.own 4),(3,.ptr 1 0)],[(4,(true,.arr 49 1 ((MR x l i.1).map Ad.c))),(1,(true,.cells 49 [.im (.sl false 3 (x.Tiles.map Aj.c))]))],5⟩,λi=>i.1,λi=>⟨by simp[ZG],by simp⟩,⟨⟨l.length,q2,AL _⟩,?_⟩,λi=> ?_⟩
    .simp only[ZA,simprocAttr,sub,YL];rw[C9,nC,AD (by omega) (by omega)];omega
    obtain⟨i,aw,Q⟩:=i;have av:=dX (p:=x) Q;simp only[ZA,simprocAttr,FK,sub,AO,av];refine⟨λan=> ?_,λan=>⟨by omega,by omega,λz hz=> ?_⟩⟩
    .have am:IntKind.i64.wrap ((i:Int) - 1)=((i - 1:Nat):Int):=by rw[AD (by omega) (by omega)];omega
     rw[am,B8];refine⟨by omega,by omega,by omega,λz hz=>⟨by omega,by omega,λu hu=>⟨⟨i - 1,by omega,by omega⟩,by simp only;omega,rfl,?_⟩⟩⟩;have ah:=U7 (p:=x) (x:=z) (l:=l) (i:=i - 1) (by omega) (by rwa [show i - 1+1=i by omega]);rw[show i - 1+1=i by omega] at ah;rw[<-ah,JM];rfl
    .obtain rfl:i=lo:=by omega
     have au:((MR x l i).map Ad.c).set i [D.sl false 3 (x.Tiles.map Aj.c)]=(DG l x).1.map Ad.c:=by
      rw[ao,<-YM q2,JM];rfl
     refine⟨[],[(1,some 4)],⟨[(5,.im (.bool true)),(4,.own 1)],pu_.H1 (l,x),2⟩,?_,by simp[pu_.H1,ZG],by simp,?_⟩
     .simp only[Aq,pu_.H1,au];simp only[ZA,simprocAttr]
     .simp only[ZA,simprocAttr,pu_.H1,yH,pu_.H1,pu_.r0,aq]
def Du(b n:Nat):List (List AV):=(List.range n).map λi=>[AV.own (b+i)]
def B4(b n:Nat)(M:List (List Int)):Ap:=AQ b n (λi=>(true,.arr 2 1 ((M[i]?.getD []).map Al)))
def Qt(j:Nat):Bool:=Nat.blt j 3||((Nat.ble 100 j && Nat.blt j 164)||(Nat.ble 200 j && Nat.blt j 264))
def CD(x:Bd)(n:Nat):Ap:=(0,(true,.cells 322 [.own 1,.own 2]))::(1,(true,.arrA 31 1 (Du 100 n)))::(2,(true,.arrA 31 1 (Du 200 n)))::(B4 100 n x.Room++B4 200 n x.Flow)
def nwC.ca(a:Int×List Ag):List AV:=[.im (.int .i64 a.1),.im (.sl false 3 (a.2.map Ag.c))]
def nwC.H1(a:Int×List Ag):Ap:=CD (DM a.1.toNat a.2) (min a.1.toNat 64)
def Mv(a:Int×List Ag):Prop:=0<=a.1/\a.1<=64/\a.2.length<=1000000/\Ll a.1 a.2/\Qj a.2/\ ∀b∈a.2,b.A≠b.B
def nwC.row:A7:=AB nwC.ca (λ_=>[]) 0 Mv (λ_=>false) (λ_=> .ptr 0 0) nwC.H1 320
def tV(m:Nat): ∀(a b:Ap),Aw m (a++b)=(Aw m a && Aw m b)
 |[],b=>by simp[Aw]
 |(i,(z,e))::r,b=>by
  have ih:=tV m r b;cases e<;>simp only[CO,Aw,ih,ZeK]
def Qmd(m:Nat): ∀(a b:Ap),B9 m (a++b)=(B9 m a && B9 m b)
 |[],b=>by simp[B9]
 |(i,(z,e))::r,b=>by simp only[CO,B9,Qmd m r b,ZeK]
def W8(b n N:Nat)(h:b+n<=N):(Du b n).all (AF N)=true:=by
 rw[CA];intro r O;obtain⟨i,z,rfl⟩:=Bo.1 O
 have:=Bt.1 z
 simp[AF,AV.bel];omega
def Qkf(nx:Nat): ∀(l:List Nat),FF nx 0 l=true
 |[]=>rfl
 |x::r=>by
  have:(Nat.blt x nx||Nat.ble (nx+0) x)=true:=by
   rw[Iq,E4,G8];omega
  simp only[FF,this,Qkf nx r,gQ]
def II(b n:Nat):(Du b n).length=n:=by simp[Du]
def Qo7(b n i:Nat)(h:i<n):(Du b n)[i]? =some [.own (b+i)]:=by simp[Du,Iw h]
def Qpf(a b:Ap):Fl (a++b)=Fl a++Fl b:=by
 induction a with
 |nil=>rfl
 |cons x r ih=>obtain⟨i,e⟩:=x;simp only[CO,Fl,ih]
def IP(m:Nat): ∀(a b:Ap),hget (a++b) m=(hget a m).or (hget b m)
 |[],b=>by simp[hget]
 |(i,e)::r,b=>by
  have ih:=IP m r b;simp only[CO,hget];cases i==m<;>simp[ih]
def Qpw(b n:Nat)(M:List (List Int))(i:Nat)(h:i<n):hget (B4 b n M) (b+i)=some (true,.arr 2 1 ((M[i]?.getD []).map Al)):=GL _ _ _ _ h
def Qwa(b n:Nat)(M:List (List Int))(m:Nat)(h:m<b\/b+n<=m):hget (B4 b n M) m=none:=Qmh _ _ _ _ h
def eM(k:Nat)(M N:List (List Int))(i:Nat)(h:i<k):hget (B4 100 k M++B4 200 k N) (100+i)=some (true,.arr 2 1 ((M[i]?.getD []).map Al)):=by
 rw[IP,Qpw _ _ _ _ h];rfl
def eS(k:Nat)(M N:List (List Int))(i:Nat)(z:k<=100)(h:i<k):hget (B4 100 k M++B4 200 k N) (200+i)=some (true,.arr 2 1 ((N[i]?.getD []).map Al)):=by
 rw[IP,Qwa _ _ _ _ (by omega),Qpw _ _ _ _ h];rfl
def Qxa(b n i:Nat)(K:List AV->Prop)(h:i<n):Ih (Du b n) i K=K [.own (b+i)]:=by
 apply propext;unfold Ih;rw[Qo7 b n i h];exact⟨λh=>h _ rfl,λh row z=>by obtain rfl:=Ay z;exact h⟩
def lQ(s:Av): ∀(a b:Ap),Ci s (a++b)=(Ci s a/\Ci s b)
 |[],b=>by simp[Ci]
 |(i,e)::r,b=>by simp only[CO,Ci,lQ s r b,gY]
def uF(s:Av)(b n:Nat)(M:List (List Int)):Ci s (B4 b n M)= ∀i,i<n->hget s.h (b+i)=some (true,.arr 2 1 ((M[i]?.getD []).map Al)):=by
 have: ∀(f:Nat->Ao) (l:List Nat),Ci s (l.map λi=>(b+i,f i))↔ ∀i∈l,hget s.h (b+i)=some (f i):=by
  intro f l;induction l with
  |nil=>simp[Ci]
  |cons i r ih=>simp only[Bf,Ci,ih,Bh,Zek]
 apply propext;rw[B4,AQ,this];simp only[Bt]
def Qrm{n:Nat}{bs:List Ag}(O:Ll n bs)(hs:Qj bs)(a b:Nat): ∀k,0<=Ea (BZ n bs k) a b/\Ea (BZ n bs k) a b<=2000000*(k:Int)
 |0=>by
  simp only[Ea,BZ,KI,GN,Ls];split
  .rw[AP,Ls];split<;>simp
  .simp
 |k+1=>by
  have ih:=Qrm O hs a b k;obtain⟨z,_⟩:=WG O k;simp only[Ea,BZ] at ih⊢;split
  .rename_i x Q;obtain⟨b1,b2,b3,b4⟩:=O x (AZ Q);have h0:=hs x (AZ Q);simp only[Kz];rw[show x.A=(x.A.toNat:Int) by omega,show x.B=(x.B.toNat:Int) by omega];rw[eJ (n:=n) (by rw[Z9];exact z.r) (Z1 z.rr _ _ _ (by rw[z.r];simp;omega)) _ (by omega) (by omega),eJ z.r z.rr _ (by omega) (by omega)]
   split<;>split<;>omega
  .omega
def Tz(k:Nat)(Q:k<=64):([0,1,2]++((List.range k).map (100+ ·)++(List.range k).map (200+ ·))).Nodup:=by
 rw[<-EK];refine eN _ 200 k (eN _ 100 k (by simp) (by simp)) ?_;intro x z;rcases Bn.1 z with z|z
 .simp at z;omega
 .obtain⟨i,O,rfl⟩:=Bo.1 z
  have:=Bt.1 O
  show 100+i<200;omega
def Ty(k:Nat)(Q:k<=64): ∀x∈([0,1,2]++((List.range k).map (100+ ·)++(List.range k).map (200+ ·))),x<300:=by
 intro x z;rcases Bn.1 z with z|z
 .simp at z;omega
 .rcases Bn.1 z with z|z<;>obtain⟨i,O,rfl⟩:=Bo.1 z<;>have:=Bt.1 O
  .show 100+i<300;omega
  .show 200+i<300;omega
def Qyn{π:List (Nat×Option Nat)}{b:Nat}{g:Nat->Nat}{n:Nat}(h: ∀i,i<n->pm π (b+i)=some (g i)){R:List (List AV)}(hR:R=(List.range n).map λi=>[AV.own (g i)]):Gq π (Du b n) R:=by
 subst hR;rw[fK];refine⟨by simp[Du],λi x y O Q=> ?_⟩;have z:i<n:=by have:=(BW.1 O).1;rwa [II] at this
 rw[Qo7 _ _ _ z] at O;rw[CM,Iw z] at Q;obtain rfl:=Ay O;obtain rfl:=Ay Q;simp only[DL,mt,h i z,FG,Hb]
def Ql0(b k c:Nat):Du b k++[[.own c]]=(List.range (k+1)).map λi=>[AV.own (if i<k then b+i else c)]:=by
 rw[nK,ES,Du];congr 1
 .exact JJ λi z=>by rw[Ai (Bt.1 z)]
 .simp
def uY(k:Nat)(M N:List (List Int))(O:k<=64)(tm:List (Nat×AV))(z:CF 300 tm=true):Av.good ⟨tm,(0,(true,.cells 322 [.own 1,.own 2]))::(1,(true,.arrA 31 1 (Du 100 k)))::(2,(true,.arrA 31 1 (Du 200 k)))::(B4 100 k M++B4 200 k N),300⟩=true:=by
 simp only[Av.good,Aw,B9,z,Eg,tV,Qmd,B4];rw[QZ _ _ _ (λi=>rfl),QZ _ _ _ (λi=>rfl),QP _ _ _ _ (by omega),QP _ _ _ _ (by omega),W8 _ _ _ (by omega),W8 _ _ _ (by omega)];rfl
def K8(o:Nat)(h:Qt o=true):o<264:=by
 simp only[Qt,Iq,AN,E4,G8] at h;omega
def aY(i:Nat)(h:i<64):Qt (100+i)=true:=by
 simp only[Qt,Iq,AN,E4,G8];omega
def aZ(i:Nat)(h:i<64):Qt (200+i)=true:=by
 simp only[Qt,Iq,AN,E4,G8];omega
def Quc(h:Nat->Option Ao)(f:AV->Option AV): ∀(a b:Ap),El h f (a++b)↔El h f a/\El h f b
 |[],b=>by simp[El]
 |(i,e)::r,b=>by simp only[CO,El,Quc h f r b,gY]
def Qoq(h:Nat->Option Ao)(f:AV->Option AV)(b n:Nat)(M:List (List Int))(H: ∀i,i<n->h (b+i)=some (true,.arr 2 1 ((M[i]?.getD []).map Al))):El h f (B4 b n M):=by
 have: ∀(l:List Nat),(∀i∈l,i<n)->El h f (l.map λi=>(b+i,(true,Ab.arr 2 1 ((M[i]?.getD []).map Al)))):=by
  intro l;induction l with
  |nil=>intro _;simp[El]
  |cons i r ih=>
   intro z;simp only[Bf,El];refine⟨?_,ih (λj Q=>z j (BP _ Q))⟩;rw[H i (z i (BM ..))];exact⟨rfl,rfl⟩
 exact this _ (λi O=>Bt.1 O)
def Quf{h:Nat->Option Ao}{kx:Nat->Option Nat}{m b n:Nat}(O: ∀i,i<n->kx (b+i)=some (b+i)):Ar (Ar (Ba h kx (m+1))) (Du b n)=some (Du b n):=by
 refine Rd (g:=λi=>[AV.own (b+i)]) (k:=λi=>[AV.own (b+i)]) _ λi z=> ?_
 simp only[Ar,Ba,O i (Bt.1 z),kp]
def TC{x:Bd}{n:Nat}(hn:n<=64){kx:Nat->Option Nat}(O: ∀o,Qt o=true->kx o=some o):El (hget (CD x n)) (Ba (hget (CD x n)) kx 9) (CD x n):=by
 have k1:kx 1=some 1:=O 1 rfl;have k2:kx 2=some 2:=O 2 rfl;obtain⟨H,hH⟩: ∃H,H=hget (CD x n):=⟨_,rfl⟩;have g0:H 0=some (true,.cells 322 [.own 1,.own 2]):=by rw[hH];rfl
 have g1:H 1=some (true,.arrA 31 1 (Du 100 n)):=by rw[hH];rfl
 have g2:H 2=some (true,.arrA 31 1 (Du 200 n)):=by rw[hH];rfl
 have ga: ∀i,i<n->H (100+i)=some (true,.arr 2 1 ((x.Room[i]?.getD []).map Al)):=by
  intro i z;rw[hH];simp only[CD,hget,AW _ _ (show 0≠100+i by omega),AW _ _ (show 1≠100+i by omega),AW _ _ (show 2≠100+i by omega),Bm];exact eM _ _ _ _ z
 have gb: ∀i,i<n->H (200+i)=some (true,.arr 2 1 ((x.Flow[i]?.getD []).map Al)):=by
  intro i z;rw[hH];simp only[CD,hget,AW _ _ (show 0≠200+i by omega),AW _ _ (show 1≠200+i by omega),AW _ _ (show 2≠200+i by omega),Bm];exact eS _ _ _ _ (by omega) z
 rw[<-hH];simp only[CD,El,Quc];refine⟨?_,?_,?_,Qoq _ _ _ _ _ ga,Qoq _ _ _ _ _ gb⟩
 .rw[g0];exact⟨rfl,by simp only[Cm,Ar,Ba,k1,k2,kp];rfl⟩
 .rw[g1];exact⟨rfl,by simp only[Cm];rw[Quf (λi z=>O _ (aY i (by omega)))];rfl⟩
 .rw[g2];exact⟨rfl,by simp only[Cm];rw[Quf (λi z=>O _ (aZ i (by omega)))];rfl⟩
def Mu{x:Bd}{n:Nat}(hn:n<=64){p:Nat×Ao}(hp:p∈CD x n):Qt p.1=true/\p.2.1=true:=by
 simp only[CD,Bh,Bn,B4,AQ,Bo,Bt] at hp;rcases hp with rfl|rfl|rfl|⟨i,z,rfl⟩|⟨i,z,rfl⟩
 .exact⟨rfl,rfl⟩
 .exact⟨rfl,rfl⟩
 .exact⟨rfl,rfl⟩
 .exact⟨aY i (by omega),rfl⟩
 .exact⟨aZ i (by omega),rfl⟩
def jL{a:Int×List Ag}{p:Nat×Ao}(hp:p∈nwC.H1 a):Qt p.1=true/\p.2.1=true:=Mu (gU _ _) hp
def nwC.ok:AC 220 nwC.row:=by
 refine ow tN Tryz.func220 (exB:=Qt) (R:=λ_ r=>r= .ptr 0 0) (λ_=>rfl)
  (λa=>by simp[nwC.ca,AF,AV.bel,Aw,B9,BS]) (λa p hp=> ?_) (λa r h=>by subst h;exact CU.refl _) ?_
 rotate_left
 intro a aq;simp only[Tryz.f220,nwC.ca];simp(disch:=omega)only[ZA,simprocAttr];obtain⟨h0,Q,hl,Z,ah,ao⟩:=aq;obtain⟨n,hn⟩: ∃n:Nat,a.1=n:=⟨a.1.toNat,by omega⟩;obtain⟨bs,hbsd⟩: ∃bs,bs=a.2:=⟨_,rfl⟩;simp only[<-hbsd] at hl Z ah ao;rw[hn] at h0 Q Z;have hH1:nwC.H1 a=CD (DM n bs) n:=by simp only[nwC.H1,hn,B8,hbsd];rw[Zfj (by omega)]
 rw[hH1];clear hH1;simp only[hn,<-hbsd];refine AT.ren ⟨{k:Nat//k<=n},λk=>⟨[(11,.im (.int .i64 k.1)),(10,.im (.int .i64 n)),(5,.ptr 0 0),(0,.im (.int .i64 n)),(1,.im (.sl false 3 (bs.map Ag.c)))],(0,(true,.cells 322 [.own 1,.own 2]))::(1,(true,.arrA 31 1 (Du 100 k.1)))::(2,(true,.arrA 31 1 (Du 200 k.1)))::(B4 100 k.1 (List.replicate n (List.replicate n 0))++B4 200 k.1 (List.replicate n (List.replicate n 0))),300⟩,λk=>n - k.1,λk=>⟨?_,by simp⟩,⟨⟨0,by simp⟩,[(1,none),(2,none)],?_⟩,λk=> ?_⟩
 .exact uY _ _ _ (by omega) _ (by simp[CF,AV.bel])
 .simp only[Aq,B4,AQ,Du,Zff,F9,D2];simp(disch:=omega)only[ZA,simprocAttr,wQ]
 obtain⟨k,av⟩:=k;simp(disch:=omega)only[ZA,simprocAttr,Ec,AO,Br,Qkf,xC,nJ,JL,List.all_nil,W8,II];refine⟨λhk=>⟨by omega,by omega,by omega,by omega,⟨k+1,by omega⟩,[(1,some 302),(2,some 305),(100+k,some 300),(200+k,some 303)],by simp only;omega,?_⟩,λhk=> ?_⟩
 .have hg: ∀i,i<n->(List.replicate n (List.replicate n (0:Int)))[i]?.getD []=List.replicate n 0:=by
   intro i z;rw[Ls,Ai z,AP]
  have af: ∀i,i<k->pm [(1,some 302),(2,some 305),(100+k,some 300),(200+k,some 303)] (100+i)=some (100+i):=by
   intro i z;simp only[pm];rw[Af (by omega),Af (by omega),Af (by omega),Af (by omega)]
  have ag: ∀i,i<k->pm [(1,some 302),(2,some 305),(100+k,some 300),(200+k,some 303)] (200+i)=some (200+i):=by
   intro i z;simp only[pm];rw[Af (by omega),Af (by omega),Af (by omega),Af (by omega)]
  have ac:pm [(1,some 302),(2,some 305),(100+k,some 300),(200+k,some 303)] (100+k)=some 300:=by
   simp only[pm];rw[Af (by omega),Af (by omega),Ai trivial]
  have ad:pm [(1,some 302),(2,some 305),(100+k,some 300),(200+k,some 303)] (200+k)=some 303:=by
   simp only[pm];rw[Af (by omega),Af (by omega),Af (by omega),Ai trivial]
  have q0:pm [(1,some 302),(2,some 305),(100+k,some 300),(200+k,some 303)] 0=some 0:=by
   simp only[pm];rw[Af (by omega),Af (by omega),Af (by omega),Af (by omega)]
  have q1:pm [(1,some 302),(2,some 305),(100+k,some 300),(200+k,some 303)] 1=some 302:=rfl;have q2:pm [(1,some 302),(2,some 305),(100+k,some 300),(200+k,some 303)] 2=some 305:=rfl;obtain⟨π,hπ⟩: ∃π,π=[(1,some 302),(2,some 305),(100+k,some 300),(200+k,some 303)]:=⟨_,rfl⟩;rw[<-hπ] at af ag ac ad q0 q1 q2⊢;refine⟨by rw[hπ];exact⟨by omega,by omega,by omega,by omega,trivial⟩,?_,?_,?_⟩
  .rw[fD,hπ];simp only[Fl,Qpf,B4,ZB];refine fJ _ _ (Tz (k+1) (by omega)) ?_;intro x hx y hy m ai aj;have ba:=Ty (k+1) (by omega) x hx;have bb:=Ty (k+1) (by omega) y hy;simp only[pm] at ai aj
   repeat' split at ai
   all_goals repeat' split at aj
   all_goals simp only[AI] at ai aj
   all_goals omega
  .simp only[Qm,A8];simp(disch:=omega)only[ZA,simprocAttr,q0];rw[AD (by omega) (by omega)];omega
  .simp only[GU,Qns,B4,eW];refine⟨?_,?_,?_,λi z=> ?_,λi z=> ?_⟩
   .simp(disch:=omega)only[ZA,simprocAttr,q0,q1,q2]
   .simp(disch:=omega)only[ZA,simprocAttr,q1];refine Qyn (g:=λi=>if i<k then 100+i else 300) (λi z=> ?_) (Ql0 100 k 300);by_cases h:i<k
    .rw[Ai h,af i h]
    .rw[Af h,show i=k by omega,ac]
   .simp(disch:=omega)only[ZA,simprocAttr,q2];refine Qyn (g:=λi=>if i<k then 200+i else 303) (λi z=> ?_) (Ql0 200 k 303);by_cases h:i<k
    .rw[Ai h,ag i h]
    .rw[Af h,show i=k by omega,ad]
   .by_cases h:i<k
    .rw[af i h,hg i (by omega)];simp only[Et,hget,AW _ _ (show 0≠100+i by omega),AW _ _ (show 305≠100+i by omega),AW _ _ (show 303≠100+i by omega),AW _ _ (show 302≠100+i by omega),AW _ _ (show 300≠100+i by omega),Bm,WA];have h9:=eM k (List.replicate n (List.replicate n 0)) (List.replicate n (List.replicate n 0)) i h;simp only[B4] at h9;simp (disch:=omega) only[gG,gS,AW,Qo,CE,Cr,h9,hg,K4,EL,Hb]
    .rw[show i=k by omega,ac,hg k (by omega)];simp(disch:=omega)only[ZA,simprocAttr,uX]
   .by_cases h:i<k
    .rw[ag i h,hg i (by omega)];simp only[Et,hget,AW _ _ (show 0≠200+i by omega),AW _ _ (show 305≠200+i by omega),AW _ _ (show 303≠200+i by omega),AW _ _ (show 302≠200+i by omega),AW _ _ (show 300≠200+i by omega),Bm,WA];have h9:=eS k (List.replicate n (List.replicate n 0)) (List.replicate n (List.replicate n 0)) i (by omega) h;simp only[B4] at h9;simp (disch:=omega) only[gG,gS,AW,Qo,CE,Cr,h9,hg,K4,EL,Hb]
    .rw[show i=k by omega,ad,hg k (by omega)];simp(disch:=omega)only[ZA,simprocAttr,uX]
 .intro _;have aw:k=n:=by omega
  subst aw;clear hk av;refine AT.old ⟨{j:Nat//j<=bs.length},λj=>⟨[(38,.im (.int .i64 j.1)),(37,.im (.int .i64 bs.length)),(36,.im (.sl false 3 (bs.map Ag.c))),(5,.ptr 0 0)],(0,(true,.cells 322 [.own 1,.own 2]))::(1,(true,.arrA 31 1 (Du 100 k)))::(2,(true,.arrA 31 1 (Du 200 k)))::(B4 100 k (BZ k bs j.1).Room++B4 200 k (BZ k bs j.1).Flow),300⟩,λj=>bs.length - j.1,λj=>⟨?_,by simp⟩,⟨⟨0,by simp⟩,?_⟩,λj=> ?_⟩
  .exact uY _ _ _ (by omega) _ (by simp[CF,AV.bel])
  .simp only[sub,Gx,Ci,A8,hget,lQ];simp(disch:=omega)only[ZA,simprocAttr,uF,BZ,KI];refine⟨λi z=> ?_,λi z=> ?_⟩
   .rw[Af (by omega),Af (by omega),Af (by omega)];exact eM _ _ _ _ z
   .rw[Af (by omega),Af (by omega),Af (by omega)];exact eS _ _ _ _ (by omega) z
  obtain⟨j,hj⟩:=j;obtain⟨ab,_⟩:=WG Z j;obtain⟨x,hx⟩: ∃x,x=BZ k bs j:=⟨_,rfl⟩;simp only[<-hx] at ab⊢;simp(disch:=omega)only[ZA,simprocAttr,Qt,AO,Br,II];refine⟨λan=>⟨an,λb hb=> ?_⟩,λan=> ?_⟩
  .obtain⟨b1,b2,b3,b4⟩:=Z b (AZ hb);have a0:=ao b (AZ hb);have a8:=ah b (AZ hb);obtain⟨u,hu⟩: ∃u:Nat,b.A=u:=⟨b.A.toNat,by omega⟩;obtain⟨v,hv⟩: ∃v:Nat,b.B=v:=⟨b.B.toNat,by omega⟩;have aa:u<k:=by omega
   have O:v<k:=by omega
   have az:u≠v:=by omega
   simp only[hu,hv,B8];refine⟨by omega,by omega,by omega,?_⟩;have hr: ∀i,i<k->(x.Room[i]?.getD []).length=k:=by
    intro i z;rw[Bi (by rw[ab.r];exact z),AP];exact ab.rr _ (Rm _)
   have ax:=hr u aa;have ay:=hr v O;simp(disch:=omega)only[ZA,simprocAttr,sub,WM,Br,II,AW,Lj,eM,ax,ay,Qxa,eI,xC,lQ,uF];have ak:=Qrm Z ah u v j;have am:=Qrm Z ah v u j;rw[<-hx] at ak am;refine⟨by omega,O,by omega,O,λx1 e1=>⟨O,by omega,O,λx2 _=>⟨.inr (by omega),O,O,by omega,aa,by omega,aa,λx3 e3=>⟨aa,by omega,aa,λx4 _=>⟨.inr (by omega),⟨j+1,by omega⟩,by simp only;omega,by rw[AD (by omega) (by omega)];simp only;omega,?_⟩⟩⟩⟩⟩;have r1:Ea x u v=x1:=by simp only[Ea,GN,e1,AP]
   have r3:Ea x v u=x3:=by simp only[Ea,GN,e3,AP]
   rw[r1] at ak;rw[r3] at am;rw[AD (by omega) (by omega),AD (by omega) (by omega)];have hN:BZ k bs (j+1)=Kz x b:=by simp only[BZ,hb,<-hx]
   have hR: ∀i,i<k->(BZ k bs (j+1)).Room[i]?.getD []=if v=i then (x.Room[v]?.getD []).set u (x3+b.Strength) else if u=i then (x.Room[u]?.getD []).set v (x1+b.Strength) else x.Room[i]?.getD []:=by
    intro i z;rw[hN];simp only[Kz,Lo,hu,hv,B8];by_cases Q:v=i
    .subst Q;rw[Ai rfl,CY (by rw[EA,ab.r];exact O),AP,Dw az,e3,AP]
    .rw[Af Q,Dw Q];by_cases h2:u=i
     .subst h2;rw[Ai rfl,CY (by rw[ab.r];exact aa),AP,e1,AP]
     .rw[Af h2,Dw h2]
   have hF:(BZ k bs (j+1)).Flow=x.Flow:=by rw[hN];rfl
   refine⟨λi z=> ?_,λi z=> ?_⟩
   .rw[hR i z];by_cases Q:v=i
    .subst Q;rw[Ai rfl,Ai rfl]
    .rw[Af (by omega),Af Q];by_cases h2:u=i
     .subst h2;rw[Ai rfl,Ai rfl]
     .rw[Af (by omega),Af h2,Af (by omega)];exact eM _ _ _ _ z
   .rw[Af (by omega),hF];exact eS _ _ _ _ (by omega) z
  .have au:j=bs.length:=by omega
   subst au;rw[hx];exact TC (x:=DM k bs) (n:=k) (by omega) (λo ho=>by
    have Q:(Ak [] o||(Qt o && (Nat.ble 0 o && Nat.blt o (0+320))))=true:=by
     have h2:=K8 o ho;simp[ho];omega
    simp only[I5,Q,BX])
 rcases jL hp with ⟨Q,h2⟩
 have a9:=K8 p.1 Q;exact .inr ⟨by omega,by omega,Q,h2⟩
structure Tw(H:Nat->Option Ao)(x:Bd)(n:Nat):Prop where
 g0:H 0=some (true,.cells 322 [.own 1,.own 2])
 g1:H 1=some (true,.arrA 31 1 (Du 100 n))
 g2:H 2=some (true,.arrA 31 1 (Du 200 n))
 ga: ∀i,i<n->H (100+i)=some (true,.arr 2 1 ((x.Room[i]?.getD []).map Al))
 gb: ∀i,i<n->H (200+i)=some (true,.arr 2 1 ((x.Flow[i]?.getD []).map Al))
def Uq{M:List (List Int)}{n:Nat}(h:M.length=n):(List.range n).map (λi=>CX (M[i]?.getD []))=M.map CX:=by
 apply Io;intro i;rw[CM,CM];by_cases z:i<n
 .rw[Iw z,Bi (by omega:i<M.length)];simp only[D3,Bi (show i<M.length by omega),AP]
 .rw[E9 (by simp;omega),E9 (by omega)];rfl
def Mw{H:Nat->Option Ao}{m b o n:Nat}{M:List (List Int)}(Z:M.length=n)(z:H o=some (true,.arrA 31 1 (Du b n)))(O: ∀i,i<n->H (b+i)=some (true,.arr 2 1 ((M[i]?.getD []).map Al))):
 bk H (m+2) (.own o)=some (.sl false 1 (M.map CX)):=by
 simp only[bk,z,Kv];rw[Du,Rd (f:=Ar (bk H (m+1))) (g:=λi=>[AV.own (b+i)]) (k:=λi=>CX (M[i]?.getD [])),Uq Z]
 .rfl
 .intro i Q;simp only[Ar,bk,O i (Bt.1 Q),Kv];rfl
def Yx{H:Nat->Option Ao}{x:Bd}{n:Nat}(h:Tw H x n)(z:Kt x n)(a b:D):Cf H [.ptr 0 0,.im a,.im b]=some [.ptr (Bd.c x),F4 a,F4 b]:=by
 have O:=Mw (m:=6) z.r h.g1 h.ga;have Q:=Mw (m:=6) z.f h.g2 h.gb;simp only[Cf,Dc,h.g0,aB,F8,Ar,O,Q,Jr,D3,Hz];rfl
def Vo{H:Nat->Option Ao}{x:Bd}{n nx:Nat}{K:Ah}(h:Tw H x n)(z:Kt x n)(hn:n<=1000){p q:Int}(O:0<=p)(aa:p<n)(Q:0<=q)(ab:q<n)
 (hK: ∀U,K (.im (.sl true 1 ((Cy x n p q).map Al))) {use:=U}):wayC.row [.ptr 0 0,.im (.int .i64 p),.im (.int .i64 q)] H nx K:=by
 have Z:=z.r;rw[wayC.q,Yx h z];have e:Bd.d ((Bd.c x).take 2)=some x:=Bd.d_c x;simp only[Vy,b3,qP,qI,a3,kP,kI,F4,e,G7,DV];refine⟨⟨Z▸z,by omega,O,by omega,Q,by omega⟩,?_⟩;have e2:wayC.re (wayC.fv (x,p,q))= .sl true 1 ((Cy x n p q).map Al):=by simp only[wayC.re,wayC.fv,Z]
 rw[e2];exact hK _
def sndC.n(a:Bd×Int×Int×Int):Nat:=min a.1.Room.length 64
def Rg(n:Nat)(p q:Int):Nat->Bd->Bd
 |0,x=>x
 |m+1,x=>if Cy x n p q=[] then x else Rg n p q m (Hs x (Cy x n p q) ((Cy x n p q).length - 1))
def sndC.ca(a:Bd×Int×Int×Int):List AV:=[.ptr 0 0,.im (.int .i64 a.2.1),.im (.int .i64 a.2.2.1),.im (.int .i64 a.2.2.2)]
def sndC.H0(a:Bd×Int×Int×Int):Ap:=CD a.1 (sndC.n a)
def sndC.H1(a:Bd×Int×Int×Int):Ap:=B4 200 (sndC.n a) (Rg (sndC.n a) a.2.1 a.2.2.1 a.2.2.2.toNat a.1).Flow
def sndC.r0(a:Bd×Int×Int×Int):AV:= .im (.int .i64 (FM (sndC.n a) a.2.1 a.2.2.1 a.2.2.2.toNat a.1))
structure UF(a:Bd×Int×Int×Int):Prop where
 n:a.1.Room.length<=64
 ok:Kt a.1 a.1.Room.length
 p0:0<=a.2.1
 p1:a.2.1<a.1.Room.length
 q0:0<=a.2.2.1
 q1:a.2.2.1<a.1.Room.length
 pq:a.2.1≠a.2.2.1
 m0:0<=a.2.2.2
 m1:a.2.2.2<=1000000
 fl: ∃v,QV (Ea a.1) (JP a.1) a.1.Room.length a.2.1.toNat a.2.2.1.toNat v
 rm: ∀u v,Ea a.1 u v<=10000000000000
def SN(j:Nat):Bool:=Nat.ble 200 j && Nat.blt j 264
def sndC.row:A7:=AB sndC.ca sndC.H0 300 UF SN sndC.r0 sndC.H1 10
def sndC.hbel(a:Bd×Int×Int×Int):AF 300 (sndC.ca a)=true:=rfl
def sndC.n_le(a:Bd×Int×Int×Int):sndC.n a<=64:=gU _ _
def pE(x:Bd)(n:Nat)(hn:n<=64):Aw 300 (CD x n)=true/\B9 300 (CD x n)=true:=by
 have:=uY n x.Room x.Flow hn [] rfl
 simp only[Av.good,AN] at this;exact this.2
def sndC.hbH(a:Bd×Int×Int×Int):Aw 300 (sndC.H0 a)=true:=(pE _ _ (sndC.n_le a)).1
def sndC.hkH(a:Bd×Int×Int×Int):B9 300 (sndC.H0 a)=true:=(pE _ _ (sndC.n_le a)).2
def V7(x:Bd)(n:Nat)(hn:n<=64):Tw (hget (CD x n)) x n:=by
 refine⟨rfl,rfl,rfl,λi z=> ?_,λi z=> ?_⟩
 .simp only[CD,hget,AW _ _ (show 0≠100+i by omega),AW _ _ (show 1≠100+i by omega),AW _ _ (show 2≠100+i by omega),Bm];exact eM _ _ _ _ z
 .simp only[CD,hget,AW _ _ (show 0≠200+i by omega),AW _ _ (show 1≠200+i by omega),AW _ _ (show 2≠200+i by omega),Bm];exact eS _ _ _ _ (by omega) z
def Qvt(H0:Ap): ∀(a b:Ap),BS H0 (a++b)↔BS H0 a/\BS H0 b
 |[],b=>by simp[BS]
 |(i,(z,e))::r,b=>by simp only[CO,BS,Qvt H0 r b,gY]
def Qud(H0:Ap)(b n:Nat)(M:List (List Int)):BS H0 (B4 b n M):=by
 have: ∀(l:List Nat),BS H0 (l.map λi=>(b+i,(true,Ab.arr 2 1 ((M[i]?.getD []).map Al)))):=by
  intro l;induction l with
  |nil=>simp[BS]
  |cons i r ih=>simp only[Bf,BS];exact⟨λm z=>by simp[Ab.nms] at z,ih⟩
 exact this _
def Qu6(b n:Nat): ∀m∈B5 (Du b n),∃i,i<n/\m=b+i:=by
 have: ∀(l:List Nat),(∀i∈l,i<n)-> ∀m∈B5 (l.map λi=>[AV.own (b+i)]),∃i,i<n/\m=b+i:=by
  intro l;induction l with
  |nil=>intro _ m z;simp[B5] at z
  |cons i r ih=>
   intro O m z;simp only[Bf,B5,AA,AV.nms,D2,Bn,Bz] at z;rcases z with rfl|z
   .exact⟨i,O i (BM ..),rfl⟩
   .exact ih (λj Z=>O j (BP _ Z)) m z
 exact this _ (λi Q=>Bt.1 Q)
def Yw(x:Bd)(n:Nat)(hn:n<=64):BS (CD x n) (CD x n):=by
 have O:=V7 x n hn;have hd: ∀o e,hget (CD x n) o=some e->Ak (CD x n) o=true:=λo e h=>by simp only[Ak,h];rfl
 obtain⟨H,hH⟩: ∃H,H=CD x n:=⟨_,rfl⟩;rw[<-hH] at O hd;rw[show BS (CD x n) (CD x n)=BS H (CD x n) by rw[hH]];simp only[CD,BS,Qvt];refine⟨λm z=> ?_,λm z=> ?_,λm z=> ?_,Qud _ _ _ _,Qud _ _ _ _⟩
 .simp only[Ab.nms,AA,AV.nms,D2,Bn,Bz] at z;rcases z with rfl|rfl
  .exact hd _ _ O.g1
  .exact hd _ _ O.g2
 .obtain⟨i,Q,rfl⟩:=Qu6 100 n m z;exact hd _ _ (O.ga i Q)
 .obtain⟨i,Q,rfl⟩:=Qu6 200 n m z;exact hd _ _ (O.gb i Q)
def Nd{s:Av}{x:Bd}{n:Nat}(h:Tw (hget s.h) x n):Ci s (CD x n):=by
 simp only[CD,Ci,lQ,uF];exact⟨h.g0,h.g1,h.g2,h.ga,h.gb⟩
def MM(h:Nat->Option Ao)(f:Nat->Bool): ∀(a b:Ap),HU h f (a++b)↔HU h f a/\HU h f b
 |[],b=>by simp[HU]
 |(i,e)::r,b=>by simp only[CO,HU,MM h f r b,gY]
def bD(i:Nat)(h:i<64):SN (200+i)=true:=by
 simp only[SN,AN,G8,E4];omega
def Qxi(h:Nat->Option Ao)(f:Nat->Bool)(b:Nat)(g:Nat->Ao)(n:Nat)(H: ∀i,i<n->f (b+i)=true\/h (b+i)=some (g i)):HU h f (AQ b n g):=by
 have: ∀(l:List Nat),(∀i∈l,i<n)->HU h f (l.map λi=>(b+i,g i)):=by
  intro l;induction l with
  |nil=>intro _;trivial
  |cons i r ih=>
   intro O;simp only[Bf,HU];refine⟨?_,ih (λj Z=>O j (BP _ Z))⟩;rcases H i (O i (BM ..)) with z|z
   .rw[z];trivial
   .cases f (b+i)
    .exact z
    .trivial
 exact this _ (λi Q=>Bt.1 Q)
def Um{h:Nat->Option Ao}{n:Nat}(hn:n<=64){M:List (List Int)}(H: ∀i,i<n->h (100+i)=some (true,.arr 2 1 ((M[i]?.getD []).map Al))):HU h SN (B4 100 n M):=Qxi _ _ _ _ _ (λi z=> .inr (H i z))
def Un{h:Nat->Option Ao}{n:Nat}(hn:n<=64){M:List (List Int)}:HU h SN (B4 200 n M):=Qxi _ _ _ _ _ (λi z=> .inl (bD i (by omega)))
def sndC.hnm(a:Bd×Int×Int×Int):BS (sndC.H0 a) (sndC.H0 a):=Yw _ _ (sndC.n_le a)
def sndC.ok:AC 221 sndC.row:=by
 refine ow (tC wayC.ok tN) Tryz.func221 (exB:=λ_=>false) (R:=λa r=>r=sndC.r0 a) (λ_=>rfl)
  (λa=>⟨sndC.hbel a,sndC.hbH a,sndC.hkH a,sndC.hnm a⟩) (λa p hp=> ?_) (λa r h=>by subst h;exact CU.refl _) ?_
 rotate_left
 intro a av;simp only[Tryz.f221,sndC.ca];simp(disch:=omega)only[ZA,simprocAttr];obtain⟨x,p,q,mo⟩:=a;obtain⟨hn,am,ad,aa,af,ag,au,ba,bb,ak,an⟩:=av;simp only at hn am ad aa af ag au ba bb ak an;obtain⟨n,hnn⟩: ∃n,n=x.Room.length:=⟨_,rfl⟩;obtain⟨M,hM⟩: ∃M:Nat,mo=M:=⟨mo.toNat,by omega⟩;subst hM;have be: ∀y:Int×Int×Int,sndC.n (x,y)=n:=λy=>by simp only[sndC.n,<-hnn];omega
 simp only[sndC.H1,sndC.r0,sndC.H0,be,B8,CD,Br];rw[<-hnn] at hn am aa ag ak;refine AT.old ⟨{s:Nat×Bd//s.1<=M/\Kt s.2 n/\s.2.Room=x.Room/\(∃v,QV (Ea x) (JP s.2) n p.toNat q.toNat v)/\FM n p q M x=FM n p q (M - s.1) s.2+s.1/\Rg n p q M x=Rg n p q (M - s.1) s.2},λs=>⟨[(9,.im (.int .i64 s.1.1)),(0,.ptr 0 0),(1,.im (.int .i64 p)),(2,.im (.int .i64 q)),(3,.im (.int .i64 M))],CD s.1.2 n,300⟩,λs=>M - s.1.1,λs=>⟨?_,by simp⟩,⟨⟨(0,x),by simp only;omega,am,rfl,ak,by simp,by simp⟩,?_⟩,λs=> ?_⟩
 .simp only[CD];exact uY _ _ _ hn _ (by simp[CF,AV.bel])
 .simp only[sub,Gx,A8];refine⟨?_,?_⟩
  .simp(disch:=omega)only[ZA,simprocAttr]
  .exact Nd (V7 x n hn)
 obtain⟨⟨k,y⟩,i1,i2,i3,i4,i5,i6⟩:=s;simp only at i1 i2 i3 i4 i5 i6;simp only[CD];simp(disch:=omega)only[ZA,simprocAttr,Br];refine Vo (V7 y n hn) i2 (by omega) ad aa af ag (λU=> ?_);obtain⟨L,hL⟩: ∃L,L=Cy y n p q:=⟨_,rfl⟩;rw[<-hL];simp(disch:=omega)only[ZA,simprocAttr,Br,AO];have ai:(FM n p q (M - k) y=0)->(Rg n p q (M - k) y=y)->(((bif SN 0 then True else True)/\(bif SN 1 then True else True)/\(bif SN 2 then True else True)/\HU (hget (CD y n)) SN (B4 100 n x.Room++B4 200 n x.Flow))/\(k:Int)=FM n p q M x/\ ∀kx,El (hget (CD y n)) (Ba (hget (CD y n)) kx 9) (B4 200 n (Rg n p q M x).Flow)):=by
  intro e1 e2;have hI:=V7 y n hn;refine⟨⟨trivial,trivial,trivial,(MM _ _ _ _).2 ⟨Um hn (λi Q=>by rw[hI.ga i Q,i3]),Un hn⟩⟩,by omega,λkx=> ?_⟩;rw[i6,e2];exact Qoq _ _ _ _ _ hI.gb
 have ay:(L.map Al).isEmpty=L.isEmpty:=by cases L<;>rfl
 rw[ay];refine⟨λc1=>⟨λc2=> ?_,λc2=> ?_⟩,λc1=> ?_⟩
 .obtain⟨g1,g2,g3⟩:=ai (by rw[show M - k=0 by omega];rfl) (by rw[show M - k=0 by omega];rfl);exact⟨g1,g2,g3 _⟩
 .have ab:L≠[]:=by intro h;rw[h] at c1;cases c1
  have hW:SE y n p q L:=by rw[hL];exact Vq ad aa af ag (by rw[<-hL];exact ab)
  have bi:=hW.pos;obtain⟨v,hv⟩:=i4;have ao: ∀i,i<L.length-> ∃w:Nat,L[i]? =some (w:Int)/\w<n:=by
   intro i Q
   have:=hW.inb _ (Rm Q)
   refine⟨(L[i]).toNat,by rw[Bi Q];congr 1;omega,by omega⟩
  refine AT.old ⟨{j:Nat//j+1<=L.length},λj=>⟨[(11,.im (.int .i64 ((j.1:Int)+1))),(10,.im (.sl true 1 (L.map Al))),(9,.im (.int .i64 k)),(0,.ptr 0 0),(1,.im (.int .i64 p)),(2,.im (.int .i64 q)),(3,.im (.int .i64 M))],CD (Hs y L j.1) n,300⟩,λj=>L.length - j.1,λj=>⟨?_,by simp⟩,⟨⟨0,by omega⟩,?_⟩,λj=> ?_⟩
  .simp only[CD];exact uY _ _ _ hn _ (by simp[CF,AV.bel])
  .simp only[sub,Gx,A8];refine⟨?_,?_⟩
   .simp(disch:=omega)only[ZA,simprocAttr]
   .exact Nd (V7 y n hn)
  obtain⟨j,hj⟩:=j;have O:=Qm6 i2 hW.inb j (by omega);obtain⟨z,hz⟩: ∃z,z=Hs y L j:=⟨_,rfl⟩;simp only[<-hz] at O⊢;simp only[CD];have ej:((j:Int)+1).toNat=j+1:=by omega
  simp(disch:=omega)only[ZA,simprocAttr,Br,sub,AO,II];intro bh;have ew:IntKind.i64.wrap ((j:Int)+1 - 1)=j:=by rw[AD (by omega) (by omega)];omega
  have aw:IntKind.i64.wrap ((j:Int)+1+1)=(j:Int)+1+1:=AD (by omega) (by omega);simp only[ew,B8];refine⟨λa8=> ?_,λa8=> ?_⟩
  .obtain⟨u,ac,hu⟩:=ao j (by omega);obtain⟨w,aj,Z⟩:=ao (j+1) (by omega);have bf:u≠w:=by
    intro h
    have:=hW.nd j (j+1) (by omega) (by omega) (by simp only[Lf,ac,aj,h])
    omega
   have hr: ∀i,i<n->(z.Flow[i]?.getD []).length=n:=by
    intro i Q;rw[Bi (by rw[O.f];exact Q),AP];exact O.ff _ (Rm _)
   have bc:=hr u hu;have bd:=hr w Z;simp only[ac,AI,forall_eq'];simp(disch:=omega)only[ZA,simprocAttr,sub,WM,Br,II,AW,Lj,eS,ew,aw,ej,ac,aj,forall_eq',bc,bd,Qxa,eI,xC,lQ,uF];have hb: ∀a b,a<n->b<n-> -10000000000002<=JP z a b/\JP z a b<=10000000000002:=by
    intro a b ha hb;have h1:=Qso i2 hW.inb a b j (by omega);have h2:=Qr1 (L:=Lf L) (m:=L.length - 1) (λi j Q hj=>hW.nd i j (by omega) (by omega)) a b j (by omega);have h3:=Qr1 (L:=Lf L) (m:=L.length - 1) (λi j Q hj=>hW.nd i j (by omega) (by omega)) b a j (by omega);have h4:=sU (Lf L) a b j;have h5:=sU (Lf L) b a j;have h6:=hv.cap a b ha hb;have h7:=hv.cap b a hb ha;have h8:=hv.anti a b ha hb;have h9:=an a b;have bj:=an b a;rw[<-hz] at h1;simp only[JP] at*;omega
   have az:=hb u w hu Z;have a0:=hb w u Z hu;refine⟨by omega,hu,hu,by omega,by omega,by omega,Z,by omega,Z,λx1 e1=>⟨Z,by omega,Z,λ_ _=>⟨.inr (by omega),by omega,by omega,Z,Z,by omega,by omega,hu,by omega,hu,λx3 e3=>⟨hu,by omega,hu,λ_ _=>⟨.inr (by omega),⟨j+1,by omega⟩,by simp only;omega,by simp only;omega,?_⟩⟩⟩⟩⟩;have r1:JP z u w=x1:=by simp only[JP,GN,e1,AP]
   have r3:JP z w u=x3:=by simp only[JP,GN,e3,AP]
   rw[r1] at az;rw[r3] at a0;rw[AD (by omega) (by omega),AD (by omega) (by omega)];have hN:Hs y L (j+1)=N9 z u w:=by simp only[Hs,ac,aj,AP,<-hz]
   have hR: ∀i,i<n->(Hs y L (j+1)).Flow[i]?.getD []=if w=i then (z.Flow[w]?.getD []).set u (x3 - 1) else if u=i then (z.Flow[u]?.getD []).set w (x1+1) else z.Flow[i]?.getD []:=by
    intro i Q;rw[hN];simp only[N9,Lo,B8];by_cases h1:w=i
    .subst h1;rw[Ai rfl,CY (by rw[EA,O.f];exact Z),AP,Dw bf,e3,AP];rfl
    .rw[Af h1,Dw h1];by_cases h2:u=i
     .subst h2;rw[Ai rfl,CY (by rw[O.f];exact hu),AP,e1,AP]
     .rw[Af h2,Dw h2]
   have hF:(Hs y L (j+1)).Room=z.Room:=by rw[hN];rfl
   refine⟨λi Q=> ?_,λi Q=> ?_⟩
   .rw[Af (by omega),Af (by omega)];show _=some (true,Ab.arr _ 1 (List.map Al ((Hs y L (j+1)).Room[i]?.getD [])));rw[hF];exact eM _ _ _ _ Q
   .show _=some (true,Ab.arr _ 1 (List.map Al ((Hs y L (j+1)).Flow[i]?.getD [])));rw[hR i Q];by_cases h1:w=i
    .subst h1;rw[Ai rfl,Ai rfl]
    .rw[Af (by omega),Af h1];by_cases h2:u=i
     .subst h2;rw[Ai rfl,Ai rfl]
     .rw[Af (by omega),Af h2];exact eS _ _ _ _ (by omega) Q
  .have a9:j=L.length - 1:=by omega
   subst a9;obtain⟨m,hm⟩: ∃m,M - k=m+1:=⟨M - k - 1,by omega⟩;have aq: ¬Cy y n p q=[]:=by rw[<-hL];exact ab
   have e5:FM n p q (m+1) y=FM n p q m z+1:=by simp only[FM];rw[Af aq,<-hL,<-hz]
   have e6:Rg n p q (m+1) y=Rg n p q m z:=by simp only[Rg];rw[Af aq,<-hL,<-hz]
   rw[hm] at i5 i6;have ah:=(Qun i2 ad aa au af (v:=v) (by rw[show Ea y=Ea x by funext a b;simp only[Ea,i3]];exact hv) hW).2;have bg:z.Room=x.Room:=by rw[hz,Ql3,i3]
   rw[show Ea y=Ea x by funext a b;simp only[Ea,i3],<-hz] at ah;refine⟨⟨(k+1,z),by simp only;omega,O,bg,⟨_,ah⟩,by simp only;rw[show M - (k+1)=m by omega];omega,by simp only;rw[show M - (k+1)=m by omega,i6,e6]⟩,by simp only;omega,?_⟩;refine⟨by rw[AD (by omega) (by omega)];simp only;omega,?_⟩;simp only[lQ,uF];exact⟨(V7 z n hn).ga,(V7 z n hn).gb⟩
 .have ab:L=[]:=by
   cases L with
   |nil=>rfl
   |cons a r=>exact absurd rfl c1
  have Z:Cy y n p q=[]:=by rw[<-hL,ab]
  have z1: ∀m,FM n p q m y=0:=by
   intro m;cases m with
   |zero=>rfl
   |succ m=>simp only[FM];rw[Ai Z]
  have z2: ∀m,Rg n p q m y=y:=by
   intro m;cases m with
   |zero=>rfl
   |succ m=>simp only[Rg];rw[Ai Z]
  obtain⟨g1,g2,g3⟩:=ai (z1 _) (z2 _);exact⟨g1,g2,g3 _⟩
 simp only[sndC.H1,B4,AQ,Bo,Bt] at hp;obtain⟨i,Q,rfl⟩:=hp;have ax:=sndC.n_le a;refine .inl ⟨by omega,by simp only[SN,AN,G8,E4];omega,?_⟩;simp only[Ak,sndC.H0];rw[(V7 a.1 (sndC.n a) ax).gb i Q];rfl
def Qwi(h:Nat->Option Ao)(σ:Nat->Nat): ∀(a b:Ap),CL h σ (a++b)↔CL h σ a/\CL h σ b
 |[],b=>by simp[CL]
 |(i,(z,e))::r,b=>by simp only[CO,CL,Qwi h σ r b,gY]
def Qt1{h:Nat->Option Ao}{σ:Nat->Nat}{b n:Nat}{M:List (List Int)}(H: ∀i,i<n->h (σ (b+i))=some (true,.arr 2 1 ((M[i]?.getD []).map Al))):CL h σ (B4 b n M):=by
 have: ∀(l:List Nat),(∀i∈l,i<n)->CL h σ (l.map λi=>(b+i,(true,Ab.arr 2 1 ((M[i]?.getD []).map Al)))):=by
  intro l;induction l with
  |nil=>intro _;trivial
  |cons i r ih=>
   intro z;simp only[Bf,CL];exact⟨H i (z i (BM ..)),ih (λj Q=>z j (BP _ Q))⟩
 exact this _ (λi O=>Bt.1 O)
def Qth{σ:Nat->Nat}{b n:Nat}{M:List (List Int)}(H: ∀i,i<n->σ (b+i)=b+i):AS σ (B4 b n M)=B4 b n M:=by
 have: ∀(l:List Nat),(∀i∈l,i<n)->AS σ (l.map λi=>(b+i,(true,Ab.arr 2 1 ((M[i]?.getD []).map Al))))=l.map λi=>(b+i,(true,Ab.arr 2 1 ((M[i]?.getD []).map Al))):=by
  intro l;induction l with
  |nil=>intro _;rfl
  |cons i r ih=>
   intro z;simp only[Bf,AS];rw[H i (z i (BM ..)),ih (λj Q=>z j (BP _ Q))];rfl
 exact this _ (λi O=>Bt.1 O)
def Qj9{σ:Nat->Nat}{b n:Nat}(H: ∀i,i<n->σ (b+i)=b+i):(Du b n).map (AH σ)=Du b n:=by
 simp only[Du,Lw];refine JJ λi z=> ?_
 simp only[Function.comp,AH,AV.ren,H i (Bt.1 z)]
def Qzq(σ:Nat->Nat): ∀(a b:Ap),AS σ (a++b)=AS σ a++AS σ b
 |[],b=>rfl
 |(i,(z,e))::r,b=>by simp only[CO,AS,Qzq σ r b]
def Y6{σ:Nat->Nat}{x:Bd}{n:Nat}(hn:n<=64)(H: ∀j,j<300->σ j=j):AS σ (CD x n)=CD x n:=by
 simp only[CD,AS,Qzq,Ab.ren,AH,AV.ren,H 0 (by omega),H 1 (by omega),H 2 (by omega),Qj9 (b:=100) (n:=n) (λi z=>H (100+i) (by omega)),Qj9 (b:=200) (n:=n) (λi z=>H (200+i) (by omega)),Qth (b:=100) (n:=n) (λi z=>H (100+i) (by omega)),Qth (b:=200) (n:=n) (λi z=>H (200+i) (by omega))]
def KJ{x:Bd}{n:Nat}(hn:n<=64){j:Nat}(h:Ak (CD x n) j=true):j<264/\(200<=j-> ∃i,i<n/\j=200+i)/\j∈[0,1,2]++((List.range n).map (100+ ·)++(List.range n).map (200+ ·)):=by
 have z:j∈[0,1,2]++((List.range n).map (100+ ·)++(List.range n).map (200+ ·)):=by
  have: ∀(H:Ap),Ak H j=true->j∈Fl H:=by
   intro H;induction H with
   |nil=>intro h;simp[Ak,hget] at h
   |cons e r ih=>
    obtain⟨i,e⟩:=e;intro h;simp only[Ak,hget] at h;simp only[Fl,Bh];by_cases Q:i=j
    .exact .inl Q.symm
    .have:(i==j)=false:=by simpa using Q
     rw[this] at h;exact .inr (ih h)
  have h2:=this _ h;simp only[CD,Fl,Qpf,B4,ZB] at h2;simpa using h2
 refine⟨?_,λO=> ?_,z⟩
 .have:=Ty n hn j z
  rcases Bn.1 z with z|z
  .simp at z;omega
  .rcases Bn.1 z with z|z<;>obtain⟨i,Z,rfl⟩:=Bo.1 z<;>have:=Bt.1 Z
   .show 100+i<264;omega
   .show 200+i<264;omega
 .rcases Bn.1 z with z|z
  .simp at z;omega
  .rcases Bn.1 z with z|z<;>obtain⟨i,Z,rfl⟩:=Bo.1 z<;>have:=Bt.1 Z
   .have h3:200<=100+i:=O;omega
   .exact⟨i,this,rfl⟩
def OO{kill:List Nat}{nx cnt b n:Nat}{M:List (List Int)}(H: ∀i,i<n->kill.contains (b+i)=true/\b+i<nx):GW kill nx cnt (B4 b n M)=true:=by
 have: ∀(l:List Nat),(∀i∈l,i<n)->GW kill nx cnt (l.map λi=>(b+i,(true,Ab.arr 2 1 ((M[i]?.getD []).map Al))))=true:=by
  intro l;induction l with
  |nil=>intro _;rfl
  |cons i r ih=>
   intro z;simp only[Bf,GW,Ke,AN,Iq,G8,E4];exact⟨.inr (H i (z i (BM ..))),ih (λj Q=>z j (BP _ Q))⟩
 exact this _ (λi O=>Bt.1 O)
def UG{H:Nat->Option Ao}{x:Bd}{nx:Nat}{K:Ah}{p q Q:Int}(hH:Tw H x x.Room.length)(Z:UF (x,p,q,Q))(aa:300<=nx)
 (hK: ∀E:Bk,E.cnt=10->E.ok nx (.im (.int .i64 (FM x.Room.length p q Q.toNat x)))=true->K (.im (.int .i64 (FM x.Room.length p q Q.toNat x))) E):sndC.row [.ptr 0 0,.im (.int .i64 p),.im (.int .i64 q),.im (.int .i64 Q)] H nx K:=by
 have hn:x.Room.length<=64:=Z.n;have O:sndC.n (x,p,q,Q)=x.Room.length:=by simp only[sndC.n];omega
 have hσ: ∀j,j<300->BE (λj=>j) 300 nx j=j:=λj hj=>Ai hj
 refine⟨(x,p,q,Q),λj=>j,[0,1,2]++((List.range x.Room.length).map (100+ ·)++(List.range x.Room.length).map (200+ ·)),(List.range x.Room.length).map (200+ ·),Z,?_,?_,?_,?_⟩
 .simp only[sndC.ca,AH,AV.ren,hσ 0 (by omega)]
 .simp only[sndC.H0,O,CD,CL,Qwi,Ab.ren,AH,AV.ren,hσ 0 (by omega),hσ 1 (by omega),hσ 2 (by omega),Qj9 (b:=100) (n:=x.Room.length) (λi z=>hσ (100+i) (by omega)),Qj9 (b:=200) (n:=x.Room.length) (λi z=>hσ (200+i) (by omega))];exact⟨hH.g0,hH.g1,hH.g2,Qt1 (λi z=>by rw[hσ _ (by omega)];exact hH.ga i z),Qt1 (λi z=>by rw[hσ _ (by omega)];exact hH.gb i z)⟩
 .have hd: ∀j,Ak (sndC.H0 (x,p,q,Q)) j=true->Ak (CD x x.Room.length) j=true:=λj h=>by simpa only[sndC.H0,O] using h
  refine⟨λi j _ _ h=>h,λj hj=> ?_,λj hj=>(KJ hn (hd j hj)).2.2,λm hm=> ?_,λj hj hk=> ?_⟩
  .have:=(KJ hn (hd j hj)).1
   omega
  .obtain⟨i,z,rfl⟩:=Bo.1 hm
   have:=Bt.1 z
   refine⟨200+i,?_,bD i (by omega),rfl⟩;simp only[Ak,sndC.H0,O];rw[(V7 x _ hn).gb i this];rfl
  .simp only[SN,AN,G8,E4] at hk;obtain⟨i,z,rfl⟩:=(KJ hn (hd j hj)).2.1 hk.1;exact Bo.2 ⟨i,Bt.2 z,rfl⟩
 .have e:(sndC.r0 (x,p,q,Q)).ren (BE (λj=>j) 300 nx)= .im (.int .i64 (FM x.Room.length p q Q.toNat x)):=by simp only[sndC.r0,O,AV.ren]
  rw[e];refine hK _ rfl ?_;simp only[Bk.ok,AV.bel,Eg,sndC.H1,O];rw[Qth (λi z=>hσ _ (by omega)),AN];refine⟨QZ _ _ _ (λi=>rfl) _,OO λi z=>⟨?_,by omega⟩⟩;rw[FO];exact Bo.2 ⟨i,Bt.2 z,rfl⟩
def Qu2(cnt:Nat): ∀(H:Ap),(∀p∈H,p.1<cnt)->GW [] 0 cnt H=true
 |[],_=>rfl
 |(i,e)::r,h=>by
  have z:=h (i,e) (BM ..);simp only at z;simp only[GW,Ke,Qu2 cnt r (λp hp=>h p (BP _ hp)),Fo,Iq,AN,G8,E4];exact .inl ⟨by omega,by omega⟩
def Tx{x:Bd}{n:Nat}(r:AV)(hn:n<=64)(z:r.bel 320=true){use:List Nat}:Bk.ok {use:=use,kill:=[],new:=CD x n,cnt:=320} 0 r=true:=by
 simp only[Bk.ok,FP,z,Eg,AN];refine⟨?_,Qu2 _ _ λp hp=>by have:=K8 _ (Mu hn hp).1;omega⟩;simp only[CD,Aw,tV,B4];rw[QZ _ _ _ (λi=>rfl),QZ _ _ _ (λi=>rfl),W8 _ _ _ (by omega),W8 _ _ _ (by omega)];rfl
def Qt8(n:Nat)(bs:List Ag)(t:Int)(k:Nat)(h:Rb n bs t k=false): ∀m,Rb n bs t (k+m)=false
 |0=>h
 |m+1=>by rw[show k+(m+1)=k+m+1 by omega,Rb,Qt8 n bs t k h m,Gf]
def vU(n:Int)(bs:List Ag)(t:Int):Bool:=Rb n.toNat bs t (n.toNat - 1)
def holds_.fv(a:Int×(List Ag)×Int):Bool:=(vU) (a.1) (a.2.1) (a.2.2)
def holds_.row:A7:=vK (b3 qI (qS Ag.d_le Ag.c_n) qI) rB (λa=>Mv (a.1,a.2.1)/\0<=a.2.2/\a.2.2<=1000000) holds_.fv
def holds_.q:=AY (R:=holds_.row) rfl
def holds_.ok:AC 194 holds_.row:=by
 refine vw (tC nwC.ok (tC sndC.ok tN)) Tryz.func194 ?_;intro a ac;simp only[Tryz.f194];simp only[ZA,simprocAttr,holds_.fv];obtain⟨hp,ad,af⟩:=ac;obtain⟨h0,h1,hl,z,O,Q⟩:=hp;simp only at h0 h1 hl z O Q;obtain⟨n,hn⟩: ∃n:Nat,a.1=n:=⟨a.1.toNat,by omega⟩;obtain⟨bs,hbsd⟩: ∃bs,bs=a.2.1:=⟨_,rfl⟩;obtain⟨t,ht⟩: ∃t,t=a.2.2:=⟨_,rfl⟩;simp only[hn,<-hbsd,<-ht,vU,B8] at h0 h1 hl z O Q ad af⊢;have Z:Mv ((n:Int),bs):=⟨h0,h1,hl,z,O,Q⟩;refine AT.old ⟨{k:Nat//(k=0\/k+1<=n)/\Rb n bs t k=true},λk=>⟨[(7,.im (.int .i64 ((k.1:Int)+1))),(0,.im (.int .i64 n)),(1,.im (.sl false 3 (bs.map Ag.c))),(2,.im (.int .i64 t))],[],0⟩,λk=>n - k.1,λk=>⟨by simp[ZG],by simp⟩,⟨⟨0,.inl rfl,rfl⟩,by simp only[ZA,simprocAttr,sub]⟩,λk=> ?_⟩;obtain⟨k,aa,ab⟩:=k;simp only[ZA,simprocAttr,AO];refine⟨λhk=> ?_,λhk=> ?_⟩
 .refine AB.os ((n:Int),bs) [] Z (λj=>by simp[Ak,hget]) rfl rfl ?_ ?_
  .simp only[ZA,simprocAttr,nwC.ca]
  .have e1:AS (BE (I7 []) 0 0) (nwC.H1 ((n:Int),bs))=CD (DM n bs) n:=by
    simp only[nwC.H1,B8];rw[Zfj (by omega)];exact Y6 (by omega) (λj _=>by simp[BE])
   rw[e1];refine⟨Tx _ (by omega) rfl,?_⟩;simp only[ZA,simprocAttr,Br];have hr:(DM n bs).Room.length=n:=(WG z bs.length).1.r;have hI:=V7 (DM n bs) n (by omega);rw[show hget (CD (DM n bs) n)=hget (CD (DM n bs) n) from rfl];refine UG (x:=DM n bs) (by rw[hr];exact hI) ?_ (by omega) (λE ai ag=> ?_)
   .refine⟨by simp only;omega,by simp only[hr];exact (WG z bs.length).1,by simp,by simp only[hr];omega,by simp only;omega,by simp only[hr];omega,by simp only;omega,ad,af,⟨0,by simp only[hr];exact oW z O _ _⟩,λu v=> ?_⟩
    have:=(Qrm z O u v bs.length).2
    simp only[DM];omega
   .refine⟨ag,?_⟩;rw[hr];obtain⟨sv,hsv⟩: ∃sv,sv=FM n 0 ((k:Int)+1) t.toNat (DM n bs):=⟨_,rfl⟩;rw[<-hsv];have hs:Rb n bs t (k+1)=(Rb n bs t k && decide (t<=sv)):=by rw[hsv];rfl
    rw[ab,Eg] at hs;simp only[ZA,simprocAttr,Av.app,sub,AO];refine⟨λah=> ?_,λah=>⟨⟨k+1,.inr (by omega),by rw[hs];exact gO (by omega)⟩,by simp only;omega,by rw[AD (by omega) (by omega)];simp only;omega⟩⟩;have h9:=Qt8 n bs t (k+1) (by rw[hs];exact wK (by omega)) (n - 1 - (k+1));rw[show k+1+(n - 1 - (k+1))=n - 1 by omega] at h9;exact h9.symm
 .rcases aa with rfl|aa
  .rw[show n - 1=0 by omega];rfl
  .rw[show n - 1=k by omega];exact ab.symm
def Kr(t:Int)(b:Ag):Bool:=decide (b.Strength<t)
def CT1.fv(a:Ag×Int):Bool:=(λb t=>Kr t b) (a.1) (a.2)
def CT1.row:A7:=Dy (b2 (qR Ag.d_le) (qP 1 Fh)) rB (λa=>True) CT1.fv
def CT1.q:=CP (R:=CT1.row) rfl
def CT1.ok:AC 218 CT1.row:=by
 refine Gz tN Tryz.func218 ?_;intro a z;simp only[Tryz.f218];simp only[ZA,simprocAttr,CT1.fv,D.sc,D.scs,BC];rfl
def IdxB.ar:List PK->Option ((List Ag)×Int)
 |[.val (.sl _ _ O),.val (.fn 218 [] [.ref [.int .i64 z]])]=>(AR Ag.d O).bind λQ=>some (Q,z)
 |_=>none
def IdxB.ae(a:(List Ag)×Int):List PK:=[.val (.sl false 3 (a.1.map Ag.c)),.val (.fn 218 [] [.ref [.int .i64 a.2]])]
def IdxB.le: ∀z a,IdxB.ar z=some a->Ca z (IdxB.ae a):=by
 intro z a h;unfold IdxB.ar at h;split at h
 .simp only[EP,AI] at h;obtain⟨O,h0,rfl⟩:=h;exact⟨Ed (DQ Ag.d_le _ _ h0) (by simp only[Bo];rintro r ⟨y,_,rfl⟩;rfl),WV ⟨Le.refl _,trivial⟩,trivial⟩
 .cases h
def IdxB.fv(a:(List Ag)×Int):Int:=(λl t=>BO (Kr t) 0 l) (a.1) (a.2)
def IdxB.row:A7:=NT IdxB.ar (λa=>True) (λa=>(D.int .i64) (IdxB.fv a))
def IdxB.q:=vqF IdxB.row rfl
def IdxB.ok:AC 233 IdxB.row:=by
 refine Qbn Dd (tC CT1.ok tN) Tryz.func233 rfl (by kernel_rfl) (by kernel_rfl) (ar:=IdxB.ar) (ae:=IdxB.ae) IdxB.le (n:=2) (λ_=>rfl) (by decide) (rc:=(Ez)) (re:=(D.int .i64)) (Vu) (f:=IdxB.fv) ?_;intro a Q;simp only[Tryz.f233];simp only[ZA,simprocAttr,IdxB.ae,IdxB.fv];intro hn;refine AT.old ⟨{k:Nat//k<=a.1.length/\BO (Kr a.2) k (a.1.drop k)=BO (Kr a.2) 0 a.1},λk=>⟨[(8,.im (.int .i64 k.1)),(7,.im (.int .i64 a.1.length)),(6,.im (.sl false 3 (a.1.map Ag.c))),(4,.im (.int .i64 0)),(0,.im (.sl false 3 (a.1.map Ag.c))),(1,.im (.fn 218 [] [.ref [.int .i64 a.2]]))],[],0⟩,λk=>a.1.length - k.1,λk=>⟨by simp[ZG],AL _⟩,⟨⟨0,by simp⟩,by simp only[ZA,simprocAttr,sub]⟩,λk=> ?_⟩;obtain⟨k,Z,z⟩:=k;simp only[ZA,simprocAttr,C3,CT1.q,CT1.fv,D.sc,D.scs,BC,sub,AO];refine⟨λO=>⟨O,λx hx=> ?_⟩,λO=> ?_⟩
 .rw[F5 hx,BO] at z;refine⟨λh=> ?_,λh=>GI O hn ⟨by omega,by rw[<-z,Af (by simpa using h)]⟩⟩;rw[Ai (by simpa using h)] at z;exact z
 .rw[CS (by omega),BO] at z;exact z
def Qu3{t:Int}{l:List Ag}{i:Nat}{b:Ag}(Z:l.find? (Kr t)=some b)(h2:BO (Kr t) 0 l=(i:Int))(h3:l[i]? =some b):G3 t (l.take (i+1))=l.take i:=by
 have hw:Kr t b=true:=gV Z;have O: ∀(l:List Ag) (o i:Nat),BO (Kr t) o l=((o+i:Nat):Int)-> ∀x∈l.take i,Kr t x=false:=by
  intro l;induction l with
  |nil=>intro o i _ x z;simp at z
  |cons y r ih=>
   intro o i h x z;cases i with
   |zero=>simp at z
   |succ i=>
    simp only[BO] at h;split at h
    .omega
    .rename_i hy;rw[Qp] at z;rcases Bh.1 z with rfl|z
     .simpa using hy
     .exact ih (o+1) i (by rw[h];congr 1;omega) x z
 rw[Ip,h3,wE,G3,ZeD];have Q:(l.take i).filter (λb=>decide (t<=b.Strength))=l.take i:=by
  rw[wT];intro x z
  have:=O l 0 i (by rw[h2];simp) x z
  simp only[Kr,Iu] at this;simp only[Bq];omega
 simp only[Kr,Bq] at hw;rw[Q,wM (by simp;omega),List.filter_nil,D2]
def dlC.ca(a:List Ag×Int):List AV:=[.own 0,.im (.fn 218 [] [.ref [.int .i64 a.2]])]
def dlC.H0(a:List Ag×Int):Ap:=[(0,(true,.arr 259 3 (a.1.map Ag.c)))]
def dlC.H1(a:List Ag×Int):Ap:=[(1,(true,.arr 259 3 ((G3 a.2 a.1).map Ag.c)))]
def dlC.row:A7:=AB dlC.ca dlC.H0 1 (λa=>a.1.length<=1000000) (λj=>j==0) (λ_=> .own 1) dlC.H1 1000
def dlC.ok:AC 216 dlC.row:=by
 refine VO (tC IdxB.ok (tC CT1.ok tN)) Tryz.func216 (exB:=λj=>j==1) (R:=λ_ r=>r= .own 1) (λ_=>rfl)
  (λa=>by simp[dlC.ca,dlC.H0,AF,AV.bel,Aw,B9,BS,Ab.nms,Ak,hget]) (λa p hp=> ?_) (λa r h=>by subst h;exact CU.refl _) ?_
 rotate_left
 intro a Z;simp only[Tryz.f216,dlC.ca,dlC.H0,dlC.H1];simp only[ZA,simprocAttr,C3,IdxB.q,IdxB.ar,IdxB.fv,FK];rcases ZE (Kr a.2) a.1 0 with ⟨e1,Q⟩|⟨i0,b0,e1,Q,e3⟩
 .rw[Q,Ai rfl];refine⟨[],[(1,some 0)],⟨[(4,.own 1)],[(1,(true,.arr 259 3 (a.1.map Ag.c)))],2⟩,?_,by simp[ZG],by simp,?_⟩
  .simp only[Aq];simp only[ZA,simprocAttr]
  .simp only[ZA,simprocAttr]
   have:G3 a.2 a.1=a.1:=by
    rw[G3,wT];intro b hb
    have:=aL.1 e1 b hb
    simp only[Kr,Bq] at this⊢;omega
   rw[this]
 .rw[FP] at Q;rw[Q,Af (by omega)];have aa:=(BW.1 e3).1;rw[AD (by omega) (by omega)];obtain⟨l,hl⟩: ∃l,l=a.1:=⟨_,rfl⟩;obtain⟨t,ht⟩: ∃t,t=a.2:=⟨_,rfl⟩;simp only[<-hl,<-ht] at e1 Q e3 aa Z⊢;refine AT.old ⟨{j:Nat//j<=l.length},λj=>⟨[(6,.im (.int .i64 j.1)),(5,.im (.int .i64 (G3 t (l.take j.1)).length)),(0,.own 0),(1,.im (.fn 218 [] [.ref [.int .i64 t]]))],[(0,(true,.arr 259 3 ((G3 t (l.take j.1)++l.drop (G3 t (l.take j.1)).length).map Ag.c)))],2⟩,λj=>l.length - j.1,λj=>⟨by simp[ZG],by simp⟩,⟨⟨i0+1,by omega⟩,?_⟩,λj=> ?_⟩
  .have h1:=Qu3 e1 Q e3;simp only[ZA,simprocAttr,sub,h1,BB];rw[show min i0 l.length=i0 by omega,Iv];exact⟨⟨by omega,rfl⟩,rfl⟩
  obtain⟨j,hj⟩:=j;obtain⟨kp,hkp⟩: ∃kp,kp=G3 t (l.take j):=⟨_,rfl⟩;have ac:kp.length<=j:=by
   have:=Qln t (l.take j)
   rw[BB] at this;rw[hkp];omega
  have af:(kp++l.drop kp.length).length=l.length:=by simp;omega
  simp only[<-hkp];simp only[ZA,simprocAttr,C3,CT1.q,CT1.fv,sub,AO,af];intro _;refine⟨λO=>⟨O,O,λb hb=> ?_⟩,λO=> ?_⟩
  .have ad:l[j]? =some b:=by
    rw[E3 ac,EQ,show kp.length+(j - kp.length)=j by omega] at hb;exact hb
   have z:=Qjs t ad;rw[<-hkp] at z;refine⟨λhw=>⟨by omega,by omega,λc _=>⟨⟨j+1,by omega⟩,by simp only;omega,?_⟩⟩,λhw=>⟨⟨j+1,by omega⟩,by simp only;omega,?_⟩⟩
   .have hs:t<=b.Strength:=by
     simp only[Kr,Iu] at hw;omega
    rw[Ai hs] at z;simp only[z,C9,Cv,FA];refine⟨⟨by rw[AD (by omega) (by omega)];omega,by rw[AD (by omega) (by omega)];omega⟩,?_⟩;have h1:(kp++l.drop kp.length).set kp.length b=kp++[b]++l.drop (kp.length+1):=by
     obtain⟨c,hc⟩: ∃c,l[kp.length]? =some c:=⟨_,Bi (by omega)⟩;rw[F5 hc,nE _ _ (AL _),Gh,gH,EK];rfl
    rw[<-h1,JM];rfl
   .have hs: ¬t<=b.Strength:=by
     rw[Im] at hw;simp only[Kr,Bq] at hw;omega
    rw[Af hs,D2] at z;simp only[z];exact⟨⟨by rw[AD (by omega) (by omega)];omega,trivial⟩,trivial⟩
  .refine⟨by omega,false,?_⟩;have ab:j=l.length:=by omega
   subst ab;rw[IS] at hkp;simp only[ZA,simprocAttr];have hA:List.take kp.length ((kp++l.drop kp.length).map Ag.c)=kp.map Ag.c:=by
    rw[<-List.map_take,List.take_left]
   rw[hA];refine⟨by simp only[C9,Fc];omega,true,?_⟩;simp only[ZA,simprocAttr,FK];refine⟨[],[(1,some 2)],⟨[(4,.own 1)],[(1,(true,.arr 259 3 (kp.map Ag.c)))],2⟩,?_,by simp[ZG],by simp,?_⟩
   .simp only[Aq];simp only[ZA,simprocAttr];rw[show ((kp.length:Int) - 0).toNat=(kp.map Ag.c).length by simp,EK,List.take_left]
   .simp only[ZA,simprocAttr,hkp]
 simp[dlC.H1] at hp;subst hp;exact .inr ⟨by omega,by omega,rfl,rfl⟩
def Me(b i:Nat)(x:Int):AV:=if 0<=x/\x<i then .ptr (b+x.toNat) 0 else .im .nilp
def Hu(b:Nat)(L:List Int)(i:Nat):Ao:=(true,.cells 316 [Me b i (L[i]?.getD (-1)),.im (.int .i64 i)])
def EC(b:Nat)(L:List Int)(n:Nat):Ap:=AQ b n (Hu b L)
def Gp(L:List Int):Prop:= ∀(i:Nat) (x:Int),L[i]? =some x->x<i
def NW(L:List Int)(i:Nat):Nat->Nat
 |0=>i
 |m+1=>if L[i]?.getD (-1)<0 then i else NW L (L[i]?.getD (-1)).toNat m
def E0(L:List Int)(i:Nat):Nat:=NW L i i
def Qabj{L:List Int}(h:Gp L): ∀(i m m':Nat),i<=m->i<=m'->NW L i m=NW L i m':=by
 intro i;induction i using Nat.strongRecOn with
 |_ i ih=>
  intro m m' z O;cases hi:L[i]? with
  |none=>
   cases m<;>cases m'<;>simp[NW,hi]
  |some x=>
   have Q:=h i x hi;by_cases h0:x<0
   .cases m<;>cases m'<;>simp[NW,hi,h0]
   .cases m with
    |zero=>omega
    |succ m=>
     cases m' with
     |zero=>omega
     |succ m'=>
      simp only[NW,hi,AP,Af h0];exact ih x.toNat (by omega) m m' (by omega) (by omega)
def Z8{L:List Int}(h:Gp L){i:Nat}{x:Int}(z:L[i]? =some x):E0 L i=if x<0 then i else E0 L x.toNat:=by
 have O:=h i x z;by_cases h0:x<0
 .rw[Ai h0,E0];cases i with
  |zero=>rfl
  |succ i=>simp only[NW,z,AP,Ai h0]
 .rw[Af h0,E0];cases i with
  |zero=>omega
  |succ i=>
   simp only[NW,z,AP,Af h0];exact Qabj h _ _ _ (by omega) (AL _)
def Qnj{L:List Int}(h:Gp L): ∀(i:Nat),E0 L i<=i:=by
 intro i;induction i using Nat.strongRecOn with
 |_ i ih=>
  cases hi:L[i]? with
  |none=>rw[E0];cases i<;>simp[NW,hi]
  |some x=>
   rw[Z8 h hi];have z:=h i x hi;split
   .exact AL _
   .have:=ih x.toNat (by omega);omega
def firC.n(a:List Int×Nat):Nat:=min a.1.length 512
def firC.ca(a:List Int×Nat):List AV:=[.ptr (min a.2 511) 0]
def firC.H0(a:List Int×Nat):Ap:=EC 0 a.1 (firC.n a)
def firC.r0(a:List Int×Nat):AV:= .ptr (E0 a.1 a.2) 0
def firC.pre(a:List Int×Nat):Prop:=a.1.length<=512/\a.2<a.1.length/\Gp a.1
def firC.row:A7:=AB firC.ca firC.H0 600 firC.pre (λ_=>false) firC.r0 (λ_=>[]) 0
def firC.hbel(a:List Int×Nat):AF 600 (firC.ca a)=true:=by
 simp only[firC.ca,AF,AV.bel,Fo,E4];omega
def Qt5(nx b:Nat)(f:Nat->Ao)(n:Nat)(hf: ∀i,i<n->Aw nx [(b+i,f i)]=true):Aw nx (AQ b n f)=true:=by
 have: ∀(l:List Nat),(∀i∈l,i<n)->Aw nx (l.map λi=>(b+i,f i))=true:=by
  intro l;induction l with
  |nil=>intro _;rfl
  |cons i r ih=>
   intro z;rw[Bf,show (b+i,f i)::(r.map λi=>(b+i,f i))=[(b+i,f i)]++(r.map λi=>(b+i,f i)) from rfl,tV,hf i (z i (BM ..)),ih (λj Q=>z j (BP _ Q))];rfl
 exact this _ (λi O=>Bt.1 O)
def Yi(b i N:Nat)(x:Int)(h:b+i<=N):(Me b i x).bel N=true:=by
 simp only[Me];split
 .simp only[AV.bel,E4];omega
 .rfl
def uN(b n N:Nat)(L:List Int)(h:b+n<=N):Aw N (EC b L n)=true:=Qt5 _ _ _ _ λi z=>by
 simp only[Hu,Aw,AF,Yi b i N _ (by omega),AV.bel,gQ]
def firC.n_le(a:List Int×Nat):firC.n a<=512:=gU _ _
def firC.hbH(a:List Int×Nat):Aw 600 (firC.H0 a)=true:=uN _ _ _ _ (by have:=firC.n_le a;omega)
def firC.hkH(a:List Int×Nat):B9 600 (firC.H0 a)=true:=QP _ _ _ _ (by have:=firC.n_le a;omega)
def Kk(b n:Nat)(L:List Int)(i:Nat)(h:i<n):hget (EC b L n) (b+i)=some (Hu b L i):=GL _ _ _ _ h
def pV{H0:Ap}{b n:Nat}{f:Nat->Ao}(h: ∀i,i<n-> ∀m∈(f i).2.nms,Ak H0 m=true):BS H0 (AQ b n f):=by
 have: ∀(l:List Nat),(∀i∈l,i<n)->BS H0 (l.map λi=>(b+i,f i)):=by
  intro l;induction l with
  |nil=>intro _;trivial
  |cons i r ih=>
   intro z;simp only[Bf];exact⟨h i (z i (BM ..)),ih (λj Q=>z j (BP _ Q))⟩
 exact this _ (λi O=>Bt.1 O)
def firC.hnm(a:List Int×Nat):BS (firC.H0 a) (firC.H0 a):=by
 refine pV λi O m z=> ?_
 simp only[Hu,Ab.nms,AA,Me] at z;split at z
 .simp only[AV.nms,D2,Bz] at z;subst z;rename_i h;simp only[Ak,firC.H0];rw[Kk 0 _ _ _ (by omega)];rfl
 .simp[AV.nms] at z
def PF(s:Av)(b n:Nat)(f:Nat->Ao):Ci s (AQ b n f)= ∀i,i<n->hget s.h (b+i)=some (f i):=by
 have: ∀(l:List Nat),Ci s (l.map λi=>(b+i,f i))↔ ∀i∈l,hget s.h (b+i)=some (f i):=by
  intro l;induction l with
  |nil=>simp[Ci]
  |cons i r ih=>simp only[Bf,Ci,ih,Bh,Zek]
 apply propext;rw[AQ,this];simp only[Bt]
def uR{s:Av}{b n:Nat}{L:List Int}(h: ∀i,i<n->hget s.h (b+i)=some (Hu b L i)):Ci s (EC b L n):=by
 rw[EC,PF];exact h
def firC.ok:AC 232 firC.row:=by
 refine ow tN Tryz.func232 (exB:=λ_=>false) (R:=λa r=>r=firC.r0 a) (λ_=>rfl)
  (λa=>⟨firC.hbel a,firC.hbH a,firC.hkH a,firC.hnm a⟩) (λa p hp=> ?_) (λa r h=>by subst h;exact CU.refl _) ?_
 rotate_left
 intro a aa;simp only[Tryz.f232,firC.ca];simp only[ZA,simprocAttr];obtain⟨L,i⟩:=a;obtain⟨h1,h2,h3⟩:=aa;simp only at h1 h2 h3;obtain⟨n,hn⟩: ∃n,n=L.length:=⟨_,rfl⟩;have ac:firC.n (L,i)=n:=by simp only[firC.n,<-hn];omega
 simp only[firC.H0,firC.r0,ac,Br];rw[<-hn] at h1 h2;rw[show min i 511=i by omega];refine AT.old ⟨{g:Nat//g<n/\E0 L g=E0 L i},λg=>⟨[(0,.ptr g.1 0)],EC 0 L n,600⟩,λg=>g.1,λg=>⟨?_,by simp⟩,⟨⟨i,h2,rfl⟩,?_⟩,λg=> ?_⟩
 .simp only[Av.good,CF,AV.bel,Fo,AN,E4];exact⟨by omega,uN _ _ _ _ (by omega),QP _ _ _ _ (by omega)⟩
 .simp only[sub,Gx,A8];refine⟨?_,uR (λi Z=>Kk 0 n L i Z)⟩;simp only[ZA,simprocAttr]
 obtain⟨g,hg,hr⟩:=g;obtain⟨x,hx⟩: ∃x,L[g]? =some x:=⟨_,Bi (by omega)⟩;have ad:=h3 g x hx;have z:=Kk 0 n L g hg;rw[FP] at z;simp only[Hu,hx,AP] at z;have ab:=Z8 h3 hx;by_cases h0:x<0
 .have O:Me 0 g x= .im .nilp:=Af (by omega);rw[O] at z;simp only[ZA,simprocAttr,z,Br];rw[Ai h0] at ab;exact⟨by omega,by omega,by omega,by omega,by omega,Qxi _ _ _ _ _ (λi Z=> .inr (Kk 0 n L i Z)),by omega⟩
 .have O:Me 0 g x= .ptr x.toNat 0:=by simp only[Me];rw[Ai ⟨by omega,ad⟩,FP]
  rw[O] at z;have Q:=Kk 0 n L x.toNat (by omega);rw[FP] at Q;simp only[ZA,simprocAttr,sub,z,Q,Br];rw[Af h0] at ab;exact⟨by omega,by omega,by omega,by omega,by omega,by omega,by omega,by omega,by omega,⟨x.toNat,by omega,by omega⟩,by simp only;omega,rfl,uR (λi Z=>Kk 0 n L i Z)⟩
 simp at hp
def Ko(b n k:Nat):List (List AV):=(List.range n).map λi=>if i<k then [AV.ptr (b+i) 0] else [.im .nilp]
def Z0(b n k:Nat):(Ko b n k).length=n:=by simp[Ko]
def Qj7(b n k i:Nat)(h:i<n):(Ko b n k)[i]? =some (if i<k then [.ptr (b+i) 0] else [.im .nilp]):=by simp[Ko,Iw h]
def Qtr(b n k i:Nat)(K:List AV->Prop)(h:i<n):Ih (Ko b n k) i K=K (if i<k then [.ptr (b+i) 0] else [.im .nilp]):=by
 apply propext;unfold Ih;rw[Qj7 b n k i h];exact⟨λh=>h _ rfl,λh row z=>by obtain rfl:=Ay z;exact h⟩
def Qlg(b n k N:Nat)(h:b+k<=N):(Ko b n k).all (AF N)=true:=by
 rw[CA];intro r z;obtain⟨i,O,rfl⟩:=Bo.1 z;split
 .simp[AF,AV.bel];omega
 .simp[AF,AV.bel]
def Qnw(b n N:Nat)(L:List Int)(h:b+n<=N):B9 N (EC b L n)=true:=QP _ _ _ _ h
def Po(b n:Nat)(π:List (Nat×Option Nat)):Gq π (Ko b n 0) (Be (List.replicate n [.nilp])):=by
 have e:Ko b n 0=Be (List.replicate n [.nilp]):=by
  simp only[Ko,Be,wJ,Cr,List.map_replicate];rw[List.map_const',aM];rfl
 rw[e];exact mZ _ _
def Yj{σ:Nat->Nat}{i:Nat}{x:Int}(h: ∀j,j<i->σ j=1000+j):(Me 0 i x).ren σ=Me 1000 i x:=by
 simp only[Me];split
 .simp only[AV.ren,FP];rw[h _ (by omega)]
 .rfl
def QE{h:Nat->Option Ao}{σ:Nat->Nat}{b n:Nat}{f:Nat->Ao}(H: ∀i,i<n->h (σ (b+i))=some ((f i).1,(f i).2.ren σ)):CL h σ (AQ b n f):=by
 have: ∀(l:List Nat),(∀i∈l,i<n)->CL h σ (l.map λi=>(b+i,f i)):=by
  intro l;induction l with
  |nil=>intro _;trivial
  |cons i r ih=>
   intro z;simp only[Bf];exact⟨H i (z i (BM ..)),ih (λj Q=>z j (BP _ Q))⟩
 exact this _ (λi O=>Bt.1 O)
def XT{n:Nat}{L:List Int}{j:Nat}(h:Ak (EC 0 L n) j=true):j<n:=by
 simp only[Ak,EC,fM] at h;split at h
 .omega
 .cases h
def Qtp{H:Nat->Option Ao}{L:List Int}{k nx u:Nat}{K:Ah}(Z:L.length=k)(hk:k<=512)(O:Gp L)(hu:u<k)(aa:2000<=nx)(hH: ∀i,i<k->H (1000+i)=some (Hu 1000 L i))
 (Q: ∀U,K (.ptr (1000+E0 L u) 0) {use:=U}):firC.row [.ptr (1000+u) 0] H nx K:=by
 have hσ: ∀j,j<600->BE (λj=>1000+j) 600 nx j=1000+j:=λj z=>Ai z
 have hn:firC.n (L,u)=k:=by simp only[firC.n,Z];omega
 have hr:=Qnj O u;refine⟨(L,u),λj=>1000+j,(List.range k).map (1000+ ·),[],⟨by simp only;omega,by simp only;omega,O⟩,?_,?_,?_,?_⟩
 .simp only[firC.ca,AH,AV.ren];rw[show min u 511=u by omega,hσ u (by omega)]
 .simp only[firC.H0,hn,EC];refine QE λi hi=> ?_
  rw[FP,hσ i (by omega),hH i hi];simp only[Hu,Ab.ren,AH,AV.ren];rw[Yj (λj z=>hσ j (by omega))]
 .have hd: ∀j,Ak (firC.H0 (L,u)) j=true->j<k:=λj z=>by simp only[firC.H0,hn] at z;exact XT z
  refine⟨λi j _ _ h=> ?_,λj z=> ?_,λj z=> ?_,λm hm=>(by cases hm),λj _ z=>(by cases z)⟩
  .have h:1000+i=1000+j:=h;omega
  .have:=hd j z
   show 1000+j<nx;omega
  exact Bo.2 ⟨j,Bt.2 (hd j z),rfl⟩
 .have e:(firC.r0 (L,u)).ren (BE (λj=>1000+j) 600 nx)= .ptr (1000+E0 L u) 0:=by
   simp only[firC.r0,AV.ren];rw[hσ _ (by omega)]
  rw[e];exact Q _
def Qug(k:Nat):Gp (List.replicate k (-1)):=by
 intro i x h
 have:=Ob (AZ h)
 omega
def Qj8: ∀(k i:Nat),i<k->(WZ k)[i]? =some (i:Int)
 |0,i,h=>by omega
 |k+1,i,h=>by
  simp only[WZ];by_cases z:i<k
  .rw[Dj (by rw[eT];exact z)];exact Qj8 k i z
  .have:i=k:=by omega
   subst this;rw[E3 (by rw[eT];exact AL _),eT,Gh];rfl
def OZ{k i:Nat}{bs:List Ag}(h:i<k):(Cn k bs 0)[i]? =some ((E0 (List.replicate k (-1)) i:Nat):Int):=by
 simp only[Cn];rw[Qj8 k i h]
 have:=Z8 (Qug k) (i:=i) (x:= -1) (by rw[Ls,Ai h])
 rw[this,Ai (by omega)]
def Qls{L:List Int}(h:Gp L): ∀(i:Nat),E0 L (E0 L i)=E0 L i:=by
 intro i;induction i using Nat.strongRecOn with
 |_ i ih=>
  cases hi:L[i]? with
  |none=>
   have:E0 L i=i:=by rw[E0];cases i<;>simp[NW,hi]
   rw[this,this]
  |some x=>
   have z:=h i x hi;rw[Z8 h hi];split
   .rename_i h0;rw[Z8 h hi,Ai h0]
   .exact ih x.toNat (by omega)
def Qsx{L:List Int}(h:Gp L){p q:Nat}(Q:p<q):Gp (L.set q (p:Int)):=by
 intro i x z;by_cases hq:q=i
 .subst hq;have O:q<L.length:=by have:=(BW.1 z).1;simpa using this
  rw[CY O] at z;obtain rfl:=Ay z;omega
 .rw[Dw hq] at z;exact h i x z
def Qqx{L:List Int}(h:Gp L){p q:Nat}(hp:E0 L p=p)(hq:E0 L q=q)(O:p<q)(Q:q<L.length): ∀(i:Nat),E0 (L.set q (p:Int)) i=if E0 L i=q then p else E0 L i:=by
 have h':=Qsx h O;intro i;induction i using Nat.strongRecOn with
 |_ i ih=>
  by_cases z:q=i
  .subst z;have e:(L.set q (p:Int))[q]? =some (p:Int):=CY Q;rw[Z8 h' e,Af (by omega),B8,ih p O,hp,Af (by omega),hq,Ai rfl]
  .have e:(L.set q (p:Int))[i]? =L[i]? :=Dw z;cases hi:L[i]? with
   |none=>
    have Z:E0 L i=i:=by rw[E0];cases i<;>simp[NW,hi]
    have r2:E0 (L.set q (p:Int)) i=i:=by rw[E0];cases i<;>simp[NW,e,hi]
    rw[Z,r2,Af (E5 z)]
   |some x=>
    have hx:=h i x hi;rw[hi] at e;rw[Z8 h' e,Z8 h hi];by_cases h0:x<0
    .rw[Ai h0,Ai h0,Af (E5 z)]
    .rw[Af h0,Af h0];exact ih x.toNat (by omega)
def Mb{x y:Nat}(h:x<y)(r:Nat):JC (x:Int) (y:Int) (r:Int)=((if r=y then x else r:Nat):Int)/\JC (y:Int) (x:Int) (r:Int)=((if r=y then x else r:Nat):Int):=by
 have m1:Ew (x:Int) y=y:=Af (by omega);have O:Ew (y:Int) x=y:=Ai (by omega);have Q:EW (x:Int) y=x:=Ai (by omega);have Z:EW (y:Int) x=x:=Af (by omega);simp only[JC,m1,O,Q,Z];by_cases z:r=y
 .rw[Ai z,Ai (by omega)];exact⟨rfl,rfl⟩
 .rw[Af z,Af (by omega)];exact⟨rfl,rfl⟩
def Yf(x r:Nat):JC (x:Int) (x:Int) (r:Int)=(r:Int):=by
 have m1:Ew (x:Int) x=x:=Af (by omega);have O:EW (x:Int) x=x:=Af (by omega);simp only[JC,m1,O];by_cases z:(r:Int)=x
 .rw[Ai z,z]
 .rw[Af z]
def VN(p:Int×Int):D×D:=(.int .i64 p.1,.int .i64 p.2)
def I6(M:List (Int×Int))(x:Int):Option Int:=(M.find? (λp=>p.1==x)).map (·.2)
def SU(x:Int): ∀(M:List (Int×Int)),lk (M.map VN) (.int .i64 x)=(I6 M x).map (D.int .i64)
 |[]=>rfl
 |(k,v)::r=>by
  have ih:=SU x r;simp only[I6] at ih;by_cases h:k=x
  .subst h;simp[lk,VN,I6,D.beq]
  .have z: ¬x=k:=λe=>h e.symm
   have O:(x==k)=false:=by simpa using z
   simp[lk,VN,I6,D.beq,h,O,ih]
def Yk(x:Int)(M:List (Int×Int))(Ks:D->Prop)(Kn:Prop):FS (M.map VN) (.int .i64 x) Ks Kn=((∀v,I6 M x=some v->Ks (.int .i64 v))/\(I6 M x=none->Kn)):=by
 apply propext;unfold FS;rw[SU];cases I6 M x<;>simp
def Nu(x v:Int): ∀(M:List (Int×Int)),I6 M x=none->Gy (M.map VN) (.int .i64 x) (.int .i64 v)=(M++[(x,v)]).map VN
 |[],_=>rfl
 |(k,w)::r,h=>by
  by_cases z:k=x
  .subst z;simp[I6] at h
  .have O: ¬x=k:=λe=>z e.symm
   have Z:I6 r x=none:=by simpa[I6,z] using h
   have ih:=Nu x v r Z;simp only[Bf,CO,VN] at ih⊢;have Q:(x==k)=false:=by simpa using O
   simp[Gy,D.beq,Q,ih,VN]
def Mj(M:List (Int×Int))(x v y:Int):I6 (M++[(x,v)]) y=(I6 M y).or (if x=y then some v else none):=by
 simp only[I6,List.find?_append];cases h:M.find? (λp=>p.1==y) with
 |some p=>simp
 |none=>
  by_cases z:x=y
  .subst z;simp
  .simp[z]
def Qld{own:List Int}{i:Nat}(h:own[i]? =some (i:Int)): ∀k,∃z,Dm own i (k+1)=(i:Int)::z
 |0=>⟨[],by simp[Dm,h]⟩
 |k+1=>by
  obtain⟨z,O⟩:=Qld h k;rw[Dm,O];exact⟨_,rfl⟩
def Qjv(own:List Int)(n:Nat): ∀k,k<=n-> ∀g∈B7 own n k,∃(r:Nat) (rest:List Int),g=(r:Int)::rest/\r<k/\own[r]? =some (r:Int)
 |0,_,g,h=>by simp[B7] at h
 |k+1,hk,g,h=>by
  simp only[B7,Bn] at h;rcases h with h|h
  .obtain⟨r,rest,Q,h2,Z⟩:=Qjv own n k (by omega) g h;exact⟨r,rest,Q,by omega,Z⟩
  .split at h
   .rename_i z;obtain rfl:=Bz.1 h;obtain⟨rest,O⟩:=Qld z (n - k - 1);rw[show n - k - 1+1=n - k by omega] at O;exact⟨k,rest,O,by omega,z⟩
   .cases h
def Qo6(own:List Int)(n:Nat)(r:Nat)(Q:own[r]? =some (r:Int)): ∀k,k<=n->r<k-> ∃z,((r:Int)::z)∈B7 own n k
 |0,_,h=>by omega
 |k+1,hk,h=>by
  by_cases O:r=k
  .subst O;obtain⟨z,O⟩:=Qld Q (n - r - 1);rw[show n - r - 1+1=n - r by omega] at O;exact⟨z,by simp[B7,Q,O]⟩
  .obtain⟨z,Z⟩:=Qo6 own n r Q k (by omega) (by omega);exact⟨z,by simp only[B7,Bn];exact .inl Z⟩
def Qy0(own:List Int)(n:Nat): ∀k,∀g∈B7 own n k,g.length<=n
 |0,g,h=>by simp[B7] at h
 |k+1,g,h=>by
  simp only[B7,Bn] at h;rcases h with h|h
  .exact Qy0 own n k g h
  .split at h
   .obtain rfl:=Bz.1 h
    have:=Qsd own k (n - k)
    omega
   .cases h
def O1{h:Nat->Option Ao}{b m:Nat}{G:List (List Int)}(H: ∀q,q<G.length->h (b+q)=some (true,.arr 2 1 ((G[q]?.getD []).map Al))):
 Ar (Ar λx=>Er (Ba h (HP 0 []) (m+1) x)) (Du b G.length)=some (G.map CX):=by
 have: ∀(l:List Nat),(∀q∈l,q<G.length)->Ar (Ar λx=>Er (Ba h (HP 0 []) (m+1) x)) (l.map λi=>[AV.own (b+i)])=some (l.map λq=>CX (G[q]?.getD [])):=by
  intro l;induction l with
  |nil=>intro _;rfl
  |cons q r ih=>
   intro Q;have h0:HP 0 [] (b+q)=none:=rfl;have O:=ih (λx Z=>Q x (BP _ Z));have e:Ar (λx=>Er (Ba h (HP 0 []) (m+1) x)) [AV.own (b+q)]=some (CX (G[q]?.getD [])):=by
    simp only[Ar,Ba,h0,H q (Q q (BM ..)),Qh,kp,D3,Er,AV.asD];rfl
   rw[Bf,Ar,e,O];rfl
 rw[Du,this _ (λq hq=>Bt.1 hq)];congr 1;apply Io;intro j;by_cases z:j<G.length
 .rw[CM,Iw z,CM,Bi z,D3,D3,Bi z,AP]
 .rw[E9 (by simp;omega),E9 (by simp;omega)]
def Jf(r:Int)(m:Nat)(g:List Int):List Int:=if g.head? =some r then g++[(m:Int)] else g
def Ql4(own:List Int)(m:Nat)(r:Int)(Z:own[m]? =some r): ∀k,k<=m->B7 own (m+1) k=(B7 own m k).map (Jf r m)
 |0,_=>rfl
 |k+1,hk=>by
  rw[B7,B7,ES,Ql4 own m r Z k (by omega)];congr 1;by_cases O:own[k]? =some (k:Int)
  .rw[Ai O,Ai O];obtain⟨aa,Q⟩:=Qld O (m - k - 1);rw[show m - k - 1+1=m - k by omega] at Q;have e:Dm own k (m+1 - k)=Dm own k (m - k)++(if own[m]? =some (k:Int) then [(m:Int)] else []):=by
    rw[show m+1 - k=(m - k)+1 by omega,Dm,show k+(m - k)=m by omega]
   rw[e,Z];simp only[Bf,F9,Jf,Q,Zfd,AI];by_cases z:r=(k:Int)
   .rw[Ai z,Ai z.symm]
   .rw[Af z,Af (E5 z),D2]
  .rw[Af O,Af O];rfl
structure vB(out:List (List Int))(M:List (Int×Int)):Prop where
 a: ∀r v,I6 M r=some v-> ∃(g:Nat) (rest:List Int),v=g/\out[g]? =some (r::rest)
 b: ∀(g:Nat) (r:Int) (rest:List Int),out[g]? =some (r::rest)->I6 M r=some (g:Int)
def S8{own:List Int}{i:Nat}{M:List (Int×Int)}{r:Nat}(hP:vB (B7 own i i) M)(ho:own[i]? =some (r:Int))(hr:r<=i)(ab:own[r]? =some (r:Int))(hn:I6 M r=none):
 r=i/\B7 own (i+1) (i+1)=B7 own i i++[[(i:Int)]]/\vB (B7 own (i+1) (i+1)) (M++[((i:Int),((B7 own i i).length:Int))]):=by
 have aa:r=i:=by
  by_cases h:r<i
  .obtain⟨z,hm⟩:=Qo6 own i r ab i (by omega) h;obtain⟨g,O⟩:=JK.1 hm;rw[hP.b g _ _ O] at hn;cases hn
  .omega
 subst aa;have e:B7 own (r+1) (r+1)=B7 own r r++[[(r:Int)]]:=by
  rw[B7,Ql4 own r r ho r (AL _),Ai ho];congr 1
  .conv=>rhs;rw[<-List.map_id (B7 own r r)]
   apply JJ;intro g O;obtain⟨q,z,Z,h2,_⟩:=Qjv own r r (AL _) g O;simp only[Jf,Z,Zfd,AI,id];rw[Af (by omega)]
  .rw[show r+1 - r=0+1 by omega];simp[Dm,ho]
 refine⟨rfl,e,?_⟩;rw[e];refine⟨λq v Q=> ?_,λg q z O=> ?_⟩
 .rw[Mj] at Q;cases hq:I6 M q with
  |some w=>
   rw[hq] at Q;obtain rfl:=Ay Q;obtain⟨g,z,Z,h2⟩:=hP.a q _ hq;exact⟨g,z,Z,by rw[Dj (BW.1 h2).1];exact h2⟩
  |none=>
   rw[hq] at Q;simp only[Zfs] at Q;split at Q
   .rename_i h;obtain rfl:=Ay Q;exact⟨_,[],rfl,by rw[E3 (AL _),Gh,<-h];rfl⟩
   .cases Q
 .rw[Mj];by_cases hl:g<(B7 own r r).length
  .rw[Dj hl] at O;rw[hP.b g q z O];rfl
  .rw[E3 (by omega)] at O;have h0:g - (B7 own r r).length=0:=by
    have:=(BW.1 O).1
    simpa using this
   rw[h0] at O;simp only[G6,AI,VG] at O;rw[<-O.1,hn,Ai rfl,Zfs];congr 1;omega
def S9{own:List Int}{i:Nat}{M:List (Int×Int)}{r:Int}{g:Nat}{rest:List Int}(hP:vB (B7 own i i) M)(ho:own[i]? =some r)(Z:(B7 own i i)[g]? =some (r::rest)):
 B7 own (i+1) (i+1)=(B7 own i i).set g (r::rest++[(i:Int)])/\vB (B7 own (i+1) (i+1)) M:=by
 have ab:r≠i:=by
  obtain⟨q,rs,h1,O,_⟩:=Qjv own i i (AL _) _ (AZ Z)
  have:=(Zfw h1).1
  omega
 have e:B7 own (i+1) (i+1)=(B7 own i i).set g (r::rest++[(i:Int)]):=by
  rw[B7,Ql4 own i r ho i (AL _),Af (by rw[ho];simpa using ab),D2];apply Io;intro j;rw[CM];by_cases Q:g=j
  .subst Q;rw[CY (BW.1 Z).1,Z];simp[Jf]
  .rw[Dw Q];cases hx:(B7 own i i)[j]? with
   |none=>rfl
   |some x=>
    simp only[D3,Jf];rw[Af];intro hh;cases x with
    |nil=>cases hh
    |cons q rs=>
     simp only[Zfd,AI] at hh;subst hh;have h1:=hP.b j _ _ hx;have O:=hP.b g _ _ Z;rw[h1] at O
     have:=Ay O
     omega
 refine⟨e,?_⟩;rw[e];have aa:=(BW.1 Z).1;refine⟨λq v hv=> ?_,λg' q rs z=> ?_⟩
 .obtain⟨j,rs,h1,O⟩:=hP.a q v hv;by_cases Q:g=j
  .subst Q;rw[Z] at O;simp only[AI,VG] at O;exact⟨g,rest++[(i:Int)],h1,by rw[CY aa,O.1];rfl⟩
  .exact⟨j,rs,h1,by rw[Dw Q];exact O⟩
 .by_cases Q:g=g'
  .subst Q;rw[CY aa] at z;simp only[AI,CO,VG] at z;rw[<-z.1];exact hP.b g _ _ Z
  .rw[Dw Q] at z;exact hP.b g' _ _ z
def EV(b:Nat)(G:List (List Int)):Ap:=AQ b G.length (λi=>(true,.arr 2 1 ((G[i]?.getD []).map Al)))
def S5(b N:Nat)(G:List (List Int))(h:b+G.length<=N):Aw N (EV b G)=true:=Qt5 _ _ _ _ λi z=>by simp[Aw]
def S6(b N:Nat)(G:List (List Int))(h:b+G.length<=N):B9 N (EV b G)=true:=QP _ _ _ _ h
def yL{π:List (Nat×Option Nat)}{b n k:Nat}(h: ∀i,i<k->pm π (b+i)=some (b+i)):Gq π (Ko b n k) (Ko b n k):=by
 rw[fK];refine⟨rfl,λi x y z Z=> ?_⟩;rw[z] at Z;obtain rfl:=Ay Z;have O:i<n:=by have:=(BW.1 z).1;rwa [Z0] at this
 rw[Qj7 _ _ _ _ O] at z;obtain rfl:=Ay z;split
 .rename_i Q;simp only[DL,mt,h i Q,GS,Hb]
 .simp only[DL,mt,Hb]
def OR(A:List Nat)(b n c m:Nat)(h:A.Nodup)(hA: ∀x∈A,(x<b\/b+n<=x)/\(x<c\/c+m<=x))(aa:b+n<=c):(A++((List.range n).map (b+ ·)++(List.range m).map (c+ ·))).Nodup:=by
 have Z: ∀b n,((List.range n).map (b+ ·)).Nodup:=λb n=>by have:=eN [] b n (by simp) (by simp);simpa using this
 rw[Xg];refine⟨h,?_,λx Q y z=> ?_⟩
 .rw[Xg];refine⟨Z _ _,Z _ _,λx Q y z=> ?_⟩;obtain⟨i,hi,rfl⟩:=Bo.1 Q;obtain⟨j,O,rfl⟩:=Bo.1 z
  have:=Bt.1 hi
  omega
 .have:=hA x Q
  rcases Bn.1 z with z|z
  .obtain⟨j,O,rfl⟩:=Bo.1 z
   have:=Bt.1 O
   omega
  .obtain⟨j,O,rfl⟩:=Bo.1 z
   have:=Bt.1 O
   omega
def Qyb(b:Nat)(G:List (List Int))(g:Nat)(h:g<G.length):hget (EV b G) (b+g)=some (true,.arr 2 1 ((G[g]?.getD []).map Al)):=GL _ _ _ _ h
def XU(b k:Nat)(L:List Int)(m:Nat)(h:m<b\/b+k<=m):hget (EC b L k) m=none:=Qmh _ _ _ _ h
def Qnb(k:Nat)(L:List Int)(G:List (List Int))(i:Nat)(h:i<k):hget (EC 1000 L k++EV 3000 G) (1000+i)=some (Hu 1000 L i):=by
 rw[IP,Kk _ _ _ _ h];rfl
def Qne(k:Nat)(L:List Int)(G:List (List Int))(g:Nat)(z:k<=512)(h:g<G.length):hget (EC 1000 L k++EV 3000 G) (3000+g)=some (true,.arr 2 1 ((G[g]?.getD []).map Al)):=by
 rw[IP,XU _ _ _ _ (by omega),Qyb _ _ _ h];rfl
def SM(k:Nat)(L:List Int)(G:List (List Int)):Fl (EC 1000 L k++EV 3000 G)=(List.range k).map (1000+ ·)++(List.range G.length).map (3000+ ·):=by
 rw[Qpf,EC,EV,ZB,ZB]
def gI(k:Nat)(L:List Int)(i:Nat)(M:List (Int×Int))(G:List (List Int)):Av:=⟨[(81,.im (.int .i64 i)),(80,.im (.int .i64 k)),(79,.own 2),(12,.mp 2001),(11,.own 2100)],(2001,(true,.map {agg:=false,ks:=[KK.int .i64]} (M.map VN)))::(2100,(true,.arrA 31 1 (Du 3000 G.length)))::(2,(true,.arrA 314 1 (Ko 1000 k k)))::(EC 1000 L k++EV 3000 G),4000⟩
def XR{k:Nat}{L:List Int}{i:Nat}{M:List (Int×Int)}{G:List (List Int)}(O:k<=512)(z:G.length<=512):(gI k L i M G).good=true:=by
 simp only[gI,Av.good,Aw,B9,tV,Qmd,uN 1000 k 4000 _ (by omega),Qlg 1000 k k 4000 (by omega),Qnw 1000 k 4000 _ (by omega),W8 3000 G.length 4000 (by omega),S5 3000 4000 G (by omega),S6 3000 4000 G (by omega)];simp[CF,AV.bel]
def Qxg{π:List (Nat×Option Nat)}{s:Av}{k:Nat}{L:List Int}{i:Nat}{M:List (Int×Int)}{G:List (List Int)}{O:Nat}{T:Nat->Nat}(hk:k<=512)(hG:G.length<=512)
 (ac:VL 2002 π)(p1:pm π 2001=some 2001)(p2:pm π 2=some 2)(p3: ∀j,j<k->pm π (1000+j)=some (1000+j))(p4:pm π 2100=some O)(p5: ∀q,q<G.length->pm π (3000+q)=some (T q))
 (t1:A8 s.tm 81= .im (.int .i64 i))(t2:A8 s.tm 80= .im (.int .i64 k))(t3:A8 s.tm 79= .own 2)(t4:A8 s.tm 12= .mp 2001)(t5:A8 s.tm 11= .own O)
 (g1:hget s.h 2001=some (true,.map {agg:=false,ks:=[KK.int .i64]} (M.map VN)))(g2:hget s.h 2=some (true,.arrA 314 1 (Ko 1000 k k)))(g3: ∀j,j<k->hget s.h (1000+j)=some (Hu 1000 L j))
 (g4:(G.length=0/\hget s.h O=some (true,.arr 31 1 []))\/hget s.h O=some (true,.arrA 31 1 ((List.range G.length).map λq=>[.own (T q)])))
 (g5: ∀q,q<G.length->hget s.h (T q)=some (true,.arr 2 1 ((G[q]?.getD []).map Al)))
 (inj: ∀q q',q<G.length->q'<G.length->T q=T q'->q=q')(out: ∀q,q<G.length->T q≠O/\3000<=T q)(hO:2000<=O/\O≠2001):Aq 2002 π s (gI k L i M G):=by
 refine⟨ac,?_,?_,?_⟩
 .rw[fD];simp only[gI,Fl,SM];have ab: ∀x∈[2001,2100,2]++((List.range k).map (1000+ ·)++(List.range G.length).map (3000+ ·)),(x=2001/\pm π x=some 2001)\/(x=2/\pm π x=some 2)\/(x=2100/\pm π x=some O)\/(1000<=x/\x<1000+k/\pm π x=some x)\/(3000<=x/\x<3000+G.length/\pm π x=some (T (x - 3000))):=by
   intro x z;rcases Bn.1 z with z|z
   .simp only[Bh,aO,VJ] at z;rcases z with rfl|rfl|rfl
    .exact .inl ⟨rfl,p1⟩
    .exact .inr (.inr (.inl ⟨rfl,p4⟩))
    .exact .inr (.inl ⟨rfl,p2⟩)
   .rcases Bn.1 z with z|z
    .obtain⟨j,Q,rfl⟩:=Bo.1 z;have Q:=Bt.1 Q;exact .inr (.inr (.inr (.inl ⟨by show 1000<=1000+j;omega,by show 1000+j<1000+k;omega,p3 j Q⟩)))
    .obtain⟨j,Q,rfl⟩:=Bo.1 z;have Q:=Bt.1 Q;exact .inr (.inr (.inr (.inr ⟨by show 3000<=3000+j;omega,by show 3000+j<3000+G.length;omega,by show pm π (3000+j)=some (T (3000+j - 3000));rw[show 3000+j - 3000=j by omega];exact p5 j Q⟩)))
  refine fJ _ _ (OR [2001,2100,2] 1000 k 3000 G.length (by simp) (by simp;omega) (by omega)) ?_;intro x z y hy m Z aa;rcases ab x z with ⟨a1,a2⟩|⟨a1,a2⟩|⟨a1,a2⟩|⟨a0,a1,a2⟩|⟨a0,a1,a2⟩<;>rcases ab y hy with ⟨b1,b2⟩|⟨b1,b2⟩|⟨b1,b2⟩|⟨b0,b1,b2⟩|⟨b0,b1,b2⟩<;>
   rw[a2] at Z<;>rw[b2] at aa<;>have Z:=Ay Z<;>have aa:=Ay aa<;>first
   |omega
   |(have:=out (x - 3000) (by omega);omega)
   |(have:=out (y - 3000) (by omega);omega)
   |(have:=inj (x - 3000) (y - 3000) (by omega) (by omega) (Z.trans aa.symm);omega)
 .simp only[gI,Qm,t1,t2,t3,t4,t5,mt,p2,p1,p4,FG,GS,Hb]
 .simp only[gI,GU,Qns,p1,p2,p4,Et,g1,g2];refine⟨⟨rfl,rfl⟩,?_,⟨rfl,rfl,rfl,yL p3⟩,?_,?_⟩
  .rcases g4 with ⟨h0,h1⟩|h1
   .rw[h1,h0];exact⟨rfl,rfl,rfl,trivial⟩
   .rw[h1];exact⟨rfl,rfl,rfl,Qyn p5 rfl⟩
  .rw[EC,eW];intro j Q;rw[p3 j Q,Et,g3 j Q];refine⟨rfl,?_⟩;simp only[Hu,EL,DL,mt,Hb,gZ,Xp];simp only[Me];split
   .simp only[mt,p3 _ (show (L[j]?.getD (-1)).toNat<k by omega),GS]
   .rfl
  .rw[EV,eW];intro q hq;rw[p5 q hq,Et,g5 q hq];exact⟨rfl,rfl⟩
def S7(a:Int×List Ag):Prop:=0<=a.1/\a.1<=512/\Ll a.1 a.2/\a.2.length<=1000000
def groupsBy_.fv(a:Int×(List Ag)):List (List Int):=(V2) (a.1) (a.2)
def groupsBy_.row:A7:=vK (b2 qI (qS Ag.d_le Ag.c_n)) (rS tS MU) (λa=>S7 (a.1,a.2)) groupsBy_.fv
def groupsBy_.q:=AY (R:=groupsBy_.row) rfl
def groupsBy_.ok:AC 215 groupsBy_.row:=by
 refine vw (tC firC.ok tN) Tryz.func215 ?_;intro a a8;simp only[Tryz.f215];simp(disch:=omega)only[ZA,simprocAttr,groupsBy_.fv];obtain⟨h0,h1,aw,hl⟩:=a8;obtain⟨n,hn⟩: ∃n:Nat,a.1=n:=⟨a.1.toNat,by simp only at h0;omega⟩;obtain⟨bs,hbsd⟩: ∃bs,bs=a.2:=⟨_,rfl⟩;simp only[hn,<-hbsd,B8] at h0 h1 aw hl⊢;refine⟨h0,Oe _,by omega,λ_=> ?_⟩;rw[Oc];refine AT.ren ⟨{k:Nat//k<=n},λk=>⟨[(21,.im (.int .i64 k.1)),(20,.im (.int .i64 n)),(19,.own 2),(5,.own 2),(0,.im (.int .i64 n)),(1,.im (.sl false 3 (bs.map Ag.c)))],(2,(true,.arrA 314 1 (Ko 1000 n k.1)))::EC 1000 (List.replicate n (-1)) k.1,2000⟩,λk=>n - k.1,λk=>⟨?_,by simp⟩,⟨⟨0,by simp⟩,[(2,some 1)],?_⟩,λk=> ?_⟩
 .simp only[Av.good,Aw,B9,uN 1000 k.1 2000 _ (by omega),Qlg 1000 n k.1 2000 (by omega),Qnw 1000 k.1 2000 _ (by omega)];simp[CF,AV.bel]
 .simp only[Aq,EC,AQ,Zff,F9];simp(disch:=omega)only[ZA,simprocAttr];exact Po _ _ _
 obtain⟨k,bd⟩:=k;simp(disch:=omega)only[ZA,simprocAttr,AO,Br,Z0];refine⟨λhk=>⟨hk,hk,?_⟩,λhk=> ?_⟩
 .simp(disch:=omega)only[ZA,simprocAttr,Br,Qtr,ZeV];refine⟨?_,⟨k+1,by omega⟩,[(1000+k,some 2000)],by simp only;omega,?_⟩
  .rw[CA];intro r hr;rcases Xk hr with hr|hr
   .exact CA.1 (Qlg 1000 n k 2001 (by omega)) r hr
   .subst hr;simp[AF,AV.bel]
  have qi: ∀i,i≠1000+k->pm [(1000+k,some 2000)] i=some i:=by intro i z;simp only[pm];rw[Af (by omega)]
  have qk:pm [(1000+k,some 2000)] (1000+k)=some 2000:=by simp only[pm];rw[Ai trivial]
  obtain⟨π,hπ⟩: ∃π,π=[(1000+k,some 2000)]:=⟨_,rfl⟩;rw[<-hπ] at qi qk⊢;refine⟨by rw[hπ];exact⟨by omega,trivial⟩,?_,?_,?_⟩
  .rw[fD,hπ];simp only[Fl,EC,ZB];refine fJ _ _ (eN [2] 1000 (k+1) (by simp) (by simp)) ?_;intro x hx y hy m aq ag;have bj:x<2000:=by
    rcases Bh.1 hx with hx|hx
    .omega
    .obtain⟨i,z,rfl⟩:=Bo.1 hx
     have:=Bt.1 z
     show 1000+i<2000;omega
   have bl:y<2000:=by
    rcases Bh.1 hy with hy|hy
    .omega
    .obtain⟨i,z,rfl⟩:=Bo.1 hy
     have:=Bt.1 z
     show 1000+i<2000;omega
   simp only[pm] at aq ag;split at aq<;>split at ag<;>simp only[AI] at aq ag<;>omega
  .simp only[Qm,A8];simp(disch:=omega)only[ZA,simprocAttr,qi 2 (by omega)];rw[AD (by omega) (by omega)];omega
  .simp only[GU,EC,eW];refine⟨?_,λi z=> ?_⟩
   .simp(disch:=omega)only[ZA,simprocAttr,qi 2 (by omega)];rw[fK];refine⟨by simp[Z0],λi x y hx hy=> ?_⟩;have ax:i<n:=by have:=(BW.1 hx).1;rwa [Z0] at this
    rw[Qj7 _ _ _ _ ax] at hx;obtain rfl:=Ay hx;by_cases ad:k=i
    .subst ad;rw[CY (by rw[Z0];exact hk)] at hy;obtain rfl:=Ay hy;rw[Ai (by omega)];simp only[DL,mt,qk,GS,Hb]
    .rw[Dw ad,Qj7 _ _ _ _ ax] at hy;obtain rfl:=Ay hy;by_cases az:i<k
     .rw[Ai (by omega),Ai az];simp only[DL,mt,qi (1000+i) (by omega),GS,Hb]
     .rw[Af (by omega),Af az];simp only[DL,mt,Hb]
   .have hg: ∀i,i<n->(List.replicate n (-1:Int))[i]?.getD (-1)= -1:=by
     intro i z;rw[Ls,Ai z,AP]
    have ay:Me 1000 i (-1)= .im .nilp:=by simp only[Me];rw[Af (by omega)]
    simp only[Hu,hg i (by omega),ay];by_cases ad:i=k
    .subst ad;rw[qk];simp(disch:=omega)only[ZA,simprocAttr]
    .rw[qi (1000+i) (by omega)];have h9:=Kk 1000 k (List.replicate n (-1)) i (by omega);simp only[Hu,hg i (by omega),ay,EC] at h9;simp (disch:=omega) only[Et,hget,AW,Bm,WA,gG,gS,Qo,CE,Cr];rw[h9];simp only[K4,EL,DL,mt,Hb]
 .intro _;have be:k=n:=by omega
  subst be;clear hk bd;refine AT.old ⟨{s:Nat×List Int//s.1<=bs.length/\s.2.length=k/\Gp s.2/\ ∀i,i<k->(Cn k bs s.1)[i]? =some ((E0 s.2 i:Nat):Int)},λs=>⟨[(33,.im (.int .i64 s.1.1)),(32,.im (.int .i64 bs.length)),(31,.im (.sl false 3 (bs.map Ag.c))),(5,.own 2),(0,.im (.int .i64 k))],(2,(true,.arrA 314 1 (Ko 1000 k k)))::EC 1000 s.1.2 k,2000⟩,λs=>bs.length - s.1.1,λs=>⟨?_,by simp⟩,⟨⟨(0,List.replicate k (-1)),by simp only;omega,by simp,Qug k,λi z=>OZ z⟩,?_⟩,λs=> ?_⟩
  .simp only[Av.good,Aw,B9,uN 1000 k 2000 _ (by omega),Qlg 1000 k k 2000 (by omega),Qnw 1000 k 2000 _ (by omega)];simp[CF,AV.bel]
  .simp only[sub,Gx,A8];refine⟨?_,?_⟩
   .simp(disch:=omega)only[ZA,simprocAttr]
   .simp only[Ci];refine⟨rfl,uR λi z=> ?_⟩;simp only[hget,AW _ _ (show 2≠1000+i by omega),Bm];exact Kk _ _ _ _ z
  obtain⟨⟨j,L⟩,i1,i2,i3,i4⟩:=s;simp only at i1 i2 i3 i4;simp(disch:=omega)only[ZA,simprocAttr,AO,Br,Z0];refine⟨λhj=>⟨hj,λb hb=> ?_⟩,λhj=> ?_⟩
  .obtain⟨b1,b2,b3,b4⟩:=aw b (AZ hb);obtain⟨u,hu⟩: ∃u:Nat,b.A=u:=⟨b.A.toNat,by omega⟩;obtain⟨w,hw⟩: ∃w:Nat,b.B=w:=⟨b.B.toNat,by omega⟩;have ak:u<k:=by omega
   have ah:w<k:=by omega
   have bh:=Qnj i3 u;have bi:=Qnj i3 w;simp only[hu,hw,B8];refine⟨by omega,by omega,ak,?_⟩;simp(disch:=omega)only[ZA,simprocAttr,Br,Qtr,Ai ak,xC];have hH: ∀(e Z:Ao) (i:Nat),i<k->hget ((2000,e)::(2,Z)::Bj (EC 1000 L k) [2000]) (1000+i)=some (Hu 1000 L i):=by
    intro e Z i z;have h9:=Kk 1000 k L i z;simp (disch:=omega) only[hget,AW,Bm,WA,gG,gS,Qo,CE,Cr,h9]
   refine⟨by omega,Qtp (nx:=2001) i2 (by omega) i3 ak (by decide) (hH _ _) (λU=> ?_)⟩;simp(disch:=omega)only[ZA,simprocAttr,Br,Z0,Qtr,Ai ah,xC];refine⟨by omega,ah,ah,by omega,Ai (.inl (by omega)),Qtp (nx:=2001) i2 (by omega) i3 ah (by decide) (hH _ _) (λU2=> ?_)⟩;obtain⟨x,hx⟩: ∃x,x=E0 L u:=⟨_,rfl⟩;obtain⟨y,hy⟩: ∃y,y=E0 L w:=⟨_,rfl⟩;rw[<-hx] at bh⊢;rw[<-hy] at bi⊢;have gx:=Kk 1000 k L x (by omega);have gy:=Kk 1000 k L y (by omega);simp only[Hu] at gx gy;simp(disch:=omega)only[ZA,simprocAttr,sub,AO,Br,WM,AW,Lj,gx,gy,aT (show 1000+x<2001 by omega),aT (show 1000+y<2001 by omega)];have ba:E0 L x=x:=by rw[hx];exact Qls i3 u
   have bb:E0 L y=y:=by rw[hy];exact Qls i3 w
   have ou:=i4 u ak;have ow:=i4 w ah;rw[<-hx] at ou;rw[<-hy] at ow;have hS:Cn k bs (j+1)=(Cn k bs j).map (JC (x:Int) (y:Int)):=by
    simp only[Cn,hb,uP,hu,hw,B8,ou,ow,AP]
   have ac: ∀(p q:Nat),p<q->q<k-> ∀(i:Nat),i<k->Hu 1000 (L.set q (p:Int)) i=if i=q then (true,.cells 316 [.ptr (1000+p) 0,.im (.int .i64 q)]) else Hu 1000 L i:=by
    intro p q a0 hq i z;simp only[Hu];by_cases h:i=q
    .subst h;rw[Ai rfl,CY (by omega),AP];simp only[Me];rw[Ai ⟨by omega,by omega⟩,B8]
    .rw[Af h,Dw (E5 h)]
   have af: ∀(p q:Nat),p<q->q<k-> ∀(e Z:Ao) (tm:List (Nat×AV)),Ci ⟨tm,(1000+q,(true,.cells 316 [.ptr (1000+p) 0,.im (.int .i64 q)]))::(2000,e)::(2,Z)::Bj (Bj (EC 1000 L k) [2000]) [1000+q],2001⟩ (EC 1000 (L.set q (p:Int)) k):=by
    intro p q a0 hq e Z tm;refine uR λi z=> ?_
    rw[ac p q a0 hq i z];by_cases h:i=q
    .subst h;simp only[hget,aP,BX,BI]
    .rw[Af h];have h9:=Kk 1000 k L i z;simp (disch:=omega) only[hget,AW,Bm,Lj,h9]
   refine⟨λai=>⟨⟨(j+1,L.set y (x:Int)),by simp only;omega,by simp only[EA];exact i2,Qsx i3 ai,λi z=> ?_⟩,by simp only;omega,by rw[AD (by omega) (by omega)];simp only;omega,af x y ai (by omega) _ _ _⟩,λai=>⟨λaj=>⟨⟨(j+1,L.set x (y:Int)),by simp only;omega,by simp only[EA];exact i2,Qsx i3 aj,λi z=> ?_⟩,by simp only;omega,by rw[AD (by omega) (by omega)];simp only;omega,af y x aj (by omega) _ _ _⟩,λaj=>⟨⟨(j+1,L),by simp only;omega,i2,i3,λi z=> ?_⟩,by simp only;omega,by rw[AD (by omega) (by omega)];simp only;omega,?_⟩⟩⟩
   .rw[hS,CM,i4 i z,D3,Qqx i3 ba bb ai (by omega) i,(Mb ai _).1]
   .rw[hS,CM,i4 i z,D3,Qqx i3 bb ba aj (by omega) i,(Mb aj _).2]
   .rw[hS,CM,i4 i z,D3,show y=x by omega,Yf]
   .refine uR λi z=> ?_
    have h9:=Kk 1000 k L i z;simp (disch:=omega) only[hget,AW,Bm,Lj,h9]
  .have bc:j=bs.length:=by omega
   subst bc;obtain⟨own,hown⟩: ∃own,own=Cn k bs bs.length:=⟨_,rfl⟩;rw[<-hown] at i4;intro _;refine AT.ren ⟨{s:Nat×List (Int×Int)//s.1<=k/\vB (B7 own s.1 s.1) s.2},λs=>gI k L s.1.1 s.1.2 (B7 own s.1.1 s.1.1),λs=>k - s.1.1,λs=>⟨?_,by simp[gI]⟩,⟨⟨(0,[]),by simp only;omega,?_⟩,[(2100,some 2000)],?_⟩,λs=> ?_⟩
   .have ab:=tL own s.1.1 s.1.1;have hs:=s.2.1;exact XR (by omega) (by omega)
   .exact⟨λr v h=>(by cases h),λg r am h=>(by simp[B7] at h)⟩
   .refine Qxg (O:=2000) (T:=λq=>3000+q) (by omega) (by simp[B7]) ⟨by omega,trivial⟩ rfl rfl (λj hj=> ?_) rfl (λq hq=>(by simp[B7] at hq)) rfl rfl rfl rfl rfl rfl rfl (λj hj=> ?_) (.inl ⟨rfl,rfl⟩) (λq hq=>(by simp[B7] at hq)) (λq q' hq=>(by simp[B7] at hq)) (λq hq=>(by simp[B7] at hq)) (by omega)
    .simp only[pm];rw[Af (by omega)]
    .have h9:=Kk 1000 k L j hj;simp (disch:=omega) only[hget,AW,Bm,h9]
   obtain⟨⟨i,M⟩,q1,q2⟩:=s;simp only at q1 q2;simp only[gI];have an:=tL own i i;simp(disch:=omega)only[ZA,simprocAttr,AO,Br,Z0];refine⟨λz=>⟨z,z,?_⟩,λz=> ?_⟩
   .simp(disch:=omega)only[ZA,simprocAttr,Br,Qtr,Ai z];have hH: ∀(e1 Z e3:Ao) (j:Nat),j<k->hget ((2001,e1)::(2100,Z)::(2,e3)::(EC 1000 L k++EV 3000 (B7 own i i))) (1000+j)=some (Hu 1000 L j):=by
     intro e1 Z e3 j hj;have h9:=Qnb k L (B7 own i i) j hj;simp (disch:=omega) only[hget,AW,Bm,h9]
    have ho:=i4 i z;obtain⟨r,hr⟩: ∃r,r=E0 L i:=⟨_,rfl⟩;have bf:r<=i:=by rw[hr];exact Qnj i3 i
    have bg:own[r]? =some (r:Int):=by
     have:=i4 r (by omega)
     rwa [hr,Qls i3 i,<-hr] at this
    rw[<-hr] at ho;have gr:=Qnb k L (B7 own i i) r (by omega);simp only[Hu] at gr;refine⟨by omega,by omega,by omega,Qtp (nx:=4000) i2 (by omega) i3 z (by omega) (hH _ _ _) (λU=> ?_)⟩;rw[<-hr];simp(disch:=omega)only[ZA,simprocAttr,WM,Br,II,AW,gr,Yk,aT (show 1000+r<4000 by omega)];refine⟨λv hv=> ?_,λhn=> ?_⟩
    .obtain⟨g,am,rfl,hg⟩:=q2.a _ v hv;have ab:=(BW.1 hg).1;have an:=tL own i i;have gg:=Qne k L (B7 own i i) g (by omega) ab;rw[hg,AP] at gg;simp(disch:=omega)only[ZA,simprocAttr,WM,Br,II,AW,gg,Qxa];obtain⟨e1,Z⟩:=S9 q2 ho hg;obtain⟨G,hG⟩: ∃G,G=B7 own i i:=⟨_,rfl⟩;rw[<-hG] at hg ab an e1 gg⊢;have ac:(Du 3000 G.length).set g [AV.own 4001]=(List.range G.length).map λq=>[AV.own (if q=g then 4001 else 3000+q)]:=by
      apply Io;intro j;rw[CM];by_cases hj:j<G.length
      .rw[Iw hj];by_cases h:g=j
       .subst h;rw[CY (by rw[II];exact ab)];simp
       .rw[Dw h,Qo7 _ _ _ hj,D3,Af (E5 h)]
      .rw[E9 (by simp[II];omega),E9 (by simp;omega)];rfl
     refine⟨ab,ab,by omega,?_,by omega,?_,ab,ab,?_,⟨(i+1,M),by simp only;omega,Z⟩,[(3000+g,some 4001)],by simp only;omega,?_⟩
     .intro row Q;obtain rfl:=Bz.1 Q;rfl
     .have h6:(r::am:List Int).length<=1000:=DH (by rw[hG] at hg;exact Qy0 own i i _ (AZ hg)) (by omega);simp only[Cv] at h6;omega
     .rw[CA];intro row Q;rcases Xk Q with hr|hr
      .exact CA.1 (W8 3000 G.length 4002 (by omega)) row hr
      .subst hr;simp[AF,AV.bel]
     have pn: ∀m,m≠3000+g->pm [(3000+g,some 4001)] m=some m:=by intro m hm;simp only[pm];rw[Af (E5 hm)]
     simp only[e1];rw[AD (by omega) (by omega)];have hh: ∀(e1 Z e3 e4 e5:Ao) (m:Nat),hget ((2100,e1)::(4001,Z)::(4000,e3)::(2001,e4)::(2,e5)::Bj (Bj (EC 1000 L k++EV 3000 G) [3000+g]) [2100]) m=if m=2100 then some e1 else if m=4001 then some Z else if m=4000 then some e3 else if m=2001 then some e4 else if m=2 then some e5 else if m=3000+g then none else hget (EC 1000 L k++EV 3000 G) m:=by
      intro e1 Z e3 e4 e5 m;simp only[hget,WA,gG,gS,Qo,Qs,ZeW];by_cases h1:m=2100
      .subst h1;simp
      by_cases h2:m=4001
      .subst h2;simp
      by_cases h3:m=4000
      .subst h3;simp
      by_cases h4:m=2001
      .subst h4;simp
      by_cases h5:m=2
      .subst h5;simp
      simp only[Af h1,Af h2,Af h3,Af h4,Af h5,Af (E5 h1),Af (E5 h2),Af (E5 h3),Af (E5 h4),Af (E5 h5)]
     refine Qxg (O:=2100) (T:=λq=>if q=g then 4001 else 3000+q) (by omega) (by rw[EA];omega) ⟨by omega,trivial⟩ (pn _ (by omega)) (pn _ (by omega)) (λj hj=>pn _ (by omega)) (pn _ (by omega)) (λq hq=> ?_) rfl rfl rfl rfl rfl ?_ ?_ (λj hj=> ?_) (.inr ?_) (λq hq=> ?_) (λq q' hq=> ?_) (λq hq=> ?_) (by omega)
     .by_cases h:q=g
      .subst h;simp[pm]
      .rw[pn _ (by omega),Af h]
     .rw[hh];rfl
     .rw[hh];rfl
     .rw[hh,Af (by omega),Af (by omega),Af (by omega),Af (by omega),Af (by omega),Af (by omega)];exact Qnb _ _ _ _ hj
     .rw[hh,Ai rfl,ac,EA]
     .rw[EA] at hq;rw[hh];by_cases h:q=g
      .subst h;rw[Ai rfl,Af (by omega),Ai rfl,CY ab,AP];simp[Al]
      .rw[Af h,Af (by omega),Af (by omega),Af (by omega),Af (by omega),Af (by omega),Af (by omega),Dw (E5 h)];exact Qne _ _ _ _ (by omega) hq
     .rw[EA] at hq;intro au he;rw[EA] at au;by_cases h:q=g<;>by_cases h2:q'=g<;>simp only[h,h2,BI,Cr] at he⊢ <;>omega
     .rw[EA] at hq;by_cases h:q=g<;>simp only[h,BI,Cr]<;>omega
    .obtain⟨a9,e1,Z⟩:=S8 q2 ho bf bg hn;have Q:(Du 3000 (B7 own i i).length++[[AV.im (D.sl true 0 [])]])[(B7 own i i).length]? =some [AV.im (D.sl true 0 [])]:=by
      rw[E3 (by rw[II];exact AL _),II,Gh];rfl
     have av: ∀N,4000<=N->(Du 3000 (B7 own i i).length++[[AV.im (D.sl true 0 [])]]).all (AF N)=true:=by
      intro N hN;rw[nJ,W8 _ _ _ (by omega)];rfl
     intro _;refine⟨?_,by omega,av _ (by omega),by simp[II],by simp[II],JB Q ?_⟩
     .intro row Q;obtain rfl:=Bz.1 Q;rfl
     have ac:(Du 3000 (B7 own i i).length++[[AV.im (D.sl true 0 [])]]).set (B7 own i i).length [AV.own 4003]=Du 3000 (B7 own i i).length++[[AV.own 4003]]:=by
      have: ∀(l:List (List AV)) n x y,l.length=n->(l++[x]).set n y=l++[y]:=by
       intro l n x y h;subst h;rw[nE _ _ (AL _),Gh];rfl
      exact this _ _ _ _ (II _ _)
     have ao: ∀N,4003<N->(Du 3000 (B7 own i i).length++[[AV.own 4003]]).all (AF N)=true:=by
      intro N hN;rw[nJ,W8 _ _ _ (by omega)];simp[AF,AV.bel];omega
     simp(disch:=omega)only[ZA,simprocAttr,Br];refine⟨?_,by simp[II],by simp[II],JB Q ?_⟩
     .intro row Q;obtain rfl:=Bz.1 Q;rfl
     simp(disch:=omega)only[ZA,simprocAttr,Br,AW,ac];refine⟨ao _ (by omega),⟨(i+1,M++[((i:Int),((B7 own i i).length:Int))]),by simp only;omega,by simp only;exact Z⟩,[(2100,some 4001),(3000+(B7 own i i).length,some 4003)],by simp only;omega,?_⟩;simp only[e1];obtain⟨G,hG⟩: ∃G,G=B7 own i i:=⟨_,rfl⟩;simp only[<-hG] at an⊢;rw[AD (by omega) (by omega)];have pn: ∀m,m≠2100->m≠3000+G.length->pm [(2100,some 4001),(3000+G.length,some 4003)] m=some m:=by intro m hm ag;simp only[pm];rw[Af (E5 hm),Af (E5 ag)]
     have hh: ∀(e1 Z e3 e4 e5 e6:Ao) (m:Nat),hget ((4001,e1)::(4003,Z)::(4002,e3)::(4000,e4)::(2001,e5)::(2,e6)::Bj (Bj (Bj (EC 1000 L k++EV 3000 G) [2001]) [2100]) [4001]) m=if m=4001 then some e1 else if m=4003 then some Z else if m=4002 then some e3 else if m=4000 then some e4 else if m=2001 then some e5 else if m=2 then some e6 else if m=2100 then none else hget (EC 1000 L k++EV 3000 G) m:=by
      intro e1 Z e3 e4 e5 e6 m;simp only[hget,WA,gG,gS,Qo,Qs,ZeW];by_cases h1:m=4001
      .subst h1;simp
      by_cases h2:m=4003
      .subst h2;simp
      by_cases h3:m=4002
      .subst h3;simp
      by_cases h4:m=4000
      .subst h4;simp
      by_cases h5:m=2001
      .subst h5;simp
      by_cases h6:m=2
      .subst h6;simp
      simp only[Af h1,Af h2,Af h3,Af h4,Af h5,Af h6,Af (E5 h1),Af (E5 h2),Af (E5 h3),Af (E5 h4),Af (E5 h5),Af (E5 h6)]
     have aa:(G++[[(i:Int)]]).length=G.length+1:=by simp
     refine Qxg (O:=4001) (T:=λq=>if q<G.length then 3000+q else 4003) (by omega) (by rw[aa];omega) ⟨by omega,by omega,trivial⟩ (pn _ (by omega) (by omega)) (pn _ (by omega) (by omega)) (λj hj=>pn _ (by omega) (by omega)) (by simp[pm]) (λq hq=> ?_) rfl rfl rfl rfl rfl ?_ ?_ (λj hj=> ?_) (.inr ?_) (λq hq=> ?_) (λq q' hq=> ?_) (λq hq=> ?_) (by omega)
     .rw[aa] at hq;by_cases h:q<G.length
      .rw[pn _ (by omega) (by omega),Ai h]
      .obtain rfl:q=G.length:=by omega
       rw[Af h];simp only[pm];rw[Af (by omega),Ai trivial]
     .rw[hh,<-a9,<-Nu _ _ _ hn];rfl
     .rw[hh];rfl
     .rw[hh,Af (by omega),Af (by omega),Af (by omega),Af (by omega),Af (by omega),Af (by omega),Af (by omega)];exact Qnb _ _ _ _ hj
     .rw[hh,Ai rfl,Ql0,aa]
     .rw[aa] at hq;rw[hh];by_cases h:q<G.length
      .rw[Ai h,Af (by omega),Af (by omega),Af (by omega),Af (by omega),Af (by omega),Af (by omega),Af (by omega),Dj h];exact Qne _ _ _ _ (by omega) h
      .obtain rfl:q=G.length:=by omega
       rw[Af h,Af (by omega),Ai rfl,E3 (AL _),Gh];rfl
     .rw[aa] at hq;intro au he;rw[aa] at au;by_cases h:q<G.length<;>by_cases h2:q'<G.length<;>simp only[h,h2,BI,Cr] at he⊢ <;>omega
     .by_cases h:q<G.length<;>simp only[h,BI,Cr]<;>omega
   .have ad:i=k:=by omega
    subst ad;rw[V2,B8,<-hown];rw[O1 (m:=7) (G:=B7 own i i)]
    .simp(disch:=omega)only[ZZ,simprocAttr]
    .intro q hq;have h9:=Qne i L (B7 own i i) q (by omega) hq;simp (disch:=omega) only[hget,AW,Bm,h9]
def GM(nm:List Int):List Ag->List Ag
 |[]=>[]
 |b::r=>if BQ nm b.A=BQ nm b.B then GM nm r else ⟨BQ nm b.A,BQ nm b.B,b.Strength⟩::GM nm r
def Qvj(nm:List Int): ∀(a b:List Ag),GM nm (a++b)=GM nm a++GM nm b
 |[],b=>rfl
 |x::r,b=>by simp only[CO,GM,Qvj nm r b];split<;>rfl
def Qpl(nm:List Int): ∀(a:List Ag),(GM nm a).length<=a.length
 |[]=>AL _
 |x::r=>by have:=Qpl nm r;simp only[GM];split<;>simp only[Cv]<;>omega
def Qab6(nm:List Int){bs:List Ag}{k:Nat}{b:Ag}(h:bs[k]? =some b):GM nm (bs.take (k+1))=GM nm (bs.take k)++if BQ nm b.A=BQ nm b.B then [] else [⟨BQ nm b.A,BQ nm b.B,b.Strength⟩]:=by
 rw[Ip,h];simp only[wE,Qvj,GM]
def D4(n:Int)(bs:List Ag)(t:Int):Int×List Ag:=((NS n bs t).length,GM (Rf n.toNat (NS n bs t)) bs)
def dlC.H0_dom(a:List Ag×Int)(j:Nat):Ak (dlC.H0 a) j=true↔j<1:=by
 simp only[Ak,dlC.H0,hget];by_cases h0:j=0
 .subst h0;simp
 .have z:(0==j)=false:=by simp;omega
  simp[z];omega
def contr.fv(a:Int×(List Ag)×Int):Int×(List Ag):=(D4) (a.1) (a.2.1) (a.2.2)
def contr.row:A7:=vK (b3 qI (qS Ag.d_le Ag.c_n) qI) (r2 rI (rS Ag.d_le Ag.c_n)) (λa=>0<=a.1/\a.1<=512/\Ll a.1 a.2.1/\a.2.1.length<=1000000) contr.fv
def contr.q:=AY (R:=contr.row) rfl
def contr.ok:AC 192 contr.row:=by
 refine vw (tC clobC.ok (tC dlC.ok (tC groupsBy_.ok tN))) Tryz.func192 ?_;intro a ad;simp only[Tryz.f192];simp only[ZA,simprocAttr,contr.fv];obtain⟨h0,h1,Q,O⟩:=ad;obtain⟨n,hn⟩: ∃n:Nat,a.1=n:=⟨a.1.toNat,by omega⟩;obtain⟨bs,hbsd⟩: ∃bs,bs=a.2.1:=⟨_,rfl⟩;obtain⟨t,ht⟩: ∃t,t=a.2.2:=⟨_,rfl⟩;simp only[hn,<-hbsd,<-ht] at h0 h1 Q O⊢;refine AB.os bs [] O (λj=>by simp[Ak,hget]) rfl rfl ?_ ?_
 .simp only[ZA,simprocAttr,clobC.ca,CL]
 simp only[ZA,simprocAttr,clobC.H1];left;refine AB.os (bs,t) [2] O (λj=>dlC.H0_dom _ j) rfl rfl ?_ ?_
 .simp only[ZA,simprocAttr,dlC.ca,dlC.H0,Ef]
 simp only[ZA,simprocAttr,groupsBy_.q,groupsBy_.fv,dlC.H1];have Z:S7 ((n:Int),G3 t bs):=⟨by simp only;omega,by simp only;omega,λb hb=>Q b (gW.1 hb).1,by have:=Qln t bs;simp only;omega⟩;refine⟨Z,by omega,?_⟩;obtain⟨z,hgs⟩: ∃z,z=V2 (n:Int) (G3 t bs):=⟨_,rfl⟩;have ah: ∀r∈z,∀v∈r,0<=v/\v<n:=by rw[hgs];exact Qps n _
 simp only[<-hgs];intro ao;refine AT.old ⟨{i:Nat//i<=z.length},λi=>⟨[(27,.im (.int .i64 i.1)),(26,.im (.int .i64 z.length)),(25,.im (.sl false 1 (z.map CX))),(9,.own 1022),(8,.im (.sl false 1 (z.map CX))),(1,.im (.sl false 3 (bs.map Ag.c)))],[(1022,(true,.arr 2 1 ((Kq z (List.replicate n 0) i.1).map Al)))],1023⟩,λi=>z.length - i.1,λi=>⟨by simp[ZG],by simp⟩,⟨⟨0,by simp⟩,?_⟩,λi=> ?_⟩
 .simp only[ZA,simprocAttr,sub,Kq,uX]
 obtain⟨i,aq⟩:=i;simp only[ZZ,simprocAttr,AO];refine⟨λhi=>⟨hi,λr hr=> ?_⟩,λhi=> ?_⟩
 .have ak:=ah r (AZ hr);obtain⟨l,hl⟩: ∃l,l=Kq z (List.replicate n 0) i:=⟨_,rfl⟩;have au:l.length=n:=by rw[hl,tP,Oc]
  simp only[<-hl];intro av;refine AT.old ⟨{k:Nat//k<=r.length},λk=>⟨[(34,.im (.int .i64 k.1)),(33,.im (.int .i64 r.length)),(32,.im (.sl false 1 (r.map Al))),(10,.im (.int .i64 i)),(27,.im (.int .i64 i)),(26,.im (.int .i64 z.length)),(25,.im (.sl false 1 (z.map CX))),(9,.own 1022),(8,.im (.sl false 1 (z.map CX))),(1,.im (.sl false 3 (bs.map Ag.c)))],[(1022,(true,.arr 2 1 ((Qk i r l k.1).map Al)))],1023⟩,λk=>r.length - k.1,λk=>⟨by simp[ZG],by simp⟩,⟨⟨0,by simp⟩,?_⟩,λk=> ?_⟩
  .simp only[ZA,simprocAttr,sub,Qk]
  obtain⟨k,aj⟩:=k;have ac:=Qkb (i:Int) r l k;simp only[ZA,simprocAttr,sub,AO,ac,eI];refine⟨λhk=>⟨hk,λv hv=> ?_⟩,λhk=> ?_⟩
  .obtain⟨v1,v2⟩:=ak v (AZ hv);refine⟨v1,by omega,by omega,λ_ _=>⟨⟨k+1,by omega⟩,by simp only;omega,by rw[AD (by omega) (by omega)];simp only;omega,?_⟩⟩;simp only[Qk,hv,AP]
  .have:k=r.length:=by omega
   refine⟨⟨i+1,by omega⟩,by simp only;omega,by rw[AD (by omega) (by omega)];simp only;omega,?_⟩;simp only[Kq,hr,AP,<-hl,this]
 .have ai:i=z.length:=by omega
  subst ai;obtain⟨nm,hnm⟩: ∃nm,nm=Kq z (List.replicate n 0) z.length:=⟨_,rfl⟩;have ac:nm.length=n:=by rw[hnm,tP,Oc]
  simp only[<-hnm];intro an;refine AT.ren ⟨{k:Nat//k<=bs.length},λk=>⟨[(46,.im (.int .i64 k.1)),(45,.im (.int .i64 bs.length)),(44,.im (.sl false 3 (bs.map Ag.c))),(14,.own 1024),(9,.own 1022),(8,.im (.sl false 1 (z.map CX)))],[(1024,(true,.arr 259 3 ((GM nm (bs.take k.1)).map Ag.c))),(1022,(true,.arr 2 1 (nm.map Al)))],1025⟩,λk=>bs.length - k.1,λk=>⟨by simp[ZG],by simp⟩,⟨⟨0,by simp⟩,[(1024,some 1023)],?_⟩,λk=> ?_⟩
  .simp only[Aq];simp only[ZA,simprocAttr,Bs];rfl
  obtain⟨k,aj⟩:=k;have am:=Qpl nm (bs.take k);rw[BB] at am;simp only[ZA,simprocAttr,AO,NK,NI,BT,D.one];refine⟨λhk=>⟨hk,λb hb=> ?_⟩,λhk=> ?_⟩
  .obtain⟨b1,b2,b3,b4⟩:=Q b (AZ hb);refine⟨b1,by omega,by omega,λx hx=>⟨b3,by omega,by omega,λy hy=> ?_⟩⟩;have e1:BQ nm b.A=x:=by simp only[BQ,hx,AP]
   have e2:BQ nm b.B=y:=by simp only[BQ,hy,AP]
   have aa:=Qab6 nm hb;rw[e1,e2] at aa;refine⟨λab=>⟨b1,by omega,by omega,λx' af=>⟨b3,by omega,by omega,λy' ag=>⟨by omega,⟨k+1,by omega⟩,[(1024,some 1027)],by simp only;omega,?_⟩⟩⟩,λab=>⟨⟨k+1,by omega⟩,[],by simp only;omega,?_⟩⟩
   .rw[hx] at af;rw[hy] at ag;obtain rfl:=Ay af;obtain rfl:=Ay ag;simp only[Aq];simp only[ZA,simprocAttr,Bs,aa];rw[AD (by omega) (by omega),Af ab];simp[Ag.c]
   .simp only[Aq];simp only[ZA,simprocAttr,Bs,aa];rw[AD (by omega) (by omega),Ai (Ha.1 ab),D2];simp
  .have:k=bs.length:=by omega
   subst this;rw[IS];intro _;simp only[D4,NS,Rf,B8,<-hgs,<-hnm]
end Go.Ae
