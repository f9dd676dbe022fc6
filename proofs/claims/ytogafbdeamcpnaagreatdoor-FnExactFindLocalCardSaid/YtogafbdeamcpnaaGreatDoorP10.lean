/- Lemmas. Conditions: none. -/
import Derived.Test.YtogafbdeamcpnaaGreatDoorP09
set_option linter.all false
set_option maxHeartbeats 8000000
set_option maxRecDepth 100000
namespace Go.Ae
open Go.Proofs
def revK(l:List Int):Nat->List Int
 |0=>l
 |i+1=>((revK l i).set i ((revK l i)[l.length - 1 - i]?.getD 0)).set (l.length - 1 - i) ((revK l i)[i]?.getD 0)
def Q6(l:List Int): ∀i,(revK l i).length=l.length
 |0=>rfl
 |i+1=>by simp only[revK,Cr,Q6 l i]
def MP(l:List Int): ∀i,2*i<=l.length-> ∀k,k<l.length->(revK l i)[k]? =if k<i\/l.length - i<=k then l[l.length - 1 - k]? else l[k]?
 |0,_,k,Q=>by simp only[revK];rw[Ab (by omega)]
 |i+1,hi,k,Q=>by
  have ih:=MP l i (by omega);have Z:=Q6 l i;have g1:(revK l i)[l.length - 1 - i]?.getD 0=l[l.length - 1 - i]?.getD 0:=by rw[ih _ (by omega),Ab (by omega)]
  have g2:(revK l i)[i]?.getD 0=l[i]?.getD 0:=by rw[ih _ (by omega),Ab (by omega)]
  have gd: ∀j,j<l.length->some (l[j]?.getD 0)=l[j]? :=λj hj=>by rw[A8 hj];rfl
  rw[revK,g1,g2];by_cases z:l.length - 1 - i=k
  .subst z;rw[BA (by rw[Cr,Z];omega),Af (by omega),gd _ (by omega)];congr 1;omega
  .rw[BM z];by_cases G:i=k
   .subst G;rw[BA (by rw[Z];omega),Af (by omega),gd _ (by omega)]
   .rw[BM G,ih k Q];by_cases O:k<i\/l.length - i<=k
    .rw[Af O,Af (by omega)]
    .rw[Ab O,Ab (by omega)]
def revK_end(l:List Int){i:Nat}(G:2*i<=l.length)(O:l.length<=2*i+1):revK l i=l.reverse:=by
 apply EY;intro k;by_cases z:k<l.length
 .rw[MP l i G k z,Yc z];by_cases h:k<i\/l.length - i<=k
  .rw[Af h]
  .rw[Ab h];congr 1;omega
 .rw[CH (by rw[Q6];omega),CH (by rw[M1];omega)]
def K4(l:List Int)(i:Nat)(x:Int):(l.map intC).set i [.int .i64 x]=(l.set i x).map intC:=by rw[Fz];rfl
def revC.ca(_:List Int):List AV:=[.own 0]
def revC.H0(a:List Int):Ag:=[(0,(true,.arr 3 1 (a.map intC)))]
def revC.H1(a:List Int):Ag:=[(0,(true,.arr 3 1 (a.reverse.map intC)))]
def revC.row:Row:=orow revC.ca revC.H0 1 (λ_=>True) (λj=>j==0) (λ_=> .im (.tup [])) revC.H1 0
def revC.ok:Ak Tryz.prog 296 revC.row:=by
 refine ow tN Tryz.func296 rfl (by kernel_rfl) (exB:=λ_=>false) (R:=λ_ r=>r= .im (.tup [])) (λ_=>rfl)
  (λa=>by simp[revC.ca,revC.H0,belL,AV.bel,belH,Ai,AT,AObj.nms,domB,hget]) (λa p hp=> ?_) (λa r h=>by subst h;exact LeV.refl _) ?_
 rotate_left
 intro a Q;simp only[Tryz.f296,revC.ca,revC.H0,revC.H1];simp(disch:=omega)only[ZA,simprocAttr];intro aa;rw[Am (by omega) (by omega)];refine Au.old ⟨{i:Nat//2*i<=a.length},λi=>⟨[(2,.im (.int .i64 i.1)),(3,.im (.int .i64 ((a.length:Int) - 1 - i.1))),(0,.own 0)],[(0,(true,.arr 3 1 ((revK a i.1).map intC)))],1⟩,λi=>a.length - i.1,λi=>⟨by simp[Ac.good,belT,belH,Ai,AV.bel],by simp⟩,⟨⟨0,by simp⟩,?_⟩,λi=> ?_⟩
 .simp(disch:=omega)only[ZA,simprocAttr,sub];exact⟨by omega,by rw[revK]⟩
 obtain⟨i,Z⟩:=i;have O:=Q6 a i;simp(disch:=omega)only[ZA,simprocAttr,sub,Aq,O,K4,Cr];refine⟨λG=>⟨by omega,by omega,by omega,λx hx=>⟨by omega,by omega,λy hy=>⟨by omega,by omega,λz hz=>⟨by omega,by omega,by omega,λu hu=> ?_⟩⟩⟩⟩,λG=> ?_⟩
 .refine⟨⟨i+1,by omega⟩,by simp only;omega,?_⟩;have w1:IntKind.i64.wrap ((a.length:Int) - 1 - i - 1)=(a.length:Int) - 1 - i - 1:=Am (by omega) (by omega);have w2:IntKind.i64.wrap ((i:Int)+1)=(i:Int)+1:=Am (by omega) (by omega);simp only[w1,w2];refine⟨⟨by omega,by omega⟩,?_⟩;simp only[revK];rw[show a.length - 1 - i=((a.length:Int) - 1 - i).toNat by omega,hx,hy];rfl
 .rw[revK_end a Z (by omega)]
 simp[revC.H1] at hp;subst hp;exact .inl ⟨by omega,rfl,rfl⟩
def clonC.ca(a:List Ad):List AV:=[.im (.sl false 3 (a.map Ad.c))]
def clonC.H1(a:List Ad):Ag:=[(0,(true,.arr 137 3 (a.map Ad.c)))]
def clonC.row:Row:=orow clonC.ca (λ_=>[]) 0 (λa=>a.length<=1000000) (λ_=>false) (λ_=> .own 0) clonC.H1 20
def clonC.ok:Ak Tryz.prog 105 clonC.row:=by
 refine owN tN Tryz.func105 rfl (by kernel_rfl) (exB:=λj=>j==0) (R:=λ_ r=>r= .own 0) (λ_=>rfl)
  (λa=>by simp[clonC.ca,belL,AV.bel,belH,Ai,AT]) (λa p hp=> ?_) (λa r h=>by subst h;exact LeV.refl _) ?_
 rotate_left
 intro a z;simp only[Tryz.f105,clonC.ca,clonC.H1];simp(disch:=omega)only[ZA,simprocAttr,C4,ORC,B8,Cn];intro b hb;split
 .rename_i h;have h0:=hb h;refine⟨[],[(0,some 1)],⟨[(2,.own 0)],clonC.H1 a,1⟩,?_,by simp[clonC.H1,Ac.good,belT,belH,Ai,AV.bel],by simp,?_⟩
  .simp only[subP,clonC.H1,h0];simp(disch:=omega)only[ZA,simprocAttr]
  .simp(disch:=omega)only[ZA,simprocAttr,clonC.H1]
 .refine⟨by omega,[],[(0,some 2)],⟨[(2,.own 0)],clonC.H1 a,1⟩,?_,by simp[clonC.H1,Ac.good,belT,belH,Ai,AV.bel],by simp,?_⟩
  .simp only[subP,clonC.H1];simp(disch:=omega)only[ZA,simprocAttr]
  .simp(disch:=omega)only[ZA,simprocAttr,clonC.H1]
 simp[clonC.H1] at hp;subst hp;exact .inr ⟨by omega,by omega,rfl,rfl⟩
def clobC.ca(a:List Bond):List AV:=[.im (.sl false 3 (a.map Bond.c))]
def clobC.H1(a:List Bond):Ag:=[(0,(true,.arr 318 3 (a.map Bond.c)))]
def clobC.row:Row:=orow clobC.ca (λ_=>[]) 0 (λa=>a.length<=1000000) (λ_=>false) (λ_=> .own 0) clobC.H1 20
def clobC.ok:Ak Tryz.prog 267 clobC.row:=by
 refine owN tN Tryz.func267 rfl (by kernel_rfl) (exB:=λj=>j==0) (R:=λ_ r=>r= .own 0) (λ_=>rfl)
  (λa=>by simp[clobC.ca,belL,AV.bel,belH,Ai,AT]) (λa p hp=> ?_) (λa r h=>by subst h;exact LeV.refl _) ?_
 rotate_left
 intro a z;simp only[Tryz.f267,clobC.ca,clobC.H1];simp(disch:=omega)only[ZA,simprocAttr,C4,ORC,B8,Cn];intro b hb;split
 .rename_i h;have h0:=hb h;refine⟨[],[(0,some 1)],⟨[(2,.own 0)],clobC.H1 a,1⟩,?_,by simp[clobC.H1,Ac.good,belT,belH,Ai,AV.bel],by simp,?_⟩
  .simp only[subP,clobC.H1,h0];simp(disch:=omega)only[ZA,simprocAttr]
  .simp(disch:=omega)only[ZA,simprocAttr,clobC.H1]
 .refine⟨by omega,[],[(0,some 2)],⟨[(2,.own 0)],clobC.H1 a,1⟩,?_,by simp[clobC.H1,Ac.good,belT,belH,Ai,AV.bel],by simp,?_⟩
  .simp only[subP,clobC.H1];simp(disch:=omega)only[ZA,simprocAttr]
  .simp(disch:=omega)only[ZA,simprocAttr,clobC.H1]
 simp[clobC.H1] at hp;subst hp;exact .inr ⟨by omega,by omega,rfl,rfl⟩
def freeC.fv(a:Nwk×Int×Int):Bool:=(Hz) (a.1) (a.2.1) (a.2.2)
def freeC.row:Row:=vKF (b3 (qP 2 Nwk.d_le) qI qI) rB (λa=>EU a.1 a.1.Room.length/\0<=a.2.1/\a.2.1<a.1.Room.length/\0<=a.2.2/\a.2.2<a.1.Room.length) freeC.fv
def freeC.q:=vKFq (R:=freeC.row) rfl
def freeC.ok:Ak Tryz.prog 295 freeC.row:=by
 refine vwF tN Tryz.func295 rfl (by kernel_rfl) ?_;intro a z;simp only[Tryz.f295];simp(disch:=omega)only[ZZ,simprocAttr,freeC.fv,D.sc,D.scs,decD];obtain⟨G,O,h3,Q,Z⟩:=z;have hf:=G.f;refine⟨O,h3,λr hr=>⟨Q,by rw[G.rr r (Ax hr)];exact Z,λx hx=>⟨O,by omega,λs hs=>⟨Q,by rw[G.ff s (Ax hs)];exact Z,λy hy=> ?_⟩⟩⟩⟩;simp only[Hz,Ro,Rv,hr,hs,hx,hy,Ao]
def wayD:D->Option (List Int)
 | .sl true _ rows=>decR intD rows
 | .sl false _ (r::rows)=>decR intD (r::rows)
 |_=>none
def wayD_le: ∀d x,wayD d=some x->Le d (.sl true 1 (x.map intC)):=by
 intro d x h;unfold wayD at h;split at h
 .rename_i k rows;have h1:=BL (nz:=true) (k:=k) (BG BB _ _ h) (k':=1) (by simp[intC]);intro ok hp v Q;have O:=h1 ok hp v Q;simp only[Ae.rd] at O Q⊢;rcases O with O|⟨b,p,cap,vs,T,fr,g1,g2,g3,g4,g5,g6,g7⟩
  .rcases Q with ⟨q1,G⟩|⟨b',p',z,aa,T',Z,q1,G,q3,q4,q5,q6,q7⟩
   .exact .inl ⟨q1,O.2⟩
   .obtain⟨ao,e⟩:=OW O.1;rw[e] at q1;simp only[Value.slice.injEq] at q1;exact absurd (Gy.1 q1.2.1.symm) (G trivial)
  .rcases Q with ⟨q1,G⟩|⟨b',p',z,aa,T',Z,q1,G,q3,q4,q5,q6,q7⟩
   .rw[QL q1] at g1;cases g1
   .refine .inr ⟨b,p,cap,vs,T,fr,g1,λ_ h0=> ?_,g3,g4,g5,g6,g7⟩;rw[q1] at g1;simp only[Value.slice.injEq] at g1;rw[h0,D0] at g1;exact G trivial (Gy.1 g1.2.1)
 .rename_i k r rows;have h1:=BL (nz:=false) (k:=k) (BG BB _ _ h) (k':=1) (by simp[intC]);intro ok hp v Q;have O:=h1 ok hp v Q;simp only[Ae.rd] at O Q⊢;rcases O with O|⟨b,p,cap,vs,T,fr,g1,g2,g3,g4,g5,g6,g7⟩
  .rcases Q with ⟨q1,G⟩|⟨b',p',z,aa,T',Z,q1,G,q3,q4,q5,q6,q7⟩
   .cases G
   .obtain⟨ao,e⟩:=OW O.1;rw[e] at q1;simp only[Value.slice.injEq,Bs] at q1;omega
  .rcases Q with ⟨q1,G⟩|⟨b',p',z,aa,T',Z,q1,G,q3,q4,q5,q6,q7⟩
   .cases G
   .refine .inr ⟨b,p,cap,vs,T,fr,g1,λ_ h0=> ?_,g3,g4,g5,g6,g7⟩;rw[q1] at g1;simp only[Value.slice.injEq,Bs] at g1;rw[h0,D0] at g1;omega
 .cases h
def Pa(n:Nat)(x:Int):List.replicate n [D.int .i64 x]=(List.replicate n x).map intC:=by rw[List.map_replicate];rfl
def wayD_map{k:Nat}{l:List Int}(h:l≠[]):wayD (.sl false k (l.map intC))=some l:=by
 cases l with
 |nil=>exact absurd rfl h
 |cons x r=>exact Lc (x::r)
def dI(v:Int):D:= .int .i64 v
def rept.H0_dom(a:Int×Int)(j:Nat):domB (rept.H0 a) j=true↔j<1:=by
 simp only[domB,rept.H0,hget];by_cases h0:j=0
 .subst h0;simp
 .have z:(0==j)=false:=by simp;omega
  simp[z];omega
def revC.H0_dom(a:List Int)(j:Nat):domB (revC.H0 a) j=true↔j<1:=by
 simp only[domB,revC.H0,hget];by_cases h0:j=0
 .subst h0;simp
 .have z:(0==j)=false:=by simp;omega
  simp[z];omega
def CYc:H4 Tryz.prog 382=some 3:=by kernel_rfl
def wayC.rc:D->Option (List Int):=wayD
def wayC.re:(List Int)->D:=λb=>D.sl true 1 (b.map intC)
def wayC.rle: ∀d b,wayC.rc d=some b->Le d (wayC.re b):=wayD_le
def wayC.fv(a:Nwk×Int×Int):List Int:=(λx p q=>wayN x x.Room.length p q) (a.1) (a.2.1) (a.2.2)
def wayC.row:Row:=vKF (b3 (qP 2 Nwk.d_le) qI qI) (RK.mk wayC.rc wayC.re wayC.rle) (λa=>EU a.1 a.1.Room.length/\a.1.Room.length<=1000/\0<=a.2.1/\a.2.1<a.1.Room.length/\0<=a.2.2/\a.2.2<a.1.Room.length) wayC.fv
def wayC.q:=vKFq (R:=wayC.row) rfl
def wayC.ok:Ak Tryz.prog 288 wayC.row:=by
 refine vwF (tC freeC.ok (tC rept.ok (tC revC.ok tN))) Tryz.func288 rfl (by kernel_rfl) ?_;intro a ak;simp only[Tryz.f288];simp(disch:=omega)only[ZZ,simprocAttr,wayC.fv,wayC.rc];obtain⟨aj,hn,ad,af,am,aw⟩:=ak;obtain⟨x,hx⟩: ∃x,x=a.1:=⟨_,rfl⟩;obtain⟨p,hp⟩: ∃p,p=a.2.1:=⟨_,rfl⟩;obtain⟨q,hq⟩: ∃q,q=a.2.2:=⟨_,rfl⟩;obtain⟨n,hnn⟩: ∃n,n=x.Room.length:=⟨_,rfl⟩;simp only[<-hx,<-hp,<-hq,<-hnn] at aj hn ad af am aw⊢;intro be;refine orow.os (-1,(n:Int)) [1] ⟨by simp only;omega,by simp only;omega⟩ (λj=>rept.H0_dom _ j) rfl rfl ?_ ?_
 .simp(disch:=omega)only[ZA,simprocAttr,ORC,rept.ca,rept.H0,B8]
 simp(disch:=omega)only[ZA,simprocAttr,CYc,rept.H1,Gb,K4,Pa];refine⟨by omega,by omega,ad,af,by omega,λ_ _=> ?_⟩;refine Au.old ⟨{k:Nat//k<=(Bt x n p k).2.length},λk=>⟨[(9,.ch 22),(8,.own 2),(7,.im (.int .i64 n)),(0,.ptr 0 0),(1,.im (.int .i64 p)),(2,.im (.int .i64 q))],[(2,(true,.arr 3 1 ((Bt x n p k.1).1.map intC))),(22,(true,.chan (((Bt x n p k.1).2.drop k.1).map dI) n)),(0,(false,.view [.sl false 1 (x.Room.map Bo),.sl false 1 (x.Flow.map Bo)]))],23⟩,λk=>n - k.1,λk=>⟨by simp[Ac.good,belT,belH,Ai,AV.bel],by simp⟩,⟨⟨0,by simp⟩,?_⟩,λk=> ?_⟩
 .simp(disch:=omega)only[ZA,simprocAttr,sub];simp[Bt,dI]
 obtain⟨k,hk⟩:=k;have Z:=Hc (x:=x) ad af k;have bf:=QI Z;simp(disch:=omega)only[ZA,simprocAttr,D.sc,D.scs,decD,CYc,Aq,Bn];refine⟨λau=> ?_,λau=> ?_⟩
 .have av:k<(Bt x n p k).2.length:=by omega
  obtain⟨u,hu⟩: ∃u,(Bt x n p k).2[k]? =some u:=⟨_,A8 av⟩;have a0:=Z.q u (Ax hu);rw[Cw hu];refine⟨by simp,λd r ag=> ?_⟩;simp only[Ay,L8] at ag;obtain⟨rfl,rfl⟩:=ag;simp only[dI];obtain⟨s,hs⟩: ∃s,s=Bt x n p k:=⟨_,rfl⟩;simp only[<-hs] at hu Z⊢;refine Au.old ⟨{i:Nat//i<=n},λi=>⟨[(36,.im (.int .i64 i.1)),(35,.im (.int .i64 n)),(10,.im (.int .i64 u)),(9,.ch 22),(8,.own 2),(7,.im (.int .i64 n)),(0,.ptr 0 0),(1,.im (.int .i64 p)),(2,.im (.int .i64 q))],[(2,(true,.arr 3 1 ((wayI x u s i.1).1.map intC))),(22,(true,.chan (((wayI x u s i.1).2.drop (k+1)).map dI) n)),(0,(false,.view [.sl false 1 (x.Room.map Bo),.sl false 1 (x.Flow.map Bo)]))],23⟩,λi=>n - i.1,λi=>⟨by simp[Ac.good,belT,belH,Ai,AV.bel],by simp⟩,⟨⟨0,by simp⟩,?_⟩,λi=> ?_⟩
  .simp(disch:=omega)only[ZA,simprocAttr,sub,wayI]
  obtain⟨i,hi⟩:=i;obtain⟨hQ,e,he⟩:=Px Z hu i hi;have a8:=QI hQ;have ax:=hQ.len;simp(disch:=omega)only[ZZ,simprocAttr,rch,freeC.q,freeC.fv,sub,Aq,Bn,ax,K4];refine⟨λaq=>⟨by omega,by omega,λy hy=>⟨λO=>⟨⟨hnn▸aj,a0.1,by omega,by omega⟩,λhf=>⟨by omega,by omega,λy2 _=>⟨by omega,⟨i+1,by omega⟩,by simp only;omega,by rw[Am (by omega) (by omega)];simp only;omega,?_⟩⟩,λhf=>⟨⟨i+1,by omega⟩,by simp only;omega,by rw[Am (by omega) (by omega)];simp only;omega,?_⟩⟩,λO=>⟨⟨i+1,by omega⟩,by simp only;omega,by rw[Am (by omega) (by omega)];simp only;omega,?_⟩⟩⟩,λaq=> ?_⟩
  .have Q:wayI x u s (i+1)=((wayI x u s i).1.set i u,(wayI x u s i).2++[(i:Int)]):=by
    rw[wayI,way1,Af ⟨by rw[hy,Ao];exact O,hf⟩]
   have bc:=(Ba.1 hu).1;simp only[Q];refine⟨trivial,?_⟩;rw[UZ (by rw[he,B5];omega),Di];rfl
  .have Q:wayI x u s (i+1)=wayI x u s i:=by
    rw[wayI,way1,Ab (λh=>hf h.2)]
   simp only[Q];exact⟨trivial,trivial⟩
  .have Q:wayI x u s (i+1)=wayI x u s i:=by
    rw[wayI,way1,Ab (λh=>O (by have:=h.1;rw[hy,Ao] at this;exact this))]
   simp only[Q];exact⟨trivial,trivial⟩
  .have as:i=n:=by omega
   have Q:Bt x n p (k+1)=wayI x u s i:=by rw[Bt,<-hs,hu,as]
   refine⟨⟨k+1,by rw[Q,he,B5];have:=(Ba.1 hu).1;omega⟩,by simp only;omega,?_⟩;simp only[Q];exact⟨trivial,trivial⟩
 .have bd:(Bt x n p k).2.length=k:=by omega
  have hE:Bt x n p k=wayE x n p:=by
   have:=way_end x n p (n - k) k (by omega)
   rw[show k+(n - k)=n by omega] at this;exact this.symm
  have ai:=Z.len;refine⟨am,by omega,by omega,λy hy=>⟨λO=> ?_,λO=> ?_⟩⟩
  .simp only[wayN,<-hE,hy,Ao];rw[Af O];rfl
  have ay:q∈(Bt x n p k).2:=by
   have:=(Z.mem q.toNat y hy).1 (by omega)
   rwa [show (q.toNat:Int)=q by omega] at this
  obtain⟨i,hi⟩:=Fa.1 ay;obtain⟨d,a9,ab,aa⟩:=VY Z hi;have ba:=(Ba.1 hi).1;have az:Pi (Bt x n p k).1 p q n=d:=Wn (by omega) ab aa;have hW:wayN x n p q=(DZ (Bt x n p k).1 q d).reverse:=by
   simp only[wayN,<-hE,hy,Ao];rw[Ab O,az]
  obtain⟨G,hpar⟩: ∃G,G=(Bt x n p k).1:=⟨_,rfl⟩;simp only[<-hpar] at ai ab aa hW⊢;refine Au.ren ⟨{j:Nat//j<=d},λj=>⟨[(13,.im (.int .i64 (BD G q j.1))),(12,.own 24),(8,.own 2),(1,.im (.int .i64 p))],[(24,(true,.arr 3 1 ((DZ G q j.1).map intC))),(2,(true,.arr 3 1 (G.map intC)))],25⟩,λj=>d - j.1,λj=>⟨by simp[Ac.good,belT,belH,Ai,AV.bel],by simp⟩,⟨⟨0,by omega⟩,[(24,some 23)],?_⟩,λj=> ?_⟩
  .simp only[subP];simp(disch:=omega)only[ZA,simprocAttr,AC];exact⟨rfl,rfl⟩
  obtain⟨j,hj⟩:=j;have ao:(DZ G q j).length=j+1:=by simp[DZ]
  simp(disch:=omega)only[ZA,simprocAttr,ORC,Aq,ao];refine⟨λac=> ?_,λac=> ?_⟩
  .have ah:j<d:=by
    rcases Cz j d with h|h
    .exact h
    .exact absurd (by rw[show j=d by omega];exact ab) ac
   obtain⟨j2,g1,g2⟩:=OD Z hi j (λj' bb=>by rw[<-hpar];exact aa j' (by omega));rw[<-hpar] at g2;have an:=Z.q _ (Ax g2);refine⟨an.1,by omega,by omega,λz hz=>⟨by omega,⟨j+1,by omega⟩,[(24,some 26)],by simp only;omega,?_⟩⟩;have Q:BD G q (j+1)=z:=by rw[BD,hz,Ao]
   have e2:DZ G q (j+1)=DZ G q j++[z]:=by
    simp only[DZ];rw[M3,Di,Ay,D2,Q]
   simp only[subP];simp(disch:=omega)only[ZA,simprocAttr,AC,Q,e2,Di]
  .have ah:j=d:=by
    have h1:=Df.1 ac;rcases Cz j d with h|h
    .exact absurd h1 (aa j h)
    .omega
   subst ah;refine orow.os (DZ G q j) [24] trivial (λi=>revC.H0_dom _ i) rfl rfl ?_ ?_
   .simp(disch:=omega)only[ZA,simprocAttr,ORC,revC.ca,revC.H0,B8]
   .simp(disch:=omega)only[ZA,simprocAttr,ORC,D.sc,scL,decD,revC.H1,B8];rw[hW];exact wayD_map (by simp[DZ])
def Dc(t:Int)(bs:List Bond):List Bond:=bs.filter λb=>decide (t<=b.Strength)
def Gu(g:Int)(r:List Int)(l:List Int):Nat->List Int
 |0=>l
 |k+1=>(Gu g r l k).set (r[k]?.getD 0).toNat g
def ES(gs:List (List Int))(l:List Int):Nat->List Int
 |0=>l
 |i+1=>Gu i (gs[i]?.getD []) (ES gs l i) (gs[i]?.getD []).length
def Ql(g:Int)(r l:List Int): ∀k,(Gu g r l k).length=l.length
 |0=>rfl
 |k+1=>by simp only[Gu,Cr,Ql g r l k]
def O5(gs:List (List Int))(l:List Int): ∀i,(ES gs l i).length=l.length
 |0=>rfl
 |i+1=>by simp only[ES,Ql,O5 gs l i]
def Hd(n:Nat)(gs:List (List Int)):List Int:=ES gs (List.replicate n 0) gs.length
def nmOf(nm:List Int)(v:Int):Int:=nm[v.toNat]?.getD 0
def DK(nm:List Int):List Bond->List Bond
 |[]=>[]
 |b::r=>if nmOf nm b.A=nmOf nm b.B then DK nm r else ⟨minI (nmOf nm b.A) (nmOf nm b.B),maxI (nmOf nm b.A) (nmOf nm b.B),b.Strength⟩::DK nm r
def VQ(nm:List Int): ∀(a b:List Bond),DK nm (a++b)=DK nm a++DK nm b
 |[],b=>rfl
 |x::r,b=>by simp only[Bv,DK,VQ nm r b];split<;>rfl
def S6(nm:List Int): ∀(a:List Bond),(DK nm a).length<=a.length
 |[]=>Ar _
 |x::r=>by have:=S6 nm r;simp only[DK];split<;>simp only[Bs]<;>omega
def SJ(t:Int)(bs:List Bond):(Dc t bs).length<=bs.length:=R4 _ _
def S7(t:Int){bs:List Bond}{k:Nat}{b:Bond}(h:bs[k]? =some b):Dc t (bs.take (k+1))=Dc t (bs.take k)++if t<=b.Strength then [b] else []:=by
 rw[Ec,h];simp only[Dc,PD,PE,RE,Vf,AP]
def ML(own:List Int)(i:Nat): ∀k,∀v∈grpK own i k,(i:Int)<=v/\v<i+k
 |0,v,h=>by simp[grpK] at h
 |k+1,v,h=>by
  simp only[grpK,AG] at h;rcases h with h|h
  .have:=ML own i k v h;omega
  .split at h
   .rw[AO] at h;omega
   .simp at h
def Xi(own:List Int)(n:Nat): ∀k,k<=n-> ∀r∈AI own n k,∀v∈r,0<=v/\v<n
 |0,_,r,h,_,_=>by simp[AI] at h
 |k+1,G,r,h,v,z=>by
  simp only[AI,AG] at h;rcases h with h|h
  .exact Xi own n k (by omega) r h v z
  .split at h
   .rw[AO] at h;subst h
    have:=ML own k (n - k) v z
    omega
   .simp at h
def VR(n:Nat)(bs:List Bond): ∀r∈Ht (n:Int) bs,∀v∈r,0<=v/\v<n:=by
 intro r z v G
 have:=Xi (ownK n bs bs.length) n n (Ar _) r (by simpa[Ht] using z) v G
 omega
def Y9(nm:List Int){bs:List Bond}{k:Nat}{b:Bond}(h:bs[k]? =some b):DK nm (bs.take (k+1))=DK nm (bs.take k)++if nmOf nm b.A=nmOf nm b.B then [] else [⟨minI (nmOf nm b.A) (nmOf nm b.B),maxI (nmOf nm b.A) (nmOf nm b.B),b.Strength⟩]:=by
 rw[Ec,h];simp only[PE,VQ,DK]
def FV(n:Int)(bs:List Bond)(t:Int):List (List Int):=Ht n (Dc t bs)
def shrN(n:Int)(bs:List Bond)(t:Int):Int×List Bond:=((FV n bs t).length,DK (Hd n.toNat (FV n bs t)) bs)
def shrunk.fv(a:Int×(List Bond)×Int):Int×(List Bond):=(shrN) (a.1) (a.2.1) (a.2.2)
def shrunk.row:Row:=vK (b3 qI (qS Bond.d_le Bond.c_n) qI) (r2 rI (rS Bond.d_le Bond.c_n)) (λa=>0<=a.1/\a.1<=1000000/\Fh a.1 a.2.1/\a.2.1.length<=1000000) shrunk.fv
def shrunk.q:=vKq (R:=shrunk.row) rfl
def shrunk.ok:Ak Tryz.prog 206 shrunk.row:=by
 refine vw (tC l06Groups.ok (tC l00Min.ok (tC l00Max.ok tN))) Tryz.func206 rfl (by kernel_rfl) ?_;intro a ag;simp only[Tryz.f206];simp(disch:=omega)only[ZA,simprocAttr,shrunk.fv];obtain⟨h0,h1,Z,ah⟩:=ag;obtain⟨n,hn⟩: ∃n:Nat,a.1=n:=⟨a.1.toNat,by omega⟩;obtain⟨bs,hbsd⟩: ∃bs,bs=a.2.1:=⟨_,rfl⟩;obtain⟨t,ht⟩: ∃t,t=a.2.2:=⟨_,rfl⟩;simp only[hn,<-hbsd,<-ht] at h0 h1 Z ah⊢;refine Au.ren ⟨{k:Nat//k<=bs.length},λk=>⟨[(9,.im (.int .i64 k.1)),(8,.own 2),(0,.im (.int .i64 n)),(1,.im (.sl false 3 (bs.map Bond.c))),(2,.im (.int .i64 t))],[(2,(true,.arr 318 3 ((Dc t (bs.take k.1)).map Bond.c)))],3⟩,λk=>bs.length - k.1,λk=>⟨by simp[Ac.good,belT,belH,Ai,AV.bel],by simp⟩,⟨⟨0,by simp⟩,[(2,some 1)],?_⟩,λk=> ?_⟩
 .simp only[subP];simp(disch:=omega)only[ZA,simprocAttr];rfl
 obtain⟨k,aa⟩:=k;have Q:=SJ t (bs.take k);rw[Bb] at Q;simp(disch:=omega)only[ZA,simprocAttr,l06Groups.q,l06Groups.fv,Aq,FI,FE,allD,D.one];intro _;refine⟨λO=>⟨O,λb hb=>⟨λhs=>⟨O,λb' z=>⟨by omega,⟨k+1,by omega⟩,[(2,some 4)],by simp only;omega,?_⟩⟩,λhs=>⟨⟨k+1,by omega⟩,[(2,some 2)],by simp only;omega,?_⟩⟩⟩,λO=> ?_⟩
 .rw[hb] at z;obtain rfl:=Al z;simp only[subP];simp(disch:=omega)only[ZA,simprocAttr,S7 t hb];rw[Am (by omega) (by omega),Af hs];simp[Bond.c]
 .simp only[subP];simp(disch:=omega)only[ZA,simprocAttr,S7 t hb];rw[Am (by omega) (by omega),Ab hs,BJ];simp
 have ak:k=bs.length:=by omega
 subst ak;rw[Dh];refine⟨⟨h1,λb hb=>Z b (IR.1 hb).1⟩,by omega,?_⟩;obtain⟨G,hgs⟩: ∃G,G=Ht (n:Int) (Dc t bs):=⟨_,rfl⟩;have ai: ∀r∈G,∀v∈r,0<=v/\v<n:=by rw[hgs];exact VR n _
 simp only[<-hgs];clear O Q aa;refine Au.old ⟨{i:Nat//i<=G.length},λi=>⟨[(12,.im (.int .i64 i.1)),(11,.own 3),(10,.im (.sl false 1 (G.map Bo))),(0,.im (.int .i64 n)),(1,.im (.sl false 3 (bs.map Bond.c))),(2,.im (.int .i64 t))],[(3,(true,.arr 2 1 ((ES G (List.replicate n 0) i.1).map intC)))],4⟩,λi=>G.length - i.1,λi=>⟨by simp[Ac.good,belT,belH,Ai,AV.bel],by simp⟩,⟨⟨0,by simp⟩,?_⟩,λi=> ?_⟩
 .simp(disch:=omega)only[ZA,simprocAttr,sub,ES,Pa]
 obtain⟨i,ao⟩:=i;simp(disch:=omega)only[ZA,simprocAttr,Aq];intro an;refine⟨λhi=> ?_,λhi=> ?_⟩
 .obtain⟨r,hr⟩: ∃r,G[i]? =some r:=⟨_,A8 hi⟩;have am:=ai r (Ax hr);obtain⟨l,hl⟩: ∃l,l=ES G (List.replicate n 0) i:=⟨_,rfl⟩;have aq:l.length=n:=by rw[hl,O5,Gb]
  simp only[<-hl];refine Au.old ⟨{k:Nat//k<=r.length},λk=>⟨[(13,.im (.int .i64 k.1)),(12,.im (.int .i64 i)),(11,.own 3),(10,.im (.sl false 1 (G.map Bo))),(0,.im (.int .i64 n)),(1,.im (.sl false 3 (bs.map Bond.c))),(2,.im (.int .i64 t))],[(3,(true,.arr 2 1 ((Gu i r l k.1).map intC)))],4⟩,λk=>r.length - k.1,λk=>⟨by simp[Ac.good,belT,belH,Ai,AV.bel],by simp⟩,⟨⟨0,by simp⟩,?_⟩,λk=> ?_⟩
  .simp(disch:=omega)only[ZA,simprocAttr,sub,Gu]
  obtain⟨k,aa⟩:=k;have af:=Ql (i:Int) r l k;simp(disch:=omega)only[ZZ,simprocAttr,sub,Aq,hr,af,K4];refine⟨hi,λr' ab as=> ?_⟩;subst ab;refine⟨λO=>⟨hi,λr' ab=> ?_⟩,λO=>⟨⟨i+1,by omega⟩,by simp only;omega,by rw[Am (by omega) (by omega)];simp only;omega,?_⟩⟩
  .subst ab;refine⟨O,λv hv=> ?_⟩;obtain⟨v1,v2⟩:=am v (Ax hv);refine⟨v1,by omega,by omega,λ_ _=>⟨⟨k+1,by omega⟩,by simp only;omega,by rw[Am (by omega) (by omega)];simp only;omega,?_⟩⟩;simp only[Gu,hv,Ao]
  .have:k=r.length:=by omega
   simp only[ES,hr,Ao,<-hl,this]
 .have aj:i=G.length:=by omega
  subst aj;obtain⟨nm,hnm⟩: ∃nm,nm=ES G (List.replicate n 0) G.length:=⟨_,rfl⟩;have af:nm.length=n:=by rw[hnm,O5,Gb]
  simp only[<-hnm];refine Au.ren ⟨{k:Nat//k<=bs.length},λk=>⟨[(15,.im (.int .i64 k.1)),(14,.own 5),(11,.own 3),(10,.im (.sl false 1 (G.map Bo))),(0,.im (.int .i64 n)),(1,.im (.sl false 3 (bs.map Bond.c))),(2,.im (.int .i64 t))],[(5,(true,.arr 318 3 ((DK nm (bs.take k.1)).map Bond.c))),(3,(true,.arr 2 1 (nm.map intC)))],6⟩,λk=>bs.length - k.1,λk=>⟨by simp[Ac.good,belT,belH,Ai,AV.bel],by simp⟩,⟨⟨0,by simp⟩,[(5,some 4)],?_⟩,λk=> ?_⟩
  .simp only[subP];simp(disch:=omega)only[ZA,simprocAttr,AC];rfl
  obtain⟨k,aa⟩:=k;have Q:=S6 nm (bs.take k);rw[Bb] at Q;simp(disch:=omega)only[ZA,simprocAttr,l00Min.q,l00Min.fv,l00Max.q,l00Max.fv,Aq,FI,FE,allD,D.one];intro _;refine⟨λO=>⟨O,λb hb=> ?_⟩,λO=> ?_⟩
  .obtain⟨b1,b2,b3,b4⟩:=Z b (Ax hb);refine⟨b1,by omega,by omega,λx hx=>⟨O,λb' z=> ?_⟩⟩;rw[hb] at z;obtain rfl:=Al z;refine⟨b3,by omega,by omega,λy hy=> ?_⟩;have e1:nmOf nm b.A=x:=by simp only[nmOf,hx,Ao]
   have e2:nmOf nm b.B=y:=by simp only[nmOf,hy,Ao]
   have ac:=Y9 nm hb;rw[e1,e2] at ac;refine⟨λad=>⟨O,λb' z=>⟨by omega,⟨k+1,by omega⟩,[(5,some 7)],by simp only;omega,?_⟩⟩,λad=>⟨⟨k+1,by omega⟩,[(5,some 5)],by simp only;omega,?_⟩⟩
   .rw[hb] at z;obtain rfl:=Al z;simp only[subP];simp(disch:=omega)only[ZA,simprocAttr,AC,ac];rw[Am (by omega) (by omega),Ab ad];simp[Bond.c]
   .simp only[subP];simp(disch:=omega)only[ZA,simprocAttr,AC,ac];rw[Am (by omega) (by omega),Af (Df.1 ad),BJ];simp
  .have:k=bs.length:=by omega
   subst this;rw[Dh];intro _;simp only[shrN,FV,Hd,AH,<-hgs,<-hnm]
def V6(s:Aj): ∀(l:List Glue) (i:Nat),Fc s i l=true-> ∀g∈l,1<=g.Strength/\g.Strength<=4
 |[],_,_,_,h=>by cases h
 |x::r,i,h,g,z=>by
  simp only[Fc,Av,AE,AP] at h;rcases A9.1 z with rfl|z
  .exact⟨h.1.2.1.1,h.1.2.1.2⟩
  .exact V6 s r _ h.2 g z
def V8(s:Aj): ∀(l:List Tile) (i:Nat),Ey s i l=true-> ∀t∈l,t.Sides.length=4/\ ∀g∈t.Sides,0<=g/\g<=s.Glues.length
 |[],_,_,_,h=>by cases h
 |x::r,i,h,t,z=>by
  simp only[Ey,Av,AP,BE,AE] at h;rcases A9.1 z with rfl|z
  .exact⟨h.1.2.1,λg G=>⟨(h.1.2.2.2 g G).1,(h.1.2.2.2 g G).2⟩⟩
  .exact V8 s r _ h.2 t z
def St{s:Aj}(h:C5 s=true):setP s:=by
 simp only[C5,Av,AP] at h;exact⟨by omega,V8 s _ _ h.2.2,V6 s _ _ h.2.1⟩
def IZ{s:Aj}{a:Asm}(h:EN s a=true):BR s a/\a.Tiles.length<=500:=by
 simp only[EN,Av,AP,BE,AE] at h;exact⟨⟨h.1.1,λx z=>⟨(h.2 x z).1,by have:=(h.2 x z).2;omega⟩⟩,h.1.2⟩
def step_ne(p:Aa)(d:Int):AD p d≠p:=by
 intro h;have G:(AD p d).X=p.X:=by rw[h]
 have z:(AD p d).Y=p.Y:=by rw[h]
 simp only[AD] at G z;split at G
 .rename_i h0;rw[Af h0] at z;simp only at z;omega
 .rename_i h0;rw[Ab h0] at z;split at G
  .simp only at G;omega
  .rename_i O;rw[Ab O] at z;split at G
   .rename_i Q;rw[Af Q] at z;simp only at z;omega
   .simp only at G;omega
def nbA_ne(a:Asm)(i:Nat)(d:Int)(Z:i<a.Tiles.length):nbA a i d≠i:=by
 intro h;rcases GR (λx=>decide (x.At=AD ((a.Tiles[(i:Int).toNat]?.map Ad.At).getD ⟨0,0⟩) d)) a.Tiles 0 with ⟨_,z⟩|⟨j,x,O,z,Q⟩
 .simp only[nbA,z] at h;omega
 .simp only[nbA,z,CM] at h;have G:j=i:=by omega
  subst G
  have:=Hl O
  simp only[AP,AH,Q,Bw,Ao] at this;exact step_ne _ _ this.symm
def bndP(n:Int)(b:Bond):Prop:=(0<=b.A/\b.A<n/\0<=b.B/\b.B<n)/\b.A≠b.B/\0<b.Strength/\b.Strength<=4
def bndOf_P{s:Aj}(hs:setP s)(a:Asm)(i:Nat)(Z:i<a.Tiles.length)(d:Int): ∀b∈IK s a i d,bndP a.Tiles.length b:=by
 intro b hb;simp only[IK] at hb;split at hb
 .rename_i h0;split at hb
  .rename_i z;rw[AO] at hb;subst hb;have G:=nbA_lt a i d;have O:=nbA_ne a i d Z;have Q:CT s (Da a i) d (Da a (nbA a i d))<=4:=by
    simp only[CT];split
    .exact (Tk hs _).2
    .omega
   exact⟨⟨by simp only;omega,by simp only;omega,h0,G⟩,λh=>O h.symm,z,Q⟩
  .simp at hb
 .simp at hb
def XT{s:Aj}(hs:setP s)(a:Asm)(i:Nat)(z:i<a.Tiles.length): ∀k,∀b∈EP s a i k,bndP a.Tiles.length b
 |0,b,h=>by simp[EP] at h
 |k+1,b,h=>by
  simp only[EP,AG] at h;rcases h with h|h
  .exact XT hs a i z k b h
  .exact bndOf_P hs a i z _ b h
def QQ{s:Aj}(hs:setP s)(a:Asm): ∀k,k<=a.Tiles.length-> ∀b∈CF s a k,bndP a.Tiles.length b
 |0,_,b,h=>by simp[CF] at h
 |k+1,z,b,h=>by
  simp only[CF,AG] at h;rcases h with h|h
  .exact QQ hs a k (by omega) b h
  .exact XT hs a k (by omega) _ b h
def nmRow_b(g:Int)(r:List Int)(m:Int)(h0:0<=g)(O:g<m)(l:List Int)(G: ∀x∈l,0<=x/\x<m): ∀k,∀x∈Gu g r l k,0<=x/\x<m
 |0=>G
 |k+1=>by
  intro x z;simp only[Gu] at z;rcases IQ z with z|z
  .exact nmRow_b g r m h0 O l G k x z
  .omega
def nmAll_b(gs:List (List Int))(l:List Int)(z: ∀x∈l,0<=x/\x<(gs.length:Int)): ∀i,i<=gs.length-> ∀x∈ES gs l i,0<=x/\x<(gs.length:Int)
 |0,_=>z
 |i+1,G=>nmRow_b _ _ _ (by omega) (by omega) _ (nmAll_b gs l z i (by omega)) _
def Rn{n:Nat}{gs:List (List Int)}(G:0<gs.length)(v:Int):0<=nmOf (Hd n gs) v/\nmOf (Hd n gs) v<(gs.length:Int):=by
 simp only[nmOf];cases h:(Hd n gs)[v.toNat]? with
 |none=>simp;omega
 |some x=>
  rw[Ao];exact nmAll_b gs _ (λx z=>by have:=Gf z;omega) _ (Ar _) x (Ax h)
def Xm{n:Nat}{gs:List (List Int)}(z:0<gs.length): ∀(bs:List Bond),(∀b∈bs,0<b.Strength/\b.Strength<=4)-> ∀b∈DK (Hd n gs) bs,bndP gs.length b
 |[],_,b,h=>by simp[DK] at h
 |x::r,O,b,h=>by
  simp only[DK] at h;have ih:=Xm (n:=n) z r (λy Z=>O y (AX _ Z)) b;split at h
  .exact ih h
  .rename_i Q;rcases A9.1 h with rfl|h
   .have h1:=Rn (n:=n) z x.A;have h2:=Rn (n:=n) z x.B;have G:=O x (AU ..);refine⟨?_,?_,G.1,G.2⟩
    .simp only[minI,maxI]
     split<;>split<;>omega
    .simp only[minI,maxI]
     split<;>split<;>omega
   .exact ih h
def shr_pre{n:Int}{bs:List Bond}{t:Int}(hb: ∀b∈bs,bndP n b)(Z:bs.length<=1000000)(h0:0<(shrN n bs t).1)(Q:(shrN n bs t).1<=64):Jk (shrN n bs t)/\Gs (shrN n bs t).2:=by
 have G:=Xm (n:=n.toNat) (gs:=FV n bs t) (by simp only[shrN] at h0;omega) bs (λb z=>⟨(hb b z).2.2.1,(hb b z).2.2.2⟩);have O:=S6 (Hd n.toNat (FV n bs t)) bs;refine⟨⟨by omega,by omega,by simp only[shrN];omega,λb z=>(G b z).1,λb z=>(G b z).2.1⟩,λb z=> ?_⟩
 have:=(G b z).2.2
 omega
def Lp(s:Aj)(a:Asm)(t:Int):Bool×Int:=
 if 64<(shrN a.Tiles.length (CF s a a.Tiles.length) t).1 then (false,4)
 else if (shrN a.Tiles.length (CF s a a.Tiles.length) t).1<2 then (true,0)
 else (decide (t<=(CG (shrN a.Tiles.length (CF s a a.Tiles.length) t).1 (shrN a.Tiles.length (CF s a a.Tiles.length) t).2 ((shrN a.Tiles.length (CF s a a.Tiles.length) t).1 - 1).toNat).1),0)
def l07Stable.fv(a:Aj×Asm×Int):Bool×Int:=(Lp) (a.1) (a.2.1) (a.2.2)
def l07Stable.row:Row:=vK (b3 (qP 2 Aj.d_le) (qP 1 Asm.d_le) qI) (r2 rB rI) (λa=>setP a.1/\BR a.1 a.2.1/\a.2.1.Tiles.length<=500) l07Stable.fv
def l07Stable.q:=vKq (R:=l07Stable.row) rfl
def l07Stable.ok:Ak Tryz.prog 167 l07Stable.row:=by
 refine vw (tC l06Bonds.ok (tC shrunk.ok (tC weakC.ok tN))) Tryz.func167 rfl (by kernel_rfl) ?_;intro a z;simp only[Tryz.f167];simp(disch:=omega)only[ZA,simprocAttr,Asm.d,l07Stable.fv,l06Bonds.q,l06Bonds.fv,shrunk.q,shrunk.fv,weakC.q,weakC.fv];obtain⟨G,Q,h3⟩:=z;have O:=QQ G a.2.1 _ (Ar _);have hl:=Ov a.1 a.2.1 a.2.1.Tiles.length;refine⟨⟨G,Q,by omega⟩,⟨by omega,λb hb=>(O b hb).1,by omega⟩,?_⟩;simp only[Lp];split
 .rfl
 .rename_i c1;split
  .rfl
  .rename_i c2;obtain⟨p1,Z⟩:=shr_pre (t:=a.2.2) O (by omega) (by omega) (by omega);exact⟨⟨p1,Z,by omega⟩,rfl⟩
def stabB(s:Aj)(a:Asm)(t:Int):Bool:=(Lp s a t).1 && decide ((Lp s a t).2=0)
def C7(y:Ah):Bool:=C5 y.Set && (EN y.Set y.Seed && (!y.Seed.Tiles.isEmpty && (AE y.Temperature 1 16 && stabB y.Set y.Seed y.Temperature)))
def l08Ok.fv(a:Ah):Bool:=(C7) a
def l08Ok.row:Row:=vK (b1 (qP 4 Ah.d_le)) rB (λa=>True) l08Ok.fv
def l08Ok.q:=vKq (R:=l08Ok.row) rfl
def l08Ok.ok:Ak Tryz.prog 117 l08Ok.row:=by
 refine vw (tC l02Ok.ok (tC l03Ok.ok (tC l07Temperature.ok (tC l07Stable.ok tN)))) Tryz.func117 rfl (by kernel_rfl) ?_;intro a aa;simp only[Tryz.f117];simp(disch:=omega)only[ZA,simprocAttr,Asm.d,l08Ok.fv,l02Ok.q,l02Ok.fv,l03Ok.q,l03Ok.fv,l07Temperature.q,l07Temperature.fv,l07Stable.q,l07Stable.fv]
 split<;>rename_i c1
 .split<;>rename_i c2
  .have z:EN a.Set a.Seed=true:=by
    simp only[EN,Av,AP];exact c2
   split<;>rename_i G
   .have O:a.Seed.Tiles.isEmpty=false:=by
     rw[UT];intro h;rw[h] at G;simp at G
    split<;>rename_i Q
    .simp only[C7,Q,CA,LA]
    .refine⟨⟨St c1,(IZ z).1,(IZ z).2⟩,?_⟩;rw[CN] at Q;simp only[C7,c1,z,O,Q,BY,IS,stabB]
     split<;>rename_i Z
     .rw[Z,BY]
     .rw[Fw] at Z;rw[Z,CA]
   .have O:a.Seed.Tiles=[]:=by
     have:=Df.1 G
     exact P4 (by omega)
    simp[C7,O]
  .have z:EN a.Set a.Seed=false:=by
    rw[G2];intro h;simp only[EN,Av,AP] at h;exact c2 h
   simp[C7,z]
 .rw[Fw] at c1;simp[C7,c1]
def B4(b n:Nat):List (List AV):=(List.range n).map λi=>[AV.own (b+i)]
def matH(b n:Nat)(M:List (List Int)):Ag:=famH b n (λi=>(true,.arr 2 1 ((M[i]?.getD []).map intC)))
def exW(j:Nat):Bool:=Nat.blt j 3||((Nat.ble 100 j && Nat.blt j 164)||(Nat.ble 200 j && Nat.blt j 264))
def nwH(x:Nwk)(n:Nat):Ag:=(0,(true,.cells 375 [.own 1,.own 2]))::(1,(true,.arrA 32 1 (B4 100 n)))::(2,(true,.arrA 32 1 (B4 200 n)))::(matH 100 n x.Room++matH 200 n x.Flow)
def nwC.ca(a:Int×List Bond):List AV:=[.im (.int .i64 a.1),.im (.sl false 3 (a.2.map Bond.c))]
def nwC.H1(a:Int×List Bond):Ag:=nwH (netF a.1.toNat a.2) (min a.1.toNat 64)
def nwPre(a:Int×List Bond):Prop:=0<=a.1/\a.1<=64/\a.2.length<=1000000/\Fh a.1 a.2/\Gs a.2/\ ∀b∈a.2,b.A≠b.B
def nwC.row:Row:=orow nwC.ca (λ_=>[]) 0 nwPre (λ_=>false) (λ_=> .ptr 0 0) nwC.H1 320
def OA(m:Nat): ∀(a b:Ag),belH m (a++b)=(belH m a && belH m b)
 |[],b=>by simp[belH]
 |(i,(z,e))::r,b=>by
  have ih:=OA m r b;cases e<;>simp only[Bv,belH,ih,RI]
def SQ(m:Nat): ∀(a b:Ag),Ai m (a++b)=(Ai m a && Ai m b)
 |[],b=>by simp[Ai]
 |(i,(z,e))::r,b=>by simp only[Bv,Ai,SQ m r b,RI]
def I0(b n N:Nat)(h:b+n<=N):(B4 b n).all (belL N)=true:=by
 rw[BE];intro r G;obtain⟨i,z,rfl⟩:=AF.1 G
 have:=AJ.1 z
 simp[belL,AV.bel];omega
def V7(nx:Nat): ∀(l:List Nat),outN nx 0 l=true
 |[]=>rfl
 |x::r=>by
  have:(Nat.blt x nx||Nat.ble (nx+0) x)=true:=by
   rw[Dy,Ch,DC];omega
  simp only[outN,this,V7 nx r,L3]
def Eo(b n:Nat):(B4 b n).length=n:=by simp[B4]
def Tb(b n i:Nat)(h:i<n):(B4 b n)[i]? =some [.own (b+i)]:=by simp[B4,Ee h]
def Tn(a b:Ag):Cy (a++b)=Cy a++Cy b:=by
 induction a with
 |nil=>rfl
 |cons x r ih=>obtain⟨i,e⟩:=x;simp only[Bv,Cy,ih]
def Gv(m:Nat): ∀(a b:Ag),hget (a++b) m=(hget a m).or (hget b m)
 |[],b=>by simp[hget]
 |(i,e)::r,b=>by
  have ih:=Gv m r b;simp only[Bv,hget];cases i==m<;>simp[ih]
def VS(b n:Nat)(M:List (List Int))(i:Nat)(h:i<n):hget (matH b n M) (b+i)=some (true,.arr 2 1 ((M[i]?.getD []).map intC)):=DL _ _ _ _ h
def YH(b n:Nat)(M:List (List Int))(m:Nat)(h:m<b\/b+n<=m):hget (matH b n M) m=none:=SR _ _ _ _ h
def K7(k:Nat)(M N:List (List Int))(i:Nat)(h:i<k):hget (matH 100 k M++matH 200 k N) (100+i)=some (true,.arr 2 1 ((M[i]?.getD []).map intC)):=by
 rw[Gv,VS _ _ _ _ h];rfl
def KB(k:Nat)(M N:List (List Int))(i:Nat)(z:k<=100)(h:i<k):hget (matH 100 k M++matH 200 k N) (200+i)=some (true,.arr 2 1 ((N[i]?.getD []).map intC)):=by
 rw[Gv,YH _ _ _ _ (by omega),VS _ _ _ _ h];rfl
def Ux(b n i:Nat)(K:List AV->Prop)(h:i<n):E3 (B4 b n) i K=K [.own (b+i)]:=by
 apply propext;unfold E3;rw[Tb b n i h];exact⟨λh=>h _ rfl,λh row z=>by obtain rfl:=Al z;exact h⟩
def LO(s:Ac): ∀(a b:Ag),subH s (a++b)=(subH s a/\subH s b)
 |[],b=>by simp[subH]
 |(i,e)::r,b=>by simp only[Bv,subH,LO s r b,M9]
def OJ(s:Ac)(b n:Nat)(M:List (List Int)):subH s (matH b n M)= ∀i,i<n->hget s.h (b+i)=some (true,.arr 2 1 ((M[i]?.getD []).map intC)):=by
 have: ∀(f:Nat->Ent) (l:List Nat),subH s (l.map λi=>(b+i,f i))↔ ∀i∈l,hget s.h (b+i)=some (f i):=by
  intro f l;induction l with
  |nil=>simp[subH]
  |cons i r ih=>simp only[Ay,subH,ih,A9,RF]
 apply propext;rw[matH,famH,this];simp only[AJ]
def QP{n:Nat}{bs:List Bond}(hb:Fh n bs)(hs:Gs bs)(a b:Nat): ∀k,0<=rmF (netK n bs k) a b/\rmF (netK n bs k) a b<=2000000*(k:Int)
 |0=>by
  simp only[rmF,netK,netZ,Dr,Fu];split
  .rw[Ao,Fu];split<;>simp
  .simp
 |k+1=>by
  have ih:=QP hb hs a b k;obtain⟨z,_⟩:=I7 hb k;simp only[rmF,netK] at ih⊢;split
  .rename_i x G;obtain⟨b1,b2,b3,b4⟩:=hb x (Ax G);have h0:=hs x (Ax G);simp only[addB];rw[show x.A=(x.A.toNat:Int) by omega,show x.B=(x.B.toNat:Int) by omega];rw[K5 (n:=n) (by rw[Jb];exact z.r) (IX z.rr _ _ _ (by rw[z.r];simp;omega)) _ (by omega) (by omega),K5 z.r z.rr _ (by omega) (by omega)]
   split<;>split<;>omega
  .omega
def nw_nodup(k:Nat)(O:k<=64):([0,1,2]++((List.range k).map (100+ ·)++(List.range k).map (200+ ·))).Nodup:=by
 rw[<-DA];refine K8 _ 200 k (K8 _ 100 k (by simp) (by simp)) ?_;intro x z;rcases AG.1 z with z|z
 .simp at z;omega
 .obtain⟨i,G,rfl⟩:=AF.1 z
  have:=AJ.1 G
  show 100+i<200;omega
def nw_lt(k:Nat)(O:k<=64): ∀x∈([0,1,2]++((List.range k).map (100+ ·)++(List.range k).map (200+ ·))),x<300:=by
 intro x z;rcases AG.1 z with z|z
 .simp at z;omega
 .rcases AG.1 z with z|z<;>obtain⟨i,G,rfl⟩:=AF.1 z<;>have:=AJ.1 G
  .show 100+i<300;omega
  .show 200+i<300;omega
def UH{π:List (Nat×Option Nat)}{b:Nat}{g:Nat->Nat}{n:Nat}(h: ∀i,i<n->pm π (b+i)=some (g i)){R:List (List AV)}(hR:R=(List.range n).map λi=>[AV.own (g i)]):mtR π (B4 b n) R:=by
 subst hR;rw[La];refine⟨by simp[B4],λi x y G O=> ?_⟩;have z:i<n:=by have:=(Ba.1 G).1;rwa [Eo] at this
 rw[Tb _ _ _ z] at G;rw[BI,Ee z] at O;obtain rfl:=Al G;obtain rfl:=Al O;simp only[mtL,mt,h i z,ownM,DB]
def SB(b k c:Nat):B4 b k++[[.own c]]=(List.range (k+1)).map λi=>[AV.own (if i<k then b+i else c)]:=by
 rw[M3,Di,B4];congr 1
 .exact Gd λi z=>by rw[Af (AJ.1 z)]
 .simp
def Pb(k:Nat)(M N:List (List Int))(G:k<=64)(tm:List (Nat×AV))(z:belT 300 tm=true):Ac.good ⟨tm,(0,(true,.cells 375 [.own 1,.own 2]))::(1,(true,.arrA 32 1 (B4 100 k)))::(2,(true,.arrA 32 1 (B4 200 k)))::(matH 100 k M++matH 200 k N),300⟩=true:=by
 simp only[Ac.good,belH,Ai,z,BY,OA,SQ,matH];rw[GY _ _ _ (λi=>rfl),GY _ _ _ (λi=>rfl),GK _ _ _ _ (by omega),GK _ _ _ _ (by omega),I0 _ _ _ (by omega),I0 _ _ _ (by omega)];rfl
def exW_lt(o:Nat)(h:exW o=true):o<264:=by
 simp only[exW,Dy,Av,Ch,DC] at h;omega
def exW_1(i:Nat)(h:i<64):exW (100+i)=true:=by
 simp only[exW,Dy,Av,Ch,DC];omega
def exW_2(i:Nat)(h:i<64):exW (200+i)=true:=by
 simp only[exW,Dy,Av,Ch,DC];omega
def WE(h:Nat->Option Ent)(f:AV->Option AV): ∀(a b:Ag),Cq h f (a++b)↔Cq h f a/\Cq h f b
 |[],b=>by simp[Cq]
 |(i,e)::r,b=>by simp only[Bv,Cq,WE h f r b,M9]
def Tg(h:Nat->Option Ent)(f:AV->Option AV)(b n:Nat)(M:List (List Int))(H: ∀i,i<n->h (b+i)=some (true,.arr 2 1 ((M[i]?.getD []).map intC))):Cq h f (matH b n M):=by
 have: ∀(l:List Nat),(∀i∈l,i<n)->Cq h f (l.map λi=>(b+i,(true,AObj.arr 2 1 ((M[i]?.getD []).map intC)))):=by
  intro l;induction l with
  |nil=>intro _;simp[Cq]
  |cons i r ih=>
   intro z;simp only[Ay,Cq];refine⟨?_,ih (λj O=>z j (AX _ O))⟩;rw[H i (z i (AU ..))];exact⟨rfl,rfl⟩
 exact this _ (λi G=>AJ.1 G)
def WH{h:Nat->Option Ent}{kx:Nat->Option Nat}{m b n:Nat}(G: ∀i,i<n->kx (b+i)=some (b+i)):mapO (mapO (cvt h kx (m+1))) (B4 b n)=some (B4 b n):=by
 refine Hx (g:=λi=>[AV.own (b+i)]) (k:=λi=>[AV.own (b+i)]) _ λi z=> ?_
 simp only[mapO,cvt,G i (AJ.1 z),kp]
def outOk_nw{x:Nwk}{n:Nat}(hn:n<=64){kx:Nat->Option Nat}(G: ∀o,exW o=true->kx o=some o):Cq (hget (nwH x n)) (cvt (hget (nwH x n)) kx 9) (nwH x n):=by
 have k1:kx 1=some 1:=G 1 rfl;have k2:kx 2=some 2:=G 2 rfl;obtain⟨H,hH⟩: ∃H,H=hget (nwH x n):=⟨_,rfl⟩;have g0:H 0=some (true,.cells 375 [.own 1,.own 2]):=by rw[hH];rfl
 have g1:H 1=some (true,.arrA 32 1 (B4 100 n)):=by rw[hH];rfl
 have g2:H 2=some (true,.arrA 32 1 (B4 200 n)):=by rw[hH];rfl
 have ga: ∀i,i<n->H (100+i)=some (true,.arr 2 1 ((x.Room[i]?.getD []).map intC)):=by
  intro i z;rw[hH];simp only[nwH,hget,A7 _ _ (show 0≠100+i by omega),A7 _ _ (show 1≠100+i by omega),A7 _ _ (show 2≠100+i by omega),AM];exact K7 _ _ _ _ z
 have gb: ∀i,i<n->H (200+i)=some (true,.arr 2 1 ((x.Flow[i]?.getD []).map intC)):=by
  intro i z;rw[hH];simp only[nwH,hget,A7 _ _ (show 0≠200+i by omega),A7 _ _ (show 1≠200+i by omega),A7 _ _ (show 2≠200+i by omega),AM];exact KB _ _ _ _ (by omega) z
 rw[<-hH];simp only[nwH,Cq,WE];refine⟨?_,?_,?_,Tg _ _ _ _ _ ga,Tg _ _ _ _ _ gb⟩
 .rw[g0];exact⟨rfl,by simp only[cvtE,mapO,cvt,k1,k2,kp];rfl⟩
 .rw[g1];exact⟨rfl,by simp only[cvtE];rw[WH (λi z=>G _ (exW_1 i (by omega)))];rfl⟩
 .rw[g2];exact⟨rfl,by simp only[cvtE];rw[WH (λi z=>G _ (exW_2 i (by omega)))];rfl⟩
def nwH_mem{x:Nwk}{n:Nat}(hn:n<=64){p:Nat×Ent}(hp:p∈nwH x n):exW p.1=true/\p.2.1=true:=by
 simp only[nwH,A9,AG,matH,famH,AF,AJ] at hp;rcases hp with rfl|rfl|rfl|⟨i,z,rfl⟩|⟨i,z,rfl⟩
 .exact⟨rfl,rfl⟩
 .exact⟨rfl,rfl⟩
 .exact⟨rfl,rfl⟩
 .exact⟨exW_1 i (by omega),rfl⟩
 .exact⟨exW_2 i (by omega),rfl⟩
def nw_mem{a:Int×List Bond}{p:Nat×Ent}(hp:p∈nwC.H1 a):exW p.1=true/\p.2.1=true:=nwH_mem (L7 _ _) hp
def nwC.ok:Ak Tryz.prog 270 nwC.row:=by
 refine ow tN Tryz.func270 rfl (by kernel_rfl) (exB:=exW) (R:=λ_ r=>r= .ptr 0 0) (λ_=>rfl)
  (λa=>by simp[nwC.ca,belL,AV.bel,belH,Ai,AT]) (λa p hp=> ?_) (λa r h=>by subst h;exact LeV.refl _) ?_
 rotate_left
 intro a ao;simp only[Tryz.f270,nwC.ca];simp(disch:=omega)only[ZA,simprocAttr];obtain⟨h0,O,hl,Q,ag,an⟩:=ao;obtain⟨n,hn⟩: ∃n:Nat,a.1=n:=⟨a.1.toNat,by omega⟩;obtain⟨bs,hbsd⟩: ∃bs,bs=a.2:=⟨_,rfl⟩;simp only[<-hbsd] at hl Q ag an;rw[hn] at h0 O Q;have hH1:nwC.H1 a=nwH (netF n bs) n:=by simp only[nwC.H1,hn,AH,hbsd];rw[Vi (by omega)]
 rw[hH1];clear hH1;simp only[hn,<-hbsd];refine Au.ren ⟨{k:Nat//k<=n},λk=>⟨[(11,.im (.int .i64 k.1)),(10,.im (.int .i64 n)),(5,.ptr 0 0),(0,.im (.int .i64 n)),(1,.im (.sl false 3 (bs.map Bond.c)))],(0,(true,.cells 375 [.own 1,.own 2]))::(1,(true,.arrA 32 1 (B4 100 k.1)))::(2,(true,.arrA 32 1 (B4 200 k.1)))::(matH 100 k.1 (List.replicate n (List.replicate n 0))++matH 200 k.1 (List.replicate n (List.replicate n 0))),300⟩,λk=>n - k.1,λk=>⟨?_,by simp⟩,⟨⟨0,by simp⟩,[(1,none),(2,none)],?_⟩,λk=> ?_⟩
 .exact Pb _ _ _ (by omega) _ (by simp[belT,AV.bel])
 .simp only[subP,matH,famH,B4,Vh,D2,BJ];simp(disch:=omega)only[ZA,simprocAttr,IU]
 obtain⟨k,as⟩:=k;simp(disch:=omega)only[ZA,simprocAttr,ORB,Aq,AL,V7,PH,P7,Fx,List.all_nil,I0,Eo];refine⟨λhk=>⟨by omega,by omega,by omega,by omega,⟨k+1,by omega⟩,[(1,some 302),(2,some 305),(100+k,some 300),(200+k,some 303)],by simp only;omega,?_⟩,λhk=> ?_⟩
 .have hg: ∀i,i<n->(List.replicate n (List.replicate n (0:Int)))[i]?.getD []=List.replicate n 0:=by
   intro i z;rw[Fu,Af z,Ao]
  have ad: ∀i,i<k->pm [(1,some 302),(2,some 305),(100+k,some 300),(200+k,some 303)] (100+i)=some (100+i):=by
   intro i z;simp only[pm];rw[Ab (by omega),Ab (by omega),Ab (by omega),Ab (by omega)]
  have af: ∀i,i<k->pm [(1,some 302),(2,some 305),(100+k,some 300),(200+k,some 303)] (200+i)=some (200+i):=by
   intro i z;simp only[pm];rw[Ab (by omega),Ab (by omega),Ab (by omega),Ab (by omega)]
  have ab:pm [(1,some 302),(2,some 305),(100+k,some 300),(200+k,some 303)] (100+k)=some 300:=by
   simp only[pm];rw[Ab (by omega),Ab (by omega),Af trivial]
  have ac:pm [(1,some 302),(2,some 305),(100+k,some 300),(200+k,some 303)] (200+k)=some 303:=by
   simp only[pm];rw[Ab (by omega),Ab (by omega),Ab (by omega),Af trivial]
  have q0:pm [(1,some 302),(2,some 305),(100+k,some 300),(200+k,some 303)] 0=some 0:=by
   simp only[pm];rw[Ab (by omega),Ab (by omega),Ab (by omega),Ab (by omega)]
  have q1:pm [(1,some 302),(2,some 305),(100+k,some 300),(200+k,some 303)] 1=some 302:=rfl;have q2:pm [(1,some 302),(2,some 305),(100+k,some 300),(200+k,some 303)] 2=some 305:=rfl;obtain⟨π,hπ⟩: ∃π,π=[(1,some 302),(2,some 305),(100+k,some 300),(200+k,some 303)]:=⟨_,rfl⟩;rw[<-hπ] at ad af ab ac q0 q1 q2⊢;refine⟨by rw[hπ];exact⟨by omega,by omega,by omega,by omega,trivial⟩,?_,?_,?_⟩
  .rw[KQ,hπ];simp only[Cy,Tn,matH,Jc];refine KZ _ _ (nw_nodup (k+1) (by omega)) ?_;intro x hx y hy m ah ai;have a8:=nw_lt (k+1) (by omega) x hx;have a9:=nw_lt (k+1) (by omega) y hy;simp only[pm] at ah ai
   repeat' split at ah
   all_goals repeat' split at ai
   all_goals simp only[An] at ah ai
   all_goals omega
  .simp only[Gx,tget];simp(disch:=omega)only[ZA,simprocAttr,q0];rw[Am (by omega) (by omega)];omega
  .simp only[Dw,SV,matH,KG];refine⟨?_,?_,?_,λi z=> ?_,λi z=> ?_⟩
   .simp(disch:=omega)only[ZA,simprocAttr,q0,q1,q2]
   .simp(disch:=omega)only[ZA,simprocAttr,q1];refine UH (g:=λi=>if i<k then 100+i else 300) (λi z=> ?_) (SB 100 k 300);by_cases h:i<k
    .rw[Af h,ad i h]
    .rw[Ab h,show i=k by omega,ab]
   .simp(disch:=omega)only[ZA,simprocAttr,q2];refine UH (g:=λi=>if i<k then 200+i else 303) (λi z=> ?_) (SB 200 k 303);by_cases h:i<k
    .rw[Af h,af i h]
    .rw[Ab h,show i=k by omega,ac]
   .by_cases h:i<k
    .rw[ad i h,hg i (by omega)];simp only[entN,hget,A7 _ _ (show 0≠100+i by omega),A7 _ _ (show 305≠100+i by omega),A7 _ _ (show 303≠100+i by omega),A7 _ _ (show 302≠100+i by omega),A7 _ _ (show 300≠100+i by omega),AM,I2];have h9:=K7 k (List.replicate n (List.replicate n 0)) (List.replicate n (List.replicate n 0)) i h;simp only[matH] at h9;simp (disch:=omega) only[J2,J7,A7,G3,B1,Bp,h9,hg,entM,mtE,DB]
    .rw[show i=k by omega,ab,hg k (by omega)];simp(disch:=omega)only[ZA,simprocAttr,Pa]
   .by_cases h:i<k
    .rw[af i h,hg i (by omega)];simp only[entN,hget,A7 _ _ (show 0≠200+i by omega),A7 _ _ (show 305≠200+i by omega),A7 _ _ (show 303≠200+i by omega),A7 _ _ (show 302≠200+i by omega),A7 _ _ (show 300≠200+i by omega),AM,I2];have h9:=KB k (List.replicate n (List.replicate n 0)) (List.replicate n (List.replicate n 0)) i (by omega) h;simp only[matH] at h9;simp (disch:=omega) only[J2,J7,A7,G3,B1,Bp,h9,hg,entM,mtE,DB]
    .rw[show i=k by omega,ac,hg k (by omega)];simp(disch:=omega)only[ZA,simprocAttr,Pa]
 .intro _;have au:k=n:=by omega
  subst au;clear hk as;refine Au.old ⟨{j:Nat//j<=bs.length},λj=>⟨[(38,.im (.int .i64 j.1)),(37,.im (.int .i64 bs.length)),(36,.im (.sl false 3 (bs.map Bond.c))),(5,.ptr 0 0)],(0,(true,.cells 375 [.own 1,.own 2]))::(1,(true,.arrA 32 1 (B4 100 k)))::(2,(true,.arrA 32 1 (B4 200 k)))::(matH 100 k (netK k bs j.1).Room++matH 200 k (netK k bs j.1).Flow),300⟩,λj=>bs.length - j.1,λj=>⟨?_,by simp⟩,⟨⟨0,by simp⟩,?_⟩,λj=> ?_⟩
  .exact Pb _ _ _ (by omega) _ (by simp[belT,AV.bel])
  .simp only[sub,subT,subH,tget,hget,LO];simp(disch:=omega)only[ZA,simprocAttr,OJ,netK,netZ];refine⟨λi z=> ?_,λi z=> ?_⟩
   .rw[Ab (by omega),Ab (by omega),Ab (by omega)];exact K7 _ _ _ _ z
   .rw[Ab (by omega),Ab (by omega),Ab (by omega)];exact KB _ _ _ _ (by omega) z
  obtain⟨j,hj⟩:=j;obtain⟨aa,_⟩:=I7 Q j;obtain⟨x,hx⟩: ∃x,x=netK k bs j:=⟨_,rfl⟩;simp only[<-hx] at aa⊢;simp(disch:=omega)only[ZA,simprocAttr,exW,Aq,AL,Eo];refine⟨λam=>⟨am,λb hb=> ?_⟩,λam=> ?_⟩
  .obtain⟨b1,b2,b3,b4⟩:=Q b (Ax hb);have ay:=an b (Ax hb);have az:=ag b (Ax hb);obtain⟨u,hu⟩: ∃u:Nat,b.A=u:=⟨b.A.toNat,by omega⟩;obtain⟨v,hv⟩: ∃v:Nat,b.B=v:=⟨b.B.toNat,by omega⟩;have Z:u<k:=by omega
   have G:v<k:=by omega
   have ax:u≠v:=by omega
   simp only[hu,hv,AH];refine⟨by omega,by omega,by omega,?_⟩;have hr: ∀i,i<k->(x.Room[i]?.getD []).length=k:=by
    intro i z;rw[A8 (by rw[aa.r];exact z),Ao];exact aa.rr _ (Hk _)
   have av:=hr u Z;have aw:=hr v G;simp(disch:=omega)only[ZA,simprocAttr,sub,IC,AL,Eo,A7,FU,K7,av,aw,Ux,K4,PH,LO,OJ];have aj:=QP Q ag u v j;have ak:=QP Q ag v u j;rw[<-hx] at aj ak;refine⟨by omega,G,by omega,G,λx1 e1=>⟨G,by omega,G,λx2 _=>⟨.inr (by omega),G,G,by omega,Z,by omega,Z,λx3 e3=>⟨Z,by omega,Z,λx4 _=>⟨.inr (by omega),⟨j+1,by omega⟩,by simp only;omega,by rw[Am (by omega) (by omega)];simp only;omega,?_⟩⟩⟩⟩⟩;have r1:rmF x u v=x1:=by simp only[rmF,Dr,e1,Ao]
   have r3:rmF x v u=x3:=by simp only[rmF,Dr,e3,Ao]
   rw[r1] at aj;rw[r3] at ak;rw[Am (by omega) (by omega),Am (by omega) (by omega)];have hN:netK k bs (j+1)=addB x b:=by simp only[netK,hb,<-hx]
   have hR: ∀i,i<k->(netK k bs (j+1)).Room[i]?.getD []=if v=i then (x.Room[v]?.getD []).set u (x3+b.Strength) else if u=i then (x.Room[u]?.getD []).set v (x1+b.Strength) else x.Room[i]?.getD []:=by
    intro i z;rw[hN];simp only[addB,Fl,hu,hv,AH];by_cases O:v=i
    .subst O;rw[Af rfl,BA (by rw[Cr,aa.r];exact G),Ao,BM ax,e3,Ao]
    .rw[Ab O,BM O];by_cases h2:u=i
     .subst h2;rw[Af rfl,BA (by rw[aa.r];exact Z),Ao,e1,Ao]
     .rw[Ab h2,BM h2]
   have hF:(netK k bs (j+1)).Flow=x.Flow:=by rw[hN];rfl
   refine⟨λi z=> ?_,λi z=> ?_⟩
   .rw[hR i z];by_cases O:v=i
    .subst O;rw[Af rfl,Af rfl]
    .rw[Ab (by omega),Ab O];by_cases h2:u=i
     .subst h2;rw[Af rfl,Af rfl]
     .rw[Ab (by omega),Ab h2,Ab (by omega)];exact K7 _ _ _ _ z
   .rw[Ab (by omega),hF];exact KB _ _ _ _ (by omega) z
  .have aq:j=bs.length:=by omega
   subst aq;rw[hx];exact outOk_nw (x:=netF k bs) (n:=k) (by omega) (λo ho=>by
    have O:(domB [] o||(exW o && (Nat.ble 0 o && Nat.blt o (0+320))))=true:=by
     have h2:=exW_lt o ho;simp[ho];omega
    simp only[kxB,O,Bc])
 rcases nw_mem hp with ⟨O,h2⟩
 have a0:=exW_lt p.1 O;exact .inr ⟨by omega,by omega,O,h2⟩
structure nwIn(H:Nat->Option Ent)(x:Nwk)(n:Nat):Prop where
 g0:H 0=some (true,.cells 375 [.own 1,.own 2])
 g1:H 1=some (true,.arrA 32 1 (B4 100 n))
 g2:H 2=some (true,.arrA 32 1 (B4 200 n))
 ga: ∀i,i<n->H (100+i)=some (true,.arr 2 1 ((x.Room[i]?.getD []).map intC))
 gb: ∀i,i<n->H (200+i)=some (true,.arr 2 1 ((x.Flow[i]?.getD []).map intC))
def rows_all{M:List (List Int)}{n:Nat}(h:M.length=n):(List.range n).map (λi=>Bo (M[i]?.getD []))=M.map Bo:=by
 apply EY;intro i;rw[BI,BI];by_cases z:i<n
 .rw[Ee z,A8 (by omega:i<M.length)];simp only[Bw,A8 (show i<M.length by omega),Ao]
 .rw[CH (by simp;omega),CH (by omega)];rfl
def nw_rows{H:Nat->Option Ent}{m b o n:Nat}{M:List (List Int)}(Q:M.length=n)(z:H o=some (true,.arrA 32 1 (B4 b n)))(G: ∀i,i<n->H (b+i)=some (true,.arr 2 1 ((M[i]?.getD []).map intC))):
 bk H (m+2) (.own o)=some (.sl false 1 (M.map Bo)):=by
 simp only[bk,z,Fs];rw[B4,Hx (f:=mapO (bk H (m+1))) (g:=λi=>[AV.own (b+i)]) (k:=λi=>Bo (M[i]?.getD [])),rows_all Q]
 .rfl
 .intro i O;simp only[mapO,bk,G i (AJ.1 O),Fs];rfl
def nw_read{H:Nat->Option Ent}{x:Nwk}{n:Nat}(h:nwIn H x n)(z:EU x n)(a b:D):pkFL H [.ptr 0 0,.im a,.im b]=some [.ptr (Nwk.c x),pkI a,pkI b]:=by
 have G:=nw_rows (m:=6) z.r h.g1 h.ga;have O:=nw_rows (m:=6) z.f h.g2 h.gb;simp only[pkFL,pkF,h.g0,Jw,D9,mapO,G,O,pkFP,Bw,Ei];rfl
def way_call{H:Nat->Option Ent}{x:Nwk}{n nx:Nat}{K:Kont}(h:nwIn H x n)(z:EU x n)(hn:n<=1000){p q:Int}(G:0<=p)(aa:p<n)(O:0<=q)(ab:q<n)
 (hK: ∀U,K (.im (.sl true 1 ((wayN x n p q).map intC))) {use:=U}):wayC.row [.ptr 0 0,.im (.int .i64 p),.im (.int .i64 q)] H nx K:=by
 have Q:=z.r;rw[wayC.q,nw_read h z];have e:Nwk.d ((Nwk.c x).take 2)=some x:=Nwk.d_c x;simp only[Iz,b3,qP,qI,a3,kP,kI,pkI,e,Ce,decK];refine⟨⟨Q▸z,by omega,G,by omega,O,by omega⟩,?_⟩;have Z:wayC.re (wayC.fv (x,p,q))= .sl true 1 ((wayN x n p q).map intC):=by simp only[wayC.re,wayC.fv,Q]
 rw[Z];exact hK _
def sndC.n(a:Nwk×Int×Int×Int):Nat:=min a.1.Room.length 64
def He(n:Nat)(p q:Int):Nat->Nwk->Nwk
 |0,x=>x
 |m+1,x=>if wayN x n p q=[] then x else He n p q m (D7 x (wayN x n p q) ((wayN x n p q).length - 1))
def sndC.ca(a:Nwk×Int×Int×Int):List AV:=[.ptr 0 0,.im (.int .i64 a.2.1),.im (.int .i64 a.2.2.1),.im (.int .i64 a.2.2.2)]
def sndC.H0(a:Nwk×Int×Int×Int):Ag:=nwH a.1 (sndC.n a)
def sndC.H1(a:Nwk×Int×Int×Int):Ag:=matH 200 (sndC.n a) (He (sndC.n a) a.2.1 a.2.2.1 a.2.2.2.toNat a.1).Flow
def sndC.r0(a:Nwk×Int×Int×Int):AV:= .im (.int .i64 (CK (sndC.n a) a.2.1 a.2.2.1 a.2.2.2.toNat a.1))
structure sndPre(a:Nwk×Int×Int×Int):Prop where
 n:a.1.Room.length<=64
 ok:EU a.1 a.1.Room.length
 p0:0<=a.2.1
 p1:a.2.1<a.1.Room.length
 q0:0<=a.2.2.1
 q1:a.2.2.1<a.1.Room.length
 pq:a.2.1≠a.2.2.1
 m0:0<=a.2.2.2
 m1:a.2.2.2<=1000000
 fl: ∃v,GU (rmF a.1) (flF a.1) a.1.Room.length a.2.1.toNat a.2.2.1.toNat v
 rm: ∀u v,rmF a.1 u v<=10000000000000
def klF(j:Nat):Bool:=Nat.ble 200 j && Nat.blt j 264
def sndC.row:Row:=orow sndC.ca sndC.H0 300 sndPre klF sndC.r0 sndC.H1 10
def sndC.hbel(a:Nwk×Int×Int×Int):belL 300 (sndC.ca a)=true:=rfl
def sndC.n_le(a:Nwk×Int×Int×Int):sndC.n a<=64:=L7 _ _
def MM(x:Nwk)(n:Nat)(hn:n<=64):belH 300 (nwH x n)=true/\Ai 300 (nwH x n)=true:=by
 have:=Pb n x.Room x.Flow hn [] rfl
 simp only[Ac.good,Av] at this;exact this.2
def sndC.hbH(a:Nwk×Int×Int×Int):belH 300 (sndC.H0 a)=true:=(MM _ _ (sndC.n_le a)).1
def sndC.hkH(a:Nwk×Int×Int×Int):Ai 300 (sndC.H0 a)=true:=(MM _ _ (sndC.n_le a)).2
def Hw(x:Nwk)(n:Nat)(hn:n<=64):nwIn (hget (nwH x n)) x n:=by
 refine⟨rfl,rfl,rfl,λi z=> ?_,λi z=> ?_⟩
 .simp only[nwH,hget,A7 _ _ (show 0≠100+i by omega),A7 _ _ (show 1≠100+i by omega),A7 _ _ (show 2≠100+i by omega),AM];exact K7 _ _ _ _ z
 .simp only[nwH,hget,A7 _ _ (show 0≠200+i by omega),A7 _ _ (show 1≠200+i by omega),A7 _ _ (show 2≠200+i by omega),AM];exact KB _ _ _ _ (by omega) z
def Xj(H0:Ag): ∀(a b:Ag),AT H0 (a++b)↔AT H0 a/\AT H0 b
 |[],b=>by simp[AT]
 |(i,(z,e))::r,b=>by simp only[Bv,AT,Xj H0 r b,M9]
def WF(H0:Ag)(b n:Nat)(M:List (List Int)):AT H0 (matH b n M):=by
 have: ∀(l:List Nat),AT H0 (l.map λi=>(b+i,(true,AObj.arr 2 1 ((M[i]?.getD []).map intC)))):=by
  intro l;induction l with
  |nil=>simp[AT]
  |cons i r ih=>simp only[Ay,AT];exact⟨λm z=>by simp[AObj.nms] at z,ih⟩
 exact this _
def WA(b n:Nat): ∀m∈nmsR (B4 b n),∃i,i<n/\m=b+i:=by
 have: ∀(l:List Nat),(∀i∈l,i<n)-> ∀m∈nmsR (l.map λi=>[AV.own (b+i)]),∃i,i<n/\m=b+i:=by
  intro l;induction l with
  |nil=>intro _ m z;simp[nmsR] at z
  |cons i r ih=>
   intro G m z;simp only[Ay,nmsR,nmsL,AV.nms,BJ,AG,AO] at z;rcases z with rfl|z
   .exact⟨i,G i (AU ..),rfl⟩
   .exact ih (λj Q=>G j (AX _ Q)) m z
 exact this _ (λi O=>AJ.1 O)
def nwH_nms(x:Nwk)(n:Nat)(hn:n<=64):AT (nwH x n) (nwH x n):=by
 have G:=Hw x n hn;have hd: ∀o e,hget (nwH x n) o=some e->domB (nwH x n) o=true:=λo e h=>by simp only[domB,h];rfl
 obtain⟨H,hH⟩: ∃H,H=nwH x n:=⟨_,rfl⟩;rw[<-hH] at G hd;rw[show AT (nwH x n) (nwH x n)=AT H (nwH x n) by rw[hH]];simp only[nwH,AT,Xj];refine⟨λm z=> ?_,λm z=> ?_,λm z=> ?_,WF _ _ _ _,WF _ _ _ _⟩
 .simp only[AObj.nms,nmsL,AV.nms,BJ,AG,AO] at z;rcases z with rfl|rfl
  .exact hd _ _ G.g1
  .exact hd _ _ G.g2
 .obtain⟨i,O,rfl⟩:=WA 100 n m z;exact hd _ _ (G.ga i O)
 .obtain⟨i,O,rfl⟩:=WA 200 n m z;exact hd _ _ (G.gb i O)
def subH_nw{s:Ac}{x:Nwk}{n:Nat}(h:nwIn (hget s.h) x n):subH s (nwH x n):=by
 simp only[nwH,subH,LO,OJ];exact⟨h.g0,h.g1,h.g2,h.ga,h.gb⟩
def roB_app(h:Nat->Option Ent)(f:Nat->Bool): ∀(a b:Ag),roB h f (a++b)↔roB h f a/\roB h f b
 |[],b=>by simp[roB]
 |(i,e)::r,b=>by simp only[Bv,roB,roB_app h f r b,M9]
def klF_2(i:Nat)(h:i<64):klF (200+i)=true:=by
 simp only[klF,Av,DC,Ch];omega
def U3(h:Nat->Option Ent)(f:Nat->Bool)(b:Nat)(g:Nat->Ent)(n:Nat)(H: ∀i,i<n->f (b+i)=true\/h (b+i)=some (g i)):roB h f (famH b n g):=by
 have: ∀(l:List Nat),(∀i∈l,i<n)->roB h f (l.map λi=>(b+i,g i)):=by
  intro l;induction l with
  |nil=>intro _;trivial
  |cons i r ih=>
   intro G;simp only[Ay,roB];refine⟨?_,ih (λj Q=>G j (AX _ Q))⟩;rcases H i (G i (AU ..)) with z|z
   .rw[z];trivial
   .cases f (b+i)
    .exact z
    .trivial
 exact this _ (λi O=>AJ.1 O)
def roB_mat1{h:Nat->Option Ent}{n:Nat}(hn:n<=64){M:List (List Int)}(H: ∀i,i<n->h (100+i)=some (true,.arr 2 1 ((M[i]?.getD []).map intC))):roB h klF (matH 100 n M):=U3 _ _ _ _ _ (λi z=> .inr (H i z))
def roB_mat2{h:Nat->Option Ent}{n:Nat}(hn:n<=64){M:List (List Int)}:roB h klF (matH 200 n M):=U3 _ _ _ _ _ (λi z=> .inl (klF_2 i (by omega)))
def sndC.hnm(a:Nwk×Int×Int×Int):AT (sndC.H0 a) (sndC.H0 a):=nwH_nms _ _ (sndC.n_le a)
def sndC.ok:Ak Tryz.prog 271 sndC.row:=by
 refine ow (tC wayC.ok tN) Tryz.func271 rfl (by kernel_rfl) (exB:=λ_=>false) (R:=λa r=>r=sndC.r0 a) (λ_=>rfl)
  (λa=>⟨sndC.hbel a,sndC.hbH a,sndC.hkH a,sndC.hnm a⟩) (λa p hp=> ?_) (λa r h=>by subst h;exact LeV.refl _) ?_
 rotate_left
 intro a as;simp only[Tryz.f271,sndC.ca];simp(disch:=omega)only[ZA,simprocAttr];obtain⟨x,p,q,mo⟩:=a;obtain⟨hn,ak,ac,Z,ad,af,aq,a8,a9,aj,am⟩:=as;simp only at hn ak ac Z ad af aq a8 a9 aj am;obtain⟨n,hnn⟩: ∃n,n=x.Room.length:=⟨_,rfl⟩;obtain⟨M,hM⟩: ∃M:Nat,mo=M:=⟨mo.toNat,by omega⟩;subst hM;have bc: ∀y:Int×Int×Int,sndC.n (x,y)=n:=λy=>by simp only[sndC.n,<-hnn];omega
 simp only[sndC.H1,sndC.r0,sndC.H0,bc,AH,nwH,AL];rw[<-hnn] at hn ak Z af aj;refine Au.old ⟨{s:Nat×Nwk//s.1<=M/\EU s.2 n/\s.2.Room=x.Room/\(∃v,GU (rmF x) (flF s.2) n p.toNat q.toNat v)/\CK n p q M x=CK n p q (M - s.1) s.2+s.1/\He n p q M x=He n p q (M - s.1) s.2},λs=>⟨[(9,.im (.int .i64 s.1.1)),(0,.ptr 0 0),(1,.im (.int .i64 p)),(2,.im (.int .i64 q)),(3,.im (.int .i64 M))],nwH s.1.2 n,300⟩,λs=>M - s.1.1,λs=>⟨?_,by simp⟩,⟨⟨(0,x),by simp only;omega,ak,rfl,aj,by simp,by simp⟩,?_⟩,λs=> ?_⟩
 .simp only[nwH];exact Pb _ _ _ hn _ (by simp[belT,AV.bel])
 .simp only[sub,subT,tget];refine⟨?_,?_⟩
  .simp(disch:=omega)only[ZA,simprocAttr]
  .exact subH_nw (Hw x n hn)
 obtain⟨⟨k,y⟩,i1,i2,i3,i4,i5,i6⟩:=s;simp only at i1 i2 i3 i4 i5 i6;simp only[nwH];simp(disch:=omega)only[ZA,simprocAttr,AL];refine way_call (Hw y n hn) i2 (by omega) ac Z ad af (λU=> ?_);obtain⟨L,hL⟩: ∃L,L=wayN y n p q:=⟨_,rfl⟩;rw[<-hL];simp(disch:=omega)only[ZA,simprocAttr,AL,Aq];have ah:(CK n p q (M - k) y=0)->(He n p q (M - k) y=y)->(((bif klF 0 then True else True)/\(bif klF 1 then True else True)/\(bif klF 2 then True else True)/\roB (hget (nwH y n)) klF (matH 100 n x.Room++matH 200 n x.Flow))/\(k:Int)=CK n p q M x/\ ∀kx,Cq (hget (nwH y n)) (cvt (hget (nwH y n)) kx 9) (matH 200 n (He n p q M x).Flow)):=by
  intro e1 e2;have hI:=Hw y n hn;refine⟨⟨trivial,trivial,trivial,(roB_app _ _ _ _).2 ⟨roB_mat1 hn (λi O=>by rw[hI.ga i O,i3]),roB_mat2 hn⟩⟩,by omega,λkx=> ?_⟩;rw[i6,e2];exact Tg _ _ _ _ _ hI.gb
 have aw:(L.map intC).isEmpty=L.isEmpty:=by cases L<;>rfl
 rw[aw];refine⟨λc1=>⟨λc2=> ?_,λc2=> ?_⟩,λc1=> ?_⟩
 .obtain⟨g1,g2,g3⟩:=ah (by rw[show M - k=0 by omega];rfl) (by rw[show M - k=0 by omega];rfl);exact⟨g1,g2,g3 _⟩
 .have aa:L≠[]:=by intro h;rw[h] at c1;cases c1
  have hW:isWay y n p q L:=by rw[hL];exact way_is ac Z ad af (by rw[<-hL];exact aa)
  have bg:=hW.pos;obtain⟨v,hv⟩:=i4;have an: ∀i,i<L.length-> ∃w:Nat,L[i]? =some (w:Int)/\w<n:=by
   intro i O
   have:=hW.inb _ (Hk O)
   refine⟨(L[i]).toNat,by rw[A8 O];congr 1;omega,by omega⟩
  refine Au.old ⟨{j:Nat//j+1<=L.length},λj=>⟨[(11,.im (.int .i64 ((j.1:Int)+1))),(10,.im (.sl true 1 (L.map intC))),(9,.im (.int .i64 k)),(0,.ptr 0 0),(1,.im (.int .i64 p)),(2,.im (.int .i64 q)),(3,.im (.int .i64 M))],nwH (D7 y L j.1) n,300⟩,λj=>L.length - j.1,λj=>⟨?_,by simp⟩,⟨⟨0,by omega⟩,?_⟩,λj=> ?_⟩
  .simp only[nwH];exact Pb _ _ _ hn _ (by simp[belT,AV.bel])
  .simp only[sub,subT,tget];refine⟨?_,?_⟩
   .simp(disch:=omega)only[ZA,simprocAttr]
   .exact subH_nw (Hw y n hn)
  obtain⟨j,hj⟩:=j;have G:=Qu i2 hW.inb j (by omega);obtain⟨z,hz⟩: ∃z,z=D7 y L j:=⟨_,rfl⟩;simp only[<-hz] at G⊢;simp only[nwH];have ej:((j:Int)+1).toNat=j+1:=by omega
  simp(disch:=omega)only[ZA,simprocAttr,AL,sub,Aq,Eo];intro bf;have ew:IntKind.i64.wrap ((j:Int)+1 - 1)=j:=by rw[Am (by omega) (by omega)];omega
  have au:IntKind.i64.wrap ((j:Int)+1+1)=(j:Int)+1+1:=Am (by omega) (by omega);simp only[ew,AH];refine⟨λaz=> ?_,λaz=> ?_⟩
  .obtain⟨u,ab,hu⟩:=an j (by omega);obtain⟨w,ai,Q⟩:=an (j+1) (by omega);have bd:u≠w:=by
    intro h
    have:=hW.nd j (j+1) (by omega) (by omega) (by simp only[Lf,ab,ai,h])
    omega
   have hr: ∀i,i<n->(z.Flow[i]?.getD []).length=n:=by
    intro i O;rw[A8 (by rw[G.f];exact O),Ao];exact G.ff _ (Hk _)
   have ba:=hr u hu;have bb:=hr w Q;simp only[ab,An,forall_eq'];simp(disch:=omega)only[ZA,simprocAttr,sub,IC,AL,Eo,A7,FU,KB,ew,au,ej,ab,ai,forall_eq',ba,bb,Ux,K4,PH,LO,OJ];have hb: ∀a b,a<n->b<n-> -10000000000002<=flF z a b/\flF z a b<=10000000000002:=by
    intro a b ha hb;have h1:=TM i2 hW.inb a b j (by omega);have h2:=QG (L:=Lf L) (m:=L.length - 1) (λi j O hj=>hW.nd i j (by omega) (by omega)) a b j (by omega);have h3:=QG (L:=Lf L) (m:=L.length - 1) (λi j O hj=>hW.nd i j (by omega) (by omega)) b a j (by omega);have h4:=Oi (Lf L) a b j;have h5:=Oi (Lf L) b a j;have h6:=hv.cap a b ha hb;have h7:=hv.cap b a hb ha;have h8:=hv.anti a b ha hb;have h9:=am a b;have bh:=am b a;rw[<-hz] at h1;simp only[flF] at*;omega
   have ax:=hb u w hu Q;have ay:=hb w u Q hu;refine⟨by omega,hu,hu,by omega,by omega,by omega,Q,by omega,Q,λx1 e1=>⟨Q,by omega,Q,λ_ _=>⟨.inr (by omega),by omega,by omega,Q,Q,by omega,by omega,hu,by omega,hu,λx3 e3=>⟨hu,by omega,hu,λ_ _=>⟨.inr (by omega),⟨j+1,by omega⟩,by simp only;omega,by simp only;omega,?_⟩⟩⟩⟩⟩;have r1:flF z u w=x1:=by simp only[flF,Dr,e1,Ao]
   have r3:flF z w u=x3:=by simp only[flF,Dr,e3,Ao]
   rw[r1] at ax;rw[r3] at ay;rw[Am (by omega) (by omega),Am (by omega) (by omega)];have hN:D7 y L (j+1)=F5 z u w:=by simp only[D7,ab,ai,Ao,<-hz]
   have hR: ∀i,i<n->(D7 y L (j+1)).Flow[i]?.getD []=if w=i then (z.Flow[w]?.getD []).set u (x3 - 1) else if u=i then (z.Flow[u]?.getD []).set w (x1+1) else z.Flow[i]?.getD []:=by
    intro i O;rw[hN];simp only[F5,Fl,AH];by_cases h1:w=i
    .subst h1;rw[Af rfl,BA (by rw[Cr,G.f];exact Q),Ao,BM bd,e3,Ao];rfl
    .rw[Ab h1,BM h1];by_cases h2:u=i
     .subst h2;rw[Af rfl,BA (by rw[G.f];exact hu),Ao,e1,Ao]
     .rw[Ab h2,BM h2]
   have hF:(D7 y L (j+1)).Room=z.Room:=by rw[hN];rfl
   refine⟨λi O=> ?_,λi O=> ?_⟩
   .rw[Ab (by omega),Ab (by omega)];show _=some (true,AObj.arr _ 1 (List.map intC ((D7 y L (j+1)).Room[i]?.getD [])));rw[hF];exact K7 _ _ _ _ O
   .show _=some (true,AObj.arr _ 1 (List.map intC ((D7 y L (j+1)).Flow[i]?.getD [])));rw[hR i O];by_cases h1:w=i
    .subst h1;rw[Af rfl,Af rfl]
    .rw[Ab (by omega),Ab h1];by_cases h2:u=i
     .subst h2;rw[Af rfl,Af rfl]
     .rw[Ab (by omega),Ab h2];exact KB _ _ _ _ (by omega) O
  .have a0:j=L.length - 1:=by omega
   subst a0;obtain⟨m,hm⟩: ∃m,M - k=m+1:=⟨M - k - 1,by omega⟩;have ao: ¬wayN y n p q=[]:=by rw[<-hL];exact aa
   have e5:CK n p q (m+1) y=CK n p q m z+1:=by simp only[CK];rw[Ab ao,<-hL,<-hz]
   have e6:He n p q (m+1) y=He n p q m z:=by simp only[He];rw[Ab ao,<-hL,<-hz]
   rw[hm] at i5 i6;have ag:=(WL i2 ac Z aq ad (v:=v) (by rw[show rmF y=rmF x by funext a b;simp only[rmF,i3]];exact hv) hW).2;have be:z.Room=x.Room:=by rw[hz,SC,i3]
   rw[show rmF y=rmF x by funext a b;simp only[rmF,i3],<-hz] at ag;refine⟨⟨(k+1,z),by simp only;omega,G,be,⟨_,ag⟩,by simp only;rw[show M - (k+1)=m by omega];omega,by simp only;rw[show M - (k+1)=m by omega,i6,e6]⟩,by simp only;omega,?_⟩;refine⟨by rw[Am (by omega) (by omega)];simp only;omega,?_⟩;simp only[LO,OJ];exact⟨(Hw z n hn).ga,(Hw z n hn).gb⟩
 .have aa:L=[]:=by
   cases L with
   |nil=>rfl
   |cons a r=>exact absurd rfl c1
  have Q:wayN y n p q=[]:=by rw[<-hL,aa]
  have z1: ∀m,CK n p q m y=0:=by
   intro m;cases m with
   |zero=>rfl
   |succ m=>simp only[CK];rw[Af Q]
  have z2: ∀m,He n p q m y=y:=by
   intro m;cases m with
   |zero=>rfl
   |succ m=>simp only[He];rw[Af Q]
  obtain⟨g1,g2,g3⟩:=ah (z1 _) (z2 _);exact⟨g1,g2,g3 _⟩
 simp only[sndC.H1,matH,famH,AF,AJ] at hp;obtain⟨i,O,rfl⟩:=hp;have av:=sndC.n_le a;refine .inl ⟨by omega,by simp only[klF,Av,DC,Ch];omega,?_⟩;simp only[domB,sndC.H0];rw[(Hw a.1 (sndC.n a) av).gb i O];rfl
def Xr(h:Nat->Option Ent)(σ:Nat->Nat): ∀(a b:Ag),Bu h σ (a++b)↔Bu h σ a/\Bu h σ b
 |[],b=>by simp[Bu]
 |(i,(z,e))::r,b=>by simp only[Bv,Bu,Xr h σ r b,M9]
def Wu{h:Nat->Option Ent}{σ:Nat->Nat}{b n:Nat}{M:List (List Int)}(H: ∀i,i<n->h (σ (b+i))=some (true,.arr 2 1 ((M[i]?.getD []).map intC))):Bu h σ (matH b n M):=by
 have: ∀(l:List Nat),(∀i∈l,i<n)->Bu h σ (l.map λi=>(b+i,(true,AObj.arr 2 1 ((M[i]?.getD []).map intC)))):=by
  intro l;induction l with
  |nil=>intro _;trivial
  |cons i r ih=>
   intro z;simp only[Ay,Bu];exact⟨H i (z i (AU ..)),ih (λj O=>z j (AX _ O))⟩
 exact this _ (λi G=>AJ.1 G)
def TW{σ:Nat->Nat}{b n:Nat}{M:List (List Int)}(H: ∀i,i<n->σ (b+i)=b+i):renH σ (matH b n M)=matH b n M:=by
 have: ∀(l:List Nat),(∀i∈l,i<n)->renH σ (l.map λi=>(b+i,(true,AObj.arr 2 1 ((M[i]?.getD []).map intC))))=l.map λi=>(b+i,(true,AObj.arr 2 1 ((M[i]?.getD []).map intC))):=by
  intro l;induction l with
  |nil=>intro _;rfl
  |cons i r ih=>
   intro z;simp only[Ay,renH];rw[H i (z i (AU ..)),ih (λj O=>z j (AX _ O))];rfl
 exact this _ (λi G=>AJ.1 G)
def Qg{σ:Nat->Nat}{b n:Nat}(H: ∀i,i<n->σ (b+i)=b+i):(B4 b n).map (renL σ)=B4 b n:=by
 simp only[B4,Hj];refine Gd λi z=> ?_
 simp only[Function.comp,renL,AV.ren,H i (AJ.1 z)]
def XL(σ:Nat->Nat): ∀(a b:Ag),renH σ (a++b)=renH σ a++renH σ b
 |[],b=>rfl
 |(i,(z,e))::r,b=>by simp only[Bv,renH,XL σ r b]
def renH_nw{σ:Nat->Nat}{x:Nwk}{n:Nat}(hn:n<=64)(H: ∀j,j<300->σ j=j):renH σ (nwH x n)=nwH x n:=by
 simp only[nwH,renH,XL,AObj.ren,renL,AV.ren,H 0 (by omega),H 1 (by omega),H 2 (by omega),Qg (b:=100) (n:=n) (λi z=>H (100+i) (by omega)),Qg (b:=200) (n:=n) (λi z=>H (200+i) (by omega)),TW (b:=100) (n:=n) (λi z=>H (100+i) (by omega)),TW (b:=200) (n:=n) (λi z=>H (200+i) (by omega))]
def nw_dom{x:Nwk}{n:Nat}(hn:n<=64){j:Nat}(h:domB (nwH x n) j=true):j<264/\(200<=j-> ∃i,i<n/\j=200+i)/\j∈[0,1,2]++((List.range n).map (100+ ·)++(List.range n).map (200+ ·)):=by
 have z:j∈[0,1,2]++((List.range n).map (100+ ·)++(List.range n).map (200+ ·)):=by
  have: ∀(H:Ag),domB H j=true->j∈Cy H:=by
   intro H;induction H with
   |nil=>intro h;simp[domB,hget] at h
   |cons e r ih=>
    obtain⟨i,e⟩:=e;intro h;simp only[domB,hget] at h;simp only[Cy,A9];by_cases O:i=j
    .exact .inl O.symm
    .have:(i==j)=false:=by simpa using O
     rw[this] at h;exact .inr (ih h)
  have Z:=this _ h;simp only[nwH,Cy,Tn,matH,Jc] at Z;simpa using Z
 refine⟨?_,λG=> ?_,z⟩
 .have:=nw_lt n hn j z
  rcases AG.1 z with z|z
  .simp at z;omega
  .rcases AG.1 z with z|z<;>obtain⟨i,Q,rfl⟩:=AF.1 z<;>have:=AJ.1 Q
   .show 100+i<264;omega
   .show 200+i<264;omega
 .rcases AG.1 z with z|z
  .simp at z;omega
  .rcases AG.1 z with z|z<;>obtain⟨i,Q,rfl⟩:=AF.1 z<;>have:=AJ.1 Q
   .have h3:200<=100+i:=G;omega
   .exact⟨i,this,rfl⟩
def newOk_mat{kill:List Nat}{nx cnt b n:Nat}{M:List (List Int)}(H: ∀i,i<n->kill.contains (b+i)=true/\b+i<nx):D8 kill nx cnt (matH b n M)=true:=by
 have: ∀(l:List Nat),(∀i∈l,i<n)->D8 kill nx cnt (l.map λi=>(b+i,(true,AObj.arr 2 1 ((M[i]?.getD []).map intC))))=true:=by
  intro l;induction l with
  |nil=>intro _;rfl
  |cons i r ih=>
   intro z;simp only[Ay,D8,EH,Av,Dy,DC,Ch];exact⟨.inr (H i (z i (AU ..))),ih (λj O=>z j (AX _ O))⟩
 exact this _ (λi G=>AJ.1 G)
def snd_call{H:Nat->Option Ent}{x:Nwk}{nx:Nat}{K:Kont}{p q O:Int}(hH:nwIn H x x.Room.length)(Q:sndPre (x,p,q,O))(aa:300<=nx)
 (hK: ∀E:Eff,E.cnt=10->E.ok nx (.im (.int .i64 (CK x.Room.length p q O.toNat x)))=true->K (.im (.int .i64 (CK x.Room.length p q O.toNat x))) E):sndC.row [.ptr 0 0,.im (.int .i64 p),.im (.int .i64 q),.im (.int .i64 O)] H nx K:=by
 have hn:x.Room.length<=64:=Q.n;have G:sndC.n (x,p,q,O)=x.Room.length:=by simp only[sndC.n];omega
 have hσ: ∀j,j<300->sgx (λj=>j) 300 nx j=j:=λj Z=>Af Z
 refine⟨(x,p,q,O),λj=>j,[0,1,2]++((List.range x.Room.length).map (100+ ·)++(List.range x.Room.length).map (200+ ·)),(List.range x.Room.length).map (200+ ·),Q,?_,?_,?_,?_⟩
 .simp only[sndC.ca,renL,AV.ren,hσ 0 (by omega)]
 .simp only[sndC.H0,G,nwH,Bu,Xr,AObj.ren,renL,AV.ren,hσ 0 (by omega),hσ 1 (by omega),hσ 2 (by omega),Qg (b:=100) (n:=x.Room.length) (λi z=>hσ (100+i) (by omega)),Qg (b:=200) (n:=x.Room.length) (λi z=>hσ (200+i) (by omega))];exact⟨hH.g0,hH.g1,hH.g2,Wu (λi z=>by rw[hσ _ (by omega)];exact hH.ga i z),Wu (λi z=>by rw[hσ _ (by omega)];exact hH.gb i z)⟩
 .have hd: ∀j,domB (sndC.H0 (x,p,q,O)) j=true->domB (nwH x x.Room.length) j=true:=λj h=>by simpa only[sndC.H0,G] using h
  refine⟨λi j _ _ h=>h,λj Z=> ?_,λj Z=>(nw_dom hn (hd j Z)).2.2,λm hm=> ?_,λj Z hk=> ?_⟩
  .have:=(nw_dom hn (hd j Z)).1
   omega
  .obtain⟨i,z,rfl⟩:=AF.1 hm
   have:=AJ.1 z
   refine⟨200+i,?_,klF_2 i (by omega),rfl⟩;simp only[domB,sndC.H0,G];rw[(Hw x _ hn).gb i this];rfl
  .simp only[klF,Av,DC,Ch] at hk;obtain⟨i,z,rfl⟩:=(nw_dom hn (hd j Z)).2.1 hk.1;exact AF.2 ⟨i,AJ.2 z,rfl⟩
 .have e:(sndC.r0 (x,p,q,O)).ren (sgx (λj=>j) 300 nx)= .im (.int .i64 (CK x.Room.length p q O.toNat x)):=by simp only[sndC.r0,G,AV.ren]
  rw[e];refine hK _ rfl ?_;simp only[Eff.ok,AV.bel,BY,sndC.H1,G];rw[TW (λi z=>hσ _ (by omega)),Av];refine⟨GY _ _ _ (λi=>rfl) _,newOk_mat λi z=>⟨?_,by omega⟩⟩;rw[DQ];exact AF.2 ⟨i,AJ.2 z,rfl⟩
def W8(cnt:Nat): ∀(H:Ag),(∀p∈H,p.1<cnt)->D8 [] 0 cnt H=true
 |[],_=>rfl
 |(i,e)::r,h=>by
  have z:=h (i,e) (AU ..);simp only at z;simp only[D8,EH,W8 cnt r (λp hp=>h p (AX _ hp)),CB,Dy,Av,DC,Ch];exact .inl ⟨by omega,by omega⟩
def nw_effok{x:Nwk}{n:Nat}(r:AV)(hn:n<=64)(z:r.bel 320=true){use:List Nat}:Eff.ok {use:=use,kill:=[],new:=nwH x n,cnt:=320} 0 r=true:=by
 simp only[Eff.ok,CM,z,BY,Av];refine⟨?_,W8 _ _ λp hp=>by have:=exW_lt _ (nwH_mem hn hp).1;omega⟩;simp only[nwH,belH,OA,matH];rw[GY _ _ _ (λi=>rfl),GY _ _ _ (λi=>rfl),I0 _ _ _ (by omega),I0 _ _ _ (by omega)];rfl
def Wy(n:Nat)(bs:List Bond)(t:Int)(k:Nat)(h:GZ n bs t k=false): ∀m,GZ n bs t (k+m)=false
 |0=>h
 |m+1=>by rw[show k+(m+1)=k+m+1 by omega,GZ,Wy n bs t k h m,CA]
def Pw(n:Int)(bs:List Bond)(t:Int):Bool:=GZ n.toNat bs t (n.toNat - 1)
def holds_.fv(a:Int×(List Bond)×Int):Bool:=(Pw) (a.1) (a.2.1) (a.2.2)
def holds_.row:Row:=vK (b3 qI (qS Bond.d_le Bond.c_n) qI) rB (λa=>nwPre (a.1,a.2.1)/\0<=a.2.2/\a.2.2<=1000000) holds_.fv
def holds_.q:=vKq (R:=holds_.row) rfl
def holds_.ok:Ak Tryz.prog 247 holds_.row:=by
 refine vw (tC nwC.ok (tC sndC.ok tN)) Tryz.func247 rfl (by kernel_rfl) ?_;intro a ac;simp only[Tryz.f247];simp(disch:=omega)only[ZA,simprocAttr,holds_.fv];obtain⟨hp,ad,af⟩:=ac;obtain⟨h0,h1,hl,z,G,O⟩:=hp;simp only at h0 h1 hl z G O;obtain⟨n,hn⟩: ∃n:Nat,a.1=n:=⟨a.1.toNat,by omega⟩;obtain⟨bs,hbsd⟩: ∃bs,bs=a.2.1:=⟨_,rfl⟩;obtain⟨t,ht⟩: ∃t,t=a.2.2:=⟨_,rfl⟩;simp only[hn,<-hbsd,<-ht,Pw,AH] at h0 h1 hl z G O ad af⊢;have Q:nwPre ((n:Int),bs):=⟨h0,h1,hl,z,G,O⟩;refine Au.old ⟨{k:Nat//(k=0\/k+1<=n)/\GZ n bs t k=true},λk=>⟨[(7,.im (.int .i64 ((k.1:Int)+1))),(0,.im (.int .i64 n)),(1,.im (.sl false 3 (bs.map Bond.c))),(2,.im (.int .i64 t))],[],0⟩,λk=>n - k.1,λk=>⟨by simp[Ac.good,belT,belH,Ai,AV.bel],by simp⟩,⟨⟨0,.inl rfl,rfl⟩,by simp(disch:=omega)only[ZA,simprocAttr,sub]⟩,λk=> ?_⟩;obtain⟨k,aa,ab⟩:=k;simp(disch:=omega)only[ZA,simprocAttr,Aq];refine⟨λhk=> ?_,λhk=> ?_⟩
 .refine orow.os ((n:Int),bs) [] Q (λj=>by simp[domB,hget]) rfl rfl ?_ ?_
  .simp(disch:=omega)only[ZA,simprocAttr,nwC.ca]
  .have e1:renH (sgx (osn []) 0 0) (nwC.H1 ((n:Int),bs))=nwH (netF n bs) n:=by
    simp only[nwC.H1,AH];rw[Vi (by omega)];exact renH_nw (by omega) (λj _=>by simp[sgx])
   rw[e1];refine⟨nw_effok _ (by omega) rfl,?_⟩;simp(disch:=omega)only[ZA,simprocAttr,AL];have Z:(netF n bs).Room.length=n:=(I7 z bs.length).1.r;have hI:=Hw (netF n bs) n (by omega);rw[show hget (nwH (netF n bs) n)=hget (nwH (netF n bs) n) from rfl];refine snd_call (x:=netF n bs) (by rw[Z];exact hI) ?_ (by omega) (λE ai ag=> ?_)
   .refine⟨by simp only;omega,by simp only[Z];exact (I7 z bs.length).1,by simp,by simp only[Z];omega,by simp only;omega,by simp only[Z];omega,by simp only;omega,ad,af,⟨0,by simp only[Z];exact MG z G _ _⟩,λu v=> ?_⟩
    have:=(QP z G u v bs.length).2
    simp only[netF];omega
   .refine⟨ag,?_⟩;rw[Z];obtain⟨sv,hsv⟩: ∃sv,sv=CK n 0 ((k:Int)+1) t.toNat (netF n bs):=⟨_,rfl⟩;rw[<-hsv];have hs:GZ n bs t (k+1)=(GZ n bs t k && decide (t<=sv)):=by rw[hsv];rfl
    rw[ab,BY] at hs;simp(disch:=omega)only[ZA,simprocAttr,Ac.app,sub,Aq];refine⟨λah=> ?_,λah=>⟨⟨k+1,.inr (by omega),by rw[hs];exact P8 (by omega)⟩,by simp only;omega,by rw[Am (by omega) (by omega)];simp only;omega⟩⟩;have h9:=Wy n bs t (k+1) (by rw[hs];exact JB (by omega)) (n - 1 - (k+1));rw[show k+1+(n - 1 - (k+1))=n - 1 by omega] at h9;exact h9.symm
 .rcases aa with rfl|aa
  .rw[show n - 1=0 by omega];rfl
  .rw[show n - 1=k by omega];exact ab.symm
def ET(t:Int)(b:Bond):Bool:=decide (b.Strength<t)
def CT1.fv(a:Bond×Int):Bool:=(λb t=>ET t b) (a.1) (a.2)
def CT1.row:Row:=vKF (b2 (qR Bond.d_le) (qP 1 BB)) rB (λa=>True) CT1.fv
def CT1.q:=vKFq (R:=CT1.row) rfl
def CT1.ok:Ak Tryz.prog 268 CT1.row:=by
 refine vwF tN Tryz.func268 rfl (by kernel_rfl) ?_;intro a z;simp only[Tryz.f268];simp(disch:=omega)only[ZA,simprocAttr,CT1.fv,D.sc,D.scs,decD];rfl
def IdxB.ar:List PK->Option ((List Bond)×Int)
 |[.val (.sl _ _ G),.val (.fn 268 [] [.ref [.int .i64 z]])]=>(decR Bond.d G).bind λO=>some (O,z)
 |_=>none
def IdxB.ae(a:(List Bond)×Int):List PK:=[.val (.sl false 3 (a.1.map Bond.c)),.val (.fn 268 [] [.ref [.int .i64 a.2]])]
def IdxB.le: ∀z a,IdxB.ar z=some a->LeKL z (IdxB.ae a):=by
 intro z a h;unfold IdxB.ar at h;split at h
 .simp only[Cb,An] at h;obtain⟨G,h0,rfl⟩:=h;exact⟨BL (BG Bond.d_le _ _ h0) (by simp only[AF];rintro r ⟨y,_,rfl⟩;rfl),Hy ⟨Le.refl _,trivial⟩,trivial⟩
 .cases h
def IdxB.fv(a:(List Bond)×Int):Int:=(λl t=>AA (ET t) 0 l) (a.1) (a.2)
def IdxB.row:Row:=Fj IdxB.ar (λa=>True) (λa=>(D.int .i64) (IdxB.fv a))
def IdxB.q:=vqF IdxB.row rfl
def IdxB.ok:Ak Tryz.prog 285 IdxB.row:=by
 refine Of Bz (tC CT1.ok tN) Tryz.func285 rfl (by kernel_rfl) (by kernel_rfl) (ar:=IdxB.ar) (ae:=IdxB.ae) IdxB.le (n:=2) (λ_=>rfl) (by decide) (rc:=(vInt)) (re:=(D.int .i64)) (F2) (f:=IdxB.fv) ?_;intro a O;simp only[Tryz.f285];simp(disch:=omega)only[ZA,simprocAttr,IdxB.ae,IdxB.fv];intro hn;refine Au.old ⟨{k:Nat//k<=a.1.length/\AA (ET a.2) k (a.1.drop k)=AA (ET a.2) 0 a.1},λk=>⟨[(8,.im (.int .i64 k.1)),(7,.im (.int .i64 a.1.length)),(6,.im (.sl false 3 (a.1.map Bond.c))),(4,.im (.int .i64 0)),(0,.im (.sl false 3 (a.1.map Bond.c))),(1,.im (.fn 268 [] [.ref [.int .i64 a.2]]))],[],0⟩,λk=>a.1.length - k.1,λk=>⟨by simp[Ac.good,belT,belH,Ai,AV.bel],Ar _⟩,⟨⟨0,by simp⟩,by simp(disch:=omega)only[ZA,simprocAttr,sub]⟩,λk=> ?_⟩;obtain⟨k,Q,z⟩:=k;simp(disch:=omega)only[ZA,simprocAttr,rch,CT1.q,CT1.fv,D.sc,D.scs,decD,sub,Aq];refine⟨λG=>⟨G,λx Z=> ?_⟩,λG=> ?_⟩
 .rw[Cw Z,AA] at z;refine⟨λh=> ?_,λh=>CZ G hn ⟨by omega,by rw[<-z,Ab (by simpa using h)]⟩⟩;rw[Af (by simpa using h)] at z;exact z
 .rw[B9 (by omega),AA] at z;exact z
def Y5{t:Int}{l:List Bond}{i:Nat}{b:Bond}(Q:l.find? (ET t)=some b)(Z:AA (ET t) 0 l=(i:Int))(h3:l[i]? =some b):Dc t (l.take (i+1))=l.take i:=by
 have hw:ET t b=true:=Hl Q;have G: ∀(l:List Bond) (o i:Nat),AA (ET t) o l=((o+i:Nat):Int)-> ∀x∈l.take i,ET t x=false:=by
  intro l;induction l with
  |nil=>intro o i _ x z;simp at z
  |cons y r ih=>
   intro o i h x z;cases i with
   |zero=>simp at z
   |succ i=>
    simp only[AA] at h;split at h
    .omega
    .rename_i hy;rw[Ft] at z;rcases A9.1 z with rfl|z
     .simpa using hy
     .exact ih (o+1) i (by rw[h];congr 1;omega) x z
 rw[Ec,h3,PE,Dc,PD];have O:(l.take i).filter (λb=>decide (t<=b.Strength))=l.take i:=by
  rw[Mz];intro x z
  have:=G l 0 i (by rw[Z];simp) x z
  simp only[ET,EZ] at this;simp only[AP];omega
 simp only[ET,AP] at hw;rw[O,Mv (by simp;omega),Vf,BJ]
def dlC.ca(a:List Bond×Int):List AV:=[.own 0,.im (.fn 268 [] [.ref [.int .i64 a.2]])]
def dlC.H0(a:List Bond×Int):Ag:=[(0,(true,.arr 318 3 (a.1.map Bond.c)))]
def dlC.H1(a:List Bond×Int):Ag:=[(1,(true,.arr 318 3 ((Dc a.2 a.1).map Bond.c)))]
def dlC.row:Row:=orow dlC.ca dlC.H0 1 (λa=>a.1.length<=1000000) (λj=>j==0) (λ_=> .own 1) dlC.H1 1000
def dlC.ok:Ak Tryz.prog 266 dlC.row:=by
 refine owN (tC IdxB.ok (tC CT1.ok tN)) Tryz.func266 rfl (by kernel_rfl) (exB:=λj=>j==1) (R:=λ_ r=>r= .own 1) (λ_=>rfl)
  (λa=>by simp[dlC.ca,dlC.H0,belL,AV.bel,belH,Ai,AT,AObj.nms,domB,hget]) (λa p hp=> ?_) (λa r h=>by subst h;exact LeV.refl _) ?_
 rotate_left
 intro a Q;simp only[Tryz.f266,dlC.ca,dlC.H0,dlC.H1];simp(disch:=omega)only[ZA,simprocAttr,rch,IdxB.q,IdxB.ar,IdxB.fv,C4];rcases GR (ET a.2) a.1 0 with ⟨Z,O⟩|⟨i0,b0,Z,O,e3⟩
 .rw[O,Af rfl];refine⟨[],[(1,some 0)],⟨[(4,.own 1)],[(1,(true,.arr 318 3 (a.1.map Bond.c)))],2⟩,?_,by simp[Ac.good,belT,belH,Ai,AV.bel],by simp,?_⟩
  .simp only[subP];simp(disch:=omega)only[ZA,simprocAttr]
  .simp(disch:=omega)only[ZA,simprocAttr]
   have:Dc a.2 a.1=a.1:=by
    rw[Dc,Mz];intro b hb
    have:=J3.1 Z b hb
    simp only[ET,AP] at this⊢;omega
   rw[this]
 .rw[CM] at O;rw[O,Ab (by omega)];have aa:=(Ba.1 e3).1;rw[Am (by omega) (by omega)];obtain⟨l,hl⟩: ∃l,l=a.1:=⟨_,rfl⟩;obtain⟨t,ht⟩: ∃t,t=a.2:=⟨_,rfl⟩;simp only[<-hl,<-ht] at Z O e3 aa Q⊢;refine Au.old ⟨{j:Nat//j<=l.length},λj=>⟨[(6,.im (.int .i64 j.1)),(5,.im (.int .i64 (Dc t (l.take j.1)).length)),(0,.own 0),(1,.im (.fn 268 [] [.ref [.int .i64 t]]))],[(0,(true,.arr 318 3 ((Dc t (l.take j.1)++l.drop (Dc t (l.take j.1)).length).map Bond.c)))],2⟩,λj=>l.length - j.1,λj=>⟨by simp[Ac.good,belT,belH,Ai,AV.bel],by simp⟩,⟨⟨i0+1,by omega⟩,?_⟩,λj=> ?_⟩
  .have h1:=Y5 Z O e3;simp(disch:=omega)only[ZA,simprocAttr,sub,h1,Bb];rw[show min i0 l.length=i0 by omega,Gc];exact⟨⟨by omega,rfl⟩,rfl⟩
  obtain⟨j,hj⟩:=j;obtain⟨kp,hkp⟩: ∃kp,kp=Dc t (l.take j):=⟨_,rfl⟩;have ac:kp.length<=j:=by
   have:=SJ t (l.take j)
   rw[Bb] at this;rw[hkp];omega
  have af:(kp++l.drop kp.length).length=l.length:=by simp;omega
  simp only[<-hkp];simp(disch:=omega)only[ZA,simprocAttr,rch,CT1.q,CT1.fv,sub,Aq,af];intro _;refine⟨λG=>⟨G,G,λb hb=> ?_⟩,λG=> ?_⟩
  .have ad:l[j]? =some b:=by
    rw[C8 ac,Eg,show kp.length+(j - kp.length)=j by omega] at hb;exact hb
   have z:=S7 t ad;rw[<-hkp] at z;refine⟨λhw=>⟨by omega,by omega,λc _=>⟨⟨j+1,by omega⟩,by simp only;omega,?_⟩⟩,λhw=>⟨⟨j+1,by omega⟩,by simp only;omega,?_⟩⟩
   .have hs:t<=b.Strength:=by
     simp only[ET,EZ] at hw;omega
    rw[Af hs] at z;simp only[z,B5,Bs,D0];refine⟨⟨by rw[Am (by omega) (by omega)];omega,by rw[Am (by omega) (by omega)];omega⟩,?_⟩;have h1:(kp++l.drop kp.length).set kp.length b=kp++[b]++l.drop (kp.length+1):=by
     obtain⟨c,hc⟩: ∃c,l[kp.length]? =some c:=⟨_,A8 (by omega)⟩;rw[Cw hc,Mx _ _ (Ar _),D3,J5,DA];rfl
    rw[<-h1,Fz];rfl
   .have hs: ¬t<=b.Strength:=by
     rw[CN] at hw;simp only[ET,AP] at hw;omega
    rw[Ab hs,BJ] at z;simp only[z];exact⟨⟨by rw[Am (by omega) (by omega)];omega,trivial⟩,trivial⟩
  .refine⟨by omega,false,?_⟩;have ab:j=l.length:=by omega
   subst ab;rw[Dh] at hkp;simp(disch:=omega)only[ZA,simprocAttr];have hA:List.take kp.length ((kp++l.drop kp.length).map Bond.c)=kp.map Bond.c:=by
    rw[<-List.map_take,R7]
   rw[hA];refine⟨by simp only[B5,Dz];omega,true,?_⟩;simp(disch:=omega)only[ZA,simprocAttr,C4];refine⟨[],[(1,some 2)],⟨[(4,.own 1)],[(1,(true,.arr 318 3 (kp.map Bond.c)))],2⟩,?_,by simp[Ac.good,belT,belH,Ai,AV.bel],by simp,?_⟩
   .simp only[subP];simp(disch:=omega)only[ZA,simprocAttr];rw[show ((kp.length:Int) - 0).toNat=(kp.map Bond.c).length by simp,DA,R7]
   .simp(disch:=omega)only[ZA,simprocAttr,hkp]
 simp[dlC.H1] at hp;subst hp;exact .inr ⟨by omega,by omega,rfl,rfl⟩
def ldV(b i:Nat)(x:Int):AV:=if 0<=x/\x<i then .ptr (b+x.toNat) 0 else .im .nilp
def grE(b:Nat)(L:List Int)(i:Nat):Ent:=(true,.cells 369 [ldV b i (L[i]?.getD (-1)),.im (.int .i64 i)])
def grH(b:Nat)(L:List Int)(n:Nat):Ag:=famH b n (grE b L)
def ldOk(L:List Int):Prop:= ∀(i:Nat) (x:Int),L[i]? =some x->x<i
def FZ(L:List Int)(i:Nat):Nat->Nat
 |0=>i
 |m+1=>if L[i]?.getD (-1)<0 then i else FZ L (L[i]?.getD (-1)).toNat m
def Cd(L:List Int)(i:Nat):Nat:=FZ L i i
def Sa{L:List Int}(h:ldOk L): ∀(i m m':Nat),i<=m->i<=m'->FZ L i m=FZ L i m':=by
 intro i;induction i using Nat.strongRecOn with
 |_ i ih=>
  intro m m' z G;cases hi:L[i]? with
  |none=>
   cases m<;>cases m'<;>simp[FZ,hi]
  |some x=>
   have O:=h i x hi;by_cases h0:x<0
   .cases m<;>cases m'<;>simp[FZ,hi,h0]
   .cases m with
    |zero=>omega
    |succ m=>
     cases m' with
     |zero=>omega
     |succ m'=>
      simp only[FZ,hi,Ao,Ab h0];exact ih x.toNat (by omega) m m' (by omega) (by omega)
def Ja{L:List Int}(h:ldOk L){i:Nat}{x:Int}(z:L[i]? =some x):Cd L i=if x<0 then i else Cd L x.toNat:=by
 have G:=h i x z;by_cases h0:x<0
 .rw[Af h0,Cd];cases i with
  |zero=>rfl
  |succ i=>simp only[FZ,z,Ao,Af h0]
 .rw[Ab h0,Cd];cases i with
  |zero=>omega
  |succ i=>
   simp only[FZ,z,Ao,Ab h0];exact Sa h _ _ _ (by omega) (Ar _)
def Q9{L:List Int}(h:ldOk L): ∀(i:Nat),Cd L i<=i:=by
 intro i;induction i using Nat.strongRecOn with
 |_ i ih=>
  cases hi:L[i]? with
  |none=>rw[Cd];cases i<;>simp[FZ,hi]
  |some x=>
   rw[Ja h hi];have z:=h i x hi;split
   .exact Ar _
   .have:=ih x.toNat (by omega);omega
def firC.n(a:List Int×Nat):Nat:=min a.1.length 512
def firC.ca(a:List Int×Nat):List AV:=[.ptr (min a.2 511) 0]
def firC.H0(a:List Int×Nat):Ag:=grH 0 a.1 (firC.n a)
def firC.r0(a:List Int×Nat):AV:= .ptr (Cd a.1 a.2) 0
def firC.pre(a:List Int×Nat):Prop:=a.1.length<=512/\a.2<a.1.length/\ldOk a.1
def firC.row:Row:=orow firC.ca firC.H0 600 firC.pre (λ_=>false) firC.r0 (λ_=>[]) 0
def firC.hbel(a:List Int×Nat):belL 600 (firC.ca a)=true:=by
 simp only[firC.ca,belL,AV.bel,CB,Ch];omega
def Ww(nx b:Nat)(f:Nat->Ent)(n:Nat)(hf: ∀i,i<n->belH nx [(b+i,f i)]=true):belH nx (famH b n f)=true:=by
 have: ∀(l:List Nat),(∀i∈l,i<n)->belH nx (l.map λi=>(b+i,f i))=true:=by
  intro l;induction l with
  |nil=>intro _;rfl
  |cons i r ih=>
   intro z;rw[Ay,show (b+i,f i)::(r.map λi=>(b+i,f i))=[(b+i,f i)]++(r.map λi=>(b+i,f i)) from rfl,OA,hf i (z i (AU ..)),ih (λj O=>z j (AX _ O))];rfl
 exact this _ (λi G=>AJ.1 G)
def ldV_bel(b i N:Nat)(x:Int)(h:b+i<=N):(ldV b i x).bel N=true:=by
 simp only[ldV];split
 .simp only[AV.bel,Ch];omega
 .rfl
def OP(b n N:Nat)(L:List Int)(h:b+n<=N):belH N (grH b L n)=true:=Ww _ _ _ _ λi z=>by
 simp only[grE,belH,belL,ldV_bel b i N _ (by omega),AV.bel,L3]
def firC.n_le(a:List Int×Nat):firC.n a<=512:=L7 _ _
def firC.hbH(a:List Int×Nat):belH 600 (firC.H0 a)=true:=OP _ _ _ _ (by have:=firC.n_le a;omega)
def firC.hkH(a:List Int×Nat):Ai 600 (firC.H0 a)=true:=GK _ _ _ _ (by have:=firC.n_le a;omega)
def EO(b n:Nat)(L:List Int)(i:Nat)(h:i<n):hget (grH b L n) (b+i)=some (grE b L i):=DL _ _ _ _ h
def Nd{H0:Ag}{b n:Nat}{f:Nat->Ent}(h: ∀i,i<n-> ∀m∈(f i).2.nms,domB H0 m=true):AT H0 (famH b n f):=by
 have: ∀(l:List Nat),(∀i∈l,i<n)->AT H0 (l.map λi=>(b+i,f i)):=by
  intro l;induction l with
  |nil=>intro _;trivial
  |cons i r ih=>
   intro z;simp only[Ay];exact⟨h i (z i (AU ..)),ih (λj O=>z j (AX _ O))⟩
 exact this _ (λi G=>AJ.1 G)
def firC.hnm(a:List Int×Nat):AT (firC.H0 a) (firC.H0 a):=by
 refine Nd λi G m z=> ?_
 simp only[grE,AObj.nms,nmsL,ldV] at z;split at z
 .simp only[AV.nms,BJ,AO] at z;subst z;rename_i h;simp only[domB,firC.H0];rw[EO 0 _ _ _ (by omega)];rfl
 .simp[AV.nms] at z
def subH_famE(s:Ac)(b n:Nat)(f:Nat->Ent):subH s (famH b n f)= ∀i,i<n->hget s.h (b+i)=some (f i):=by
 have: ∀(l:List Nat),subH s (l.map λi=>(b+i,f i))↔ ∀i∈l,hget s.h (b+i)=some (f i):=by
  intro l;induction l with
  |nil=>simp[subH]
  |cons i r ih=>simp only[Ay,subH,ih,A9,RF]
 apply propext;rw[famH,this];simp only[AJ]
def OT{s:Ac}{b n:Nat}{L:List Int}(h: ∀i,i<n->hget s.h (b+i)=some (grE b L i)):subH s (grH b L n):=by
 rw[grH,subH_famE];exact h
def firC.ok:Ak Tryz.prog 284 firC.row:=by
 refine ow tN Tryz.func284 rfl (by kernel_rfl) (exB:=λ_=>false) (R:=λa r=>r=firC.r0 a) (λ_=>rfl)
  (λa=>⟨firC.hbel a,firC.hbH a,firC.hkH a,firC.hnm a⟩) (λa p hp=> ?_) (λa r h=>by subst h;exact LeV.refl _) ?_
 rotate_left
 intro a Z;simp only[Tryz.f284,firC.ca];simp(disch:=omega)only[ZA,simprocAttr];obtain⟨L,i⟩:=a;obtain⟨h1,h2,h3⟩:=Z;simp only at h1 h2 h3;obtain⟨n,hn⟩: ∃n,n=L.length:=⟨_,rfl⟩;have ab:firC.n (L,i)=n:=by simp only[firC.n,<-hn];omega
 simp only[firC.H0,firC.r0,ab,AL];rw[<-hn] at h1 h2;rw[show min i 511=i by omega];refine Au.old ⟨{g:Nat//g<n/\Cd L g=Cd L i},λg=>⟨[(0,.ptr g.1 0)],grH 0 L n,600⟩,λg=>g.1,λg=>⟨?_,by simp⟩,⟨⟨i,h2,rfl⟩,?_⟩,λg=> ?_⟩
 .simp only[Ac.good,belT,AV.bel,CB,Av,Ch];exact⟨by omega,OP _ _ _ _ (by omega),GK _ _ _ _ (by omega)⟩
 .simp only[sub,subT,tget];refine⟨?_,OT (λi Q=>EO 0 n L i Q)⟩;simp(disch:=omega)only[ZA,simprocAttr]
 obtain⟨g,hg,hr⟩:=g;obtain⟨x,hx⟩: ∃x,L[g]? =some x:=⟨_,A8 (by omega)⟩;have ac:=h3 g x hx;have z:=EO 0 n L g hg;rw[CM] at z;simp only[grE,hx,Ao] at z;have aa:=Ja h3 hx;by_cases h0:x<0
 .have G:ldV 0 g x= .im .nilp:=Ab (by omega);rw[G] at z;simp(disch:=omega)only[ZA,simprocAttr,z,AL];rw[Af h0] at aa;exact⟨by omega,by omega,by omega,by omega,by omega,U3 _ _ _ _ _ (λi Q=> .inr (EO 0 n L i Q)),by omega⟩
 .have G:ldV 0 g x= .ptr x.toNat 0:=by simp only[ldV];rw[Af ⟨by omega,ac⟩,CM]
  rw[G] at z;have O:=EO 0 n L x.toNat (by omega);rw[CM] at O;simp(disch:=omega)only[ZA,simprocAttr,sub,z,O,AL];rw[Ab h0] at aa;exact⟨by omega,by omega,by omega,by omega,by omega,by omega,by omega,by omega,by omega,⟨x.toNat,by omega,by omega⟩,by simp only;omega,rfl,OT (λi Q=>EO 0 n L i Q)⟩
 simp at hp
def EQ(b n k:Nat):List (List AV):=(List.range n).map λi=>if i<k then [AV.ptr (b+i) 0] else [.im .nilp]
def IW(b n k:Nat):(EQ b n k).length=n:=by simp[EQ]
def Qe(b n k i:Nat)(h:i<n):(EQ b n k)[i]? =some (if i<k then [.ptr (b+i) 0] else [.im .nilp]):=by simp[EQ,Ee h]
def Rg(b n k i:Nat)(K:List AV->Prop)(h:i<n):E3 (EQ b n k) i K=K (if i<k then [.ptr (b+i) 0] else [.im .nilp]):=by
 apply propext;unfold E3;rw[Qe b n k i h];exact⟨λh=>h _ rfl,λh row z=>by obtain rfl:=Al z;exact h⟩
def Qq(b n k N:Nat)(h:b+k<=N):(EQ b n k).all (belL N)=true:=by
 rw[BE];intro r z;obtain⟨i,G,rfl⟩:=AF.1 z;split
 .simp[belL,AV.bel];omega
 .simp[belL,AV.bel]
def SX(b n N:Nat)(L:List Int)(h:b+n<=N):Ai N (grH b L n)=true:=GK _ _ _ _ h
def rowsP_nil(b n:Nat)(π:List (Nat×Option Nat)):mtR π (EQ b n 0) (imR (List.replicate n [.nilp])):=by
 have e:EQ b n 0=imR (List.replicate n [.nilp]):=by
  simp only[EQ,imR,M4,Bp,List.map_replicate];rw[List.map_const',J8];rfl
 rw[e];exact Rt _ _
def ldV_ren{σ:Nat->Nat}{i:Nat}{x:Int}(h: ∀j,j<i->σ j=1000+j):(ldV 0 i x).ren σ=ldV 1000 i x:=by
 simp only[ldV];split
 .simp only[AV.ren,CM];rw[h _ (by omega)]
 .rfl
def HS{h:Nat->Option Ent}{σ:Nat->Nat}{b n:Nat}{f:Nat->Ent}(H: ∀i,i<n->h (σ (b+i))=some ((f i).1,(f i).2.ren σ)):Bu h σ (famH b n f):=by
 have: ∀(l:List Nat),(∀i∈l,i<n)->Bu h σ (l.map λi=>(b+i,f i)):=by
  intro l;induction l with
  |nil=>intro _;trivial
  |cons i r ih=>
   intro z;simp only[Ay];exact⟨H i (z i (AU ..)),ih (λj O=>z j (AX _ O))⟩
 exact this _ (λi G=>AJ.1 G)
def grH_dom{n:Nat}{L:List Int}{j:Nat}(h:domB (grH 0 L n) j=true):j<n:=by
 simp only[domB,grH,Mk] at h;split at h
 .omega
 .cases h
def Ud{H:Nat->Option Ent}{L:List Int}{k nx u:Nat}{K:Kont}(Q:L.length=k)(hk:k<=512)(G:ldOk L)(hu:u<k)(aa:2000<=nx)(hH: ∀i,i<k->H (1000+i)=some (grE 1000 L i))
 (O: ∀U,K (.ptr (1000+Cd L u) 0) {use:=U}):firC.row [.ptr (1000+u) 0] H nx K:=by
 have hσ: ∀j,j<600->sgx (λj=>1000+j) 600 nx j=1000+j:=λj z=>Af z
 have hn:firC.n (L,u)=k:=by simp only[firC.n,Q];omega
 have hr:=Q9 G u;refine⟨(L,u),λj=>1000+j,(List.range k).map (1000+ ·),[],⟨by simp only;omega,by simp only;omega,G⟩,?_,?_,?_,?_⟩
 .simp only[firC.ca,renL,AV.ren];rw[show min u 511=u by omega,hσ u (by omega)]
 .simp only[firC.H0,hn,grH];refine HS λi Z=> ?_
  rw[CM,hσ i (by omega),hH i Z];simp only[grE,AObj.ren,renL,AV.ren];rw[ldV_ren (λj z=>hσ j (by omega))]
 .have hd: ∀j,domB (firC.H0 (L,u)) j=true->j<k:=λj z=>by simp only[firC.H0,hn] at z;exact grH_dom z
  refine⟨λi j _ _ h=> ?_,λj z=> ?_,λj z=> ?_,λm hm=>(by cases hm),λj _ z=>(by cases z)⟩
  .have h:1000+i=1000+j:=h;omega
  .have:=hd j z
   show 1000+j<nx;omega
  exact AF.2 ⟨j,AJ.2 (hd j z),rfl⟩
 .have e:(firC.r0 (L,u)).ren (sgx (λj=>1000+j) 600 nx)= .ptr (1000+Cd L u) 0:=by
   simp only[firC.r0,AV.ren];rw[hσ _ (by omega)]
  rw[e];exact O _
def WI(k:Nat):ldOk (List.replicate k (-1)):=by
 intro i x h
 have:=Gf (Ax h)
 omega
def Qf: ∀(k i:Nat),i<k->(IM k)[i]? =some (i:Int)
 |0,i,h=>by omega
 |k+1,i,h=>by
  simp only[IM];by_cases z:i<k
  .rw[Ci (by rw[KC];exact z)];exact Qf k i z
  .have:i=k:=by omega
   subst this;rw[C8 (by rw[KC];exact Ar _),KC,D3];rfl
def own_start{k i:Nat}{bs:List Bond}(h:i<k):(ownK k bs 0)[i]? =some ((Cd (List.replicate k (-1)) i:Nat):Int):=by
 simp only[ownK];rw[Qf k i h]
 have:=Ja (WI k) (i:=i) (x:= -1) (by rw[Fu,Af h])
 rw[this,Af (by omega)]
def SL{L:List Int}(h:ldOk L): ∀(i:Nat),Cd L (Cd L i)=Cd L i:=by
 intro i;induction i using Nat.strongRecOn with
 |_ i ih=>
  cases hi:L[i]? with
  |none=>
   have:Cd L i=i:=by rw[Cd];cases i<;>simp[FZ,hi]
   rw[this,this]
  |some x=>
   have z:=h i x hi;rw[Ja h hi];split
   .rename_i h0;rw[Ja h hi,Af h0]
   .exact ih x.toNat (by omega)
def TQ{L:List Int}(h:ldOk L){p q:Nat}(O:p<q):ldOk (L.set q (p:Int)):=by
 intro i x z;by_cases hq:q=i
 .subst hq;have G:q<L.length:=by have:=(Ba.1 z).1;simpa using this
  rw[BA G] at z;obtain rfl:=Al z;omega
 .rw[BM hq] at z;exact h i x z
def Wq{L:List Int}(h:ldOk L){p q:Nat}(hp:Cd L p=p)(hq:Cd L q=q)(G:p<q)(O:q<L.length): ∀(i:Nat),Cd (L.set q (p:Int)) i=if Cd L i=q then p else Cd L i:=by
 have h':=TQ h G;intro i;induction i using Nat.strongRecOn with
 |_ i ih=>
  by_cases z:q=i
  .subst z;have e:(L.set q (p:Int))[q]? =some (p:Int):=BA O;rw[Ja h' e,Ab (by omega),AH,ih p G,hp,Ab (by omega),hq,Af rfl]
  .have e:(L.set q (p:Int))[i]? =L[i]? :=BM z;cases hi:L[i]? with
   |none=>
    have Q:Cd L i=i:=by rw[Cd];cases i<;>simp[FZ,hi]
    have r2:Cd (L.set q (p:Int)) i=i:=by rw[Cd];cases i<;>simp[FZ,e,hi]
    rw[Q,r2,Ab (Co z)]
   |some x=>
    have Z:=h i x hi;rw[hi] at e;rw[Ja h' e,Ja h hi];by_cases h0:x<0
    .rw[Af h0,Af h0,Ab (Co z)]
    .rw[Ab h0,Ab h0];exact ih x.toNat (by omega)
def join_lt{x y:Nat}(h:x<y)(r:Nat):E4 (x:Int) (y:Int) (r:Int)=((if r=y then x else r:Nat):Int)/\E4 (y:Int) (x:Int) (r:Int)=((if r=y then x else r:Nat):Int):=by
 have m1:maxI (x:Int) y=y:=Ab (by omega);have G:maxI (y:Int) x=y:=Af (by omega);have O:minI (x:Int) y=x:=Af (by omega);have Q:minI (y:Int) x=x:=Ab (by omega);simp only[E4,m1,G,O,Q];by_cases z:r=y
 .rw[Af z,Af (by omega)];exact⟨rfl,rfl⟩
 .rw[Ab z,Ab (by omega)];exact⟨rfl,rfl⟩
def join_eq(x r:Nat):E4 (x:Int) (x:Int) (r:Int)=(r:Int):=by
 have m1:maxI (x:Int) x=x:=Ab (by omega);have G:minI (x:Int) x=x:=Ab (by omega);simp only[E4,m1,G];by_cases z:(r:Int)=x
 .rw[Af z,z]
 .rw[Ab z]
def mII(p:Int×Int):D×D:=(.int .i64 p.1,.int .i64 p.2)
def lkZ(M:List (Int×Int))(x:Int):Option Int:=(M.find? (λp=>p.1==x)).map (·.2)
def lk_mII(x:Int): ∀(M:List (Int×Int)),lk (M.map mII) (.int .i64 x)=(lkZ M x).map (D.int .i64)
 |[]=>rfl
 |(k,v)::r=>by
  have ih:=lk_mII x r;simp only[lkZ] at ih;by_cases h:k=x
  .subst h;simp[lk,mII,lkZ,D.beq]
  .have z: ¬x=k:=λe=>h e.symm
   have G:(x==k)=false:=by simpa using z
   simp[lk,mII,lkZ,D.beq,h,G,ih]
def lkVC_ii(x:Int)(M:List (Int×Int))(G:D->Prop)(z:Prop):LkVC (M.map mII) (.int .i64 x) G z=((∀v,lkZ M x=some v->G (.int .i64 v))/\(lkZ M x=none->z)):=by
 apply propext;unfold LkVC;rw[lk_mII];cases lkZ M x<;>simp
def upd_mII(x v:Int): ∀(M:List (Int×Int)),lkZ M x=none->upd (M.map mII) (.int .i64 x) (.int .i64 v)=(M++[(x,v)]).map mII
 |[],_=>rfl
 |(k,w)::r,h=>by
  by_cases z:k=x
  .subst z;simp[lkZ] at h
  .have G: ¬x=k:=λe=>z e.symm
   have Q:lkZ r x=none:=by simpa[lkZ,z] using h
   have ih:=upd_mII x v r Q;simp only[Ay,Bv,mII] at ih⊢;have O:(x==k)=false:=by simpa using G
   simp[upd,D.beq,O,ih,mII]
def lkZ_app(M:List (Int×Int))(x v y:Int):lkZ (M++[(x,v)]) y=(lkZ M y).or (if x=y then some v else none):=by
 simp only[lkZ,List.find?_append];cases h:M.find? (λp=>p.1==y) with
 |some p=>simp
 |none=>
  by_cases z:x=y
  .subst z;simp
  .simp[z]
def Qp{own:List Int}{i:Nat}(h:own[i]? =some (i:Int)): ∀k,∃z,grpK own i (k+1)=(i:Int)::z
 |0=>⟨[],by simp[grpK,h]⟩
 |k+1=>by
  obtain⟨z,G⟩:=Qp h k;rw[grpK,G];exact⟨_,rfl⟩
def S8(own:List Int)(n:Nat): ∀k,k<=n-> ∀g∈AI own n k,∃(r:Nat) (rest:List Int),g=(r:Int)::rest/\r<k/\own[r]? =some (r:Int)
 |0,_,g,h=>by simp[AI] at h
 |k+1,hk,g,h=>by
  simp only[AI,AG] at h;rcases h with h|h
  .obtain⟨r,rest,O,Z,Q⟩:=S8 own n k (by omega) g h;exact⟨r,rest,O,by omega,Q⟩
  .split at h
   .rename_i z;obtain rfl:=AO.1 h;obtain⟨rest,G⟩:=Qp z (n - k - 1);rw[show n - k - 1+1=n - k by omega] at G;exact⟨k,rest,G,by omega,z⟩
   .cases h
def Ta(own:List Int)(n:Nat)(r:Nat)(O:own[r]? =some (r:Int)): ∀k,k<=n->r<k-> ∃z,((r:Int)::z)∈AI own n k
 |0,_,h=>by omega
 |k+1,Z,h=>by
  by_cases G:r=k
  .subst G;obtain⟨z,G⟩:=Qp O (n - r - 1);rw[show n - r - 1+1=n - r by omega] at G;exact⟨z,by simp[AI,O,G]⟩
  .obtain⟨z,Q⟩:=Ta own n r O k (by omega) (by omega);exact⟨z,by simp only[AI,AG];exact .inl Q⟩
def Xv(own:List Int)(n:Nat): ∀k,∀g∈AI own n k,g.length<=n
 |0,g,h=>by simp[AI] at h
 |k+1,g,h=>by
  simp only[AI,AG] at h;rcases h with h|h
  .exact Xv own n k g h
  .split at h
   .obtain rfl:=AO.1 h
    have:=TH own k (n - k)
    omega
   .cases h
def cvt_rowsF{h:Nat->Option Ent}{b m:Nat}{G:List (List Int)}(H: ∀q,q<G.length->h (b+q)=some (true,.arr 2 1 ((G[q]?.getD []).map intC))):
 mapO (mapO λx=>asDO (cvt h (kxOf 0 []) (m+1) x)) (B4 b G.length)=some (G.map Bo):=by
 have: ∀(l:List Nat),(∀q∈l,q<G.length)->mapO (mapO λx=>asDO (cvt h (kxOf 0 []) (m+1) x)) (l.map λi=>[AV.own (b+i)])=some (l.map λq=>Bo (G[q]?.getD [])):=by
  intro l;induction l with
  |nil=>intro _;rfl
  |cons q r ih=>
   intro Q;have h0:kxOf 0 [] (b+q)=none:=rfl;have O:=ih (λx Z=>Q x (AX _ Z));have e:mapO (λx=>asDO (cvt h (kxOf 0 []) (m+1) x)) [AV.own (b+q)]=some (Bo (G[q]?.getD [])):=by
    simp only[mapO,cvt,h0,H q (Q q (AU ..)),Gr,kp,Bw,asDO,AV.asD];rfl
   rw[Ay,mapO,e,O];rfl
 rw[B4,this _ (λq hq=>AJ.1 hq)];congr 1;apply EY;intro j;by_cases z:j<G.length
 .rw[BI,Ee z,BI,A8 z,Bw,Bw,A8 z,Ao]
 .rw[CH (by simp;omega),CH (by simp;omega)]
def joinG(r:Int)(m:Nat)(g:List Int):List Int:=if g.head? =some r then g++[(m:Int)] else g
def SD(own:List Int)(m:Nat)(r:Int)(Q:own[m]? =some r): ∀k,k<=m->AI own (m+1) k=(AI own m k).map (joinG r m)
 |0,_=>rfl
 |k+1,hk=>by
  rw[AI,AI,Di,SD own m r Q k (by omega)];congr 1;by_cases G:own[k]? =some (k:Int)
  .rw[Af G,Af G];obtain⟨Z,O⟩:=Qp G (m - k - 1);rw[show m - k - 1+1=m - k by omega] at O;have e:grpK own k (m+1 - k)=grpK own k (m - k)++(if own[m]? =some (k:Int) then [(m:Int)] else []):=by
    rw[show m+1 - k=(m - k)+1 by omega,grpK,show k+(m - k)=m by omega]
   rw[e,Q];simp only[Ay,D2,joinG,O,Vg,An];by_cases z:r=(k:Int)
   .rw[Af z,Af z.symm]
   .rw[Ab z,Ab (Co z),BJ]
  .rw[Ab G,Ab G];rfl
structure Pe(out:List (List Int))(M:List (Int×Int)):Prop where
 a: ∀r v,lkZ M r=some v-> ∃(g:Nat) (rest:List Int),v=g/\out[g]? =some (r::rest)
 b: ∀(g:Nat) (r:Int) (rest:List Int),out[g]? =some (r::rest)->lkZ M r=some (g:Int)
def grps_new{own:List Int}{i:Nat}{M:List (Int×Int)}{r:Nat}(hP:Pe (AI own i i) M)(ho:own[i]? =some (r:Int))(hr:r<=i)(ab:own[r]? =some (r:Int))(hn:lkZ M r=none):
 r=i/\AI own (i+1) (i+1)=AI own i i++[[(i:Int)]]/\Pe (AI own (i+1) (i+1)) (M++[((i:Int),((AI own i i).length:Int))]):=by
 have aa:r=i:=by
  by_cases h:r<i
  .obtain⟨z,hm⟩:=Ta own i r ab i (by omega) h;obtain⟨g,G⟩:=Fa.1 hm;rw[hP.b g _ _ G] at hn;cases hn
  .omega
 subst aa;have e:AI own (r+1) (r+1)=AI own r r++[[(r:Int)]]:=by
  rw[AI,SD own r r ho r (Ar _),Af ho];congr 1
  .conv=>rhs;rw[<-List.map_id (AI own r r)]
   apply Gd;intro g G;obtain⟨q,z,Q,Z,_⟩:=S8 own r r (Ar _) g G;simp only[joinG,Q,Vg,An,id];rw[Ab (by omega)]
  .rw[show r+1 - r=0+1 by omega];simp[grpK,ho]
 refine⟨rfl,e,?_⟩;rw[e];refine⟨λq v O=> ?_,λg q z G=> ?_⟩
 .rw[lkZ_app] at O;cases hq:lkZ M q with
  |some w=>
   rw[hq] at O;obtain rfl:=Al O;obtain⟨g,z,Q,Z⟩:=hP.a q _ hq;exact⟨g,z,Q,by rw[Ci (Ba.1 Z).1];exact Z⟩
  |none=>
   rw[hq] at O;simp only[LC] at O;split at O
   .rename_i h;obtain rfl:=Al O;exact⟨_,[],rfl,by rw[C8 (Ar _),D3,<-h];rfl⟩
   .cases O
 .rw[lkZ_app];by_cases hl:g<(AI own r r).length
  .rw[Ci hl] at G;rw[hP.b g q z G];rfl
  .rw[C8 (by omega)] at G;have h0:g - (AI own r r).length=0:=by
    have:=(Ba.1 G).1
    simpa using this
   rw[h0] at G;simp only[De,An,L8] at G;rw[<-G.1,hn,Af rfl,LC];congr 1;omega
def grps_old{own:List Int}{i:Nat}{M:List (Int×Int)}{r:Int}{g:Nat}{rest:List Int}(hP:Pe (AI own i i) M)(ho:own[i]? =some r)(Q:(AI own i i)[g]? =some (r::rest)):
 AI own (i+1) (i+1)=(AI own i i).set g (r::rest++[(i:Int)])/\Pe (AI own (i+1) (i+1)) M:=by
 have ab:r≠i:=by
  obtain⟨q,rs,Z,G,_⟩:=S8 own i i (Ar _) _ (Ax Q)
  have:=(List.cons.inj Z).1
  omega
 have e:AI own (i+1) (i+1)=(AI own i i).set g (r::rest++[(i:Int)]):=by
  rw[AI,SD own i r ho i (Ar _),Ab (by rw[ho];simpa using ab),BJ];apply EY;intro j;rw[BI];by_cases O:g=j
  .subst O;rw[BA (Ba.1 Q).1,Q];simp[joinG]
  .rw[BM O];cases hx:(AI own i i)[j]? with
   |none=>rfl
   |some x=>
    simp only[Bw,joinG];rw[Ab];intro hh;cases x with
    |nil=>cases hh
    |cons q rs=>
     simp only[Vg,An] at hh;subst hh;have Z:=hP.b j _ _ hx;have G:=hP.b g _ _ Q;rw[Z] at G
     have:=Al G
     omega
 refine⟨e,?_⟩;rw[e];have aa:=(Ba.1 Q).1;refine⟨λq v hv=> ?_,λg' q rs z=> ?_⟩
 .obtain⟨j,rs,Z,G⟩:=hP.a q v hv;by_cases O:g=j
  .subst O;rw[Q] at G;simp only[An,L8] at G;exact⟨g,rest++[(i:Int)],Z,by rw[BA aa,G.1];rfl⟩
  .exact⟨j,rs,Z,by rw[BM O];exact G⟩
 .by_cases O:g=g'
  .subst O;rw[BA aa] at z;simp only[An,Bv,L8] at z;rw[<-z.1];exact hP.b g _ _ Q
  .rw[BM O] at z;exact hP.b g' _ _ z
def gpsH(b:Nat)(G:List (List Int)):Ag:=famH b G.length (λi=>(true,.arr 2 1 ((G[i]?.getD []).map intC)))
def gpsH_bel(b N:Nat)(G:List (List Int))(h:b+G.length<=N):belH N (gpsH b G)=true:=Ww _ _ _ _ λi z=>by simp[belH]
def gpsH_key(b N:Nat)(G:List (List Int))(h:b+G.length<=N):Ai N (gpsH b G)=true:=GK _ _ _ _ h
def mtR_P{π:List (Nat×Option Nat)}{b n k:Nat}(h: ∀i,i<k->pm π (b+i)=some (b+i)):mtR π (EQ b n k) (EQ b n k):=by
 rw[La];refine⟨rfl,λi x y z Q=> ?_⟩;rw[z] at Q;obtain rfl:=Al Q;have G:i<n:=by have:=(Ba.1 z).1;rwa [IW] at this
 rw[Qe _ _ _ _ G] at z;obtain rfl:=Al z;split
 .rename_i O;simp only[mtL,mt,h i O,Dv,DB]
 .simp only[mtL,mt,DB]
def nodup_two(A:List Nat)(b n c m:Nat)(h:A.Nodup)(Z: ∀x∈A,(x<b\/b+n<=x)/\(x<c\/c+m<=x))(aa:b+n<=c):(A++((List.range n).map (b+ ·)++(List.range m).map (c+ ·))).Nodup:=by
 have Q: ∀b n,((List.range n).map (b+ ·)).Nodup:=λb n=>by have:=K8 [] b n (by simp) (by simp);simpa using this
 rw[H9];refine⟨h,?_,λx O y z=> ?_⟩
 .rw[H9];refine⟨Q _ _,Q _ _,λx O y z=> ?_⟩;obtain⟨i,hi,rfl⟩:=AF.1 O;obtain⟨j,G,rfl⟩:=AF.1 z
  have:=AJ.1 hi
  omega
 .have:=Z x O
  rcases AG.1 z with z|z
  .obtain⟨j,G,rfl⟩:=AF.1 z
   have:=AJ.1 G
   omega
  .obtain⟨j,G,rfl⟩:=AF.1 z
   have:=AJ.1 G
   omega
def YQ(b:Nat)(G:List (List Int))(g:Nat)(h:g<G.length):hget (gpsH b G) (b+g)=some (true,.arr 2 1 ((G[g]?.getD []).map intC)):=DL _ _ _ _ h
def grH_out(b k:Nat)(L:List Int)(m:Nat)(h:m<b\/b+k<=m):hget (grH b L k) m=none:=SR _ _ _ _ h
def Q3(k:Nat)(L:List Int)(G:List (List Int))(i:Nat)(h:i<k):hget (grH 1000 L k++gpsH 3000 G) (1000+i)=some (grE 1000 L i):=by
 rw[Gv,EO _ _ _ _ h];rfl
def Q5(k:Nat)(L:List Int)(G:List (List Int))(g:Nat)(z:k<=512)(h:g<G.length):hget (grH 1000 L k++gpsH 3000 G) (3000+g)=some (true,.arr 2 1 ((G[g]?.getD []).map intC)):=by
 rw[Gv,grH_out _ _ _ _ (by omega),YQ _ _ _ h];rfl
def keysH_gg(k:Nat)(L:List Int)(G:List (List Int)):Cy (grH 1000 L k++gpsH 3000 G)=(List.range k).map (1000+ ·)++(List.range G.length).map (3000+ ·):=by
 rw[Tn,grH,gpsH,Jc,Jc]
def gI(k:Nat)(L:List Int)(i:Nat)(M:List (Int×Int))(G:List (List Int)):Ac:=⟨[(81,.im (.int .i64 i)),(80,.im (.int .i64 k)),(79,.own 2),(12,.mp 2001),(11,.own 2100)],(2001,(true,.map {agg:=false,ks:=[KK.int .i64]} (M.map mII)))::(2100,(true,.arrA 32 1 (B4 3000 G.length)))::(2,(true,.arrA 367 1 (EQ 1000 k k)))::(grH 1000 L k++gpsH 3000 G),4000⟩
def gI_good{k:Nat}{L:List Int}{i:Nat}{M:List (Int×Int)}{G:List (List Int)}(O:k<=512)(z:G.length<=512):(gI k L i M G).good=true:=by
 simp only[gI,Ac.good,belH,Ai,OA,SQ,OP 1000 k 4000 _ (by omega),Qq 1000 k k 4000 (by omega),SX 1000 k 4000 _ (by omega),I0 3000 G.length 4000 (by omega),gpsH_bel 3000 4000 G (by omega),gpsH_key 3000 4000 G (by omega)];simp[belT,AV.bel]
def U1{π:List (Nat×Option Nat)}{s:Ac}{k:Nat}{L:List Int}{i:Nat}{M:List (Int×Int)}{G:List (List Int)}{O:Nat}{T:Nat->Nat}(hk:k<=512)(hG:G.length<=512)
 (ac:geP 2002 π)(p1:pm π 2001=some 2001)(p2:pm π 2=some 2)(p3: ∀j,j<k->pm π (1000+j)=some (1000+j))(p4:pm π 2100=some O)(p5: ∀q,q<G.length->pm π (3000+q)=some (T q))
 (t1:tget s.tm 81= .im (.int .i64 i))(t2:tget s.tm 80= .im (.int .i64 k))(t3:tget s.tm 79= .own 2)(t4:tget s.tm 12= .mp 2001)(t5:tget s.tm 11= .own O)
 (g1:hget s.h 2001=some (true,.map {agg:=false,ks:=[KK.int .i64]} (M.map mII)))(g2:hget s.h 2=some (true,.arrA 367 1 (EQ 1000 k k)))(g3: ∀j,j<k->hget s.h (1000+j)=some (grE 1000 L j))
 (g4:(G.length=0/\hget s.h O=some (true,.arr 32 1 []))\/hget s.h O=some (true,.arrA 32 1 ((List.range G.length).map λq=>[.own (T q)])))
 (g5: ∀q,q<G.length->hget s.h (T q)=some (true,.arr 2 1 ((G[q]?.getD []).map intC)))
 (inj: ∀q q',q<G.length->q'<G.length->T q=T q'->q=q')(out: ∀q,q<G.length->T q≠O/\3000<=T q)(hO:2000<=O/\O≠2001):subP 2002 π s (gI k L i M G):=by
 refine⟨ac,?_,?_,?_⟩
 .rw[KQ];simp only[gI,Cy,keysH_gg];have ab: ∀x∈[2001,2100,2]++((List.range k).map (1000+ ·)++(List.range G.length).map (3000+ ·)),(x=2001/\pm π x=some 2001)\/(x=2/\pm π x=some 2)\/(x=2100/\pm π x=some O)\/(1000<=x/\x<1000+k/\pm π x=some x)\/(3000<=x/\x<3000+G.length/\pm π x=some (T (x - 3000))):=by
   intro x z;rcases AG.1 z with z|z
   .simp only[A9,M8,LD] at z;rcases z with rfl|rfl|rfl
    .exact .inl ⟨rfl,p1⟩
    .exact .inr (.inr (.inl ⟨rfl,p4⟩))
    .exact .inr (.inl ⟨rfl,p2⟩)
   .rcases AG.1 z with z|z
    .obtain⟨j,Q,rfl⟩:=AF.1 z;have Q:=AJ.1 Q;exact .inr (.inr (.inr (.inl ⟨by show 1000<=1000+j;omega,by show 1000+j<1000+k;omega,p3 j Q⟩)))
    .obtain⟨j,Q,rfl⟩:=AF.1 z;have Q:=AJ.1 Q;exact .inr (.inr (.inr (.inr ⟨by show 3000<=3000+j;omega,by show 3000+j<3000+G.length;omega,by show pm π (3000+j)=some (T (3000+j - 3000));rw[show 3000+j - 3000=j by omega];exact p5 j Q⟩)))
  refine KZ _ _ (nodup_two [2001,2100,2] 1000 k 3000 G.length (by simp) (by simp;omega) (by omega)) ?_;intro x z y hy m Z aa;rcases ab x z with ⟨a1,a2⟩|⟨a1,a2⟩|⟨a1,a2⟩|⟨a0,a1,a2⟩|⟨a0,a1,a2⟩<;>rcases ab y hy with ⟨b1,b2⟩|⟨b1,b2⟩|⟨b1,b2⟩|⟨b0,b1,b2⟩|⟨b0,b1,b2⟩<;>
   rw[a2] at Z<;>rw[b2] at aa<;>have Z:=Al Z<;>have aa:=Al aa<;>first
   |omega
   |(have:=out (x - 3000) (by omega);omega)
   |(have:=out (y - 3000) (by omega);omega)
   |(have:=inj (x - 3000) (y - 3000) (by omega) (by omega) (Z.trans aa.symm);omega)
 .simp only[gI,Gx,t1,t2,t3,t4,t5,mt,p2,p1,p4,ownM,Dv,DB]
 .simp only[gI,Dw,SV,p1,p2,p4,entN,g1,g2];refine⟨⟨rfl,rfl⟩,?_,⟨rfl,rfl,rfl,mtR_P p3⟩,?_,?_⟩
  .rcases g4 with ⟨h0,h1⟩|h1
   .rw[h1,h0];exact⟨rfl,rfl,rfl,trivial⟩
   .rw[h1];exact⟨rfl,rfl,rfl,UH p5 rfl⟩
  .rw[grH,KG];intro j Q;rw[p3 j Q,entN,g3 j Q];refine⟨rfl,?_⟩;simp only[grE,mtE,mtL,mt,DB,and_true,PI];simp only[ldV];split
   .simp only[mt,p3 _ (show (L[j]?.getD (-1)).toNat<k by omega),Dv]
   .rfl
  .rw[gpsH,KG];intro q hq;rw[p5 q hq,entN,g5 q hq];exact⟨rfl,rfl⟩
def grpPre(a:Int×List Bond):Prop:=0<=a.1/\a.1<=512/\Fh a.1 a.2/\a.2.length<=1000000
def groupsBy_.fv(a:Int×(List Bond)):List (List Int):=(Ht) (a.1) (a.2)
def groupsBy_.row:Row:=vK (b2 qI (qS Bond.d_le Bond.c_n)) (rS KR sintC_n) (λa=>grpPre (a.1,a.2)) groupsBy_.fv
def groupsBy_.q:=vKq (R:=groupsBy_.row) rfl
def groupsBy_.ok:Ak Tryz.prog 265 groupsBy_.row:=by
 refine vw (tC firC.ok tN) Tryz.func265 rfl (by kernel_rfl) ?_;intro a a0;simp only[Tryz.f265];simp(disch:=omega)only[ZA,simprocAttr,groupsBy_.fv];obtain⟨h0,h1,av,hl⟩:=a0;obtain⟨n,hn⟩: ∃n:Nat,a.1=n:=⟨a.1.toNat,by simp only at h0;omega⟩;obtain⟨bs,hbsd⟩: ∃bs,bs=a.2:=⟨_,rfl⟩;simp only[hn,<-hbsd,AH] at h0 h1 av hl⊢;refine⟨h0,Fv _,by omega,λ_=> ?_⟩;rw[Gb];refine Au.ren ⟨{k:Nat//k<=n},λk=>⟨[(21,.im (.int .i64 k.1)),(20,.im (.int .i64 n)),(19,.own 2),(5,.own 2),(0,.im (.int .i64 n)),(1,.im (.sl false 3 (bs.map Bond.c)))],(2,(true,.arrA 367 1 (EQ 1000 n k.1)))::grH 1000 (List.replicate n (-1)) k.1,2000⟩,λk=>n - k.1,λk=>⟨?_,by simp⟩,⟨⟨0,by simp⟩,[(2,some 1)],?_⟩,λk=> ?_⟩
 .simp only[Ac.good,belH,Ai,OP 1000 k.1 2000 _ (by omega),Qq 1000 n k.1 2000 (by omega),SX 1000 k.1 2000 _ (by omega)];simp[belT,AV.bel]
 .simp only[subP,grH,famH,Vh,D2];simp(disch:=omega)only[ZA,simprocAttr];exact rowsP_nil _ _ _
 obtain⟨k,bc⟩:=k;simp(disch:=omega)only[ZA,simprocAttr,Aq,AL,IW];refine⟨λhk=>⟨hk,hk,?_⟩,λhk=> ?_⟩
 .simp(disch:=omega)only[ZA,simprocAttr,AL,Rg,Vx];refine⟨?_,⟨k+1,by omega⟩,[(1000+k,some 2000)],by simp only;omega,?_⟩
  .rw[BE];intro r hr;rcases IQ hr with hr|hr
   .exact BE.1 (Qq 1000 n k 2001 (by omega)) r hr
   .subst hr;simp[belL,AV.bel]
  have qi: ∀i,i≠1000+k->pm [(1000+k,some 2000)] i=some i:=by intro i z;simp only[pm];rw[Ab (by omega)]
  have qk:pm [(1000+k,some 2000)] (1000+k)=some 2000:=by simp only[pm];rw[Af trivial]
  obtain⟨π,hπ⟩: ∃π,π=[(1000+k,some 2000)]:=⟨_,rfl⟩;rw[<-hπ] at qi qk⊢;refine⟨by rw[hπ];exact⟨by omega,trivial⟩,?_,?_,?_⟩
  .rw[KQ,hπ];simp only[Cy,grH,Jc];refine KZ _ _ (K8 [2] 1000 (k+1) (by simp) (by simp)) ?_;intro x hx y hy m aq ag;have bi:x<2000:=by
    rcases A9.1 hx with hx|hx
    .omega
    .obtain⟨i,z,rfl⟩:=AF.1 hx
     have:=AJ.1 z
     show 1000+i<2000;omega
   have bj:y<2000:=by
    rcases A9.1 hy with hy|hy
    .omega
    .obtain⟨i,z,rfl⟩:=AF.1 hy
     have:=AJ.1 z
     show 1000+i<2000;omega
   simp only[pm] at aq ag;split at aq<;>split at ag<;>simp only[An] at aq ag<;>omega
  .simp only[Gx,tget];simp(disch:=omega)only[ZA,simprocAttr,qi 2 (by omega)];rw[Am (by omega) (by omega)];omega
  .simp only[Dw,grH,KG];refine⟨?_,λi z=> ?_⟩
   .simp(disch:=omega)only[ZA,simprocAttr,qi 2 (by omega)];rw[La];refine⟨by simp[IW],λi x y hx hy=> ?_⟩;have aw:i<n:=by have:=(Ba.1 hx).1;rwa [IW] at this
    rw[Qe _ _ _ _ aw] at hx;obtain rfl:=Al hx;by_cases ad:k=i
    .subst ad;rw[BA (by rw[IW];exact hk)] at hy;obtain rfl:=Al hy;rw[Af (by omega)];simp only[mtL,mt,qk,Dv,DB]
    .rw[BM ad,Qe _ _ _ _ aw] at hy;obtain rfl:=Al hy;by_cases ay:i<k
     .rw[Af (by omega),Af ay];simp only[mtL,mt,qi (1000+i) (by omega),Dv,DB]
     .rw[Ab (by omega),Ab ay];simp only[mtL,mt,DB]
   .have hg: ∀i,i<n->(List.replicate n (-1:Int))[i]?.getD (-1)= -1:=by
     intro i z;rw[Fu,Af z,Ao]
    have ax:ldV 1000 i (-1)= .im .nilp:=by simp only[ldV];rw[Ab (by omega)]
    simp only[grE,hg i (by omega),ax];by_cases ad:i=k
    .subst ad;rw[qk];simp(disch:=omega)only[ZA,simprocAttr]
    .rw[qi (1000+i) (by omega)];have h9:=EO 1000 k (List.replicate n (-1)) i (by omega);simp only[grE,hg i (by omega),ax,grH] at h9;simp (disch:=omega) only[entN,hget,A7,AM,I2,J2,J7,G3,B1,Bp];rw[h9];simp only[entM,mtE,mtL,mt,DB]
 .intro _;have bd:k=n:=by omega
  subst bd;clear hk bc;refine Au.old ⟨{s:Nat×List Int//s.1<=bs.length/\s.2.length=k/\ldOk s.2/\ ∀i,i<k->(ownK k bs s.1)[i]? =some ((Cd s.2 i:Nat):Int)},λs=>⟨[(33,.im (.int .i64 s.1.1)),(32,.im (.int .i64 bs.length)),(31,.im (.sl false 3 (bs.map Bond.c))),(5,.own 2),(0,.im (.int .i64 k))],(2,(true,.arrA 367 1 (EQ 1000 k k)))::grH 1000 s.1.2 k,2000⟩,λs=>bs.length - s.1.1,λs=>⟨?_,by simp⟩,⟨⟨(0,List.replicate k (-1)),by simp only;omega,by simp,WI k,λi z=>own_start z⟩,?_⟩,λs=> ?_⟩
  .simp only[Ac.good,belH,Ai,OP 1000 k 2000 _ (by omega),Qq 1000 k k 2000 (by omega),SX 1000 k 2000 _ (by omega)];simp[belT,AV.bel]
  .simp only[sub,subT,tget];refine⟨?_,?_⟩
   .simp(disch:=omega)only[ZA,simprocAttr]
   .simp only[subH];refine⟨rfl,OT λi z=> ?_⟩;simp only[hget,A7 _ _ (show 2≠1000+i by omega),AM];exact EO _ _ _ _ z
  obtain⟨⟨j,L⟩,i1,i2,i3,i4⟩:=s;simp only at i1 i2 i3 i4;simp(disch:=omega)only[ZA,simprocAttr,Aq,AL,IW];refine⟨λhj=>⟨hj,λb hb=> ?_⟩,λhj=> ?_⟩
  .obtain⟨b1,b2,b3,b4⟩:=av b (Ax hb);obtain⟨u,hu⟩: ∃u:Nat,b.A=u:=⟨b.A.toNat,by omega⟩;obtain⟨w,hw⟩: ∃w:Nat,b.B=w:=⟨b.B.toNat,by omega⟩;have ak:u<k:=by omega
   have ah:w<k:=by omega
   have bg:=Q9 i3 u;have bh:=Q9 i3 w;simp only[hu,hw,AH];refine⟨by omega,by omega,ak,?_⟩;simp(disch:=omega)only[ZA,simprocAttr,AL,Rg,Af ak,PH];have hH: ∀(e Z:Ent) (i:Nat),i<k->hget ((2000,e)::(2,Z)::hdel (grH 1000 L k) [2000]) (1000+i)=some (grE 1000 L i):=by
    intro e Z i z;have h9:=EO 1000 k L i z;simp (disch:=omega) only[hget,A7,AM,I2,J2,J7,G3,B1,Bp,h9]
   refine⟨by omega,Ud (nx:=2001) i2 (by omega) i3 ak (by decide) (hH _ _) (λU=> ?_)⟩;simp(disch:=omega)only[ZA,simprocAttr,AL,IW,Rg,Af ah,PH];refine⟨by omega,ah,ah,by omega,Af (.inl (by omega)),Ud (nx:=2001) i2 (by omega) i3 ah (by decide) (hH _ _) (λU2=> ?_)⟩;obtain⟨x,hx⟩: ∃x,x=Cd L u:=⟨_,rfl⟩;obtain⟨y,hy⟩: ∃y,y=Cd L w:=⟨_,rfl⟩;rw[<-hx] at bg⊢;rw[<-hy] at bh⊢;have gx:=EO 1000 k L x (by omega);have gy:=EO 1000 k L y (by omega);simp only[grE] at gx gy;simp(disch:=omega)only[ZA,simprocAttr,sub,Aq,AL,IC,A7,FU,gx,gy,JD (show 1000+x<2001 by omega),JD (show 1000+y<2001 by omega)];have a9:Cd L x=x:=by rw[hx];exact SL i3 u
   have ba:Cd L y=y:=by rw[hy];exact SL i3 w
   have ou:=i4 u ak;have ow:=i4 w ah;rw[<-hx] at ou;rw[<-hy] at ow;have hS:ownK k bs (j+1)=(ownK k bs j).map (E4 (x:Int) (y:Int)):=by
    simp only[ownK,hb,OR,hu,hw,AH,ou,ow,Ao]
   have ac: ∀(p q:Nat),p<q->q<k-> ∀(i:Nat),i<k->grE 1000 (L.set q (p:Int)) i=if i=q then (true,.cells 369 [.ptr (1000+p) 0,.im (.int .i64 q)]) else grE 1000 L i:=by
    intro p q az hq i z;simp only[grE];by_cases h:i=q
    .subst h;rw[Af rfl,BA (by omega),Ao];simp only[ldV];rw[Af ⟨by omega,by omega⟩,AH]
    .rw[Ab h,BM (Co h)]
   have af: ∀(p q:Nat),p<q->q<k-> ∀(e Z:Ent) (tm:List (Nat×AV)),subH ⟨tm,(1000+q,(true,.cells 369 [.ptr (1000+p) 0,.im (.int .i64 q)]))::(2000,e)::(2,Z)::hdel (hdel (grH 1000 L k) [2000]) [1000+q],2001⟩ (grH 1000 (L.set q (p:Int)) k):=by
    intro p q az hq e Z tm;refine OT λi z=> ?_
    rw[ac p q az hq i z];by_cases h:i=q
    .subst h;simp only[hget,P6,Bc,AQ]
    .rw[Ab h];have h9:=EO 1000 k L i z;simp (disch:=omega) only[hget,A7,AM,FU,h9]
   refine⟨λai=>⟨⟨(j+1,L.set y (x:Int)),by simp only;omega,by simp only[Cr];exact i2,TQ i3 ai,λi z=> ?_⟩,by simp only;omega,by rw[Am (by omega) (by omega)];simp only;omega,af x y ai (by omega) _ _ _⟩,λai=>⟨λaj=>⟨⟨(j+1,L.set x (y:Int)),by simp only;omega,by simp only[Cr];exact i2,TQ i3 aj,λi z=> ?_⟩,by simp only;omega,by rw[Am (by omega) (by omega)];simp only;omega,af y x aj (by omega) _ _ _⟩,λaj=>⟨⟨(j+1,L),by simp only;omega,i2,i3,λi z=> ?_⟩,by simp only;omega,by rw[Am (by omega) (by omega)];simp only;omega,?_⟩⟩⟩
   .rw[hS,BI,i4 i z,Bw,Wq i3 a9 ba ai (by omega) i,(join_lt ai _).1]
   .rw[hS,BI,i4 i z,Bw,Wq i3 ba a9 aj (by omega) i,(join_lt aj _).2]
   .rw[hS,BI,i4 i z,Bw,show y=x by omega,join_eq]
   .refine OT λi z=> ?_
    have h9:=EO 1000 k L i z;simp (disch:=omega) only[hget,A7,AM,FU,h9]
  .have bb:j=bs.length:=by omega
   subst bb;obtain⟨own,hown⟩: ∃own,own=ownK k bs bs.length:=⟨_,rfl⟩;rw[<-hown] at i4;intro _;refine Au.ren ⟨{s:Nat×List (Int×Int)//s.1<=k/\Pe (AI own s.1 s.1) s.2},λs=>gI k L s.1.1 s.1.2 (AI own s.1.1 s.1.1),λs=>k - s.1.1,λs=>⟨?_,by simp[gI]⟩,⟨⟨(0,[]),by simp only;omega,?_⟩,[(2100,some 2000)],?_⟩,λs=> ?_⟩
   .have ab:=O2 own s.1.1 s.1.1;have hs:=s.2.1;exact gI_good (by omega) (by omega)
   .exact⟨λr v h=>(by cases h),λg r am h=>(by simp[AI] at h)⟩
   .refine U1 (O:=2000) (T:=λq=>3000+q) (by omega) (by simp[AI]) ⟨by omega,trivial⟩ rfl rfl (λj hj=> ?_) rfl (λq hq=>(by simp[AI] at hq)) rfl rfl rfl rfl rfl rfl rfl (λj hj=> ?_) (.inl ⟨rfl,rfl⟩) (λq hq=>(by simp[AI] at hq)) (λq q' hq=>(by simp[AI] at hq)) (λq hq=>(by simp[AI] at hq)) (by omega)
    .simp only[pm];rw[Ab (by omega)]
    .have h9:=EO 1000 k L j hj;simp (disch:=omega) only[hget,A7,AM,h9]
   obtain⟨⟨i,M⟩,q1,q2⟩:=s;simp only at q1 q2;simp only[gI];have an:=O2 own i i;simp(disch:=omega)only[ZA,simprocAttr,Aq,AL,IW];refine⟨λz=>⟨z,z,?_⟩,λz=> ?_⟩
   .simp(disch:=omega)only[ZA,simprocAttr,AL,Rg,Af z];have hH: ∀(e1 Z e3:Ent) (j:Nat),j<k->hget ((2001,e1)::(2100,Z)::(2,e3)::(grH 1000 L k++gpsH 3000 (AI own i i))) (1000+j)=some (grE 1000 L j):=by
     intro e1 Z e3 j hj;have h9:=Q3 k L (AI own i i) j hj;simp (disch:=omega) only[hget,A7,AM,h9]
    have ho:=i4 i z;obtain⟨r,hr⟩: ∃r,r=Cd L i:=⟨_,rfl⟩;have be:r<=i:=by rw[hr];exact Q9 i3 i
    have bf:own[r]? =some (r:Int):=by
     have:=i4 r (by omega)
     rwa [hr,SL i3 i,<-hr] at this
    rw[<-hr] at ho;have gr:=Q3 k L (AI own i i) r (by omega);simp only[grE] at gr;refine⟨by omega,by omega,by omega,Ud (nx:=4000) i2 (by omega) i3 z (by omega) (hH _ _ _) (λU=> ?_)⟩;rw[<-hr];simp(disch:=omega)only[ZA,simprocAttr,IC,AL,Eo,A7,gr,lkVC_ii,JD (show 1000+r<4000 by omega)];refine⟨λv hv=> ?_,λhn=> ?_⟩
    .obtain⟨g,am,rfl,hg⟩:=q2.a _ v hv;have ab:=(Ba.1 hg).1;have an:=O2 own i i;have gg:=Q5 k L (AI own i i) g (by omega) ab;rw[hg,Ao] at gg;simp(disch:=omega)only[ZA,simprocAttr,IC,AL,Eo,A7,gg,Ux];obtain⟨e1,Z⟩:=grps_old q2 ho hg;obtain⟨G,hG⟩: ∃G,G=AI own i i:=⟨_,rfl⟩;rw[<-hG] at hg ab an e1 gg⊢;have ac:(B4 3000 G.length).set g [AV.own 4001]=(List.range G.length).map λq=>[AV.own (if q=g then 4001 else 3000+q)]:=by
      apply EY;intro j;rw[BI];by_cases hj:j<G.length
      .rw[Ee hj];by_cases h:g=j
       .subst h;rw[BA (by rw[Eo];exact ab)];simp
       .rw[BM h,Tb _ _ _ hj,Bw,Ab (Co h)]
      .rw[CH (by simp[Eo];omega),CH (by simp;omega)];rfl
     refine⟨ab,ab,by omega,?_,by omega,?_,ab,ab,?_,⟨(i+1,M),by simp only;omega,Z⟩,[(3000+g,some 4001)],by simp only;omega,?_⟩
     .intro row Q;obtain rfl:=AO.1 Q;rfl
     .have h6:(r::am:List Int).length<=1000:=BK (by rw[hG] at hg;exact Xv own i i _ (Ax hg)) (by omega);simp only[Bs] at h6;omega
     .rw[BE];intro row Q;rcases IQ Q with hr|hr
      .exact BE.1 (I0 3000 G.length 4002 (by omega)) row hr
      .subst hr;simp[belL,AV.bel]
     have pn: ∀m,m≠3000+g->pm [(3000+g,some 4001)] m=some m:=by intro m hm;simp only[pm];rw[Ab (Co hm)]
     simp only[e1];rw[Am (by omega) (by omega)];have hh: ∀(e1 Z e3 e4 e5:Ent) (m:Nat),hget ((2100,e1)::(4001,Z)::(4000,e3)::(2001,e4)::(2,e5)::hdel (hdel (grH 1000 L k++gpsH 3000 G) [3000+g]) [2100]) m=if m=2100 then some e1 else if m=4001 then some Z else if m=4000 then some e3 else if m=2001 then some e4 else if m=2 then some e5 else if m=3000+g then none else hget (grH 1000 L k++gpsH 3000 G) m:=by
      intro e1 Z e3 e4 e5 m;simp only[hget,I2,J2,J7,G3,G4,Vc];by_cases h1:m=2100
      .subst h1;simp
      by_cases h2:m=4001
      .subst h2;simp
      by_cases h3:m=4000
      .subst h3;simp
      by_cases h4:m=2001
      .subst h4;simp
      by_cases h5:m=2
      .subst h5;simp
      simp only[Ab h1,Ab h2,Ab h3,Ab h4,Ab h5,Ab (Co h1),Ab (Co h2),Ab (Co h3),Ab (Co h4),Ab (Co h5)]
     refine U1 (O:=2100) (T:=λq=>if q=g then 4001 else 3000+q) (by omega) (by rw[Cr];omega) ⟨by omega,trivial⟩ (pn _ (by omega)) (pn _ (by omega)) (λj hj=>pn _ (by omega)) (pn _ (by omega)) (λq hq=> ?_) rfl rfl rfl rfl rfl ?_ ?_ (λj hj=> ?_) (.inr ?_) (λq hq=> ?_) (λq q' hq=> ?_) (λq hq=> ?_) (by omega)
     .by_cases h:q=g
      .subst h;simp[pm]
      .rw[pn _ (by omega),Ab h]
     .rw[hh];rfl
     .rw[hh];rfl
     .rw[hh,Ab (by omega),Ab (by omega),Ab (by omega),Ab (by omega),Ab (by omega),Ab (by omega)];exact Q3 _ _ _ _ hj
     .rw[hh,Af rfl,ac,Cr]
     .rw[Cr] at hq;rw[hh];by_cases h:q=g
      .subst h;rw[Af rfl,Ab (by omega),Af rfl,BA ab,Ao];simp[intC]
      .rw[Ab h,Ab (by omega),Ab (by omega),Ab (by omega),Ab (by omega),Ab (by omega),Ab (by omega),BM (Co h)];exact Q5 _ _ _ _ (by omega) hq
     .rw[Cr] at hq;intro as he;rw[Cr] at as;by_cases h:q=g<;>by_cases h2:q'=g<;>simp only[h,h2,AQ,Bp] at he⊢ <;>omega
     .rw[Cr] at hq;by_cases h:q=g<;>simp only[h,AQ,Bp]<;>omega
    .obtain⟨a8,e1,Z⟩:=grps_new q2 ho be bf hn;have Q:(B4 3000 (AI own i i).length++[[AV.im (D.sl true 0 [])]])[(AI own i i).length]? =some [AV.im (D.sl true 0 [])]:=by
      rw[C8 (by rw[Eo];exact Ar _),Eo,D3];rfl
     have au: ∀N,4000<=N->(B4 3000 (AI own i i).length++[[AV.im (D.sl true 0 [])]]).all (belL N)=true:=by
      intro N hN;rw[P7,I0 _ _ _ (by omega)];rfl
     intro _;refine⟨?_,by omega,au _ (by omega),by simp[Eo],by simp[Eo],E0 Q ?_⟩
     .intro row Q;obtain rfl:=AO.1 Q;rfl
     have ac:(B4 3000 (AI own i i).length++[[AV.im (D.sl true 0 [])]]).set (AI own i i).length [AV.own 4003]=B4 3000 (AI own i i).length++[[AV.own 4003]]:=by
      have: ∀(l:List (List AV)) n x y,l.length=n->(l++[x]).set n y=l++[y]:=by
       intro l n x y h;subst h;rw[Mx _ _ (Ar _),D3];rfl
      exact this _ _ _ _ (Eo _ _)
     have ao: ∀N,4003<N->(B4 3000 (AI own i i).length++[[AV.own 4003]]).all (belL N)=true:=by
      intro N hN;rw[P7,I0 _ _ _ (by omega)];simp[belL,AV.bel];omega
     simp(disch:=omega)only[ZA,simprocAttr,AL];refine⟨?_,by simp[Eo],by simp[Eo],E0 Q ?_⟩
     .intro row Q;obtain rfl:=AO.1 Q;rfl
     simp(disch:=omega)only[ZA,simprocAttr,AL,A7,ac];refine⟨ao _ (by omega),⟨(i+1,M++[((i:Int),((AI own i i).length:Int))]),by simp only;omega,by simp only;exact Z⟩,[(2100,some 4001),(3000+(AI own i i).length,some 4003)],by simp only;omega,?_⟩;simp only[e1];obtain⟨G,hG⟩: ∃G,G=AI own i i:=⟨_,rfl⟩;simp only[<-hG] at an⊢;rw[Am (by omega) (by omega)];have pn: ∀m,m≠2100->m≠3000+G.length->pm [(2100,some 4001),(3000+G.length,some 4003)] m=some m:=by intro m hm ag;simp only[pm];rw[Ab (Co hm),Ab (Co ag)]
     have hh: ∀(e1 Z e3 e4 e5 e6:Ent) (m:Nat),hget ((4001,e1)::(4003,Z)::(4002,e3)::(4000,e4)::(2001,e5)::(2,e6)::hdel (hdel (hdel (grH 1000 L k++gpsH 3000 G) [2001]) [2100]) [4001]) m=if m=4001 then some e1 else if m=4003 then some Z else if m=4002 then some e3 else if m=4000 then some e4 else if m=2001 then some e5 else if m=2 then some e6 else if m=2100 then none else hget (grH 1000 L k++gpsH 3000 G) m:=by
      intro e1 Z e3 e4 e5 e6 m;simp only[hget,I2,J2,J7,G3,G4,Vc];by_cases h1:m=4001
      .subst h1;simp
      by_cases h2:m=4003
      .subst h2;simp
      by_cases h3:m=4002
      .subst h3;simp
      by_cases h4:m=4000
      .subst h4;simp
      by_cases h5:m=2001
      .subst h5;simp
      by_cases h6:m=2
      .subst h6;simp
      simp only[Ab h1,Ab h2,Ab h3,Ab h4,Ab h5,Ab h6,Ab (Co h1),Ab (Co h2),Ab (Co h3),Ab (Co h4),Ab (Co h5),Ab (Co h6)]
     have aa:(G++[[(i:Int)]]).length=G.length+1:=by simp
     refine U1 (O:=4001) (T:=λq=>if q<G.length then 3000+q else 4003) (by omega) (by rw[aa];omega) ⟨by omega,by omega,trivial⟩ (pn _ (by omega) (by omega)) (pn _ (by omega) (by omega)) (λj hj=>pn _ (by omega) (by omega)) (by simp[pm]) (λq hq=> ?_) rfl rfl rfl rfl rfl ?_ ?_ (λj hj=> ?_) (.inr ?_) (λq hq=> ?_) (λq q' hq=> ?_) (λq hq=> ?_) (by omega)
     .rw[aa] at hq;by_cases h:q<G.length
      .rw[pn _ (by omega) (by omega),Af h]
      .obtain rfl:q=G.length:=by omega
       rw[Ab h];simp only[pm];rw[Ab (by omega),Af trivial]
     .rw[hh,<-a8,<-upd_mII _ _ _ hn];rfl
     .rw[hh];rfl
     .rw[hh,Ab (by omega),Ab (by omega),Ab (by omega),Ab (by omega),Ab (by omega),Ab (by omega),Ab (by omega)];exact Q3 _ _ _ _ hj
     .rw[hh,Af rfl,SB,aa]
     .rw[aa] at hq;rw[hh];by_cases h:q<G.length
      .rw[Af h,Ab (by omega),Ab (by omega),Ab (by omega),Ab (by omega),Ab (by omega),Ab (by omega),Ab (by omega),Ci h];exact Q5 _ _ _ _ (by omega) h
      .obtain rfl:q=G.length:=by omega
       rw[Ab h,Ab (by omega),Af rfl,C8 (Ar _),D3];rfl
     .rw[aa] at hq;intro as he;rw[aa] at as;by_cases h:q<G.length<;>by_cases h2:q'<G.length<;>simp only[h,h2,AQ,Bp] at he⊢ <;>omega
     .by_cases h:q<G.length<;>simp only[h,AQ,Bp]<;>omega
   .have ad:i=k:=by omega
    subst ad;rw[Ht,AH,<-hown];rw[cvt_rowsF (m:=7) (G:=AI own i i)]
    .simp(disch:=omega)only[ZZ,simprocAttr]
    .intro q hq;have h9:=Q5 i L (AI own i i) q (by omega) hq;simp (disch:=omega) only[hget,A7,AM,h9]
def Dq(nm:List Int):List Bond->List Bond
 |[]=>[]
 |b::r=>if nmOf nm b.A=nmOf nm b.B then Dq nm r else ⟨nmOf nm b.A,nmOf nm b.B,b.Strength⟩::Dq nm r
def Xd(nm:List Int): ∀(a b:List Bond),Dq nm (a++b)=Dq nm a++Dq nm b
 |[],b=>rfl
 |x::r,b=>by simp only[Bv,Dq,Xd nm r b];split<;>rfl
def Ts(nm:List Int): ∀(a:List Bond),(Dq nm a).length<=a.length
 |[]=>Ar _
 |x::r=>by have:=Ts nm r;simp only[Dq];split<;>simp only[Bs]<;>omega
def RS(nm:List Int){bs:List Bond}{k:Nat}{b:Bond}(h:bs[k]? =some b):Dq nm (bs.take (k+1))=Dq nm (bs.take k)++if nmOf nm b.A=nmOf nm b.B then [] else [⟨nmOf nm b.A,nmOf nm b.B,b.Strength⟩]:=by
 rw[Ec,h];simp only[PE,Xd,Dq]
def conN(n:Int)(bs:List Bond)(t:Int):Int×List Bond:=((FV n bs t).length,Dq (Hd n.toNat (FV n bs t)) bs)
def dlC.H0_dom(a:List Bond×Int)(j:Nat):domB (dlC.H0 a) j=true↔j<1:=by
 simp only[domB,dlC.H0,hget];by_cases h0:j=0
 .subst h0;simp
 .have z:(0==j)=false:=by simp;omega
  simp[z];omega
def contr.fv(a:Int×(List Bond)×Int):Int×(List Bond):=(conN) (a.1) (a.2.1) (a.2.2)
def contr.row:Row:=vK (b3 qI (qS Bond.d_le Bond.c_n) qI) (r2 rI (rS Bond.d_le Bond.c_n)) (λa=>0<=a.1/\a.1<=512/\Fh a.1 a.2.1/\a.2.1.length<=1000000) contr.fv
def contr.q:=vKq (R:=contr.row) rfl
def contr.ok:Ak Tryz.prog 245 contr.row:=by
 refine vw (tC clobC.ok (tC dlC.ok (tC groupsBy_.ok tN))) Tryz.func245 rfl (by kernel_rfl) ?_;intro a ac;simp only[Tryz.f245];simp(disch:=omega)only[ZA,simprocAttr,contr.fv];obtain⟨h0,h1,O,G⟩:=ac;obtain⟨n,hn⟩: ∃n:Nat,a.1=n:=⟨a.1.toNat,by omega⟩;obtain⟨bs,hbsd⟩: ∃bs,bs=a.2.1:=⟨_,rfl⟩;obtain⟨t,ht⟩: ∃t,t=a.2.2:=⟨_,rfl⟩;simp only[hn,<-hbsd,<-ht] at h0 h1 O G⊢;refine orow.os bs [] G (λj=>by simp[domB,hget]) rfl rfl ?_ ?_
 .simp(disch:=omega)only[ZA,simprocAttr,clobC.ca,Bu]
 simp(disch:=omega)only[ZA,simprocAttr,clobC.H1];left;refine orow.os (bs,t) [2] G (λj=>dlC.H0_dom _ j) rfl rfl ?_ ?_
 .simp(disch:=omega)only[ZA,simprocAttr,dlC.ca,dlC.H0,B8]
 simp(disch:=omega)only[ZA,simprocAttr,groupsBy_.q,groupsBy_.fv,dlC.H1];have Q:grpPre ((n:Int),Dc t bs):=⟨by simp only;omega,by simp only;omega,λb hb=>O b (IR.1 hb).1,by have:=SJ t bs;simp only;omega⟩;refine⟨Q,by omega,?_⟩;obtain⟨z,hgs⟩: ∃z,z=Ht (n:Int) (Dc t bs):=⟨_,rfl⟩;have ag: ∀r∈z,∀v∈r,0<=v/\v<n:=by rw[hgs];exact VR n _
 simp only[<-hgs];intro an;refine Au.old ⟨{i:Nat//i<=z.length},λi=>⟨[(27,.im (.int .i64 i.1)),(26,.im (.int .i64 z.length)),(25,.im (.sl false 1 (z.map Bo))),(9,.own 1022),(8,.im (.sl false 1 (z.map Bo))),(1,.im (.sl false 3 (bs.map Bond.c)))],[(1022,(true,.arr 2 1 ((ES z (List.replicate n 0) i.1).map intC)))],1023⟩,λi=>z.length - i.1,λi=>⟨by simp[Ac.good,belT,belH,Ai,AV.bel],by simp⟩,⟨⟨0,by simp⟩,?_⟩,λi=> ?_⟩
 .simp(disch:=omega)only[ZA,simprocAttr,sub,ES,Pa]
 obtain⟨i,ao⟩:=i;simp(disch:=omega)only[ZZ,simprocAttr,Aq];refine⟨λhi=>⟨hi,λr hr=> ?_⟩,λhi=> ?_⟩
 .have aj:=ag r (Ax hr);obtain⟨l,hl⟩: ∃l,l=ES z (List.replicate n 0) i:=⟨_,rfl⟩;have aq:l.length=n:=by rw[hl,O5,Gb]
  simp only[<-hl];intro as;refine Au.old ⟨{k:Nat//k<=r.length},λk=>⟨[(34,.im (.int .i64 k.1)),(33,.im (.int .i64 r.length)),(32,.im (.sl false 1 (r.map intC))),(10,.im (.int .i64 i)),(27,.im (.int .i64 i)),(26,.im (.int .i64 z.length)),(25,.im (.sl false 1 (z.map Bo))),(9,.own 1022),(8,.im (.sl false 1 (z.map Bo))),(1,.im (.sl false 3 (bs.map Bond.c)))],[(1022,(true,.arr 2 1 ((Gu i r l k.1).map intC)))],1023⟩,λk=>r.length - k.1,λk=>⟨by simp[Ac.good,belT,belH,Ai,AV.bel],by simp⟩,⟨⟨0,by simp⟩,?_⟩,λk=> ?_⟩
  .simp(disch:=omega)only[ZA,simprocAttr,sub,Gu]
  obtain⟨k,ai⟩:=k;have ab:=Ql (i:Int) r l k;simp(disch:=omega)only[ZA,simprocAttr,sub,Aq,ab,K4];refine⟨λhk=>⟨hk,λv hv=> ?_⟩,λhk=> ?_⟩
  .obtain⟨v1,v2⟩:=aj v (Ax hv);refine⟨v1,by omega,by omega,λ_ _=>⟨⟨k+1,by omega⟩,by simp only;omega,by rw[Am (by omega) (by omega)];simp only;omega,?_⟩⟩;simp only[Gu,hv,Ao]
  .have:k=r.length:=by omega
   refine⟨⟨i+1,by omega⟩,by simp only;omega,by rw[Am (by omega) (by omega)];simp only;omega,?_⟩;simp only[ES,hr,Ao,<-hl,this]
 .have ah:i=z.length:=by omega
  subst ah;obtain⟨nm,hnm⟩: ∃nm,nm=ES z (List.replicate n 0) z.length:=⟨_,rfl⟩;have ab:nm.length=n:=by rw[hnm,O5,Gb]
  simp only[<-hnm];intro am;refine Au.ren ⟨{k:Nat//k<=bs.length},λk=>⟨[(46,.im (.int .i64 k.1)),(45,.im (.int .i64 bs.length)),(44,.im (.sl false 3 (bs.map Bond.c))),(14,.own 1024),(9,.own 1022),(8,.im (.sl false 1 (z.map Bo)))],[(1024,(true,.arr 318 3 ((Dq nm (bs.take k.1)).map Bond.c))),(1022,(true,.arr 2 1 (nm.map intC)))],1025⟩,λk=>bs.length - k.1,λk=>⟨by simp[Ac.good,belT,belH,Ai,AV.bel],by simp⟩,⟨⟨0,by simp⟩,[(1024,some 1023)],?_⟩,λk=> ?_⟩
  .simp only[subP];simp(disch:=omega)only[ZA,simprocAttr,AC];rfl
  obtain⟨k,ai⟩:=k;have ak:=Ts nm (bs.take k);rw[Bb] at ak;simp(disch:=omega)only[ZA,simprocAttr,Aq,FI,FE,allD,D.one];refine⟨λhk=>⟨hk,λb hb=> ?_⟩,λhk=> ?_⟩
  .obtain⟨b1,b2,b3,b4⟩:=O b (Ax hb);refine⟨b1,by omega,by omega,λx hx=>⟨b3,by omega,by omega,λy hy=> ?_⟩⟩;have e1:nmOf nm b.A=x:=by simp only[nmOf,hx,Ao]
   have e2:nmOf nm b.B=y:=by simp only[nmOf,hy,Ao]
   have Z:=RS nm hb;rw[e1,e2] at Z;refine⟨λaa=>⟨b1,by omega,by omega,λx' ad=>⟨b3,by omega,by omega,λy' af=>⟨by omega,⟨k+1,by omega⟩,[(1024,some 1027)],by simp only;omega,?_⟩⟩⟩,λaa=>⟨⟨k+1,by omega⟩,[],by simp only;omega,?_⟩⟩
   .rw[hx] at ad;rw[hy] at af;obtain rfl:=Al ad;obtain rfl:=Al af;simp only[subP];simp(disch:=omega)only[ZA,simprocAttr,AC,Z];rw[Am (by omega) (by omega),Ab aa];simp[Bond.c]
   .simp only[subP];simp(disch:=omega)only[ZA,simprocAttr,AC,Z];rw[Am (by omega) (by omega),Af (Df.1 aa),BJ];simp
  .have:k=bs.length:=by omega
   subst this;rw[Dh];intro _;simp only[conN,FV,Hd,AH,<-hgs,<-hnm]
end Go.Ae
