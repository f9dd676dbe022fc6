/- Lemmas. Conditions: none. -/
import Derived.Test.YtelbgmfdnnljoaaGreatDoorP09
set_option linter.all false
set_option maxHeartbeats 8000000
set_option maxRecDepth 100000
namespace Go.Ae
open Go.Proofs
def EP(l:List Int):Nat->List Int
 |0=>l
 |i+1=>((EP l i).set i ((EP l i)[l.length - 1 - i]?.getD 0)).set (l.length - 1 - i) ((EP l i)[i]?.getD 0)
def wD(l:List Int): ∀i,(EP l i).length=l.length
 |0=>rfl
 |i+1=>by simp only[EP,Fy,wD l i]
def lH(l:List Int): ∀i,2*i<=l.length-> ∀k,k<l.length->(EP l i)[k]? =if k<i\/l.length - i<=k then l[l.length - 1 - k]? else l[k]?
 |0,_,k,Q=>by simp only[EP];rw[Af (by omega)]
 |i+1,hi,k,Q=>by
  have ih:=lH l i (by omega);have Z:=wD l i;have g1:(EP l i)[l.length - 1 - i]?.getD 0=l[l.length - 1 - i]?.getD 0:=by rw[ih _ (by omega),Af (by omega)]
  have g2:(EP l i)[i]?.getD 0=l[i]?.getD 0:=by rw[ih _ (by omega),Af (by omega)]
  have gd: ∀j,j<l.length->some (l[j]?.getD 0)=l[j]? :=λj hj=>by rw[B2 hj];rfl
  rw[EP,g1,g2];by_cases z:l.length - 1 - i=k
  .subst z;rw[DC (by rw[Fy,Z];omega),Ai (by omega),gd _ (by omega)];congr 1;omega
  .rw[DL z];by_cases G:i=k
   .subst G;rw[DC (by rw[Z];omega),Ai (by omega),gd _ (by omega)]
   .rw[DL G,ih k Q];by_cases O:k<i\/l.length - i<=k
    .rw[Ai O,Ai (by omega)]
    .rw[Af O,Af (by omega)]
def TB(l:List Int){i:Nat}(G:2*i<=l.length)(O:l.length<=2*i+1):EP l i=l.reverse:=by
 apply QI;intro k;by_cases z:k<l.length
 .rw[lH l i G k z,ZeT z];by_cases h:k<i\/l.length - i<=k
  .rw[Ai h]
  .rw[Af h];congr 1;omega
 .rw[HB (by rw[wD];omega),HB (by rw[jD];omega)]
def bP(l:List Int)(i:Nat)(x:Int):(l.map Ak).set i [.int .i64 x]=(l.set i x).map Ak:=by rw[Vm];rfl
def revC.ca(_:List Int):List AV:=[.own 0]
def revC.H0(a:List Int):Ao:=[(0,(true,.arr 3 1 (a.map Ak)))]
def revC.H1(a:List Int):Ao:=[(0,(true,.arr 3 1 (a.reverse.map Ak)))]
def revC.row:AE:=AL revC.ca revC.H0 1 (λ_=>True) (λj=>j==0) (λ_=> .im (.tup [])) revC.H1 0
def revC.ok:AI 188 revC.row:=by
 refine ow tN Tryz.func188 (exB:=λ_=>false) (R:=λ_ r=>r= .im (.tup [])) (λ_=>rfl)
  (λa=>by simp[revC.ca,revC.H0,revC.H1,AD,AV.bel,Av,BB,BU,Ac.nms,Aw,AV.nms,Aj,hget]) (λa p hp=> ?_) (λa r h=>by subst h;exact Dh.refl _) ?_
 rotate_left
 intro a Q;simp only[Tryz.f188,Option.getD,revC.ca,revC.H0,revC.H1];simp only[ZZ,simprocAttr,Ab,Ax,revC.ca,revC.H0,revC.H1];intro aa;rw[AA (by omega) (by omega)];refine AY.old ⟨{i:Nat//2*i<=a.length},λi=>⟨[(2,.im (.int .i64 i.1)),(3,.im (.int .i64 ((a.length:Int) - 1 - i.1))),(0,.own 0)],[(0,(true,.arr 3 1 ((EP a i.1).map Ak)))],1⟩,λi=>a.length - i.1,λi=>⟨by simp[ZG],by simp⟩,⟨⟨0,by simp⟩,?_⟩,λi=> ?_⟩
 .simp only[ZZ,simprocAttr,Ab,Ax,revC.ca,revC.H0,revC.H1,sub];exact⟨by omega,by rw[EP]⟩
 obtain⟨i,Z⟩:=i;have O:=wD a i;simp only[ZZ,simprocAttr,Ab,Ax,revC.ca,revC.H0,revC.H1,sub,AO,O,bP,Fy];refine⟨λG=>⟨by omega,by omega,by omega,λx hx=>⟨by omega,by omega,λy hy=>⟨by omega,by omega,λz hz=>⟨by omega,by omega,by omega,λu hu=> ?_⟩⟩⟩⟩,λG=> ?_⟩
 .refine⟨⟨i+1,by omega⟩,by simp only;omega,?_⟩;have w1:IntKind.i64.wrap ((a.length:Int) - 1 - i - 1)=(a.length:Int) - 1 - i - 1:=AA (by omega) (by omega);have w2:IntKind.i64.wrap ((i:Int)+1)=(i:Int)+1:=AA (by omega) (by omega);simp only[w1,w2];refine⟨⟨by omega,by omega⟩,?_⟩;simp only[EP];rw[show a.length - 1 - i=((a.length:Int) - 1 - i).toNat by omega,hx,hy];rfl
 .rw[TB a Z (by omega)]
 simp[revC.H1] at hp;subst hp;exact .inl ⟨by omega,rfl,rfl⟩
def clonC.ca(a:List Al):List AV:=[.im (.sl false 3 (a.map Al.c))]
def clonC.H1(a:List Al):Ao:=[(0,(true,.arr 89 3 (a.map Al.c)))]
def clonC.row:AE:=AL clonC.ca (λ_=>[]) 0 (λa=>a.length<=1000000) (λ_=>false) (λ_=> .own 0) clonC.H1 20
def clonC.ok:AI 88 clonC.row:=by
 refine Td tN Tryz.func88 (exB:=λj=>j==0) (R:=λ_ r=>r= .own 0) (λ_=>rfl)
  (λa=>by simp[clonC.ca,clonC.H1,AD,AV.bel,Av,BB,BU,Ac.nms,Aw,AV.nms,Aj,hget]) (λa p hp=> ?_) (λa r h=>by subst h;exact Dh.refl _) ?_
 rotate_left
 intro a z;simp only[Tryz.f88,Option.getD,clonC.ca,clonC.H1];simp only[ZZ,simprocAttr,Ab,Br,Ax,clonC.ca,clonC.H1];intro b G;split
 .rename_i h;have h0:=G h;refine⟨[],[(0,some 1)],⟨[(2,.own 0)],clonC.H1 a,1⟩,?_,by simp[clonC.H1,ZG],by simp,?_⟩
  .simp only[Ar,clonC.H1,h0];simp only[ZZ,simprocAttr,Ab,Br,Ax,clonC.ca,clonC.H1,AS,AR]
  .simp only[ZZ,simprocAttr,Ab,Br,Ax,clonC.ca,clonC.H1]
 .refine⟨by omega,[],[(0,some 2)],⟨[(2,.own 0)],clonC.H1 a,1⟩,?_,by simp[clonC.H1,ZG],by simp,?_⟩
  .simp only[Ar,clonC.H1];simp only[ZZ,simprocAttr,Ab,Br,Ax,clonC.ca,clonC.H1,AS,AR]
  .simp only[ZZ,simprocAttr,Ab,Br,Ax,clonC.ca,clonC.H1]
 simp[clonC.H1] at hp;subst hp;exact .inr ⟨by omega,by omega,rfl,rfl⟩
def clobC.ca(a:List Ag):List AV:=[.im (.sl false 3 (a.map Ag.c))]
def clobC.H1(a:List Ag):Ao:=[(0,(true,.arr 160 3 (a.map Ag.c)))]
def clobC.row:AE:=AL clobC.ca (λ_=>[]) 0 (λa=>a.length<=1000000) (λ_=>false) (λ_=> .own 0) clobC.H1 20
def clobC.ok:AI 144 clobC.row:=by
 refine Td tN Tryz.func144 (exB:=λj=>j==0) (R:=λ_ r=>r= .own 0) (λ_=>rfl)
  (λa=>by simp[clobC.ca,clobC.H1,AD,AV.bel,Av,BB,BU,Ac.nms,Aw,AV.nms,Aj,hget]) (λa p hp=> ?_) (λa r h=>by subst h;exact Dh.refl _) ?_
 rotate_left
 intro a z;simp only[Tryz.f144,Option.getD,clobC.ca,clobC.H1];simp only[ZZ,simprocAttr,Ab,Br,Ax,clobC.ca,clobC.H1];intro b G;split
 .rename_i h;have h0:=G h;refine⟨[],[(0,some 1)],⟨[(2,.own 0)],clobC.H1 a,1⟩,?_,by simp[clobC.H1,ZG],by simp,?_⟩
  .simp only[Ar,clobC.H1,h0];simp only[ZZ,simprocAttr,Ab,Br,Ax,clobC.ca,clobC.H1,AS,AR]
  .simp only[ZZ,simprocAttr,Ab,Br,Ax,clobC.ca,clobC.H1]
 .refine⟨by omega,[],[(0,some 2)],⟨[(2,.own 0)],clobC.H1 a,1⟩,?_,by simp[clobC.H1,ZG],by simp,?_⟩
  .simp only[Ar,clobC.H1];simp only[ZZ,simprocAttr,Ab,Br,Ax,clobC.ca,clobC.H1,AS,AR]
  .simp only[ZZ,simprocAttr,Ab,Br,Ax,clobC.ca,clobC.H1]
 simp[clobC.H1] at hp;subst hp;exact .inr ⟨by omega,by omega,rfl,rfl⟩
def freeC.fv(a:Be×Int×Int):Bool:=(Vc) (a.1) (a.2.1) (a.2.2)
def freeC.row:AE:=CG (b3 (qP 2 Be.d_le) qI qI) rB (λa=>Ke a.1 a.1.Room.length/\0<=a.2.1/\a.2.1<a.1.Room.length/\0<=a.2.2/\a.2.2<a.1.Room.length) freeC.fv
def freeC.q:=CH (R:=freeC.row) rfl
def freeC.ok:AI 187 freeC.row:=by
 refine Gy tN Tryz.func187 ?_;intro a z;simp only[Tryz.f187,Option.getD];simp only[ZZ,simprocAttr,Ab,freeC.fv,BS,D.sc,D.scs,BJ,AQ];obtain⟨G,O,h3,Q,Z⟩:=z;have hf:=G.f;refine⟨O,h3,λr hr=>⟨Q,by rw[G.rr r (Bf hr)];exact Z,λx hx=>⟨O,by omega,λs hs=>⟨Q,by rw[G.ff s (Bf hs)];exact Z,λy hy=> ?_⟩⟩⟩⟩;simp only[Vc,xZ,yI,hr,hs,hx,hy,AT]
def Y4:D->Option (List Int)
 | .sl true _ rows=>AU D0 rows
 | .sl false _ (r::rows)=>AU D0 (r::rows)
 |_=>none
def Y5: ∀d x,Y4 d=some x->Le d (.sl true 1 (x.map Ak)):=by
 intro d x h;unfold Y4 at h;split at h
 .rename_i k rows;have h1:=Gb (nz:=true) (k:=k) (FK GH _ _ h) (k':=1) (by simp[Ak]);intro ok hp v Q;have O:=h1 ok hp v Q;simp only[Ae.rd] at O Q⊢;rcases O with O|⟨b,p,cap,vs,T,fr,g1,g2,g3,g4,g5,g6,g7⟩
  .rcases Q with ⟨q1,G⟩|⟨b',p',z,aa,T',Z,q1,G,q3,q4,q5,q6,q7⟩
   .exact .inl ⟨q1,O.2⟩
   .obtain⟨ao,e⟩:=pH O.1;rw[e] at q1;simp only[Value.slice.injEq] at q1;exact absurd (Vi.1 q1.2.1.symm) (G trivial)
  .rcases Q with ⟨q1,G⟩|⟨b',p',z,aa,T',Z,q1,G,q3,q4,q5,q6,q7⟩
   .rw[wU q1] at g1;cases g1
   .refine .inr ⟨b,p,cap,vs,T,fr,g1,λ_ h0=> ?_,g3,g4,g5,g6,g7⟩;rw[q1] at g1;simp only[Value.slice.injEq] at g1;rw[h0,H9] at g1;exact G trivial (Vi.1 g1.2.1)
 .rename_i k r rows;have h1:=Gb (nz:=false) (k:=k) (FK GH _ _ h) (k':=1) (by simp[Ak]);intro ok hp v Q;have O:=h1 ok hp v Q;simp only[Ae.rd] at O Q⊢;rcases O with O|⟨b,p,cap,vs,T,fr,g1,g2,g3,g4,g5,g6,g7⟩
  .rcases Q with ⟨q1,G⟩|⟨b',p',z,aa,T',Z,q1,G,q3,q4,q5,q6,q7⟩
   .cases G
   .obtain⟨ao,e⟩:=pH O.1;rw[e] at q1;simp only[Value.slice.injEq,Dd] at q1;omega
  .rcases Q with ⟨q1,G⟩|⟨b',p',z,aa,T',Z,q1,G,q3,q4,q5,q6,q7⟩
   .cases G
   .refine .inr ⟨b,p,cap,vs,T,fr,g1,λ_ h0=> ?_,g3,g4,g5,g6,g7⟩;rw[q1] at g1;simp only[Value.slice.injEq,Dd] at g1;rw[h0,H9] at g1;omega
 .cases h
def pK(n:Nat)(x:Int):List.replicate n [D.int .i64 x]=(List.replicate n x).map Ak:=by rw[List.map_replicate];rfl
def UI{k:Nat}{l:List Int}(h:l≠[]):Y4 (.sl false k (l.map Ak))=some l:=by
 cases l with
 |nil=>exact absurd rfl h
 |cons x r=>exact iP (x::r)
def dI(v:Int):D:= .int .i64 v
def rept.H0_dom(a:Int×Int)(j:Nat):Aj (rept.H0 a) j=true↔j<1:=by
 simp only[Aj,rept.H0,hget];by_cases h0:j=0
 .subst h0;simp
 .have z:(0==j)=false:=by simp;omega
  simp[z];omega
def revC.H0_dom(a:List Int)(j:Nat):Aj (revC.H0 a) j=true↔j<1:=by
 simp only[Aj,revC.H0,hget];by_cases h0:j=0
 .subst h0;simp
 .have z:(0==j)=false:=by simp;omega
  simp[z];omega
def PY:Ve Tryz.prog 255=some 3:=by kernel_rfl
def wayC.rc:D->Option (List Int):=Y4
def wayC.re:(List Int)->D:=λb=>D.sl true 1 (b.map Ak)
def wayC.rle: ∀d b,wayC.rc d=some b->Le d (wayC.re b):=Y5
def wayC.fv(a:Be×Int×Int):List Int:=(λx p q=>Co x x.Room.length p q) (a.1) (a.2.1) (a.2.2)
def wayC.row:AE:=CG (b3 (qP 2 Be.d_le) qI qI) (RK.mk wayC.rc wayC.re wayC.rle) (λa=>Ke a.1 a.1.Room.length/\a.1.Room.length<=1000/\0<=a.2.1/\a.2.1<a.1.Room.length/\0<=a.2.2/\a.2.2<a.1.Room.length) wayC.fv
def wayC.q:=CH (R:=wayC.row) rfl
def PF:=J @wayC.fv.eq_1<|J @wayC.rc.eq_1<|J @freeC.q @freeC.fv.eq_1
def wayC.ok:AI 173 wayC.row:=by
 refine Gy (tC freeC.ok (tC rept.ok (tC revC.ok tN))) Tryz.func173 ?_;intro a ak;simp only[Tryz.f173,Option.getD];simp only[ZZ,simprocAttr,Ab,PF,BS,D.sc,D.scs,BJ,AQ];obtain⟨aj,hn,ad,af,am,ax⟩:=ak;obtain⟨x,hx⟩: ∃x,x=a.1:=⟨_,rfl⟩;obtain⟨p,hp⟩: ∃p,p=a.2.1:=⟨_,rfl⟩;obtain⟨q,hq⟩: ∃q,q=a.2.2:=⟨_,rfl⟩;obtain⟨n,hnn⟩: ∃n,n=x.Room.length:=⟨_,rfl⟩;simp only[<-hx,<-hp,<-hq,<-hnn] at aj hn ad af am ax⊢;intro bf;refine AL.os (-1,(n:Int)) [1] ⟨by simp only;omega,by simp only;omega⟩ (λj=>rept.H0_dom _ j) rfl rfl ?_ ?_
 .simp only[ZZ,simprocAttr,Ab,PF,BS,D.sc,D.scs,BJ,AQ,PY,rept.ca,rept.H0,B5,EF]
 simp only[ZZ,simprocAttr,Ab,PF,BS,D.sc,D.scs,BJ,AQ,PY,rept.H1,sub,Bj,NI,bP,pK];refine⟨by omega,by omega,ad,af,by omega,λ_ _=> ?_⟩;refine AY.old ⟨{k:Nat//k<=(CI x n p k).2.length},λk=>⟨[(9,.ch 22),(8,.own 2),(7,.im (.int .i64 n)),(0,.ptr 0 0),(1,.im (.int .i64 p)),(2,.im (.int .i64 q))],[(2,(true,.arr 3 1 ((CI x n p k.1).1.map Ak))),(22,(true,.chan (((CI x n p k.1).2.drop k.1).map dI) n)),(0,(false,.view [.sl false 1 (x.Room.map CK),.sl false 1 (x.Flow.map CK)]))],23⟩,λk=>n - k.1,λk=>⟨by simp[ZG],by simp⟩,⟨⟨0,by simp⟩,?_⟩,λk=> ?_⟩
 .simp only[ZZ,simprocAttr,Ab,PF,BS,D.sc,D.scs,BJ,AQ,PY,sub];simp[CI,dI]
 obtain⟨k,hk⟩:=k;have Z:=QA (x:=x) ad af k;have bg:=wS Z;simp only[ZZ,simprocAttr,Ab,PF,BS,D.sc,D.scs,BJ,AQ,PY,sub,AO,Gh,C6];refine⟨λav=> ?_,λav=> ?_⟩
 .have aw:k<(CI x n p k).2.length:=by omega
  obtain⟨u,hu⟩: ∃u,(CI x n p k).2[k]? =some u:=⟨_,B2 aw⟩;have a8:=Z.q u (Bf hu);rw[Hf hu];refine⟨by simp,λd r ag=> ?_⟩;simp only[Bb,Vj] at ag;obtain⟨rfl,rfl⟩:=ag;simp only[dI];obtain⟨s,hs⟩: ∃s,s=CI x n p k:=⟨_,rfl⟩;simp only[<-hs] at hu Z⊢;refine AY.old ⟨{i:Nat//i<=n},λi=>⟨[(36,.im (.int .i64 i.1)),(35,.im (.int .i64 n)),(10,.im (.int .i64 u)),(9,.ch 22),(8,.own 2),(7,.im (.int .i64 n)),(0,.ptr 0 0),(1,.im (.int .i64 p)),(2,.im (.int .i64 q))],[(2,(true,.arr 3 1 ((C9 x u s i.1).1.map Ak))),(22,(true,.chan (((C9 x u s i.1).2.drop (k+1)).map dI) n)),(0,(false,.view [.sl false 1 (x.Room.map CK),.sl false 1 (x.Flow.map CK)]))],23⟩,λi=>n - i.1,λi=>⟨by simp[ZG],by simp⟩,⟨⟨0,by simp⟩,?_⟩,λi=> ?_⟩
  .simp only[ZZ,simprocAttr,Ab,PF,BS,D.sc,D.scs,BJ,AQ,PY,sub,C9]
  obtain⟨i,hi⟩:=i;obtain⟨hQ,e,he⟩:=qK Z hu i hi;have a9:=wS hQ;have ay:=hQ.len;simp only[ZZ,simprocAttr,Ab,PF,BS,D.sc,D.scs,BJ,AQ,PY,sub,AO,Gh,C6,ay,bP];refine⟨λaq=>⟨by omega,by omega,λy hy=>⟨λO=>⟨⟨hnn▸aj,a8.1,by omega,by omega⟩,λhf=>⟨by omega,by omega,λy2 _=>⟨by omega,⟨i+1,by omega⟩,by simp only;omega,by rw[AA (by omega) (by omega)];simp only;omega,?_⟩⟩,λhf=>⟨⟨i+1,by omega⟩,by simp only;omega,by rw[AA (by omega) (by omega)];simp only;omega,?_⟩⟩,λO=>⟨⟨i+1,by omega⟩,by simp only;omega,by rw[AA (by omega) (by omega)];simp only;omega,?_⟩⟩⟩,λaq=> ?_⟩
  .have Q:C9 x u s (i+1)=((C9 x u s i).1.set i u,(C9 x u s i).2++[(i:Int)]):=by
    rw[C9,Ha,Ai ⟨by rw[hy,AT];exact O,hf⟩]
   have bd:=(Cu.1 hu).1;simp only[Q];refine⟨trivial,?_⟩;rw[Zdl (by rw[he,DZ];omega),En];rfl
  .have Q:C9 x u s (i+1)=C9 x u s i:=by
    rw[C9,Ha,Af (λh=>hf h.2)]
   simp only[Q];exact⟨trivial,trivial⟩
  .have Q:C9 x u s (i+1)=C9 x u s i:=by
    rw[C9,Ha,Af (λh=>O (by have:=h.1;rw[hy,AT] at this;exact this))]
   simp only[Q];exact⟨trivial,trivial⟩
  .have au:i=n:=by omega
   have Q:CI x n p (k+1)=C9 x u s i:=by rw[CI,<-hs,hu,au]
   refine⟨⟨k+1,by rw[Q,he,DZ];have:=(Cu.1 hu).1;omega⟩,by simp only;omega,?_⟩;simp only[Q];exact⟨trivial,trivial⟩
 .have be:(CI x n p k).2.length=k:=by omega
  have hE:CI x n p k=B4 x n p:=by
   have:=MZ x n p (n - k) k (by omega)
   rw[show k+(n - k)=n by omega] at this;exact this.symm
  have ai:=Z.len;refine⟨am,by omega,by omega,λy hy=>⟨λO=> ?_,λO=> ?_⟩⟩
  .simp only[Co,<-hE,hy,AT];rw[Ai O];rfl
  have az:q∈(CI x n p k).2:=by
   have:=(Z.mem q.toNat y hy).1 (by omega)
   rwa [show (q.toNat:Int)=q by omega] at this
  obtain⟨i,hi⟩:=Vo.1 az;obtain⟨d,ba,ab,aa⟩:=Qq3 Z hi;have bb:=(Cu.1 hi).1;have a0:pT (CI x n p k).1 p q n=d:=Qqr (by omega) ab aa;have hW:Co x n p q=(Ie (CI x n p k).1 q d).reverse:=by
   simp only[Co,<-hE,hy,AT];rw[Af O,a0]
  obtain⟨G,hpar⟩: ∃G,G=(CI x n p k).1:=⟨_,rfl⟩;simp only[<-hpar] at ai ab aa hW⊢;refine AY.ren ⟨{j:Nat//j<=d},λj=>⟨[(13,.im (.int .i64 (Dr G q j.1))),(12,.own 24),(8,.own 2),(1,.im (.int .i64 p))],[(24,(true,.arr 3 1 ((Ie G q j.1).map Ak))),(2,(true,.arr 3 1 (G.map Ak)))],25⟩,λj=>d - j.1,λj=>⟨by simp[ZG],by simp⟩,⟨⟨0,by omega⟩,[(24,some 23)],?_⟩,λj=> ?_⟩
  .simp only[Ar];simp only[ZZ,simprocAttr,Ab,PF,BS,D.sc,D.scs,BJ,AQ,PY,AS,AR];exact⟨rfl,rfl⟩
  obtain⟨j,hj⟩:=j;have ao:(Ie G q j).length=j+1:=by simp[Ie]
  simp only[ZZ,simprocAttr,Ab,PF,BS,D.sc,D.scs,BJ,AQ,PY,sub,AO,ao];refine⟨λac=> ?_,λac=> ?_⟩
  .have ah:j<d:=by
    rcases FB j d with h|h
    .exact h
    .exact absurd (by rw[show j=d by omega];exact ab) ac
   obtain⟨j2,g1,g2⟩:=oN Z hi j (λj' bc=>by rw[<-hpar];exact aa j' (by omega));rw[<-hpar] at g2;have an:=Z.q _ (Bf g2);refine⟨an.1,by omega,by omega,λz hz=>⟨by omega,⟨j+1,by omega⟩,[(24,some 26)],by simp only;omega,?_⟩⟩;have Q:Dr G q (j+1)=z:=by rw[Dr,hz,AT]
   have e2:Ie G q (j+1)=Ie G q j++[z]:=by
    simp only[Ie];rw[dS,En,Bb,BD,Q]
   simp only[Ar];simp only[ZZ,simprocAttr,Ab,PF,BS,D.sc,D.scs,BJ,AQ,PY,AS,AR,Q,e2,En]
  .have ah:j=d:=by
    have h1:=Gg.1 ac;rcases FB j d with h|h
    .exact absurd h1 (aa j h)
    .omega
   subst ah;refine AL.os (Ie G q j) [24] trivial (λi=>revC.H0_dom _ i) rfl rfl ?_ ?_
   .simp only[ZZ,simprocAttr,Ab,PF,BS,D.sc,D.scs,BJ,AQ,PY,revC.ca,revC.H0,B5,EF]
   .simp only[ZZ,simprocAttr,Ab,PF,BS,D.sc,D.scs,BJ,AQ,PY,revC.H1,sub,EF];rw[hW];exact UI (by simp[Ie])
def G9(t:Int)(bs:List Ag):List Ag:=bs.filter λb=>decide (t<=b.Strength)
def P9(g:Int)(r:List Int)(l:List Int):Nat->List Int
 |0=>l
 |k+1=>(P9 g r l k).set (r[k]?.getD 0).toNat g
def Kc(gs:List (List Int))(l:List Int):Nat->List Int
 |0=>l
 |i+1=>P9 i (gs[i]?.getD []) (Kc gs l i) (gs[i]?.getD []).length
def vH(g:Int)(r l:List Int): ∀k,(P9 g r l k).length=l.length
 |0=>rfl
 |k+1=>by simp only[P9,Fy,vH g r l k]
def oB(gs:List (List Int))(l:List Int): ∀i,(Kc gs l i).length=l.length
 |0=>rfl
 |i+1=>by simp only[Kc,vH,oB gs l i]
def QB(n:Nat)(gs:List (List Int)):List Int:=Kc gs (List.replicate n 0) gs.length
def BN(nm:List Int)(v:Int):Int:=nm[v.toNat]?.getD 0
def Hv(nm:List Int):List Ag->List Ag
 |[]=>[]
 |b::r=>if BN nm b.A=BN nm b.B then Hv nm r else ⟨EL (BN nm b.A) (BN nm b.B),Ei (BN nm b.A) (BN nm b.B),b.Strength⟩::Hv nm r
def Qp2(nm:List Int): ∀(a b:List Ag),Hv nm (a++b)=Hv nm a++Hv nm b
 |[],b=>rfl
 |x::r,b=>by simp only[BG,Hv,Qp2 nm r b];split<;>rfl
def Qjq(nm:List Int): ∀(a:List Ag),(Hv nm a).length<=a.length
 |[]=>AP _
 |x::r=>by have:=Qjq nm r;simp only[Hv];split<;>simp only[Dd]<;>omega
def Qln(t:Int)(bs:List Ag):(G9 t bs).length<=bs.length:=ZeV _ _
def Qjs(t:Int){bs:List Ag}{k:Nat}{b:Ag}(h:bs[k]? =some b):G9 t (bs.take (k+1))=G9 t (bs.take k)++if t<=b.Strength then [b] else []:=by
 rw[IA,h];simp only[G9,List.filter_append,yV,ZeL,List.filter_nil,Cy]
def lD(own:List Int)(i:Nat): ∀k,∀v∈CU own i k,(i:Int)<=v/\v<i+k
 |0,v,h=>by simp[CU] at h
 |k+1,v,h=>by
  simp only[CU,Bz] at h;rcases h with h|h
  .have:=lD own i k v h;omega
  .split at h
   .rw[BL] at h;omega
   .simp at h
def Qvq(own:List Int)(n:Nat): ∀k,k<=n-> ∀r∈BA own n k,∀v∈r,0<=v/\v<n
 |0,_,r,h,_,_=>by simp[BA] at h
 |k+1,G,r,h,v,z=>by
  simp only[BA,Bz] at h;rcases h with h|h
  .exact Qvq own n k (by omega) r h v z
  .split at h
   .rw[BL] at h;subst h
    have:=lD own k (n - k) v z
    omega
   .simp at h
def Qps(n:Nat)(bs:List Ag): ∀r∈UU (n:Int) bs,∀v∈r,0<=v/\v<n:=by
 intro r z v G
 have:=Qvq (Ce n bs bs.length) n n (AP _) r (by simpa[UU] using z) v G
 omega
def Qvc(nm:List Int){bs:List Ag}{k:Nat}{b:Ag}(h:bs[k]? =some b):Hv nm (bs.take (k+1))=Hv nm (bs.take k)++if BN nm b.A=BN nm b.B then [] else [⟨EL (BN nm b.A) (BN nm b.B),Ei (BN nm b.A) (BN nm b.B),b.Strength⟩]:=by
 rw[IA,h];simp only[yV,Qp2,Hv]
def N5(n:Int)(bs:List Ag)(t:Int):List (List Int):=UU n (G9 t bs)
def Cf(n:Int)(bs:List Ag)(t:Int):Int×List Ag:=((N5 n bs t).length,Hv (QB n.toNat (N5 n bs t)) bs)
def shrunk.fv(a:Int×(List Ag)×Int):Int×(List Ag):=(Cf) (a.1) (a.2.1) (a.2.2)
def shrunk.row:AE:=vK (b3 qI (qS Ag.d_le Ag.c_n) qI) (r2 rI (rS Ag.d_le Ag.c_n)) (λa=>0<=a.1/\a.1<=1000000/\KW a.1 a.2.1/\a.2.1.length<=1000000) shrunk.fv
def shrunk.q:=Bg (R:=shrunk.row) rfl
def NH:=J @shrunk.fv.eq_1<|J @l06Groups.q<|J @l06Groups.fv.eq_1<|J @l00Min.q<|J @l00Min.fv.eq_1<|J @l00Max.q @l00Max.fv.eq_1
def shrunk.ok:AI 77 shrunk.row:=by
 refine vw (tC l06Groups.ok (tC l00Min.ok (tC l00Max.ok tN))) Tryz.func77 ?_;intro a ah;simp only[Tryz.f77,Option.getD];simp only[ZZ,simprocAttr,Ab,NH];obtain⟨h0,h1,aa,ai⟩:=ah;obtain⟨n,hn⟩: ∃n:Nat,a.1=n:=⟨a.1.toNat,by omega⟩;obtain⟨bs,hbsd⟩: ∃bs,bs=a.2.1:=⟨_,rfl⟩;obtain⟨t,ht⟩: ∃t,t=a.2.2:=⟨_,rfl⟩;simp only[hn,<-hbsd,<-ht] at h0 h1 aa ai⊢;refine AY.ren ⟨{k:Nat//k<=bs.length},λk=>⟨[(9,.im (.int .i64 k.1)),(8,.own 2),(0,.im (.int .i64 n)),(1,.im (.sl false 3 (bs.map Ag.c))),(2,.im (.int .i64 t))],[(2,(true,.arr 160 3 ((G9 t (bs.take k.1)).map Ag.c)))],3⟩,λk=>bs.length - k.1,λk=>⟨by simp[ZG],by simp⟩,⟨⟨0,by simp⟩,[(2,some 1)],?_⟩,λk=> ?_⟩
 .simp only[Ar];simp only[ZZ,simprocAttr,Ab,NH,AS,AR];rfl
 obtain⟨k,ab⟩:=k;have Z:=Qln t (bs.take k);rw[Ck] at Z;simp only[ZZ,simprocAttr,Ab,NH,sub,AO,VE,V7,VD,Bo,D.one,Ep,E8,NL];intro _;refine⟨λO=>⟨O,λb Q=>⟨λhs=>⟨O,λb' z=>⟨by omega,⟨k+1,by omega⟩,[(2,some 4)],by simp only;omega,?_⟩⟩,λhs=>⟨⟨k+1,by omega⟩,[(2,some 2)],by simp only;omega,?_⟩⟩⟩,λO=> ?_⟩
 .rw[Q] at z;obtain rfl:=AB z;simp only[Ar];simp only[ZZ,simprocAttr,Ab,NH,AS,AR,Qjs t Q];rw[AA (by omega) (by omega),Ai hs];simp[Ag.c]
 .simp only[Ar];simp only[ZZ,simprocAttr,Ab,NH,AS,AR,Qjs t Q];rw[AA (by omega) (by omega),Af hs,D6];simp
 have am:k=bs.length:=by omega
 subst am;rw[IB];refine⟨⟨h1,λb Q=>aa b (jL.1 Q).1⟩,by omega,?_⟩;obtain⟨G,hgs⟩: ∃G,G=UU (n:Int) (G9 t bs):=⟨_,rfl⟩;have aj: ∀r∈G,∀v∈r,0<=v/\v<n:=by rw[hgs];exact Qps n _
 simp only[<-hgs];clear O Z ab;refine AY.old ⟨{i:Nat//i<=G.length},λi=>⟨[(12,.im (.int .i64 i.1)),(11,.own 3),(10,.im (.sl false 1 (G.map CK))),(0,.im (.int .i64 n)),(1,.im (.sl false 3 (bs.map Ag.c))),(2,.im (.int .i64 t))],[(3,(true,.arr 2 1 ((Kc G (List.replicate n 0) i.1).map Ak)))],4⟩,λi=>G.length - i.1,λi=>⟨by simp[ZG],by simp⟩,⟨⟨0,by simp⟩,?_⟩,λi=> ?_⟩
 .simp only[ZZ,simprocAttr,Ab,NH,sub,Kc,pK]
 obtain⟨i,aq⟩:=i;simp only[ZZ,simprocAttr,Ab,NH,sub,AO];intro ao;refine⟨λhi=> ?_,λhi=> ?_⟩
 .obtain⟨r,hr⟩: ∃r,G[i]? =some r:=⟨_,B2 hi⟩;have an:=aj r (Bf hr);obtain⟨l,hl⟩: ∃l,l=Kc G (List.replicate n 0) i:=⟨_,rfl⟩;have au:l.length=n:=by rw[hl,oB,NI]
  simp only[<-hl];refine AY.old ⟨{k:Nat//k<=r.length},λk=>⟨[(13,.im (.int .i64 k.1)),(12,.im (.int .i64 i)),(11,.own 3),(10,.im (.sl false 1 (G.map CK))),(0,.im (.int .i64 n)),(1,.im (.sl false 3 (bs.map Ag.c))),(2,.im (.int .i64 t))],[(3,(true,.arr 2 1 ((P9 i r l k.1).map Ak)))],4⟩,λk=>r.length - k.1,λk=>⟨by simp[ZG],by simp⟩,⟨⟨0,by simp⟩,?_⟩,λk=> ?_⟩
  .simp only[ZZ,simprocAttr,Ab,NH,sub,P9]
  obtain⟨k,ab⟩:=k;have ag:=vH (i:Int) r l k;simp only[ZZ,simprocAttr,Ab,NH,sub,AO,hr,ag,bP];refine⟨hi,λr' ac av=> ?_⟩;subst ac;refine⟨λO=>⟨hi,λr' ac=> ?_⟩,λO=>⟨⟨i+1,by omega⟩,by simp only;omega,by rw[AA (by omega) (by omega)];simp only;omega,?_⟩⟩
  .subst ac;refine⟨O,λv hv=> ?_⟩;obtain⟨v1,v2⟩:=an v (Bf hv);refine⟨v1,by omega,by omega,λ_ _=>⟨⟨k+1,by omega⟩,by simp only;omega,by rw[AA (by omega) (by omega)];simp only;omega,?_⟩⟩;simp only[P9,hv,AT]
  .have:k=r.length:=by omega
   simp only[Kc,hr,AT,<-hl,this]
 .have ak:i=G.length:=by omega
  subst ak;obtain⟨nm,hnm⟩: ∃nm,nm=Kc G (List.replicate n 0) G.length:=⟨_,rfl⟩;have ag:nm.length=n:=by rw[hnm,oB,NI]
  simp only[<-hnm];refine AY.ren ⟨{k:Nat//k<=bs.length},λk=>⟨[(15,.im (.int .i64 k.1)),(14,.own 5),(11,.own 3),(10,.im (.sl false 1 (G.map CK))),(0,.im (.int .i64 n)),(1,.im (.sl false 3 (bs.map Ag.c))),(2,.im (.int .i64 t))],[(5,(true,.arr 160 3 ((Hv nm (bs.take k.1)).map Ag.c))),(3,(true,.arr 2 1 (nm.map Ak)))],6⟩,λk=>bs.length - k.1,λk=>⟨by simp[ZG],by simp⟩,⟨⟨0,by simp⟩,[(5,some 4)],?_⟩,λk=> ?_⟩
  .simp only[Ar];simp only[ZZ,simprocAttr,Ab,NH,AS,AR];rfl
  obtain⟨k,ab⟩:=k;have Z:=Qjq nm (bs.take k);rw[Ck] at Z;simp only[ZZ,simprocAttr,Ab,NH,sub,AO,VE,V7,VD,Bo,D.one,Ep,E8,NL];intro _;refine⟨λO=>⟨O,λb Q=> ?_⟩,λO=> ?_⟩
  .obtain⟨b1,b2,b3,b4⟩:=aa b (Bf Q);refine⟨b1,by omega,by omega,λx hx=>⟨O,λb' z=> ?_⟩⟩;rw[Q] at z;obtain rfl:=AB z;refine⟨b3,by omega,by omega,λy hy=> ?_⟩;have e1:BN nm b.A=x:=by simp only[BN,hx,AT]
   have e2:BN nm b.B=y:=by simp only[BN,hy,AT]
   have ad:=Qvc nm Q;rw[e1,e2] at ad;refine⟨λaf=>⟨O,λb' z=>⟨by omega,⟨k+1,by omega⟩,[(5,some 7)],by simp only;omega,?_⟩⟩,λaf=>⟨⟨k+1,by omega⟩,[(5,some 5)],by simp only;omega,?_⟩⟩
   .rw[Q] at z;obtain rfl:=AB z;simp only[Ar];simp only[ZZ,simprocAttr,Ab,NH,AS,AR,ad];rw[AA (by omega) (by omega),Af af];simp[Ag.c]
   .simp only[Ar];simp only[ZZ,simprocAttr,Ab,NH,AS,AR,ad];rw[AA (by omega) (by omega),Ai (Gg.1 af),D6];simp
  .have:k=bs.length:=by omega
   subst this;rw[IB];intro _;simp only[Cf,N5,QB,Bj,<-hgs,<-hnm]
def Qk5(s:Au): ∀(l:List Ad) (i:Nat),KR s i l=true-> ∀g∈l,1<=g.Strength/\g.Strength<=4
 |[],_,_,_,h=>by cases h
 |x::r,i,h,g,z=>by
  simp only[KR,AW,Bw,Cy] at h;rcases Bt.1 z with rfl|z
  .exact⟨h.1.2.1.1,h.1.2.1.2⟩
  .exact Qk5 s r _ h.2 g z
def Qlf(s:Au): ∀(l:List Tile) (i:Nat),Ju s i l=true-> ∀t∈l,t.Sides.length=4/\ ∀g∈t.Sides,0<=g/\g<=s.Glues.length
 |[],_,_,_,h=>by cases h
 |x::r,i,h,t,z=>by
  simp only[Ju,AW,Cy,CM,Bw] at h;rcases Bt.1 z with rfl|z
  .exact⟨h.1.2.1,λg G=>⟨(h.1.2.2.2 g G).1,(h.1.2.2.2 g G).2⟩⟩
  .exact Qlf s r _ h.2 t z
def nL{s:Au}(h:El s=true):CY s:=by
 simp only[El,AW,Cy] at h;exact⟨by omega,Qlf s _ _ h.2.2,Qk5 s _ _ h.2.1⟩
def Qdg{s:Au}{a:A9}(h:Hw s a=true):Ll s a/\a.Tiles.length<=500:=by
 simp only[Hw,AW,Cy,CM,Bw] at h;exact⟨⟨h.1.1,λx z=>⟨(h.2 x z).1,by have:=(h.2 x z).2;omega⟩⟩,h.1.2⟩
def Yl(p:A7)(d:Int):UV p d≠p:=by
 intro h;have G:(UV p d).X=p.X:=by rw[h]
 have z:(UV p d).Y=p.Y:=by rw[h]
 simp only[UV] at G z;split at G
 .rename_i h0;rw[Ai h0] at z;simp only at z;omega
 .rename_i h0;rw[Af h0] at z;split at G
  .simp only at G;omega
  .rename_i O;rw[Af O] at z;split at G
   .rename_i Q;rw[Ai Q] at z;simp only at z;omega
   .simp only at G;omega
def eS(a:A9)(i:Nat)(d:Int)(Z:i<a.Tiles.length):GW a i d≠i:=by
 intro h;rcases nH (λx=>decide (x.At=UV ((a.Tiles[(i:Int).toNat]?.map Al.At).getD ⟨0,0⟩) d)) a.Tiles 0 with ⟨_,z⟩|⟨j,x,O,z,Q⟩
 .simp only[GW,z] at h;omega
 .simp only[GW,z,FC] at h;have G:j=i:=by omega
  subst G
  have:=rG O
  simp only[Cy,Bj,Q,D7,AT] at this;exact Yl _ _ this.symm
def Kr(n:Int)(b:Ag):Prop:=(0<=b.A/\b.A<n/\0<=b.B/\b.B<n)/\b.A≠b.B/\0<b.Strength/\b.Strength<=4
def WG{s:Au}(hs:CY s)(a:A9)(i:Nat)(hi:i<a.Tiles.length)(d:Int): ∀b∈Wv s a i d,Kr a.Tiles.length b:=by
 intro b z;simp only[Wv] at z;split at z
 .rename_i h0;split at z
  .rename_i G;rw[BL] at z;subst z;have O:=K7 a i d;have Q:=eS a i d hi;have Z:UX s (G1 a i) d (G1 a (GW a i d))<=4:=by
    simp only[UX];split
    .exact (Ov hs _).2
    .omega
   exact⟨⟨by simp only;omega,by simp only;omega,h0,O⟩,λh=>Q h.symm,G,Z⟩
  .simp at z
 .simp at z
def Qzz{s:Au}(hs:CY s)(a:A9)(i:Nat)(z:i<a.Tiles.length): ∀k,∀b∈JY s a i k,Kr a.Tiles.length b
 |0,b,h=>by simp[JY] at h
 |k+1,b,h=>by
  simp only[JY,Bz] at h;rcases h with h|h
  .exact Qzz hs a i z k b h
  .exact WG hs a i z _ b h
def xA{s:Au}(hs:CY s)(a:A9): ∀k,k<=a.Tiles.length-> ∀b∈F6 s a k,Kr a.Tiles.length b
 |0,_,b,h=>by simp[F6] at h
 |k+1,z,b,h=>by
  simp only[F6,Bz] at h;rcases h with h|h
  .exact xA hs a k (by omega) b h
  .exact Qzz hs a k (by omega) _ b h
def Mj(g:Int)(r:List Int)(m:Int)(h0:0<=g)(O:g<m)(l:List Int)(G: ∀x∈l,0<=x/\x<m): ∀k,∀x∈P9 g r l k,0<=x/\x<m
 |0=>G
 |k+1=>by
  intro x z;simp only[P9] at z;rcases W5 z with z|z
  .exact Mj g r m h0 O l G k x z
  .omega
def Mi(gs:List (List Int))(l:List Int)(z: ∀x∈l,0<=x/\x<(gs.length:Int)): ∀i,i<=gs.length-> ∀x∈Kc gs l i,0<=x/\x<(gs.length:Int)
 |0,_=>z
 |i+1,G=>Mj _ _ _ (by omega) (by omega) _ (Mi gs l z i (by omega)) _
def xY{n:Nat}{gs:List (List Int)}(G:0<gs.length)(v:Int):0<=BN (QB n gs) v/\BN (QB n gs) v<(gs.length:Int):=by
 simp only[BN];cases h:(QB n gs)[v.toNat]? with
 |none=>simp;omega
 |some x=>
  rw[AT];exact Mi gs _ (λx z=>by have:=NJ z;omega) _ (AP _) x (Bf h)
def Qvw{n:Nat}{gs:List (List Int)}(z:0<gs.length): ∀(bs:List Ag),(∀b∈bs,0<b.Strength/\b.Strength<=4)-> ∀b∈Hv (QB n gs) bs,Kr gs.length b
 |[],_,b,h=>by simp[Hv] at h
 |x::r,O,b,h=>by
  simp only[Hv] at h;have ih:=Qvw (n:=n) z r (λy Z=>O y (BK _ Z)) b;split at h
  .exact ih h
  .rename_i Q;rcases Bt.1 h with rfl|h
   .have h1:=xY (n:=n) z x.A;have h2:=xY (n:=n) z x.B;have G:=O x (BQ ..);refine⟨?_,?_,G.1,G.2⟩
    .simp only[EL,Ei]
     split<;>split<;>omega
    .simp only[EL,Ei]
     split<;>split<;>omega
   .exact ih h
def ME{n:Int}{bs:List Ag}{t:Int}(O: ∀b∈bs,Kr n b)(hl:bs.length<=1000000)(h0:0<(Cf n bs t).1)(Z:(Cf n bs t).1<=64):YI (Cf n bs t)/\P8 (Cf n bs t).2:=by
 have G:=Qvw (n:=n.toNat) (gs:=N5 n bs t) (by simp only[Cf] at h0;omega) bs (λb z=>⟨(O b z).2.2.1,(O b z).2.2.2⟩);have Q:=Qjq (QB n.toNat (N5 n bs t)) bs;refine⟨⟨by omega,by omega,by simp only[Cf];omega,λb z=>(G b z).1,λb z=>(G b z).2.1⟩,λb z=> ?_⟩
 have:=(G b z).2.2
 omega
def cZ(s:Au)(a:A9)(t:Int):Bool×Int:=
 if 64<(Cf a.Tiles.length (F6 s a a.Tiles.length) t).1 then (false,4)
 else if (Cf a.Tiles.length (F6 s a a.Tiles.length) t).1<2 then (true,0)
 else (decide (t<=(F7 (Cf a.Tiles.length (F6 s a a.Tiles.length) t).1 (Cf a.Tiles.length (F6 s a a.Tiles.length) t).2 ((Cf a.Tiles.length (F6 s a a.Tiles.length) t).1 - 1).toNat).1),0)
def l07Stable.fv(a:Au×A9×Int):Bool×Int:=(cZ) (a.1) (a.2.1) (a.2.2)
def l07Stable.row:AE:=vK (b3 (qP 2 Au.d_le) (qP 1 A9.d_le) qI) (r2 rB rI) (λa=>CY a.1/\Ll a.1 a.2.1/\a.2.1.Tiles.length<=500) l07Stable.fv
def l07Stable.q:=Bg (R:=l07Stable.row) rfl
def l07Stable.ok:AI 39 l07Stable.row:=by
 refine vw (tC l06Bonds.ok (tC shrunk.ok (tC weakC.ok tN))) Tryz.func39 ?_;intro a z;simp only[Tryz.f39,Option.getD];simp only[ZZ,simprocAttr,Ab,l07Stable.fv,l06Bonds.q,l06Bonds.fv,shrunk.q,shrunk.fv,weakC.q,weakC.fv];obtain⟨G,Q,h3⟩:=z;have O:=xA G a.2.1 _ (AP _);have hl:=nS a.1 a.2.1 a.2.1.Tiles.length;refine⟨⟨G,Q,by omega⟩,⟨by omega,λb Z=>(O b Z).1,by omega⟩,?_⟩;simp only[cZ];split
 .rfl
 .rename_i c1;split
  .rfl
  .rename_i c2;obtain⟨p1,p2⟩:=ME (t:=a.2.2) O (by omega) (by omega) (by omega);exact⟨⟨p1,p2,by omega⟩,rfl⟩
def Uu(s:Au)(a:A9)(t:Int):Bool:=(cZ s a t).1 && decide ((cZ s a t).2=0)
def Ih(y:AF):Bool:=El y.Set && (Hw y.Set y.Seed && (!y.Seed.Tiles.isEmpty && (Bw y.Temperature 1 16 && Uu y.Set y.Seed y.Temperature)))
def l08Ok.fv(a:AF):Bool:=(Ih) a
def l08Ok.row:AE:=vK (b1 (qP 4 AF.d_le)) rB (λa=>True) l08Ok.fv
def l08Ok.q:=Bg (R:=l08Ok.row) rfl
def l08Ok.ok:AI 13 l08Ok.row:=by
 refine vw (tC l02Ok.ok (tC l03Ok.ok (tC l07Temperature.ok (tC l07Stable.ok tN)))) Tryz.func13 ?_;intro a aa;simp only[Tryz.f13,Option.getD];simp only[ZZ,simprocAttr,Ab,l08Ok.fv,l02Ok.q,l02Ok.fv,l03Ok.q,l03Ok.fv,l07Temperature.q,l07Temperature.fv,l07Stable.q,l07Stable.fv]
 split<;>rename_i c1
 .split<;>rename_i c2
  .have z:Hw a.Set a.Seed=true:=by
    simp only[Hw,AW,Cy];exact c2
   split<;>rename_i G
   .have O:a.Seed.Tiles.isEmpty=false:=by
     rw[ZeD];intro h;rw[h] at G;simp at G
    split<;>rename_i Q
    .simp only[Ih,Q,FP,Zn]
    .refine⟨⟨nL c1,(Qdg z).1,(Qdg z).2⟩,?_⟩;rw[Kj] at Q;simp only[Ih,c1,z,O,Q,Ew,W6,Uu]
     split<;>rename_i Z
     .rw[Z,Ew]
     .rw[jJ] at Z;rw[Z,FP]
   .have O:a.Seed.Tiles=[]:=by
     have:=Gg.1 G
     exact rD (by omega)
    simp[Ih,O]
  .have z:Hw a.Set a.Seed=false:=by
    rw[PJ];intro h;simp only[Hw,AW,Cy] at h;exact c2 h
   simp[Ih,z]
 .rw[jJ] at c1;simp[Ih,c1]
def Dc(b n:Nat):List (List AV):=(List.range n).map λi=>[AV.own (b+i)]
def B9(b n:Nat)(M:List (List Int)):Ao:=AG b n (λi=>(true,.arr 2 1 ((M[i]?.getD []).map Ak)))
def FE(j:Nat):Bool:=Nat.blt j 3||((Nat.ble 100 j && Nat.blt j 164)||(Nat.ble 200 j && Nat.blt j 264))
def C3(x:Be)(n:Nat):Ao:=(0,(true,.cells 238 [.own 1,.own 2]))::(1,(true,.arrA 95 1 (Dc 100 n)))::(2,(true,.arrA 95 1 (Dc 200 n)))::(B9 100 n x.Room++B9 200 n x.Flow)
def nwC.ca(a:Int×List Ag):List AV:=[.im (.int .i64 a.1),.im (.sl false 3 (a.2.map Ag.c))]
def nwC.H1(a:Int×List Ag):Ao:=C3 (D2 a.1.toNat a.2) (min a.1.toNat 64)
def Mo(a:Int×List Ag):Prop:=0<=a.1/\a.1<=64/\a.2.length<=1000000/\KW a.1 a.2/\P8 a.2/\ ∀b∈a.2,b.A≠b.B
def nwC.row:AE:=AL nwC.ca (λ_=>[]) 0 Mo (λ_=>false) (λ_=> .ptr 0 0) nwC.H1 320
def iH(m:Nat): ∀(a b:Ao),Av m (a++b)=(Av m a && Av m b)
 |[],b=>by simp[Av]
 |(i,(z,e))::r,b=>by
  have ih:=iH m r b;cases e<;>simp only[BG,Av,ih,jM]
def vX(m:Nat): ∀(a b:Ao),BB m (a++b)=(BB m a && BB m b)
 |[],b=>by simp[BB]
 |(i,(z,e))::r,b=>by simp only[BG,BB,vX m r b,jM]
def VX(b n N:Nat)(h:b+n<=N):(Dc b n).all (AD N)=true:=by
 rw[CM];intro r G;obtain⟨i,z,rfl⟩:=Bn.1 G
 have:=Bk.1 z
 simp[AD,AV.bel];omega
def oK(nx:Nat): ∀(l:List Nat),Gs nx 0 l=true
 |[]=>rfl
 |x::r=>by
  have:(Nat.blt x nx||Nat.ble (nx+0) x)=true:=by
   rw[H8,Ed,Gi];omega
  simp only[Gs,this,oK nx r,dT]
def Hu(b n:Nat):(Dc b n).length=n:=by simp[Dc]
def Qo7(b n i:Nat)(h:i<n):(Dc b n)[i]? =some [.own (b+i)]:=by simp[Dc,FN h]
def Qpf(a b:Ao):Fc (a++b)=Fc a++Fc b:=by
 induction a with
 |nil=>rfl
 |cons x r ih=>obtain⟨i,e⟩:=x;simp only[BG,Fc,ih]
def PB(m:Nat): ∀(a b:Ao),hget (a++b) m=(hget a m).or (hget b m)
 |[],b=>by simp[hget]
 |(i,e)::r,b=>by
  have ih:=PB m r b;simp only[BG,hget];cases i==m<;>simp[ih]
def Qpw(b n:Nat)(M:List (List Int))(i:Nat)(h:i<n):hget (B9 b n M) (b+i)=some (true,.arr 2 1 ((M[i]?.getD []).map Ak)):=DY _ _ _ _ h
def Qwa(b n:Nat)(M:List (List Int))(m:Nat)(h:m<b\/b+n<=m):hget (B9 b n M) m=none:=vY _ _ _ _ h
def bS(k:Nat)(M N:List (List Int))(i:Nat)(h:i<k):hget (B9 100 k M++B9 200 k N) (100+i)=some (true,.arr 2 1 ((M[i]?.getD []).map Ak)):=by
 rw[PB,Qpw _ _ _ _ h];rfl
def bX(k:Nat)(M N:List (List Int))(i:Nat)(z:k<=100)(h:i<k):hget (B9 100 k M++B9 200 k N) (200+i)=some (true,.arr 2 1 ((N[i]?.getD []).map Ak)):=by
 rw[PB,Qwa _ _ _ _ (by omega),Qpw _ _ _ _ h];rfl
def Qxa(b n i:Nat)(K:List AV->Prop)(h:i<n):Jx (Dc b n) i K=K [.own (b+i)]:=by
 apply propext;unfold Jx;rw[Qo7 b n i h];exact⟨λh=>h _ rfl,λh row z=>by obtain rfl:=AB z;exact h⟩
def cA(s:Az): ∀(a b:Ao),BZ s (a++b)=(BZ s a/\BZ s b)
 |[],b=>by simp[BZ]
 |(i,e)::r,b=>by simp only[BG,BZ,cA s r b,jQ]
def oU(s:Az)(b n:Nat)(M:List (List Int)):BZ s (B9 b n M)= ∀i,i<n->hget s.h (b+i)=some (true,.arr 2 1 ((M[i]?.getD []).map Ak)):=by
 have: ∀(f:Nat->Am) (l:List Nat),BZ s (l.map λi=>(b+i,f i))↔ ∀i∈l,hget s.h (b+i)=some (f i):=by
  intro f l;induction l with
  |nil=>simp[BZ]
  |cons i r ih=>simp only[Bb,BZ,ih,Bt,zL]
 apply propext;rw[B9,AG,this];simp only[Bk]
def wZ{n:Nat}{bs:List Ag}(G:KW n bs)(hs:P8 bs)(a b:Nat): ∀k,0<=DI (BT n bs k) a b/\DI (BT n bs k) a b<=2000000*(k:Int)
 |0=>by
  simp only[DI,BT,K8,GK,Lh];split
  .rw[AT,Lh];split<;>simp
  .simp
 |k+1=>by
  have ih:=wZ G hs a b k;obtain⟨z,_⟩:=Wi G k;simp only[DI,BT] at ih⊢;split
  .rename_i x O;obtain⟨b1,b2,b3,b4⟩:=G x (Bf O);have h0:=hs x (Bf O);simp only[Ko];rw[show x.A=(x.A.toNat:Int) by omega,show x.B=(x.B.toNat:Int) by omega];rw[bQ (n:=n) (by rw[YA];exact z.r) (Y7 z.rr _ _ _ (by rw[z.r];simp;omega)) _ (by omega) (by omega),bQ z.r z.rr _ (by omega) (by omega)]
   split<;>split<;>omega
  .omega
def SP(k:Nat)(O:k<=64):([0,1,2]++((List.range k).map (100+ ·)++(List.range k).map (200+ ·))).Nodup:=by
 rw[<-J0];refine bT _ 200 k (bT _ 100 k (by simp) (by simp)) ?_;intro x z;rcases Bz.1 z with z|z
 .simp at z;omega
 .obtain⟨i,G,rfl⟩:=Bn.1 z
  have:=Bk.1 G
  show 100+i<200;omega
def SO(k:Nat)(O:k<=64): ∀x∈([0,1,2]++((List.range k).map (100+ ·)++(List.range k).map (200+ ·))),x<300:=by
 intro x z;rcases Bz.1 z with z|z
 .simp at z;omega
 .rcases Bz.1 z with z|z<;>obtain⟨i,G,rfl⟩:=Bn.1 z<;>have:=Bk.1 G
  .show 100+i<300;omega
  .show 200+i<300;omega
def Qyn{π:List (Nat×Option Nat)}{b:Nat}{g:Nat->Nat}{n:Nat}(h: ∀i,i<n->pm π (b+i)=some (g i)){R:List (List AV)}(hR:R=(List.range n).map λi=>[AV.own (g i)]):FQ π (Dc b n) R:=by
 subst hR;rw[Wp];refine⟨by simp[Dc],λi x y G O=> ?_⟩;have z:i<n:=by have:=(Cu.1 G).1;rwa [Hu] at this
 rw[Qo7 _ _ _ z] at G;rw[Dt,FN z] at O;obtain rfl:=AB G;obtain rfl:=AB O;simp only[Dp,mt,h i z,EO,E8]
def Ql0(b k c:Nat):Dc b k++[[.own c]]=(List.range (k+1)).map λi=>[AV.own (if i<k then b+i else c)]:=by
 rw[dS,En,Dc];congr 1
 .exact Ii λi z=>by rw[Ai (Bk.1 z)]
 .simp
def pL(k:Nat)(M N:List (List Int))(G:k<=64)(tm:List (Nat×AV))(z:Cp 300 tm=true):Az.good ⟨tm,(0,(true,.cells 238 [.own 1,.own 2]))::(1,(true,.arrA 95 1 (Dc 100 k)))::(2,(true,.arrA 95 1 (Dc 200 k)))::(B9 100 k M++B9 200 k N),300⟩=true:=by
 simp only[Az.good,Av,BB,z,Ew,iH,vX,B9];rw[N9 _ _ _ (λi=>rfl),N9 _ _ _ (λi=>rfl),N6 _ _ _ _ (by omega),N6 _ _ _ _ (by omega),VX _ _ _ (by omega),VX _ _ _ (by omega)];rfl
def Kz(o:Nat)(h:FE o=true):o<264:=by
 simp only[FE,H8,AW,Ed,Gi] at h;omega
def Zt(i:Nat)(h:i<64):FE (100+i)=true:=by
 simp only[FE,H8,AW,Ed,Gi];omega
def Zu(i:Nat)(h:i<64):FE (200+i)=true:=by
 simp only[FE,H8,AW,Ed,Gi];omega
def Quc(h:Nat->Option Am)(f:AV->Option AV): ∀(a b:Ao),E5 h f (a++b)↔E5 h f a/\E5 h f b
 |[],b=>by simp[E5]
 |(i,e)::r,b=>by simp only[BG,E5,Quc h f r b,jQ]
def Qoq(h:Nat->Option Am)(f:AV->Option AV)(b n:Nat)(M:List (List Int))(H: ∀i,i<n->h (b+i)=some (true,.arr 2 1 ((M[i]?.getD []).map Ak))):E5 h f (B9 b n M):=by
 have: ∀(l:List Nat),(∀i∈l,i<n)->E5 h f (l.map λi=>(b+i,(true,Ac.arr 2 1 ((M[i]?.getD []).map Ak)))):=by
  intro l;induction l with
  |nil=>intro _;simp[E5]
  |cons i r ih=>
   intro z;simp only[Bb,E5];refine⟨?_,ih (λj O=>z j (BK _ O))⟩;rw[H i (z i (BQ ..))];exact⟨rfl,rfl⟩
 exact this _ (λi G=>Bk.1 G)
def Quf{h:Nat->Option Am}{kx:Nat->Option Nat}{m b n:Nat}(G: ∀i,i<n->kx (b+i)=some (b+i)):Aq (Aq (Bd h kx (m+1))) (Dc b n)=some (Dc b n):=by
 refine Vb (g:=λi=>[AV.own (b+i)]) (k:=λi=>[AV.own (b+i)]) _ λi z=> ?_
 simp only[Aq,Bd,G i (Bk.1 z),kp]
def Ta{x:Be}{n:Nat}(hn:n<=64){kx:Nat->Option Nat}(G: ∀o,FE o=true->kx o=some o):E5 (hget (C3 x n)) (Bd (hget (C3 x n)) kx 9) (C3 x n):=by
 have k1:kx 1=some 1:=G 1 rfl;have k2:kx 2=some 2:=G 2 rfl;obtain⟨H,hH⟩: ∃H,H=hget (C3 x n):=⟨_,rfl⟩;have g0:H 0=some (true,.cells 238 [.own 1,.own 2]):=by rw[hH];rfl
 have g1:H 1=some (true,.arrA 95 1 (Dc 100 n)):=by rw[hH];rfl
 have g2:H 2=some (true,.arrA 95 1 (Dc 200 n)):=by rw[hH];rfl
 have ga: ∀i,i<n->H (100+i)=some (true,.arr 2 1 ((x.Room[i]?.getD []).map Ak)):=by
  intro i z;rw[hH];simp only[C3,hget,AC _ _ (show 0≠100+i by omega),AC _ _ (show 1≠100+i by omega),AC _ _ (show 2≠100+i by omega),Bs];exact bS _ _ _ _ z
 have gb: ∀i,i<n->H (200+i)=some (true,.arr 2 1 ((x.Flow[i]?.getD []).map Ak)):=by
  intro i z;rw[hH];simp only[C3,hget,AC _ _ (show 0≠200+i by omega),AC _ _ (show 1≠200+i by omega),AC _ _ (show 2≠200+i by omega),Bs];exact bX _ _ _ _ (by omega) z
 rw[<-hH];simp only[C3,E5,Quc];refine⟨?_,?_,?_,Qoq _ _ _ _ _ ga,Qoq _ _ _ _ _ gb⟩
 .rw[g0];exact⟨rfl,by simp only[Cd,Aq,Bd,k1,k2,kp];rfl⟩
 .rw[g1];exact⟨rfl,by simp only[Cd];rw[Quf (λi z=>G _ (Zt i (by omega)))];rfl⟩
 .rw[g2];exact⟨rfl,by simp only[Cd];rw[Quf (λi z=>G _ (Zu i (by omega)))];rfl⟩
def Mn{x:Be}{n:Nat}(hn:n<=64){p:Nat×Am}(hp:p∈C3 x n):FE p.1=true/\p.2.1=true:=by
 simp only[C3,Bt,Bz,B9,AG,Bn,Bk] at hp;rcases hp with rfl|rfl|rfl|⟨i,z,rfl⟩|⟨i,z,rfl⟩
 .exact⟨rfl,rfl⟩
 .exact⟨rfl,rfl⟩
 .exact⟨rfl,rfl⟩
 .exact⟨Zt i (by omega),rfl⟩
 .exact⟨Zu i (by omega),rfl⟩
def fD{a:Int×List Ag}{p:Nat×Am}(hp:p∈nwC.H1 a):FE p.1=true/\p.2.1=true:=Mn (Zh _ _) hp
def nwC.ok:AI 148 nwC.row:=by
 refine ow tN Tryz.func148 (exB:=FE) (R:=λ_ r=>r= .ptr 0 0) (λ_=>rfl)
  (λa=>by simp[nwC.ca,FE,AD,AV.bel,Av,BB,BU,Ac.nms,Aw,AV.nms,Aj,hget]) (λa p hp=> ?_) (λa r h=>by subst h;exact Dh.refl _) ?_
 rotate_left
 intro a ao;simp only[Tryz.f148,Option.getD,nwC.ca,FE];simp(disch:=omega)only[ZZ,simprocAttr,Ab,Ax,nwC.ca,FE];obtain⟨h0,O,hl,Q,ag,an⟩:=ao;obtain⟨n,hn⟩: ∃n:Nat,a.1=n:=⟨a.1.toNat,by omega⟩;obtain⟨bs,hbsd⟩: ∃bs,bs=a.2:=⟨_,rfl⟩;simp only[<-hbsd] at hl Q ag an;rw[hn] at h0 O Q;have hH1:nwC.H1 a=C3 (D2 n bs) n:=by simp only[nwC.H1,hn,Bj,hbsd];rw[rH (by omega)]
 rw[hH1];clear hH1;simp only[hn,<-hbsd];refine AY.ren ⟨{k:Nat//k<=n},λk=>⟨[(11,.im (.int .i64 k.1)),(10,.im (.int .i64 n)),(5,.ptr 0 0),(0,.im (.int .i64 n)),(1,.im (.sl false 3 (bs.map Ag.c)))],(0,(true,.cells 238 [.own 1,.own 2]))::(1,(true,.arrA 95 1 (Dc 100 k.1)))::(2,(true,.arrA 95 1 (Dc 200 k.1)))::(B9 100 k.1 (List.replicate n (List.replicate n 0))++B9 200 k.1 (List.replicate n (List.replicate n 0))),300⟩,λk=>n - k.1,λk=>⟨?_,by simp⟩,⟨⟨0,by simp⟩,[(1,none),(2,none)],?_⟩,λk=> ?_⟩
 .exact pL _ _ _ (by omega) _ (by simp[Cp,AV.bel])
 .simp only[Ar,B9,AG,Dc,Vk,BD,D6];simp(disch:=omega)only[ZZ,simprocAttr,Ab,Ax,nwC.ca,FE,AS,AR]
 obtain⟨k,au⟩:=k;simp(disch:=omega)only[ZZ,simprocAttr,Ab,Ax,nwC.ca,FE,sub,AO,Bq,oK,Hj,QL,ET,Li,VX,Hu];refine⟨λhk=>⟨by omega,by omega,by omega,by omega,⟨k+1,by omega⟩,[(1,some 302),(2,some 305),(100+k,some 300),(200+k,some 303)],by simp only;omega,?_⟩,λhk=> ?_⟩
 .have hg: ∀i,i<n->(List.replicate n (List.replicate n (0:Int)))[i]?.getD []=List.replicate n 0:=by
   intro i z;rw[Lh,Ai z,AT]
  have ad: ∀i,i<k->pm [(1,some 302),(2,some 305),(100+k,some 300),(200+k,some 303)] (100+i)=some (100+i):=by
   intro i z;simp only[pm];rw[Af (by omega),Af (by omega),Af (by omega),Af (by omega)]
  have af: ∀i,i<k->pm [(1,some 302),(2,some 305),(100+k,some 300),(200+k,some 303)] (200+i)=some (200+i):=by
   intro i z;simp only[pm];rw[Af (by omega),Af (by omega),Af (by omega),Af (by omega)]
  have ab:pm [(1,some 302),(2,some 305),(100+k,some 300),(200+k,some 303)] (100+k)=some 300:=by
   simp only[pm];rw[Af (by omega),Af (by omega),Ai trivial]
  have ac:pm [(1,some 302),(2,some 305),(100+k,some 300),(200+k,some 303)] (200+k)=some 303:=by
   simp only[pm];rw[Af (by omega),Af (by omega),Af (by omega),Ai trivial]
  have q0:pm [(1,some 302),(2,some 305),(100+k,some 300),(200+k,some 303)] 0=some 0:=by
   simp only[pm];rw[Af (by omega),Af (by omega),Af (by omega),Af (by omega)]
  have q1:pm [(1,some 302),(2,some 305),(100+k,some 300),(200+k,some 303)] 1=some 302:=rfl;have q2:pm [(1,some 302),(2,some 305),(100+k,some 300),(200+k,some 303)] 2=some 305:=rfl;obtain⟨π,hπ⟩: ∃π,π=[(1,some 302),(2,some 305),(100+k,some 300),(200+k,some 303)]:=⟨_,rfl⟩;rw[<-hπ] at ad af ab ac q0 q1 q2⊢;refine⟨by rw[hπ];exact⟨by omega,by omega,by omega,by omega,trivial⟩,?_,?_,?_⟩
  .rw[YK,hπ];simp only[Fc,Qpf,B9,VZ];refine YO _ _ (SP (k+1) (by omega)) ?_;intro x hx y hy m ah ai;have a9:=SO (k+1) (by omega) x hx;have ba:=SO (k+1) (by omega) y hy;simp only[pm] at ah ai
   repeat' split at ah
   all_goals repeat' split at ai
   all_goals simp only[AM] at ah ai
   all_goals omega
  .simp only[H4,A8];simp(disch:=omega)only[ZZ,simprocAttr,Ab,Ax,nwC.ca,FE,q0];rw[AA (by omega) (by omega)];omega
  .simp only[ES,wL,B9,YG];refine⟨?_,?_,?_,λi z=> ?_,λi z=> ?_⟩
   .simp(disch:=omega)only[ZZ,simprocAttr,Ab,Ax,nwC.ca,FE,q0,q1,q2]
   .simp(disch:=omega)only[ZZ,simprocAttr,Ab,Ax,nwC.ca,FE,q0,q1,q2];refine Qyn (g:=λi=>if i<k then 100+i else 300) (λi z=> ?_) (Ql0 100 k 300);by_cases h:i<k
    .rw[Ai h,ad i h]
    .rw[Af h,show i=k by omega,ab]
   .simp(disch:=omega)only[ZZ,simprocAttr,Ab,Ax,nwC.ca,FE,q0,q1,q2];refine Qyn (g:=λi=>if i<k then 200+i else 303) (λi z=> ?_) (Ql0 200 k 303);by_cases h:i<k
    .rw[Ai h,af i h]
    .rw[Af h,show i=k by omega,ac]
   .by_cases h:i<k
    .rw[ad i h,hg i (by omega)];simp only[CE,hget,AC _ _ (show 0≠100+i by omega),AC _ _ (show 305≠100+i by omega),AC _ _ (show 303≠100+i by omega),AC _ _ (show 302≠100+i by omega),AC _ _ (show 300≠100+i by omega),Bs,Wb];have h9:=bS k (List.replicate n (List.replicate n 0)) (List.replicate n (List.replicate n 0)) i h;simp only[B9] at h9;simp (disch:=omega) only[dK,dN,AC,PI,CQ,CA,h9,hg,Kv,DM,E8]
    .rw[show i=k by omega,ab,hg k (by omega)];simp(disch:=omega)only[ZZ,simprocAttr,Ab,Ax,nwC.ca,FE,pK]
   .by_cases h:i<k
    .rw[af i h,hg i (by omega)];simp only[CE,hget,AC _ _ (show 0≠200+i by omega),AC _ _ (show 305≠200+i by omega),AC _ _ (show 303≠200+i by omega),AC _ _ (show 302≠200+i by omega),AC _ _ (show 300≠200+i by omega),Bs,Wb];have h9:=bX k (List.replicate n (List.replicate n 0)) (List.replicate n (List.replicate n 0)) i (by omega) h;simp only[B9] at h9;simp (disch:=omega) only[dK,dN,AC,PI,CQ,CA,h9,hg,Kv,DM,E8]
    .rw[show i=k by omega,ac,hg k (by omega)];simp(disch:=omega)only[ZZ,simprocAttr,Ab,Ax,nwC.ca,FE,pK]
 .intro _;have av:k=n:=by omega
  subst av;clear hk au;refine AY.old ⟨{j:Nat//j<=bs.length},λj=>⟨[(38,.im (.int .i64 j.1)),(37,.im (.int .i64 bs.length)),(36,.im (.sl false 3 (bs.map Ag.c))),(5,.ptr 0 0)],(0,(true,.cells 238 [.own 1,.own 2]))::(1,(true,.arrA 95 1 (Dc 100 k)))::(2,(true,.arrA 95 1 (Dc 200 k)))::(B9 100 k (BT k bs j.1).Room++B9 200 k (BT k bs j.1).Flow),300⟩,λj=>bs.length - j.1,λj=>⟨?_,by simp⟩,⟨⟨0,by simp⟩,?_⟩,λj=> ?_⟩
  .exact pL _ _ _ (by omega) _ (by simp[Cp,AV.bel])
  .simp only[sub,Gw,BZ,A8,hget,cA];simp(disch:=omega)only[ZZ,simprocAttr,Ab,Ax,nwC.ca,FE,sub,cA,oU,BT,K8];refine⟨λi z=> ?_,λi z=> ?_⟩
   .rw[Af (by omega),Af (by omega),Af (by omega)];exact bS _ _ _ _ z
   .rw[Af (by omega),Af (by omega),Af (by omega)];exact bX _ _ _ _ (by omega) z
  obtain⟨j,hj⟩:=j;obtain⟨aa,_⟩:=Wi Q j;obtain⟨x,hx⟩: ∃x,x=BT k bs j:=⟨_,rfl⟩;simp only[<-hx] at aa⊢;simp(disch:=omega)only[ZZ,simprocAttr,Ab,Ax,nwC.ca,FE,sub,AO,Bq,Hu];refine⟨λam=>⟨am,λb hb=> ?_⟩,λam=> ?_⟩
  .obtain⟨b1,b2,b3,b4⟩:=Q b (Bf hb);have az:=an b (Bf hb);have a0:=ag b (Bf hb);obtain⟨u,hu⟩: ∃u:Nat,b.A=u:=⟨b.A.toNat,by omega⟩;obtain⟨v,hv⟩: ∃v:Nat,b.B=v:=⟨b.B.toNat,by omega⟩;have Z:u<k:=by omega
   have G:v<k:=by omega
   have ay:u≠v:=by omega
   simp only[hu,hv,Bj];refine⟨by omega,by omega,by omega,?_⟩;have hr: ∀i,i<k->(x.Room[i]?.getD []).length=k:=by
    intro i z;rw[B2 (by rw[aa.r];exact z),AT];exact aa.rr _ (QJ _)
   have aw:=hr u Z;have ax:=hr v G;simp(disch:=omega)only[ZZ,simprocAttr,Ab,Ax,nwC.ca,FE,sub,AO,Lb,Bq,Hu,AC,Jv,bS,hu,hv,Bj,aw,ax,Qxa,bP,Fy,Hj,cA,oU];have aj:=wZ Q ag u v j;have ak:=wZ Q ag v u j;rw[<-hx] at aj ak;refine⟨by omega,G,by omega,G,λx1 e1=>⟨G,by omega,G,λx2 _=>⟨.inr (by omega),G,G,by omega,Z,by omega,Z,λx3 e3=>⟨Z,by omega,Z,λx4 _=>⟨.inr (by omega),⟨j+1,by omega⟩,by simp only;omega,by rw[AA (by omega) (by omega)];simp only;omega,?_⟩⟩⟩⟩⟩;have r1:DI x u v=x1:=by simp only[DI,GK,e1,AT]
   have r3:DI x v u=x3:=by simp only[DI,GK,e3,AT]
   rw[r1] at aj;rw[r3] at ak;rw[AA (by omega) (by omega),AA (by omega) (by omega)];have hN:BT k bs (j+1)=Ko x b:=by simp only[BT,hb,<-hx]
   have hR: ∀i,i<k->(BT k bs (j+1)).Room[i]?.getD []=if v=i then (x.Room[v]?.getD []).set u (x3+b.Strength) else if u=i then (x.Room[u]?.getD []).set v (x1+b.Strength) else x.Room[i]?.getD []:=by
    intro i z;rw[hN];simp only[Ko,KZ,hu,hv,Bj];by_cases O:v=i
    .subst O;rw[Ai rfl,DC (by rw[Fy,aa.r];exact G),AT,DL ay,e3,AT]
    .rw[Af O,DL O];by_cases h2:u=i
     .subst h2;rw[Ai rfl,DC (by rw[aa.r];exact Z),AT,e1,AT]
     .rw[Af h2,DL h2]
   have hF:(BT k bs (j+1)).Flow=x.Flow:=by rw[hN];rfl
   refine⟨λi z=> ?_,λi z=> ?_⟩
   .rw[hR i z];by_cases O:v=i
    .subst O;rw[Ai rfl,Ai rfl]
    .rw[Af (by omega),Af O];by_cases h2:u=i
     .subst h2;rw[Ai rfl,Ai rfl]
     .rw[Af (by omega),Af h2,Af (by omega)];exact bS _ _ _ _ z
   .rw[Af (by omega),hF];exact bX _ _ _ _ (by omega) z
  .have aq:j=bs.length:=by omega
   subst aq;rw[hx];exact Ta (x:=D2 k bs) (n:=k) (by omega) (λo ho=>by
    have O:(Aj [] o||(FE o && (Nat.ble 0 o && Nat.blt o (0+320))))=true:=by
     have h2:=Kz o ho;simp[ho];omega
    simp only[GU,O,BV])
 rcases fD hp with ⟨O,h2⟩
 have a8:=Kz p.1 O;exact .inr ⟨by omega,by omega,O,h2⟩
structure SM(H:Nat->Option Am)(x:Be)(n:Nat):Prop where
 g0:H 0=some (true,.cells 238 [.own 1,.own 2])
 g1:H 1=some (true,.arrA 95 1 (Dc 100 n))
 g2:H 2=some (true,.arrA 95 1 (Dc 200 n))
 ga: ∀i,i<n->H (100+i)=some (true,.arr 2 1 ((x.Room[i]?.getD []).map Ak))
 gb: ∀i,i<n->H (200+i)=some (true,.arr 2 1 ((x.Flow[i]?.getD []).map Ak))
def TM{M:List (List Int)}{n:Nat}(h:M.length=n):(List.range n).map (λi=>CK (M[i]?.getD []))=M.map CK:=by
 apply QI;intro i;rw[Dt,Dt];by_cases z:i<n
 .rw[FN z,B2 (by omega:i<M.length)];simp only[D7,B2 (show i<M.length by omega),AT]
 .rw[HB (by simp;omega),HB (by omega)];rfl
def Mp{H:Nat->Option Am}{m b o n:Nat}{M:List (List Int)}(Q:M.length=n)(z:H o=some (true,.arrA 95 1 (Dc b n)))(G: ∀i,i<n->H (b+i)=some (true,.arr 2 1 ((M[i]?.getD []).map Ak))):
 bk H (m+2) (.own o)=some (.sl false 1 (M.map CK)):=by
 simp only[bk,z,ND];rw[Dc,Vb (f:=Aq (bk H (m+1))) (g:=λi=>[AV.own (b+i)]) (k:=λi=>CK (M[i]?.getD [])),TM Q]
 .rfl
 .intro i O;simp only[Aq,bk,G i (Bk.1 O),ND];rfl
def XB{H:Nat->Option Am}{x:Be}{n:Nat}(h:SM H x n)(z:Ke x n)(a b:D):BR H [.ptr 0 0,.im a,.im b]=some [.ptr (Be.c x),F1 a,F1 b]:=by
 have G:=Mp (m:=6) z.r h.g1 h.ga;have O:=Mp (m:=6) z.f h.g2 h.gb;simp only[BR,DN,h.g0,YX,Gf,Aq,G,O,Jb,D7,FT];rfl
def UJ{H:Nat->Option Am}{x:Be}{n nx:Nat}{K:Ah}(h:SM H x n)(z:Ke x n)(hn:n<=1000){p q:Int}(G:0<=p)(aa:p<n)(O:0<=q)(ab:q<n)
 (hK: ∀U,K (.im (.sl true 1 ((Co x n p q).map Ak))) {use:=U}):wayC.row [.ptr 0 0,.im (.int .i64 p),.im (.int .i64 q)] H nx K:=by
 have Q:=z.r;rw[wayC.q,XB h z];have e:Be.d ((Be.c x).take 2)=some x:=Be.d_c x;simp only[UQ,b3,qP,qI,a3,kP,kI,F1,e,GE,DE];refine⟨⟨Q▸z,by omega,G,by omega,O,by omega⟩,?_⟩;have Z:wayC.re (wayC.fv (x,p,q))= .sl true 1 ((Co x n p q).map Ak):=by simp only[wayC.re,wayC.fv,Q]
 rw[Z];exact hK _
def sndC.n(a:Be×Int×Int×Int):Nat:=min a.1.Room.length 64
def QC(n:Nat)(p q:Int):Nat->Be->Be
 |0,x=>x
 |m+1,x=>if Co x n p q=[] then x else QC n p q m (Hh x (Co x n p q) ((Co x n p q).length - 1))
def sndC.ca(a:Be×Int×Int×Int):List AV:=[.ptr 0 0,.im (.int .i64 a.2.1),.im (.int .i64 a.2.2.1),.im (.int .i64 a.2.2.2)]
def sndC.H0(a:Be×Int×Int×Int):Ao:=C3 a.1 (sndC.n a)
def sndC.H1(a:Be×Int×Int×Int):Ao:=B9 200 (sndC.n a) (QC (sndC.n a) a.2.1 a.2.2.1 a.2.2.2.toNat a.1).Flow
def sndC.r0(a:Be×Int×Int×Int):AV:= .im (.int .i64 (FL (sndC.n a) a.2.1 a.2.2.1 a.2.2.2.toNat a.1))
structure Uf(a:Be×Int×Int×Int):Prop where
 n:a.1.Room.length<=64
 ok:Ke a.1 a.1.Room.length
 p0:0<=a.2.1
 p1:a.2.1<a.1.Room.length
 q0:0<=a.2.2.1
 q1:a.2.2.1<a.1.Room.length
 pq:a.2.1≠a.2.2.1
 m0:0<=a.2.2.2
 m1:a.2.2.2<=1000000
 fl: ∃v,Q4 (DI a.1) (JA a.1) a.1.Room.length a.2.1.toNat a.2.2.1.toNat v
 rm: ∀u v,DI a.1 u v<=10000000000000
def Sp(j:Nat):Bool:=Nat.ble 200 j && Nat.blt j 264
def sndC.row:AE:=AL sndC.ca sndC.H0 300 Uf Sp sndC.r0 sndC.H1 10
def sndC.hbel(a:Be×Int×Int×Int):AD 300 (sndC.ca a)=true:=rfl
def sndC.n_le(a:Be×Int×Int×Int):sndC.n a<=64:=Zh _ _
def lE(x:Be)(n:Nat)(hn:n<=64):Av 300 (C3 x n)=true/\BB 300 (C3 x n)=true:=by
 have:=pL n x.Room x.Flow hn [] rfl
 simp only[Az.good,AW] at this;exact this.2
def sndC.hbH(a:Be×Int×Int×Int):Av 300 (sndC.H0 a)=true:=(lE _ _ (sndC.n_le a)).1
def sndC.hkH(a:Be×Int×Int×Int):BB 300 (sndC.H0 a)=true:=(lE _ _ (sndC.n_le a)).2
def Va(x:Be)(n:Nat)(hn:n<=64):SM (hget (C3 x n)) x n:=by
 refine⟨rfl,rfl,rfl,λi z=> ?_,λi z=> ?_⟩
 .simp only[C3,hget,AC _ _ (show 0≠100+i by omega),AC _ _ (show 1≠100+i by omega),AC _ _ (show 2≠100+i by omega),Bs];exact bS _ _ _ _ z
 .simp only[C3,hget,AC _ _ (show 0≠200+i by omega),AC _ _ (show 1≠200+i by omega),AC _ _ (show 2≠200+i by omega),Bs];exact bX _ _ _ _ (by omega) z
def Qvt(H0:Ao): ∀(a b:Ao),BU H0 (a++b)↔BU H0 a/\BU H0 b
 |[],b=>by simp[BU]
 |(i,(z,e))::r,b=>by simp only[BG,BU,Qvt H0 r b,jQ]
def Qud(H0:Ao)(b n:Nat)(M:List (List Int)):BU H0 (B9 b n M):=by
 have: ∀(l:List Nat),BU H0 (l.map λi=>(b+i,(true,Ac.arr 2 1 ((M[i]?.getD []).map Ak)))):=by
  intro l;induction l with
  |nil=>simp[BU]
  |cons i r ih=>simp only[Bb,BU];exact⟨λm z=>by simp[Ac.nms] at z,ih⟩
 exact this _
def Qu6(b n:Nat): ∀m∈Bx (Dc b n),∃i,i<n/\m=b+i:=by
 have: ∀(l:List Nat),(∀i∈l,i<n)-> ∀m∈Bx (l.map λi=>[AV.own (b+i)]),∃i,i<n/\m=b+i:=by
  intro l;induction l with
  |nil=>intro _ m z;simp[Bx] at z
  |cons i r ih=>
   intro G m z;simp only[Bb,Bx,Aw,AV.nms,D6,Bz,BL] at z;rcases z with rfl|z
   .exact⟨i,G i (BQ ..),rfl⟩
   .exact ih (λj Q=>G j (BK _ Q)) m z
 exact this _ (λi O=>Bk.1 O)
def XA(x:Be)(n:Nat)(hn:n<=64):BU (C3 x n) (C3 x n):=by
 have G:=Va x n hn;have hd: ∀o e,hget (C3 x n) o=some e->Aj (C3 x n) o=true:=λo e h=>by simp only[Aj,h];rfl
 obtain⟨H,hH⟩: ∃H,H=C3 x n:=⟨_,rfl⟩;rw[<-hH] at G hd;rw[show BU (C3 x n) (C3 x n)=BU H (C3 x n) by rw[hH]];simp only[C3,BU,Qvt];refine⟨λm z=> ?_,λm z=> ?_,λm z=> ?_,Qud _ _ _ _,Qud _ _ _ _⟩
 .simp only[Ac.nms,Aw,AV.nms,D6,Bz,BL] at z;rcases z with rfl|rfl
  .exact hd _ _ G.g1
  .exact hd _ _ G.g2
 .obtain⟨i,O,rfl⟩:=Qu6 100 n m z;exact hd _ _ (G.ga i O)
 .obtain⟨i,O,rfl⟩:=Qu6 200 n m z;exact hd _ _ (G.gb i O)
def MO{s:Az}{x:Be}{n:Nat}(h:SM (hget s.h) x n):BZ s (C3 x n):=by
 simp only[C3,BZ,cA,oU];exact⟨h.g0,h.g1,h.g2,h.ga,h.gb⟩
def MA(h:Nat->Option Am)(f:Nat->Bool): ∀(a b:Ao),HT h f (a++b)↔HT h f a/\HT h f b
 |[],b=>by simp[HT]
 |(i,e)::r,b=>by simp only[BG,HT,MA h f r b,jQ]
def Z0(i:Nat)(h:i<64):Sp (200+i)=true:=by
 simp only[Sp,AW,Gi,Ed];omega
def qN(h:Nat->Option Am)(f:Nat->Bool)(b:Nat)(g:Nat->Am)(n:Nat)(H: ∀i,i<n->f (b+i)=true\/h (b+i)=some (g i)):HT h f (AG b n g):=by
 have: ∀(l:List Nat),(∀i∈l,i<n)->HT h f (l.map λi=>(b+i,g i)):=by
  intro l;induction l with
  |nil=>intro _;trivial
  |cons i r ih=>
   intro G;simp only[Bb,HT];refine⟨?_,ih (λj Q=>G j (BK _ Q))⟩;rcases H i (G i (BQ ..)) with z|z
   .rw[z];trivial
   .cases f (b+i)
    .exact z
    .trivial
 exact this _ (λi O=>Bk.1 O)
def TH{h:Nat->Option Am}{n:Nat}(hn:n<=64){M:List (List Int)}(H: ∀i,i<n->h (100+i)=some (true,.arr 2 1 ((M[i]?.getD []).map Ak))):HT h Sp (B9 100 n M):=qN _ _ _ _ _ (λi z=> .inr (H i z))
def TJ{h:Nat->Option Am}{n:Nat}(hn:n<=64){M:List (List Int)}:HT h Sp (B9 200 n M):=qN _ _ _ _ _ (λi z=> .inl (Z0 i (by omega)))
def sndC.hnm(a:Be×Int×Int×Int):BU (sndC.H0 a) (sndC.H0 a):=XA _ _ (sndC.n_le a)
def sndC.ok:AI 149 sndC.row:=by
 refine ow (tC wayC.ok tN) Tryz.func149 (exB:=λ_=>false) (R:=λa r=>r=sndC.r0 a) (λ_=>rfl)
  (λa=>⟨sndC.hbel a,sndC.hbH a,sndC.hkH a,sndC.hnm a⟩) (λa p hp=> ?_) (λa r h=>by subst h;exact Dh.refl _) ?_
 rotate_left
 intro a au;simp only[Tryz.f149,Option.getD,sndC.ca];simp(disch:=omega)only[ZZ,simprocAttr,Ab,Ax,sndC.ca];obtain⟨x,p,q,mo⟩:=a;obtain⟨hn,ak,ac,Z,ad,af,aq,a9,ba,aj,am⟩:=au;simp only at hn ak ac Z ad af aq a9 ba aj am;obtain⟨n,hnn⟩: ∃n,n=x.Room.length:=⟨_,rfl⟩;obtain⟨M,hM⟩: ∃M:Nat,mo=M:=⟨mo.toNat,by omega⟩;subst hM;have bd: ∀y:Int×Int×Int,sndC.n (x,y)=n:=λy=>by simp only[sndC.n,<-hnn];omega
 simp only[sndC.H1,sndC.r0,sndC.H0,bd,Bj,C3,Bq];rw[<-hnn] at hn ak Z af aj;refine AY.old ⟨{s:Nat×Be//s.1<=M/\Ke s.2 n/\s.2.Room=x.Room/\(∃v,Q4 (DI x) (JA s.2) n p.toNat q.toNat v)/\FL n p q M x=FL n p q (M - s.1) s.2+s.1/\QC n p q M x=QC n p q (M - s.1) s.2},λs=>⟨[(9,.im (.int .i64 s.1.1)),(0,.ptr 0 0),(1,.im (.int .i64 p)),(2,.im (.int .i64 q)),(3,.im (.int .i64 M))],C3 s.1.2 n,300⟩,λs=>M - s.1.1,λs=>⟨?_,by simp⟩,⟨⟨(0,x),by simp only;omega,ak,rfl,aj,by simp,by simp⟩,?_⟩,λs=> ?_⟩
 .simp only[C3];exact pL _ _ _ hn _ (by simp[Cp,AV.bel])
 .simp only[sub,Gw,A8];refine⟨?_,?_⟩
  .simp(disch:=omega)only[ZZ,simprocAttr,Ab,Ax,sndC.ca]
  .exact MO (Va x n hn)
 obtain⟨⟨k,y⟩,i1,i2,i3,i4,i5,i6⟩:=s;simp only at i1 i2 i3 i4 i5 i6;simp only[C3];simp(disch:=omega)only[ZZ,simprocAttr,Ab,Ax,sndC.ca,Bq];refine UJ (Va y n hn) i2 (by omega) ac Z ad af (λU=> ?_);obtain⟨L,hL⟩: ∃L,L=Co y n p q:=⟨_,rfl⟩;rw[<-hL];simp(disch:=omega)only[ZZ,simprocAttr,Ab,Ax,sndC.ca,Bq,sub,AO];have ah:(FL n p q (M - k) y=0)->(QC n p q (M - k) y=y)->(((bif Sp 0 then True else True)/\(bif Sp 1 then True else True)/\(bif Sp 2 then True else True)/\HT (hget (C3 y n)) Sp (B9 100 n x.Room++B9 200 n x.Flow))/\(k:Int)=FL n p q M x/\ ∀kx,E5 (hget (C3 y n)) (Bd (hget (C3 y n)) kx 9) (B9 200 n (QC n p q M x).Flow)):=by
  intro e1 e2;have hI:=Va y n hn;refine⟨⟨trivial,trivial,trivial,(MA _ _ _ _).2 ⟨TH hn (λi O=>by rw[hI.ga i O,i3]),TJ hn⟩⟩,by omega,λkx=> ?_⟩;rw[i6,e2];exact Qoq _ _ _ _ _ hI.gb
 have ax:(L.map Ak).isEmpty=L.isEmpty:=by cases L<;>rfl
 rw[ax];refine⟨λc1=>⟨λc2=> ?_,λc2=> ?_⟩,λc1=> ?_⟩
 .obtain⟨g1,g2,g3⟩:=ah (by rw[show M - k=0 by omega];rfl) (by rw[show M - k=0 by omega];rfl);exact⟨g1,g2,g3 _⟩
 .have aa:L≠[]:=by intro h;rw[h] at c1;cases c1
  have hW:Sg y n p q L:=by rw[hL];exact UL ac Z ad af (by rw[<-hL];exact aa)
  have bh:=hW.pos;obtain⟨v,hv⟩:=i4;have an: ∀i,i<L.length-> ∃w:Nat,L[i]? =some (w:Int)/\w<n:=by
   intro i O
   have:=hW.inb _ (QJ O)
   refine⟨(L[i]).toNat,by rw[B2 O];congr 1;omega,by omega⟩
  refine AY.old ⟨{j:Nat//j+1<=L.length},λj=>⟨[(11,.im (.int .i64 ((j.1:Int)+1))),(10,.im (.sl true 1 (L.map Ak))),(9,.im (.int .i64 k)),(0,.ptr 0 0),(1,.im (.int .i64 p)),(2,.im (.int .i64 q)),(3,.im (.int .i64 M))],C3 (Hh y L j.1) n,300⟩,λj=>L.length - j.1,λj=>⟨?_,by simp⟩,⟨⟨0,by omega⟩,?_⟩,λj=> ?_⟩
  .simp only[C3];exact pL _ _ _ hn _ (by simp[Cp,AV.bel])
  .simp only[sub,Gw,A8];refine⟨?_,?_⟩
   .simp(disch:=omega)only[ZZ,simprocAttr,Ab,Ax,sndC.ca]
   .exact MO (Va y n hn)
  obtain⟨j,hj⟩:=j;have G:=vT i2 hW.inb j (by omega);obtain⟨z,hz⟩: ∃z,z=Hh y L j:=⟨_,rfl⟩;simp only[<-hz] at G⊢;simp only[C3];have ej:((j:Int)+1).toNat=j+1:=by omega
  simp(disch:=omega)only[ZZ,simprocAttr,Ab,Ax,sndC.ca,Bq,sub,AO,Hu];intro bg;have ew:IntKind.i64.wrap ((j:Int)+1 - 1)=j:=by rw[AA (by omega) (by omega)];omega
  have av:IntKind.i64.wrap ((j:Int)+1+1)=(j:Int)+1+1:=AA (by omega) (by omega);simp only[ew,Bj];refine⟨λa0=> ?_,λa0=> ?_⟩
  .obtain⟨u,ab,hu⟩:=an j (by omega);obtain⟨w,ai,Q⟩:=an (j+1) (by omega);have be:u≠w:=by
    intro h
    have:=hW.nd j (j+1) (by omega) (by omega) (by simp only[Lf,ab,ai,h])
    omega
   have hr: ∀i,i<n->(z.Flow[i]?.getD []).length=n:=by
    intro i O;rw[B2 (by rw[G.f];exact O),AT];exact G.ff _ (QJ _)
   have bb:=hr u hu;have bc:=hr w Q;simp only[ab,AM,forall_eq'];simp(disch:=omega)only[ZZ,simprocAttr,Ab,Ax,sndC.ca,sub,AO,Lb,Bq,Hu,AC,Jv,bX,ew,av,ej,ab,ai,AM,forall_eq',bb,bc,Qxa,bP,Fy,Hj,cA,oU];have hb: ∀a b,a<n->b<n-> -10000000000002<=JA z a b/\JA z a b<=10000000000002:=by
    intro a b ha hb;have h1:=Qso i2 hW.inb a b j (by omega);have h2:=wP (L:=Lf L) (m:=L.length - 1) (λi j O hj=>hW.nd i j (by omega) (by omega)) a b j (by omega);have h3:=wP (L:=Lf L) (m:=L.length - 1) (λi j O hj=>hW.nd i j (by omega) (by omega)) b a j (by omega);have h4:=nI (Lf L) a b j;have h5:=nI (Lf L) b a j;have h6:=hv.cap a b ha hb;have h7:=hv.cap b a hb ha;have h8:=hv.anti a b ha hb;have h9:=am a b;have bi:=am b a;rw[<-hz] at h1;simp only[JA] at*;omega
   have ay:=hb u w hu Q;have az:=hb w u Q hu;refine⟨by omega,hu,hu,by omega,by omega,by omega,Q,by omega,Q,λx1 e1=>⟨Q,by omega,Q,λ_ _=>⟨.inr (by omega),by omega,by omega,Q,Q,by omega,by omega,hu,by omega,hu,λx3 e3=>⟨hu,by omega,hu,λ_ _=>⟨.inr (by omega),⟨j+1,by omega⟩,by simp only;omega,by simp only;omega,?_⟩⟩⟩⟩⟩;have r1:JA z u w=x1:=by simp only[JA,GK,e1,AT]
   have r3:JA z w u=x3:=by simp only[JA,GK,e3,AT]
   rw[r1] at ay;rw[r3] at az;rw[AA (by omega) (by omega),AA (by omega) (by omega)];have hN:Hh y L (j+1)=Nm z u w:=by simp only[Hh,ab,ai,AT,<-hz]
   have hR: ∀i,i<n->(Hh y L (j+1)).Flow[i]?.getD []=if w=i then (z.Flow[w]?.getD []).set u (x3 - 1) else if u=i then (z.Flow[u]?.getD []).set w (x1+1) else z.Flow[i]?.getD []:=by
    intro i O;rw[hN];simp only[Nm,KZ,Bj];by_cases h1:w=i
    .subst h1;rw[Ai rfl,DC (by rw[Fy,G.f];exact Q),AT,DL be,e3,AT];rfl
    .rw[Af h1,DL h1];by_cases h2:u=i
     .subst h2;rw[Ai rfl,DC (by rw[G.f];exact hu),AT,e1,AT]
     .rw[Af h2,DL h2]
   have hF:(Hh y L (j+1)).Room=z.Room:=by rw[hN];rfl
   refine⟨λi O=> ?_,λi O=> ?_⟩
   .rw[Af (by omega),Af (by omega)];show _=some (true,Ac.arr _ 1 (List.map Ak ((Hh y L (j+1)).Room[i]?.getD [])));rw[hF];exact bS _ _ _ _ O
   .show _=some (true,Ac.arr _ 1 (List.map Ak ((Hh y L (j+1)).Flow[i]?.getD [])));rw[hR i O];by_cases h1:w=i
    .subst h1;rw[Ai rfl,Ai rfl]
    .rw[Af (by omega),Af h1];by_cases h2:u=i
     .subst h2;rw[Ai rfl,Ai rfl]
     .rw[Af (by omega),Af h2];exact bX _ _ _ _ (by omega) O
  .have a8:j=L.length - 1:=by omega
   subst a8;obtain⟨m,hm⟩: ∃m,M - k=m+1:=⟨M - k - 1,by omega⟩;have ao: ¬Co y n p q=[]:=by rw[<-hL];exact aa
   have e5:FL n p q (m+1) y=FL n p q m z+1:=by simp only[FL];rw[Af ao,<-hL,<-hz]
   have e6:QC n p q (m+1) y=QC n p q m z:=by simp only[QC];rw[Af ao,<-hL,<-hz]
   rw[hm] at i5 i6;have ag:=(Qun i2 ac Z aq ad (v:=v) (by rw[show DI y=DI x by funext a b;simp only[DI,i3]];exact hv) hW).2;have bf:z.Room=x.Room:=by rw[hz,Ql3,i3]
   rw[show DI y=DI x by funext a b;simp only[DI,i3],<-hz] at ag;refine⟨⟨(k+1,z),by simp only;omega,G,bf,⟨_,ag⟩,by simp only;rw[show M - (k+1)=m by omega];omega,by simp only;rw[show M - (k+1)=m by omega,i6,e6]⟩,by simp only;omega,?_⟩;refine⟨by rw[AA (by omega) (by omega)];simp only;omega,?_⟩;simp only[cA,oU];exact⟨(Va z n hn).ga,(Va z n hn).gb⟩
 .have aa:L=[]:=by
   cases L with
   |nil=>rfl
   |cons a r=>exact absurd rfl c1
  have Q:Co y n p q=[]:=by rw[<-hL,aa]
  have z1: ∀m,FL n p q m y=0:=by
   intro m;cases m with
   |zero=>rfl
   |succ m=>simp only[FL];rw[Ai Q]
  have z2: ∀m,QC n p q m y=y:=by
   intro m;cases m with
   |zero=>rfl
   |succ m=>simp only[QC];rw[Ai Q]
  obtain⟨g1,g2,g3⟩:=ah (z1 _) (z2 _);exact⟨g1,g2,g3 _⟩
 simp only[sndC.H1,B9,AG,Bn,Bk] at hp;obtain⟨i,O,rfl⟩:=hp;have aw:=sndC.n_le a;refine .inl ⟨by omega,by simp only[Sp,AW,Gi,Ed];omega,?_⟩;simp only[Aj,sndC.H0];rw[(Va a.1 (sndC.n a) aw).gb i O];rfl
def Qwi(h:Nat->Option Am)(σ:Nat->Nat): ∀(a b:Ao),D5 h σ (a++b)↔D5 h σ a/\D5 h σ b
 |[],b=>by simp[D5]
 |(i,(z,e))::r,b=>by simp only[BG,D5,Qwi h σ r b,jQ]
def Qt1{h:Nat->Option Am}{σ:Nat->Nat}{b n:Nat}{M:List (List Int)}(H: ∀i,i<n->h (σ (b+i))=some (true,.arr 2 1 ((M[i]?.getD []).map Ak))):D5 h σ (B9 b n M):=by
 have: ∀(l:List Nat),(∀i∈l,i<n)->D5 h σ (l.map λi=>(b+i,(true,Ac.arr 2 1 ((M[i]?.getD []).map Ak)))):=by
  intro l;induction l with
  |nil=>intro _;trivial
  |cons i r ih=>
   intro z;simp only[Bb,D5];exact⟨H i (z i (BQ ..)),ih (λj O=>z j (BK _ O))⟩
 exact this _ (λi G=>Bk.1 G)
def Qth{σ:Nat->Nat}{b n:Nat}{M:List (List Int)}(H: ∀i,i<n->σ (b+i)=b+i):AX σ (B9 b n M)=B9 b n M:=by
 have: ∀(l:List Nat),(∀i∈l,i<n)->AX σ (l.map λi=>(b+i,(true,Ac.arr 2 1 ((M[i]?.getD []).map Ak))))=l.map λi=>(b+i,(true,Ac.arr 2 1 ((M[i]?.getD []).map Ak))):=by
  intro l;induction l with
  |nil=>intro _;rfl
  |cons i r ih=>
   intro z;simp only[Bb,AX];rw[H i (z i (BQ ..)),ih (λj O=>z j (BK _ O))];rfl
 exact this _ (λi G=>Bk.1 G)
def vB{σ:Nat->Nat}{b n:Nat}(H: ∀i,i<n->σ (b+i)=b+i):(Dc b n).map (AH σ)=Dc b n:=by
 simp only[Dc,Km];refine Ii λi z=> ?_
 simp only[Function.comp,AH,AV.ren,H i (Bk.1 z)]
def Qzq(σ:Nat->Nat): ∀(a b:Ao),AX σ (a++b)=AX σ a++AX σ b
 |[],b=>rfl
 |(i,(z,e))::r,b=>by simp only[BG,AX,Qzq σ r b]
def XM{σ:Nat->Nat}{x:Be}{n:Nat}(hn:n<=64)(H: ∀j,j<300->σ j=j):AX σ (C3 x n)=C3 x n:=by
 simp only[C3,AX,Qzq,Ac.ren,AH,AV.ren,H 0 (by omega),H 1 (by omega),H 2 (by omega),vB (b:=100) (n:=n) (λi z=>H (100+i) (by omega)),vB (b:=200) (n:=n) (λi z=>H (200+i) (by omega)),Qth (b:=100) (n:=n) (λi z=>H (100+i) (by omega)),Qth (b:=200) (n:=n) (λi z=>H (200+i) (by omega))]
def KC{x:Be}{n:Nat}(hn:n<=64){j:Nat}(h:Aj (C3 x n) j=true):j<264/\(200<=j-> ∃i,i<n/\j=200+i)/\j∈[0,1,2]++((List.range n).map (100+ ·)++(List.range n).map (200+ ·)):=by
 have z:j∈[0,1,2]++((List.range n).map (100+ ·)++(List.range n).map (200+ ·)):=by
  have: ∀(H:Ao),Aj H j=true->j∈Fc H:=by
   intro H;induction H with
   |nil=>intro h;simp[Aj,hget] at h
   |cons e r ih=>
    obtain⟨i,e⟩:=e;intro h;simp only[Aj,hget] at h;simp only[Fc,Bt];by_cases O:i=j
    .exact .inl O.symm
    .have:(i==j)=false:=by simpa using O
     rw[this] at h;exact .inr (ih h)
  have Z:=this _ h;simp only[C3,Fc,Qpf,B9,VZ] at Z;simpa using Z
 refine⟨?_,λG=> ?_,z⟩
 .have:=SO n hn j z
  rcases Bz.1 z with z|z
  .simp at z;omega
  .rcases Bz.1 z with z|z<;>obtain⟨i,Q,rfl⟩:=Bn.1 z<;>have:=Bk.1 Q
   .show 100+i<264;omega
   .show 200+i<264;omega
 .rcases Bz.1 z with z|z
  .simp at z;omega
  .rcases Bz.1 z with z|z<;>obtain⟨i,Q,rfl⟩:=Bn.1 z<;>have:=Bk.1 Q
   .have h3:200<=100+i:=G;omega
   .exact⟨i,this,rfl⟩
def O3{kill:List Nat}{nx cnt b n:Nat}{M:List (List Int)}(H: ∀i,i<n->kill.contains (b+i)=true/\b+i<nx):Hi kill nx cnt (B9 b n M)=true:=by
 have: ∀(l:List Nat),(∀i∈l,i<n)->Hi kill nx cnt (l.map λi=>(b+i,(true,Ac.arr 2 1 ((M[i]?.getD []).map Ak))))=true:=by
  intro l;induction l with
  |nil=>intro _;rfl
  |cons i r ih=>
   intro z;simp only[Bb,Hi,JO,AW,H8,Gi,Ed];exact⟨.inr (H i (z i (BQ ..))),ih (λj O=>z j (BK _ O))⟩
 exact this _ (λi G=>Bk.1 G)
def Uh{H:Nat->Option Am}{x:Be}{nx:Nat}{K:Ah}{p q O:Int}(hH:SM H x x.Room.length)(Q:Uf (x,p,q,O))(aa:300<=nx)
 (hK: ∀E:Bv,E.cnt=10->E.ok nx (.im (.int .i64 (FL x.Room.length p q O.toNat x)))=true->K (.im (.int .i64 (FL x.Room.length p q O.toNat x))) E):sndC.row [.ptr 0 0,.im (.int .i64 p),.im (.int .i64 q),.im (.int .i64 O)] H nx K:=by
 have hn:x.Room.length<=64:=Q.n;have G:sndC.n (x,p,q,O)=x.Room.length:=by simp only[sndC.n];omega
 have hσ: ∀j,j<300->B0 (λj=>j) 300 nx j=j:=λj Z=>Ai Z
 refine⟨(x,p,q,O),λj=>j,[0,1,2]++((List.range x.Room.length).map (100+ ·)++(List.range x.Room.length).map (200+ ·)),(List.range x.Room.length).map (200+ ·),Q,?_,?_,?_,?_⟩
 .simp only[sndC.ca,AH,AV.ren,hσ 0 (by omega)]
 .simp only[sndC.H0,G,C3,D5,Qwi,Ac.ren,AH,AV.ren,hσ 0 (by omega),hσ 1 (by omega),hσ 2 (by omega),vB (b:=100) (n:=x.Room.length) (λi z=>hσ (100+i) (by omega)),vB (b:=200) (n:=x.Room.length) (λi z=>hσ (200+i) (by omega))];exact⟨hH.g0,hH.g1,hH.g2,Qt1 (λi z=>by rw[hσ _ (by omega)];exact hH.ga i z),Qt1 (λi z=>by rw[hσ _ (by omega)];exact hH.gb i z)⟩
 .have hd: ∀j,Aj (sndC.H0 (x,p,q,O)) j=true->Aj (C3 x x.Room.length) j=true:=λj h=>by simpa only[sndC.H0,G] using h
  refine⟨λi j _ _ h=>h,λj Z=> ?_,λj Z=>(KC hn (hd j Z)).2.2,λm hm=> ?_,λj Z hk=> ?_⟩
  .have:=(KC hn (hd j Z)).1
   omega
  .obtain⟨i,z,rfl⟩:=Bn.1 hm
   have:=Bk.1 z
   refine⟨200+i,?_,Z0 i (by omega),rfl⟩;simp only[Aj,sndC.H0,G];rw[(Va x _ hn).gb i this];rfl
  .simp only[Sp,AW,Gi,Ed] at hk;obtain⟨i,z,rfl⟩:=(KC hn (hd j Z)).2.1 hk.1;exact Bn.2 ⟨i,Bk.2 z,rfl⟩
 .have e:(sndC.r0 (x,p,q,O)).ren (B0 (λj=>j) 300 nx)= .im (.int .i64 (FL x.Room.length p q O.toNat x)):=by simp only[sndC.r0,G,AV.ren]
  rw[e];refine hK _ rfl ?_;simp only[Bv.ok,AV.bel,Ew,sndC.H1,G];rw[Qth (λi z=>hσ _ (by omega)),AW];refine⟨N9 _ _ _ (λi=>rfl) _,O3 λi z=>⟨?_,by omega⟩⟩;rw[IC];exact Bn.2 ⟨i,Bk.2 z,rfl⟩
def Qu2(cnt:Nat): ∀(H:Ao),(∀p∈H,p.1<cnt)->Hi [] 0 cnt H=true
 |[],_=>rfl
 |(i,e)::r,h=>by
  have z:=h (i,e) (BQ ..);simp only at z;simp only[Hi,JO,Qu2 cnt r (λp hp=>h p (BK _ hp)),Ep,H8,AW,Gi,Ed];exact .inl ⟨by omega,by omega⟩
def SN{x:Be}{n:Nat}(r:AV)(hn:n<=64)(z:r.bel 320=true){use:List Nat}:Bv.ok {use:=use,kill:=[],new:=C3 x n,cnt:=320} 0 r=true:=by
 simp only[Bv.ok,FC,z,Ew,AW];refine⟨?_,Qu2 _ _ λp hp=>by have:=Kz _ (Mn hn hp).1;omega⟩;simp only[C3,Av,iH,B9];rw[N9 _ _ _ (λi=>rfl),N9 _ _ _ (λi=>rfl),VX _ _ _ (by omega),VX _ _ _ (by omega)];rfl
def Qt8(n:Nat)(bs:List Ag)(t:Int)(k:Nat)(h:Q8 n bs t k=false): ∀m,Q8 n bs t (k+m)=false
 |0=>h
 |m+1=>by rw[show k+(m+1)=k+m+1 by omega,Q8,Qt8 n bs t k h m,FP]
def qJ(n:Int)(bs:List Ag)(t:Int):Bool:=Q8 n.toNat bs t (n.toNat - 1)
def holds_.fv(a:Int×(List Ag)×Int):Bool:=(qJ) (a.1) (a.2.1) (a.2.2)
def holds_.row:AE:=vK (b3 qI (qS Ag.d_le Ag.c_n) qI) rB (λa=>Mo (a.1,a.2.1)/\0<=a.2.2/\a.2.2<=1000000) holds_.fv
def holds_.q:=Bg (R:=holds_.row) rfl
def holds_.ok:AI 123 holds_.row:=by
 refine vw (tC nwC.ok (tC sndC.ok tN)) Tryz.func123 ?_;intro a ac;simp only[Tryz.f123,Option.getD];simp only[ZZ,simprocAttr,Ab,holds_.fv];obtain⟨hp,ad,af⟩:=ac;obtain⟨h0,h1,hl,z,G,O⟩:=hp;simp only at h0 h1 hl z G O;obtain⟨n,hn⟩: ∃n:Nat,a.1=n:=⟨a.1.toNat,by omega⟩;obtain⟨bs,hbsd⟩: ∃bs,bs=a.2.1:=⟨_,rfl⟩;obtain⟨t,ht⟩: ∃t,t=a.2.2:=⟨_,rfl⟩;simp only[hn,<-hbsd,<-ht,qJ,Bj] at h0 h1 hl z G O ad af⊢;have Q:Mo ((n:Int),bs):=⟨h0,h1,hl,z,G,O⟩;refine AY.old ⟨{k:Nat//(k=0\/k+1<=n)/\Q8 n bs t k=true},λk=>⟨[(7,.im (.int .i64 ((k.1:Int)+1))),(0,.im (.int .i64 n)),(1,.im (.sl false 3 (bs.map Ag.c))),(2,.im (.int .i64 t))],[],0⟩,λk=>n - k.1,λk=>⟨by simp[ZG],by simp⟩,⟨⟨0,.inl rfl,rfl⟩,by simp only[ZZ,simprocAttr,Ab,holds_.fv,sub]⟩,λk=> ?_⟩;obtain⟨k,aa,ab⟩:=k;simp only[ZZ,simprocAttr,Ab,holds_.fv,sub,AO];refine⟨λhk=> ?_,λhk=> ?_⟩
 .refine AL.os ((n:Int),bs) [] Q (λj=>by simp[Aj,hget]) rfl rfl ?_ ?_
  .simp only[ZZ,simprocAttr,Ab,holds_.fv,nwC.ca,B5]
  .have e1:AX (B0 (IY []) 0 0) (nwC.H1 ((n:Int),bs))=C3 (D2 n bs) n:=by
    simp only[nwC.H1,Bj];rw[rH (by omega)];exact XM (by omega) (λj _=>by simp[B0])
   rw[e1];refine⟨SN _ (by omega) rfl,?_⟩;simp only[ZZ,simprocAttr,Ab,holds_.fv,sub,AO,Bq,D6];have Z:(D2 n bs).Room.length=n:=(Wi z bs.length).1.r;have hI:=Va (D2 n bs) n (by omega);rw[show hget (C3 (D2 n bs) n)=hget (C3 (D2 n bs) n) from rfl];refine Uh (x:=D2 n bs) (by rw[Z];exact hI) ?_ (by omega) (λE ai ag=> ?_)
   .refine⟨by simp only;omega,by simp only[Z];exact (Wi z bs.length).1,by simp,by simp only[Z];omega,by simp only;omega,by simp only[Z];omega,by simp only;omega,ad,af,⟨0,by simp only[Z];exact kX z G _ _⟩,λu v=> ?_⟩
    have:=(wZ z G u v bs.length).2
    simp only[D2];omega
   .refine⟨ag,?_⟩;rw[Z];obtain⟨sv,hsv⟩: ∃sv,sv=FL n 0 ((k:Int)+1) t.toNat (D2 n bs):=⟨_,rfl⟩;rw[<-hsv];have hs:Q8 n bs t (k+1)=(Q8 n bs t k && decide (t<=sv)):=by rw[hsv];rfl
    rw[ab,Ew] at hs;simp only[ZZ,simprocAttr,Ab,holds_.fv,Az.app,sub,AO];refine⟨λah=> ?_,λah=>⟨⟨k+1,.inr (by omega),by rw[hs];exact Vl (by omega)⟩,by simp only;omega,by rw[AA (by omega) (by omega)];simp only;omega⟩⟩;have h9:=Qt8 n bs t (k+1) (by rw[hs];exact PN (by omega)) (n - 1 - (k+1));rw[show k+1+(n - 1 - (k+1))=n - 1 by omega] at h9;exact h9.symm
 .rcases aa with rfl|aa
  .rw[show n - 1=0 by omega];rfl
  .rw[show n - 1=k by omega];exact ab.symm
def Kd(t:Int)(b:Ag):Bool:=decide (b.Strength<t)
def CT1.fv(a:Ag×Int):Bool:=(λb t=>Kd t b) (a.1) (a.2)
def CT1.row:AE:=CG (b2 (qR Ag.d_le) (qP 1 GH)) rB (λa=>True) CT1.fv
def CT1.q:=CH (R:=CT1.row) rfl
def CT1.ok:AI 145 CT1.row:=by
 refine Gy tN Tryz.func145 ?_;intro a z;simp only[Tryz.f145,Option.getD];simp only[ZZ,simprocAttr,Ab,CT1.fv,BS,D.sc,D.scs,BJ,AQ];rfl
def IdxB.ar:List PK->Option ((List Ag)×Int)
 |[.val (.sl _ _ G),.val (.fn 145 [] [.ref [.int .i64 z]])]=>(AU Ag.d G).bind λO=>some (O,z)
 |_=>none
def IdxB.ae(a:(List Ag)×Int):List PK:=[.val (.sl false 3 (a.1.map Ag.c)),.val (.fn 145 [] [.ref [.int .i64 a.2]])]
def IdxB.le: ∀z a,IdxB.ar z=some a->Cl z (IdxB.ae a):=by
 intro z a h;unfold IdxB.ar at h;split at h
 .simp only[GD,AM] at h;obtain⟨G,h0,rfl⟩:=h;exact⟨Gb (FK Ag.d_le _ _ h0) (by simp only[Bn];rintro r ⟨y,_,rfl⟩;rfl),iR ⟨Le.refl _,trivial⟩,trivial⟩
 .cases h
def IdxB.fv(a:(List Ag)×Int):Int:=(λl t=>BO (Kd t) 0 l) (a.1) (a.2)
def IdxB.row:AE:=Q3 IdxB.ar (λa=>True) (λa=>(D.int .i64) (IdxB.fv a))
def IdxB.q:=vqF IdxB.row rfl
def IdxB.ok:AI 167 IdxB.row:=by
 refine Qbn ER (tC CT1.ok tN) Tryz.func167 rfl (by kernel_rfl) (by kernel_rfl) (ar:=IdxB.ar) (ae:=IdxB.ae) IdxB.le (n:=2) (λ_=>rfl) (by decide) (rc:=(DW)) (re:=(D.int .i64)) (ZQ) (f:=IdxB.fv) ?_;intro a O;simp only[Tryz.f167,Option.getD];simp only[ZZ,simprocAttr,Ab,IdxB.ae,IdxB.fv,CT1.q,CT1.fv,BS,D.sc,D.scs,BJ,AQ];intro hn;refine AY.old ⟨{k:Nat//k<=a.1.length/\BO (Kd a.2) k (a.1.drop k)=BO (Kd a.2) 0 a.1},λk=>⟨[(8,.im (.int .i64 k.1)),(7,.im (.int .i64 a.1.length)),(6,.im (.sl false 3 (a.1.map Ag.c))),(4,.im (.int .i64 0)),(0,.im (.sl false 3 (a.1.map Ag.c))),(1,.im (.fn 145 [] [.ref [.int .i64 a.2]]))],[],0⟩,λk=>a.1.length - k.1,λk=>⟨by simp[ZG],AP _⟩,⟨⟨0,by simp⟩,by simp only[ZZ,simprocAttr,Ab,IdxB.ae,IdxB.fv,CT1.q,CT1.fv,BS,D.sc,D.scs,BJ,AQ,sub]⟩,λk=> ?_⟩;obtain⟨k,Q,z⟩:=k;simp only[ZZ,simprocAttr,Ab,IdxB.ae,IdxB.fv,CT1.q,CT1.fv,BS,D.sc,D.scs,BJ,AQ,sub,AO];refine⟨λG=>⟨G,λx Z=> ?_⟩,λG=> ?_⟩
 .rw[Hf Z,BO] at z;refine⟨λh=> ?_,λh=>Js G hn ⟨by omega,by rw[<-z,Af (by simpa using h)]⟩⟩;rw[Ai (by simpa using h)] at z;exact z
 .rw[DB (by omega),BO] at z;exact z
def Qu3{t:Int}{l:List Ag}{i:Nat}{b:Ag}(Q:l.find? (Kd t)=some b)(Z:BO (Kd t) 0 l=(i:Int))(h3:l[i]? =some b):G9 t (l.take (i+1))=l.take i:=by
 have hw:Kd t b=true:=rG Q;have G: ∀(l:List Ag) (o i:Nat),BO (Kd t) o l=((o+i:Nat):Int)-> ∀x∈l.take i,Kd t x=false:=by
  intro l;induction l with
  |nil=>intro o i _ x z;simp at z
  |cons y r ih=>
   intro o i h x z;cases i with
   |zero=>simp at z
   |succ i=>
    simp only[BO] at h;split at h
    .omega
    .rename_i hy;rw[EG] at z;rcases Bt.1 z with rfl|z
     .simpa using hy
     .exact ih (o+1) i (by rw[h];congr 1;omega) x z
 rw[IA,h3,yV,G9,List.filter_append];have O:(l.take i).filter (λb=>decide (t<=b.Strength))=l.take i:=by
  rw[yQ];intro x z
  have:=G l 0 i (by rw[Z];simp) x z
  simp only[Kd,J3] at this;simp only[Cy];omega
 simp only[Kd,Cy] at hw;rw[O,qZ (by simp;omega),List.filter_nil,D6]
def dlC.ca(a:List Ag×Int):List AV:=[.own 0,.im (.fn 145 [] [.ref [.int .i64 a.2]])]
def dlC.H0(a:List Ag×Int):Ao:=[(0,(true,.arr 160 3 (a.1.map Ag.c)))]
def dlC.H1(a:List Ag×Int):Ao:=[(1,(true,.arr 160 3 ((G9 a.2 a.1).map Ag.c)))]
def dlC.row:AE:=AL dlC.ca dlC.H0 1 (λa=>a.1.length<=1000000) (λj=>j==0) (λ_=> .own 1) dlC.H1 1000
def W1:=J @IdxB.q<|J @IdxB.fv.eq_1<|J @CT1.q @CT1.fv.eq_1
def dlC.ok:AI 143 dlC.row:=by
 refine Td (tC IdxB.ok (tC CT1.ok tN)) Tryz.func143 (exB:=λj=>j==1) (R:=λ_ r=>r= .own 1) (λ_=>rfl)
  (λa=>by simp[dlC.ca,dlC.H0,dlC.H1,AD,AV.bel,Av,BB,BU,Ac.nms,Aw,AV.nms,Aj,hget]) (λa p hp=> ?_) (λa r h=>by subst h;exact Dh.refl _) ?_
 rotate_left
 intro a Z;simp only[Tryz.f143,Option.getD,dlC.ca,dlC.H0,dlC.H1];simp only[ZZ,simprocAttr,Ab,W1,IdxB.ar,Br,Ax,dlC.ca,dlC.H0,dlC.H1];rcases nH (Kd a.2) a.1 0 with ⟨e1,Q⟩|⟨i0,b0,e1,Q,e3⟩
 .rw[Q,Ai rfl];refine⟨[],[(1,some 0)],⟨[(4,.own 1)],[(1,(true,.arr 160 3 (a.1.map Ag.c)))],2⟩,?_,by simp[ZG],by simp,?_⟩
  .simp only[Ar];simp only[ZZ,simprocAttr,Ab,W1,IdxB.ar,Br,Ax,dlC.ca,dlC.H0,dlC.H1,AS,AR]
  .simp only[ZZ,simprocAttr,Ab,W1,IdxB.ar,Br,Ax,dlC.ca,dlC.H0,dlC.H1]
   have:G9 a.2 a.1=a.1:=by
    rw[G9,yQ];intro b hb
    have:=yU.1 e1 b hb
    simp only[Kd,Cy] at this⊢;omega
   rw[this]
 .rw[FC] at Q;rw[Q,Af (by omega)];have aa:=(Cu.1 e3).1;rw[AA (by omega) (by omega)];obtain⟨l,hl⟩: ∃l,l=a.1:=⟨_,rfl⟩;obtain⟨t,ht⟩: ∃t,t=a.2:=⟨_,rfl⟩;simp only[<-hl,<-ht] at e1 Q e3 aa Z⊢;refine AY.old ⟨{j:Nat//j<=l.length},λj=>⟨[(6,.im (.int .i64 j.1)),(5,.im (.int .i64 (G9 t (l.take j.1)).length)),(0,.own 0),(1,.im (.fn 145 [] [.ref [.int .i64 t]]))],[(0,(true,.arr 160 3 ((G9 t (l.take j.1)++l.drop (G9 t (l.take j.1)).length).map Ag.c)))],2⟩,λj=>l.length - j.1,λj=>⟨by simp[ZG],by simp⟩,⟨⟨i0+1,by omega⟩,?_⟩,λj=> ?_⟩
  .have h1:=Qu3 e1 Q e3;simp only[ZZ,simprocAttr,Ab,W1,IdxB.ar,Br,Ax,dlC.ca,dlC.H0,dlC.H1,sub,h1,Ck];rw[show min i0 l.length=i0 by omega,QH];exact⟨⟨by omega,rfl⟩,rfl⟩
  obtain⟨j,hj⟩:=j;obtain⟨kp,hkp⟩: ∃kp,kp=G9 t (l.take j):=⟨_,rfl⟩;have ac:kp.length<=j:=by
   have:=Qln t (l.take j)
   rw[Ck] at this;rw[hkp];omega
  have O:(kp++l.drop kp.length).length=l.length:=by simp;omega
  simp only[<-hkp];simp only[ZZ,simprocAttr,Ab,W1,IdxB.ar,Br,Ax,dlC.ca,dlC.H0,dlC.H1,sub,AO,O];intro _;refine⟨λG=>⟨G,G,λb hb=> ?_⟩,λG=> ?_⟩
  .have ad:l[j]? =some b:=by
    rw[J2 ac,W8,show kp.length+(j - kp.length)=j by omega] at hb;exact hb
   have z:=Qjs t ad;rw[<-hkp] at z;refine⟨λhw=>⟨by omega,by omega,λc _=>⟨⟨j+1,by omega⟩,by simp only;omega,?_⟩⟩,λhw=>⟨⟨j+1,by omega⟩,by simp only;omega,?_⟩⟩
   .have hs:t<=b.Strength:=by
     simp only[Kd,J3] at hw;omega
    rw[Ai hs] at z;simp only[z,DZ,Dd,H9];refine⟨⟨by rw[AA (by omega) (by omega)];omega,by rw[AA (by omega) (by omega)];omega⟩,?_⟩;have h1:(kp++l.drop kp.length).set kp.length b=kp++[b]++l.drop (kp.length+1):=by
     obtain⟨c,hc⟩: ∃c,l[kp.length]? =some c:=⟨_,B2 (by omega)⟩;rw[Hf hc,rK _ _ (AP _),J4,dL,J0];rfl
    rw[<-h1,Vm];rfl
   .have hs: ¬t<=b.Strength:=by
     rw[Kj] at hw;simp only[Kd,Cy] at hw;omega
    rw[Af hs,D6] at z;simp only[z];exact⟨⟨by rw[AA (by omega) (by omega)];omega,trivial⟩,trivial⟩
  .refine⟨by omega,false,?_⟩;have ab:j=l.length:=by omega
   subst ab;rw[IB] at hkp;simp only[ZZ,simprocAttr,Ab,W1,IdxB.ar,Br,Ax,dlC.ca,dlC.H0,dlC.H1,O];have hA:List.take kp.length ((kp++l.drop kp.length).map Ag.c)=kp.map Ag.c:=by
    rw[<-List.map_take,List.take_left]
   rw[hA];refine⟨by simp only[DZ,Gh];omega,true,?_⟩;simp only[ZZ,simprocAttr,Ab,W1,IdxB.ar,Br,Ax,dlC.ca,dlC.H0,dlC.H1,O];refine⟨[],[(1,some 2)],⟨[(4,.own 1)],[(1,(true,.arr 160 3 (kp.map Ag.c)))],2⟩,?_,by simp[ZG],by simp,?_⟩
   .simp only[Ar];simp only[ZZ,simprocAttr,Ab,W1,IdxB.ar,Br,Ax,dlC.ca,dlC.H0,dlC.H1,AS,AR];rw[show ((kp.length:Int) - 0).toNat=(kp.map Ag.c).length by simp,J0,List.take_left]
   .simp only[ZZ,simprocAttr,Ab,W1,IdxB.ar,Br,Ax,dlC.ca,dlC.H0,dlC.H1,hkp]
 simp[dlC.H1] at hp;subst hp;exact .inr ⟨by omega,by omega,rfl,rfl⟩
def LV(b i:Nat)(x:Int):AV:=if 0<=x/\x<i then .ptr (b+x.toNat) 0 else .im .nilp
def Hk(b:Nat)(L:List Int)(i:Nat):Am:=(true,.cells 230 [LV b i (L[i]?.getD (-1)),.im (.int .i64 i)])
def Ey(b:Nat)(L:List Int)(n:Nat):Ao:=AG b n (Hk b L)
def Gr(L:List Int):Prop:= ∀(i:Nat) (x:Int),L[i]? =some x->x<i
def NC(L:List Int)(i:Nat):Nat->Nat
 |0=>i
 |m+1=>if L[i]?.getD (-1)<0 then i else NC L (L[i]?.getD (-1)).toNat m
def Em(L:List Int)(i:Nat):Nat:=NC L i i
def Qabj{L:List Int}(h:Gr L): ∀(i m m':Nat),i<=m->i<=m'->NC L i m=NC L i m':=by
 intro i;induction i using Nat.strongRecOn with
 |_ i ih=>
  intro m m' z G;cases hi:L[i]? with
  |none=>
   cases m<;>cases m'<;>simp[NC,hi]
  |some x=>
   have O:=h i x hi;by_cases h0:x<0
   .cases m<;>cases m'<;>simp[NC,hi,h0]
   .cases m with
    |zero=>omega
    |succ m=>
     cases m' with
     |zero=>omega
     |succ m'=>
      simp only[NC,hi,AT,Af h0];exact ih x.toNat (by omega) m m' (by omega) (by omega)
def Y9{L:List Int}(h:Gr L){i:Nat}{x:Int}(z:L[i]? =some x):Em L i=if x<0 then i else Em L x.toNat:=by
 have G:=h i x z;by_cases h0:x<0
 .rw[Ai h0,Em];cases i with
  |zero=>rfl
  |succ i=>simp only[NC,z,AT,Ai h0]
 .rw[Af h0,Em];cases i with
  |zero=>omega
  |succ i=>
   simp only[NC,z,AT,Af h0];exact Qabj h _ _ _ (by omega) (AP _)
def wG{L:List Int}(h:Gr L): ∀(i:Nat),Em L i<=i:=by
 intro i;induction i using Nat.strongRecOn with
 |_ i ih=>
  cases hi:L[i]? with
  |none=>rw[Em];cases i<;>simp[NC,hi]
  |some x=>
   rw[Y9 h hi];have z:=h i x hi;split
   .exact AP _
   .have:=ih x.toNat (by omega);omega
def firC.n(a:List Int×Nat):Nat:=min a.1.length 512
def firC.ca(a:List Int×Nat):List AV:=[.ptr (min a.2 511) 0]
def firC.H0(a:List Int×Nat):Ao:=Ey 0 a.1 (firC.n a)
def firC.r0(a:List Int×Nat):AV:= .ptr (Em a.1 a.2) 0
def firC.pre(a:List Int×Nat):Prop:=a.1.length<=512/\a.2<a.1.length/\Gr a.1
def firC.row:AE:=AL firC.ca firC.H0 600 firC.pre (λ_=>false) firC.r0 (λ_=>[]) 0
def firC.hbel(a:List Int×Nat):AD 600 (firC.ca a)=true:=by
 simp only[firC.ca,AD,AV.bel,Ep,Ed];omega
def Qt5(nx b:Nat)(f:Nat->Am)(n:Nat)(hf: ∀i,i<n->Av nx [(b+i,f i)]=true):Av nx (AG b n f)=true:=by
 have: ∀(l:List Nat),(∀i∈l,i<n)->Av nx (l.map λi=>(b+i,f i))=true:=by
  intro l;induction l with
  |nil=>intro _;rfl
  |cons i r ih=>
   intro z;rw[Bb,show (b+i,f i)::(r.map λi=>(b+i,f i))=[(b+i,f i)]++(r.map λi=>(b+i,f i)) from rfl,iH,hf i (z i (BQ ..)),ih (λj O=>z j (BK _ O))];rfl
 exact this _ (λi G=>Bk.1 G)
def Xu(b i N:Nat)(x:Int)(h:b+i<=N):(LV b i x).bel N=true:=by
 simp only[LV];split
 .simp only[AV.bel,Ed];omega
 .rfl
def pA(b n N:Nat)(L:List Int)(h:b+n<=N):Av N (Ey b L n)=true:=Qt5 _ _ _ _ λi z=>by
 simp only[Hk,Av,AD,Xu b i N _ (by omega),AV.bel,dT]
def firC.n_le(a:List Int×Nat):firC.n a<=512:=Zh _ _
def firC.hbH(a:List Int×Nat):Av 600 (firC.H0 a)=true:=pA _ _ _ _ (by have:=firC.n_le a;omega)
def firC.hkH(a:List Int×Nat):BB 600 (firC.H0 a)=true:=N6 _ _ _ _ (by have:=firC.n_le a;omega)
def JX(b n:Nat)(L:List Int)(i:Nat)(h:i<n):hget (Ey b L n) (b+i)=some (Hk b L i):=DY _ _ _ _ h
def ZX{H0:Ao}{b n:Nat}{f:Nat->Am}(h: ∀i,i<n-> ∀m∈(f i).2.nms,Aj H0 m=true):BU H0 (AG b n f):=by
 have: ∀(l:List Nat),(∀i∈l,i<n)->BU H0 (l.map λi=>(b+i,f i)):=by
  intro l;induction l with
  |nil=>intro _;trivial
  |cons i r ih=>
   intro z;simp only[Bb];exact⟨h i (z i (BQ ..)),ih (λj O=>z j (BK _ O))⟩
 exact this _ (λi G=>Bk.1 G)
def firC.hnm(a:List Int×Nat):BU (firC.H0 a) (firC.H0 a):=by
 refine ZX λi G m z=> ?_
 simp only[Hk,Ac.nms,Aw,LV] at z;split at z
 .simp only[AV.nms,D6,BL] at z;subst z;rename_i h;simp only[Aj,firC.H0];rw[JX 0 _ _ _ (by omega)];rfl
 .simp[AV.nms] at z
def Po(s:Az)(b n:Nat)(f:Nat->Am):BZ s (AG b n f)= ∀i,i<n->hget s.h (b+i)=some (f i):=by
 have: ∀(l:List Nat),BZ s (l.map λi=>(b+i,f i))↔ ∀i∈l,hget s.h (b+i)=some (f i):=by
  intro l;induction l with
  |nil=>simp[BZ]
  |cons i r ih=>simp only[Bb,BZ,ih,Bt,zL]
 apply propext;rw[AG,this];simp only[Bk]
def pE{s:Az}{b n:Nat}{L:List Int}(h: ∀i,i<n->hget s.h (b+i)=some (Hk b L i)):BZ s (Ey b L n):=by
 rw[Ey,Po];exact h
def firC.ok:AI 166 firC.row:=by
 refine ow tN Tryz.func166 (exB:=λ_=>false) (R:=λa r=>r=firC.r0 a) (λ_=>rfl)
  (λa=>⟨firC.hbel a,firC.hbH a,firC.hkH a,firC.hnm a⟩) (λa p hp=> ?_) (λa r h=>by subst h;exact Dh.refl _) ?_
 rotate_left
 intro a Z;simp only[Tryz.f166,Option.getD,firC.ca];simp only[ZZ,simprocAttr,Ab,Ax,firC.ca];obtain⟨L,i⟩:=a;obtain⟨h1,h2,h3⟩:=Z;simp only at h1 h2 h3;obtain⟨n,hn⟩: ∃n,n=L.length:=⟨_,rfl⟩;have ab:firC.n (L,i)=n:=by simp only[firC.n,<-hn];omega
 simp only[firC.H0,firC.r0,ab,Bq];rw[<-hn] at h1 h2;rw[show min i 511=i by omega];refine AY.old ⟨{g:Nat//g<n/\Em L g=Em L i},λg=>⟨[(0,.ptr g.1 0)],Ey 0 L n,600⟩,λg=>g.1,λg=>⟨?_,by simp⟩,⟨⟨i,h2,rfl⟩,?_⟩,λg=> ?_⟩
 .simp only[Az.good,Cp,AV.bel,Ep,AW,Ed];exact⟨by omega,pA _ _ _ _ (by omega),N6 _ _ _ _ (by omega)⟩
 .simp only[sub,Gw,A8];refine⟨?_,pE (λi Q=>JX 0 n L i Q)⟩;simp only[ZZ,simprocAttr,Ab,Ax,firC.ca]
 obtain⟨g,hg,hr⟩:=g;obtain⟨x,hx⟩: ∃x,L[g]? =some x:=⟨_,B2 (by omega)⟩;have ac:=h3 g x hx;have z:=JX 0 n L g hg;rw[FC] at z;simp only[Hk,hx,AT] at z;have aa:=Y9 h3 hx;by_cases h0:x<0
 .have G:LV 0 g x= .im .nilp:=Af (by omega);rw[G] at z;simp only[ZZ,simprocAttr,Ab,Ax,firC.ca,sub,AO,z,Bq];rw[Ai h0] at aa;exact⟨by omega,by omega,by omega,by omega,by omega,qN _ _ _ _ _ (λi Q=> .inr (JX 0 n L i Q)),by omega⟩
 .have G:LV 0 g x= .ptr x.toNat 0:=by simp only[LV];rw[Ai ⟨by omega,ac⟩,FC]
  rw[G] at z;have O:=JX 0 n L x.toNat (by omega);rw[FC] at O;simp only[ZZ,simprocAttr,Ab,Ax,firC.ca,sub,AO,z,O,Bq];rw[Af h0] at aa;exact⟨by omega,by omega,by omega,by omega,by omega,by omega,by omega,by omega,by omega,⟨x.toNat,by omega,by omega⟩,by simp only;omega,rfl,pE (λi Q=>JX 0 n L i Q)⟩
 simp at hp
def JZ(b n k:Nat):List (List AV):=(List.range n).map λi=>if i<k then [AV.ptr (b+i) 0] else [.im .nilp]
def Jt(b n k:Nat):(JZ b n k).length=n:=by simp[JZ]
def uZ(b n k i:Nat)(h:i<n):(JZ b n k)[i]? =some (if i<k then [.ptr (b+i) 0] else [.im .nilp]):=by simp[JZ,FN h]
def xT(b n k i:Nat)(K:List AV->Prop)(h:i<n):Jx (JZ b n k) i K=K (if i<k then [.ptr (b+i) 0] else [.im .nilp]):=by
 apply propext;unfold Jx;rw[uZ b n k i h];exact⟨λh=>h _ rfl,λh row z=>by obtain rfl:=AB z;exact h⟩
def vO(b n k N:Nat)(h:b+k<=N):(JZ b n k).all (AD N)=true:=by
 rw[CM];intro r z;obtain⟨i,G,rfl⟩:=Bn.1 z;split
 .simp[AD,AV.bel];omega
 .simp[AD,AV.bel]
def Qnw(b n N:Nat)(L:List Int)(h:b+n<=N):BB N (Ey b L n)=true:=N6 _ _ _ _ h
def OQ(b n:Nat)(π:List (Nat×Option Nat)):FQ π (JZ b n 0) (Bi (List.replicate n [.nilp])):=by
 have e:JZ b n 0=Bi (List.replicate n [.nilp]):=by
  simp only[JZ,Bi,rJ,CA,List.map_replicate];rw[List.map_const',I9];rfl
 rw[e];exact yG _ _
def Xv{σ:Nat->Nat}{i:Nat}{x:Int}(h: ∀j,j<i->σ j=1000+j):(LV 0 i x).ren σ=LV 1000 i x:=by
 simp only[LV];split
 .simp only[AV.ren,FC];rw[h _ (by omega)]
 .rfl
def Nw{h:Nat->Option Am}{σ:Nat->Nat}{b n:Nat}{f:Nat->Am}(H: ∀i,i<n->h (σ (b+i))=some ((f i).1,(f i).2.ren σ)):D5 h σ (AG b n f):=by
 have: ∀(l:List Nat),(∀i∈l,i<n)->D5 h σ (l.map λi=>(b+i,f i)):=by
  intro l;induction l with
  |nil=>intro _;trivial
  |cons i r ih=>
   intro z;simp only[Bb];exact⟨H i (z i (BQ ..)),ih (λj O=>z j (BK _ O))⟩
 exact this _ (λi G=>Bk.1 G)
def Xf{n:Nat}{L:List Int}{j:Nat}(h:Aj (Ey 0 L n) j=true):j<n:=by
 simp only[Aj,Ey,iM] at h;split at h
 .omega
 .cases h
def Qtp{H:Nat->Option Am}{L:List Int}{k nx u:Nat}{K:Ah}(Q:L.length=k)(hk:k<=512)(G:Gr L)(hu:u<k)(aa:2000<=nx)(hH: ∀i,i<k->H (1000+i)=some (Hk 1000 L i))
 (O: ∀U,K (.ptr (1000+Em L u) 0) {use:=U}):firC.row [.ptr (1000+u) 0] H nx K:=by
 have hσ: ∀j,j<600->B0 (λj=>1000+j) 600 nx j=1000+j:=λj z=>Ai z
 have hn:firC.n (L,u)=k:=by simp only[firC.n,Q];omega
 have hr:=wG G u;refine⟨(L,u),λj=>1000+j,(List.range k).map (1000+ ·),[],⟨by simp only;omega,by simp only;omega,G⟩,?_,?_,?_,?_⟩
 .simp only[firC.ca,AH,AV.ren];rw[show min u 511=u by omega,hσ u (by omega)]
 .simp only[firC.H0,hn,Ey];refine Nw λi Z=> ?_
  rw[FC,hσ i (by omega),hH i Z];simp only[Hk,Ac.ren,AH,AV.ren];rw[Xv (λj z=>hσ j (by omega))]
 .have hd: ∀j,Aj (firC.H0 (L,u)) j=true->j<k:=λj z=>by simp only[firC.H0,hn] at z;exact Xf z
  refine⟨λi j _ _ h=> ?_,λj z=> ?_,λj z=> ?_,λm hm=>(by cases hm),λj _ z=>(by cases z)⟩
  .have h:1000+i=1000+j:=h;omega
  .have:=hd j z
   show 1000+j<nx;omega
  exact Bn.2 ⟨j,Bk.2 (hd j z),rfl⟩
 .have e:(firC.r0 (L,u)).ren (B0 (λj=>1000+j) 600 nx)= .ptr (1000+Em L u) 0:=by
   simp only[firC.r0,AV.ren];rw[hσ _ (by omega)]
  rw[e];exact O _
def Qug(k:Nat):Gr (List.replicate k (-1)):=by
 intro i x h
 have:=NJ (Bf h)
 omega
def vA: ∀(k i:Nat),i<k->(Wx k)[i]? =some (i:Int)
 |0,i,h=>by omega
 |k+1,i,h=>by
  simp only[Wx];by_cases z:i<k
  .rw[H6 (by rw[bY];exact z)];exact vA k i z
  .have:i=k:=by omega
   subst this;rw[J2 (by rw[bY];exact AP _),bY,J4];rfl
def OB{k i:Nat}{bs:List Ag}(h:i<k):(Ce k bs 0)[i]? =some ((Em (List.replicate k (-1)) i:Nat):Int):=by
 simp only[Ce];rw[vA k i h]
 have:=Y9 (Qug k) (i:=i) (x:= -1) (by rw[Lh,Ai h])
 rw[this,Ai (by omega)]
def Qls{L:List Int}(h:Gr L): ∀(i:Nat),Em L (Em L i)=Em L i:=by
 intro i;induction i using Nat.strongRecOn with
 |_ i ih=>
  cases hi:L[i]? with
  |none=>
   have:Em L i=i:=by rw[Em];cases i<;>simp[NC,hi]
   rw[this,this]
  |some x=>
   have z:=h i x hi;rw[Y9 h hi];split
   .rename_i h0;rw[Y9 h hi,Ai h0]
   .exact ih x.toNat (by omega)
def Qsx{L:List Int}(h:Gr L){p q:Nat}(O:p<q):Gr (L.set q (p:Int)):=by
 intro i x z;by_cases hq:q=i
 .subst hq;have G:q<L.length:=by have:=(Cu.1 z).1;simpa using this
  rw[DC G] at z;obtain rfl:=AB z;omega
 .rw[DL hq] at z;exact h i x z
def Qqx{L:List Int}(h:Gr L){p q:Nat}(hp:Em L p=p)(hq:Em L q=q)(G:p<q)(O:q<L.length): ∀(i:Nat),Em (L.set q (p:Int)) i=if Em L i=q then p else Em L i:=by
 have h':=Qsx h G;intro i;induction i using Nat.strongRecOn with
 |_ i ih=>
  by_cases z:q=i
  .subst z;have e:(L.set q (p:Int))[q]? =some (p:Int):=DC O;rw[Y9 h' e,Af (by omega),Bj,ih p G,hp,Af (by omega),hq,Ai rfl]
  .have e:(L.set q (p:Int))[i]? =L[i]? :=DL z;cases hi:L[i]? with
   |none=>
    have Q:Em L i=i:=by rw[Em];cases i<;>simp[NC,hi]
    have r2:Em (L.set q (p:Int)) i=i:=by rw[Em];cases i<;>simp[NC,e,hi]
    rw[Q,r2,Af (Fz z)]
   |some x=>
    have Z:=h i x hi;rw[hi] at e;rw[Y9 h' e,Y9 h hi];by_cases h0:x<0
    .rw[Ai h0,Ai h0,Af (Fz z)]
    .rw[Af h0,Af h0];exact ih x.toNat (by omega)
def LP{x y:Nat}(h:x<y)(r:Nat):Jy (x:Int) (y:Int) (r:Int)=((if r=y then x else r:Nat):Int)/\Jy (y:Int) (x:Int) (r:Int)=((if r=y then x else r:Nat):Int):=by
 have m1:Ei (x:Int) y=y:=Af (by omega);have G:Ei (y:Int) x=y:=Ai (by omega);have O:EL (x:Int) y=x:=Ai (by omega);have Q:EL (y:Int) x=x:=Af (by omega);simp only[Jy,m1,G,O,Q];by_cases z:r=y
 .rw[Ai z,Ai (by omega)];exact⟨rfl,rfl⟩
 .rw[Af z,Af (by omega)];exact⟨rfl,rfl⟩
def Xr(x r:Nat):Jy (x:Int) (x:Int) (r:Int)=(r:Int):=by
 have m1:Ei (x:Int) x=x:=Af (by omega);have G:EL (x:Int) x=x:=Af (by omega);simp only[Jy,m1,G];by_cases z:(r:Int)=x
 .rw[Ai z,z]
 .rw[Af z]
def Vu(p:Int×Int):D×D:=(.int .i64 p.1,.int .i64 p.2)
def Il(M:List (Int×Int))(x:Int):Option Int:=(M.find? (λp=>p.1==x)).map (·.2)
def St(x:Int): ∀(M:List (Int×Int)),lk (M.map Vu) (.int .i64 x)=(Il M x).map (D.int .i64)
 |[]=>rfl
 |(k,v)::r=>by
  have ih:=St x r;simp only[Il] at ih;by_cases h:k=x
  .subst h;simp[lk,Vu,Il,D.beq]
  .have z: ¬x=k:=λe=>h e.symm
   have G:(x==k)=false:=by simpa using z
   simp[lk,Vu,Il,D.beq,h,G,ih]
def Xx(x:Int)(M:List (Int×Int))(Ks:D->Prop)(Kn:Prop):Ip (M.map Vu) (.int .i64 x) Ks Kn=((∀v,Il M x=some v->Ks (.int .i64 v))/\(Il M x=none->Kn)):=by
 apply propext;unfold Ip;rw[St];cases Il M x<;>simp
def MX(x v:Int): ∀(M:List (Int×Int)),Il M x=none->Ek (M.map Vu) (.int .i64 x) (.int .i64 v)=(M++[(x,v)]).map Vu
 |[],_=>rfl
 |(k,w)::r,h=>by
  by_cases z:k=x
  .subst z;simp[Il] at h
  .have G: ¬x=k:=λe=>z e.symm
   have Q:Il r x=none:=by simpa[Il,z] using h
   have ih:=MX x v r Q;simp only[Bb,BG,Vu] at ih⊢;have O:(x==k)=false:=by simpa using G
   simp[Ek,D.beq,O,ih,Vu]
def LX(M:List (Int×Int))(x v y:Int):Il (M++[(x,v)]) y=(Il M y).or (if x=y then some v else none):=by
 simp only[Il,List.find?_append];cases h:M.find? (λp=>p.1==y) with
 |some p=>simp
 |none=>
  by_cases z:x=y
  .subst z;simp
  .simp[z]
def vM{own:List Int}{i:Nat}(h:own[i]? =some (i:Int)): ∀k,∃z,CU own i (k+1)=(i:Int)::z
 |0=>⟨[],by simp[CU,h]⟩
 |k+1=>by
  obtain⟨z,G⟩:=vM h k;rw[CU,G];exact⟨_,rfl⟩
def Qjv(own:List Int)(n:Nat): ∀k,k<=n-> ∀g∈BA own n k,∃(r:Nat) (rest:List Int),g=(r:Int)::rest/\r<k/\own[r]? =some (r:Int)
 |0,_,g,h=>by simp[BA] at h
 |k+1,hk,g,h=>by
  simp only[BA,Bz] at h;rcases h with h|h
  .obtain⟨r,rest,O,Z,Q⟩:=Qjv own n k (by omega) g h;exact⟨r,rest,O,by omega,Q⟩
  .split at h
   .rename_i z;obtain rfl:=BL.1 h;obtain⟨rest,G⟩:=vM z (n - k - 1);rw[show n - k - 1+1=n - k by omega] at G;exact⟨k,rest,G,by omega,z⟩
   .cases h
def Qo6(own:List Int)(n:Nat)(r:Nat)(O:own[r]? =some (r:Int)): ∀k,k<=n->r<k-> ∃z,((r:Int)::z)∈BA own n k
 |0,_,h=>by omega
 |k+1,Z,h=>by
  by_cases G:r=k
  .subst G;obtain⟨z,G⟩:=vM O (n - r - 1);rw[show n - r - 1+1=n - r by omega] at G;exact⟨z,by simp[BA,O,G]⟩
  .obtain⟨z,Q⟩:=Qo6 own n r O k (by omega) (by omega);exact⟨z,by simp only[BA,Bz];exact .inl Q⟩
def Qy0(own:List Int)(n:Nat): ∀k,∀g∈BA own n k,g.length<=n
 |0,g,h=>by simp[BA] at h
 |k+1,g,h=>by
  simp only[BA,Bz] at h;rcases h with h|h
  .exact Qy0 own n k g h
  .split at h
   .obtain rfl:=BL.1 h
    have:=Qsd own k (n - k)
    omega
   .cases h
def Og{h:Nat->Option Am}{b m:Nat}{G:List (List Int)}(H: ∀q,q<G.length->h (b+q)=some (true,.arr 2 1 ((G[q]?.getD []).map Ak))):
 Aq (Aq λx=>Ee (Bd h (HP 0 []) (m+1) x)) (Dc b G.length)=some (G.map CK):=by
 have: ∀(l:List Nat),(∀q∈l,q<G.length)->Aq (Aq λx=>Ee (Bd h (HP 0 []) (m+1) x)) (l.map λi=>[AV.own (b+i)])=some (l.map λq=>CK (G[q]?.getD [])):=by
  intro l;induction l with
  |nil=>intro _;rfl
  |cons q r ih=>
   intro Q;have h0:HP 0 [] (b+q)=none:=rfl;have O:=ih (λx Z=>Q x (BK _ Z));have e:Aq (λx=>Ee (Bd h (HP 0 []) (m+1) x)) [AV.own (b+q)]=some (CK (G[q]?.getD [])):=by
    simp only[Aq,Bd,h0,H q (Q q (BQ ..)),P7,kp,D7,Ee,AV.asD];rfl
   rw[Bb,Aq,e,O];rfl
 rw[Dc,this _ (λq hq=>Bk.1 hq)];congr 1;apply QI;intro j;by_cases z:j<G.length
 .rw[Dt,FN z,Dt,B2 z,D7,D7,B2 z,AT]
 .rw[HB (by simp;omega),HB (by simp;omega)]
def IN(r:Int)(m:Nat)(g:List Int):List Int:=if g.head? =some r then g++[(m:Int)] else g
def Ql4(own:List Int)(m:Nat)(r:Int)(Q:own[m]? =some r): ∀k,k<=m->BA own (m+1) k=(BA own m k).map (IN r m)
 |0,_=>rfl
 |k+1,hk=>by
  rw[BA,BA,En,Ql4 own m r Q k (by omega)];congr 1;by_cases G:own[k]? =some (k:Int)
  .rw[Ai G,Ai G];obtain⟨Z,O⟩:=vM G (m - k - 1);rw[show m - k - 1+1=m - k by omega] at O;have e:CU own k (m+1 - k)=CU own k (m - k)++(if own[m]? =some (k:Int) then [(m:Int)] else []):=by
    rw[show m+1 - k=(m - k)+1 by omega,CU,show k+(m - k)=m by omega]
   rw[e,Q];simp only[Bb,BD,IN,O,ZeU,AM];by_cases z:r=(k:Int)
   .rw[Ai z,Ai z.symm]
   .rw[Af z,Af (Fz z),D6]
  .rw[Af G,Af G];rfl
structure pO(out:List (List Int))(M:List (Int×Int)):Prop where
 a: ∀r v,Il M r=some v-> ∃(g:Nat) (rest:List Int),v=g/\out[g]? =some (r::rest)
 b: ∀(g:Nat) (r:Int) (rest:List Int),out[g]? =some (r::rest)->Il M r=some (g:Int)
def RW{own:List Int}{i:Nat}{M:List (Int×Int)}{r:Nat}(hP:pO (BA own i i) M)(ho:own[i]? =some (r:Int))(hr:r<=i)(ab:own[r]? =some (r:Int))(hn:Il M r=none):
 r=i/\BA own (i+1) (i+1)=BA own i i++[[(i:Int)]]/\pO (BA own (i+1) (i+1)) (M++[((i:Int),((BA own i i).length:Int))]):=by
 have aa:r=i:=by
  by_cases h:r<i
  .obtain⟨z,hm⟩:=Qo6 own i r ab i (by omega) h;obtain⟨g,G⟩:=Vo.1 hm;rw[hP.b g _ _ G] at hn;cases hn
  .omega
 subst aa;have e:BA own (r+1) (r+1)=BA own r r++[[(r:Int)]]:=by
  rw[BA,Ql4 own r r ho r (AP _),Ai ho];congr 1
  .conv=>rhs;rw[<-List.map_id (BA own r r)]
   apply Ii;intro g G;obtain⟨q,z,Q,Z,_⟩:=Qjv own r r (AP _) g G;simp only[IN,Q,ZeU,AM,id];rw[Af (by omega)]
  .rw[show r+1 - r=0+1 by omega];simp[CU,ho]
 refine⟨rfl,e,?_⟩;rw[e];refine⟨λq v O=> ?_,λg q z G=> ?_⟩
 .rw[LX] at O;cases hq:Il M q with
  |some w=>
   rw[hq] at O;obtain rfl:=AB O;obtain⟨g,z,Q,Z⟩:=hP.a q _ hq;exact⟨g,z,Q,by rw[H6 (Cu.1 Z).1];exact Z⟩
  |none=>
   rw[hq] at O;simp only[Option.none_or] at O;split at O
   .rename_i h;obtain rfl:=AB O;exact⟨_,[],rfl,by rw[J2 (AP _),J4,<-h];rfl⟩
   .cases O
 .rw[LX];by_cases hl:g<(BA own r r).length
  .rw[H6 hl] at G;rw[hP.b g q z G];rfl
  .rw[J2 (by omega)] at G;have h0:g - (BA own r r).length=0:=by
    have:=(Cu.1 G).1
    simpa using this
   rw[h0] at G;simp only[HA,AM,Vj] at G;rw[<-G.1,hn,Ai rfl,Option.none_or];congr 1;omega
def RX{own:List Int}{i:Nat}{M:List (Int×Int)}{r:Int}{g:Nat}{rest:List Int}(hP:pO (BA own i i) M)(ho:own[i]? =some r)(Q:(BA own i i)[g]? =some (r::rest)):
 BA own (i+1) (i+1)=(BA own i i).set g (r::rest++[(i:Int)])/\pO (BA own (i+1) (i+1)) M:=by
 have ab:r≠i:=by
  obtain⟨q,rs,Z,G,_⟩:=Qjv own i i (AP _) _ (Bf Q)
  have:=(Zfg Z).1
  omega
 have e:BA own (i+1) (i+1)=(BA own i i).set g (r::rest++[(i:Int)]):=by
  rw[BA,Ql4 own i r ho i (AP _),Af (by rw[ho];simpa using ab),D6];apply QI;intro j;rw[Dt];by_cases O:g=j
  .subst O;rw[DC (Cu.1 Q).1,Q];simp[IN]
  .rw[DL O];cases hx:(BA own i i)[j]? with
   |none=>rfl
   |some x=>
    simp only[D7,IN];rw[Af];intro hh;cases x with
    |nil=>cases hh
    |cons q rs=>
     simp only[ZeU,AM] at hh;subst hh;have Z:=hP.b j _ _ hx;have G:=hP.b g _ _ Q;rw[Z] at G
     have:=AB G
     omega
 refine⟨e,?_⟩;rw[e];have aa:=(Cu.1 Q).1;refine⟨λq v hv=> ?_,λg' q rs z=> ?_⟩
 .obtain⟨j,rs,Z,G⟩:=hP.a q v hv;by_cases O:g=j
  .subst O;rw[Q] at G;simp only[AM,Vj] at G;exact⟨g,rest++[(i:Int)],Z,by rw[DC aa,G.1];rfl⟩
  .exact⟨j,rs,Z,by rw[DL O];exact G⟩
 .by_cases O:g=g'
  .subst O;rw[DC aa] at z;simp only[AM,BG,Vj] at z;rw[<-z.1];exact hP.b g _ _ Q
  .rw[DL O] at z;exact hP.b g' _ _ z
def EK(b:Nat)(G:List (List Int)):Ao:=AG b G.length (λi=>(true,.arr 2 1 ((G[i]?.getD []).map Ak)))
def RT(b N:Nat)(G:List (List Int))(h:b+G.length<=N):Av N (EK b G)=true:=Qt5 _ _ _ _ λi z=>by simp[Av]
def RU(b N:Nat)(G:List (List Int))(h:b+G.length<=N):BB N (EK b G)=true:=N6 _ _ _ _ h
def sZ{π:List (Nat×Option Nat)}{b n k:Nat}(h: ∀i,i<k->pm π (b+i)=some (b+i)):FQ π (JZ b n k) (JZ b n k):=by
 rw[Wp];refine⟨rfl,λi x y z Q=> ?_⟩;rw[z] at Q;obtain rfl:=AB Q;have G:i<n:=by have:=(Cu.1 z).1;rwa [Jt] at this
 rw[uZ _ _ _ _ G] at z;obtain rfl:=AB z;split
 .rename_i O;simp only[Dp,mt,h i O,GO,E8]
 .simp only[Dp,mt,E8]
def O7(A:List Nat)(b n c m:Nat)(h:A.Nodup)(Z: ∀x∈A,(x<b\/b+n<=x)/\(x<c\/c+m<=x))(aa:b+n<=c):(A++((List.range n).map (b+ ·)++(List.range m).map (c+ ·))).Nodup:=by
 have Q: ∀b n,((List.range n).map (b+ ·)).Nodup:=λb n=>by have:=bT [] b n (by simp) (by simp);simpa using this
 rw[Vp];refine⟨h,?_,λx O y z=> ?_⟩
 .rw[Vp];refine⟨Q _ _,Q _ _,λx O y z=> ?_⟩;obtain⟨i,hi,rfl⟩:=Bn.1 O;obtain⟨j,G,rfl⟩:=Bn.1 z
  have:=Bk.1 hi
  omega
 .have:=Z x O
  rcases Bz.1 z with z|z
  .obtain⟨j,G,rfl⟩:=Bn.1 z
   have:=Bk.1 G
   omega
  .obtain⟨j,G,rfl⟩:=Bn.1 z
   have:=Bk.1 G
   omega
def Qyb(b:Nat)(G:List (List Int))(g:Nat)(h:g<G.length):hget (EK b G) (b+g)=some (true,.arr 2 1 ((G[g]?.getD []).map Ak)):=DY _ _ _ _ h
def Xg(b k:Nat)(L:List Int)(m:Nat)(h:m<b\/b+k<=m):hget (Ey b L k) m=none:=vY _ _ _ _ h
def wA(k:Nat)(L:List Int)(G:List (List Int))(i:Nat)(h:i<k):hget (Ey 1000 L k++EK 3000 G) (1000+i)=some (Hk 1000 L i):=by
 rw[PB,JX _ _ _ _ h];rfl
def wC(k:Nat)(L:List Int)(G:List (List Int))(g:Nat)(z:k<=512)(h:g<G.length):hget (Ey 1000 L k++EK 3000 G) (3000+g)=some (true,.arr 2 1 ((G[g]?.getD []).map Ak)):=by
 rw[PB,Xg _ _ _ _ (by omega),Qyb _ _ _ h];rfl
def Sn(k:Nat)(L:List Int)(G:List (List Int)):Fc (Ey 1000 L k++EK 3000 G)=(List.range k).map (1000+ ·)++(List.range G.length).map (3000+ ·):=by
 rw[Qpf,Ey,EK,VZ,VZ]
def gI(k:Nat)(L:List Int)(i:Nat)(M:List (Int×Int))(G:List (List Int)):Az:=⟨[(81,.im (.int .i64 i)),(80,.im (.int .i64 k)),(79,.own 2),(12,.mp 2001),(11,.own 2100)],(2001,(true,.map {agg:=false,ks:=[KK.int .i64]} (M.map Vu)))::(2100,(true,.arrA 95 1 (Dc 3000 G.length)))::(2,(true,.arrA 228 1 (JZ 1000 k k)))::(Ey 1000 L k++EK 3000 G),4000⟩
def Xc{k:Nat}{L:List Int}{i:Nat}{M:List (Int×Int)}{G:List (List Int)}(O:k<=512)(z:G.length<=512):(gI k L i M G).good=true:=by
 simp only[gI,Az.good,Av,BB,iH,vX,pA 1000 k 4000 _ (by omega),vO 1000 k k 4000 (by omega),Qnw 1000 k 4000 _ (by omega),VX 3000 G.length 4000 (by omega),RT 3000 4000 G (by omega),RU 3000 4000 G (by omega)];simp[Cp,AV.bel]
def Qxg{π:List (Nat×Option Nat)}{s:Az}{k:Nat}{L:List Int}{i:Nat}{M:List (Int×Int)}{G:List (List Int)}{O:Nat}{T:Nat->Nat}(hk:k<=512)(hG:G.length<=512)
 (ac:HO 2002 π)(p1:pm π 2001=some 2001)(p2:pm π 2=some 2)(p3: ∀j,j<k->pm π (1000+j)=some (1000+j))(p4:pm π 2100=some O)(p5: ∀q,q<G.length->pm π (3000+q)=some (T q))
 (t1:A8 s.tm 81= .im (.int .i64 i))(t2:A8 s.tm 80= .im (.int .i64 k))(t3:A8 s.tm 79= .own 2)(t4:A8 s.tm 12= .mp 2001)(t5:A8 s.tm 11= .own O)
 (g1:hget s.h 2001=some (true,.map {agg:=false,ks:=[KK.int .i64]} (M.map Vu)))(g2:hget s.h 2=some (true,.arrA 228 1 (JZ 1000 k k)))(g3: ∀j,j<k->hget s.h (1000+j)=some (Hk 1000 L j))
 (g4:(G.length=0/\hget s.h O=some (true,.arr 95 1 []))\/hget s.h O=some (true,.arrA 95 1 ((List.range G.length).map λq=>[.own (T q)])))
 (g5: ∀q,q<G.length->hget s.h (T q)=some (true,.arr 2 1 ((G[q]?.getD []).map Ak)))
 (inj: ∀q q',q<G.length->q'<G.length->T q=T q'->q=q')(out: ∀q,q<G.length->T q≠O/\3000<=T q)(hO:2000<=O/\O≠2001):Ar 2002 π s (gI k L i M G):=by
 refine⟨ac,?_,?_,?_⟩
 .rw[YK];simp only[gI,Fc,Sn];have ab: ∀x∈[2001,2100,2]++((List.range k).map (1000+ ·)++(List.range G.length).map (3000+ ·)),(x=2001/\pm π x=some 2001)\/(x=2/\pm π x=some 2)\/(x=2100/\pm π x=some O)\/(1000<=x/\x<1000+k/\pm π x=some x)\/(3000<=x/\x<3000+G.length/\pm π x=some (T (x - 3000))):=by
   intro x z;rcases Bz.1 z with z|z
   .simp only[Bt,PM,Lk] at z;rcases z with rfl|rfl|rfl
    .exact .inl ⟨rfl,p1⟩
    .exact .inr (.inr (.inl ⟨rfl,p4⟩))
    .exact .inr (.inl ⟨rfl,p2⟩)
   .rcases Bz.1 z with z|z
    .obtain⟨j,Q,rfl⟩:=Bn.1 z;have Q:=Bk.1 Q;exact .inr (.inr (.inr (.inl ⟨by show 1000<=1000+j;omega,by show 1000+j<1000+k;omega,p3 j Q⟩)))
    .obtain⟨j,Q,rfl⟩:=Bn.1 z;have Q:=Bk.1 Q;exact .inr (.inr (.inr (.inr ⟨by show 3000<=3000+j;omega,by show 3000+j<3000+G.length;omega,by show pm π (3000+j)=some (T (3000+j - 3000));rw[show 3000+j - 3000=j by omega];exact p5 j Q⟩)))
  refine YO _ _ (O7 [2001,2100,2] 1000 k 3000 G.length (by simp) (by simp;omega) (by omega)) ?_;intro x z y hy m Z aa;rcases ab x z with ⟨a1,a2⟩|⟨a1,a2⟩|⟨a1,a2⟩|⟨a0,a1,a2⟩|⟨a0,a1,a2⟩<;>rcases ab y hy with ⟨b1,b2⟩|⟨b1,b2⟩|⟨b1,b2⟩|⟨b0,b1,b2⟩|⟨b0,b1,b2⟩<;>
   rw[a2] at Z<;>rw[b2] at aa<;>have Z:=AB Z<;>have aa:=AB aa<;>first
   |omega
   |(have:=out (x - 3000) (by omega);omega)
   |(have:=out (y - 3000) (by omega);omega)
   |(have:=inj (x - 3000) (y - 3000) (by omega) (by omega) (Z.trans aa.symm);omega)
 .simp only[gI,H4,t1,t2,t3,t4,t5,mt,p2,p1,p4,EO,GO,E8]
 .simp only[gI,ES,wL,p1,p2,p4,CE,g1,g2];refine⟨⟨rfl,rfl⟩,?_,⟨rfl,rfl,rfl,sZ p3⟩,?_,?_⟩
  .rcases g4 with ⟨h0,h1⟩|h1
   .rw[h1,h0];exact⟨rfl,rfl,rfl,trivial⟩
   .rw[h1];exact⟨rfl,rfl,rfl,Qyn p5 rfl⟩
  .rw[Ey,YG];intro j Q;rw[p3 j Q,CE,g3 j Q];refine⟨rfl,?_⟩;simp only[Hk,DM,Dp,mt,E8,and_true,NL];simp only[LV];split
   .simp only[mt,p3 _ (show (L[j]?.getD (-1)).toNat<k by omega),GO]
   .rfl
  .rw[EK,YG];intro q hq;rw[p5 q hq,CE,g5 q hq];exact⟨rfl,rfl⟩
def RV(a:Int×List Ag):Prop:=0<=a.1/\a.1<=512/\KW a.1 a.2/\a.2.length<=1000000
def groupsBy_.fv(a:Int×(List Ag)):List (List Int):=(UU) (a.1) (a.2)
def groupsBy_.row:AE:=vK (b2 qI (qS Ag.d_le Ag.c_n)) (rS oG MF) (λa=>RV (a.1,a.2)) groupsBy_.fv
def groupsBy_.q:=Bg (R:=groupsBy_.row) rfl
def groupsBy_.ok:AI 142 groupsBy_.row:=by
 refine vw (tC firC.ok tN) Tryz.func142 ?_;intro a a8;simp only[Tryz.f142,Option.getD];simp(disch:=omega)only[ZZ,simprocAttr,Ab,groupsBy_.fv];obtain⟨h0,h1,aw,hl⟩:=a8;obtain⟨n,hn⟩: ∃n:Nat,a.1=n:=⟨a.1.toNat,by simp only at h0;omega⟩;obtain⟨bs,hbsd⟩: ∃bs,bs=a.2:=⟨_,rfl⟩;simp only[hn,<-hbsd,Bj] at h0 h1 aw hl⊢;refine⟨h0,NK _,by omega,λ_=> ?_⟩;rw[NI];refine AY.ren ⟨{k:Nat//k<=n},λk=>⟨[(21,.im (.int .i64 k.1)),(20,.im (.int .i64 n)),(19,.own 2),(5,.own 2),(0,.im (.int .i64 n)),(1,.im (.sl false 3 (bs.map Ag.c)))],(2,(true,.arrA 228 1 (JZ 1000 n k.1)))::Ey 1000 (List.replicate n (-1)) k.1,2000⟩,λk=>n - k.1,λk=>⟨?_,by simp⟩,⟨⟨0,by simp⟩,[(2,some 1)],?_⟩,λk=> ?_⟩
 .simp only[Az.good,Av,BB,pA 1000 k.1 2000 _ (by omega),vO 1000 n k.1 2000 (by omega),Qnw 1000 k.1 2000 _ (by omega)];simp[Cp,AV.bel]
 .simp only[Ar,Ey,AG,Vk,BD];simp(disch:=omega)only[ZZ,simprocAttr,Ab,groupsBy_.fv,AS,AR];exact OQ _ _ _
 obtain⟨k,bd⟩:=k;simp(disch:=omega)only[ZZ,simprocAttr,Ab,groupsBy_.fv,sub,AO,Bq,Jt];refine⟨λhk=>⟨hk,hk,?_⟩,λhk=> ?_⟩
 .simp(disch:=omega)only[ZZ,simprocAttr,Ab,groupsBy_.fv,sub,AO,Bq,Jt,xT,Zfj,CA];refine⟨?_,⟨k+1,by omega⟩,[(1000+k,some 2000)],by simp only;omega,?_⟩
  .rw[CM];intro r hr;rcases W5 hr with hr|hr
   .exact CM.1 (vO 1000 n k 2001 (by omega)) r hr
   .subst hr;simp[AD,AV.bel]
  have qi: ∀i,i≠1000+k->pm [(1000+k,some 2000)] i=some i:=by intro i z;simp only[pm];rw[Af (by omega)]
  have qk:pm [(1000+k,some 2000)] (1000+k)=some 2000:=by simp only[pm];rw[Ai trivial]
  obtain⟨π,hπ⟩: ∃π,π=[(1000+k,some 2000)]:=⟨_,rfl⟩;rw[<-hπ] at qi qk⊢;refine⟨by rw[hπ];exact⟨by omega,trivial⟩,?_,?_,?_⟩
  .rw[YK,hπ];simp only[Fc,Ey,VZ];refine YO _ _ (bT [2] 1000 (k+1) (by simp) (by simp)) ?_;intro x hx y hy m aq ah;have bj:x<2000:=by
    rcases Bt.1 hx with hx|hx
    .omega
    .obtain⟨i,z,rfl⟩:=Bn.1 hx
     have:=Bk.1 z
     show 1000+i<2000;omega
   have bl:y<2000:=by
    rcases Bt.1 hy with hy|hy
    .omega
    .obtain⟨i,z,rfl⟩:=Bn.1 hy
     have:=Bk.1 z
     show 1000+i<2000;omega
   simp only[pm] at aq ah;split at aq<;>split at ah<;>simp only[AM] at aq ah<;>omega
  .simp only[H4,A8];simp(disch:=omega)only[ZZ,simprocAttr,Ab,groupsBy_.fv,qi 2 (by omega)];rw[AA (by omega) (by omega)];omega
  .simp only[ES,Ey,YG];refine⟨?_,λi z=> ?_⟩
   .simp(disch:=omega)only[ZZ,simprocAttr,Ab,groupsBy_.fv,qi 2 (by omega)];rw[Wp];refine⟨by simp[Jt],λi x y hx hy=> ?_⟩;have ax:i<n:=by have:=(Cu.1 hx).1;rwa [Jt] at this
    rw[uZ _ _ _ _ ax] at hx;obtain rfl:=AB hx;by_cases ad:k=i
    .subst ad;rw[DC (by rw[Jt];exact hk)] at hy;obtain rfl:=AB hy;rw[Ai (by omega)];simp only[Dp,mt,qk,GO,E8]
    .rw[DL ad,uZ _ _ _ _ ax] at hy;obtain rfl:=AB hy;by_cases az:i<k
     .rw[Ai (by omega),Ai az];simp only[Dp,mt,qi (1000+i) (by omega),GO,E8]
     .rw[Af (by omega),Af az];simp only[Dp,mt,E8]
   .have hg: ∀i,i<n->(List.replicate n (-1:Int))[i]?.getD (-1)= -1:=by
     intro i z;rw[Lh,Ai z,AT]
    have ay:LV 1000 i (-1)= .im .nilp:=by simp only[LV];rw[Af (by omega)]
    simp only[Hk,hg i (by omega),ay];by_cases ad:i=k
    .subst ad;rw[qk];simp(disch:=omega)only[ZZ,simprocAttr,Ab,groupsBy_.fv]
    .rw[qi (1000+i) (by omega)];have h9:=JX 1000 k (List.replicate n (-1)) i (by omega);simp only[Hk,hg i (by omega),ay,Ey] at h9;simp (disch:=omega) only[CE,hget,AC,Bs,Wb,dK,dN,PI,CQ,CA];rw[h9];simp only[Kv,DM,Dp,mt,E8]
 .intro _;have be:k=n:=by omega
  subst be;clear hk bd;refine AY.old ⟨{s:Nat×List Int//s.1<=bs.length/\s.2.length=k/\Gr s.2/\ ∀i,i<k->(Ce k bs s.1)[i]? =some ((Em s.2 i:Nat):Int)},λs=>⟨[(33,.im (.int .i64 s.1.1)),(32,.im (.int .i64 bs.length)),(31,.im (.sl false 3 (bs.map Ag.c))),(5,.own 2),(0,.im (.int .i64 k))],(2,(true,.arrA 228 1 (JZ 1000 k k)))::Ey 1000 s.1.2 k,2000⟩,λs=>bs.length - s.1.1,λs=>⟨?_,by simp⟩,⟨⟨(0,List.replicate k (-1)),by simp only;omega,by simp,Qug k,λi z=>OB z⟩,?_⟩,λs=> ?_⟩
  .simp only[Az.good,Av,BB,pA 1000 k 2000 _ (by omega),vO 1000 k k 2000 (by omega),Qnw 1000 k 2000 _ (by omega)];simp[Cp,AV.bel]
  .simp only[sub,Gw,A8];refine⟨?_,?_⟩
   .simp(disch:=omega)only[ZZ,simprocAttr,Ab,groupsBy_.fv]
   .simp only[BZ];refine⟨rfl,pE λi z=> ?_⟩;simp only[hget,AC _ _ (show 2≠1000+i by omega),Bs];exact JX _ _ _ _ z
  obtain⟨⟨j,L⟩,i1,i2,i3,i4⟩:=s;simp only at i1 i2 i3 i4;simp(disch:=omega)only[ZZ,simprocAttr,Ab,groupsBy_.fv,sub,AO,Bq,Jt];refine⟨λhj=>⟨hj,λb hb=> ?_⟩,λhj=> ?_⟩
  .obtain⟨b1,b2,b3,b4⟩:=aw b (Bf hb);obtain⟨u,hu⟩: ∃u:Nat,b.A=u:=⟨b.A.toNat,by omega⟩;obtain⟨w,hw⟩: ∃w:Nat,b.B=w:=⟨b.B.toNat,by omega⟩;have ai:u<k:=by omega
   have af:w<k:=by omega
   have bh:=wG i3 u;have bi:=wG i3 w;simp only[hu,hw,Bj];refine⟨by omega,by omega,ai,?_⟩;simp(disch:=omega)only[ZZ,simprocAttr,Ab,groupsBy_.fv,sub,AO,Bq,Jt,xT,Ai ai,Ai af,hu,hw,Bj,Hj];have hH: ∀(e Z:Am) (i:Nat),i<k->hget ((2000,e)::(2,Z)::Ba (Ey 1000 L k) [2000]) (1000+i)=some (Hk 1000 L i):=by
    intro e Z i z;have h9:=JX 1000 k L i z;simp (disch:=omega) only[hget,AC,Bs,Wb,dK,dN,PI,CQ,CA,h9]
   refine⟨by omega,Qtp (nx:=2001) i2 (by omega) i3 ai (by decide) (hH _ _) (λU=> ?_)⟩;simp(disch:=omega)only[ZZ,simprocAttr,Ab,groupsBy_.fv,sub,AO,Bq,Jt,xT,Ai ai,Ai af,hu,hw,Bj,oK,Hj];refine⟨by omega,af,af,by omega,Ai (.inl (by omega)),Qtp (nx:=2001) i2 (by omega) i3 af (by decide) (hH _ _) (λU2=> ?_)⟩;obtain⟨x,hx⟩: ∃x,x=Em L u:=⟨_,rfl⟩;obtain⟨y,hy⟩: ∃y,y=Em L w:=⟨_,rfl⟩;rw[<-hx] at bh⊢;rw[<-hy] at bi⊢;have gx:=JX 1000 k L x (by omega);have gy:=JX 1000 k L y (by omega);simp only[Hk] at gx gy;simp(disch:=omega)only[ZZ,simprocAttr,Ab,groupsBy_.fv,sub,AO,Bq,Jt,oK,Hj,Lb,AC,Jv,gx,gy,dV (show 1000+x<2001 by omega),dV (show 1000+y<2001 by omega),B5];have ba:Em L x=x:=by rw[hx];exact Qls i3 u
   have bb:Em L y=y:=by rw[hy];exact Qls i3 w
   have ou:=i4 u ai;have ow:=i4 w af;rw[<-hx] at ou;rw[<-hy] at ow;have hS:Ce k bs (j+1)=(Ce k bs j).map (Jy (x:Int) (y:Int)):=by
    simp only[Ce,hb,pC,hu,hw,Bj,ou,ow,AT]
   have ac: ∀(p q:Nat),p<q->q<k-> ∀(i:Nat),i<k->Hk 1000 (L.set q (p:Int)) i=if i=q then (true,.cells 230 [.ptr (1000+p) 0,.im (.int .i64 q)]) else Hk 1000 L i:=by
    intro p q a0 hq i z;simp only[Hk];by_cases h:i=q
    .subst h;rw[Ai rfl,DC (by omega),AT];simp only[LV];rw[Ai ⟨by omega,by omega⟩,Bj]
    .rw[Af h,DL (Fz h)]
   have ag: ∀(p q:Nat),p<q->q<k-> ∀(e Z:Am) (tm:List (Nat×AV)),BZ ⟨tm,(1000+q,(true,.cells 230 [.ptr (1000+p) 0,.im (.int .i64 q)]))::(2000,e)::(2,Z)::Ba (Ba (Ey 1000 L k) [2000]) [1000+q],2001⟩ (Ey 1000 (L.set q (p:Int)) k):=by
    intro p q a0 hq e Z tm;refine pE λi z=> ?_
    rw[ac p q a0 hq i z];by_cases h:i=q
    .subst h;simp only[hget,rF,BV,B5]
    .rw[Af h];have h9:=JX 1000 k L i z;simp (disch:=omega) only[hget,AC,Bs,Jv,h9]
   refine⟨λaj=>⟨⟨(j+1,L.set y (x:Int)),by simp only;omega,by simp only[Fy];exact i2,Qsx i3 aj,λi z=> ?_⟩,by simp only;omega,by rw[AA (by omega) (by omega)];simp only;omega,ag x y aj (by omega) _ _ _⟩,λaj=>⟨λak=>⟨⟨(j+1,L.set x (y:Int)),by simp only;omega,by simp only[Fy];exact i2,Qsx i3 ak,λi z=> ?_⟩,by simp only;omega,by rw[AA (by omega) (by omega)];simp only;omega,ag y x ak (by omega) _ _ _⟩,λak=>⟨⟨(j+1,L),by simp only;omega,i2,i3,λi z=> ?_⟩,by simp only;omega,by rw[AA (by omega) (by omega)];simp only;omega,?_⟩⟩⟩
   .rw[hS,Dt,i4 i z,D7,Qqx i3 ba bb aj (by omega) i,(LP aj _).1]
   .rw[hS,Dt,i4 i z,D7,Qqx i3 bb ba ak (by omega) i,(LP ak _).2]
   .rw[hS,Dt,i4 i z,D7,show y=x by omega,Xr]
   .refine pE λi z=> ?_
    have h9:=JX 1000 k L i z;simp (disch:=omega) only[hget,AC,Bs,Jv,h9]
  .have bc:j=bs.length:=by omega
   subst bc;obtain⟨own,hown⟩: ∃own,own=Ce k bs bs.length:=⟨_,rfl⟩;rw[<-hown] at i4;intro _;refine AY.ren ⟨{s:Nat×List (Int×Int)//s.1<=k/\pO (BA own s.1 s.1) s.2},λs=>gI k L s.1.1 s.1.2 (BA own s.1.1 s.1.1),λs=>k - s.1.1,λs=>⟨?_,by simp[gI]⟩,⟨⟨(0,[]),by simp only;omega,?_⟩,[(2100,some 2000)],?_⟩,λs=> ?_⟩
   .have ab:=nY own s.1.1 s.1.1;have hs:=s.2.1;exact Xc (by omega) (by omega)
   .exact⟨λr v h=>(by cases h),λg r am h=>(by simp[BA] at h)⟩
   .refine Qxg (O:=2000) (T:=λq=>3000+q) (by omega) (by simp[BA]) ⟨by omega,trivial⟩ rfl rfl (λj hj=> ?_) rfl (λq hq=>(by simp[BA] at hq)) rfl rfl rfl rfl rfl rfl rfl (λj hj=> ?_) (.inl ⟨rfl,rfl⟩) (λq hq=>(by simp[BA] at hq)) (λq q' hq=>(by simp[BA] at hq)) (λq hq=>(by simp[BA] at hq)) (by omega)
    .simp only[pm];rw[Af (by omega)]
    .have h9:=JX 1000 k L j hj;simp (disch:=omega) only[hget,AC,Bs,h9]
   obtain⟨⟨i,M⟩,q1,q2⟩:=s;simp only at q1 q2;simp only[gI];have an:=nY own i i;simp(disch:=omega)only[ZZ,simprocAttr,Ab,groupsBy_.fv,sub,AO,Bq,Jt];refine⟨λz=>⟨z,z,?_⟩,λz=> ?_⟩
   .simp(disch:=omega)only[ZZ,simprocAttr,Ab,groupsBy_.fv,sub,AO,Bq,Jt,xT,Ai z];have hH: ∀(e1 Z e3:Am) (j:Nat),j<k->hget ((2001,e1)::(2100,Z)::(2,e3)::(Ey 1000 L k++EK 3000 (BA own i i))) (1000+j)=some (Hk 1000 L j):=by
     intro e1 Z e3 j hj;have h9:=wA k L (BA own i i) j hj;simp (disch:=omega) only[hget,AC,Bs,h9]
    have ho:=i4 i z;obtain⟨r,hr⟩: ∃r,r=Em L i:=⟨_,rfl⟩;have bf:r<=i:=by rw[hr];exact wG i3 i
    have bg:own[r]? =some (r:Int):=by
     have:=i4 r (by omega)
     rwa [hr,Qls i3 i,<-hr] at this
    rw[<-hr] at ho;have gr:=wA k L (BA own i i) r (by omega);simp only[Hk] at gr;refine⟨by omega,by omega,by omega,Qtp (nx:=4000) i2 (by omega) i3 z (by omega) (hH _ _ _) (λU=> ?_)⟩;rw[<-hr];simp(disch:=omega)only[ZZ,simprocAttr,Ab,groupsBy_.fv,sub,AO,Lb,Bq,Jt,Hu,AC,gr,Xx,dV (show 1000+r<4000 by omega),B5];refine⟨λv hv=> ?_,λhn=> ?_⟩
    .obtain⟨g,am,rfl,hg⟩:=q2.a _ v hv;have ab:=(Cu.1 hg).1;have an:=nY own i i;have gg:=wC k L (BA own i i) g (by omega) ab;rw[hg,AT] at gg;simp(disch:=omega)only[ZZ,simprocAttr,Ab,groupsBy_.fv,sub,AO,Lb,Bq,Jt,Hu,AC,gg,Bj,Qxa];obtain⟨e1,Z⟩:=RX q2 ho hg;obtain⟨G,hG⟩: ∃G,G=BA own i i:=⟨_,rfl⟩;rw[<-hG] at hg ab an e1 gg⊢;have ac:(Dc 3000 G.length).set g [AV.own 4001]=(List.range G.length).map λq=>[AV.own (if q=g then 4001 else 3000+q)]:=by
      apply QI;intro j;rw[Dt];by_cases hj:j<G.length
      .rw[FN hj];by_cases h:g=j
       .subst h;rw[DC (by rw[Hu];exact ab)];simp
       .rw[DL h,Qo7 _ _ _ hj,D7,Af (Fz h)]
      .rw[HB (by simp[Hu];omega),HB (by simp;omega)];rfl
     refine⟨ab,ab,by omega,?_,by omega,?_,ab,ab,?_,⟨(i+1,M),by simp only;omega,Z⟩,[(3000+g,some 4001)],by simp only;omega,?_⟩
     .intro row Q;obtain rfl:=BL.1 Q;rfl
     .have h6:(r::am:List Int).length<=1000:=CD (by rw[hG] at hg;exact Qy0 own i i _ (Bf hg)) (by omega);simp only[Dd] at h6;omega
     .rw[CM];intro row Q;rcases W5 Q with hr|hr
      .exact CM.1 (VX 3000 G.length 4002 (by omega)) row hr
      .subst hr;simp[AD,AV.bel]
     have pn: ∀m,m≠3000+g->pm [(3000+g,some 4001)] m=some m:=by intro m hm;simp only[pm];rw[Af (Fz hm)]
     simp only[e1];rw[AA (by omega) (by omega)];have hh: ∀(e1 Z e3 e4 e5:Am) (m:Nat),hget ((2100,e1)::(4001,Z)::(4000,e3)::(2001,e4)::(2,e5)::Ba (Ba (Ey 1000 L k++EK 3000 G) [3000+g]) [2100]) m=if m=2100 then some e1 else if m=4001 then some Z else if m=4000 then some e3 else if m=2001 then some e4 else if m=2 then some e5 else if m=3000+g then none else hget (Ey 1000 L k++EK 3000 G) m:=by
      intro e1 Z e3 e4 e5 m;simp only[hget,Wb,dK,dN,PI,PO,ZeK];by_cases h1:m=2100
      .subst h1;simp
      by_cases h2:m=4001
      .subst h2;simp
      by_cases h3:m=4000
      .subst h3;simp
      by_cases h4:m=2001
      .subst h4;simp
      by_cases h5:m=2
      .subst h5;simp
      simp only[Af h1,Af h2,Af h3,Af h4,Af h5,Af (Fz h1),Af (Fz h2),Af (Fz h3),Af (Fz h4),Af (Fz h5)]
     refine Qxg (O:=2100) (T:=λq=>if q=g then 4001 else 3000+q) (by omega) (by rw[Fy];omega) ⟨by omega,trivial⟩ (pn _ (by omega)) (pn _ (by omega)) (λj hj=>pn _ (by omega)) (pn _ (by omega)) (λq hq=> ?_) rfl rfl rfl rfl rfl ?_ ?_ (λj hj=> ?_) (.inr ?_) (λq hq=> ?_) (λq q' hq=> ?_) (λq hq=> ?_) (by omega)
     .by_cases h:q=g
      .subst h;simp[pm]
      .rw[pn _ (by omega),Af h]
     .rw[hh];rfl
     .rw[hh];rfl
     .rw[hh,Af (by omega),Af (by omega),Af (by omega),Af (by omega),Af (by omega),Af (by omega)];exact wA _ _ _ _ hj
     .rw[hh,Ai rfl,ac,Fy]
     .rw[Fy] at hq;rw[hh];by_cases h:q=g
      .subst h;rw[Ai rfl,Af (by omega),Ai rfl,DC ab,AT];simp[Ak]
      .rw[Af h,Af (by omega),Af (by omega),Af (by omega),Af (by omega),Af (by omega),Af (by omega),DL (Fz h)];exact wC _ _ _ _ (by omega) hq
     .rw[Fy] at hq;intro au he;rw[Fy] at au;by_cases h:q=g<;>by_cases h2:q'=g<;>simp only[h,h2,B5,CA] at he⊢ <;>omega
     .rw[Fy] at hq;by_cases h:q=g<;>simp only[h,B5,CA]<;>omega
    .obtain⟨a9,e1,Z⟩:=RW q2 ho bf bg hn;have Q:(Dc 3000 (BA own i i).length++[[AV.im (D.sl true 0 [])]])[(BA own i i).length]? =some [AV.im (D.sl true 0 [])]:=by
      rw[J2 (by rw[Hu];exact AP _),Hu,J4];rfl
     have av: ∀N,4000<=N->(Dc 3000 (BA own i i).length++[[AV.im (D.sl true 0 [])]]).all (AD N)=true:=by
      intro N hN;rw[QL,VX _ _ _ (by omega)];rfl
     intro _;refine⟨?_,by omega,av _ (by omega),by simp[Hu],by simp[Hu],La Q ?_⟩
     .intro row Q;obtain rfl:=BL.1 Q;rfl
     have ac:(Dc 3000 (BA own i i).length++[[AV.im (D.sl true 0 [])]]).set (BA own i i).length [AV.own 4003]=Dc 3000 (BA own i i).length++[[AV.own 4003]]:=by
      have: ∀(l:List (List AV)) n x y,l.length=n->(l++[x]).set n y=l++[y]:=by
       intro l n x y h;subst h;rw[rK _ _ (AP _),J4];rfl
      exact this _ _ _ _ (Hu _ _)
     have ao: ∀N,4003<N->(Dc 3000 (BA own i i).length++[[AV.own 4003]]).all (AD N)=true:=by
      intro N hN;rw[QL,VX _ _ _ (by omega)];simp[AD,AV.bel];omega
     simp(disch:=omega)only[ZZ,simprocAttr,Ab,groupsBy_.fv,sub,AO,Lb,Bq,Jt,Hu,AC];refine⟨?_,by simp[Hu],by simp[Hu],La Q ?_⟩
     .intro row Q;obtain rfl:=BL.1 Q;rfl
     simp(disch:=omega)only[ZZ,simprocAttr,Ab,groupsBy_.fv,sub,AO,Lb,Bq,Jt,Hu,AC,ac];refine⟨ao _ (by omega),⟨(i+1,M++[((i:Int),((BA own i i).length:Int))]),by simp only;omega,by simp only;exact Z⟩,[(2100,some 4001),(3000+(BA own i i).length,some 4003)],by simp only;omega,?_⟩;simp only[e1];obtain⟨G,hG⟩: ∃G,G=BA own i i:=⟨_,rfl⟩;simp only[<-hG] at an⊢;rw[AA (by omega) (by omega)];have pn: ∀m,m≠2100->m≠3000+G.length->pm [(2100,some 4001),(3000+G.length,some 4003)] m=some m:=by intro m hm ah;simp only[pm];rw[Af (Fz hm),Af (Fz ah)]
     have hh: ∀(e1 Z e3 e4 e5 e6:Am) (m:Nat),hget ((4001,e1)::(4003,Z)::(4002,e3)::(4000,e4)::(2001,e5)::(2,e6)::Ba (Ba (Ba (Ey 1000 L k++EK 3000 G) [2001]) [2100]) [4001]) m=if m=4001 then some e1 else if m=4003 then some Z else if m=4002 then some e3 else if m=4000 then some e4 else if m=2001 then some e5 else if m=2 then some e6 else if m=2100 then none else hget (Ey 1000 L k++EK 3000 G) m:=by
      intro e1 Z e3 e4 e5 e6 m;simp only[hget,Wb,dK,dN,PI,PO,ZeK];by_cases h1:m=4001
      .subst h1;simp
      by_cases h2:m=4003
      .subst h2;simp
      by_cases h3:m=4002
      .subst h3;simp
      by_cases h4:m=4000
      .subst h4;simp
      by_cases h5:m=2001
      .subst h5;simp
      by_cases h6:m=2
      .subst h6;simp
      simp only[Af h1,Af h2,Af h3,Af h4,Af h5,Af h6,Af (Fz h1),Af (Fz h2),Af (Fz h3),Af (Fz h4),Af (Fz h5),Af (Fz h6)]
     have aa:(G++[[(i:Int)]]).length=G.length+1:=by simp
     refine Qxg (O:=4001) (T:=λq=>if q<G.length then 3000+q else 4003) (by omega) (by rw[aa];omega) ⟨by omega,by omega,trivial⟩ (pn _ (by omega) (by omega)) (pn _ (by omega) (by omega)) (λj hj=>pn _ (by omega) (by omega)) (by simp[pm]) (λq hq=> ?_) rfl rfl rfl rfl rfl ?_ ?_ (λj hj=> ?_) (.inr ?_) (λq hq=> ?_) (λq q' hq=> ?_) (λq hq=> ?_) (by omega)
     .rw[aa] at hq;by_cases h:q<G.length
      .rw[pn _ (by omega) (by omega),Ai h]
      .obtain rfl:q=G.length:=by omega
       rw[Af h];simp only[pm];rw[Af (by omega),Ai trivial]
     .rw[hh,<-a9,<-MX _ _ _ hn];rfl
     .rw[hh];rfl
     .rw[hh,Af (by omega),Af (by omega),Af (by omega),Af (by omega),Af (by omega),Af (by omega),Af (by omega)];exact wA _ _ _ _ hj
     .rw[hh,Ai rfl,Ql0,aa]
     .rw[aa] at hq;rw[hh];by_cases h:q<G.length
      .rw[Ai h,Af (by omega),Af (by omega),Af (by omega),Af (by omega),Af (by omega),Af (by omega),Af (by omega),H6 h];exact wC _ _ _ _ (by omega) h
      .obtain rfl:q=G.length:=by omega
       rw[Af h,Af (by omega),Ai rfl,J2 (AP _),J4];rfl
     .rw[aa] at hq;intro au he;rw[aa] at au;by_cases h:q<G.length<;>by_cases h2:q'<G.length<;>simp only[h,h2,B5,CA] at he⊢ <;>omega
     .by_cases h:q<G.length<;>simp only[h,B5,CA]<;>omega
   .have ad:i=k:=by omega
    subst ad;rw[UU,Bj,<-hown];rw[Og (m:=7) (G:=BA own i i)]
    .simp(disch:=omega)only[ZZ,simprocAttr,Ab,groupsBy_.fv]
    .intro q hq;have h9:=wC i L (BA own i i) q (by omega) hq;simp (disch:=omega) only[hget,AC,Bs,h9]
def GJ(nm:List Int):List Ag->List Ag
 |[]=>[]
 |b::r=>if BN nm b.A=BN nm b.B then GJ nm r else ⟨BN nm b.A,BN nm b.B,b.Strength⟩::GJ nm r
def Qvj(nm:List Int): ∀(a b:List Ag),GJ nm (a++b)=GJ nm a++GJ nm b
 |[],b=>rfl
 |x::r,b=>by simp only[BG,GJ,Qvj nm r b];split<;>rfl
def Qpl(nm:List Int): ∀(a:List Ag),(GJ nm a).length<=a.length
 |[]=>AP _
 |x::r=>by have:=Qpl nm r;simp only[GJ];split<;>simp only[Dd]<;>omega
def Qab6(nm:List Int){bs:List Ag}{k:Nat}{b:Ag}(h:bs[k]? =some b):GJ nm (bs.take (k+1))=GJ nm (bs.take k)++if BN nm b.A=BN nm b.B then [] else [⟨BN nm b.A,BN nm b.B,b.Strength⟩]:=by
 rw[IA,h];simp only[yV,Qvj,GJ]
def Dm(n:Int)(bs:List Ag)(t:Int):Int×List Ag:=((N5 n bs t).length,GJ (QB n.toNat (N5 n bs t)) bs)
def dlC.H0_dom(a:List Ag×Int)(j:Nat):Aj (dlC.H0 a) j=true↔j<1:=by
 simp only[Aj,dlC.H0,hget];by_cases h0:j=0
 .subst h0;simp
 .have z:(0==j)=false:=by simp;omega
  simp[z];omega
def contr.fv(a:Int×(List Ag)×Int):Int×(List Ag):=(Dm) (a.1) (a.2.1) (a.2.2)
def contr.row:AE:=vK (b3 qI (qS Ag.d_le Ag.c_n) qI) (r2 rI (rS Ag.d_le Ag.c_n)) (λa=>0<=a.1/\a.1<=512/\KW a.1 a.2.1/\a.2.1.length<=1000000) contr.fv
def contr.q:=Bg (R:=contr.row) rfl
def NG:=J @contr.fv.eq_1 (J @groupsBy_.q @groupsBy_.fv.eq_1)
def contr.ok:AI 121 contr.row:=by
 refine vw (tC clobC.ok (tC dlC.ok (tC groupsBy_.ok tN))) Tryz.func121 ?_;intro a ac;simp only[Tryz.f121,Option.getD];simp only[ZZ,simprocAttr,Ab,NG];obtain⟨h0,h1,O,G⟩:=ac;obtain⟨n,hn⟩: ∃n:Nat,a.1=n:=⟨a.1.toNat,by omega⟩;obtain⟨bs,hbsd⟩: ∃bs,bs=a.2.1:=⟨_,rfl⟩;obtain⟨t,ht⟩: ∃t,t=a.2.2:=⟨_,rfl⟩;simp only[hn,<-hbsd,<-ht] at h0 h1 O G⊢;refine AL.os bs [] G (λj=>by simp[Aj,hget]) rfl rfl ?_ ?_
 .simp only[ZZ,simprocAttr,Ab,NG,clobC.ca,D5]
 simp only[ZZ,simprocAttr,Ab,NG,clobC.H1,sub];left;refine AL.os (bs,t) [2] G (λj=>dlC.H0_dom _ j) rfl rfl ?_ ?_
 .simp only[ZZ,simprocAttr,Ab,NG,dlC.ca,dlC.H0,B5,EF]
 simp only[ZZ,simprocAttr,Ab,NG,dlC.H1,sub];have Q:RV ((n:Int),G9 t bs):=⟨by simp only;omega,by simp only;omega,λb hb=>O b (jL.1 hb).1,by have:=Qln t bs;simp only;omega⟩;refine⟨Q,by omega,?_⟩;obtain⟨z,hgs⟩: ∃z,z=UU (n:Int) (G9 t bs):=⟨_,rfl⟩;have ag: ∀r∈z,∀v∈r,0<=v/\v<n:=by rw[hgs];exact Qps n _
 simp only[<-hgs];intro an;refine AY.old ⟨{i:Nat//i<=z.length},λi=>⟨[(27,.im (.int .i64 i.1)),(26,.im (.int .i64 z.length)),(25,.im (.sl false 1 (z.map CK))),(9,.own 1022),(8,.im (.sl false 1 (z.map CK))),(1,.im (.sl false 3 (bs.map Ag.c)))],[(1022,(true,.arr 2 1 ((Kc z (List.replicate n 0) i.1).map Ak)))],1023⟩,λi=>z.length - i.1,λi=>⟨by simp[ZG],by simp⟩,⟨⟨0,by simp⟩,?_⟩,λi=> ?_⟩
 .simp only[ZZ,simprocAttr,Ab,NG,sub,Kc,pK]
 obtain⟨i,ao⟩:=i;simp only[ZZ,simprocAttr,Ab,NG,sub,AO];refine⟨λhi=>⟨hi,λr hr=> ?_⟩,λhi=> ?_⟩
 .have aj:=ag r (Bf hr);obtain⟨l,hl⟩: ∃l,l=Kc z (List.replicate n 0) i:=⟨_,rfl⟩;have aq:l.length=n:=by rw[hl,oB,NI]
  simp only[<-hl];intro au;refine AY.old ⟨{k:Nat//k<=r.length},λk=>⟨[(34,.im (.int .i64 k.1)),(33,.im (.int .i64 r.length)),(32,.im (.sl false 1 (r.map Ak))),(10,.im (.int .i64 i)),(27,.im (.int .i64 i)),(26,.im (.int .i64 z.length)),(25,.im (.sl false 1 (z.map CK))),(9,.own 1022),(8,.im (.sl false 1 (z.map CK))),(1,.im (.sl false 3 (bs.map Ag.c)))],[(1022,(true,.arr 2 1 ((P9 i r l k.1).map Ak)))],1023⟩,λk=>r.length - k.1,λk=>⟨by simp[ZG],by simp⟩,⟨⟨0,by simp⟩,?_⟩,λk=> ?_⟩
  .simp only[ZZ,simprocAttr,Ab,NG,sub,P9]
  obtain⟨k,ai⟩:=k;have ab:=vH (i:Int) r l k;simp only[ZZ,simprocAttr,Ab,NG,sub,AO,hr,ab,bP];refine⟨λhk=>⟨hk,λv hv=> ?_⟩,λhk=> ?_⟩
  .obtain⟨v1,v2⟩:=aj v (Bf hv);refine⟨v1,by omega,by omega,λ_ _=>⟨⟨k+1,by omega⟩,by simp only;omega,by rw[AA (by omega) (by omega)];simp only;omega,?_⟩⟩;simp only[P9,hv,AT]
  .have:k=r.length:=by omega
   refine⟨⟨i+1,by omega⟩,by simp only;omega,by rw[AA (by omega) (by omega)];simp only;omega,?_⟩;simp only[Kc,hr,AT,<-hl,this]
 .have ah:i=z.length:=by omega
  subst ah;obtain⟨nm,hnm⟩: ∃nm,nm=Kc z (List.replicate n 0) z.length:=⟨_,rfl⟩;have ab:nm.length=n:=by rw[hnm,oB,NI]
  simp only[<-hnm];intro am;refine AY.ren ⟨{k:Nat//k<=bs.length},λk=>⟨[(46,.im (.int .i64 k.1)),(45,.im (.int .i64 bs.length)),(44,.im (.sl false 3 (bs.map Ag.c))),(14,.own 1024),(9,.own 1022),(8,.im (.sl false 1 (z.map CK)))],[(1024,(true,.arr 160 3 ((GJ nm (bs.take k.1)).map Ag.c))),(1022,(true,.arr 2 1 (nm.map Ak)))],1025⟩,λk=>bs.length - k.1,λk=>⟨by simp[ZG],by simp⟩,⟨⟨0,by simp⟩,[(1024,some 1023)],?_⟩,λk=> ?_⟩
  .simp only[Ar];simp only[ZZ,simprocAttr,Ab,NG,AS,AR];rfl
  obtain⟨k,ai⟩:=k;have ak:=Qpl nm (bs.take k);rw[Ck] at ak;simp only[ZZ,simprocAttr,Ab,NG,sub,AO,VE,V7,VD,Bo,D.one,Ep,E8,NL];refine⟨λhk=>⟨hk,λb hb=> ?_⟩,λhk=> ?_⟩
  .obtain⟨b1,b2,b3,b4⟩:=O b (Bf hb);refine⟨b1,by omega,by omega,λx hx=>⟨b3,by omega,by omega,λy hy=> ?_⟩⟩;have e1:BN nm b.A=x:=by simp only[BN,hx,AT]
   have e2:BN nm b.B=y:=by simp only[BN,hy,AT]
   have Z:=Qab6 nm hb;rw[e1,e2] at Z;refine⟨λaa=>⟨b1,by omega,by omega,λx' ad=>⟨b3,by omega,by omega,λy' af=>⟨by omega,⟨k+1,by omega⟩,[(1024,some 1027)],by simp only;omega,?_⟩⟩⟩,λaa=>⟨⟨k+1,by omega⟩,[],by simp only;omega,?_⟩⟩
   .rw[hx] at ad;rw[hy] at af;obtain rfl:=AB ad;obtain rfl:=AB af;simp only[Ar];simp only[ZZ,simprocAttr,Ab,NG,AS,AR,Z];rw[AA (by omega) (by omega),Af aa];simp[Ag.c]
   .simp only[Ar];simp only[ZZ,simprocAttr,Ab,NG,AS,AR,Z];rw[AA (by omega) (by omega),Ai (Gg.1 aa),D6];simp
  .have:k=bs.length:=by omega
   subst this;rw[IB];intro _;simp only[Dm,N5,QB,Bj,<-hgs,<-hnm]
end Go.Ae
