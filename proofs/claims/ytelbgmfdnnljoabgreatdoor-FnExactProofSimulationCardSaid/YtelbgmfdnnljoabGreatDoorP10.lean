/- Lemmas. Conditions: none. -/
import Derived.Test.YtelbgmfdnnljoabGreatDoorP09
set_option linter.all false
set_option maxHeartbeats 8000000
set_option maxRecDepth 100000
namespace Go.Ae
open Go.Proofs
def Fu(l:List Int):Nat->List Int
 |0=>l
 |i+1=>((Fu l i).set i ((Fu l i)[l.length - 1 - i]?.getD 0)).set (l.length - 1 - i) ((Fu l i)[i]?.getD 0)
def Qnf(l:List Int): ∀i,(Fu l i).length=l.length
 |0=>rfl
 |i+1=>by simp only[Fu,FO,Qnf l i]
def oP(l:List Int): ∀i,2*i<=l.length-> ∀k,k<l.length->(Fu l i)[k]? =if k<i\/l.length - i<=k then l[l.length - 1 - k]? else l[k]?
 |0,_,k,Z=>by simp only[Fu];rw[Af (by omega)]
 |i+1,hi,k,Z=>by
  have ih:=oP l i (by omega);have hl:=Qnf l i;have g1:(Fu l i)[l.length - 1 - i]?.getD 0=l[l.length - 1 - i]?.getD 0:=by rw[ih _ (by omega),Af (by omega)]
  have g2:(Fu l i)[i]?.getD 0=l[i]?.getD 0:=by rw[ih _ (by omega),Af (by omega)]
  have gd: ∀j,j<l.length->some (l[j]?.getD 0)=l[j]? :=λj hj=>by rw[BA hj];rfl
  rw[Fu,g1,g2];by_cases z:l.length - 1 - i=k
  .subst z;rw[DW (by rw[FO,hl];omega),Ai (by omega),gd _ (by omega)];congr 1;omega
  .rw[Eh z];by_cases O:i=k
   .subst O;rw[DW (by rw[hl];omega),Ai (by omega),gd _ (by omega)]
   .rw[Eh O,ih k Z];by_cases Q:k<i\/l.length - i<=k
    .rw[Ai Q,Ai (by omega)]
    .rw[Af Q,Af (by omega)]
def UI(l:List Int){i:Nat}(O:2*i<=l.length)(Q:l.length<=2*i+1):Fu l i=l.reverse:=by
 apply RH;intro k;by_cases z:k<l.length
 .rw[oP l i O k z,ZeU z];by_cases h:k<i\/l.length - i<=k
  .rw[Ai h]
  .rw[Af h];congr 1;omega
 .rw[Ir (by rw[Qnf];omega),Ir (by rw[mP];omega)]
def eS(l:List Int)(i:Nat)(x:Int):(l.map Ak).set i [.int .i64 x]=(l.set i x).map Ak:=by rw[Ws];rfl
def revC.ca(_:List Int):List AV:=[.own 0]
def revC.H0(a:List Int):An:=[(0,(true,.arr 3 1 (a.map Ak)))]
def revC.H1(a:List Int):An:=[(0,(true,.arr 3 1 (a.reverse.map Ak)))]
def revC.row:AF:=AD revC.ca revC.H0 1 (λ_=>True) (λj=>j==0) (λ_=> .im (.tup [])) revC.H1 0
def revC.ok:AL 202 revC.row:=by
 refine ow tN Tryz.func202 (exB:=λ_=>false) (R:=λ_ r=>r= .im (.tup [])) (λ_=>rfl)
  (λa=>by simp[revC.ca,revC.H0,revC.H1,AA,AV.bel,Aw,B6,BT,Ac.nms,Au,AV.nms,Aj,hget]) (λa p hp=> ?_) (λa r h=>by subst h;exact CN.refl _) ?_
 rotate_left
 intro a Z;simp only[Tryz.f202,Option.getD,revC.ca,revC.H0,revC.H1];simp only[ZZ,simprocAttr,Ab,Aq,revC.ca,revC.H0,revC.H1];intro aa;rw[AG (by omega) (by omega)];refine Ba.old ⟨{i:Nat//2*i<=a.length},λi=>⟨[(2,.im (.int .i64 i.1)),(3,.im (.int .i64 ((a.length:Int) - 1 - i.1))),(0,.own 0)],[(0,(true,.arr 3 1 ((Fu a i.1).map Ak)))],1⟩,λi=>a.length - i.1,λi=>⟨by simp[ZG],by simp⟩,⟨⟨0,by simp⟩,?_⟩,λi=> ?_⟩
 .simp only[ZZ,simprocAttr,Ab,Aq,revC.ca,revC.H0,revC.H1,sub];exact⟨by omega,by rw[Fu]⟩
 obtain⟨i,hi⟩:=i;have Q:=Qnf a i;simp only[ZZ,simprocAttr,Ab,Aq,revC.ca,revC.H0,revC.H1,sub,AP,Q,eS,FO];refine⟨λO=>⟨by omega,by omega,by omega,λx hx=>⟨by omega,by omega,λy hy=>⟨by omega,by omega,λz hz=>⟨by omega,by omega,by omega,λu hu=> ?_⟩⟩⟩⟩,λO=> ?_⟩
 .refine⟨⟨i+1,by omega⟩,by simp only;omega,?_⟩;have w1:IntKind.i64.wrap ((a.length:Int) - 1 - i - 1)=(a.length:Int) - 1 - i - 1:=AG (by omega) (by omega);have w2:IntKind.i64.wrap ((i:Int)+1)=(i:Int)+1:=AG (by omega) (by omega);simp only[w1,w2];refine⟨⟨by omega,by omega⟩,?_⟩;simp only[Fu];rw[show a.length - 1 - i=((a.length:Int) - 1 - i).toNat by omega,hx,hy];rfl
 .rw[UI a hi (by omega)]
 simp[revC.H1] at hp;subst hp;exact .inl ⟨by omega,rfl,rfl⟩
def clonC.ca(a:List Al):List AV:=[.im (.sl false 3 (a.map Al.c))]
def clonC.H1(a:List Al):An:=[(0,(true,.arr 119 3 (a.map Al.c)))]
def clonC.row:AF:=AD clonC.ca (λ_=>[]) 0 (λa=>a.length<=1000000) (λ_=>false) (λ_=> .own 0) clonC.H1 20
def clonC.ok:AL 89 clonC.row:=by
 refine P6 tN Tryz.func89 (exB:=λj=>j==0) (R:=λ_ r=>r= .own 0) (λ_=>rfl)
  (λa=>by simp[clonC.ca,clonC.H1,AA,AV.bel,Aw,B6,BT,Ac.nms,Au,AV.nms,Aj,hget]) (λa p hp=> ?_) (λa r h=>by subst h;exact CN.refl _) ?_
 rotate_left
 intro a z;simp only[Tryz.f89,Option.getD,clonC.ca,clonC.H1];simp only[ZZ,simprocAttr,Ab,Bs,Aq,clonC.ca,clonC.H1];intro b O;split
 .rename_i h;have h0:=O h;refine⟨[],[(0,some 1)],⟨[(2,.own 0)],clonC.H1 a,1⟩,?_,by simp[clonC.H1,ZG],by simp,?_⟩
  .simp only[Av,clonC.H1,h0];simp only[ZZ,simprocAttr,Ab,Bs,Aq,clonC.ca,clonC.H1,AS,AR]
  .simp only[ZZ,simprocAttr,Ab,Bs,Aq,clonC.ca,clonC.H1]
 .refine⟨by omega,[],[(0,some 2)],⟨[(2,.own 0)],clonC.H1 a,1⟩,?_,by simp[clonC.H1,ZG],by simp,?_⟩
  .simp only[Av,clonC.H1];simp only[ZZ,simprocAttr,Ab,Bs,Aq,clonC.ca,clonC.H1,AS,AR]
  .simp only[ZZ,simprocAttr,Ab,Bs,Aq,clonC.ca,clonC.H1]
 simp[clonC.H1] at hp;subst hp;exact .inr ⟨by omega,by omega,rfl,rfl⟩
def clobC.ca(a:List Ag):List AV:=[.im (.sl false 3 (a.map Ag.c))]
def clobC.H1(a:List Ag):An:=[(0,(true,.arr 177 3 (a.map Ag.c)))]
def clobC.row:AF:=AD clobC.ca (λ_=>[]) 0 (λa=>a.length<=1000000) (λ_=>false) (λ_=> .own 0) clobC.H1 20
def clobC.ok:AL 158 clobC.row:=by
 refine P6 tN Tryz.func158 (exB:=λj=>j==0) (R:=λ_ r=>r= .own 0) (λ_=>rfl)
  (λa=>by simp[clobC.ca,clobC.H1,AA,AV.bel,Aw,B6,BT,Ac.nms,Au,AV.nms,Aj,hget]) (λa p hp=> ?_) (λa r h=>by subst h;exact CN.refl _) ?_
 rotate_left
 intro a z;simp only[Tryz.f158,Option.getD,clobC.ca,clobC.H1];simp only[ZZ,simprocAttr,Ab,Bs,Aq,clobC.ca,clobC.H1];intro b O;split
 .rename_i h;have h0:=O h;refine⟨[],[(0,some 1)],⟨[(2,.own 0)],clobC.H1 a,1⟩,?_,by simp[clobC.H1,ZG],by simp,?_⟩
  .simp only[Av,clobC.H1,h0];simp only[ZZ,simprocAttr,Ab,Bs,Aq,clobC.ca,clobC.H1,AS,AR]
  .simp only[ZZ,simprocAttr,Ab,Bs,Aq,clobC.ca,clobC.H1]
 .refine⟨by omega,[],[(0,some 2)],⟨[(2,.own 0)],clobC.H1 a,1⟩,?_,by simp[clobC.H1,ZG],by simp,?_⟩
  .simp only[Av,clobC.H1];simp only[ZZ,simprocAttr,Ab,Bs,Aq,clobC.ca,clobC.H1,AS,AR]
  .simp only[ZZ,simprocAttr,Ab,Bs,Aq,clobC.ca,clobC.H1]
 simp[clobC.H1] at hp;subst hp;exact .inr ⟨by omega,by omega,rfl,rfl⟩
def freeC.fv(a:Bi×Int×Int):Bool:=(Wb) (a.1) (a.2.1) (a.2.2)
def freeC.row:AF:=CH (b3 (qP 2 Bi.d_le) qI qI) rB (λa=>KI a.1 a.1.Room.length/\0<=a.2.1/\a.2.1<a.1.Room.length/\0<=a.2.2/\a.2.2<a.1.Room.length) freeC.fv
def freeC.q:=C9 (R:=freeC.row) rfl
def freeC.ok:AL 201 freeC.row:=by
 refine FR tN Tryz.func201 ?_;intro a z;simp only[Tryz.f201,Option.getD];simp only[ZZ,simprocAttr,Ab,freeC.fv,BX,D.sc,D.scs,BM,AT];obtain⟨O,Q,h3,Z,h5⟩:=z;have hf:=O.f;refine⟨Q,h3,λr hr=>⟨Z,by rw[O.rr r (Bg hr)];exact h5,λx hx=>⟨Q,by omega,λs hs=>⟨Z,by rw[O.ff s (Bg hs)];exact h5,λy hy=> ?_⟩⟩⟩⟩;simp only[Wb,Qyw,Qzr,hr,hs,hx,hy,AX]
def ZL:D->Option (List Int)
 | .sl true _ rows=>AZ DN rows
 | .sl false _ (r::rows)=>AZ DN (r::rows)
 |_=>none
def ZM: ∀d x,ZL d=some x->Le d (.sl true 1 (x.map Ak)):=by
 intro d x h;unfold ZL at h;split at h
 .rename_i k rows;have h1:=EY (nz:=true) (k:=k) (EN F3 _ _ h) (k':=1) (by simp[Ak]);intro ok hp v Z;have Q:=h1 ok hp v Z;simp only[Ae.rd] at Q Z⊢;rcases Q with Q|⟨b,p,cap,vs,T,fr,g1,g2,g3,g4,g5,g6,g7⟩
  .rcases Z with ⟨q1,O⟩|⟨b',p',z,ab,T',aa,q1,O,q3,q4,q5,q6,q7⟩
   .exact .inl ⟨q1,Q.2⟩
   .obtain⟨ao,e⟩:=tO Q.1;rw[e] at q1;simp only[Value.slice.injEq] at q1;exact absurd (Wj.1 q1.2.1.symm) (O trivial)
  .rcases Z with ⟨q1,O⟩|⟨b',p',z,ab,T',aa,q1,O,q3,q4,q5,q6,q7⟩
   .rw[Qr7 q1] at g1;cases g1
   .refine .inr ⟨b,p,cap,vs,T,fr,g1,λ_ h0=> ?_,g3,g4,g5,g6,g7⟩;rw[q1] at g1;simp only[Value.slice.injEq] at g1;rw[h0,Ip] at g1;exact O trivial (Wj.1 g1.2.1)
 .rename_i k r rows;have h1:=EY (nz:=false) (k:=k) (EN F3 _ _ h) (k':=1) (by simp[Ak]);intro ok hp v Z;have Q:=h1 ok hp v Z;simp only[Ae.rd] at Q Z⊢;rcases Q with Q|⟨b,p,cap,vs,T,fr,g1,g2,g3,g4,g5,g6,g7⟩
  .rcases Z with ⟨q1,O⟩|⟨b',p',z,ab,T',aa,q1,O,q3,q4,q5,q6,q7⟩
   .cases O
   .obtain⟨ao,e⟩:=tO Q.1;rw[e] at q1;simp only[Value.slice.injEq,Dx] at q1;omega
  .rcases Z with ⟨q1,O⟩|⟨b',p',z,ab,T',aa,q1,O,q3,q4,q5,q6,q7⟩
   .cases O
   .refine .inr ⟨b,p,cap,vs,T,fr,g1,λ_ h0=> ?_,g3,g4,g5,g6,g7⟩;rw[q1] at g1;simp only[Value.slice.injEq,Dx] at g1;rw[h0,Ip] at g1;omega
 .cases h
def tR(n:Nat)(x:Int):List.replicate n [D.int .i64 x]=(List.replicate n x).map Ak:=by rw[List.map_replicate];rfl
def VH{k:Nat}{l:List Int}(h:l≠[]):ZL (.sl false k (l.map Ak))=some l:=by
 cases l with
 |nil=>exact absurd rfl h
 |cons x r=>exact fU (x::r)
def dI(v:Int):D:= .int .i64 v
def rept.H0_dom(a:Int×Int)(j:Nat):Aj (rept.H0 a) j=true↔j<1:=by
 simp only[Aj,rept.H0,hget];by_cases h0:j=0
 .subst h0;simp
 .have z:(0==j)=false:=by simp;omega
  simp[z];omega
def revC.H0_dom(a:List Int)(j:Nat):Aj (revC.H0 a) j=true↔j<1:=by
 simp only[Aj,revC.H0,hget];by_cases h0:j=0
 .subst h0;simp
 .have z:(0==j)=false:=by simp;omega
  simp[z];omega
def QX:Wd Tryz.prog 268=some 3:=by kernel_rfl
def wayC.rc:D->Option (List Int):=ZL
def wayC.re:(List Int)->D:=λb=>D.sl true 1 (b.map Ak)
def wayC.rle: ∀d b,wayC.rc d=some b->Le d (wayC.re b):=ZM
def wayC.fv(a:Bi×Int×Int):List Int:=(λx p q=>C4 x x.Room.length p q) (a.1) (a.2.1) (a.2.2)
def wayC.row:AF:=CH (b3 (qP 2 Bi.d_le) qI qI) (RK.mk wayC.rc wayC.re wayC.rle) (λa=>KI a.1 a.1.Room.length/\a.1.Room.length<=1000/\0<=a.2.1/\a.2.1<a.1.Room.length/\0<=a.2.2/\a.2.2<a.1.Room.length) wayC.fv
def wayC.q:=C9 (R:=wayC.row) rfl
def QG:=J @wayC.fv.eq_1<|J @wayC.rc.eq_1<|J @freeC.q @freeC.fv.eq_1
def wayC.ok:AL 187 wayC.row:=by
 refine FR (tC freeC.ok (tC rept.ok (tC revC.ok tN))) Tryz.func187 ?_;intro a ak;simp only[Tryz.f187,Option.getD];simp only[ZZ,simprocAttr,Ab,QG,BX,D.sc,D.scs,BM,AT];obtain⟨aj,hn,ad,af,am,ax⟩:=ak;obtain⟨x,hx⟩: ∃x,x=a.1:=⟨_,rfl⟩;obtain⟨p,hp⟩: ∃p,p=a.2.1:=⟨_,rfl⟩;obtain⟨q,hq⟩: ∃q,q=a.2.2:=⟨_,rfl⟩;obtain⟨n,hnn⟩: ∃n,n=x.Room.length:=⟨_,rfl⟩;simp only[<-hx,<-hp,<-hq,<-hnn] at aj hn ad af am ax⊢;intro bf;refine AD.os (-1,(n:Int)) [1] ⟨by simp only;omega,by simp only;omega⟩ (λj=>rept.H0_dom _ j) rfl rfl ?_ ?_
 .simp only[ZZ,simprocAttr,Ab,QG,BX,D.sc,D.scs,BM,AT,QX,rept.ca,rept.H0,BD,EK]
 simp only[ZZ,simprocAttr,Ab,QG,BX,D.sc,D.scs,BM,AT,QX,rept.H1,sub,Bq,OE,eS,tR];refine⟨by omega,by omega,ad,af,by omega,λ_ _=> ?_⟩;refine Ba.old ⟨{k:Nat//k<=(CX x n p k).2.length},λk=>⟨[(9,.ch 22),(8,.own 2),(7,.im (.int .i64 n)),(0,.ptr 0 0),(1,.im (.int .i64 p)),(2,.im (.int .i64 q))],[(2,(true,.arr 3 1 ((CX x n p k.1).1.map Ak))),(22,(true,.chan (((CX x n p k.1).2.drop k.1).map dI) n)),(0,(false,.view [.sl false 1 (x.Room.map CZ),.sl false 1 (x.Flow.map CZ)]))],23⟩,λk=>n - k.1,λk=>⟨by simp[ZG],by simp⟩,⟨⟨0,by simp⟩,?_⟩,λk=> ?_⟩
 .simp only[ZZ,simprocAttr,Ab,QG,BX,D.sc,D.scs,BM,AT,QX,sub];simp[CX,dI]
 obtain⟨k,hk⟩:=k;have hP:=R9 (x:=x) ad af k;have bg:=Qr3 hP;simp only[ZZ,simprocAttr,Ab,QG,BX,D.sc,D.scs,BM,AT,QX,sub,AP,GL,CI];refine⟨λav=> ?_,λav=> ?_⟩
 .have aw:k<(CX x n p k).2.length:=by omega
  obtain⟨u,hu⟩: ∃u,(CX x n p k).2[k]? =some u:=⟨_,BA aw⟩;have a8:=hP.q u (Bg hu);rw[HI hu];refine⟨by simp,λd r ag=> ?_⟩;simp only[Be,Wl] at ag;obtain⟨rfl,rfl⟩:=ag;simp only[dI];obtain⟨s,hs⟩: ∃s,s=CX x n p k:=⟨_,rfl⟩;simp only[<-hs] at hu hP⊢;refine Ba.old ⟨{i:Nat//i<=n},λi=>⟨[(36,.im (.int .i64 i.1)),(35,.im (.int .i64 n)),(10,.im (.int .i64 u)),(9,.ch 22),(8,.own 2),(7,.im (.int .i64 n)),(0,.ptr 0 0),(1,.im (.int .i64 p)),(2,.im (.int .i64 q))],[(2,(true,.arr 3 1 ((CM x u s i.1).1.map Ak))),(22,(true,.chan (((CM x u s i.1).2.drop (k+1)).map dI) n)),(0,(false,.view [.sl false 1 (x.Room.map CZ),.sl false 1 (x.Flow.map CZ)]))],23⟩,λi=>n - i.1,λi=>⟨by simp[ZG],by simp⟩,⟨⟨0,by simp⟩,?_⟩,λi=> ?_⟩
  .simp only[ZZ,simprocAttr,Ab,QG,BX,D.sc,D.scs,BM,AT,QX,sub,CM]
  obtain⟨i,hi⟩:=i;obtain⟨hQ,e,he⟩:=uO hP hu i hi;have a9:=Qr3 hQ;have ay:=hQ.len;simp only[ZZ,simprocAttr,Ab,QG,BX,D.sc,D.scs,BM,AT,QX,sub,AP,GL,CI,ay,eS];refine⟨λaq=>⟨by omega,by omega,λy hy=>⟨λQ=>⟨⟨hnn▸aj,a8.1,by omega,by omega⟩,λhf=>⟨by omega,by omega,λy2 _=>⟨by omega,⟨i+1,by omega⟩,by simp only;omega,by rw[AG (by omega) (by omega)];simp only;omega,?_⟩⟩,λhf=>⟨⟨i+1,by omega⟩,by simp only;omega,by rw[AG (by omega) (by omega)];simp only;omega,?_⟩⟩,λQ=>⟨⟨i+1,by omega⟩,by simp only;omega,by rw[AG (by omega) (by omega)];simp only;omega,?_⟩⟩⟩,λaq=> ?_⟩
  .have Z:CM x u s (i+1)=((CM x u s i).1.set i u,(CM x u s i).2++[(i:Int)]):=by
    rw[CM,HB,Ai ⟨by rw[hy,AX];exact Q,hf⟩]
   have bd:=(C6.1 hu).1;simp only[Z];refine⟨trivial,?_⟩;rw[Zdm (by rw[he,Ez];omega),DX];rfl
  .have Z:CM x u s (i+1)=CM x u s i:=by
    rw[CM,HB,Af (λh=>hf h.2)]
   simp only[Z];exact⟨trivial,trivial⟩
  .have Z:CM x u s (i+1)=CM x u s i:=by
    rw[CM,HB,Af (λh=>Q (by have:=h.1;rw[hy,AX] at this;exact this))]
   simp only[Z];exact⟨trivial,trivial⟩
  .have au:i=n:=by omega
   have Z:CX x n p (k+1)=CM x u s i:=by rw[CX,<-hs,hu,au]
   refine⟨⟨k+1,by rw[Z,he,Ez];have:=(C6.1 hu).1;omega⟩,by simp only;omega,?_⟩;simp only[Z];exact⟨trivial,trivial⟩
 .have be:(CX x n p k).2.length=k:=by omega
  have hE:CX x n p k=BC x n p:=by
   have:=NQ x n p (n - k) k (by omega)
   rw[show k+(n - k)=n by omega] at this;exact this.symm
  have ai:=hP.len;refine⟨am,by omega,by omega,λy hy=>⟨λQ=> ?_,λQ=> ?_⟩⟩
  .simp only[C4,<-hE,hy,AX];rw[Ai Q];rfl
  have az:q∈(CX x n p k).2:=by
   have:=(hP.mem q.toNat y hy).1 (by omega)
   rwa [show (q.toNat:Int)=q by omega] at this
  obtain⟨i,hi⟩:=Wp.1 az;obtain⟨d,ba,ab,aa⟩:=Qq3 hP hi;have bb:=(C6.1 hi).1;have a0:uA (CX x n p k).1 p q n=d:=Qqr (by omega) ab aa;have hW:C4 x n p q=(IK (CX x n p k).1 q d).reverse:=by
   simp only[C4,<-hE,hy,AX];rw[Af Q,a0]
  obtain⟨O,hpar⟩: ∃O,O=(CX x n p k).1:=⟨_,rfl⟩;simp only[<-hpar] at ai ab aa hW⊢;refine Ba.ren ⟨{j:Nat//j<=d},λj=>⟨[(13,.im (.int .i64 (D9 O q j.1))),(12,.own 24),(8,.own 2),(1,.im (.int .i64 p))],[(24,(true,.arr 3 1 ((IK O q j.1).map Ak))),(2,(true,.arr 3 1 (O.map Ak)))],25⟩,λj=>d - j.1,λj=>⟨by simp[ZG],by simp⟩,⟨⟨0,by omega⟩,[(24,some 23)],?_⟩,λj=> ?_⟩
  .simp only[Av];simp only[ZZ,simprocAttr,Ab,QG,BX,D.sc,D.scs,BM,AT,QX,AS,AR];exact⟨rfl,rfl⟩
  obtain⟨j,hj⟩:=j;have ao:(IK O q j).length=j+1:=by simp[IK]
  simp only[ZZ,simprocAttr,Ab,QG,BX,D.sc,D.scs,BM,AT,QX,sub,AP,ao];refine⟨λac=> ?_,λac=> ?_⟩
  .have ah:j<d:=by
    rcases Gd j d with h|h
    .exact h
    .exact absurd (by rw[show j=d by omega];exact ab) ac
   obtain⟨j2,g1,g2⟩:=sS hP hi j (λj' bc=>by rw[<-hpar];exact aa j' (by omega));rw[<-hpar] at g2;have an:=hP.q _ (Bg g2);refine⟨an.1,by omega,by omega,λz hz=>⟨by omega,⟨j+1,by omega⟩,[(24,some 26)],by simp only;omega,?_⟩⟩;have Z:D9 O q (j+1)=z:=by rw[D9,hz,AX]
   have e2:IK O q (j+1)=IK O q j++[z]:=by
    simp only[IK];rw[gV,DX,Be,BF,Z]
   simp only[Av];simp only[ZZ,simprocAttr,Ab,QG,BX,D.sc,D.scs,BM,AT,QX,AS,AR,Z,e2,DX]
  .have ah:j=d:=by
    have h1:=GK.1 ac;rcases Gd j d with h|h
    .exact absurd h1 (aa j h)
    .omega
   subst ah;refine AD.os (IK O q j) [24] trivial (λi=>revC.H0_dom _ i) rfl rfl ?_ ?_
   .simp only[ZZ,simprocAttr,Ab,QG,BX,D.sc,D.scs,BM,AT,QX,revC.ca,revC.H0,BD,EK]
   .simp only[ZZ,simprocAttr,Ab,QG,BX,D.sc,D.scs,BM,AT,QX,revC.H1,sub,EK];rw[hW];exact VH (by simp[IK])
def Hf(t:Int)(bs:List Ag):List Ag:=bs.filter λb=>decide (t<=b.Strength)
def QB(g:Int)(r:List Int)(l:List Int):Nat->List Int
 |0=>l
 |k+1=>(QB g r l k).set (r[k]?.getD 0).toNat g
def KG(gs:List (List Int))(l:List Int):Nat->List Int
 |0=>l
 |i+1=>QB i (gs[i]?.getD []) (KG gs l i) (gs[i]?.getD []).length
def zH(g:Int)(r l:List Int): ∀k,(QB g r l k).length=l.length
 |0=>rfl
 |k+1=>by simp only[QB,FO,zH g r l k]
def sI(gs:List (List Int))(l:List Int): ∀i,(KG gs l i).length=l.length
 |0=>rfl
 |i+1=>by simp only[KG,zH,sI gs l i]
def RA(n:Nat)(gs:List (List Int)):List Int:=KG gs (List.replicate n 0) gs.length
def Ca(nm:List Int)(v:Int):Int:=nm[v.toNat]?.getD 0
def Ig(nm:List Int):List Ag->List Ag
 |[]=>[]
 |b::r=>if Ca nm b.A=Ca nm b.B then Ig nm r else ⟨Fq (Ca nm b.A) (Ca nm b.B),EC (Ca nm b.A) (Ca nm b.B),b.Strength⟩::Ig nm r
def Qp2(nm:List Int): ∀(a b:List Ag),Ig nm (a++b)=Ig nm a++Ig nm b
 |[],b=>rfl
 |x::r,b=>by simp only[BO,Ig,Qp2 nm r b];split<;>rfl
def Qjq(nm:List Int): ∀(a:List Ag),(Ig nm a).length<=a.length
 |[]=>AU _
 |x::r=>by have:=Qjq nm r;simp only[Ig];split<;>simp only[Dx]<;>omega
def Qln(t:Int)(bs:List Ag):(Hf t bs).length<=bs.length:=ZeW _ _
def Qjs(t:Int){bs:List Ag}{k:Nat}{b:Ag}(h:bs[k]? =some b):Hf t (bs.take (k+1))=Hf t (bs.take k)++if t<=b.Strength then [b] else []:=by
 rw[Jq,h];simp only[Hf,List.filter_append,ZdP,ZeM,List.filter_nil,CF]
def oL(own:List Int)(i:Nat): ∀k,∀v∈Dq own i k,(i:Int)<=v/\v<i+k
 |0,v,h=>by simp[Dq] at h
 |k+1,v,h=>by
  simp only[Dq,B7] at h;rcases h with h|h
  .have:=oL own i k v h;omega
  .split at h
   .rw[BS] at h;omega
   .simp at h
def Qvq(own:List Int)(n:Nat): ∀k,k<=n-> ∀r∈BJ own n k,∀v∈r,0<=v/\v<n
 |0,_,r,h,_,_=>by simp[BJ] at h
 |k+1,O,r,h,v,z=>by
  simp only[BJ,B7] at h;rcases h with h|h
  .exact Qvq own n k (by omega) r h v z
  .split at h
   .rw[BS] at h;subst h
    have:=oL own k (n - k) v z
    omega
   .simp at h
def Qps(n:Nat)(bs:List Ag): ∀r∈VT (n:Int) bs,∀v∈r,0<=v/\v<n:=by
 intro r z v O
 have:=Qvq (Cp n bs bs.length) n n (AU _) r (by simpa[VT] using z) v O
 omega
def Qvc(nm:List Int){bs:List Ag}{k:Nat}{b:Ag}(h:bs[k]? =some b):Ig nm (bs.take (k+1))=Ig nm (bs.take k)++if Ca nm b.A=Ca nm b.B then [] else [⟨Fq (Ca nm b.A) (Ca nm b.B),EC (Ca nm b.A) (Ca nm b.B),b.Strength⟩]:=by
 rw[Jq,h];simp only[ZdP,Qp2,Ig]
def O1(n:Int)(bs:List Ag)(t:Int):List (List Int):=VT n (Hf t bs)
def Cq(n:Int)(bs:List Ag)(t:Int):Int×List Ag:=((O1 n bs t).length,Ig (RA n.toNat (O1 n bs t)) bs)
def shrunk.fv(a:Int×(List Ag)×Int):Int×(List Ag):=(Cq) (a.1) (a.2.1) (a.2.2)
def shrunk.row:AF:=vK (b3 qI (qS Ag.d_le Ag.c_n) qI) (r2 rI (rS Ag.d_le Ag.c_n)) (λa=>0<=a.1/\a.1<=1000000/\LG a.1 a.2.1/\a.2.1.length<=1000000) shrunk.fv
def shrunk.q:=Bd (R:=shrunk.row) rfl
def OD:=J @shrunk.fv.eq_1<|J @l06Groups.q<|J @l06Groups.fv.eq_1<|J @l00Min.q<|J @l00Min.fv.eq_1<|J @l00Max.q @l00Max.fv.eq_1
def shrunk.ok:AL 103 shrunk.row:=by
 refine vw (tC l06Groups.ok (tC l00Min.ok (tC l00Max.ok tN))) Tryz.func103 ?_;intro a ai;simp only[Tryz.f103,Option.getD];simp only[ZZ,simprocAttr,Ab,OD];obtain⟨h0,h1,ab,aj⟩:=ai;obtain⟨n,hn⟩: ∃n:Nat,a.1=n:=⟨a.1.toNat,by omega⟩;obtain⟨bs,hbsd⟩: ∃bs,bs=a.2.1:=⟨_,rfl⟩;obtain⟨t,ht⟩: ∃t,t=a.2.2:=⟨_,rfl⟩;simp only[hn,<-hbsd,<-ht] at h0 h1 ab aj⊢;refine Ba.ren ⟨{k:Nat//k<=bs.length},λk=>⟨[(9,.im (.int .i64 k.1)),(8,.own 2),(0,.im (.int .i64 n)),(1,.im (.sl false 3 (bs.map Ag.c))),(2,.im (.int .i64 t))],[(2,(true,.arr 177 3 ((Hf t (bs.take k.1)).map Ag.c)))],3⟩,λk=>bs.length - k.1,λk=>⟨by simp[ZG],by simp⟩,⟨⟨0,by simp⟩,[(2,some 1)],?_⟩,λk=> ?_⟩
 .simp only[Av];simp only[ZZ,simprocAttr,Ab,OD,AS,AR];rfl
 obtain⟨k,ac⟩:=k;have aa:=Qln t (bs.take k);rw[Cu] at aa;simp only[ZZ,simprocAttr,Ab,OD,sub,AP,WJ,W9,WH,Bm,D.one,Et,QL,OK];intro _;refine⟨λQ=>⟨Q,λb Z=>⟨λhs=>⟨Q,λb' z=>⟨by omega,⟨k+1,by omega⟩,[(2,some 4)],by simp only;omega,?_⟩⟩,λhs=>⟨⟨k+1,by omega⟩,[(2,some 2)],by simp only;omega,?_⟩⟩⟩,λQ=> ?_⟩
 .rw[Z] at z;obtain rfl:=AJ z;simp only[Av];simp only[ZZ,simprocAttr,Ab,OD,AS,AR,Qjs t Z];rw[AG (by omega) (by omega),Ai hs];simp[Ag.c]
 .simp only[Av];simp only[ZZ,simprocAttr,Ab,OD,AS,AR,Qjs t Z];rw[AG (by omega) (by omega),Af hs,DJ];simp
 have an:k=bs.length:=by omega
 subst an;rw[IM];refine⟨⟨h1,λb Z=>ab b (mY.1 Z).1⟩,by omega,?_⟩;obtain⟨O,hgs⟩: ∃O,O=VT (n:Int) (Hf t bs):=⟨_,rfl⟩;have ak: ∀r∈O,∀v∈r,0<=v/\v<n:=by rw[hgs];exact Qps n _
 simp only[<-hgs];clear Q aa ac;refine Ba.old ⟨{i:Nat//i<=O.length},λi=>⟨[(12,.im (.int .i64 i.1)),(11,.own 3),(10,.im (.sl false 1 (O.map CZ))),(0,.im (.int .i64 n)),(1,.im (.sl false 3 (bs.map Ag.c))),(2,.im (.int .i64 t))],[(3,(true,.arr 2 1 ((KG O (List.replicate n 0) i.1).map Ak)))],4⟩,λi=>O.length - i.1,λi=>⟨by simp[ZG],by simp⟩,⟨⟨0,by simp⟩,?_⟩,λi=> ?_⟩
 .simp only[ZZ,simprocAttr,Ab,OD,sub,KG,tR]
 obtain⟨i,au⟩:=i;simp only[ZZ,simprocAttr,Ab,OD,sub,AP];intro aq;refine⟨λhi=> ?_,λhi=> ?_⟩
 .obtain⟨r,hr⟩: ∃r,O[i]? =some r:=⟨_,BA hi⟩;have ao:=ak r (Bg hr);obtain⟨l,hl⟩: ∃l,l=KG O (List.replicate n 0) i:=⟨_,rfl⟩;have av:l.length=n:=by rw[hl,sI,OE]
  simp only[<-hl];refine Ba.old ⟨{k:Nat//k<=r.length},λk=>⟨[(13,.im (.int .i64 k.1)),(12,.im (.int .i64 i)),(11,.own 3),(10,.im (.sl false 1 (O.map CZ))),(0,.im (.int .i64 n)),(1,.im (.sl false 3 (bs.map Ag.c))),(2,.im (.int .i64 t))],[(3,(true,.arr 2 1 ((QB i r l k.1).map Ak)))],4⟩,λk=>r.length - k.1,λk=>⟨by simp[ZG],by simp⟩,⟨⟨0,by simp⟩,?_⟩,λk=> ?_⟩
  .simp only[ZZ,simprocAttr,Ab,OD,sub,QB]
  obtain⟨k,ac⟩:=k;have ah:=zH (i:Int) r l k;simp only[ZZ,simprocAttr,Ab,OD,sub,AP,hr,ah,eS];refine⟨hi,λr' ad aw=> ?_⟩;subst ad;refine⟨λQ=>⟨hi,λr' ad=> ?_⟩,λQ=>⟨⟨i+1,by omega⟩,by simp only;omega,by rw[AG (by omega) (by omega)];simp only;omega,?_⟩⟩
  .subst ad;refine⟨Q,λv hv=> ?_⟩;obtain⟨v1,v2⟩:=ao v (Bg hv);refine⟨v1,by omega,by omega,λ_ _=>⟨⟨k+1,by omega⟩,by simp only;omega,by rw[AG (by omega) (by omega)];simp only;omega,?_⟩⟩;simp only[QB,hv,AX]
  .have:k=r.length:=by omega
   simp only[KG,hr,AX,<-hl,this]
 .have am:i=O.length:=by omega
  subst am;obtain⟨nm,hnm⟩: ∃nm,nm=KG O (List.replicate n 0) O.length:=⟨_,rfl⟩;have ah:nm.length=n:=by rw[hnm,sI,OE]
  simp only[<-hnm];refine Ba.ren ⟨{k:Nat//k<=bs.length},λk=>⟨[(15,.im (.int .i64 k.1)),(14,.own 5),(11,.own 3),(10,.im (.sl false 1 (O.map CZ))),(0,.im (.int .i64 n)),(1,.im (.sl false 3 (bs.map Ag.c))),(2,.im (.int .i64 t))],[(5,(true,.arr 177 3 ((Ig nm (bs.take k.1)).map Ag.c))),(3,(true,.arr 2 1 (nm.map Ak)))],6⟩,λk=>bs.length - k.1,λk=>⟨by simp[ZG],by simp⟩,⟨⟨0,by simp⟩,[(5,some 4)],?_⟩,λk=> ?_⟩
  .simp only[Av];simp only[ZZ,simprocAttr,Ab,OD,AS,AR];rfl
  obtain⟨k,ac⟩:=k;have aa:=Qjq nm (bs.take k);rw[Cu] at aa;simp only[ZZ,simprocAttr,Ab,OD,sub,AP,WJ,W9,WH,Bm,D.one,Et,QL,OK];intro _;refine⟨λQ=>⟨Q,λb Z=> ?_⟩,λQ=> ?_⟩
  .obtain⟨b1,b2,b3,b4⟩:=ab b (Bg Z);refine⟨b1,by omega,by omega,λx hx=>⟨Q,λb' z=> ?_⟩⟩;rw[Z] at z;obtain rfl:=AJ z;refine⟨b3,by omega,by omega,λy hy=> ?_⟩;have e1:Ca nm b.A=x:=by simp only[Ca,hx,AX]
   have e2:Ca nm b.B=y:=by simp only[Ca,hy,AX]
   have af:=Qvc nm Z;rw[e1,e2] at af;refine⟨λag=>⟨Q,λb' z=>⟨by omega,⟨k+1,by omega⟩,[(5,some 7)],by simp only;omega,?_⟩⟩,λag=>⟨⟨k+1,by omega⟩,[(5,some 5)],by simp only;omega,?_⟩⟩
   .rw[Z] at z;obtain rfl:=AJ z;simp only[Av];simp only[ZZ,simprocAttr,Ab,OD,AS,AR,af];rw[AG (by omega) (by omega),Af ag];simp[Ag.c]
   .simp only[Av];simp only[ZZ,simprocAttr,Ab,OD,AS,AR,af];rw[AG (by omega) (by omega),Ai (GK.1 ag),DJ];simp
  .have:k=bs.length:=by omega
   subst this;rw[IM];intro _;simp only[Cq,O1,RA,Bq,<-hgs,<-hnm]
def Qk5(s:Ap): ∀(l:List Ad) (i:Nat),LC s i l=true-> ∀g∈l,1<=g.Strength/\g.Strength<=4
 |[],_,_,_,h=>by cases h
 |x::r,i,h,g,z=>by
  simp only[LC,AY,Bz,CF] at h;rcases Br.1 z with rfl|z
  .exact⟨h.1.2.1.1,h.1.2.1.2⟩
  .exact Qk5 s r _ h.2 g z
def Qlf(s:Ap): ∀(l:List Tile) (i:Nat),JV s i l=true-> ∀t∈l,t.Sides.length=4/\ ∀g∈t.Sides,0<=g/\g<=s.Glues.length
 |[],_,_,_,h=>by cases h
 |x::r,i,h,t,z=>by
  simp only[JV,AY,CF,CR,Bz] at h;rcases Br.1 z with rfl|z
  .exact⟨h.1.2.1,λg O=>⟨(h.1.2.2.2 g O).1,(h.1.2.2.2 g O).2⟩⟩
  .exact Qlf s r _ h.2 t z
def rR{s:Ap}(h:EH s=true):Dt s:=by
 simp only[EH,AY,CF] at h;exact⟨by omega,Qlf s _ _ h.2.2,Qk5 s _ _ h.2.1⟩
def Qdg{s:Ap}{a:AB}(h:Ih s a=true):LW s a/\a.Tiles.length<=500:=by
 simp only[Ih,AY,CF,CR,Bz] at h;exact⟨⟨h.1.1,λx z=>⟨(h.2 x z).1,by have:=(h.2 x z).2;omega⟩⟩,h.1.2⟩
def Zv(p:AC)(d:Int):VU p d≠p:=by
 intro h;have O:(VU p d).X=p.X:=by rw[h]
 have z:(VU p d).Y=p.Y:=by rw[h]
 simp only[VU] at O z;split at O
 .rename_i h0;rw[Ai h0] at z;simp only at z;omega
 .rename_i h0;rw[Af h0] at z;split at O
  .simp only at O;omega
  .rename_i Q;rw[Af Q] at z;split at O
   .rename_i Z;rw[Ai Z] at z;simp only at z;omega
   .simp only at O;omega
def iR(a:AB)(i:Nat)(d:Int)(hi:i<a.Tiles.length):Hz a i d≠i:=by
 intro h;rcases rM (λx=>decide (x.At=VU ((a.Tiles[(i:Int).toNat]?.map Al.At).getD ⟨0,0⟩) d)) a.Tiles 0 with ⟨_,z⟩|⟨j,x,Q,z,Z⟩
 .simp only[Hz,z] at h;omega
 .simp only[Hz,z,FN] at h;have O:j=i:=by omega
  subst O
  have:=vE Q
  simp only[CF,Bq,Z,Dh,AX] at this;exact Zv _ _ this.symm
def KY(n:Int)(b:Ag):Prop:=(0<=b.A/\b.A<n/\0<=b.B/\b.B<n)/\b.A≠b.B/\0<b.Strength/\b.Strength<=4
def XL{s:Ap}(hs:Dt s)(a:AB)(i:Nat)(hi:i<a.Tiles.length)(d:Int): ∀b∈X1 s a i d,KY a.Tiles.length b:=by
 intro b z;simp only[X1] at z;split at z
 .rename_i h0;split at z
  .rename_i O;rw[BS] at z;subst z;have Q:=Lp a i d;have Z:=iR a i d hi;have h4:VW s (Hd a i) d (Hd a (Hz a i d))<=4:=by
    simp only[VW];split
    .exact (Pq hs _).2
    .omega
   exact⟨⟨by simp only;omega,by simp only;omega,h0,Q⟩,λh=>Z h.symm,O,h4⟩
  .simp at z
 .simp at z
def Qzz{s:Ap}(hs:Dt s)(a:AB)(i:Nat)(z:i<a.Tiles.length): ∀k,∀b∈KC s a i k,KY a.Tiles.length b
 |0,b,h=>by simp[KC] at h
 |k+1,b,h=>by
  simp only[KC,B7] at h;rcases h with h|h
  .exact Qzz hs a i z k b h
  .exact XL hs a i z _ b h
def Qro{s:Ap}(hs:Dt s)(a:AB): ∀k,k<=a.Tiles.length-> ∀b∈FX s a k,KY a.Tiles.length b
 |0,_,b,h=>by simp[FX] at h
 |k+1,z,b,h=>by
  simp only[FX,B7] at h;rcases h with h|h
  .exact Qro hs a k (by omega) b h
  .exact Qzz hs a k (by omega) _ b h
def MS(g:Int)(r:List Int)(m:Int)(h0:0<=g)(Q:g<m)(l:List Int)(O: ∀x∈l,0<=x/\x<m): ∀k,∀x∈QB g r l k,0<=x/\x<m
 |0=>O
 |k+1=>by
  intro x z;simp only[QB] at z;rcases XA z with z|z
  .exact MS g r m h0 Q l O k x z
  .omega
def MR(gs:List (List Int))(l:List Int)(z: ∀x∈l,0<=x/\x<(gs.length:Int)): ∀i,i<=gs.length-> ∀x∈KG gs l i,0<=x/\x<(gs.length:Int)
 |0,_=>z
 |i+1,O=>MS _ _ _ (by omega) (by omega) _ (MR gs l z i (by omega)) _
def Qy8{n:Nat}{gs:List (List Int)}(O:0<gs.length)(v:Int):0<=Ca (RA n gs) v/\Ca (RA n gs) v<(gs.length:Int):=by
 simp only[Ca];cases h:(RA n gs)[v.toNat]? with
 |none=>simp;omega
 |some x=>
  rw[AX];exact MR gs _ (λx z=>by have:=OF z;omega) _ (AU _) x (Bg h)
def Qvw{n:Nat}{gs:List (List Int)}(z:0<gs.length): ∀(bs:List Ag),(∀b∈bs,0<b.Strength/\b.Strength<=4)-> ∀b∈Ig (RA n gs) bs,KY gs.length b
 |[],_,b,h=>by simp[Ig] at h
 |x::r,Q,b,h=>by
  simp only[Ig] at h;have ih:=Qvw (n:=n) z r (λy hy=>Q y (BQ _ hy)) b;split at h
  .exact ih h
  .rename_i Z;rcases Br.1 h with rfl|h
   .have h1:=Qy8 (n:=n) z x.A;have h2:=Qy8 (n:=n) z x.B;have O:=Q x (BU ..);refine⟨?_,?_,O.1,O.2⟩
    .simp only[Fq,EC]
     split<;>split<;>omega
    .simp only[Fq,EC]
     split<;>split<;>omega
   .exact ih h
def Ny{n:Int}{bs:List Ag}{t:Int}(Q: ∀b∈bs,KY n b)(hl:bs.length<=1000000)(h0:0<(Cq n bs t).1)(h1:(Cq n bs t).1<=64):aB (Cq n bs t)/\QA (Cq n bs t).2:=by
 have O:=Qvw (n:=n.toNat) (gs:=O1 n bs t) (by simp only[Cq] at h0;omega) bs (λb z=>⟨(Q b z).2.2.1,(Q b z).2.2.2⟩);have Z:=Qjq (RA n.toNat (O1 n bs t)) bs;refine⟨⟨by omega,by omega,by simp only[Cq];omega,λb z=>(O b z).1,λb z=>(O b z).2.1⟩,λb z=> ?_⟩
 have:=(O b z).2.2
 omega
def gD(s:Ap)(a:AB)(t:Int):Bool×Int:=
 if 64<(Cq a.Tiles.length (FX s a a.Tiles.length) t).1 then (false,4)
 else if (Cq a.Tiles.length (FX s a a.Tiles.length) t).1<2 then (true,0)
 else (decide (t<=(FY (Cq a.Tiles.length (FX s a a.Tiles.length) t).1 (Cq a.Tiles.length (FX s a a.Tiles.length) t).2 ((Cq a.Tiles.length (FX s a a.Tiles.length) t).1 - 1).toNat).1),0)
def l07Stable.fv(a:Ap×AB×Int):Bool×Int:=(gD) (a.1) (a.2.1) (a.2.2)
def l07Stable.row:AF:=vK (b3 (qP 2 Ap.d_le) (qP 1 AB.d_le) qI) (r2 rB rI) (λa=>Dt a.1/\LW a.1 a.2.1/\a.2.1.Tiles.length<=500) l07Stable.fv
def l07Stable.q:=Bd (R:=l07Stable.row) rfl
def l07Stable.ok:AL 64 l07Stable.row:=by
 refine vw (tC l06Bonds.ok (tC shrunk.ok (tC weakC.ok tN))) Tryz.func64 ?_;intro a z;simp only[Tryz.f64,Option.getD];simp only[ZZ,simprocAttr,Ab,l07Stable.fv,l06Bonds.q,l06Bonds.fv,shrunk.q,shrunk.fv,weakC.q,weakC.fv];obtain⟨O,Z,h3⟩:=z;have Q:=Qro O a.2.1 _ (AU _);have hl:=sA a.1 a.2.1 a.2.1.Tiles.length;refine⟨⟨O,Z,by omega⟩,⟨by omega,λb hb=>(Q b hb).1,by omega⟩,?_⟩;simp only[gD];split
 .rfl
 .rename_i c1;split
  .rfl
  .rename_i c2;obtain⟨p1,p2⟩:=Ny (t:=a.2.2) Q (by omega) (by omega) (by omega);exact⟨⟨p1,p2,by omega⟩,rfl⟩
def Vv(s:Ap)(a:AB)(t:Int):Bool:=(gD s a t).1 && decide ((gD s a t).2=0)
def Ht(y:A9):Bool:=EH y.Set && (Ih y.Set y.Seed && (!y.Seed.Tiles.isEmpty && (Bz y.Temperature 1 16 && Vv y.Set y.Seed y.Temperature)))
def l08Ok.fv(a:A9):Bool:=(Ht) a
def l08Ok.row:AF:=vK (b1 (qP 4 A9.d_le)) rB (λa=>True) l08Ok.fv
def l08Ok.q:=Bd (R:=l08Ok.row) rfl
def l08Ok.ok:AL 32 l08Ok.row:=by
 refine vw (tC l02Ok.ok (tC l03Ok.ok (tC l07Temperature.ok (tC l07Stable.ok tN)))) Tryz.func32 ?_;intro a aa;simp only[Tryz.f32,Option.getD];simp only[ZZ,simprocAttr,Ab,l08Ok.fv,l02Ok.q,l02Ok.fv,l03Ok.q,l03Ok.fv,l07Temperature.q,l07Temperature.fv,l07Stable.q,l07Stable.fv]
 split<;>rename_i c1
 .split<;>rename_i c2
  .have z:Ih a.Set a.Seed=true:=by
    simp only[Ih,AY,CF];exact c2
   split<;>rename_i O
   .have Q:a.Seed.Tiles.isEmpty=false:=by
     rw[ZeF];intro h;rw[h] at O;simp at O
    split<;>rename_i Z
    .simp only[Ht,Z,Gu,bI]
    .refine⟨⟨rR c1,(Qdg z).1,(Qdg z).2⟩,?_⟩;rw[KR] at Z;simp only[Ht,c1,z,Q,Z,EL,Wm,Vv]
     split<;>rename_i c7
     .rw[c7,EL]
     .rw[mW] at c7;rw[c7,Gu]
   .have Q:a.Seed.Tiles=[]:=by
     have:=GK.1 O
     exact uZ (by omega)
    simp[Ht,Q]
  .have z:Ih a.Set a.Seed=false:=by
    rw[LR];intro h;simp only[Ih,AY,CF] at h;exact c2 h
   simp[Ht,z]
 .rw[mW] at c1;simp[Ht,c1]
def Dw(b n:Nat):List (List AV):=(List.range n).map λi=>[AV.own (b+i)]
def BI(b n:Nat)(M:List (List Int)):An:=A8 b n (λi=>(true,.arr 2 1 ((M[i]?.getD []).map Ak)))
def Gg(j:Nat):Bool:=Nat.blt j 3||((Nat.ble 100 j && Nat.blt j 164)||(Nat.ble 200 j && Nat.blt j 264))
def CG(x:Bi)(n:Nat):An:=(0,(true,.cells 251 [.own 1,.own 2]))::(1,(true,.arrA 41 1 (Dw 100 n)))::(2,(true,.arrA 41 1 (Dw 200 n)))::(BI 100 n x.Room++BI 200 n x.Flow)
def nwC.ca(a:Int×List Ag):List AV:=[.im (.int .i64 a.1),.im (.sl false 3 (a.2.map Ag.c))]
def nwC.H1(a:Int×List Ag):An:=CG (DP a.1.toNat a.2) (min a.1.toNat 64)
def MW(a:Int×List Ag):Prop:=0<=a.1/\a.1<=64/\a.2.length<=1000000/\LG a.1 a.2/\QA a.2/\ ∀b∈a.2,b.A≠b.B
def nwC.row:AF:=AD nwC.ca (λ_=>[]) 0 MW (λ_=>false) (λ_=> .ptr 0 0) nwC.H1 320
def lU(m:Nat): ∀(a b:An),Aw m (a++b)=(Aw m a && Aw m b)
 |[],b=>by simp[Aw]
 |(i,(z,e))::r,b=>by
  have ih:=lU m r b;cases e<;>simp only[BO,Aw,ih,mQ]
def zV(m:Nat): ∀(a b:An),B6 m (a++b)=(B6 m a && B6 m b)
 |[],b=>by simp[B6]
 |(i,(z,e))::r,b=>by simp only[BO,B6,zV m r b,mQ]
def Xf(b n N:Nat)(h:b+n<=N):(Dw b n).all (AA N)=true:=by
 rw[CR];intro r O;obtain⟨i,z,rfl⟩:=Bl.1 O
 have:=Bc.1 z
 simp[AA,AV.bel];omega
def sP(nx:Nat): ∀(l:List Nat),EU nx 0 l=true
 |[]=>rfl
 |x::r=>by
  have:(Nat.blt x nx||Nat.ble (nx+0) x)=true:=by
   rw[HN,Ei,FA];omega
  simp only[EU,this,sP nx r,gW]
def Ie(b n:Nat):(Dw b n).length=n:=by simp[Dw]
def Qo7(b n i:Nat)(h:i<n):(Dw b n)[i]? =some [.own (b+i)]:=by simp[Dw,Ga h]
def Qpf(a b:An):F6 (a++b)=F6 a++F6 b:=by
 induction a with
 |nil=>rfl
 |cons x r ih=>obtain⟨i,e⟩:=x;simp only[BO,F6,ih]
def Jm(m:Nat): ∀(a b:An),hget (a++b) m=(hget a m).or (hget b m)
 |[],b=>by simp[hget]
 |(i,e)::r,b=>by
  have ih:=Jm m r b;simp only[BO,hget];cases i==m<;>simp[ih]
def Qpw(b n:Nat)(M:List (List Int))(i:Nat)(h:i<n):hget (BI b n M) (b+i)=some (true,.arr 2 1 ((M[i]?.getD []).map Ak)):=Dp _ _ _ _ h
def Qwa(b n:Nat)(M:List (List Int))(m:Nat)(h:m<b\/b+n<=m):hget (BI b n M) m=none:=zW _ _ _ _ h
def eV(k:Nat)(M N:List (List Int))(i:Nat)(h:i<k):hget (BI 100 k M++BI 200 k N) (100+i)=some (true,.arr 2 1 ((M[i]?.getD []).map Ak)):=by
 rw[Jm,Qpw _ _ _ _ h];rfl
def eZ(k:Nat)(M N:List (List Int))(i:Nat)(z:k<=100)(h:i<k):hget (BI 100 k M++BI 200 k N) (200+i)=some (true,.arr 2 1 ((N[i]?.getD []).map Ak)):=by
 rw[Jm,Qwa _ _ _ _ (by omega),Qpw _ _ _ _ h];rfl
def Qxa(b n i:Nat)(K:List AV->Prop)(h:i<n):JY (Dw b n) i K=K [.own (b+i)]:=by
 apply propext;unfold JY;rw[Qo7 b n i h];exact⟨λh=>h _ rfl,λh row z=>by obtain rfl:=AJ z;exact h⟩
def fC(s:Az): ∀(a b:An),Cm s (a++b)=(Cm s a/\Cm s b)
 |[],b=>by simp[Cm]
 |(i,e)::r,b=>by simp only[BO,Cm,fC s r b,nC]
def sZ(s:Az)(b n:Nat)(M:List (List Int)):Cm s (BI b n M)= ∀i,i<n->hget s.h (b+i)=some (true,.arr 2 1 ((M[i]?.getD []).map Ak)):=by
 have: ∀(f:Nat->Am) (l:List Nat),Cm s (l.map λi=>(b+i,f i))↔ ∀i∈l,hget s.h (b+i)=some (f i):=by
  intro f l;induction l with
  |nil=>simp[Cm]
  |cons i r ih=>simp only[Be,Cm,ih,Br,Zeg]
 apply propext;rw[BI,A8,this];simp only[Bc]
def Qrm{n:Nat}{bs:List Ag}(O:LG n bs)(hs:QA bs)(a b:Nat): ∀k,0<=Ef (Cf n bs k) a b/\Ef (Cf n bs k) a b<=2000000*(k:Int)
 |0=>by
  simp only[Ef,Cf,Lq,Ho,LP];split
  .rw[AX,LP];split<;>simp
  .simp
 |k+1=>by
  have ih:=Qrm O hs a b k;obtain⟨z,_⟩:=Xp O k;simp only[Ef,Cf] at ih⊢;split
  .rename_i x Q;obtain⟨b1,b2,b3,b4⟩:=O x (Bg Q);have h0:=hs x (Bg Q);simp only[KV];rw[show x.A=(x.A.toNat:Int) by omega,show x.B=(x.B.toNat:Int) by omega];rw[eT (n:=n) (by rw[ZR];exact z.r) (ZO z.rr _ _ _ (by rw[z.r];simp;omega)) _ (by omega) (by omega),eT z.r z.rr _ (by omega) (by omega)]
   split<;>split<;>omega
  .omega
def Ua(k:Nat)(Q:k<=64):([0,1,2]++((List.range k).map (100+ ·)++(List.range k).map (200+ ·))).Nodup:=by
 rw[<-Ka];refine eW _ 200 k (eW _ 100 k (by simp) (by simp)) ?_;intro x z;rcases B7.1 z with z|z
 .simp at z;omega
 .obtain⟨i,O,rfl⟩:=Bl.1 z
  have:=Bc.1 O
  show 100+i<200;omega
def TZ(k:Nat)(Q:k<=64): ∀x∈([0,1,2]++((List.range k).map (100+ ·)++(List.range k).map (200+ ·))),x<300:=by
 intro x z;rcases B7.1 z with z|z
 .simp at z;omega
 .rcases B7.1 z with z|z<;>obtain⟨i,O,rfl⟩:=Bl.1 z<;>have:=Bc.1 O
  .show 100+i<300;omega
  .show 200+i<300;omega
def Qyn{π:List (Nat×Option Nat)}{b:Nat}{g:Nat->Nat}{n:Nat}(h: ∀i,i<n->pm π (b+i)=some (g i)){R:List (List AV)}(hR:R=(List.range n).map λi=>[AV.own (g i)]):FF π (Dw b n) R:=by
 subst hR;rw[Wa];refine⟨by simp[Dw],λi x y O Q=> ?_⟩;have z:i<n:=by have:=(C6.1 O).1;rwa [Ie] at this
 rw[Qo7 _ _ _ z] at O;rw[D3,Ga z] at Q;obtain rfl:=AJ O;obtain rfl:=AJ Q;simp only[Dz,mt,h i z,EV,QL]
def Ql0(b k c:Nat):Dw b k++[[.own c]]=(List.range (k+1)).map λi=>[AV.own (if i<k then b+i else c)]:=by
 rw[gV,DX,Dw];congr 1
 .exact Gb λi z=>by rw[Ai (Bc.1 z)]
 .simp
def tS(k:Nat)(M N:List (List Int))(O:k<=64)(tm:List (Nat×AV))(z:Cv 300 tm=true):Az.good ⟨tm,(0,(true,.cells 251 [.own 1,.own 2]))::(1,(true,.arrA 41 1 (Dw 100 k)))::(2,(true,.arrA 41 1 (Dw 200 k)))::(BI 100 k M++BI 200 k N),300⟩=true:=by
 simp only[Az.good,Aw,B6,z,EL,lU,zV,BI];rw[O5 _ _ _ (λi=>rfl),O5 _ _ _ (λi=>rfl),O2 _ _ _ _ (by omega),O2 _ _ _ _ (by omega),Xf _ _ _ (by omega),Xf _ _ _ (by omega)];rfl
def Lh(o:Nat)(h:Gg o=true):o<264:=by
 simp only[Gg,HN,AY,Ei,FA] at h;omega
def bQ(i:Nat)(h:i<64):Gg (100+i)=true:=by
 simp only[Gg,HN,AY,Ei,FA];omega
def bR(i:Nat)(h:i<64):Gg (200+i)=true:=by
 simp only[Gg,HN,AY,Ei,FA];omega
def Quc(h:Nat->Option Am)(f:AV->Option AV): ∀(a b:An),Er h f (a++b)↔Er h f a/\Er h f b
 |[],b=>by simp[Er]
 |(i,e)::r,b=>by simp only[BO,Er,Quc h f r b,nC]
def Qoq(h:Nat->Option Am)(f:AV->Option AV)(b n:Nat)(M:List (List Int))(H: ∀i,i<n->h (b+i)=some (true,.arr 2 1 ((M[i]?.getD []).map Ak))):Er h f (BI b n M):=by
 have: ∀(l:List Nat),(∀i∈l,i<n)->Er h f (l.map λi=>(b+i,(true,Ac.arr 2 1 ((M[i]?.getD []).map Ak)))):=by
  intro l;induction l with
  |nil=>intro _;simp[Er]
  |cons i r ih=>
   intro z;simp only[Be,Er];refine⟨?_,ih (λj Q=>z j (BQ _ Q))⟩;rw[H i (z i (BU ..))];exact⟨rfl,rfl⟩
 exact this _ (λi O=>Bc.1 O)
def Quf{h:Nat->Option Am}{kx:Nat->Option Nat}{m b n:Nat}(O: ∀i,i<n->kx (b+i)=some (b+i)):Ax (Ax (Bf h kx (m+1))) (Dw b n)=some (Dw b n):=by
 refine R8 (g:=λi=>[AV.own (b+i)]) (k:=λi=>[AV.own (b+i)]) _ λi z=> ?_
 simp only[Ax,Bf,O i (Bc.1 z),kp]
def Uk{x:Bi}{n:Nat}(hn:n<=64){kx:Nat->Option Nat}(O: ∀o,Gg o=true->kx o=some o):Er (hget (CG x n)) (Bf (hget (CG x n)) kx 9) (CG x n):=by
 have k1:kx 1=some 1:=O 1 rfl;have k2:kx 2=some 2:=O 2 rfl;obtain⟨H,hH⟩: ∃H,H=hget (CG x n):=⟨_,rfl⟩;have g0:H 0=some (true,.cells 251 [.own 1,.own 2]):=by rw[hH];rfl
 have g1:H 1=some (true,.arrA 41 1 (Dw 100 n)):=by rw[hH];rfl
 have g2:H 2=some (true,.arrA 41 1 (Dw 200 n)):=by rw[hH];rfl
 have ga: ∀i,i<n->H (100+i)=some (true,.arr 2 1 ((x.Room[i]?.getD []).map Ak)):=by
  intro i z;rw[hH];simp only[CG,hget,Ar _ _ (show 0≠100+i by omega),Ar _ _ (show 1≠100+i by omega),Ar _ _ (show 2≠100+i by omega),Bk];exact eV _ _ _ _ z
 have gb: ∀i,i<n->H (200+i)=some (true,.arr 2 1 ((x.Flow[i]?.getD []).map Ak)):=by
  intro i z;rw[hH];simp only[CG,hget,Ar _ _ (show 0≠200+i by omega),Ar _ _ (show 1≠200+i by omega),Ar _ _ (show 2≠200+i by omega),Bk];exact eZ _ _ _ _ (by omega) z
 rw[<-hH];simp only[CG,Er,Quc];refine⟨?_,?_,?_,Qoq _ _ _ _ _ ga,Qoq _ _ _ _ _ gb⟩
 .rw[g0];exact⟨rfl,by simp only[BZ,Ax,Bf,k1,k2,kp];rfl⟩
 .rw[g1];exact⟨rfl,by simp only[BZ];rw[Quf (λi z=>O _ (bQ i (by omega)))];rfl⟩
 .rw[g2];exact⟨rfl,by simp only[BZ];rw[Quf (λi z=>O _ (bR i (by omega)))];rfl⟩
def MV{x:Bi}{n:Nat}(hn:n<=64){p:Nat×Am}(hp:p∈CG x n):Gg p.1=true/\p.2.1=true:=by
 simp only[CG,Br,B7,BI,A8,Bl,Bc] at hp;rcases hp with rfl|rfl|rfl|⟨i,z,rfl⟩|⟨i,z,rfl⟩
 .exact⟨rfl,rfl⟩
 .exact⟨rfl,rfl⟩
 .exact⟨rfl,rfl⟩
 .exact⟨bQ i (by omega),rfl⟩
 .exact⟨bR i (by omega),rfl⟩
def jC{a:Int×List Ag}{p:Nat×Am}(hp:p∈nwC.H1 a):Gg p.1=true/\p.2.1=true:=MV (LS _ _) hp
def nwC.ok:AL 162 nwC.row:=by
 refine ow tN Tryz.func162 (exB:=Gg) (R:=λ_ r=>r= .ptr 0 0) (λ_=>rfl)
  (λa=>by simp[nwC.ca,Gg,AA,AV.bel,Aw,B6,BT,Ac.nms,Au,AV.nms,Aj,hget]) (λa p hp=> ?_) (λa r h=>by subst h;exact CN.refl _) ?_
 rotate_left
 intro a aq;simp only[Tryz.f162,Option.getD,nwC.ca,Gg];simp(disch:=omega)only[ZZ,simprocAttr,Ab,Aq,nwC.ca,Gg];obtain⟨h0,Q,hl,Z,ah,ao⟩:=aq;obtain⟨n,hn⟩: ∃n:Nat,a.1=n:=⟨a.1.toNat,by omega⟩;obtain⟨bs,hbsd⟩: ∃bs,bs=a.2:=⟨_,rfl⟩;simp only[<-hbsd] at hl Z ah ao;rw[hn] at h0 Q Z;have hH1:nwC.H1 a=CG (DP n bs) n:=by simp only[nwC.H1,hn,Bq,hbsd];rw[vG (by omega)]
 rw[hH1];clear hH1;simp only[hn,<-hbsd];refine Ba.ren ⟨{k:Nat//k<=n},λk=>⟨[(11,.im (.int .i64 k.1)),(10,.im (.int .i64 n)),(5,.ptr 0 0),(0,.im (.int .i64 n)),(1,.im (.sl false 3 (bs.map Ag.c)))],(0,(true,.cells 251 [.own 1,.own 2]))::(1,(true,.arrA 41 1 (Dw 100 k.1)))::(2,(true,.arrA 41 1 (Dw 200 k.1)))::(BI 100 k.1 (List.replicate n (List.replicate n 0))++BI 200 k.1 (List.replicate n (List.replicate n 0))),300⟩,λk=>n - k.1,λk=>⟨?_,by simp⟩,⟨⟨0,by simp⟩,[(1,none),(2,none)],?_⟩,λk=> ?_⟩
 .exact tS _ _ _ (by omega) _ (by simp[Cv,AV.bel])
 .simp only[Av,BI,A8,Dw,ES,BF,DJ];simp(disch:=omega)only[ZZ,simprocAttr,Ab,Aq,nwC.ca,Gg,AS,AR]
 obtain⟨k,av⟩:=k;simp(disch:=omega)only[ZZ,simprocAttr,Ab,Aq,nwC.ca,Gg,sub,AP,Bp,sP,HP,QM,EZ,LQ,Xf,Ie];refine⟨λhk=>⟨by omega,by omega,by omega,by omega,⟨k+1,by omega⟩,[(1,some 302),(2,some 305),(100+k,some 300),(200+k,some 303)],by simp only;omega,?_⟩,λhk=> ?_⟩
 .have hg: ∀i,i<n->(List.replicate n (List.replicate n (0:Int)))[i]?.getD []=List.replicate n 0:=by
   intro i z;rw[LP,Ai z,AX]
  have af: ∀i,i<k->pm [(1,some 302),(2,some 305),(100+k,some 300),(200+k,some 303)] (100+i)=some (100+i):=by
   intro i z;simp only[pm];rw[Af (by omega),Af (by omega),Af (by omega),Af (by omega)]
  have ag: ∀i,i<k->pm [(1,some 302),(2,some 305),(100+k,some 300),(200+k,some 303)] (200+i)=some (200+i):=by
   intro i z;simp only[pm];rw[Af (by omega),Af (by omega),Af (by omega),Af (by omega)]
  have ac:pm [(1,some 302),(2,some 305),(100+k,some 300),(200+k,some 303)] (100+k)=some 300:=by
   simp only[pm];rw[Af (by omega),Af (by omega),Ai trivial]
  have ad:pm [(1,some 302),(2,some 305),(100+k,some 300),(200+k,some 303)] (200+k)=some 303:=by
   simp only[pm];rw[Af (by omega),Af (by omega),Af (by omega),Ai trivial]
  have q0:pm [(1,some 302),(2,some 305),(100+k,some 300),(200+k,some 303)] 0=some 0:=by
   simp only[pm];rw[Af (by omega),Af (by omega),Af (by omega),Af (by omega)]
  have q1:pm [(1,some 302),(2,some 305),(100+k,some 300),(200+k,some 303)] 1=some 302:=rfl;have q2:pm [(1,some 302),(2,some 305),(100+k,some 300),(200+k,some 303)] 2=some 305:=rfl;obtain⟨π,hπ⟩: ∃π,π=[(1,some 302),(2,some 305),(100+k,some 300),(200+k,some 303)]:=⟨_,rfl⟩;rw[<-hπ] at af ag ac ad q0 q1 q2⊢;refine⟨by rw[hπ];exact⟨by omega,by omega,by omega,by omega,trivial⟩,?_,?_,?_⟩
  .rw[aD,hπ];simp only[F6,Qpf,BI,Xh];refine aI _ _ (Ua (k+1) (by omega)) ?_;intro x hx y hy m ai aj;have ba:=TZ (k+1) (by omega) x hx;have bb:=TZ (k+1) (by omega) y hy;simp only[pm] at ai aj
   repeat' split at ai
   all_goals repeat' split at aj
   all_goals simp only[AN] at ai aj
   all_goals omega
  .simp only[GH,AE];simp(disch:=omega)only[ZZ,simprocAttr,Ab,Aq,nwC.ca,Gg,q0];rw[AG (by omega) (by omega)];omega
  .simp only[EJ,Qns,BI,ZY];refine⟨?_,?_,?_,λi z=> ?_,λi z=> ?_⟩
   .simp(disch:=omega)only[ZZ,simprocAttr,Ab,Aq,nwC.ca,Gg,q0,q1,q2]
   .simp(disch:=omega)only[ZZ,simprocAttr,Ab,Aq,nwC.ca,Gg,q0,q1,q2];refine Qyn (g:=λi=>if i<k then 100+i else 300) (λi z=> ?_) (Ql0 100 k 300);by_cases h:i<k
    .rw[Ai h,af i h]
    .rw[Af h,show i=k by omega,ac]
   .simp(disch:=omega)only[ZZ,simprocAttr,Ab,Aq,nwC.ca,Gg,q0,q1,q2];refine Qyn (g:=λi=>if i<k then 200+i else 303) (λi z=> ?_) (Ql0 200 k 303);by_cases h:i<k
    .rw[Ai h,ag i h]
    .rw[Af h,show i=k by omega,ad]
   .by_cases h:i<k
    .rw[af i h,hg i (by omega)];simp only[Cx,hget,Ar _ _ (show 0≠100+i by omega),Ar _ _ (show 305≠100+i by omega),Ar _ _ (show 303≠100+i by omega),Ar _ _ (show 302≠100+i by omega),Ar _ _ (show 300≠100+i by omega),Bk,Xj];have h9:=eV k (List.replicate n (List.replicate n 0)) (List.replicate n (List.replicate n 0)) i h;simp only[BI] at h9;simp (disch:=omega) only[bA,gR,Ar,OJ,Df,CO,h9,hg,Lb,Ej,QL]
    .rw[show i=k by omega,ac,hg k (by omega)];simp(disch:=omega)only[ZZ,simprocAttr,Ab,Aq,nwC.ca,Gg,tR]
   .by_cases h:i<k
    .rw[ag i h,hg i (by omega)];simp only[Cx,hget,Ar _ _ (show 0≠200+i by omega),Ar _ _ (show 305≠200+i by omega),Ar _ _ (show 303≠200+i by omega),Ar _ _ (show 302≠200+i by omega),Ar _ _ (show 300≠200+i by omega),Bk,Xj];have h9:=eZ k (List.replicate n (List.replicate n 0)) (List.replicate n (List.replicate n 0)) i (by omega) h;simp only[BI] at h9;simp (disch:=omega) only[bA,gR,Ar,OJ,Df,CO,h9,hg,Lb,Ej,QL]
    .rw[show i=k by omega,ad,hg k (by omega)];simp(disch:=omega)only[ZZ,simprocAttr,Ab,Aq,nwC.ca,Gg,tR]
 .intro _;have aw:k=n:=by omega
  subst aw;clear hk av;refine Ba.old ⟨{j:Nat//j<=bs.length},λj=>⟨[(38,.im (.int .i64 j.1)),(37,.im (.int .i64 bs.length)),(36,.im (.sl false 3 (bs.map Ag.c))),(5,.ptr 0 0)],(0,(true,.cells 251 [.own 1,.own 2]))::(1,(true,.arrA 41 1 (Dw 100 k)))::(2,(true,.arrA 41 1 (Dw 200 k)))::(BI 100 k (Cf k bs j.1).Room++BI 200 k (Cf k bs j.1).Flow),300⟩,λj=>bs.length - j.1,λj=>⟨?_,by simp⟩,⟨⟨0,by simp⟩,?_⟩,λj=> ?_⟩
  .exact tS _ _ _ (by omega) _ (by simp[Cv,AV.bel])
  .simp only[sub,Ha,Cm,AE,hget,fC];simp(disch:=omega)only[ZZ,simprocAttr,Ab,Aq,nwC.ca,Gg,sub,fC,sZ,Cf,Lq];refine⟨λi z=> ?_,λi z=> ?_⟩
   .rw[Af (by omega),Af (by omega),Af (by omega)];exact eV _ _ _ _ z
   .rw[Af (by omega),Af (by omega),Af (by omega)];exact eZ _ _ _ _ (by omega) z
  obtain⟨j,hj⟩:=j;obtain⟨ab,_⟩:=Xp Z j;obtain⟨x,hx⟩: ∃x,x=Cf k bs j:=⟨_,rfl⟩;simp only[<-hx] at ab⊢;simp(disch:=omega)only[ZZ,simprocAttr,Ab,Aq,nwC.ca,Gg,sub,AP,Bp,Ie];refine⟨λan=>⟨an,λb hb=> ?_⟩,λan=> ?_⟩
  .obtain⟨b1,b2,b3,b4⟩:=Z b (Bg hb);have a0:=ao b (Bg hb);have a8:=ah b (Bg hb);obtain⟨u,hu⟩: ∃u:Nat,b.A=u:=⟨b.A.toNat,by omega⟩;obtain⟨v,hv⟩: ∃v:Nat,b.B=v:=⟨b.B.toNat,by omega⟩;have aa:u<k:=by omega
   have O:v<k:=by omega
   have az:u≠v:=by omega
   simp only[hu,hv,Bq];refine⟨by omega,by omega,by omega,?_⟩;have hr: ∀i,i<k->(x.Room[i]?.getD []).length=k:=by
    intro i z;rw[BA (by rw[ab.r];exact z),AX];exact ab.rr _ (RI _)
   have ax:=hr u aa;have ay:=hr v O;simp(disch:=omega)only[ZZ,simprocAttr,Ab,Aq,nwC.ca,Gg,sub,AP,LL,Bp,Ie,Ar,JW,eV,hu,hv,Bq,ax,ay,Qxa,eS,FO,HP,fC,sZ];have ak:=Qrm Z ah u v j;have am:=Qrm Z ah v u j;rw[<-hx] at ak am;refine⟨by omega,O,by omega,O,λx1 e1=>⟨O,by omega,O,λx2 _=>⟨.inr (by omega),O,O,by omega,aa,by omega,aa,λx3 e3=>⟨aa,by omega,aa,λx4 _=>⟨.inr (by omega),⟨j+1,by omega⟩,by simp only;omega,by rw[AG (by omega) (by omega)];simp only;omega,?_⟩⟩⟩⟩⟩;have r1:Ef x u v=x1:=by simp only[Ef,Ho,e1,AX]
   have r3:Ef x v u=x3:=by simp only[Ef,Ho,e3,AX]
   rw[r1] at ak;rw[r3] at am;rw[AG (by omega) (by omega),AG (by omega) (by omega)];have hN:Cf k bs (j+1)=KV x b:=by simp only[Cf,hb,<-hx]
   have hR: ∀i,i<k->(Cf k bs (j+1)).Room[i]?.getD []=if v=i then (x.Room[v]?.getD []).set u (x3+b.Strength) else if u=i then (x.Room[u]?.getD []).set v (x1+b.Strength) else x.Room[i]?.getD []:=by
    intro i z;rw[hN];simp only[KV,LJ,hu,hv,Bq];by_cases Q:v=i
    .subst Q;rw[Ai rfl,DW (by rw[FO,ab.r];exact O),AX,Eh az,e3,AX]
    .rw[Af Q,Eh Q];by_cases h2:u=i
     .subst h2;rw[Ai rfl,DW (by rw[ab.r];exact aa),AX,e1,AX]
     .rw[Af h2,Eh h2]
   have hF:(Cf k bs (j+1)).Flow=x.Flow:=by rw[hN];rfl
   refine⟨λi z=> ?_,λi z=> ?_⟩
   .rw[hR i z];by_cases Q:v=i
    .subst Q;rw[Ai rfl,Ai rfl]
    .rw[Af (by omega),Af Q];by_cases h2:u=i
     .subst h2;rw[Ai rfl,Ai rfl]
     .rw[Af (by omega),Af h2,Af (by omega)];exact eV _ _ _ _ z
   .rw[Af (by omega),hF];exact eZ _ _ _ _ (by omega) z
  .have au:j=bs.length:=by omega
   subst au;rw[hx];exact Uk (x:=DP k bs) (n:=k) (by omega) (λo ho=>by
    have Q:(Aj [] o||(Gg o && (Nat.ble 0 o && Nat.blt o (0+320))))=true:=by
     have h2:=Lh o ho;simp[ho];omega
    simp only[Hx,Q,Cg])
 rcases jC hp with ⟨Q,h2⟩
 have a9:=Lh p.1 Q;exact .inr ⟨by omega,by omega,Q,h2⟩
structure TX(H:Nat->Option Am)(x:Bi)(n:Nat):Prop where
 g0:H 0=some (true,.cells 251 [.own 1,.own 2])
 g1:H 1=some (true,.arrA 41 1 (Dw 100 n))
 g2:H 2=some (true,.arrA 41 1 (Dw 200 n))
 ga: ∀i,i<n->H (100+i)=some (true,.arr 2 1 ((x.Room[i]?.getD []).map Ak))
 gb: ∀i,i<n->H (200+i)=some (true,.arr 2 1 ((x.Flow[i]?.getD []).map Ak))
def UQ{M:List (List Int)}{n:Nat}(h:M.length=n):(List.range n).map (λi=>CZ (M[i]?.getD []))=M.map CZ:=by
 apply RH;intro i;rw[D3,D3];by_cases z:i<n
 .rw[Ga z,BA (by omega:i<M.length)];simp only[Dh,BA (show i<M.length by omega),AX]
 .rw[Ir (by simp;omega),Ir (by omega)];rfl
def MX{H:Nat->Option Am}{m b o n:Nat}{M:List (List Int)}(Z:M.length=n)(z:H o=some (true,.arrA 41 1 (Dw b n)))(O: ∀i,i<n->H (b+i)=some (true,.arr 2 1 ((M[i]?.getD []).map Ak))):
 bk H (m+2) (.own o)=some (.sl false 1 (M.map CZ)):=by
 simp only[bk,z,KM];rw[Dw,R8 (f:=Ax (bk H (m+1))) (g:=λi=>[AV.own (b+i)]) (k:=λi=>CZ (M[i]?.getD [])),UQ Z]
 .rfl
 .intro i Q;simp only[Ax,bk,O i (Bc.1 Q),KM];rfl
def YG{H:Nat->Option Am}{x:Bi}{n:Nat}(h:TX H x n)(z:KI x n)(a b:D):Ce H [.ptr 0 0,.im a,.im b]=some [.ptr (Bi.c x),FQ a,FQ b]:=by
 have O:=MX (m:=6) z.r h.g1 h.ga;have Q:=MX (m:=6) z.f h.g2 h.gb;simp only[Ce,DE,h.g0,aS,GJ,Ax,O,Q,JE,Dh,Gz];rfl
def VI{H:Nat->Option Am}{x:Bi}{n nx:Nat}{K:Ah}(h:TX H x n)(z:KI x n)(hn:n<=1000){p q:Int}(O:0<=p)(aa:p<n)(Q:0<=q)(ab:q<n)
 (hK: ∀U,K (.im (.sl true 1 ((C4 x n p q).map Ak))) {use:=U}):wayC.row [.ptr 0 0,.im (.int .i64 p),.im (.int .i64 q)] H nx K:=by
 have Z:=z.r;rw[wayC.q,YG h z];have e:Bi.d ((Bi.c x).take 2)=some x:=Bi.d_c x;simp only[VP,b3,qP,qI,a3,kP,kI,FQ,e,Gw,DZ];refine⟨⟨Z▸z,by omega,O,by omega,Q,by omega⟩,?_⟩;have e2:wayC.re (wayC.fv (x,p,q))= .sl true 1 ((C4 x n p q).map Ak):=by simp only[wayC.re,wayC.fv,Z]
 rw[e2];exact hK _
def sndC.n(a:Bi×Int×Int×Int):Nat:=min a.1.Room.length 64
def RB(n:Nat)(p q:Int):Nat->Bi->Bi
 |0,x=>x
 |m+1,x=>if C4 x n p q=[] then x else RB n p q m (HK x (C4 x n p q) ((C4 x n p q).length - 1))
def sndC.ca(a:Bi×Int×Int×Int):List AV:=[.ptr 0 0,.im (.int .i64 a.2.1),.im (.int .i64 a.2.2.1),.im (.int .i64 a.2.2.2)]
def sndC.H0(a:Bi×Int×Int×Int):An:=CG a.1 (sndC.n a)
def sndC.H1(a:Bi×Int×Int×Int):An:=BI 200 (sndC.n a) (RB (sndC.n a) a.2.1 a.2.2.1 a.2.2.2.toNat a.1).Flow
def sndC.r0(a:Bi×Int×Int×Int):AV:= .im (.int .i64 (Gq (sndC.n a) a.2.1 a.2.2.1 a.2.2.2.toNat a.1))
structure Vi(a:Bi×Int×Int×Int):Prop where
 n:a.1.Room.length<=64
 ok:KI a.1 a.1.Room.length
 p0:0<=a.2.1
 p1:a.2.1<a.1.Room.length
 q0:0<=a.2.2.1
 q1:a.2.2.1<a.1.Room.length
 pq:a.2.1≠a.2.2.1
 m0:0<=a.2.2.2
 m1:a.2.2.2<=1000000
 fl: ∃v,R2 (Ef a.1) (Kk a.1) a.1.Room.length a.2.1.toNat a.2.2.1.toNat v
 rm: ∀u v,Ef a.1 u v<=10000000000000
def Tw(j:Nat):Bool:=Nat.ble 200 j && Nat.blt j 264
def sndC.row:AF:=AD sndC.ca sndC.H0 300 Vi Tw sndC.r0 sndC.H1 10
def sndC.hbel(a:Bi×Int×Int×Int):AA 300 (sndC.ca a)=true:=rfl
def sndC.n_le(a:Bi×Int×Int×Int):sndC.n a<=64:=LS _ _
def oM(x:Bi)(n:Nat)(hn:n<=64):Aw 300 (CG x n)=true/\B6 300 (CG x n)=true:=by
 have:=tS n x.Room x.Flow hn [] rfl
 simp only[Az.good,AY] at this;exact this.2
def sndC.hbH(a:Bi×Int×Int×Int):Aw 300 (sndC.H0 a)=true:=(oM _ _ (sndC.n_le a)).1
def sndC.hkH(a:Bi×Int×Int×Int):B6 300 (sndC.H0 a)=true:=(oM _ _ (sndC.n_le a)).2
def VZ(x:Bi)(n:Nat)(hn:n<=64):TX (hget (CG x n)) x n:=by
 refine⟨rfl,rfl,rfl,λi z=> ?_,λi z=> ?_⟩
 .simp only[CG,hget,Ar _ _ (show 0≠100+i by omega),Ar _ _ (show 1≠100+i by omega),Ar _ _ (show 2≠100+i by omega),Bk];exact eV _ _ _ _ z
 .simp only[CG,hget,Ar _ _ (show 0≠200+i by omega),Ar _ _ (show 1≠200+i by omega),Ar _ _ (show 2≠200+i by omega),Bk];exact eZ _ _ _ _ (by omega) z
def Qvt(H0:An): ∀(a b:An),BT H0 (a++b)↔BT H0 a/\BT H0 b
 |[],b=>by simp[BT]
 |(i,(z,e))::r,b=>by simp only[BO,BT,Qvt H0 r b,nC]
def Qud(H0:An)(b n:Nat)(M:List (List Int)):BT H0 (BI b n M):=by
 have: ∀(l:List Nat),BT H0 (l.map λi=>(b+i,(true,Ac.arr 2 1 ((M[i]?.getD []).map Ak)))):=by
  intro l;induction l with
  |nil=>simp[BT]
  |cons i r ih=>simp only[Be,BT];exact⟨λm z=>by simp[Ac.nms] at z,ih⟩
 exact this _
def Qu6(b n:Nat): ∀m∈B8 (Dw b n),∃i,i<n/\m=b+i:=by
 have: ∀(l:List Nat),(∀i∈l,i<n)-> ∀m∈B8 (l.map λi=>[AV.own (b+i)]),∃i,i<n/\m=b+i:=by
  intro l;induction l with
  |nil=>intro _ m z;simp[B8] at z
  |cons i r ih=>
   intro O m z;simp only[Be,B8,Au,AV.nms,DJ,B7,BS] at z;rcases z with rfl|z
   .exact⟨i,O i (BU ..),rfl⟩
   .exact ih (λj Z=>O j (BQ _ Z)) m z
 exact this _ (λi Q=>Bc.1 Q)
def YF(x:Bi)(n:Nat)(hn:n<=64):BT (CG x n) (CG x n):=by
 have O:=VZ x n hn;have hd: ∀o e,hget (CG x n) o=some e->Aj (CG x n) o=true:=λo e h=>by simp only[Aj,h];rfl
 obtain⟨H,hH⟩: ∃H,H=CG x n:=⟨_,rfl⟩;rw[<-hH] at O hd;rw[show BT (CG x n) (CG x n)=BT H (CG x n) by rw[hH]];simp only[CG,BT,Qvt];refine⟨λm z=> ?_,λm z=> ?_,λm z=> ?_,Qud _ _ _ _,Qud _ _ _ _⟩
 .simp only[Ac.nms,Au,AV.nms,DJ,B7,BS] at z;rcases z with rfl|rfl
  .exact hd _ _ O.g1
  .exact hd _ _ O.g2
 .obtain⟨i,Q,rfl⟩:=Qu6 100 n m z;exact hd _ _ (O.ga i Q)
 .obtain⟨i,Q,rfl⟩:=Qu6 200 n m z;exact hd _ _ (O.gb i Q)
def NA{s:Az}{x:Bi}{n:Nat}(h:TX (hget s.h) x n):Cm s (CG x n):=by
 simp only[CG,Cm,fC,sZ];exact⟨h.g0,h.g1,h.g2,h.ga,h.gb⟩
def Nu(h:Nat->Option Am)(f:Nat->Bool): ∀(a b:An),IC h f (a++b)↔IC h f a/\IC h f b
 |[],b=>by simp[IC]
 |(i,e)::r,b=>by simp only[BO,IC,Nu h f r b,nC]
def bX(i:Nat)(h:i<64):Tw (200+i)=true:=by
 simp only[Tw,AY,FA,Ei];omega
def uR(h:Nat->Option Am)(f:Nat->Bool)(b:Nat)(g:Nat->Am)(n:Nat)(H: ∀i,i<n->f (b+i)=true\/h (b+i)=some (g i)):IC h f (A8 b n g):=by
 have: ∀(l:List Nat),(∀i∈l,i<n)->IC h f (l.map λi=>(b+i,g i)):=by
  intro l;induction l with
  |nil=>intro _;trivial
  |cons i r ih=>
   intro O;simp only[Be,IC];refine⟨?_,ih (λj Z=>O j (BQ _ Z))⟩;rcases H i (O i (BU ..)) with z|z
   .rw[z];trivial
   .cases f (b+i)
    .exact z
    .trivial
 exact this _ (λi Q=>Bc.1 Q)
def UN{h:Nat->Option Am}{n:Nat}(hn:n<=64){M:List (List Int)}(H: ∀i,i<n->h (100+i)=some (true,.arr 2 1 ((M[i]?.getD []).map Ak))):IC h Tw (BI 100 n M):=uR _ _ _ _ _ (λi z=> .inr (H i z))
def UO{h:Nat->Option Am}{n:Nat}(hn:n<=64){M:List (List Int)}:IC h Tw (BI 200 n M):=uR _ _ _ _ _ (λi z=> .inl (bX i (by omega)))
def sndC.hnm(a:Bi×Int×Int×Int):BT (sndC.H0 a) (sndC.H0 a):=YF _ _ (sndC.n_le a)
def sndC.ok:AL 163 sndC.row:=by
 refine ow (tC wayC.ok tN) Tryz.func163 (exB:=λ_=>false) (R:=λa r=>r=sndC.r0 a) (λ_=>rfl)
  (λa=>⟨sndC.hbel a,sndC.hbH a,sndC.hkH a,sndC.hnm a⟩) (λa p hp=> ?_) (λa r h=>by subst h;exact CN.refl _) ?_
 rotate_left
 intro a av;simp only[Tryz.f163,Option.getD,sndC.ca];simp(disch:=omega)only[ZZ,simprocAttr,Ab,Aq,sndC.ca];obtain⟨x,p,q,mo⟩:=a;obtain⟨hn,am,ad,aa,af,ag,au,ba,bb,ak,an⟩:=av;simp only at hn am ad aa af ag au ba bb ak an;obtain⟨n,hnn⟩: ∃n,n=x.Room.length:=⟨_,rfl⟩;obtain⟨M,hM⟩: ∃M:Nat,mo=M:=⟨mo.toNat,by omega⟩;subst hM;have be: ∀y:Int×Int×Int,sndC.n (x,y)=n:=λy=>by simp only[sndC.n,<-hnn];omega
 simp only[sndC.H1,sndC.r0,sndC.H0,be,Bq,CG,Bp];rw[<-hnn] at hn am aa ag ak;refine Ba.old ⟨{s:Nat×Bi//s.1<=M/\KI s.2 n/\s.2.Room=x.Room/\(∃v,R2 (Ef x) (Kk s.2) n p.toNat q.toNat v)/\Gq n p q M x=Gq n p q (M - s.1) s.2+s.1/\RB n p q M x=RB n p q (M - s.1) s.2},λs=>⟨[(9,.im (.int .i64 s.1.1)),(0,.ptr 0 0),(1,.im (.int .i64 p)),(2,.im (.int .i64 q)),(3,.im (.int .i64 M))],CG s.1.2 n,300⟩,λs=>M - s.1.1,λs=>⟨?_,by simp⟩,⟨⟨(0,x),by simp only;omega,am,rfl,ak,by simp,by simp⟩,?_⟩,λs=> ?_⟩
 .simp only[CG];exact tS _ _ _ hn _ (by simp[Cv,AV.bel])
 .simp only[sub,Ha,AE];refine⟨?_,?_⟩
  .simp(disch:=omega)only[ZZ,simprocAttr,Ab,Aq,sndC.ca]
  .exact NA (VZ x n hn)
 obtain⟨⟨k,y⟩,i1,i2,i3,i4,i5,i6⟩:=s;simp only at i1 i2 i3 i4 i5 i6;simp only[CG];simp(disch:=omega)only[ZZ,simprocAttr,Ab,Aq,sndC.ca,Bp];refine VI (VZ y n hn) i2 (by omega) ad aa af ag (λU=> ?_);obtain⟨L,hL⟩: ∃L,L=C4 y n p q:=⟨_,rfl⟩;rw[<-hL];simp(disch:=omega)only[ZZ,simprocAttr,Ab,Aq,sndC.ca,Bp,sub,AP];have ai:(Gq n p q (M - k) y=0)->(RB n p q (M - k) y=y)->(((bif Tw 0 then True else True)/\(bif Tw 1 then True else True)/\(bif Tw 2 then True else True)/\IC (hget (CG y n)) Tw (BI 100 n x.Room++BI 200 n x.Flow))/\(k:Int)=Gq n p q M x/\ ∀kx,Er (hget (CG y n)) (Bf (hget (CG y n)) kx 9) (BI 200 n (RB n p q M x).Flow)):=by
  intro e1 e2;have hI:=VZ y n hn;refine⟨⟨trivial,trivial,trivial,(Nu _ _ _ _).2 ⟨UN hn (λi Q=>by rw[hI.ga i Q,i3]),UO hn⟩⟩,by omega,λkx=> ?_⟩;rw[i6,e2];exact Qoq _ _ _ _ _ hI.gb
 have ay:(L.map Ak).isEmpty=L.isEmpty:=by cases L<;>rfl
 rw[ay];refine⟨λc1=>⟨λc2=> ?_,λc2=> ?_⟩,λc1=> ?_⟩
 .obtain⟨g1,g2,g3⟩:=ai (by rw[show M - k=0 by omega];rfl) (by rw[show M - k=0 by omega];rfl);exact⟨g1,g2,g3 _⟩
 .have ab:L≠[]:=by intro h;rw[h] at c1;cases c1
  have hW:Tm y n p q L:=by rw[hL];exact VK ad aa af ag (by rw[<-hL];exact ab)
  have bi:=hW.pos;obtain⟨v,hv⟩:=i4;have ao: ∀i,i<L.length-> ∃w:Nat,L[i]? =some (w:Int)/\w<n:=by
   intro i Q
   have:=hW.inb _ (RI Q)
   refine⟨(L[i]).toNat,by rw[BA Q];congr 1;omega,by omega⟩
  refine Ba.old ⟨{j:Nat//j+1<=L.length},λj=>⟨[(11,.im (.int .i64 ((j.1:Int)+1))),(10,.im (.sl true 1 (L.map Ak))),(9,.im (.int .i64 k)),(0,.ptr 0 0),(1,.im (.int .i64 p)),(2,.im (.int .i64 q)),(3,.im (.int .i64 M))],CG (HK y L j.1) n,300⟩,λj=>L.length - j.1,λj=>⟨?_,by simp⟩,⟨⟨0,by omega⟩,?_⟩,λj=> ?_⟩
  .simp only[CG];exact tS _ _ _ hn _ (by simp[Cv,AV.bel])
  .simp only[sub,Ha,AE];refine⟨?_,?_⟩
   .simp(disch:=omega)only[ZZ,simprocAttr,Ab,Aq,sndC.ca]
   .exact NA (VZ y n hn)
  obtain⟨j,hj⟩:=j;have O:=zR i2 hW.inb j (by omega);obtain⟨z,hz⟩: ∃z,z=HK y L j:=⟨_,rfl⟩;simp only[<-hz] at O⊢;simp only[CG];have ej:((j:Int)+1).toNat=j+1:=by omega
  simp(disch:=omega)only[ZZ,simprocAttr,Ab,Aq,sndC.ca,Bp,sub,AP,Ie];intro bh;have ew:IntKind.i64.wrap ((j:Int)+1 - 1)=j:=by rw[AG (by omega) (by omega)];omega
  have aw:IntKind.i64.wrap ((j:Int)+1+1)=(j:Int)+1+1:=AG (by omega) (by omega);simp only[ew,Bq];refine⟨λa8=> ?_,λa8=> ?_⟩
  .obtain⟨u,ac,hu⟩:=ao j (by omega);obtain⟨w,aj,Z⟩:=ao (j+1) (by omega);have bf:u≠w:=by
    intro h
    have:=hW.nd j (j+1) (by omega) (by omega) (by simp only[Lf,ac,aj,h])
    omega
   have hr: ∀i,i<n->(z.Flow[i]?.getD []).length=n:=by
    intro i Q;rw[BA (by rw[O.f];exact Q),AX];exact O.ff _ (RI _)
   have bc:=hr u hu;have bd:=hr w Z;simp only[ac,AN,forall_eq'];simp(disch:=omega)only[ZZ,simprocAttr,Ab,Aq,sndC.ca,sub,AP,LL,Bp,Ie,Ar,JW,eZ,ew,aw,ej,ac,aj,AN,forall_eq',bc,bd,Qxa,eS,FO,HP,fC,sZ];have hb: ∀a b,a<n->b<n-> -10000000000002<=Kk z a b/\Kk z a b<=10000000000002:=by
    intro a b ha hb;have h1:=Qso i2 hW.inb a b j (by omega);have h2:=Qr1 (L:=Lf L) (m:=L.length - 1) (λi j Q hj=>hW.nd i j (by omega) (by omega)) a b j (by omega);have h3:=Qr1 (L:=Lf L) (m:=L.length - 1) (λi j Q hj=>hW.nd i j (by omega) (by omega)) b a j (by omega);have h4:=rO (Lf L) a b j;have h5:=rO (Lf L) b a j;have h6:=hv.cap a b ha hb;have h7:=hv.cap b a hb ha;have h8:=hv.anti a b ha hb;have h9:=an a b;have bj:=an b a;rw[<-hz] at h1;simp only[Kk] at*;omega
   have az:=hb u w hu Z;have a0:=hb w u Z hu;refine⟨by omega,hu,hu,by omega,by omega,by omega,Z,by omega,Z,λx1 e1=>⟨Z,by omega,Z,λ_ _=>⟨.inr (by omega),by omega,by omega,Z,Z,by omega,by omega,hu,by omega,hu,λx3 e3=>⟨hu,by omega,hu,λ_ _=>⟨.inr (by omega),⟨j+1,by omega⟩,by simp only;omega,by simp only;omega,?_⟩⟩⟩⟩⟩;have r1:Kk z u w=x1:=by simp only[Kk,Ho,e1,AX]
   have r3:Kk z w u=x3:=by simp only[Kk,Ho,e3,AX]
   rw[r1] at az;rw[r3] at a0;rw[AG (by omega) (by omega),AG (by omega) (by omega)];have hN:HK y L (j+1)=Oe z u w:=by simp only[HK,ac,aj,AX,<-hz]
   have hR: ∀i,i<n->(HK y L (j+1)).Flow[i]?.getD []=if w=i then (z.Flow[w]?.getD []).set u (x3 - 1) else if u=i then (z.Flow[u]?.getD []).set w (x1+1) else z.Flow[i]?.getD []:=by
    intro i Q;rw[hN];simp only[Oe,LJ,Bq];by_cases h1:w=i
    .subst h1;rw[Ai rfl,DW (by rw[FO,O.f];exact Z),AX,Eh bf,e3,AX];rfl
    .rw[Af h1,Eh h1];by_cases h2:u=i
     .subst h2;rw[Ai rfl,DW (by rw[O.f];exact hu),AX,e1,AX]
     .rw[Af h2,Eh h2]
   have hF:(HK y L (j+1)).Room=z.Room:=by rw[hN];rfl
   refine⟨λi Q=> ?_,λi Q=> ?_⟩
   .rw[Af (by omega),Af (by omega)];show _=some (true,Ac.arr _ 1 (List.map Ak ((HK y L (j+1)).Room[i]?.getD [])));rw[hF];exact eV _ _ _ _ Q
   .show _=some (true,Ac.arr _ 1 (List.map Ak ((HK y L (j+1)).Flow[i]?.getD [])));rw[hR i Q];by_cases h1:w=i
    .subst h1;rw[Ai rfl,Ai rfl]
    .rw[Af (by omega),Af h1];by_cases h2:u=i
     .subst h2;rw[Ai rfl,Ai rfl]
     .rw[Af (by omega),Af h2];exact eZ _ _ _ _ (by omega) Q
  .have a9:j=L.length - 1:=by omega
   subst a9;obtain⟨m,hm⟩: ∃m,M - k=m+1:=⟨M - k - 1,by omega⟩;have aq: ¬C4 y n p q=[]:=by rw[<-hL];exact ab
   have e5:Gq n p q (m+1) y=Gq n p q m z+1:=by simp only[Gq];rw[Af aq,<-hL,<-hz]
   have e6:RB n p q (m+1) y=RB n p q m z:=by simp only[RB];rw[Af aq,<-hL,<-hz]
   rw[hm] at i5 i6;have ah:=(Qun i2 ad aa au af (v:=v) (by rw[show Ef y=Ef x by funext a b;simp only[Ef,i3]];exact hv) hW).2;have bg:z.Room=x.Room:=by rw[hz,Ql3,i3]
   rw[show Ef y=Ef x by funext a b;simp only[Ef,i3],<-hz] at ah;refine⟨⟨(k+1,z),by simp only;omega,O,bg,⟨_,ah⟩,by simp only;rw[show M - (k+1)=m by omega];omega,by simp only;rw[show M - (k+1)=m by omega,i6,e6]⟩,by simp only;omega,?_⟩;refine⟨by rw[AG (by omega) (by omega)];simp only;omega,?_⟩;simp only[fC,sZ];exact⟨(VZ z n hn).ga,(VZ z n hn).gb⟩
 .have ab:L=[]:=by
   cases L with
   |nil=>rfl
   |cons a r=>exact absurd rfl c1
  have Z:C4 y n p q=[]:=by rw[<-hL,ab]
  have z1: ∀m,Gq n p q m y=0:=by
   intro m;cases m with
   |zero=>rfl
   |succ m=>simp only[Gq];rw[Ai Z]
  have z2: ∀m,RB n p q m y=y:=by
   intro m;cases m with
   |zero=>rfl
   |succ m=>simp only[RB];rw[Ai Z]
  obtain⟨g1,g2,g3⟩:=ai (z1 _) (z2 _);exact⟨g1,g2,g3 _⟩
 simp only[sndC.H1,BI,A8,Bl,Bc] at hp;obtain⟨i,Q,rfl⟩:=hp;have ax:=sndC.n_le a;refine .inl ⟨by omega,by simp only[Tw,AY,FA,Ei];omega,?_⟩;simp only[Aj,sndC.H0];rw[(VZ a.1 (sndC.n a) ax).gb i Q];rfl
def Qwi(h:Nat->Option Am)(σ:Nat->Nat): ∀(a b:An),Db h σ (a++b)↔Db h σ a/\Db h σ b
 |[],b=>by simp[Db]
 |(i,(z,e))::r,b=>by simp only[BO,Db,Qwi h σ r b,nC]
def Qt1{h:Nat->Option Am}{σ:Nat->Nat}{b n:Nat}{M:List (List Int)}(H: ∀i,i<n->h (σ (b+i))=some (true,.arr 2 1 ((M[i]?.getD []).map Ak))):Db h σ (BI b n M):=by
 have: ∀(l:List Nat),(∀i∈l,i<n)->Db h σ (l.map λi=>(b+i,(true,Ac.arr 2 1 ((M[i]?.getD []).map Ak)))):=by
  intro l;induction l with
  |nil=>intro _;trivial
  |cons i r ih=>
   intro z;simp only[Be,Db];exact⟨H i (z i (BU ..)),ih (λj Q=>z j (BQ _ Q))⟩
 exact this _ (λi O=>Bc.1 O)
def Qth{σ:Nat->Nat}{b n:Nat}{M:List (List Int)}(H: ∀i,i<n->σ (b+i)=b+i):AQ σ (BI b n M)=BI b n M:=by
 have: ∀(l:List Nat),(∀i∈l,i<n)->AQ σ (l.map λi=>(b+i,(true,Ac.arr 2 1 ((M[i]?.getD []).map Ak))))=l.map λi=>(b+i,(true,Ac.arr 2 1 ((M[i]?.getD []).map Ak))):=by
  intro l;induction l with
  |nil=>intro _;rfl
  |cons i r ih=>
   intro z;simp only[Be,AQ];rw[H i (z i (BU ..)),ih (λj Q=>z j (BQ _ Q))];rfl
 exact this _ (λi O=>Bc.1 O)
def zB{σ:Nat->Nat}{b n:Nat}(H: ∀i,i<n->σ (b+i)=b+i):(Dw b n).map (AI σ)=Dw b n:=by
 simp only[Dw,Hu];refine Gb λi z=> ?_
 simp only[Function.comp,AI,AV.ren,H i (Bc.1 z)]
def Qzq(σ:Nat->Nat): ∀(a b:An),AQ σ (a++b)=AQ σ a++AQ σ b
 |[],b=>rfl
 |(i,(z,e))::r,b=>by simp only[BO,AQ,Qzq σ r b]
def YV{σ:Nat->Nat}{x:Bi}{n:Nat}(hn:n<=64)(H: ∀j,j<300->σ j=j):AQ σ (CG x n)=CG x n:=by
 simp only[CG,AQ,Qzq,Ac.ren,AI,AV.ren,H 0 (by omega),H 1 (by omega),H 2 (by omega),zB (b:=100) (n:=n) (λi z=>H (100+i) (by omega)),zB (b:=200) (n:=n) (λi z=>H (200+i) (by omega)),Qth (b:=100) (n:=n) (λi z=>H (100+i) (by omega)),Qth (b:=200) (n:=n) (λi z=>H (200+i) (by omega))]
def Lv{x:Bi}{n:Nat}(hn:n<=64){j:Nat}(h:Aj (CG x n) j=true):j<264/\(200<=j-> ∃i,i<n/\j=200+i)/\j∈[0,1,2]++((List.range n).map (100+ ·)++(List.range n).map (200+ ·)):=by
 have z:j∈[0,1,2]++((List.range n).map (100+ ·)++(List.range n).map (200+ ·)):=by
  have: ∀(H:An),Aj H j=true->j∈F6 H:=by
   intro H;induction H with
   |nil=>intro h;simp[Aj,hget] at h
   |cons e r ih=>
    obtain⟨i,e⟩:=e;intro h;simp only[Aj,hget] at h;simp only[F6,Br];by_cases Q:i=j
    .exact .inl Q.symm
    .have:(i==j)=false:=by simpa using Q
     rw[this] at h;exact .inr (ih h)
  have h2:=this _ h;simp only[CG,F6,Qpf,BI,Xh] at h2;simpa using h2
 refine⟨?_,λO=> ?_,z⟩
 .have:=TZ n hn j z
  rcases B7.1 z with z|z
  .simp at z;omega
  .rcases B7.1 z with z|z<;>obtain⟨i,Z,rfl⟩:=Bl.1 z<;>have:=Bc.1 Z
   .show 100+i<264;omega
   .show 200+i<264;omega
 .rcases B7.1 z with z|z
  .simp at z;omega
  .rcases B7.1 z with z|z<;>obtain⟨i,Z,rfl⟩:=Bl.1 z<;>have:=Bc.1 Z
   .have h3:200<=100+i:=O;omega
   .exact⟨i,this,rfl⟩
def Pz{kill:List Nat}{nx cnt b n:Nat}{M:List (List Int)}(H: ∀i,i<n->kill.contains (b+i)=true/\b+i<nx):HL kill nx cnt (BI b n M)=true:=by
 have: ∀(l:List Nat),(∀i∈l,i<n)->HL kill nx cnt (l.map λi=>(b+i,(true,Ac.arr 2 1 ((M[i]?.getD []).map Ak))))=true:=by
  intro l;induction l with
  |nil=>intro _;rfl
  |cons i r ih=>
   intro z;simp only[Be,HL,K1,AY,HN,FA,Ei];exact⟨.inr (H i (z i (BU ..))),ih (λj Q=>z j (BQ _ Q))⟩
 exact this _ (λi O=>Bc.1 O)
def Vk{H:Nat->Option Am}{x:Bi}{nx:Nat}{K:Ah}{p q Q:Int}(hH:TX H x x.Room.length)(Z:Vi (x,p,q,Q))(aa:300<=nx)
 (hK: ∀E:B5,E.cnt=10->E.ok nx (.im (.int .i64 (Gq x.Room.length p q Q.toNat x)))=true->K (.im (.int .i64 (Gq x.Room.length p q Q.toNat x))) E):sndC.row [.ptr 0 0,.im (.int .i64 p),.im (.int .i64 q),.im (.int .i64 Q)] H nx K:=by
 have hn:x.Room.length<=64:=Z.n;have O:sndC.n (x,p,q,Q)=x.Room.length:=by simp only[sndC.n];omega
 have hσ: ∀j,j<300->Bw (λj=>j) 300 nx j=j:=λj hj=>Ai hj
 refine⟨(x,p,q,Q),λj=>j,[0,1,2]++((List.range x.Room.length).map (100+ ·)++(List.range x.Room.length).map (200+ ·)),(List.range x.Room.length).map (200+ ·),Z,?_,?_,?_,?_⟩
 .simp only[sndC.ca,AI,AV.ren,hσ 0 (by omega)]
 .simp only[sndC.H0,O,CG,Db,Qwi,Ac.ren,AI,AV.ren,hσ 0 (by omega),hσ 1 (by omega),hσ 2 (by omega),zB (b:=100) (n:=x.Room.length) (λi z=>hσ (100+i) (by omega)),zB (b:=200) (n:=x.Room.length) (λi z=>hσ (200+i) (by omega))];exact⟨hH.g0,hH.g1,hH.g2,Qt1 (λi z=>by rw[hσ _ (by omega)];exact hH.ga i z),Qt1 (λi z=>by rw[hσ _ (by omega)];exact hH.gb i z)⟩
 .have hd: ∀j,Aj (sndC.H0 (x,p,q,Q)) j=true->Aj (CG x x.Room.length) j=true:=λj h=>by simpa only[sndC.H0,O] using h
  refine⟨λi j _ _ h=>h,λj hj=> ?_,λj hj=>(Lv hn (hd j hj)).2.2,λm hm=> ?_,λj hj hk=> ?_⟩
  .have:=(Lv hn (hd j hj)).1
   omega
  .obtain⟨i,z,rfl⟩:=Bl.1 hm
   have:=Bc.1 z
   refine⟨200+i,?_,bX i (by omega),rfl⟩;simp only[Aj,sndC.H0,O];rw[(VZ x _ hn).gb i this];rfl
  .simp only[Tw,AY,FA,Ei] at hk;obtain⟨i,z,rfl⟩:=(Lv hn (hd j hj)).2.1 hk.1;exact Bl.2 ⟨i,Bc.2 z,rfl⟩
 .have e:(sndC.r0 (x,p,q,Q)).ren (Bw (λj=>j) 300 nx)= .im (.int .i64 (Gq x.Room.length p q Q.toNat x)):=by simp only[sndC.r0,O,AV.ren]
  rw[e];refine hK _ rfl ?_;simp only[B5.ok,AV.bel,EL,sndC.H1,O];rw[Qth (λi z=>hσ _ (by omega)),AY];refine⟨O5 _ _ _ (λi=>rfl) _,Pz λi z=>⟨?_,by omega⟩⟩;rw[Jr];exact Bl.2 ⟨i,Bc.2 z,rfl⟩
def Qu2(cnt:Nat): ∀(H:An),(∀p∈H,p.1<cnt)->HL [] 0 cnt H=true
 |[],_=>rfl
 |(i,e)::r,h=>by
  have z:=h (i,e) (BU ..);simp only at z;simp only[HL,K1,Qu2 cnt r (λp hp=>h p (BQ _ hp)),Et,HN,AY,FA,Ei];exact .inl ⟨by omega,by omega⟩
def TY{x:Bi}{n:Nat}(r:AV)(hn:n<=64)(z:r.bel 320=true){use:List Nat}:B5.ok {use:=use,kill:=[],new:=CG x n,cnt:=320} 0 r=true:=by
 simp only[B5.ok,FN,z,EL,AY];refine⟨?_,Qu2 _ _ λp hp=>by have:=Lh _ (MV hn hp).1;omega⟩;simp only[CG,Aw,lU,BI];rw[O5 _ _ _ (λi=>rfl),O5 _ _ _ (λi=>rfl),Xf _ _ _ (by omega),Xf _ _ _ (by omega)];rfl
def Qt8(n:Nat)(bs:List Ag)(t:Int)(k:Nat)(h:R6 n bs t k=false): ∀m,R6 n bs t (k+m)=false
 |0=>h
 |m+1=>by rw[show k+(m+1)=k+m+1 by omega,R6,Qt8 n bs t k h m,Gu]
def uN(n:Int)(bs:List Ag)(t:Int):Bool:=R6 n.toNat bs t (n.toNat - 1)
def holds_.fv(a:Int×(List Ag)×Int):Bool:=(uN) (a.1) (a.2.1) (a.2.2)
def holds_.row:AF:=vK (b3 qI (qS Ag.d_le Ag.c_n) qI) rB (λa=>MW (a.1,a.2.1)/\0<=a.2.2/\a.2.2<=1000000) holds_.fv
def holds_.q:=Bd (R:=holds_.row) rfl
def holds_.ok:AL 139 holds_.row:=by
 refine vw (tC nwC.ok (tC sndC.ok tN)) Tryz.func139 ?_;intro a ac;simp only[Tryz.f139,Option.getD];simp only[ZZ,simprocAttr,Ab,holds_.fv];obtain⟨hp,ad,af⟩:=ac;obtain⟨h0,h1,hl,z,O,Q⟩:=hp;simp only at h0 h1 hl z O Q;obtain⟨n,hn⟩: ∃n:Nat,a.1=n:=⟨a.1.toNat,by omega⟩;obtain⟨bs,hbsd⟩: ∃bs,bs=a.2.1:=⟨_,rfl⟩;obtain⟨t,ht⟩: ∃t,t=a.2.2:=⟨_,rfl⟩;simp only[hn,<-hbsd,<-ht,uN,Bq] at h0 h1 hl z O Q ad af⊢;have Z:MW ((n:Int),bs):=⟨h0,h1,hl,z,O,Q⟩;refine Ba.old ⟨{k:Nat//(k=0\/k+1<=n)/\R6 n bs t k=true},λk=>⟨[(7,.im (.int .i64 ((k.1:Int)+1))),(0,.im (.int .i64 n)),(1,.im (.sl false 3 (bs.map Ag.c))),(2,.im (.int .i64 t))],[],0⟩,λk=>n - k.1,λk=>⟨by simp[ZG],by simp⟩,⟨⟨0,.inl rfl,rfl⟩,by simp only[ZZ,simprocAttr,Ab,holds_.fv,sub]⟩,λk=> ?_⟩;obtain⟨k,aa,ab⟩:=k;simp only[ZZ,simprocAttr,Ab,holds_.fv,sub,AP];refine⟨λhk=> ?_,λhk=> ?_⟩
 .refine AD.os ((n:Int),bs) [] Z (λj=>by simp[Aj,hget]) rfl rfl ?_ ?_
  .simp only[ZZ,simprocAttr,Ab,holds_.fv,nwC.ca,BD]
  .have e1:AQ (Bw (I9 []) 0 0) (nwC.H1 ((n:Int),bs))=CG (DP n bs) n:=by
    simp only[nwC.H1,Bq];rw[vG (by omega)];exact YV (by omega) (λj _=>by simp[Bw])
   rw[e1];refine⟨TY _ (by omega) rfl,?_⟩;simp only[ZZ,simprocAttr,Ab,holds_.fv,sub,AP,Bp,DJ];have hr:(DP n bs).Room.length=n:=(Xp z bs.length).1.r;have hI:=VZ (DP n bs) n (by omega);rw[show hget (CG (DP n bs) n)=hget (CG (DP n bs) n) from rfl];refine Vk (x:=DP n bs) (by rw[hr];exact hI) ?_ (by omega) (λE ai ag=> ?_)
   .refine⟨by simp only;omega,by simp only[hr];exact (Xp z bs.length).1,by simp,by simp only[hr];omega,by simp only;omega,by simp only[hr];omega,by simp only;omega,ad,af,⟨0,by simp only[hr];exact oG z O _ _⟩,λu v=> ?_⟩
    have:=(Qrm z O u v bs.length).2
    simp only[DP];omega
   .refine⟨ag,?_⟩;rw[hr];obtain⟨sv,hsv⟩: ∃sv,sv=Gq n 0 ((k:Int)+1) t.toNat (DP n bs):=⟨_,rfl⟩;rw[<-hsv];have hs:R6 n bs t (k+1)=(R6 n bs t k && decide (t<=sv)):=by rw[hsv];rfl
    rw[ab,EL] at hs;simp only[ZZ,simprocAttr,Ab,holds_.fv,Az.app,sub,AP];refine⟨λah=> ?_,λah=>⟨⟨k+1,.inr (by omega),by rw[hs];exact Wn (by omega)⟩,by simp only;omega,by rw[AG (by omega) (by omega)];simp only;omega⟩⟩;have h9:=Qt8 n bs t (k+1) (by rw[hs];exact QN (by omega)) (n - 1 - (k+1));rw[show k+1+(n - 1 - (k+1))=n - 1 by omega] at h9;exact h9.symm
 .rcases aa with rfl|aa
  .rw[show n - 1=0 by omega];rfl
  .rw[show n - 1=k by omega];exact ab.symm
def KH(t:Int)(b:Ag):Bool:=decide (b.Strength<t)
def CT1.fv(a:Ag×Int):Bool:=(λb t=>KH t b) (a.1) (a.2)
def CT1.row:AF:=CH (b2 (qR Ag.d_le) (qP 1 F3)) rB (λa=>True) CT1.fv
def CT1.q:=C9 (R:=CT1.row) rfl
def CT1.ok:AL 159 CT1.row:=by
 refine FR tN Tryz.func159 ?_;intro a z;simp only[Tryz.f159,Option.getD];simp only[ZZ,simprocAttr,Ab,CT1.fv,BX,D.sc,D.scs,BM,AT];rfl
def IdxB.ar:List PK->Option ((List Ag)×Int)
 |[.val (.sl _ _ O),.val (.fn 159 [] [.ref [.int .i64 z]])]=>(AZ Ag.d O).bind λQ=>some (Q,z)
 |_=>none
def IdxB.ae(a:(List Ag)×Int):List PK:=[.val (.sl false 3 (a.1.map Ag.c)),.val (.fn 159 [] [.ref [.int .i64 a.2]])]
def IdxB.le: ∀z a,IdxB.ar z=some a->Cy z (IdxB.ae a):=by
 intro z a h;unfold IdxB.ar at h;split at h
 .simp only[GI,AN] at h;obtain⟨O,h0,rfl⟩:=h;exact⟨EY (EN Ag.d_le _ _ h0) (by simp only[Bl];rintro r ⟨y,_,rfl⟩;rfl),mC ⟨Le.refl _,trivial⟩,trivial⟩
 .cases h
def IdxB.fv(a:(List Ag)×Int):Int:=(λl t=>Cb (KH t) 0 l) (a.1) (a.2)
def IdxB.row:AF:=R1 IdxB.ar (λa=>True) (λa=>(D.int .i64) (IdxB.fv a))
def IdxB.q:=vqF IdxB.row rfl
def IdxB.ok:AL 181 IdxB.row:=by
 refine Qbn Fw (tC CT1.ok tN) Tryz.func181 rfl (by kernel_rfl) (by kernel_rfl) (ar:=IdxB.ar) (ae:=IdxB.ae) IdxB.le (n:=2) (λ_=>rfl) (by decide) (rc:=(Ey)) (re:=(D.int .i64)) (cW) (f:=IdxB.fv) ?_;intro a Q;simp only[Tryz.f181,Option.getD];simp only[ZZ,simprocAttr,Ab,IdxB.ae,IdxB.fv,CT1.q,CT1.fv,BX,D.sc,D.scs,BM,AT];intro hn;refine Ba.old ⟨{k:Nat//k<=a.1.length/\Cb (KH a.2) k (a.1.drop k)=Cb (KH a.2) 0 a.1},λk=>⟨[(8,.im (.int .i64 k.1)),(7,.im (.int .i64 a.1.length)),(6,.im (.sl false 3 (a.1.map Ag.c))),(4,.im (.int .i64 0)),(0,.im (.sl false 3 (a.1.map Ag.c))),(1,.im (.fn 159 [] [.ref [.int .i64 a.2]]))],[],0⟩,λk=>a.1.length - k.1,λk=>⟨by simp[ZG],AU _⟩,⟨⟨0,by simp⟩,by simp only[ZZ,simprocAttr,Ab,IdxB.ae,IdxB.fv,CT1.q,CT1.fv,BX,D.sc,D.scs,BM,AT,sub]⟩,λk=> ?_⟩;obtain⟨k,Z,z⟩:=k;simp only[ZZ,simprocAttr,Ab,IdxB.ae,IdxB.fv,CT1.q,CT1.fv,BX,D.sc,D.scs,BM,AT,sub,AP];refine⟨λO=>⟨O,λx hx=> ?_⟩,λO=> ?_⟩
 .rw[HI hx,Cb] at z;refine⟨λh=> ?_,λh=>Je O hn ⟨by omega,by rw[<-z,Af (by simpa using h)]⟩⟩;rw[Ai (by simpa using h)] at z;exact z
 .rw[DY (by omega),Cb] at z;exact z
def Qu3{t:Int}{l:List Ag}{i:Nat}{b:Ag}(Z:l.find? (KH t)=some b)(h2:Cb (KH t) 0 l=(i:Int))(h3:l[i]? =some b):Hf t (l.take (i+1))=l.take i:=by
 have hw:KH t b=true:=vE Z;have O: ∀(l:List Ag) (o i:Nat),Cb (KH t) o l=((o+i:Nat):Int)-> ∀x∈l.take i,KH t x=false:=by
  intro l;induction l with
  |nil=>intro o i _ x z;simp at z
  |cons y r ih=>
   intro o i h x z;cases i with
   |zero=>simp at z
   |succ i=>
    simp only[Cb] at h;split at h
    .omega
    .rename_i hy;rw[Fj] at z;rcases Br.1 z with rfl|z
     .simpa using hy
     .exact ih (o+1) i (by rw[h];congr 1;omega) x z
 rw[Jq,h3,ZdP,Hf,List.filter_append];have Q:(l.take i).filter (λb=>decide (t<=b.Strength))=l.take i:=by
  rw[ZdF];intro x z
  have:=O l 0 i (by rw[h2];simp) x z
  simp only[KH,Kd] at this;simp only[CF];omega
 simp only[KH,CF] at hw;rw[Q,vA (by simp;omega),List.filter_nil,DJ]
def dlC.ca(a:List Ag×Int):List AV:=[.own 0,.im (.fn 159 [] [.ref [.int .i64 a.2]])]
def dlC.H0(a:List Ag×Int):An:=[(0,(true,.arr 177 3 (a.1.map Ag.c)))]
def dlC.H1(a:List Ag×Int):An:=[(1,(true,.arr 177 3 ((Hf a.2 a.1).map Ag.c)))]
def dlC.row:AF:=AD dlC.ca dlC.H0 1 (λa=>a.1.length<=1000000) (λj=>j==0) (λ_=> .own 1) dlC.H1 1000
def X7:=J @IdxB.q<|J @IdxB.fv.eq_1<|J @CT1.q @CT1.fv.eq_1
def dlC.ok:AL 157 dlC.row:=by
 refine P6 (tC IdxB.ok (tC CT1.ok tN)) Tryz.func157 (exB:=λj=>j==1) (R:=λ_ r=>r= .own 1) (λ_=>rfl)
  (λa=>by simp[dlC.ca,dlC.H0,dlC.H1,AA,AV.bel,Aw,B6,BT,Ac.nms,Au,AV.nms,Aj,hget]) (λa p hp=> ?_) (λa r h=>by subst h;exact CN.refl _) ?_
 rotate_left
 intro a aa;simp only[Tryz.f157,Option.getD,dlC.ca,dlC.H0,dlC.H1];simp only[ZZ,simprocAttr,Ab,X7,IdxB.ar,Bs,Aq,dlC.ca,dlC.H0,dlC.H1];rcases rM (KH a.2) a.1 0 with ⟨e1,Z⟩|⟨i0,b0,e1,Z,e3⟩
 .rw[Z,Ai rfl];refine⟨[],[(1,some 0)],⟨[(4,.own 1)],[(1,(true,.arr 177 3 (a.1.map Ag.c)))],2⟩,?_,by simp[ZG],by simp,?_⟩
  .simp only[Av];simp only[ZZ,simprocAttr,Ab,X7,IdxB.ar,Bs,Aq,dlC.ca,dlC.H0,dlC.H1,AS,AR]
  .simp only[ZZ,simprocAttr,Ab,X7,IdxB.ar,Bs,Aq,dlC.ca,dlC.H0,dlC.H1]
   have:Hf a.2 a.1=a.1:=by
    rw[Hf,ZdF];intro b hb
    have:=ZdL.1 e1 b hb
    simp only[KH,CF] at this⊢;omega
   rw[this]
 .rw[FN] at Z;rw[Z,Af (by omega)];have ab:=(C6.1 e3).1;rw[AG (by omega) (by omega)];obtain⟨l,hl⟩: ∃l,l=a.1:=⟨_,rfl⟩;obtain⟨t,ht⟩: ∃t,t=a.2:=⟨_,rfl⟩;simp only[<-hl,<-ht] at e1 Z e3 ab aa⊢;refine Ba.old ⟨{j:Nat//j<=l.length},λj=>⟨[(6,.im (.int .i64 j.1)),(5,.im (.int .i64 (Hf t (l.take j.1)).length)),(0,.own 0),(1,.im (.fn 159 [] [.ref [.int .i64 t]]))],[(0,(true,.arr 177 3 ((Hf t (l.take j.1)++l.drop (Hf t (l.take j.1)).length).map Ag.c)))],2⟩,λj=>l.length - j.1,λj=>⟨by simp[ZG],by simp⟩,⟨⟨i0+1,by omega⟩,?_⟩,λj=> ?_⟩
  .have h1:=Qu3 e1 Z e3;simp only[ZZ,simprocAttr,Ab,X7,IdxB.ar,Bs,Aq,dlC.ca,dlC.H0,dlC.H1,sub,h1,Cu];rw[show min i0 l.length=i0 by omega,RG];exact⟨⟨by omega,rfl⟩,rfl⟩
  obtain⟨j,hj⟩:=j;obtain⟨kp,hkp⟩: ∃kp,kp=Hf t (l.take j):=⟨_,rfl⟩;have ad:kp.length<=j:=by
   have:=Qln t (l.take j)
   rw[Cu] at this;rw[hkp];omega
  have Q:(kp++l.drop kp.length).length=l.length:=by simp;omega
  simp only[<-hkp];simp only[ZZ,simprocAttr,Ab,X7,IdxB.ar,Bs,Aq,dlC.ca,dlC.H0,dlC.H1,sub,AP,Q];intro _;refine⟨λO=>⟨O,O,λb hb=> ?_⟩,λO=> ?_⟩
  .have af:l[j]? =some b:=by
    rw[Kc ad,XC,show kp.length+(j - kp.length)=j by omega] at hb;exact hb
   have z:=Qjs t af;rw[<-hkp] at z;refine⟨λhw=>⟨by omega,by omega,λc _=>⟨⟨j+1,by omega⟩,by simp only;omega,?_⟩⟩,λhw=>⟨⟨j+1,by omega⟩,by simp only;omega,?_⟩⟩
   .have hs:t<=b.Strength:=by
     simp only[KH,Kd] at hw;omega
    rw[Ai hs] at z;simp only[z,Ez,Dx,Ip];refine⟨⟨by rw[AG (by omega) (by omega)];omega,by rw[AG (by omega) (by omega)];omega⟩,?_⟩;have h1:(kp++l.drop kp.length).set kp.length b=kp++[b]++l.drop (kp.length+1):=by
     obtain⟨c,hc⟩: ∃c,l[kp.length]? =some c:=⟨_,BA (by omega)⟩;rw[HI hc,vI _ _ (AU _),Ke,gO,Ka];rfl
    rw[<-h1,Ws];rfl
   .have hs: ¬t<=b.Strength:=by
     rw[KR] at hw;simp only[KH,CF] at hw;omega
    rw[Af hs,DJ] at z;simp only[z];exact⟨⟨by rw[AG (by omega) (by omega)];omega,trivial⟩,trivial⟩
  .refine⟨by omega,false,?_⟩;have ac:j=l.length:=by omega
   subst ac;rw[IM] at hkp;simp only[ZZ,simprocAttr,Ab,X7,IdxB.ar,Bs,Aq,dlC.ca,dlC.H0,dlC.H1,Q];have hA:List.take kp.length ((kp++l.drop kp.length).map Ag.c)=kp.map Ag.c:=by
    rw[<-List.map_take,List.take_left]
   rw[hA];refine⟨by simp only[Ez,GL];omega,true,?_⟩;simp only[ZZ,simprocAttr,Ab,X7,IdxB.ar,Bs,Aq,dlC.ca,dlC.H0,dlC.H1,Q];refine⟨[],[(1,some 2)],⟨[(4,.own 1)],[(1,(true,.arr 177 3 (kp.map Ag.c)))],2⟩,?_,by simp[ZG],by simp,?_⟩
   .simp only[Av];simp only[ZZ,simprocAttr,Ab,X7,IdxB.ar,Bs,Aq,dlC.ca,dlC.H0,dlC.H1,AS,AR];rw[show ((kp.length:Int) - 0).toNat=(kp.map Ag.c).length by simp,Ka,List.take_left]
   .simp only[ZZ,simprocAttr,Ab,X7,IdxB.ar,Bs,Aq,dlC.ca,dlC.H0,dlC.H1,hkp]
 simp[dlC.H1] at hp;subst hp;exact .inr ⟨by omega,by omega,rfl,rfl⟩
def ME(b i:Nat)(x:Int):AV:=if 0<=x/\x<i then .ptr (b+x.toNat) 0 else .im .nilp
def HQ(b:Nat)(L:List Int)(i:Nat):Am:=(true,.cells 243 [ME b i (L[i]?.getD (-1)),.im (.int .i64 i)])
def ET(b:Nat)(L:List Int)(n:Nat):An:=A8 b n (HQ b L)
def GV(L:List Int):Prop:= ∀(i:Nat) (x:Int),L[i]? =some x->x<i
def O8(L:List Int)(i:Nat):Nat->Nat
 |0=>i
 |m+1=>if L[i]?.getD (-1)<0 then i else O8 L (L[i]?.getD (-1)).toNat m
def EI(L:List Int)(i:Nat):Nat:=O8 L i i
def Qabj{L:List Int}(h:GV L): ∀(i m m':Nat),i<=m->i<=m'->O8 L i m=O8 L i m':=by
 intro i;induction i using Nat.strongRecOn with
 |_ i ih=>
  intro m m' z O;cases hi:L[i]? with
  |none=>
   cases m<;>cases m'<;>simp[O8,hi]
  |some x=>
   have Q:=h i x hi;by_cases h0:x<0
   .cases m<;>cases m'<;>simp[O8,hi,h0]
   .cases m with
    |zero=>omega
    |succ m=>
     cases m' with
     |zero=>omega
     |succ m'=>
      simp only[O8,hi,AX,Af h0];exact ih x.toNat (by omega) m m' (by omega) (by omega)
def ZQ{L:List Int}(h:GV L){i:Nat}{x:Int}(z:L[i]? =some x):EI L i=if x<0 then i else EI L x.toNat:=by
 have O:=h i x z;by_cases h0:x<0
 .rw[Ai h0,EI];cases i with
  |zero=>rfl
  |succ i=>simp only[O8,z,AX,Ai h0]
 .rw[Af h0,EI];cases i with
  |zero=>omega
  |succ i=>
   simp only[O8,z,AX,Af h0];exact Qabj h _ _ _ (by omega) (AU _)
def Qnj{L:List Int}(h:GV L): ∀(i:Nat),EI L i<=i:=by
 intro i;induction i using Nat.strongRecOn with
 |_ i ih=>
  cases hi:L[i]? with
  |none=>rw[EI];cases i<;>simp[O8,hi]
  |some x=>
   rw[ZQ h hi];have z:=h i x hi;split
   .exact AU _
   .have:=ih x.toNat (by omega);omega
def firC.n(a:List Int×Nat):Nat:=min a.1.length 512
def firC.ca(a:List Int×Nat):List AV:=[.ptr (min a.2 511) 0]
def firC.H0(a:List Int×Nat):An:=ET 0 a.1 (firC.n a)
def firC.r0(a:List Int×Nat):AV:= .ptr (EI a.1 a.2) 0
def firC.pre(a:List Int×Nat):Prop:=a.1.length<=512/\a.2<a.1.length/\GV a.1
def firC.row:AF:=AD firC.ca firC.H0 600 firC.pre (λ_=>false) firC.r0 (λ_=>[]) 0
def firC.hbel(a:List Int×Nat):AA 600 (firC.ca a)=true:=by
 simp only[firC.ca,AA,AV.bel,Et,Ei];omega
def Qt5(nx b:Nat)(f:Nat->Am)(n:Nat)(hf: ∀i,i<n->Aw nx [(b+i,f i)]=true):Aw nx (A8 b n f)=true:=by
 have: ∀(l:List Nat),(∀i∈l,i<n)->Aw nx (l.map λi=>(b+i,f i))=true:=by
  intro l;induction l with
  |nil=>intro _;rfl
  |cons i r ih=>
   intro z;rw[Be,show (b+i,f i)::(r.map λi=>(b+i,f i))=[(b+i,f i)]++(r.map λi=>(b+i,f i)) from rfl,lU,hf i (z i (BU ..)),ih (λj Q=>z j (BQ _ Q))];rfl
 exact this _ (λi O=>Bc.1 O)
def Yz(b i N:Nat)(x:Int)(h:b+i<=N):(ME b i x).bel N=true:=by
 simp only[ME];split
 .simp only[AV.bel,Ei];omega
 .rfl
def tG(b n N:Nat)(L:List Int)(h:b+n<=N):Aw N (ET b L n)=true:=Qt5 _ _ _ _ λi z=>by
 simp only[HQ,Aw,AA,Yz b i N _ (by omega),AV.bel,gW]
def firC.n_le(a:List Int×Nat):firC.n a<=512:=LS _ _
def firC.hbH(a:List Int×Nat):Aw 600 (firC.H0 a)=true:=tG _ _ _ _ (by have:=firC.n_le a;omega)
def firC.hkH(a:List Int×Nat):B6 600 (firC.H0 a)=true:=O2 _ _ _ _ (by have:=firC.n_le a;omega)
def KB(b n:Nat)(L:List Int)(i:Nat)(h:i<n):hget (ET b L n) (b+i)=some (HQ b L i):=Dp _ _ _ _ h
def dD{H0:An}{b n:Nat}{f:Nat->Am}(h: ∀i,i<n-> ∀m∈(f i).2.nms,Aj H0 m=true):BT H0 (A8 b n f):=by
 have: ∀(l:List Nat),(∀i∈l,i<n)->BT H0 (l.map λi=>(b+i,f i)):=by
  intro l;induction l with
  |nil=>intro _;trivial
  |cons i r ih=>
   intro z;simp only[Be];exact⟨h i (z i (BU ..)),ih (λj Q=>z j (BQ _ Q))⟩
 exact this _ (λi O=>Bc.1 O)
def firC.hnm(a:List Int×Nat):BT (firC.H0 a) (firC.H0 a):=by
 refine dD λi O m z=> ?_
 simp only[HQ,Ac.nms,Au,ME] at z;split at z
 .simp only[AV.nms,DJ,BS] at z;subst z;rename_i h;simp only[Aj,firC.H0];rw[KB 0 _ _ _ (by omega)];rfl
 .simp[AV.nms] at z
def Qm(s:Az)(b n:Nat)(f:Nat->Am):Cm s (A8 b n f)= ∀i,i<n->hget s.h (b+i)=some (f i):=by
 have: ∀(l:List Nat),Cm s (l.map λi=>(b+i,f i))↔ ∀i∈l,hget s.h (b+i)=some (f i):=by
  intro l;induction l with
  |nil=>simp[Cm]
  |cons i r ih=>simp only[Be,Cm,ih,Br,Zeg]
 apply propext;rw[A8,this];simp only[Bc]
def tL{s:Az}{b n:Nat}{L:List Int}(h: ∀i,i<n->hget s.h (b+i)=some (HQ b L i)):Cm s (ET b L n):=by
 rw[ET,Qm];exact h
def firC.ok:AL 180 firC.row:=by
 refine ow tN Tryz.func180 (exB:=λ_=>false) (R:=λa r=>r=firC.r0 a) (λ_=>rfl)
  (λa=>⟨firC.hbel a,firC.hbH a,firC.hkH a,firC.hnm a⟩) (λa p hp=> ?_) (λa r h=>by subst h;exact CN.refl _) ?_
 rotate_left
 intro a aa;simp only[Tryz.f180,Option.getD,firC.ca];simp only[ZZ,simprocAttr,Ab,Aq,firC.ca];obtain⟨L,i⟩:=a;obtain⟨h1,h2,h3⟩:=aa;simp only at h1 h2 h3;obtain⟨n,hn⟩: ∃n,n=L.length:=⟨_,rfl⟩;have ac:firC.n (L,i)=n:=by simp only[firC.n,<-hn];omega
 simp only[firC.H0,firC.r0,ac,Bp];rw[<-hn] at h1 h2;rw[show min i 511=i by omega];refine Ba.old ⟨{g:Nat//g<n/\EI L g=EI L i},λg=>⟨[(0,.ptr g.1 0)],ET 0 L n,600⟩,λg=>g.1,λg=>⟨?_,by simp⟩,⟨⟨i,h2,rfl⟩,?_⟩,λg=> ?_⟩
 .simp only[Az.good,Cv,AV.bel,Et,AY,Ei];exact⟨by omega,tG _ _ _ _ (by omega),O2 _ _ _ _ (by omega)⟩
 .simp only[sub,Ha,AE];refine⟨?_,tL (λi Z=>KB 0 n L i Z)⟩;simp only[ZZ,simprocAttr,Ab,Aq,firC.ca]
 obtain⟨g,hg,hr⟩:=g;obtain⟨x,hx⟩: ∃x,L[g]? =some x:=⟨_,BA (by omega)⟩;have ad:=h3 g x hx;have z:=KB 0 n L g hg;rw[FN] at z;simp only[HQ,hx,AX] at z;have ab:=ZQ h3 hx;by_cases h0:x<0
 .have O:ME 0 g x= .im .nilp:=Af (by omega);rw[O] at z;simp only[ZZ,simprocAttr,Ab,Aq,firC.ca,sub,AP,z,Bp];rw[Ai h0] at ab;exact⟨by omega,by omega,by omega,by omega,by omega,uR _ _ _ _ _ (λi Z=> .inr (KB 0 n L i Z)),by omega⟩
 .have O:ME 0 g x= .ptr x.toNat 0:=by simp only[ME];rw[Ai ⟨by omega,ad⟩,FN]
  rw[O] at z;have Q:=KB 0 n L x.toNat (by omega);rw[FN] at Q;simp only[ZZ,simprocAttr,Ab,Aq,firC.ca,sub,AP,z,Q,Bp];rw[Af h0] at ab;exact⟨by omega,by omega,by omega,by omega,by omega,by omega,by omega,by omega,by omega,⟨x.toNat,by omega,by omega⟩,by simp only;omega,rfl,tL (λi Z=>KB 0 n L i Z)⟩
 simp at hp
def KD(b n k:Nat):List (List AV):=(List.range n).map λi=>if i<k then [AV.ptr (b+i) 0] else [.im .nilp]
def JU(b n k:Nat):(KD b n k).length=n:=by simp[KD]
def yZ(b n k i:Nat)(h:i<n):(KD b n k)[i]? =some (if i<k then [.ptr (b+i) 0] else [.im .nilp]):=by simp[KD,Ga h]
def Qtr(b n k i:Nat)(K:List AV->Prop)(h:i<n):JY (KD b n k) i K=K (if i<k then [.ptr (b+i) 0] else [.im .nilp]):=by
 apply propext;unfold JY;rw[yZ b n k i h];exact⟨λh=>h _ rfl,λh row z=>by obtain rfl:=AJ z;exact h⟩
def zM(b n k N:Nat)(h:b+k<=N):(KD b n k).all (AA N)=true:=by
 rw[CR];intro r z;obtain⟨i,O,rfl⟩:=Bl.1 z;split
 .simp[AA,AV.bel];omega
 .simp[AA,AV.bel]
def Qnw(b n N:Nat)(L:List Int)(h:b+n<=N):B6 N (ET b L n)=true:=O2 _ _ _ _ h
def PO(b n:Nat)(π:List (Nat×Option Nat)):FF π (KD b n 0) (Bo (List.replicate n [.nilp])):=by
 have e:KD b n 0=Bo (List.replicate n [.nilp]):=by
  simp only[KD,Bo,vH,CO,List.map_replicate];rw[List.map_const',Jp];rfl
 rw[e];exact Qzo _ _
def Y0{σ:Nat->Nat}{i:Nat}{x:Int}(h: ∀j,j<i->σ j=1000+j):(ME 0 i x).ren σ=ME 1000 i x:=by
 simp only[ME];split
 .simp only[AV.ren,FN];rw[h _ (by omega)]
 .rfl
def IZ{h:Nat->Option Am}{σ:Nat->Nat}{b n:Nat}{f:Nat->Am}(H: ∀i,i<n->h (σ (b+i))=some ((f i).1,(f i).2.ren σ)):Db h σ (A8 b n f):=by
 have: ∀(l:List Nat),(∀i∈l,i<n)->Db h σ (l.map λi=>(b+i,f i)):=by
  intro l;induction l with
  |nil=>intro _;trivial
  |cons i r ih=>
   intro z;simp only[Be];exact⟨H i (z i (BU ..)),ih (λj Q=>z j (BQ _ Q))⟩
 exact this _ (λi O=>Bc.1 O)
def Yk{n:Nat}{L:List Int}{j:Nat}(h:Aj (ET 0 L n) j=true):j<n:=by
 simp only[Aj,ET,fT] at h;split at h
 .omega
 .cases h
def Qtp{H:Nat->Option Am}{L:List Int}{k nx u:Nat}{K:Ah}(Z:L.length=k)(hk:k<=512)(O:GV L)(hu:u<k)(aa:2000<=nx)(hH: ∀i,i<k->H (1000+i)=some (HQ 1000 L i))
 (Q: ∀U,K (.ptr (1000+EI L u) 0) {use:=U}):firC.row [.ptr (1000+u) 0] H nx K:=by
 have hσ: ∀j,j<600->Bw (λj=>1000+j) 600 nx j=1000+j:=λj z=>Ai z
 have hn:firC.n (L,u)=k:=by simp only[firC.n,Z];omega
 have hr:=Qnj O u;refine⟨(L,u),λj=>1000+j,(List.range k).map (1000+ ·),[],⟨by simp only;omega,by simp only;omega,O⟩,?_,?_,?_,?_⟩
 .simp only[firC.ca,AI,AV.ren];rw[show min u 511=u by omega,hσ u (by omega)]
 .simp only[firC.H0,hn,ET];refine IZ λi hi=> ?_
  rw[FN,hσ i (by omega),hH i hi];simp only[HQ,Ac.ren,AI,AV.ren];rw[Y0 (λj z=>hσ j (by omega))]
 .have hd: ∀j,Aj (firC.H0 (L,u)) j=true->j<k:=λj z=>by simp only[firC.H0,hn] at z;exact Yk z
  refine⟨λi j _ _ h=> ?_,λj z=> ?_,λj z=> ?_,λm hm=>(by cases hm),λj _ z=>(by cases z)⟩
  .have h:1000+i=1000+j:=h;omega
  .have:=hd j z
   show 1000+j<nx;omega
  exact Bl.2 ⟨j,Bc.2 (hd j z),rfl⟩
 .have e:(firC.r0 (L,u)).ren (Bw (λj=>1000+j) 600 nx)= .ptr (1000+EI L u) 0:=by
   simp only[firC.r0,AV.ren];rw[hσ _ (by omega)]
  rw[e];exact Q _
def Qug(k:Nat):GV (List.replicate k (-1)):=by
 intro i x h
 have:=OF (Bg h)
 omega
def zA: ∀(k i:Nat),i<k->(X3 k)[i]? =some (i:Int)
 |0,i,h=>by omega
 |k+1,i,h=>by
  simp only[X3];by_cases z:i<k
  .rw[Io (by rw[fA];exact z)];exact zA k i z
  .have:i=k:=by omega
   subst this;rw[Kc (by rw[fA];exact AU _),fA,Ke];rfl
def P8{k i:Nat}{bs:List Ag}(h:i<k):(Cp k bs 0)[i]? =some ((EI (List.replicate k (-1)) i:Nat):Int):=by
 simp only[Cp];rw[zA k i h]
 have:=ZQ (Qug k) (i:=i) (x:= -1) (by rw[LP,Ai h])
 rw[this,Ai (by omega)]
def Qls{L:List Int}(h:GV L): ∀(i:Nat),EI L (EI L i)=EI L i:=by
 intro i;induction i using Nat.strongRecOn with
 |_ i ih=>
  cases hi:L[i]? with
  |none=>
   have:EI L i=i:=by rw[EI];cases i<;>simp[O8,hi]
   rw[this,this]
  |some x=>
   have z:=h i x hi;rw[ZQ h hi];split
   .rename_i h0;rw[ZQ h hi,Ai h0]
   .exact ih x.toNat (by omega)
def Qsx{L:List Int}(h:GV L){p q:Nat}(Q:p<q):GV (L.set q (p:Int)):=by
 intro i x z;by_cases hq:q=i
 .subst hq;have O:q<L.length:=by have:=(C6.1 z).1;simpa using this
  rw[DW O] at z;obtain rfl:=AJ z;omega
 .rw[Eh hq] at z;exact h i x z
def Qqx{L:List Int}(h:GV L){p q:Nat}(hp:EI L p=p)(hq:EI L q=q)(O:p<q)(Q:q<L.length): ∀(i:Nat),EI (L.set q (p:Int)) i=if EI L i=q then p else EI L i:=by
 have h':=Qsx h O;intro i;induction i using Nat.strongRecOn with
 |_ i ih=>
  by_cases z:q=i
  .subst z;have e:(L.set q (p:Int))[q]? =some (p:Int):=DW Q;rw[ZQ h' e,Af (by omega),Bq,ih p O,hp,Af (by omega),hq,Ai rfl]
  .have e:(L.set q (p:Int))[i]? =L[i]? :=Eh z;cases hi:L[i]? with
   |none=>
    have Z:EI L i=i:=by rw[EI];cases i<;>simp[O8,hi]
    have r2:EI (L.set q (p:Int)) i=i:=by rw[EI];cases i<;>simp[O8,e,hi]
    rw[Z,r2,Af (FP z)]
   |some x=>
    have hx:=h i x hi;rw[hi] at e;rw[ZQ h' e,ZQ h hi];by_cases h0:x<0
    .rw[Ai h0,Ai h0,Af (FP z)]
    .rw[Af h0,Af h0];exact ih x.toNat (by omega)
def MA{x y:Nat}(h:x<y)(r:Nat):JZ (x:Int) (y:Int) (r:Int)=((if r=y then x else r:Nat):Int)/\JZ (y:Int) (x:Int) (r:Int)=((if r=y then x else r:Nat):Int):=by
 have m1:EC (x:Int) y=y:=Af (by omega);have O:EC (y:Int) x=y:=Ai (by omega);have Q:Fq (x:Int) y=x:=Ai (by omega);have Z:Fq (y:Int) x=x:=Af (by omega);simp only[JZ,m1,O,Q,Z];by_cases z:r=y
 .rw[Ai z,Ai (by omega)];exact⟨rfl,rfl⟩
 .rw[Af z,Af (by omega)];exact⟨rfl,rfl⟩
def Yw(x r:Nat):JZ (x:Int) (x:Int) (r:Int)=(r:Int):=by
 have m1:EC (x:Int) x=x:=Af (by omega);have O:Fq (x:Int) x=x:=Af (by omega);simp only[JZ,m1,O];by_cases z:(r:Int)=x
 .rw[Ai z,z]
 .rw[Af z]
def Wv(p:Int×Int):D×D:=(.int .i64 p.1,.int .i64 p.2)
def IQ(M:List (Int×Int))(x:Int):Option Int:=(M.find? (λp=>p.1==x)).map (·.2)
def T1(x:Int): ∀(M:List (Int×Int)),lk (M.map Wv) (.int .i64 x)=(IQ M x).map (D.int .i64)
 |[]=>rfl
 |(k,v)::r=>by
  have ih:=T1 x r;simp only[IQ] at ih;by_cases h:k=x
  .subst h;simp[lk,Wv,IQ,D.beq]
  .have z: ¬x=k:=λe=>h e.symm
   have O:(x==k)=false:=by simpa using z
   simp[lk,Wv,IQ,D.beq,h,O,ih]
def Y2(x:Int)(M:List (Int×Int))(Ks:D->Prop)(Kn:Prop):IU (M.map Wv) (.int .i64 x) Ks Kn=((∀v,IQ M x=some v->Ks (.int .i64 v))/\(IQ M x=none->Kn)):=by
 apply propext;unfold IU;rw[T1];cases IQ M x<;>simp
def NO(x v:Int): ∀(M:List (Int×Int)),IQ M x=none->EF (M.map Wv) (.int .i64 x) (.int .i64 v)=(M++[(x,v)]).map Wv
 |[],_=>rfl
 |(k,w)::r,h=>by
  by_cases z:k=x
  .subst z;simp[IQ] at h
  .have O: ¬x=k:=λe=>z e.symm
   have Z:IQ r x=none:=by simpa[IQ,z] using h
   have ih:=NO x v r Z;simp only[Be,BO,Wv] at ih⊢;have Q:(x==k)=false:=by simpa using O
   simp[EF,D.beq,Q,ih,Wv]
def MG(M:List (Int×Int))(x v y:Int):IQ (M++[(x,v)]) y=(IQ M y).or (if x=y then some v else none):=by
 simp only[IQ,List.find?_append];cases h:M.find? (λp=>p.1==y) with
 |some p=>simp
 |none=>
  by_cases z:x=y
  .subst z;simp
  .simp[z]
def zL{own:List Int}{i:Nat}(h:own[i]? =some (i:Int)): ∀k,∃z,Dq own i (k+1)=(i:Int)::z
 |0=>⟨[],by simp[Dq,h]⟩
 |k+1=>by
  obtain⟨z,O⟩:=zL h k;rw[Dq,O];exact⟨_,rfl⟩
def Qjv(own:List Int)(n:Nat): ∀k,k<=n-> ∀g∈BJ own n k,∃(r:Nat) (rest:List Int),g=(r:Int)::rest/\r<k/\own[r]? =some (r:Int)
 |0,_,g,h=>by simp[BJ] at h
 |k+1,hk,g,h=>by
  simp only[BJ,B7] at h;rcases h with h|h
  .obtain⟨r,rest,Q,h2,Z⟩:=Qjv own n k (by omega) g h;exact⟨r,rest,Q,by omega,Z⟩
  .split at h
   .rename_i z;obtain rfl:=BS.1 h;obtain⟨rest,O⟩:=zL z (n - k - 1);rw[show n - k - 1+1=n - k by omega] at O;exact⟨k,rest,O,by omega,z⟩
   .cases h
def Qo6(own:List Int)(n:Nat)(r:Nat)(Q:own[r]? =some (r:Int)): ∀k,k<=n->r<k-> ∃z,((r:Int)::z)∈BJ own n k
 |0,_,h=>by omega
 |k+1,hk,h=>by
  by_cases O:r=k
  .subst O;obtain⟨z,O⟩:=zL Q (n - r - 1);rw[show n - r - 1+1=n - r by omega] at O;exact⟨z,by simp[BJ,Q,O]⟩
  .obtain⟨z,Z⟩:=Qo6 own n r Q k (by omega) (by omega);exact⟨z,by simp only[BJ,B7];exact .inl Z⟩
def Qy0(own:List Int)(n:Nat): ∀k,∀g∈BJ own n k,g.length<=n
 |0,g,h=>by simp[BJ] at h
 |k+1,g,h=>by
  simp only[BJ,B7] at h;rcases h with h|h
  .exact Qy0 own n k g h
  .split at h
   .obtain rfl:=BS.1 h
    have:=Qsd own k (n - k)
    omega
   .cases h
def Pf{h:Nat->Option Am}{b m:Nat}{G:List (List Int)}(H: ∀q,q<G.length->h (b+q)=some (true,.arr 2 1 ((G[q]?.getD []).map Ak))):
 Ax (Ax λx=>E8 (Bf h (I7 0 []) (m+1) x)) (Dw b G.length)=some (G.map CZ):=by
 have: ∀(l:List Nat),(∀q∈l,q<G.length)->Ax (Ax λx=>E8 (Bf h (I7 0 []) (m+1) x)) (l.map λi=>[AV.own (b+i)])=some (l.map λq=>CZ (G[q]?.getD [])):=by
  intro l;induction l with
  |nil=>intro _;rfl
  |cons q r ih=>
   intro Q;have h0:I7 0 [] (b+q)=none:=rfl;have O:=ih (λx Z=>Q x (BQ _ Z));have e:Ax (λx=>E8 (Bf h (I7 0 []) (m+1) x)) [AV.own (b+q)]=some (CZ (G[q]?.getD [])):=by
    simp only[Ax,Bf,h0,H q (Q q (BU ..)),Q9,kp,Dh,E8,AV.asD];rfl
   rw[Be,Ax,e,O];rfl
 rw[Dw,this _ (λq hq=>Bc.1 hq)];congr 1;apply RH;intro j;by_cases z:j<G.length
 .rw[D3,Ga z,D3,BA z,Dh,Dh,BA z,AX]
 .rw[Ir (by simp;omega),Ir (by simp;omega)]
def J2(r:Int)(m:Nat)(g:List Int):List Int:=if g.head? =some r then g++[(m:Int)] else g
def Ql4(own:List Int)(m:Nat)(r:Int)(Z:own[m]? =some r): ∀k,k<=m->BJ own (m+1) k=(BJ own m k).map (J2 r m)
 |0,_=>rfl
 |k+1,hk=>by
  rw[BJ,BJ,DX,Ql4 own m r Z k (by omega)];congr 1;by_cases O:own[k]? =some (k:Int)
  .rw[Ai O,Ai O];obtain⟨aa,Q⟩:=zL O (m - k - 1);rw[show m - k - 1+1=m - k by omega] at Q;have e:Dq own k (m+1 - k)=Dq own k (m - k)++(if own[m]? =some (k:Int) then [(m:Int)] else []):=by
    rw[show m+1 - k=(m - k)+1 by omega,Dq,show k+(m - k)=m by omega]
   rw[e,Z];simp only[Be,BF,J2,Q,ZeV,AN];by_cases z:r=(k:Int)
   .rw[Ai z,Ai z.symm]
   .rw[Af z,Af (FP z),DJ]
  .rw[Af O,Af O];rfl
structure tV(out:List (List Int))(M:List (Int×Int)):Prop where
 a: ∀r v,IQ M r=some v-> ∃(g:Nat) (rest:List Int),v=g/\out[g]? =some (r::rest)
 b: ∀(g:Nat) (r:Int) (rest:List Int),out[g]? =some (r::rest)->IQ M r=some (g:Int)
def Tb{own:List Int}{i:Nat}{M:List (Int×Int)}{r:Nat}(hP:tV (BJ own i i) M)(ho:own[i]? =some (r:Int))(hr:r<=i)(ab:own[r]? =some (r:Int))(hn:IQ M r=none):
 r=i/\BJ own (i+1) (i+1)=BJ own i i++[[(i:Int)]]/\tV (BJ own (i+1) (i+1)) (M++[((i:Int),((BJ own i i).length:Int))]):=by
 have aa:r=i:=by
  by_cases h:r<i
  .obtain⟨z,hm⟩:=Qo6 own i r ab i (by omega) h;obtain⟨g,O⟩:=Wp.1 hm;rw[hP.b g _ _ O] at hn;cases hn
  .omega
 subst aa;have e:BJ own (r+1) (r+1)=BJ own r r++[[(r:Int)]]:=by
  rw[BJ,Ql4 own r r ho r (AU _),Ai ho];congr 1
  .conv=>rhs;rw[<-List.map_id (BJ own r r)]
   apply Gb;intro g O;obtain⟨q,z,Z,h2,_⟩:=Qjv own r r (AU _) g O;simp only[J2,Z,ZeV,AN,id];rw[Af (by omega)]
  .rw[show r+1 - r=0+1 by omega];simp[Dq,ho]
 refine⟨rfl,e,?_⟩;rw[e];refine⟨λq v Q=> ?_,λg q z O=> ?_⟩
 .rw[MG] at Q;cases hq:IQ M q with
  |some w=>
   rw[hq] at Q;obtain rfl:=AJ Q;obtain⟨g,z,Z,h2⟩:=hP.a q _ hq;exact⟨g,z,Z,by rw[Io (C6.1 h2).1];exact h2⟩
  |none=>
   rw[hq] at Q;simp only[Option.none_or] at Q;split at Q
   .rename_i h;obtain rfl:=AJ Q;exact⟨_,[],rfl,by rw[Kc (AU _),Ke,<-h];rfl⟩
   .cases Q
 .rw[MG];by_cases hl:g<(BJ own r r).length
  .rw[Io hl] at O;rw[hP.b g q z O];rfl
  .rw[Kc (by omega)] at O;have h0:g - (BJ own r r).length=0:=by
    have:=(C6.1 O).1
    simpa using this
   rw[h0] at O;simp only[Iq,AN,Wl] at O;rw[<-O.1,hn,Ai rfl,Option.none_or];congr 1;omega
def Tc{own:List Int}{i:Nat}{M:List (Int×Int)}{r:Int}{g:Nat}{rest:List Int}(hP:tV (BJ own i i) M)(ho:own[i]? =some r)(Z:(BJ own i i)[g]? =some (r::rest)):
 BJ own (i+1) (i+1)=(BJ own i i).set g (r::rest++[(i:Int)])/\tV (BJ own (i+1) (i+1)) M:=by
 have ab:r≠i:=by
  obtain⟨q,rs,h1,O,_⟩:=Qjv own i i (AU _) _ (Bg Z)
  have:=(Zfh h1).1
  omega
 have e:BJ own (i+1) (i+1)=(BJ own i i).set g (r::rest++[(i:Int)]):=by
  rw[BJ,Ql4 own i r ho i (AU _),Af (by rw[ho];simpa using ab),DJ];apply RH;intro j;rw[D3];by_cases Q:g=j
  .subst Q;rw[DW (C6.1 Z).1,Z];simp[J2]
  .rw[Eh Q];cases hx:(BJ own i i)[j]? with
   |none=>rfl
   |some x=>
    simp only[Dh,J2];rw[Af];intro hh;cases x with
    |nil=>cases hh
    |cons q rs=>
     simp only[ZeV,AN] at hh;subst hh;have h1:=hP.b j _ _ hx;have O:=hP.b g _ _ Z;rw[h1] at O
     have:=AJ O
     omega
 refine⟨e,?_⟩;rw[e];have aa:=(C6.1 Z).1;refine⟨λq v hv=> ?_,λg' q rs z=> ?_⟩
 .obtain⟨j,rs,h1,O⟩:=hP.a q v hv;by_cases Q:g=j
  .subst Q;rw[Z] at O;simp only[AN,Wl] at O;exact⟨g,rest++[(i:Int)],h1,by rw[DW aa,O.1];rfl⟩
  .exact⟨j,rs,h1,by rw[Eh Q];exact O⟩
 .by_cases Q:g=g'
  .subst Q;rw[DW aa] at z;simp only[AN,BO,Wl] at z;rw[<-z.1];exact hP.b g _ _ Z
  .rw[Eh Q] at z;exact hP.b g' _ _ z
def Fo(b:Nat)(G:List (List Int)):An:=A8 b G.length (λi=>(true,.arr 2 1 ((G[i]?.getD []).map Ak)))
def SY(b N:Nat)(G:List (List Int))(h:b+G.length<=N):Aw N (Fo b G)=true:=Qt5 _ _ _ _ λi z=>by simp[Aw]
def SZ(b N:Nat)(G:List (List Int))(h:b+G.length<=N):B6 N (Fo b G)=true:=O2 _ _ _ _ h
def wZ{π:List (Nat×Option Nat)}{b n k:Nat}(h: ∀i,i<k->pm π (b+i)=some (b+i)):FF π (KD b n k) (KD b n k):=by
 rw[Wa];refine⟨rfl,λi x y z Z=> ?_⟩;rw[z] at Z;obtain rfl:=AJ Z;have O:i<n:=by have:=(C6.1 z).1;rwa [JU] at this
 rw[yZ _ _ _ _ O] at z;obtain rfl:=AJ z;split
 .rename_i Q;simp only[Dz,mt,h i Q,Hs,QL]
 .simp only[Dz,mt,QL]
def P3(A:List Nat)(b n c m:Nat)(h:A.Nodup)(hA: ∀x∈A,(x<b\/b+n<=x)/\(x<c\/c+m<=x))(aa:b+n<=c):(A++((List.range n).map (b+ ·)++(List.range m).map (c+ ·))).Nodup:=by
 have Z: ∀b n,((List.range n).map (b+ ·)).Nodup:=λb n=>by have:=eW [] b n (by simp) (by simp);simpa using this
 rw[Wq];refine⟨h,?_,λx Q y z=> ?_⟩
 .rw[Wq];refine⟨Z _ _,Z _ _,λx Q y z=> ?_⟩;obtain⟨i,hi,rfl⟩:=Bl.1 Q;obtain⟨j,O,rfl⟩:=Bl.1 z
  have:=Bc.1 hi
  omega
 .have:=hA x Q
  rcases B7.1 z with z|z
  .obtain⟨j,O,rfl⟩:=Bl.1 z
   have:=Bc.1 O
   omega
  .obtain⟨j,O,rfl⟩:=Bl.1 z
   have:=Bc.1 O
   omega
def Qyb(b:Nat)(G:List (List Int))(g:Nat)(h:g<G.length):hget (Fo b G) (b+g)=some (true,.arr 2 1 ((G[g]?.getD []).map Ak)):=Dp _ _ _ _ h
def Yl(b k:Nat)(L:List Int)(m:Nat)(h:m<b\/b+k<=m):hget (ET b L k) m=none:=zW _ _ _ _ h
def zY(k:Nat)(L:List Int)(G:List (List Int))(i:Nat)(h:i<k):hget (ET 1000 L k++Fo 3000 G) (1000+i)=some (HQ 1000 L i):=by
 rw[Jm,KB _ _ _ _ h];rfl
def Qne(k:Nat)(L:List Int)(G:List (List Int))(g:Nat)(z:k<=512)(h:g<G.length):hget (ET 1000 L k++Fo 3000 G) (3000+g)=some (true,.arr 2 1 ((G[g]?.getD []).map Ak)):=by
 rw[Jm,Yl _ _ _ _ (by omega),Qyb _ _ _ h];rfl
def Tv(k:Nat)(L:List Int)(G:List (List Int)):F6 (ET 1000 L k++Fo 3000 G)=(List.range k).map (1000+ ·)++(List.range G.length).map (3000+ ·):=by
 rw[Qpf,ET,Fo,Xh,Xh]
def gI(k:Nat)(L:List Int)(i:Nat)(M:List (Int×Int))(G:List (List Int)):Az:=⟨[(81,.im (.int .i64 i)),(80,.im (.int .i64 k)),(79,.own 2),(12,.mp 2001),(11,.own 2100)],(2001,(true,.map {agg:=false,ks:=[KK.int .i64]} (M.map Wv)))::(2100,(true,.arrA 41 1 (Dw 3000 G.length)))::(2,(true,.arrA 241 1 (KD 1000 k k)))::(ET 1000 L k++Fo 3000 G),4000⟩
def Yh{k:Nat}{L:List Int}{i:Nat}{M:List (Int×Int)}{G:List (List Int)}(O:k<=512)(z:G.length<=512):(gI k L i M G).good=true:=by
 simp only[gI,Az.good,Aw,B6,lU,zV,tG 1000 k 4000 _ (by omega),zM 1000 k k 4000 (by omega),Qnw 1000 k 4000 _ (by omega),Xf 3000 G.length 4000 (by omega),SY 3000 4000 G (by omega),SZ 3000 4000 G (by omega)];simp[Cv,AV.bel]
def Qxg{π:List (Nat×Option Nat)}{s:Az}{k:Nat}{L:List Int}{i:Nat}{M:List (Int×Int)}{G:List (List Int)}{O:Nat}{T:Nat->Nat}(hk:k<=512)(hG:G.length<=512)
 (ac:GU 2002 π)(p1:pm π 2001=some 2001)(p2:pm π 2=some 2)(p3: ∀j,j<k->pm π (1000+j)=some (1000+j))(p4:pm π 2100=some O)(p5: ∀q,q<G.length->pm π (3000+q)=some (T q))
 (t1:AE s.tm 81= .im (.int .i64 i))(t2:AE s.tm 80= .im (.int .i64 k))(t3:AE s.tm 79= .own 2)(t4:AE s.tm 12= .mp 2001)(t5:AE s.tm 11= .own O)
 (g1:hget s.h 2001=some (true,.map {agg:=false,ks:=[KK.int .i64]} (M.map Wv)))(g2:hget s.h 2=some (true,.arrA 241 1 (KD 1000 k k)))(g3: ∀j,j<k->hget s.h (1000+j)=some (HQ 1000 L j))
 (g4:(G.length=0/\hget s.h O=some (true,.arr 41 1 []))\/hget s.h O=some (true,.arrA 41 1 ((List.range G.length).map λq=>[.own (T q)])))
 (g5: ∀q,q<G.length->hget s.h (T q)=some (true,.arr 2 1 ((G[q]?.getD []).map Ak)))
 (inj: ∀q q',q<G.length->q'<G.length->T q=T q'->q=q')(out: ∀q,q<G.length->T q≠O/\3000<=T q)(hO:2000<=O/\O≠2001):Av 2002 π s (gI k L i M G):=by
 refine⟨ac,?_,?_,?_⟩
 .rw[aD];simp only[gI,F6,Tv];have ab: ∀x∈[2001,2100,2]++((List.range k).map (1000+ ·)++(List.range G.length).map (3000+ ·)),(x=2001/\pm π x=some 2001)\/(x=2/\pm π x=some 2)\/(x=2100/\pm π x=some O)\/(1000<=x/\x<1000+k/\pm π x=some x)\/(3000<=x/\x<3000+G.length/\pm π x=some (T (x - 3000))):=by
   intro x z;rcases B7.1 z with z|z
   .simp only[Br,OI,LV] at z;rcases z with rfl|rfl|rfl
    .exact .inl ⟨rfl,p1⟩
    .exact .inr (.inr (.inl ⟨rfl,p4⟩))
    .exact .inr (.inl ⟨rfl,p2⟩)
   .rcases B7.1 z with z|z
    .obtain⟨j,Q,rfl⟩:=Bl.1 z;have Q:=Bc.1 Q;exact .inr (.inr (.inr (.inl ⟨by show 1000<=1000+j;omega,by show 1000+j<1000+k;omega,p3 j Q⟩)))
    .obtain⟨j,Q,rfl⟩:=Bl.1 z;have Q:=Bc.1 Q;exact .inr (.inr (.inr (.inr ⟨by show 3000<=3000+j;omega,by show 3000+j<3000+G.length;omega,by show pm π (3000+j)=some (T (3000+j - 3000));rw[show 3000+j - 3000=j by omega];exact p5 j Q⟩)))
  refine aI _ _ (P3 [2001,2100,2] 1000 k 3000 G.length (by simp) (by simp;omega) (by omega)) ?_;intro x z y hy m Z aa;rcases ab x z with ⟨a1,a2⟩|⟨a1,a2⟩|⟨a1,a2⟩|⟨a0,a1,a2⟩|⟨a0,a1,a2⟩<;>rcases ab y hy with ⟨b1,b2⟩|⟨b1,b2⟩|⟨b1,b2⟩|⟨b0,b1,b2⟩|⟨b0,b1,b2⟩<;>
   rw[a2] at Z<;>rw[b2] at aa<;>have Z:=AJ Z<;>have aa:=AJ aa<;>first
   |omega
   |(have:=out (x - 3000) (by omega);omega)
   |(have:=out (y - 3000) (by omega);omega)
   |(have:=inj (x - 3000) (y - 3000) (by omega) (by omega) (Z.trans aa.symm);omega)
 .simp only[gI,GH,t1,t2,t3,t4,t5,mt,p2,p1,p4,EV,Hs,QL]
 .simp only[gI,EJ,Qns,p1,p2,p4,Cx,g1,g2];refine⟨⟨rfl,rfl⟩,?_,⟨rfl,rfl,rfl,wZ p3⟩,?_,?_⟩
  .rcases g4 with ⟨h0,h1⟩|h1
   .rw[h1,h0];exact⟨rfl,rfl,rfl,trivial⟩
   .rw[h1];exact⟨rfl,rfl,rfl,Qyn p5 rfl⟩
  .rw[ET,ZY];intro j Q;rw[p3 j Q,Cx,g3 j Q];refine⟨rfl,?_⟩;simp only[HQ,Ej,Dz,mt,QL,and_true,OK];simp only[ME];split
   .simp only[mt,p3 _ (show (L[j]?.getD (-1)).toNat<k by omega),Hs]
   .rfl
  .rw[Fo,ZY];intro q hq;rw[p5 q hq,Cx,g5 q hq];exact⟨rfl,rfl⟩
def Ta(a:Int×List Ag):Prop:=0<=a.1/\a.1<=512/\LG a.1 a.2/\a.2.length<=1000000
def groupsBy_.fv(a:Int×(List Ag)):List (List Int):=(VT) (a.1) (a.2)
def groupsBy_.row:AF:=vK (b2 qI (qS Ag.d_le Ag.c_n)) (rS sL Nz) (λa=>Ta (a.1,a.2)) groupsBy_.fv
def groupsBy_.q:=Bd (R:=groupsBy_.row) rfl
def groupsBy_.ok:AL 156 groupsBy_.row:=by
 refine vw (tC firC.ok tN) Tryz.func156 ?_;intro a a8;simp only[Tryz.f156,Option.getD];simp(disch:=omega)only[ZZ,simprocAttr,Ab,groupsBy_.fv];obtain⟨h0,h1,aw,hl⟩:=a8;obtain⟨n,hn⟩: ∃n:Nat,a.1=n:=⟨a.1.toNat,by simp only at h0;omega⟩;obtain⟨bs,hbsd⟩: ∃bs,bs=a.2:=⟨_,rfl⟩;simp only[hn,<-hbsd,Bq] at h0 h1 aw hl⊢;refine⟨h0,OG _,by omega,λ_=> ?_⟩;rw[OE];refine Ba.ren ⟨{k:Nat//k<=n},λk=>⟨[(21,.im (.int .i64 k.1)),(20,.im (.int .i64 n)),(19,.own 2),(5,.own 2),(0,.im (.int .i64 n)),(1,.im (.sl false 3 (bs.map Ag.c)))],(2,(true,.arrA 241 1 (KD 1000 n k.1)))::ET 1000 (List.replicate n (-1)) k.1,2000⟩,λk=>n - k.1,λk=>⟨?_,by simp⟩,⟨⟨0,by simp⟩,[(2,some 1)],?_⟩,λk=> ?_⟩
 .simp only[Az.good,Aw,B6,tG 1000 k.1 2000 _ (by omega),zM 1000 n k.1 2000 (by omega),Qnw 1000 k.1 2000 _ (by omega)];simp[Cv,AV.bel]
 .simp only[Av,ET,A8,ES,BF];simp(disch:=omega)only[ZZ,simprocAttr,Ab,groupsBy_.fv,AS,AR];exact PO _ _ _
 obtain⟨k,bd⟩:=k;simp(disch:=omega)only[ZZ,simprocAttr,Ab,groupsBy_.fv,sub,AP,Bp,JU];refine⟨λhk=>⟨hk,hk,?_⟩,λhk=> ?_⟩
 .simp(disch:=omega)only[ZZ,simprocAttr,Ab,groupsBy_.fv,sub,AP,Bp,JU,Qtr,Zfk,CO];refine⟨?_,⟨k+1,by omega⟩,[(1000+k,some 2000)],by simp only;omega,?_⟩
  .rw[CR];intro r hr;rcases XA hr with hr|hr
   .exact CR.1 (zM 1000 n k 2001 (by omega)) r hr
   .subst hr;simp[AA,AV.bel]
  have qi: ∀i,i≠1000+k->pm [(1000+k,some 2000)] i=some i:=by intro i z;simp only[pm];rw[Af (by omega)]
  have qk:pm [(1000+k,some 2000)] (1000+k)=some 2000:=by simp only[pm];rw[Ai trivial]
  obtain⟨π,hπ⟩: ∃π,π=[(1000+k,some 2000)]:=⟨_,rfl⟩;rw[<-hπ] at qi qk⊢;refine⟨by rw[hπ];exact⟨by omega,trivial⟩,?_,?_,?_⟩
  .rw[aD,hπ];simp only[F6,ET,Xh];refine aI _ _ (eW [2] 1000 (k+1) (by simp) (by simp)) ?_;intro x hx y hy m aq ah;have bj:x<2000:=by
    rcases Br.1 hx with hx|hx
    .omega
    .obtain⟨i,z,rfl⟩:=Bl.1 hx
     have:=Bc.1 z
     show 1000+i<2000;omega
   have bl:y<2000:=by
    rcases Br.1 hy with hy|hy
    .omega
    .obtain⟨i,z,rfl⟩:=Bl.1 hy
     have:=Bc.1 z
     show 1000+i<2000;omega
   simp only[pm] at aq ah;split at aq<;>split at ah<;>simp only[AN] at aq ah<;>omega
  .simp only[GH,AE];simp(disch:=omega)only[ZZ,simprocAttr,Ab,groupsBy_.fv,qi 2 (by omega)];rw[AG (by omega) (by omega)];omega
  .simp only[EJ,ET,ZY];refine⟨?_,λi z=> ?_⟩
   .simp(disch:=omega)only[ZZ,simprocAttr,Ab,groupsBy_.fv,qi 2 (by omega)];rw[Wa];refine⟨by simp[JU],λi x y hx hy=> ?_⟩;have ax:i<n:=by have:=(C6.1 hx).1;rwa [JU] at this
    rw[yZ _ _ _ _ ax] at hx;obtain rfl:=AJ hx;by_cases ad:k=i
    .subst ad;rw[DW (by rw[JU];exact hk)] at hy;obtain rfl:=AJ hy;rw[Ai (by omega)];simp only[Dz,mt,qk,Hs,QL]
    .rw[Eh ad,yZ _ _ _ _ ax] at hy;obtain rfl:=AJ hy;by_cases az:i<k
     .rw[Ai (by omega),Ai az];simp only[Dz,mt,qi (1000+i) (by omega),Hs,QL]
     .rw[Af (by omega),Af az];simp only[Dz,mt,QL]
   .have hg: ∀i,i<n->(List.replicate n (-1:Int))[i]?.getD (-1)= -1:=by
     intro i z;rw[LP,Ai z,AX]
    have ay:ME 1000 i (-1)= .im .nilp:=by simp only[ME];rw[Af (by omega)]
    simp only[HQ,hg i (by omega),ay];by_cases ad:i=k
    .subst ad;rw[qk];simp(disch:=omega)only[ZZ,simprocAttr,Ab,groupsBy_.fv]
    .rw[qi (1000+i) (by omega)];have h9:=KB 1000 k (List.replicate n (-1)) i (by omega);simp only[HQ,hg i (by omega),ay,ET] at h9;simp (disch:=omega) only[Cx,hget,Ar,Bk,Xj,bA,gR,OJ,Df,CO];rw[h9];simp only[Lb,Ej,Dz,mt,QL]
 .intro _;have be:k=n:=by omega
  subst be;clear hk bd;refine Ba.old ⟨{s:Nat×List Int//s.1<=bs.length/\s.2.length=k/\GV s.2/\ ∀i,i<k->(Cp k bs s.1)[i]? =some ((EI s.2 i:Nat):Int)},λs=>⟨[(33,.im (.int .i64 s.1.1)),(32,.im (.int .i64 bs.length)),(31,.im (.sl false 3 (bs.map Ag.c))),(5,.own 2),(0,.im (.int .i64 k))],(2,(true,.arrA 241 1 (KD 1000 k k)))::ET 1000 s.1.2 k,2000⟩,λs=>bs.length - s.1.1,λs=>⟨?_,by simp⟩,⟨⟨(0,List.replicate k (-1)),by simp only;omega,by simp,Qug k,λi z=>P8 z⟩,?_⟩,λs=> ?_⟩
  .simp only[Az.good,Aw,B6,tG 1000 k 2000 _ (by omega),zM 1000 k k 2000 (by omega),Qnw 1000 k 2000 _ (by omega)];simp[Cv,AV.bel]
  .simp only[sub,Ha,AE];refine⟨?_,?_⟩
   .simp(disch:=omega)only[ZZ,simprocAttr,Ab,groupsBy_.fv]
   .simp only[Cm];refine⟨rfl,tL λi z=> ?_⟩;simp only[hget,Ar _ _ (show 2≠1000+i by omega),Bk];exact KB _ _ _ _ z
  obtain⟨⟨j,L⟩,i1,i2,i3,i4⟩:=s;simp only at i1 i2 i3 i4;simp(disch:=omega)only[ZZ,simprocAttr,Ab,groupsBy_.fv,sub,AP,Bp,JU];refine⟨λhj=>⟨hj,λb hb=> ?_⟩,λhj=> ?_⟩
  .obtain⟨b1,b2,b3,b4⟩:=aw b (Bg hb);obtain⟨u,hu⟩: ∃u:Nat,b.A=u:=⟨b.A.toNat,by omega⟩;obtain⟨w,hw⟩: ∃w:Nat,b.B=w:=⟨b.B.toNat,by omega⟩;have ai:u<k:=by omega
   have af:w<k:=by omega
   have bh:=Qnj i3 u;have bi:=Qnj i3 w;simp only[hu,hw,Bq];refine⟨by omega,by omega,ai,?_⟩;simp(disch:=omega)only[ZZ,simprocAttr,Ab,groupsBy_.fv,sub,AP,Bp,JU,Qtr,Ai ai,Ai af,hu,hw,Bq,HP];have hH: ∀(e Z:Am) (i:Nat),i<k->hget ((2000,e)::(2,Z)::AW (ET 1000 L k) [2000]) (1000+i)=some (HQ 1000 L i):=by
    intro e Z i z;have h9:=KB 1000 k L i z;simp (disch:=omega) only[hget,Ar,Bk,Xj,bA,gR,OJ,Df,CO,h9]
   refine⟨by omega,Qtp (nx:=2001) i2 (by omega) i3 ai (by decide) (hH _ _) (λU=> ?_)⟩;simp(disch:=omega)only[ZZ,simprocAttr,Ab,groupsBy_.fv,sub,AP,Bp,JU,Qtr,Ai ai,Ai af,hu,hw,Bq,sP,HP];refine⟨by omega,af,af,by omega,Ai (.inl (by omega)),Qtp (nx:=2001) i2 (by omega) i3 af (by decide) (hH _ _) (λU2=> ?_)⟩;obtain⟨x,hx⟩: ∃x,x=EI L u:=⟨_,rfl⟩;obtain⟨y,hy⟩: ∃y,y=EI L w:=⟨_,rfl⟩;rw[<-hx] at bh⊢;rw[<-hy] at bi⊢;have gx:=KB 1000 k L x (by omega);have gy:=KB 1000 k L y (by omega);simp only[HQ] at gx gy;simp(disch:=omega)only[ZZ,simprocAttr,Ab,groupsBy_.fv,sub,AP,Bp,JU,sP,HP,LL,Ar,JW,gx,gy,gY (show 1000+x<2001 by omega),gY (show 1000+y<2001 by omega),BD];have ba:EI L x=x:=by rw[hx];exact Qls i3 u
   have bb:EI L y=y:=by rw[hy];exact Qls i3 w
   have ou:=i4 u ai;have ow:=i4 w af;rw[<-hx] at ou;rw[<-hy] at ow;have hS:Cp k bs (j+1)=(Cp k bs j).map (JZ (x:Int) (y:Int)):=by
    simp only[Cp,hb,tJ,hu,hw,Bq,ou,ow,AX]
   have ac: ∀(p q:Nat),p<q->q<k-> ∀(i:Nat),i<k->HQ 1000 (L.set q (p:Int)) i=if i=q then (true,.cells 243 [.ptr (1000+p) 0,.im (.int .i64 q)]) else HQ 1000 L i:=by
    intro p q a0 hq i z;simp only[HQ];by_cases h:i=q
    .subst h;rw[Ai rfl,DW (by omega),AX];simp only[ME];rw[Ai ⟨by omega,by omega⟩,Bq]
    .rw[Af h,Eh (FP h)]
   have ag: ∀(p q:Nat),p<q->q<k-> ∀(e Z:Am) (tm:List (Nat×AV)),Cm ⟨tm,(1000+q,(true,.cells 243 [.ptr (1000+p) 0,.im (.int .i64 q)]))::(2000,e)::(2,Z)::AW (AW (ET 1000 L k) [2000]) [1000+q],2001⟩ (ET 1000 (L.set q (p:Int)) k):=by
    intro p q a0 hq e Z tm;refine tL λi z=> ?_
    rw[ac p q a0 hq i z];by_cases h:i=q
    .subst h;simp only[hget,vD,Cg,BD]
    .rw[Af h];have h9:=KB 1000 k L i z;simp (disch:=omega) only[hget,Ar,Bk,JW,h9]
   refine⟨λaj=>⟨⟨(j+1,L.set y (x:Int)),by simp only;omega,by simp only[FO];exact i2,Qsx i3 aj,λi z=> ?_⟩,by simp only;omega,by rw[AG (by omega) (by omega)];simp only;omega,ag x y aj (by omega) _ _ _⟩,λaj=>⟨λak=>⟨⟨(j+1,L.set x (y:Int)),by simp only;omega,by simp only[FO];exact i2,Qsx i3 ak,λi z=> ?_⟩,by simp only;omega,by rw[AG (by omega) (by omega)];simp only;omega,ag y x ak (by omega) _ _ _⟩,λak=>⟨⟨(j+1,L),by simp only;omega,i2,i3,λi z=> ?_⟩,by simp only;omega,by rw[AG (by omega) (by omega)];simp only;omega,?_⟩⟩⟩
   .rw[hS,D3,i4 i z,Dh,Qqx i3 ba bb aj (by omega) i,(MA aj _).1]
   .rw[hS,D3,i4 i z,Dh,Qqx i3 bb ba ak (by omega) i,(MA ak _).2]
   .rw[hS,D3,i4 i z,Dh,show y=x by omega,Yw]
   .refine tL λi z=> ?_
    have h9:=KB 1000 k L i z;simp (disch:=omega) only[hget,Ar,Bk,JW,h9]
  .have bc:j=bs.length:=by omega
   subst bc;obtain⟨own,hown⟩: ∃own,own=Cp k bs bs.length:=⟨_,rfl⟩;rw[<-hown] at i4;intro _;refine Ba.ren ⟨{s:Nat×List (Int×Int)//s.1<=k/\tV (BJ own s.1 s.1) s.2},λs=>gI k L s.1.1 s.1.2 (BJ own s.1.1 s.1.1),λs=>k - s.1.1,λs=>⟨?_,by simp[gI]⟩,⟨⟨(0,[]),by simp only;omega,?_⟩,[(2100,some 2000)],?_⟩,λs=> ?_⟩
   .have ab:=sF own s.1.1 s.1.1;have hs:=s.2.1;exact Yh (by omega) (by omega)
   .exact⟨λr v h=>(by cases h),λg r am h=>(by simp[BJ] at h)⟩
   .refine Qxg (O:=2000) (T:=λq=>3000+q) (by omega) (by simp[BJ]) ⟨by omega,trivial⟩ rfl rfl (λj hj=> ?_) rfl (λq hq=>(by simp[BJ] at hq)) rfl rfl rfl rfl rfl rfl rfl (λj hj=> ?_) (.inl ⟨rfl,rfl⟩) (λq hq=>(by simp[BJ] at hq)) (λq q' hq=>(by simp[BJ] at hq)) (λq hq=>(by simp[BJ] at hq)) (by omega)
    .simp only[pm];rw[Af (by omega)]
    .have h9:=KB 1000 k L j hj;simp (disch:=omega) only[hget,Ar,Bk,h9]
   obtain⟨⟨i,M⟩,q1,q2⟩:=s;simp only at q1 q2;simp only[gI];have an:=sF own i i;simp(disch:=omega)only[ZZ,simprocAttr,Ab,groupsBy_.fv,sub,AP,Bp,JU];refine⟨λz=>⟨z,z,?_⟩,λz=> ?_⟩
   .simp(disch:=omega)only[ZZ,simprocAttr,Ab,groupsBy_.fv,sub,AP,Bp,JU,Qtr,Ai z];have hH: ∀(e1 Z e3:Am) (j:Nat),j<k->hget ((2001,e1)::(2100,Z)::(2,e3)::(ET 1000 L k++Fo 3000 (BJ own i i))) (1000+j)=some (HQ 1000 L j):=by
     intro e1 Z e3 j hj;have h9:=zY k L (BJ own i i) j hj;simp (disch:=omega) only[hget,Ar,Bk,h9]
    have ho:=i4 i z;obtain⟨r,hr⟩: ∃r,r=EI L i:=⟨_,rfl⟩;have bf:r<=i:=by rw[hr];exact Qnj i3 i
    have bg:own[r]? =some (r:Int):=by
     have:=i4 r (by omega)
     rwa [hr,Qls i3 i,<-hr] at this
    rw[<-hr] at ho;have gr:=zY k L (BJ own i i) r (by omega);simp only[HQ] at gr;refine⟨by omega,by omega,by omega,Qtp (nx:=4000) i2 (by omega) i3 z (by omega) (hH _ _ _) (λU=> ?_)⟩;rw[<-hr];simp(disch:=omega)only[ZZ,simprocAttr,Ab,groupsBy_.fv,sub,AP,LL,Bp,JU,Ie,Ar,gr,Y2,gY (show 1000+r<4000 by omega),BD];refine⟨λv hv=> ?_,λhn=> ?_⟩
    .obtain⟨g,am,rfl,hg⟩:=q2.a _ v hv;have ab:=(C6.1 hg).1;have an:=sF own i i;have gg:=Qne k L (BJ own i i) g (by omega) ab;rw[hg,AX] at gg;simp(disch:=omega)only[ZZ,simprocAttr,Ab,groupsBy_.fv,sub,AP,LL,Bp,JU,Ie,Ar,gg,Bq,Qxa];obtain⟨e1,Z⟩:=Tc q2 ho hg;obtain⟨G,hG⟩: ∃G,G=BJ own i i:=⟨_,rfl⟩;rw[<-hG] at hg ab an e1 gg⊢;have ac:(Dw 3000 G.length).set g [AV.own 4001]=(List.range G.length).map λq=>[AV.own (if q=g then 4001 else 3000+q)]:=by
      apply RH;intro j;rw[D3];by_cases hj:j<G.length
      .rw[Ga hj];by_cases h:g=j
       .subst h;rw[DW (by rw[Ie];exact ab)];simp
       .rw[Eh h,Qo7 _ _ _ hj,Dh,Af (FP h)]
      .rw[Ir (by simp[Ie];omega),Ir (by simp;omega)];rfl
     refine⟨ab,ab,by omega,?_,by omega,?_,ab,ab,?_,⟨(i+1,M),by simp only;omega,Z⟩,[(3000+g,some 4001)],by simp only;omega,?_⟩
     .intro row Q;obtain rfl:=BS.1 Q;rfl
     .have h6:(r::am:List Int).length<=1000:=CS (by rw[hG] at hg;exact Qy0 own i i _ (Bg hg)) (by omega);simp only[Dx] at h6;omega
     .rw[CR];intro row Q;rcases XA Q with hr|hr
      .exact CR.1 (Xf 3000 G.length 4002 (by omega)) row hr
      .subst hr;simp[AA,AV.bel]
     have pn: ∀m,m≠3000+g->pm [(3000+g,some 4001)] m=some m:=by intro m hm;simp only[pm];rw[Af (FP hm)]
     simp only[e1];rw[AG (by omega) (by omega)];have hh: ∀(e1 Z e3 e4 e5:Am) (m:Nat),hget ((2100,e1)::(4001,Z)::(4000,e3)::(2001,e4)::(2,e5)::AW (AW (ET 1000 L k++Fo 3000 G) [3000+g]) [2100]) m=if m=2100 then some e1 else if m=4001 then some Z else if m=4000 then some e3 else if m=2001 then some e4 else if m=2 then some e5 else if m=3000+g then none else hget (ET 1000 L k++Fo 3000 G) m:=by
      intro e1 Z e3 e4 e5 m;simp only[hget,Xj,bA,gR,OJ,OH,ZeL];by_cases h1:m=2100
      .subst h1;simp
      by_cases h2:m=4001
      .subst h2;simp
      by_cases h3:m=4000
      .subst h3;simp
      by_cases h4:m=2001
      .subst h4;simp
      by_cases h5:m=2
      .subst h5;simp
      simp only[Af h1,Af h2,Af h3,Af h4,Af h5,Af (FP h1),Af (FP h2),Af (FP h3),Af (FP h4),Af (FP h5)]
     refine Qxg (O:=2100) (T:=λq=>if q=g then 4001 else 3000+q) (by omega) (by rw[FO];omega) ⟨by omega,trivial⟩ (pn _ (by omega)) (pn _ (by omega)) (λj hj=>pn _ (by omega)) (pn _ (by omega)) (λq hq=> ?_) rfl rfl rfl rfl rfl ?_ ?_ (λj hj=> ?_) (.inr ?_) (λq hq=> ?_) (λq q' hq=> ?_) (λq hq=> ?_) (by omega)
     .by_cases h:q=g
      .subst h;simp[pm]
      .rw[pn _ (by omega),Af h]
     .rw[hh];rfl
     .rw[hh];rfl
     .rw[hh,Af (by omega),Af (by omega),Af (by omega),Af (by omega),Af (by omega),Af (by omega)];exact zY _ _ _ _ hj
     .rw[hh,Ai rfl,ac,FO]
     .rw[FO] at hq;rw[hh];by_cases h:q=g
      .subst h;rw[Ai rfl,Af (by omega),Ai rfl,DW ab,AX];simp[Ak]
      .rw[Af h,Af (by omega),Af (by omega),Af (by omega),Af (by omega),Af (by omega),Af (by omega),Eh (FP h)];exact Qne _ _ _ _ (by omega) hq
     .rw[FO] at hq;intro au he;rw[FO] at au;by_cases h:q=g<;>by_cases h2:q'=g<;>simp only[h,h2,BD,CO] at he⊢ <;>omega
     .rw[FO] at hq;by_cases h:q=g<;>simp only[h,BD,CO]<;>omega
    .obtain⟨a9,e1,Z⟩:=Tb q2 ho bf bg hn;have Q:(Dw 3000 (BJ own i i).length++[[AV.im (D.sl true 0 [])]])[(BJ own i i).length]? =some [AV.im (D.sl true 0 [])]:=by
      rw[Kc (by rw[Ie];exact AU _),Ie,Ke];rfl
     have av: ∀N,4000<=N->(Dw 3000 (BJ own i i).length++[[AV.im (D.sl true 0 [])]]).all (AA N)=true:=by
      intro N hN;rw[QM,Xf _ _ _ (by omega)];rfl
     intro _;refine⟨?_,by omega,av _ (by omega),by simp[Ie],by simp[Ie],LK Q ?_⟩
     .intro row Q;obtain rfl:=BS.1 Q;rfl
     have ac:(Dw 3000 (BJ own i i).length++[[AV.im (D.sl true 0 [])]]).set (BJ own i i).length [AV.own 4003]=Dw 3000 (BJ own i i).length++[[AV.own 4003]]:=by
      have: ∀(l:List (List AV)) n x y,l.length=n->(l++[x]).set n y=l++[y]:=by
       intro l n x y h;subst h;rw[vI _ _ (AU _),Ke];rfl
      exact this _ _ _ _ (Ie _ _)
     have ao: ∀N,4003<N->(Dw 3000 (BJ own i i).length++[[AV.own 4003]]).all (AA N)=true:=by
      intro N hN;rw[QM,Xf _ _ _ (by omega)];simp[AA,AV.bel];omega
     simp(disch:=omega)only[ZZ,simprocAttr,Ab,groupsBy_.fv,sub,AP,LL,Bp,JU,Ie,Ar];refine⟨?_,by simp[Ie],by simp[Ie],LK Q ?_⟩
     .intro row Q;obtain rfl:=BS.1 Q;rfl
     simp(disch:=omega)only[ZZ,simprocAttr,Ab,groupsBy_.fv,sub,AP,LL,Bp,JU,Ie,Ar,ac];refine⟨ao _ (by omega),⟨(i+1,M++[((i:Int),((BJ own i i).length:Int))]),by simp only;omega,by simp only;exact Z⟩,[(2100,some 4001),(3000+(BJ own i i).length,some 4003)],by simp only;omega,?_⟩;simp only[e1];obtain⟨G,hG⟩: ∃G,G=BJ own i i:=⟨_,rfl⟩;simp only[<-hG] at an⊢;rw[AG (by omega) (by omega)];have pn: ∀m,m≠2100->m≠3000+G.length->pm [(2100,some 4001),(3000+G.length,some 4003)] m=some m:=by intro m hm ah;simp only[pm];rw[Af (FP hm),Af (FP ah)]
     have hh: ∀(e1 Z e3 e4 e5 e6:Am) (m:Nat),hget ((4001,e1)::(4003,Z)::(4002,e3)::(4000,e4)::(2001,e5)::(2,e6)::AW (AW (AW (ET 1000 L k++Fo 3000 G) [2001]) [2100]) [4001]) m=if m=4001 then some e1 else if m=4003 then some Z else if m=4002 then some e3 else if m=4000 then some e4 else if m=2001 then some e5 else if m=2 then some e6 else if m=2100 then none else hget (ET 1000 L k++Fo 3000 G) m:=by
      intro e1 Z e3 e4 e5 e6 m;simp only[hget,Xj,bA,gR,OJ,OH,ZeL];by_cases h1:m=4001
      .subst h1;simp
      by_cases h2:m=4003
      .subst h2;simp
      by_cases h3:m=4002
      .subst h3;simp
      by_cases h4:m=4000
      .subst h4;simp
      by_cases h5:m=2001
      .subst h5;simp
      by_cases h6:m=2
      .subst h6;simp
      simp only[Af h1,Af h2,Af h3,Af h4,Af h5,Af h6,Af (FP h1),Af (FP h2),Af (FP h3),Af (FP h4),Af (FP h5),Af (FP h6)]
     have aa:(G++[[(i:Int)]]).length=G.length+1:=by simp
     refine Qxg (O:=4001) (T:=λq=>if q<G.length then 3000+q else 4003) (by omega) (by rw[aa];omega) ⟨by omega,by omega,trivial⟩ (pn _ (by omega) (by omega)) (pn _ (by omega) (by omega)) (λj hj=>pn _ (by omega) (by omega)) (by simp[pm]) (λq hq=> ?_) rfl rfl rfl rfl rfl ?_ ?_ (λj hj=> ?_) (.inr ?_) (λq hq=> ?_) (λq q' hq=> ?_) (λq hq=> ?_) (by omega)
     .rw[aa] at hq;by_cases h:q<G.length
      .rw[pn _ (by omega) (by omega),Ai h]
      .obtain rfl:q=G.length:=by omega
       rw[Af h];simp only[pm];rw[Af (by omega),Ai trivial]
     .rw[hh,<-a9,<-NO _ _ _ hn];rfl
     .rw[hh];rfl
     .rw[hh,Af (by omega),Af (by omega),Af (by omega),Af (by omega),Af (by omega),Af (by omega),Af (by omega)];exact zY _ _ _ _ hj
     .rw[hh,Ai rfl,Ql0,aa]
     .rw[aa] at hq;rw[hh];by_cases h:q<G.length
      .rw[Ai h,Af (by omega),Af (by omega),Af (by omega),Af (by omega),Af (by omega),Af (by omega),Af (by omega),Io h];exact Qne _ _ _ _ (by omega) h
      .obtain rfl:q=G.length:=by omega
       rw[Af h,Af (by omega),Ai rfl,Kc (AU _),Ke];rfl
     .rw[aa] at hq;intro au he;rw[aa] at au;by_cases h:q<G.length<;>by_cases h2:q'<G.length<;>simp only[h,h2,BD,CO] at he⊢ <;>omega
     .by_cases h:q<G.length<;>simp only[h,BD,CO]<;>omega
   .have ad:i=k:=by omega
    subst ad;rw[VT,Bq,<-hown];rw[Pf (m:=7) (G:=BJ own i i)]
    .simp(disch:=omega)only[ZZ,simprocAttr,Ab,groupsBy_.fv]
    .intro q hq;have h9:=Qne i L (BJ own i i) q (by omega) hq;simp (disch:=omega) only[hget,Ar,Bk,h9]
def Hn(nm:List Int):List Ag->List Ag
 |[]=>[]
 |b::r=>if Ca nm b.A=Ca nm b.B then Hn nm r else ⟨Ca nm b.A,Ca nm b.B,b.Strength⟩::Hn nm r
def Qvj(nm:List Int): ∀(a b:List Ag),Hn nm (a++b)=Hn nm a++Hn nm b
 |[],b=>rfl
 |x::r,b=>by simp only[BO,Hn,Qvj nm r b];split<;>rfl
def Qpl(nm:List Int): ∀(a:List Ag),(Hn nm a).length<=a.length
 |[]=>AU _
 |x::r=>by have:=Qpl nm r;simp only[Hn];split<;>simp only[Dx]<;>omega
def Qab6(nm:List Int){bs:List Ag}{k:Nat}{b:Ag}(h:bs[k]? =some b):Hn nm (bs.take (k+1))=Hn nm (bs.take k)++if Ca nm b.A=Ca nm b.B then [] else [⟨Ca nm b.A,Ca nm b.B,b.Strength⟩]:=by
 rw[Jq,h];simp only[ZdP,Qvj,Hn]
def D5(n:Int)(bs:List Ag)(t:Int):Int×List Ag:=((O1 n bs t).length,Hn (RA n.toNat (O1 n bs t)) bs)
def dlC.H0_dom(a:List Ag×Int)(j:Nat):Aj (dlC.H0 a) j=true↔j<1:=by
 simp only[Aj,dlC.H0,hget];by_cases h0:j=0
 .subst h0;simp
 .have z:(0==j)=false:=by simp;omega
  simp[z];omega
def contr.fv(a:Int×(List Ag)×Int):Int×(List Ag):=(D5) (a.1) (a.2.1) (a.2.2)
def contr.row:AF:=vK (b3 qI (qS Ag.d_le Ag.c_n) qI) (r2 rI (rS Ag.d_le Ag.c_n)) (λa=>0<=a.1/\a.1<=512/\LG a.1 a.2.1/\a.2.1.length<=1000000) contr.fv
def contr.q:=Bd (R:=contr.row) rfl
def OC:=J @contr.fv.eq_1 (J @groupsBy_.q @groupsBy_.fv.eq_1)
def contr.ok:AL 137 contr.row:=by
 refine vw (tC clobC.ok (tC dlC.ok (tC groupsBy_.ok tN))) Tryz.func137 ?_;intro a ad;simp only[Tryz.f137,Option.getD];simp only[ZZ,simprocAttr,Ab,OC];obtain⟨h0,h1,Q,O⟩:=ad;obtain⟨n,hn⟩: ∃n:Nat,a.1=n:=⟨a.1.toNat,by omega⟩;obtain⟨bs,hbsd⟩: ∃bs,bs=a.2.1:=⟨_,rfl⟩;obtain⟨t,ht⟩: ∃t,t=a.2.2:=⟨_,rfl⟩;simp only[hn,<-hbsd,<-ht] at h0 h1 Q O⊢;refine AD.os bs [] O (λj=>by simp[Aj,hget]) rfl rfl ?_ ?_
 .simp only[ZZ,simprocAttr,Ab,OC,clobC.ca,Db]
 simp only[ZZ,simprocAttr,Ab,OC,clobC.H1,sub];left;refine AD.os (bs,t) [2] O (λj=>dlC.H0_dom _ j) rfl rfl ?_ ?_
 .simp only[ZZ,simprocAttr,Ab,OC,dlC.ca,dlC.H0,BD,EK]
 simp only[ZZ,simprocAttr,Ab,OC,dlC.H1,sub];have Z:Ta ((n:Int),Hf t bs):=⟨by simp only;omega,by simp only;omega,λb hb=>Q b (mY.1 hb).1,by have:=Qln t bs;simp only;omega⟩;refine⟨Z,by omega,?_⟩;obtain⟨z,hgs⟩: ∃z,z=VT (n:Int) (Hf t bs):=⟨_,rfl⟩;have ah: ∀r∈z,∀v∈r,0<=v/\v<n:=by rw[hgs];exact Qps n _
 simp only[<-hgs];intro ao;refine Ba.old ⟨{i:Nat//i<=z.length},λi=>⟨[(27,.im (.int .i64 i.1)),(26,.im (.int .i64 z.length)),(25,.im (.sl false 1 (z.map CZ))),(9,.own 1022),(8,.im (.sl false 1 (z.map CZ))),(1,.im (.sl false 3 (bs.map Ag.c)))],[(1022,(true,.arr 2 1 ((KG z (List.replicate n 0) i.1).map Ak)))],1023⟩,λi=>z.length - i.1,λi=>⟨by simp[ZG],by simp⟩,⟨⟨0,by simp⟩,?_⟩,λi=> ?_⟩
 .simp only[ZZ,simprocAttr,Ab,OC,sub,KG,tR]
 obtain⟨i,aq⟩:=i;simp only[ZZ,simprocAttr,Ab,OC,sub,AP];refine⟨λhi=>⟨hi,λr hr=> ?_⟩,λhi=> ?_⟩
 .have ak:=ah r (Bg hr);obtain⟨l,hl⟩: ∃l,l=KG z (List.replicate n 0) i:=⟨_,rfl⟩;have au:l.length=n:=by rw[hl,sI,OE]
  simp only[<-hl];intro av;refine Ba.old ⟨{k:Nat//k<=r.length},λk=>⟨[(34,.im (.int .i64 k.1)),(33,.im (.int .i64 r.length)),(32,.im (.sl false 1 (r.map Ak))),(10,.im (.int .i64 i)),(27,.im (.int .i64 i)),(26,.im (.int .i64 z.length)),(25,.im (.sl false 1 (z.map CZ))),(9,.own 1022),(8,.im (.sl false 1 (z.map CZ))),(1,.im (.sl false 3 (bs.map Ag.c)))],[(1022,(true,.arr 2 1 ((QB i r l k.1).map Ak)))],1023⟩,λk=>r.length - k.1,λk=>⟨by simp[ZG],by simp⟩,⟨⟨0,by simp⟩,?_⟩,λk=> ?_⟩
  .simp only[ZZ,simprocAttr,Ab,OC,sub,QB]
  obtain⟨k,aj⟩:=k;have ac:=zH (i:Int) r l k;simp only[ZZ,simprocAttr,Ab,OC,sub,AP,hr,ac,eS];refine⟨λhk=>⟨hk,λv hv=> ?_⟩,λhk=> ?_⟩
  .obtain⟨v1,v2⟩:=ak v (Bg hv);refine⟨v1,by omega,by omega,λ_ _=>⟨⟨k+1,by omega⟩,by simp only;omega,by rw[AG (by omega) (by omega)];simp only;omega,?_⟩⟩;simp only[QB,hv,AX]
  .have:k=r.length:=by omega
   refine⟨⟨i+1,by omega⟩,by simp only;omega,by rw[AG (by omega) (by omega)];simp only;omega,?_⟩;simp only[KG,hr,AX,<-hl,this]
 .have ai:i=z.length:=by omega
  subst ai;obtain⟨nm,hnm⟩: ∃nm,nm=KG z (List.replicate n 0) z.length:=⟨_,rfl⟩;have ac:nm.length=n:=by rw[hnm,sI,OE]
  simp only[<-hnm];intro an;refine Ba.ren ⟨{k:Nat//k<=bs.length},λk=>⟨[(46,.im (.int .i64 k.1)),(45,.im (.int .i64 bs.length)),(44,.im (.sl false 3 (bs.map Ag.c))),(14,.own 1024),(9,.own 1022),(8,.im (.sl false 1 (z.map CZ)))],[(1024,(true,.arr 177 3 ((Hn nm (bs.take k.1)).map Ag.c))),(1022,(true,.arr 2 1 (nm.map Ak)))],1025⟩,λk=>bs.length - k.1,λk=>⟨by simp[ZG],by simp⟩,⟨⟨0,by simp⟩,[(1024,some 1023)],?_⟩,λk=> ?_⟩
  .simp only[Av];simp only[ZZ,simprocAttr,Ab,OC,AS,AR];rfl
  obtain⟨k,aj⟩:=k;have am:=Qpl nm (bs.take k);rw[Cu] at am;simp only[ZZ,simprocAttr,Ab,OC,sub,AP,WJ,W9,WH,Bm,D.one,Et,QL,OK];refine⟨λhk=>⟨hk,λb hb=> ?_⟩,λhk=> ?_⟩
  .obtain⟨b1,b2,b3,b4⟩:=Q b (Bg hb);refine⟨b1,by omega,by omega,λx hx=>⟨b3,by omega,by omega,λy hy=> ?_⟩⟩;have e1:Ca nm b.A=x:=by simp only[Ca,hx,AX]
   have e2:Ca nm b.B=y:=by simp only[Ca,hy,AX]
   have aa:=Qab6 nm hb;rw[e1,e2] at aa;refine⟨λab=>⟨b1,by omega,by omega,λx' af=>⟨b3,by omega,by omega,λy' ag=>⟨by omega,⟨k+1,by omega⟩,[(1024,some 1027)],by simp only;omega,?_⟩⟩⟩,λab=>⟨⟨k+1,by omega⟩,[],by simp only;omega,?_⟩⟩
   .rw[hx] at af;rw[hy] at ag;obtain rfl:=AJ af;obtain rfl:=AJ ag;simp only[Av];simp only[ZZ,simprocAttr,Ab,OC,AS,AR,aa];rw[AG (by omega) (by omega),Af ab];simp[Ag.c]
   .simp only[Av];simp only[ZZ,simprocAttr,Ab,OC,AS,AR,aa];rw[AG (by omega) (by omega),Ai (GK.1 ab),DJ];simp
  .have:k=bs.length:=by omega
   subst this;rw[IM];intro _;simp only[D5,O1,RA,Bq,<-hgs,<-hnm]
end Go.Ae
