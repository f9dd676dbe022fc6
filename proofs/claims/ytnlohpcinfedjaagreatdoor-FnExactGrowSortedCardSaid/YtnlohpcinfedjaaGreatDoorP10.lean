/- Lemmas. Conditions: none. -/
import Derived.Test.YtnlohpcinfedjaaGreatDoorP09
set_option linter.all false
set_option maxHeartbeats 8000000
set_option maxRecDepth 100000
namespace Go.Ae
open Go.Proofs
def Qyw(x:Bk)(u v:Int):Int:=(x.Room[u.toNat]?.getD [])[v.toNat]?.getD 0
def Qzr(x:Bk)(u v:Int):Int:=(x.Flow[u.toNat]?.getD [])[v.toNat]?.getD 0
def Ws(x:Bk)(u v:Int):Bool:=decide (Qzr x u v<Qyw x u v)
structure KH(x:Bk)(n:Nat):Prop where
 r:x.Room.length=n
 f:x.Flow.length=n
 rr: ∀l∈x.Room,l.length=n
 ff: ∀l∈x.Flow,l.length=n
def H5(x:Bk)(u:Int)(s:List Int×List Int)(v:Nat):List Int×List Int:=
 if s.1[v]?.getD 0<0/\Ws x u v=true then (s.1.set v u,s.2++[(v:Int)]) else s
def CZ(x:Bk)(u:Int)(s:List Int×List Int):Nat->List Int×List Int
 |0=>s
 |k+1=>H5 x u (CZ x u s k) k
def Dt(x:Bk)(n:Nat)(p:Int):Nat->List Int×List Int
 |0=>((List.replicate n (-1)).set p.toNat p,[p])
 |k+1=>match (Dt x n p k).2[k]? with
  |none=>Dt x n p k
  |some u=>CZ x u (Dt x n p k) n
structure GN(x:Bk)(n:Nat)(p:Int)(s:List Int×List Int):Prop where
 len:s.1.length=n
 q: ∀v∈s.2,0<=v/\v<n
 nd:s.2.Nodup
 hd:s.2[0]? =some p
 pp:s.1[p.toNat]? =some p
 mem: ∀(v:Nat) (y:Int),s.1[v]? =some y->(0<=y↔(v:Int)∈s.2)
 prev: ∀(i:Nat) (v:Int),s.2[i]? =some v->0<i-> ∃(j:Nat) (u:Int),j<i/\s.2[j]? =some u/\s.1[v.toNat]? =some u/\Ws x u v=true
def Qtz: ∀(n:Nat) (l:List Int),l.Nodup->(∀v∈l,0<=v/\v<n)->l.length<=n
 |0,[],_,_=>AU _
 |0,x::r,_,h=>by have:=h x (BS ..);omega
 |n+1,l,h,G=>by
  have Q:=Qtz n (l.erase (n:Int)) (h.erase _) (λv O=>by
   have z:=(h.mem_erase_iff).1 O;have Z:=G v z.2
   have:=z.1
   omega)
  have z:=List.length_erase (a:=(n:Int)) (l:=l);split at z<;>omega
def Qr3{x:Bk}{n:Nat}{p:Int}{s:List Int×List Int}(h:GN x n p s):s.2.length<=n:=Qtz n s.2 h.nd h.q
def lL{x:Bk}{n:Nat}{p:Int}{s:List Int×List Int}(h:GN x n p s){u:Int}{k v:Nat}(hu:s.2[k]? =some u)(hv:v<n):GN x n p (H5 x u s v)/\ ∃r,(H5 x u s v).2=s.2++r:=by
 simp only[H5];split
 .rename_i hc;obtain⟨ac,ad⟩:=hc;have O:v<s.1.length:=by rw[h.len];exact hv
  obtain⟨y,hy⟩: ∃y,s.1[v]? =some y:=⟨_,BB O⟩;rw[hy,AW] at ac;have Q:(v:Int)∉s.2:=λhm=>by have:=(h.mem v y hy).2 hm;omega
  have aa:p∈s.2:=Bh h.hd;have ah:p.toNat≠v:=by
   intro he
   have:=h.q p aa
   exact Q (by rw[show (v:Int)=p by omega];exact aa)
  have ai:=h.q u (Bh hu);refine⟨⟨by simpa using h.len,λw G=> ?_,?_,?_,?_,λw z hz=> ?_,λi w G hi=> ?_⟩,_,rfl⟩
  .rcases B2.1 G with G|G
   .exact h.q w G
   .rw[BL] at G;subst G;omega
  .rw[Jh];refine⟨h.nd,by simp,λa ha b hb=> ?_⟩;rw[BL] at hb;subst hb;exact λhe=>Q (he▸ha)
  .have:=h.hd
   rw[F4 (CL.1 this).1];exact this
  .simp only;rw[Ep (Ft ah)];exact h.pp
  .simp only at hz⊢;rw[B2,BL];by_cases ab:v=w
   .subst ab;rw[Ey O] at hz;obtain rfl:=AC hz;exact⟨λ_=> .inr rfl,λ_=>ai.1⟩
   .rw[Ep ab] at hz;rw[h.mem w z hz];constructor
    .exact .inl
    .rintro (h1|h1)
     .exact h1
     .omega
  .simp only at G⊢;by_cases ag:i<s.2.length
   .rw[F4 ag] at G;obtain⟨j,z,h1,h2,h3,h4⟩:=h.prev i w G hi;refine⟨j,z,h1,by rw[F4 (by omega)];exact h2,?_,h4⟩;have aj:=h.q w (Bh G);rw[Ep]
    .exact h3
    .intro he;exact Q (by rw[show (v:Int)=w by omega];exact Bh G)
   .have af:i=s.2.length:=by
     have:=(CL.1 G).1
     simp only[Bz,CR,DQ] at this;omega
    subst af;rw[G6 (AU _),Ii,Hn] at G;obtain rfl:=AC G;have Z:=(CL.1 hu).1;refine⟨k,u,Z,by rw[F4 Z];exact hu,?_,ad⟩;rw[B5,Ey O]
 .exact⟨h,[],by simp⟩
def Qoj(x:Bk)(u:Int)(s:List Int×List Int)(v w:Nat)(y:Int)(h:s.1[w]? =some y)(h0:0<=y):(H5 x u s v).1[w]? =some y:=by
 simp only[H5];split
 .rename_i z;rw[Ep]
  .exact h
  .intro G;subst G
   have:=z.1
   rw[h,AW] at this;omega
 .exact h
def Qvl(x:Bk)(u:Int)(s:List Int×List Int)(w:Nat)(y:Int)(h:s.1[w]? =some y)(h0:0<=y): ∀k,(CZ x u s k).1[w]? =some y
 |0=>h
 |k+1=>Qoj x u _ k w y (Qvl x u s w y h h0 k) h0
def vW{x:Bk}{n:Nat}{p:Int}{s:List Int×List Int}(h:GN x n p s){u:Int}{i:Nat}(G:s.2[i]? =some u): ∀k,k<=n->GN x n p (CZ x u s k)/\ ∃r,(CZ x u s k).2=s.2++r
 |0,_=>⟨h,[],by simp[CZ]⟩
 |k+1,hk=>by
  obtain⟨Z,r,Q⟩:=vW h G k (by omega);have O:=(CL.1 G).1;obtain⟨h2,r',z⟩:=lL Z (u:=u) (k:=i) (v:=k) (by rw[Q,F4 O];exact G) (by omega);exact⟨h2,r++r',by rw[CZ,z,Q,Ej]⟩
def Qz6{x:Bk}{n:Nat}{p:Int}{s:List Int×List Int}(h:GN x n p s){u:Int}{i:Nat}(G:s.2[i]? =some u): ∀k,k<=n-> ∀v,v<k->Ws x u v=true-> ∃y,(CZ x u s k).1[v]? =some y/\0<=y
 |0,_,v,hv,_=>by omega
 |k+1,hk,v,hv,hf=>by
  by_cases Q:v<k
  .obtain⟨y,h1,Z⟩:=Qz6 h G k (by omega) v Q hf;exact⟨y,Qoj x u _ k v y h1 Z,Z⟩
  .have:v=k:=by omega
   subst this;have hP:=(vW h G v (by omega)).1;obtain⟨y,hy⟩: ∃y,(CZ x u s v).1[v]? =some y:=⟨_,BB (by rw[hP.len];omega)⟩;by_cases z:0<=y
   .exact⟨y,Qoj x u _ v v y hy z,z⟩
   .have O:=h.q u (Bh G);refine⟨u,?_,O.1⟩;rw[CZ,H5,Al ⟨by rw[hy,AW];omega,hf⟩];exact Ey (by rw[hP.len];omega)
def R9{x:Bk}{n:Nat}{p:Int}(h0:0<=p)(Q:p<n): ∀k,GN x n p (Dt x n p k)
 |0=>by
  have hq:p.toNat<(List.replicate n (-1:Int)).length:=by rw[OA];omega
  refine⟨by simp[Dt],λv z=> ?_,by simp[Dt],rfl,Ey hq,λv y G=> ?_,λi v z hi=> ?_⟩
  .simp only[Dt,BL] at z;subst z;omega
  .simp only[Dt,BL] at G⊢;by_cases O:p.toNat=v
   .subst O;rw[Ey hq] at G;obtain rfl:=AC G;omega
   .rw[Ep O] at G
    have:=QH (Bh G)
    omega
  .simp only[Dt] at z;cases i with
   |zero=>omega
   |succ i=>simp at z
 |k+1=>by
  have ih:=R9 (x:=x) h0 Q k;simp only[Dt];split
  .exact ih
  .rename_i u Z;exact (vW ih Z n (AU _)).1
def oV(x:Bk)(n:Nat)(p:Int)(w:Nat)(y:Int)(h0:0<=y)(k:Nat)(h:(Dt x n p k).1[w]? =some y): ∀m,(Dt x n p (k+m)).1[w]? =some y
 |0=>h
 |m+1=>by
  have ih:=oV x n p w y h0 k h m;rw[show k+(m+1)=k+m+1 by omega,Dt];split
  .exact ih
  .exact Qvl x _ _ w y ih h0 n
def Wa(x:Bk){n:Nat}{p:Int}(h0:0<=p)(z:p<n)(k:Nat): ∃r,(Dt x n p (k+1)).2=(Dt x n p k).2++r:=by
 rw[Dt];split
 .exact⟨[],by simp⟩
 .rename_i u G;exact (vW (R9 (x:=x) h0 z k) G n (AU _)).2
def NH(x:Bk)(n:Nat)(p:Int): ∀(m k:Nat),(Dt x n p k).2.length<=k->Dt x n p (k+m)=Dt x n p k
 |0,k,_=>rfl
 |m+1,k,h=>by
  have z:Dt x n p (k+1)=Dt x n p k:=by
   rw[Dt,HK h]
  have G:=NH x n p m (k+1) (by rw[z];omega);rw[show k+(m+1)=k+1+m by omega,G,z]
def Qzh(x:Bk){n:Nat}{p:Int}(h0:0<=p)(G:p<n): ∀(k:Nat) (j:Nat) (u:Int),j<k->(Dt x n p k).2[j]? =some u-> ∀v,v<n->Ws x u v=true-> ∃y,(Dt x n p k).1[v]? =some y/\0<=y
 |0,j,_,hj,_,_,_,_=>by omega
 |k+1,j,u,hj,z,v,Z,hf=>by
  obtain⟨r,hr⟩:=Wa x h0 G k;by_cases Q:j<(Dt x n p k).2.length
  .rw[hr,F4 Q] at z;by_cases O:j<k
   .obtain⟨y,g1,g2⟩:=Qzh x h0 G k j u O z v Z hf;exact⟨y,oV x n p v y g2 k g1 1,g2⟩
   .have:j=k:=by omega
    subst this;obtain⟨y,g1,g2⟩:=Qz6 (R9 (x:=x) h0 G j) z n (AU _) v Z hf;exact⟨y,by rw[Dt,z];exact g1,g2⟩
  .have e:Dt x n p (k+1)=Dt x n p k:=by
    rw[Dt,HK (by omega)]
   rw[e] at z
   have:=(CL.1 z).1
   omega
def B9(x:Bk)(n:Nat)(p:Int):List Int×List Int:=Dt x n p n
def Qww(x:Bk){n:Nat}{p:Int}(h0:0<=p)(G:p<n){u v:Nat}{y:Int}(hu:(B9 x n p).1[u]? =some y)(hy:0<=y)(hv:v<n)(hf:Ws x u v=true): ∃z,(B9 x n p).1[v]? =some z/\0<=z:=by
 have O:=R9 (x:=x) h0 G n;have hm:=(O.mem u y hu).1 hy;obtain⟨j,Q⟩:=W1.1 hm;have hl:=Qr3 O;have Z:=(CL.1 Q).1;exact Qzh x h0 G n j u (by omega) Q v hv hf
def DO(z:List Int)(q:Int):Nat->Int
 |0=>q
 |k+1=>z[(DO z q k).toNat]?.getD 0
def vH(z:List Int)(p q:Int)(n:Nat):Nat:=((List.range (n+1)).find? λk=>decide (DO z q k=p)).getD 0
def IA(z:List Int)(q:Int)(k:Nat):List Int:=(List.range (k+1)).map (DO z q)
def CE(x:Bk)(n:Nat)(p q:Int):List Int:=
 if (B9 x n p).1[q.toNat]?.getD 0<0 then [] else (IA (B9 x n p).1 q (vH (B9 x n p).1 p q n)).reverse
def tZ{x:Bk}{n:Nat}{p:Int}{s:List Int×List Int}(h:GN x n p s){q:Int}{i:Nat}(hq:s.2[i]? =some q): ∀k,(∀j,j<k->DO s.1 q j≠p)-> ∃j,j+k<=i/\s.2[j]? =some (DO s.1 q k)
 |0,_=>⟨i,by omega,hq⟩
 |k+1,z=>by
  obtain⟨j,h1,G⟩:=tZ h hq k (λj hj=>z j (by omega));have O:0<j:=by
   rcases nX j with h0|h0
   .subst h0;rw[h.hd] at G;exact absurd (AC G).symm (z k (by omega))
   .exact h0
  obtain⟨j',u,g1,g2,Q,Z⟩:=h.prev j _ G O;exact⟨j',by omega,by rw[DO,Q,AW];exact g2⟩
def OL{x:Bk}{n:Nat}{p:Int}{s:List Int×List Int}(h:GN x n p s){q:Int}{i:Nat}(hq:s.2[i]? =some q){k:Nat}(z: ∀j,j<k+1->DO s.1 q j≠p):Ws x (DO s.1 q (k+1)) (DO s.1 q k)=true/\ ∃y,s.1[(DO s.1 q k).toNat]? =some y/\DO s.1 q (k+1)=y:=by
 obtain⟨j,h1,G⟩:=tZ h hq k (λj hj=>z j (by omega));have O:0<j:=by
  rcases nX j with h0|h0
  .subst h0;rw[h.hd] at G;exact absurd (AC G).symm (z k (by omega))
  .exact h0
 obtain⟨j',u,g1,g2,Q,Z⟩:=h.prev j _ G O;have e:DO s.1 q (k+1)=u:=by rw[DO,Q,AW]
 exact⟨by rw[e];exact Z,u,Q,e⟩
def Qq3{x:Bk}{n:Nat}{p:Int}{s:List Int×List Int}(h:GN x n p s){q:Int}{i:Nat}(hq:s.2[i]? =some q): ∃d,d<=i/\DO s.1 q d=p/\ ∀j,j<d->DO s.1 q j≠p:=by
 have Q: ∀m,(∃d,d<=m/\DO s.1 q d=p/\ ∀j,j<d->DO s.1 q j≠p)\/ ∀j,j<=m->DO s.1 q j≠p:=by
  intro m;induction m with
  |zero=>
   by_cases h0:DO s.1 q 0=p
   .exact .inl ⟨0,AU _,h0,λj G=>by omega⟩
   .exact .inr λj G=>by rw[show j=0 by omega];exact h0
  |succ m ih=>
   rcases ih with ⟨d,z,Z,h3⟩|ih
   .exact .inl ⟨d,by omega,Z,h3⟩
   .by_cases h0:DO s.1 q (m+1)=p
    .exact .inl ⟨m+1,AU _,h0,λj G=>ih j (by omega)⟩
    .refine .inr λj G=> ?_
     by_cases O:j<=m
     .exact ih j O
     .rw[show j=m+1 by omega];exact h0
 rcases Q i with z|z
 .exact z
 .obtain⟨j,g1,g2⟩:=tZ h hq (i+1) (λj G=>z j (by omega));omega
def Qqr{z:List Int}{p q:Int}{n d:Nat}(hd:d<=n)(G:DO z q d=p)(O: ∀j,j<d->DO z q j≠p):vH z p q n=d:=by
 have: ∀(m s:Nat),s<=d->d<s+m->((List.range' s m).find? λk=>decide (DO z q k=p))=some d:=by
  intro m;induction m with
  |zero=>intro s Q Z;omega
  |succ m ih=>
   intro s Q Z;rw[List.range'_succ,Zew];by_cases hs:s=d
   .subst hs;simp[G]
   .rw[show decide (DO z q s=p)=false from Jj (O s (by omega))];exact ih (s+1) (by omega) (by omega)
 rw[vH,Zeq,this _ 0 (by omega) (by omega),AW]
def AI(f:Nat->Int):Nat->Int
 |0=>0
 |n+1=>AI f n+f n
def FN{f g:Nat->Int}: ∀{n:Nat},(∀i,i<n->f i=g i)->AI f n=AI g n
 |0,_=>rfl
 |n+1,h=>by simp only[AI];rw[FN (λi z=>h i (by omega)),h n (by omega)]
def Ry(f g:Nat->Int): ∀n,AI (λi=>f i+g i) n=AI f n+AI g n
 |0=>rfl
 |n+1=>by simp only[AI];rw[Ry f g n];omega
def tU(f:Nat->Int): ∀n,AI (λi=> - f i) n= - AI f n
 |0=>rfl
 |n+1=>by simp only[AI];rw[tU f n];omega
def Rw: ∀n,AI (λ_=>0) n=0
 |0=>rfl
 |n+1=>by simp only[AI];rw[Rw n];rfl
def Qxf{f g:Nat->Int}: ∀{n:Nat},(∀i,i<n->f i<=g i)->AI f n<=AI g n
 |0,_=>RV _
 |n+1,h=>by
  have z:=Qxf (f:=f) (g:=g) (n:=n) (λi O=>h i (by omega));have G:=h n (by omega);simp only[AI];omega
def Qt3(f:Nat->Nat->Int)(m:Nat): ∀n,AI (λi=>AI (λj=>f i j) m) n=AI (λj=>AI (λi=>f i j) n) m
 |0=>by simp only[AI];exact (Rw m).symm
 |n+1=>by simp only[AI];rw[Qt3 f m n,<-Ry]
def Xw(k:Nat)(c:Int): ∀n,AI (λi=>if i=k then c else 0) n=if k<n then c else 0
 |0=>rfl
 |n+1=>by
  simp only[AI];rw[Xw k c n];by_cases z:n=k
  .subst z;rw[Ag (by omega),Al rfl,Al (by omega)];omega
  .rw[Ag z];by_cases G:k<n
   .rw[Al G,Al (by omega)];omega
   .rw[Ag G,Ag (by omega)];omega
def Qn(a:Nat->Nat->Int)(n:Nat)(h: ∀u w,u<n->w<n->a u w= - a w u):AI (λu=>AI (λw=>a u w) n) n=0:=by
 have O:AI (λu=>AI (λw=>a u w) n) n= - AI (λu=>AI (λw=>a u w) n) n:=by
  rw[<-tU]
  conv=>lhs;rw[Qt3]
  refine FN λu z=> ?_
  rw[<-tU];exact FN λw G=>h w u G z
 omega
structure R3(rm fl:Nat->Nat->Int)(n p q:Nat)(v:Int):Prop where
 anti: ∀u w,u<n->w<n->fl u w= - fl w u
 cap: ∀u w,u<n->w<n->fl u w<=rm u w
 cons: ∀u,u<n->u≠p->u≠q->AI (fl u) n=0
 val:AI (fl p) n=v
def EP(rm:Nat->Nat->Int)(n:Nat)(S:Nat->Bool):Int:=AI (λu=>AI (λw=>if S u=true/\S w=false then rm u w else 0) n) n
def oZ{rm fl:Nat->Nat->Int}{n p q:Nat}{v:Int}(h:R3 rm fl n p q v)(hp:p<n){S:Nat->Bool}(Z:S p=true)(hT:S q=false):EP fl n S=v:=by
 have h1:AI (λu=>AI (λw=>if S u=true then fl u w else 0) n) n=v:=by
  have:AI (λu=>AI (λw=>if S u=true then fl u w else 0) n) n=AI (λu=>if u=p then v else 0) n:=by
   refine FN λu O=> ?_
   by_cases z:u=p
   .subst z;rw[Al rfl,<-h.val];exact FN λw _=>Al Z
   .rw[Ag z];cases hSu:S u with
    |false=>exact (FN λw _=>Ag (by simp)).trans (Rw n)
    |true=>
     have Q:u≠q:=λhe=>by rw[he,hT] at hSu;cases hSu
     exact (FN λw _=>Al rfl).trans (h.cons u O z Q)
  rw[this,Xw,Al hp]
 have h2:AI (λu=>AI (λw=>if S u=true/\S w=true then fl u w else 0) n) n=0:=by
  refine Qn _ n λu w O hw=> ?_
  by_cases G:S u=true/\S w=true
  .rw[Al G,Al ⟨G.2,G.1⟩];exact h.anti u w O hw
  .rw[Ag G,Ag (λh=>G ⟨h.2,h.1⟩)];rfl
 have h3:AI (λu=>AI (λw=>if S u=true then fl u w else 0) n) n=AI (λu=>AI (λw=>if S u=true/\S w=true then fl u w else 0) n) n+EP fl n S:=by
  rw[EP,<-Ry];refine FN λu _=> ?_
  rw[<-Ry];refine FN λw _=> ?_
  cases S u<;>cases S w<;>simp
 omega
def Qw8{rm fl:Nat->Nat->Int}{n p q:Nat}{v:Int}(h:R3 rm fl n p q v)(hp:p<n){S:Nat->Bool}(z:S p=true)(G:S q=false):v<=EP rm n S:=by
 rw[<-oZ h hp z G];refine Qxf λu O=>Qxf λw Q=> ?_
 split
 .exact h.cap u w O Q
 .exact RV _
def Qxp{rm fl:Nat->Nat->Int}{n p q:Nat}{v:Int}(h:R3 rm fl n p q v)(hp:p<n){S:Nat->Bool}(Z:S p=true)(hT:S q=false)(z: ∀u w,u<n->w<n->S u=true->S w=false->rm u w<=fl u w):v=EP rm n S:=by
 rw[<-oZ h hp Z hT];refine FN λu O=>FN λw Q=> ?_
 split
 .rename_i G;have h1:=h.cap u w O Q;have h2:=z u w O Q G.1 G.2;omega
 .rfl
def HE(L:Nat->Nat)(a b j:Nat):Int:=if L j=a/\L (j+1)=b then 1 else 0
def sS(L:Nat->Nat)(a b:Nat): ∀i,0<=AI (HE L a b) i
 |0=>RV _
 |i+1=>by
  have:=sS L a b i
  simp only[AI,HE]
  split<;>omega
def Qr1{L:Nat->Nat}{m:Nat}(z: ∀i j,i<=m->j<=m->L i=L j->i=j)(a b:Nat): ∀i,i<=m->AI (HE L a b) i<=1/\(0<AI (HE L a b) i-> ∃j,j<i/\L j=a/\L (j+1)=b)
 |0,_=>⟨by simp[AI],λh=>by simp[AI] at h⟩
 |i+1,hi=>by
  obtain⟨h1,Z⟩:=Qr1 z a b i (by omega);have h0:=sS L a b i;simp only[AI];by_cases O:L i=a/\L (i+1)=b
  .have hz: ¬0<AI (HE L a b) i:=by
    intro G;obtain⟨j,hj,Q,_⟩:=Z G
    have:=z j i (by omega) (by omega) (Q.trans O.1.symm)
    omega
   simp only[HE] at hz h0⊢;rw[Al O];exact⟨by omega,λ_=>⟨i,by omega,O⟩⟩
  .have e:HE L a b i=0:=Ag O;rw[e];refine⟨by omega,λG=> ?_⟩;obtain⟨j,hj,Q⟩:=Z (by omega);exact⟨j,by omega,Q⟩
def pD{L:Nat->Nat}{n m:Nat}(z: ∀i,i<=m->L i<n)(a:Nat): ∀i,i<=m->AI (λb=>AI (HE L a b) i - AI (HE L b a) i) n=(if L 0=a then 1 else 0) - (if L i=a then 1 else 0)
 |0,_=>by simp only[AI,Int.sub_self];exact Rw n
 |i+1,Z=>by
  have ih:=pD z a i (by omega);have e:AI (λb=>AI (HE L a b) (i+1) - AI (HE L b a) (i+1)) n=AI (λb=>AI (HE L a b) i - AI (HE L b a) i) n+(AI (λb=>if b=L (i+1) then (if L i=a then 1 else 0) else 0) n+ - AI (λb=>if b=L i then (if L (i+1)=a then 1 else 0) else 0) n):=by
   rw[<-tU,<-Ry,<-Ry];refine FN λb _=> ?_
   simp only[AI,HE];by_cases c1:L i=a<;>by_cases G:L (i+1)=a<;>by_cases O:b=L i<;>by_cases Q:b=L (i+1)<;>simp[c1,G,O,Q,eq_comm]<;>omega
  rw[e,ih,Xw,Xw,Al (z _ Z),Al (z _ (by omega))];omega
def Pd{rm fl Q:Nat->Nat->Int}{n p q:Nat}{v:Int}(h:R3 rm fl n p q v){L:Nat->Nat}{m:Nat}(aa: ∀i j,i<=m->j<=m->L i=L j->i=j)(hr: ∀i,i<=m->L i<n)
 (h0:L 0=p)(hm:L m=q)(ac:p≠q)(hp:p<n)(Z: ∀i,i<m->fl (L i) (L (i+1))<rm (L i) (L (i+1)))
 (z: ∀a b,a<n->b<n->Q a b=fl a b+(AI (HE L a b) m - AI (HE L b a) m)):R3 rm Q n p q (v+1):=by
 have O: ∀a,a<n->AI (Q a) n=AI (fl a) n+((if L 0=a then 1 else 0) - (if L m=a then 1 else 0)):=by
  intro a ha;rw[<-pD hr a m (AU _),<-Ry];exact FN λb hb=>z a b ha hb
 refine⟨λu w G hw=> ?_,λu w G hw=> ?_,λu G h1 h2=> ?_,?_⟩
 .rw[z u w G hw,z w u hw G]
  have:=h.anti u w G hw
  omega
 .rw[z u w G hw];obtain⟨e1,e2⟩:=Qr1 aa u w m (AU _);have e3:=sS L w u m;have e4:=h.cap u w G hw;by_cases ab:0<AI (HE L u w) m
  .obtain⟨j,hj,g1,g2⟩:=e2 ab
   have:=Z j hj
   rw[g1,g2] at this;omega
  .omega
 .rw[O u G,h.cons u G h1 h2,h0,hm,Ag (Ft h1),Ag (Ft h2)];rfl
 .rw[O p hp,h.val,h0,hm,Al rfl,Ag (Ft ac)];omega
def LF(l:List (List Int))(u v:Int)(d:Int):List (List Int):=l.set u.toNat ((l[u.toNat]?.getD []).set v.toNat ((l[u.toNat]?.getD [])[v.toNat]?.getD 0+d))
def Hh(l:List (List Int))(a b:Nat):Int:=(l[a]?.getD [])[b]?.getD 0
def aN(l:List (List Int))(u v d:Int):(LF l u v d).length=l.length:=by simp[LF]
def aI{l:List (List Int)}{n:Nat}(h: ∀r∈l,r.length=n)(u v d:Int)(G:u.toNat<l.length): ∀r∈LF l u v d,r.length=n:=by
 intro r z;rcases bY z with z|z
 .exact h r z
 .subst z;rw[GX,BB G,AW];exact h _ (RS G)
def fJ{l:List (List Int)}{n:Nat}(Q:l.length=n)(h: ∀r∈l,r.length=n){u v:Nat}(d:Int)(Z:u<n)(hv:v<n)(a b:Nat):Hh (LF l u v d) a b=Hh l a b+if a=u/\b=v then d else 0:=by
 simp only[Hh,LF,B5];by_cases z:u=a
 .subst z;rw[Ey (by omega),AW];have O:(l[u]?.getD []).length=n:=by
   rw[BB (by omega),AW];exact h _ (RS (by omega))
  by_cases G:v=b
  .subst G;rw[Ey (by omega),AW,Al ⟨rfl,rfl⟩]
  .rw[Ep G,Ag (λh=>G h.2.symm)];omega
 .rw[Ep z,Ag (λh=>z h.1.symm)];omega
def NQ(x:Bk)(u v:Int):Bk:=⟨x.Room,LF (LF x.Flow u v 1) v u (-1)⟩
def HF(x:Bk)(L:List Int):Nat->Bk
 |0=>x
 |i+1=>NQ (HF x L i) (L[i]?.getD 0) (L[i+1]?.getD 0)
def Ql3(x:Bk)(L:List Int): ∀i,(HF x L i).Room=x.Room
 |0=>rfl
 |i+1=>Ql3 x L i
def Pc(x:Bk)(u v:Int):Qzr x u v=Hh x.Flow u.toNat v.toNat:=rfl
def PI(x:Bk)(u v:Int):Qyw x u v=Hh x.Room u.toNat v.toNat:=rfl
def UM{x:Bk}{n:Nat}(h:KH x n){u v:Int}(z:u.toNat<n)(G:v.toNat<n):KH (NQ x u v) n:=by
 refine⟨h.r,by simp only[NQ,aN];exact h.f,h.rr,?_⟩;exact aI (aI h.ff u v 1 (by rw[h.f];exact z)) v u (-1) (by rw[aN,h.f];exact G)
def Qm6{x:Bk}{n:Nat}(h:KH x n){L:List Int}(z: ∀y∈L,0<=y/\y<n): ∀i,i<L.length->KH (HF x L i) n
 |0,_=>h
 |i+1,G=>by
  have ih:=Qm6 h z i (by omega);refine UM ih ?_ ?_
  .rw[BB (by omega),AW]
   have:=z _ (RS (show i<L.length by omega))
   omega
  .rw[BB G,AW]
   have:=z _ (RS G)
   omega
def Lf(L:List Int)(i:Nat):Nat:=(L[i]?.getD 0).toNat
def Qso{x:Bk}{n:Nat}(h:KH x n){L:List Int}(G: ∀y∈L,0<=y/\y<n)(a b:Nat): ∀i,i<L.length->Hh (HF x L i).Flow a b=Hh x.Flow a b+(AI (HE (Lf L) a b) i - AI (HE (Lf L) b a) i)
 |0,_=>by simp[HF,AI]
 |i+1,hi=>by
  have ih:=Qso h G a b i (by omega);have z:=Qm6 h G i (by omega);obtain⟨u,hu⟩: ∃u,L[i]? =some u:=⟨_,BB (by omega)⟩;obtain⟨v,hv⟩: ∃v,L[i+1]? =some v:=⟨_,BB hi⟩;have aa:=G u (Bh hu);have ab:=G v (Bh hv);obtain⟨u',rfl⟩: ∃u':Nat,u=u':=⟨u.toNat,by omega⟩;obtain⟨v',rfl⟩: ∃v':Nat,v=v':=⟨v.toNat,by omega⟩;simp only[HF,NQ,hu,hv,AW];rw[fJ (n:=n) (by rw[aN];exact z.f) (aI z.ff _ _ _ (by rw[z.f];simp;omega)) _ (by omega) (by omega),
   fJ z.f z.ff _ (by omega) (by omega),ih]
  have e1:Lf L i=u':=by simp[Lf,hu]
  have e2:Lf L (i+1)=v':=by simp[Lf,hv]
  simp only[AI,HE,e1,e2];by_cases c1:a=u'<;>by_cases O:b=v'<;>by_cases Q:a=v'<;>by_cases Z:b=u'<;>simp[c1,O,Q,Z,eq_comm]<;>omega
structure TC(x:Bk)(n:Nat)(p q:Int)(L:List Int):Prop where
 pos:0<L.length
 inb: ∀y∈L,0<=y/\y<n
 hd:L[0]? =some p
 lst:L[L.length - 1]? =some q
 nd: ∀i j,i<L.length->j<L.length->Lf L i=Lf L j->i=j
 free: ∀i,i+1<L.length->Ws x (L[i]?.getD 0) (L[i+1]?.getD 0)=true
def Wb{x:Bk}{n:Nat}{p q:Int}(an:0<=p)(ao:p<n)(a8:0<=q)(a9:q<n)(am:CE x n p q≠[]):TC x n p q (CE x n p q):=by
 have Z:GN x n p (B9 x n p):=R9 an ao n;have ax:=Z.len;obtain⟨y,hy⟩: ∃y,(B9 x n p).1[q.toNat]? =some y:=⟨_,BB (by omega)⟩;have av: ¬y<0:=by
  intro h;apply am;simp only[CE,hy,AW];rw[Al h]
 have aq:q∈(B9 x n p).2:=by
  have:=(Z.mem q.toNat y hy).1 (by omega)
  rwa [show (q.toNat:Int)=q by omega] at this
 obtain⟨i,hi⟩:=W1.1 aq;obtain⟨d,ay,ah,ab⟩:=Qq3 Z hi;have az:=(CL.1 hi).1;have a0:=Qr3 Z;have au:vH (B9 x n p).1 p q n=d:=Qqr (by omega) ah ab;have hW:CE x n p q=(IA (B9 x n p).1 q d).reverse:=by
  simp only[CE,hy,AW];rw[Ag av,au]
 rw[hW];have O:(IA (B9 x n p).1 q d).length=d+1:=by simp[IA]
 have hget: ∀k,k<=d->(IA (B9 x n p).1 q d).reverse[k]? =some (DO (B9 x n p).1 q (d - k)):=by
  intro k G;rw[Zel (by rw[O];omega),O,show d+1 - 1 - k=d - k by omega,IA,Gb,IH (by omega)];rfl
 have ac: ∀k,k<=d-> ∃j,j+k<=i/\(B9 x n p).2[j]? =some (DO (B9 x n p).1 q k):=λk G=>tZ Z hi k (λj hj=>ab j (by omega))
 have Q: ∀k,k<=d->0<=DO (B9 x n p).1 q k/\DO (B9 x n p).1 q k<n:=by
  intro k G;obtain⟨j,_,h2⟩:=ac k G;exact Z.q _ (Bh h2)
 have af: ∀k,k<=d-> ∀e,e<=k-> ∀j j',(B9 x n p).2[j]? =some (DO (B9 x n p).1 q k)->(B9 x n p).2[j']? =some (DO (B9 x n p).1 q e)->j+(k - e)<=j':=by
  intro k G e he j j' hj aj;have aw: ∀m,e+m<=d-> ∃j2,j2+m<=j'/\(B9 x n p).2[j2]? =some (DO (B9 x n p).1 q (e+m)):=by
   intro m;induction m with
   |zero=>intro _;exact⟨j',by omega,aj⟩
   |succ m ih=>
    intro hm;obtain⟨j2,g1,g2⟩:=ih (by omega);have h0:0<j2:=by
     rcases nX j2 with h0|h0
     .subst h0;rw[Z.hd] at g2;exact absurd (AC g2).symm (ab _ (by omega))
     .exact h0
    obtain⟨j3,u,q1,q2,q3,q4⟩:=Z.prev j2 _ g2 h0;refine⟨j3,by omega,?_⟩;rw[show e+(m+1)=e+m+1 by omega,DO,q3,AW];exact q2
  obtain⟨j2,g1,g2⟩:=aw (k - e) (by omega);rw[show e+(k - e)=k by omega] at g2
  have:=(List.getElem?_inj (CL.1 hj).1 Z.nd).1 (hj.trans g2.symm)
  omega
 have ad: ∀k e,k<=d->e<k->DO (B9 x n p).1 q k≠DO (B9 x n p).1 q e:=by
  intro k e G he ai;obtain⟨j,_,h2⟩:=ac k G
  have:=af k G e (by omega) j j h2 (ai▸h2)
  omega
 have aa: ∀k,k<=d->(IA (B9 x n p).1 q d).reverse[k]?.getD 0=DO (B9 x n p).1 q (d - k):=λk G=>by rw[hget k G,AW]
 refine⟨by rw[bS,O];omega,λz hz=> ?_,?_,?_,λk e G he hL=> ?_,λk G=> ?_⟩
 .obtain⟨k,G⟩:=W1.1 hz;have ak:=(CL.1 G).1;rw[bS,O] at ak;rw[hget k (by omega)] at G;obtain rfl:=AC G;exact Q _ (by omega)
 .rw[hget 0 (by omega),bZ,ah]
 .rw[bS,O,hget (d+1 - 1) (by omega),show d - (d+1 - 1)=0 by omega];rfl
 .rw[bS,O] at G he;simp only[Lf] at hL;rw[aa k (by omega),aa e (by omega)] at hL;have b1:=Q (d - k) (by omega);have b2:=Q (d - e) (by omega);have ag:DO (B9 x n p).1 q (d - k)=DO (B9 x n p).1 q (d - e):=by omega
  rcases wM (d - k) (d - e) with h|h|h
  .exact absurd ag.symm (ad _ _ (by omega) h)
  .omega
  .exact absurd ag (ad _ _ (by omega) h)
 .rw[bS,O] at G;rw[aa k (by omega),aa (k+1) (by omega),show d - k=d - (k+1)+1 by omega];exact (OL Z hi (λj hj=>ab j (by omega))).1
def Gs(n:Nat)(p q:Int):Nat->Bk->Int
 |0,_=>0
 |m+1,x=>if CE x n p q=[] then 0 else Gs n p q m (HF x (CE x n p q) ((CE x n p q).length - 1))+1
def Eo(x:Bk)(a b:Nat):Int:=Hh x.Room a b
def Ki(x:Bk)(a b:Nat):Int:=Hh x.Flow a b
def Qun{x:Bk}{n:Nat}(h:KH x n){p q:Int}(Z:0<=p)(aa:p<n)(ab:p≠q)(ac:0<=q){v:Int}(hf:R3 (Eo x) (Ki x) n p.toNat q.toNat v){L:List Int}(z:TC x n p q L):
 KH (HF x L (L.length - 1)) n/\R3 (Eo x) (Ki (HF x L (L.length - 1))) n p.toNat q.toNat (v+1):=by
 have Q:=z.pos;have O: ∀i,i<L.length->(L[i]?.getD 0).toNat=Lf L i/\Lf L i<n:=by
  intro i G;refine⟨rfl,?_⟩;simp only[Lf];rw[BB G,AW]
  have:=z.inb _ (RS G)
  omega
 refine⟨Qm6 h z.inb _ (by omega),Pd (m:=L.length - 1) (L:=Lf L) hf (λi j G hj=>z.nd i j (by omega) (by omega)) (λi G=>(O i (by omega)).2) ?_ ?_ (by omega) (by omega) (λi G=> ?_) (λa b _ _=>Qso h z.inb a b _ (by omega))⟩
 .simp only[Lf,z.hd,AW]
 .simp only[Lf,z.lst,AW]
 .exact of_decide_eq_true (z.free i (by omega))
def oX{n:Nat}{p q:Int}(G:0<=p)(O:p<n)(ad:p≠q)(ab:0<=q)(af:q<n): ∀(m:Nat) (x:Bk) (v:Int),KH x n->R3 (Eo x) (Ki x) n p.toNat q.toNat v->
 (Gs n p q m x=m/\ ∀S:Nat->Bool,S p.toNat=true->S q.toNat=false->v+m<=EP (Eo x) n S)\/(Gs n p q m x<m/\ ∃S:Nat->Bool,S p.toNat=true/\S q.toNat=false/\EP (Eo x) n S=v+Gs n p q m x)
 |0,x,v,h,hf=> .inl ⟨rfl,λS h1 Z=>by have:=Qw8 hf (by omega) h1 Z;simpa using this⟩
 |m+1,x,v,h,hf=>by
  by_cases Q:CE x n p q=[]
  .refine .inr ?_;have e:Gs n p q (m+1) x=0:=by simp only[Gs];rw[Al Q]
   rw[e];refine⟨by omega,λu=>decide (0<=(B9 x n p).1[u]?.getD (-1)),?_,?_,?_⟩
   .have:=(R9 (x:=x) G O n).pp
    simp only[B9,this,AW,C7];exact G
   .have aa:=(R9 (x:=x) G O n).len;obtain⟨y,hy⟩: ∃y,(B9 x n p).1[q.toNat]? =some y:=⟨_,BB (by simp only[B9];omega)⟩;simp only[hy,AW,Jk];intro h0;simp only[CE,hy,AW] at Q;rw[Ag (by omega)] at Q;simp[IA] at Q
   .have:=Qxp (S:=λu=>decide (0<=(B9 x n p).1[u]?.getD (-1))) hf (by omega) ?_ ?_ ?_
    .omega
    .have:=(R9 (x:=x) G O n).pp
     simp only[B9,this,AW,C7];exact G
    .have aa:=(R9 (x:=x) G O n).len;obtain⟨y,hy⟩: ∃y,(B9 x n p).1[q.toNat]? =some y:=⟨_,BB (by simp only[B9];omega)⟩;simp only[hy,AW,Jk];intro h0;simp only[CE,hy,AW] at Q;rw[Ag (by omega)] at Q;simp[IA] at Q
    .intro u w hu ah h1 Z;simp only[C7,Jk] at h1 Z;have aa:=(R9 (x:=x) G O n).len;obtain⟨y,hy⟩: ∃y,(B9 x n p).1[u]? =some y:=⟨_,BB (by simp only[B9];omega)⟩;rw[hy,AW] at h1;by_cases ac:Ws x u w=true
     .obtain⟨z,g1,g2⟩:=Qww x G O hy h1 ah ac;rw[g1,AW] at Z;omega
     .have h3: ¬(Qzr x u w<Qyw x u w):=λh=>ac (W0 h)
      rw[Pc,PI,B5,B5] at h3;simp only[Eo,Ki];omega
  .have hW:=Wb G O ab af Q;obtain⟨g1,g2⟩:=Qun h G O ad ab hf hW;have ag:Eo (HF x (CE x n p q) ((CE x n p q).length - 1))=Eo x:=by funext a b;simp only[Eo,Ql3]
   rw[<-ag] at g2;have ih:=oX G O ad ab af m _ _ g1 g2;rw[ag] at ih;have e:Gs n p q (m+1) x=Gs n p q m (HF x (CE x n p q) ((CE x n p q).length - 1))+1:=by simp only[Gs];rw[Ag Q]
   rw[e];rcases ih with ⟨h1,Z⟩|⟨h1,S,Z,h3,h4⟩
   .exact .inl ⟨by omega,λS hS hT=>by have:=Z S hS hT;omega⟩
   .exact .inr ⟨by omega,S,Z,h3,by omega⟩
def Ln(n:Nat):Bk:=⟨List.replicate n (List.replicate n 0),List.replicate n (List.replicate n 0)⟩
def KP(x:Bk)(b:Ai):Bk:=⟨LF (LF x.Room b.A b.B b.Strength) b.B b.A b.Strength,x.Flow⟩
def Cm(n:Nat)(bs:List Ai):Nat->Bk
 |0=>Ln n
 |k+1=>match bs[k]? with
  |some b=>KP (Cm n bs k) b
  |none=>Cm n bs k
def Ea(n:Nat)(bs:List Ai):Bk:=Cm n bs bs.length
def X0{n:Nat}{bs:List Ai}(Q:LA n bs): ∀k,KH (Cm n bs k) n/\(Cm n bs k).Flow=List.replicate n (List.replicate n 0)
 |0=>⟨⟨by simp[Cm,Ln],by simp[Cm,Ln],λl O=>by rw[QH O];simp,λl O=>by rw[QH O];simp⟩,rfl⟩
 |k+1=>by
  obtain⟨ih,z⟩:=X0 Q k;simp only[Cm];split
  .rename_i b G;obtain⟨b1,b2,b3,b4⟩:=Q b (Bh G);refine⟨⟨by simp only[KP,aN];exact ih.r,ih.f,?_,ih.ff⟩,z⟩;exact aI (aI ih.rr _ _ _ (by rw[ih.r];omega)) _ _ _ (by rw[aN,ih.r];omega)
  .exact⟨ih,z⟩
def CX(S:Nat->Bool):List Ai->Int
 |[]=>0
 |b::r=>(if S b.A.toNat=S b.B.toNat then 0 else b.Strength)+CX S r
def pN(S:Nat->Bool): ∀(a b:List Ai),CX S (a++b)=CX S a+CX S b
 |[],b=>by simp[CX]
 |x::r,b=>by simp only[Ci,CX,pN S r b];omega
def ZK(n u v:Nat)(Z:u<n)(hv:v<n)(c:Int)(g:Nat->Nat->Bool):AI (λa=>AI (λb=>if g a b=true then (if a=u/\b=v then c else 0) else 0) n) n=if g u v=true then c else 0:=by
 have O:AI (λa=>AI (λb=>if g a b=true then (if a=u/\b=v then c else 0) else 0) n) n=AI (λa=>if a=u then (if g u v=true then c else 0) else 0) n:=by
  refine FN λa _=> ?_
  by_cases z:a=u
  .subst z;rw[Al rfl];have Q:AI (λb=>if g a b=true then (if a=a/\b=v then c else 0) else 0) n=AI (λb=>if b=v then (if g a v=true then c else 0) else 0) n:=by
    refine FN λb _=> ?_
    by_cases G:b=v
    .subst G;simp
    .simp[G]
   rw[Q,Xw,Al hv]
  .rw[Ag z];refine (FN λb _=> ?_).trans (Rw n);simp[z]
 rw[O,Xw,Al Z]
def Qnz{l:List (List Int)}{n:Nat}(Z:l.length=n)(h: ∀r∈l,r.length=n){u v:Nat}(d:Int)(G:u<n)(O:v<n)(S:Nat->Bool):
 EP (λa b=>Hh (LF l u v d) a b) n S=EP (λa b=>Hh l a b) n S+if S u=true/\S v=false then d else 0:=by
 have z:AI (λa=>AI (λb=>if (S a && !S b)=true then (if a=u/\b=v then d else 0) else 0) n) n=if (S u && !S v)=true then d else 0:=ZK n u v G O d (λa b=>S a && !S b)
 have Q:(if (S u && !S v)=true then d else 0)=if S u=true/\S v=false then d else 0:=by
  cases S u<;>cases S v<;>simp
 rw[Q] at z;rw[<-z,EP,EP,<-Ry];refine FN λa _=> ?_
 rw[<-Ry];refine FN λb _=> ?_
 rw[fJ Z h d G O a b];cases S a<;>cases S b<;>simp
def Mc{n:Nat}{bs:List Ai}(G:LA n bs)(S:Nat->Bool): ∀k,k<=bs.length->EP (Eo (Cm n bs k)) n S=CX S (bs.take k)
 |0,_=>by
  simp only[Hp,CX,EP];refine (FN λu Z=> ?_).trans (Rw n);refine (FN λw hw=> ?_).trans (Rw n)
  have:Eo (Cm n bs 0) u w=0:=by
   simp only[Eo,Cm,Ln,Hh];rw[O9,Al Z,AW,O9,Al hw,AW]
  rw[this];split<;>rfl
 |k+1,Q=>by
  obtain⟨b,hbk⟩: ∃b,bs[k]? =some b:=⟨_,BB Q⟩;have ih:=Mc G S k (by omega);obtain⟨z,_⟩:=X0 G k;obtain⟨b1,b2,b3,b4⟩:=G b (Bh hbk);have e:bs.take (k+1)=bs.take k++[b]:=by rw[Ji,hbk];rfl
  rw[e,pN,<-ih];have O:Eo (Cm n bs (k+1))=λx y=>Hh (LF (LF (Cm n bs k).Room (b.A.toNat:Int) (b.B.toNat:Int) b.Strength) (b.B.toNat:Int) (b.A.toNat:Int) b.Strength) x y:=by
   funext x y;simp only[Eo,Cm,hbk,KP];rw[show ((b.A.toNat:Nat):Int)=b.A by omega,show ((b.B.toNat:Nat):Int)=b.B by omega]
  rw[O,Qnz (by rw[aN];exact z.r) (aI z.rr _ _ _ (by rw[z.r];simp;omega)) _ (by omega) (by omega),Qnz z.r z.rr _ (by omega) (by omega)];simp only[CX]
  have:EP (λa b=>Hh (Cm n bs k).Room a b) n S=EP (Eo (Cm n bs k)) n S:=rfl
  rw[this];cases S b.A.toNat<;>cases S b.B.toNat<;>simp<;>omega
def S4{n:Nat}{bs:List Ai}(z:LA n bs)(S:Nat->Bool):EP (Eo (Ea n bs)) n S=CX S bs:=by
 rw[Ea,Mc z S _ (AU _),IF]
def Qpz{n:Nat}{bs:List Ai}(G:LA n bs)(hs:QA bs)(a b:Nat): ∀k,0<=Eo (Cm n bs k) a b
 |0=>by
  simp only[Eo,Cm,Ln,Hh,O9];split
  .rw[AW,O9];split<;>simp
  .simp
 |k+1=>by
  have ih:=Qpz G hs a b k;obtain⟨z,_⟩:=X0 G k;simp only[Eo,Cm] at ih⊢;split
  .rename_i x O;obtain⟨b1,b2,b3,b4⟩:=G x (Bh O);have h0:=(hs x (Bh O)).1;simp only[KP];rw[show x.A=(x.A.toNat:Int) by omega,show x.B=(x.B.toNat:Int) by omega];rw[fJ (n:=n) (by rw[aN];exact z.r) (aI z.rr _ _ _ (by rw[z.r];simp;omega)) _ (by omega) (by omega),fJ z.r z.rr _ (by omega) (by omega)]
   split<;>split<;>omega
  .exact ih
def pB{n:Nat}{bs:List Ai}(G:LA n bs)(hs:QA bs)(p q:Nat):R3 (Eo (Ea n bs)) (Ki (Ea n bs)) n p q 0:=by
 have z: ∀a b,Ki (Ea n bs) a b=0:=by
  intro a b;simp only[Ki,Ea,(X0 G bs.length).2,Hh,O9];split
  .rw[AW,O9];split<;>simp
  .simp
 refine⟨λu w _ _=>by rw[z,z];rfl,λu w _ _=> ?_,λu _ _ _=>(FN λi _=>z u i).trans (Rw n),(FN λi _=>z p i).trans (Rw n)⟩;rw[z];exact Qpz G hs u w bs.length
def X4(n:Nat)(bs:List Ai)(t:Int)(k:Nat):Prop:= ∀S:Nat->Bool,S 0=true->(∃y,0<y/\y<=k/\y<n/\S y=false)->t<=CX S bs
def R7(n:Nat)(bs:List Ai)(t:Int):Nat->Bool
 |0=>true
 |k+1=>R7 n bs t k && decide (t<=Gs n 0 ((k:Int)+1) t.toNat (Ea n bs))
def Qtt{n:Nat}{bs:List Ai}(O:LA n bs)(hs:QA bs){t:Int}(ht:0<=t): ∀k,k<n->(R7 n bs t k=true↔X4 n bs t k)
 |0,_=>by
  simp only[R7,true_iff];rintro S _ ⟨y,h1,z,_⟩;omega
 |k+1,hk=>by
  have ih:=Qtt O hs ht k (by omega);have hl:=oX (n:=n) (p:=0) (q:=(k:Int)+1) (by omega) (by omega) (by omega) (by omega) (by omega) t.toNat (Ea n bs) 0 (X0 O bs.length).1 (pB O hs _ _);simp only[Int.toNat_zero,show ((k:Int)+1).toNat=k+1 by omega,Int.zero_add,S4 O] at hl;simp only[R7,Bc,C7,ih];rcases hl with ⟨h1,z⟩|⟨h1,S,z,h3,h4⟩
  .constructor
   .rintro⟨g1,g2⟩ S G ⟨y,Z,y2,y3,Q⟩;by_cases hy:y<=k
    .exact g1 S G ⟨y,Z,hy,y3,Q⟩
    .have:=z S G (by rw[show k+1=y by omega];exact Q)
     omega
   .intro h;exact⟨λS G ⟨y,Z,y2,y3,Q⟩=>h S G ⟨y,Z,by omega,y3,Q⟩,by omega⟩
  .constructor
   .rintro⟨_,g2⟩;omega
   .intro h
    have:=h S z ⟨k+1,by omega,by omega,hk,h3⟩
    omega
def Qt7{n:Bi}(hn:DK n)(hc:Jb n){q:Int}{st qu:List Int}(G:st.length=n.Cnt.toNat)(hP:Gf n q (st,qu)){p:Int}(O:0<=p)(Q:p<n.Cnt){d:Nat}(hd:st[p.toNat]? =some (d:Int))(w:Int):
 ∀k,k<=d->DC (Ce n st p k).1 w=DC n w+(if p=w then 1 else 0) - (if (Ce n st p k).2=w then 1 else 0)
 |0,_=>by simp only[Ce];omega
 |k+1,hk=>by
  have ih:=Qt7 hn hc G hP O Q hd w k (by omega);have hI:=mM hn hc G hP O Q hd k (by omega);obtain⟨m,r,hm,hr,hg,Z,ad⟩:=Qk0 hn G hP (by omega) hI;have ac:(Ce n st p k).1.At[m]? =some r:=by rw[hI.at_];exact hr
  have e:(Ce n st p (k+1)).1=I8 (Ce n st p k).1 m (Hi (Ce n st p k).1 st m).2:=by simp only[Ce,hm]
  have e2:(Ce n st p (k+1)).2=(Hi (Ce n st p k).1 st m).1:=by simp only[Ce,hm]
  rw[e,e2,Qzc hI.ok ac hg.1,hg.2.2.1,ih,hm];have aa:=hg.2.2.2.1;rw[B5,Z,AW] at aa;have ab:(m:Int)≠(Hi (Ce n st p k).1 st m).1:=by
   intro he;rw[<-he,B5,Z,AW] at aa;omega
  obtain⟨z,hz⟩: ∃z,z=(Hi (Ce n st p k).1 st m).1:=⟨_,rfl⟩;rw[<-hz] at ab⊢;by_cases c1:p=w<;>by_cases c2:(m:Int)=w<;>by_cases c3:z=w<;>simp only[c1,c2,c3,Bb,CN]<;>omega
def NV(n:Bi)(p q:Int):Prop:= ∀w,w≠p->w≠q->DC n w=0
def Ph{n:Bi}(hn:DK n)(hc:Jb n){p q:Int}(G:0<=p)(O:p<n.Cnt)(Q:0<=q)(Z:q<n.Cnt)(hg:(F9 n p q).2=true)(aa:NV n p q):NV (F9 n p q).1 p q:=by
 have z:=tA hn Q Z;have hP:Gf n q (F8 n q,(CK n q n.Cnt.toNat).2):=NX hn Q Z n.Cnt.toNat;obtain⟨x,hx⟩: ∃x,(F8 n q)[p.toNat]? =some x:=⟨_,BB (by omega)⟩;intro w h1 h2;simp only[F9,hx,AW] at hg⊢;by_cases h:x<0
 .rw[Al h] at hg;simp at hg
 .obtain⟨d,rfl⟩: ∃d:Nat,x=d:=⟨x.toNat,by omega⟩;rw[Ag h,B5];have hI:=mM hn hc z hP G O hx d (AU _);obtain⟨m,hm,ac,ab⟩:=hI.v;have ad:m=q.toNat:=hP.uniq m (by rw[ab];congr 1;omega);have ho:=Qt7 hn hc z hP G O hx w d (AU _);rw[Ag (Ft h1),hm,Ag (by omega),aa w h1 h2] at ho;simpa using ho
def Que{p q:Int}(z:0<=p)(G:0<=q)(aa:p≠q): ∀(m:Nat) (n:Bi),DK n->Jb n->p<n.Cnt->q<n.Cnt->NV n p q->DK (GV p q m n).1/\Jb (GV p q m n).1/\(GV p q m n).1.Cnt=n.Cnt/\(GV p q m n).1.Bonds=n.Bonds/\
 (GV p q m n).1.At=n.At/\NV (GV p q m n).1 p q/\DC (GV p q m n).1 p=DC n p+(GV p q m n).2/\0<=(GV p q m n).2/\((GV p q m n).2=m\/(F9 (GV p q m n).1 p q).2=false)
 |0,n,O,Q,_,_,h5=>⟨O,Q,rfl,rfl,rfl,h5,by simp[GV],by simp[GV],.inl (by simp[GV])⟩
 |m+1,n,O,Q,h3,h4,h5=>by
  simp only[GV];by_cases Z:(F9 n p q).2=true
  .rw[Al Z];obtain⟨g1,g2,g3,g4,g5,g6⟩:=Mx O Q z h3 G h4 aa Z;have g7:=Ph O Q z h3 G h4 Z h5;obtain⟨k1,k2,k3,k4,k5,k6,k7,k8,k9⟩:=Que z G aa m _ g1 g2 (by omega) (by omega) g7;refine⟨k1,k2,k3.trans g3,k4.trans g4,k5.trans g5,k6,by simp only;omega,by simp only;omega,?_⟩;rcases k9 with h|h
   .exact .inl (by simp only;omega)
   .exact .inr h
  .rw[Ag Z];exact⟨O,Q,rfl,rfl,rfl,h5,by simp,by simp,.inr (by simpa using Z)⟩
def Qu0{n:Int}{bs:List Ai}(h:aV (n,bs))(hs:QA bs){p q:Int}(z:0<=p)(Q:0<=q)(G:p<n)(Z:q<n)(O:p≠q):DK (Ew n bs p q).1/\Jb (Ew n bs p q).1/\(Ew n bs p q).1.Cnt=n/\(Ew n bs p q).1.Bonds=bs/\
 (Ew n bs p q).1.At=(Dz n bs).At/\NV (Ew n bs p q).1 p q/\DC (Ew n bs p q).1 p=(Ew n bs p q).2/\0<=(Ew n bs p q).2/\(F9 (Ew n bs p q).1 p q).2=false:=by
 obtain⟨h1,h2⟩:=MN h hs;obtain⟨k1,k2,k3,k4,k5,k6,k7,k8,k9⟩:=Que z Q O ((bs.map Ai.Strength).sum.toNat+1) (Dz n bs) h1 h2 G Z (λw _ _=>Qtg w);rw[Qtg,Int.zero_add] at k7;refine⟨k1,k2,k3,k4,k5,k6,k7,k8,?_⟩;rcases k9 with h9|h9
 .exfalso;have h4:(GV p q ((bs.map Ai.Strength).sum.toNat+1) (Dz n bs)).1.Bonds=bs:=k4
  have:=UF k1 k2 p
  rw[h4] at this;omega
 .exact h9
def pO{n:Bi}(hn:DK n){v:Nat}{r:List Int}(hr:n.At[v]? =some r){y:Int}(Q:0<=y): ∀(l:List Int) (s:List Int×List Int),(∀i∈l,i∈r)->X5 n s->s.1[v]? =some y-> ∀i∈l,0<(DH n (DN n v i) i).1-> ∃z,(l.foldl (BH n v) s).1[(DN n v i).toNat]? =some z/\0<=z
 |[],s,_,_,_,i,G,_=>by cases G
 |j::l,s,hl,hs,hv,i,G,O=>by
  have Z:=hl j (BS ..);rcases Bw.1 G with rfl|G
  .obtain⟨_,_,o1,o2⟩:=gA hn hr Z;obtain⟨z,hz⟩: ∃z,s.1[(DN n v i).toNat]? =some z:=⟨_,BB (by rw[hs.len];omega)⟩;have aa: ∃z,(BH n v s i).1[(DN n v i).toNat]? =some z/\0<=z:=by
    by_cases h0:0<=z
    .exact⟨z,tD n v s i _ z hz h0,h0⟩
    .refine⟨y+1,?_,by omega⟩;simp only[BH];rw[Al ⟨by rw[hz,AW];omega,O⟩,B5,hv,AW];exact Ey (by rw[hs.len];omega)
   obtain⟨z',g1,g2⟩:=aa;exact⟨z',Qor n v _ z' g2 l _ g1,g2⟩
  .exact pO hn hr Q l _ (λj Z=>hl j (BW _ Z)) (Qtm hn hr Z hs) (tD n v s j v y hv Q) i G O
def Qzj(n:Bi)(v:Int): ∀(l:List Int) (s:List Int×List Int),∃e,(l.foldl (BH n v) s).2=s.2++e
 |[],s=>⟨[],by simp⟩
 |i::l,s=>by
  obtain⟨e,z⟩:=Qzj n v l (BH n v s i);simp only[KN,z];simp only[BH];split
  .exact⟨[DN n v i]++e,by simp⟩
  .exact⟨e,rfl⟩
def Yb(n:Bi)(q:Int)(k:Nat): ∃e,(CK n q (k+1)).2=(CK n q k).2++e:=by
 rw[CK];split
 .exact⟨[],by simp⟩
 .exact Qzj n _ _ _
def OO(n:Bi)(q:Int)(u:Nat)(y:Int)(h0:0<=y)(k:Nat)(h:(CK n q k).1[u]? =some y):(CK n q (k+1)).1[u]? =some y:=by
 rw[CK];split
 .exact h
 .exact Qor n _ u y h0 _ _ h
def Qzn{n:Bi}(hn:DK n){q:Int}(h0:0<=q)(Z:q<n.Cnt): ∀(k j:Nat) (v:Int),j<k->(CK n q k).2[j]? =some v-> ∀(r:List Int),n.At[v.toNat]? =some r-> ∀i∈r,0<(DH n (DN n v i) i).1-> ∃z,(CK n q k).1[(DN n v i).toNat]? =some z/\0<=z
 |0,j,v,hj,_,_,_,_,_,_=>by omega
 |k+1,j,v,hj,G,r,Q,i,hi,O=>by
  obtain⟨e,he⟩:=Yb n q k;by_cases ac:j<(CK n q k).2.length
  .rw[he,F4 ac] at G;by_cases ab:j<k
   .obtain⟨z,g1,g2⟩:=Qzn hn h0 Z k j v ab G r Q i hi O;exact⟨z,OO n q _ z g2 k g1,g2⟩
   .have:j=k:=by omega
    subst this;have hI:=Xy hn h0 Z j;have aa:=NX hn h0 Z j;have af:=hI.q v (Bh G);obtain⟨m,rfl⟩: ∃m:Nat,v=m:=⟨v.toNat,by omega⟩;obtain⟨y,hy,ad⟩:=aa.qs _ (Bh G);rw[B5] at hy Q;rw[CK,G];simp only[B5,Q,AW];exact pO hn Q ad r _ (λ_ h=>h) hI hy i hi O
  .have e1:CK n q (k+1)=CK n q k:=by rw[CK,HK (by omega)]
   rw[e1] at G
   have:=(CL.1 G).1
   omega
def Sj{n:Bi}(hn:DK n){q:Int}(h0:0<=q)(h1:q<n.Cnt): ∀(k u:Nat) (y:Int),(CK n q k).1[u]? =some y->0<=y->(u:Int)∈(CK n q k).2
 |0,u,y,z,G=>by
  have hq:q.toNat<n.Cnt.toNat:=by omega
  simp only[CK] at z⊢;by_cases h:q.toNat=u
  .rw[BL];omega
  .rw[Ep h] at z
   have:=QH (Bh z)
   omega
 |k+1,u,y,z,G=>by
  have ih:=Sj hn h0 h1 k;have hI:=Xy hn h0 h1 k;have O: ∀(v:Int) (l:List Int) (s:List Int×List Int),(∀i∈l,0<=DN n v i)->(∀(u:Nat) (y:Int),s.1[u]? =some y->0<=y->(u:Int)∈s.2)-> ∀(u:Nat) (y:Int),(l.foldl (BH n v) s).1[u]? =some y->0<=y->(u:Int)∈(l.foldl (BH n v) s).2:=by
   intro v l;induction l with
   |nil=>intro s _ Q;exact Q
   |cons i l aa=>
    intro s hl Q;refine aa _ (λj hj=>hl j (BW _ hj)) ?_;intro u y z G;have ho:=hl i (BS ..);simp only[BH] at z⊢;split at z
    .rename_i Z;rw[Al Z];simp only[B2,BL] at z⊢;by_cases he:(DN n v i).toNat=u
     .right;omega
     .rw[Ep he] at z;exact .inl (Q u y z G)
    .rename_i Z;rw[Ag Z];exact Q u y z G
  rw[CK] at z⊢;split at z
  .exact ih u y z G
  .rename_i v hv;have ab:=hI.q v (Bh hv);obtain⟨m,rfl⟩: ∃m:Nat,v=m:=⟨v.toNat,by omega⟩;obtain⟨r,hr⟩: ∃r,n.At[m]? =some r:=⟨_,BB (by have:=hn.al;omega)⟩;simp only[B5,hr,AW] at z⊢;exact O m r _ (λi hi=>(gA hn hr hi).2.2.1) ih u y z G
def Qmo{n:Bi}(hn:DK n){q:Int}(h0:0<=q)(G:q<n.Cnt){v:Nat}{y:Int}(hv:(F8 n q)[v]? =some y)(hy:0<=y){r:List Int}(hr:n.At[v]? =some r){i:Int}(Z:i∈r)(O:0<(DH n (DN n v i) i).1):
 ∃z,(F8 n q)[(DN n v i).toNat]? =some z/\0<=z:=by
 have hm:=Sj hn h0 G n.Cnt.toNat v y hv hy;obtain⟨j,Q⟩:=W1.1 hm;have aa:=(CL.1 Q).1;have ab:=Qkx hn.c0 (Xy hn h0 G n.Cnt.toNat);exact Qzn hn h0 G n.Cnt.toNat j v (by omega) Q r (by rwa [B5]) i Z O
def Zf(n:Bi)(S:Nat->Bool):Int:=(List.zipWith (λb f=>(if S b.A.toNat=true then f else 0) - (if S b.B.toNat=true then f else 0)) n.Bonds n.Flow).sum
def pS(S:Nat->Bool)(m:Nat): ∀(bs:List Ai) (z:List Int),(∀b∈bs,0<=b.A/\b.A<m/\0<=b.B/\b.B<m/\b.A≠b.B)->
 AI (λv=>if S v=true then (List.zipWith (Kg (v:Int)) bs z).sum else 0) m=(List.zipWith (λb f=>(if S b.A.toNat=true then f else 0) - (if S b.B.toNat=true then f else 0)) bs z).sum
 |[],z,_=>by
  simp only[List.zipWith_nil_left,Zfc];refine (FN λi _=> ?_).trans (Rw m)
  split<;>rfl
 |b::bs,[],_=>by
  simp only[Zee,Zfc];refine (FN λi _=> ?_).trans (Rw m)
  split<;>rfl
 |b::bs,f::z,h=>by
  have ih:=pS S m bs z (λx O=>h x (BW _ O));obtain⟨b1,b2,b3,b4,b5⟩:=h b (BS ..);simp only[iF,RO];rw[<-ih];have e:AI (λv=>if S v=true then Kg (v:Int) b f+(List.zipWith (Kg (v:Int)) bs z).sum else 0) m=
   (AI (λv=>if v=b.A.toNat then (if S b.A.toNat=true then f else 0) else 0) m+ - AI (λv=>if v=b.B.toNat then (if S b.B.toNat=true then f else 0) else 0) m)+AI (λv=>if S v=true then (List.zipWith (Kg (v:Int)) bs z).sum else 0) m:=by
   rw[<-tU,<-Ry,<-Ry];refine FN λv _=> ?_
   simp only[Kg];by_cases c1:v=b.A.toNat
   .have G: ¬v=b.B.toNat:=by omega
    rw[Al (show b.A=(v:Int) by omega),Al c1,Ag G,<-c1];cases S v<;>simp
   .rw[Ag (show ¬b.A=(v:Int) by omega),Ag c1];by_cases G:v=b.B.toNat
    .rw[Al (show b.B=(v:Int) by omega),Al G,<-G];cases S v<;>simp
    .rw[Ag (show ¬b.B=(v:Int) by omega),Ag G];cases S v<;>simp
  rw[e,Xw,Xw,Al (show b.A.toNat<m by omega),Al (show b.B.toNat<m by omega)];omega
def MV{n:Bi}(hn:DK n){p q:Int}(aa:0<=p)(ab:p<n.Cnt)(G:NV n p q){S:Nat->Bool}(hS:S p.toNat=true)(hT:S q.toNat=false)(ac:0<=q):Zf n S=DC n p:=by
 have Q:=pS S n.Cnt.toNat n.Bonds n.Flow (λb O=>by
  have:=hn.bs b O
  have:=hn.ne b O
  omega)
 rw[Zf,<-Q];have Z:AI (λv=>if S v=true then (List.zipWith (Kg (v:Int)) n.Bonds n.Flow).sum else 0) n.Cnt.toNat=AI (λv=>if v=p.toNat then DC n p else 0) n.Cnt.toNat:=by
  refine FN λv hv=> ?_
  by_cases z:v=p.toNat
  .subst z;rw[Al rfl,Al hS,show ((p.toNat:Nat):Int)=p by omega];rfl
  .rw[Ag z];cases hSv:S v with
   |false=>rw[Ag (by simp)]
   |true=>
    rw[Al rfl];have ad:v≠q.toNat:=λhe=>by rw[he,hT] at hSv;cases hSv
    exact G v (by omega) (by omega)
 rw[Z,Xw,Al (by omega)]
def Qw5(S:Nat->Bool): ∀(bs:List Ai) (O:List Int),(∀(i:Nat) b f,bs[i]? =some b->O[i]? =some f-> -b.Strength<=f/\f<=b.Strength)->(∀b∈bs,0<=b.Strength)->(List.zipWith (λb f=>(if S b.A.toNat=true then f else 0) - (if S b.B.toNat=true then f else 0)) bs O).sum<=CX S bs
 |[],_,_,_=>by simp[CX]
 |x::r,[],_,z=>by
  have Q:=Qw5 S r [] (λi b f _ h=>by simp at h) (λb G=>z b (BW _ G));have h2:=z x (BS ..);simp only[Zee,Zfc,CX] at Q⊢
  split<;>omega
 |x::r,y::s,Z,z=>by
  have Q:=Qw5 S r s (λi b f h h'=>Z (i+1) b f (by simpa using h) (by simpa using h')) (λb G=>z b (BW _ G));have h3:=Z 0 x y rfl rfl;simp only[iF,RO,CX];cases S x.A.toNat<;>cases S x.B.toNat<;>simp<;>omega
def MU(S:Nat->Bool): ∀(bs:List Ai) (z:List Int),z.length=bs.length->(∀(i:Nat) b f,bs[i]? =some b->z[i]? =some f->(S b.A.toNat=true->S b.B.toNat=false->f=b.Strength)/\(S b.A.toNat=false->S b.B.toNat=true->f= -b.Strength))->(List.zipWith (λb f=>(if S b.A.toNat=true then f else 0) - (if S b.B.toNat=true then f else 0)) bs z).sum=CX S bs
 |[],_,_,_=>by simp[CX]
 |x::r,[],h,_=>by simp at h
 |x::r,y::s,h,G=>by
  have O:=MU S r s (by simpa using h) (λi b f h h'=>G (i+1) b f (by simpa using h) (by simpa using h'));obtain⟨Q,Z⟩:=G 0 x y rfl rfl;simp only[iF,RO,CX,O];cases hA:S x.A.toNat<;>cases hB:S x.B.toNat<;>simp
  .have:=Z hA hB;omega
  .exact Q hA hB
def SY{n:Int}{bs:List Ai}(h:aV (n,bs))(hs:QA bs){p q:Int}(Z:0<=p)(G:0<=q)(ad:p<n)(ag:q<n)(af:p≠q):
 0<=(Ew n bs p q).2/\(∀S:Nat->Bool,S p.toNat=true->S q.toNat=false->(Ew n bs p q).2<=CX S bs)/\ ∃S:Nat->Bool,S p.toNat=true/\S q.toNat=false/\CX S bs=(Ew n bs p q).2:=by
 obtain⟨k1,k2,k3,k4,k5,k6,k7,k8,k9⟩:=Qu0 h hs Z G ad ag af;obtain⟨N,hN⟩: ∃N,N=(Ew n bs p q).1:=⟨_,rfl⟩;obtain⟨val,hval⟩: ∃val,val=(Ew n bs p q).2:=⟨_,rfl⟩;simp only[<-hN,<-hval] at k1 k2 k3 k4 k5 k6 k7 k8 k9⊢;refine⟨k8,λS hS hT=> ?_,?_⟩
 .have h1:=MV k1 Z (by omega) k6 hS hT G;have h2:=Qw5 S N.Bonds N.Flow k2 (λb O=>(k1.st b O).1);rw[k4] at h2;simp only[Zf,k4] at h1;omega
 .have ai:=tA k1 G (by omega);obtain⟨x,hx⟩: ∃x,(F8 N q)[p.toNat]? =some x:=⟨_,BB (by omega)⟩;have ab:x<0:=by
   simp only[F9,hx,AW] at k9;by_cases h0:x<0
   .exact h0
   .rw[Ag h0] at k9;simp at k9
  have Q:=(NX k1 G (show q<N.Cnt by omega) N.Cnt.toNat).zero;have Q:(F8 N q)[q.toNat]? =some 0:=Q;refine⟨λv=>decide ((F8 N q)[v]?.getD 0<0),by simp only[hx,AW,C7];exact ab,by simp[Q],?_⟩;have hS:decide ((F8 N q)[p.toNat]?.getD 0<0)=true:=by simp only[hx,AW,C7];exact ab
  have hT:decide ((F8 N q)[q.toNat]?.getD 0<0)=false:=by simp[Q]
  have h1:=MV (S:=λv=>decide ((F8 N q)[v]?.getD 0<0)) k1 Z (by omega) k6 hS hT G;have h2:=MU (λv=>decide ((F8 N q)[v]?.getD 0<0)) N.Bonds N.Flow k1.fl ?_
  .simp only[Zf,k4] at h1;rw[k4] at h2;omega
  .intro i b f O hf;have aj:=k1.bs b (Bh O);have ac:=k1.ne b (Bh O);obtain⟨⟨rA,a1,a2⟩,⟨rB,c1,c2⟩⟩:=k1.all i b O;have ah:=k2 i b f O hf;obtain⟨yA,hA⟩: ∃y,(F8 N q)[b.A.toNat]? =some y:=⟨_,BB (by omega)⟩;obtain⟨yB,hB⟩: ∃y,(F8 N q)[b.B.toNat]? =some y:=⟨_,BB (by omega)⟩;simp only[hA,hB,AW,C7,Jk];refine⟨λe1 e2=> ?_,λe1 e2=> ?_⟩
   ·
    have ho:DN N b.B i=b.A:=by simp only[DN,B5,O];omega
    have hr:(DH N b.A i).1=b.Strength - f:=by simp only[DH,B5,O,hf,AW,Bb]
    by_cases aa:0<b.Strength - f
    .have:=Qmo k1 G (by omega) (v:=b.B.toNat) hB (by omega) c1 c2 (by rw[show ((b.B.toNat:Nat):Int)=b.B by omega,ho,hr];exact aa)
     rw[show ((b.B.toNat:Nat):Int)=b.B by omega,ho,hA] at this;obtain⟨z,g1,g2⟩:=this
     have:=AC g1
     omega
    .omega
   .have ho:DN N b.A i=b.B:=by simp only[DN,B5,O];omega
    have hr:(DH N b.B i).1=b.Strength+f:=by simp only[DH,B5,O,hf,AW];rw[Ag ac]
    by_cases aa:0<b.Strength+f
    .have:=Qmo k1 G (by omega) (v:=b.A.toNat) hA (by omega) a1 a2 (by rw[show ((b.A.toNat:Nat):Int)=b.A by omega,ho,hr];exact aa)
     rw[show ((b.A.toNat:Nat):Int)=b.A by omega,ho,hB] at this;obtain⟨z,g1,g2⟩:=this
     have:=AC g1
     omega
    .omega
def FZ(n:Int)(bs:List Ai):Nat->Int×List Int
 |0=>(-1,[])
 |k+1=>if (FZ n bs k).1<0\/GA (Ew n bs 0 (k+1)).2 (gQ (Ew n bs 0 (k+1)).1 (k+1)) (FZ n bs k).1 (FZ n bs k).2=true then ((Ew n bs 0 (k+1)).2,gQ (Ew n bs 0 (k+1)).1 (k+1)) else FZ n bs k
def weakC.fv(a:Int×(List Ai)):Int×(List Int):=(λn bs=>FZ n bs (n - 1).toNat) (a.1) (a.2)
def weakC.row:AG:=vK (b2 qI (qS Ai.d_le Ai.c_n)) (r2 rI (rS Dj Ct)) (λa=>aV (a.1,a.2)/\QA a.2/\1<=a.1) weakC.fv
def weakC.q:=B3 (R:=weakC.row) rfl
def bR:=J @weakC.fv.eq_1<|J @l07Before.q<|J @l07Before.fv.eq_1<|J @sideC.q @sideC.fv.eq_1
def weakC.ok:AJ 83 weakC.row:=by
 refine vw (tC l07Before.ok (tC flC.ok (tC sideC.ok tN))) Tryz.func83 ?_;intro a Q;simp only[Tryz.f83,Option.getD];simp only[ZZ,simprocAttr,Ab,bR];obtain⟨O,Z,ac⟩:=Q;have aa:=O.2.1;simp only at aa;obtain⟨n,hn⟩: ∃n:Nat,a.1=n+1:=⟨(a.1 - 1).toNat,by omega⟩;rw[show (a.1 - 1).toNat=n by omega];refine AZ.frr ⟨{k:Nat//k<=n},λk=>⟨[(8,.im (.int .i64 ((k.1:Int)+1))),(7,.im (.sl false 1 ((FZ a.1 a.2 k.1).2.map Af))),(6,.im (.int .i64 (FZ a.1 a.2 k.1).1)),(0,.im (.int .i64 a.1)),(1,.im (.sl false 3 (a.2.map Ai.c)))],[],2⟩,λk=>n - k.1,λk=>⟨by simp[ZG],by simp⟩,⟨⟨0,by simp⟩,[1],[],?_⟩,λk=> ?_⟩
 .simp only[Am];simp only[ZZ,simprocAttr,Ab,bR,AN,AM,FZ,Bg]
  try simp
 obtain⟨k,ab⟩:=k;simp only[ZZ,simprocAttr,Ab,bR,sub,AS];refine⟨λhk=> ?_,λhk=> ?_⟩
 .refine Az.os (a.1,a.2,0,(k:Int)+1) [] ⟨O,Z,by simp,by simp only;omega,by simp only;omega,by simp only;omega,by simp only;omega⟩ (λj=>by simp[An,hget]) rfl rfl ?_ ?_
  .simp only[ZZ,simprocAttr,Ab,bR,flC.ca,Bb]
  .simp only[ZZ,simprocAttr,Ab,bR,flC.H1,flC.r0,sub,AS];obtain⟨k1,k2,k3,k4,k5,_⟩:=Qu0 (p:=0) (q:=(k:Int)+1) O Z (by omega) (by omega) (by omega) (by omega) (by omega);have G:({Cnt:=a.1,Bonds:=a.2,At:=(Dz a.1 a.2).At,Flow:=(flC.net (a.1,a.2,0,(k:Int)+1)).Flow}:Bi)=(Ew a.1 a.2 0 ((k:Int)+1)).1:=by
    rw[<-k5];simp only[flC.net]
    conv=>rhs;rw[show (Ew a.1 a.2 0 ((k:Int)+1)).1=⟨(Ew a.1 a.2 0 ((k:Int)+1)).1.Cnt,(Ew a.1 a.2 0 ((k:Int)+1)).1.Bonds,(Ew a.1 a.2 0 ((k:Int)+1)).1.At,(Ew a.1 a.2 0 ((k:Int)+1)).1.Flow⟩ from rfl]
    rw[k3,k4]
   rw[G];have hw:IntKind.i64.wrap ((k:Int)+1+1)=(k:Int)+1+1:=AH (by omega) (by omega);have z:FZ a.1 a.2 (k+1)=if (FZ a.1 a.2 k).1<0\/GA (Ew a.1 a.2 0 ((k:Int)+1)).2 (gQ (Ew a.1 a.2 0 ((k:Int)+1)).1 ((k:Int)+1)) (FZ a.1 a.2 k).1 (FZ a.1 a.2 k).2=true then ((Ew a.1 a.2 0 ((k:Int)+1)).2,gQ (Ew a.1 a.2 0 ((k:Int)+1)).1 ((k:Int)+1)) else FZ a.1 a.2 k:=rfl
   refine⟨⟨k1,by omega,by omega⟩,λh0=>⟨λh1=>⟨⟨k+1,by omega⟩,[],[],by simp only;omega,?_⟩,λh1=>⟨⟨k+1,by omega⟩,[],[],by simp only;omega,?_⟩⟩,λh0=>⟨⟨k+1,by omega⟩,[],[],by simp only;omega,?_⟩⟩
   .rw[Al (.inr h1)] at z;simp only[Am];simp only[ZZ,simprocAttr,Ab,bR,AN,AM,z,hw];omega
   .rw[Ag (λh=>h.elim h0 h1)] at z;simp only[Am];simp only[ZZ,simprocAttr,Ab,bR,AN,AM,z,hw];omega
   .rw[Al (.inl (HJ.1 h0))] at z;simp only[Am];simp only[ZZ,simprocAttr,Ab,bR,AN,AM,z,hw];omega
 .have:k=n:=by omega
  rw[this]
def Qzk{n:Int}{bs:List Ai}(h:aV (n,bs))(hs:QA bs){t:Int}(ht:0<=t): ∀k:Nat,(k:Int)<n->(0<k->0<=(FZ n bs k).1/\(t<=(FZ n bs k).1↔X4 n.toNat bs t k))
 |0,_=>λh0=>by omega
 |k+1,hk=>λ_=>by
  obtain⟨f1,f2,S,f3,f4,f5⟩:=SY h hs (p:=0) (q:=(k:Int)+1) (by omega) (by omega) (by omega) (by omega) (by omega);simp only[Int.toNat_zero,show ((k:Int)+1).toNat=k+1 by omega] at f2 f3 f4;obtain⟨v,hv⟩: ∃v,v=(Ew n bs 0 ((k:Int)+1)).2:=⟨_,rfl⟩;obtain⟨sd,hsd⟩: ∃sd,sd=gQ (Ew n bs 0 ((k:Int)+1)).1 ((k:Int)+1):=⟨_,rfl⟩;have aa:t<=v↔ ∀S:Nat->Bool,S 0=true->S (k+1)=false->t<=CX S bs:=by
   constructor
   .intro z S O hT
    have:=f2 S O hT
    omega
   .intro z
    have:=z S f3 f4
    omega
  have Z:X4 n.toNat bs t (k+1)↔X4 n.toNat bs t k/\t<=v:=by
   rw[aa];constructor
   .intro z;exact⟨λS O ⟨y,y1,y2,y3,y4⟩=>z S O ⟨y,y1,by omega,y3,y4⟩,λS O hT=>z S O ⟨k+1,by omega,by omega,by omega,hT⟩⟩
   .rintro⟨z,h2⟩ S O ⟨y,y1,y2,y3,y4⟩;by_cases hy:y<=k
    .exact z S O ⟨y,y1,hy,y3,y4⟩
    .exact h2 S O (by rw[show k+1=y by omega];exact y4)
  rw[Z];simp only[FZ,<-hv,<-hsd];by_cases ab:k=0
  .subst ab;rw[Al (.inl (by simp[FZ]))];refine⟨by simp only;omega,?_⟩;simp only;constructor
   .intro z;exact⟨λS _ ⟨y,y1,y2,_,_⟩=>by omega,z⟩
   .exact λz=>z.2
  .obtain⟨i1,i2⟩:=Qzk h hs ht k (by omega) (by omega);rw[<-i2];by_cases G:(FZ n bs k).1<0\/GA v sd (FZ n bs k).1 (FZ n bs k).2=true
   .rw[Al G];have ac:v<=(FZ n bs k).1:=by
     rcases G with G|G
     .omega
     .simp only[GA] at G;split at G
      .omega
      .simp only[C7] at G;omega
    simp only;exact⟨by omega,by omega,by omega⟩
   .rw[Ag G];have ac:(FZ n bs k).1<=v:=by
     have Q: ¬GA v sd (FZ n bs k).1 (FZ n bs k).2=true:=λh=>G (.inr h)
     simp only[GA] at Q;split at Q
     .omega
     .simp only[C7] at Q;omega
    exact⟨i1,by omega,by omega⟩
def E8(l:List Int):Nat->List Int
 |0=>l
 |i+1=>((E8 l i).set i ((E8 l i)[l.length - 1 - i]?.getD 0)).set (l.length - 1 - i) ((E8 l i)[i]?.getD 0)
def uN(l:List Int): ∀i,(E8 l i).length=l.length
 |0=>rfl
 |i+1=>by simp only[E8,GX,uN l i]
def pL(l:List Int): ∀i,2*i<=l.length-> ∀k,k<l.length->(E8 l i)[k]? =if k<i\/l.length - i<=k then l[l.length - 1 - k]? else l[k]?
 |0,_,k,Q=>by simp only[E8];rw[Ag (by omega)]
 |i+1,hi,k,Q=>by
  have ih:=pL l i (by omega);have Z:=uN l i;have g1:(E8 l i)[l.length - 1 - i]?.getD 0=l[l.length - 1 - i]?.getD 0:=by rw[ih _ (by omega),Ag (by omega)]
  have g2:(E8 l i)[i]?.getD 0=l[i]?.getD 0:=by rw[ih _ (by omega),Ag (by omega)]
  have gd: ∀j,j<l.length->some (l[j]?.getD 0)=l[j]? :=λj hj=>by rw[BB hj];rfl
  rw[E8,g1,g2];by_cases z:l.length - 1 - i=k
  .subst z;rw[Ey (by rw[GX,Z];omega),Al (by omega),gd _ (by omega)];congr 1;omega
  .rw[Ep z];by_cases G:i=k
   .subst G;rw[Ey (by rw[Z];omega),Al (by omega),gd _ (by omega)]
   .rw[Ep G,ih k Q];by_cases O:k<i\/l.length - i<=k
    .rw[Al O,Al (by omega)]
    .rw[Ag O,Ag (by omega)]
def qL(l:List Int){i:Nat}(G:2*i<=l.length)(O:l.length<=2*i+1):E8 l i=l.reverse:=by
 apply QM;intro k;by_cases z:k<l.length
 .rw[pL l i G k z,Zel z];by_cases h:k<i\/l.length - i<=k
  .rw[Al h]
  .rw[Ag h];congr 1;omega
 .rw[HK (by rw[uN];omega),HK (by rw[bS];omega)]
def aL(l:List Int)(i:Nat)(x:Int):(l.map Af).set i [.int .i64 x]=(l.set i x).map Af:=by rw[RU];rfl
def revC.ca(_:List Int):List AV:=[.own 0]
def revC.H0(a:List Int):Ar:=[(0,(true,.arr 3 1 (a.map Af)))]
def revC.H1(a:List Int):Ar:=[(0,(true,.arr 3 1 (a.reverse.map Af)))]
def revC.row:AG:=Az revC.ca revC.H0 1 (λ_=>True) (λj=>j==0) (λ_=> .im (.tup [])) revC.H1 0
def revC.ok:AJ 194 revC.row:=by
 refine ow tN Tryz.func194 (exB:=λ_=>false) (R:=λ_ r=>r= .im (.tup [])) (λ_=>rfl)
  (λa=>by simp[revC.ca,revC.H0,revC.H1,AQ,AV.bel,AB,Cg,Cs,Ah.nms,Ax,AV.nms,An,hget]) (λa p hp=> ?_) (λa r h=>by subst h;exact D2.refl _) ?_
 rotate_left
 intro a Q;simp only[Tryz.f194,Option.getD,revC.ca,revC.H0,revC.H1];simp only[ZZ,simprocAttr,Ab,Av,revC.ca,revC.H0,revC.H1];intro aa;rw[AH (by omega) (by omega)];refine AZ.old ⟨{i:Nat//2*i<=a.length},λi=>⟨[(2,.im (.int .i64 i.1)),(3,.im (.int .i64 ((a.length:Int) - 1 - i.1))),(0,.own 0)],[(0,(true,.arr 3 1 ((E8 a i.1).map Af)))],1⟩,λi=>a.length - i.1,λi=>⟨by simp[ZG],by simp⟩,⟨⟨0,by simp⟩,?_⟩,λi=> ?_⟩
 .simp only[ZZ,simprocAttr,Ab,Av,revC.ca,revC.H0,revC.H1,sub];exact⟨by omega,by rw[E8]⟩
 obtain⟨i,Z⟩:=i;have O:=uN a i;simp only[ZZ,simprocAttr,Ab,Av,revC.ca,revC.H0,revC.H1,sub,AS,O,aL,GX];refine⟨λG=>⟨by omega,by omega,by omega,λx hx=>⟨by omega,by omega,λy hy=>⟨by omega,by omega,λz hz=>⟨by omega,by omega,by omega,λu hu=> ?_⟩⟩⟩⟩,λG=> ?_⟩
 .refine⟨⟨i+1,by omega⟩,by simp only;omega,?_⟩;have w1:IntKind.i64.wrap ((a.length:Int) - 1 - i - 1)=(a.length:Int) - 1 - i - 1:=AH (by omega) (by omega);have w2:IntKind.i64.wrap ((i:Int)+1)=(i:Int)+1:=AH (by omega) (by omega);simp only[w1,w2];refine⟨⟨by omega,by omega⟩,?_⟩;simp only[E8];rw[show a.length - 1 - i=((a.length:Int) - 1 - i).toNat by omega,hx,hy];rfl
 .rw[qL a Z (by omega)]
 simp[revC.H1] at hp;subst hp;exact .inl ⟨by omega,rfl,rfl⟩
def clonC.ca(a:List Aq):List AV:=[.im (.sl false 3 (a.map Aq.c))]
def clonC.H1(a:List Aq):Ar:=[(0,(true,.arr 88 3 (a.map Aq.c)))]
def clonC.row:AG:=Az clonC.ca (λ_=>[]) 0 (λa=>a.length<=1000000) (λ_=>false) (λ_=> .own 0) clonC.H1 20
def clonC.ok:AJ 128 clonC.row:=by
 refine Ha tN Tryz.func128 (exB:=λj=>j==0) (R:=λ_ r=>r= .own 0) (λ_=>rfl)
  (λa=>by simp[clonC.ca,clonC.H1,AQ,AV.bel,AB,Cg,Cs,Ah.nms,Ax,AV.nms,An,hget]) (λa p hp=> ?_) (λa r h=>by subst h;exact D2.refl _) ?_
 rotate_left
 intro a z;simp only[Tryz.f128,Option.getD,clonC.ca,clonC.H1];simp only[ZZ,simprocAttr,Ab,AD,Av,clonC.ca,clonC.H1];intro b G;split
 .rename_i h;have h0:=G h;refine⟨[],[(0,some 1)],⟨[(2,.own 0)],clonC.H1 a,1⟩,?_,by simp[clonC.H1,ZG],by simp,?_⟩
  .simp only[Am,clonC.H1,h0];simp only[ZZ,simprocAttr,Ab,AD,Av,clonC.ca,clonC.H1,AN,AM]
  .simp only[ZZ,simprocAttr,Ab,AD,Av,clonC.ca,clonC.H1]
 .refine⟨by omega,[],[(0,some 2)],⟨[(2,.own 0)],clonC.H1 a,1⟩,?_,by simp[clonC.H1,ZG],by simp,?_⟩
  .simp only[Am,clonC.H1];simp only[ZZ,simprocAttr,Ab,AD,Av,clonC.ca,clonC.H1,AN,AM]
  .simp only[ZZ,simprocAttr,Ab,AD,Av,clonC.ca,clonC.H1]
 simp[clonC.H1] at hp;subst hp;exact .inr ⟨by omega,by omega,rfl,rfl⟩
def clobC.ca(a:List Ai):List AV:=[.im (.sl false 3 (a.map Ai.c))]
def clobC.H1(a:List Ai):Ar:=[(0,(true,.arr 161 3 (a.map Ai.c)))]
def clobC.row:AG:=Az clobC.ca (λ_=>[]) 0 (λa=>a.length<=1000000) (λ_=>false) (λ_=> .own 0) clobC.H1 20
def clobC.ok:AJ 148 clobC.row:=by
 refine Ha tN Tryz.func148 (exB:=λj=>j==0) (R:=λ_ r=>r= .own 0) (λ_=>rfl)
  (λa=>by simp[clobC.ca,clobC.H1,AQ,AV.bel,AB,Cg,Cs,Ah.nms,Ax,AV.nms,An,hget]) (λa p hp=> ?_) (λa r h=>by subst h;exact D2.refl _) ?_
 rotate_left
 intro a z;simp only[Tryz.f148,Option.getD,clobC.ca,clobC.H1];simp only[ZZ,simprocAttr,Ab,AD,Av,clobC.ca,clobC.H1];intro b G;split
 .rename_i h;have h0:=G h;refine⟨[],[(0,some 1)],⟨[(2,.own 0)],clobC.H1 a,1⟩,?_,by simp[clobC.H1,ZG],by simp,?_⟩
  .simp only[Am,clobC.H1,h0];simp only[ZZ,simprocAttr,Ab,AD,Av,clobC.ca,clobC.H1,AN,AM]
  .simp only[ZZ,simprocAttr,Ab,AD,Av,clobC.ca,clobC.H1]
 .refine⟨by omega,[],[(0,some 2)],⟨[(2,.own 0)],clobC.H1 a,1⟩,?_,by simp[clobC.H1,ZG],by simp,?_⟩
  .simp only[Am,clobC.H1];simp only[ZZ,simprocAttr,Ab,AD,Av,clobC.ca,clobC.H1,AN,AM]
  .simp only[ZZ,simprocAttr,Ab,AD,Av,clobC.ca,clobC.H1]
 simp[clobC.H1] at hp;subst hp;exact .inr ⟨by omega,by omega,rfl,rfl⟩
def freeC.fv(a:Bk×Int×Int):Bool:=(Ws) (a.1) (a.2.1) (a.2.2)
def freeC.row:AG:=CY (b3 (qP 2 Bk.d_le) qI qI) rB (λa=>KH a.1 a.1.Room.length/\0<=a.2.1/\a.2.1<a.1.Room.length/\0<=a.2.2/\a.2.2<a.1.Room.length) freeC.fv
def freeC.q:=CD (R:=freeC.row) rfl
def freeC.ok:AJ 193 freeC.row:=by
 refine FM tN Tryz.func193 ?_;intro a z;simp only[Tryz.f193,Option.getD];simp only[ZZ,simprocAttr,Ab,freeC.fv,BD,D.sc,D.scs,B6,AP];obtain⟨G,O,h3,Q,Z⟩:=z;have hf:=G.f;refine⟨O,h3,λr hr=>⟨Q,by rw[G.rr r (Bh hr)];exact Z,λx hx=>⟨O,by omega,λs hs=>⟨Q,by rw[G.ff s (Bh hs)];exact Z,λy hy=> ?_⟩⟩⟩⟩;simp only[Ws,Qyw,Qzr,hr,hs,hx,hy,AW]
def ZX:D->Option (List Int)
 | .sl true _ rows=>AX Ch rows
 | .sl false _ (r::rows)=>AX Ch (r::rows)
 |_=>none
def ZY: ∀d x,ZX d=some x->Le d (.sl true 1 (x.map Af)):=by
 intro d x h;unfold ZX at h;split at h
 .rename_i k rows;have h1:=Fh (nz:=true) (k:=k) (EZ Dj _ _ h) (k':=1) (by simp[Af]);intro ok hp v Q;have O:=h1 ok hp v Q;simp only[Ae.rd] at O Q⊢;rcases O with O|⟨b,p,cap,vs,T,fr,g1,g2,g3,g4,g5,g6,g7⟩
  .rcases Q with ⟨q1,G⟩|⟨b',p',z,aa,T',Z,q1,G,q3,q4,q5,q6,q7⟩
   .exact .inl ⟨q1,O.2⟩
   .obtain⟨ao,e⟩:=uU O.1;rw[e] at q1;simp only[Value.slice.injEq] at q1;exact absurd (RN.1 q1.2.1.symm) (G trivial)
  .rcases Q with ⟨q1,G⟩|⟨b',p',z,aa,T',Z,q1,G,q3,q4,q5,q6,q7⟩
   .rw[Qr7 q1] at g1;cases g1
   .refine .inr ⟨b,p,cap,vs,T,fr,g1,λ_ h0=> ?_,g3,g4,g5,g6,g7⟩;rw[q1] at g1;simp only[Value.slice.injEq] at g1;rw[h0,DQ] at g1;exact G trivial (RN.1 g1.2.1)
 .rename_i k r rows;have h1:=Fh (nz:=false) (k:=k) (EZ Dj _ _ h) (k':=1) (by simp[Af]);intro ok hp v Q;have O:=h1 ok hp v Q;simp only[Ae.rd] at O Q⊢;rcases O with O|⟨b,p,cap,vs,T,fr,g1,g2,g3,g4,g5,g6,g7⟩
  .rcases Q with ⟨q1,G⟩|⟨b',p',z,aa,T',Z,q1,G,q3,q4,q5,q6,q7⟩
   .cases G
   .obtain⟨ao,e⟩:=uU O.1;rw[e] at q1;simp only[Value.slice.injEq,CR] at q1;omega
  .rcases Q with ⟨q1,G⟩|⟨b',p',z,aa,T',Z,q1,G,q3,q4,q5,q6,q7⟩
   .cases G
   .refine .inr ⟨b,p,cap,vs,T,fr,g1,λ_ h0=> ?_,g3,g4,g5,g6,g7⟩;rw[q1] at g1;simp only[Value.slice.injEq,CR] at g1;rw[h0,DQ] at g1;omega
 .cases h
def uX(n:Nat)(x:Int):List.replicate n [D.int .i64 x]=(List.replicate n x).map Af:=by rw[List.map_replicate];rfl
def VY{k:Nat}{l:List Int}(h:l≠[]):ZX (.sl false k (l.map Af))=some l:=by
 cases l with
 |nil=>exact absurd rfl h
 |cons x r=>exact mZ (x::r)
def dI(v:Int):D:= .int .i64 v
def rept.H0_dom(a:Int×Int)(j:Nat):An (rept.H0 a) j=true↔j<1:=by
 simp only[An,rept.H0,hget];by_cases h0:j=0
 .subst h0;simp
 .have z:(0==j)=false:=by simp;omega
  simp[z];omega
def revC.H0_dom(a:List Int)(j:Nat):An (revC.H0 a) j=true↔j<1:=by
 simp only[An,revC.H0,hget];by_cases h0:j=0
 .subst h0;simp
 .have z:(0==j)=false:=by simp;omega
  simp[z];omega
def QZ:Wu Tryz.prog 274=some 3:=by kernel_rfl
def wayC.rc:D->Option (List Int):=ZX
def wayC.re:(List Int)->D:=λb=>D.sl true 1 (b.map Af)
def wayC.rle: ∀d b,wayC.rc d=some b->Le d (wayC.re b):=ZY
def wayC.fv(a:Bk×Int×Int):List Int:=(λx p q=>CE x x.Room.length p q) (a.1) (a.2.1) (a.2.2)
def wayC.row:AG:=CY (b3 (qP 2 Bk.d_le) qI qI) (RK.mk wayC.rc wayC.re wayC.rle) (λa=>KH a.1 a.1.Room.length/\a.1.Room.length<=1000/\0<=a.2.1/\a.2.1<a.1.Room.length/\0<=a.2.2/\a.2.2<a.1.Room.length) wayC.fv
def wayC.q:=CD (R:=wayC.row) rfl
def QG:=J @wayC.fv.eq_1<|J @wayC.rc.eq_1<|J @freeC.q @freeC.fv.eq_1
def wayC.ok:AJ 176 wayC.row:=by
 refine FM (tC freeC.ok (tC rept.ok (tC revC.ok tN))) Tryz.func176 ?_;intro a ak;simp only[Tryz.f176,Option.getD];simp only[ZZ,simprocAttr,Ab,QG,BD,D.sc,D.scs,B6,AP];obtain⟨aj,hn,ad,af,am,ax⟩:=ak;obtain⟨x,hx⟩: ∃x,x=a.1:=⟨_,rfl⟩;obtain⟨p,hp⟩: ∃p,p=a.2.1:=⟨_,rfl⟩;obtain⟨q,hq⟩: ∃q,q=a.2.2:=⟨_,rfl⟩;obtain⟨n,hnn⟩: ∃n,n=x.Room.length:=⟨_,rfl⟩;simp only[<-hx,<-hp,<-hq,<-hnn] at aj hn ad af am ax⊢;intro bf;refine Az.os (-1,(n:Int)) [1] ⟨by simp only;omega,by simp only;omega⟩ (λj=>rept.H0_dom _ j) rfl rfl ?_ ?_
 .simp only[ZZ,simprocAttr,Ab,QG,BD,D.sc,D.scs,B6,AP,QZ,rept.ca,rept.H0,Bb,Br]
 simp only[ZZ,simprocAttr,Ab,QG,BD,D.sc,D.scs,B6,AP,QZ,rept.H1,sub,B5,OA,aL,uX];refine⟨by omega,by omega,ad,af,by omega,λ_ _=> ?_⟩;refine AZ.old ⟨{k:Nat//k<=(Dt x n p k).2.length},λk=>⟨[(9,.ch 22),(8,.own 2),(7,.im (.int .i64 n)),(0,.ptr 0 0),(1,.im (.int .i64 p)),(2,.im (.int .i64 q))],[(2,(true,.arr 3 1 ((Dt x n p k.1).1.map Af))),(22,(true,.chan (((Dt x n p k.1).2.drop k.1).map dI) n)),(0,(false,.view [.sl false 1 (x.Room.map DA),.sl false 1 (x.Flow.map DA)]))],23⟩,λk=>n - k.1,λk=>⟨by simp[ZG],by simp⟩,⟨⟨0,by simp⟩,?_⟩,λk=> ?_⟩
 .simp only[ZZ,simprocAttr,Ab,QG,BD,D.sc,D.scs,B6,AP,QZ,sub];simp[Dt,dI]
 obtain⟨k,hk⟩:=k;have Z:=R9 (x:=x) ad af k;have bg:=Qr3 Z;simp only[ZZ,simprocAttr,Ab,QG,BD,D.sc,D.scs,B6,AP,QZ,sub,AS,Du,De];refine⟨λav=> ?_,λav=> ?_⟩
 .have aw:k<(Dt x n p k).2.length:=by omega
  obtain⟨u,hu⟩: ∃u,(Dt x n p k).2[k]? =some u:=⟨_,BB aw⟩;have a8:=Z.q u (Bh hu);rw[GQ hu];refine⟨by simp,λd r ag=> ?_⟩;simp only[Bf,Wz] at ag;obtain⟨rfl,rfl⟩:=ag;simp only[dI];obtain⟨s,hs⟩: ∃s,s=Dt x n p k:=⟨_,rfl⟩;simp only[<-hs] at hu Z⊢;refine AZ.old ⟨{i:Nat//i<=n},λi=>⟨[(36,.im (.int .i64 i.1)),(35,.im (.int .i64 n)),(10,.im (.int .i64 u)),(9,.ch 22),(8,.own 2),(7,.im (.int .i64 n)),(0,.ptr 0 0),(1,.im (.int .i64 p)),(2,.im (.int .i64 q))],[(2,(true,.arr 3 1 ((CZ x u s i.1).1.map Af))),(22,(true,.chan (((CZ x u s i.1).2.drop (k+1)).map dI) n)),(0,(false,.view [.sl false 1 (x.Room.map DA),.sl false 1 (x.Flow.map DA)]))],23⟩,λi=>n - i.1,λi=>⟨by simp[ZG],by simp⟩,⟨⟨0,by simp⟩,?_⟩,λi=> ?_⟩
  .simp only[ZZ,simprocAttr,Ab,QG,BD,D.sc,D.scs,B6,AP,QZ,sub,CZ]
  obtain⟨i,hi⟩:=i;obtain⟨hQ,e,he⟩:=vW Z hu i hi;have a9:=Qr3 hQ;have ay:=hQ.len;simp only[ZZ,simprocAttr,Ab,QG,BD,D.sc,D.scs,B6,AP,QZ,sub,AS,Du,De,ay,aL];refine⟨λaq=>⟨by omega,by omega,λy hy=>⟨λO=>⟨⟨hnn▸aj,a8.1,by omega,by omega⟩,λhf=>⟨by omega,by omega,λy2 _=>⟨by omega,⟨i+1,by omega⟩,by simp only;omega,by rw[AH (by omega) (by omega)];simp only;omega,?_⟩⟩,λhf=>⟨⟨i+1,by omega⟩,by simp only;omega,by rw[AH (by omega) (by omega)];simp only;omega,?_⟩⟩,λO=>⟨⟨i+1,by omega⟩,by simp only;omega,by rw[AH (by omega) (by omega)];simp only;omega,?_⟩⟩⟩,λaq=> ?_⟩
  .have Q:CZ x u s (i+1)=((CZ x u s i).1.set i u,(CZ x u s i).2++[(i:Int)]):=by
    rw[CZ,H5,Al ⟨by rw[hy,AW];exact O,hf⟩]
   have bd:=(CL.1 hu).1;simp only[Q];refine⟨trivial,?_⟩;rw[Zdy (by rw[he,Bz];omega),CV];rfl
  .have Q:CZ x u s (i+1)=CZ x u s i:=by
    rw[CZ,H5,Ag (λh=>hf h.2)]
   simp only[Q];exact⟨trivial,trivial⟩
  .have Q:CZ x u s (i+1)=CZ x u s i:=by
    rw[CZ,H5,Ag (λh=>O (by have:=h.1;rw[hy,AW] at this;exact this))]
   simp only[Q];exact⟨trivial,trivial⟩
  .have au:i=n:=by omega
   have Q:Dt x n p (k+1)=CZ x u s i:=by rw[Dt,<-hs,hu,au]
   refine⟨⟨k+1,by rw[Q,he,Bz];have:=(CL.1 hu).1;omega⟩,by simp only;omega,?_⟩;simp only[Q];exact⟨trivial,trivial⟩
 .have be:(Dt x n p k).2.length=k:=by omega
  have hE:Dt x n p k=B9 x n p:=by
   have:=NH x n p (n - k) k (by omega)
   rw[show k+(n - k)=n by omega] at this;exact this.symm
  have ai:=Z.len;refine⟨am,by omega,by omega,λy hy=>⟨λO=> ?_,λO=> ?_⟩⟩
  .simp only[CE,<-hE,hy,AW];rw[Al O];rfl
  have az:q∈(Dt x n p k).2:=by
   have:=(Z.mem q.toNat y hy).1 (by omega)
   rwa [show (q.toNat:Int)=q by omega] at this
  obtain⟨i,hi⟩:=W1.1 az;obtain⟨d,ba,ab,aa⟩:=Qq3 Z hi;have bb:=(CL.1 hi).1;have a0:vH (Dt x n p k).1 p q n=d:=Qqr (by omega) ab aa;have hW:CE x n p q=(IA (Dt x n p k).1 q d).reverse:=by
   simp only[CE,<-hE,hy,AW];rw[Ag O,a0]
  obtain⟨G,hpar⟩: ∃G,G=(Dt x n p k).1:=⟨_,rfl⟩;simp only[<-hpar] at ai ab aa hW⊢;refine AZ.ren ⟨{j:Nat//j<=d},λj=>⟨[(13,.im (.int .i64 (DO G q j.1))),(12,.own 24),(8,.own 2),(1,.im (.int .i64 p))],[(24,(true,.arr 3 1 ((IA G q j.1).map Af))),(2,(true,.arr 3 1 (G.map Af)))],25⟩,λj=>d - j.1,λj=>⟨by simp[ZG],by simp⟩,⟨⟨0,by omega⟩,[(24,some 23)],?_⟩,λj=> ?_⟩
  .simp only[Am];simp only[ZZ,simprocAttr,Ab,QG,BD,D.sc,D.scs,B6,AP,QZ,AN,AM];exact⟨rfl,rfl⟩
  obtain⟨j,hj⟩:=j;have ao:(IA G q j).length=j+1:=by simp[IA]
  simp only[ZZ,simprocAttr,Ab,QG,BD,D.sc,D.scs,B6,AP,QZ,sub,AS,ao];refine⟨λac=> ?_,λac=> ?_⟩
  .have ah:j<d:=by
    rcases FR j d with h|h
    .exact h
    .exact absurd (by rw[show j=d by omega];exact ab) ac
   obtain⟨j2,g1,g2⟩:=tZ Z hi j (λj' bc=>by rw[<-hpar];exact aa j' (by omega));rw[<-hpar] at g2;have an:=Z.q _ (Bh g2);refine⟨an.1,by omega,by omega,λz hz=>⟨by omega,⟨j+1,by omega⟩,[(24,some 26)],by simp only;omega,?_⟩⟩;have Q:DO G q (j+1)=z:=by rw[DO,hz,AW]
   have e2:IA G q (j+1)=IA G q j++[z]:=by
    simp only[IA];rw[XQ,CV,Bf,Bg,Q]
   simp only[Am];simp only[ZZ,simprocAttr,Ab,QG,BD,D.sc,D.scs,B6,AP,QZ,AN,AM,Q,e2,CV]
  .have ah:j=d:=by
    have h1:=HJ.1 ac;rcases FR j d with h|h
    .exact absurd h1 (aa j h)
    .omega
   subst ah;refine Az.os (IA G q j) [24] trivial (λi=>revC.H0_dom _ i) rfl rfl ?_ ?_
   .simp only[ZZ,simprocAttr,Ab,QG,BD,D.sc,D.scs,B6,AP,QZ,revC.ca,revC.H0,Bb,Br]
   .simp only[ZZ,simprocAttr,Ab,QG,BD,D.sc,D.scs,B6,AP,QZ,revC.H1,sub,Br];rw[hW];exact VY (by simp[IA])
def GU(t:Int)(bs:List Ai):List Ai:=bs.filter λb=>decide (t<=b.Strength)
def QB(g:Int)(r:List Int)(l:List Int):Nat->List Int
 |0=>l
 |k+1=>(QB g r l k).set (r[k]?.getD 0).toNat g
def KF(gs:List (List Int))(l:List Int):Nat->List Int
 |0=>l
 |i+1=>QB i (gs[i]?.getD []) (KF gs l i) (gs[i]?.getD []).length
def Qkb(g:Int)(r l:List Int): ∀k,(QB g r l k).length=l.length
 |0=>rfl
 |k+1=>by simp only[QB,GX,Qkb g r l k]
def tQ(gs:List (List Int))(l:List Int): ∀i,(KF gs l i).length=l.length
 |0=>rfl
 |i+1=>by simp only[KF,Qkb,tQ gs l i]
def RA(n:Nat)(gs:List (List Int)):List Int:=KF gs (List.replicate n 0) gs.length
def Cd(nm:List Int)(v:Int):Int:=nm[v.toNat]?.getD 0
def HX(nm:List Int):List Ai->List Ai
 |[]=>[]
 |b::r=>if Cd nm b.A=Cd nm b.B then HX nm r else ⟨Bt (Cd nm b.A) (Cd nm b.B),Bo (Cd nm b.A) (Cd nm b.B),b.Strength⟩::HX nm r
def Qp2(nm:List Int): ∀(a b:List Ai),HX nm (a++b)=HX nm a++HX nm b
 |[],b=>rfl
 |x::r,b=>by simp only[Ci,HX,Qp2 nm r b];split<;>rfl
def Qjq(nm:List Int): ∀(a:List Ai),(HX nm a).length<=a.length
 |[]=>AU _
 |x::r=>by have:=Qjq nm r;simp only[HX];split<;>simp only[CR]<;>omega
def Qln(t:Int)(bs:List Ai):(GU t bs).length<=bs.length:=Zfb _ _
def Qjs(t:Int){bs:List Ai}{k:Nat}{b:Ai}(h:bs[k]? =some b):GU t (bs.take (k+1))=GU t (bs.take k)++if t<=b.Strength then [b] else []:=by
 rw[Ji,h];simp only[GU,List.filter_append,Zec,Zeo,List.filter_nil,C7]
def pH(own:List Int)(i:Nat): ∀k,∀v∈DB own i k,(i:Int)<=v/\v<i+k
 |0,v,h=>by simp[DB] at h
 |k+1,v,h=>by
  simp only[DB,B2] at h;rcases h with h|h
  .have:=pH own i k v h;omega
  .split at h
   .rw[BL] at h;omega
   .simp at h
def Qvq(own:List Int)(n:Nat): ∀k,k<=n-> ∀r∈BK own n k,∀v∈r,0<=v/\v<n
 |0,_,r,h,_,_=>by simp[BK] at h
 |k+1,G,r,h,v,z=>by
  simp only[BK,B2] at h;rcases h with h|h
  .exact Qvq own n k (by omega) r h v z
  .split at h
   .rw[BL] at h;subst h
    have:=pH own k (n - k) v z
    omega
   .simp at h
def Qps(n:Nat)(bs:List Ai): ∀r∈Wl (n:Int) bs,∀v∈r,0<=v/\v<n:=by
 intro r z v G
 have:=Qvq (Cu n bs bs.length) n n (AU _) r (by simpa[Wl] using z) v G
 omega
def Qvc(nm:List Int){bs:List Ai}{k:Nat}{b:Ai}(h:bs[k]? =some b):HX nm (bs.take (k+1))=HX nm (bs.take k)++if Cd nm b.A=Cd nm b.B then [] else [⟨Bt (Cd nm b.A) (Cd nm b.B),Bo (Cd nm b.A) (Cd nm b.B),b.Strength⟩]:=by
 rw[Ji,h];simp only[Zec,Qp2,HX]
def Ov(n:Int)(bs:List Ai)(t:Int):List (List Int):=Wl n (GU t bs)
def Cv(n:Int)(bs:List Ai)(t:Int):Int×List Ai:=((Ov n bs t).length,HX (RA n.toNat (Ov n bs t)) bs)
def shrunk.fv(a:Int×(List Ai)×Int):Int×(List Ai):=(Cv) (a.1) (a.2.1) (a.2.2)
def shrunk.row:AG:=vK (b3 qI (qS Ai.d_le Ai.c_n) qI) (r2 rI (rS Ai.d_le Ai.c_n)) (λa=>0<=a.1/\a.1<=1000000/\LA a.1 a.2.1/\a.2.1.length<=1000000) shrunk.fv
def shrunk.q:=B3 (R:=shrunk.row) rfl
def O8:=J @shrunk.fv.eq_1<|J @l06Groups.q<|J @l06Groups.fv.eq_1<|J @l00Min.q<|J @l00Min.fv.eq_1<|J @l00Max.q @l00Max.fv.eq_1
def shrunk.ok:AJ 81 shrunk.row:=by
 refine vw (tC l06Groups.ok (tC l00Min.ok (tC l00Max.ok tN))) Tryz.func81 ?_;intro a ah;simp only[Tryz.f81,Option.getD];simp only[ZZ,simprocAttr,Ab,O8];obtain⟨h0,h1,aa,ai⟩:=ah;obtain⟨n,hn⟩: ∃n:Nat,a.1=n:=⟨a.1.toNat,by omega⟩;obtain⟨bs,hbsd⟩: ∃bs,bs=a.2.1:=⟨_,rfl⟩;obtain⟨t,ht⟩: ∃t,t=a.2.2:=⟨_,rfl⟩;simp only[hn,<-hbsd,<-ht] at h0 h1 aa ai⊢;refine AZ.ren ⟨{k:Nat//k<=bs.length},λk=>⟨[(9,.im (.int .i64 k.1)),(8,.own 2),(0,.im (.int .i64 n)),(1,.im (.sl false 3 (bs.map Ai.c))),(2,.im (.int .i64 t))],[(2,(true,.arr 161 3 ((GU t (bs.take k.1)).map Ai.c)))],3⟩,λk=>bs.length - k.1,λk=>⟨by simp[ZG],by simp⟩,⟨⟨0,by simp⟩,[(2,some 1)],?_⟩,λk=> ?_⟩
 .simp only[Am];simp only[ZZ,simprocAttr,Ab,O8,AN,AM];rfl
 obtain⟨k,ab⟩:=k;have Z:=Qln t (bs.take k);rw[CB] at Z;simp only[ZZ,simprocAttr,Ab,O8,sub,AS,Oc,NZ,Ob,BZ,D.one,EL,Fu,Jn];intro _;refine⟨λO=>⟨O,λb Q=>⟨λhs=>⟨O,λb' z=>⟨by omega,⟨k+1,by omega⟩,[(2,some 4)],by simp only;omega,?_⟩⟩,λhs=>⟨⟨k+1,by omega⟩,[(2,some 2)],by simp only;omega,?_⟩⟩⟩,λO=> ?_⟩
 .rw[Q] at z;obtain rfl:=AC z;simp only[Am];simp only[ZZ,simprocAttr,Ab,O8,AN,AM,Qjs t Q];rw[AH (by omega) (by omega),Al hs];simp[Ai.c]
 .simp only[Am];simp only[ZZ,simprocAttr,Ab,O8,AN,AM,Qjs t Q];rw[AH (by omega) (by omega),Ag hs,Ck];simp
 have am:k=bs.length:=by omega
 subst am;rw[IF];refine⟨⟨h1,λb Q=>aa b (iK.1 Q).1⟩,by omega,?_⟩;obtain⟨G,hgs⟩: ∃G,G=Wl (n:Int) (GU t bs):=⟨_,rfl⟩;have aj: ∀r∈G,∀v∈r,0<=v/\v<n:=by rw[hgs];exact Qps n _
 simp only[<-hgs];clear O Z ab;refine AZ.old ⟨{i:Nat//i<=G.length},λi=>⟨[(12,.im (.int .i64 i.1)),(11,.own 3),(10,.im (.sl false 1 (G.map DA))),(0,.im (.int .i64 n)),(1,.im (.sl false 3 (bs.map Ai.c))),(2,.im (.int .i64 t))],[(3,(true,.arr 2 1 ((KF G (List.replicate n 0) i.1).map Af)))],4⟩,λi=>G.length - i.1,λi=>⟨by simp[ZG],by simp⟩,⟨⟨0,by simp⟩,?_⟩,λi=> ?_⟩
 .simp only[ZZ,simprocAttr,Ab,O8,sub,KF,uX]
 obtain⟨i,aq⟩:=i;simp only[ZZ,simprocAttr,Ab,O8,sub,AS];intro ao;refine⟨λhi=> ?_,λhi=> ?_⟩
 .obtain⟨r,hr⟩: ∃r,G[i]? =some r:=⟨_,BB hi⟩;have an:=aj r (Bh hr);obtain⟨l,hl⟩: ∃l,l=KF G (List.replicate n 0) i:=⟨_,rfl⟩;have au:l.length=n:=by rw[hl,tQ,OA]
  simp only[<-hl];refine AZ.old ⟨{k:Nat//k<=r.length},λk=>⟨[(13,.im (.int .i64 k.1)),(12,.im (.int .i64 i)),(11,.own 3),(10,.im (.sl false 1 (G.map DA))),(0,.im (.int .i64 n)),(1,.im (.sl false 3 (bs.map Ai.c))),(2,.im (.int .i64 t))],[(3,(true,.arr 2 1 ((QB i r l k.1).map Af)))],4⟩,λk=>r.length - k.1,λk=>⟨by simp[ZG],by simp⟩,⟨⟨0,by simp⟩,?_⟩,λk=> ?_⟩
  .simp only[ZZ,simprocAttr,Ab,O8,sub,QB]
  obtain⟨k,ab⟩:=k;have ag:=Qkb (i:Int) r l k;simp only[ZZ,simprocAttr,Ab,O8,sub,AS,hr,ag,aL];refine⟨hi,λr' ac av=> ?_⟩;subst ac;refine⟨λO=>⟨hi,λr' ac=> ?_⟩,λO=>⟨⟨i+1,by omega⟩,by simp only;omega,by rw[AH (by omega) (by omega)];simp only;omega,?_⟩⟩
  .subst ac;refine⟨O,λv hv=> ?_⟩;obtain⟨v1,v2⟩:=an v (Bh hv);refine⟨v1,by omega,by omega,λ_ _=>⟨⟨k+1,by omega⟩,by simp only;omega,by rw[AH (by omega) (by omega)];simp only;omega,?_⟩⟩;simp only[QB,hv,AW]
  .have:k=r.length:=by omega
   simp only[KF,hr,AW,<-hl,this]
 .have ak:i=G.length:=by omega
  subst ak;obtain⟨nm,hnm⟩: ∃nm,nm=KF G (List.replicate n 0) G.length:=⟨_,rfl⟩;have ag:nm.length=n:=by rw[hnm,tQ,OA]
  simp only[<-hnm];refine AZ.ren ⟨{k:Nat//k<=bs.length},λk=>⟨[(15,.im (.int .i64 k.1)),(14,.own 5),(11,.own 3),(10,.im (.sl false 1 (G.map DA))),(0,.im (.int .i64 n)),(1,.im (.sl false 3 (bs.map Ai.c))),(2,.im (.int .i64 t))],[(5,(true,.arr 161 3 ((HX nm (bs.take k.1)).map Ai.c))),(3,(true,.arr 2 1 (nm.map Af)))],6⟩,λk=>bs.length - k.1,λk=>⟨by simp[ZG],by simp⟩,⟨⟨0,by simp⟩,[(5,some 4)],?_⟩,λk=> ?_⟩
  .simp only[Am];simp only[ZZ,simprocAttr,Ab,O8,AN,AM];rfl
  obtain⟨k,ab⟩:=k;have Z:=Qjq nm (bs.take k);rw[CB] at Z;simp only[ZZ,simprocAttr,Ab,O8,sub,AS,Oc,NZ,Ob,BZ,D.one,EL,Fu,Jn];intro _;refine⟨λO=>⟨O,λb Q=> ?_⟩,λO=> ?_⟩
  .obtain⟨b1,b2,b3,b4⟩:=aa b (Bh Q);refine⟨b1,by omega,by omega,λx hx=>⟨O,λb' z=> ?_⟩⟩;rw[Q] at z;obtain rfl:=AC z;refine⟨b3,by omega,by omega,λy hy=> ?_⟩;have e1:Cd nm b.A=x:=by simp only[Cd,hx,AW]
   have e2:Cd nm b.B=y:=by simp only[Cd,hy,AW]
   have ad:=Qvc nm Q;rw[e1,e2] at ad;refine⟨λaf=>⟨O,λb' z=>⟨by omega,⟨k+1,by omega⟩,[(5,some 7)],by simp only;omega,?_⟩⟩,λaf=>⟨⟨k+1,by omega⟩,[(5,some 5)],by simp only;omega,?_⟩⟩
   .rw[Q] at z;obtain rfl:=AC z;simp only[Am];simp only[ZZ,simprocAttr,Ab,O8,AN,AM,ad];rw[AH (by omega) (by omega),Ag af];simp[Ai.c]
   .simp only[Am];simp only[ZZ,simprocAttr,Ab,O8,AN,AM,ad];rw[AH (by omega) (by omega),Al (HJ.1 af),Ck];simp
  .have:k=bs.length:=by omega
   subst this;rw[IF];intro _;simp only[Cv,Ov,RA,B5,<-hgs,<-hnm]
def Qk5(s:AE): ∀(l:List Ak) (i:Nat),L6 s i l=true-> ∀g∈l,1<=g.Strength/\g.Strength<=4
 |[],_,_,_,h=>by cases h
 |x::r,i,h,g,z=>by
  simp only[L6,Bc,Bj,C7] at h;rcases Bw.1 z with rfl|z
  .exact⟨h.1.2.1.1,h.1.2.1.2⟩
  .exact Qk5 s r _ h.2 g z
def Qlf(s:AE): ∀(l:List Tile) (i:Nat),JY s i l=true-> ∀t∈l,t.Sides.length=4/\ ∀g∈t.Sides,0<=g/\g<=s.Glues.length
 |[],_,_,_,h=>by cases h
 |x::r,i,h,t,z=>by
  simp only[JY,Bc,C7,Fk,Bj] at h;rcases Bw.1 z with rfl|z
  .exact⟨h.1.2.1,λg G=>⟨(h.1.2.2.2 g G).1,(h.1.2.2.2 g G).2⟩⟩
  .exact Qlf s r _ h.2 t z
def sV{s:AE}(h:FO s=true):C5 s:=by
 simp only[FO,Bc,C7] at h;exact⟨by omega,Qlf s _ _ h.2.2,Qk5 s _ _ h.2.1⟩
def Xr{s:AE}{a:Ao}(h:HA s a=true):HG s a/\a.Tiles.length<=500:=by
 simp only[HA,Bc,C7,Fk,Bj] at h;exact⟨⟨h.1.1,λx z=>⟨(h.2 x z).1,by have:=(h.2 x z).2;omega⟩⟩,h.1.2⟩
def ZI(p:Ad)(d:Int):CF p d≠p:=by
 intro h;have G:(CF p d).X=p.X:=by rw[h]
 have z:(CF p d).Y=p.Y:=by rw[h]
 simp only[CF] at G z;split at G
 .rename_i h0;rw[Al h0] at z;simp only at z;omega
 .rename_i h0;rw[Ag h0] at z;split at G
  .simp only at G;omega
  .rename_i O;rw[Ag O] at z;split at G
   .rename_i Q;rw[Al Q] at z;simp only at z;omega
   .simp only at G;omega
def jP(a:Ao)(i:Nat)(d:Int)(Z:i<a.Tiles.length):Hw a i d≠i:=by
 intro h;rcases aP (λx=>decide (x.At=CF ((a.Tiles[(i:Int).toNat]?.map Aq.At).getD ⟨0,0⟩) d)) a.Tiles 0 with ⟨_,z⟩|⟨j,x,O,z,Q⟩
 .simp only[Hw,z] at h;omega
 .simp only[Hw,z,FS] at h;have G:j=i:=by omega
  subst G
  have:=nS O
  simp only[C7,B5,Q,Ez,AW] at this;exact ZI _ _ this.symm
def KQ(n:Int)(b:Ai):Prop:=(0<=b.A/\b.A<n/\0<=b.B/\b.B<n)/\b.A≠b.B/\0<b.Strength/\b.Strength<=4
def Yg{s:AE}(hs:C5 s)(a:Ao)(i:Nat)(hi:i<a.Tiles.length)(d:Int): ∀b∈XD s a i d,KQ a.Tiles.length b:=by
 intro b z;simp only[XD] at z;split at z
 .rename_i h0;split at z
  .rename_i G;rw[BL] at z;subst z;have O:=Lm a i d;have Q:=jP a i d hi;have Z:LC s (GR a i) d (GR a (Hw a i d))<=4:=by
    simp only[LC];split
    .exact (Qp1 hs _).2
    .omega
   exact⟨⟨by simp only;omega,by simp only;omega,h0,O⟩,λh=>Q h.symm,G,Z⟩
  .simp at z
 .simp at z
def Qzz{s:AE}(hs:C5 s)(a:Ao)(i:Nat)(z:i<a.Tiles.length): ∀k,∀b∈KC s a i k,KQ a.Tiles.length b
 |0,b,h=>by simp[KC] at h
 |k+1,b,h=>by
  simp only[KC,B2] at h;rcases h with h|h
  .exact Qzz hs a i z k b h
  .exact Yg hs a i z _ b h
def Qro{s:AE}(hs:C5 s)(a:Ao): ∀k,k<=a.Tiles.length-> ∀b∈FY s a k,KQ a.Tiles.length b
 |0,_,b,h=>by simp[FY] at h
 |k+1,z,b,h=>by
  simp only[FY,B2] at h;rcases h with h|h
  .exact Qro hs a k (by omega) b h
  .exact Qzz hs a k (by omega) _ b h
def MP(g:Int)(r:List Int)(m:Int)(h0:0<=g)(O:g<m)(l:List Int)(G: ∀x∈l,0<=x/\x<m): ∀k,∀x∈QB g r l k,0<=x/\x<m
 |0=>G
 |k+1=>by
  intro x z;simp only[QB] at z;rcases bY z with z|z
  .exact MP g r m h0 O l G k x z
  .omega
def MO(gs:List (List Int))(l:List Int)(z: ∀x∈l,0<=x/\x<(gs.length:Int)): ∀i,i<=gs.length-> ∀x∈KF gs l i,0<=x/\x<(gs.length:Int)
 |0,_=>z
 |i+1,G=>MP _ _ _ (by omega) (by omega) _ (MO gs l z i (by omega)) _
def Qy8{n:Nat}{gs:List (List Int)}(G:0<gs.length)(v:Int):0<=Cd (RA n gs) v/\Cd (RA n gs) v<(gs.length:Int):=by
 simp only[Cd];cases h:(RA n gs)[v.toNat]? with
 |none=>simp;omega
 |some x=>
  rw[AW];exact MO gs _ (λx z=>by have:=QH z;omega) _ (AU _) x (Bh h)
def Qvw{n:Nat}{gs:List (List Int)}(z:0<gs.length): ∀(bs:List Ai),(∀b∈bs,0<b.Strength/\b.Strength<=4)-> ∀b∈HX (RA n gs) bs,KQ gs.length b
 |[],_,b,h=>by simp[HX] at h
 |x::r,O,b,h=>by
  simp only[HX] at h;have ih:=Qvw (n:=n) z r (λy Z=>O y (BW _ Z)) b;split at h
  .exact ih h
  .rename_i Q;rcases Bw.1 h with rfl|h
   .have h1:=Qy8 (n:=n) z x.A;have h2:=Qy8 (n:=n) z x.B;have G:=O x (BS ..);refine⟨?_,?_,G.1,G.2⟩
    .simp only[Bt,Bo]
     split<;>split<;>omega
    .simp only[Bt,Bo]
     split<;>split<;>omega
   .exact ih h
def Nw{n:Int}{bs:List Ai}{t:Int}(O: ∀b∈bs,KQ n b)(hl:bs.length<=1000000)(h0:0<(Cv n bs t).1)(Z:(Cv n bs t).1<=64):aV (Cv n bs t)/\QA (Cv n bs t).2:=by
 have G:=Qvw (n:=n.toNat) (gs:=Ov n bs t) (by simp only[Cv] at h0;omega) bs (λb z=>⟨(O b z).2.2.1,(O b z).2.2.2⟩);have Q:=Qjq (RA n.toNat (Ov n bs t)) bs;refine⟨⟨by omega,by omega,by simp only[Cv];omega,λb z=>(G b z).1,λb z=>(G b z).2.1⟩,λb z=> ?_⟩
 have:=(G b z).2.2
 omega
def gR(s:AE)(a:Ao)(t:Int):Bool×Int:=
 if 64<(Cv a.Tiles.length (FY s a a.Tiles.length) t).1 then (false,4)
 else if (Cv a.Tiles.length (FY s a a.Tiles.length) t).1<2 then (true,0)
 else (decide (t<=(FZ (Cv a.Tiles.length (FY s a a.Tiles.length) t).1 (Cv a.Tiles.length (FY s a a.Tiles.length) t).2 ((Cv a.Tiles.length (FY s a a.Tiles.length) t).1 - 1).toNat).1),0)
def l07Stable.fv(a:AE×Ao×Int):Bool×Int:=(gR) (a.1) (a.2.1) (a.2.2)
def l07Stable.row:AG:=vK (b3 (qP 2 AE.d_le) (qP 1 Ao.d_le) qI) (r2 rB rI) (λa=>C5 a.1/\HG a.1 a.2.1/\a.2.1.Tiles.length<=500) l07Stable.fv
def l07Stable.q:=B3 (R:=l07Stable.row) rfl
def l07Stable.ok:AJ 59 l07Stable.row:=by
 refine vw (tC l06Bonds.ok (tC shrunk.ok (tC weakC.ok tN))) Tryz.func59 ?_;intro a z;simp only[Tryz.f59,Option.getD];simp only[ZZ,simprocAttr,Ab,l07Stable.fv,l06Bonds.q,l06Bonds.fv,shrunk.q,shrunk.fv,weakC.q,weakC.fv];obtain⟨G,Q,h3⟩:=z;have O:=Qro G a.2.1 _ (AU _);have hl:=tE a.1 a.2.1 a.2.1.Tiles.length;refine⟨⟨G,Q,by omega⟩,⟨by omega,λb Z=>(O b Z).1,by omega⟩,?_⟩;simp only[gR];split
 .rfl
 .rename_i c1;split
  .rfl
  .rename_i c2;obtain⟨p1,p2⟩:=Nw (t:=a.2.2) O (by omega) (by omega) (by omega);exact⟨⟨p1,p2,by omega⟩,rfl⟩
def VO(s:AE)(a:Ao)(t:Int):Bool:=(gR s a t).1 && decide ((gR s a t).2=0)
def Ga(y:AF):Bool:=FO y.Set && (HA y.Set y.Seed && (!y.Seed.Tiles.isEmpty && (Bj y.Temperature 1 16 && VO y.Set y.Seed y.Temperature)))
def l08Ok.fv(a:AF):Bool:=(Ga) a
def l08Ok.row:AG:=vK (b1 (qP 4 AF.d_le)) rB (λa=>True) l08Ok.fv
def l08Ok.q:=B3 (R:=l08Ok.row) rfl
def l08Ok.ok:AJ 25 l08Ok.row:=by
 refine vw (tC l02Ok.ok (tC l03Ok.ok (tC l07Temperature.ok (tC l07Stable.ok tN)))) Tryz.func25 ?_;intro a aa;simp only[Tryz.f25,Option.getD];simp only[ZZ,simprocAttr,Ab,l08Ok.fv,l02Ok.q,l02Ok.fv,l03Ok.q,l03Ok.fv,l07Temperature.q,l07Temperature.fv,l07Stable.q,l07Stable.fv]
 split<;>rename_i c1
 .split<;>rename_i c2
  .have z:HA a.Set a.Seed=true:=by
    simp only[HA,Bc,C7];exact c2
   split<;>rename_i G
   .have O:a.Seed.Tiles.isEmpty=false:=by
     rw[ZdM];intro h;rw[h] at G;simp at G
    split<;>rename_i Q
    .simp only[Ga,Q,FT,nT]
    .refine⟨⟨sV c1,(Xr z).1,(Xr z).2⟩,?_⟩;rw[Jg] at Q;simp only[Ga,c1,z,O,Q,ED,XT,VO]
     split<;>rename_i Z
     .rw[Z,ED]
     .rw[QN] at Z;rw[Z,FT]
   .have O:a.Seed.Tiles=[]:=by
     have:=HJ.1 G
     exact wH (by omega)
    simp[Ga,O]
  .have z:HA a.Set a.Seed=false:=by
    rw[QL];intro h;simp only[HA,Bc,C7] at h;exact c2 h
   simp[Ga,z]
 .rw[QN] at c1;simp[Ga,c1]
def DL(b n:Nat):List (List AV):=(List.range n).map λi=>[AV.own (b+i)]
def BI(b n:Nat)(M:List (List Int)):Ar:=CJ b n (λi=>(true,.arr 2 1 ((M[i]?.getD []).map Af)))
def Gg(j:Nat):Bool:=Nat.blt j 3||((Nat.ble 100 j && Nat.blt j 164)||(Nat.ble 200 j && Nat.blt j 264))
def CT(x:Bk)(n:Nat):Ar:=(0,(true,.cells 259 [.own 1,.own 2]))::(1,(true,.arrA 22 1 (DL 100 n)))::(2,(true,.arrA 22 1 (DL 200 n)))::(BI 100 n x.Room++BI 200 n x.Flow)
def nwC.ca(a:Int×List Ai):List AV:=[.im (.int .i64 a.1),.im (.sl false 3 (a.2.map Ai.c))]
def nwC.H1(a:Int×List Ai):Ar:=CT (Ea a.1.toNat a.2) (min a.1.toNat 64)
def MS(a:Int×List Ai):Prop:=0<=a.1/\a.1<=64/\a.2.length<=1000000/\LA a.1 a.2/\QA a.2/\ ∀b∈a.2,b.A≠b.B
def nwC.row:AG:=Az nwC.ca (λ_=>[]) 0 MS (λ_=>false) (λ_=> .ptr 0 0) nwC.H1 320
def tV(m:Nat): ∀(a b:Ar),AB m (a++b)=(AB m a && AB m b)
 |[],b=>by simp[AB]
 |(i,(z,e))::r,b=>by
  have ih:=tV m r b;cases e<;>simp only[Ci,AB,ih,ZeN]
def Qmd(m:Nat): ∀(a b:Ar),Cg m (a++b)=(Cg m a && Cg m b)
 |[],b=>by simp[Cg]
 |(i,(z,e))::r,b=>by simp only[Ci,Cg,Qmd m r b,ZeN]
def Xs(b n N:Nat)(h:b+n<=N):(DL b n).all (AQ N)=true:=by
 rw[Fk];intro r G;obtain⟨i,z,rfl⟩:=BF.1 G
 have:=CS.1 z
 simp[AQ,AV.bel];omega
def Qkf(nx:Nat): ∀(l:List Nat),Hz nx 0 l=true
 |[]=>rfl
 |x::r=>by
  have:(Nat.blt x nx||Nat.ble (nx+0) x)=true:=by
   rw[Ic,F5,LM];omega
  simp only[Hz,this,Qkf nx r,nU]
def HW(b n:Nat):(DL b n).length=n:=by simp[DL]
def Qo7(b n i:Nat)(h:i<n):(DL b n)[i]? =some [.own (b+i)]:=by simp[DL,IH h]
def Qpf(a b:Ar):FQ (a++b)=FQ a++FQ b:=by
 induction a with
 |nil=>rfl
 |cons x r ih=>obtain⟨i,e⟩:=x;simp only[Ci,FQ,ih]
def XA(m:Nat): ∀(a b:Ar),hget (a++b) m=(hget a m).or (hget b m)
 |[],b=>by simp[hget]
 |(i,e)::r,b=>by
  have ih:=XA m r b;simp only[Ci,hget];cases i==m<;>simp[ih]
def Qpw(b n:Nat)(M:List (List Int))(i:Nat)(h:i<n):hget (BI b n M) (b+i)=some (true,.arr 2 1 ((M[i]?.getD []).map Af)):=aJ _ _ _ _ h
def Qwa(b n:Nat)(M:List (List Int))(m:Nat)(h:m<b\/b+n<=m):hget (BI b n M) m=none:=Qmh _ _ _ _ h
def fL(k:Nat)(M N:List (List Int))(i:Nat)(h:i<k):hget (BI 100 k M++BI 200 k N) (100+i)=some (true,.arr 2 1 ((M[i]?.getD []).map Af)):=by
 rw[XA,Qpw _ _ _ _ h];rfl
def fO(k:Nat)(M N:List (List Int))(i:Nat)(z:k<=100)(h:i<k):hget (BI 100 k M++BI 200 k N) (200+i)=some (true,.arr 2 1 ((N[i]?.getD []).map Af)):=by
 rw[XA,Qwa _ _ _ _ (by omega),Qpw _ _ _ _ h];rfl
def Qxa(b n i:Nat)(K:List AV->Prop)(h:i<n):JZ (DL b n) i K=K [.own (b+i)]:=by
 apply propext;unfold JZ;rw[Qo7 b n i h];exact⟨λh=>h _ rfl,λh row z=>by obtain rfl:=AC z;exact h⟩
def fR(s:A8): ∀(a b:Ar),CQ s (a++b)=(CQ s a/\CQ s b)
 |[],b=>by simp[CQ]
 |(i,e)::r,b=>by simp only[Ci,CQ,fR s r b,oC]
def uG(s:A8)(b n:Nat)(M:List (List Int)):CQ s (BI b n M)= ∀i,i<n->hget s.h (b+i)=some (true,.arr 2 1 ((M[i]?.getD []).map Af)):=by
 have: ∀(f:Nat->Au) (l:List Nat),CQ s (l.map λi=>(b+i,f i))↔ ∀i∈l,hget s.h (b+i)=some (f i):=by
  intro f l;induction l with
  |nil=>simp[CQ]
  |cons i r ih=>simp only[Bf,CQ,ih,Bw,ZeW]
 apply propext;rw[BI,CJ,this];simp only[CS]
def Qrm{n:Nat}{bs:List Ai}(G:LA n bs)(hs:QA bs)(a b:Nat): ∀k,0<=Eo (Cm n bs k) a b/\Eo (Cm n bs k) a b<=2000000*(k:Int)
 |0=>by
  simp only[Eo,Cm,Ln,Hh,O9];split
  .rw[AW,O9];split<;>simp
  .simp
 |k+1=>by
  have ih:=Qrm G hs a b k;obtain⟨z,_⟩:=X0 G k;simp only[Eo,Cm] at ih⊢;split
  .rename_i x O;obtain⟨b1,b2,b3,b4⟩:=G x (Bh O);have h0:=hs x (Bh O);simp only[KP];rw[show x.A=(x.A.toNat:Int) by omega,show x.B=(x.B.toNat:Int) by omega];rw[fJ (n:=n) (by rw[aN];exact z.r) (aI z.rr _ _ _ (by rw[z.r];simp;omega)) _ (by omega) (by omega),fJ z.r z.rr _ (by omega) (by omega)]
   split<;>split<;>omega
  .omega
def U4(k:Nat)(O:k<=64):([0,1,2]++((List.range k).map (100+ ·)++(List.range k).map (200+ ·))).Nodup:=by
 rw[<-Ej];refine lT _ 200 k (lT _ 100 k (by simp) (by simp)) ?_;intro x z;rcases B2.1 z with z|z
 .simp at z;omega
 .obtain⟨i,G,rfl⟩:=BF.1 z
  have:=CS.1 G
  show 100+i<200;omega
def U3(k:Nat)(O:k<=64): ∀x∈([0,1,2]++((List.range k).map (100+ ·)++(List.range k).map (200+ ·))),x<300:=by
 intro x z;rcases B2.1 z with z|z
 .simp at z;omega
 .rcases B2.1 z with z|z<;>obtain⟨i,G,rfl⟩:=BF.1 z<;>have:=CS.1 G
  .show 100+i<300;omega
  .show 200+i<300;omega
def Qyn{π:List (Nat×Option Nat)}{b:Nat}{g:Nat->Nat}{n:Nat}(h: ∀i,i<n->pm π (b+i)=some (g i)){R:List (List AV)}(hR:R=(List.range n).map λi=>[AV.own (g i)]):GZ π (DL b n) R:=by
 subst hR;rw[mS];refine⟨by simp[DL],λi x y G O=> ?_⟩;have z:i<n:=by have:=(CL.1 G).1;rwa [HW] at this
 rw[Qo7 _ _ _ z] at G;rw[Gb,IH z] at O;obtain rfl:=AC G;obtain rfl:=AC O;simp only[Es,mt,h i z,H2,Fu]
def Ql0(b k c:Nat):DL b k++[[.own c]]=(List.range (k+1)).map λi=>[AV.own (if i<k then b+i else c)]:=by
 rw[XQ,CV,DL];congr 1
 .exact QJ λi z=>by rw[Al (CS.1 z)]
 .simp
def uY(k:Nat)(M N:List (List Int))(G:k<=64)(tm:List (Nat×AV))(z:Df 300 tm=true):A8.good ⟨tm,(0,(true,.cells 259 [.own 1,.own 2]))::(1,(true,.arrA 22 1 (DL 100 k)))::(2,(true,.arrA 22 1 (DL 200 k)))::(BI 100 k M++BI 200 k N),300⟩=true:=by
 simp only[A8.good,AB,Cg,z,ED,tV,Qmd,BI];rw[mJ _ _ _ (λi=>rfl),mJ _ _ _ (λi=>rfl),fH _ _ _ _ (by omega),fH _ _ _ _ (by omega),Xs _ _ _ (by omega),Xs _ _ _ (by omega)];rfl
def KX(o:Nat)(h:Gg o=true):o<264:=by
 simp only[Gg,Ic,Bc,F5,LM] at h;omega
def cG(i:Nat)(h:i<64):Gg (100+i)=true:=by
 simp only[Gg,Ic,Bc,F5,LM];omega
def cH(i:Nat)(h:i<64):Gg (200+i)=true:=by
 simp only[Gg,Ic,Bc,F5,LM];omega
def Quc(h:Nat->Option Au)(f:AV->Option AV): ∀(a b:Ar),HZ h f (a++b)↔HZ h f a/\HZ h f b
 |[],b=>by simp[HZ]
 |(i,e)::r,b=>by simp only[Ci,HZ,Quc h f r b,oC]
def Qoq(h:Nat->Option Au)(f:AV->Option AV)(b n:Nat)(M:List (List Int))(H: ∀i,i<n->h (b+i)=some (true,.arr 2 1 ((M[i]?.getD []).map Af))):HZ h f (BI b n M):=by
 have: ∀(l:List Nat),(∀i∈l,i<n)->HZ h f (l.map λi=>(b+i,(true,Ah.arr 2 1 ((M[i]?.getD []).map Af)))):=by
  intro l;induction l with
  |nil=>intro _;simp[HZ]
  |cons i r ih=>
   intro z;simp only[Bf,HZ];refine⟨?_,ih (λj O=>z j (BW _ O))⟩;rw[H i (z i (BS ..))];exact⟨rfl,rfl⟩
 exact this _ (λi G=>CS.1 G)
def Quf{h:Nat->Option Au}{kx:Nat->Option Nat}{m b n:Nat}(G: ∀i,i<n->kx (b+i)=some (b+i)):AA (AA (Bs h kx (m+1))) (DL b n)=some (DL b n):=by
 refine Qnl (g:=λi=>[AV.own (b+i)]) (k:=λi=>[AV.own (b+i)]) _ λi z=> ?_
 simp only[AA,Bs,G i (CS.1 z),kp]
def UE{x:Bk}{n:Nat}(hn:n<=64){kx:Nat->Option Nat}(G: ∀o,Gg o=true->kx o=some o):HZ (hget (CT x n)) (Bs (hget (CT x n)) kx 9) (CT x n):=by
 have k1:kx 1=some 1:=G 1 rfl;have k2:kx 2=some 2:=G 2 rfl;obtain⟨H,hH⟩: ∃H,H=hget (CT x n):=⟨_,rfl⟩;have g0:H 0=some (true,.cells 259 [.own 1,.own 2]):=by rw[hH];rfl
 have g1:H 1=some (true,.arrA 22 1 (DL 100 n)):=by rw[hH];rfl
 have g2:H 2=some (true,.arrA 22 1 (DL 200 n)):=by rw[hH];rfl
 have ga: ∀i,i<n->H (100+i)=some (true,.arr 2 1 ((x.Room[i]?.getD []).map Af)):=by
  intro i z;rw[hH];simp only[CT,hget,Cr _ _ (show 0≠100+i by omega),Cr _ _ (show 1≠100+i by omega),Cr _ _ (show 2≠100+i by omega),Cy];exact fL _ _ _ _ z
 have gb: ∀i,i<n->H (200+i)=some (true,.arr 2 1 ((x.Flow[i]?.getD []).map Af)):=by
  intro i z;rw[hH];simp only[CT,hget,Cr _ _ (show 0≠200+i by omega),Cr _ _ (show 1≠200+i by omega),Cr _ _ (show 2≠200+i by omega),Cy];exact fO _ _ _ _ (by omega) z
 rw[<-hH];simp only[CT,HZ,Quc];refine⟨?_,?_,?_,Qoq _ _ _ _ _ ga,Qoq _ _ _ _ _ gb⟩
 .rw[g0];exact⟨rfl,by simp only[DU,AA,Bs,k1,k2,kp];rfl⟩
 .rw[g1];exact⟨rfl,by simp only[DU];rw[Quf (λi z=>G _ (cG i (by omega)))];rfl⟩
 .rw[g2];exact⟨rfl,by simp only[DU];rw[Quf (λi z=>G _ (cH i (by omega)))];rfl⟩
def MR{x:Bk}{n:Nat}(hn:n<=64){p:Nat×Au}(hp:p∈CT x n):Gg p.1=true/\p.2.1=true:=by
 simp only[CT,Bw,B2,BI,CJ,BF,CS] at hp;rcases hp with rfl|rfl|rfl|⟨i,z,rfl⟩|⟨i,z,rfl⟩
 .exact⟨rfl,rfl⟩
 .exact⟨rfl,rfl⟩
 .exact⟨rfl,rfl⟩
 .exact⟨cG i (by omega),rfl⟩
 .exact⟨cH i (by omega),rfl⟩
def kA{a:Int×List Ai}{p:Nat×Au}(hp:p∈nwC.H1 a):Gg p.1=true/\p.2.1=true:=MR (wP _ _) hp
def nwC.ok:AJ 152 nwC.row:=by
 refine ow tN Tryz.func152 (exB:=Gg) (R:=λ_ r=>r= .ptr 0 0) (λ_=>rfl)
  (λa=>by simp[nwC.ca,Gg,AQ,AV.bel,AB,Cg,Cs,Ah.nms,Ax,AV.nms,An,hget]) (λa p hp=> ?_) (λa r h=>by subst h;exact D2.refl _) ?_
 rotate_left
 intro a ao;simp only[Tryz.f152,Option.getD,nwC.ca,Gg];simp(disch:=omega)only[ZZ,simprocAttr,Ab,Av,nwC.ca,Gg];obtain⟨h0,O,hl,Q,ag,an⟩:=ao;obtain⟨n,hn⟩: ∃n:Nat,a.1=n:=⟨a.1.toNat,by omega⟩;obtain⟨bs,hbsd⟩: ∃bs,bs=a.2:=⟨_,rfl⟩;simp only[<-hbsd] at hl Q ag an;rw[hn] at h0 O Q;have hH1:nwC.H1 a=CT (Ea n bs) n:=by simp only[nwC.H1,hn,B5,hbsd];rw[Zff (by omega)]
 rw[hH1];clear hH1;simp only[hn,<-hbsd];refine AZ.ren ⟨{k:Nat//k<=n},λk=>⟨[(11,.im (.int .i64 k.1)),(10,.im (.int .i64 n)),(5,.ptr 0 0),(0,.im (.int .i64 n)),(1,.im (.sl false 3 (bs.map Ai.c)))],(0,(true,.cells 259 [.own 1,.own 2]))::(1,(true,.arrA 22 1 (DL 100 k.1)))::(2,(true,.arrA 22 1 (DL 200 k.1)))::(BI 100 k.1 (List.replicate n (List.replicate n 0))++BI 200 k.1 (List.replicate n (List.replicate n 0))),300⟩,λk=>n - k.1,λk=>⟨?_,by simp⟩,⟨⟨0,by simp⟩,[(1,none),(2,none)],?_⟩,λk=> ?_⟩
 .exact uY _ _ _ (by omega) _ (by simp[Df,AV.bel])
 .simp only[Am,BI,CJ,DL,Ho,Bg,Ck];simp(disch:=omega)only[ZZ,simprocAttr,Ab,Av,nwC.ca,Gg,AN,AM]
 obtain⟨k,au⟩:=k;simp(disch:=omega)only[ZZ,simprocAttr,Ab,Av,nwC.ca,Gg,sub,AS,Cx,Qkf,Gc,nR,EE,Hr,Xs,HW];refine⟨λhk=>⟨by omega,by omega,by omega,by omega,⟨k+1,by omega⟩,[(1,some 302),(2,some 305),(100+k,some 300),(200+k,some 303)],by simp only;omega,?_⟩,λhk=> ?_⟩
 .have hg: ∀i,i<n->(List.replicate n (List.replicate n (0:Int)))[i]?.getD []=List.replicate n 0:=by
   intro i z;rw[O9,Al z,AW]
  have ad: ∀i,i<k->pm [(1,some 302),(2,some 305),(100+k,some 300),(200+k,some 303)] (100+i)=some (100+i):=by
   intro i z;simp only[pm];rw[Ag (by omega),Ag (by omega),Ag (by omega),Ag (by omega)]
  have af: ∀i,i<k->pm [(1,some 302),(2,some 305),(100+k,some 300),(200+k,some 303)] (200+i)=some (200+i):=by
   intro i z;simp only[pm];rw[Ag (by omega),Ag (by omega),Ag (by omega),Ag (by omega)]
  have ab:pm [(1,some 302),(2,some 305),(100+k,some 300),(200+k,some 303)] (100+k)=some 300:=by
   simp only[pm];rw[Ag (by omega),Ag (by omega),Al trivial]
  have ac:pm [(1,some 302),(2,some 305),(100+k,some 300),(200+k,some 303)] (200+k)=some 303:=by
   simp only[pm];rw[Ag (by omega),Ag (by omega),Ag (by omega),Al trivial]
  have q0:pm [(1,some 302),(2,some 305),(100+k,some 300),(200+k,some 303)] 0=some 0:=by
   simp only[pm];rw[Ag (by omega),Ag (by omega),Ag (by omega),Ag (by omega)]
  have q1:pm [(1,some 302),(2,some 305),(100+k,some 300),(200+k,some 303)] 1=some 302:=rfl;have q2:pm [(1,some 302),(2,some 305),(100+k,some 300),(200+k,some 303)] 2=some 305:=rfl;obtain⟨π,hπ⟩: ∃π,π=[(1,some 302),(2,some 305),(100+k,some 300),(200+k,some 303)]:=⟨_,rfl⟩;rw[<-hπ] at ad af ab ac q0 q1 q2⊢;refine⟨by rw[hπ];exact⟨by omega,by omega,by omega,by omega,trivial⟩,?_,?_,?_⟩
  .rw[mN,hπ];simp only[FQ,Qpf,BI,fI];refine mQ _ _ (U4 (k+1) (by omega)) ?_;intro x hx y hy m ah ai;have a9:=U3 (k+1) (by omega) x hx;have ba:=U3 (k+1) (by omega) y hy;simp only[pm] at ah ai
   repeat' split at ah
   all_goals repeat' split at ai
   all_goals simp only[AO] at ah ai
   all_goals omega
  .simp only[RC,A9];simp(disch:=omega)only[ZZ,simprocAttr,Ab,Av,nwC.ca,Gg,q0];rw[AH (by omega) (by omega)];omega
  .simp only[HC,Qns,BI,mF];refine⟨?_,?_,?_,λi z=> ?_,λi z=> ?_⟩
   .simp(disch:=omega)only[ZZ,simprocAttr,Ab,Av,nwC.ca,Gg,q0,q1,q2]
   .simp(disch:=omega)only[ZZ,simprocAttr,Ab,Av,nwC.ca,Gg,q0,q1,q2];refine Qyn (g:=λi=>if i<k then 100+i else 300) (λi z=> ?_) (Ql0 100 k 300);by_cases h:i<k
    .rw[Al h,ad i h]
    .rw[Ag h,show i=k by omega,ab]
   .simp(disch:=omega)only[ZZ,simprocAttr,Ab,Av,nwC.ca,Gg,q0,q1,q2];refine Qyn (g:=λi=>if i<k then 200+i else 303) (λi z=> ?_) (Ql0 200 k 303);by_cases h:i<k
    .rw[Al h,af i h]
    .rw[Ag h,show i=k by omega,ac]
   .by_cases h:i<k
    .rw[ad i h,hg i (by omega)];simp only[Fa,hget,Cr _ _ (show 0≠100+i by omega),Cr _ _ (show 305≠100+i by omega),Cr _ _ (show 303≠100+i by omega),Cr _ _ (show 302≠100+i by omega),Cr _ _ (show 300≠100+i by omega),Cy,Xv];have h9:=fL k (List.replicate n (List.replicate n 0)) (List.replicate n (List.replicate n 0)) i h;simp only[BI] at h9;simp (disch:=omega) only[iA,iI,Cr,QI,Dp,CN,h9,hg,KS,Er,Fu]
    .rw[show i=k by omega,ab,hg k (by omega)];simp(disch:=omega)only[ZZ,simprocAttr,Ab,Av,nwC.ca,Gg,uX]
   .by_cases h:i<k
    .rw[af i h,hg i (by omega)];simp only[Fa,hget,Cr _ _ (show 0≠200+i by omega),Cr _ _ (show 305≠200+i by omega),Cr _ _ (show 303≠200+i by omega),Cr _ _ (show 302≠200+i by omega),Cr _ _ (show 300≠200+i by omega),Cy,Xv];have h9:=fO k (List.replicate n (List.replicate n 0)) (List.replicate n (List.replicate n 0)) i (by omega) h;simp only[BI] at h9;simp (disch:=omega) only[iA,iI,Cr,QI,Dp,CN,h9,hg,KS,Er,Fu]
    .rw[show i=k by omega,ac,hg k (by omega)];simp(disch:=omega)only[ZZ,simprocAttr,Ab,Av,nwC.ca,Gg,uX]
 .intro _;have av:k=n:=by omega
  subst av;clear hk au;refine AZ.old ⟨{j:Nat//j<=bs.length},λj=>⟨[(38,.im (.int .i64 j.1)),(37,.im (.int .i64 bs.length)),(36,.im (.sl false 3 (bs.map Ai.c))),(5,.ptr 0 0)],(0,(true,.cells 259 [.own 1,.own 2]))::(1,(true,.arrA 22 1 (DL 100 k)))::(2,(true,.arrA 22 1 (DL 200 k)))::(BI 100 k (Cm k bs j.1).Room++BI 200 k (Cm k bs j.1).Flow),300⟩,λj=>bs.length - j.1,λj=>⟨?_,by simp⟩,⟨⟨0,by simp⟩,?_⟩,λj=> ?_⟩
  .exact uY _ _ _ (by omega) _ (by simp[Df,AV.bel])
  .simp only[sub,GM,CQ,A9,hget,fR];simp(disch:=omega)only[ZZ,simprocAttr,Ab,Av,nwC.ca,Gg,sub,fR,uG,Cm,Ln];refine⟨λi z=> ?_,λi z=> ?_⟩
   .rw[Ag (by omega),Ag (by omega),Ag (by omega)];exact fL _ _ _ _ z
   .rw[Ag (by omega),Ag (by omega),Ag (by omega)];exact fO _ _ _ _ (by omega) z
  obtain⟨j,hj⟩:=j;obtain⟨aa,_⟩:=X0 Q j;obtain⟨x,hx⟩: ∃x,x=Cm k bs j:=⟨_,rfl⟩;simp only[<-hx] at aa⊢;simp(disch:=omega)only[ZZ,simprocAttr,Ab,Av,nwC.ca,Gg,sub,AS,Cx,HW];refine⟨λam=>⟨am,λb hb=> ?_⟩,λam=> ?_⟩
  .obtain⟨b1,b2,b3,b4⟩:=Q b (Bh hb);have az:=an b (Bh hb);have a0:=ag b (Bh hb);obtain⟨u,hu⟩: ∃u:Nat,b.A=u:=⟨b.A.toNat,by omega⟩;obtain⟨v,hv⟩: ∃v:Nat,b.B=v:=⟨b.B.toNat,by omega⟩;have Z:u<k:=by omega
   have G:v<k:=by omega
   have ay:u≠v:=by omega
   simp only[hu,hv,B5];refine⟨by omega,by omega,by omega,?_⟩;have hr: ∀i,i<k->(x.Room[i]?.getD []).length=k:=by
    intro i z;rw[BB (by rw[aa.r];exact z),AW];exact aa.rr _ (RS _)
   have aw:=hr u Z;have ax:=hr v G;simp(disch:=omega)only[ZZ,simprocAttr,Ab,Av,nwC.ca,Gg,sub,AS,Wp,Cx,HW,Cr,Q4,fL,hu,hv,B5,aw,ax,Qxa,aL,GX,Gc,fR,uG];have aj:=Qrm Q ag u v j;have ak:=Qrm Q ag v u j;rw[<-hx] at aj ak;refine⟨by omega,G,by omega,G,λx1 e1=>⟨G,by omega,G,λx2 _=>⟨.inr (by omega),G,G,by omega,Z,by omega,Z,λx3 e3=>⟨Z,by omega,Z,λx4 _=>⟨.inr (by omega),⟨j+1,by omega⟩,by simp only;omega,by rw[AH (by omega) (by omega)];simp only;omega,?_⟩⟩⟩⟩⟩;have r1:Eo x u v=x1:=by simp only[Eo,Hh,e1,AW]
   have r3:Eo x v u=x3:=by simp only[Eo,Hh,e3,AW]
   rw[r1] at aj;rw[r3] at ak;rw[AH (by omega) (by omega),AH (by omega) (by omega)];have hN:Cm k bs (j+1)=KP x b:=by simp only[Cm,hb,<-hx]
   have hR: ∀i,i<k->(Cm k bs (j+1)).Room[i]?.getD []=if v=i then (x.Room[v]?.getD []).set u (x3+b.Strength) else if u=i then (x.Room[u]?.getD []).set v (x1+b.Strength) else x.Room[i]?.getD []:=by
    intro i z;rw[hN];simp only[KP,LF,hu,hv,B5];by_cases O:v=i
    .subst O;rw[Al rfl,Ey (by rw[GX,aa.r];exact G),AW,Ep ay,e3,AW]
    .rw[Ag O,Ep O];by_cases h2:u=i
     .subst h2;rw[Al rfl,Ey (by rw[aa.r];exact Z),AW,e1,AW]
     .rw[Ag h2,Ep h2]
   have hF:(Cm k bs (j+1)).Flow=x.Flow:=by rw[hN];rfl
   refine⟨λi z=> ?_,λi z=> ?_⟩
   .rw[hR i z];by_cases O:v=i
    .subst O;rw[Al rfl,Al rfl]
    .rw[Ag (by omega),Ag O];by_cases h2:u=i
     .subst h2;rw[Al rfl,Al rfl]
     .rw[Ag (by omega),Ag h2,Ag (by omega)];exact fL _ _ _ _ z
   .rw[Ag (by omega),hF];exact fO _ _ _ _ (by omega) z
  .have aq:j=bs.length:=by omega
   subst aq;rw[hx];exact UE (x:=Ea k bs) (n:=k) (by omega) (λo ho=>by
    have O:(An [] o||(Gg o && (Nat.ble 0 o && Nat.blt o (0+320))))=true:=by
     have h2:=KX o ho;simp[ho];omega
    simp only[YI,O,C8])
 rcases kA hp with ⟨O,h2⟩
 have a8:=KX p.1 O;exact .inr ⟨by omega,by omega,O,h2⟩
structure Uz(H:Nat->Option Au)(x:Bk)(n:Nat):Prop where
 g0:H 0=some (true,.cells 259 [.own 1,.own 2])
 g1:H 1=some (true,.arrA 22 1 (DL 100 n))
 g2:H 2=some (true,.arrA 22 1 (DL 200 n))
 ga: ∀i,i<n->H (100+i)=some (true,.arr 2 1 ((x.Room[i]?.getD []).map Af))
 gb: ∀i,i<n->H (200+i)=some (true,.arr 2 1 ((x.Flow[i]?.getD []).map Af))
def Vo{M:List (List Int)}{n:Nat}(h:M.length=n):(List.range n).map (λi=>DA (M[i]?.getD []))=M.map DA:=by
 apply QM;intro i;rw[Gb,Gb];by_cases z:i<n
 .rw[IH z,BB (by omega:i<M.length)];simp only[Ez,BB (show i<M.length by omega),AW]
 .rw[HK (by simp;omega),HK (by omega)];rfl
def MT{H:Nat->Option Au}{m b o n:Nat}{M:List (List Int)}(Q:M.length=n)(z:H o=some (true,.arrA 22 1 (DL b n)))(G: ∀i,i<n->H (b+i)=some (true,.arr 2 1 ((M[i]?.getD []).map Af))):
 bk H (m+2) (.own o)=some (.sl false 1 (M.map DA)):=by
 simp only[bk,z,RE];rw[DL,Qnl (f:=AA (bk H (m+1))) (g:=λi=>[AV.own (b+i)]) (k:=λi=>DA (M[i]?.getD [])),Vo Q]
 .rfl
 .intro i O;simp only[AA,bk,G i (CS.1 O),RE];rfl
def Zb{H:Nat->Option Au}{x:Bk}{n:Nat}(h:Uz H x n)(z:KH x n)(a b:D):Cp H [.ptr 0 0,.im a,.im b]=some [.ptr (Bk.c x),FV a,FV b]:=by
 have G:=MT (m:=6) z.r h.g1 h.ga;have O:=MT (m:=6) z.f h.g2 h.gb;simp only[Cp,Ec,h.g0,bJ,Ie,AA,G,O,JH,Ez,Gz];rfl
def VZ{H:Nat->Option Au}{x:Bk}{n nx:Nat}{K:Aj}(h:Uz H x n)(z:KH x n)(hn:n<=1000){p q:Int}(G:0<=p)(aa:p<n)(O:0<=q)(ab:q<n)
 (hK: ∀U,K (.im (.sl true 1 ((CE x n p q).map Af))) {use:=U}):wayC.row [.ptr 0 0,.im (.int .i64 p),.im (.int .i64 q)] H nx K:=by
 have Q:=z.r;rw[wayC.q,Zb h z];have e:Bk.d ((Bk.c x).take 2)=some x:=Bk.d_c x;simp only[Xq,b3,qP,qI,a3,kP,kI,FV,e,G8,EQ];refine⟨⟨Q▸z,by omega,G,by omega,O,by omega⟩,?_⟩;have Z:wayC.re (wayC.fv (x,p,q))= .sl true 1 ((CE x n p q).map Af):=by simp only[wayC.re,wayC.fv,Q]
 rw[Z];exact hK _
def sndC.n(a:Bk×Int×Int×Int):Nat:=min a.1.Room.length 64
def RB(n:Nat)(p q:Int):Nat->Bk->Bk
 |0,x=>x
 |m+1,x=>if CE x n p q=[] then x else RB n p q m (HF x (CE x n p q) ((CE x n p q).length - 1))
def sndC.ca(a:Bk×Int×Int×Int):List AV:=[.ptr 0 0,.im (.int .i64 a.2.1),.im (.int .i64 a.2.2.1),.im (.int .i64 a.2.2.2)]
def sndC.H0(a:Bk×Int×Int×Int):Ar:=CT a.1 (sndC.n a)
def sndC.H1(a:Bk×Int×Int×Int):Ar:=BI 200 (sndC.n a) (RB (sndC.n a) a.2.1 a.2.2.1 a.2.2.2.toNat a.1).Flow
def sndC.r0(a:Bk×Int×Int×Int):AV:= .im (.int .i64 (Gs (sndC.n a) a.2.1 a.2.2.1 a.2.2.2.toNat a.1))
structure V7(a:Bk×Int×Int×Int):Prop where
 n:a.1.Room.length<=64
 ok:KH a.1 a.1.Room.length
 p0:0<=a.2.1
 p1:a.2.1<a.1.Room.length
 q0:0<=a.2.2.1
 q1:a.2.2.1<a.1.Room.length
 pq:a.2.1≠a.2.2.1
 m0:0<=a.2.2.2
 m1:a.2.2.2<=1000000
 fl: ∃v,R3 (Eo a.1) (Ki a.1) a.1.Room.length a.2.1.toNat a.2.2.1.toNat v
 rm: ∀u v,Eo a.1 u v<=10000000000000
def TO(j:Nat):Bool:=Nat.ble 200 j && Nat.blt j 264
def sndC.row:AG:=Az sndC.ca sndC.H0 300 V7 TO sndC.r0 sndC.H1 10
def sndC.hbel(a:Bk×Int×Int×Int):AQ 300 (sndC.ca a)=true:=rfl
def sndC.n_le(a:Bk×Int×Int×Int):sndC.n a<=64:=wP _ _
def pI(x:Bk)(n:Nat)(hn:n<=64):AB 300 (CT x n)=true/\Cg 300 (CT x n)=true:=by
 have:=uY n x.Room x.Flow hn [] rfl
 simp only[A8.good,Bc] at this;exact this.2
def sndC.hbH(a:Bk×Int×Int×Int):AB 300 (sndC.H0 a)=true:=(pI _ _ (sndC.n_le a)).1
def sndC.hkH(a:Bk×Int×Int×Int):Cg 300 (sndC.H0 a)=true:=(pI _ _ (sndC.n_le a)).2
def Wq(x:Bk)(n:Nat)(hn:n<=64):Uz (hget (CT x n)) x n:=by
 refine⟨rfl,rfl,rfl,λi z=> ?_,λi z=> ?_⟩
 .simp only[CT,hget,Cr _ _ (show 0≠100+i by omega),Cr _ _ (show 1≠100+i by omega),Cr _ _ (show 2≠100+i by omega),Cy];exact fL _ _ _ _ z
 .simp only[CT,hget,Cr _ _ (show 0≠200+i by omega),Cr _ _ (show 1≠200+i by omega),Cr _ _ (show 2≠200+i by omega),Cy];exact fO _ _ _ _ (by omega) z
def Qvt(H0:Ar): ∀(a b:Ar),Cs H0 (a++b)↔Cs H0 a/\Cs H0 b
 |[],b=>by simp[Cs]
 |(i,(z,e))::r,b=>by simp only[Ci,Cs,Qvt H0 r b,oC]
def Qud(H0:Ar)(b n:Nat)(M:List (List Int)):Cs H0 (BI b n M):=by
 have: ∀(l:List Nat),Cs H0 (l.map λi=>(b+i,(true,Ah.arr 2 1 ((M[i]?.getD []).map Af)))):=by
  intro l;induction l with
  |nil=>simp[Cs]
  |cons i r ih=>simp only[Bf,Cs];exact⟨λm z=>by simp[Ah.nms] at z,ih⟩
 exact this _
def Qu6(b n:Nat): ∀m∈B7 (DL b n),∃i,i<n/\m=b+i:=by
 have: ∀(l:List Nat),(∀i∈l,i<n)-> ∀m∈B7 (l.map λi=>[AV.own (b+i)]),∃i,i<n/\m=b+i:=by
  intro l;induction l with
  |nil=>intro _ m z;simp[B7] at z
  |cons i r ih=>
   intro G m z;simp only[Bf,B7,Ax,AV.nms,Ck,B2,BL] at z;rcases z with rfl|z
   .exact⟨i,G i (BS ..),rfl⟩
   .exact ih (λj Q=>G j (BW _ Q)) m z
 exact this _ (λi O=>CS.1 O)
def Za(x:Bk)(n:Nat)(hn:n<=64):Cs (CT x n) (CT x n):=by
 have G:=Wq x n hn;have hd: ∀o e,hget (CT x n) o=some e->An (CT x n) o=true:=λo e h=>by simp only[An,h];rfl
 obtain⟨H,hH⟩: ∃H,H=CT x n:=⟨_,rfl⟩;rw[<-hH] at G hd;rw[show Cs (CT x n) (CT x n)=Cs H (CT x n) by rw[hH]];simp only[CT,Cs,Qvt];refine⟨λm z=> ?_,λm z=> ?_,λm z=> ?_,Qud _ _ _ _,Qud _ _ _ _⟩
 .simp only[Ah.nms,Ax,AV.nms,Ck,B2,BL] at z;rcases z with rfl|rfl
  .exact hd _ _ G.g1
  .exact hd _ _ G.g2
 .obtain⟨i,O,rfl⟩:=Qu6 100 n m z;exact hd _ _ (G.ga i O)
 .obtain⟨i,O,rfl⟩:=Qu6 200 n m z;exact hd _ _ (G.gb i O)
def N7{s:A8}{x:Bk}{n:Nat}(h:Uz (hget s.h) x n):CQ s (CT x n):=by
 simp only[CT,CQ,fR,uG];exact⟨h.g0,h.g1,h.g2,h.ga,h.gb⟩
def Nq(h:Nat->Option Au)(f:Nat->Bool): ∀(a b:Ar),JL h f (a++b)↔JL h f a/\JL h f b
 |[],b=>by simp[JL]
 |(i,e)::r,b=>by simp only[Ci,JL,Nq h f r b,oC]
def cM(i:Nat)(h:i<64):TO (200+i)=true:=by
 simp only[TO,Bc,LM,F5];omega
def Qxi(h:Nat->Option Au)(f:Nat->Bool)(b:Nat)(g:Nat->Au)(n:Nat)(H: ∀i,i<n->f (b+i)=true\/h (b+i)=some (g i)):JL h f (CJ b n g):=by
 have: ∀(l:List Nat),(∀i∈l,i<n)->JL h f (l.map λi=>(b+i,g i)):=by
  intro l;induction l with
  |nil=>intro _;trivial
  |cons i r ih=>
   intro G;simp only[Bf,JL];refine⟨?_,ih (λj Q=>G j (BW _ Q))⟩;rcases H i (G i (BS ..)) with z|z
   .rw[z];trivial
   .cases f (b+i)
    .exact z
    .trivial
 exact this _ (λi O=>CS.1 O)
def Vk{h:Nat->Option Au}{n:Nat}(hn:n<=64){M:List (List Int)}(H: ∀i,i<n->h (100+i)=some (true,.arr 2 1 ((M[i]?.getD []).map Af))):JL h TO (BI 100 n M):=Qxi _ _ _ _ _ (λi z=> .inr (H i z))
def Vm{h:Nat->Option Au}{n:Nat}(hn:n<=64){M:List (List Int)}:JL h TO (BI 200 n M):=Qxi _ _ _ _ _ (λi z=> .inl (cM i (by omega)))
def sndC.hnm(a:Bk×Int×Int×Int):Cs (sndC.H0 a) (sndC.H0 a):=Za _ _ (sndC.n_le a)
def sndC.ok:AJ 153 sndC.row:=by
 refine ow (tC wayC.ok tN) Tryz.func153 (exB:=λ_=>false) (R:=λa r=>r=sndC.r0 a) (λ_=>rfl)
  (λa=>⟨sndC.hbel a,sndC.hbH a,sndC.hkH a,sndC.hnm a⟩) (λa p hp=> ?_) (λa r h=>by subst h;exact D2.refl _) ?_
 rotate_left
 intro a au;simp only[Tryz.f153,Option.getD,sndC.ca];simp(disch:=omega)only[ZZ,simprocAttr,Ab,Av,sndC.ca];obtain⟨x,p,q,mo⟩:=a;obtain⟨hn,ak,ac,Z,ad,af,aq,a9,ba,aj,am⟩:=au;simp only at hn ak ac Z ad af aq a9 ba aj am;obtain⟨n,hnn⟩: ∃n,n=x.Room.length:=⟨_,rfl⟩;obtain⟨M,hM⟩: ∃M:Nat,mo=M:=⟨mo.toNat,by omega⟩;subst hM;have bd: ∀y:Int×Int×Int,sndC.n (x,y)=n:=λy=>by simp only[sndC.n,<-hnn];omega
 simp only[sndC.H1,sndC.r0,sndC.H0,bd,B5,CT,Cx];rw[<-hnn] at hn ak Z af aj;refine AZ.old ⟨{s:Nat×Bk//s.1<=M/\KH s.2 n/\s.2.Room=x.Room/\(∃v,R3 (Eo x) (Ki s.2) n p.toNat q.toNat v)/\Gs n p q M x=Gs n p q (M - s.1) s.2+s.1/\RB n p q M x=RB n p q (M - s.1) s.2},λs=>⟨[(9,.im (.int .i64 s.1.1)),(0,.ptr 0 0),(1,.im (.int .i64 p)),(2,.im (.int .i64 q)),(3,.im (.int .i64 M))],CT s.1.2 n,300⟩,λs=>M - s.1.1,λs=>⟨?_,by simp⟩,⟨⟨(0,x),by simp only;omega,ak,rfl,aj,by simp,by simp⟩,?_⟩,λs=> ?_⟩
 .simp only[CT];exact uY _ _ _ hn _ (by simp[Df,AV.bel])
 .simp only[sub,GM,A9];refine⟨?_,?_⟩
  .simp(disch:=omega)only[ZZ,simprocAttr,Ab,Av,sndC.ca]
  .exact N7 (Wq x n hn)
 obtain⟨⟨k,y⟩,i1,i2,i3,i4,i5,i6⟩:=s;simp only at i1 i2 i3 i4 i5 i6;simp only[CT];simp(disch:=omega)only[ZZ,simprocAttr,Ab,Av,sndC.ca,Cx];refine VZ (Wq y n hn) i2 (by omega) ac Z ad af (λU=> ?_);obtain⟨L,hL⟩: ∃L,L=CE y n p q:=⟨_,rfl⟩;rw[<-hL];simp(disch:=omega)only[ZZ,simprocAttr,Ab,Av,sndC.ca,Cx,sub,AS];have ah:(Gs n p q (M - k) y=0)->(RB n p q (M - k) y=y)->(((bif TO 0 then True else True)/\(bif TO 1 then True else True)/\(bif TO 2 then True else True)/\JL (hget (CT y n)) TO (BI 100 n x.Room++BI 200 n x.Flow))/\(k:Int)=Gs n p q M x/\ ∀kx,HZ (hget (CT y n)) (Bs (hget (CT y n)) kx 9) (BI 200 n (RB n p q M x).Flow)):=by
  intro e1 e2;have hI:=Wq y n hn;refine⟨⟨trivial,trivial,trivial,(Nq _ _ _ _).2 ⟨Vk hn (λi O=>by rw[hI.ga i O,i3]),Vm hn⟩⟩,by omega,λkx=> ?_⟩;rw[i6,e2];exact Qoq _ _ _ _ _ hI.gb
 have ax:(L.map Af).isEmpty=L.isEmpty:=by cases L<;>rfl
 rw[ax];refine⟨λc1=>⟨λc2=> ?_,λc2=> ?_⟩,λc1=> ?_⟩
 .obtain⟨g1,g2,g3⟩:=ah (by rw[show M - k=0 by omega];rfl) (by rw[show M - k=0 by omega];rfl);exact⟨g1,g2,g3 _⟩
 .have aa:L≠[]:=by intro h;rw[h] at c1;cases c1
  have hW:TC y n p q L:=by rw[hL];exact Wb ac Z ad af (by rw[<-hL];exact aa)
  have bh:=hW.pos;obtain⟨v,hv⟩:=i4;have an: ∀i,i<L.length-> ∃w:Nat,L[i]? =some (w:Int)/\w<n:=by
   intro i O
   have:=hW.inb _ (RS O)
   refine⟨(L[i]).toNat,by rw[BB O];congr 1;omega,by omega⟩
  refine AZ.old ⟨{j:Nat//j+1<=L.length},λj=>⟨[(11,.im (.int .i64 ((j.1:Int)+1))),(10,.im (.sl true 1 (L.map Af))),(9,.im (.int .i64 k)),(0,.ptr 0 0),(1,.im (.int .i64 p)),(2,.im (.int .i64 q)),(3,.im (.int .i64 M))],CT (HF y L j.1) n,300⟩,λj=>L.length - j.1,λj=>⟨?_,by simp⟩,⟨⟨0,by omega⟩,?_⟩,λj=> ?_⟩
  .simp only[CT];exact uY _ _ _ hn _ (by simp[Df,AV.bel])
  .simp only[sub,GM,A9];refine⟨?_,?_⟩
   .simp(disch:=omega)only[ZZ,simprocAttr,Ab,Av,sndC.ca]
   .exact N7 (Wq y n hn)
  obtain⟨j,hj⟩:=j;have G:=Qm6 i2 hW.inb j (by omega);obtain⟨z,hz⟩: ∃z,z=HF y L j:=⟨_,rfl⟩;simp only[<-hz] at G⊢;simp only[CT];have ej:((j:Int)+1).toNat=j+1:=by omega
  simp(disch:=omega)only[ZZ,simprocAttr,Ab,Av,sndC.ca,Cx,sub,AS,HW];intro bg;have ew:IntKind.i64.wrap ((j:Int)+1 - 1)=j:=by rw[AH (by omega) (by omega)];omega
  have av:IntKind.i64.wrap ((j:Int)+1+1)=(j:Int)+1+1:=AH (by omega) (by omega);simp only[ew,B5];refine⟨λa0=> ?_,λa0=> ?_⟩
  .obtain⟨u,ab,hu⟩:=an j (by omega);obtain⟨w,ai,Q⟩:=an (j+1) (by omega);have be:u≠w:=by
    intro h
    have:=hW.nd j (j+1) (by omega) (by omega) (by simp only[Lf,ab,ai,h])
    omega
   have hr: ∀i,i<n->(z.Flow[i]?.getD []).length=n:=by
    intro i O;rw[BB (by rw[G.f];exact O),AW];exact G.ff _ (RS _)
   have bb:=hr u hu;have bc:=hr w Q;simp only[ab,AO,forall_eq'];simp(disch:=omega)only[ZZ,simprocAttr,Ab,Av,sndC.ca,sub,AS,Wp,Cx,HW,Cr,Q4,fO,ew,av,ej,ab,ai,AO,forall_eq',bb,bc,Qxa,aL,GX,Gc,fR,uG];have hb: ∀a b,a<n->b<n-> -10000000000002<=Ki z a b/\Ki z a b<=10000000000002:=by
    intro a b ha hb;have h1:=Qso i2 hW.inb a b j (by omega);have h2:=Qr1 (L:=Lf L) (m:=L.length - 1) (λi j O hj=>hW.nd i j (by omega) (by omega)) a b j (by omega);have h3:=Qr1 (L:=Lf L) (m:=L.length - 1) (λi j O hj=>hW.nd i j (by omega) (by omega)) b a j (by omega);have h4:=sS (Lf L) a b j;have h5:=sS (Lf L) b a j;have h6:=hv.cap a b ha hb;have h7:=hv.cap b a hb ha;have h8:=hv.anti a b ha hb;have h9:=am a b;have bi:=am b a;rw[<-hz] at h1;simp only[Ki] at*;omega
   have ay:=hb u w hu Q;have az:=hb w u Q hu;refine⟨by omega,hu,hu,by omega,by omega,by omega,Q,by omega,Q,λx1 e1=>⟨Q,by omega,Q,λ_ _=>⟨.inr (by omega),by omega,by omega,Q,Q,by omega,by omega,hu,by omega,hu,λx3 e3=>⟨hu,by omega,hu,λ_ _=>⟨.inr (by omega),⟨j+1,by omega⟩,by simp only;omega,by simp only;omega,?_⟩⟩⟩⟩⟩;have r1:Ki z u w=x1:=by simp only[Ki,Hh,e1,AW]
   have r3:Ki z w u=x3:=by simp only[Ki,Hh,e3,AW]
   rw[r1] at ay;rw[r3] at az;rw[AH (by omega) (by omega),AH (by omega) (by omega)];have hN:HF y L (j+1)=NQ z u w:=by simp only[HF,ab,ai,AW,<-hz]
   have hR: ∀i,i<n->(HF y L (j+1)).Flow[i]?.getD []=if w=i then (z.Flow[w]?.getD []).set u (x3 - 1) else if u=i then (z.Flow[u]?.getD []).set w (x1+1) else z.Flow[i]?.getD []:=by
    intro i O;rw[hN];simp only[NQ,LF,B5];by_cases h1:w=i
    .subst h1;rw[Al rfl,Ey (by rw[GX,G.f];exact Q),AW,Ep be,e3,AW];rfl
    .rw[Ag h1,Ep h1];by_cases h2:u=i
     .subst h2;rw[Al rfl,Ey (by rw[G.f];exact hu),AW,e1,AW]
     .rw[Ag h2,Ep h2]
   have hF:(HF y L (j+1)).Room=z.Room:=by rw[hN];rfl
   refine⟨λi O=> ?_,λi O=> ?_⟩
   .rw[Ag (by omega),Ag (by omega)];show _=some (true,Ah.arr _ 1 (List.map Af ((HF y L (j+1)).Room[i]?.getD [])));rw[hF];exact fL _ _ _ _ O
   .show _=some (true,Ah.arr _ 1 (List.map Af ((HF y L (j+1)).Flow[i]?.getD [])));rw[hR i O];by_cases h1:w=i
    .subst h1;rw[Al rfl,Al rfl]
    .rw[Ag (by omega),Ag h1];by_cases h2:u=i
     .subst h2;rw[Al rfl,Al rfl]
     .rw[Ag (by omega),Ag h2];exact fO _ _ _ _ (by omega) O
  .have a8:j=L.length - 1:=by omega
   subst a8;obtain⟨m,hm⟩: ∃m,M - k=m+1:=⟨M - k - 1,by omega⟩;have ao: ¬CE y n p q=[]:=by rw[<-hL];exact aa
   have e5:Gs n p q (m+1) y=Gs n p q m z+1:=by simp only[Gs];rw[Ag ao,<-hL,<-hz]
   have e6:RB n p q (m+1) y=RB n p q m z:=by simp only[RB];rw[Ag ao,<-hL,<-hz]
   rw[hm] at i5 i6;have ag:=(Qun i2 ac Z aq ad (v:=v) (by rw[show Eo y=Eo x by funext a b;simp only[Eo,i3]];exact hv) hW).2;have bf:z.Room=x.Room:=by rw[hz,Ql3,i3]
   rw[show Eo y=Eo x by funext a b;simp only[Eo,i3],<-hz] at ag;refine⟨⟨(k+1,z),by simp only;omega,G,bf,⟨_,ag⟩,by simp only;rw[show M - (k+1)=m by omega];omega,by simp only;rw[show M - (k+1)=m by omega,i6,e6]⟩,by simp only;omega,?_⟩;refine⟨by rw[AH (by omega) (by omega)];simp only;omega,?_⟩;simp only[fR,uG];exact⟨(Wq z n hn).ga,(Wq z n hn).gb⟩
 .have aa:L=[]:=by
   cases L with
   |nil=>rfl
   |cons a r=>exact absurd rfl c1
  have Q:CE y n p q=[]:=by rw[<-hL,aa]
  have z1: ∀m,Gs n p q m y=0:=by
   intro m;cases m with
   |zero=>rfl
   |succ m=>simp only[Gs];rw[Al Q]
  have z2: ∀m,RB n p q m y=y:=by
   intro m;cases m with
   |zero=>rfl
   |succ m=>simp only[RB];rw[Al Q]
  obtain⟨g1,g2,g3⟩:=ah (z1 _) (z2 _);exact⟨g1,g2,g3 _⟩
 simp only[sndC.H1,BI,CJ,BF,CS] at hp;obtain⟨i,O,rfl⟩:=hp;have aw:=sndC.n_le a;refine .inl ⟨by omega,by simp only[TO,Bc,LM,F5];omega,?_⟩;simp only[An,sndC.H0];rw[(Wq a.1 (sndC.n a) aw).gb i O];rfl
def Qwi(h:Nat->Option Au)(σ:Nat->Nat): ∀(a b:Ar),Fs h σ (a++b)↔Fs h σ a/\Fs h σ b
 |[],b=>by simp[Fs]
 |(i,(z,e))::r,b=>by simp only[Ci,Fs,Qwi h σ r b,oC]
def Qt1{h:Nat->Option Au}{σ:Nat->Nat}{b n:Nat}{M:List (List Int)}(H: ∀i,i<n->h (σ (b+i))=some (true,.arr 2 1 ((M[i]?.getD []).map Af))):Fs h σ (BI b n M):=by
 have: ∀(l:List Nat),(∀i∈l,i<n)->Fs h σ (l.map λi=>(b+i,(true,Ah.arr 2 1 ((M[i]?.getD []).map Af)))):=by
  intro l;induction l with
  |nil=>intro _;trivial
  |cons i r ih=>
   intro z;simp only[Bf,Fs];exact⟨H i (z i (BS ..)),ih (λj O=>z j (BW _ O))⟩
 exact this _ (λi G=>CS.1 G)
def Qth{σ:Nat->Nat}{b n:Nat}{M:List (List Int)}(H: ∀i,i<n->σ (b+i)=b+i):Bp σ (BI b n M)=BI b n M:=by
 have: ∀(l:List Nat),(∀i∈l,i<n)->Bp σ (l.map λi=>(b+i,(true,Ah.arr 2 1 ((M[i]?.getD []).map Af))))=l.map λi=>(b+i,(true,Ah.arr 2 1 ((M[i]?.getD []).map Af))):=by
  intro l;induction l with
  |nil=>intro _;rfl
  |cons i r ih=>
   intro z;simp only[Bf,Bp];rw[H i (z i (BS ..)),ih (λj O=>z j (BW _ O))];rfl
 exact this _ (λi G=>CS.1 G)
def zZ{σ:Nat->Nat}{b n:Nat}(H: ∀i,i<n->σ (b+i)=b+i):(DL b n).map (Bd σ)=DL b n:=by
 simp only[DL,RT];refine QJ λi z=> ?_
 simp only[Function.comp,Bd,AV.ren,H i (CS.1 z)]
def Qzq(σ:Nat->Nat): ∀(a b:Ar),Bp σ (a++b)=Bp σ a++Bp σ b
 |[],b=>rfl
 |(i,(z,e))::r,b=>by simp only[Ci,Bp,Qzq σ r b]
def Zm{σ:Nat->Nat}{x:Bk}{n:Nat}(hn:n<=64)(H: ∀j,j<300->σ j=j):Bp σ (CT x n)=CT x n:=by
 simp only[CT,Bp,Qzq,Ah.ren,Bd,AV.ren,H 0 (by omega),H 1 (by omega),H 2 (by omega),zZ (b:=100) (n:=n) (λi z=>H (100+i) (by omega)),zZ (b:=200) (n:=n) (λi z=>H (200+i) (by omega)),Qth (b:=100) (n:=n) (λi z=>H (100+i) (by omega)),Qth (b:=200) (n:=n) (λi z=>H (200+i) (by omega))]
def Lo{x:Bk}{n:Nat}(hn:n<=64){j:Nat}(h:An (CT x n) j=true):j<264/\(200<=j-> ∃i,i<n/\j=200+i)/\j∈[0,1,2]++((List.range n).map (100+ ·)++(List.range n).map (200+ ·)):=by
 have z:j∈[0,1,2]++((List.range n).map (100+ ·)++(List.range n).map (200+ ·)):=by
  have: ∀(H:Ar),An H j=true->j∈FQ H:=by
   intro H;induction H with
   |nil=>intro h;simp[An,hget] at h
   |cons e r ih=>
    obtain⟨i,e⟩:=e;intro h;simp only[An,hget] at h;simp only[FQ,Bw];by_cases O:i=j
    .exact .inl O.symm
    .have:(i==j)=false:=by simpa using O
     rw[this] at h;exact .inr (ih h)
  have Z:=this _ h;simp only[CT,FQ,Qpf,BI,fI] at Z;simpa using Z
 refine⟨?_,λG=> ?_,z⟩
 .have:=U3 n hn j z
  rcases B2.1 z with z|z
  .simp at z;omega
  .rcases B2.1 z with z|z<;>obtain⟨i,Q,rfl⟩:=BF.1 z<;>have:=CS.1 Q
   .show 100+i<264;omega
   .show 200+i<264;omega
 .rcases B2.1 z with z|z
  .simp at z;omega
  .rcases B2.1 z with z|z<;>obtain⟨i,Q,rfl⟩:=BF.1 z<;>have:=CS.1 Q
   .have h3:200<=100+i:=G;omega
   .exact⟨i,this,rfl⟩
def Pt{kill:List Nat}{nx cnt b n:Nat}{M:List (List Int)}(H: ∀i,i<n->kill.contains (b+i)=true/\b+i<nx):IC kill nx cnt (BI b n M)=true:=by
 have: ∀(l:List Nat),(∀i∈l,i<n)->IC kill nx cnt (l.map λi=>(b+i,(true,Ah.arr 2 1 ((M[i]?.getD []).map Af))))=true:=by
  intro l;induction l with
  |nil=>intro _;rfl
  |cons i r ih=>
   intro z;simp only[Bf,IC,K0,Bc,Ic,LM,F5];exact⟨.inr (H i (z i (BS ..))),ih (λj O=>z j (BW _ O))⟩
 exact this _ (λi G=>CS.1 G)
def V9{H:Nat->Option Au}{x:Bk}{nx:Nat}{K:Aj}{p q O:Int}(hH:Uz H x x.Room.length)(Q:V7 (x,p,q,O))(aa:300<=nx)
 (hK: ∀E:B4,E.cnt=10->E.ok nx (.im (.int .i64 (Gs x.Room.length p q O.toNat x)))=true->K (.im (.int .i64 (Gs x.Room.length p q O.toNat x))) E):sndC.row [.ptr 0 0,.im (.int .i64 p),.im (.int .i64 q),.im (.int .i64 O)] H nx K:=by
 have hn:x.Room.length<=64:=Q.n;have G:sndC.n (x,p,q,O)=x.Room.length:=by simp only[sndC.n];omega
 have hσ: ∀j,j<300->Db (λj=>j) 300 nx j=j:=λj Z=>Al Z
 refine⟨(x,p,q,O),λj=>j,[0,1,2]++((List.range x.Room.length).map (100+ ·)++(List.range x.Room.length).map (200+ ·)),(List.range x.Room.length).map (200+ ·),Q,?_,?_,?_,?_⟩
 .simp only[sndC.ca,Bd,AV.ren,hσ 0 (by omega)]
 .simp only[sndC.H0,G,CT,Fs,Qwi,Ah.ren,Bd,AV.ren,hσ 0 (by omega),hσ 1 (by omega),hσ 2 (by omega),zZ (b:=100) (n:=x.Room.length) (λi z=>hσ (100+i) (by omega)),zZ (b:=200) (n:=x.Room.length) (λi z=>hσ (200+i) (by omega))];exact⟨hH.g0,hH.g1,hH.g2,Qt1 (λi z=>by rw[hσ _ (by omega)];exact hH.ga i z),Qt1 (λi z=>by rw[hσ _ (by omega)];exact hH.gb i z)⟩
 .have hd: ∀j,An (sndC.H0 (x,p,q,O)) j=true->An (CT x x.Room.length) j=true:=λj h=>by simpa only[sndC.H0,G] using h
  refine⟨λi j _ _ h=>h,λj Z=> ?_,λj Z=>(Lo hn (hd j Z)).2.2,λm hm=> ?_,λj Z hk=> ?_⟩
  .have:=(Lo hn (hd j Z)).1
   omega
  .obtain⟨i,z,rfl⟩:=BF.1 hm
   have:=CS.1 z
   refine⟨200+i,?_,cM i (by omega),rfl⟩;simp only[An,sndC.H0,G];rw[(Wq x _ hn).gb i this];rfl
  .simp only[TO,Bc,LM,F5] at hk;obtain⟨i,z,rfl⟩:=(Lo hn (hd j Z)).2.1 hk.1;exact BF.2 ⟨i,CS.2 z,rfl⟩
 .have e:(sndC.r0 (x,p,q,O)).ren (Db (λj=>j) 300 nx)= .im (.int .i64 (Gs x.Room.length p q O.toNat x)):=by simp only[sndC.r0,G,AV.ren]
  rw[e];refine hK _ rfl ?_;simp only[B4.ok,AV.bel,ED,sndC.H1,G];rw[Qth (λi z=>hσ _ (by omega)),Bc];refine⟨mJ _ _ _ (λi=>rfl) _,Pt λi z=>⟨?_,by omega⟩⟩;rw[Jl];exact BF.2 ⟨i,CS.2 z,rfl⟩
def Qu2(cnt:Nat): ∀(H:Ar),(∀p∈H,p.1<cnt)->IC [] 0 cnt H=true
 |[],_=>rfl
 |(i,e)::r,h=>by
  have z:=h (i,e) (BS ..);simp only at z;simp only[IC,K0,Qu2 cnt r (λp hp=>h p (BW _ hp)),EL,Ic,Bc,LM,F5];exact .inl ⟨by omega,by omega⟩
def U1{x:Bk}{n:Nat}(r:AV)(hn:n<=64)(z:r.bel 320=true){use:List Nat}:B4.ok {use:=use,kill:=[],new:=CT x n,cnt:=320} 0 r=true:=by
 simp only[B4.ok,FS,z,ED,Bc];refine⟨?_,Qu2 _ _ λp hp=>by have:=KX _ (MR hn hp).1;omega⟩;simp only[CT,AB,tV,BI];rw[mJ _ _ _ (λi=>rfl),mJ _ _ _ (λi=>rfl),Xs _ _ _ (by omega),Xs _ _ _ (by omega)];rfl
def Qt8(n:Nat)(bs:List Ai)(t:Int)(k:Nat)(h:R7 n bs t k=false): ∀m,R7 n bs t (k+m)=false
 |0=>h
 |m+1=>by rw[show k+(m+1)=k+m+1 by omega,R7,Qt8 n bs t k h m,FT]
def vV(n:Int)(bs:List Ai)(t:Int):Bool:=R7 n.toNat bs t (n.toNat - 1)
def holds_.fv(a:Int×(List Ai)×Int):Bool:=(vV) (a.1) (a.2.1) (a.2.2)
def holds_.row:AG:=vK (b3 qI (qS Ai.d_le Ai.c_n) qI) rB (λa=>MS (a.1,a.2.1)/\0<=a.2.2/\a.2.2<=1000000) holds_.fv
def holds_.q:=B3 (R:=holds_.row) rfl
def holds_.ok:AJ 120 holds_.row:=by
 refine vw (tC nwC.ok (tC sndC.ok tN)) Tryz.func120 ?_;intro a ac;simp only[Tryz.f120,Option.getD];simp only[ZZ,simprocAttr,Ab,holds_.fv];obtain⟨hp,ad,af⟩:=ac;obtain⟨h0,h1,hl,z,G,O⟩:=hp;simp only at h0 h1 hl z G O;obtain⟨n,hn⟩: ∃n:Nat,a.1=n:=⟨a.1.toNat,by omega⟩;obtain⟨bs,hbsd⟩: ∃bs,bs=a.2.1:=⟨_,rfl⟩;obtain⟨t,ht⟩: ∃t,t=a.2.2:=⟨_,rfl⟩;simp only[hn,<-hbsd,<-ht,vV,B5] at h0 h1 hl z G O ad af⊢;have Q:MS ((n:Int),bs):=⟨h0,h1,hl,z,G,O⟩;refine AZ.old ⟨{k:Nat//(k=0\/k+1<=n)/\R7 n bs t k=true},λk=>⟨[(7,.im (.int .i64 ((k.1:Int)+1))),(0,.im (.int .i64 n)),(1,.im (.sl false 3 (bs.map Ai.c))),(2,.im (.int .i64 t))],[],0⟩,λk=>n - k.1,λk=>⟨by simp[ZG],by simp⟩,⟨⟨0,.inl rfl,rfl⟩,by simp only[ZZ,simprocAttr,Ab,holds_.fv,sub]⟩,λk=> ?_⟩;obtain⟨k,aa,ab⟩:=k;simp only[ZZ,simprocAttr,Ab,holds_.fv,sub,AS];refine⟨λhk=> ?_,λhk=> ?_⟩
 .refine Az.os ((n:Int),bs) [] Q (λj=>by simp[An,hget]) rfl rfl ?_ ?_
  .simp only[ZZ,simprocAttr,Ab,holds_.fv,nwC.ca,Bb]
  .have e1:Bp (Db (P3 []) 0 0) (nwC.H1 ((n:Int),bs))=CT (Ea n bs) n:=by
    simp only[nwC.H1,B5];rw[Zff (by omega)];exact Zm (by omega) (λj _=>by simp[Db])
   rw[e1];refine⟨U1 _ (by omega) rfl,?_⟩;simp only[ZZ,simprocAttr,Ab,holds_.fv,sub,AS,Cx,Ck];have Z:(Ea n bs).Room.length=n:=(X0 z bs.length).1.r;have hI:=Wq (Ea n bs) n (by omega);rw[show hget (CT (Ea n bs) n)=hget (CT (Ea n bs) n) from rfl];refine V9 (x:=Ea n bs) (by rw[Z];exact hI) ?_ (by omega) (λE ai ag=> ?_)
   .refine⟨by simp only;omega,by simp only[Z];exact (X0 z bs.length).1,by simp,by simp only[Z];omega,by simp only;omega,by simp only[Z];omega,by simp only;omega,ad,af,⟨0,by simp only[Z];exact pB z G _ _⟩,λu v=> ?_⟩
    have:=(Qrm z G u v bs.length).2
    simp only[Ea];omega
   .refine⟨ag,?_⟩;rw[Z];obtain⟨sv,hsv⟩: ∃sv,sv=Gs n 0 ((k:Int)+1) t.toNat (Ea n bs):=⟨_,rfl⟩;rw[<-hsv];have hs:R7 n bs t (k+1)=(R7 n bs t k && decide (t<=sv)):=by rw[hsv];rfl
    rw[ab,ED] at hs;simp only[ZZ,simprocAttr,Ab,holds_.fv,A8.app,sub,AS];refine⟨λah=> ?_,λah=>⟨⟨k+1,.inr (by omega),by rw[hs];exact W0 (by omega)⟩,by simp only;omega,by rw[AH (by omega) (by omega)];simp only;omega⟩⟩;have h9:=Qt8 n bs t (k+1) (by rw[hs];exact Jj (by omega)) (n - 1 - (k+1));rw[show k+1+(n - 1 - (k+1))=n - 1 by omega] at h9;exact h9.symm
 .rcases aa with rfl|aa
  .rw[show n - 1=0 by omega];rfl
  .rw[show n - 1=k by omega];exact ab.symm
def KG(t:Int)(b:Ai):Bool:=decide (b.Strength<t)
def CT1.fv(a:Ai×Int):Bool:=(λb t=>KG t b) (a.1) (a.2)
def CT1.row:AG:=CY (b2 (qR Ai.d_le) (qP 1 Dj)) rB (λa=>True) CT1.fv
def CT1.q:=CD (R:=CT1.row) rfl
def CT1.ok:AJ 149 CT1.row:=by
 refine FM tN Tryz.func149 ?_;intro a z;simp only[Tryz.f149,Option.getD];simp only[ZZ,simprocAttr,Ab,CT1.fv,BD,D.sc,D.scs,B6,AP];rfl
def IdxB.ar:List PK->Option ((List Ai)×Int)
 |[.val (.sl _ _ G),.val (.fn 149 [] [.ref [.int .i64 z]])]=>(AX Ai.d G).bind λO=>some (O,z)
 |_=>none
def IdxB.ae(a:(List Ai)×Int):List PK:=[.val (.sl false 3 (a.1.map Ai.c)),.val (.fn 149 [] [.ref [.int .i64 a.2]])]
def IdxB.le: ∀z a,IdxB.ar z=some a->BY z (IdxB.ae a):=by
 intro z a h;unfold IdxB.ar at h;split at h
 .simp only[Fi,AO] at h;obtain⟨G,h0,rfl⟩:=h;exact⟨Fh (EZ Ai.d_le _ _ h0) (by simp only[BF];rintro r ⟨y,_,rfl⟩;rfl),Wr ⟨Le.refl _,trivial⟩,trivial⟩
 .cases h
def IdxB.fv(a:(List Ai)×Int):Int:=(λl t=>B0 (KG t) 0 l) (a.1) (a.2)
def IdxB.row:AG:=LB IdxB.ar (λa=>True) (λa=>(D.int .i64) (IdxB.fv a))
def IdxB.q:=oM IdxB.row rfl
def IdxB.ok:AJ 171 IdxB.row:=by
 refine lP D3 (tC CT1.ok tN) Tryz.func171 rfl (by kernel_rfl) (by kernel_rfl) (ar:=IdxB.ar) (ae:=IdxB.ae) IdxB.le (n:=2) (λ_=>rfl) (by decide) (rc:=(DG)) (re:=(D.int .i64)) (Q2) (f:=IdxB.fv) ?_;intro a O;simp only[Tryz.f171,Option.getD];simp only[ZZ,simprocAttr,Ab,IdxB.ae,IdxB.fv,CT1.q,CT1.fv,BD,D.sc,D.scs,B6,AP];intro hn;refine AZ.old ⟨{k:Nat//k<=a.1.length/\B0 (KG a.2) k (a.1.drop k)=B0 (KG a.2) 0 a.1},λk=>⟨[(8,.im (.int .i64 k.1)),(7,.im (.int .i64 a.1.length)),(6,.im (.sl false 3 (a.1.map Ai.c))),(4,.im (.int .i64 0)),(0,.im (.sl false 3 (a.1.map Ai.c))),(1,.im (.fn 149 [] [.ref [.int .i64 a.2]]))],[],0⟩,λk=>a.1.length - k.1,λk=>⟨by simp[ZG],AU _⟩,⟨⟨0,by simp⟩,by simp only[ZZ,simprocAttr,Ab,IdxB.ae,IdxB.fv,CT1.q,CT1.fv,BD,D.sc,D.scs,B6,AP,sub]⟩,λk=> ?_⟩;obtain⟨k,Q,z⟩:=k;simp only[ZZ,simprocAttr,Ab,IdxB.ae,IdxB.fv,CT1.q,CT1.fv,BD,D.sc,D.scs,B6,AP,sub,AS];refine⟨λG=>⟨G,λx Z=> ?_⟩,λG=> ?_⟩
 .rw[GQ Z,B0] at z;refine⟨λh=> ?_,λh=>JW G hn ⟨by omega,by rw[<-z,Ag (by simpa using h)]⟩⟩;rw[Al (by simpa using h)] at z;exact z
 .rw[Ee (by omega),B0] at z;exact z
def Qu3{t:Int}{l:List Ai}{i:Nat}{b:Ai}(Q:l.find? (KG t)=some b)(Z:B0 (KG t) 0 l=(i:Int))(h3:l[i]? =some b):GU t (l.take (i+1))=l.take i:=by
 have hw:KG t b=true:=nS Q;have G: ∀(l:List Ai) (o i:Nat),B0 (KG t) o l=((o+i:Nat):Int)-> ∀x∈l.take i,KG t x=false:=by
  intro l;induction l with
  |nil=>intro o i _ x z;simp at z
  |cons y r ih=>
   intro o i h x z;cases i with
   |zero=>simp at z
   |succ i=>
    simp only[B0] at h;split at h
    .omega
    .rename_i hy;rw[OC] at z;rcases Bw.1 z with rfl|z
     .simpa using hy
     .exact ih (o+1) i (by rw[h];congr 1;omega) x z
 rw[Ji,h3,Zec,GU,List.filter_append];have O:(l.take i).filter (λb=>decide (t<=b.Strength))=l.take i:=by
  rw[ZdS];intro x z
  have:=G l 0 i (by rw[Z];simp) x z
  simp only[KG,Jk] at this;simp only[C7];omega
 simp only[KG,C7] at hw;rw[O,wJ (by simp;omega),List.filter_nil,Ck]
def dlC.ca(a:List Ai×Int):List AV:=[.own 0,.im (.fn 149 [] [.ref [.int .i64 a.2]])]
def dlC.H0(a:List Ai×Int):Ar:=[(0,(true,.arr 161 3 (a.1.map Ai.c)))]
def dlC.H1(a:List Ai×Int):Ar:=[(1,(true,.arr 161 3 ((GU a.2 a.1).map Ai.c)))]
def dlC.row:AG:=Az dlC.ca dlC.H0 1 (λa=>a.1.length<=1000000) (λj=>j==0) (λ_=> .own 1) dlC.H1 1000
def XO:=J @IdxB.q<|J @IdxB.fv.eq_1<|J @CT1.q @CT1.fv.eq_1
def dlC.ok:AJ 147 dlC.row:=by
 refine Ha (tC IdxB.ok (tC CT1.ok tN)) Tryz.func147 (exB:=λj=>j==1) (R:=λ_ r=>r= .own 1) (λ_=>rfl)
  (λa=>by simp[dlC.ca,dlC.H0,dlC.H1,AQ,AV.bel,AB,Cg,Cs,Ah.nms,Ax,AV.nms,An,hget]) (λa p hp=> ?_) (λa r h=>by subst h;exact D2.refl _) ?_
 rotate_left
 intro a Z;simp only[Tryz.f147,Option.getD,dlC.ca,dlC.H0,dlC.H1];simp only[ZZ,simprocAttr,Ab,XO,IdxB.ar,AD,Av,dlC.ca,dlC.H0,dlC.H1];rcases aP (KG a.2) a.1 0 with ⟨e1,Q⟩|⟨i0,b0,e1,Q,e3⟩
 .rw[Q,Al rfl];refine⟨[],[(1,some 0)],⟨[(4,.own 1)],[(1,(true,.arr 161 3 (a.1.map Ai.c)))],2⟩,?_,by simp[ZG],by simp,?_⟩
  .simp only[Am];simp only[ZZ,simprocAttr,Ab,XO,IdxB.ar,AD,Av,dlC.ca,dlC.H0,dlC.H1,AN,AM]
  .simp only[ZZ,simprocAttr,Ab,XO,IdxB.ar,AD,Av,dlC.ca,dlC.H0,dlC.H1]
   have:GU a.2 a.1=a.1:=by
    rw[GU,ZdS];intro b hb
    have:=wL.1 e1 b hb
    simp only[KG,C7] at this⊢;omega
   rw[this]
 .rw[FS] at Q;rw[Q,Ag (by omega)];have aa:=(CL.1 e3).1;rw[AH (by omega) (by omega)];obtain⟨l,hl⟩: ∃l,l=a.1:=⟨_,rfl⟩;obtain⟨t,ht⟩: ∃t,t=a.2:=⟨_,rfl⟩;simp only[<-hl,<-ht] at e1 Q e3 aa Z⊢;refine AZ.old ⟨{j:Nat//j<=l.length},λj=>⟨[(6,.im (.int .i64 j.1)),(5,.im (.int .i64 (GU t (l.take j.1)).length)),(0,.own 0),(1,.im (.fn 149 [] [.ref [.int .i64 t]]))],[(0,(true,.arr 161 3 ((GU t (l.take j.1)++l.drop (GU t (l.take j.1)).length).map Ai.c)))],2⟩,λj=>l.length - j.1,λj=>⟨by simp[ZG],by simp⟩,⟨⟨i0+1,by omega⟩,?_⟩,λj=> ?_⟩
  .have h1:=Qu3 e1 Q e3;simp only[ZZ,simprocAttr,Ab,XO,IdxB.ar,AD,Av,dlC.ca,dlC.H0,dlC.H1,sub,h1,CB];rw[show min i0 l.length=i0 by omega,XS];exact⟨⟨by omega,rfl⟩,rfl⟩
  obtain⟨j,hj⟩:=j;obtain⟨kp,hkp⟩: ∃kp,kp=GU t (l.take j):=⟨_,rfl⟩;have ac:kp.length<=j:=by
   have:=Qln t (l.take j)
   rw[CB] at this;rw[hkp];omega
  have O:(kp++l.drop kp.length).length=l.length:=by simp;omega
  simp only[<-hkp];simp only[ZZ,simprocAttr,Ab,XO,IdxB.ar,AD,Av,dlC.ca,dlC.H0,dlC.H1,sub,AS,O];intro _;refine⟨λG=>⟨G,G,λb hb=> ?_⟩,λG=> ?_⟩
  .have ad:l[j]? =some b:=by
    rw[G6 ac,Jf,show kp.length+(j - kp.length)=j by omega] at hb;exact hb
   have z:=Qjs t ad;rw[<-hkp] at z;refine⟨λhw=>⟨by omega,by omega,λc _=>⟨⟨j+1,by omega⟩,by simp only;omega,?_⟩⟩,λhw=>⟨⟨j+1,by omega⟩,by simp only;omega,?_⟩⟩
   .have hs:t<=b.Strength:=by
     simp only[KG,Jk] at hw;omega
    rw[Al hs] at z;simp only[z,Bz,CR,DQ];refine⟨⟨by rw[AH (by omega) (by omega)];omega,by rw[AH (by omega) (by omega)];omega⟩,?_⟩;have h1:(kp++l.drop kp.length).set kp.length b=kp++[b]++l.drop (kp.length+1):=by
     obtain⟨c,hc⟩: ∃c,l[kp.length]? =some c:=⟨_,BB (by omega)⟩;rw[GQ hc,wU _ _ (AU _),Ii,iB,Ej];rfl
    rw[<-h1,RU];rfl
   .have hs: ¬t<=b.Strength:=by
     rw[Jg] at hw;simp only[KG,C7] at hw;omega
    rw[Ag hs,Ck] at z;simp only[z];exact⟨⟨by rw[AH (by omega) (by omega)];omega,trivial⟩,trivial⟩
  .refine⟨by omega,false,?_⟩;have ab:j=l.length:=by omega
   subst ab;rw[IF] at hkp;simp only[ZZ,simprocAttr,Ab,XO,IdxB.ar,AD,Av,dlC.ca,dlC.H0,dlC.H1,O];have hA:List.take kp.length ((kp++l.drop kp.length).map Ai.c)=kp.map Ai.c:=by
    rw[<-List.map_take,List.take_left]
   rw[hA];refine⟨by simp only[Bz,Du];omega,true,?_⟩;simp only[ZZ,simprocAttr,Ab,XO,IdxB.ar,AD,Av,dlC.ca,dlC.H0,dlC.H1,O];refine⟨[],[(1,some 2)],⟨[(4,.own 1)],[(1,(true,.arr 161 3 (kp.map Ai.c)))],2⟩,?_,by simp[ZG],by simp,?_⟩
   .simp only[Am];simp only[ZZ,simprocAttr,Ab,XO,IdxB.ar,AD,Av,dlC.ca,dlC.H0,dlC.H1,AN,AM];rw[show ((kp.length:Int) - 0).toNat=(kp.map Ai.c).length by simp,Ej,List.take_left]
   .simp only[ZZ,simprocAttr,Ab,XO,IdxB.ar,AD,Av,dlC.ca,dlC.H0,dlC.H1,hkp]
 simp[dlC.H1] at hp;subst hp;exact .inr ⟨by omega,by omega,rfl,rfl⟩
def MB(b i:Nat)(x:Int):AV:=if 0<=x/\x<i then .ptr (b+x.toNat) 0 else .im .nilp
def HL(b:Nat)(L:List Int)(i:Nat):Au:=(true,.cells 253 [MB b i (L[i]?.getD (-1)),.im (.int .i64 i)])
def Fb(b:Nat)(L:List Int)(n:Nat):Ar:=CJ b n (HL b L)
def GG(L:List Int):Prop:= ∀(i:Nat) (x:Int),L[i]? =some x->x<i
def O2(L:List Int)(i:Nat):Nat->Nat
 |0=>i
 |m+1=>if L[i]?.getD (-1)<0 then i else O2 L (L[i]?.getD (-1)).toNat m
def EW(L:List Int)(i:Nat):Nat:=O2 L i i
def Qabj{L:List Int}(h:GG L): ∀(i m m':Nat),i<=m->i<=m'->O2 L i m=O2 L i m':=by
 intro i;induction i using Nat.strongRecOn with
 |_ i ih=>
  intro m m' z G;cases hi:L[i]? with
  |none=>
   cases m<;>cases m'<;>simp[O2,hi]
  |some x=>
   have O:=h i x hi;by_cases h0:x<0
   .cases m<;>cases m'<;>simp[O2,hi,h0]
   .cases m with
    |zero=>omega
    |succ m=>
     cases m' with
     |zero=>omega
     |succ m'=>
      simp only[O2,hi,AW,Ag h0];exact ih x.toNat (by omega) m m' (by omega) (by omega)
def aM{L:List Int}(h:GG L){i:Nat}{x:Int}(z:L[i]? =some x):EW L i=if x<0 then i else EW L x.toNat:=by
 have G:=h i x z;by_cases h0:x<0
 .rw[Al h0,EW];cases i with
  |zero=>rfl
  |succ i=>simp only[O2,z,AW,Al h0]
 .rw[Ag h0,EW];cases i with
  |zero=>omega
  |succ i=>
   simp only[O2,z,AW,Ag h0];exact Qabj h _ _ _ (by omega) (AU _)
def Qnj{L:List Int}(h:GG L): ∀(i:Nat),EW L i<=i:=by
 intro i;induction i using Nat.strongRecOn with
 |_ i ih=>
  cases hi:L[i]? with
  |none=>rw[EW];cases i<;>simp[O2,hi]
  |some x=>
   rw[aM h hi];have z:=h i x hi;split
   .exact AU _
   .have:=ih x.toNat (by omega);omega
def firC.n(a:List Int×Nat):Nat:=min a.1.length 512
def firC.ca(a:List Int×Nat):List AV:=[.ptr (min a.2 511) 0]
def firC.H0(a:List Int×Nat):Ar:=Fb 0 a.1 (firC.n a)
def firC.r0(a:List Int×Nat):AV:= .ptr (EW a.1 a.2) 0
def firC.pre(a:List Int×Nat):Prop:=a.1.length<=512/\a.2<a.1.length/\GG a.1
def firC.row:AG:=Az firC.ca firC.H0 600 firC.pre (λ_=>false) firC.r0 (λ_=>[]) 0
def firC.hbel(a:List Int×Nat):AQ 600 (firC.ca a)=true:=by
 simp only[firC.ca,AQ,AV.bel,EL,F5];omega
def Qt5(nx b:Nat)(f:Nat->Au)(n:Nat)(hf: ∀i,i<n->AB nx [(b+i,f i)]=true):AB nx (CJ b n f)=true:=by
 have: ∀(l:List Nat),(∀i∈l,i<n)->AB nx (l.map λi=>(b+i,f i))=true:=by
  intro l;induction l with
  |nil=>intro _;rfl
  |cons i r ih=>
   intro z;rw[Bf,show (b+i,f i)::(r.map λi=>(b+i,f i))=[(b+i,f i)]++(r.map λi=>(b+i,f i)) from rfl,tV,hf i (z i (BS ..)),ih (λj O=>z j (BW _ O))];rfl
 exact this _ (λi G=>CS.1 G)
def YK(b i N:Nat)(x:Int)(h:b+i<=N):(MB b i x).bel N=true:=by
 simp only[MB];split
 .simp only[AV.bel,F5];omega
 .rfl
def uM(b n N:Nat)(L:List Int)(h:b+n<=N):AB N (Fb b L n)=true:=Qt5 _ _ _ _ λi z=>by
 simp only[HL,AB,AQ,YK b i N _ (by omega),AV.bel,nU]
def firC.n_le(a:List Int×Nat):firC.n a<=512:=wP _ _
def firC.hbH(a:List Int×Nat):AB 600 (firC.H0 a)=true:=uM _ _ _ _ (by have:=firC.n_le a;omega)
def firC.hkH(a:List Int×Nat):Cg 600 (firC.H0 a)=true:=fH _ _ _ _ (by have:=firC.n_le a;omega)
def KB(b n:Nat)(L:List Int)(i:Nat)(h:i<n):hget (Fb b L n) (b+i)=some (HL b L i):=aJ _ _ _ _ h
def Pu{H0:Ar}{b n:Nat}{f:Nat->Au}(h: ∀i,i<n-> ∀m∈(f i).2.nms,An H0 m=true):Cs H0 (CJ b n f):=by
 have: ∀(l:List Nat),(∀i∈l,i<n)->Cs H0 (l.map λi=>(b+i,f i)):=by
  intro l;induction l with
  |nil=>intro _;trivial
  |cons i r ih=>
   intro z;simp only[Bf];exact⟨h i (z i (BS ..)),ih (λj O=>z j (BW _ O))⟩
 exact this _ (λi G=>CS.1 G)
def firC.hnm(a:List Int×Nat):Cs (firC.H0 a) (firC.H0 a):=by
 refine Pu λi G m z=> ?_
 simp only[HL,Ah.nms,Ax,MB] at z;split at z
 .simp only[AV.nms,Ck,BL] at z;subst z;rename_i h;simp only[An,firC.H0];rw[KB 0 _ _ _ (by omega)];rfl
 .simp[AV.nms] at z
def Qm(s:A8)(b n:Nat)(f:Nat->Au):CQ s (CJ b n f)= ∀i,i<n->hget s.h (b+i)=some (f i):=by
 have: ∀(l:List Nat),CQ s (l.map λi=>(b+i,f i))↔ ∀i∈l,hget s.h (b+i)=some (f i):=by
  intro l;induction l with
  |nil=>simp[CQ]
  |cons i r ih=>simp only[Bf,CQ,ih,Bw,ZeW]
 apply propext;rw[CJ,this];simp only[CS]
def uR{s:A8}{b n:Nat}{L:List Int}(h: ∀i,i<n->hget s.h (b+i)=some (HL b L i)):CQ s (Fb b L n):=by
 rw[Fb,Qm];exact h
def firC.ok:AJ 170 firC.row:=by
 refine ow tN Tryz.func170 (exB:=λ_=>false) (R:=λa r=>r=firC.r0 a) (λ_=>rfl)
  (λa=>⟨firC.hbel a,firC.hbH a,firC.hkH a,firC.hnm a⟩) (λa p hp=> ?_) (λa r h=>by subst h;exact D2.refl _) ?_
 rotate_left
 intro a Z;simp only[Tryz.f170,Option.getD,firC.ca];simp only[ZZ,simprocAttr,Ab,Av,firC.ca];obtain⟨L,i⟩:=a;obtain⟨h1,h2,h3⟩:=Z;simp only at h1 h2 h3;obtain⟨n,hn⟩: ∃n,n=L.length:=⟨_,rfl⟩;have ab:firC.n (L,i)=n:=by simp only[firC.n,<-hn];omega
 simp only[firC.H0,firC.r0,ab,Cx];rw[<-hn] at h1 h2;rw[show min i 511=i by omega];refine AZ.old ⟨{g:Nat//g<n/\EW L g=EW L i},λg=>⟨[(0,.ptr g.1 0)],Fb 0 L n,600⟩,λg=>g.1,λg=>⟨?_,by simp⟩,⟨⟨i,h2,rfl⟩,?_⟩,λg=> ?_⟩
 .simp only[A8.good,Df,AV.bel,EL,Bc,F5];exact⟨by omega,uM _ _ _ _ (by omega),fH _ _ _ _ (by omega)⟩
 .simp only[sub,GM,A9];refine⟨?_,uR (λi Q=>KB 0 n L i Q)⟩;simp only[ZZ,simprocAttr,Ab,Av,firC.ca]
 obtain⟨g,hg,hr⟩:=g;obtain⟨x,hx⟩: ∃x,L[g]? =some x:=⟨_,BB (by omega)⟩;have ac:=h3 g x hx;have z:=KB 0 n L g hg;rw[FS] at z;simp only[HL,hx,AW] at z;have aa:=aM h3 hx;by_cases h0:x<0
 .have G:MB 0 g x= .im .nilp:=Ag (by omega);rw[G] at z;simp only[ZZ,simprocAttr,Ab,Av,firC.ca,sub,AS,z,Cx];rw[Al h0] at aa;exact⟨by omega,by omega,by omega,by omega,by omega,Qxi _ _ _ _ _ (λi Q=> .inr (KB 0 n L i Q)),by omega⟩
 .have G:MB 0 g x= .ptr x.toNat 0:=by simp only[MB];rw[Al ⟨by omega,ac⟩,FS]
  rw[G] at z;have O:=KB 0 n L x.toNat (by omega);rw[FS] at O;simp only[ZZ,simprocAttr,Ab,Av,firC.ca,sub,AS,z,O,Cx];rw[Ag h0] at aa;exact⟨by omega,by omega,by omega,by omega,by omega,by omega,by omega,by omega,by omega,⟨x.toNat,by omega,by omega⟩,by simp only;omega,rfl,uR (λi Q=>KB 0 n L i Q)⟩
 simp at hp
def KD(b n k:Nat):List (List AV):=(List.range n).map λi=>if i<k then [AV.ptr (b+i) 0] else [.im .nilp]
def JX(b n k:Nat):(KD b n k).length=n:=by simp[KD]
def zX(b n k i:Nat)(h:i<n):(KD b n k)[i]? =some (if i<k then [.ptr (b+i) 0] else [.im .nilp]):=by simp[KD,IH h]
def Qtr(b n k i:Nat)(K:List AV->Prop)(h:i<n):JZ (KD b n k) i K=K (if i<k then [.ptr (b+i) 0] else [.im .nilp]):=by
 apply propext;unfold JZ;rw[zX b n k i h];exact⟨λh=>h _ rfl,λh row z=>by obtain rfl:=AC z;exact h⟩
def Qlg(b n k N:Nat)(h:b+k<=N):(KD b n k).all (AQ N)=true:=by
 rw[Fk];intro r z;obtain⟨i,G,rfl⟩:=BF.1 z;split
 .simp[AQ,AV.bel];omega
 .simp[AQ,AV.bel]
def Qnw(b n N:Nat)(L:List Int)(h:b+n<=N):Cg N (Fb b L n)=true:=fH _ _ _ _ h
def PL(b n:Nat)(π:List (Nat×Option Nat)):GZ π (KD b n 0) (Bm (List.replicate n [.nilp])):=by
 have e:KD b n 0=Bm (List.replicate n [.nilp]):=by
  simp only[KD,Bm,wZ,CN,List.map_replicate];rw[List.map_const',FE];rfl
 rw[e];exact Qzo _ _
def YL{σ:Nat->Nat}{i:Nat}{x:Int}(h: ∀j,j<i->σ j=1000+j):(MB 0 i x).ren σ=MB 1000 i x:=by
 simp only[MB];split
 .simp only[AV.ren,FS];rw[h _ (by omega)]
 .rfl
def Pi{h:Nat->Option Au}{σ:Nat->Nat}{b n:Nat}{f:Nat->Au}(H: ∀i,i<n->h (σ (b+i))=some ((f i).1,(f i).2.ren σ)):Fs h σ (CJ b n f):=by
 have: ∀(l:List Nat),(∀i∈l,i<n)->Fs h σ (l.map λi=>(b+i,f i)):=by
  intro l;induction l with
  |nil=>intro _;trivial
  |cons i r ih=>
   intro z;simp only[Bf];exact⟨H i (z i (BS ..)),ih (λj O=>z j (BW _ O))⟩
 exact this _ (λi G=>CS.1 G)
def Y6{n:Nat}{L:List Int}{j:Nat}(h:An (Fb 0 L n) j=true):j<n:=by
 simp only[An,Fb,Qm4] at h;split at h
 .omega
 .cases h
def Qtp{H:Nat->Option Au}{L:List Int}{k nx u:Nat}{K:Aj}(Q:L.length=k)(hk:k<=512)(G:GG L)(hu:u<k)(aa:2000<=nx)(hH: ∀i,i<k->H (1000+i)=some (HL 1000 L i))
 (O: ∀U,K (.ptr (1000+EW L u) 0) {use:=U}):firC.row [.ptr (1000+u) 0] H nx K:=by
 have hσ: ∀j,j<600->Db (λj=>1000+j) 600 nx j=1000+j:=λj z=>Al z
 have hn:firC.n (L,u)=k:=by simp only[firC.n,Q];omega
 have hr:=Qnj G u;refine⟨(L,u),λj=>1000+j,(List.range k).map (1000+ ·),[],⟨by simp only;omega,by simp only;omega,G⟩,?_,?_,?_,?_⟩
 .simp only[firC.ca,Bd,AV.ren];rw[show min u 511=u by omega,hσ u (by omega)]
 .simp only[firC.H0,hn,Fb];refine Pi λi Z=> ?_
  rw[FS,hσ i (by omega),hH i Z];simp only[HL,Ah.ren,Bd,AV.ren];rw[YL (λj z=>hσ j (by omega))]
 .have hd: ∀j,An (firC.H0 (L,u)) j=true->j<k:=λj z=>by simp only[firC.H0,hn] at z;exact Y6 z
  refine⟨λi j _ _ h=> ?_,λj z=> ?_,λj z=> ?_,λm hm=>(by cases hm),λj _ z=>(by cases z)⟩
  .have h:1000+i=1000+j:=h;omega
  .have:=hd j z
   show 1000+j<nx;omega
  exact BF.2 ⟨j,CS.2 (hd j z),rfl⟩
 .have e:(firC.r0 (L,u)).ren (Db (λj=>1000+j) 600 nx)= .ptr (1000+EW L u) 0:=by
   simp only[firC.r0,AV.ren];rw[hσ _ (by omega)]
  rw[e];exact O _
def Qug(k:Nat):GG (List.replicate k (-1)):=by
 intro i x h
 have:=QH (Bh h)
 omega
def zY: ∀(k i:Nat),i<k->(XG k)[i]? =some (i:Int)
 |0,i,h=>by omega
 |k+1,i,h=>by
  simp only[XG];by_cases z:i<k
  .rw[F4 (by rw[fP];exact z)];exact zY k i z
  .have:i=k:=by omega
   subst this;rw[G6 (by rw[fP];exact AU _),fP,Ii];rfl
def P5{k i:Nat}{bs:List Ai}(h:i<k):(Cu k bs 0)[i]? =some ((EW (List.replicate k (-1)) i:Nat):Int):=by
 simp only[Cu];rw[zY k i h]
 have:=aM (Qug k) (i:=i) (x:= -1) (by rw[O9,Al h])
 rw[this,Al (by omega)]
def Qls{L:List Int}(h:GG L): ∀(i:Nat),EW L (EW L i)=EW L i:=by
 intro i;induction i using Nat.strongRecOn with
 |_ i ih=>
  cases hi:L[i]? with
  |none=>
   have:EW L i=i:=by rw[EW];cases i<;>simp[O2,hi]
   rw[this,this]
  |some x=>
   have z:=h i x hi;rw[aM h hi];split
   .rename_i h0;rw[aM h hi,Al h0]
   .exact ih x.toNat (by omega)
def Qsx{L:List Int}(h:GG L){p q:Nat}(O:p<q):GG (L.set q (p:Int)):=by
 intro i x z;by_cases hq:q=i
 .subst hq;have G:q<L.length:=by have:=(CL.1 z).1;simpa using this
  rw[Ey G] at z;obtain rfl:=AC z;omega
 .rw[Ep hq] at z;exact h i x z
def Qqx{L:List Int}(h:GG L){p q:Nat}(hp:EW L p=p)(hq:EW L q=q)(G:p<q)(O:q<L.length): ∀(i:Nat),EW (L.set q (p:Int)) i=if EW L i=q then p else EW L i:=by
 have h':=Qsx h G;intro i;induction i using Nat.strongRecOn with
 |_ i ih=>
  by_cases z:q=i
  .subst z;have e:(L.set q (p:Int))[q]? =some (p:Int):=Ey O;rw[aM h' e,Ag (by omega),B5,ih p G,hp,Ag (by omega),hq,Al rfl]
  .have e:(L.set q (p:Int))[i]? =L[i]? :=Ep z;cases hi:L[i]? with
   |none=>
    have Q:EW L i=i:=by rw[EW];cases i<;>simp[O2,hi]
    have r2:EW (L.set q (p:Int)) i=i:=by rw[EW];cases i<;>simp[O2,e,hi]
    rw[Q,r2,Ag (Ft z)]
   |some x=>
    have Z:=h i x hi;rw[hi] at e;rw[aM h' e,aM h hi];by_cases h0:x<0
    .rw[Al h0,Al h0,Ag (Ft z)]
    .rw[Ag h0,Ag h0];exact ih x.toNat (by omega)
def M8{x y:Nat}(h:x<y)(r:Nat):Ka (x:Int) (y:Int) (r:Int)=((if r=y then x else r:Nat):Int)/\Ka (y:Int) (x:Int) (r:Int)=((if r=y then x else r:Nat):Int):=by
 have m1:Bo (x:Int) y=y:=Ag (by omega);have G:Bo (y:Int) x=y:=Al (by omega);have O:Bt (x:Int) y=x:=Al (by omega);have Q:Bt (y:Int) x=x:=Ag (by omega);simp only[Ka,m1,G,O,Q];by_cases z:r=y
 .rw[Al z,Al (by omega)];exact⟨rfl,rfl⟩
 .rw[Ag z,Ag (by omega)];exact⟨rfl,rfl⟩
def YG(x r:Nat):Ka (x:Int) (x:Int) (r:Int)=(r:Int):=by
 have m1:Bo (x:Int) x=x:=Ag (by omega);have G:Bt (x:Int) x=x:=Ag (by omega);simp only[Ka,m1,G];by_cases z:(r:Int)=x
 .rw[Al z,z]
 .rw[Ag z]
def W9(p:Int×Int):D×D:=(.int .i64 p.1,.int .i64 p.2)
def IK(M:List (Int×Int))(x:Int):Option Int:=(M.find? (λp=>p.1==x)).map (·.2)
def TW(x:Int): ∀(M:List (Int×Int)),lk (M.map W9) (.int .i64 x)=(IK M x).map (D.int .i64)
 |[]=>rfl
 |(k,v)::r=>by
  have ih:=TW x r;simp only[IK] at ih;by_cases h:k=x
  .subst h;simp[lk,W9,IK,D.beq]
  .have z: ¬x=k:=λe=>h e.symm
   have G:(x==k)=false:=by simpa using z
   simp[lk,W9,IK,D.beq,h,G,ih]
def YM(x:Int)(M:List (Int×Int))(Ks:D->Prop)(Kn:Prop):FW (M.map W9) (.int .i64 x) Ks Kn=((∀v,IK M x=some v->Ks (.int .i64 v))/\(IK M x=none->Kn)):=by
 apply propext;unfold FW;rw[TW];cases IK M x<;>simp
def NE(x v:Int): ∀(M:List (Int×Int)),IK M x=none->Eg (M.map W9) (.int .i64 x) (.int .i64 v)=(M++[(x,v)]).map W9
 |[],_=>rfl
 |(k,w)::r,h=>by
  by_cases z:k=x
  .subst z;simp[IK] at h
  .have G: ¬x=k:=λe=>z e.symm
   have Q:IK r x=none:=by simpa[IK,z] using h
   have ih:=NE x v r Q;simp only[Bf,Ci,W9] at ih⊢;have O:(x==k)=false:=by simpa using G
   simp[Eg,D.beq,O,ih,W9]
def MF(M:List (Int×Int))(x v y:Int):IK (M++[(x,v)]) y=(IK M y).or (if x=y then some v else none):=by
 simp only[IK,List.find?_append];cases h:M.find? (λp=>p.1==y) with
 |some p=>simp
 |none=>
  by_cases z:x=y
  .subst z;simp
  .simp[z]
def Qld{own:List Int}{i:Nat}(h:own[i]? =some (i:Int)): ∀k,∃z,DB own i (k+1)=(i:Int)::z
 |0=>⟨[],by simp[DB,h]⟩
 |k+1=>by
  obtain⟨z,G⟩:=Qld h k;rw[DB,G];exact⟨_,rfl⟩
def Qjv(own:List Int)(n:Nat): ∀k,k<=n-> ∀g∈BK own n k,∃(r:Nat) (rest:List Int),g=(r:Int)::rest/\r<k/\own[r]? =some (r:Int)
 |0,_,g,h=>by simp[BK] at h
 |k+1,hk,g,h=>by
  simp only[BK,B2] at h;rcases h with h|h
  .obtain⟨r,rest,O,Z,Q⟩:=Qjv own n k (by omega) g h;exact⟨r,rest,O,by omega,Q⟩
  .split at h
   .rename_i z;obtain rfl:=BL.1 h;obtain⟨rest,G⟩:=Qld z (n - k - 1);rw[show n - k - 1+1=n - k by omega] at G;exact⟨k,rest,G,by omega,z⟩
   .cases h
def Qo6(own:List Int)(n:Nat)(r:Nat)(O:own[r]? =some (r:Int)): ∀k,k<=n->r<k-> ∃z,((r:Int)::z)∈BK own n k
 |0,_,h=>by omega
 |k+1,Z,h=>by
  by_cases G:r=k
  .subst G;obtain⟨z,G⟩:=Qld O (n - r - 1);rw[show n - r - 1+1=n - r by omega] at G;exact⟨z,by simp[BK,O,G]⟩
  .obtain⟨z,Q⟩:=Qo6 own n r O k (by omega) (by omega);exact⟨z,by simp only[BK,B2];exact .inl Q⟩
def Qy0(own:List Int)(n:Nat): ∀k,∀g∈BK own n k,g.length<=n
 |0,g,h=>by simp[BK] at h
 |k+1,g,h=>by
  simp only[BK,B2] at h;rcases h with h|h
  .exact Qy0 own n k g h
  .split at h
   .obtain rfl:=BL.1 h
    have:=Qsd own k (n - k)
    omega
   .cases h
def OX{h:Nat->Option Au}{b m:Nat}{G:List (List Int)}(H: ∀q,q<G.length->h (b+q)=some (true,.arr 2 1 ((G[q]?.getD []).map Af))):
 AA (AA λx=>EM (Bs h (Iw 0 []) (m+1) x)) (DL b G.length)=some (G.map DA):=by
 have: ∀(l:List Nat),(∀q∈l,q<G.length)->AA (AA λx=>EM (Bs h (Iw 0 []) (m+1) x)) (l.map λi=>[AV.own (b+i)])=some (l.map λq=>DA (G[q]?.getD [])):=by
  intro l;induction l with
  |nil=>intro _;rfl
  |cons q r ih=>
   intro Q;have h0:Iw 0 [] (b+q)=none:=rfl;have O:=ih (λx Z=>Q x (BW _ Z));have e:AA (λx=>EM (Bs h (Iw 0 []) (m+1) x)) [AV.own (b+q)]=some (DA (G[q]?.getD [])):=by
    simp only[AA,Bs,h0,H q (Q q (BS ..)),Q9,kp,Ez,EM,AV.asD];rfl
   rw[Bf,AA,e,O];rfl
 rw[DL,this _ (λq hq=>CS.1 hq)];congr 1;apply QM;intro j;by_cases z:j<G.length
 .rw[Gb,IH z,Gb,BB z,Ez,Ez,BB z,AW]
 .rw[HK (by simp;omega),HK (by simp;omega)]
def J4(r:Int)(m:Nat)(g:List Int):List Int:=if g.head? =some r then g++[(m:Int)] else g
def Ql4(own:List Int)(m:Nat)(r:Int)(Q:own[m]? =some r): ∀k,k<=m->BK own (m+1) k=(BK own m k).map (J4 r m)
 |0,_=>rfl
 |k+1,hk=>by
  rw[BK,BK,CV,Ql4 own m r Q k (by omega)];congr 1;by_cases G:own[k]? =some (k:Int)
  .rw[Al G,Al G];obtain⟨Z,O⟩:=Qld G (m - k - 1);rw[show m - k - 1+1=m - k by omega] at O;have e:DB own k (m+1 - k)=DB own k (m - k)++(if own[m]? =some (k:Int) then [(m:Int)] else []):=by
    rw[show m+1 - k=(m - k)+1 by omega,DB,show k+(m - k)=m by omega]
   rw[e,Q];simp only[Bf,Bg,J4,O,Zfa,AO];by_cases z:r=(k:Int)
   .rw[Al z,Al z.symm]
   .rw[Ag z,Ag (Ft z),Ck]
  .rw[Ag G,Ag G];rfl
structure vB(out:List (List Int))(M:List (Int×Int)):Prop where
 a: ∀r v,IK M r=some v-> ∃(g:Nat) (rest:List Int),v=g/\out[g]? =some (r::rest)
 b: ∀(g:Nat) (r:Int) (rest:List Int),out[g]? =some (r::rest)->IK M r=some (g:Int)
def Tu{own:List Int}{i:Nat}{M:List (Int×Int)}{r:Nat}(hP:vB (BK own i i) M)(ho:own[i]? =some (r:Int))(hr:r<=i)(ab:own[r]? =some (r:Int))(hn:IK M r=none):
 r=i/\BK own (i+1) (i+1)=BK own i i++[[(i:Int)]]/\vB (BK own (i+1) (i+1)) (M++[((i:Int),((BK own i i).length:Int))]):=by
 have aa:r=i:=by
  by_cases h:r<i
  .obtain⟨z,hm⟩:=Qo6 own i r ab i (by omega) h;obtain⟨g,G⟩:=W1.1 hm;rw[hP.b g _ _ G] at hn;cases hn
  .omega
 subst aa;have e:BK own (r+1) (r+1)=BK own r r++[[(r:Int)]]:=by
  rw[BK,Ql4 own r r ho r (AU _),Al ho];congr 1
  .conv=>rhs;rw[<-List.map_id (BK own r r)]
   apply QJ;intro g G;obtain⟨q,z,Q,Z,_⟩:=Qjv own r r (AU _) g G;simp only[J4,Q,Zfa,AO,id];rw[Ag (by omega)]
  .rw[show r+1 - r=0+1 by omega];simp[DB,ho]
 refine⟨rfl,e,?_⟩;rw[e];refine⟨λq v O=> ?_,λg q z G=> ?_⟩
 .rw[MF] at O;cases hq:IK M q with
  |some w=>
   rw[hq] at O;obtain rfl:=AC O;obtain⟨g,z,Q,Z⟩:=hP.a q _ hq;exact⟨g,z,Q,by rw[F4 (CL.1 Z).1];exact Z⟩
  |none=>
   rw[hq] at O;simp only[Option.none_or] at O;split at O
   .rename_i h;obtain rfl:=AC O;exact⟨_,[],rfl,by rw[G6 (AU _),Ii,<-h];rfl⟩
   .cases O
 .rw[MF];by_cases hl:g<(BK own r r).length
  .rw[F4 hl] at G;rw[hP.b g q z G];rfl
  .rw[G6 (by omega)] at G;have h0:g - (BK own r r).length=0:=by
    have:=(CL.1 G).1
    simpa using this
   rw[h0] at G;simp only[Hn,AO,Wz] at G;rw[<-G.1,hn,Al rfl,Option.none_or];congr 1;omega
def Tv{own:List Int}{i:Nat}{M:List (Int×Int)}{r:Int}{g:Nat}{rest:List Int}(hP:vB (BK own i i) M)(ho:own[i]? =some r)(Q:(BK own i i)[g]? =some (r::rest)):
 BK own (i+1) (i+1)=(BK own i i).set g (r::rest++[(i:Int)])/\vB (BK own (i+1) (i+1)) M:=by
 have ab:r≠i:=by
  obtain⟨q,rs,Z,G,_⟩:=Qjv own i i (AU _) _ (Bh Q)
  have:=(xB Z).1
  omega
 have e:BK own (i+1) (i+1)=(BK own i i).set g (r::rest++[(i:Int)]):=by
  rw[BK,Ql4 own i r ho i (AU _),Ag (by rw[ho];simpa using ab),Ck];apply QM;intro j;rw[Gb];by_cases O:g=j
  .subst O;rw[Ey (CL.1 Q).1,Q];simp[J4]
  .rw[Ep O];cases hx:(BK own i i)[j]? with
   |none=>rfl
   |some x=>
    simp only[Ez,J4];rw[Ag];intro hh;cases x with
    |nil=>cases hh
    |cons q rs=>
     simp only[Zfa,AO] at hh;subst hh;have Z:=hP.b j _ _ hx;have G:=hP.b g _ _ Q;rw[Z] at G
     have:=AC G
     omega
 refine⟨e,?_⟩;rw[e];have aa:=(CL.1 Q).1;refine⟨λq v hv=> ?_,λg' q rs z=> ?_⟩
 .obtain⟨j,rs,Z,G⟩:=hP.a q v hv;by_cases O:g=j
  .subst O;rw[Q] at G;simp only[AO,Wz] at G;exact⟨g,rest++[(i:Int)],Z,by rw[Ey aa,G.1];rfl⟩
  .exact⟨j,rs,Z,by rw[Ep O];exact G⟩
 .by_cases O:g=g'
  .subst O;rw[Ey aa] at z;simp only[AO,Ci,Wz] at z;rw[<-z.1];exact hP.b g _ _ Q
  .rw[Ep O] at z;exact hP.b g' _ _ z
def Fw(b:Nat)(G:List (List Int)):Ar:=CJ b G.length (λi=>(true,.arr 2 1 ((G[i]?.getD []).map Af)))
def Tn(b N:Nat)(G:List (List Int))(h:b+G.length<=N):AB N (Fw b G)=true:=Qt5 _ _ _ _ λi z=>by simp[AB]
def Tp(b N:Nat)(G:List (List Int))(h:b+G.length<=N):Cg N (Fw b G)=true:=fH _ _ _ _ h
def yF{π:List (Nat×Option Nat)}{b n k:Nat}(h: ∀i,i<k->pm π (b+i)=some (b+i)):GZ π (KD b n k) (KD b n k):=by
 rw[mS];refine⟨rfl,λi x y z Q=> ?_⟩;rw[z] at Q;obtain rfl:=AC Q;have G:i<n:=by have:=(CL.1 z).1;rwa [JX] at this
 rw[zX _ _ _ _ G] at z;obtain rfl:=AC z;split
 .rename_i O;simp only[Es,mt,h i O,Hl,Fu]
 .simp only[Es,mt,Fu]
def Px(A:List Nat)(b n c m:Nat)(h:A.Nodup)(Z: ∀x∈A,(x<b\/b+n<=x)/\(x<c\/c+m<=x))(aa:b+n<=c):(A++((List.range n).map (b+ ·)++(List.range m).map (c+ ·))).Nodup:=by
 have Q: ∀b n,((List.range n).map (b+ ·)).Nodup:=λb n=>by have:=lT [] b n (by simp) (by simp);simpa using this
 rw[Jh];refine⟨h,?_,λx O y z=> ?_⟩
 .rw[Jh];refine⟨Q _ _,Q _ _,λx O y z=> ?_⟩;obtain⟨i,hi,rfl⟩:=BF.1 O;obtain⟨j,G,rfl⟩:=BF.1 z
  have:=CS.1 hi
  omega
 .have:=Z x O
  rcases B2.1 z with z|z
  .obtain⟨j,G,rfl⟩:=BF.1 z
   have:=CS.1 G
   omega
  .obtain⟨j,G,rfl⟩:=BF.1 z
   have:=CS.1 G
   omega
def Qyb(b:Nat)(G:List (List Int))(g:Nat)(h:g<G.length):hget (Fw b G) (b+g)=some (true,.arr 2 1 ((G[g]?.getD []).map Af)):=aJ _ _ _ _ h
def Y7(b k:Nat)(L:List Int)(m:Nat)(h:m<b\/b+k<=m):hget (Fb b L k) m=none:=Qmh _ _ _ _ h
def Qnb(k:Nat)(L:List Int)(G:List (List Int))(i:Nat)(h:i<k):hget (Fb 1000 L k++Fw 3000 G) (1000+i)=some (HL 1000 L i):=by
 rw[XA,KB _ _ _ _ h];rfl
def Qne(k:Nat)(L:List Int)(G:List (List Int))(g:Nat)(z:k<=512)(h:g<G.length):hget (Fb 1000 L k++Fw 3000 G) (3000+g)=some (true,.arr 2 1 ((G[g]?.getD []).map Af)):=by
 rw[XA,Y7 _ _ _ _ (by omega),Qyb _ _ _ h];rfl
def TN(k:Nat)(L:List Int)(G:List (List Int)):FQ (Fb 1000 L k++Fw 3000 G)=(List.range k).map (1000+ ·)++(List.range G.length).map (3000+ ·):=by
 rw[Qpf,Fb,Fw,fI,fI]
def gI(k:Nat)(L:List Int)(i:Nat)(M:List (Int×Int))(G:List (List Int)):A8:=⟨[(81,.im (.int .i64 i)),(80,.im (.int .i64 k)),(79,.own 2),(12,.mp 2001),(11,.own 2100)],(2001,(true,.map {agg:=false,ks:=[KK.int .i64]} (M.map W9)))::(2100,(true,.arrA 22 1 (DL 3000 G.length)))::(2,(true,.arrA 251 1 (KD 1000 k k)))::(Fb 1000 L k++Fw 3000 G),4000⟩
def Y4{k:Nat}{L:List Int}{i:Nat}{M:List (Int×Int)}{G:List (List Int)}(O:k<=512)(z:G.length<=512):(gI k L i M G).good=true:=by
 simp only[gI,A8.good,AB,Cg,tV,Qmd,uM 1000 k 4000 _ (by omega),Qlg 1000 k k 4000 (by omega),Qnw 1000 k 4000 _ (by omega),Xs 3000 G.length 4000 (by omega),Tn 3000 4000 G (by omega),Tp 3000 4000 G (by omega)];simp[Df,AV.bel]
def Qxg{π:List (Nat×Option Nat)}{s:A8}{k:Nat}{L:List Int}{i:Nat}{M:List (Int×Int)}{G:List (List Int)}{O:Nat}{T:Nat->Nat}(hk:k<=512)(hG:G.length<=512)
 (ac:W7 2002 π)(p1:pm π 2001=some 2001)(p2:pm π 2=some 2)(p3: ∀j,j<k->pm π (1000+j)=some (1000+j))(p4:pm π 2100=some O)(p5: ∀q,q<G.length->pm π (3000+q)=some (T q))
 (t1:A9 s.tm 81= .im (.int .i64 i))(t2:A9 s.tm 80= .im (.int .i64 k))(t3:A9 s.tm 79= .own 2)(t4:A9 s.tm 12= .mp 2001)(t5:A9 s.tm 11= .own O)
 (g1:hget s.h 2001=some (true,.map {agg:=false,ks:=[KK.int .i64]} (M.map W9)))(g2:hget s.h 2=some (true,.arrA 251 1 (KD 1000 k k)))(g3: ∀j,j<k->hget s.h (1000+j)=some (HL 1000 L j))
 (g4:(G.length=0/\hget s.h O=some (true,.arr 22 1 []))\/hget s.h O=some (true,.arrA 22 1 ((List.range G.length).map λq=>[.own (T q)])))
 (g5: ∀q,q<G.length->hget s.h (T q)=some (true,.arr 2 1 ((G[q]?.getD []).map Af)))
 (inj: ∀q q',q<G.length->q'<G.length->T q=T q'->q=q')(out: ∀q,q<G.length->T q≠O/\3000<=T q)(hO:2000<=O/\O≠2001):Am 2002 π s (gI k L i M G):=by
 refine⟨ac,?_,?_,?_⟩
 .rw[mN];simp only[gI,FQ,TN];have ab: ∀x∈[2001,2100,2]++((List.range k).map (1000+ ·)++(List.range G.length).map (3000+ ·)),(x=2001/\pm π x=some 2001)\/(x=2/\pm π x=some 2)\/(x=2100/\pm π x=some O)\/(1000<=x/\x<1000+k/\pm π x=some x)\/(3000<=x/\x<3000+G.length/\pm π x=some (T (x - 3000))):=by
   intro x z;rcases B2.1 z with z|z
   .simp only[Bw,G7,Gd] at z;rcases z with rfl|rfl|rfl
    .exact .inl ⟨rfl,p1⟩
    .exact .inr (.inr (.inl ⟨rfl,p4⟩))
    .exact .inr (.inl ⟨rfl,p2⟩)
   .rcases B2.1 z with z|z
    .obtain⟨j,Q,rfl⟩:=BF.1 z;have Q:=CS.1 Q;exact .inr (.inr (.inr (.inl ⟨by show 1000<=1000+j;omega,by show 1000+j<1000+k;omega,p3 j Q⟩)))
    .obtain⟨j,Q,rfl⟩:=BF.1 z;have Q:=CS.1 Q;exact .inr (.inr (.inr (.inr ⟨by show 3000<=3000+j;omega,by show 3000+j<3000+G.length;omega,by show pm π (3000+j)=some (T (3000+j - 3000));rw[show 3000+j - 3000=j by omega];exact p5 j Q⟩)))
  refine mQ _ _ (Px [2001,2100,2] 1000 k 3000 G.length (by simp) (by simp;omega) (by omega)) ?_;intro x z y hy m Z aa;rcases ab x z with ⟨a1,a2⟩|⟨a1,a2⟩|⟨a1,a2⟩|⟨a0,a1,a2⟩|⟨a0,a1,a2⟩<;>rcases ab y hy with ⟨b1,b2⟩|⟨b1,b2⟩|⟨b1,b2⟩|⟨b0,b1,b2⟩|⟨b0,b1,b2⟩<;>
   rw[a2] at Z<;>rw[b2] at aa<;>have Z:=AC Z<;>have aa:=AC aa<;>first
   |omega
   |(have:=out (x - 3000) (by omega);omega)
   |(have:=out (y - 3000) (by omega);omega)
   |(have:=inj (x - 3000) (y - 3000) (by omega) (by omega) (Z.trans aa.symm);omega)
 .simp only[gI,RC,t1,t2,t3,t4,t5,mt,p2,p1,p4,H2,Hl,Fu]
 .simp only[gI,HC,Qns,p1,p2,p4,Fa,g1,g2];refine⟨⟨rfl,rfl⟩,?_,⟨rfl,rfl,rfl,yF p3⟩,?_,?_⟩
  .rcases g4 with ⟨h0,h1⟩|h1
   .rw[h1,h0];exact⟨rfl,rfl,rfl,trivial⟩
   .rw[h1];exact⟨rfl,rfl,rfl,Qyn p5 rfl⟩
  .rw[Fb,mF];intro j Q;rw[p3 j Q,Fa,g3 j Q];refine⟨rfl,?_⟩;simp only[HL,Er,Es,mt,Fu,and_true,Jn];simp only[MB];split
   .simp only[mt,p3 _ (show (L[j]?.getD (-1)).toNat<k by omega),Hl]
   .rfl
  .rw[Fw,mF];intro q hq;rw[p5 q hq,Fa,g5 q hq];exact⟨rfl,rfl⟩
def Ts(a:Int×List Ai):Prop:=0<=a.1/\a.1<=512/\LA a.1 a.2/\a.2.length<=1000000
def groupsBy_.fv(a:Int×(List Ai)):List (List Int):=(Wl) (a.1) (a.2)
def groupsBy_.row:AG:=vK (b2 qI (qS Ai.d_le Ai.c_n)) (rS gC Nx) (λa=>Ts (a.1,a.2)) groupsBy_.fv
def groupsBy_.q:=B3 (R:=groupsBy_.row) rfl
def groupsBy_.ok:AJ 146 groupsBy_.row:=by
 refine vw (tC firC.ok tN) Tryz.func146 ?_;intro a a8;simp only[Tryz.f146,Option.getD];simp(disch:=omega)only[ZZ,simprocAttr,Ab,groupsBy_.fv];obtain⟨h0,h1,aw,hl⟩:=a8;obtain⟨n,hn⟩: ∃n:Nat,a.1=n:=⟨a.1.toNat,by simp only at h0;omega⟩;obtain⟨bs,hbsd⟩: ∃bs,bs=a.2:=⟨_,rfl⟩;simp only[hn,<-hbsd,B5] at h0 h1 aw hl⊢;refine⟨h0,RV _,by omega,λ_=> ?_⟩;rw[OA];refine AZ.ren ⟨{k:Nat//k<=n},λk=>⟨[(21,.im (.int .i64 k.1)),(20,.im (.int .i64 n)),(19,.own 2),(5,.own 2),(0,.im (.int .i64 n)),(1,.im (.sl false 3 (bs.map Ai.c)))],(2,(true,.arrA 251 1 (KD 1000 n k.1)))::Fb 1000 (List.replicate n (-1)) k.1,2000⟩,λk=>n - k.1,λk=>⟨?_,by simp⟩,⟨⟨0,by simp⟩,[(2,some 1)],?_⟩,λk=> ?_⟩
 .simp only[A8.good,AB,Cg,uM 1000 k.1 2000 _ (by omega),Qlg 1000 n k.1 2000 (by omega),Qnw 1000 k.1 2000 _ (by omega)];simp[Df,AV.bel]
 .simp only[Am,Fb,CJ,Ho,Bg];simp(disch:=omega)only[ZZ,simprocAttr,Ab,groupsBy_.fv,AN,AM];exact PL _ _ _
 obtain⟨k,bd⟩:=k;simp(disch:=omega)only[ZZ,simprocAttr,Ab,groupsBy_.fv,sub,AS,Cx,JX];refine⟨λhk=>⟨hk,hk,?_⟩,λhk=> ?_⟩
 .simp(disch:=omega)only[ZZ,simprocAttr,Ab,groupsBy_.fv,sub,AS,Cx,JX,Qtr,Zfp,CN];refine⟨?_,⟨k+1,by omega⟩,[(1000+k,some 2000)],by simp only;omega,?_⟩
  .rw[Fk];intro r hr;rcases bY hr with hr|hr
   .exact Fk.1 (Qlg 1000 n k 2001 (by omega)) r hr
   .subst hr;simp[AQ,AV.bel]
  have qi: ∀i,i≠1000+k->pm [(1000+k,some 2000)] i=some i:=by intro i z;simp only[pm];rw[Ag (by omega)]
  have qk:pm [(1000+k,some 2000)] (1000+k)=some 2000:=by simp only[pm];rw[Al trivial]
  obtain⟨π,hπ⟩: ∃π,π=[(1000+k,some 2000)]:=⟨_,rfl⟩;rw[<-hπ] at qi qk⊢;refine⟨by rw[hπ];exact⟨by omega,trivial⟩,?_,?_,?_⟩
  .rw[mN,hπ];simp only[FQ,Fb,fI];refine mQ _ _ (lT [2] 1000 (k+1) (by simp) (by simp)) ?_;intro x hx y hy m aq ah;have bj:x<2000:=by
    rcases Bw.1 hx with hx|hx
    .omega
    .obtain⟨i,z,rfl⟩:=BF.1 hx
     have:=CS.1 z
     show 1000+i<2000;omega
   have bl:y<2000:=by
    rcases Bw.1 hy with hy|hy
    .omega
    .obtain⟨i,z,rfl⟩:=BF.1 hy
     have:=CS.1 z
     show 1000+i<2000;omega
   simp only[pm] at aq ah;split at aq<;>split at ah<;>simp only[AO] at aq ah<;>omega
  .simp only[RC,A9];simp(disch:=omega)only[ZZ,simprocAttr,Ab,groupsBy_.fv,qi 2 (by omega)];rw[AH (by omega) (by omega)];omega
  .simp only[HC,Fb,mF];refine⟨?_,λi z=> ?_⟩
   .simp(disch:=omega)only[ZZ,simprocAttr,Ab,groupsBy_.fv,qi 2 (by omega)];rw[mS];refine⟨by simp[JX],λi x y hx hy=> ?_⟩;have ax:i<n:=by have:=(CL.1 hx).1;rwa [JX] at this
    rw[zX _ _ _ _ ax] at hx;obtain rfl:=AC hx;by_cases ad:k=i
    .subst ad;rw[Ey (by rw[JX];exact hk)] at hy;obtain rfl:=AC hy;rw[Al (by omega)];simp only[Es,mt,qk,Hl,Fu]
    .rw[Ep ad,zX _ _ _ _ ax] at hy;obtain rfl:=AC hy;by_cases az:i<k
     .rw[Al (by omega),Al az];simp only[Es,mt,qi (1000+i) (by omega),Hl,Fu]
     .rw[Ag (by omega),Ag az];simp only[Es,mt,Fu]
   .have hg: ∀i,i<n->(List.replicate n (-1:Int))[i]?.getD (-1)= -1:=by
     intro i z;rw[O9,Al z,AW]
    have ay:MB 1000 i (-1)= .im .nilp:=by simp only[MB];rw[Ag (by omega)]
    simp only[HL,hg i (by omega),ay];by_cases ad:i=k
    .subst ad;rw[qk];simp(disch:=omega)only[ZZ,simprocAttr,Ab,groupsBy_.fv]
    .rw[qi (1000+i) (by omega)];have h9:=KB 1000 k (List.replicate n (-1)) i (by omega);simp only[HL,hg i (by omega),ay,Fb] at h9;simp (disch:=omega) only[Fa,hget,Cr,Cy,Xv,iA,iI,QI,Dp,CN];rw[h9];simp only[KS,Er,Es,mt,Fu]
 .intro _;have be:k=n:=by omega
  subst be;clear hk bd;refine AZ.old ⟨{s:Nat×List Int//s.1<=bs.length/\s.2.length=k/\GG s.2/\ ∀i,i<k->(Cu k bs s.1)[i]? =some ((EW s.2 i:Nat):Int)},λs=>⟨[(33,.im (.int .i64 s.1.1)),(32,.im (.int .i64 bs.length)),(31,.im (.sl false 3 (bs.map Ai.c))),(5,.own 2),(0,.im (.int .i64 k))],(2,(true,.arrA 251 1 (KD 1000 k k)))::Fb 1000 s.1.2 k,2000⟩,λs=>bs.length - s.1.1,λs=>⟨?_,by simp⟩,⟨⟨(0,List.replicate k (-1)),by simp only;omega,by simp,Qug k,λi z=>P5 z⟩,?_⟩,λs=> ?_⟩
  .simp only[A8.good,AB,Cg,uM 1000 k 2000 _ (by omega),Qlg 1000 k k 2000 (by omega),Qnw 1000 k 2000 _ (by omega)];simp[Df,AV.bel]
  .simp only[sub,GM,A9];refine⟨?_,?_⟩
   .simp(disch:=omega)only[ZZ,simprocAttr,Ab,groupsBy_.fv]
   .simp only[CQ];refine⟨rfl,uR λi z=> ?_⟩;simp only[hget,Cr _ _ (show 2≠1000+i by omega),Cy];exact KB _ _ _ _ z
  obtain⟨⟨j,L⟩,i1,i2,i3,i4⟩:=s;simp only at i1 i2 i3 i4;simp(disch:=omega)only[ZZ,simprocAttr,Ab,groupsBy_.fv,sub,AS,Cx,JX];refine⟨λhj=>⟨hj,λb hb=> ?_⟩,λhj=> ?_⟩
  .obtain⟨b1,b2,b3,b4⟩:=aw b (Bh hb);obtain⟨u,hu⟩: ∃u:Nat,b.A=u:=⟨b.A.toNat,by omega⟩;obtain⟨w,hw⟩: ∃w:Nat,b.B=w:=⟨b.B.toNat,by omega⟩;have ai:u<k:=by omega
   have af:w<k:=by omega
   have bh:=Qnj i3 u;have bi:=Qnj i3 w;simp only[hu,hw,B5];refine⟨by omega,by omega,ai,?_⟩;simp(disch:=omega)only[ZZ,simprocAttr,Ab,groupsBy_.fv,sub,AS,Cx,JX,Qtr,Al ai,Al af,hu,hw,B5,Gc];have hH: ∀(e Z:Au) (i:Nat),i<k->hget ((2000,e)::(2,Z)::Cb (Fb 1000 L k) [2000]) (1000+i)=some (HL 1000 L i):=by
    intro e Z i z;have h9:=KB 1000 k L i z;simp (disch:=omega) only[hget,Cr,Cy,Xv,iA,iI,QI,Dp,CN,h9]
   refine⟨by omega,Qtp (nx:=2001) i2 (by omega) i3 ai (by decide) (hH _ _) (λU=> ?_)⟩;simp(disch:=omega)only[ZZ,simprocAttr,Ab,groupsBy_.fv,sub,AS,Cx,JX,Qtr,Al ai,Al af,hu,hw,B5,Qkf,Gc];refine⟨by omega,af,af,by omega,Al (.inl (by omega)),Qtp (nx:=2001) i2 (by omega) i3 af (by decide) (hH _ _) (λU2=> ?_)⟩;obtain⟨x,hx⟩: ∃x,x=EW L u:=⟨_,rfl⟩;obtain⟨y,hy⟩: ∃y,y=EW L w:=⟨_,rfl⟩;rw[<-hx] at bh⊢;rw[<-hy] at bi⊢;have gx:=KB 1000 k L x (by omega);have gy:=KB 1000 k L y (by omega);simp only[HL] at gx gy;simp(disch:=omega)only[ZZ,simprocAttr,Ab,groupsBy_.fv,sub,AS,Cx,JX,Qkf,Gc,Wp,Cr,Q4,gx,gy,iM (show 1000+x<2001 by omega),iM (show 1000+y<2001 by omega),Bb];have ba:EW L x=x:=by rw[hx];exact Qls i3 u
   have bb:EW L y=y:=by rw[hy];exact Qls i3 w
   have ou:=i4 u ai;have ow:=i4 w af;rw[<-hx] at ou;rw[<-hy] at ow;have hS:Cu k bs (j+1)=(Cu k bs j).map (Ka (x:Int) (y:Int)):=by
    simp only[Cu,hb,uP,hu,hw,B5,ou,ow,AW]
   have ac: ∀(p q:Nat),p<q->q<k-> ∀(i:Nat),i<k->HL 1000 (L.set q (p:Int)) i=if i=q then (true,.cells 253 [.ptr (1000+p) 0,.im (.int .i64 q)]) else HL 1000 L i:=by
    intro p q a0 hq i z;simp only[HL];by_cases h:i=q
    .subst h;rw[Al rfl,Ey (by omega),AW];simp only[MB];rw[Al ⟨by omega,by omega⟩,B5]
    .rw[Ag h,Ep (Ft h)]
   have ag: ∀(p q:Nat),p<q->q<k-> ∀(e Z:Au) (tm:List (Nat×AV)),CQ ⟨tm,(1000+q,(true,.cells 253 [.ptr (1000+p) 0,.im (.int .i64 q)]))::(2000,e)::(2,Z)::Cb (Cb (Fb 1000 L k) [2000]) [1000+q],2001⟩ (Fb 1000 (L.set q (p:Int)) k):=by
    intro p q a0 hq e Z tm;refine uR λi z=> ?_
    rw[ac p q a0 hq i z];by_cases h:i=q
    .subst h;simp only[hget,wQ,C8,Bb]
    .rw[Ag h];have h9:=KB 1000 k L i z;simp (disch:=omega) only[hget,Cr,Cy,Q4,h9]
   refine⟨λaj=>⟨⟨(j+1,L.set y (x:Int)),by simp only;omega,by simp only[GX];exact i2,Qsx i3 aj,λi z=> ?_⟩,by simp only;omega,by rw[AH (by omega) (by omega)];simp only;omega,ag x y aj (by omega) _ _ _⟩,λaj=>⟨λak=>⟨⟨(j+1,L.set x (y:Int)),by simp only;omega,by simp only[GX];exact i2,Qsx i3 ak,λi z=> ?_⟩,by simp only;omega,by rw[AH (by omega) (by omega)];simp only;omega,ag y x ak (by omega) _ _ _⟩,λak=>⟨⟨(j+1,L),by simp only;omega,i2,i3,λi z=> ?_⟩,by simp only;omega,by rw[AH (by omega) (by omega)];simp only;omega,?_⟩⟩⟩
   .rw[hS,Gb,i4 i z,Ez,Qqx i3 ba bb aj (by omega) i,(M8 aj _).1]
   .rw[hS,Gb,i4 i z,Ez,Qqx i3 bb ba ak (by omega) i,(M8 ak _).2]
   .rw[hS,Gb,i4 i z,Ez,show y=x by omega,YG]
   .refine uR λi z=> ?_
    have h9:=KB 1000 k L i z;simp (disch:=omega) only[hget,Cr,Cy,Q4,h9]
  .have bc:j=bs.length:=by omega
   subst bc;obtain⟨own,hown⟩: ∃own,own=Cu k bs bs.length:=⟨_,rfl⟩;rw[<-hown] at i4;intro _;refine AZ.ren ⟨{s:Nat×List (Int×Int)//s.1<=k/\vB (BK own s.1 s.1) s.2},λs=>gI k L s.1.1 s.1.2 (BK own s.1.1 s.1.1),λs=>k - s.1.1,λs=>⟨?_,by simp[gI]⟩,⟨⟨(0,[]),by simp only;omega,?_⟩,[(2100,some 2000)],?_⟩,λs=> ?_⟩
   .have ab:=tM own s.1.1 s.1.1;have hs:=s.2.1;exact Y4 (by omega) (by omega)
   .exact⟨λr v h=>(by cases h),λg r am h=>(by simp[BK] at h)⟩
   .refine Qxg (O:=2000) (T:=λq=>3000+q) (by omega) (by simp[BK]) ⟨by omega,trivial⟩ rfl rfl (λj hj=> ?_) rfl (λq hq=>(by simp[BK] at hq)) rfl rfl rfl rfl rfl rfl rfl (λj hj=> ?_) (.inl ⟨rfl,rfl⟩) (λq hq=>(by simp[BK] at hq)) (λq q' hq=>(by simp[BK] at hq)) (λq hq=>(by simp[BK] at hq)) (by omega)
    .simp only[pm];rw[Ag (by omega)]
    .have h9:=KB 1000 k L j hj;simp (disch:=omega) only[hget,Cr,Cy,h9]
   obtain⟨⟨i,M⟩,q1,q2⟩:=s;simp only at q1 q2;simp only[gI];have an:=tM own i i;simp(disch:=omega)only[ZZ,simprocAttr,Ab,groupsBy_.fv,sub,AS,Cx,JX];refine⟨λz=>⟨z,z,?_⟩,λz=> ?_⟩
   .simp(disch:=omega)only[ZZ,simprocAttr,Ab,groupsBy_.fv,sub,AS,Cx,JX,Qtr,Al z];have hH: ∀(e1 Z e3:Au) (j:Nat),j<k->hget ((2001,e1)::(2100,Z)::(2,e3)::(Fb 1000 L k++Fw 3000 (BK own i i))) (1000+j)=some (HL 1000 L j):=by
     intro e1 Z e3 j hj;have h9:=Qnb k L (BK own i i) j hj;simp (disch:=omega) only[hget,Cr,Cy,h9]
    have ho:=i4 i z;obtain⟨r,hr⟩: ∃r,r=EW L i:=⟨_,rfl⟩;have bf:r<=i:=by rw[hr];exact Qnj i3 i
    have bg:own[r]? =some (r:Int):=by
     have:=i4 r (by omega)
     rwa [hr,Qls i3 i,<-hr] at this
    rw[<-hr] at ho;have gr:=Qnb k L (BK own i i) r (by omega);simp only[HL] at gr;refine⟨by omega,by omega,by omega,Qtp (nx:=4000) i2 (by omega) i3 z (by omega) (hH _ _ _) (λU=> ?_)⟩;rw[<-hr];simp(disch:=omega)only[ZZ,simprocAttr,Ab,groupsBy_.fv,sub,AS,Wp,Cx,JX,HW,Cr,gr,YM,iM (show 1000+r<4000 by omega),Bb];refine⟨λv hv=> ?_,λhn=> ?_⟩
    .obtain⟨g,am,rfl,hg⟩:=q2.a _ v hv;have ab:=(CL.1 hg).1;have an:=tM own i i;have gg:=Qne k L (BK own i i) g (by omega) ab;rw[hg,AW] at gg;simp(disch:=omega)only[ZZ,simprocAttr,Ab,groupsBy_.fv,sub,AS,Wp,Cx,JX,HW,Cr,gg,B5,Qxa];obtain⟨e1,Z⟩:=Tv q2 ho hg;obtain⟨G,hG⟩: ∃G,G=BK own i i:=⟨_,rfl⟩;rw[<-hG] at hg ab an e1 gg⊢;have ac:(DL 3000 G.length).set g [AV.own 4001]=(List.range G.length).map λq=>[AV.own (if q=g then 4001 else 3000+q)]:=by
      apply QM;intro j;rw[Gb];by_cases hj:j<G.length
      .rw[IH hj];by_cases h:g=j
       .subst h;rw[Ey (by rw[HW];exact ab)];simp
       .rw[Ep h,Qo7 _ _ _ hj,Ez,Ag (Ft h)]
      .rw[HK (by simp[HW];omega),HK (by simp;omega)];rfl
     refine⟨ab,ab,by omega,?_,by omega,?_,ab,ab,?_,⟨(i+1,M),by simp only;omega,Z⟩,[(3000+g,some 4001)],by simp only;omega,?_⟩
     .intro row Q;obtain rfl:=BL.1 Q;rfl
     .have h6:(r::am:List Int).length<=1000:=CW (by rw[hG] at hg;exact Qy0 own i i _ (Bh hg)) (by omega);simp only[CR] at h6;omega
     .rw[Fk];intro row Q;rcases bY Q with hr|hr
      .exact Fk.1 (Xs 3000 G.length 4002 (by omega)) row hr
      .subst hr;simp[AQ,AV.bel]
     have pn: ∀m,m≠3000+g->pm [(3000+g,some 4001)] m=some m:=by intro m hm;simp only[pm];rw[Ag (Ft hm)]
     simp only[e1];rw[AH (by omega) (by omega)];have hh: ∀(e1 Z e3 e4 e5:Au) (m:Nat),hget ((2100,e1)::(4001,Z)::(4000,e3)::(2001,e4)::(2,e5)::Cb (Cb (Fb 1000 L k++Fw 3000 G) [3000+g]) [2100]) m=if m=2100 then some e1 else if m=4001 then some Z else if m=4000 then some e3 else if m=2001 then some e4 else if m=2 then some e5 else if m=3000+g then none else hget (Fb 1000 L k++Fw 3000 G) m:=by
      intro e1 Z e3 e4 e5 m;simp only[hget,Xv,iA,iI,QI,QO,ZeV];by_cases h1:m=2100
      .subst h1;simp
      by_cases h2:m=4001
      .subst h2;simp
      by_cases h3:m=4000
      .subst h3;simp
      by_cases h4:m=2001
      .subst h4;simp
      by_cases h5:m=2
      .subst h5;simp
      simp only[Ag h1,Ag h2,Ag h3,Ag h4,Ag h5,Ag (Ft h1),Ag (Ft h2),Ag (Ft h3),Ag (Ft h4),Ag (Ft h5)]
     refine Qxg (O:=2100) (T:=λq=>if q=g then 4001 else 3000+q) (by omega) (by rw[GX];omega) ⟨by omega,trivial⟩ (pn _ (by omega)) (pn _ (by omega)) (λj hj=>pn _ (by omega)) (pn _ (by omega)) (λq hq=> ?_) rfl rfl rfl rfl rfl ?_ ?_ (λj hj=> ?_) (.inr ?_) (λq hq=> ?_) (λq q' hq=> ?_) (λq hq=> ?_) (by omega)
     .by_cases h:q=g
      .subst h;simp[pm]
      .rw[pn _ (by omega),Ag h]
     .rw[hh];rfl
     .rw[hh];rfl
     .rw[hh,Ag (by omega),Ag (by omega),Ag (by omega),Ag (by omega),Ag (by omega),Ag (by omega)];exact Qnb _ _ _ _ hj
     .rw[hh,Al rfl,ac,GX]
     .rw[GX] at hq;rw[hh];by_cases h:q=g
      .subst h;rw[Al rfl,Ag (by omega),Al rfl,Ey ab,AW];simp[Af]
      .rw[Ag h,Ag (by omega),Ag (by omega),Ag (by omega),Ag (by omega),Ag (by omega),Ag (by omega),Ep (Ft h)];exact Qne _ _ _ _ (by omega) hq
     .rw[GX] at hq;intro au he;rw[GX] at au;by_cases h:q=g<;>by_cases h2:q'=g<;>simp only[h,h2,Bb,CN] at he⊢ <;>omega
     .rw[GX] at hq;by_cases h:q=g<;>simp only[h,Bb,CN]<;>omega
    .obtain⟨a9,e1,Z⟩:=Tu q2 ho bf bg hn;have Q:(DL 3000 (BK own i i).length++[[AV.im (D.sl true 0 [])]])[(BK own i i).length]? =some [AV.im (D.sl true 0 [])]:=by
      rw[G6 (by rw[HW];exact AU _),HW,Ii];rfl
     have av: ∀N,4000<=N->(DL 3000 (BK own i i).length++[[AV.im (D.sl true 0 [])]]).all (AQ N)=true:=by
      intro N hN;rw[nR,Xs _ _ _ (by omega)];rfl
     intro _;refine⟨?_,by omega,av _ (by omega),by simp[HW],by simp[HW],mL Q ?_⟩
     .intro row Q;obtain rfl:=BL.1 Q;rfl
     have ac:(DL 3000 (BK own i i).length++[[AV.im (D.sl true 0 [])]]).set (BK own i i).length [AV.own 4003]=DL 3000 (BK own i i).length++[[AV.own 4003]]:=by
      have: ∀(l:List (List AV)) n x y,l.length=n->(l++[x]).set n y=l++[y]:=by
       intro l n x y h;subst h;rw[wU _ _ (AU _),Ii];rfl
      exact this _ _ _ _ (HW _ _)
     have ao: ∀N,4003<N->(DL 3000 (BK own i i).length++[[AV.own 4003]]).all (AQ N)=true:=by
      intro N hN;rw[nR,Xs _ _ _ (by omega)];simp[AQ,AV.bel];omega
     simp(disch:=omega)only[ZZ,simprocAttr,Ab,groupsBy_.fv,sub,AS,Wp,Cx,JX,HW,Cr];refine⟨?_,by simp[HW],by simp[HW],mL Q ?_⟩
     .intro row Q;obtain rfl:=BL.1 Q;rfl
     simp(disch:=omega)only[ZZ,simprocAttr,Ab,groupsBy_.fv,sub,AS,Wp,Cx,JX,HW,Cr,ac];refine⟨ao _ (by omega),⟨(i+1,M++[((i:Int),((BK own i i).length:Int))]),by simp only;omega,by simp only;exact Z⟩,[(2100,some 4001),(3000+(BK own i i).length,some 4003)],by simp only;omega,?_⟩;simp only[e1];obtain⟨G,hG⟩: ∃G,G=BK own i i:=⟨_,rfl⟩;simp only[<-hG] at an⊢;rw[AH (by omega) (by omega)];have pn: ∀m,m≠2100->m≠3000+G.length->pm [(2100,some 4001),(3000+G.length,some 4003)] m=some m:=by intro m hm ah;simp only[pm];rw[Ag (Ft hm),Ag (Ft ah)]
     have hh: ∀(e1 Z e3 e4 e5 e6:Au) (m:Nat),hget ((4001,e1)::(4003,Z)::(4002,e3)::(4000,e4)::(2001,e5)::(2,e6)::Cb (Cb (Cb (Fb 1000 L k++Fw 3000 G) [2001]) [2100]) [4001]) m=if m=4001 then some e1 else if m=4003 then some Z else if m=4002 then some e3 else if m=4000 then some e4 else if m=2001 then some e5 else if m=2 then some e6 else if m=2100 then none else hget (Fb 1000 L k++Fw 3000 G) m:=by
      intro e1 Z e3 e4 e5 e6 m;simp only[hget,Xv,iA,iI,QI,QO,ZeV];by_cases h1:m=4001
      .subst h1;simp
      by_cases h2:m=4003
      .subst h2;simp
      by_cases h3:m=4002
      .subst h3;simp
      by_cases h4:m=4000
      .subst h4;simp
      by_cases h5:m=2001
      .subst h5;simp
      by_cases h6:m=2
      .subst h6;simp
      simp only[Ag h1,Ag h2,Ag h3,Ag h4,Ag h5,Ag h6,Ag (Ft h1),Ag (Ft h2),Ag (Ft h3),Ag (Ft h4),Ag (Ft h5),Ag (Ft h6)]
     have aa:(G++[[(i:Int)]]).length=G.length+1:=by simp
     refine Qxg (O:=4001) (T:=λq=>if q<G.length then 3000+q else 4003) (by omega) (by rw[aa];omega) ⟨by omega,by omega,trivial⟩ (pn _ (by omega) (by omega)) (pn _ (by omega) (by omega)) (λj hj=>pn _ (by omega) (by omega)) (by simp[pm]) (λq hq=> ?_) rfl rfl rfl rfl rfl ?_ ?_ (λj hj=> ?_) (.inr ?_) (λq hq=> ?_) (λq q' hq=> ?_) (λq hq=> ?_) (by omega)
     .rw[aa] at hq;by_cases h:q<G.length
      .rw[pn _ (by omega) (by omega),Al h]
      .obtain rfl:q=G.length:=by omega
       rw[Ag h];simp only[pm];rw[Ag (by omega),Al trivial]
     .rw[hh,<-a9,<-NE _ _ _ hn];rfl
     .rw[hh];rfl
     .rw[hh,Ag (by omega),Ag (by omega),Ag (by omega),Ag (by omega),Ag (by omega),Ag (by omega),Ag (by omega)];exact Qnb _ _ _ _ hj
     .rw[hh,Al rfl,Ql0,aa]
     .rw[aa] at hq;rw[hh];by_cases h:q<G.length
      .rw[Al h,Ag (by omega),Ag (by omega),Ag (by omega),Ag (by omega),Ag (by omega),Ag (by omega),Ag (by omega),F4 h];exact Qne _ _ _ _ (by omega) h
      .obtain rfl:q=G.length:=by omega
       rw[Ag h,Ag (by omega),Al rfl,G6 (AU _),Ii];rfl
     .rw[aa] at hq;intro au he;rw[aa] at au;by_cases h:q<G.length<;>by_cases h2:q'<G.length<;>simp only[h,h2,Bb,CN] at he⊢ <;>omega
     .by_cases h:q<G.length<;>simp only[h,Bb,CN]<;>omega
   .have ad:i=k:=by omega
    subst ad;rw[Wl,B5,<-hown];rw[OX (m:=7) (G:=BK own i i)]
    .simp(disch:=omega)only[ZZ,simprocAttr,Ab,groupsBy_.fv]
    .intro q hq;have h9:=Qne i L (BK own i i) q (by omega) hq;simp (disch:=omega) only[hget,Cr,Cy,h9]
def Hg(nm:List Int):List Ai->List Ai
 |[]=>[]
 |b::r=>if Cd nm b.A=Cd nm b.B then Hg nm r else ⟨Cd nm b.A,Cd nm b.B,b.Strength⟩::Hg nm r
def Qvj(nm:List Int): ∀(a b:List Ai),Hg nm (a++b)=Hg nm a++Hg nm b
 |[],b=>rfl
 |x::r,b=>by simp only[Ci,Hg,Qvj nm r b];split<;>rfl
def Qpl(nm:List Int): ∀(a:List Ai),(Hg nm a).length<=a.length
 |[]=>AU _
 |x::r=>by have:=Qpl nm r;simp only[Hg];split<;>simp only[CR]<;>omega
def Qab6(nm:List Int){bs:List Ai}{k:Nat}{b:Ai}(h:bs[k]? =some b):Hg nm (bs.take (k+1))=Hg nm (bs.take k)++if Cd nm b.A=Cd nm b.B then [] else [⟨Cd nm b.A,Cd nm b.B,b.Strength⟩]:=by
 rw[Ji,h];simp only[Zec,Qvj,Hg]
def DM(n:Int)(bs:List Ai)(t:Int):Int×List Ai:=((Ov n bs t).length,Hg (RA n.toNat (Ov n bs t)) bs)
def dlC.H0_dom(a:List Ai×Int)(j:Nat):An (dlC.H0 a) j=true↔j<1:=by
 simp only[An,dlC.H0,hget];by_cases h0:j=0
 .subst h0;simp
 .have z:(0==j)=false:=by simp;omega
  simp[z];omega
def contr.fv(a:Int×(List Ai)×Int):Int×(List Ai):=(DM) (a.1) (a.2.1) (a.2.2)
def contr.row:AG:=vK (b3 qI (qS Ai.d_le Ai.c_n) qI) (r2 rI (rS Ai.d_le Ai.c_n)) (λa=>0<=a.1/\a.1<=512/\LA a.1 a.2.1/\a.2.1.length<=1000000) contr.fv
def contr.q:=B3 (R:=contr.row) rfl
def O7:=J @contr.fv.eq_1 (J @groupsBy_.q @groupsBy_.fv.eq_1)
def contr.ok:AJ 118 contr.row:=by
 refine vw (tC clobC.ok (tC dlC.ok (tC groupsBy_.ok tN))) Tryz.func118 ?_;intro a ac;simp only[Tryz.f118,Option.getD];simp only[ZZ,simprocAttr,Ab,O7];obtain⟨h0,h1,O,G⟩:=ac;obtain⟨n,hn⟩: ∃n:Nat,a.1=n:=⟨a.1.toNat,by omega⟩;obtain⟨bs,hbsd⟩: ∃bs,bs=a.2.1:=⟨_,rfl⟩;obtain⟨t,ht⟩: ∃t,t=a.2.2:=⟨_,rfl⟩;simp only[hn,<-hbsd,<-ht] at h0 h1 O G⊢;refine Az.os bs [] G (λj=>by simp[An,hget]) rfl rfl ?_ ?_
 .simp only[ZZ,simprocAttr,Ab,O7,clobC.ca,Fs]
 simp only[ZZ,simprocAttr,Ab,O7,clobC.H1,sub];left;refine Az.os (bs,t) [2] G (λj=>dlC.H0_dom _ j) rfl rfl ?_ ?_
 .simp only[ZZ,simprocAttr,Ab,O7,dlC.ca,dlC.H0,Bb,Br]
 simp only[ZZ,simprocAttr,Ab,O7,dlC.H1,sub];have Q:Ts ((n:Int),GU t bs):=⟨by simp only;omega,by simp only;omega,λb hb=>O b (iK.1 hb).1,by have:=Qln t bs;simp only;omega⟩;refine⟨Q,by omega,?_⟩;obtain⟨z,hgs⟩: ∃z,z=Wl (n:Int) (GU t bs):=⟨_,rfl⟩;have ag: ∀r∈z,∀v∈r,0<=v/\v<n:=by rw[hgs];exact Qps n _
 simp only[<-hgs];intro an;refine AZ.old ⟨{i:Nat//i<=z.length},λi=>⟨[(27,.im (.int .i64 i.1)),(26,.im (.int .i64 z.length)),(25,.im (.sl false 1 (z.map DA))),(9,.own 1022),(8,.im (.sl false 1 (z.map DA))),(1,.im (.sl false 3 (bs.map Ai.c)))],[(1022,(true,.arr 2 1 ((KF z (List.replicate n 0) i.1).map Af)))],1023⟩,λi=>z.length - i.1,λi=>⟨by simp[ZG],by simp⟩,⟨⟨0,by simp⟩,?_⟩,λi=> ?_⟩
 .simp only[ZZ,simprocAttr,Ab,O7,sub,KF,uX]
 obtain⟨i,ao⟩:=i;simp only[ZZ,simprocAttr,Ab,O7,sub,AS];refine⟨λhi=>⟨hi,λr hr=> ?_⟩,λhi=> ?_⟩
 .have aj:=ag r (Bh hr);obtain⟨l,hl⟩: ∃l,l=KF z (List.replicate n 0) i:=⟨_,rfl⟩;have aq:l.length=n:=by rw[hl,tQ,OA]
  simp only[<-hl];intro au;refine AZ.old ⟨{k:Nat//k<=r.length},λk=>⟨[(34,.im (.int .i64 k.1)),(33,.im (.int .i64 r.length)),(32,.im (.sl false 1 (r.map Af))),(10,.im (.int .i64 i)),(27,.im (.int .i64 i)),(26,.im (.int .i64 z.length)),(25,.im (.sl false 1 (z.map DA))),(9,.own 1022),(8,.im (.sl false 1 (z.map DA))),(1,.im (.sl false 3 (bs.map Ai.c)))],[(1022,(true,.arr 2 1 ((QB i r l k.1).map Af)))],1023⟩,λk=>r.length - k.1,λk=>⟨by simp[ZG],by simp⟩,⟨⟨0,by simp⟩,?_⟩,λk=> ?_⟩
  .simp only[ZZ,simprocAttr,Ab,O7,sub,QB]
  obtain⟨k,ai⟩:=k;have ab:=Qkb (i:Int) r l k;simp only[ZZ,simprocAttr,Ab,O7,sub,AS,hr,ab,aL];refine⟨λhk=>⟨hk,λv hv=> ?_⟩,λhk=> ?_⟩
  .obtain⟨v1,v2⟩:=aj v (Bh hv);refine⟨v1,by omega,by omega,λ_ _=>⟨⟨k+1,by omega⟩,by simp only;omega,by rw[AH (by omega) (by omega)];simp only;omega,?_⟩⟩;simp only[QB,hv,AW]
  .have:k=r.length:=by omega
   refine⟨⟨i+1,by omega⟩,by simp only;omega,by rw[AH (by omega) (by omega)];simp only;omega,?_⟩;simp only[KF,hr,AW,<-hl,this]
 .have ah:i=z.length:=by omega
  subst ah;obtain⟨nm,hnm⟩: ∃nm,nm=KF z (List.replicate n 0) z.length:=⟨_,rfl⟩;have ab:nm.length=n:=by rw[hnm,tQ,OA]
  simp only[<-hnm];intro am;refine AZ.ren ⟨{k:Nat//k<=bs.length},λk=>⟨[(46,.im (.int .i64 k.1)),(45,.im (.int .i64 bs.length)),(44,.im (.sl false 3 (bs.map Ai.c))),(14,.own 1024),(9,.own 1022),(8,.im (.sl false 1 (z.map DA)))],[(1024,(true,.arr 161 3 ((Hg nm (bs.take k.1)).map Ai.c))),(1022,(true,.arr 2 1 (nm.map Af)))],1025⟩,λk=>bs.length - k.1,λk=>⟨by simp[ZG],by simp⟩,⟨⟨0,by simp⟩,[(1024,some 1023)],?_⟩,λk=> ?_⟩
  .simp only[Am];simp only[ZZ,simprocAttr,Ab,O7,AN,AM];rfl
  obtain⟨k,ai⟩:=k;have ak:=Qpl nm (bs.take k);rw[CB] at ak;simp only[ZZ,simprocAttr,Ab,O7,sub,AS,Oc,NZ,Ob,BZ,D.one,EL,Fu,Jn];refine⟨λhk=>⟨hk,λb hb=> ?_⟩,λhk=> ?_⟩
  .obtain⟨b1,b2,b3,b4⟩:=O b (Bh hb);refine⟨b1,by omega,by omega,λx hx=>⟨b3,by omega,by omega,λy hy=> ?_⟩⟩;have e1:Cd nm b.A=x:=by simp only[Cd,hx,AW]
   have e2:Cd nm b.B=y:=by simp only[Cd,hy,AW]
   have Z:=Qab6 nm hb;rw[e1,e2] at Z;refine⟨λaa=>⟨b1,by omega,by omega,λx' ad=>⟨b3,by omega,by omega,λy' af=>⟨by omega,⟨k+1,by omega⟩,[(1024,some 1027)],by simp only;omega,?_⟩⟩⟩,λaa=>⟨⟨k+1,by omega⟩,[],by simp only;omega,?_⟩⟩
   .rw[hx] at ad;rw[hy] at af;obtain rfl:=AC ad;obtain rfl:=AC af;simp only[Am];simp only[ZZ,simprocAttr,Ab,O7,AN,AM,Z];rw[AH (by omega) (by omega),Ag aa];simp[Ai.c]
   .simp only[Am];simp only[ZZ,simprocAttr,Ab,O7,AN,AM,Z];rw[AH (by omega) (by omega),Al (HJ.1 aa),Ck];simp
  .have:k=bs.length:=by omega
   subst this;rw[IF];intro _;simp only[DM,Ov,RA,B5,<-hgs,<-hnm]
end Go.Ae
