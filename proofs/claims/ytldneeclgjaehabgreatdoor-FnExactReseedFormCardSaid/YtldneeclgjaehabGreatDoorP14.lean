/- Lemmas. Conditions: none. -/
import Derived.Test.YtldneeclgjaehabGreatDoorP13
set_option linter.all false
set_option maxHeartbeats 8000000
set_option maxRecDepth 100000
namespace Go.Ae
open Go.Proofs Go.Lib
def Jo(N:Nat->Nat)(t:List Tile):List (List AV):=(List.range t.length).map λi=>[.im (.str ((t[i]?.map Tile.Name).getD ByteArray.empty)),.own (N i)]
def FN(N:Nat->Nat)(n x q:Nat):Nat:=if q<n then N q else x
def Yi{σ:Nat->Nat}{b:Nat}{N:Nat->Nat}{t:List Tile}(h: ∀i,i<t.length->σ (b+i)=N i):(Cx b t).map (AN σ)=Jo N t:=by
 simp only[Cx,Jo,GS];refine Iu λi z=> ?_
 simp only[Function.comp,AN,AV.ren,h i (AU.1 z)]
def vL(N:Nat->Nat)(t:List Tile)(x:Tile)(y:Nat):Jo (FN N t.length y) (t++[x])=Jo N t++[[.im (.str x.Name),.own y]]:=by
 simp only[Jo,BR,zK,Xi,Dj,Br,Gl];congr 1
 .refine Iu λi z=> ?_
  have z:=AU.1 z;rw[Db z,FN,Bt z]
 .rw[FN,Be (YC _),D8 (BN _),YL];rfl
def vJ{t:List Tile}{x:Tile}{q:Nat}(h:q<t.length):BX (t++[x]) q=BX t q:=by
 simp only[BX,Db h]
def sP(t:List Tile)(x:Tile):BX (t++[x]) t.length=(true,.arr 2 1 (x.Sides.map Aj)):=by
 simp only[BX,D8 (BN _),YL];rfl
structure DY(h:HpT)(M Gn Tn Pn:Nat)(N:Nat->Nat)(g:List Ac)(t:List Tile):Prop where
 hm:h M=some (true,.cells 133 [.own Gn,.own Tn,.mp Pn])
 hg:h Gn=some (true,.arr 151 2 (g.map Ac.c))
 ht:h Tn=some (true,.arrA 155 2 (Jo N t))
 hp:h Pn=some (true,.map ⟨false,[.str]⟩ (Ce g))
 hf: ∀q,q<t.length->h (N q)=some (BX t q)
structure EL(M Gn Tn Pn:Nat)(N:Nat->Nat)(n nx:Nat):Prop where
 d:M≠Gn/\M≠Tn/\M≠Pn/\Gn≠Tn/\Gn≠Pn/\Tn≠Pn
 l:M<nx/\Gn<nx/\Tn<nx/\Pn<nx
 f: ∀q,q<n->N q<nx/\N q≠M/\N q≠Gn/\N q≠Tn/\N q≠Pn
 i: ∀a b,a<n->b<n->N a=N b->a=b
def EL.next{M Gn Tn Pn:Nat}{N:Nat->Nat}{n nx T x z:Nat}(S:EL M Gn Tn Pn N n nx)(h1:nx<=T)(h2:nx<=x)(h3:T≠x)(h4:T<z)(h5:x<z):EL M Gn T Pn (FN N n x) (n+1) z:=by
 obtain⟨⟨Q,d2,Z,d4,d5,d6⟩,⟨l1,l2,l3,l4⟩,f,i⟩:=S;refine⟨⟨Q,auOm,Z,auOm,d5,auOm⟩,⟨auOm,auOm,auOm,auOm⟩,λq hq=> ?_,λa b ha hb e=> ?_⟩
 .simp only[FN];by_cases c:q<n
  .rw[Bt c];have:=f q c;refine⟨auOm,this.2.1,this.2.2.1,auOm,this.2.2.2.2⟩
  .rw[Be c];exact⟨auOm,auOm,auOm,auOm,auOm⟩
 .simp only[FN] at e;by_cases c:a<n<;>by_cases O:b<n
  .rw[Bt c,Bt O] at e;exact i a b c O e
  .rw[Bt c,Be O] at e;have:=f a c;omega
  .rw[Be c,Bt O] at e;have:=f b O;omega
  .omega
def DY.next{h z:HpT}{M Gn Tn Pn nx T x:Nat}{N:Nat->Nat}{g:List Ac}{t:List Tile}{y:Tile}(A:DY h M Gn Tn Pn N g t)(S:EL M Gn Tn Pn N t.length nx)
 (h0:z M=some (true,.cells 133 [.own Gn,.own T,.mp Pn]))(Q:z T=some (true,.arrA 155 2 (Jo N t++[[.im (.str y.Name),.own x]])))(Z:z x=some (true,.arr 2 1 (y.Sides.map Aj)))(O: ∀m,m<nx->m≠M->m≠Tn->z m=h m):DY z M Gn T Pn (FN N t.length x) g (t++[y]):=by
 obtain⟨d,l,f,i⟩:=S;refine⟨h0,?_,?_,?_,λq hq=> ?_⟩
 .rw[O _ l.2.1 (λe=>d.1 e.symm) d.2.2.2.1];exact A.hg
 .rw[vL];exact Q
 .rw[O _ l.2.2.2 (λe=>d.2.2.1 e.symm) (λe=>d.2.2.2.2.2 e.symm)];exact A.hp
 .rw[BR,zK] at hq;by_cases c:q<t.length
  .have:=f q c
   rw[vJ c,FN,Bt c,O _ this.1 this.2.1 this.2.2.2.1];exact A.hf q c
  .obtain rfl:q=t.length:=auOm;rw[sP,FN,Be (YC _)];exact Z
def Fk(M Gn Tn Pn Ln:Nat)(N:Nat->Nat)(j:Nat):Nat:=if j=0 then M else if j=1 then Gn else if j=2 then Tn else if j=3 then Pn else if j=4 then Ln else N (j - 10)
def HI{M Gn Tn Pn Ln:Nat}{N:Nat->Nat}{j:Nat}(h:10<=j):Fk M Gn Tn Pn Ln N j=N (j - 10):=by
 simp only[Fk];rw[Be auOm,Be auOm,Be auOm,Be auOm,Be auOm]
def Nw{M Gn Tn Pn Ln n nx:Nat}{N:Nat->Nat}(S:EL M Gn Tn Pn N n nx)(hL:Ln≠M/\Ln≠Gn/\Ln≠Tn/\Ln≠Pn)(O: ∀q,q<n->N q≠Ln){a b:Nat}(ha:a<5\/(10<=a/\a<10+n))(hb:b<5\/(10<=b/\b<10+n))(e:Fk M Gn Tn Pn Ln N a=Fk M Gn Tn Pn Ln N b):a=b:=by
 obtain⟨d,l,f,i⟩:=S;have Q: ∀j,(j<5\/(10<=j/\j<10+n))->(j=0/\Fk M Gn Tn Pn Ln N j=M)\/(j=1/\Fk M Gn Tn Pn Ln N j=Gn)\/(j=2/\Fk M Gn Tn Pn Ln N j=Tn)\/(j=3/\Fk M Gn Tn Pn Ln N j=Pn)\/(j=4/\Fk M Gn Tn Pn Ln N j=Ln)\/(10<=j/\Fk M Gn Tn Pn Ln N j=N (j - 10)/\j - 10<n):=λj hj=>by
  rcases (by omega:j=0\/j=1\/j=2\/j=3\/j=4\/10<=j) with rfl|rfl|rfl|rfl|rfl|z
  .exact .inl ⟨rfl,rfl⟩
  .exact .inr (.inl ⟨rfl,rfl⟩)
  .exact .inr (.inr (.inl ⟨rfl,rfl⟩))
  .exact .inr (.inr (.inr (.inl ⟨rfl,rfl⟩)))
  .exact .inr (.inr (.inr (.inr (.inl ⟨rfl,rfl⟩))))
  .exact .inr (.inr (.inr (.inr (.inr ⟨z,HI z,auOm⟩))))
 have ka:=Q a ha;have kb:=Q b hb;by_cases ca:10<=a<;>by_cases Z:10<=b
 .have:=i (a - 10) (b - 10) auOm auOm (by rw[HI ca,HI Z] at e;exact e)
  omega
 .have q1:=f (a - 10) auOm;have q2:=O (a - 10) auOm;rw[HI ca] at e;omega
 .have q1:=f (b - 10) auOm;have q2:=O (b - 10) auOm;rw[HI Z] at e;omega
 .omega
def mfU(M Gn Tn Pn Ln:Nat)(N:Nat->Nat)(n:Nat):List Nat:=[M,Gn,Tn,Pn,Ln]++(List.range n).map N
def Nx(M Gn Pn nx:Nat)(N:Nat->Nat)(g:List Ac)(t:List Tile)(nm:MM)(l:List MM):An:=[(M,(true,.cells 133 [.own Gn,.own (nx+3),.mp Pn])),(nx+3,(true,.arrA 155 2 (Jo N t++[[.im (.str nm),.own (nx+1)]]))),(nx+1,(true,.arr 2 1 ((l.map (Ax g)).map Aj)))]
def mf_K{g:List Ac}{t:List Tile}{nm:MM}{l:List MM}{M Gn Tn Pn Ln nx:Nat}{N:Nat->Nat}{h:HpT}{K:Al}(p1:t.length<=1000)(p2:l.length<=100)
 (A:DY h M Gn Tn Pn N g t)(S:EL M Gn Tn Pn N t.length nx)(hL:h Ln=some (true,.arr 9 1 (l.map FD)))(Z:Ln<nx/\Ln≠M/\Ln≠Gn/\Ln≠Tn/\Ln≠Pn)(aa: ∀q,q<t.length->N q≠Ln)
 (hK:K (.im (.int .i64 t.length)) ⟨mfU M Gn Tn Pn Ln N t.length,[M,Tn],Nx M Gn Pn nx N g t nm l,20⟩):
 mfC.row [.ptr M 0,.im (.str nm),.own Ln] h nx K:=by
 have z:=XV ⟨((g,t),nm,l),p1,p2⟩;simp only at z;have s0:B2 (Fk M Gn Tn Pn Ln N) 2000 nx 0=M:=rfl;have s1:B2 (Fk M Gn Tn Pn Ln N) 2000 nx 1=Gn:=rfl;have s2:B2 (Fk M Gn Tn Pn Ln N) 2000 nx 2=Tn:=rfl;have s3:B2 (Fk M Gn Tn Pn Ln N) 2000 nx 3=Pn:=rfl;have s4:B2 (Fk M Gn Tn Pn Ln N) 2000 nx 4=Ln:=rfl;have sf: ∀q,q<t.length->B2 (Fk M Gn Tn Pn Ln N) 2000 nx (10+q)=N q:=λq hq=>by
  simp only[B2];rw[Bt auOm,HI auOm];congr 1;omega
 have sa:B2 (Fk M Gn Tn Pn Ln N) 2000 nx 2003=nx+3:=rfl;have sb:B2 (Fk M Gn Tn Pn Ln N) 2000 nx 2001=nx+1:=rfl;refine⟨⟨((g,t),nm,l),p1,p2⟩,Fk M Gn Tn Pn Ln N,mfU M Gn Tn Pn Ln N t.length,[M,Tn],trivial,?_,?_,⟨λa b ha hb e=>Nw S Z.2 aa ((z a).1 ha) ((z b).1 hb) e,λj Q=> ?_,λj Q=> ?_,λm hm=> ?_,λj Q hk=> ?_⟩,?_⟩
 .simp only[mfC.ca,AN,AV.ren,s0,s4]
 .simp only[mfC.H0,BV,Du,Ad.ren,AN,AV.ren,s4,s0,s1,s2,s3];rw[Yi sf];refine⟨hL,A.hm,A.hg,A.ht,A.hp,Jv λq hq=> ?_⟩;rw[sf q hq,A.hf q hq];rfl
 .have Q:=(z j).1 Q;rcases (by omega:j=0\/j=1\/j=2\/j=3\/j=4\/10<=j) with rfl|rfl|rfl|rfl|rfl|O
  .exact S.l.1
  .exact S.l.2.1
  .exact S.l.2.2.1
  .exact S.l.2.2.2
  .exact Z.1
  .rw[HI O];exact (S.f _ auOm).1
 .have Q:=(z j).1 Q;simp only[mfU];rw[BO];rcases (by omega:j=0\/j=1\/j=2\/j=3\/j=4\/10<=j) with rfl|rfl|rfl|rfl|rfl|O
  .left;simp[Fk]
  .left;simp[Fk]
  .left;simp[Fk]
  .left;simp[Fk]
  .left;simp[Fk]
  .right;rw[HI O];exact BY.2 ⟨j - 10,AU.2 auOm,rfl⟩
 .simp only[B0,D2,Rl] at hm;rcases hm with rfl|rfl
  .exact⟨0,(z 0).2 (.inl auOm),rfl,rfl⟩
  .exact⟨2,(z 2).2 (.inl auOm),rfl,rfl⟩
 .simp only[Bq,IK,YI] at hk;rcases hk with rfl|rfl
  .show M∈[M,Tn];simp
  .show Tn∈[M,Tn];simp
 .have e:AW (B2 (Fk M Gn Tn Pn Ln N) 2000 nx) (mfC.H1 ⟨((g,t),nm,l),p1,p2⟩)=Nx M Gn Pn nx N g t nm l:=by
   simp only[Nx,mfC.H1,AW,Ad.ren,AN,AV.ren,sa,sb,s0,s1,s3,Dj,Br,Gl];rw[Yi sf]
  rw[e];exact hK
def cE{N:Nat->Nat}{t:List Tile}{B:Nat}(h: ∀i,i<t.length->N i<B):(Jo N t).all (A9 B)=true:=by
 rw[CF];intro r O;obtain⟨i,z,rfl⟩:=BY.1 O;simp[A9,AV.bel,h i (AU.1 z)]
def ZM{g:List Ac}{t:List Tile}{nm:MM}{l:List MM}{M Gn Tn Pn Ln nx:Nat}{N:Nat->Nat}{tm:TmT}{h:An}{dst:Option Nat}{go:Az->Prop}
 (A:DY (hget h) M Gn Tn Pn N g t)(S:EL M Gn Tn Pn N t.length nx)
 (O: ∀z:An,DY (hget z) M Gn (nx+3) Pn (FN N t.length (nx+1)) g (t++[⟨nm,l.map (Ax g)⟩])->EL M Gn (nx+3) Pn (FN N t.length (nx+1)) (t++[(⟨nm,l.map (Ax g)⟩:Tile)]).length (nx+20)->(∀m,m<nx->m≠M->m≠Tn->hget z m=hget h m)->go ((⟨tm,z,nx+20⟩:Az).put dst (.im (.int .i64 t.length)))):
 De go ⟨tm,h,nx⟩ dst (.im (.int .i64 t.length)) ⟨mfU M Gn Tn Pn Ln N t.length,[M,Tn],Nx M Gn Pn nx N g t nm l,20⟩:=by
 have l1:=S.l.1;have l2:=S.l.2.1;have l3:=S.l.2.2.1;have l4:=S.l.2.2.2;refine⟨?_,?_⟩
 .rw[BA.ok_nr];have hb:=cE (N:=N) (t:=t) (B:=nx+20) λi hi=>by have:=(S.f i hi).1;omega
  simp only[Nx,AV.bel,Ar,A9,L2,hb,E6,J9,GO,I8,K8,Xl];simp;omega
 .rw[Az.app_nr];have e0:hget (Nx M Gn Pn nx N g t nm l++Bp h [M,Tn]) M=some (true,.cells 133 [.own Gn,.own (nx+3),.mp Pn]):=by simp[Nx,hget]
  have e1:hget (Nx M Gn Pn nx N g t nm l++Bp h [M,Tn]) (nx+3)=some (true,.arrA 155 2 (Jo N t++[[.im (.str nm),.own (nx+1)]])):=by
   simp only[Nx,BZ,E5,hget,AC _ _ (show M≠nx+3 by omega),Dw,K7,IJ]
  have e2:hget (Nx M Gn Pn nx N g t nm l++Bp h [M,Tn]) (nx+1)=some (true,.arr 2 1 ((l.map (Ax g)).map Aj)):=by
   simp only[Nx,BZ,E5,hget,AC _ _ (show M≠nx+1 by omega),AC _ _ (show nx+3≠nx+1 by omega),Dw,K7,IJ]
  have Z: ∀m,m<nx->m≠M->m≠Tn->hget (Nx M Gn Pn nx N g t nm l++Bp h [M,Tn]) m=hget h m:=λm h1 Q h3=>by
   simp only[Nx,BZ,E5,hget,AC _ _ (λe=>Q e.symm:M≠m),AC _ _ (show nx+3≠m by omega),AC _ _ (show nx+1≠m by omega),Dw];rw[Se,Be];simp[Q,h3]
  exact O _ (A.next (y:=⟨nm,l.map (Ax g)⟩) S e0 e1 e2 Z) (by rw[BR];exact S.next auOm auOm auOm auOm auOm) Z
def vO(cl:List (List Nat))(j:Nat)(use touch z:List Nat): ∀acc:List Fp,(acc.all λf=>D0 cl f.i j)=true->FR cl j use touch z acc=true
 |[],_=>rfl
 |f::r,h=>by
  rw[E6,B1] at h;simp only[FR,YZ,h.1,vO cl j use touch z r h.2,Jg];cases (GE (use++touch) f.touch && (GE touch f.use && Fm f.nx f.cnt z))<;>rfl
def IB{g:List Ac}{t:List Tile}{nm:MM}{l:List MM}{M Gn Tn Pn Ln nx:Nat}{N:Nat->Nat}{tm:TmT}{h:An}{dst:Option Nat}{go:IY}{cl:List (List Nat)}{i:Nat}{acc:List Fp}(p1:t.length<=1000)(p2:l.length<=100)
 (A:DY (hget h) M Gn Tn Pn N g t)(S:EL M Gn Tn Pn N t.length nx)(hL:hget h Ln=some (true,.arr 9 1 (l.map FD)))(Z:Ln<nx/\Ln≠M/\Ln≠Gn/\Ln≠Tn/\Ln≠Pn)(Q: ∀q,q<t.length->N q≠Ln)(O:(acc.all λf=>D0 cl f.i i)=true)
 (aa: ∀(u v:List Nat) (z:An),DY (hget z) M Gn (nx+3) Pn (FN N t.length (nx+1)) g (t++[⟨nm,l.map (Ax g)⟩])->EL M Gn (nx+3) Pn (FN N t.length (nx+1)) (t++[(⟨nm,l.map (Ax g)⟩:Tile)]).length (nx+20)->(∀m,m<nx->m≠M->m≠Tn->hget z m=hget h m)->go (⟨i,u,v,nx,20⟩::acc) ((⟨tm,z,nx+20⟩:Az).put dst (.im (.int .i64 t.length)))):
 mfC.row [.ptr M 0,.im (.str nm),.own Ln] (hget h) nx (FT cl i acc go ⟨tm,h,nx⟩ dst):=by
 refine mf_K p1 p2 A S hL Z Q ?_;obtain⟨k1,k2⟩:=ZM (Ln:=Ln) (tm:=tm) (dst:=dst) (nm:=nm) (l:=l) (go:=λs=>go (⟨i,mfU M Gn Tn Pn Ln N t.length++[M,Tn],([M,Tn]++GL (Nx M Gn Pn nx N g t nm l)),nx,20⟩::acc) s) A S (λz h1 h2 h3=>aa _ _ z h1 h2 h3);exact⟨k1,vO _ _ _ _ _ _ O,k2⟩
def FC(M Gn Pn b:Nat)(g:List Ac)(t:List Tile)(A:An):An:=((M,(true,.cells 133 [.own Gn,.own b,.mp Pn]))::(Gn,(true,.arr 151 2 (g.map Ac.c)))::(Pn,(true,.map ⟨false,[.str]⟩ (Ce g)))::(b,(true,.arrA 155 2 (Cx (b+1) t)))::A)++AH (b+1) t.length (BX t)
def Fa(b Tn n:Nat)(N:Nat->Nat):List (Nat×Option Nat):=(b,some Tn)::reF (b+1) n N
def DJ{b Tn n x:Nat}{N:Nat->Nat}(h:x<b):pm (Fa b Tn n N) x=some x:=by
 simp only[Fa,pm];rw[Be auOm,Vc,Be auOm]
def Yh(b Tn n:Nat)(N:Nat->Nat):pm (Fa b Tn n N) b=some Tn:=by simp[Fa,pm]
def NF{b Tn n q:Nat}{N:Nat->Nat}(h:q<n):pm (Fa b Tn n N) (b+1+q)=some (N q):=by
 simp only[Fa,pm];rw[Be auOm,Vc,Bt auOm];congr 2;omega
def ZR{π:List (Nat×Option Nat)}{t:List Tile}{b:Nat}{N:Nat->Nat}(h: ∀i,i<t.length->pm π (b+i)=some (N i)):Hm π (Cx b t) (Jo N t):=by
 rw[Sm];refine⟨by simp[Cx,Jo],λi Z r2 z Q=> ?_⟩;have O:i<t.length:=by
  have:=(Bi.1 z).1
  simpa[Cx] using this
 rw[Cx,Dp,ER O] at z;rw[Jo,Dp,ER O] at Q;obtain rfl:=AJ z;obtain rfl:=AJ Q;simp only[Dl,mt,h i O,DS,Ly]
def OP{M Gn Pn b nx:Nat}{g:List Ac}{t:List Tile}{A:An}{tm:TmT}(Z:M<b/\Gn<b/\Pn<b)(z:b+1+t.length<=nx)(ht:Cl nx tm=true)(O:Ar nx A=true)(Q:B5 nx A=true):Az.good ⟨tm,FC M Gn Pn b g t A,nx⟩=true:=by
 simp only[FC];refine XI ht ?_ ?_ (λi=>by simp[Ar,BX]) z
 .simp only[Ar,O,Lc _ _ _ z];simp[A9,AV.bel];omega
 .simp only[B5,Q];simp;omega
def oG{M Gn Pn Tn b nx lo:Nat}{N:Nat->Nat}{g:List Ac}{t:List Tile}{A:An}{tm:TmT}{s:Az}(K:DY (hget s.h) M Gn Tn Pn N g t){ns:Nat}(S:EL M Gn Tn Pn N t.length ns)(ac:lo<=b)(hb:M<b/\Gn<b/\Pn<b)(z: ∀a∈DF A,a<b/\a≠M/\a≠Gn/\a≠Pn/\a≠Tn/\a<1000)(aa:(DF A).Nodup)(ab: ∀q,q<t.length->1000<=N q)
 (hT:EQ (Fa b Tn t.length N) s tm)(hH:F6 (Fa b Tn t.length N) s A):AB lo (Fa b Tn t.length N) s ⟨tm,FC M Gn Pn b g t A,nx⟩:=by
 obtain⟨d,l,f,i⟩:=S;have hM:pm (Fa b Tn t.length N) M=some M:=DJ hb.1;have Q:pm (Fa b Tn t.length N) Gn=some Gn:=DJ hb.2.1;have Z:pm (Fa b Tn t.length N) Pn=some Pn:=DJ hb.2.2;have O:(DF A).map (pm (Fa b Tn t.length N))=(DF A).map some:=Iu λa ha=>DJ (z a ha).1
 refine OH (A:=(M,(true,.cells 133 [.own Gn,.own b,.mp Pn]))::(Gn,(true,.arr 151 2 (g.map Ac.c)))::(Pn,(true,.map ⟨false,[.str]⟩ (Ce g)))::(b,(true,.arrA 155 2 (Cx (b+1) t)))::A) N ⟨ac,Zy auOm⟩ ?_ (λq hq=>NF hq) i (λm hm q hq=> ?_) hT ?_ (λq hq=> ?_)
 .have ad:(M::Gn::Pn::Tn::DF A).Nodup:=by
   simp only[Xo,B0,Rh];refine⟨⟨d.1,d.2.2.1,d.2.1,λh=>(z M h).2.1 rfl⟩,⟨d.2.2.2.2.1,d.2.2.2.1,λh=>(z Gn h).2.2.1 rfl⟩,⟨λe=>d.2.2.2.2.2 e.symm,λh=>(z Pn h).2.2.2.1 rfl⟩,λh=>(z Tn h).2.2.2.2.1 rfl,aa⟩
  have e:EZ (Fa b Tn t.length N) ((M,(true,.cells 133 [.own Gn,.own b,.mp Pn]))::(Gn,(true,.arr 151 2 (g.map Ac.c)))::(Pn,(true,.map ⟨false,[.str]⟩ (Ce g)))::(b,(true,.arrA 155 2 (Cx (b+1) t)))::A)=(M::Gn::Pn::Tn::DF A).map some:=by
   simp only[EZ,hM,Q,Z,Yh,Sj,O,Br]
  rw[e];exact WZ _ _ ad λu _ v _ m h1 h2=>by cases h1;cases h2;rfl
 .have e:EZ (Fa b Tn t.length N) ((M,(true,.cells 133 [.own Gn,.own b,.mp Pn]))::(Gn,(true,.arr 151 2 (g.map Ac.c)))::(Pn,(true,.map ⟨false,[.str]⟩ (Ce g)))::(b,(true,.arrA 155 2 (Cx (b+1) t)))::A)=(M::Gn::Pn::Tn::DF A).map some:=by
   simp only[EZ,hM,Q,Z,Yh,Sj,O,Br]
  rw[e] at hm;simp only[Br,B0,AS,BY,exists_eq_right] at hm;have q1:=f q hq;rcases hm with rfl|rfl|rfl|rfl|hm
  .exact q1.2.1
  .exact q1.2.2.1
  .exact q1.2.2.2.2
  .exact q1.2.2.2.1
  .have:=(z m hm).2.2.2.2.2;have:=ab q hq;omega
 .simp only[F6,hM,Q,Z,Yh];refine⟨?_,?_,?_,?_,hH⟩
  .simp only[Ci,K.hm,D9,Df,Dl,mt,Q,Z,Yh,DS,Hh,Ly]
  .simp only[Ci,K.hg,D9,Df,Ly]
  .simp only[Ci,K.hp,D9,Df,Ly]
  .simp only[Ci,K.ht,D9,Df];exact⟨trivial,trivial,trivial,ZR λi hi=>NF hi⟩
 .simp only[Ci,K.hf q hq,BX,D9,Df,Ly]
def vS: ∀{H:An} {j:Nat},(∀a∈DF H,a≠j)->hget H j=none
 |[],_,_=>rfl
 |(i,e)::r,j,h=>by
  simp only[hget,AC _ _ (h i (by simp[DF])),Dw];exact vS λa z=>h a (by simp only[DF];exact Ah _ z)
def st_at{M Gn Pn b:Nat}{g:List Ac}{t:List Tile}{A:An}(hd:M≠Gn/\M≠Pn/\Gn≠Pn)(Q:M<b/\Gn<b/\Pn<b)(z: ∀a∈DF A,a<b):DY (hget (FC M Gn Pn b g t A)) M Gn b Pn (λq=>b+1+q) g t:=by
 refine⟨?_,?_,?_,?_,λq hq=> ?_⟩
 .simp only[FC,BZ,hget,K7,IJ]
 .simp only[FC,BZ,hget,AC _ _ hd.1,K7,IJ,Dw]
 .simp only[FC,BZ,hget,AC _ _ (show M≠b by omega),AC _ _ (show Gn≠b by omega),AC _ _ (show Pn≠b by omega),K7,IJ,Dw];rfl
 .simp only[FC,BZ,hget,AC _ _ hd.2.1,AC _ _ hd.2.2,K7,IJ,Dw]
 .simp only[FC,BZ,hget,AC _ _ (show M≠b+1+q by omega),AC _ _ (show Gn≠b+1+q by omega),AC _ _ (show Pn≠b+1+q by omega),AC _ _ (show b≠b+1+q by omega),Dw];rw[J7,vS λa O=>by have:=z a O;omega,CY _ _ _ _ hq];rfl
def DY.put{h:An}{M Gn Tn Pn x:Nat}{e:Ap}{N:Nat->Nat}{g:List Ac}{t:List Tile}(K:DY (hget h) M Gn Tn Pn N g t)(O:x≠M/\x≠Gn/\x≠Tn/\x≠Pn)(Q: ∀q,q<t.length->N q≠x):DY (hget ((x,e)::h)) M Gn Tn Pn N g t:=by
 have z: ∀m,x≠m->hget ((x,e)::h) m=hget h m:=λm hm=>by simp only[hget,AC _ _ hm,Dw]
 exact⟨by rw[z _ O.1];exact K.hm,by rw[z _ O.2.1];exact K.hg,by rw[z _ O.2.2.1];exact K.ht,by rw[z _ O.2.2.2];exact K.hp,λq hq=>by rw[z _ (λe=>Q q hq e.symm)];exact K.hf q hq⟩
def st_nm{M Gn Pn b n nx:Nat}(hd:M≠Gn/\M≠Pn/\Gn≠Pn)(z:M<b/\Gn<b/\Pn<b)(hn:b+1+n<=nx):EL M Gn b Pn (λq=>b+1+q) n nx:=
 ⟨⟨hd.1,auOm,hd.2.1,auOm,hd.2.2,auOm⟩,⟨auOm,auOm,auOm,auOm⟩,λq hq=>⟨auOm,auOm,auOm,auOm,auOm⟩,λa b _ _ h=>auOm⟩
def mf0C.ca(a:List Ac×MM×List MM):List AV:=[.ptr 0 0,.im (.str a.2.1),.own 4]
def mf0C.H0(a:List Ac×MM×List MM):An:=BK a.1 []++[(4,(true,.arr 9 1 (a.2.2.map FD)))]
def mf0C.H1(a:List Ac×MM×List MM):An:=[(0,(true,.cells 133 [.own 1,.own 8,.mp 3])),(8,(true,.arrA 155 2 [[.im (.str a.2.1),.own 6]])),(6,(true,.arr 2 1 ((a.2.2.map (Ax a.1)).map Aj)))]
def mf0C.row:A8:=A7 mf0C.ca mf0C.H0 5 (λa=>a.2.2.length<=100) Bq (λ_=> .im (.int .i64 0)) mf0C.H1 20
def mf0C.ok:AE 77 mf0C.row:=by
 refine KF tN Tryz.func77 (exB:=λj=>Nat.ble 6 j) (R:=λ_ r=>r= .im (.int .i64 0)) (λ_=>rfl)
  (λa=>by simp[mf0C.ca,mf0C.H0,BK,A9,AV.bel,Ar,B5,Ca,Ad.nms,Av,AV.nms,Ai,hget]) (λa p hp=> ?_) LeVq ?_
 rotate_left
 intro a O;simp only[Tryz.f77,mf0C.ca,mf0C.H0,mf0C.H1,BK];simp only[ZA,simprocAttr];rotate_left
 .simp only[mf0C.H1,B0,D2,Rl] at hp;rcases hp with rfl|rfl|rfl
  .exact .inl ⟨auOm,rfl,rfl⟩
  .exact .inr ⟨auOm,auOm,rfl,rfl⟩
  .exact .inr ⟨auOm,auOm,rfl,rfl⟩
 obtain⟨g,x,l⟩:=a;simp only at O⊢;intro _;refine AY.ren ⟨{k:Nat//k<=l.length},λk=>⟨[(14,.im (.int .i64 k.1)),(13,.im (.int .i64 l.length)),(12,.own 4),(7,.ptr 5 0),(0,.ptr 0 0),(6,.im (.int .i64 0))],[(5,(true,.cells 155 [.im (.str x),.own 6])),(6,(true,.arr 2 1 (((l.take k.1).map (Ax g)).map Aj))),(0,(true,.cells 133 [.own 1,.own 2,.mp 3])),(1,(true,.arr 151 2 (g.map Ac.c))),(2,(true,.arr 155 2 [])),(3,(true,.map ⟨false,[.str]⟩ (Ce g))),(4,(true,.arr 9 1 (l.map FD)))],7⟩,λk=>l.length - k.1,λk=>⟨by simp[ZG],auSi⟩,⟨⟨0,Ir _⟩,[(6,none)],?_⟩,λk=> ?_⟩
 .simp only[AB,eF,Gl];simp only[ZA,simprocAttr,Bf,lA]
 obtain⟨k,hk⟩:=k;have hw:IntKind.i64.wrap ((k:Int)+1)=((k+1:Nat):Int):=by rw[AG auOm auOm];omega
 simp only[ZA,simprocAttr,Bh,Aq,E6,J9,AL,E6,J9];refine⟨λz=>⟨z,z,λv hv=> ?_⟩,λz=> ?_⟩
 .have Q:((l.take k).map (Ax g)).map Aj++[[D.int .i64 (Ax g v)]]=((l.take (k+1)).map (Ax g)).map Aj:=by
   rw[qW hv,Dj,Dj];rfl
  have aa:(l.take k).length<=100:=by rw[Eb];omega
  refine vI g v _ _ ?_ λhz=> ?_
  .simp only[ZA,simprocAttr,Aq,Q,hw];refine⟨auOm,⟨k+1,auOm⟩,[(6,some 8)],by simp only;omega,?_⟩;simp only[AB];simp only[ZA,simprocAttr,Bf]
  .rw[hz] at Q;simp only[simprocAttr,Q,hw];refine⟨auOm,⟨k+1,auOm⟩,[(6,some 8)],by simp only;omega,?_⟩;simp only[AB];simp only[ZA,simprocAttr,Bf]
 .obtain rfl:k=l.length:=auOm;rw[Pj];have Z:IntKind.i64.wrap 0=0:=auDe;rw[Z];refine⟨[],[],⟨[(6,.im (.int .i64 0))],[(0,(true,.cells 133 [.own 1,.own 8,.mp 3])),(8,(true,.arrA 155 2 [[.im (.str x),.own 6]])),(6,(true,.arr 2 1 ((l.map (Ax g)).map Aj))),(1,(true,.arr 151 2 (g.map Ac.c))),(3,(true,.map ⟨false,[.str]⟩ (Ce g))),(4,(true,.arr 9 1 (l.map FD)))],9⟩,?_,by simp[ZG],auSi,?_⟩
  .simp only[AB];simp only[ZA,simprocAttr,Bf]
  .simp only[ZA,simprocAttr,Bq,Bq]
def mfR.row:A8:=fM mf0C.row mfC.row
def mfR.ok:AE 77 mfR.row:=KY mf0C.ok mfC.ok
def idxW_.fv(a:(Cz)×Int):Int:=(λl x=>BC (λy=>decide (x=y)) 0 l) (a.1) (a.2)
def idxW_.row:A8:=Cj (b2 (qS D4 Cq) qI) rI (λa=>True) idxW_.fv
def idxW_.q:=Cf (R:=idxW_.row) rfl
def idxW_.ok:AE 167 idxW_.row:=by
 refine EK tN Tryz.func167 ?_;intro a Q;simp only[Tryz.f167];simp only[ZA,simprocAttr,idxW_.fv];intro hn;refine AY.old ⟨{k:Nat//k<=a.1.length/\BC (λy=>decide (a.2=y)) k (a.1.drop k)=BC (λy=>decide (a.2=y)) 0 a.1},λk=>⟨[(8,.im (.int .i64 k.1)),(7,.im (.int .i64 a.1.length)),(4,.im (.int .i64 0)),(0,.im (.sl false 1 (a.1.map Aj))),(1,.im (.int .i64 a.2))],[],0⟩,λk=>a.1.length - k.1,λk=>⟨by simp[ZG],BN _⟩,⟨⟨0,auSi⟩,by simp only[ZA,simprocAttr,sub]⟩,λk=> ?_⟩;obtain⟨k,Z,z⟩:=k;simp only[ZA,simprocAttr,D.sc,D.scs,AO,sub,AL];refine⟨λO=>⟨O,λx hx=> ?_⟩,λO=> ?_⟩
 .rw[FH hx,BC] at z;refine⟨λh=> ?_,λh=>FG O hn ⟨auOm,by rw[<-z,Be (by simpa using h)]⟩⟩;rw[Bt (by simpa using h)] at z;exact z
 .rw[Bm auOm,BC] at z;exact z
def contW_.fv(a:(Cz)×Int):Bool:=(λl n=>decide (n∈l)) (a.1) (a.2)
def contW_.row:A8:=Cj (b2 (qS D4 Cq) qI) rB (λa=>True) contW_.fv
def contW_.q:=Cf (R:=contW_.row) rfl
def contW_.ok:AE 131 contW_.row:=by
 refine EK (tC idxW_.ok tN) Tryz.func131 ?_;intro a O;simp only[Tryz.f131];simp only[ZA,simprocAttr,Aa,contW_.fv,idxW_.q,idxW_.fv,D.sc,D.scs,AO];rw[decide_eq_decide];rcases Qyg (λy=>decide (a.2=y)) a.1 0 with ⟨h,_⟩|⟨Q,Z⟩
 .rw[h,Sx];constructor
  .rintro⟨x,z,he⟩
   have:a.2=x:=by simpa using he
   rw[this];exact z
  .exact λz=>⟨_,z,auSi⟩
 .rw[Z,Q];simp
def OR{P:Program}{g:List Ac}{t:List Tile}{nm:MM}{Z:Cz}{tm:TmT}{HH:An}{nx:Nat}(p1:t.length<=900)(A:DY (hget HH) 0 1 (nx+3) 3 (FN (λi=>10+i) t.length (nx+1)) g (t++[⟨nm,Z⟩]))(ac:2000<=nx):
 nS P [] 2000 200 (BV g t) [(0,(true,.cells 133 [.own 1,.own 2003,.mp 3])),(2003,(true,.arrA 155 2 (Cx 10 t++[[.im (.str nm),.own 2001]]))),(2001,(true,.arr 2 1 (Z.map Aj)))] Bq (λj=>decide (2000<=j)) (λr=>r= .im (.tup [])) ⟨tm,HH,nx+20⟩:=by
 obtain⟨am,ag,aa,ap,af⟩:=A;rw[vL] at aa;have hF: ∀q,q<t.length->hget HH (10+q)=some (BX t q):=λq hq=>by
  have:=af q (by rw[BR];omega)
  rw[FN,Bt hq,vJ hq] at this;exact this
 have hS:hget HH (nx+1)=some (true,.arr 2 1 (Z.map Aj)):=by
  have:=af t.length (by rw[BR,zK];omega)
  rw[FN,Be (YC _),sP] at this;exact this
 obtain⟨π,hπ⟩: ∃π,π=[(2003,some (nx+3)),(2001,some (nx+1))]:=⟨_,rfl⟩;have hp: ∀x,x<2000->pm π x=some x:=λx hx=>by rw[hπ];simp only[pm];rw[Be auOm,Be auOm]
 have h3:pm π 2003=some (nx+3):=by rw[hπ];simp[pm]
 have h1:pm π 2001=some (nx+1):=by rw[hπ];simp[pm]
 refine⟨[],π,⟨[],[(0,(true,.cells 133 [.own 1,.own 2003,.mp 3])),(2003,(true,.arrA 155 2 (Cx 10 t++[[.im (.str nm),.own 2001]]))),(2001,(true,.arr 2 1 (Z.map Aj))),(1,(true,.arr 151 2 (g.map Ac.c))),(3,(true,.map ⟨false,[.str]⟩ (Ce g)))]++AH 10 t.length (BX t),2200⟩,?_,?_,auSi,?_⟩
 .simp only[PH,uL];refine OH (λi=>10+i) (by rw[hπ];simp[JP]) ?_ (λi z=>hp _ auOm) (λi j _ _ h=>auOm) (λm hm i z=> ?_) trivial ?_ (λi z=> ?_)
  .simp[EZ,hp 0 auOm,hp 1 auOm,hp 3 auOm,h1,h3,Dg];omega
  .simp[EZ,hp 0 auOm,hp 1 auOm,hp 3 auOm,h1,h3] at hm;omega
  .simp only[F6,hp 0 auOm,hp 1 auOm,hp 3 auOm,h1,h3];refine⟨?_,?_,?_,?_,?_,trivial⟩
   .simp only[Ci,am,D9,Df,Dl,mt,hp 1 auOm,hp 3 auOm,h3,DS,Hh,Ly]
   .simp only[Ci,aa,D9,Df];refine⟨trivial,trivial,trivial,?_⟩;rw[Sm];refine⟨by simp[Cx,Jo],λi r1 r2 O Q=> ?_⟩;by_cases z:i<t.length
    .rw[Db (by simpa[Cx] using z)] at O;rw[Db (by simpa[Jo] using z)] at Q;rw[Cx,Dp,ER z] at O;rw[Jo,Dp,ER z] at Q;obtain rfl:=AJ O;obtain rfl:=AJ Q;simp only[Dl,mt,hp (10+i) auOm,DS,Ly]
    .have ab:i<t.length+1:=by
      have:=(Bi.1 O).1
      simpa[Cx] using this
     obtain rfl:i=t.length:=auOm;rw[D8 (by simp[Cx])] at O;rw[D8 (by simp[Jo])] at Q;simp[Cx] at O;simp[Jo] at Q;subst O;subst Q;simp only[Dl,mt,h1,DS,Ly]
   .simp only[Ci,hS,D9,Df,Ly]
   .simp only[Ci,ag,D9,Df,Ly]
   .simp only[Ci,ap,D9,Df,Ly]
  .simp only[Ci,hF i z,BX,D9,Df,Ly]
 .refine XI rfl ?_ (by simp[B5]) (λi=>by simp[Ar,BX]) auOm;simp only[Ar,L2,Lc _ _ _ (show 10+t.length<=2200 by omega)];simp[A9,AV.bel]
 .obtain⟨X,hX⟩: ∃X,X=hget ([(0,(true,Ad.cells 133 [AV.own 1,.own 2003,.mp 3])),(2003,(true,.arrA 155 2 (Cx 10 t++[[.im (.str nm),.own 2001]]))),(2001,(true,.arr 2 1 (Z.map Aj))),(1,(true,.arr 151 2 (g.map Ac.c))),(3,(true,.map ⟨false,[.str]⟩ (Ce g)))]++AH 10 t.length (BX t)):=⟨_,rfl⟩;simp only[Ib,Aw,Kf,Vw,DB];rw[<-hX];have xf: ∀i,i<t.length->X (10+i)=some (BX t i):=λi z=>by
   rw[hX];simp only[BZ,E5,hget,AC _ _ (show 0≠10+i by omega),AC _ _ (show 2003≠10+i by omega),AC _ _ (show 2001≠10+i by omega),AC _ _ (show 1≠10+i by omega),AC _ _ (show 3≠10+i by omega),Dw];exact CY _ _ _ _ z
  have x0:X 0=some (true,.cells 133 [.own 1,.own 2003,.mp 3]):=by rw[hX];rfl
  have x1:X 1=some (true,.arr 151 2 (g.map Ac.c)):=by rw[hX];rfl
  have x3:X 3=some (true,.map ⟨false,[.str]⟩ (Ce g)):=by rw[hX];rfl
  have x4:X 2003=some (true,.arrA 155 2 (Cx 10 t++[[.im (.str nm),.own 2001]])):=by rw[hX];rfl
  have x5:X 2001=some (true,.arr 2 1 (Z.map Aj)):=by rw[hX];rfl
  have hk: ∀m,(m<4\/(10<=m/\m<10+t.length)\/(2000<=m/\m<2200))->Hl (BV g t) 2000 200 (λj=>decide (2000<=j)) m=some m:=λm hm=>by
   have hd:=OO g t m;simp only[Hl];by_cases c:m<4\/(10<=m/\m<10+t.length)
   .rw[hd.2 c];rfl
   .have hb:(decide (2000<=m) && (Nat.ble 2000 m && Nat.blt m (2000+200)))=true:=by
     simp only[B1,CK,Jf,Mw];omega
    rw[hb,lG];rfl
  refine⟨?_,by simp[Kg,Bs,Aw,mM,Ea],?_⟩
  .simp only[BV,I2];refine⟨by simp[Bq],by simp[x1],by simp[Bq],by simp[x3],yX _ _ _ _ _ λi z=> .inr (xf i z)⟩
  .simp only[E4,x0,x4,x5];refine⟨⟨rfl,?_⟩,⟨rfl,?_⟩,⟨rfl,rfl⟩,trivial⟩
   .simp only[Cd,Aw,Bs,hk 1 auOm,hk 2003 auOm,hk 3 auOm,kp];rfl
   .simp only[Cd];rw[iD (OJ (b:=10) (λi z=>hk (10+i) auOm)) (b':=[[.im (.str nm),.own 2001]]) (by simp only[Aw,Bs,hk 2001 auOm,kp])];rfl
abbrev Xu:={a:Mk×Af×Nat×Nat×Nat×Nat//a.1.2.length<=900}
def MB(a:Xu):Tile:=En (Ax a.1.1.1) none a.1.2.1 (Ao a.1.2.1) a.1.2.2.1 a.1.2.2.2.1 a.1.2.2.2.2.1 a.1.2.2.2.2.2
def celC.ca(a:Xu):List AV:=[C8 a.1.2.1,.im (.int .i64 (a.1.2.2.1:Nat)),.im (.int .i64 (a.1.2.2.2.1:Nat)),.im (.int .i64 (a.1.2.2.2.2.1:Nat)),.im (.int .i64 (a.1.2.2.2.2.2:Nat))]
def celC.H0(a:Xu):An:=BV a.1.1.1 a.1.1.2
def celC.H1(a:Xu):An:=[(0,(true,.cells 133 [.own 1,.own 2003,.mp 3])),(2003,(true,.arrA 155 2 (Cx 10 a.1.1.2++[[.im (.str (MB a).Name),.own 2001]]))),(2001,(true,.arr 2 1 ((MB a).Sides.map Aj)))]
def celC.pre(a:Xu):Prop:=eX a.1.2.1/\a.1.2.2.1<AZ a.1.2.1/\a.1.2.2.2.1<Ao a.1.2.1/\a.1.2.2.2.2.1<=1/\a.1.2.2.2.2.2<=1
def celC.row:A8:=A7 celC.ca celC.H0 2000 celC.pre Bq (λ_=> .im (.tup [])) celC.H1 200
def celC.hbel(a:Xu):A9 2000 (celC.ca a)=true:=by simp[celC.ca,C8,A9,AV.bel]
def celC.hbH(a:Xu):Ar 2000 (celC.H0 a)=true:=iE _ _ (by have:=a.2;omega)
def celC.hkH(a:Xu):B5 2000 (celC.H0 a)=true:=iC _ _ (by have:=a.2;omega)
def celC.hnm(a:Xu):Ca (celC.H0 a) (celC.H0 a):=uZ _ _ λ_ h=>h
def celC.ok:AE 80 celC.row:=by
 refine KF (tC numd_.ok (tC prd_.ok (tC dcm_.ok (tC pdK.ok (tC contW_.ok (tC mfC.ok tN)))))) Tryz.func80 (exB:=λj=>Nat.ble 2000 j) (R:=λa r=>r= .im (.tup [])) (λ_=>rfl)
  (λa=>⟨celC.hbel a,celC.hbH a,celC.hkH a,celC.hnm a⟩) (λa p hp=> ?_) LeVq ?_
 rotate_left
 intro a aa;simp only[Tryz.f80,celC.ca,celC.H0,BV,C8];simp only[ZZ,simprocAttr,Aa,numd_.q,numd_.fv,prd_.q,prd_.fv,dcm_.q,dcm_.fv,pdK.q,pdK.fv,contW_.q,contW_.fv,Bb,Ag.c];rotate_left
 .simp only[celC.H1,B0,D2,Rl] at hp;rcases hp with rfl|rfl|rfl
  .exact .inl ⟨by simp only;omega,rfl,(OO _ _ _).2 (.inl (by simp only;omega))⟩
  .exact .inr ⟨by simp only;omega,by simp only;omega,rfl,rfl⟩
  .exact .inr ⟨by simp only;omega,by simp only;omega,rfl,rfl⟩
 obtain⟨⟨⟨g,t⟩,f,k,c,v,d⟩,p1⟩:=a;obtain⟨⟨h1,h2,h3⟩,h4,h5,h6,h7⟩:=aa;simp only at p1 h1 h2 h3 h4 h5 h6 h7⊢;have hC:Ao f<=7:=by simp only[Ao];omega
 have hR:AZ f<=81:=h3;have hp:Lb ⟨#[120]⟩ (k:Nat) (c:Nat)=⟨#[120]⟩++BT (k:Nat)++⟨#[95]⟩++BT (c:Nat):=rfl;have s1:=CN (n:=(k:Int)) auOm auOm;have s2:=CN (n:=(c:Int)) auOm auOm;have s3:=CN (n:=(v:Int)) auOm auOm;have s4:=CN (n:=(d:Int)) auOm auOm;have z1:(⟨#[120]⟩:MM).size=1:=rfl;have z2:(⟨#[95]⟩:MM).size=1:=rfl;have z3:(⟨#[98]⟩:MM).size=1:=rfl;have z4:(⟨#[111]⟩:MM).size=1:=rfl;have ab:IntKind.i64.wrap ((c:Int)+1)=((c+1:Nat):Int):=by rw[AG auOm auOm];omega
 have hx:(Lb ⟨#[120]⟩ (k:Nat) (c:Nat)++⟨#[95]⟩++BT (v:Nat)++BT (d:Nat):MM)=xN k c v d:=rfl;simp only[ab,hx];simp only[hp,Pk,z1,z2,z3,z4];refine⟨⟨auOm,auOm,auOm,auOm⟩,auOm,auOm,auOm,auOm,auOm,?_⟩
 split<;>rename_i Z
 .refine⟨h4,λq hq=> ?_⟩;have z:IM f k c v d=if F8 q.Care c=1/\F8 q.Value c≠(d:Int) then 0 else v:=by simp only[IM,hq]
  by_cases c1:F8 q.Care c=1
  .rw[Bt (show Dz .i64 (q.Care.fdiv (2^min c IntKind.i64.bits)) 1=1 from c1)];by_cases Q:F8 q.Value c=(d:Int)
   .rw[Be (show ¬¬Dz .i64 (q.Value.fdiv (2^min c IntKind.i64.bits)) 1=(d:Int) from λh=>h Q)];rw[Be (λh=>h.2 Q)] at z;have O:MB ⟨((g,t),f,k,c,v,d),p1⟩=⟨xN k c v d,[bN d,BJ (k:Nat) ((c+1:Nat):Int) (v:Nat),bN d,BJ (k:Nat) (c:Nat) (v:Nat)].map (Ax g)⟩:=by
     simp only[MB,En];rw[Bt Z,z];rfl
    have hH:celC.H1 ⟨((g,t),f,k,c,v,d),p1⟩=[(0,(true,.cells 133 [.own 1,.own 2003,.mp 3])),(2003,(true,.arrA 155 2 (Cx 10 t++[[.im (.str (xN k c v d)),.own 2001]]))),(2001,(true,.arr 2 1 (([bN d,BJ (k:Nat) ((c+1:Nat):Int) (v:Nat),bN d,BJ (k:Nat) (c:Nat) (v:Nat)].map (Ax g)).map Aj)))]:=by simp only[celC.H1,O]
    refine⟨auOm,auOm,auOm,auOm,?_⟩;refine IB (g:=g) (t:=t) (M:=0) (Gn:=1) (Tn:=2) (Pn:=3) (N:=λi=>10+i) (l:=[bN d,BJ (k:Nat) ((c+1:Nat):Int) (v:Nat),bN d,BJ (k:Nat) (c:Nat) (v:Nat)]) auOm auSi ⟨rfl,rfl,rfl,rfl,λq hq=> ?_⟩ (by exact⟨auDe,auDe,λq hq=>auOm,λa b _ _ h=>auOm⟩) rfl auDe (λq hq=>auOm) rfl λu w HH A' _ _=> ?_
    .simp only[hget,AC _ _ (show 2002≠10+q by omega),AC _ _ (show 2001≠10+q by omega),AC _ _ (show 2000≠10+q by omega),AC _ _ (show 0≠10+q by omega),AC _ _ (show 1≠10+q by omega),AC _ _ (show 2≠10+q by omega),AC _ _ (show 3≠10+q by omega),Dw]
     first|exact CY _ _ _ _ hq|(rw[EN auOm];exact CY _ _ _ _ hq)
    simp only[ZA,Bh];rw[hH];exact OR p1 A' auOm
   .rw[Bt (show ¬Dz .i64 (q.Value.fdiv (2^min c IntKind.i64.bits)) 1=(d:Int) from Q)];rw[Bt ⟨c1,Q⟩] at z;have O:MB ⟨((g,t),f,k,c,v,d),p1⟩=⟨xN k c v d,[bN d,BJ (k:Nat) ((c+1:Nat):Int) (0),bN d,BJ (k:Nat) (c:Nat) (v:Nat)].map (Ax g)⟩:=by
     simp only[MB,En];rw[Bt Z,z];rfl
    have hH:celC.H1 ⟨((g,t),f,k,c,v,d),p1⟩=[(0,(true,.cells 133 [.own 1,.own 2003,.mp 3])),(2003,(true,.arrA 155 2 (Cx 10 t++[[.im (.str (xN k c v d)),.own 2001]]))),(2001,(true,.arr 2 1 (([bN d,BJ (k:Nat) ((c+1:Nat):Int) (0),bN d,BJ (k:Nat) (c:Nat) (v:Nat)].map (Ax g)).map Aj)))]:=by simp only[celC.H1,O]
    refine⟨auOm,auOm,auOm,auOm,?_⟩;refine IB (g:=g) (t:=t) (M:=0) (Gn:=1) (Tn:=2) (Pn:=3) (N:=λi=>10+i) (l:=[bN d,BJ (k:Nat) ((c+1:Nat):Int) (0),bN d,BJ (k:Nat) (c:Nat) (v:Nat)]) auOm auSi ⟨rfl,rfl,rfl,rfl,λq hq=> ?_⟩ (by exact⟨auDe,auDe,λq hq=>auOm,λa b _ _ h=>auOm⟩) rfl auDe (λq hq=>auOm) rfl λu w HH A' _ _=> ?_
    .simp only[hget,AC _ _ (show 2002≠10+q by omega),AC _ _ (show 2001≠10+q by omega),AC _ _ (show 2000≠10+q by omega),AC _ _ (show 0≠10+q by omega),AC _ _ (show 1≠10+q by omega),AC _ _ (show 2≠10+q by omega),AC _ _ (show 3≠10+q by omega),Dw]
     first|exact CY _ _ _ _ hq|(rw[EN auOm];exact CY _ _ _ _ hq)
    simp only[ZA,Bh];rw[hH];exact OR p1 A' auOm
  .rw[Be (show ¬Dz .i64 (q.Care.fdiv (2^min c IntKind.i64.bits)) 1=1 from c1)];rw[Be (λh=>c1 h.1)] at z;have O:MB ⟨((g,t),f,k,c,v,d),p1⟩=⟨xN k c v d,[bN d,BJ (k:Nat) ((c+1:Nat):Int) (v:Nat),bN d,BJ (k:Nat) (c:Nat) (v:Nat)].map (Ax g)⟩:=by
    simp only[MB,En];rw[Bt Z,z];rfl
   have hH:celC.H1 ⟨((g,t),f,k,c,v,d),p1⟩=[(0,(true,.cells 133 [.own 1,.own 2003,.mp 3])),(2003,(true,.arrA 155 2 (Cx 10 t++[[.im (.str (xN k c v d)),.own 2001]]))),(2001,(true,.arr 2 1 (([bN d,BJ (k:Nat) ((c+1:Nat):Int) (v:Nat),bN d,BJ (k:Nat) (c:Nat) (v:Nat)].map (Ax g)).map Aj)))]:=by simp only[celC.H1,O]
   refine⟨auOm,auOm,auOm,auOm,?_⟩;refine IB (g:=g) (t:=t) (M:=0) (Gn:=1) (Tn:=2) (Pn:=3) (N:=λi=>10+i) (l:=[bN d,BJ (k:Nat) ((c+1:Nat):Int) (v:Nat),bN d,BJ (k:Nat) (c:Nat) (v:Nat)]) auOm auSi ⟨rfl,rfl,rfl,rfl,λq hq=> ?_⟩ (by exact⟨auDe,auDe,λq hq=>auOm,λa b _ _ h=>auOm⟩) rfl auDe (λq hq=>auOm) rfl λu w HH A' _ _=> ?_
   .simp only[hget,AC _ _ (show 2002≠10+q by omega),AC _ _ (show 2001≠10+q by omega),AC _ _ (show 2000≠10+q by omega),AC _ _ (show 0≠10+q by omega),AC _ _ (show 1≠10+q by omega),AC _ _ (show 2≠10+q by omega),AC _ _ (show 3≠10+q by omega),Dw]
    first|exact CY _ _ _ _ hq|(rw[EN auOm];exact CY _ _ _ _ hq)
   simp only[ZA,Bh];rw[hH];exact OR p1 A' auOm
 .have af:f.Inputs<=c:=auOm;have ad:IntKind.i64.wrap ((c:Int) - f.Inputs)=((c - f.Inputs.toNat:Nat):Int):=by rw[AG auOm auOm];omega
  simp only[ad,Cp];have ac: ∀x,f.Sums[c - f.Inputs.toNat]? =some x->N9 f k c v d=if v=1/\((k:Nat):Int)∈x then 1 else d:=λx hx=>by simp only[N9,hx]
  by_cases c1:(v:Int)=1
  .rw[Bt c1];refine⟨auOm,by simp only[Ao] at h5;omega,λx hx=> ?_⟩;have z:=ac x hx;by_cases Q:((k:Nat):Int)∈x
   .rw[Bt Q];rw[Bt ⟨auOm,Q⟩] at z;have O:MB ⟨((g,t),f,k,c,v,d),p1⟩=⟨xN k c v d,[Bd ⟨#[111]⟩ (1),BJ (k:Nat) ((c+1:Nat):Int) (v:Nat),oN d,BJ (k:Nat) (c:Nat) (v:Nat)].map (Ax g)⟩:=by
     simp only[MB,En];rw[Be Z,z];rfl
    have hH:celC.H1 ⟨((g,t),f,k,c,v,d),p1⟩=[(0,(true,.cells 133 [.own 1,.own 2003,.mp 3])),(2003,(true,.arrA 155 2 (Cx 10 t++[[.im (.str (xN k c v d)),.own 2001]]))),(2001,(true,.arr 2 1 (([Bd ⟨#[111]⟩ (1),BJ (k:Nat) ((c+1:Nat):Int) (v:Nat),oN d,BJ (k:Nat) (c:Nat) (v:Nat)].map (Ax g)).map Aj)))]:=by simp only[celC.H1,O]
    refine⟨auOm,auOm,auOm,auOm,?_⟩;refine IB (g:=g) (t:=t) (M:=0) (Gn:=1) (Tn:=2) (Pn:=3) (N:=λi=>10+i) (l:=[Bd ⟨#[111]⟩ (1),BJ (k:Nat) ((c+1:Nat):Int) (v:Nat),oN d,BJ (k:Nat) (c:Nat) (v:Nat)]) auOm auSi ⟨rfl,rfl,rfl,rfl,λq hq=> ?_⟩ (by exact⟨auDe,auDe,λq hq=>auOm,λa b _ _ h=>auOm⟩) rfl auDe (λq hq=>auOm) rfl λu w HH A' _ _=> ?_
    .simp only[hget,AC _ _ (show 2001≠10+q by omega),AC _ _ (show 2000≠10+q by omega),AC _ _ (show 0≠10+q by omega),AC _ _ (show 1≠10+q by omega),AC _ _ (show 2≠10+q by omega),AC _ _ (show 3≠10+q by omega),Dw]
     first|exact CY _ _ _ _ hq|(rw[EN auOm];exact CY _ _ _ _ hq)
    simp only[ZA,Bh];rw[hH];exact OR p1 A' auOm
   .rw[Be Q];rw[Be (λh=>Q h.2)] at z;have O:MB ⟨((g,t),f,k,c,v,d),p1⟩=⟨xN k c v d,[Bd ⟨#[111]⟩ (d:Nat),BJ (k:Nat) ((c+1:Nat):Int) (v:Nat),oN d,BJ (k:Nat) (c:Nat) (v:Nat)].map (Ax g)⟩:=by
     simp only[MB,En];rw[Be Z,z];rfl
    have hH:celC.H1 ⟨((g,t),f,k,c,v,d),p1⟩=[(0,(true,.cells 133 [.own 1,.own 2003,.mp 3])),(2003,(true,.arrA 155 2 (Cx 10 t++[[.im (.str (xN k c v d)),.own 2001]]))),(2001,(true,.arr 2 1 (([Bd ⟨#[111]⟩ (d:Nat),BJ (k:Nat) ((c+1:Nat):Int) (v:Nat),oN d,BJ (k:Nat) (c:Nat) (v:Nat)].map (Ax g)).map Aj)))]:=by simp only[celC.H1,O]
    refine⟨auOm,auOm,auOm,auOm,?_⟩;refine IB (g:=g) (t:=t) (M:=0) (Gn:=1) (Tn:=2) (Pn:=3) (N:=λi=>10+i) (l:=[Bd ⟨#[111]⟩ (d:Nat),BJ (k:Nat) ((c+1:Nat):Int) (v:Nat),oN d,BJ (k:Nat) (c:Nat) (v:Nat)]) auOm auSi ⟨rfl,rfl,rfl,rfl,λq hq=> ?_⟩ (by exact⟨auDe,auDe,λq hq=>auOm,λa b _ _ h=>auOm⟩) rfl auDe (λq hq=>auOm) rfl λu w HH A' _ _=> ?_
    .simp only[hget,AC _ _ (show 2001≠10+q by omega),AC _ _ (show 2000≠10+q by omega),AC _ _ (show 0≠10+q by omega),AC _ _ (show 1≠10+q by omega),AC _ _ (show 2≠10+q by omega),AC _ _ (show 3≠10+q by omega),Dw]
     first|exact CY _ _ _ _ hq|(rw[EN auOm];exact CY _ _ _ _ hq)
    simp only[ZA,Bh];rw[hH];exact OR p1 A' auOm
  .rw[Be c1];have z:N9 f k c v d=d:=by
    simp only[N9];split
    .rw[Be (λh=>c1 auOm)]
    .rfl
   have O:MB ⟨((g,t),f,k,c,v,d),p1⟩=⟨xN k c v d,[Bd ⟨#[111]⟩ (d:Nat),BJ (k:Nat) ((c+1:Nat):Int) (v:Nat),oN d,BJ (k:Nat) (c:Nat) (v:Nat)].map (Ax g)⟩:=by
    simp only[MB,En];rw[Be Z,z];rfl
   have hH:celC.H1 ⟨((g,t),f,k,c,v,d),p1⟩=[(0,(true,.cells 133 [.own 1,.own 2003,.mp 3])),(2003,(true,.arrA 155 2 (Cx 10 t++[[.im (.str (xN k c v d)),.own 2001]]))),(2001,(true,.arr 2 1 (([Bd ⟨#[111]⟩ (d:Nat),BJ (k:Nat) ((c+1:Nat):Int) (v:Nat),oN d,BJ (k:Nat) (c:Nat) (v:Nat)].map (Ax g)).map Aj)))]:=by simp only[celC.H1,O]
   refine⟨auOm,auOm,auOm,auOm,?_⟩;refine IB (g:=g) (t:=t) (M:=0) (Gn:=1) (Tn:=2) (Pn:=3) (N:=λi=>10+i) (l:=[Bd ⟨#[111]⟩ (d:Nat),BJ (k:Nat) ((c+1:Nat):Int) (v:Nat),oN d,BJ (k:Nat) (c:Nat) (v:Nat)]) auOm auSi ⟨rfl,rfl,rfl,rfl,λq hq=> ?_⟩ (by exact⟨auDe,auDe,λq hq=>auOm,λa b _ _ h=>auOm⟩) rfl auDe (λq hq=>auOm) rfl λu w HH A' _ _=> ?_
   .simp only[hget,AC _ _ (show 2001≠10+q by omega),AC _ _ (show 2000≠10+q by omega),AC _ _ (show 0≠10+q by omega),AC _ _ (show 1≠10+q by omega),AC _ _ (show 2≠10+q by omega),AC _ _ (show 3≠10+q by omega),Dw]
    first|exact CY _ _ _ _ hq|(rw[EN auOm];exact CY _ _ _ _ hq)
   simp only[ZA,Bh];rw[hH];exact OR p1 A' auOm
def lU{g:List Ac}{t:List Tile}{f:Af}{k c v d M Gn Tn Pn nx:Nat}{N:Nat->Nat}{tm:TmT}{h:An}{dst:Option Nat}{go:Az->Prop}(p1:t.length<=900)(ab:celC.pre ⟨((g,t),f,k,c,v,d),p1⟩)
 (A:DY (hget h) M Gn Tn Pn N g t)(S:EL M Gn Tn Pn N t.length nx)
 (ad: ∀O:An,DY (hget O) M Gn (nx+3) Pn (FN N t.length (nx+1)) g (t++[En (Ax g) none f (Ao f) k c v d])->EL M Gn (nx+3) Pn (FN N t.length (nx+1)) (t++[En (Ax g) none f (Ao f) k c v d]).length (nx+200)->(∀m,m<nx->m≠M->m≠Tn->hget O m=hget h m)->go ((⟨tm,O,nx+200⟩:Az).put dst (.im (.tup [])))):
 celC.row [.agg [.ptr M 0,.im (.int .i64 f.Inputs),.im (.sl false 2 (f.Cubes.map Ag.c)),.im (.sl false 1 (f.Sums.map BD)),.im (.int .i64 (AZ f:Nat)),.im (.int .i64 (Ao f:Nat))],.im (.int .i64 (k:Nat)),.im (.int .i64 (c:Nat)),.im (.int .i64 (v:Nat)),.im (.int .i64 (d:Nat))] (hget h) nx (De go ⟨tm,h,nx⟩ dst):=by
 have z: ∀j,Ai (celC.H0 ⟨((g,t),f,k,c,v,d),p1⟩) j=true↔j<4\/(10<=j/\j<10+t.length):=λj=>OO g t j
 have s0:B2 (Fk M Gn Tn Pn nx N) 2000 nx 0=M:=rfl;have s1:B2 (Fk M Gn Tn Pn nx N) 2000 nx 1=Gn:=rfl;have s2:B2 (Fk M Gn Tn Pn nx N) 2000 nx 2=Tn:=rfl;have s3:B2 (Fk M Gn Tn Pn nx N) 2000 nx 3=Pn:=rfl;have sf: ∀q,q<t.length->B2 (Fk M Gn Tn Pn nx N) 2000 nx (10+q)=N q:=λq hq=>by
  simp only[B2];rw[Bt auOm,HI auOm];congr 1;omega
 have sa:B2 (Fk M Gn Tn Pn nx N) 2000 nx 2003=nx+3:=rfl;have sb:B2 (Fk M Gn Tn Pn nx N) 2000 nx 2001=nx+1:=rfl;have hl:=S.l;refine A7.tw ⟨((g,t),f,k,c,v,d),p1⟩ (Fk M Gn Tn Pn nx N) ab (λj hj=> ?_) (λa b ha hb e=>Nw S auOm (λq hq=>by have:=(S.f q hq).1;omega) (by have:=(z a).1 ha;omega) (by have:=(z b).1 hb;omega) e) ?_ ⟨?_,?_⟩ (λm hm=>by simp[AV.nms] at hm) λO hn hk=> ?_
 .have hj:=(z j).1 hj;refine⟨auOm,?_⟩;rcases (by omega:j=0\/j=1\/j=2\/j=3\/10<=j) with rfl|rfl|rfl|rfl|ac
  .exact S.l.1
  .exact S.l.2.1
  .exact S.l.2.2.1
  .exact S.l.2.2.2
  .rw[HI ac];exact (S.f _ auOm).1
 .intro p hp;simp only[celC.H1,B0,D2,Rl] at hp;rcases hp with rfl|rfl|rfl
  .refine⟨.inl ⟨(z 0).2 auOm,rfl⟩,λm hm=> ?_⟩;simp[Ad.nms,Av,AV.nms] at hm;rcases hm with rfl|rfl|rfl
   .exact .inl ((z 1).2 auOm)
   .exact .inr auOm
   .exact .inl ((z 3).2 auOm)
  .refine⟨.inr ⟨by simp only;omega,by simp only;omega⟩,λm hm=> ?_⟩;simp only[Ad.nms] at hm;obtain⟨r,Q,hm⟩:=Fx.1 hm;rcases BO.1 Q with Q|Q
   .obtain⟨i,hi,rfl⟩:=BY.1 Q
    have:=AU.1 hi
    simp[Av,AV.nms] at hm;exact .inl ((z m).2 auOm)
   .simp only[Am] at Q;subst Q;simp[Av,AV.nms] at hm;exact .inr auOm
  .exact⟨.inr ⟨by simp only;omega,by simp only;omega⟩,λm hm=>by simp[Ad.nms] at hm⟩
 .simp only[celC.ca,C8,AN,AV.ren,s0]
 .simp only[celC.H0,BV,Du,Ad.ren,AN,AV.ren,s0,s1,s2,s3];rw[Yi sf];refine⟨A.hm,A.hg,A.ht,A.hp,Jv λq hq=> ?_⟩;rw[sf q hq,A.hf q hq];rfl
 .have e0:=hn 0 _ rfl;have e1:=hn 2003 _ rfl;have e2:=hn 2001 _ rfl;simp only[Ad.ren,AN,AV.ren,s0,s1,s3,sa,sb,Dj,Br,Gl] at e0 e1 e2;rw[Yi sf] at e1;have Z: ∀m,m<nx->m≠M->m≠Tn->hget O m=hget h m:=λm h1 h2 h3=>hk m h1 λj hj aa=>by
   simp only[Bq,IK,YI] at aa;rcases aa with rfl|rfl
   .exact λe=>h2 e.symm
   .exact λe=>h3 e.symm
  exact ad O (A.next (y:=En (Ax g) none f (Ao f) k c v d) S e0 e1 e2 Z) (by rw[BR];exact S.next auOm auOm auOm auOm auOm) Z
def Jk(f:Af)(l:Cz):List Tile:=ML (Ax (D3 (AZ f) (Ao f))) none ⟨#[45]⟩ f l (AZ f) (Ao f)
def fsyC.ca(a:Af×Cz):List AV:=[.im (.agg (Af.c a.1)),.im (.sl false 1 (a.2.map Aj))]
def fsyC.H1(a:Af×Cz):An:=(103,(true,.arr 151 2 ((D3 (AZ a.1) (Ao a.1)).map Ac.c)))::(4000,(true,.arrA 155 2 (Cx 4001 (Jk a.1 a.2))))::(4200,(true,.arr 137 3 [AA.c ⟨⟨0,0⟩,0⟩]))::AH 4001 (min (Jk a.1 a.2).length 180) (BX (Jk a.1 a.2))
def fsyC.r0:AV:= .agg [.own 103,.own 4000,.own 4200,.im (.int .i64 2)]
def fsyC.pre(a:Af×Cz):Prop:=eX a.1/\EV a.1.Inputs a.2=true/\(Jk a.1 a.2).length<=160
def fsyC.row:A8:=A7 fsyC.ca (λ_=>[]) 0 fsyC.pre (λ_=>false) (λ_=>fsyC.r0) fsyC.H1 5000
def ZL(a:List Ac×MM×List MM)(j:Nat):Ai (mf0C.H0 a) j=true↔j<5:=by
 have h:=La a.1 [] j;simp only[Ai,mf0C.H0] at h⊢;rw[J7];by_cases c:j<4
 .have:=h.2 c
  rw[Option.isSome_or,this];simp;omega
 .have O:(hget (BK a.1 []) j).isSome=false:=by rw[Hk];exact λe=>c (h.1 e)
  rw[Option.isSome_or,O,Dv];simp only[hget];by_cases z:j=4
  .subst z;simp
  .rw[AC _ _ (λe=>z e.symm)];simp;omega
def Yc(O:MM->Int)(e:Option MM)(z:MM)(C n:Nat):(tW O e z C n).length=n:=by simp[tW]
def Qaz6(O:MM->Int)(z:MM)(f:Af)(l:Cz)(n:Nat):(tE O z f l n).length=n:=by simp[tE]
def Ez(f:Af):An:=[(102,(true,.cells 124 [.ptr 2 0,.im (.int .i64 f.Inputs),.im (.sl false 2 (f.Cubes.map Ag.c)),.im (.sl false 1 (f.Sums.map BD)),.im (.int .i64 (AZ f:Nat)),.im (.int .i64 (Ao f:Nat))])),(1,(true,.cells 46 [.im (.sl true 0 []),.im (.sl true 0 []),.im (.sl true 0 []),.im (.int .i64 0)])),(0,(true,.cells 52 [.im (.int .i64 f.Inputs),.im (.sl false 2 (f.Cubes.map Ag.c)),.im (.sl false 1 (f.Sums.map BD))]))]
def fA{f:Af}{a:Nat}(h:a∈DF (Ez f)):a=102\/a=1\/a=0:=by
 simpa[Ez,DF] using h
structure Gm(h:HpT)(f:Af):Prop where
 a:h 102=some (true,.cells 124 [.ptr 2 0,.im (.int .i64 f.Inputs),.im (.sl false 2 (f.Cubes.map Ag.c)),.im (.sl false 1 (f.Sums.map BD)),.im (.int .i64 (AZ f:Nat)),.im (.int .i64 (Ao f:Nat))])
 b:h 1=some (true,.cells 46 [.im (.sl true 0 []),.im (.sl true 0 []),.im (.sl true 0 []),.im (.int .i64 0)])
 c:h 0=some (true,.cells 52 [.im (.int .i64 f.Inputs),.im (.sl false 2 (f.Cubes.map Ag.c)),.im (.sl false 1 (f.Sums.map BD))])
def Gm.mono{h h':HpT}{f:Af}{nx Tn:Nat}(F:Gm h f)(z: ∀m,m<nx->m≠2->m≠Tn->h' m=h m)(O:102<nx)(Q:102<Tn):Gm h' f:=
 ⟨by rw[z 102 O auOm auOm];exact F.a,by rw[z 1 auOm auOm auOm];exact F.b,by rw[z 0 auOm auOm auOm];exact F.c⟩
def HJ(b:Nat)(f:Af)(G:List Ac)(t:List Tile)(O:103<b):DY (hget (FC 2 103 5 b G t (Ez f))) 2 103 b 5 (λq=>b+1+q) G t:=
 st_at auDe auOm λa z=>by rcases fA z with rfl|rfl|rfl<;>omega
def LG(x b:Nat)(e:Ap)(f:Af)(G:List Ac)(t:List Tile)(z:103<b)(O:b+1+t.length<=x):DY (hget ((x,e)::FC 2 103 5 b G t (Ez f))) 2 103 b 5 (λq=>b+1+q) G t:=
 DY.put (HJ b f G t z) auOm λq hq=>auOm
def GK(b n nx:Nat)(z:103<b)(hn:b+1+n<=nx):EL 2 103 b 5 (λq=>b+1+q) n nx:=st_nm auDe auOm hn
def GX(b:Nat)(f:Af)(G:List Ac)(t:List Tile)(hb:103<b):Gm (hget (FC 2 103 5 b G t (Ez f))) f:=by
 have e: ∀m,m≠2->m≠103->m≠5->m≠b->hget (FC 2 103 5 b G t (Ez f)) m=hget (Ez f++AH (b+1) t.length (BX t)) m:=λm z O Q Z=>by
  simp only[FC,BZ,hget,AC _ _ (λe=>z e.symm:2≠m),AC _ _ (λe=>O e.symm:103≠m),AC _ _ (λe=>Q e.symm:5≠m),AC _ _ (λe=>Z e.symm:b≠m),Dw]
 exact⟨by rw[e 102 auDe auDe auDe auOm];rfl,by rw[e 1 auDe auDe auDe auOm];rfl,by rw[e 0 auDe auDe auDe auOm];rfl⟩
def Gq{f:Af}{G:List Ac}{t:List Tile}{Tn b nx lo ns:Nat}{N:Nat->Nat}{tm:TmT}{s:Az}(Q:lo<=b)(hb:103<b)(aa:103<Tn)(O: ∀q,q<t.length->1000<=N q)(S:EL 2 103 Tn 5 N t.length ns)(K:DY (hget s.h) 2 103 Tn 5 N G t)(F:Gm (hget s.h) f)
 (Z:EQ (Fa b Tn t.length N) s tm):AB lo (Fa b Tn t.length N) s ⟨tm,FC 2 103 5 b G t (Ez f),nx⟩:=by
 refine oG K S Q auOm (λa ha=>by rcases fA ha with rfl|rfl|rfl<;>omega) (by simp[Ez,DF]) O Z ?_;have p0:pm (Fa b Tn t.length N) 0=some 0:=DJ auOm;have p1:pm (Fa b Tn t.length N) 1=some 1:=DJ auOm;have p2:pm (Fa b Tn t.length N) 2=some 2:=DJ auOm;have z:pm (Fa b Tn t.length N) 102=some 102:=DJ auOm;simp only[Ez,F6,p0,p1,z,Ci,F.a,F.b,F.c,D9,Df,Dl,mt,p2,Hh,Ly]
structure FsT(f:Af)(l:Cz)(G:List Ac)(T1 T2 T3:Nat->List Tile)(T4:Nat->Nat->List Tile)(T5:Nat->Nat->Nat->List Tile):Prop where
 z1:T1 0=[Kt (Ax G) ⟨#[45]⟩]
 s1: ∀k:Nat,T1 k++[⟨wN k,[wN (k+1),pN k 0 1,wN k,⟨#[45]⟩].map (Ax G)⟩]=T1 (k+1)
 l1: ∀k,k<=AZ f->(T1 k).length<=160
 z2:T2 0=T1 (AZ f)
 s2: ∀(c:Nat) (x:Int),(c:Int)<f.Inputs->l[c]? =some x->T2 c++[⟨eN c,[Bd ⟨#[98]⟩ x,eN (c+1),⟨#[45]⟩,eN c].map (Ax G)⟩]=T2 (c+1)
 t2: ∀c:Nat,¬(c:Int)<f.Inputs->T2 c++[⟨eN c,[⟨#[111,48]⟩,eN (c+1),⟨#[45]⟩,eN c].map (Ax G)⟩]=T2 (c+1)
 l2: ∀c,c<=Ao f->(T2 c).length<=160
 z3:T3 0=T2 (Ao f)
 l3: ∀k,k<=AZ f->(T3 k).length<=160
 z4: ∀k,T4 k 0=T3 k
 e4: ∀k,T4 k (Ao f)=T3 (k+1)
 l4: ∀k c,k<AZ f->c<=Ao f->(T4 k c).length<=160
 z5: ∀k c,T5 k c 0=T4 k c
 s5: ∀k c v d:Nat,v<2->d<2->T5 k c (2*v+d)++[En (Ax G) none f (Ao f) k c v d]=T5 k c (2*v+(d+1))
 e5: ∀k c,T5 k c (2*2)=T4 k (c+1)
 l5: ∀k c n,k<AZ f->c<Ao f->(T5 k c n).length<=160
 e:T3 (AZ f)=Jk f l
def fsT_ex{f:Af}{l:Cz}{G:List Ac}(hG:G=D3 (AZ f) (Ao f))(hL:(Jk f l).length<=160): ∃T1 T2 T3 T4 T5,FsT f l G T1 T2 T3 T4 T5:=by
 have hL:1+AZ f+Ao f+AZ f*(4*Ao f)<=160:=by
  have:(Jk f l).length=1+AZ f+Ao f+AZ f*(4*Ao f):=Qa0g ..
  omega
 have hq: ∀k,k<=AZ f->k*(4*Ao f)<=AZ f*(4*Ao f):=λk z=>Iv _ z
 have hB: ∀k,([Kt (Ax G) ⟨#[45]⟩]++tW (Ax G) none ⟨#[45]⟩ (Ao f) k).length=1+k:=λk=>by simp only[BR,Yc,Em,Ed]
 have Z: ∀k c,k<AZ f->c<=Ao f->k*(4*Ao f)+4*c<=AZ f*(4*Ao f):=λk c z O=>by
  have:=hq (k+1) z
  rw[HQ,Pl] at this;omega
 refine⟨λk=>[Kt (Ax G) ⟨#[45]⟩]++tW (Ax G) none ⟨#[45]⟩ (Ao f) k,λc=>[Kt (Ax G) ⟨#[45]⟩]++tW (Ax G) none ⟨#[45]⟩ (Ao f) (AZ f)++tE (Ax G) ⟨#[45]⟩ f l c,λk=>[Kt (Ax G) ⟨#[45]⟩]++tW (Ax G) none ⟨#[45]⟩ (Ao f) (AZ f)++tE (Ax G) ⟨#[45]⟩ f l (Ao f)++AT (Ax G) none f (Ao f) k,
  λk c=>[Kt (Ax G) ⟨#[45]⟩]++tW (Ax G) none ⟨#[45]⟩ (Ao f) (AZ f)++tE (Ax G) ⟨#[45]⟩ f l (Ao f)++AT (Ax G) none f (Ao f) k++Bc (Ax G) none f (Ao f) k c,λk c n=>[Kt (Ax G) ⟨#[45]⟩]++tW (Ax G) none ⟨#[45]⟩ (Ao f) (AZ f)++tE (Ax G) ⟨#[45]⟩ f l (Ao f)++AT (Ax G) none f (Ao f) k++Bc (Ax G) none f (Ao f) k c++Bl (Ax G) none f (Ao f) k c n,?_⟩
 refine⟨rfl,λk=> ?_,λk z=> ?_,by simp[tE],λc x Q hx=> ?_,λc Q=> ?_,λc O=> ?_,by simp[AT],λk z=> ?_,λk=>by simp[Bc],λk=> ?_,λk c z O=> ?_,λk c=>by simp[Bl],λk c v d hv hd=> ?_,λk c=> ?_,λk c n z O=> ?_,by rw[hG];rfl⟩
 .rw[Oj,<-Gk];rfl
 .rw[hB];omega
 .rw[Yd,<-Gk];simp only[LP];rw[Bt Q,hx];rfl
 .rw[Yd,<-Gk];simp only[LP];rw[Be Q,<-LR];rfl
 .simp only[BR,Yc,Qaz6,Em,Ed];omega
 .have:=hq k z
  simp only[BR,Yc,Qaz6,I9,Em,Ed];omega
 .rw[iL,<-Gk]
 .have:=Z k c z O
  simp only[BR,Yc,Qaz6,I9,OQ,Em,Ed];omega
 .rw[<-Rj,iK _ _ _ _ _ _ hv hd,<-Gk]
 .rw[iM,<-Gk]
 .have:=Z k (c+1) z O
  have:=Oi (Ax G) none f (Ao f) k c n
  simp only[BR,Yc,Qaz6,I9,OQ,Em,Ed];omega
def fs_tw{f:Af}{G:List Ac}{t:List Tile}{nm:MM}{l:List MM}{tm:TmT}{dst:Option Nat}{go:IY}{cl:List (List Nat)}{i:Nat}{acc:List Fp}(b:Nat)(t':List Tile)(Q:103<b)(hl:t.length<=160)(aa:l.length<=100)(hs:t++[(⟨nm,l.map (Ax G)⟩:Tile)]=t')(O:(acc.all λf=>D0 cl f.i i)=true)
 (Z: ∀(u v:List Nat) (z:An),DY (hget z) 2 103 (b+201+3) 5 (FN (λq=>b+1+q) t.length (b+201+1)) G t'->EL 2 103 (b+201+3) 5 (FN (λq=>b+1+q) t.length (b+201+1)) t'.length (b+201+20)->Gm (hget z) f->go (⟨i,u,v,b+201,20⟩::acc) ((⟨tm,z,b+201+20⟩:Az).put dst (.im (.int .i64 t.length)))):
 mfC.row [.ptr 2 0,.im (.str nm),.own (b+200)] (hget ((b+200,(true,.arr 9 1 (l.map FD)))::FC 2 103 5 b G t (Ez f))) (b+201) (FT cl i acc go ⟨tm,(b+200,(true,.arr 9 1 (l.map FD)))::FC 2 103 5 b G t (Ez f),b+201⟩ dst):=by
 refine IB (g:=G) (t:=t) (M:=2) (Gn:=103) (Tn:=b) (Pn:=5) (Ln:=b+200) (N:=λq=>b+1+q) (l:=l) auOm aa (LG _ b _ f G t Q auOm) (GK b t.length (b+201) Q auOm) (by simp[hget]) auOm (λq hq=>auOm) O λu v z K S hk=> ?_
 rw[hs] at K S;exact Z u v z K S (Gm.mono (h:=hget (FC 2 103 5 b G t (Ez f))) (nx:=b+200) (Tn:=b) (GX b f G t Q) (λm h1 h2 h3=>(hk m auOm h2 h3).trans (by simp only[hget,AC _ _ (show b+200≠m by omega),Dw])) auOm auOm)
def fsyC.ok:AE 34 fsyC.row:=by
 refine ow (tC nfC.ok (tC fglC.ok (tC mfR.ok (tC celC.ok (tC numd_.ok (tC pdK.ok tN)))))) Tryz.func34 (exB:=λj=>Nat.ble 2 j) (R:=λ_ r=>r=fsyC.r0) (λ_=>rfl)
  (λa=>by simp[fsyC.ca,Af.c,A9,AV.bel,Ar,B5,Ca]) (λa p hp=> ?_) LeVq ?_
 rotate_left
 intro a ag;simp only[Tryz.f34,fsyC.ca,Af.c];simp(maxSteps:=9^9)(disch:=omega)only[ZA,simprocAttr];rotate_left
 .have hm:min (Jk a.1 a.2).length 180<=180:=L4 _ _;simp only[fsyC.H1,B0,AH,BY,AU] at hp;rcases hp with rfl|rfl|rfl|⟨i,Z,rfl⟩
  .exact .inr ⟨auOm,by simp only;omega,rfl,rfl⟩
  .exact .inr ⟨auOm,by simp only;omega,rfl,rfl⟩
  .exact .inr ⟨auOm,by simp only;omega,rfl,rfl⟩
  .exact .inr ⟨by simp only;omega,by simp only;omega,by simp only[Jf];omega,rfl⟩
 obtain⟨f,l⟩:=a;obtain⟨hK,hb,ac⟩:=ag;simp only at hK hb ac⊢;obtain⟨h1,h2,h3⟩:=hK;have ah: ∀x∈l,0<=x/\x<=1:=λx hx=>by
  simp only[EV,B1,CF] at hb;simpa[B7] using hb.2 x hx
 have ax:(l.length:Int)=f.Inputs:=by
  simp only[EV,B1,CK] at hb;exact hb.1
 refine A7.os f [] ⟨h1,h2,h3⟩ (λj=>by simp[Ai,hget]) rfl rfl ?_ ?_
 .simp(maxSteps:=9^9)(disch:=omega)only[ZA,simprocAttr,Af.c,nfC.ca,Af.c,Du]
  try exact⟨rfl,rfl⟩
 simp(maxSteps:=9^9)(disch:=omega)only[ZA,simprocAttr,BK,C8];refine A7.os f [2,3,4,5] ⟨h1,h2,h3⟩ (λj=>La _ _ j) rfl rfl ?_ ?_
 .simp(maxSteps:=9^9)(disch:=omega)only[ZA,simprocAttr,Aq,fglC.ca,fglC.H0,C8,BK,BF,CA]
  try exact⟨rfl,rfl⟩
 simp(maxSteps:=9^9)(disch:=omega)only[ZA,simprocAttr,Aq,fglC.H1,B9,BF,CA];simp only[W8,Tj];obtain⟨G,hG⟩: ∃G,G=D3 (AZ f) (Ao f):=⟨_,rfl⟩;obtain⟨T1,T2,T3,T4,T5,H⟩:=fsT_ex hG ac;have aw:2<=Ao f/\Ao f<=7:=by simp only[Ao];omega
 have au:AZ f<=81:=h3;simp only[<-hG];have av:(T1 0).length=1:=by rw[H.z1];rfl
 have S0:EL 2 103 1107 5 (λ_=>1105) (T1 0).length 1124:=⟨auDe,auDe,λq hq=>auDe,λa b ha hb _=>auOm⟩;have zw:(⟨#[119]⟩:MM).size=1:=rfl;have ze:(⟨#[101]⟩:MM).size=1:=rfl;have zb:(⟨#[98]⟩:MM).size=1:=rfl;refine .inl (A7.os ((G,(⟨#[99,111,114,110,101,114]⟩:MM),[wN 0,eN 0,⟨#[45]⟩,⟨#[45]⟩]):List Ac×MM×List MM) [2,103,4,5,1103] auSi (λj=>ZL _ j) rfl rfl ?_ ?_)
 .simp(maxSteps:=9^9)(disch:=omega)only[ZA,simprocAttr,Aq,mf0C.ca,mf0C.H0,BK,BF,CA,FD]
  try exact⟨rfl,rfl⟩
 simp(maxSteps:=9^9)(disch:=omega)only[ZA,simprocAttr,Aq,mf0C.H1,Bq,BF,CA];refine⟨by simp[A9,AV.bel],?_⟩;have z: ∀i:Nat,i<=AZ f->(T1 i).length<=160:=λi Z=>H.l1 i Z
 refine AY.ren ⟨{k:Nat//k<=AZ f},λk=>⟨[(24,.im (.int .i64 k.1)),(23,.im (.int .i64 (AZ f:Nat))),(6,.im (.int .i64 0)),(5,.ptr 102 0),(4,.ptr 1 0),(2,.ptr 0 0),(1,.im (.sl false 1 (l.map Aj)))],FC 2 103 5 2000 G (T1 k.1) (Ez f),2200⟩,λk=>AZ f - k.1,λk=>⟨OP auDe (by have:=z k.1 k.2;omega) (by simp[Cl,AV.bel]) (by simp[Ez,Ar,A9,AV.bel]) (by simp[Ez,B5]),auSi⟩,⟨⟨0,Ir _⟩,Fa 2000 1107 (T1 0).length (λ_=>1105),?_⟩,λk=> ?_⟩
 .show AB 1124 _ _ _;refine Gq (f:=f) (G:=G) (t:=T1 0) (b:=2000) (Tn:=1107) (N:=(λ_=>1105)) auOm auDe auDe (λq _=>auDe) (S0) ?_ ?_ ?_
  .rw[H.z1];exact⟨rfl,rfl,rfl,rfl,λq hq=>by rw[show q=0 by simpa using hq];rfl⟩
  .exact⟨rfl,rfl,rfl⟩
  .simp only[EQ];simp(maxSteps:=9^9)(disch:=omega)only[ZA,simprocAttr,DJ]
 obtain⟨k,hk⟩:=k;have am:=z k hk;have ab:IntKind.i64.wrap ((k:Int)+1)=((k+1:Nat):Int):=by rw[AG auOm auOm];omega
 simp only[FC,Ez,BZ,E5];simp(maxSteps:=9^9)(disch:=omega)only[ZA,simprocAttr,Aa,numd_.q,numd_.fv,pdK.q,pdK.fv,AL,ab,zw,Bb];refine⟨λQ=>⟨auOm,auOm,auOm,auOm,?_⟩,λQ=> ?_⟩
 .have ad:=z (k+1) Q;refine .inr (fs_tw (f:=f) (G:=G) (t:=T1 k) (l:=[Bd ⟨#[119]⟩ ((k+1:Nat):Int),BJ (k:Nat) 0 1,Bd ⟨#[119]⟩ (k:Nat),⟨#[45]⟩]) 2000 (T1 (k+1)) auDe auOm auSi (H.s1 k) rfl λu w HH K S F=> ?_);simp(maxSteps:=9^9)(disch:=omega)only[ZA,simprocAttr,ab,Bb];refine⟨⟨k+1,auOm⟩,Fa 2000 (2201+3) (T1 (k+1)).length (FN (λq=>2000+1+q) (T1 k).length (2201+1)),by simp only;omega,?_⟩;refine Gq (f:=f) (G:=G) (t:=T1 (k+1)) (b:=2000) (Tn:=2201+3) (N:=FN (λq=>2000+1+q) (T1 k).length (2201+1)) auOm auDe auDe (λq _=>by simp only[FN];split<;>omega) (S) ?_ ?_ ?_
  .exact K
  .exact F
  .simp only[EQ];simp(maxSteps:=9^9)(disch:=omega)only[ZA,simprocAttr,DJ]
 obtain rfl:k=AZ f:=auOm;clear z ab hk Q;have z: ∀i:Nat,i<=Ao f->(T2 i).length<=160:=λi Z=>H.l2 i Z
 refine AY.ren ⟨{c:Nat//c<=Ao f},λc=>⟨[(43,.im (.int .i64 c.1)),(42,.im (.int .i64 (Ao f:Nat))),(6,.im (.int .i64 0)),(5,.ptr 102 0),(4,.ptr 1 0),(2,.ptr 0 0),(1,.im (.sl false 1 (l.map Aj)))],FC 2 103 5 3000 G (T2 c.1) (Ez f),3200⟩,λc=>Ao f - c.1,λc=>⟨OP auDe (by have:=z c.1 c.2;omega) (by simp[Cl,AV.bel]) (by simp[Ez,Ar,A9,AV.bel]) (by simp[Ez,B5]),auSi⟩,⟨⟨0,Ir _⟩,Fa 3000 2000 (T1 (AZ f)).length (λq=>2000+1+q),?_⟩,λc=> ?_⟩
 .simp only[H.z2];refine Gq (f:=f) (G:=G) (t:=T1 (AZ f)) (b:=3000) (Tn:=2000) (N:=(λq=>2000+1+q)) auOm auDe auDe (λq hq=>auOm) (GK 2000 (T1 (AZ f)).length 2200 auDe auOm) ?_ ?_ ?_
  .exact HJ 2000 f G (T1 (AZ f)) auDe
  .exact GX 2000 f G (T1 (AZ f)) auDe
  .simp only[EQ];simp(maxSteps:=9^9)(disch:=omega)only[ZA,simprocAttr,DJ]
 obtain⟨c,hc⟩:=c;have ak:=z c hc;have aa:IntKind.i64.wrap ((c:Int)+1)=((c+1:Nat):Int):=by rw[AG auOm auOm];omega
 simp only[FC,Ez,BZ,E5];simp(maxSteps:=9^9)(disch:=omega)only[ZA,simprocAttr,Aa,numd_.q,numd_.fv,AL,aa,ze,zb,Bb];refine⟨λO=>⟨λZ=>⟨auOm,λx hx=>⟨by have:=ah x (Bj hx);omega,auOm,auOm,auOm,?_⟩⟩,λZ=>⟨auOm,auOm,auOm,?_⟩⟩,λO=> ?_⟩
 .have ad:=z (c+1) O;refine .inr (fs_tw (f:=f) (G:=G) (t:=T2 c) (l:=[Bd ⟨#[98]⟩ x,Bd ⟨#[101]⟩ ((c+1:Nat):Int),⟨#[45]⟩,Bd ⟨#[101]⟩ (c:Nat)]) 3000 (T2 (c+1)) auDe auOm auSi (H.s2 c x Z hx) rfl λu w HH K S F=> ?_);simp(maxSteps:=9^9)(disch:=omega)only[ZA,simprocAttr,aa,Bb];refine⟨⟨c+1,auOm⟩,Fa 3000 (3201+3) (T2 (c+1)).length (FN (λq=>3000+1+q) (T2 c).length (3201+1)),by simp only;omega,?_⟩;refine Gq (f:=f) (G:=G) (t:=T2 (c+1)) (b:=3000) (Tn:=3201+3) (N:=FN (λq=>3000+1+q) (T2 c).length (3201+1)) auOm auDe auDe (λq _=>by simp only[FN];split<;>omega) (S) ?_ ?_ ?_
  .exact K
  .exact F
  .simp only[EQ];simp(maxSteps:=9^9)(disch:=omega)only[ZA,simprocAttr,DJ]
 .have ad:=z (c+1) O;refine .inr (fs_tw (f:=f) (G:=G) (t:=T2 c) (l:=[⟨#[111,48]⟩,Bd ⟨#[101]⟩ ((c+1:Nat):Int),⟨#[45]⟩,Bd ⟨#[101]⟩ (c:Nat)]) 3000 (T2 (c+1)) auDe auOm auSi (H.t2 c Z) rfl λu w HH K S F=> ?_);simp(maxSteps:=9^9)(disch:=omega)only[ZA,simprocAttr,aa,Bb];refine⟨⟨c+1,auOm⟩,Fa 3000 (3201+3) (T2 (c+1)).length (FN (λq=>3000+1+q) (T2 c).length (3201+1)),by simp only;omega,?_⟩;refine Gq (f:=f) (G:=G) (t:=T2 (c+1)) (b:=3000) (Tn:=3201+3) (N:=FN (λq=>3000+1+q) (T2 c).length (3201+1)) auOm auDe auDe (λq _=>by simp only[FN];split<;>omega) (S) ?_ ?_ ?_
  .exact K
  .exact F
  .simp only[EQ];simp(maxSteps:=9^9)(disch:=omega)only[ZA,simprocAttr,DJ]
 obtain rfl:c=Ao f:=auOm;clear z aa hc O;have z: ∀i:Nat,i<=AZ f->(T3 i).length<=160:=λi Z=>H.l3 i Z
 refine AY.ren ⟨{k:Nat//k<=AZ f},λk=>⟨[(70,.im (.int .i64 k.1)),(69,.im (.int .i64 (AZ f:Nat))),(6,.im (.int .i64 0)),(5,.ptr 102 0),(4,.ptr 1 0),(2,.ptr 0 0),(1,.im (.sl false 1 (l.map Aj)))],FC 2 103 5 4000 G (T3 k.1) (Ez f),4200⟩,λk=>AZ f - k.1,λk=>⟨OP auDe (by have:=z k.1 k.2;omega) (by simp[Cl,AV.bel]) (by simp[Ez,Ar,A9,AV.bel]) (by simp[Ez,B5]),auSi⟩,⟨⟨0,Ir _⟩,Fa 4000 3000 (T2 (Ao f)).length (λq=>3000+1+q),?_⟩,λk=> ?_⟩
 .simp only[H.z3];refine Gq (f:=f) (G:=G) (t:=T2 (Ao f)) (b:=4000) (Tn:=3000) (N:=(λq=>3000+1+q)) auOm auDe auDe (λq hq=>auOm) (GK 3000 (T2 (Ao f)).length 3200 auDe auOm) ?_ ?_ ?_
  .exact HJ 3000 f G (T2 (Ao f)) auDe
  .exact GX 3000 f G (T2 (Ao f)) auDe
  .simp only[EQ];simp(maxSteps:=9^9)(disch:=omega)only[ZA,simprocAttr,DJ]
 obtain⟨k,hk⟩:=k;have am:=z k hk;have ab:IntKind.i64.wrap ((k:Int)+1)=((k+1:Nat):Int):=by rw[AG auOm auOm];omega
 simp only[FC,Ez,BZ,E5];simp(maxSteps:=9^9)(disch:=omega)only[ZA,simprocAttr,AL,Bb,EN];refine⟨λQ=> ?_,λQ=> ?_⟩
 .skip
  have z: ∀i:Nat,i<=Ao f->(T4 k i).length<=160:=λi Z=>H.l4 k i Q Z
  refine AY.ren ⟨{c:Nat//c<=Ao f},λc=>⟨[(75,.im (.int .i64 c.1)),(74,.im (.int .i64 (Ao f:Nat))),(10,.im (.int .i64 k)),(70,.im (.int .i64 k)),(69,.im (.int .i64 (AZ f:Nat))),(6,.im (.int .i64 0)),(5,.ptr 102 0),(4,.ptr 1 0),(2,.ptr 0 0),(1,.im (.sl false 1 (l.map Aj)))],FC 2 103 5 5000 G (T4 k c.1) (Ez f),5200⟩,λc=>Ao f - c.1,λc=>⟨OP auDe (by have:=z c.1 c.2;omega) (by simp[Cl,AV.bel]) (by simp[Ez,Ar,A9,AV.bel]) (by simp[Ez,B5]),auSi⟩,⟨⟨0,Ir _⟩,Fa 5000 4000 (T3 k).length (λq=>4000+1+q),?_⟩,λc=> ?_⟩
  .simp only[H.z4];refine Gq (f:=f) (G:=G) (t:=T3 k) (b:=5000) (Tn:=4000) (N:=(λq=>4000+1+q)) auOm auDe auDe (λq hq=>auOm) (GK 4000 (T3 k).length 4200 auDe auOm) ?_ ?_ ?_
   .exact HJ 4000 f G (T3 k) auDe
   .exact GX 4000 f G (T3 k) auDe
   .simp only[EQ];simp(maxSteps:=9^9)(disch:=omega)only[ZA,simprocAttr,DJ]
  obtain⟨c,hc⟩:=c;have ak:=z c hc;have aa:IntKind.i64.wrap ((c:Int)+1)=((c+1:Nat):Int):=by rw[AG auOm auOm];omega
  simp only[FC,Ez,BZ,E5];simp(maxSteps:=9^9)(disch:=omega)only[ZA,simprocAttr,AL,Bb];refine⟨λO=> ?_,λO=> ?_⟩
  .skip
   have z: ∀i:Nat,i<=2->(T5 k c (2*i)).length<=160:=λi Z=>H.l5 k c _ Q O
   refine AY.ren ⟨{v:Nat//v<=2},λv=>⟨[(78,.im (.int .i64 v.1)),(11,.im (.int .i64 c)),(75,.im (.int .i64 c)),(74,.im (.int .i64 (Ao f:Nat))),(10,.im (.int .i64 k)),(70,.im (.int .i64 k)),(69,.im (.int .i64 (AZ f:Nat))),(6,.im (.int .i64 0)),(5,.ptr 102 0),(4,.ptr 1 0),(2,.ptr 0 0),(1,.im (.sl false 1 (l.map Aj)))],FC 2 103 5 6000 G (T5 k c (2*v.1)) (Ez f),6200⟩,λv=>2 - v.1,λv=>⟨OP auDe (by have:=z v.1 v.2;omega) (by simp[Cl,AV.bel]) (by simp[Ez,Ar,A9,AV.bel]) (by simp[Ez,B5]),auSi⟩,⟨⟨0,Ir _⟩,Fa 6000 5000 (T4 k c).length (λq=>5000+1+q),?_⟩,λv=> ?_⟩
   .simp only[Nat.mul_zero,H.z5];refine Gq (f:=f) (G:=G) (t:=T4 k c) (b:=6000) (Tn:=5000) (N:=(λq=>5000+1+q)) auOm auDe auDe (λq hq=>auOm) (GK 5000 (T4 k c).length 5200 auDe auOm) ?_ ?_ ?_
    .exact HJ 5000 f G (T4 k c) auDe
    .exact GX 5000 f G (T4 k c) auDe
    .simp only[EQ];simp(maxSteps:=9^9)(disch:=omega)only[ZA,simprocAttr,DJ]
   obtain⟨v,hv⟩:=v;have az:=z v hv;have aq:IntKind.i64.wrap ((v:Int)+1)=((v+1:Nat):Int):=by rw[AG auOm auOm];omega
   simp only[FC,Ez,BZ,E5];simp(maxSteps:=9^9)(disch:=omega)only[ZA,simprocAttr,AL,Bb];refine⟨λan=> ?_,λan=> ?_⟩
   .skip
    have z: ∀i:Nat,i<=2->(T5 k c (2*v+i)).length<=160:=λi Z=>H.l5 k c _ Q O
    refine AY.ren ⟨{d:Nat//d<=2},λd=>⟨[(81,.im (.int .i64 d.1)),(12,.im (.int .i64 v)),(78,.im (.int .i64 v)),(11,.im (.int .i64 c)),(75,.im (.int .i64 c)),(74,.im (.int .i64 (Ao f:Nat))),(10,.im (.int .i64 k)),(70,.im (.int .i64 k)),(69,.im (.int .i64 (AZ f:Nat))),(6,.im (.int .i64 0)),(5,.ptr 102 0),(4,.ptr 1 0),(2,.ptr 0 0),(1,.im (.sl false 1 (l.map Aj)))],FC 2 103 5 7000 G (T5 k c (2*v+d.1)) (Ez f),7200⟩,λd=>2 - d.1,λd=>⟨OP auDe (by have:=z d.1 d.2;omega) (by simp[Cl,AV.bel]) (by simp[Ez,Ar,A9,AV.bel]) (by simp[Ez,B5]),auSi⟩,⟨⟨0,Ir _⟩,Fa 7000 6000 (T5 k c (2*v)).length (λq=>6000+1+q),?_⟩,λd=> ?_⟩
    .simp only[lC];refine Gq (f:=f) (G:=G) (t:=T5 k c (2*v)) (b:=7000) (Tn:=6000) (N:=(λq=>6000+1+q)) auOm auDe auDe (λq hq=>auOm) (GK 6000 (T5 k c (2*v)).length 6200 auDe auOm) ?_ ?_ ?_
     .exact HJ 6000 f G (T5 k c (2*v)) auDe
     .exact GX 6000 f G (T5 k c (2*v)) auDe
     .simp only[EQ];simp(maxSteps:=9^9)(disch:=omega)only[ZA,simprocAttr,DJ]
    obtain⟨d,hd⟩:=d;have ay:=z d hd;have aj:IntKind.i64.wrap ((d:Int)+1)=((d+1:Nat):Int):=by rw[AG auOm auOm];omega
    simp only[FC,Ez,BZ,E5];simp(maxSteps:=9^9)(disch:=omega)only[ZA,simprocAttr,AL,Bb];refine⟨λai=> ?_,λai=> ?_⟩
    .have ad:=z (d+1) auOm;refine lU (g:=G) (t:=T5 k c (2*v+d)) (f:=f) (k:=k) (c:=c) (v:=v) (d:=d) (M:=2) (Gn:=103) (Tn:=7000) (Pn:=5) (N:=(λq=>7000+1+q)) auOm ⟨⟨h1,h2,h3⟩,Q,O,by simp only;omega,by simp only;omega⟩ ?_ (GK 7000 (T5 k c (2*v+d)).length 7200 auDe auOm) λHH K S hk=> ?_
     .exact HJ 7000 f G (T5 k c (2*v+d)) auDe
     rw[H.s5 k c v d auOm auOm] at K S;have F:Gm (hget HH) f:=Gm.mono (h:=hget (FC 2 103 5 7000 G (T5 k c (2*v+d)) (Ez f))) (nx:=7200) (Tn:=7000) (GX 7000 f G (T5 k c (2*v+d)) auDe) hk auDe auDe;simp(maxSteps:=9^9)(disch:=omega)only[ZA,simprocAttr,aj,Bb];refine⟨⟨d+1,auOm⟩,Fa 7000 (7200+3) (T5 k c (2*v+(d+1))).length (FN (λq=>7000+1+q) (T5 k c (2*v+d)).length (7200+1)),by simp only;omega,?_⟩;refine Gq (f:=f) (G:=G) (t:=T5 k c (2*v+(d+1))) (b:=7000) (Tn:=7200+3) (N:=FN (λq=>7000+1+q) (T5 k c (2*v+d)).length (7200+1)) auOm auDe auDe (λq _=>by simp only[FN];split<;>omega) (S) ?_ ?_ ?_
     .exact K
     .exact F
     .simp only[EQ];simp(maxSteps:=9^9)(disch:=omega)only[ZA,simprocAttr,DJ]
    .obtain rfl:d=2:=auOm;have ao:2*(v+1)=2*v+2:=auOm;refine⟨⟨v+1,auOm⟩,Fa 6000 7000 (T5 k c (2*v+2)).length (λq=>7000+1+q),by simp only;omega,?_⟩;simp only[aq,ao];refine Gq (f:=f) (G:=G) (t:=T5 k c (2*v+2)) (b:=6000) (Tn:=7000) (N:=(λq=>7000+1+q)) auOm auDe auDe (λq hq=>auOm) (GK 7000 (T5 k c (2*v+2)).length 7200 auDe auOm) ?_ ?_ ?_
     .exact HJ 7000 f G (T5 k c (2*v+2)) auDe
     .exact GX 7000 f G (T5 k c (2*v+2)) auDe
     .simp only[EQ];simp(maxSteps:=9^9)(disch:=omega)only[ZA,simprocAttr,DJ]
   .obtain rfl:v=2:=auOm;refine⟨⟨c+1,auOm⟩,Fa 5000 6000 (T5 k c (2*2)).length (λq=>6000+1+q),by simp only;omega,?_⟩;simp only[aa,<-H.e5];refine Gq (f:=f) (G:=G) (t:=T5 k c (2*2)) (b:=5000) (Tn:=6000) (N:=(λq=>6000+1+q)) auOm auDe auDe (λq hq=>auOm) (GK 6000 (T5 k c (2*2)).length 6200 auDe auOm) ?_ ?_ ?_
    .exact HJ 6000 f G (T5 k c (2*2)) auDe
    .exact GX 6000 f G (T5 k c (2*2)) auDe
    .simp only[EQ];simp(maxSteps:=9^9)(disch:=omega)only[ZA,simprocAttr,DJ]
  .obtain rfl:c=Ao f:=auOm;refine⟨⟨k+1,auOm⟩,Fa 4000 5000 (T4 k (Ao f)).length (λq=>5000+1+q),by simp only;omega,?_⟩;simp only[ab,<-H.e4];refine Gq (f:=f) (G:=G) (t:=T4 k (Ao f)) (b:=4000) (Tn:=5000) (N:=(λq=>5000+1+q)) auOm auDe auDe (λq hq=>auOm) (GK 5000 (T4 k (Ao f)).length 5200 auDe auOm) ?_ ?_ ?_
   .exact HJ 5000 f G (T4 k (Ao f)) auDe
   .exact GX 5000 f G (T4 k (Ao f)) auDe
   .simp only[EQ];simp(maxSteps:=9^9)(disch:=omega)only[ZA,simprocAttr,DJ]
 obtain rfl:k=AZ f:=auOm;simp only[H.e];have af:min (Jk f l).length 180=(Jk f l).length:=auOm;refine⟨rfl,?_⟩;simp only[fsyC.H1,E4,af,<-hG];refine⟨⟨rfl,rfl⟩,⟨rfl,?_⟩,⟨rfl,rfl⟩,GJ _ _ _ _ _ (λq hq=> ?_) (λq hq=>rfl)⟩
 .simp only[Cd];rw[OJ (λq hq=>RD auOm auOm)];rfl
 .simp only[hget,AC _ _ (show 1≠4001+q by omega),AC _ _ (show 4200≠4001+q by omega),AC _ _ (show 2≠4001+q by omega),AC _ _ (show 103≠4001+q by omega),AC _ _ (show 5≠4001+q by omega),AC _ _ (show 4000≠4001+q by omega),AC _ _ (show 102≠4001+q by omega),AC _ _ (show 0≠4001+q by omega),Dw];exact CY _ _ _ _ hq
def TE{f:Af}{l:Cz}(h:(Jk f l).length<=160): ∀p∈fsyC.H1 (f,l),p.1<5000/\ ∀m∈p.2.2.nms,m<5000:=by
 intro p hp;have hm:min (Jk f l).length 180<=180:=L4 _ _;simp only[fsyC.H1,B0,AH,BY,AU] at hp;rcases hp with rfl|rfl|rfl|⟨i,Q,rfl⟩
 .exact⟨by simp only;omega,by simp[Ad.nms]⟩
 .refine⟨by simp only;omega,λm hm=> ?_⟩;simp only[Ad.nms] at hm;obtain⟨r,O,hm⟩:=Fx.1 hm;obtain⟨j,z,rfl⟩:=BY.1 O
  have:=AU.1 z
  simp[Av,AV.nms] at hm;omega
 .exact⟨by simp only;omega,by simp[Ad.nms]⟩
 .exact⟨by simp only;omega,by simp[BX,Ad.nms]⟩
def TB{f:Af}{l:Cz}(z: ∀x∈l,0<=x):Jk f l=(Dc f l).Set.Tiles/\D3 (AZ f) (Ao f)=(Dc f l).Set.Glues:=by
 rw[<-mF f l z];exact⟨rfl,rfl⟩
def iQ(f:Af)(l:Cz):(Jk f l).length=1+AZ f+Ao f+AZ f*(4*Ao f):=Qa0g ..
def TC{f:Af}{l:Cz}(h:(Jk f l).length<=160)(hl: ∀x∈l,0<=x){nx:Nat}{O:An}(z: ∀j e,hget (fsyC.H1 (f,l)) j=some e->hget O (nx+j)=some (e.1,e.2.ren λj=>nx+j)):C7 (hget O) (nx+103) (nx+4000) (nx+4200) (nx+4001) (Dc f l):=by
 obtain⟨Q,e2⟩:=TB (f:=f) hl;have hm:min (Jk f l).length 180=(Jk f l).length:=auOm;have aa:(Dc f l).Set.Tiles.length<=160:=by rw[<-Q];exact h
 have hH:fsyC.H1 (f,l)=(103,(true,.arr 151 2 ((Dc f l).Set.Glues.map Ac.c)))::(4000,(true,.arrA 155 2 (Cx 4001 (Dc f l).Set.Tiles)))::(4200,(true,.arr 137 3 [AA.c ⟨⟨0,0⟩,0⟩]))::AH 4001 (Dc f l).Set.Tiles.length (BX (Dc f l).Set.Tiles):=by
  simp only[fsyC.H1,hm,e2];rw[Q]
 rw[hH] at z;refine⟨z 103 _ rfl,?_,z 4200 _ rfl,λi Z=> ?_⟩
 .rw[z 4000 _ rfl];simp only[Ad.ren];congr 3;simp only[Cx,GS];refine Iu λi Z=> ?_
  simp only[Function.comp,AN,AV.ren];rw[Rj]
 .have e:hget ((103,(true,Ad.arr 151 2 ((Dc f l).Set.Glues.map Ac.c)))::(4000,(true,.arrA 155 2 (Cx 4001 (Dc f l).Set.Tiles)))::(4200,(true,.arr 137 3 [AA.c ⟨⟨0,0⟩,0⟩]))::AH 4001 (Dc f l).Set.Tiles.length (BX (Dc f l).Set.Tiles):An) (4001+i)=some (BX (Dc f l).Set.Tiles i):=by
   simp only[hget,AC _ _ (show 103≠4001+i by omega),AC _ _ (show 4000≠4001+i by omega),AC _ _ (show 4200≠4001+i by omega),Dw];exact CY _ _ _ _ Z
  rw[Rj,z _ _ e];rfl
def Iz(g t p F:Nat)(s:AM):An:=(g,(true,.arr 151 2 (s.Set.Glues.map Ac.c)))::(t,(true,.arrA 155 2 (Cx F s.Set.Tiles)))::(p,(true,.arr 137 3 (s.Seed.Tiles.map AA.c)))::AH F (min s.Set.Tiles.length 180) (BX s.Set.Tiles)
def TU{h:HpT}{g t p F lo cnt:Nat}{s:AM}(S:C7 h g t p F s)(Q:s.Set.Tiles.length<=160)(z:lo<=F)(O:F+180<=cnt):E4 h (Bs h (Hl [] 0 cnt λj=>decide (lo<=j)) 9) (Iz g t p F s):=by
 have hm:min s.Set.Tiles.length 180=s.Set.Tiles.length:=auOm;simp only[Iz,E4,hm,S.g,S.t,S.p];refine⟨⟨rfl,rfl⟩,⟨rfl,?_⟩,⟨rfl,rfl⟩,GJ _ _ _ _ _ S.f λq hq=>rfl⟩;simp only[Cd];rw[OJ (λq hq=>RD auOm auOm)];rfl
def LH{g t p F:Nat}{s:AM}{q:Nat×Ap}(hq:q∈Iz g t p F s)(h:s.Set.Tiles.length<=160\/True):q.2.1=true/\(q.1=g\/q.1=t\/q.1=p\/(F<=q.1/\q.1<F+180)):=by
 have hm:min s.Set.Tiles.length 180<=180:=L4 _ _;simp only[Iz,B0,AH,BY,AU] at hq;rcases hq with rfl|rfl|rfl|⟨i,z,rfl⟩
 .exact⟨rfl,.inl rfl⟩
 .exact⟨rfl,.inr (.inl rfl)⟩
 .exact⟨rfl,.inr (.inr (.inl rfl))⟩
 .exact⟨rfl,.inr (.inr (.inr ⟨by simp only;omega,by simp only;omega⟩))⟩
def frmC.r0(a:Af×Cz):AV:=if Hv a.1 a.2=0 then .tup [.agg [.own 225,.own 4122,.own 4322,.im (.int .i64 2)],.im (.int .i64 0)] else .im (.tup [DU,.int .i64 (Hv a.1 a.2)])
def frmC.H1(a:Af×Cz):An:=if Hv a.1 a.2=0 then Iz 225 4122 4322 4123 (Dc a.1 a.2) else []
def frmC.row:A8:=A7 fsyC.ca (λ_=>[]) 0 (λa=>a.1.Cubes.length<=2000000) (λ_=>false) frmC.r0 frmC.H1 5000
def Ye{f:Af}{l:Cz}{c:Int}(h:Hv f l=c)(z:c≠0):frmC.r0 (f,l)= .im (.tup [DU,.int .i64 c])/\frmC.H1 (f,l)=[]:=by
 simp only[frmC.r0,frmC.H1,h];rw[Be z,Be z];exact⟨rfl,rfl⟩
def frmC.ok:AE 32 frmC.row:=by
 refine ow (tC vfK.ok (tC bitK.ok (tC nfC.ok (tC fmzC.ok (tC fsyC.ok tN))))) Tryz.func32 (exB:=λj=>Nat.ble 2 j) (R:=λa r=>r=frmC.r0 a) (λ_=>rfl)
  (λa=>by simp[fsyC.ca,Af.c,A9,AV.bel,Ar,B5,Ca]) (λa p hp=> ?_) LeVq ?_
 rotate_left
 intro a Z;simp only[Tryz.f32,fsyC.ca,Af.c];simp only[ZZ,simprocAttr,Aa,vfK.q,vfK.fv,bitK.q,bitK.fv,Af.c,Af.d,Af.eta,Ag.d_R];rotate_left
 .simp only[frmC.H1] at hp;split at hp
  .obtain⟨h1,h2⟩:=LH hp (.inr trivial);exact .inr ⟨auOm,auOm,by simp only[Jf];omega,h1⟩
  .cases hp
 obtain⟨f,l⟩:=a;simp only at Z⊢;refine⟨Z,?_⟩;by_cases c1:EX f=true
 case neg=>
  obtain⟨q1,q2⟩:=Ye (f:=f) (l:=l) (c:=1) (by simp only[Hv];rw[Be c1]) auDe;rw[Bt (by simpa using c1),q1,q2];exact⟨rfl,trivial⟩
 rw[Be (by simp[c1])];by_cases O:EV f.Inputs l=true
 case neg=>
  obtain⟨q1,q2⟩:=Ye (f:=f) (l:=l) (c:=2) (by simp only[Hv];rw[Bt c1,Be O]) auDe;rw[Bt (by simpa using O),q1,q2];exact⟨rfl,trivial⟩
 rw[Be (by simp[O])];have hK:=MP c1;have aa: ∀x∈l,0<=x:=λx hx=>by
  simp only[EV,B1,CF] at O
  have:=O.2 x hx
  simp only[B7,B1,CK] at this;exact this.1
 refine A7.os f [] hK (λj=>by simp[Ai,hget]) rfl rfl ?_ ?_
 .simp only[ZA,simprocAttr,Af.c,nfC.ca,Af.c,Du]
  try exact⟨rfl,rfl⟩
 simp only[ZA,simprocAttr,BK,C8];refine A7.o0 f (λ_=>2) hK rfl (by simp[fmzC.ca,C8,AN,AV.ren,B2]) ?_;simp only[ZA,simprocAttr,fmzC.r0];have Q: ¬(1+AZ f+Ao f+AZ f*(4*Ao f)<=160/\4+AZ f*(2*Ao f)+AZ f+Ao f<=200)->frmC.r0 (f,l)= .im (.tup [DU,.int .i64 4])/\frmC.H1 (f,l)=[]:=λh=>
  Ye (by simp only[Hv];rw[Bt c1,Bt O,Be h]) auDe
 by_cases c3:4+AZ f*(2*Ao f)+AZ f+Ao f<=200
 case neg=>
  obtain⟨q1,q2⟩:=Q λh=>c3 h.2
  rw[Be auOm,q1,q2];exact⟨rfl,trivial⟩
 rw[Bt auOm];by_cases c4:1+AZ f+Ao f+AZ f*(4*Ao f)<=160
 case neg=>
  obtain⟨q1,q2⟩:=Q λh=>c4 h.1
  rw[Bt auOm,q1,q2];exact⟨rfl,trivial⟩
 rw[Be auOm];have hQ:Hv f l=0:=by simp only[Hv];rw[Bt c1,Bt O,Bt ⟨c4,c3⟩]
 have z:(Jk f l).length<=160:=by rw[iQ];exact c4
 refine A7.nw (f,l) ⟨hK,O,z⟩ rfl rfl (TE z) (by simp[fsyC.r0,AV.nms,Av]) λHH hH1 ab=> ?_
 have S:=TC z aa hH1;have k1:hget HH 1=some (true,.cells 46 [.im (.sl true 0 []),.im (.sl true 0 []),.im (.sl true 0 []),.im (.int .i64 0)]):=ab 1 auOm;simp only[fsyC.r0,AV.ren,AN];simp only[ZA,simprocAttr,Bb,k1];have hl:(Dc f l).Set.Tiles.length<=160:=by rw[<-(TB aa).1];exact z
 simp only[frmC.r0,frmC.H1];rw[Bt hQ,Bt hQ];refine⟨rfl,TU (S.mono λm hm=>Dn _ _ _ auOm) hl auDe auDe⟩
def vE: ∀l:List Nat,GE l []=true
 |[]=>rfl
 |x::r=>by simp[GE,vE r]
def UT(n:Nat): ∀l:List Nat,Fm n 0 l=true
 |[]=>rfl
 |x::r=>by
  simp only[Fm,UT n r,Jg,lC];by_cases h:x<n
  .rw[Mw.mpr h];rfl
  .rw[show Nat.ble n x=true from Jf.mpr auOm,lG]
def vG{n:Nat}{u:List Nat}(z:u.all (λx=>Nat.blt x n)=true): ∀l:List Nat,(∀x∈l,n<=x)->GE l u=true
 |[],_=>rfl
 |x::r,h=>by
  have h1:=h x (CP ..);have O:u.contains x=false:=by
   rw[Hk];intro Q
   have:=CF.1 z x (by simpa using Q)
   have:=Mw.mp this
   omega
  simp only[GE,O,Xm,CZ];exact vG z r λy Z=>h y (Ah _ Z)
def quB(cl:List (List Nat))(i nx:Nat)(f:Fp):Bool:=D0 cl f.i i||(f.touch.isEmpty && (f.cnt==0) && f.use.all λx=>Nat.blt x nx)
def vH(cl:List (List Nat))(j nx:Nat)(touch z:List Nat)(ht: ∀x∈touch,nx<=x): ∀acc:List Fp,(acc.all (quB cl j nx))=true->FR cl j [] touch z acc=true
 |[],_=>rfl
 |f::r,h=>by
  rw[E6,B1] at h;simp only[FR,vH cl j nx touch z ht r h.2,Jg];have O:=h.1;simp only[quB,IK,B1,List.isEmpty_iff,YI] at O;simp only[YZ,E5];rcases O with O|⟨⟨O,Q⟩,Z⟩
  .rw[O];cases (GE touch f.touch && (GE touch f.use && Fm f.nx f.cnt z))<;>rfl
  .rw[O,Q,vE,vG Z _ ht,UT];rfl
def A7.nwB{A:Type}{ca:A->List AV}{H0:A->An}{pre:A->Prop}{klB:Nat->Bool}{r0:A->AV}{H1:A->An}{cnt:Nat}{args:List AV}{tm:TmT}{h:An}{nx:Nat}{dst:Option Nat}{go:IY}{cl:List (List Nat)}{i:Nat}{acc:List Fp}(a:A)(Z:pre a)(h0:H0 a=[])
 (z:args=AN (λj=>nx+j) (ca a))(Q:(acc.all (quB cl i nx))=true)(hcl: ∀p∈H1 a,p.1<cnt/\ ∀m∈p.2.2.nms,m<cnt)(hb: ∀m∈(r0 a).nms,m<cnt)
 (aa: ∀(O:An) (NN:List Nat),(∀m,m<nx\/nx+cnt<=m->NN.contains m=false)->(∀j e,hget (H1 a) j=some e->hget O (nx+j)=some (e.1,e.2.ren λj=>nx+j))->(∀m,m<nx->hget O m=hget h m)->go (⟨i,[],NN,nx,cnt⟩::acc) ((⟨tm,O,nx+cnt⟩:Az).put dst ((r0 a).ren λj=>nx+j))):
 A7 ca H0 0 pre klB r0 H1 cnt args (hget h) nx (FT cl i acc go ⟨tm,h,nx⟩ dst):=by
 have e:B2 (IU []) 0 nx=λj=>nx+j:=funext λj=>by simp[B2]
 refine A7.os a [] Z (λj=>by rw[h0];simp[Ai,hget]) rfl rfl ⟨by rw[e];exact z,by rw[h0];trivial⟩ ?_;rw[e];have hG: ∀H:An,∀x∈GL (AW (λj=>nx+j) H),nx<=x:=by
  intro H;induction H with
  |nil=>intro x z;cases z
  |cons p r ih=>
   obtain⟨n,q⟩:=p;intro x z;simp only[AW,GL,B0] at z;rcases z with rfl|z
   .omega
   .exact ih x z
 have hU: ∀H:An,(∀p∈H,p.1<cnt)-> ∀x∈GL (AW (λj=>nx+j) H),x<nx+cnt:=by
  intro H;induction H with
  |nil=>intro _ x z;cases z
  |cons p r ih=>
   obtain⟨n,q⟩:=p;intro hp x z;simp only[AW,GL,B0] at z;rcases z with rfl|z
   .have:=hp _ (CP ..);simp only at this;omega
   .exact ih (λp h=>hp p (Ah _ h)) x z
 have hN: ∀m,m<nx\/nx+cnt<=m->(GL (AW (λj=>nx+j) (H1 a))).contains m=false:=λm hm=>by
  rw[Hk];intro hc
  have:=hG _ m (by simpa using hc)
  have:=hU _ (λp hp=>(hcl p hp).1) m (by simpa using hc)
  omega
 have hk:De (λs=>go (⟨i,[],GL (AW (λj=>nx+j) (H1 a)),nx,cnt⟩::acc) s) ⟨tm,h,nx⟩ dst ((r0 a).ren λj=>nx+j) {use:=[],kill:=[],new:=AW (λj=>nx+j) (H1 a),cnt:=cnt}:=XE (λ_=>rfl) rfl hcl hb (λO h1 h2=>aa O _ hN h1 h2);obtain⟨k1,k2⟩:=hk;exact⟨k1,vH _ _ nx _ _ (hG _) _ Q,k2⟩
def vF.callO{A:Type}{ar:List PK->Option A}{pre:A->Prop}{re:A->D}{args:List AV}{tm:TmT}{h:An}{nx:Nat}{dst:Option Nat}{go:IY}{cl:List (List Nat)}{i:Nat}{acc:List Fp}(ps:List PK)(Z:Co (hget h) args=some ps)(a:A)(ha:ar ps=some a)(O:pre a)(z:(acc.all λf=>D0 cl f.i i)=true)
 (Q: ∀u,go (⟨i,u,[],nx,0⟩::acc) ((⟨tm,h,nx⟩:Az).put dst (.im (re a)))):Lj ar pre re args (hget h) nx (FT cl i acc go ⟨tm,h,nx⟩ dst):=by
 unfold Lj;rw[Z];simp only[RV,ha,DM];refine⟨O,?_,?_,?_⟩
 .rw[BA.ok_nr];simp[AV.bel,Ar,GO]
 .exact gU _ _ _ _ _ _ z
 .rw[Az.app_nr,Bb,lC];exact Q _
def Cj.callO{A B:Type}{k:AK A}{r:RK B}{pre:A->Prop}{f:A->B}{args:List AV}{tm:TmT}{h:An}{nx:Nat}{dst:Option Nat}{go:IY}{cl:List (List Nat)}{i:Nat}{acc:List Fp}(ps:List PK)(Z:Co (hget h) args=some ps)(a:A)(ha:k.r ps=some a)(O:pre a)(z:(acc.all λf=>D0 cl f.i i)=true)
 (Q: ∀u,go (⟨i,u,[],nx,0⟩::acc) ((⟨tm,h,nx⟩:Az).put dst (.im (r.e (f a))))):Cj k r pre f args (hget h) nx (FT cl i acc go ⟨tm,h,nx⟩ dst):=vF.callO ps Z a ha O z Q
def ssF_.fv(a:AM×AM):Bool:=(λa b=>decide (a=b)) (a.1) (a.2)
def ssF_.row:A8:=Cj (b2 (qR AM.d_le) (qR AM.d_le)) rB (λa=>True) ssF_.fv
def ssF_.ok:AE 33 ssF_.row:=iO (λ_=>rfl) ssysK.ok
abbrev Y7:=AM×Af×Cz
def rsI.ca(a:Y7):List AV:=[.im (.agg (AM.c a.1)),.im (.agg (Af.c a.2.1)),.im (.sl false 1 (a.2.2.map Aj))]
def rsI.r0(a:Y7):AV:=if (Hd a.1 a.2.1 a.2.2).2=0 then .tup [.agg [.own 228,.own 4125,.own 4325,.im (.int .i64 2)],.im (.int .i64 0)] else .im (.tup [DU,.int .i64 (Hd a.1 a.2.1 a.2.2).2])
def rsI.H1(a:Y7):An:=if (Hd a.1 a.2.1 a.2.2).2=0 then Iz 228 4125 4325 4126 (Dc a.2.1 a.2.2) else []
def rsI.pre(a:Y7):Prop:=wC a.1.Set/\a.2.1.Cubes.length<=2000000
def rsI.row:A8:=A7 rsI.ca (λ_=>[]) 0 rsI.pre (λ_=>false) rsI.r0 rsI.H1 6000
def LW{s:AM}{f:Af}{l:Cz}{c:Int}(h:(Hd s f l).2=c)(z:c≠0):rsI.r0 (s,f,l)= .im (.tup [DU,.int .i64 c])/\rsI.H1 (s,f,l)=[]:=by
 simp only[rsI.r0,rsI.H1,h];rw[Be z,Be z];exact⟨rfl,rfl⟩
def fC{g t p F cnt:Nat}{s:AM}(Z:s.Set.Tiles.length<=160)(h:g<cnt/\t<cnt/\p<cnt/\F+180<=cnt): ∀q∈Iz g t p F s,q.1<cnt/\ ∀m∈q.2.2.nms,m<cnt:=by
 intro q hq;have hm:min s.Set.Tiles.length 180<=180:=L4 _ _;simp only[Iz,B0,AH,BY,AU] at hq;rcases hq with rfl|rfl|rfl|⟨i,Q,rfl⟩
 .exact⟨by simp only;omega,by simp[Ad.nms]⟩
 .refine⟨by simp only;omega,λm hm=> ?_⟩;simp only[Ad.nms] at hm;obtain⟨r,O,hm⟩:=Fx.1 hm;obtain⟨j,z,rfl⟩:=BY.1 O
  have:=AU.1 z
  simp[Av,AV.nms] at hm;omega
 .exact⟨by simp only;omega,by simp[Ad.nms]⟩
 .exact⟨by simp only;omega,by simp[BX,Ad.nms]⟩
def fB{g t p F nx:Nat}{s:AM}(hl:s.Set.Tiles.length<=160)(hd:g<F/\t<F/\p≠g/\p≠t/\g≠t/\(p<F\/F+180<=p)){O:An}(z: ∀j e,hget (Iz g t p F s) j=some e->hget O (nx+j)=some (e.1,e.2.ren λj=>nx+j)):C7 (hget O) (nx+g) (nx+t) (nx+p) (nx+F) s:=by
 have hm:min s.Set.Tiles.length 180=s.Set.Tiles.length:=auOm;have Z:hget (Iz g t p F s) g=some (true,.arr 151 2 (s.Set.Glues.map Ac.c)):=by simp[Iz,hget]
 have et:hget (Iz g t p F s) t=some (true,.arrA 155 2 (Cx F s.Set.Tiles)):=by simp only[Iz,hget,AC _ _ hd.2.2.2.2.1,Dw,K7,IJ]
 have ep:hget (Iz g t p F s) p=some (true,.arr 137 3 (s.Seed.Tiles.map AA.c)):=by simp only[Iz,hget,AC _ _ (λe=>hd.2.2.1 e.symm:g≠p),AC _ _ (λe=>hd.2.2.2.1 e.symm:t≠p),Dw,K7,IJ]
 refine⟨z g _ Z,?_,z p _ ep,λi Q=> ?_⟩
 .rw[z t _ et];simp only[Ad.ren];congr 3;simp only[Cx,GS];refine Iu λi Q=> ?_
  simp only[Function.comp,AN,AV.ren];rw[Rj]
 .have e:hget (Iz g t p F s) (F+i)=some (BX s.Set.Tiles i):=by
   simp only[Iz,hm,hget,AC _ _ (show g≠F+i by omega),AC _ _ (show t≠F+i by omega),AC _ _ (show p≠F+i by omega),Dw];exact CY _ _ _ _ Q
  rw[Rj,z _ _ e];rfl
def MR{f:Af}{l:Cz}(h:Hv f l=0):1+AZ f+Ao f+AZ f*(4*Ao f)<=160:=by
 obtain⟨z,O⟩:=MQ h;simp only[Hv] at h;rw[Bt z,Bt O] at h;split at h
 .rename_i c;exact c.1
 .cases h
def aW(s:AM)(f:Af)(l:Cz):An:=[(5003,(true,.cells 46 [.own 228,.own 4125,.own 4325,.im (.int .i64 2)])),(2,(true,.cells 46 [.im (.sl true 0 []),.im (.sl true 0 []),.im (.sl true 0 []),.im (.int .i64 0)])),(1,(true,.cells 52 [.im (.int .i64 f.Inputs),.im (.sl false 2 (f.Cubes.map Ag.c)),.im (.sl false 1 (f.Sums.map BD))])),(0,(true,.cells 46 [.im (.sl false 2 (s.Set.Glues.map Ac.c)),.im (.sl false 2 (s.Set.Tiles.map Tile.c)),.im (.sl false 3 (s.Seed.Tiles.map AA.c)),.im (.int .i64 s.Temperature)])),(228,(true,.arr 151 2 ((Dc f l).Set.Glues.map Ac.c))),(4125,(true,.arrA 155 2 (Cx 4126 (Dc f l).Set.Tiles))),(4325,(true,.arr 137 3 ((Dc f l).Seed.Tiles.map AA.c)))]
def sE(s:AM)(f:Af)(l:Cz):An:=aW s f l++AH 4126 (Dc f l).Set.Tiles.length (BX (Dc f l).Set.Tiles)
structure Lw(h:HpT)(s:AM)(f:Af)(l:Cz):Prop where
 k3:h 5003=some (true,.cells 46 [.own 228,.own 4125,.own 4325,.im (.int .i64 2)])
 k2:h 2=some (true,.cells 46 [.im (.sl true 0 []),.im (.sl true 0 []),.im (.sl true 0 []),.im (.int .i64 0)])
 k1:h 1=some (true,.cells 52 [.im (.int .i64 f.Inputs),.im (.sl false 2 (f.Cubes.map Ag.c)),.im (.sl false 1 (f.Sums.map BD))])
 k0:h 0=some (true,.cells 46 [.im (.sl false 2 (s.Set.Glues.map Ac.c)),.im (.sl false 2 (s.Set.Tiles.map Tile.c)),.im (.sl false 3 (s.Seed.Tiles.map AA.c)),.im (.int .i64 s.Temperature)])
 S:C7 h 228 4125 4325 4126 (Dc f l)
def Lw.mono{h h':HpT}{s:AM}{f:Af}{l:Cz}(R:Lw h s f l)(O:(Dc f l).Set.Tiles.length<=160)(z: ∀m,m<5004->h' m=h m):Lw h' s f l:=
 ⟨by rw[z _ auDe];exact R.k3,by rw[z _ auDe];exact R.k2,by rw[z _ auDe];exact R.k1,by rw[z _ auDe];exact R.k0,R.S.mono λm hm=>z m auOm⟩
def nW(s:AM)(f:Af)(l:Cz)(O:(Dc f l).Set.Tiles.length<=160):Lw (hget (sE s f l)) s f l:=by
 refine⟨rfl,rfl,rfl,rfl,rfl,rfl,rfl,λi z=> ?_⟩;simp only[sE,aW,BZ,E5,hget,AC _ _ (show 5003≠4126+i by omega),AC _ _ (show 2≠4126+i by omega),AC _ _ (show 1≠4126+i by omega),AC _ _ (show 0≠4126+i by omega),AC _ _ (show 228≠4126+i by omega),AC _ _ (show 4125≠4126+i by omega),AC _ _ (show 4325≠4126+i by omega),Dw];exact CY _ _ _ _ z
def VC{s0:Az}{s:AM}{f:Af}{l:Cz}{lo nx:Nat}{tm:TmT}(Q:(Dc f l).Set.Tiles.length<=160)(R:Lw (hget s0.h) s f l)(O:EQ [] s0 tm):AB lo [] s0 ⟨tm,sE s f l,nx⟩:=by
 refine OH (A:=aW s f l) (λi=>4126+i) trivial (by simp[aW,EZ,pm,Dg]) (λi z=>rfl) (λi j _ _ h=>auOm) (λm hm i z=> ?_) O ?_ (λi z=> ?_)
 .simp[aW,EZ,pm] at hm;omega
 .simp only[aW,F6,pm,Ci,R.k3,R.k2,R.k1,R.k0,R.S.g,R.S.t,R.S.p,D9,Df,Dl,mt,DS,Ly,lK,eE];exact XY λi z=>rfl
 .simp only[Ci,R.S.f i z,BX,D9,Df,Ly]
def VB{s:AM}{f:Af}{l:Cz}{tm:TmT}(z:(Dc f l).Set.Tiles.length<=160)(ht:Cl 5004 tm=true):Az.good ⟨tm,sE s f l,5004⟩=true:=by
 refine XI ht ?_ (by simp[aW,B5]) (λi=>by simp[Ar,BX]) auOm;simp only[aW,Ar,Lc _ _ _ (show 4126+(Dc f l).Set.Tiles.length<=5004 by omega)];simp[A9,AV.bel]
def rsI.ok:AE 10 rsI.row:=by
 refine ow (tC validI_.ok (tC frmC.ok (tC inpK.ok (tC fsyC.ok (tC ssF_.ok tN))))) Tryz.func10 (exB:=λj=>Nat.ble 3 j) (R:=λa r=>r=rsI.r0 a) (λ_=>rfl)
  (λa=>by simp[rsI.ca,AM.c,Af.c,A9,AV.bel,Ar,B5,Ca]) (λa p hp=> ?_) LeVq ?_
 rotate_left
 intro a af;simp only[Tryz.f10,rsI.ca,AM.c,Af.c];simp only[ZA,simprocAttr];rotate_left
 .simp only[rsI.H1] at hp;split at hp
  .obtain⟨h1,h2⟩:=LH hp (.inr trivial);exact .inr ⟨auOm,auOm,by simp only[Jf];omega,h1⟩
  .cases hp
 obtain⟨s,f,l⟩:=a;obtain⟨ad,aa⟩:=af;simp only at ad aa⊢;unfold validI_.row Cj;refine vF.call [.val (.agg (AM.c s))] rfl s (OI s) ad ?_;simp only[ZA,simprocAttr,AM.c,validI_.fv];rw[QP];by_cases c1:WU s=true
 case neg=>
  obtain⟨q1,q2⟩:=LW (s:=s) (f:=f) (l:=l) (c:=1) (by simp only[Hd];rw[Be c1]) auDe;rw[Bt (by simpa using c1),q1,q2];exact⟨rfl,trivial⟩
 rw[Be (by simp[c1])];by_cases Z:Hv f l=0
 case neg=>
  obtain⟨r1,r2⟩:=Ye (f:=f) (l:=l) rfl Z;refine A7.nw (f,l) aa rfl rfl (by rw[r2];simp) (by rw[r1];simp[AV.nms]) λHH hH1 z=> ?_
  have k0:hget HH 0=some (true,.cells 46 [.im (.sl false 2 (s.Set.Glues.map Ac.c)),.im (.sl false 2 (s.Set.Tiles.map Tile.c)),.im (.sl false 3 (s.Seed.Tiles.map AA.c)),.im (.int .i64 s.Temperature)]):=z 0 auOm;have k1:hget HH 1=some (true,.cells 52 [.im (.int .i64 f.Inputs),.im (.sl false 2 (f.Cubes.map Ag.c)),.im (.sl false 1 (f.Sums.map BD))]):=z 1 auOm;have k2:hget HH 2=some (true,.cells 46 [.im (.sl true 0 []),.im (.sl true 0 []),.im (.sl true 0 []),.im (.int .i64 0)]):=z 2 auOm;have er:(frmC.r0 (f,l)).ren (λj=>3+j)= .im (.tup [DU,.int .i64 (Hv f l)]):=by rw[r1];rfl
  simp only[er,DU];clear hH1 z;have e2:=(KX (show 5003≠2 by decide)).trans k2;simp only[ZA,simprocAttr,Bb,e2];obtain⟨q1,q2⟩:=LW (s:=s) (f:=f) (l:=l) (c:=Hv f l) (by simp only[Hd];rw[Bt c1,Be Z]) Z;rw[Bt Z,q1,q2];exact⟨rfl,trivial⟩
 have hQ:=MR Z;obtain⟨c3,c4⟩:=MQ Z;have hK:=MP c3;have ah: ∀x∈l,0<=x:=λx hx=>by
  simp only[EV,B1,CF] at c4
  have:=c4.2 x hx
  simp only[B7,B1,CK] at this;exact this.1
 have ab: ∀l',(∀x∈l',0<=x)->(Dc f l').Set.Tiles.length<=160:=λl' Q=>by rw[<-(TB Q).1,iQ];exact hQ
 have Q:=ab l ah;have r1:frmC.r0 (f,l)= .tup [.agg [.own 225,.own 4122,.own 4322,.im (.int .i64 2)],.im (.int .i64 0)]:=by simp only[frmC.r0];rw[Bt Z]
 have r2:frmC.H1 (f,l)=Iz 225 4122 4322 4123 (Dc f l):=by simp only[frmC.H1];rw[Bt Z]
 refine A7.nw (f,l) aa rfl rfl (by rw[r2];exact fC Q auDe) (by rw[r1];simp[AV.nms,Av]) λHH hH1 z=> ?_
 rw[r2] at hH1;have S0:=fB Q auDe hH1;have k0:hget HH 0=some (true,.cells 46 [.im (.sl false 2 (s.Set.Glues.map Ac.c)),.im (.sl false 2 (s.Set.Tiles.map Tile.c)),.im (.sl false 3 (s.Seed.Tiles.map AA.c)),.im (.int .i64 s.Temperature)]):=z 0 auOm;have k1:hget HH 1=some (true,.cells 52 [.im (.int .i64 f.Inputs),.im (.sl false 2 (f.Cubes.map Ag.c)),.im (.sl false 1 (f.Sums.map BD))]):=z 1 auOm;have k2:hget HH 2=some (true,.cells 46 [.im (.sl true 0 []),.im (.sl true 0 []),.im (.sl true 0 []),.im (.int .i64 0)]):=z 2 auOm;have er:(frmC.r0 (f,l)).ren (λj=>3+j)= .tup [.agg [.own 228,.own 4125,.own 4325,.im (.int .i64 2)],.im (.int .i64 0)]:=by rw[r1];simp only[AV.ren,AN]
 simp only[er];clear hH1 z;have e1:=(KX (show 5003≠1 by decide)).trans k1;simp only[ZA,simprocAttr,Bb,e1];refine⟨auOm,?_⟩;have hR:Hd s f l=if (List.range (2^f.Inputs.toNat)).any (λn=>decide (Dc f (Dd f.Inputs.toNat n)=s))=true then (Dc f l,0) else (⟨⟨[],[]⟩,⟨[]⟩,0⟩,9):=by
  simp only[Hd];rw[Bt c1,Bt Z]
 obtain⟨v1,v2,v3⟩:=LX hK.1;have hv:IntKind.i64.wrap (1*2^min f.Inputs.toNat IntKind.i64.bits)=((2^f.Inputs.toNat:Nat):Int):=by
  have e:IntKind.i64.wrap (1*2^min f.Inputs.toNat IntKind.i64.bits)=EY f.Inputs:=rfl;rw[e,v1];norm_cast
 have hN:(2:Nat)^f.Inputs.toNat<=16:=by
  have e:((2^f.Inputs.toNat:Nat):Int)=EY f.Inputs:=by rw[v1];norm_cast
  omega
 obtain⟨N,hNe⟩: ∃N:Nat,N=2^f.Inputs.toNat:=⟨_,rfl⟩;rw[<-hNe] at hv hN hR;simp only[hv];have R0:Lw (hget ((5003,(true,Ad.cells 46 [AV.own 228,AV.own 4125,AV.own 4325,AV.im (D.int .i64 2)]))::Bp HH [5003])) s f l:=
  ⟨rfl,(Dn _ _ _ auDe).trans k2,(Dn _ _ _ auDe).trans k1,(Dn _ _ _ auDe).trans k0,S0.mono λm hm=>Dn _ _ _ auOm⟩
 refine AY.ren ⟨{n:Nat//n<=N/\ ∀j<n,Dc f (Dd f.Inputs.toNat j)≠s},λn=>⟨[(28,.im (.int .i64 n.1)),(27,.im (.int .i64 (N:Nat))),(8,.ptr 5003 0),(6,.ptr 2 0),(4,.ptr 1 0),(3,.ptr 0 0)],sE s f l,5004⟩,λn=>N - n.1,λn=>⟨VB Q (by simp[Cl,AV.bel]),auSi⟩,⟨⟨0,Ir _,auSi⟩,[],?_⟩,λn=> ?_⟩
 .refine VC Q R0 ?_;simp only[EQ];simp only[ZA,simprocAttr,pm]
 clear R0 S0 k0 k1 k2 e1 er;obtain⟨n,hn,hq⟩:=n;have hw:IntKind.i64.wrap ((n:Int)+1)=((n+1:Nat):Int):=by rw[AG auOm auOm];omega
 simp only[sE,aW,BZ,E5];simp only[ZA,simprocAttr,inpK.q,inpK.fv,AL,Bb,EN];refine⟨λac=>⟨⟨auOm,auOm⟩,?_⟩,λac=> ?_⟩
 .have ai: ∀x∈Dd f.Inputs.toNat (n:Nat),0<=x:=λx hx=>by
   simp only[Dd,BY] at hx;obtain⟨i,_,rfl⟩:=hx;rcases M5 ((n:Nat):Int) i with e|e<;>(simp only[e];decide)
  have O:(Jk f (Dd f.Inputs.toNat (n:Nat))).length<=160:=by rw[iQ];exact hQ
  refine A7.nwB (f,Dd f.Inputs.toNat (n:Nat)) ⟨hK,sN (n:=f.Inputs) auOm _,O⟩ rfl rfl rfl (TE O) (by simp[fsyC.r0,AV.nms,Av]) λag NN aj hH1 z=> ?_
  have G:=TC O ai hH1;have R2:Lw (hget ag) s f l:=(nW s f l Q).mono Q z;have k0:=R2.k0;have k1:=R2.k1;have k2:=R2.k2;have k3:=R2.k3;clear hH1 z;simp only[fsyC.r0,AV.ren,AN];simp only[ZA,simprocAttr];refine Cj.callO [_,_] (Rt rfl G.pk) (s,Dc f (Dd f.Inputs.toNat (n:Nat))) (O3 _ _) trivial rfl λu=> ?_
  simp only[ZA,simprocAttr,AL,Bb,ssF_.fv,k2,k3];refine⟨λhe=> ?_,λhe=>⟨⟨n+1,auOm,λj hj=> ?_⟩,[],by simp only;omega,?_⟩⟩
  .have hr:(Hd s f l).2=0:=by
    rw[hR,Bt];rw[Sx];exact⟨n,AU.2 ac,by rw[<-he];simp⟩
   simp only[rsI.r0,rsI.H1];rw[Bt hr,Bt hr];exact⟨rfl,TU (R2.S.mono λm hm=>Dn _ _ _ auOm) Q auDe auDe⟩
  .rcases (by omega:j<n\/j=n) with h|rfl
   .exact hq j h
   .exact λe=>he e.symm
  .rw[hw];refine VC Q R2 ?_;simp only[EQ];simp only[ZA,simprocAttr,pm]
 .obtain⟨q1,q2⟩:=LW (s:=s) (f:=f) (l:=l) (c:=9) (by
   rw[hR,Be];rw[Sx];rintro⟨j,hj,he⟩;exact hq j (by have:=AU.1 hj;omega) (by simpa using he)) auDe
  rw[q1,q2];exact⟨rfl,trivial⟩
end Go.Ae
namespace Go.Ae
open Go.Proofs
def iI{g t p f nx:Nat}{tm:TmT}{h:An}{dst:Option Nat}{go:Az->Prop}{s:AM}{k:Int}(hB:GQ s)(hk:0<=k)(ad:k<=1048576)(hS:C7 (hget h) g t p f s)
 (af:g≠t)(ag:g≠p)(ah:t≠p)(hf:(g<f\/f+s.Set.Tiles.length<=g)/\(t<f\/f+s.Set.Tiles.length<=t)/\(p<f\/f+s.Set.Tiles.length<=p))(ai:g<nx/\t<nx/\p<nx/\f+s.Set.Tiles.length<=nx)
 (ac: ∀Q:An,C7 (hget Q) g t p f (I0 s k)->(∀m,m≠g->m≠t->m≠p->(m<f\/f+s.Set.Tiles.length<=m)->hget Q m=hget h m)->go ((⟨tm,Q,nx⟩:Az).put dst (.im (.int .i64 (syK (s,k)+3*s.Seed.Tiles.length))))):
 mkSy.row [.agg [.own g,.own t,.own p,.im (.int .i64 s.Temperature)],.im (.int .i64 k)] (hget h) nx (De go ⟨tm,h,nx⟩ dst):=by
 have ht:=hB.t;have aa:nT s.Set.Tiles=s.Set.Tiles.length:=by simp only[nT];omega
 obtain⟨τ,hτ⟩: ∃τ:Nat->Nat,τ=λj=>if j=2000000 then p else if j=0 then g else if j=1 then t else f+(j - 2):=⟨_,rfl⟩
 have t0:τ 0=g:=by rw[hτ];rfl
 have t1:τ 1=t:=by rw[hτ];rfl
 have t2: ∀j,j<1048576->τ (2+j)=f+j:=λj z=>by rw[hτ];simp only;rw[Be auOm,Be auOm,Be auOm];omega
 have tp:τ 2000000=p:=by rw[hτ];exact Bt rfl
 have hσ: ∀j,j<2000001->B2 τ 2000001 nx j=τ j:=λj z=>Bt z
 have d0: ∀j,Ai (mkSy.H0 (s,k)) j=true->j=2000000\/j<2+nT s.Set.Tiles:=λj z=>(mkSy.dom0 _ _).1 z
 have tv: ∀j,(j=2000000/\τ j=p)\/(j=0/\τ j=g)\/(j=1/\τ j=t)\/(j≠2000000/\2<=j/\τ j=f+(j - 2)):=λj=>by
  rw[hτ];simp only;split
  .exact .inl ⟨by assumption,rfl⟩
  split
  .exact .inr (.inl ⟨by assumption,rfl⟩)
  split
  .exact .inr (.inr (.inl ⟨by assumption,rfl⟩))
  .exact .inr (.inr (.inr ⟨by assumption,auOm,rfl⟩))
 have rg: ∀j,Ai (mkSy.H0 (s,k)) j=true->τ j=g\/τ j=t\/τ j=p\/(f<=τ j/\τ j<f+s.Set.Tiles.length):=λj z=>by
  have h1:=d0 j z;have h2:=tv j;omega
 have rows: ∀(i:Nat) (nm:Nat->MM),(∀j,j<nT s.Set.Tiles->G2 s.Set.Tiles (EJ (s.Set,k)) i j=[.im (.str (nm j)),.own (2+j)])->(DT s.Set.Tiles (EJ (s.Set,k)) i).map (AN (B2 τ 2000001 nx))=(List.range s.Set.Tiles.length).map λj=>[.im (.str (nm j)),.own (f+j)]:=λi nm hnm=>by
  simp only[DT,aa,GS];refine Iu λj z=> ?_
  have z:=AU.1 z;simp only[Function.comp,hnm j auOm,AN,AV.ren];rw[hσ _ auOm,t2 j auOm]
 refine A7.tau (s,k) τ (hB.mkp hk ad) (λ_ _=>rfl) (λj z=> ?_) (λi j O z h=> ?_) (mkSy.hcl _) ⟨?_,?_⟩ (by simp[mkSy.r0,AV.nms]) (λQ hH1 ab=> ?_)
 .have h1:=d0 j z;have h2:=rg j z;omega
 .have h1:=d0 i O;have h2:=d0 j z;have v1:=tv i;have v2:=tv j;rcases v1 with ⟨a1,b1⟩|⟨a1,b1⟩|⟨a1,b1⟩|⟨a1,a3,b1⟩<;>rcases v2 with ⟨a2,b2⟩|⟨a2,b2⟩|⟨a2,b2⟩|⟨a2,a4,b2⟩<;>rw[b1,b2] at h<;>omega
 .simp only[mkSy.ca,AN,AV.ren,hσ 0 auOm,hσ 1 auOm,hσ 2000000 auOm,t0,t1,tp]
 .simp only[mkSy.H0,mkTS.H0,I3,Du,hσ 0 auOm,hσ 1 auOm,hσ 2000000 auOm,t0,t1,tp,Ad.ren];refine⟨hS.p,hS.g,?_,Jv λi O=> ?_⟩
  .rw[hS.t,rows 0 (λj=>(s.Set.Tiles[j]?.map Tile.Name).getD ByteArray.empty) λj _=>rfl];rfl
  .rw[aa] at O;rw[hσ _ auOm,t2 i auOm,hS.f i O];rfl
 have Z:(I0 s k).Set.Tiles.length=s.Set.Tiles.length:=iF _ _;refine ac Q ⟨?_,?_,?_,λi O=> ?_⟩ λm m1 m2 m3 m4=>ab m λj z e=>by have:=rg j z;omega
 .have:=hH1 0 _ rfl
  rwa [t0] at this
 .have:=hH1 1 _ rfl
  rw[t1] at this;rw[this];simp only[Ad.ren];rw[rows _ (λj=>GZ (Fb s.Set.Tiles (EJ (s.Set,k)) j)) λj z=>Bt z];simp only[Cx,Z];congr 3;refine Iu λj z=> ?_
  have z:=AU.1 z;simp only[I0,iH _ _ _ z,CT,BG]
 .have:=hH1 2000000 _ rfl
  rwa [tp] at this
 .rw[Z] at O;have e:hget (mkSy.H1 (s,k)) (2+i)=some (GA s.Set.Tiles (EJ (s.Set,k)) (nT s.Set.Tiles) i):=by
   simp only[mkSy.H1,hget,AC _ _ (show 2000000≠2+i by omega),Dw];exact uO i (show i<nT s.Set.Tiles by omega)
  have:=hH1 _ _ e
  rw[t2 i auOm] at this;rw[this];simp only[GA,BX,I0,iH _ _ _ O,Ad.ren,CT,BG];rw[Bt auOm]
def vU{c o b nx:Nat}{tm:TmT}{h:An}{dst:Option Nat}{go:Az->Prop}{f:Af}{k:Int}(hB:R1 f)(hk:0<=k)(ac:k<=274877906944)(F:FO (hget h) c o b f)
 (hn:c≠o)(hf:(c<b\/b+f.Sums.length<=c)/\(o<b\/b+f.Sums.length<=o))(ad:c<nx/\o<nx/\b+f.Sums.length<=nx)
 (ab: ∀Z:An,(∀m,m≠c->m≠o->(m<b\/b+f.Sums.length<=m)->hget Z m=hget h m)->go ((⟨tm,Z,nx⟩:Az).put dst (.im (.int .i64 (rV (f,k)))))):
 mkFo.row [.agg [.im (.int .i64 f.Inputs),.own c,.own o],.im (.int .i64 k)] (hget h) nx (De go ⟨tm,h,nx⟩ dst):=by
 have hs:=hB.s;have Q:nM f.Sums=f.Sums.length:=by simp only[nM];omega
 obtain⟨τ,hτ⟩: ∃τ:Nat->Nat,τ=λj=>if j=1 then c else if j=0 then o else b+(j - 2):=⟨_,rfl⟩
 have t1:τ 1=c:=by rw[hτ];rfl
 have t0:τ 0=o:=by rw[hτ];rfl
 have t2: ∀j,τ (2+j)=b+j:=λj=>by rw[hτ];simp only;rw[Be auOm,Be auOm];omega
 have hσ: ∀j,j<2000000->B2 τ 2000000 nx j=τ j:=λj z=>Bt z
 have d0: ∀j,Ai (mkFo.H0 (f,k)) j=true->j<2+f.Sums.length:=λj z=>by
  have:=(mkFo.dom0 _ _).1 z
  simp only[Q] at this;exact this
 have tv: ∀j,(j=1/\τ j=c)\/(j=0/\τ j=o)\/(2<=j/\τ j=b+(j - 2)):=λj=>by
  rw[hτ];simp only;split
  .exact .inl ⟨by assumption,rfl⟩
  split
  .exact .inr (.inl ⟨by assumption,rfl⟩)
  .exact .inr (.inr ⟨auOm,rfl⟩)
 refine A7.tau (f,k) τ ⟨hB,hk,ac⟩ (λ_ _=>rfl) (λj z=> ?_) (λi j O z h=> ?_) (mkFo.hcl _) ⟨?_,?_⟩ (by simp[mkFo.r0,AV.nms]) (λZ _ aa=> ?_)
 .have h1:=d0 j z;have h2:=tv j;omega
 .have h1:=d0 i O;have h2:=d0 j z;have v1:=tv i;have v2:=tv j;omega
 .simp only[mkFo.ca,AN,AV.ren,hσ 0 auOm,hσ 1 auOm,t0,t1]
 .simp only[mkFo.H0,HE,BZ,E5,Du,hσ 0 auOm,hσ 1 auOm,t0,t1,Ad.ren];refine⟨F.c,?_,Jv λi O=> ?_⟩
  .rw[F.n.r,Q];congr 3;simp only[CE,GS];refine Iu λi O=> ?_
   have O:=AU.1 O;simp only[Function.comp,AN,AV.ren];rw[hσ _ auOm,t2]
  .rw[Q] at O;rw[hσ _ auOm,t2,F.n.f i O];simp[Rw,Xs,Ad.ren]
 exact ab Z λm m1 m2 m3=>aa m λj z e=>by
  have h1:=d0 j z;have h2:=tv j;omega
def VD{s:AM}{f:Af}{l:Cz}(h:(Hd s f l).2=0):Hv f l=0/\Hd s f l=(Dc f l,0):=by
 simp only[Hd] at h⊢;split
 .rename_i c1;rw[Bt c1] at h;split
  .rename_i z;rw[Bt z] at h;refine⟨z,?_⟩;split
   .rfl
   .rename_i O;rw[Be O] at h;cases h
  .rename_i z;rw[Be z] at h;exact absurd h z
 .rename_i c1;rw[Be c1] at h;cases h
def aX{s:AM}{f:Af}{l:Cz}(h:(Hd s f l).2≠0):(Hd s f l).1=DQ:=by
 simp only[Hd] at h⊢;split
 .rename_i c1;rw[Bt c1] at h;split
  .rename_i z;rw[Bt z] at h;split
   .rename_i O;rw[Bt O] at h;exact absurd rfl h
   .rfl
  .rfl
 .rfl
def tl4{Q:MM->Int}{f:Af}{e:Option MM}{z:MM}{l:Cz}{R C:Nat}: ∀x∈ML Q e z f l R C,x.Sides.length<=4:=by
 intro x O;simp only[ML,BO,Am,tW,tE,AT,Bc,Bl,BY,FK] at O;rcases O with ((rfl|⟨k,_,rfl⟩)|⟨k,_,rfl⟩)|⟨k,_,c,_,q,_,rfl⟩
 .exact BN 4
 .exact BN 4
 .exact BN 4
 .simp only[En]
  split<;>exact BN 4
def VP{a:List Tile}{m:Nat}(h: ∀x∈a,x.Sides.length<=m):E0 a<=a.length*m:=by
 induction a with
 |nil=>simp[E0]
 |cons y r ih=>
  have Q:=h y (CP ..);have z:=ih λx O=>h x (Ah _ O)
  simp only[E0,Br,K6,Em,lJ] at z⊢;omega
def T8{f:Af}{l:Cz}(h:Hv f l=0):GQ (Dc f l)/\(Dc f l).Set.Tiles.length<=160:=by
 obtain⟨z,O⟩:=MQ h;have hg:4+AZ f*(2*Ao f)+AZ f+Ao f<=200:=by
  simp only[Hv] at h;rw[Bt z,Bt O] at h;split at h
  .rename_i c;exact c.2
  .cases h
 have ht:=MR h;have Z:(Dc f l).Set.Tiles.length=1+AZ f+Ao f+AZ f*(4*Ao f):=Qa0g ..;have e2:(Dc f l).Set.Glues.length=4+AZ f*(2*Ao f)+AZ f+Ao f:=Zt ..;have e3:=VP (a:=(Dc f l).Set.Tiles) (m:=4) λx Q=>tl4 x Q
 exact⟨⟨auOm,auOm,auOm,by show 1<=1048576;decide⟩,auOm⟩
def NV(a:Y7):IW (rsI.r0 a)=true/\ ∀m∈(rsI.r0 a).nms,m<6000:=by
 simp only[rsI.r0];split
 .exact⟨rfl,by simp[AV.nms,Av]⟩
 .exact⟨by simp[IW,D.scd,Qs,DU,D.sc],by simp[AV.nms]⟩
def Ld(a:Y7): ∀p∈rsI.H1 a,p.1<6000/\p.2.1=true/\Jn p.2.2=true/\ ∀m∈p.2.2.nms,m<6000:=by
 obtain⟨s,f,l⟩:=a;intro p hp;simp only[rsI.H1] at hp;split at hp
 .rename_i c;have z:=(T8 (VD c).1).2;obtain⟨q1,Q⟩:=fC (cnt:=6000) z auDe p hp;refine⟨q1,(LH hp (.inr trivial)).1,?_,Q⟩;simp only[Iz,B0,AH,BY,AU] at hp;rcases hp with rfl|rfl|rfl|⟨i,Z,rfl⟩
  .simp[Jn,Ac.c,D.sc]
  .simp only[Jn,Cx,CF];intro r O;obtain⟨j,_,rfl⟩:=BY.1 O;simp[FA,IW,D.sc]
  .simp[Jn,AA.c,D.sc]
  .simp[Jn,BX,Aj,D.sc]
 .cases hp
def rsV.ar:List PK->Option Y7:=a3 (kR AM.d) (kR Af.d) (kS CV)
def rsV.row:A8:=EM rsV.ar rsI.pre rsI.r0 rsI.H1 6000
def rsV.ok:AE 10 rsV.row:=
 W6 (A:=Y7) (ca:=λ(a:Y7)=>[D.agg (AM.c a.1),D.agg (Af.c a.2.1),D.sl false 1 (a.2.2.map Aj)]) (by kernel_rfl) rsI.ok (λ_=>rfl) (eO (JS AM.d_le) (JS Af.d_le) (fF 1 D4 λ_=>rfl)) NV Ld
def nX(s:AM)(f:Af)(l:Cz):rsV.ar [.val (.agg (AM.c s)),.val (.agg (Af.c f)),.val (.sl false 1 (l.map Aj))]=some (s,f,l):=by simp only[rsV.ar,a3,kR,kS,AM.d_c,Af.d_c,Mh XH,E7]
def fQ{s:AM}{f:Af}{l:Cz}(h:(Hd s f l).2=0){nx:Nat}{z:An}(O: ∀j e,hget (rsI.H1 (s,f,l)) j=some e->hget z (nx+j)=some (e.1,e.2.ren λj=>nx+j)):C7 (hget z) (nx+228) (nx+4125) (nx+4325) (nx+4126) (Dc f l):=by
 have hH:rsI.H1 (s,f,l)=Iz 228 4125 4325 4126 (Dc f l):=by simp only[rsI.H1];rw[Bt h]
 rw[hH] at O;exact fB (T8 (VD h).1).2 auDe O
def pk3{h:HpT}{x y z:AV}{p q r:PK}(O:DX h x=some p)(Q:DX h y=some q)(Z:DX h z=some r):Co h [x,y,z]=some [p,q,r]:=by simp only[Co,O,Q,Z,HF]
def JO(f:Af):a1 (kR Af.d) [.val (.agg (Af.c f))]=some f:=by simp only[a1,kR,Af.d_c,E7]
def eY(f g:Af):a2 (kR Af.d) (kR Af.d) [.val (.agg (Af.c f)),.val (.agg (Af.c g))]=some (f,g):=by simp only[a2,kR,Af.d_c,E7]
def fU(s:AM)(k:Int):a2 (kR AM.d) kI [.val (.agg (AM.c s)),.val (.int .i64 k)]=some (s,k):=by simp only[a2,kR,kI,AM.d_c,E7]
def UA:kR AM.d (.val DU)=some DQ:=by
 simp only[kR,DU,AM.d,Ba,E7];rfl
def LO(t:AM):a2 (kR AM.d) (kR AM.d) [.val DU,.val (.agg (AM.c t))]=some (DQ,t):=by
 rw[a2,UA];simp only[kR,AM.d_c,E7]
def U9(k:Int):a2 (kR AM.d) kI [.val DU,.val (.int .i64 k)]=some (DQ,k):=by simp only[a2,UA,kI,E7]
def RT(l:Cz):a1 (kS CV) [.val (.sl false 1 (l.map Aj))]=some l:=by simp only[a1,kS,Mh XH,E7]
def toJR.row:A8:=fM toInt64S.row toIX.row
def toJR.ok:AE 9 toJR.row:=KY toInt64S.ok toIX.ok
def mJ(l:Cz): ∀p∈toIX.H1 l,p.1<2/\ ∀m∈p.2.2.nms,m<2:=by
 intro p hp;simp only[toIX.H1,Am] at hp;subst hp;exact⟨auOm,by simp[Ad.nms]⟩
def UC{nx cnt:Nat}: ∀{H:An},(∀p∈H,p.1<cnt)-> ∀m,(m<nx\/nx+cnt<=m)->(GL (AW (λj=>nx+j) H)).contains m=false
 |[],_,m,_=>rfl
 |(n,q)::r,h,m,hm=>by
  have h0:=h (n,q) (CP ..);simp only at h0;have z:m≠nx+n:=auOm
  have:=UC (H:=r) (λp hp=>h p (Ah _ hp)) m hm
  simp only[AW,GL,K8];rw[this,YF];exact FX.2 z
def EM.nwN{A:Type}{ar:List PK->Option A}{pre:A->Prop}{r0:A->AV}{H1:A->An}{cnt:Nat}{args:List AV}{tm:TmT}{h:An}{nx:Nat}{dst:Option Nat}{go:IY}{cl:List (List Nat)}{i:Nat}{acc:List Fp}(ps:List PK)(aa:Co (hget h) args=some ps)(a:A)(ha:ar ps=some a)(Q:pre a)
 (hu:Es (hget h) args=[])(O:(acc.all λf=>D0 cl f.i i)=true)
 (hcl: ∀p∈H1 a,p.1<cnt/\ ∀m∈p.2.2.nms,m<cnt)(hb: ∀m∈(r0 a).nms,m<cnt)
 (Z: ∀(z:An) (NN:List Nat),(∀m,(m<nx\/nx+cnt<=m)->NN.contains m=false)->(∀j e,hget (H1 a) j=some e->hget z (nx+j)=some (e.1,e.2.ren λj=>nx+j))->(∀m,m<nx->hget z m=hget h m)->go (⟨i,[],NN,nx,cnt⟩::acc) ((⟨tm,z,nx+cnt⟩:Az).put dst ((r0 a).ren λj=>nx+j))):
 EM ar pre r0 H1 cnt args (hget h) nx (FT cl i acc go ⟨tm,h,nx⟩ dst):=
 EM.nwA ps aa a ha Q hu O hcl hb λz h1 h2=>Z z _ (UC λp hp=>(hcl p hp).1) h1 h2
def lawRF.rc:D->Option (Bool):=QV
def lawRF.re:Bool->D:=D.bool
def lawRF.rle: ∀d b,lawRF.rc d=some b->Le d (lawRF.re b):=cV
def lawRF.fv(a:AM×Af×(Cz)):Bool:=(λ_ _ _=>true) (a.1) (a.2.1) (a.2.2)
def lawRF.row:A8:=vK (b3 (qR AM.d_le) (qR Af.d_le) (qS D4 Cq)) (RK.mk lawRF.rc lawRF.re lawRF.rle) (λa=>PT a.1.Set) lawRF.fv
def lawRF.q:=Bg (R:=lawRF.row) rfl
def Cy:=J @toSystem.fv.eq_1<|J @toFm_.fv.eq_1<|J @toInt64S.fv.eq_1<|J @eqSystemF.fv.eq_1 @eqInt64SF.fv.eq_1
def lawRF.ok:AE 3 lawRF.row:=by
 refine vw (tC szSystem.ok (tC szFm_.ok (tC toYR.ok (tC toFR.ok (tC toJR.ok (tC rsS_.ok (tC rsV.ok (tC eqSystemF.ok (tC eqFmF.ok (tC eqInt64SF.ok (tC mkSyR.ok (tC mkFo.ok (tC mkIC.ok (tC heldSys_.ok tN)))))))))))))) Tryz.func3 ?_;intro a ag;simp only[Tryz.f3];obtain⟨s,f,l⟩:=a;simp only at ag⊢;simp(maxSteps:=9^9)(disch:=omega)only[ZZ,simprocAttr,lawRF.fv,lawRF.rc,szSystem.q,szSystem.fv,szFm_.q,szFm_.fv,Af.c,Af.d,Af.eta,Ag.d_R];intro _;split
 .trivial
 rename_i c2;refine⟨ag,?_⟩;split
 .trivial
 rename_i c0;have hb:=cA s 1048576 auDe;refine⟨auOm,?_⟩;split
 .trivial
 rename_i c3;have hB:=bZ (s:=s) (l:=1048576) auDe auDe auOm;have h1:=Wl (s:=s) (l:=1048576) auDe auDe auOm;have hF:=oM (f:=f) (l:=Xb s 1048576) auOm auOm auOm;have ay:=hF.c;have az:=hF.s;have am:smFm f:=⟨auOm,auOm,hF.e⟩;have hl:l.length<=1048576:=auOm;have aj:l.length<=1073741824:=auOm;clear hb c0 c3 c2;refine .inl (vK.callU [.val (.agg (AM.c s))] rfl s (OI s) h1 rfl rfl ?_);simp(maxSteps:=9^9)(disch:=omega)only[ZA,simprocAttr,Cy,Bb];refine .inl (vK.callU [.val (.agg (Af.c f))] rfl f (JO f) am rfl rfl ?_);simp(maxSteps:=9^9)(disch:=omega)only[ZA,simprocAttr,Cy,Bb,Af.c];refine .inl (vK.callU [.val (.sl false 1 (l.map Aj))] rfl l (RT l) aj rfl rfl ?_);simp(maxSteps:=9^9)(disch:=omega)only[ZZ,simprocAttr,Cy,rsS_.q,rsS_.fv,Bb,Af.c,Af.d,Af.eta,Ag.d_R];refine⟨auOm,?_⟩;obtain⟨w,hw⟩: ∃w,w=Hd s f l:=⟨_,rfl⟩;obtain⟨Q,w1⟩:=w;simp only[<-hw];refine .inr (A7.nw s hB.yx rfl rfl (yx_cl hB) (by simp[toYX.r0,AV.nms,Av]) λHH hH1 z=> ?_);have S0:C7 (hget HH) 10 12 2000015 13 s:=yx_at hB hH1;have k0:hget HH 0=some (true,.cells 30 [AV.im (D.sl false 2 (List.map Ac.c s.Set.Glues)),AV.im (D.sl false 2 (List.map Tile.c s.Set.Tiles)),AV.im (D.sl false 3 (List.map AA.c s.Seed.Tiles)),AV.im (D.int IntKind.i64 s.Temperature)]):=z 0 auOm;have k1:hget HH 1=some (true,.cells 34 [AV.im (D.int IntKind.i64 f.Inputs),AV.im (D.sl false 2 (List.map Ag.c f.Cubes)),AV.im (D.sl false 1 (List.map BD f.Sums))]):=z 1 auOm;have k2:hget HH 2=some (true,.cells 46 [AV.im (D.sl false 2 (List.map Ac.c Q.Set.Glues)),AV.im (D.sl false 2 (List.map Tile.c Q.Set.Tiles)),AV.im (D.sl false 3 (List.map AA.c Q.Seed.Tiles)),AV.im (D.int IntKind.i64 Q.Temperature)]):=z 2 auOm;clear hH1 z;simp only[toYX.r0,AV.ren,AN];have e1:=(KX (show 2000016≠1 by decide)).trans k1;simp(maxSteps:=9^9)(disch:=omega)only[ZA,simprocAttr,Bb,e1];clear e1;refine .inr (A7.nw f ⟨auOm,hF.s,hF.e⟩ rfl rfl (fx_cl hF) (by simp[toFmX.r0,AV.nms,Av]) λai hH1 z=> ?_);have k0:hget ai 0=_:=((z 0 auOm).trans (Dn _ _ _ auOm)).trans k0;have k1:hget ai 1=_:=((z 1 auOm).trans (Dn _ _ _ auOm)).trans k1;have k2:hget ai 2=_:=((z 2 auOm).trans (Dn _ _ _ auOm)).trans k2;have S1:C7 (hget ai) 10 12 2000015 13 s:=S0.mono λm hm=>by
  exact (z m (by have:=hB.t;omega)).trans (Dn _ _ _ (by have:=hB.t;omega))
 have x0:hget ai 2000016=some (true,.cells 46 [.own 10,.own 12,.own 2000015,.im (.int .i64 s.Temperature)]):=z _ auOm;have F1:FO (hget ai) 2000021 2000023 2000024 f:=fx_at hF hH1;clear hH1 z S0;simp only[toFmX.r0,AV.ren,AN];simp(maxSteps:=9^9)(disch:=omega)only[ZA,simprocAttr,Bb];refine .inr (A7.nw l aj rfl rfl (mJ l) (by simp[AV.nms]) λaf hH1 z=> ?_);have k0:hget af 0=_:=((z 0 auOm).trans (Dn _ _ _ auOm)).trans k0;have k1:hget af 1=_:=((z 1 auOm).trans (Dn _ _ _ auOm)).trans k1;have k2:hget af 2=_:=((z 2 auOm).trans (Dn _ _ _ auOm)).trans k2;have S2:C7 (hget af) 10 12 2000015 13 s:=S1.mono λm hm=>by
  exact (z m (by have:=hB.t;omega)).trans (Dn _ _ _ (by have:=hB.t;omega))
 have F2:FO (hget af) 2000021 2000023 2000024 f:=F1.mono λm hm=>by
  exact (z m auOm).trans (Dn _ _ _ auOm)
 have x0:hget af 2000016=_:=((z 2000016 auOm).trans (Dn _ _ _ auOm)).trans x0;have x1:hget af 4000022=some (true,.cells 52 [.im (.int .i64 f.Inputs),.own 2000021,.own 2000023]):=z _ auOm;have x2:hget af 4000024=some (true,.arr 2 1 (l.map Aj)):=hH1 1 _ rfl;clear hH1 z S1 F1;simp only[AV.ren];simp(maxSteps:=9^9)(disch:=omega)only[ZA,simprocAttr,Bb,x0,x1];refine EM.nw [.val (.agg (AM.c s)),.val (.agg (Af.c f)),.val (.sl false 1 (l.map Aj))] (pk3 S2.pk F2.pk (UY x2)) (s,f,l) (nX s f l) ⟨ag,by simp only;omega⟩ (λp hp=>⟨(Ld _ p hp).1,(Ld _ p hp).2.2.2⟩) (NV _).2 λac hH1 z=> ?_
 have k0:hget ac 0=_:=(z 0 auOm).trans k0;have k1:hget ac 1=_:=(z 1 auOm).trans k1;have k2:hget ac 2=_:=(z 2 auOm).trans k2;have x0:hget ac 2000016=_:=(z _ auOm).trans x0;have x1:hget ac 4000022=_:=(z _ auOm).trans x1;have x2:hget ac 4000024=_:=(z _ auOm).trans x2;have S3:C7 (hget ac) 10 12 2000015 13 s:=S2.mono λm hm=>z m (by have:=hB.t;omega)
 have F3:FO (hget ac) 2000021 2000023 2000024 f:=F2.mono λm hm=>z m auOm
 clear S2 F2;by_cases hc:(Hd s f l).2=0
 .obtain⟨c4,c5⟩:=VD hc;have ao:w1=0:=by rw[<-hc,<-hw]
  have ah:Q=Dc f l:=by rw[c5] at hw;exact (B6 .. ▸hw).1
  obtain⟨G0,ax⟩:=T8 c4;have G3:C7 (hget ac) 4000253 4004150 4004350 4004151 Q:=by rw[ah];exact fQ hc hH1
  have hT:(Dc f l).Temperature=2:=rfl;have er:(rsI.r0 (s,f,l)).ren (λj=>4000025+j)= .tup [.agg [.own 4000253,.own 4004150,.own 4004350,.im (.int .i64 Q.Temperature)],.im (.int .i64 0)]:=by
   rw[ah,hT];simp only[rsI.r0];rw[Bt hc];simp only[AV.ren,AN]
  clear hH1 z;rw[er];rw[<-ah] at G0 ax;subst ao;have e1:=(KX (show 4006025≠2 by decide)).trans k2;simp(maxSteps:=9^9)(disch:=omega)only[ZA,simprocAttr,Bb,e1];clear e1;generalize hG:((4006025,(true,Ad.cells 46 [AV.own 4000253,AV.own 4004150,AV.own 4004350,AV.im (D.int IntKind.i64 Q.Temperature)]))::Bp ac [4006025]:An)=H5;have k0:=pg hG auOm k0;have k1:=pg hG auOm k1;have k2:=pg hG auOm k2;have x0:=pg hG auOm x0;have x1:=pg hG auOm x1;have x2:=pg hG auOm x2;have S4:C7 (hget H5) 10 12 2000015 13 s:=S3.mono λm hm=>by rw[<-hG];exact Dn _ _ _ (by have:=hB.t;omega)
  have F4:FO (hget H5) 2000021 2000023 2000024 f:=F3.mono λm hm=>by rw[<-hG];exact Dn _ _ _ auOm
  have G4:C7 (hget H5) 4000253 4004150 4004350 4004151 Q:=G3.mono λm hm=>by rw[<-hG];exact Dn _ _ _ auOm
  have g0:hget H5 4006025=some (true,.cells 46 [AV.own 4000253,AV.own 4004150,AV.own 4004350,AV.im (D.int IntKind.i64 Q.Temperature)]):=by rw[<-hG];rfl
  clear hG S3 F3 G3;refine Cj.call [_,_] (Rt G4.pk rfl) (Q,Q) (O3 _ _) trivial ?_;simp(maxSteps:=9^9)(disch:=omega)only[ZA,simprocAttr,Cy,Bb,k0,x0];refine .inl (vK.callA [.val (.agg (AM.c s))] rfl s (OI s) h1 rfl λu=> ?_);simp(maxSteps:=9^9)(disch:=omega)only[ZA,simprocAttr,Cy];refine Cj.callA [_,_] (Rt S4.pk rfl) (s,s) (O3 _ _) trivial rfl λu2=> ?_
  simp(maxSteps:=9^9)(disch:=omega)only[ZA,simprocAttr,Cy,Bb,k1,x1];refine .inl (vK.callA [.val (.agg (Af.c f))] rfl f (JO f) am rfl λu3=> ?_);simp(maxSteps:=9^9)(disch:=omega)only[ZA,simprocAttr,Cy,Af.c];refine Cj.callA [_,_] (Rt F4.pk rfl) (f,f) (eY _ _) trivial rfl λu4=> ?_
  simp(maxSteps:=9^9)(disch:=omega)only[ZA,simprocAttr,Bb,eqFmF.fv];refine .inl (vK.call [.val (.sl false 1 (l.map Aj))] rfl l (RT l) aj ?_);simp(maxSteps:=9^9)(disch:=omega)only[ZA,simprocAttr,Cy];refine Cj.call [_,_] (Rt (UY x2) rfl) (l,l) (fD _ _) trivial ?_;simp(maxSteps:=9^9)(disch:=omega)only[ZA,simprocAttr,Cy,Bb,x0];refine .inr (iI hB auDe auDe S4 auDe auDe auDe (by have:=hB.t;omega) (by have:=hB.t;omega) λZ _ O=> ?_);have av:=hB.t;have k0:hget Z 0=_:=(O 0 auOm auOm auOm auOm).trans k0;have k1:hget Z 1=_:=(O 1 auOm auOm auOm auOm).trans k1;have k2:hget Z 2=_:=(O 2 auOm auOm auOm auOm).trans k2;have x1:hget Z 4000022=_:=(O _ auOm auOm auOm auOm).trans x1;have x2:hget Z 4000024=_:=(O _ auOm auOm auOm auOm).trans x2;have g0:hget Z 4006025=_:=(O _ auOm auOm auOm auOm).trans g0;have G5:C7 (hget Z) 4000253 4004150 4004350 4004151 Q:=G4.mono λm hm=>O m auOm auOm auOm auOm
  have F5:FO (hget Z) 2000021 2000023 2000024 f:=F4.mono λm hm=>O m auOm auOm auOm auOm
  clear O x0 S4 G4 F4;obtain⟨y1,y2⟩:=hB.syK (k:=1) auDe auDe;obtain⟨m1,hm1⟩: ∃m1,m1=syK (s,1)+3*s.Seed.Tiles.length:=⟨_,rfl⟩;rw[<-hm1] at y2;have y3:0<=m1:=auOm;simp only[<-hm1];clear y1 hm1;simp(maxSteps:=9^9)(disch:=omega)only[ZA,simprocAttr,Bb,x1];refine vU hF y3 auOm F5 auDe auOm auOm λab O=> ?_
  have k0:hget ab 0=_:=(O 0 auOm auOm auOm).trans k0;have k1:hget ab 1=_:=(O 1 auOm auOm auOm).trans k1;have k2:hget ab 2=_:=(O 2 auOm auOm auOm).trans k2;have x2:hget ab 4000024=_:=(O 4000024 auOm auOm auOm).trans x2;have g0:hget ab 4006025=_:=(O 4006025 auOm auOm auOm).trans g0;have G6:C7 (hget ab) 4000253 4004150 4004350 4004151 Q:=G5.mono λm hm=>O m auOm auOm auOm
  clear O x1 G5 F5;have aw:=hF.t;obtain⟨m2,hm2⟩: ∃m2,m2=rV (f,m1):=⟨_,rfl⟩;have y4:0<=m2/\m2<=274877906944:=by rw[hm2];simp only[rV];omega
  simp only[<-hm2];clear hm2;simp(maxSteps:=9^9)(disch:=omega)only[ZA,simprocAttr,Bb];refine gT y4.1 auOm x2 auOm λad _ O=> ?_
  have k0:hget ad 0=_:=(O 0 auOm).trans k0;have k1:hget ad 1=_:=(O 1 auOm).trans k1;have k2:hget ad 2=_:=(O 2 auOm).trans k2;have g0:hget ad 4006025=_:=(O 4006025 auOm).trans g0;have G7:C7 (hget ad) 4000253 4004150 4004350 4004151 Q:=G6.mono λm hm=>O m auOm
  clear O x2 G6;simp(maxSteps:=9^9)(disch:=omega)only[ZA,simprocAttr,Bb,k2,g0];rw[Bt auOm];refine Cj.call [_,_] (Rt G7.pk rfl) (Q,Q) (O3 _ _) trivial ?_;simp(maxSteps:=9^9)(disch:=omega)only[ZA,simprocAttr,Cy,Bb,g0];refine .inr (iI G0 auDe auDe G7 auDe auDe auDe auOm auOm λan G8 O=> ?_);have k0:hget an 0=_:=(O 0 auOm auOm auOm auOm).trans k0;have k1:hget an 1=_:=(O 1 auOm auOm auOm auOm).trans k1;have k2:hget an 2=_:=(O 2 auOm auOm auOm auOm).trans k2;have g0:hget an 4006025=_:=(O 4006025 auOm auOm auOm auOm).trans g0;clear O G7;obtain⟨z1,z2⟩:=G0.syK (k:=1) auDe auDe;have z4:=Qax6 Q (k:=1) auDe;obtain⟨m3,hm3⟩: ∃m3,m3=syK (Q,1)+3*Q.Seed.Tiles.length:=⟨_,rfl⟩;rw[<-hm3] at z2 z4;have z3:0<=m3:=auOm;simp only[<-hm3];clear z1 hm3;have z5:heldSys_.fv (I0 Q 1,1)=m3:=z4;simp(maxSteps:=9^9)(disch:=omega)only[ZA,simprocAttr,Bb,g0];refine Cj.call [_,_] (Rt (G8.pk (s:=I0 Q 1)) rfl) (I0 Q 1,1) (fU _ _) (Nu G0) ?_;simp only[z5];simp(maxSteps:=9^9)(disch:=omega)only[ZA,simprocAttr,Bb,k0];rw[Be auOm];refine .inl (vK.callU [.val (.agg (AM.c s))] rfl s (OI s) h1 rfl rfl ?_);simp(maxSteps:=9^9)(disch:=omega)only[ZA,simprocAttr,Cy,Bb,k1];refine .inl (vK.callU [.val (.agg (Af.c f))] rfl f (JO f) am rfl rfl ?_);simp(maxSteps:=9^9)(disch:=omega)only[ZA,simprocAttr,Cy,Bb,Af.c];refine .inl (vK.callU [.val (.sl false 1 (l.map Aj))] rfl l (RT l) aj rfl rfl ?_);simp(maxSteps:=9^9)(disch:=omega)only[ZA,simprocAttr,Cy];refine EM.nwN [.val (.agg (AM.c s)),.val (.agg (Af.c f)),.val (.sl false 1 (l.map Aj))] rfl (s,f,l) (nX s f l) ⟨ag,by simp only;omega⟩ rfl rfl (λp hp=>⟨(Ld _ p hp).1,(Ld _ p hp).2.2.2⟩) (NV _).2 λaa NN ak hH1 z=> ?_
  have n1:NN.contains 4012026=false:=ak _ (.inr auDe);have k2:hget aa 2=_:=(z 2 auOm).trans k2;have g0:hget aa 4006025=_:=(z _ auOm).trans g0;have a0:(I0 Q 1).Set.Tiles.length=Q.Set.Tiles.length:=iF _ _;have G9:C7 (hget aa) 4000253 4004150 4004350 4004151 (I0 Q 1):=G8.mono λm hm=>z m auOm
  have E9:C7 (hget aa) 4006254 4010151 4010351 4010152 Q:=by rw[ah];exact fQ hc hH1
  have er:(rsI.r0 (s,f,l)).ren (λj=>4006026+j)= .tup [.agg [.own 4006254,.own 4010151,.own 4010351,.im (.int .i64 Q.Temperature)],.im (.int .i64 0)]:=by
   rw[ah,hT];simp only[rsI.r0];rw[Bt hc];simp only[AV.ren,AN]
  clear hH1 z G8 ak;rw[er];have e1:=(KX (show 4012026≠2 by decide)).trans k2;simp(maxSteps:=9^9)(disch:=omega)only[ZA,simprocAttr,Bb,e1,n1];clear e1;generalize hG:((4012026,(true,Ad.cells 46 [AV.own 4006254,AV.own 4010151,AV.own 4010351,AV.im (D.int IntKind.i64 Q.Temperature)]))::Bp aa [4012026]:An)=H11;have g0:=pg hG auOm g0;have au:C7 (hget H11) 4000253 4004150 4004350 4004151 (I0 Q 1):=G9.mono λm hm=>by rw[<-hG];exact Dn _ _ _ auOm
  have aq:C7 (hget H11) 4006254 4010151 4010351 4010152 Q:=E9.mono λm hm=>by rw[<-hG];exact Dn _ _ _ auOm
  clear hG G9 E9;refine Cj.call [_,_] (Rt aq.pk rfl) (Q,Q) (O3 _ _) trivial ?_;simp(maxSteps:=9^9)(disch:=omega)only[ZA,simprocAttr,Cy,Bb,g0];refine Cj.call [_,_] (Rt (au.pk (s:=I0 Q 1)) rfl) (I0 Q 1,1) (fU _ _) (Nu G0) ?_;simp only[z5];simp(maxSteps:=9^9)(disch:=omega)only[ZA,simprocAttr,Bb];rw[Be auOm];trivial
 .have ao:w1≠0:=by
   have:w1=(Hd s f l).2:=by rw[<-hw]
   rw[this];exact hc
  have ah:Q=DQ:=by
   have:Q=(Hd s f l).1:=by rw[<-hw]
   rw[this];exact aX hc
  have er: ∀n,(rsI.r0 (s,f,l)).ren (λj=>n+j)= .im (.tup [DU,.int .i64 w1]):=λn=>by
   simp only[rsI.r0];rw[Be hc,<-hw];rfl
  clear hH1 z;rw[er];subst ah;have e1:=(KX (show 4006025≠2 by decide)).trans k2;simp(maxSteps:=9^9)(disch:=omega)only[ZA,simprocAttr,Bb,e1,DU];clear e1;generalize hG:((4006025,(true,Ad.cells 46 [AV.im (D.sl true 0 []),AV.im (D.sl true 0 []),AV.im (D.sl true 0 []),AV.im (D.int IntKind.i64 0)]))::Bp ac [4006025]:An)=H5;have k0:=pg hG auOm k0;have k1:=pg hG auOm k1;have k2:=pg hG auOm k2;have x0:=pg hG auOm x0;have x1:=pg hG auOm x1;have x2:=pg hG auOm x2;have S4:C7 (hget H5) 10 12 2000015 13 s:=S3.mono λm hm=>by rw[<-hG];exact Dn _ _ _ (by have:=hB.t;omega)
  have F4:FO (hget H5) 2000021 2000023 2000024 f:=F3.mono λm hm=>by rw[<-hG];exact Dn _ _ _ auOm
  have g0:hget H5 4006025=some (true,.cells 46 [AV.im (D.sl true 0 []),AV.im (D.sl true 0 []),AV.im (D.sl true 0 []),AV.im (D.int IntKind.i64 0)]):=by rw[<-hG];rfl
  clear hG S3 F3;have n5:heldSys_.fv (DQ,1)=1:=rfl;refine Cj.call [.val DU,.val (.agg (AM.c DQ))] rfl (DQ,DQ) (LO DQ) trivial ?_;simp(maxSteps:=9^9)(disch:=omega)only[ZA,simprocAttr,Cy,Bb,k0,x0];refine .inl (vK.callA [.val (.agg (AM.c s))] rfl s (OI s) h1 rfl λu=> ?_);simp(maxSteps:=9^9)(disch:=omega)only[ZA,simprocAttr,Cy];refine Cj.callA [_,_] (Rt S4.pk rfl) (s,s) (O3 _ _) trivial rfl λu2=> ?_
  simp(maxSteps:=9^9)(disch:=omega)only[ZA,simprocAttr,Cy,Bb,k1,x1];refine .inl (vK.callA [.val (.agg (Af.c f))] rfl f (JO f) am rfl λu3=> ?_);simp(maxSteps:=9^9)(disch:=omega)only[ZA,simprocAttr,Cy,Af.c];refine Cj.callA [_,_] (Rt F4.pk rfl) (f,f) (eY _ _) trivial rfl λu4=> ?_
  simp(maxSteps:=9^9)(disch:=omega)only[ZA,simprocAttr,Bb,eqFmF.fv];refine .inl (vK.call [.val (.sl false 1 (l.map Aj))] rfl l (RT l) aj ?_);simp(maxSteps:=9^9)(disch:=omega)only[ZA,simprocAttr,Cy];refine Cj.call [_,_] (Rt (UY x2) rfl) (l,l) (fD _ _) trivial ?_;simp(maxSteps:=9^9)(disch:=omega)only[ZA,simprocAttr,Cy,Bb,x0];refine .inr (iI hB auDe auDe S4 auDe auDe auDe (by have:=hB.t;omega) (by have:=hB.t;omega) λZ _ O=> ?_);have av:=hB.t;have k0:hget Z 0=_:=(O 0 auOm auOm auOm auOm).trans k0;have k1:hget Z 1=_:=(O 1 auOm auOm auOm auOm).trans k1;have k2:hget Z 2=_:=(O 2 auOm auOm auOm auOm).trans k2;have x1:hget Z 4000022=_:=(O 4000022 auOm auOm auOm auOm).trans x1;have x2:hget Z 4000024=_:=(O 4000024 auOm auOm auOm auOm).trans x2;have g0:hget Z 4006025=_:=(O 4006025 auOm auOm auOm auOm).trans g0;have F5:FO (hget Z) 2000021 2000023 2000024 f:=F4.mono λm hm=>O m auOm auOm auOm auOm
  clear O x0 S4 F4;obtain⟨y1,y2⟩:=hB.syK (k:=1) auDe auDe;obtain⟨m1,hm1⟩: ∃m1,m1=syK (s,1)+3*s.Seed.Tiles.length:=⟨_,rfl⟩;rw[<-hm1] at y2;have y3:0<=m1:=auOm;simp only[<-hm1];clear y1 hm1;simp(maxSteps:=9^9)(disch:=omega)only[ZA,simprocAttr,Bb,x1];refine vU hF y3 auOm F5 auDe auOm auOm λab O=> ?_
  have k0:hget ab 0=_:=(O 0 auOm auOm auOm).trans k0;have k1:hget ab 1=_:=(O 1 auOm auOm auOm).trans k1;have k2:hget ab 2=_:=(O 2 auOm auOm auOm).trans k2;have x2:hget ab 4000024=_:=(O 4000024 auOm auOm auOm).trans x2;have g0:hget ab 4006025=_:=(O 4006025 auOm auOm auOm).trans g0;clear O x1 F5;have aw:=hF.t;obtain⟨m2,hm2⟩: ∃m2,m2=rV (f,m1):=⟨_,rfl⟩;have y4:0<=m2/\m2<=274877906944:=by rw[hm2];simp only[rV];omega
  simp only[<-hm2];clear hm2;simp(maxSteps:=9^9)(disch:=omega)only[ZA,simprocAttr,Bb];refine gT y4.1 auOm x2 auOm λad _ O=> ?_
  have k0:hget ad 0=_:=(O 0 auOm).trans k0;have k1:hget ad 1=_:=(O 1 auOm).trans k1;have k2:hget ad 2=_:=(O 2 auOm).trans k2;have g0:hget ad 4006025=_:=(O 4006025 auOm).trans g0;clear O x2;simp(maxSteps:=9^9)(disch:=omega)only[ZA,simprocAttr,Bb,k2,g0];rw[Bt auOm];refine Cj.call [.val DU,.val (.agg (AM.c DQ))] rfl (DQ,DQ) (LO DQ) trivial ?_;simp(maxSteps:=9^9)(disch:=omega)only[ZA,simprocAttr,Cy,Bb,g0];refine .inl (vK.call [.val DU,.val (.int .i64 1)] rfl (DQ,1) (U9 _) ⟨⟨rfl,rfl⟩,rfl⟩ ?_);simp(maxSteps:=9^9)(disch:=omega)only[ZA,simprocAttr,Bb,g0,mkSy0.fv];refine Cj.call [.val DU,.val (.int .i64 1)] rfl (DQ,1) (U9 _) auDe ?_;simp only[n5];simp(maxSteps:=9^9)(disch:=omega)only[ZA,simprocAttr,Bb,k0];refine .inl (vK.callU [.val (.agg (AM.c s))] rfl s (OI s) h1 rfl rfl ?_);simp(maxSteps:=9^9)(disch:=omega)only[ZA,simprocAttr,Cy,Bb,k1];refine .inl (vK.callU [.val (.agg (Af.c f))] rfl f (JO f) am rfl rfl ?_);simp(maxSteps:=9^9)(disch:=omega)only[ZA,simprocAttr,Cy,Bb,Af.c];refine .inl (vK.callU [.val (.sl false 1 (l.map Aj))] rfl l (RT l) aj rfl rfl ?_);simp(maxSteps:=9^9)(disch:=omega)only[ZA,simprocAttr,Cy];refine EM.nwN [.val (.agg (AM.c s)),.val (.agg (Af.c f)),.val (.sl false 1 (l.map Aj))] rfl (s,f,l) (nX s f l) ⟨ag,by simp only;omega⟩ rfl rfl (λp hp=>⟨(Ld _ p hp).1,(Ld _ p hp).2.2.2⟩) (NV _).2 λaa NN ak hH1 z=> ?_
  have n1:NN.contains 4012026=false:=ak _ (.inr auDe);have k2:hget aa 2=_:=(z 2 auOm).trans k2;have g0:hget aa 4006025=_:=(z _ auOm).trans g0;clear hH1 z ak;rw[er];have e1:=(KX (show 4012026≠2 by decide)).trans k2;simp(maxSteps:=9^9)(disch:=omega)only[ZA,simprocAttr,Bb,e1,n1,DU];clear e1;generalize hG:((4012026,(true,Ad.cells 46 [AV.im (D.sl true 0 []),AV.im (D.sl true 0 []),AV.im (D.sl true 0 []),AV.im (D.int IntKind.i64 0)]))::Bp aa [4012026]:An)=H11;have g0:=pg hG auOm g0;clear hG;refine Cj.call [.val DU,.val (.agg (AM.c DQ))] rfl (DQ,DQ) (LO DQ) trivial ?_;simp(maxSteps:=9^9)(disch:=omega)only[ZA,simprocAttr,Cy,Bb,g0];refine Cj.call [.val DU,.val (.int .i64 1)] rfl (DQ,1) (U9 _) auDe ?_;simp only[n5];simp(maxSteps:=9^9)(disch:=omega)only[ZA,simprocAttr,Bb]
end Go.Ae
namespace Go.Ae
open Go Go.Proofs
section
variable {H:Type}{enc:TypeId×Value->H}{W:World}
def rCub:F7 enc Tryz.prog W 117 Ag.c (λ_=>True):=
 (qM Tryz.underlying117 rfl (by kernel_rfl) (by kernel_rfl) (Yw Tryz.underlying2) (Yw Tryz.underlying2)).to (λy=>(⟨y.1,y.2⟩:Ag)) (λ_=>rfl) (λ_ _=>trivial)
def rCubs:F7 enc Tryz.prog W 31 (λl:List Ag=>[.sl false 2 (l.map Ag.c)]) (λl=> ∀y∈l,True):=
 pX Tryz.underlying31 (by kernel_rfl) auDe (by decide+kernel) (λ_=>rfl) rCub
def nN:F7 enc Tryz.prog W 32 (λl:List (Cz)=>[.sl false 1 (l.map BD)]) (λl=> ∀y∈l,∀z∈y,True):=
 pX (c:=BD) Tryz.underlying32 (by kernel_rfl) auDe (by decide+kernel) (λ_=>rfl) Vg
def rFrm:F7 enc Tryz.prog W 34 Af.c (λ_=>True):=
 (Vp Tryz.underlying34 rfl (by kernel_rfl) (by kernel_rfl) (by kernel_rfl) (Yw Tryz.underlying2) rCubs nN).to (λy=>(⟨y.1,y.2.1,y.2.2⟩:Af)) (λ_=>rfl) (λ_ _=>trivial)
end
end Go.Ae
