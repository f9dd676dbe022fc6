/- Lemmas. Conditions: none. -/
import Derived.Test.YtkjfcnnfidnpcaaGreatDoorP09
set_option linter.all false
set_option maxHeartbeats 8000000
set_option maxRecDepth 100000
namespace Go.Ae
open Go.Proofs
def Qt7{n:Bc}(hn:Ds n)(hc:I9 n){q:Int}{st qu:List Int}(O:st.length=n.Cnt.toNat)(hP:FD n q (st,qu)){p:Int}(Q:0<=p)(Z:p<n.Cnt){d:Nat}(hd:st[p.toNat]? =some (d:Int))(w:Int):
 ∀k,k<=d->Dg (BP n st p k).1 w=Dg n w+(if p=w then 1 else 0) - (if (BP n st p k).2=w then 1 else 0)
 |0,_=>by simp only[BP];omega
 |k+1,hk=>by
  have ih:=Qt7 hn hc O hP Q Z hd w k (by omega);have hI:=lK hn hc O hP Q Z hd k (by omega);obtain⟨m,r,hm,hr,hg,aa,af⟩:=zB hn O hP (by omega) hI;have ad:(BP n st p k).1.At[m]? =some r:=by rw[hI.at_];exact hr
  have e:(BP n st p (k+1)).1=HW (BP n st p k).1 m (GO (BP n st p k).1 st m).2:=by simp only[BP,hm]
  have e2:(BP n st p (k+1)).2=(GO (BP n st p k).1 st m).1:=by simp only[BP,hm]
  rw[e,e2,Qzc hI.ok ad hg.1,hg.2.2.1,ih,hm];have ab:=hg.2.2.2.1;rw[B5,aa,AO] at ab;have ac:(m:Int)≠(GO (BP n st p k).1 st m).1:=by
   intro he;rw[<-he,B5,aa,AO] at ab;omega
  obtain⟨z,hz⟩: ∃z,z=(GO (BP n st p k).1 st m).1:=⟨_,rfl⟩;rw[<-hz] at ac⊢;by_cases c1:p=w<;>by_cases c2:(m:Int)=w<;>by_cases c3:z=w<;>simp only[c1,c2,c3,BM,CB]<;>omega
def NA(n:Bc)(p q:Int):Prop:= ∀w,w≠p->w≠q->Dg n w=0
def OD{n:Bc}(hn:Ds n)(hc:I9 n){p q:Int}(O:0<=p)(Q:p<n.Cnt)(Z:0<=q)(aa:q<n.Cnt)(hg:(Fj n p q).2=true)(ab:NA n p q):NA (Fj n p q).1 p q:=by
 have z:=rZ hn Z aa;have hP:FD n q (Fh n q,(CA n q n.Cnt.toNat).2):=NC hn Z aa n.Cnt.toNat;obtain⟨x,hx⟩: ∃x,(Fh n q)[p.toNat]? =some x:=⟨_,Bk (by omega)⟩;intro w h1 h2;simp only[Fj,hx,AO] at hg⊢;by_cases h:x<0
 .rw[Ak h] at hg;simp at hg
 .obtain⟨d,rfl⟩: ∃d:Nat,x=d:=⟨x.toNat,by omega⟩;rw[Ad h,B5];have hI:=lK hn hc z hP O Q hx d (AN _);obtain⟨m,hm,ad,ac⟩:=hI.v;have af:m=q.toNat:=hP.uniq m (by rw[ac];congr 1;omega);have ho:=Qt7 hn hc z hP O Q hx w d (AN _);rw[Ad (EJ h1),hm,Ad (by omega),ab w h1 h2] at ho;simpa using ho
def Que{p q:Int}(z:0<=p)(O:0<=q)(aa:p≠q): ∀(m:Nat) (n:Bc),Ds n->I9 n->p<n.Cnt->q<n.Cnt->NA n p q->Ds (G5 p q m n).1/\I9 (G5 p q m n).1/\(G5 p q m n).1.Cnt=n.Cnt/\(G5 p q m n).1.Bonds=n.Bonds/\
 (G5 p q m n).1.At=n.At/\NA (G5 p q m n).1 p q/\Dg (G5 p q m n).1 p=Dg n p+(G5 p q m n).2/\0<=(G5 p q m n).2/\((G5 p q m n).2=m\/(Fj (G5 p q m n).1 p q).2=false)
 |0,n,Q,Z,_,_,h5=>⟨Q,Z,rfl,rfl,rfl,h5,by simp[G5],by simp[G5],.inl (by simp[G5])⟩
 |m+1,n,Q,Z,h3,h4,h5=>by
  simp only[G5];by_cases hg:(Fj n p q).2=true
  .rw[Ak hg];obtain⟨g1,g2,g3,g4,g5,g6⟩:=LY Q Z z h3 O h4 aa hg;have g7:=OD Q Z z h3 O h4 hg h5;obtain⟨k1,k2,k3,k4,k5,k6,k7,k8,k9⟩:=Que z O aa m _ g1 g2 (by omega) (by omega) g7;refine⟨k1,k2,k3.trans g3,k4.trans g4,k5.trans g5,k6,by simp only;omega,by simp only;omega,?_⟩;rcases k9 with h|h
   .exact .inl (by simp only;omega)
   .exact .inr h
  .rw[Ad hg];exact⟨Q,Z,rfl,rfl,rfl,h5,by simp,by simp,.inr (by simpa using hg)⟩
def Qu0{n:Int}{bs:List Ag}(h:Zw (n,bs))(hs:PX bs){p q:Int}(z:0<=p)(Z:0<=q)(O:p<n)(aa:q<n)(Q:p≠q):Ds (Eb n bs p q).1/\I9 (Eb n bs p q).1/\(Eb n bs p q).1.Cnt=n/\(Eb n bs p q).1.Bonds=bs/\
 (Eb n bs p q).1.At=(CW n bs).At/\NA (Eb n bs p q).1 p q/\Dg (Eb n bs p q).1 p=(Eb n bs p q).2/\0<=(Eb n bs p q).2/\(Fj (Eb n bs p q).1 p q).2=false:=by
 obtain⟨h1,h2⟩:=Mv h hs;obtain⟨k1,k2,k3,k4,k5,k6,k7,k8,k9⟩:=Que z Z Q ((bs.map Ag.Strength).sum.toNat+1) (CW n bs) h1 h2 O aa (λw _ _=>Qtg w);rw[Qtg,Int.zero_add] at k7;refine⟨k1,k2,k3,k4,k5,k6,k7,k8,?_⟩;rcases k9 with h9|h9
 .exfalso;have h4:(G5 p q ((bs.map Ag.Strength).sum.toNat+1) (CW n bs)).1.Bonds=bs:=k4
  have:=TJ k1 k2 p
  rw[h4] at this;omega
 .exact h9
def oL{n:Bc}(hn:Ds n){v:Nat}{r:List Int}(hr:n.At[v]? =some r){y:Int}(Z:0<=y): ∀(l:List Int) (s:List Int×List Int),(∀i∈l,i∈r)->WG n s->s.1[v]? =some y-> ∀i∈l,0<(Dl n (D3 n v i) i).1-> ∃z,(l.foldl (B6 n v) s).1[(D3 n v i).toNat]? =some z/\0<=z
 |[],s,_,_,_,i,O,_=>by cases O
 |j::l,s,hl,hs,hv,i,O,Q=>by
  have hj:=hl j (BR ..);rcases Be.1 O with rfl|O
  .obtain⟨_,_,o1,o2⟩:=eD hn hr hj;obtain⟨z,hz⟩: ∃z,s.1[(D3 n v i).toNat]? =some z:=⟨_,Bk (by rw[hs.len];omega)⟩;have aa: ∃z,(B6 n v s i).1[(D3 n v i).toNat]? =some z/\0<=z:=by
    by_cases h0:0<=z
    .exact⟨z,sB n v s i _ z hz h0,h0⟩
    .refine⟨y+1,?_,by omega⟩;simp only[B6];rw[Ak ⟨by rw[hz,AO];omega,Q⟩,B5,hv,AO];exact Dv (by rw[hs.len];omega)
   obtain⟨z',g1,g2⟩:=aa;exact⟨z',Qor n v _ z' g2 l _ g1,g2⟩
  .exact oL hn hr Z l _ (λj hj=>hl j (BQ _ hj)) (Qtm hn hr hj hs) (sB n v s j v y hv Z) i O Q
def Qzj(n:Bc)(v:Int): ∀(l:List Int) (s:List Int×List Int),∃e,(l.foldl (B6 n v) s).2=s.2++e
 |[],s=>⟨[],by simp⟩
 |i::l,s=>by
  obtain⟨e,z⟩:=Qzj n v l (B6 n v s i);simp only[gD,z];simp only[B6];split
  .exact⟨[D3 n v i]++e,by simp⟩
  .exact⟨e,rfl⟩
def Xi(n:Bc)(q:Int)(k:Nat): ∃e,(CA n q (k+1)).2=(CA n q k).2++e:=by
 rw[CA];split
 .exact⟨[],by simp⟩
 .exact Qzj n _ _ _
def Ow(n:Bc)(q:Int)(u:Nat)(y:Int)(h0:0<=y)(k:Nat)(h:(CA n q k).1[u]? =some y):(CA n q (k+1)).1[u]? =some y:=by
 rw[CA];split
 .exact h
 .exact Qor n _ u y h0 _ _ h
def Qzn{n:Bc}(hn:Ds n){q:Int}(h0:0<=q)(h1:q<n.Cnt): ∀(k j:Nat) (v:Int),j<k->(CA n q k).2[j]? =some v-> ∀(r:List Int),n.At[v.toNat]? =some r-> ∀i∈r,0<(Dl n (D3 n v i) i).1-> ∃z,(CA n q k).1[(D3 n v i).toNat]? =some z/\0<=z
 |0,j,v,hj,_,_,_,_,_,_=>by omega
 |k+1,j,v,hj,O,r,Z,i,hi,Q=>by
  obtain⟨e,he⟩:=Xi n q k;by_cases ac:j<(CA n q k).2.length
  .rw[he,EA ac] at O;by_cases ab:j<k
   .obtain⟨z,g1,g2⟩:=Qzn hn h0 h1 k j v ab O r Z i hi Q;exact⟨z,Ow n q _ z g2 k g1,g2⟩
   .have:j=k:=by omega
    subst this;have hI:=W6 hn h0 h1 j;have aa:=NC hn h0 h1 j;have af:=hI.q v (Ba O);obtain⟨m,rfl⟩: ∃m:Nat,v=m:=⟨v.toNat,by omega⟩;obtain⟨y,hy,ad⟩:=aa.qs _ (Ba O);rw[B5] at hy Z;rw[CA,O];simp only[B5,Z,AO];exact oL hn Z ad r _ (λ_ h=>h) hI hy i hi Q
  .have e1:CA n q (k+1)=CA n q k:=by rw[CA,Fm (by omega)]
   rw[e1] at O
   have:=(Cx.1 O).1
   omega
def Rz{n:Bc}(hn:Ds n){q:Int}(h0:0<=q)(h1:q<n.Cnt): ∀(k u:Nat) (y:Int),(CA n q k).1[u]? =some y->0<=y->(u:Int)∈(CA n q k).2
 |0,u,y,z,O=>by
  have hq:q.toNat<n.Cnt.toNat:=by omega
  simp only[CA] at z⊢;by_cases h:q.toNat=u
  .rw[BS];omega
  .rw[DM h] at z
   have:=Od (Ba z)
   omega
 |k+1,u,y,z,O=>by
  have ih:=Rz hn h0 h1 k;have hI:=W6 hn h0 h1 k;have Q: ∀(v:Int) (l:List Int) (s:List Int×List Int),(∀i∈l,0<=D3 n v i)->(∀(u:Nat) (y:Int),s.1[u]? =some y->0<=y->(u:Int)∈s.2)-> ∀(u:Nat) (y:Int),(l.foldl (B6 n v) s).1[u]? =some y->0<=y->(u:Int)∈(l.foldl (B6 n v) s).2:=by
   intro v l;induction l with
   |nil=>intro s _ Z;exact Z
   |cons i l aa=>
    intro s hl Z;refine aa _ (λj hj=>hl j (BQ _ hj)) ?_;intro u y z O;have ho:=hl i (BR ..);simp only[B6] at z⊢;split at z
    .rename_i hc;rw[Ak hc];simp only[Bs,BS] at z⊢;by_cases he:(D3 n v i).toNat=u
     .right;omega
     .rw[DM he] at z;exact .inl (Z u y z O)
    .rename_i hc;rw[Ad hc];exact Z u y z O
  rw[CA] at z⊢;split at z
  .exact ih u y z O
  .rename_i v hv;have ab:=hI.q v (Ba hv);obtain⟨m,rfl⟩: ∃m:Nat,v=m:=⟨v.toNat,by omega⟩;obtain⟨r,hr⟩: ∃r,n.At[m]? =some r:=⟨_,Bk (by have:=hn.al;omega)⟩;simp only[B5,hr,AO] at z⊢;exact Q m r _ (λi hi=>(eD hn hr hi).2.2.1) ih u y z O
def Qmo{n:Bc}(hn:Ds n){q:Int}(h0:0<=q)(O:q<n.Cnt){v:Nat}{y:Int}(hv:(Fh n q)[v]? =some y)(hy:0<=y){r:List Int}(hr:n.At[v]? =some r){i:Int}(hi:i∈r)(Q:0<(Dl n (D3 n v i) i).1):
 ∃z,(Fh n q)[(D3 n v i).toNat]? =some z/\0<=z:=by
 have hm:=Rz hn h0 O n.Cnt.toNat v y hv hy;obtain⟨j,Z⟩:=V4.1 hm;have aa:=(Cx.1 Z).1;have ab:=zJ hn.c0 (W6 hn h0 O n.Cnt.toNat);exact Qzn hn h0 O n.Cnt.toNat j v (by omega) Z r (by rwa [B5]) i hi Q
def Yl(n:Bc)(S:Nat->Bool):Int:=(List.zipWith (λb f=>(if S b.A.toNat=true then f else 0) - (if S b.B.toNat=true then f else 0)) n.Bonds n.Flow).sum
def oP(S:Nat->Bool)(m:Nat): ∀(bs:List Ag) (z:List Int),(∀b∈bs,0<=b.A/\b.A<m/\0<=b.B/\b.B<m/\b.A≠b.B)->
 AH (λv=>if S v=true then (List.zipWith (J9 (v:Int)) bs z).sum else 0) m=(List.zipWith (λb f=>(if S b.A.toNat=true then f else 0) - (if S b.B.toNat=true then f else 0)) bs z).sum
 |[],z,_=>by
  simp only[List.zipWith_nil_left,Zfc];refine (F2 λi _=> ?_).trans (QI m)
  split<;>rfl
 |b::bs,[],_=>by
  simp only[Zea,Zfc];refine (F2 λi _=> ?_).trans (QI m)
  split<;>rfl
 |b::bs,f::z,h=>by
  have ih:=oP S m bs z (λx Q=>h x (BQ _ Q));obtain⟨b1,b2,b3,b4,b5⟩:=h b (BR ..);simp only[fV,Lx];rw[<-ih];have e:AH (λv=>if S v=true then J9 (v:Int) b f+(List.zipWith (J9 (v:Int)) bs z).sum else 0) m=
   (AH (λv=>if v=b.A.toNat then (if S b.A.toNat=true then f else 0) else 0) m+ - AH (λv=>if v=b.B.toNat then (if S b.B.toNat=true then f else 0) else 0) m)+AH (λv=>if S v=true then (List.zipWith (J9 (v:Int)) bs z).sum else 0) m:=by
   rw[<-sO,<-QM,<-QM];refine F2 λv _=> ?_
   simp only[J9];by_cases c1:v=b.A.toNat
   .have O: ¬v=b.B.toNat:=by omega
    rw[Ak (show b.A=(v:Int) by omega),Ak c1,Ad O,<-c1];cases S v<;>simp
   .rw[Ad (show ¬b.A=(v:Int) by omega),Ad c1];by_cases O:v=b.B.toNat
    .rw[Ak (show b.B=(v:Int) by omega),Ak O,<-O];cases S v<;>simp
    .rw[Ad (show ¬b.B=(v:Int) by omega),Ad O];cases S v<;>simp
  rw[e,W3,W3,Ak (show b.A.toNat<m by omega),Ak (show b.B.toNat<m by omega)];omega
def M3{n:Bc}(hn:Ds n){p q:Int}(aa:0<=p)(ab:p<n.Cnt)(O:NA n p q){S:Nat->Bool}(hS:S p.toNat=true)(hT:S q.toNat=false)(ac:0<=q):Yl n S=Dg n p:=by
 have Z:=oP S n.Cnt.toNat n.Bonds n.Flow (λb Q=>by
  have:=hn.bs b Q
  have:=hn.ne b Q
  omega)
 rw[Yl,<-Z];have h2:AH (λv=>if S v=true then (List.zipWith (J9 (v:Int)) n.Bonds n.Flow).sum else 0) n.Cnt.toNat=AH (λv=>if v=p.toNat then Dg n p else 0) n.Cnt.toNat:=by
  refine F2 λv hv=> ?_
  by_cases z:v=p.toNat
  .subst z;rw[Ak rfl,Ak hS,show ((p.toNat:Nat):Int)=p by omega];rfl
  .rw[Ad z];cases hSv:S v with
   |false=>rw[Ad (by simp)]
   |true=>
    rw[Ak rfl];have ad:v≠q.toNat:=λhe=>by rw[he,hT] at hSv;cases hSv
    exact O v (by omega) (by omega)
 rw[h2,W3,Ak (by omega)]
def Qw5(S:Nat->Bool): ∀(bs:List Ag) (Q:List Int),(∀(i:Nat) b f,bs[i]? =some b->Q[i]? =some f-> -b.Strength<=f/\f<=b.Strength)->(∀b∈bs,0<=b.Strength)->(List.zipWith (λb f=>(if S b.A.toNat=true then f else 0) - (if S b.B.toNat=true then f else 0)) bs Q).sum<=CI S bs
 |[],_,_,_=>by simp[CI]
 |x::r,[],_,z=>by
  have Z:=Qw5 S r [] (λi b f _ h=>by simp at h) (λb O=>z b (BQ _ O));have h2:=z x (BR ..);simp only[Zea,Zfc,CI] at Z⊢
  split<;>omega
 |x::r,y::s,hc,z=>by
  have Z:=Qw5 S r s (λi b f h h'=>hc (i+1) b f (by simpa using h) (by simpa using h')) (λb O=>z b (BQ _ O));have h3:=hc 0 x y rfl rfl;simp only[fV,Lx,CI];cases S x.A.toNat<;>cases S x.B.toNat<;>simp<;>omega
def M2(S:Nat->Bool): ∀(bs:List Ag) (z:List Int),z.length=bs.length->(∀(i:Nat) b f,bs[i]? =some b->z[i]? =some f->(S b.A.toNat=true->S b.B.toNat=false->f=b.Strength)/\(S b.A.toNat=false->S b.B.toNat=true->f= -b.Strength))->(List.zipWith (λb f=>(if S b.A.toNat=true then f else 0) - (if S b.B.toNat=true then f else 0)) bs z).sum=CI S bs
 |[],_,_,_=>by simp[CI]
 |x::r,[],h,_=>by simp at h
 |x::r,y::s,h,O=>by
  have Q:=M2 S r s (by simpa using h) (λi b f h h'=>O (i+1) b f (by simpa using h) (by simpa using h'));obtain⟨Z,h3⟩:=O 0 x y rfl rfl;simp only[fV,Lx,CI,Q];cases hA:S x.A.toNat<;>cases hB:S x.B.toNat<;>simp
  .have:=h3 hA hB;omega
  .exact Z hA hB
def Sh{n:Int}{bs:List Ag}(h:Zw (n,bs))(hs:PX bs){p q:Int}(aa:0<=p)(O:0<=q)(af:p<n)(ah:q<n)(ag:p≠q):
 0<=(Eb n bs p q).2/\(∀S:Nat->Bool,S p.toNat=true->S q.toNat=false->(Eb n bs p q).2<=CI S bs)/\ ∃S:Nat->Bool,S p.toNat=true/\S q.toNat=false/\CI S bs=(Eb n bs p q).2:=by
 obtain⟨k1,k2,k3,k4,k5,k6,k7,k8,k9⟩:=Qu0 h hs aa O af ah ag;obtain⟨N,hN⟩: ∃N,N=(Eb n bs p q).1:=⟨_,rfl⟩;obtain⟨val,hval⟩: ∃val,val=(Eb n bs p q).2:=⟨_,rfl⟩;simp only[<-hN,<-hval] at k1 k2 k3 k4 k5 k6 k7 k8 k9⊢;refine⟨k8,λS hS hT=> ?_,?_⟩
 .have h1:=M3 k1 aa (by omega) k6 hS hT O;have h2:=Qw5 S N.Bonds N.Flow k2 (λb Q=>(k1.st b Q).1);rw[k4] at h2;simp only[Yl,k4] at h1;omega
 .have aj:=rZ k1 O (by omega);obtain⟨x,hx⟩: ∃x,(Fh N q)[p.toNat]? =some x:=⟨_,Bk (by omega)⟩;have ac:x<0:=by
   simp only[Fj,hx,AO] at k9;by_cases h0:x<0
   .exact h0
   .rw[Ad h0] at k9;simp at k9
  have Z:=(NC k1 O (show q<N.Cnt by omega) N.Cnt.toNat).zero;have Z:(Fh N q)[q.toNat]? =some 0:=Z;refine⟨λv=>decide ((Fh N q)[v]?.getD 0<0),by simp only[hx,AO,B3];exact ac,by simp[Z],?_⟩;have hS:decide ((Fh N q)[p.toNat]?.getD 0<0)=true:=by simp only[hx,AO,B3];exact ac
  have hT:decide ((Fh N q)[q.toNat]?.getD 0<0)=false:=by simp[Z]
  have h1:=M3 (S:=λv=>decide ((Fh N q)[v]?.getD 0<0)) k1 aa (by omega) k6 hS hT O;have h2:=M2 (λv=>decide ((Fh N q)[v]?.getD 0<0)) N.Bonds N.Flow k1.fl ?_
  .simp only[Yl,k4] at h1;rw[k4] at h2;omega
  .intro i b f Q hf;have ak:=k1.bs b (Ba Q);have ad:=k1.ne b (Ba Q);obtain⟨⟨rA,a1,a2⟩,⟨rB,c1,c2⟩⟩:=k1.all i b Q;have ai:=k2 i b f Q hf;obtain⟨yA,hA⟩: ∃y,(Fh N q)[b.A.toNat]? =some y:=⟨_,Bk (by omega)⟩;obtain⟨yB,hB⟩: ∃y,(Fh N q)[b.B.toNat]? =some y:=⟨_,Bk (by omega)⟩;simp only[hA,hB,AO,B3,Lw];refine⟨λe1 e2=> ?_,λe1 e2=> ?_⟩
   ·
    have ho:D3 N b.B i=b.A:=by simp only[D3,B5,Q];omega
    have hr:(Dl N b.A i).1=b.Strength - f:=by simp only[Dl,B5,Q,hf,AO,BM]
    by_cases ab:0<b.Strength - f
    .have:=Qmo k1 O (by omega) (v:=b.B.toNat) hB (by omega) c1 c2 (by rw[show ((b.B.toNat:Nat):Int)=b.B by omega,ho,hr];exact ab)
     rw[show ((b.B.toNat:Nat):Int)=b.B by omega,ho,hA] at this;obtain⟨z,g1,g2⟩:=this
     have:=A7 g1
     omega
    .omega
   .have ho:D3 N b.A i=b.B:=by simp only[D3,B5,Q];omega
    have hr:(Dl N b.B i).1=b.Strength+f:=by simp only[Dl,B5,Q,hf,AO];rw[Ad ad]
    by_cases ab:0<b.Strength+f
    .have:=Qmo k1 O (by omega) (v:=b.A.toNat) hA (by omega) a1 a2 (by rw[show ((b.A.toNat:Nat):Int)=b.A by omega,ho,hr];exact ab)
     rw[show ((b.A.toNat:Nat):Int)=b.A by omega,ho,hB] at this;obtain⟨z,g1,g2⟩:=this
     have:=A7 g1
     omega
    .omega
def FA(n:Int)(bs:List Ag):Nat->Int×List Int
 |0=>(-1,[])
 |k+1=>if (FA n bs k).1<0\/Gk (Eb n bs 0 (k+1)).2 (fI (Eb n bs 0 (k+1)).1 (k+1)) (FA n bs k).1 (FA n bs k).2=true then ((Eb n bs 0 (k+1)).2,fI (Eb n bs 0 (k+1)).1 (k+1)) else FA n bs k
def weakC.fv(a:Int×(List Ag)):Int×(List Int):=(λn bs=>FA n bs (n - 1).toNat) (a.1) (a.2)
def weakC.row:Ay:=vK (b2 qI (qS Ag.d_le Ag.c_n)) (r2 rI (rS DO Dc)) (λa=>Zw (a.1,a.2)/\PX a.2/\1<=a.1) weakC.fv
def weakC.q:=AT (R:=weakC.row) rfl
def weakC.ok:A9 121 weakC.row:=by
 refine vw (tC l07Before.ok (tC flC.ok (tC sideC.ok tN))) Tryz.func121 ?_;intro a Z;simp only[Tryz.f121];simp only[ZA,simprocAttr,weakC.fv];obtain⟨Q,aa,ad⟩:=Z;have ab:=Q.2.1;simp only at ab;obtain⟨n,hn⟩: ∃n:Nat,a.1=n+1:=⟨(a.1 - 1).toNat,by omega⟩;rw[show (a.1 - 1).toNat=n by omega];refine AU.frr ⟨{k:Nat//k<=n},λk=>⟨[(8,.im (.int .i64 ((k.1:Int)+1))),(7,.im (.sl false 1 ((FA a.1 a.2 k.1).2.map Aj))),(6,.im (.int .i64 (FA a.1 a.2 k.1).1)),(0,.im (.int .i64 a.1)),(1,.im (.sl false 3 (a.2.map Ag.c)))],[],2⟩,λk=>n - k.1,λk=>⟨by simp[ZG],by simp⟩,⟨⟨0,by simp⟩,[1],[],?_⟩,λk=> ?_⟩
 .simp only[Aw];simp only[ZA,simprocAttr,FA]
  try simp
 obtain⟨k,ac⟩:=k;simp only[ZA,simprocAttr,AR];refine⟨λhk=> ?_,λhk=> ?_⟩
 .refine AA.os (a.1,a.2,0,(k:Int)+1) [] ⟨Q,aa,by simp,by simp only;omega,by simp only;omega,by simp only;omega,by simp only;omega⟩ (λj=>by simp[Al,hget]) rfl rfl ?_ ?_
  .simp only[ZA,simprocAttr,flC.ca]
  .simp only[ZZ,simprocAttr,CS,l07Before.q,l07Before.fv,sideC.q,sideC.fv,flC.H1,flC.r0,AR];obtain⟨k1,k2,k3,k4,k5,_⟩:=Qu0 (p:=0) (q:=(k:Int)+1) Q aa (by omega) (by omega) (by omega) (by omega) (by omega);have O:({Cnt:=a.1,Bonds:=a.2,At:=(CW a.1 a.2).At,Flow:=(flC.net (a.1,a.2,0,(k:Int)+1)).Flow}:Bc)=(Eb a.1 a.2 0 ((k:Int)+1)).1:=by
    rw[<-k5];simp only[flC.net]
    conv=>rhs;rw[show (Eb a.1 a.2 0 ((k:Int)+1)).1=⟨(Eb a.1 a.2 0 ((k:Int)+1)).1.Cnt,(Eb a.1 a.2 0 ((k:Int)+1)).1.Bonds,(Eb a.1 a.2 0 ((k:Int)+1)).1.At,(Eb a.1 a.2 0 ((k:Int)+1)).1.Flow⟩ from rfl]
    rw[k3,k4]
   rw[O];have hw:IntKind.i64.wrap ((k:Int)+1+1)=(k:Int)+1+1:=AC (by omega) (by omega);have z:FA a.1 a.2 (k+1)=if (FA a.1 a.2 k).1<0\/Gk (Eb a.1 a.2 0 ((k:Int)+1)).2 (fI (Eb a.1 a.2 0 ((k:Int)+1)).1 ((k:Int)+1)) (FA a.1 a.2 k).1 (FA a.1 a.2 k).2=true then ((Eb a.1 a.2 0 ((k:Int)+1)).2,fI (Eb a.1 a.2 0 ((k:Int)+1)).1 ((k:Int)+1)) else FA a.1 a.2 k:=rfl
   refine⟨⟨k1,by omega,by omega⟩,λh0=>⟨λh1=>⟨⟨k+1,by omega⟩,[],[],by simp only;omega,?_⟩,λh1=>⟨⟨k+1,by omega⟩,[],[],by simp only;omega,?_⟩⟩,λh0=>⟨⟨k+1,by omega⟩,[],[],by simp only;omega,?_⟩⟩
   .rw[Ak (.inr h1)] at z;simp only[Aw];simp only[ZA,simprocAttr,z,hw];omega
   .rw[Ad (λh=>h.elim h0 h1)] at z;simp only[Aw];simp only[ZA,simprocAttr,z,hw];omega
   .rw[Ak (.inl (Gi.1 h0))] at z;simp only[Aw];simp only[ZA,simprocAttr,z,hw];omega
 .have:k=n:=by omega
  rw[this]
def Qzk{n:Int}{bs:List Ag}(h:Zw (n,bs))(hs:PX bs){t:Int}(ht:0<=t): ∀k:Nat,(k:Int)<n->(0<k->0<=(FA n bs k).1/\(t<=(FA n bs k).1↔WF n.toNat bs t k))
 |0,_=>λh0=>by omega
 |k+1,hk=>λ_=>by
  obtain⟨f1,f2,S,f3,f4,f5⟩:=Sh h hs (p:=0) (q:=(k:Int)+1) (by omega) (by omega) (by omega) (by omega) (by omega);simp only[Int.toNat_zero,show ((k:Int)+1).toNat=k+1 by omega] at f2 f3 f4;obtain⟨v,hv⟩: ∃v,v=(Eb n bs 0 ((k:Int)+1)).2:=⟨_,rfl⟩;obtain⟨sd,hsd⟩: ∃sd,sd=fI (Eb n bs 0 ((k:Int)+1)).1 ((k:Int)+1):=⟨_,rfl⟩;have ab:t<=v↔ ∀S:Nat->Bool,S 0=true->S (k+1)=false->t<=CI S bs:=by
   constructor
   .intro z S Q hT
    have:=f2 S Q hT
    omega
   .intro z
    have:=z S f3 f4
    omega
  have aa:WF n.toNat bs t (k+1)↔WF n.toNat bs t k/\t<=v:=by
   rw[ab];constructor
   .intro z;exact⟨λS Q ⟨y,y1,y2,y3,y4⟩=>z S Q ⟨y,y1,by omega,y3,y4⟩,λS Q hT=>z S Q ⟨k+1,by omega,by omega,by omega,hT⟩⟩
   .rintro⟨z,h2⟩ S Q ⟨y,y1,y2,y3,y4⟩;by_cases hy:y<=k
    .exact z S Q ⟨y,y1,hy,y3,y4⟩
    .exact h2 S Q (by rw[show k+1=y by omega];exact y4)
  rw[aa];simp only[FA,<-hv,<-hsd];by_cases ac:k=0
  .subst ac;rw[Ak (.inl (by simp[FA]))];refine⟨by simp only;omega,?_⟩;simp only;constructor
   .intro z;exact⟨λS _ ⟨y,y1,y2,_,_⟩=>by omega,z⟩
   .exact λz=>z.2
  .obtain⟨i1,i2⟩:=Qzk h hs ht k (by omega) (by omega);rw[<-i2];by_cases O:(FA n bs k).1<0\/Gk v sd (FA n bs k).1 (FA n bs k).2=true
   .rw[Ak O];have ad:v<=(FA n bs k).1:=by
     rcases O with O|O
     .omega
     .simp only[Gk] at O;split at O
      .omega
      .simp only[B3] at O;omega
    simp only;exact⟨by omega,by omega,by omega⟩
   .rw[Ad O];have ad:(FA n bs k).1<=v:=by
     have Z: ¬Gk v sd (FA n bs k).1 (FA n bs k).2=true:=λh=>O (.inr h)
     simp only[Gk] at Z;split at Z
     .omega
     .simp only[B3] at Z;omega
    exact⟨i1,by omega,by omega⟩
def EY(l:List Int):Nat->List Int
 |0=>l
 |i+1=>((EY l i).set i ((EY l i)[l.length - 1 - i]?.getD 0)).set (l.length - 1 - i) ((EY l i)[i]?.getD 0)
def zZ(l:List Int): ∀i,(EY l i).length=l.length
 |0=>rfl
 |i+1=>by simp only[EY,Fc,zZ l i]
def oI(l:List Int): ∀i,2*i<=l.length-> ∀k,k<l.length->(EY l i)[k]? =if k<i\/l.length - i<=k then l[l.length - 1 - k]? else l[k]?
 |0,_,k,Z=>by simp only[EY];rw[Ad (by omega)]
 |i+1,hi,k,Z=>by
  have ih:=oI l i (by omega);have hl:=zZ l i;have g1:(EY l i)[l.length - 1 - i]?.getD 0=l[l.length - 1 - i]?.getD 0:=by rw[ih _ (by omega),Ad (by omega)]
  have g2:(EY l i)[i]?.getD 0=l[i]?.getD 0:=by rw[ih _ (by omega),Ad (by omega)]
  have gd: ∀j,j<l.length->some (l[j]?.getD 0)=l[j]? :=λj hj=>by rw[Bk hj];rfl
  rw[EY,g1,g2];by_cases z:l.length - 1 - i=k
  .subst z;rw[Dv (by rw[Fc,hl];omega),Ak (by omega),gd _ (by omega)];congr 1;omega
  .rw[DM z];by_cases O:i=k
   .subst O;rw[Dv (by rw[hl];omega),Ak (by omega),gd _ (by omega)]
   .rw[DM O,ih k Z];by_cases Q:k<i\/l.length - i<=k
    .rw[Ak Q,Ak (by omega)]
    .rw[Ad Q,Ad (by omega)]
def Uh(l:List Int){i:Nat}(O:2*i<=l.length)(Q:l.length<=2*i+1):EY l i=l.reverse:=by
 apply Kt;intro k;by_cases z:k<l.length
 .rw[oI l i O k z,ZeY z];by_cases h:k<i\/l.length - i<=k
  .rw[Ak h]
  .rw[Ad h];congr 1;omega
 .rw[Fm (by rw[zZ];omega),Fm (by rw[mS];omega)]
def dL(l:List Int)(i:Nat)(x:Int):(l.map Aj).set i [.int .i64 x]=(l.set i x).map Aj:=by rw[Of];rfl
def revC.ca(_:List Int):List AV:=[.own 0]
def revC.H0(a:List Int):Ao:=[(0,(true,.arr 3 1 (a.map Aj)))]
def revC.H1(a:List Int):Ao:=[(0,(true,.arr 3 1 (a.reverse.map Aj)))]
def revC.row:Ay:=AA revC.ca revC.H0 1 (λ_=>True) (λj=>j==0) (λ_=> .im (.tup [])) revC.H1 0
def revC.ok:A9 225 revC.row:=by
 refine ow tN Tryz.func225 (exB:=λ_=>false) (R:=λ_ r=>r= .im (.tup [])) (λ_=>rfl)
  (λa=>by simp[revC.ca,revC.H0,AE,AV.bel,Au,BB,BU,Ac.nms,Al,hget]) (λa p hp=> ?_) (λa r h=>by subst h;exact CN.refl _) ?_
 rotate_left
 intro a Z;simp only[Tryz.f225,revC.ca,revC.H0,revC.H1];simp only[ZA,simprocAttr];intro aa;rw[AC (by omega) (by omega)];refine AU.old ⟨{i:Nat//2*i<=a.length},λi=>⟨[(2,.im (.int .i64 i.1)),(3,.im (.int .i64 ((a.length:Int) - 1 - i.1))),(0,.own 0)],[(0,(true,.arr 3 1 ((EY a i.1).map Aj)))],1⟩,λi=>a.length - i.1,λi=>⟨by simp[ZG],by simp⟩,⟨⟨0,by simp⟩,?_⟩,λi=> ?_⟩
 .simp only[ZA,simprocAttr,sub];exact⟨by omega,by rw[EY]⟩
 obtain⟨i,hi⟩:=i;have Q:=zZ a i;simp only[ZA,simprocAttr,sub,AR,Q,dL,Fc];refine⟨λO=>⟨by omega,by omega,by omega,λx hx=>⟨by omega,by omega,λy hy=>⟨by omega,by omega,λz hz=>⟨by omega,by omega,by omega,λu hu=> ?_⟩⟩⟩⟩,λO=> ?_⟩
 .refine⟨⟨i+1,by omega⟩,by simp only;omega,?_⟩;have w1:IntKind.i64.wrap ((a.length:Int) - 1 - i - 1)=(a.length:Int) - 1 - i - 1:=AC (by omega) (by omega);have w2:IntKind.i64.wrap ((i:Int)+1)=(i:Int)+1:=AC (by omega) (by omega);simp only[w1,w2];refine⟨⟨by omega,by omega⟩,?_⟩;simp only[EY];rw[show a.length - 1 - i=((a.length:Int) - 1 - i).toNat by omega,hx,hy];rfl
 .rw[Uh a hi (by omega)]
 simp[revC.H1] at hp;subst hp;exact .inl ⟨by omega,rfl,rfl⟩
def clonC.ca(a:List Ah):List AV:=[.im (.sl false 3 (a.map Ah.c))]
def clonC.H1(a:List Ah):Ao:=[(0,(true,.arr 97 3 (a.map Ah.c)))]
def clonC.row:Ay:=AA clonC.ca (λ_=>[]) 0 (λa=>a.length<=1000000) (λ_=>false) (λ_=> .own 0) clonC.H1 20
def clonC.ok:A9 65 clonC.row:=by
 refine Qr tN Tryz.func65 (exB:=λj=>j==0) (R:=λ_ r=>r= .own 0) (λ_=>rfl)
  (λa=>by simp[clonC.ca,AE,AV.bel,Au,BB,BU]) (λa p hp=> ?_) (λa r h=>by subst h;exact CN.refl _) ?_
 rotate_left
 intro a z;simp only[Tryz.f65,clonC.ca,clonC.H1];simp only[ZA,simprocAttr,F3,JM,Eo,G6];intro b O;split
 .rename_i h;have h0:=O h;refine⟨[],[(0,some 1)],⟨[(2,.own 0)],clonC.H1 a,1⟩,?_,by simp[clonC.H1,ZG],by simp,?_⟩
  .simp only[Aw,clonC.H1,h0];simp only[ZA,simprocAttr]
  .simp only[ZA,simprocAttr,clonC.H1]
 .refine⟨by omega,[],[(0,some 2)],⟨[(2,.own 0)],clonC.H1 a,1⟩,?_,by simp[clonC.H1,ZG],by simp,?_⟩
  .simp only[Aw,clonC.H1];simp only[ZA,simprocAttr]
  .simp only[ZA,simprocAttr,clonC.H1]
 simp[clonC.H1] at hp;subst hp;exact .inr ⟨by omega,by omega,rfl,rfl⟩
def clobC.ca(a:List Ag):List AV:=[.im (.sl false 3 (a.map Ag.c))]
def clobC.H1(a:List Ag):Ao:=[(0,(true,.arr 214 3 (a.map Ag.c)))]
def clobC.row:Ay:=AA clobC.ca (λ_=>[]) 0 (λa=>a.length<=1000000) (λ_=>false) (λ_=> .own 0) clobC.H1 20
def clobC.ok:A9 191 clobC.row:=by
 refine Qr tN Tryz.func191 (exB:=λj=>j==0) (R:=λ_ r=>r= .own 0) (λ_=>rfl)
  (λa=>by simp[clobC.ca,AE,AV.bel,Au,BB,BU]) (λa p hp=> ?_) (λa r h=>by subst h;exact CN.refl _) ?_
 rotate_left
 intro a z;simp only[Tryz.f191,clobC.ca,clobC.H1];simp only[ZA,simprocAttr,F3,JM,Eo,G6];intro b O;split
 .rename_i h;have h0:=O h;refine⟨[],[(0,some 1)],⟨[(2,.own 0)],clobC.H1 a,1⟩,?_,by simp[clobC.H1,ZG],by simp,?_⟩
  .simp only[Aw,clobC.H1,h0];simp only[ZA,simprocAttr]
  .simp only[ZA,simprocAttr,clobC.H1]
 .refine⟨by omega,[],[(0,some 2)],⟨[(2,.own 0)],clobC.H1 a,1⟩,?_,by simp[clobC.H1,ZG],by simp,?_⟩
  .simp only[Aw,clobC.H1];simp only[ZA,simprocAttr]
  .simp only[ZA,simprocAttr,clobC.H1]
 simp[clobC.H1] at hp;subst hp;exact .inr ⟨by omega,by omega,rfl,rfl⟩
def freeC.fv(a:Bd×Int×Int):Bool:=(Vz) (a.1) (a.2.1) (a.2.2)
def freeC.row:Ay:=D1 (b3 (qP 2 Bd.d_le) qI qI) rB (λa=>Kk a.1 a.1.Room.length/\0<=a.2.1/\a.2.1<a.1.Room.length/\0<=a.2.2/\a.2.2<a.1.Room.length) freeC.fv
def freeC.q:=DX (R:=freeC.row) rfl
def freeC.ok:A9 224 freeC.row:=by
 refine GF tN Tryz.func224 ?_;intro a z;simp only[Tryz.f224];simp only[ZZ,simprocAttr,freeC.fv,D.sc,D.scs,BC];obtain⟨O,Q,h3,Z,h5⟩:=z;have hf:=O.f;refine⟨Q,h3,λr hr=>⟨Z,by rw[O.rr r (Ba hr)];exact h5,λx hx=>⟨Q,by omega,λs hs=>⟨Z,by rw[O.ff s (Ba hs)];exact h5,λy hy=> ?_⟩⟩⟩⟩;simp only[Vz,Qyw,Qzr,hr,hs,hx,hy,AO]
def Zb:D->Option (List Int)
 | .sl true _ rows=>AQ Cl rows
 | .sl false _ (r::rows)=>AQ Cl (r::rows)
 |_=>none
def Zc: ∀d x,Zb d=some x->Le d (.sl true 1 (x.map Aj)):=by
 intro d x h;unfold Zb at h;split at h
 .rename_i k rows;have h1:=D2 (nz:=true) (k:=k) (Dr DO _ _ h) (k':=1) (by simp[Aj]);intro ok hp v Z;have Q:=h1 ok hp v Z;simp only[Ae.rd] at Q Z⊢;rcases Q with Q|⟨b,p,cap,vs,T,fr,g1,g2,g3,g4,g5,g6,g7⟩
  .rcases Z with ⟨q1,O⟩|⟨b',p',z,ab,T',aa,q1,O,q3,q4,q5,q6,q7⟩
   .exact .inl ⟨q1,Q.2⟩
   .obtain⟨ao,e⟩:=tR Q.1;rw[e] at q1;simp only[Value.slice.injEq] at q1;exact absurd (Rj.1 q1.2.1.symm) (O trivial)
  .rcases Z with ⟨q1,O⟩|⟨b',p',z,ab,T',aa,q1,O,q3,q4,q5,q6,q7⟩
   .rw[Qr7 q1] at g1;cases g1
   .refine .inr ⟨b,p,cap,vs,T,fr,g1,λ_ h0=> ?_,g3,g4,g5,g6,g7⟩;rw[q1] at g1;simp only[Value.slice.injEq] at g1;rw[h0,FS] at g1;exact O trivial (Rj.1 g1.2.1)
 .rename_i k r rows;have h1:=D2 (nz:=false) (k:=k) (Dr DO _ _ h) (k':=1) (by simp[Aj]);intro ok hp v Z;have Q:=h1 ok hp v Z;simp only[Ae.rd] at Q Z⊢;rcases Q with Q|⟨b,p,cap,vs,T,fr,g1,g2,g3,g4,g5,g6,g7⟩
  .rcases Z with ⟨q1,O⟩|⟨b',p',z,ab,T',aa,q1,O,q3,q4,q5,q6,q7⟩
   .cases O
   .obtain⟨ao,e⟩:=tR Q.1;rw[e] at q1;simp only[Value.slice.injEq,CQ] at q1;omega
  .rcases Z with ⟨q1,O⟩|⟨b',p',z,ab,T',aa,q1,O,q3,q4,q5,q6,q7⟩
   .cases O
   .refine .inr ⟨b,p,cap,vs,T,fr,g1,λ_ h0=> ?_,g3,g4,g5,g6,g7⟩;rw[q1] at g1;simp only[Value.slice.injEq,CQ] at g1;rw[h0,FS] at g1;omega
 .cases h
def tV(n:Nat)(x:Int):List.replicate n [D.int .i64 x]=(List.replicate n x).map Aj:=by rw[List.map_replicate];rfl
def Vi{k:Nat}{l:List Int}(h:l≠[]):Zb (.sl false k (l.map Aj))=some l:=by
 cases l with
 |nil=>exact absurd rfl h
 |cons x r=>exact eW (x::r)
def dI(v:Int):D:= .int .i64 v
def rept.H0_dom(a:Int×Int)(j:Nat):Al (rept.H0 a) j=true↔j<1:=by
 simp only[Al,rept.H0,hget];by_cases h0:j=0
 .subst h0;simp
 .have z:(0==j)=false:=by simp;omega
  simp[z];omega
def revC.H0_dom(a:List Int)(j:Nat):Al (revC.H0 a) j=true↔j<1:=by
 simp only[Al,revC.H0,hget];by_cases h0:j=0
 .subst h0;simp
 .have z:(0==j)=false:=by simp;omega
  simp[z];omega
def CYc:V1 Tryz.prog 309=some 3:=by kernel_rfl
def wayC.rc:D->Option (List Int):=Zb
def wayC.re:(List Int)->D:=λb=>D.sl true 1 (b.map Aj)
def wayC.rle: ∀d b,wayC.rc d=some b->Le d (wayC.re b):=Zc
def wayC.fv(a:Bd×Int×Int):List Int:=(λx p q=>Cu x x.Room.length p q) (a.1) (a.2.1) (a.2.2)
def wayC.row:Ay:=D1 (b3 (qP 2 Bd.d_le) qI qI) (RK.mk wayC.rc wayC.re wayC.rle) (λa=>Kk a.1 a.1.Room.length/\a.1.Room.length<=1000/\0<=a.2.1/\a.2.1<a.1.Room.length/\0<=a.2.2/\a.2.2<a.1.Room.length) wayC.fv
def wayC.q:=DX (R:=wayC.row) rfl
def wayC.ok:A9 214 wayC.row:=by
 refine GF (tC freeC.ok (tC rept.ok (tC revC.ok tN))) Tryz.func214 ?_;intro a ak;simp only[Tryz.f214];simp only[ZZ,simprocAttr,wayC.fv,wayC.rc];obtain⟨aj,hn,ad,af,am,ax⟩:=ak;obtain⟨x,hx⟩: ∃x,x=a.1:=⟨_,rfl⟩;obtain⟨p,hp⟩: ∃p,p=a.2.1:=⟨_,rfl⟩;obtain⟨q,hq⟩: ∃q,q=a.2.2:=⟨_,rfl⟩;obtain⟨n,hnn⟩: ∃n,n=x.Room.length:=⟨_,rfl⟩;simp only[<-hx,<-hp,<-hq,<-hnn] at aj hn ad af am ax⊢;intro bf;refine AA.os (-1,(n:Int)) [1] ⟨by simp only;omega,by simp only;omega⟩ (λj=>rept.H0_dom _ j) rfl rfl ?_ ?_
 .simp only[ZA,simprocAttr,JM,rept.ca,rept.H0,Eo]
 simp only[ZA,simprocAttr,CYc,rept.H1,Ob,dL,tV];refine⟨by omega,by omega,ad,af,by omega,λ_ _=> ?_⟩;refine AU.old ⟨{k:Nat//k<=(CU x n p k).2.length},λk=>⟨[(9,.ch 22),(8,.own 2),(7,.im (.int .i64 n)),(0,.ptr 0 0),(1,.im (.int .i64 p)),(2,.im (.int .i64 q))],[(2,(true,.arr 3 1 ((CU x n p k.1).1.map Aj))),(22,(true,.chan (((CU x n p k.1).2.drop k.1).map dI) n)),(0,(false,.view [.sl false 1 (x.Room.map CK),.sl false 1 (x.Flow.map CK)]))],23⟩,λk=>n - k.1,λk=>⟨by simp[ZG],by simp⟩,⟨⟨0,by simp⟩,?_⟩,λk=> ?_⟩
 .simp only[ZA,simprocAttr,sub];simp[CU,dI]
 obtain⟨k,hk⟩:=k;have hP:=Rc (x:=x) ad af k;have bg:=Qr3 hP;simp only[ZA,simprocAttr,D.sc,D.scs,BC,CYc,AR,Cj];refine⟨λav=> ?_,λav=> ?_⟩
 .have aw:k<(CU x n p k).2.length:=by omega
  obtain⟨u,hu⟩: ∃u,(CU x n p k).2[k]? =some u:=⟨_,Bk aw⟩;have a8:=hP.q u (Ba hu);rw[E9 hu];refine⟨by simp,λd r ag=> ?_⟩;simp only[Bg,gC] at ag;obtain⟨rfl,rfl⟩:=ag;simp only[dI];obtain⟨s,hs⟩: ∃s,s=CU x n p k:=⟨_,rfl⟩;simp only[<-hs] at hu hP⊢;refine AU.old ⟨{i:Nat//i<=n},λi=>⟨[(36,.im (.int .i64 i.1)),(35,.im (.int .i64 n)),(10,.im (.int .i64 u)),(9,.ch 22),(8,.own 2),(7,.im (.int .i64 n)),(0,.ptr 0 0),(1,.im (.int .i64 p)),(2,.im (.int .i64 q))],[(2,(true,.arr 3 1 ((CJ x u s i.1).1.map Aj))),(22,(true,.chan (((CJ x u s i.1).2.drop (k+1)).map dI) n)),(0,(false,.view [.sl false 1 (x.Room.map CK),.sl false 1 (x.Flow.map CK)]))],23⟩,λi=>n - i.1,λi=>⟨by simp[ZG],by simp⟩,⟨⟨0,by simp⟩,?_⟩,λi=> ?_⟩
  .simp only[ZA,simprocAttr,sub,CJ]
  obtain⟨i,hi⟩:=i;obtain⟨hQ,e,he⟩:=uW hP hu i hi;have a9:=Qr3 hQ;have ay:=hQ.len;simp only[ZZ,simprocAttr,CS,freeC.q,freeC.fv,sub,AR,Cj,ay,dL];refine⟨λaq=>⟨by omega,by omega,λy hy=>⟨λQ=>⟨⟨hnn▸aj,a8.1,by omega,by omega⟩,λhf=>⟨by omega,by omega,λy2 _=>⟨by omega,⟨i+1,by omega⟩,by simp only;omega,by rw[AC (by omega) (by omega)];simp only;omega,?_⟩⟩,λhf=>⟨⟨i+1,by omega⟩,by simp only;omega,by rw[AC (by omega) (by omega)];simp only;omega,?_⟩⟩,λQ=>⟨⟨i+1,by omega⟩,by simp only;omega,by rw[AC (by omega) (by omega)];simp only;omega,?_⟩⟩⟩,λaq=> ?_⟩
  .have Z:CJ x u s (i+1)=((CJ x u s i).1.set i u,(CJ x u s i).2++[(i:Int)]):=by
    rw[CJ,Hh,Ak ⟨by rw[hy,AO];exact Q,hf⟩]
   have bd:=(Cx.1 hu).1;simp only[Z];refine⟨trivial,?_⟩;rw[mK (by rw[he,CD];omega),FT];rfl
  .have Z:CJ x u s (i+1)=CJ x u s i:=by
    rw[CJ,Hh,Ad (λh=>hf h.2)]
   simp only[Z];exact⟨trivial,trivial⟩
  .have Z:CJ x u s (i+1)=CJ x u s i:=by
    rw[CJ,Hh,Ad (λh=>Q (by have:=h.1;rw[hy,AO] at this;exact this))]
   simp only[Z];exact⟨trivial,trivial⟩
  .have au:i=n:=by omega
   have Z:CU x n p (k+1)=CJ x u s i:=by rw[CU,<-hs,hu,au]
   refine⟨⟨k+1,by rw[Z,he,CD];have:=(Cx.1 hu).1;omega⟩,by simp only;omega,?_⟩;simp only[Z];exact⟨trivial,trivial⟩
 .have be:(CU x n p k).2.length=k:=by omega
  have hE:CU x n p k=Bw x n p:=by
   have:=Nv x n p (n - k) k (by omega)
   rw[show k+(n - k)=n by omega] at this;exact this.symm
  have ai:=hP.len;refine⟨am,by omega,by omega,λy hy=>⟨λQ=> ?_,λQ=> ?_⟩⟩
  .simp only[Cu,<-hE,hy,AO];rw[Ak Q];rfl
  have az:q∈(CU x n p k).2:=by
   have:=(hP.mem q.toNat y hy).1 (by omega)
   rwa [show (q.toNat:Int)=q by omega] at this
  obtain⟨i,hi⟩:=V4.1 az;obtain⟨d,ba,ab,aa⟩:=Qq3 hP hi;have bb:=(Cx.1 hi).1;have a0:uD (CU x n p k).1 p q n=d:=Qqr (by omega) ab aa;have hW:Cu x n p q=(HZ (CU x n p k).1 q d).reverse:=by
   simp only[Cu,<-hE,hy,AO];rw[Ad Q,a0]
  obtain⟨O,hpar⟩: ∃O,O=(CU x n p k).1:=⟨_,rfl⟩;simp only[<-hpar] at ai ab aa hW⊢;refine AU.ren ⟨{j:Nat//j<=d},λj=>⟨[(13,.im (.int .i64 (D4 O q j.1))),(12,.own 24),(8,.own 2),(1,.im (.int .i64 p))],[(24,(true,.arr 3 1 ((HZ O q j.1).map Aj))),(2,(true,.arr 3 1 (O.map Aj)))],25⟩,λj=>d - j.1,λj=>⟨by simp[ZG],by simp⟩,⟨⟨0,by omega⟩,[(24,some 23)],?_⟩,λj=> ?_⟩
  .simp only[Aw];simp only[ZA,simprocAttr,Br];exact⟨rfl,rfl⟩
  obtain⟨j,hj⟩:=j;have ao:(HZ O q j).length=j+1:=by simp[HZ]
  simp only[ZA,simprocAttr,JM,AR,ao];refine⟨λac=> ?_,λac=> ?_⟩
  .have ah:j<d:=by
    rcases EI j d with h|h
    .exact h
    .exact absurd (by rw[show j=d by omega];exact ab) ac
   obtain⟨j2,g1,g2⟩:=sV hP hi j (λj' bc=>by rw[<-hpar];exact aa j' (by omega));rw[<-hpar] at g2;have an:=hP.q _ (Ba g2);refine⟨an.1,by omega,by omega,λz hz=>⟨by omega,⟨j+1,by omega⟩,[(24,some 26)],by simp only;omega,?_⟩⟩;have Z:D4 O q (j+1)=z:=by rw[D4,hz,AO]
   have e2:HZ O q (j+1)=HZ O q j++[z]:=by
    simp only[HZ];rw[mL,FT,Bg,GX,Z]
   simp only[Aw];simp only[ZA,simprocAttr,Br,Z,e2,FT]
  .have ah:j=d:=by
    have h1:=Gi.1 ac;rcases EI j d with h|h
    .exact absurd h1 (aa j h)
    .omega
   subst ah;refine AA.os (HZ O q j) [24] trivial (λi=>revC.H0_dom _ i) rfl rfl ?_ ?_
   .simp only[ZA,simprocAttr,JM,revC.ca,revC.H0,Eo]
   .simp only[ZA,simprocAttr,JM,D.sc,Qt,BC,revC.H1,Eo];rw[hW];exact Vi (by simp[HZ])
def G3(t:Int)(bs:List Ag):List Ag:=bs.filter λb=>decide (t<=b.Strength)
def PZ(g:Int)(r:List Int)(l:List Int):Nat->List Int
 |0=>l
 |k+1=>(PZ g r l k).set (r[k]?.getD 0).toNat g
def Ki(gs:List (List Int))(l:List Int):Nat->List Int
 |0=>l
 |i+1=>PZ i (gs[i]?.getD []) (Ki gs l i) (gs[i]?.getD []).length
def zF(g:Int)(r l:List Int): ∀k,(PZ g r l k).length=l.length
 |0=>rfl
 |k+1=>by simp only[PZ,Fc,zF g r l k]
def sL(gs:List (List Int))(l:List Int): ∀i,(Ki gs l i).length=l.length
 |0=>rfl
 |i+1=>by simp only[Ki,zF,sL gs l i]
def Rd(n:Nat)(gs:List (List Int)):List Int:=Ki gs (List.replicate n 0) gs.length
def BN(nm:List Int)(v:Int):Int:=nm[v.toNat]?.getD 0
def Hz(nm:List Int):List Ag->List Ag
 |[]=>[]
 |b::r=>if BN nm b.A=BN nm b.B then Hz nm r else ⟨ET (BN nm b.A) (BN nm b.B),Ey (BN nm b.A) (BN nm b.B),b.Strength⟩::Hz nm r
def Qp2(nm:List Int): ∀(a b:List Ag),Hz nm (a++b)=Hz nm a++Hz nm b
 |[],b=>rfl
 |x::r,b=>by simp only[De,Hz,Qp2 nm r b];split<;>rfl
def Qjq(nm:List Int): ∀(a:List Ag),(Hz nm a).length<=a.length
 |[]=>AN _
 |x::r=>by have:=Qjq nm r;simp only[Hz];split<;>simp only[CQ]<;>omega
def Qln(t:Int)(bs:List Ag):(G3 t bs).length<=bs.length:=Zfa _ _
def Qjs(t:Int){bs:List Ag}{k:Nat}{b:Ag}(h:bs[k]? =some b):G3 t (bs.take (k+1))=G3 t (bs.take k)++if t<=b.Strength then [b] else []:=by
 rw[Ib,h];simp only[G3,List.filter_append,vH,ZeP,List.filter_nil,B3]
def oC(own:List Int)(i:Nat): ∀k,∀v∈Df own i k,(i:Int)<=v/\v<i+k
 |0,v,h=>by simp[Df] at h
 |k+1,v,h=>by
  simp only[Df,Bs] at h;rcases h with h|h
  .have:=oC own i k v h;omega
  .split at h
   .rw[BS] at h;omega
   .simp at h
def Qvq(own:List Int)(n:Nat): ∀k,k<=n-> ∀r∈BA own n k,∀v∈r,0<=v/\v<n
 |0,_,r,h,_,_=>by simp[BA] at h
 |k+1,O,r,h,v,z=>by
  simp only[BA,Bs] at h;rcases h with h|h
  .exact Qvq own n k (by omega) r h v z
  .split at h
   .rw[BS] at h;subst h
    have:=oC own k (n - k) v z
    omega
   .simp at h
def Qps(n:Nat)(bs:List Ag): ∀r∈Vu (n:Int) bs,∀v∈r,0<=v/\v<n:=by
 intro r z v O
 have:=Qvq (Cm n bs bs.length) n n (AN _) r (by simpa[Vu] using z) v O
 omega
def Qvc(nm:List Int){bs:List Ag}{k:Nat}{b:Ag}(h:bs[k]? =some b):Hz nm (bs.take (k+1))=Hz nm (bs.take k)++if BN nm b.A=BN nm b.B then [] else [⟨ET (BN nm b.A) (BN nm b.B),Ey (BN nm b.A) (BN nm b.B),b.Strength⟩]:=by
 rw[Ib,h];simp only[vH,Qp2,Hz]
def NQ(n:Int)(bs:List Ag)(t:Int):List (List Int):=Vu n (G3 t bs)
def Cn(n:Int)(bs:List Ag)(t:Int):Int×List Ag:=((NQ n bs t).length,Hz (Rd n.toNat (NQ n bs t)) bs)
def shrunk.fv(a:Int×(List Ag)×Int):Int×(List Ag):=(Cn) (a.1) (a.2.1) (a.2.2)
def shrunk.row:Ay:=vK (b3 qI (qS Ag.d_le Ag.c_n) qI) (r2 rI (rS Ag.d_le Ag.c_n)) (λa=>0<=a.1/\a.1<=1000000/\Lm a.1 a.2.1/\a.2.1.length<=1000000) shrunk.fv
def shrunk.q:=AT (R:=shrunk.row) rfl
def shrunk.ok:A9 119 shrunk.row:=by
 refine vw (tC l06Groups.ok (tC l00Min.ok (tC l00Max.ok tN))) Tryz.func119 ?_;intro a ai;simp only[Tryz.f119];simp only[ZA,simprocAttr,shrunk.fv];obtain⟨h0,h1,ab,aj⟩:=ai;obtain⟨n,hn⟩: ∃n:Nat,a.1=n:=⟨a.1.toNat,by omega⟩;obtain⟨bs,hbsd⟩: ∃bs,bs=a.2.1:=⟨_,rfl⟩;obtain⟨t,ht⟩: ∃t,t=a.2.2:=⟨_,rfl⟩;simp only[hn,<-hbsd,<-ht] at h0 h1 ab aj⊢;refine AU.ren ⟨{k:Nat//k<=bs.length},λk=>⟨[(9,.im (.int .i64 k.1)),(8,.own 2),(0,.im (.int .i64 n)),(1,.im (.sl false 3 (bs.map Ag.c))),(2,.im (.int .i64 t))],[(2,(true,.arr 214 3 ((G3 t (bs.take k.1)).map Ag.c)))],3⟩,λk=>bs.length - k.1,λk=>⟨by simp[ZG],by simp⟩,⟨⟨0,by simp⟩,[(2,some 1)],?_⟩,λk=> ?_⟩
 .simp only[Aw];simp only[ZA,simprocAttr];rfl
 obtain⟨k,ac⟩:=k;have aa:=Qln t (bs.take k);rw[BH] at aa;simp only[ZA,simprocAttr,l06Groups.q,l06Groups.fv,AR,NG,NE,BK,D.one];intro _;refine⟨λQ=>⟨Q,λb Z=>⟨λhs=>⟨Q,λb' z=>⟨by omega,⟨k+1,by omega⟩,[(2,some 4)],by simp only;omega,?_⟩⟩,λhs=>⟨⟨k+1,by omega⟩,[(2,some 2)],by simp only;omega,?_⟩⟩⟩,λQ=> ?_⟩
 .rw[Z] at z;obtain rfl:=A7 z;simp only[Aw];simp only[ZA,simprocAttr,Qjs t Z];rw[AC (by omega) (by omega),Ak hs];simp[Ag.c]
 .simp only[Aw];simp only[ZA,simprocAttr,Qjs t Z];rw[AC (by omega) (by omega),Ad hs,DA];simp
 have an:k=bs.length:=by omega
 subst an;rw[IG];refine⟨⟨h1,λb Z=>ab b (gE.1 Z).1⟩,by omega,?_⟩;obtain⟨O,hgs⟩: ∃O,O=Vu (n:Int) (G3 t bs):=⟨_,rfl⟩;have ak: ∀r∈O,∀v∈r,0<=v/\v<n:=by rw[hgs];exact Qps n _
 simp only[<-hgs];clear Q aa ac;refine AU.old ⟨{i:Nat//i<=O.length},λi=>⟨[(12,.im (.int .i64 i.1)),(11,.own 3),(10,.im (.sl false 1 (O.map CK))),(0,.im (.int .i64 n)),(1,.im (.sl false 3 (bs.map Ag.c))),(2,.im (.int .i64 t))],[(3,(true,.arr 2 1 ((Ki O (List.replicate n 0) i.1).map Aj)))],4⟩,λi=>O.length - i.1,λi=>⟨by simp[ZG],by simp⟩,⟨⟨0,by simp⟩,?_⟩,λi=> ?_⟩
 .simp only[ZA,simprocAttr,sub,Ki,tV]
 obtain⟨i,au⟩:=i;simp only[ZA,simprocAttr,AR];intro aq;refine⟨λhi=> ?_,λhi=> ?_⟩
 .obtain⟨r,hr⟩: ∃r,O[i]? =some r:=⟨_,Bk hi⟩;have ao:=ak r (Ba hr);obtain⟨l,hl⟩: ∃l,l=Ki O (List.replicate n 0) i:=⟨_,rfl⟩;have av:l.length=n:=by rw[hl,sL,Ob]
  simp only[<-hl];refine AU.old ⟨{k:Nat//k<=r.length},λk=>⟨[(13,.im (.int .i64 k.1)),(12,.im (.int .i64 i)),(11,.own 3),(10,.im (.sl false 1 (O.map CK))),(0,.im (.int .i64 n)),(1,.im (.sl false 3 (bs.map Ag.c))),(2,.im (.int .i64 t))],[(3,(true,.arr 2 1 ((PZ i r l k.1).map Aj)))],4⟩,λk=>r.length - k.1,λk=>⟨by simp[ZG],by simp⟩,⟨⟨0,by simp⟩,?_⟩,λk=> ?_⟩
  .simp only[ZA,simprocAttr,sub,PZ]
  obtain⟨k,ac⟩:=k;have ah:=zF (i:Int) r l k;simp only[ZZ,simprocAttr,sub,AR,hr,ah,dL];refine⟨hi,λr' ad aw=> ?_⟩;subst ad;refine⟨λQ=>⟨hi,λr' ad=> ?_⟩,λQ=>⟨⟨i+1,by omega⟩,by simp only;omega,by rw[AC (by omega) (by omega)];simp only;omega,?_⟩⟩
  .subst ad;refine⟨Q,λv hv=> ?_⟩;obtain⟨v1,v2⟩:=ao v (Ba hv);refine⟨v1,by omega,by omega,λ_ _=>⟨⟨k+1,by omega⟩,by simp only;omega,by rw[AC (by omega) (by omega)];simp only;omega,?_⟩⟩;simp only[PZ,hv,AO]
  .have:k=r.length:=by omega
   simp only[Ki,hr,AO,<-hl,this]
 .have am:i=O.length:=by omega
  subst am;obtain⟨nm,hnm⟩: ∃nm,nm=Ki O (List.replicate n 0) O.length:=⟨_,rfl⟩;have ah:nm.length=n:=by rw[hnm,sL,Ob]
  simp only[<-hnm];refine AU.ren ⟨{k:Nat//k<=bs.length},λk=>⟨[(15,.im (.int .i64 k.1)),(14,.own 5),(11,.own 3),(10,.im (.sl false 1 (O.map CK))),(0,.im (.int .i64 n)),(1,.im (.sl false 3 (bs.map Ag.c))),(2,.im (.int .i64 t))],[(5,(true,.arr 214 3 ((Hz nm (bs.take k.1)).map Ag.c))),(3,(true,.arr 2 1 (nm.map Aj)))],6⟩,λk=>bs.length - k.1,λk=>⟨by simp[ZG],by simp⟩,⟨⟨0,by simp⟩,[(5,some 4)],?_⟩,λk=> ?_⟩
  .simp only[Aw];simp only[ZA,simprocAttr,Br];rfl
  obtain⟨k,ac⟩:=k;have aa:=Qjq nm (bs.take k);rw[BH] at aa;simp only[ZA,simprocAttr,l00Min.q,l00Min.fv,l00Max.q,l00Max.fv,AR,NG,NE,BK,D.one];intro _;refine⟨λQ=>⟨Q,λb Z=> ?_⟩,λQ=> ?_⟩
  .obtain⟨b1,b2,b3,b4⟩:=ab b (Ba Z);refine⟨b1,by omega,by omega,λx hx=>⟨Q,λb' z=> ?_⟩⟩;rw[Z] at z;obtain rfl:=A7 z;refine⟨b3,by omega,by omega,λy hy=> ?_⟩;have e1:BN nm b.A=x:=by simp only[BN,hx,AO]
   have e2:BN nm b.B=y:=by simp only[BN,hy,AO]
   have af:=Qvc nm Z;rw[e1,e2] at af;refine⟨λag=>⟨Q,λb' z=>⟨by omega,⟨k+1,by omega⟩,[(5,some 7)],by simp only;omega,?_⟩⟩,λag=>⟨⟨k+1,by omega⟩,[(5,some 5)],by simp only;omega,?_⟩⟩
   .rw[Z] at z;obtain rfl:=A7 z;simp only[Aw];simp only[ZA,simprocAttr,Br,af];rw[AC (by omega) (by omega),Ad ag];simp[Ag.c]
   .simp only[Aw];simp only[ZA,simprocAttr,Br,af];rw[AC (by omega) (by omega),Ak (Gi.1 ag),DA];simp
  .have:k=bs.length:=by omega
   subst this;rw[IG];intro _;simp only[Cn,NQ,Rd,B5,<-hgs,<-hnm]
def Qk5(s:Az): ∀(l:List Am) (i:Nat),Lh s i l=true-> ∀g∈l,1<=g.Strength/\g.Strength<=4
 |[],_,_,_,h=>by cases h
 |x::r,i,h,g,z=>by
  simp only[Lh,AL,AW,B3] at h;rcases Be.1 z with rfl|z
  .exact⟨h.1.2.1.1,h.1.2.1.2⟩
  .exact Qk5 s r _ h.2 g z
def Qlf(s:Az): ∀(l:List Tile) (i:Nat),Jx s i l=true-> ∀t∈l,t.Sides.length=4/\ ∀g∈t.Sides,0<=g/\g<=s.Glues.length
 |[],_,_,_,h=>by cases h
 |x::r,i,h,t,z=>by
  simp only[Jx,AL,B3,C6,AW] at h;rcases Be.1 z with rfl|z
  .exact⟨h.1.2.1,λg O=>⟨(h.1.2.2.2 g O).1,(h.1.2.2.2 g O).2⟩⟩
  .exact Qlf s r _ h.2 t z
def rV{s:Az}(h:Eg s=true):BO s:=by
 simp only[Eg,AL,B3] at h;exact⟨by omega,Qlf s _ _ h.2.2,Qk5 s _ _ h.2.1⟩
def HU{s:Az}{a:Af}(h:E8 s a=true):FB s a/\a.Tiles.length<=500:=by
 simp only[E8,AL,B3,C6,AW] at h;exact⟨⟨h.1.1,λx z=>⟨(h.2 x z).1,by have:=(h.2 x z).2;omega⟩⟩,h.1.2⟩
def YL(p:Ab)(d:Int):Cw p d≠p:=by
 intro h;have O:(Cw p d).X=p.X:=by rw[h]
 have z:(Cw p d).Y=p.Y:=by rw[h]
 simp only[Cw] at O z;split at O
 .rename_i h0;rw[Ak h0] at z;simp only at z;omega
 .rename_i h0;rw[Ad h0] at z;split at O
  .simp only at O;omega
  .rename_i Q;rw[Ad Q] at z;split at O
   .rename_i Z;rw[Ak Z] at z;simp only at z;omega
   .simp only at O;omega
def iO(a:Af)(i:Nat)(d:Int)(hi:i<a.Tiles.length):Hd a i d≠i:=by
 intro h;rcases W4 (λx=>decide (x.At=Cw ((a.Tiles[(i:Int).toNat]?.map Ah.At).getD ⟨0,0⟩) d)) a.Tiles 0 with ⟨_,z⟩|⟨j,x,Q,z,Z⟩
 .simp only[Hd,z] at h;omega
 .simp only[Hd,z,Gg] at h;have O:j=i:=by omega
  subst O
  have:=Ql Q
  simp only[B3,B5,Z,CY,AO] at this;exact YL _ _ this.symm
def Ky(n:Int)(b:Ag):Prop:=(0<=b.A/\b.A<n/\0<=b.B/\b.B<n)/\b.A≠b.B/\0<b.Strength/\b.Strength<=4
def Xl{s:Az}(hs:BO s)(a:Af)(i:Nat)(hi:i<a.Tiles.length)(d:Int): ∀b∈WM s a i d,Ky a.Tiles.length b:=by
 intro b z;simp only[WM] at z;split at z
 .rename_i h0;split at z
  .rename_i O;rw[BS] at z;subst z;have Q:=KH a i d;have Z:=iO a i d hi;have h4:Kf s (G0 a i) d (G0 a (Hd a i d))<=4:=by
    simp only[Kf];split
    .exact (Qp1 hs _).2
    .omega
   exact⟨⟨by simp only;omega,by simp only;omega,h0,Q⟩,λh=>Z h.symm,O,h4⟩
  .simp at z
 .simp at z
def Qzz{s:Az}(hs:BO s)(a:Af)(i:Nat)(z:i<a.Tiles.length): ∀k,∀b∈Ke s a i k,Ky a.Tiles.length b
 |0,b,h=>by simp[Ke] at h
 |k+1,b,h=>by
  simp only[Ke,Bs] at h;rcases h with h|h
  .exact Qzz hs a i z k b h
  .exact Xl hs a i z _ b h
def Qro{s:Az}(hs:BO s)(a:Af): ∀k,k<=a.Tiles.length-> ∀b∈F9 s a k,Ky a.Tiles.length b
 |0,_,b,h=>by simp[F9] at h
 |k+1,z,b,h=>by
  simp only[F9,Bs] at h;rcases h with h|h
  .exact Qro hs a k (by omega) b h
  .exact Qzz hs a k (by omega) _ b h
def Mx(g:Int)(r:List Int)(m:Int)(h0:0<=g)(Q:g<m)(l:List Int)(O: ∀x∈l,0<=x/\x<m): ∀k,∀x∈PZ g r l k,0<=x/\x<m
 |0=>O
 |k+1=>by
  intro x z;simp only[PZ] at z;rcases WU z with z|z
  .exact Mx g r m h0 Q l O k x z
  .omega
def Mw(gs:List (List Int))(l:List Int)(z: ∀x∈l,0<=x/\x<(gs.length:Int)): ∀i,i<=gs.length-> ∀x∈Ki gs l i,0<=x/\x<(gs.length:Int)
 |0,_=>z
 |i+1,O=>Mx _ _ _ (by omega) (by omega) _ (Mw gs l z i (by omega)) _
def Qy8{n:Nat}{gs:List (List Int)}(O:0<gs.length)(v:Int):0<=BN (Rd n gs) v/\BN (Rd n gs) v<(gs.length:Int):=by
 simp only[BN];cases h:(Rd n gs)[v.toNat]? with
 |none=>simp;omega
 |some x=>
  rw[AO];exact Mw gs _ (λx z=>by have:=Od z;omega) _ (AN _) x (Ba h)
def Qvw{n:Nat}{gs:List (List Int)}(z:0<gs.length): ∀(bs:List Ag),(∀b∈bs,0<b.Strength/\b.Strength<=4)-> ∀b∈Hz (Rd n gs) bs,Ky gs.length b
 |[],_,b,h=>by simp[Hz] at h
 |x::r,Q,b,h=>by
  simp only[Hz] at h;have ih:=Qvw (n:=n) z r (λy hy=>Q y (BQ _ hy)) b;split at h
  .exact ih h
  .rename_i Z;rcases Be.1 h with rfl|h
   .have h1:=Qy8 (n:=n) z x.A;have h2:=Qy8 (n:=n) z x.B;have O:=Q x (BR ..);refine⟨?_,?_,O.1,O.2⟩
    .simp only[ET,Ey]
     split<;>split<;>omega
    .simp only[ET,Ey]
     split<;>split<;>omega
   .exact ih h
def MS{n:Int}{bs:List Ag}{t:Int}(Q: ∀b∈bs,Ky n b)(hl:bs.length<=1000000)(h0:0<(Cn n bs t).1)(h1:(Cn n bs t).1<=64):Zw (Cn n bs t)/\PX (Cn n bs t).2:=by
 have O:=Qvw (n:=n.toNat) (gs:=NQ n bs t) (by simp only[Cn] at h0;omega) bs (λb z=>⟨(Q b z).2.2.1,(Q b z).2.2.2⟩);have Z:=Qjq (Rd n.toNat (NQ n bs t)) bs;refine⟨⟨by omega,by omega,by simp only[Cn];omega,λb z=>(O b z).1,λb z=>(O b z).2.1⟩,λb z=> ?_⟩
 have:=(O b z).2.2
 omega
def fJ(s:Az)(a:Af)(t:Int):Bool×Int:=
 if 64<(Cn a.Tiles.length (F9 s a a.Tiles.length) t).1 then (false,4)
 else if (Cn a.Tiles.length (F9 s a a.Tiles.length) t).1<2 then (true,0)
 else (decide (t<=(FA (Cn a.Tiles.length (F9 s a a.Tiles.length) t).1 (Cn a.Tiles.length (F9 s a a.Tiles.length) t).2 ((Cn a.Tiles.length (F9 s a a.Tiles.length) t).1 - 1).toNat).1),0)
def l07Stable.fv(a:Az×Af×Int):Bool×Int:=(fJ) (a.1) (a.2.1) (a.2.2)
def l07Stable.row:Ay:=vK (b3 (qP 2 Az.d_le) (qP 1 Af.d_le) qI) (r2 rB rI) (λa=>BO a.1/\FB a.1 a.2.1/\a.2.1.Tiles.length<=500) l07Stable.fv
def l07Stable.q:=AT (R:=l07Stable.row) rfl
def l07Stable.ok:A9 79 l07Stable.row:=by
 refine vw (tC l06Bonds.ok (tC shrunk.ok (tC weakC.ok tN))) Tryz.func79 ?_;intro a z;simp only[Tryz.f79];simp only[ZA,simprocAttr,Af.d,l07Stable.fv,l06Bonds.q,l06Bonds.fv,shrunk.q,shrunk.fv,weakC.q,weakC.fv];obtain⟨O,Z,h3⟩:=z;have Q:=Qro O a.2.1 _ (AN _);have hl:=sC a.1 a.2.1 a.2.1.Tiles.length;refine⟨⟨O,Z,by omega⟩,⟨by omega,λb hb=>(Q b hb).1,by omega⟩,?_⟩;simp only[fJ];split
 .rfl
 .rename_i c1;split
  .rfl
  .rename_i c2;obtain⟨p1,p2⟩:=MS (t:=a.2.2) Q (by omega) (by omega) (by omega);exact⟨⟨p1,p2,by omega⟩,rfl⟩
def UP(s:Az)(a:Af)(t:Int):Bool:=(fJ s a t).1 && decide ((fJ s a t).2=0)
def EP(y:AG):Bool:=Eg y.Set && (E8 y.Set y.Seed && (!y.Seed.Tiles.isEmpty && (AW y.Temperature 1 16 && UP y.Set y.Seed y.Temperature)))
def l08Ok.fv(a:AG):Bool:=(EP) a
def l08Ok.row:Ay:=vK (b1 (qP 4 AG.d_le)) rB (λa=>True) l08Ok.fv
def l08Ok.q:=AT (R:=l08Ok.row) rfl
def l08Ok.ok:A9 41 l08Ok.row:=by
 refine vw (tC l02Ok.ok (tC l03Ok.ok (tC l07Temperature.ok (tC l07Stable.ok tN)))) Tryz.func41 ?_;intro a aa;simp only[Tryz.f41];simp only[ZA,simprocAttr,Af.d,l08Ok.fv,l02Ok.q,l02Ok.fv,l03Ok.q,l03Ok.fv,l07Temperature.q,l07Temperature.fv,l07Stable.q,l07Stable.fv]
 split<;>rename_i c1
 .split<;>rename_i c2
  .have z:E8 a.Set a.Seed=true:=by
    simp only[E8,AL,B3];exact c2
   split<;>rename_i O
   .have Q:a.Seed.Tiles.isEmpty=false:=by
     rw[ZeE];intro h;rw[h] at O;simp at O
    split<;>rename_i Z
    .simp only[EP,Z,Fo,gG]
    .refine⟨⟨rV c1,(HU z).1,(HU z).2⟩,?_⟩;rw[Hq] at Z;simp only[EP,c1,z,Q,Z,DB,WX,UP]
     split<;>rename_i c7
     .rw[c7,DB]
     .rw[IF] at c7;rw[c7,Fo]
   .have Q:a.Seed.Tiles=[]:=by
     have:=Gi.1 O
     exact vB (by omega)
    simp[EP,Q]
  .have z:E8 a.Set a.Seed=false:=by
    rw[Oh];intro h;simp only[E8,AL,B3] at h;exact c2 h
   simp[EP,z]
 .rw[IF] at c1;simp[EP,c1]
def PY(m:AF):Bool:=m.Labels.all λx=>AW x (-1) (m.Small.Set.Tiles.length - 1)
def EO(m:AF):Bool:=EP m.Big && (EP m.Small && (AW m.Scale 1 4 && (decide (m.Labels.length=m.Big.Set.Tiles.length) && PY m)))
def l32Ok.fv(a:AF):Bool:=(EO) a
def l32Ok.row:Ay:=vK (b1 (qP 10 AF.d_le)) rB (λa=>True) l32Ok.fv
def l32Ok.q:=AT (R:=l32Ok.row) rfl
def l32Ok.ok:A9 21 l32Ok.row:=by
 refine vw (tC l08Ok.ok (tC l00In.ok tN)) Tryz.func21 ?_;intro a aa;simp only[Tryz.f21];simp only[ZA,simprocAttr,l32Ok.fv,l08Ok.q,l08Ok.fv,l00In.q,l00In.fv];by_cases c1:EP a.Big=true
 case neg=>rw[Ad c1];rw[IF] at c1;simp[EO,c1]
 rw[Ak c1];by_cases O:EP a.Small=true
 case neg=>rw[Ad O];rw[IF] at O;simp[EO,O]
 rw[Ak O];by_cases Q:AW a.Scale 1 4=true
 case neg=>rw[Ad Q];rw[IF] at Q;simp[EO,Q]
 rw[Ak Q]
 split<;>rename_i c4
 .have: ¬a.Labels.length=a.Big.Set.Tiles.length:=by omega
  simp[EO,this]
 have c5:a.Labels.length=a.Big.Set.Tiles.length:=by omega
 have hS:EO a=PY a:=by simp only[EO,c1,O,Q,c5,Zfl,DB]
 rw[hS];refine AU.old ⟨{k:Nat//k<=a.Labels.length/\(a.Labels.drop k).all (λx=>AW x (-1) (a.Small.Set.Tiles.length - 1))=PY a},λk=>⟨[(3,.im (.int .i64 k.1)),(0,.ptr 0 0)],[(0,(false,.view (AF.c a)))],1⟩,λk=>a.Labels.length - k.1,λk=>⟨by simp[ZG],AN _⟩,⟨⟨0,by simp[PY]⟩,by simp only[ZA,simprocAttr,sub]⟩,λk=> ?_⟩;obtain⟨k,ab,z⟩:=k;simp only[ZA,simprocAttr,l00In.q,l00In.fv,sub,AR];intro _;have ac:a.Small.Set.Tiles.length<=160:=by
  simp only[EP,Eg,AL,B3,AW] at O;omega
 rw[AC (by omega) (by omega)];refine⟨λZ=>⟨Z,λx hx=> ?_⟩,λZ=> ?_⟩
 .rw[E9 hx,J8] at z;refine⟨λh=> ?_,λh=>⟨⟨k+1,by omega,?_⟩,by simp only;omega,by rw[AC (by omega) (by omega)];simp only;omega⟩⟩
  .rw[h,Fo] at z;exact z
  .rw[Hq] at h;rw[h,DB] at z;exact z
 .rw[CG (by omega)] at z;exact z
def Dm(b n:Nat):List (List AV):=(List.range n).map λi=>[AV.own (b+i)]
def B8(b n:Nat)(M:List (List Int)):Ao:=AS b n (λi=>(true,.arr 2 1 ((M[i]?.getD []).map Aj)))
def Qn(j:Nat):Bool:=Nat.blt j 3||((Nat.ble 100 j && Nat.blt j 164)||(Nat.ble 200 j && Nat.blt j 264))
def CE(x:Bd)(n:Nat):Ao:=(0,(true,.cells 298 [.own 1,.own 2]))::(1,(true,.arrA 31 1 (Dm 100 n)))::(2,(true,.arrA 31 1 (Dm 200 n)))::(B8 100 n x.Room++B8 200 n x.Flow)
def nwC.ca(a:Int×List Ag):List AV:=[.im (.int .i64 a.1),.im (.sl false 3 (a.2.map Ag.c))]
def nwC.H1(a:Int×List Ag):Ao:=CE (DJ a.1.toNat a.2) (min a.1.toNat 64)
def Mz(a:Int×List Ag):Prop:=0<=a.1/\a.1<=64/\a.2.length<=1000000/\Lm a.1 a.2/\PX a.2/\ ∀b∈a.2,b.A≠b.B
def nwC.row:Ay:=AA nwC.ca (λ_=>[]) 0 Mz (λ_=>false) (λ_=> .ptr 0 0) nwC.H1 320
def sP(m:Nat): ∀(a b:Ao),Au m (a++b)=(Au m a && Au m b)
 |[],b=>by simp[Au]
 |(i,(z,e))::r,b=>by
  have ih:=sP m r b;cases e<;>simp only[De,Au,ih,ZeB]
def Qmd(m:Nat): ∀(a b:Ao),BB m (a++b)=(BB m a && BB m b)
 |[],b=>by simp[BB]
 |(i,(z,e))::r,b=>by simp only[De,BB,Qmd m r b,ZeB]
def Wy(b n N:Nat)(h:b+n<=N):(Dm b n).all (AE N)=true:=by
 rw[C6];intro r O;obtain⟨i,z,rfl⟩:=Bh.1 O
 have:=Bv.1 z
 simp[AE,AV.bel];omega
def Qkf(nx:Nat): ∀(l:List Nat),Gs nx 0 l=true
 |[]=>rfl
 |x::r=>by
  have:(Nat.blt x nx||Nat.ble (nx+0) x)=true:=by
   rw[H8,E4,G8];omega
  simp only[Gs,this,Qkf nx r,fW]
def Iz(b n:Nat):(Dm b n).length=n:=by simp[Dm]
def Qo7(b n i:Nat)(h:i<n):(Dm b n)[i]? =some [.own (b+i)]:=by simp[Dm,Ic h]
def Qpf(a b:Ao):Fk (a++b)=Fk a++Fk b:=by
 induction a with
 |nil=>rfl
 |cons x r ih=>obtain⟨i,e⟩:=x;simp only[De,Fk,ih]
def IB(m:Nat): ∀(a b:Ao),hget (a++b) m=(hget a m).or (hget b m)
 |[],b=>by simp[hget]
 |(i,e)::r,b=>by
  have ih:=IB m r b;simp only[De,hget];cases i==m<;>simp[ih]
def Qpw(b n:Nat)(M:List (List Int))(i:Nat)(h:i<n):hget (B8 b n M) (b+i)=some (true,.arr 2 1 ((M[i]?.getD []).map Aj)):=GK _ _ _ _ h
def Qwa(b n:Nat)(M:List (List Int))(m:Nat)(h:m<b\/b+n<=m):hget (B8 b n M) m=none:=Qmh _ _ _ _ h
def dP(k:Nat)(M N:List (List Int))(i:Nat)(h:i<k):hget (B8 100 k M++B8 200 k N) (100+i)=some (true,.arr 2 1 ((M[i]?.getD []).map Aj)):=by
 rw[IB,Qpw _ _ _ _ h];rfl
def dV(k:Nat)(M N:List (List Int))(i:Nat)(z:k<=100)(h:i<k):hget (B8 100 k M++B8 200 k N) (200+i)=some (true,.arr 2 1 ((N[i]?.getD []).map Aj)):=by
 rw[IB,Qwa _ _ _ _ (by omega),Qpw _ _ _ _ h];rfl
def Qxa(b n i:Nat)(K:List AV->Prop)(h:i<n):J1 (Dm b n) i K=K [.own (b+i)]:=by
 apply propext;unfold J1;rw[Qo7 b n i h];exact⟨λh=>h _ rfl,λh row z=>by obtain rfl:=A7 z;exact h⟩
def kX(s:Av): ∀(a b:Ao),Ci s (a++b)=(Ci s a/\Ci s b)
 |[],b=>by simp[Ci]
 |(i,e)::r,b=>by simp only[De,Ci,kX s r b,gJ]
def tD(s:Av)(b n:Nat)(M:List (List Int)):Ci s (B8 b n M)= ∀i,i<n->hget s.h (b+i)=some (true,.arr 2 1 ((M[i]?.getD []).map Aj)):=by
 have: ∀(f:Nat->An) (l:List Nat),Ci s (l.map λi=>(b+i,f i))↔ ∀i∈l,hget s.h (b+i)=some (f i):=by
  intro f l;induction l with
  |nil=>simp[Ci]
  |cons i r ih=>simp only[Bg,Ci,ih,Be,vL]
 apply propext;rw[B8,AS,this];simp only[Bv]
def Qrm{n:Nat}{bs:List Ag}(O:Lm n bs)(hs:PX bs)(a b:Nat): ∀k,0<=DV (Cb n bs k) a b/\DV (Cb n bs k) a b<=2000000*(k:Int)
 |0=>by
  simp only[DV,Cb,KI,GN,Lv];split
  .rw[AO,Lv];split<;>simp
  .simp
 |k+1=>by
  have ih:=Qrm O hs a b k;obtain⟨z,_⟩:=W8 O k;simp only[DV,Cb] at ih⊢;split
  .rename_i x Q;obtain⟨b1,b2,b3,b4⟩:=O x (Ba Q);have h0:=hs x (Ba Q);simp only[Kw];rw[show x.A=(x.A.toNat:Int) by omega,show x.B=(x.B.toNat:Int) by omega];rw[dM (n:=n) (by rw[Zj];exact z.r) (Zh z.rr _ _ _ (by rw[z.r];simp;omega)) _ (by omega) (by omega),dM z.r z.rr _ (by omega) (by omega)]
   split<;>split<;>omega
  .omega
def Tz(k:Nat)(Q:k<=64):([0,1,2]++((List.range k).map (100+ ·)++(List.range k).map (200+ ·))).Nodup:=by
 rw[<-Fb];refine dQ _ 200 k (dQ _ 100 k (by simp) (by simp)) ?_;intro x z;rcases Bs.1 z with z|z
 .simp at z;omega
 .obtain⟨i,O,rfl⟩:=Bh.1 z
  have:=Bv.1 O
  show 100+i<200;omega
def Ty(k:Nat)(Q:k<=64): ∀x∈([0,1,2]++((List.range k).map (100+ ·)++(List.range k).map (200+ ·))),x<300:=by
 intro x z;rcases Bs.1 z with z|z
 .simp at z;omega
 .rcases Bs.1 z with z|z<;>obtain⟨i,O,rfl⟩:=Bh.1 z<;>have:=Bv.1 O
  .show 100+i<300;omega
  .show 200+i<300;omega
def Qyn{π:List (Nat×Option Nat)}{b:Nat}{g:Nat->Nat}{n:Nat}(h: ∀i,i<n->pm π (b+i)=some (g i)){R:List (List AV)}(hR:R=(List.range n).map λi=>[AV.own (g i)]):GA π (Dm b n) R:=by
 subst hR;rw[eQ];refine⟨by simp[Dm],λi x y O Q=> ?_⟩;have z:i<n:=by have:=(Cx.1 O).1;rwa [Iz] at this
 rw[Qo7 _ _ _ z] at O;rw[Du,Ic z] at Q;obtain rfl:=A7 O;obtain rfl:=A7 Q;simp only[DI,mt,h i z,FK,Hr]
def Ql0(b k c:Nat):Dm b k++[[.own c]]=(List.range (k+1)).map λi=>[AV.own (if i<k then b+i else c)]:=by
 rw[mL,FT,Dm];congr 1
 .exact Kr λi z=>by rw[Ak (Bv.1 z)]
 .simp
def tW(k:Nat)(M N:List (List Int))(O:k<=64)(tm:List (Nat×AV))(z:CH 300 tm=true):Av.good ⟨tm,(0,(true,.cells 298 [.own 1,.own 2]))::(1,(true,.arrA 31 1 (Dm 100 k)))::(2,(true,.arrA 31 1 (Dm 200 k)))::(B8 100 k M++B8 200 k N),300⟩=true:=by
 simp only[Av.good,Au,BB,z,DB,sP,Qmd,B8];rw[QW _ _ _ (λi=>rfl),QW _ _ _ (λi=>rfl),QJ _ _ _ _ (by omega),QJ _ _ _ _ (by omega),Wy _ _ _ (by omega),Wy _ _ _ (by omega)];rfl
def K5(o:Nat)(h:Qn o=true):o<264:=by
 simp only[Qn,H8,AL,E4,G8] at h;omega
def aH(i:Nat)(h:i<64):Qn (100+i)=true:=by
 simp only[Qn,H8,AL,E4,G8];omega
def aI(i:Nat)(h:i<64):Qn (200+i)=true:=by
 simp only[Qn,H8,AL,E4,G8];omega
def Quc(h:Nat->Option An)(f:AV->Option AV): ∀(a b:Ao),Eh h f (a++b)↔Eh h f a/\Eh h f b
 |[],b=>by simp[Eh]
 |(i,e)::r,b=>by simp only[De,Eh,Quc h f r b,gJ]
def Qoq(h:Nat->Option An)(f:AV->Option AV)(b n:Nat)(M:List (List Int))(H: ∀i,i<n->h (b+i)=some (true,.arr 2 1 ((M[i]?.getD []).map Aj))):Eh h f (B8 b n M):=by
 have: ∀(l:List Nat),(∀i∈l,i<n)->Eh h f (l.map λi=>(b+i,(true,Ac.arr 2 1 ((M[i]?.getD []).map Aj)))):=by
  intro l;induction l with
  |nil=>intro _;simp[Eh]
  |cons i r ih=>
   intro z;simp only[Bg,Eh];refine⟨?_,ih (λj Q=>z j (BQ _ Q))⟩;rw[H i (z i (BR ..))];exact⟨rfl,rfl⟩
 exact this _ (λi O=>Bv.1 O)
def Quf{h:Nat->Option An}{kx:Nat->Option Nat}{m b n:Nat}(O: ∀i,i<n->kx (b+i)=some (b+i)):Ar (Ar (Bb h kx (m+1))) (Dm b n)=some (Dm b n):=by
 refine Rb (g:=λi=>[AV.own (b+i)]) (k:=λi=>[AV.own (b+i)]) _ λi z=> ?_
 simp only[Ar,Bb,O i (Bv.1 z),kp]
def TF{x:Bd}{n:Nat}(hn:n<=64){kx:Nat->Option Nat}(O: ∀o,Qn o=true->kx o=some o):Eh (hget (CE x n)) (Bb (hget (CE x n)) kx 9) (CE x n):=by
 have k1:kx 1=some 1:=O 1 rfl;have k2:kx 2=some 2:=O 2 rfl;obtain⟨H,hH⟩: ∃H,H=hget (CE x n):=⟨_,rfl⟩;have g0:H 0=some (true,.cells 298 [.own 1,.own 2]):=by rw[hH];rfl
 have g1:H 1=some (true,.arrA 31 1 (Dm 100 n)):=by rw[hH];rfl
 have g2:H 2=some (true,.arrA 31 1 (Dm 200 n)):=by rw[hH];rfl
 have ga: ∀i,i<n->H (100+i)=some (true,.arr 2 1 ((x.Room[i]?.getD []).map Aj)):=by
  intro i z;rw[hH];simp only[CE,hget,AX _ _ (show 0≠100+i by omega),AX _ _ (show 1≠100+i by omega),AX _ _ (show 2≠100+i by omega),Bq];exact dP _ _ _ _ z
 have gb: ∀i,i<n->H (200+i)=some (true,.arr 2 1 ((x.Flow[i]?.getD []).map Aj)):=by
  intro i z;rw[hH];simp only[CE,hget,AX _ _ (show 0≠200+i by omega),AX _ _ (show 1≠200+i by omega),AX _ _ (show 2≠200+i by omega),Bq];exact dV _ _ _ _ (by omega) z
 rw[<-hH];simp only[CE,Eh,Quc];refine⟨?_,?_,?_,Qoq _ _ _ _ _ ga,Qoq _ _ _ _ _ gb⟩
 .rw[g0];exact⟨rfl,by simp only[Ck,Ar,Bb,k1,k2,kp];rfl⟩
 .rw[g1];exact⟨rfl,by simp only[Ck];rw[Quf (λi z=>O _ (aH i (by omega)))];rfl⟩
 .rw[g2];exact⟨rfl,by simp only[Ck];rw[Quf (λi z=>O _ (aI i (by omega)))];rfl⟩
def My{x:Bd}{n:Nat}(hn:n<=64){p:Nat×An}(hp:p∈CE x n):Qn p.1=true/\p.2.1=true:=by
 simp only[CE,Be,Bs,B8,AS,Bh,Bv] at hp;rcases hp with rfl|rfl|rfl|⟨i,z,rfl⟩|⟨i,z,rfl⟩
 .exact⟨rfl,rfl⟩
 .exact⟨rfl,rfl⟩
 .exact⟨rfl,rfl⟩
 .exact⟨aH i (by omega),rfl⟩
 .exact⟨aI i (by omega),rfl⟩
def iZ{a:Int×List Ag}{p:Nat×An}(hp:p∈nwC.H1 a):Qn p.1=true/\p.2.1=true:=My (gA _ _) hp
def nwC.ok:A9 194 nwC.row:=by
 refine ow tN Tryz.func194 (exB:=Qn) (R:=λ_ r=>r= .ptr 0 0) (λ_=>rfl)
  (λa=>by simp[nwC.ca,AE,AV.bel,Au,BB,BU]) (λa p hp=> ?_) (λa r h=>by subst h;exact CN.refl _) ?_
 rotate_left
 intro a aq;simp only[Tryz.f194,nwC.ca];simp(disch:=omega)only[ZA,simprocAttr];obtain⟨h0,Q,hl,Z,ah,ao⟩:=aq;obtain⟨n,hn⟩: ∃n:Nat,a.1=n:=⟨a.1.toNat,by omega⟩;obtain⟨bs,hbsd⟩: ∃bs,bs=a.2:=⟨_,rfl⟩;simp only[<-hbsd] at hl Z ah ao;rw[hn] at h0 Q Z;have hH1:nwC.H1 a=CE (DJ n bs) n:=by simp only[nwC.H1,hn,B5,hbsd];rw[Zfd (by omega)]
 rw[hH1];clear hH1;simp only[hn,<-hbsd];refine AU.ren ⟨{k:Nat//k<=n},λk=>⟨[(11,.im (.int .i64 k.1)),(10,.im (.int .i64 n)),(5,.ptr 0 0),(0,.im (.int .i64 n)),(1,.im (.sl false 3 (bs.map Ag.c)))],(0,(true,.cells 298 [.own 1,.own 2]))::(1,(true,.arrA 31 1 (Dm 100 k.1)))::(2,(true,.arrA 31 1 (Dm 200 k.1)))::(B8 100 k.1 (List.replicate n (List.replicate n 0))++B8 200 k.1 (List.replicate n (List.replicate n 0))),300⟩,λk=>n - k.1,λk=>⟨?_,by simp⟩,⟨⟨0,by simp⟩,[(1,none),(2,none)],?_⟩,λk=> ?_⟩
 .exact tW _ _ _ (by omega) _ (by simp[CH,AV.bel])
 .simp only[Aw,B8,AS,Dm,Zfb,GX,DA];simp(disch:=omega)only[ZA,simprocAttr,Qh]
 obtain⟨k,av⟩:=k;simp(disch:=omega)only[ZA,simprocAttr,DL,AR,Bu,Qkf,vV,vM,J8,List.all_nil,Wy,Iz];refine⟨λhk=>⟨by omega,by omega,by omega,by omega,⟨k+1,by omega⟩,[(1,some 302),(2,some 305),(100+k,some 300),(200+k,some 303)],by simp only;omega,?_⟩,λhk=> ?_⟩
 .have hg: ∀i,i<n->(List.replicate n (List.replicate n (0:Int)))[i]?.getD []=List.replicate n 0:=by
   intro i z;rw[Lv,Ak z,AO]
  have af: ∀i,i<k->pm [(1,some 302),(2,some 305),(100+k,some 300),(200+k,some 303)] (100+i)=some (100+i):=by
   intro i z;simp only[pm];rw[Ad (by omega),Ad (by omega),Ad (by omega),Ad (by omega)]
  have ag: ∀i,i<k->pm [(1,some 302),(2,some 305),(100+k,some 300),(200+k,some 303)] (200+i)=some (200+i):=by
   intro i z;simp only[pm];rw[Ad (by omega),Ad (by omega),Ad (by omega),Ad (by omega)]
  have ac:pm [(1,some 302),(2,some 305),(100+k,some 300),(200+k,some 303)] (100+k)=some 300:=by
   simp only[pm];rw[Ad (by omega),Ad (by omega),Ak trivial]
  have ad:pm [(1,some 302),(2,some 305),(100+k,some 300),(200+k,some 303)] (200+k)=some 303:=by
   simp only[pm];rw[Ad (by omega),Ad (by omega),Ad (by omega),Ak trivial]
  have q0:pm [(1,some 302),(2,some 305),(100+k,some 300),(200+k,some 303)] 0=some 0:=by
   simp only[pm];rw[Ad (by omega),Ad (by omega),Ad (by omega),Ad (by omega)]
  have q1:pm [(1,some 302),(2,some 305),(100+k,some 300),(200+k,some 303)] 1=some 302:=rfl;have q2:pm [(1,some 302),(2,some 305),(100+k,some 300),(200+k,some 303)] 2=some 305:=rfl;obtain⟨π,hπ⟩: ∃π,π=[(1,some 302),(2,some 305),(100+k,some 300),(200+k,some 303)]:=⟨_,rfl⟩;rw[<-hπ] at af ag ac ad q0 q1 q2⊢;refine⟨by rw[hπ];exact⟨by omega,by omega,by omega,by omega,trivial⟩,?_,?_,?_⟩
  .rw[eF,hπ];simp only[Fk,Qpf,B8,Zk];refine eP _ _ (Tz (k+1) (by omega)) ?_;intro x hx y hy m ai aj;have ba:=Ty (k+1) (by omega) x hx;have bb:=Ty (k+1) (by omega) y hy;simp only[pm] at ai aj
   repeat' split at ai
   all_goals repeat' split at aj
   all_goals simp only[AI] at ai aj
   all_goals omega
  .simp only[Qb,A8];simp(disch:=omega)only[ZA,simprocAttr,q0];rw[AC (by omega) (by omega)];omega
  .simp only[GU,Qns,B8,dZ];refine⟨?_,?_,?_,λi z=> ?_,λi z=> ?_⟩
   .simp(disch:=omega)only[ZA,simprocAttr,q0,q1,q2]
   .simp(disch:=omega)only[ZA,simprocAttr,q1];refine Qyn (g:=λi=>if i<k then 100+i else 300) (λi z=> ?_) (Ql0 100 k 300);by_cases h:i<k
    .rw[Ak h,af i h]
    .rw[Ad h,show i=k by omega,ac]
   .simp(disch:=omega)only[ZA,simprocAttr,q2];refine Qyn (g:=λi=>if i<k then 200+i else 303) (λi z=> ?_) (Ql0 200 k 303);by_cases h:i<k
    .rw[Ak h,ag i h]
    .rw[Ad h,show i=k by omega,ad]
   .by_cases h:i<k
    .rw[af i h,hg i (by omega)];simp only[Eu,hget,AX _ _ (show 0≠100+i by omega),AX _ _ (show 305≠100+i by omega),AX _ _ (show 303≠100+i by omega),AX _ _ (show 302≠100+i by omega),AX _ _ (show 300≠100+i by omega),Bq,W0];have h9:=dP k (List.replicate n (List.replicate n 0)) (List.replicate n (List.replicate n 0)) i h;simp only[B8] at h9;simp (disch:=omega) only[fP,fZ,AX,Rl,CP,CB,h9,hg,K1,EK,Hr]
    .rw[show i=k by omega,ac,hg k (by omega)];simp(disch:=omega)only[ZA,simprocAttr,tV]
   .by_cases h:i<k
    .rw[ag i h,hg i (by omega)];simp only[Eu,hget,AX _ _ (show 0≠200+i by omega),AX _ _ (show 305≠200+i by omega),AX _ _ (show 303≠200+i by omega),AX _ _ (show 302≠200+i by omega),AX _ _ (show 300≠200+i by omega),Bq,W0];have h9:=dV k (List.replicate n (List.replicate n 0)) (List.replicate n (List.replicate n 0)) i (by omega) h;simp only[B8] at h9;simp (disch:=omega) only[fP,fZ,AX,Rl,CP,CB,h9,hg,K1,EK,Hr]
    .rw[show i=k by omega,ad,hg k (by omega)];simp(disch:=omega)only[ZA,simprocAttr,tV]
 .intro _;have aw:k=n:=by omega
  subst aw;clear hk av;refine AU.old ⟨{j:Nat//j<=bs.length},λj=>⟨[(38,.im (.int .i64 j.1)),(37,.im (.int .i64 bs.length)),(36,.im (.sl false 3 (bs.map Ag.c))),(5,.ptr 0 0)],(0,(true,.cells 298 [.own 1,.own 2]))::(1,(true,.arrA 31 1 (Dm 100 k)))::(2,(true,.arrA 31 1 (Dm 200 k)))::(B8 100 k (Cb k bs j.1).Room++B8 200 k (Cb k bs j.1).Flow),300⟩,λj=>bs.length - j.1,λj=>⟨?_,by simp⟩,⟨⟨0,by simp⟩,?_⟩,λj=> ?_⟩
  .exact tW _ _ _ (by omega) _ (by simp[CH,AV.bel])
  .simp only[sub,Gx,Ci,A8,hget,kX];simp(disch:=omega)only[ZA,simprocAttr,tD,Cb,KI];refine⟨λi z=> ?_,λi z=> ?_⟩
   .rw[Ad (by omega),Ad (by omega),Ad (by omega)];exact dP _ _ _ _ z
   .rw[Ad (by omega),Ad (by omega),Ad (by omega)];exact dV _ _ _ _ (by omega) z
  obtain⟨j,hj⟩:=j;obtain⟨ab,_⟩:=W8 Z j;obtain⟨x,hx⟩: ∃x,x=Cb k bs j:=⟨_,rfl⟩;simp only[<-hx] at ab⊢;simp(disch:=omega)only[ZA,simprocAttr,Qn,AR,Bu,Iz];refine⟨λan=>⟨an,λb hb=> ?_⟩,λan=> ?_⟩
  .obtain⟨b1,b2,b3,b4⟩:=Z b (Ba hb);have a0:=ao b (Ba hb);have a8:=ah b (Ba hb);obtain⟨u,hu⟩: ∃u:Nat,b.A=u:=⟨b.A.toNat,by omega⟩;obtain⟨v,hv⟩: ∃v:Nat,b.B=v:=⟨b.B.toNat,by omega⟩;have aa:u<k:=by omega
   have O:v<k:=by omega
   have az:u≠v:=by omega
   simp only[hu,hv,B5];refine⟨by omega,by omega,by omega,?_⟩;have hr: ∀i,i<k->(x.Room[i]?.getD []).length=k:=by
    intro i z;rw[Bk (by rw[ab.r];exact z),AO];exact ab.rr _ (Rn _)
   have ax:=hr u aa;have ay:=hr v O;simp(disch:=omega)only[ZA,simprocAttr,sub,WC,Bu,Iz,AX,Lj,dP,ax,ay,Qxa,dL,vV,kX,tD];have ak:=Qrm Z ah u v j;have am:=Qrm Z ah v u j;rw[<-hx] at ak am;refine⟨by omega,O,by omega,O,λx1 e1=>⟨O,by omega,O,λx2 _=>⟨.inr (by omega),O,O,by omega,aa,by omega,aa,λx3 e3=>⟨aa,by omega,aa,λx4 _=>⟨.inr (by omega),⟨j+1,by omega⟩,by simp only;omega,by rw[AC (by omega) (by omega)];simp only;omega,?_⟩⟩⟩⟩⟩;have r1:DV x u v=x1:=by simp only[DV,GN,e1,AO]
   have r3:DV x v u=x3:=by simp only[DV,GN,e3,AO]
   rw[r1] at ak;rw[r3] at am;rw[AC (by omega) (by omega),AC (by omega) (by omega)];have hN:Cb k bs (j+1)=Kw x b:=by simp only[Cb,hb,<-hx]
   have hR: ∀i,i<k->(Cb k bs (j+1)).Room[i]?.getD []=if v=i then (x.Room[v]?.getD []).set u (x3+b.Strength) else if u=i then (x.Room[u]?.getD []).set v (x1+b.Strength) else x.Room[i]?.getD []:=by
    intro i z;rw[hN];simp only[Kw,Lp,hu,hv,B5];by_cases Q:v=i
    .subst Q;rw[Ak rfl,Dv (by rw[Fc,ab.r];exact O),AO,DM az,e3,AO]
    .rw[Ad Q,DM Q];by_cases h2:u=i
     .subst h2;rw[Ak rfl,Dv (by rw[ab.r];exact aa),AO,e1,AO]
     .rw[Ad h2,DM h2]
   have hF:(Cb k bs (j+1)).Flow=x.Flow:=by rw[hN];rfl
   refine⟨λi z=> ?_,λi z=> ?_⟩
   .rw[hR i z];by_cases Q:v=i
    .subst Q;rw[Ak rfl,Ak rfl]
    .rw[Ad (by omega),Ad Q];by_cases h2:u=i
     .subst h2;rw[Ak rfl,Ak rfl]
     .rw[Ad (by omega),Ad h2,Ad (by omega)];exact dP _ _ _ _ z
   .rw[Ad (by omega),hF];exact dV _ _ _ _ (by omega) z
  .have au:j=bs.length:=by omega
   subst au;rw[hx];exact TF (x:=DJ k bs) (n:=k) (by omega) (λo ho=>by
    have Q:(Al [] o||(Qn o && (Nat.ble 0 o && Nat.blt o (0+320))))=true:=by
     have h2:=K5 o ho;simp[ho];omega
    simp only[Ii,Q,Cg])
 rcases iZ hp with ⟨Q,h2⟩
 have a9:=K5 p.1 Q;exact .inr ⟨by omega,by omega,Q,h2⟩
structure Tw(H:Nat->Option An)(x:Bd)(n:Nat):Prop where
 g0:H 0=some (true,.cells 298 [.own 1,.own 2])
 g1:H 1=some (true,.arrA 31 1 (Dm 100 n))
 g2:H 2=some (true,.arrA 31 1 (Dm 200 n))
 ga: ∀i,i<n->H (100+i)=some (true,.arr 2 1 ((x.Room[i]?.getD []).map Aj))
 gb: ∀i,i<n->H (200+i)=some (true,.arr 2 1 ((x.Flow[i]?.getD []).map Aj))
def Uq{M:List (List Int)}{n:Nat}(h:M.length=n):(List.range n).map (λi=>CK (M[i]?.getD []))=M.map CK:=by
 apply Kt;intro i;rw[Du,Du];by_cases z:i<n
 .rw[Ic z,Bk (by omega:i<M.length)];simp only[CY,Bk (show i<M.length by omega),AO]
 .rw[Fm (by simp;omega),Fm (by omega)];rfl
def M1{H:Nat->Option An}{m b o n:Nat}{M:List (List Int)}(Z:M.length=n)(z:H o=some (true,.arrA 31 1 (Dm b n)))(O: ∀i,i<n->H (b+i)=some (true,.arr 2 1 ((M[i]?.getD []).map Aj))):
 bk H (m+2) (.own o)=some (.sl false 1 (M.map CK)):=by
 simp only[bk,z,Ko];rw[Dm,Rb (f:=Ar (bk H (m+1))) (g:=λi=>[AV.own (b+i)]) (k:=λi=>CK (M[i]?.getD [])),Uq Z]
 .rfl
 .intro i Q;simp only[Ar,bk,O i (Bv.1 Q),Ko];rfl
def Yi{H:Nat->Option An}{x:Bd}{n:Nat}(h:Tw H x n)(z:Kk x n)(a b:D):Ct H [.ptr 0 0,.im a,.im b]=some [.ptr (Bd.c x),Gu a,Gu b]:=by
 have O:=M1 (m:=6) z.r h.g1 h.ga;have Q:=M1 (m:=6) z.f h.g2 h.gb;simp only[Ct,Ej,h.g0,ZF,Gd,Ar,O,Q,Yn,CY,Hv];rfl
def Vj{H:Nat->Option An}{x:Bd}{n nx:Nat}{K:Ai}(h:Tw H x n)(z:Kk x n)(hn:n<=1000){p q:Int}(O:0<=p)(aa:p<n)(Q:0<=q)(ab:q<n)
 (hK: ∀U,K (.im (.sl true 1 ((Cu x n p q).map Aj))) {use:=U}):wayC.row [.ptr 0 0,.im (.int .i64 p),.im (.int .i64 q)] H nx K:=by
 have Z:=z.r;rw[wayC.q,Yi h z];have e:Bd.d ((Bd.c x).take 2)=some x:=Bd.d_c x;simp only[Ww,b3,qP,qI,a3,kP,kI,Gu,e,FR,EB];refine⟨⟨Z▸z,by omega,O,by omega,Q,by omega⟩,?_⟩;have e2:wayC.re (wayC.fv (x,p,q))= .sl true 1 ((Cu x n p q).map Aj):=by simp only[wayC.re,wayC.fv,Z]
 rw[e2];exact hK _
def sndC.n(a:Bd×Int×Int×Int):Nat:=min a.1.Room.length 64
def Re(n:Nat)(p q:Int):Nat->Bd->Bd
 |0,x=>x
 |m+1,x=>if Cu x n p q=[] then x else Re n p q m (Hl x (Cu x n p q) ((Cu x n p q).length - 1))
def sndC.ca(a:Bd×Int×Int×Int):List AV:=[.ptr 0 0,.im (.int .i64 a.2.1),.im (.int .i64 a.2.2.1),.im (.int .i64 a.2.2.2)]
def sndC.H0(a:Bd×Int×Int×Int):Ao:=CE a.1 (sndC.n a)
def sndC.H1(a:Bd×Int×Int×Int):Ao:=B8 200 (sndC.n a) (Re (sndC.n a) a.2.1 a.2.2.1 a.2.2.2.toNat a.1).Flow
def sndC.r0(a:Bd×Int×Int×Int):AV:= .im (.int .i64 (FO (sndC.n a) a.2.1 a.2.2.1 a.2.2.2.toNat a.1))
structure UA(a:Bd×Int×Int×Int):Prop where
 n:a.1.Room.length<=64
 ok:Kk a.1 a.1.Room.length
 p0:0<=a.2.1
 p1:a.2.1<a.1.Room.length
 q0:0<=a.2.2.1
 q1:a.2.2.1<a.1.Room.length
 pq:a.2.1≠a.2.2.1
 m0:0<=a.2.2.2
 m1:a.2.2.2<=1000000
 fl: ∃v,QR (DV a.1) (JB a.1) a.1.Room.length a.2.1.toNat a.2.2.1.toNat v
 rm: ∀u v,DV a.1 u v<=10000000000000
def SP(j:Nat):Bool:=Nat.ble 200 j && Nat.blt j 264
def sndC.row:Ay:=AA sndC.ca sndC.H0 300 UA SP sndC.r0 sndC.H1 10
def sndC.hbel(a:Bd×Int×Int×Int):AE 300 (sndC.ca a)=true:=rfl
def sndC.n_le(a:Bd×Int×Int×Int):sndC.n a<=64:=gA _ _
def oE(x:Bd)(n:Nat)(hn:n<=64):Au 300 (CE x n)=true/\BB 300 (CE x n)=true:=by
 have:=tW n x.Room x.Flow hn [] rfl
 simp only[Av.good,AL] at this;exact this.2
def sndC.hbH(a:Bd×Int×Int×Int):Au 300 (sndC.H0 a)=true:=(oE _ _ (sndC.n_le a)).1
def sndC.hkH(a:Bd×Int×Int×Int):BB 300 (sndC.H0 a)=true:=(oE _ _ (sndC.n_le a)).2
def Vy(x:Bd)(n:Nat)(hn:n<=64):Tw (hget (CE x n)) x n:=by
 refine⟨rfl,rfl,rfl,λi z=> ?_,λi z=> ?_⟩
 .simp only[CE,hget,AX _ _ (show 0≠100+i by omega),AX _ _ (show 1≠100+i by omega),AX _ _ (show 2≠100+i by omega),Bq];exact dP _ _ _ _ z
 .simp only[CE,hget,AX _ _ (show 0≠200+i by omega),AX _ _ (show 1≠200+i by omega),AX _ _ (show 2≠200+i by omega),Bq];exact dV _ _ _ _ (by omega) z
def Qvt(H0:Ao): ∀(a b:Ao),BU H0 (a++b)↔BU H0 a/\BU H0 b
 |[],b=>by simp[BU]
 |(i,(z,e))::r,b=>by simp only[De,BU,Qvt H0 r b,gJ]
def Qud(H0:Ao)(b n:Nat)(M:List (List Int)):BU H0 (B8 b n M):=by
 have: ∀(l:List Nat),BU H0 (l.map λi=>(b+i,(true,Ac.arr 2 1 ((M[i]?.getD []).map Aj)))):=by
  intro l;induction l with
  |nil=>simp[BU]
  |cons i r ih=>simp only[Bg,BU];exact⟨λm z=>by simp[Ac.nms] at z,ih⟩
 exact this _
def Qu6(b n:Nat): ∀m∈B9 (Dm b n),∃i,i<n/\m=b+i:=by
 have: ∀(l:List Nat),(∀i∈l,i<n)-> ∀m∈B9 (l.map λi=>[AV.own (b+i)]),∃i,i<n/\m=b+i:=by
  intro l;induction l with
  |nil=>intro _ m z;simp[B9] at z
  |cons i r ih=>
   intro O m z;simp only[Bg,B9,AB,AV.nms,DA,Bs,BS] at z;rcases z with rfl|z
   .exact⟨i,O i (BR ..),rfl⟩
   .exact ih (λj Z=>O j (BQ _ Z)) m z
 exact this _ (λi Q=>Bv.1 Q)
def Yh(x:Bd)(n:Nat)(hn:n<=64):BU (CE x n) (CE x n):=by
 have O:=Vy x n hn;have hd: ∀o e,hget (CE x n) o=some e->Al (CE x n) o=true:=λo e h=>by simp only[Al,h];rfl
 obtain⟨H,hH⟩: ∃H,H=CE x n:=⟨_,rfl⟩;rw[<-hH] at O hd;rw[show BU (CE x n) (CE x n)=BU H (CE x n) by rw[hH]];simp only[CE,BU,Qvt];refine⟨λm z=> ?_,λm z=> ?_,λm z=> ?_,Qud _ _ _ _,Qud _ _ _ _⟩
 .simp only[Ac.nms,AB,AV.nms,DA,Bs,BS] at z;rcases z with rfl|rfl
  .exact hd _ _ O.g1
  .exact hd _ _ O.g2
 .obtain⟨i,Q,rfl⟩:=Qu6 100 n m z;exact hd _ _ (O.ga i Q)
 .obtain⟨i,Q,rfl⟩:=Qu6 200 n m z;exact hd _ _ (O.gb i Q)
def Nd{s:Av}{x:Bd}{n:Nat}(h:Tw (hget s.h) x n):Ci s (CE x n):=by
 simp only[CE,Ci,kX,tD];exact⟨h.g0,h.g1,h.g2,h.ga,h.gb⟩
def MM(h:Nat->Option An)(f:Nat->Bool): ∀(a b:Ao),HO h f (a++b)↔HO h f a/\HO h f b
 |[],b=>by simp[HO]
 |(i,e)::r,b=>by simp only[De,HO,MM h f r b,gJ]
def aP(i:Nat)(h:i<64):SP (200+i)=true:=by
 simp only[SP,AL,G8,E4];omega
def Qxi(h:Nat->Option An)(f:Nat->Bool)(b:Nat)(g:Nat->An)(n:Nat)(H: ∀i,i<n->f (b+i)=true\/h (b+i)=some (g i)):HO h f (AS b n g):=by
 have: ∀(l:List Nat),(∀i∈l,i<n)->HO h f (l.map λi=>(b+i,g i)):=by
  intro l;induction l with
  |nil=>intro _;trivial
  |cons i r ih=>
   intro O;simp only[Bg,HO];refine⟨?_,ih (λj Z=>O j (BQ _ Z))⟩;rcases H i (O i (BR ..)) with z|z
   .rw[z];trivial
   .cases f (b+i)
    .exact z
    .trivial
 exact this _ (λi Q=>Bv.1 Q)
def Um{h:Nat->Option An}{n:Nat}(hn:n<=64){M:List (List Int)}(H: ∀i,i<n->h (100+i)=some (true,.arr 2 1 ((M[i]?.getD []).map Aj))):HO h SP (B8 100 n M):=Qxi _ _ _ _ _ (λi z=> .inr (H i z))
def Un{h:Nat->Option An}{n:Nat}(hn:n<=64){M:List (List Int)}:HO h SP (B8 200 n M):=Qxi _ _ _ _ _ (λi z=> .inl (aP i (by omega)))
def sndC.hnm(a:Bd×Int×Int×Int):BU (sndC.H0 a) (sndC.H0 a):=Yh _ _ (sndC.n_le a)
def sndC.ok:A9 195 sndC.row:=by
 refine ow (tC wayC.ok tN) Tryz.func195 (exB:=λ_=>false) (R:=λa r=>r=sndC.r0 a) (λ_=>rfl)
  (λa=>⟨sndC.hbel a,sndC.hbH a,sndC.hkH a,sndC.hnm a⟩) (λa p hp=> ?_) (λa r h=>by subst h;exact CN.refl _) ?_
 rotate_left
 intro a av;simp only[Tryz.f195,sndC.ca];simp(disch:=omega)only[ZA,simprocAttr];obtain⟨x,p,q,mo⟩:=a;obtain⟨hn,am,ad,aa,af,ag,au,ba,bb,ak,an⟩:=av;simp only at hn am ad aa af ag au ba bb ak an;obtain⟨n,hnn⟩: ∃n,n=x.Room.length:=⟨_,rfl⟩;obtain⟨M,hM⟩: ∃M:Nat,mo=M:=⟨mo.toNat,by omega⟩;subst hM;have be: ∀y:Int×Int×Int,sndC.n (x,y)=n:=λy=>by simp only[sndC.n,<-hnn];omega
 simp only[sndC.H1,sndC.r0,sndC.H0,be,B5,CE,Bu];rw[<-hnn] at hn am aa ag ak;refine AU.old ⟨{s:Nat×Bd//s.1<=M/\Kk s.2 n/\s.2.Room=x.Room/\(∃v,QR (DV x) (JB s.2) n p.toNat q.toNat v)/\FO n p q M x=FO n p q (M - s.1) s.2+s.1/\Re n p q M x=Re n p q (M - s.1) s.2},λs=>⟨[(9,.im (.int .i64 s.1.1)),(0,.ptr 0 0),(1,.im (.int .i64 p)),(2,.im (.int .i64 q)),(3,.im (.int .i64 M))],CE s.1.2 n,300⟩,λs=>M - s.1.1,λs=>⟨?_,by simp⟩,⟨⟨(0,x),by simp only;omega,am,rfl,ak,by simp,by simp⟩,?_⟩,λs=> ?_⟩
 .simp only[CE];exact tW _ _ _ hn _ (by simp[CH,AV.bel])
 .simp only[sub,Gx,A8];refine⟨?_,?_⟩
  .simp(disch:=omega)only[ZA,simprocAttr]
  .exact Nd (Vy x n hn)
 obtain⟨⟨k,y⟩,i1,i2,i3,i4,i5,i6⟩:=s;simp only at i1 i2 i3 i4 i5 i6;simp only[CE];simp(disch:=omega)only[ZA,simprocAttr,Bu];refine Vj (Vy y n hn) i2 (by omega) ad aa af ag (λU=> ?_);obtain⟨L,hL⟩: ∃L,L=Cu y n p q:=⟨_,rfl⟩;rw[<-hL];simp(disch:=omega)only[ZA,simprocAttr,Bu,AR];have ai:(FO n p q (M - k) y=0)->(Re n p q (M - k) y=y)->(((bif SP 0 then True else True)/\(bif SP 1 then True else True)/\(bif SP 2 then True else True)/\HO (hget (CE y n)) SP (B8 100 n x.Room++B8 200 n x.Flow))/\(k:Int)=FO n p q M x/\ ∀kx,Eh (hget (CE y n)) (Bb (hget (CE y n)) kx 9) (B8 200 n (Re n p q M x).Flow)):=by
  intro e1 e2;have hI:=Vy y n hn;refine⟨⟨trivial,trivial,trivial,(MM _ _ _ _).2 ⟨Um hn (λi Q=>by rw[hI.ga i Q,i3]),Un hn⟩⟩,by omega,λkx=> ?_⟩;rw[i6,e2];exact Qoq _ _ _ _ _ hI.gb
 have ay:(L.map Aj).isEmpty=L.isEmpty:=by cases L<;>rfl
 rw[ay];refine⟨λc1=>⟨λc2=> ?_,λc2=> ?_⟩,λc1=> ?_⟩
 .obtain⟨g1,g2,g3⟩:=ai (by rw[show M - k=0 by omega];rfl) (by rw[show M - k=0 by omega];rfl);exact⟨g1,g2,g3 _⟩
 .have ab:L≠[]:=by intro h;rw[h] at c1;cases c1
  have hW:SG y n p q L:=by rw[hL];exact Vl ad aa af ag (by rw[<-hL];exact ab)
  have bi:=hW.pos;obtain⟨v,hv⟩:=i4;have ao: ∀i,i<L.length-> ∃w:Nat,L[i]? =some (w:Int)/\w<n:=by
   intro i Q
   have:=hW.inb _ (Rn Q)
   refine⟨(L[i]).toNat,by rw[Bk Q];congr 1;omega,by omega⟩
  refine AU.old ⟨{j:Nat//j+1<=L.length},λj=>⟨[(11,.im (.int .i64 ((j.1:Int)+1))),(10,.im (.sl true 1 (L.map Aj))),(9,.im (.int .i64 k)),(0,.ptr 0 0),(1,.im (.int .i64 p)),(2,.im (.int .i64 q)),(3,.im (.int .i64 M))],CE (Hl y L j.1) n,300⟩,λj=>L.length - j.1,λj=>⟨?_,by simp⟩,⟨⟨0,by omega⟩,?_⟩,λj=> ?_⟩
  .simp only[CE];exact tW _ _ _ hn _ (by simp[CH,AV.bel])
  .simp only[sub,Gx,A8];refine⟨?_,?_⟩
   .simp(disch:=omega)only[ZA,simprocAttr]
   .exact Nd (Vy y n hn)
  obtain⟨j,hj⟩:=j;have O:=zP i2 hW.inb j (by omega);obtain⟨z,hz⟩: ∃z,z=Hl y L j:=⟨_,rfl⟩;simp only[<-hz] at O⊢;simp only[CE];have ej:((j:Int)+1).toNat=j+1:=by omega
  simp(disch:=omega)only[ZA,simprocAttr,Bu,sub,AR,Iz];intro bh;have ew:IntKind.i64.wrap ((j:Int)+1 - 1)=j:=by rw[AC (by omega) (by omega)];omega
  have aw:IntKind.i64.wrap ((j:Int)+1+1)=(j:Int)+1+1:=AC (by omega) (by omega);simp only[ew,B5];refine⟨λa8=> ?_,λa8=> ?_⟩
  .obtain⟨u,ac,hu⟩:=ao j (by omega);obtain⟨w,aj,Z⟩:=ao (j+1) (by omega);have bf:u≠w:=by
    intro h
    have:=hW.nd j (j+1) (by omega) (by omega) (by simp only[Lf,ac,aj,h])
    omega
   have hr: ∀i,i<n->(z.Flow[i]?.getD []).length=n:=by
    intro i Q;rw[Bk (by rw[O.f];exact Q),AO];exact O.ff _ (Rn _)
   have bc:=hr u hu;have bd:=hr w Z;simp only[ac,AI,forall_eq'];simp(disch:=omega)only[ZA,simprocAttr,sub,WC,Bu,Iz,AX,Lj,dV,ew,aw,ej,ac,aj,forall_eq',bc,bd,Qxa,dL,vV,kX,tD];have hb: ∀a b,a<n->b<n-> -10000000000002<=JB z a b/\JB z a b<=10000000000002:=by
    intro a b ha hb;have h1:=Qso i2 hW.inb a b j (by omega);have h2:=Qr1 (L:=Lf L) (m:=L.length - 1) (λi j Q hj=>hW.nd i j (by omega) (by omega)) a b j (by omega);have h3:=Qr1 (L:=Lf L) (m:=L.length - 1) (λi j Q hj=>hW.nd i j (by omega) (by omega)) b a j (by omega);have h4:=rR (Lf L) a b j;have h5:=rR (Lf L) b a j;have h6:=hv.cap a b ha hb;have h7:=hv.cap b a hb ha;have h8:=hv.anti a b ha hb;have h9:=an a b;have bj:=an b a;rw[<-hz] at h1;simp only[JB] at*;omega
   have az:=hb u w hu Z;have a0:=hb w u Z hu;refine⟨by omega,hu,hu,by omega,by omega,by omega,Z,by omega,Z,λx1 e1=>⟨Z,by omega,Z,λ_ _=>⟨.inr (by omega),by omega,by omega,Z,Z,by omega,by omega,hu,by omega,hu,λx3 e3=>⟨hu,by omega,hu,λ_ _=>⟨.inr (by omega),⟨j+1,by omega⟩,by simp only;omega,by simp only;omega,?_⟩⟩⟩⟩⟩;have r1:JB z u w=x1:=by simp only[JB,GN,e1,AO]
   have r3:JB z w u=x3:=by simp only[JB,GN,e3,AO]
   rw[r1] at az;rw[r3] at a0;rw[AC (by omega) (by omega),AC (by omega) (by omega)];have hN:Hl y L (j+1)=N4 z u w:=by simp only[Hl,ac,aj,AO,<-hz]
   have hR: ∀i,i<n->(Hl y L (j+1)).Flow[i]?.getD []=if w=i then (z.Flow[w]?.getD []).set u (x3 - 1) else if u=i then (z.Flow[u]?.getD []).set w (x1+1) else z.Flow[i]?.getD []:=by
    intro i Q;rw[hN];simp only[N4,Lp,B5];by_cases h1:w=i
    .subst h1;rw[Ak rfl,Dv (by rw[Fc,O.f];exact Z),AO,DM bf,e3,AO];rfl
    .rw[Ad h1,DM h1];by_cases h2:u=i
     .subst h2;rw[Ak rfl,Dv (by rw[O.f];exact hu),AO,e1,AO]
     .rw[Ad h2,DM h2]
   have hF:(Hl y L (j+1)).Room=z.Room:=by rw[hN];rfl
   refine⟨λi Q=> ?_,λi Q=> ?_⟩
   .rw[Ad (by omega),Ad (by omega)];show _=some (true,Ac.arr _ 1 (List.map Aj ((Hl y L (j+1)).Room[i]?.getD [])));rw[hF];exact dP _ _ _ _ Q
   .show _=some (true,Ac.arr _ 1 (List.map Aj ((Hl y L (j+1)).Flow[i]?.getD [])));rw[hR i Q];by_cases h1:w=i
    .subst h1;rw[Ak rfl,Ak rfl]
    .rw[Ad (by omega),Ad h1];by_cases h2:u=i
     .subst h2;rw[Ak rfl,Ak rfl]
     .rw[Ad (by omega),Ad h2];exact dV _ _ _ _ (by omega) Q
  .have a9:j=L.length - 1:=by omega
   subst a9;obtain⟨m,hm⟩: ∃m,M - k=m+1:=⟨M - k - 1,by omega⟩;have aq: ¬Cu y n p q=[]:=by rw[<-hL];exact ab
   have e5:FO n p q (m+1) y=FO n p q m z+1:=by simp only[FO];rw[Ad aq,<-hL,<-hz]
   have e6:Re n p q (m+1) y=Re n p q m z:=by simp only[Re];rw[Ad aq,<-hL,<-hz]
   rw[hm] at i5 i6;have ah:=(Qun i2 ad aa au af (v:=v) (by rw[show DV y=DV x by funext a b;simp only[DV,i3]];exact hv) hW).2;have bg:z.Room=x.Room:=by rw[hz,Ql3,i3]
   rw[show DV y=DV x by funext a b;simp only[DV,i3],<-hz] at ah;refine⟨⟨(k+1,z),by simp only;omega,O,bg,⟨_,ah⟩,by simp only;rw[show M - (k+1)=m by omega];omega,by simp only;rw[show M - (k+1)=m by omega,i6,e6]⟩,by simp only;omega,?_⟩;refine⟨by rw[AC (by omega) (by omega)];simp only;omega,?_⟩;simp only[kX,tD];exact⟨(Vy z n hn).ga,(Vy z n hn).gb⟩
 .have ab:L=[]:=by
   cases L with
   |nil=>rfl
   |cons a r=>exact absurd rfl c1
  have Z:Cu y n p q=[]:=by rw[<-hL,ab]
  have z1: ∀m,FO n p q m y=0:=by
   intro m;cases m with
   |zero=>rfl
   |succ m=>simp only[FO];rw[Ak Z]
  have z2: ∀m,Re n p q m y=y:=by
   intro m;cases m with
   |zero=>rfl
   |succ m=>simp only[Re];rw[Ak Z]
  obtain⟨g1,g2,g3⟩:=ai (z1 _) (z2 _);exact⟨g1,g2,g3 _⟩
 simp only[sndC.H1,B8,AS,Bh,Bv] at hp;obtain⟨i,Q,rfl⟩:=hp;have ax:=sndC.n_le a;refine .inl ⟨by omega,by simp only[SP,AL,G8,E4];omega,?_⟩;simp only[Al,sndC.H0];rw[(Vy a.1 (sndC.n a) ax).gb i Q];rfl
def Qwi(h:Nat->Option An)(σ:Nat->Nat): ∀(a b:Ao),CO h σ (a++b)↔CO h σ a/\CO h σ b
 |[],b=>by simp[CO]
 |(i,(z,e))::r,b=>by simp only[De,CO,Qwi h σ r b,gJ]
def Qt1{h:Nat->Option An}{σ:Nat->Nat}{b n:Nat}{M:List (List Int)}(H: ∀i,i<n->h (σ (b+i))=some (true,.arr 2 1 ((M[i]?.getD []).map Aj))):CO h σ (B8 b n M):=by
 have: ∀(l:List Nat),(∀i∈l,i<n)->CO h σ (l.map λi=>(b+i,(true,Ac.arr 2 1 ((M[i]?.getD []).map Aj)))):=by
  intro l;induction l with
  |nil=>intro _;trivial
  |cons i r ih=>
   intro z;simp only[Bg,CO];exact⟨H i (z i (BR ..)),ih (λj Q=>z j (BQ _ Q))⟩
 exact this _ (λi O=>Bv.1 O)
def Qth{σ:Nat->Nat}{b n:Nat}{M:List (List Int)}(H: ∀i,i<n->σ (b+i)=b+i):AZ σ (B8 b n M)=B8 b n M:=by
 have: ∀(l:List Nat),(∀i∈l,i<n)->AZ σ (l.map λi=>(b+i,(true,Ac.arr 2 1 ((M[i]?.getD []).map Aj))))=l.map λi=>(b+i,(true,Ac.arr 2 1 ((M[i]?.getD []).map Aj))):=by
  intro l;induction l with
  |nil=>intro _;rfl
  |cons i r ih=>
   intro z;simp only[Bg,AZ];rw[H i (z i (BR ..)),ih (λj Q=>z j (BQ _ Q))];rfl
 exact this _ (λi O=>Bv.1 O)
def yZ{σ:Nat->Nat}{b n:Nat}(H: ∀i,i<n->σ (b+i)=b+i):(Dm b n).map (AJ σ)=Dm b n:=by
 simp only[Dm,Oe];refine Kr λi z=> ?_
 simp only[Function.comp,AJ,AV.ren,H i (Bv.1 z)]
def Qzq(σ:Nat->Nat): ∀(a b:Ao),AZ σ (a++b)=AZ σ a++AZ σ b
 |[],b=>rfl
 |(i,(z,e))::r,b=>by simp only[De,AZ,Qzq σ r b]
def Yt{σ:Nat->Nat}{x:Bd}{n:Nat}(hn:n<=64)(H: ∀j,j<300->σ j=j):AZ σ (CE x n)=CE x n:=by
 simp only[CE,AZ,Qzq,Ac.ren,AJ,AV.ren,H 0 (by omega),H 1 (by omega),H 2 (by omega),yZ (b:=100) (n:=n) (λi z=>H (100+i) (by omega)),yZ (b:=200) (n:=n) (λi z=>H (200+i) (by omega)),Qth (b:=100) (n:=n) (λi z=>H (100+i) (by omega)),Qth (b:=200) (n:=n) (λi z=>H (200+i) (by omega))]
def KJ{x:Bd}{n:Nat}(hn:n<=64){j:Nat}(h:Al (CE x n) j=true):j<264/\(200<=j-> ∃i,i<n/\j=200+i)/\j∈[0,1,2]++((List.range n).map (100+ ·)++(List.range n).map (200+ ·)):=by
 have z:j∈[0,1,2]++((List.range n).map (100+ ·)++(List.range n).map (200+ ·)):=by
  have: ∀(H:Ao),Al H j=true->j∈Fk H:=by
   intro H;induction H with
   |nil=>intro h;simp[Al,hget] at h
   |cons e r ih=>
    obtain⟨i,e⟩:=e;intro h;simp only[Al,hget] at h;simp only[Fk,Be];by_cases Q:i=j
    .exact .inl Q.symm
    .have:(i==j)=false:=by simpa using Q
     rw[this] at h;exact .inr (ih h)
  have h2:=this _ h;simp only[CE,Fk,Qpf,B8,Zk] at h2;simpa using h2
 refine⟨?_,λO=> ?_,z⟩
 .have:=Ty n hn j z
  rcases Bs.1 z with z|z
  .simp at z;omega
  .rcases Bs.1 z with z|z<;>obtain⟨i,Z,rfl⟩:=Bh.1 z<;>have:=Bv.1 Z
   .show 100+i<264;omega
   .show 200+i<264;omega
 .rcases Bs.1 z with z|z
  .simp at z;omega
  .rcases Bs.1 z with z|z<;>obtain⟨i,Z,rfl⟩:=Bh.1 z<;>have:=Bv.1 Z
   .have h3:200<=100+i:=O;omega
   .exact⟨i,this,rfl⟩
def OO{kill:List Nat}{nx cnt b n:Nat}{M:List (List Int)}(H: ∀i,i<n->kill.contains (b+i)=true/\b+i<nx):Hm kill nx cnt (B8 b n M)=true:=by
 have: ∀(l:List Nat),(∀i∈l,i<n)->Hm kill nx cnt (l.map λi=>(b+i,(true,Ac.arr 2 1 ((M[i]?.getD []).map Aj))))=true:=by
  intro l;induction l with
  |nil=>intro _;rfl
  |cons i r ih=>
   intro z;simp only[Bg,Hm,JW,AL,H8,G8,E4];exact⟨.inr (H i (z i (BR ..))),ih (λj Q=>z j (BQ _ Q))⟩
 exact this _ (λi O=>Bv.1 O)
def UC{H:Nat->Option An}{x:Bd}{nx:Nat}{K:Ai}{p q Q:Int}(hH:Tw H x x.Room.length)(Z:UA (x,p,q,Q))(aa:300<=nx)
 (hK: ∀E:Bo,E.cnt=10->E.ok nx (.im (.int .i64 (FO x.Room.length p q Q.toNat x)))=true->K (.im (.int .i64 (FO x.Room.length p q Q.toNat x))) E):sndC.row [.ptr 0 0,.im (.int .i64 p),.im (.int .i64 q),.im (.int .i64 Q)] H nx K:=by
 have hn:x.Room.length<=64:=Z.n;have O:sndC.n (x,p,q,Q)=x.Room.length:=by simp only[sndC.n];omega
 have hσ: ∀j,j<300->BW (λj=>j) 300 nx j=j:=λj hj=>Ak hj
 refine⟨(x,p,q,Q),λj=>j,[0,1,2]++((List.range x.Room.length).map (100+ ·)++(List.range x.Room.length).map (200+ ·)),(List.range x.Room.length).map (200+ ·),Z,?_,?_,?_,?_⟩
 .simp only[sndC.ca,AJ,AV.ren,hσ 0 (by omega)]
 .simp only[sndC.H0,O,CE,CO,Qwi,Ac.ren,AJ,AV.ren,hσ 0 (by omega),hσ 1 (by omega),hσ 2 (by omega),yZ (b:=100) (n:=x.Room.length) (λi z=>hσ (100+i) (by omega)),yZ (b:=200) (n:=x.Room.length) (λi z=>hσ (200+i) (by omega))];exact⟨hH.g0,hH.g1,hH.g2,Qt1 (λi z=>by rw[hσ _ (by omega)];exact hH.ga i z),Qt1 (λi z=>by rw[hσ _ (by omega)];exact hH.gb i z)⟩
 .have hd: ∀j,Al (sndC.H0 (x,p,q,Q)) j=true->Al (CE x x.Room.length) j=true:=λj h=>by simpa only[sndC.H0,O] using h
  refine⟨λi j _ _ h=>h,λj hj=> ?_,λj hj=>(KJ hn (hd j hj)).2.2,λm hm=> ?_,λj hj hk=> ?_⟩
  .have:=(KJ hn (hd j hj)).1
   omega
  .obtain⟨i,z,rfl⟩:=Bh.1 hm
   have:=Bv.1 z
   refine⟨200+i,?_,aP i (by omega),rfl⟩;simp only[Al,sndC.H0,O];rw[(Vy x _ hn).gb i this];rfl
  .simp only[SP,AL,G8,E4] at hk;obtain⟨i,z,rfl⟩:=(KJ hn (hd j hj)).2.1 hk.1;exact Bh.2 ⟨i,Bv.2 z,rfl⟩
 .have e:(sndC.r0 (x,p,q,Q)).ren (BW (λj=>j) 300 nx)= .im (.int .i64 (FO x.Room.length p q Q.toNat x)):=by simp only[sndC.r0,O,AV.ren]
  rw[e];refine hK _ rfl ?_;simp only[Bo.ok,AV.bel,DB,sndC.H1,O];rw[Qth (λi z=>hσ _ (by omega)),AL];refine⟨QW _ _ _ (λi=>rfl) _,OO λi z=>⟨?_,by omega⟩⟩;rw[Hp];exact Bh.2 ⟨i,Bv.2 z,rfl⟩
def Qu2(cnt:Nat): ∀(H:Ao),(∀p∈H,p.1<cnt)->Hm [] 0 cnt H=true
 |[],_=>rfl
 |(i,e)::r,h=>by
  have z:=h (i,e) (BR ..);simp only at z;simp only[Hm,JW,Qu2 cnt r (λp hp=>h p (BQ _ hp)),F5,H8,AL,G8,E4];exact .inl ⟨by omega,by omega⟩
def Tx{x:Bd}{n:Nat}(r:AV)(hn:n<=64)(z:r.bel 320=true){use:List Nat}:Bo.ok {use:=use,kill:=[],new:=CE x n,cnt:=320} 0 r=true:=by
 simp only[Bo.ok,Gg,z,DB,AL];refine⟨?_,Qu2 _ _ λp hp=>by have:=K5 _ (My hn hp).1;omega⟩;simp only[CE,Au,sP,B8];rw[QW _ _ _ (λi=>rfl),QW _ _ _ (λi=>rfl),Wy _ _ _ (by omega),Wy _ _ _ (by omega)];rfl
def Qt8(n:Nat)(bs:List Ag)(t:Int)(k:Nat)(h:QY n bs t k=false): ∀m,QY n bs t (k+m)=false
 |0=>h
 |m+1=>by rw[show k+(m+1)=k+m+1 by omega,QY,Qt8 n bs t k h m,Fo]
def uV(n:Int)(bs:List Ag)(t:Int):Bool:=QY n.toNat bs t (n.toNat - 1)
def holds_.fv(a:Int×(List Ag)×Int):Bool:=(uV) (a.1) (a.2.1) (a.2.2)
def holds_.row:Ay:=vK (b3 qI (qS Ag.d_le Ag.c_n) qI) rB (λa=>Mz (a.1,a.2.1)/\0<=a.2.2/\a.2.2<=1000000) holds_.fv
def holds_.q:=AT (R:=holds_.row) rfl
def holds_.ok:A9 168 holds_.row:=by
 refine vw (tC nwC.ok (tC sndC.ok tN)) Tryz.func168 ?_;intro a ac;simp only[Tryz.f168];simp only[ZA,simprocAttr,holds_.fv];obtain⟨hp,ad,af⟩:=ac;obtain⟨h0,h1,hl,z,O,Q⟩:=hp;simp only at h0 h1 hl z O Q;obtain⟨n,hn⟩: ∃n:Nat,a.1=n:=⟨a.1.toNat,by omega⟩;obtain⟨bs,hbsd⟩: ∃bs,bs=a.2.1:=⟨_,rfl⟩;obtain⟨t,ht⟩: ∃t,t=a.2.2:=⟨_,rfl⟩;simp only[hn,<-hbsd,<-ht,uV,B5] at h0 h1 hl z O Q ad af⊢;have Z:Mz ((n:Int),bs):=⟨h0,h1,hl,z,O,Q⟩;refine AU.old ⟨{k:Nat//(k=0\/k+1<=n)/\QY n bs t k=true},λk=>⟨[(7,.im (.int .i64 ((k.1:Int)+1))),(0,.im (.int .i64 n)),(1,.im (.sl false 3 (bs.map Ag.c))),(2,.im (.int .i64 t))],[],0⟩,λk=>n - k.1,λk=>⟨by simp[ZG],by simp⟩,⟨⟨0,.inl rfl,rfl⟩,by simp only[ZA,simprocAttr,sub]⟩,λk=> ?_⟩;obtain⟨k,aa,ab⟩:=k;simp only[ZA,simprocAttr,AR];refine⟨λhk=> ?_,λhk=> ?_⟩
 .refine AA.os ((n:Int),bs) [] Z (λj=>by simp[Al,hget]) rfl rfl ?_ ?_
  .simp only[ZA,simprocAttr,nwC.ca]
  .have e1:AZ (BW (Ik []) 0 0) (nwC.H1 ((n:Int),bs))=CE (DJ n bs) n:=by
    simp only[nwC.H1,B5];rw[Zfd (by omega)];exact Yt (by omega) (λj _=>by simp[BW])
   rw[e1];refine⟨Tx _ (by omega) rfl,?_⟩;simp only[ZA,simprocAttr,Bu];have hr:(DJ n bs).Room.length=n:=(W8 z bs.length).1.r;have hI:=Vy (DJ n bs) n (by omega);rw[show hget (CE (DJ n bs) n)=hget (CE (DJ n bs) n) from rfl];refine UC (x:=DJ n bs) (by rw[hr];exact hI) ?_ (by omega) (λE ai ag=> ?_)
   .refine⟨by simp only;omega,by simp only[hr];exact (W8 z bs.length).1,by simp,by simp only[hr];omega,by simp only;omega,by simp only[hr];omega,by simp only;omega,ad,af,⟨0,by simp only[hr];exact nX z O _ _⟩,λu v=> ?_⟩
    have:=(Qrm z O u v bs.length).2
    simp only[DJ];omega
   .refine⟨ag,?_⟩;rw[hr];obtain⟨sv,hsv⟩: ∃sv,sv=FO n 0 ((k:Int)+1) t.toNat (DJ n bs):=⟨_,rfl⟩;rw[<-hsv];have hs:QY n bs t (k+1)=(QY n bs t k && decide (t<=sv)):=by rw[hsv];rfl
    rw[ab,DB] at hs;simp only[ZA,simprocAttr,Av.app,sub,AR];refine⟨λah=> ?_,λah=>⟨⟨k+1,.inr (by omega),by rw[hs];exact Oi (by omega)⟩,by simp only;omega,by rw[AC (by omega) (by omega)];simp only;omega⟩⟩;have h9:=Qt8 n bs t (k+1) (by rw[hs];exact mM (by omega)) (n - 1 - (k+1));rw[show k+1+(n - 1 - (k+1))=n - 1 by omega] at h9;exact h9.symm
 .rcases aa with rfl|aa
  .rw[show n - 1=0 by omega];rfl
  .rw[show n - 1=k by omega];exact ab.symm
def Kj(t:Int)(b:Ag):Bool:=decide (b.Strength<t)
def CT1.fv(a:Ag×Int):Bool:=(λb t=>Kj t b) (a.1) (a.2)
def CT1.row:Ay:=D1 (b2 (qR Ag.d_le) (qP 1 DO)) rB (λa=>True) CT1.fv
def CT1.q:=DX (R:=CT1.row) rfl
def CT1.ok:A9 192 CT1.row:=by
 refine GF tN Tryz.func192 ?_;intro a z;simp only[Tryz.f192];simp only[ZA,simprocAttr,CT1.fv,D.sc,D.scs,BC];rfl
def IdxB.ar:List PK->Option ((List Ag)×Int)
 |[.val (.sl _ _ O),.val (.fn 192 [] [.ref [.int .i64 z]])]=>(AQ Ag.d O).bind λQ=>some (Q,z)
 |_=>none
def IdxB.ae(a:(List Ag)×Int):List PK:=[.val (.sl false 3 (a.1.map Ag.c)),.val (.fn 192 [] [.ref [.int .i64 a.2]])]
def IdxB.le: ∀z a,IdxB.ar z=some a->BE z (IdxB.ae a):=by
 intro z a h;unfold IdxB.ar at h;split at h
 .simp only[Ei,AI] at h;obtain⟨O,h0,rfl⟩:=h;exact⟨D2 (Dr Ag.d_le _ _ h0) (by simp only[Bh];rintro r ⟨y,_,rfl⟩;rfl),NY ⟨Le.refl _,trivial⟩,trivial⟩
 .cases h
def IdxB.fv(a:(List Ag)×Int):Int:=(λl t=>Bm (Kj t) 0 l) (a.1) (a.2)
def IdxB.row:Ay:=NR IdxB.ar (λa=>True) (λa=>(D.int .i64) (IdxB.fv a))
def IdxB.q:=vqF IdxB.row rfl
def IdxB.ok:A9 211 IdxB.row:=by
 refine yC CF (tC CT1.ok tN) Tryz.func211 rfl (by kernel_rfl) (by kernel_rfl) (ar:=IdxB.ar) (ae:=IdxB.ae) IdxB.le (n:=2) (λ_=>rfl) (by decide) (rc:=(D0)) (re:=(D.int .i64)) (Lg) (f:=IdxB.fv) ?_;intro a Q;simp only[Tryz.f211];simp only[ZA,simprocAttr,IdxB.ae,IdxB.fv];intro hn;refine AU.old ⟨{k:Nat//k<=a.1.length/\Bm (Kj a.2) k (a.1.drop k)=Bm (Kj a.2) 0 a.1},λk=>⟨[(8,.im (.int .i64 k.1)),(7,.im (.int .i64 a.1.length)),(6,.im (.sl false 3 (a.1.map Ag.c))),(4,.im (.int .i64 0)),(0,.im (.sl false 3 (a.1.map Ag.c))),(1,.im (.fn 192 [] [.ref [.int .i64 a.2]]))],[],0⟩,λk=>a.1.length - k.1,λk=>⟨by simp[ZG],AN _⟩,⟨⟨0,by simp⟩,by simp only[ZA,simprocAttr,sub]⟩,λk=> ?_⟩;obtain⟨k,Z,z⟩:=k;simp only[ZA,simprocAttr,CS,CT1.q,CT1.fv,D.sc,D.scs,BC,sub,AR];refine⟨λO=>⟨O,λx hx=> ?_⟩,λO=> ?_⟩
 .rw[E9 hx,Bm] at z;refine⟨λh=> ?_,λh=>F8 O hn ⟨by omega,by rw[<-z,Ad (by simpa using h)]⟩⟩;rw[Ak (by simpa using h)] at z;exact z
 .rw[CG (by omega),Bm] at z;exact z
def Qu3{t:Int}{l:List Ag}{i:Nat}{b:Ag}(Z:l.find? (Kj t)=some b)(h2:Bm (Kj t) 0 l=(i:Int))(h3:l[i]? =some b):G3 t (l.take (i+1))=l.take i:=by
 have hw:Kj t b=true:=Ql Z;have O: ∀(l:List Ag) (o i:Nat),Bm (Kj t) o l=((o+i:Nat):Int)-> ∀x∈l.take i,Kj t x=false:=by
  intro l;induction l with
  |nil=>intro o i _ x z;simp at z
  |cons y r ih=>
   intro o i h x z;cases i with
   |zero=>simp at z
   |succ i=>
    simp only[Bm] at h;split at h
    .omega
    .rename_i hy;rw[Qj] at z;rcases Be.1 z with rfl|z
     .simpa using hy
     .exact ih (o+1) i (by rw[h];congr 1;omega) x z
 rw[Ib,h3,vH,G3,List.filter_append];have Q:(l.take i).filter (λb=>decide (t<=b.Strength))=l.take i:=by
  rw[ZdN];intro x z
  have:=O l 0 i (by rw[h2];simp) x z
  simp only[Kj,Lw] at this;simp only[B3];omega
 simp only[Kj,B3] at hw;rw[Q,vD (by simp;omega),List.filter_nil,DA]
def dlC.ca(a:List Ag×Int):List AV:=[.own 0,.im (.fn 192 [] [.ref [.int .i64 a.2]])]
def dlC.H0(a:List Ag×Int):Ao:=[(0,(true,.arr 214 3 (a.1.map Ag.c)))]
def dlC.H1(a:List Ag×Int):Ao:=[(1,(true,.arr 214 3 ((G3 a.2 a.1).map Ag.c)))]
def dlC.row:Ay:=AA dlC.ca dlC.H0 1 (λa=>a.1.length<=1000000) (λj=>j==0) (λ_=> .own 1) dlC.H1 1000
def dlC.ok:A9 190 dlC.row:=by
 refine Qr (tC IdxB.ok (tC CT1.ok tN)) Tryz.func190 (exB:=λj=>j==1) (R:=λ_ r=>r= .own 1) (λ_=>rfl)
  (λa=>by simp[dlC.ca,dlC.H0,AE,AV.bel,Au,BB,BU,Ac.nms,Al,hget]) (λa p hp=> ?_) (λa r h=>by subst h;exact CN.refl _) ?_
 rotate_left
 intro a Z;simp only[Tryz.f190,dlC.ca,dlC.H0,dlC.H1];simp only[ZA,simprocAttr,CS,IdxB.q,IdxB.ar,IdxB.fv,F3];rcases W4 (Kj a.2) a.1 0 with ⟨e1,Q⟩|⟨i0,b0,e1,Q,e3⟩
 .rw[Q,Ak rfl];refine⟨[],[(1,some 0)],⟨[(4,.own 1)],[(1,(true,.arr 214 3 (a.1.map Ag.c)))],2⟩,?_,by simp[ZG],by simp,?_⟩
  .simp only[Aw];simp only[ZA,simprocAttr]
  .simp only[ZA,simprocAttr]
   have:G3 a.2 a.1=a.1:=by
    rw[G3,ZdN];intro b hb
    have:=ZO.1 e1 b hb
    simp only[Kj,B3] at this⊢;omega
   rw[this]
 .rw[Gg] at Q;rw[Q,Ad (by omega)];have aa:=(Cx.1 e3).1;rw[AC (by omega) (by omega)];obtain⟨l,hl⟩: ∃l,l=a.1:=⟨_,rfl⟩;obtain⟨t,ht⟩: ∃t,t=a.2:=⟨_,rfl⟩;simp only[<-hl,<-ht] at e1 Q e3 aa Z⊢;refine AU.old ⟨{j:Nat//j<=l.length},λj=>⟨[(6,.im (.int .i64 j.1)),(5,.im (.int .i64 (G3 t (l.take j.1)).length)),(0,.own 0),(1,.im (.fn 192 [] [.ref [.int .i64 t]]))],[(0,(true,.arr 214 3 ((G3 t (l.take j.1)++l.drop (G3 t (l.take j.1)).length).map Ag.c)))],2⟩,λj=>l.length - j.1,λj=>⟨by simp[ZG],by simp⟩,⟨⟨i0+1,by omega⟩,?_⟩,λj=> ?_⟩
  .have h1:=Qu3 e1 Q e3;simp only[ZA,simprocAttr,sub,h1,BH];rw[show min i0 l.length=i0 by omega,Kv];exact⟨⟨by omega,rfl⟩,rfl⟩
  obtain⟨j,hj⟩:=j;obtain⟨kp,hkp⟩: ∃kp,kp=G3 t (l.take j):=⟨_,rfl⟩;have ac:kp.length<=j:=by
   have:=Qln t (l.take j)
   rw[BH] at this;rw[hkp];omega
  have af:(kp++l.drop kp.length).length=l.length:=by simp;omega
  simp only[<-hkp];simp only[ZA,simprocAttr,CS,CT1.q,CT1.fv,sub,AR,af];intro _;refine⟨λO=>⟨O,O,λb hb=> ?_⟩,λO=> ?_⟩
  .have ad:l[j]? =some b:=by
    rw[FQ ac,GW,show kp.length+(j - kp.length)=j by omega] at hb;exact hb
   have z:=Qjs t ad;rw[<-hkp] at z;refine⟨λhw=>⟨by omega,by omega,λc _=>⟨⟨j+1,by omega⟩,by simp only;omega,?_⟩⟩,λhw=>⟨⟨j+1,by omega⟩,by simp only;omega,?_⟩⟩
   .have hs:t<=b.Strength:=by
     simp only[Kj,Lw] at hw;omega
    rw[Ak hs] at z;simp only[z,CD,CQ,FS];refine⟨⟨by rw[AC (by omega) (by omega)];omega,by rw[AC (by omega) (by omega)];omega⟩,?_⟩;have h1:(kp++l.drop kp.length).set kp.length b=kp++[b]++l.drop (kp.length+1):=by
     obtain⟨c,hc⟩: ∃c,l[kp.length]? =some c:=⟨_,Bk (by omega)⟩;rw[E9 hc,mI _ _ (AN _),HA,fQ,Fb];rfl
    rw[<-h1,Of];rfl
   .have hs: ¬t<=b.Strength:=by
     rw[Hq] at hw;simp only[Kj,B3] at hw;omega
    rw[Ad hs,DA] at z;simp only[z];exact⟨⟨by rw[AC (by omega) (by omega)];omega,trivial⟩,trivial⟩
  .refine⟨by omega,false,?_⟩;have ab:j=l.length:=by omega
   subst ab;rw[IG] at hkp;simp only[ZA,simprocAttr];have hA:List.take kp.length ((kp++l.drop kp.length).map Ag.c)=kp.map Ag.c:=by
    rw[<-List.map_take,List.take_left]
   rw[hA];refine⟨by simp only[CD,F7];omega,true,?_⟩;simp only[ZA,simprocAttr,F3];refine⟨[],[(1,some 2)],⟨[(4,.own 1)],[(1,(true,.arr 214 3 (kp.map Ag.c)))],2⟩,?_,by simp[ZG],by simp,?_⟩
   .simp only[Aw];simp only[ZA,simprocAttr];rw[show ((kp.length:Int) - 0).toNat=(kp.map Ag.c).length by simp,Fb,List.take_left]
   .simp only[ZA,simprocAttr,hkp]
 simp[dlC.H1] at hp;subst hp;exact .inr ⟨by omega,by omega,rfl,rfl⟩
def Mi(b i:Nat)(x:Int):AV:=if 0<=x/\x<i then .ptr (b+x.toNat) 0 else .im .nilp
def Hs(b:Nat)(L:List Int)(i:Nat):An:=(true,.cells 292 [Mi b i (L[i]?.getD (-1)),.im (.int .i64 i)])
def EC(b:Nat)(L:List Int)(n:Nat):Ao:=AS b n (Hs b L)
def Gp(L:List Int):Prop:= ∀(i:Nat) (x:Int),L[i]? =some x->x<i
def NW(L:List Int)(i:Nat):Nat->Nat
 |0=>i
 |m+1=>if L[i]?.getD (-1)<0 then i else NW L (L[i]?.getD (-1)).toNat m
def E3(L:List Int)(i:Nat):Nat:=NW L i i
def Qabj{L:List Int}(h:Gp L): ∀(i m m':Nat),i<=m->i<=m'->NW L i m=NW L i m':=by
 intro i;induction i using Nat.strongRecOn with
 |_ i ih=>
  intro m m' z O;cases hi:L[i]? with
  |none=>
   cases m<;>cases m'<;>simp[NW,hi]
  |some x=>
   have Q:=h i x hi;by_cases h0:x<0
   .cases m<;>cases m'<;>simp[NW,hi,h0]
   .cases m with
    |zero=>omega
    |succ m=>
     cases m' with
     |zero=>omega
     |succ m'=>
      simp only[NW,hi,AO,Ad h0];exact ih x.toNat (by omega) m m' (by omega) (by omega)
def Zi{L:List Int}(h:Gp L){i:Nat}{x:Int}(z:L[i]? =some x):E3 L i=if x<0 then i else E3 L x.toNat:=by
 have O:=h i x z;by_cases h0:x<0
 .rw[Ak h0,E3];cases i with
  |zero=>rfl
  |succ i=>simp only[NW,z,AO,Ak h0]
 .rw[Ad h0,E3];cases i with
  |zero=>omega
  |succ i=>
   simp only[NW,z,AO,Ad h0];exact Qabj h _ _ _ (by omega) (AN _)
def Qnj{L:List Int}(h:Gp L): ∀(i:Nat),E3 L i<=i:=by
 intro i;induction i using Nat.strongRecOn with
 |_ i ih=>
  cases hi:L[i]? with
  |none=>rw[E3];cases i<;>simp[NW,hi]
  |some x=>
   rw[Zi h hi];have z:=h i x hi;split
   .exact AN _
   .have:=ih x.toNat (by omega);omega
def firC.n(a:List Int×Nat):Nat:=min a.1.length 512
def firC.ca(a:List Int×Nat):List AV:=[.ptr (min a.2 511) 0]
def firC.H0(a:List Int×Nat):Ao:=EC 0 a.1 (firC.n a)
def firC.r0(a:List Int×Nat):AV:= .ptr (E3 a.1 a.2) 0
def firC.pre(a:List Int×Nat):Prop:=a.1.length<=512/\a.2<a.1.length/\Gp a.1
def firC.row:Ay:=AA firC.ca firC.H0 600 firC.pre (λ_=>false) firC.r0 (λ_=>[]) 0
def firC.hbel(a:List Int×Nat):AE 600 (firC.ca a)=true:=by
 simp only[firC.ca,AE,AV.bel,F5,E4];omega
def Qt5(nx b:Nat)(f:Nat->An)(n:Nat)(hf: ∀i,i<n->Au nx [(b+i,f i)]=true):Au nx (AS b n f)=true:=by
 have: ∀(l:List Nat),(∀i∈l,i<n)->Au nx (l.map λi=>(b+i,f i))=true:=by
  intro l;induction l with
  |nil=>intro _;rfl
  |cons i r ih=>
   intro z;rw[Bg,show (b+i,f i)::(r.map λi=>(b+i,f i))=[(b+i,f i)]++(r.map λi=>(b+i,f i)) from rfl,sP,hf i (z i (BR ..)),ih (λj Q=>z j (BQ _ Q))];rfl
 exact this _ (λi O=>Bv.1 O)
def XU(b i N:Nat)(x:Int)(h:b+i<=N):(Mi b i x).bel N=true:=by
 simp only[Mi];split
 .simp only[AV.bel,E4];omega
 .rfl
def tK(b n N:Nat)(L:List Int)(h:b+n<=N):Au N (EC b L n)=true:=Qt5 _ _ _ _ λi z=>by
 simp only[Hs,Au,AE,XU b i N _ (by omega),AV.bel,fW]
def firC.n_le(a:List Int×Nat):firC.n a<=512:=gA _ _
def firC.hbH(a:List Int×Nat):Au 600 (firC.H0 a)=true:=tK _ _ _ _ (by have:=firC.n_le a;omega)
def firC.hkH(a:List Int×Nat):BB 600 (firC.H0 a)=true:=QJ _ _ _ _ (by have:=firC.n_le a;omega)
def Kd(b n:Nat)(L:List Int)(i:Nat)(h:i<n):hget (EC b L n) (b+i)=some (Hs b L i):=GK _ _ _ _ h
def oX{H0:Ao}{b n:Nat}{f:Nat->An}(h: ∀i,i<n-> ∀m∈(f i).2.nms,Al H0 m=true):BU H0 (AS b n f):=by
 have: ∀(l:List Nat),(∀i∈l,i<n)->BU H0 (l.map λi=>(b+i,f i)):=by
  intro l;induction l with
  |nil=>intro _;trivial
  |cons i r ih=>
   intro z;simp only[Bg];exact⟨h i (z i (BR ..)),ih (λj Q=>z j (BQ _ Q))⟩
 exact this _ (λi O=>Bv.1 O)
def firC.hnm(a:List Int×Nat):BU (firC.H0 a) (firC.H0 a):=by
 refine oX λi O m z=> ?_
 simp only[Hs,Ac.nms,AB,Mi] at z;split at z
 .simp only[AV.nms,DA,BS] at z;subst z;rename_i h;simp only[Al,firC.H0];rw[Kd 0 _ _ _ (by omega)];rfl
 .simp[AV.nms] at z
def P9(s:Av)(b n:Nat)(f:Nat->An):Ci s (AS b n f)= ∀i,i<n->hget s.h (b+i)=some (f i):=by
 have: ∀(l:List Nat),Ci s (l.map λi=>(b+i,f i))↔ ∀i∈l,hget s.h (b+i)=some (f i):=by
  intro l;induction l with
  |nil=>simp[Ci]
  |cons i r ih=>simp only[Bg,Ci,ih,Be,vL]
 apply propext;rw[AS,this];simp only[Bv]
def tO{s:Av}{b n:Nat}{L:List Int}(h: ∀i,i<n->hget s.h (b+i)=some (Hs b L i)):Ci s (EC b L n):=by
 rw[EC,P9];exact h
def firC.ok:A9 210 firC.row:=by
 refine ow tN Tryz.func210 (exB:=λ_=>false) (R:=λa r=>r=firC.r0 a) (λ_=>rfl)
  (λa=>⟨firC.hbel a,firC.hbH a,firC.hkH a,firC.hnm a⟩) (λa p hp=> ?_) (λa r h=>by subst h;exact CN.refl _) ?_
 rotate_left
 intro a aa;simp only[Tryz.f210,firC.ca];simp only[ZA,simprocAttr];obtain⟨L,i⟩:=a;obtain⟨h1,h2,h3⟩:=aa;simp only at h1 h2 h3;obtain⟨n,hn⟩: ∃n,n=L.length:=⟨_,rfl⟩;have ac:firC.n (L,i)=n:=by simp only[firC.n,<-hn];omega
 simp only[firC.H0,firC.r0,ac,Bu];rw[<-hn] at h1 h2;rw[show min i 511=i by omega];refine AU.old ⟨{g:Nat//g<n/\E3 L g=E3 L i},λg=>⟨[(0,.ptr g.1 0)],EC 0 L n,600⟩,λg=>g.1,λg=>⟨?_,by simp⟩,⟨⟨i,h2,rfl⟩,?_⟩,λg=> ?_⟩
 .simp only[Av.good,CH,AV.bel,F5,AL,E4];exact⟨by omega,tK _ _ _ _ (by omega),QJ _ _ _ _ (by omega)⟩
 .simp only[sub,Gx,A8];refine⟨?_,tO (λi Z=>Kd 0 n L i Z)⟩;simp only[ZA,simprocAttr]
 obtain⟨g,hg,hr⟩:=g;obtain⟨x,hx⟩: ∃x,L[g]? =some x:=⟨_,Bk (by omega)⟩;have ad:=h3 g x hx;have z:=Kd 0 n L g hg;rw[Gg] at z;simp only[Hs,hx,AO] at z;have ab:=Zi h3 hx;by_cases h0:x<0
 .have O:Mi 0 g x= .im .nilp:=Ad (by omega);rw[O] at z;simp only[ZA,simprocAttr,z,Bu];rw[Ak h0] at ab;exact⟨by omega,by omega,by omega,by omega,by omega,Qxi _ _ _ _ _ (λi Z=> .inr (Kd 0 n L i Z)),by omega⟩
 .have O:Mi 0 g x= .ptr x.toNat 0:=by simp only[Mi];rw[Ak ⟨by omega,ad⟩,Gg]
  rw[O] at z;have Q:=Kd 0 n L x.toNat (by omega);rw[Gg] at Q;simp only[ZA,simprocAttr,sub,z,Q,Bu];rw[Ad h0] at ab;exact⟨by omega,by omega,by omega,by omega,by omega,by omega,by omega,by omega,by omega,⟨x.toNat,by omega,by omega⟩,by simp only;omega,rfl,tO (λi Z=>Kd 0 n L i Z)⟩
 simp at hp
def Kg(b n k:Nat):List (List AV):=(List.range n).map λi=>if i<k then [AV.ptr (b+i) 0] else [.im .nilp]
def Zg(b n k:Nat):(Kg b n k).length=n:=by simp[Kg]
def yX(b n k i:Nat)(h:i<n):(Kg b n k)[i]? =some (if i<k then [.ptr (b+i) 0] else [.im .nilp]):=by simp[Kg,Ic h]
def Qtr(b n k i:Nat)(K:List AV->Prop)(h:i<n):J1 (Kg b n k) i K=K (if i<k then [.ptr (b+i) 0] else [.im .nilp]):=by
 apply propext;unfold J1;rw[yX b n k i h];exact⟨λh=>h _ rfl,λh row z=>by obtain rfl:=A7 z;exact h⟩
def zL(b n k N:Nat)(h:b+k<=N):(Kg b n k).all (AE N)=true:=by
 rw[C6];intro r z;obtain⟨i,O,rfl⟩:=Bh.1 z;split
 .simp[AE,AV.bel];omega
 .simp[AE,AV.bel]
def Qnw(b n N:Nat)(L:List Int)(h:b+n<=N):BB N (EC b L n)=true:=QJ _ _ _ _ h
def Pl(b n:Nat)(π:List (Nat×Option Nat)):GA π (Kg b n 0) (Bp (List.replicate n [.nilp])):=by
 have e:Kg b n 0=Bp (List.replicate n [.nilp]):=by
  simp only[Kg,Bp,vO,CB,List.map_replicate];rw[List.map_const',ZP];rfl
 rw[e];exact Qzo _ _
def XV{σ:Nat->Nat}{i:Nat}{x:Int}(h: ∀j,j<i->σ j=1000+j):(Mi 0 i x).ren σ=Mi 1000 i x:=by
 simp only[Mi];split
 .simp only[AV.ren,Gg];rw[h _ (by omega)]
 .rfl
def QC{h:Nat->Option An}{σ:Nat->Nat}{b n:Nat}{f:Nat->An}(H: ∀i,i<n->h (σ (b+i))=some ((f i).1,(f i).2.ren σ)):CO h σ (AS b n f):=by
 have: ∀(l:List Nat),(∀i∈l,i<n)->CO h σ (l.map λi=>(b+i,f i)):=by
  intro l;induction l with
  |nil=>intro _;trivial
  |cons i r ih=>
   intro z;simp only[Bg];exact⟨H i (z i (BR ..)),ih (λj Q=>z j (BQ _ Q))⟩
 exact this _ (λi O=>Bv.1 O)
def XH{n:Nat}{L:List Int}{j:Nat}(h:Al (EC 0 L n) j=true):j<n:=by
 simp only[Al,EC,eU] at h;split at h
 .omega
 .cases h
def Qtp{H:Nat->Option An}{L:List Int}{k nx u:Nat}{K:Ai}(Z:L.length=k)(hk:k<=512)(O:Gp L)(hu:u<k)(aa:2000<=nx)(hH: ∀i,i<k->H (1000+i)=some (Hs 1000 L i))
 (Q: ∀U,K (.ptr (1000+E3 L u) 0) {use:=U}):firC.row [.ptr (1000+u) 0] H nx K:=by
 have hσ: ∀j,j<600->BW (λj=>1000+j) 600 nx j=1000+j:=λj z=>Ak z
 have hn:firC.n (L,u)=k:=by simp only[firC.n,Z];omega
 have hr:=Qnj O u;refine⟨(L,u),λj=>1000+j,(List.range k).map (1000+ ·),[],⟨by simp only;omega,by simp only;omega,O⟩,?_,?_,?_,?_⟩
 .simp only[firC.ca,AJ,AV.ren];rw[show min u 511=u by omega,hσ u (by omega)]
 .simp only[firC.H0,hn,EC];refine QC λi hi=> ?_
  rw[Gg,hσ i (by omega),hH i hi];simp only[Hs,Ac.ren,AJ,AV.ren];rw[XV (λj z=>hσ j (by omega))]
 .have hd: ∀j,Al (firC.H0 (L,u)) j=true->j<k:=λj z=>by simp only[firC.H0,hn] at z;exact XH z
  refine⟨λi j _ _ h=> ?_,λj z=> ?_,λj z=> ?_,λm hm=>(by cases hm),λj _ z=>(by cases z)⟩
  .have h:1000+i=1000+j:=h;omega
  .have:=hd j z
   show 1000+j<nx;omega
  exact Bh.2 ⟨j,Bv.2 (hd j z),rfl⟩
 .have e:(firC.r0 (L,u)).ren (BW (λj=>1000+j) 600 nx)= .ptr (1000+E3 L u) 0:=by
   simp only[firC.r0,AV.ren];rw[hσ _ (by omega)]
  rw[e];exact Q _
def Qug(k:Nat):Gp (List.replicate k (-1)):=by
 intro i x h
 have:=Od (Ba h)
 omega
def yY: ∀(k i:Nat),i<k->(WO k)[i]? =some (i:Int)
 |0,i,h=>by omega
 |k+1,i,h=>by
  simp only[WO];by_cases z:i<k
  .rw[EA (by rw[dW];exact z)];exact yY k i z
  .have:i=k:=by omega
   subst this;rw[FQ (by rw[dW];exact AN _),dW,HA];rfl
def OZ{k i:Nat}{bs:List Ag}(h:i<k):(Cm k bs 0)[i]? =some ((E3 (List.replicate k (-1)) i:Nat):Int):=by
 simp only[Cm];rw[yY k i h]
 have:=Zi (Qug k) (i:=i) (x:= -1) (by rw[Lv,Ak h])
 rw[this,Ak (by omega)]
def Qls{L:List Int}(h:Gp L): ∀(i:Nat),E3 L (E3 L i)=E3 L i:=by
 intro i;induction i using Nat.strongRecOn with
 |_ i ih=>
  cases hi:L[i]? with
  |none=>
   have:E3 L i=i:=by rw[E3];cases i<;>simp[NW,hi]
   rw[this,this]
  |some x=>
   have z:=h i x hi;rw[Zi h hi];split
   .rename_i h0;rw[Zi h hi,Ak h0]
   .exact ih x.toNat (by omega)
def Qsx{L:List Int}(h:Gp L){p q:Nat}(Q:p<q):Gp (L.set q (p:Int)):=by
 intro i x z;by_cases hq:q=i
 .subst hq;have O:q<L.length:=by have:=(Cx.1 z).1;simpa using this
  rw[Dv O] at z;obtain rfl:=A7 z;omega
 .rw[DM hq] at z;exact h i x z
def Qqx{L:List Int}(h:Gp L){p q:Nat}(hp:E3 L p=p)(hq:E3 L q=q)(O:p<q)(Q:q<L.length): ∀(i:Nat),E3 (L.set q (p:Int)) i=if E3 L i=q then p else E3 L i:=by
 have h':=Qsx h O;intro i;induction i using Nat.strongRecOn with
 |_ i ih=>
  by_cases z:q=i
  .subst z;have e:(L.set q (p:Int))[q]? =some (p:Int):=Dv Q;rw[Zi h' e,Ad (by omega),B5,ih p O,hp,Ad (by omega),hq,Ak rfl]
  .have e:(L.set q (p:Int))[i]? =L[i]? :=DM z;cases hi:L[i]? with
   |none=>
    have Z:E3 L i=i:=by rw[E3];cases i<;>simp[NW,hi]
    have r2:E3 (L.set q (p:Int)) i=i:=by rw[E3];cases i<;>simp[NW,e,hi]
    rw[Z,r2,Ad (EJ z)]
   |some x=>
    have hx:=h i x hi;rw[hi] at e;rw[Zi h' e,Zi h hi];by_cases h0:x<0
    .rw[Ak h0,Ak h0,Ad (EJ z)]
    .rw[Ad h0,Ad h0];exact ih x.toNat (by omega)
def Mf{x y:Nat}(h:x<y)(r:Nat):J2 (x:Int) (y:Int) (r:Int)=((if r=y then x else r:Nat):Int)/\J2 (y:Int) (x:Int) (r:Int)=((if r=y then x else r:Nat):Int):=by
 have m1:Ey (x:Int) y=y:=Ad (by omega);have O:Ey (y:Int) x=y:=Ak (by omega);have Q:ET (x:Int) y=x:=Ak (by omega);have Z:ET (y:Int) x=x:=Ad (by omega);simp only[J2,m1,O,Q,Z];by_cases z:r=y
 .rw[Ak z,Ak (by omega)];exact⟨rfl,rfl⟩
 .rw[Ad z,Ad (by omega)];exact⟨rfl,rfl⟩
def XR(x r:Nat):J2 (x:Int) (x:Int) (r:Int)=(r:Int):=by
 have m1:Ey (x:Int) x=x:=Ad (by omega);have O:ET (x:Int) x=x:=Ad (by omega);simp only[J2,m1,O];by_cases z:(r:Int)=x
 .rw[Ak z,z]
 .rw[Ad z]
def VB(p:Int×Int):D×D:=(.int .i64 p.1,.int .i64 p.2)
def Ij(M:List (Int×Int))(x:Int):Option Int:=(M.find? (λp=>p.1==x)).map (·.2)
def SX(x:Int): ∀(M:List (Int×Int)),lk (M.map VB) (.int .i64 x)=(Ij M x).map (D.int .i64)
 |[]=>rfl
 |(k,v)::r=>by
  have ih:=SX x r;simp only[Ij] at ih;by_cases h:k=x
  .subst h;simp[lk,VB,Ij,D.beq]
  .have z: ¬x=k:=λe=>h e.symm
   have O:(x==k)=false:=by simpa using z
   simp[lk,VB,Ij,D.beq,h,O,ih]
def XW(x:Int)(M:List (Int×Int))(Ks:D->Prop)(Kn:Prop):FW (M.map VB) (.int .i64 x) Ks Kn=((∀v,Ij M x=some v->Ks (.int .i64 v))/\(Ij M x=none->Kn)):=by
 apply propext;unfold FW;rw[SX];cases Ij M x<;>simp
def Nt(x v:Int): ∀(M:List (Int×Int)),Ij M x=none->Gy (M.map VB) (.int .i64 x) (.int .i64 v)=(M++[(x,v)]).map VB
 |[],_=>rfl
 |(k,w)::r,h=>by
  by_cases z:k=x
  .subst z;simp[Ij] at h
  .have O: ¬x=k:=λe=>z e.symm
   have Z:Ij r x=none:=by simpa[Ij,z] using h
   have ih:=Nt x v r Z;simp only[Bg,De,VB] at ih⊢;have Q:(x==k)=false:=by simpa using O
   simp[Gy,D.beq,Q,ih,VB]
def Mn(M:List (Int×Int))(x v y:Int):Ij (M++[(x,v)]) y=(Ij M y).or (if x=y then some v else none):=by
 simp only[Ij,List.find?_append];cases h:M.find? (λp=>p.1==y) with
 |some p=>simp
 |none=>
  by_cases z:x=y
  .subst z;simp
  .simp[z]
def zK{own:List Int}{i:Nat}(h:own[i]? =some (i:Int)): ∀k,∃z,Df own i (k+1)=(i:Int)::z
 |0=>⟨[],by simp[Df,h]⟩
 |k+1=>by
  obtain⟨z,O⟩:=zK h k;rw[Df,O];exact⟨_,rfl⟩
def Qjv(own:List Int)(n:Nat): ∀k,k<=n-> ∀g∈BA own n k,∃(r:Nat) (rest:List Int),g=(r:Int)::rest/\r<k/\own[r]? =some (r:Int)
 |0,_,g,h=>by simp[BA] at h
 |k+1,hk,g,h=>by
  simp only[BA,Bs] at h;rcases h with h|h
  .obtain⟨r,rest,Q,h2,Z⟩:=Qjv own n k (by omega) g h;exact⟨r,rest,Q,by omega,Z⟩
  .split at h
   .rename_i z;obtain rfl:=BS.1 h;obtain⟨rest,O⟩:=zK z (n - k - 1);rw[show n - k - 1+1=n - k by omega] at O;exact⟨k,rest,O,by omega,z⟩
   .cases h
def Qo6(own:List Int)(n:Nat)(r:Nat)(Q:own[r]? =some (r:Int)): ∀k,k<=n->r<k-> ∃z,((r:Int)::z)∈BA own n k
 |0,_,h=>by omega
 |k+1,hk,h=>by
  by_cases O:r=k
  .subst O;obtain⟨z,O⟩:=zK Q (n - r - 1);rw[show n - r - 1+1=n - r by omega] at O;exact⟨z,by simp[BA,Q,O]⟩
  .obtain⟨z,Z⟩:=Qo6 own n r Q k (by omega) (by omega);exact⟨z,by simp only[BA,Bs];exact .inl Z⟩
def Qy0(own:List Int)(n:Nat): ∀k,∀g∈BA own n k,g.length<=n
 |0,g,h=>by simp[BA] at h
 |k+1,g,h=>by
  simp only[BA,Bs] at h;rcases h with h|h
  .exact Qy0 own n k g h
  .split at h
   .obtain rfl:=BS.1 h
    have:=Qsd own k (n - k)
    omega
   .cases h
def O3{h:Nat->Option An}{b m:Nat}{G:List (List Int)}(H: ∀q,q<G.length->h (b+q)=some (true,.arr 2 1 ((G[q]?.getD []).map Aj))):
 Ar (Ar λx=>Er (Bb h (HJ 0 []) (m+1) x)) (Dm b G.length)=some (G.map CK):=by
 have: ∀(l:List Nat),(∀q∈l,q<G.length)->Ar (Ar λx=>Er (Bb h (HJ 0 []) (m+1) x)) (l.map λi=>[AV.own (b+i)])=some (l.map λq=>CK (G[q]?.getD [])):=by
  intro l;induction l with
  |nil=>intro _;rfl
  |cons q r ih=>
   intro Q;have h0:HJ 0 [] (b+q)=none:=rfl;have O:=ih (λx Z=>Q x (BQ _ Z));have e:Ar (λx=>Er (Bb h (HJ 0 []) (m+1) x)) [AV.own (b+q)]=some (CK (G[q]?.getD [])):=by
    simp only[Ar,Bb,h0,H q (Q q (BR ..)),PW,kp,CY,Er,AV.asD];rfl
   rw[Bg,Ar,e,O];rfl
 rw[Dm,this _ (λq hq=>Bv.1 hq)];congr 1;apply Kt;intro j;by_cases z:j<G.length
 .rw[Du,Ic z,Du,Bk z,CY,CY,Bk z,AO]
 .rw[Fm (by simp;omega),Fm (by simp;omega)]
def IX(r:Int)(m:Nat)(g:List Int):List Int:=if g.head? =some r then g++[(m:Int)] else g
def Ql4(own:List Int)(m:Nat)(r:Int)(Z:own[m]? =some r): ∀k,k<=m->BA own (m+1) k=(BA own m k).map (IX r m)
 |0,_=>rfl
 |k+1,hk=>by
  rw[BA,BA,FT,Ql4 own m r Z k (by omega)];congr 1;by_cases O:own[k]? =some (k:Int)
  .rw[Ak O,Ak O];obtain⟨aa,Q⟩:=zK O (m - k - 1);rw[show m - k - 1+1=m - k by omega] at Q;have e:Df own k (m+1 - k)=Df own k (m - k)++(if own[m]? =some (k:Int) then [(m:Int)] else []):=by
    rw[show m+1 - k=(m - k)+1 by omega,Df,show k+(m - k)=m by omega]
   rw[e,Z];simp only[Bg,GX,IX,Q,ZeZ,AI];by_cases z:r=(k:Int)
   .rw[Ak z,Ak z.symm]
   .rw[Ad z,Ad (EJ z),DA]
  .rw[Ad O,Ad O];rfl
structure tZ(out:List (List Int))(M:List (Int×Int)):Prop where
 a: ∀r v,Ij M r=some v-> ∃(g:Nat) (rest:List Int),v=g/\out[g]? =some (r::rest)
 b: ∀(g:Nat) (r:Int) (rest:List Int),out[g]? =some (r::rest)->Ij M r=some (g:Int)
def S5{own:List Int}{i:Nat}{M:List (Int×Int)}{r:Nat}(hP:tZ (BA own i i) M)(ho:own[i]? =some (r:Int))(hr:r<=i)(ab:own[r]? =some (r:Int))(hn:Ij M r=none):
 r=i/\BA own (i+1) (i+1)=BA own i i++[[(i:Int)]]/\tZ (BA own (i+1) (i+1)) (M++[((i:Int),((BA own i i).length:Int))]):=by
 have aa:r=i:=by
  by_cases h:r<i
  .obtain⟨z,hm⟩:=Qo6 own i r ab i (by omega) h;obtain⟨g,O⟩:=V4.1 hm;rw[hP.b g _ _ O] at hn;cases hn
  .omega
 subst aa;have e:BA own (r+1) (r+1)=BA own r r++[[(r:Int)]]:=by
  rw[BA,Ql4 own r r ho r (AN _),Ak ho];congr 1
  .conv=>rhs;rw[<-List.map_id (BA own r r)]
   apply Kr;intro g O;obtain⟨q,z,Z,h2,_⟩:=Qjv own r r (AN _) g O;simp only[IX,Z,ZeZ,AI,id];rw[Ad (by omega)]
  .rw[show r+1 - r=0+1 by omega];simp[Df,ho]
 refine⟨rfl,e,?_⟩;rw[e];refine⟨λq v Q=> ?_,λg q z O=> ?_⟩
 .rw[Mn] at Q;cases hq:Ij M q with
  |some w=>
   rw[hq] at Q;obtain rfl:=A7 Q;obtain⟨g,z,Z,h2⟩:=hP.a q _ hq;exact⟨g,z,Z,by rw[EA (Cx.1 h2).1];exact h2⟩
  |none=>
   rw[hq] at Q;simp only[Zfj] at Q;split at Q
   .rename_i h;obtain rfl:=A7 Q;exact⟨_,[],rfl,by rw[FQ (AN _),HA,<-h];rfl⟩
   .cases Q
 .rw[Mn];by_cases hl:g<(BA own r r).length
  .rw[EA hl] at O;rw[hP.b g q z O];rfl
  .rw[FQ (by omega)] at O;have h0:g - (BA own r r).length=0:=by
    have:=(Cx.1 O).1
    simpa using this
   rw[h0] at O;simp only[Ho,AI,gC] at O;rw[<-O.1,hn,Ak rfl,Zfj];congr 1;omega
def S6{own:List Int}{i:Nat}{M:List (Int×Int)}{r:Int}{g:Nat}{rest:List Int}(hP:tZ (BA own i i) M)(ho:own[i]? =some r)(Z:(BA own i i)[g]? =some (r::rest)):
 BA own (i+1) (i+1)=(BA own i i).set g (r::rest++[(i:Int)])/\tZ (BA own (i+1) (i+1)) M:=by
 have ab:r≠i:=by
  obtain⟨q,rs,h1,O,_⟩:=Qjv own i i (AN _) _ (Ba Z)
  have:=(Zfm h1).1
  omega
 have e:BA own (i+1) (i+1)=(BA own i i).set g (r::rest++[(i:Int)]):=by
  rw[BA,Ql4 own i r ho i (AN _),Ad (by rw[ho];simpa using ab),DA];apply Kt;intro j;rw[Du];by_cases Q:g=j
  .subst Q;rw[Dv (Cx.1 Z).1,Z];simp[IX]
  .rw[DM Q];cases hx:(BA own i i)[j]? with
   |none=>rfl
   |some x=>
    simp only[CY,IX];rw[Ad];intro hh;cases x with
    |nil=>cases hh
    |cons q rs=>
     simp only[ZeZ,AI] at hh;subst hh;have h1:=hP.b j _ _ hx;have O:=hP.b g _ _ Z;rw[h1] at O
     have:=A7 O
     omega
 refine⟨e,?_⟩;rw[e];have aa:=(Cx.1 Z).1;refine⟨λq v hv=> ?_,λg' q rs z=> ?_⟩
 .obtain⟨j,rs,h1,O⟩:=hP.a q v hv;by_cases Q:g=j
  .subst Q;rw[Z] at O;simp only[AI,gC] at O;exact⟨g,rest++[(i:Int)],h1,by rw[Dv aa,O.1];rfl⟩
  .exact⟨j,rs,h1,by rw[DM Q];exact O⟩
 .by_cases Q:g=g'
  .subst Q;rw[Dv aa] at z;simp only[AI,De,gC] at z;rw[<-z.1];exact hP.b g _ _ Z
  .rw[DM Q] at z;exact hP.b g' _ _ z
def ES(b:Nat)(G:List (List Int)):Ao:=AS b G.length (λi=>(true,.arr 2 1 ((G[i]?.getD []).map Aj)))
def Sw(b N:Nat)(G:List (List Int))(h:b+G.length<=N):Au N (ES b G)=true:=Qt5 _ _ _ _ λi z=>by simp[Au]
def Sx(b N:Nat)(G:List (List Int))(h:b+G.length<=N):BB N (ES b G)=true:=QJ _ _ _ _ h
def wY{π:List (Nat×Option Nat)}{b n k:Nat}(h: ∀i,i<k->pm π (b+i)=some (b+i)):GA π (Kg b n k) (Kg b n k):=by
 rw[eQ];refine⟨rfl,λi x y z Z=> ?_⟩;rw[z] at Z;obtain rfl:=A7 Z;have O:i<n:=by have:=(Cx.1 z).1;rwa [Zg] at this
 rw[yX _ _ _ _ O] at z;obtain rfl:=A7 z;split
 .rename_i Q;simp only[DI,mt,h i Q,GS,Hr]
 .simp only[DI,mt,Hr]
def OR(A:List Nat)(b n c m:Nat)(h:A.Nodup)(hA: ∀x∈A,(x<b\/b+n<=x)/\(x<c\/c+m<=x))(aa:b+n<=c):(A++((List.range n).map (b+ ·)++(List.range m).map (c+ ·))).Nodup:=by
 have Z: ∀b n,((List.range n).map (b+ ·)).Nodup:=λb n=>by have:=dQ [] b n (by simp) (by simp);simpa using this
 rw[WV];refine⟨h,?_,λx Q y z=> ?_⟩
 .rw[WV];refine⟨Z _ _,Z _ _,λx Q y z=> ?_⟩;obtain⟨i,hi,rfl⟩:=Bh.1 Q;obtain⟨j,O,rfl⟩:=Bh.1 z
  have:=Bv.1 hi
  omega
 .have:=hA x Q
  rcases Bs.1 z with z|z
  .obtain⟨j,O,rfl⟩:=Bh.1 z
   have:=Bv.1 O
   omega
  .obtain⟨j,O,rfl⟩:=Bh.1 z
   have:=Bv.1 O
   omega
def Qyb(b:Nat)(G:List (List Int))(g:Nat)(h:g<G.length):hget (ES b G) (b+g)=some (true,.arr 2 1 ((G[g]?.getD []).map Aj)):=GK _ _ _ _ h
def XI(b k:Nat)(L:List Int)(m:Nat)(h:m<b\/b+k<=m):hget (EC b L k) m=none:=Qmh _ _ _ _ h
def zV(k:Nat)(L:List Int)(G:List (List Int))(i:Nat)(h:i<k):hget (EC 1000 L k++ES 3000 G) (1000+i)=some (Hs 1000 L i):=by
 rw[IB,Kd _ _ _ _ h];rfl
def zY(k:Nat)(L:List Int)(G:List (List Int))(g:Nat)(z:k<=512)(h:g<G.length):hget (EC 1000 L k++ES 3000 G) (3000+g)=some (true,.arr 2 1 ((G[g]?.getD []).map Aj)):=by
 rw[IB,XI _ _ _ _ (by omega),Qyb _ _ _ h];rfl
def SO(k:Nat)(L:List Int)(G:List (List Int)):Fk (EC 1000 L k++ES 3000 G)=(List.range k).map (1000+ ·)++(List.range G.length).map (3000+ ·):=by
 rw[Qpf,EC,ES,Zk,Zk]
def gI(k:Nat)(L:List Int)(i:Nat)(M:List (Int×Int))(G:List (List Int)):Av:=⟨[(81,.im (.int .i64 i)),(80,.im (.int .i64 k)),(79,.own 2),(12,.mp 2001),(11,.own 2100)],(2001,(true,.map {agg:=false,ks:=[KK.int .i64]} (M.map VB)))::(2100,(true,.arrA 31 1 (Dm 3000 G.length)))::(2,(true,.arrA 290 1 (Kg 1000 k k)))::(EC 1000 L k++ES 3000 G),4000⟩
def XE{k:Nat}{L:List Int}{i:Nat}{M:List (Int×Int)}{G:List (List Int)}(O:k<=512)(z:G.length<=512):(gI k L i M G).good=true:=by
 simp only[gI,Av.good,Au,BB,sP,Qmd,tK 1000 k 4000 _ (by omega),zL 1000 k k 4000 (by omega),Qnw 1000 k 4000 _ (by omega),Wy 3000 G.length 4000 (by omega),Sw 3000 4000 G (by omega),Sx 3000 4000 G (by omega)];simp[CH,AV.bel]
def Qxg{π:List (Nat×Option Nat)}{s:Av}{k:Nat}{L:List Int}{i:Nat}{M:List (Int×Int)}{G:List (List Int)}{O:Nat}{T:Nat->Nat}(hk:k<=512)(hG:G.length<=512)
 (ac:V9 2002 π)(p1:pm π 2001=some 2001)(p2:pm π 2=some 2)(p3: ∀j,j<k->pm π (1000+j)=some (1000+j))(p4:pm π 2100=some O)(p5: ∀q,q<G.length->pm π (3000+q)=some (T q))
 (t1:A8 s.tm 81= .im (.int .i64 i))(t2:A8 s.tm 80= .im (.int .i64 k))(t3:A8 s.tm 79= .own 2)(t4:A8 s.tm 12= .mp 2001)(t5:A8 s.tm 11= .own O)
 (g1:hget s.h 2001=some (true,.map {agg:=false,ks:=[KK.int .i64]} (M.map VB)))(g2:hget s.h 2=some (true,.arrA 290 1 (Kg 1000 k k)))(g3: ∀j,j<k->hget s.h (1000+j)=some (Hs 1000 L j))
 (g4:(G.length=0/\hget s.h O=some (true,.arr 31 1 []))\/hget s.h O=some (true,.arrA 31 1 ((List.range G.length).map λq=>[.own (T q)])))
 (g5: ∀q,q<G.length->hget s.h (T q)=some (true,.arr 2 1 ((G[q]?.getD []).map Aj)))
 (inj: ∀q q',q<G.length->q'<G.length->T q=T q'->q=q')(out: ∀q,q<G.length->T q≠O/\3000<=T q)(hO:2000<=O/\O≠2001):Aw 2002 π s (gI k L i M G):=by
 refine⟨ac,?_,?_,?_⟩
 .rw[eF];simp only[gI,Fk,SO];have ab: ∀x∈[2001,2100,2]++((List.range k).map (1000+ ·)++(List.range G.length).map (3000+ ·)),(x=2001/\pm π x=some 2001)\/(x=2/\pm π x=some 2)\/(x=2100/\pm π x=some O)\/(1000<=x/\x<1000+k/\pm π x=some x)\/(3000<=x/\x<3000+G.length/\pm π x=some (T (x - 3000))):=by
   intro x z;rcases Bs.1 z with z|z
   .simp only[Be,ZR,Xb] at z;rcases z with rfl|rfl|rfl
    .exact .inl ⟨rfl,p1⟩
    .exact .inr (.inr (.inl ⟨rfl,p4⟩))
    .exact .inr (.inl ⟨rfl,p2⟩)
   .rcases Bs.1 z with z|z
    .obtain⟨j,Q,rfl⟩:=Bh.1 z;have Q:=Bv.1 Q;exact .inr (.inr (.inr (.inl ⟨by show 1000<=1000+j;omega,by show 1000+j<1000+k;omega,p3 j Q⟩)))
    .obtain⟨j,Q,rfl⟩:=Bh.1 z;have Q:=Bv.1 Q;exact .inr (.inr (.inr (.inr ⟨by show 3000<=3000+j;omega,by show 3000+j<3000+G.length;omega,by show pm π (3000+j)=some (T (3000+j - 3000));rw[show 3000+j - 3000=j by omega];exact p5 j Q⟩)))
  refine eP _ _ (OR [2001,2100,2] 1000 k 3000 G.length (by simp) (by simp;omega) (by omega)) ?_;intro x z y hy m Z aa;rcases ab x z with ⟨a1,a2⟩|⟨a1,a2⟩|⟨a1,a2⟩|⟨a0,a1,a2⟩|⟨a0,a1,a2⟩<;>rcases ab y hy with ⟨b1,b2⟩|⟨b1,b2⟩|⟨b1,b2⟩|⟨b0,b1,b2⟩|⟨b0,b1,b2⟩<;>
   rw[a2] at Z<;>rw[b2] at aa<;>have Z:=A7 Z<;>have aa:=A7 aa<;>first
   |omega
   |(have:=out (x - 3000) (by omega);omega)
   |(have:=out (y - 3000) (by omega);omega)
   |(have:=inj (x - 3000) (y - 3000) (by omega) (by omega) (Z.trans aa.symm);omega)
 .simp only[gI,Qb,t1,t2,t3,t4,t5,mt,p2,p1,p4,FK,GS,Hr]
 .simp only[gI,GU,Qns,p1,p2,p4,Eu,g1,g2];refine⟨⟨rfl,rfl⟩,?_,⟨rfl,rfl,rfl,wY p3⟩,?_,?_⟩
  .rcases g4 with ⟨h0,h1⟩|h1
   .rw[h1,h0];exact⟨rfl,rfl,rfl,trivial⟩
   .rw[h1];exact⟨rfl,rfl,rfl,Qyn p5 rfl⟩
  .rw[EC,dZ];intro j Q;rw[p3 j Q,Eu,g3 j Q];refine⟨rfl,?_⟩;simp only[Hs,EK,DI,mt,Hr,and_true,mW];simp only[Mi];split
   .simp only[mt,p3 _ (show (L[j]?.getD (-1)).toNat<k by omega),GS]
   .rfl
  .rw[ES,dZ];intro q hq;rw[p5 q hq,Eu,g5 q hq];exact⟨rfl,rfl⟩
def Sz(a:Int×List Ag):Prop:=0<=a.1/\a.1<=512/\Lm a.1 a.2/\a.2.length<=1000000
def groupsBy_.fv(a:Int×(List Ag)):List (List Int):=(Vu) (a.1) (a.2)
def groupsBy_.row:Ay:=vK (b2 qI (qS Ag.d_le Ag.c_n)) (rS eH MT) (λa=>Sz (a.1,a.2)) groupsBy_.fv
def groupsBy_.q:=AT (R:=groupsBy_.row) rfl
def groupsBy_.ok:A9 189 groupsBy_.row:=by
 refine vw (tC firC.ok tN) Tryz.func189 ?_;intro a a8;simp only[Tryz.f189];simp(disch:=omega)only[ZA,simprocAttr,groupsBy_.fv];obtain⟨h0,h1,aw,hl⟩:=a8;obtain⟨n,hn⟩: ∃n:Nat,a.1=n:=⟨a.1.toNat,by simp only at h0;omega⟩;obtain⟨bs,hbsd⟩: ∃bs,bs=a.2:=⟨_,rfl⟩;simp only[hn,<-hbsd,B5] at h0 h1 aw hl⊢;refine⟨h0,Og _,by omega,λ_=> ?_⟩;rw[Ob];refine AU.ren ⟨{k:Nat//k<=n},λk=>⟨[(21,.im (.int .i64 k.1)),(20,.im (.int .i64 n)),(19,.own 2),(5,.own 2),(0,.im (.int .i64 n)),(1,.im (.sl false 3 (bs.map Ag.c)))],(2,(true,.arrA 290 1 (Kg 1000 n k.1)))::EC 1000 (List.replicate n (-1)) k.1,2000⟩,λk=>n - k.1,λk=>⟨?_,by simp⟩,⟨⟨0,by simp⟩,[(2,some 1)],?_⟩,λk=> ?_⟩
 .simp only[Av.good,Au,BB,tK 1000 k.1 2000 _ (by omega),zL 1000 n k.1 2000 (by omega),Qnw 1000 k.1 2000 _ (by omega)];simp[CH,AV.bel]
 .simp only[Aw,EC,AS,Zfb,GX];simp(disch:=omega)only[ZA,simprocAttr];exact Pl _ _ _
 obtain⟨k,bd⟩:=k;simp(disch:=omega)only[ZA,simprocAttr,AR,Bu,Zg];refine⟨λhk=>⟨hk,hk,?_⟩,λhk=> ?_⟩
 .simp(disch:=omega)only[ZA,simprocAttr,Bu,Qtr,ZeM];refine⟨?_,⟨k+1,by omega⟩,[(1000+k,some 2000)],by simp only;omega,?_⟩
  .rw[C6];intro r hr;rcases WU hr with hr|hr
   .exact C6.1 (zL 1000 n k 2001 (by omega)) r hr
   .subst hr;simp[AE,AV.bel]
  have qi: ∀i,i≠1000+k->pm [(1000+k,some 2000)] i=some i:=by intro i z;simp only[pm];rw[Ad (by omega)]
  have qk:pm [(1000+k,some 2000)] (1000+k)=some 2000:=by simp only[pm];rw[Ak trivial]
  obtain⟨π,hπ⟩: ∃π,π=[(1000+k,some 2000)]:=⟨_,rfl⟩;rw[<-hπ] at qi qk⊢;refine⟨by rw[hπ];exact⟨by omega,trivial⟩,?_,?_,?_⟩
  .rw[eF,hπ];simp only[Fk,EC,Zk];refine eP _ _ (dQ [2] 1000 (k+1) (by simp) (by simp)) ?_;intro x hx y hy m aq ag;have bj:x<2000:=by
    rcases Be.1 hx with hx|hx
    .omega
    .obtain⟨i,z,rfl⟩:=Bh.1 hx
     have:=Bv.1 z
     show 1000+i<2000;omega
   have bl:y<2000:=by
    rcases Be.1 hy with hy|hy
    .omega
    .obtain⟨i,z,rfl⟩:=Bh.1 hy
     have:=Bv.1 z
     show 1000+i<2000;omega
   simp only[pm] at aq ag;split at aq<;>split at ag<;>simp only[AI] at aq ag<;>omega
  .simp only[Qb,A8];simp(disch:=omega)only[ZA,simprocAttr,qi 2 (by omega)];rw[AC (by omega) (by omega)];omega
  .simp only[GU,EC,dZ];refine⟨?_,λi z=> ?_⟩
   .simp(disch:=omega)only[ZA,simprocAttr,qi 2 (by omega)];rw[eQ];refine⟨by simp[Zg],λi x y hx hy=> ?_⟩;have ax:i<n:=by have:=(Cx.1 hx).1;rwa [Zg] at this
    rw[yX _ _ _ _ ax] at hx;obtain rfl:=A7 hx;by_cases ad:k=i
    .subst ad;rw[Dv (by rw[Zg];exact hk)] at hy;obtain rfl:=A7 hy;rw[Ak (by omega)];simp only[DI,mt,qk,GS,Hr]
    .rw[DM ad,yX _ _ _ _ ax] at hy;obtain rfl:=A7 hy;by_cases az:i<k
     .rw[Ak (by omega),Ak az];simp only[DI,mt,qi (1000+i) (by omega),GS,Hr]
     .rw[Ad (by omega),Ad az];simp only[DI,mt,Hr]
   .have hg: ∀i,i<n->(List.replicate n (-1:Int))[i]?.getD (-1)= -1:=by
     intro i z;rw[Lv,Ak z,AO]
    have ay:Mi 1000 i (-1)= .im .nilp:=by simp only[Mi];rw[Ad (by omega)]
    simp only[Hs,hg i (by omega),ay];by_cases ad:i=k
    .subst ad;rw[qk];simp(disch:=omega)only[ZA,simprocAttr]
    .rw[qi (1000+i) (by omega)];have h9:=Kd 1000 k (List.replicate n (-1)) i (by omega);simp only[Hs,hg i (by omega),ay,EC] at h9;simp (disch:=omega) only[Eu,hget,AX,Bq,W0,fP,fZ,Rl,CP,CB];rw[h9];simp only[K1,EK,DI,mt,Hr]
 .intro _;have be:k=n:=by omega
  subst be;clear hk bd;refine AU.old ⟨{s:Nat×List Int//s.1<=bs.length/\s.2.length=k/\Gp s.2/\ ∀i,i<k->(Cm k bs s.1)[i]? =some ((E3 s.2 i:Nat):Int)},λs=>⟨[(33,.im (.int .i64 s.1.1)),(32,.im (.int .i64 bs.length)),(31,.im (.sl false 3 (bs.map Ag.c))),(5,.own 2),(0,.im (.int .i64 k))],(2,(true,.arrA 290 1 (Kg 1000 k k)))::EC 1000 s.1.2 k,2000⟩,λs=>bs.length - s.1.1,λs=>⟨?_,by simp⟩,⟨⟨(0,List.replicate k (-1)),by simp only;omega,by simp,Qug k,λi z=>OZ z⟩,?_⟩,λs=> ?_⟩
  .simp only[Av.good,Au,BB,tK 1000 k 2000 _ (by omega),zL 1000 k k 2000 (by omega),Qnw 1000 k 2000 _ (by omega)];simp[CH,AV.bel]
  .simp only[sub,Gx,A8];refine⟨?_,?_⟩
   .simp(disch:=omega)only[ZA,simprocAttr]
   .simp only[Ci];refine⟨rfl,tO λi z=> ?_⟩;simp only[hget,AX _ _ (show 2≠1000+i by omega),Bq];exact Kd _ _ _ _ z
  obtain⟨⟨j,L⟩,i1,i2,i3,i4⟩:=s;simp only at i1 i2 i3 i4;simp(disch:=omega)only[ZA,simprocAttr,AR,Bu,Zg];refine⟨λhj=>⟨hj,λb hb=> ?_⟩,λhj=> ?_⟩
  .obtain⟨b1,b2,b3,b4⟩:=aw b (Ba hb);obtain⟨u,hu⟩: ∃u:Nat,b.A=u:=⟨b.A.toNat,by omega⟩;obtain⟨w,hw⟩: ∃w:Nat,b.B=w:=⟨b.B.toNat,by omega⟩;have ak:u<k:=by omega
   have ah:w<k:=by omega
   have bh:=Qnj i3 u;have bi:=Qnj i3 w;simp only[hu,hw,B5];refine⟨by omega,by omega,ak,?_⟩;simp(disch:=omega)only[ZA,simprocAttr,Bu,Qtr,Ak ak,vV];have hH: ∀(e Z:An) (i:Nat),i<k->hget ((2000,e)::(2,Z)::Bi (EC 1000 L k) [2000]) (1000+i)=some (Hs 1000 L i):=by
    intro e Z i z;have h9:=Kd 1000 k L i z;simp (disch:=omega) only[hget,AX,Bq,W0,fP,fZ,Rl,CP,CB,h9]
   refine⟨by omega,Qtp (nx:=2001) i2 (by omega) i3 ak (by decide) (hH _ _) (λU=> ?_)⟩;simp(disch:=omega)only[ZA,simprocAttr,Bu,Zg,Qtr,Ak ah,vV];refine⟨by omega,ah,ah,by omega,Ak (.inl (by omega)),Qtp (nx:=2001) i2 (by omega) i3 ah (by decide) (hH _ _) (λU2=> ?_)⟩;obtain⟨x,hx⟩: ∃x,x=E3 L u:=⟨_,rfl⟩;obtain⟨y,hy⟩: ∃y,y=E3 L w:=⟨_,rfl⟩;rw[<-hx] at bh⊢;rw[<-hy] at bi⊢;have gx:=Kd 1000 k L x (by omega);have gy:=Kd 1000 k L y (by omega);simp only[Hs] at gx gy;simp(disch:=omega)only[ZA,simprocAttr,sub,AR,Bu,WC,AX,Lj,gx,gy,gK (show 1000+x<2001 by omega),gK (show 1000+y<2001 by omega)];have ba:E3 L x=x:=by rw[hx];exact Qls i3 u
   have bb:E3 L y=y:=by rw[hy];exact Qls i3 w
   have ou:=i4 u ak;have ow:=i4 w ah;rw[<-hx] at ou;rw[<-hy] at ow;have hS:Cm k bs (j+1)=(Cm k bs j).map (J2 (x:Int) (y:Int)):=by
    simp only[Cm,hb,tL,hu,hw,B5,ou,ow,AO]
   have ac: ∀(p q:Nat),p<q->q<k-> ∀(i:Nat),i<k->Hs 1000 (L.set q (p:Int)) i=if i=q then (true,.cells 292 [.ptr (1000+p) 0,.im (.int .i64 q)]) else Hs 1000 L i:=by
    intro p q a0 hq i z;simp only[Hs];by_cases h:i=q
    .subst h;rw[Ak rfl,Dv (by omega),AO];simp only[Mi];rw[Ak ⟨by omega,by omega⟩,B5]
    .rw[Ad h,DM (EJ h)]
   have af: ∀(p q:Nat),p<q->q<k-> ∀(e Z:An) (tm:List (Nat×AV)),Ci ⟨tm,(1000+q,(true,.cells 292 [.ptr (1000+p) 0,.im (.int .i64 q)]))::(2000,e)::(2,Z)::Bi (Bi (EC 1000 L k) [2000]) [1000+q],2001⟩ (EC 1000 (L.set q (p:Int)) k):=by
    intro p q a0 hq e Z tm;refine tO λi z=> ?_
    rw[ac p q a0 hq i z];by_cases h:i=q
    .subst h;simp only[hget,ZS,Cg,BM]
    .rw[Ad h];have h9:=Kd 1000 k L i z;simp (disch:=omega) only[hget,AX,Bq,Lj,h9]
   refine⟨λai=>⟨⟨(j+1,L.set y (x:Int)),by simp only;omega,by simp only[Fc];exact i2,Qsx i3 ai,λi z=> ?_⟩,by simp only;omega,by rw[AC (by omega) (by omega)];simp only;omega,af x y ai (by omega) _ _ _⟩,λai=>⟨λaj=>⟨⟨(j+1,L.set x (y:Int)),by simp only;omega,by simp only[Fc];exact i2,Qsx i3 aj,λi z=> ?_⟩,by simp only;omega,by rw[AC (by omega) (by omega)];simp only;omega,af y x aj (by omega) _ _ _⟩,λaj=>⟨⟨(j+1,L),by simp only;omega,i2,i3,λi z=> ?_⟩,by simp only;omega,by rw[AC (by omega) (by omega)];simp only;omega,?_⟩⟩⟩
   .rw[hS,Du,i4 i z,CY,Qqx i3 ba bb ai (by omega) i,(Mf ai _).1]
   .rw[hS,Du,i4 i z,CY,Qqx i3 bb ba aj (by omega) i,(Mf aj _).2]
   .rw[hS,Du,i4 i z,CY,show y=x by omega,XR]
   .refine tO λi z=> ?_
    have h9:=Kd 1000 k L i z;simp (disch:=omega) only[hget,AX,Bq,Lj,h9]
  .have bc:j=bs.length:=by omega
   subst bc;obtain⟨own,hown⟩: ∃own,own=Cm k bs bs.length:=⟨_,rfl⟩;rw[<-hown] at i4;intro _;refine AU.ren ⟨{s:Nat×List (Int×Int)//s.1<=k/\tZ (BA own s.1 s.1) s.2},λs=>gI k L s.1.1 s.1.2 (BA own s.1.1 s.1.1),λs=>k - s.1.1,λs=>⟨?_,by simp[gI]⟩,⟨⟨(0,[]),by simp only;omega,?_⟩,[(2100,some 2000)],?_⟩,λs=> ?_⟩
   .have ab:=sI own s.1.1 s.1.1;have hs:=s.2.1;exact XE (by omega) (by omega)
   .exact⟨λr v h=>(by cases h),λg r am h=>(by simp[BA] at h)⟩
   .refine Qxg (O:=2000) (T:=λq=>3000+q) (by omega) (by simp[BA]) ⟨by omega,trivial⟩ rfl rfl (λj hj=> ?_) rfl (λq hq=>(by simp[BA] at hq)) rfl rfl rfl rfl rfl rfl rfl (λj hj=> ?_) (.inl ⟨rfl,rfl⟩) (λq hq=>(by simp[BA] at hq)) (λq q' hq=>(by simp[BA] at hq)) (λq hq=>(by simp[BA] at hq)) (by omega)
    .simp only[pm];rw[Ad (by omega)]
    .have h9:=Kd 1000 k L j hj;simp (disch:=omega) only[hget,AX,Bq,h9]
   obtain⟨⟨i,M⟩,q1,q2⟩:=s;simp only at q1 q2;simp only[gI];have an:=sI own i i;simp(disch:=omega)only[ZA,simprocAttr,AR,Bu,Zg];refine⟨λz=>⟨z,z,?_⟩,λz=> ?_⟩
   .simp(disch:=omega)only[ZA,simprocAttr,Bu,Qtr,Ak z];have hH: ∀(e1 Z e3:An) (j:Nat),j<k->hget ((2001,e1)::(2100,Z)::(2,e3)::(EC 1000 L k++ES 3000 (BA own i i))) (1000+j)=some (Hs 1000 L j):=by
     intro e1 Z e3 j hj;have h9:=zV k L (BA own i i) j hj;simp (disch:=omega) only[hget,AX,Bq,h9]
    have ho:=i4 i z;obtain⟨r,hr⟩: ∃r,r=E3 L i:=⟨_,rfl⟩;have bf:r<=i:=by rw[hr];exact Qnj i3 i
    have bg:own[r]? =some (r:Int):=by
     have:=i4 r (by omega)
     rwa [hr,Qls i3 i,<-hr] at this
    rw[<-hr] at ho;have gr:=zV k L (BA own i i) r (by omega);simp only[Hs] at gr;refine⟨by omega,by omega,by omega,Qtp (nx:=4000) i2 (by omega) i3 z (by omega) (hH _ _ _) (λU=> ?_)⟩;rw[<-hr];simp(disch:=omega)only[ZA,simprocAttr,WC,Bu,Iz,AX,gr,XW,gK (show 1000+r<4000 by omega)];refine⟨λv hv=> ?_,λhn=> ?_⟩
    .obtain⟨g,am,rfl,hg⟩:=q2.a _ v hv;have ab:=(Cx.1 hg).1;have an:=sI own i i;have gg:=zY k L (BA own i i) g (by omega) ab;rw[hg,AO] at gg;simp(disch:=omega)only[ZA,simprocAttr,WC,Bu,Iz,AX,gg,Qxa];obtain⟨e1,Z⟩:=S6 q2 ho hg;obtain⟨G,hG⟩: ∃G,G=BA own i i:=⟨_,rfl⟩;rw[<-hG] at hg ab an e1 gg⊢;have ac:(Dm 3000 G.length).set g [AV.own 4001]=(List.range G.length).map λq=>[AV.own (if q=g then 4001 else 3000+q)]:=by
      apply Kt;intro j;rw[Du];by_cases hj:j<G.length
      .rw[Ic hj];by_cases h:g=j
       .subst h;rw[Dv (by rw[Iz];exact ab)];simp
       .rw[DM h,Qo7 _ _ _ hj,CY,Ad (EJ h)]
      .rw[Fm (by simp[Iz];omega),Fm (by simp;omega)];rfl
     refine⟨ab,ab,by omega,?_,by omega,?_,ab,ab,?_,⟨(i+1,M),by simp only;omega,Z⟩,[(3000+g,some 4001)],by simp only;omega,?_⟩
     .intro row Q;obtain rfl:=BS.1 Q;rfl
     .have h6:(r::am:List Int).length<=1000:=DR (by rw[hG] at hg;exact Qy0 own i i _ (Ba hg)) (by omega);simp only[CQ] at h6;omega
     .rw[C6];intro row Q;rcases WU Q with hr|hr
      .exact C6.1 (Wy 3000 G.length 4002 (by omega)) row hr
      .subst hr;simp[AE,AV.bel]
     have pn: ∀m,m≠3000+g->pm [(3000+g,some 4001)] m=some m:=by intro m hm;simp only[pm];rw[Ad (EJ hm)]
     simp only[e1];rw[AC (by omega) (by omega)];have hh: ∀(e1 Z e3 e4 e5:An) (m:Nat),hget ((2100,e1)::(4001,Z)::(4000,e3)::(2001,e4)::(2,e5)::Bi (Bi (EC 1000 L k++ES 3000 G) [3000+g]) [2100]) m=if m=2100 then some e1 else if m=4001 then some Z else if m=4000 then some e3 else if m=2001 then some e4 else if m=2 then some e5 else if m=3000+g then none else hget (EC 1000 L k++ES 3000 G) m:=by
      intro e1 Z e3 e4 e5 m;simp only[hget,W0,fP,fZ,Rl,Qm,ZeN];by_cases h1:m=2100
      .subst h1;simp
      by_cases h2:m=4001
      .subst h2;simp
      by_cases h3:m=4000
      .subst h3;simp
      by_cases h4:m=2001
      .subst h4;simp
      by_cases h5:m=2
      .subst h5;simp
      simp only[Ad h1,Ad h2,Ad h3,Ad h4,Ad h5,Ad (EJ h1),Ad (EJ h2),Ad (EJ h3),Ad (EJ h4),Ad (EJ h5)]
     refine Qxg (O:=2100) (T:=λq=>if q=g then 4001 else 3000+q) (by omega) (by rw[Fc];omega) ⟨by omega,trivial⟩ (pn _ (by omega)) (pn _ (by omega)) (λj hj=>pn _ (by omega)) (pn _ (by omega)) (λq hq=> ?_) rfl rfl rfl rfl rfl ?_ ?_ (λj hj=> ?_) (.inr ?_) (λq hq=> ?_) (λq q' hq=> ?_) (λq hq=> ?_) (by omega)
     .by_cases h:q=g
      .subst h;simp[pm]
      .rw[pn _ (by omega),Ad h]
     .rw[hh];rfl
     .rw[hh];rfl
     .rw[hh,Ad (by omega),Ad (by omega),Ad (by omega),Ad (by omega),Ad (by omega),Ad (by omega)];exact zV _ _ _ _ hj
     .rw[hh,Ak rfl,ac,Fc]
     .rw[Fc] at hq;rw[hh];by_cases h:q=g
      .subst h;rw[Ak rfl,Ad (by omega),Ak rfl,Dv ab,AO];simp[Aj]
      .rw[Ad h,Ad (by omega),Ad (by omega),Ad (by omega),Ad (by omega),Ad (by omega),Ad (by omega),DM (EJ h)];exact zY _ _ _ _ (by omega) hq
     .rw[Fc] at hq;intro au he;rw[Fc] at au;by_cases h:q=g<;>by_cases h2:q'=g<;>simp only[h,h2,BM,CB] at he⊢ <;>omega
     .rw[Fc] at hq;by_cases h:q=g<;>simp only[h,BM,CB]<;>omega
    .obtain⟨a9,e1,Z⟩:=S5 q2 ho bf bg hn;have Q:(Dm 3000 (BA own i i).length++[[AV.im (D.sl true 0 [])]])[(BA own i i).length]? =some [AV.im (D.sl true 0 [])]:=by
      rw[FQ (by rw[Iz];exact AN _),Iz,HA];rfl
     have av: ∀N,4000<=N->(Dm 3000 (BA own i i).length++[[AV.im (D.sl true 0 [])]]).all (AE N)=true:=by
      intro N hN;rw[vM,Wy _ _ _ (by omega)];rfl
     intro _;refine⟨?_,by omega,av _ (by omega),by simp[Iz],by simp[Iz],J0 Q ?_⟩
     .intro row Q;obtain rfl:=BS.1 Q;rfl
     have ac:(Dm 3000 (BA own i i).length++[[AV.im (D.sl true 0 [])]]).set (BA own i i).length [AV.own 4003]=Dm 3000 (BA own i i).length++[[AV.own 4003]]:=by
      have: ∀(l:List (List AV)) n x y,l.length=n->(l++[x]).set n y=l++[y]:=by
       intro l n x y h;subst h;rw[mI _ _ (AN _),HA];rfl
      exact this _ _ _ _ (Iz _ _)
     have ao: ∀N,4003<N->(Dm 3000 (BA own i i).length++[[AV.own 4003]]).all (AE N)=true:=by
      intro N hN;rw[vM,Wy _ _ _ (by omega)];simp[AE,AV.bel];omega
     simp(disch:=omega)only[ZA,simprocAttr,Bu];refine⟨?_,by simp[Iz],by simp[Iz],J0 Q ?_⟩
     .intro row Q;obtain rfl:=BS.1 Q;rfl
     simp(disch:=omega)only[ZA,simprocAttr,Bu,AX,ac];refine⟨ao _ (by omega),⟨(i+1,M++[((i:Int),((BA own i i).length:Int))]),by simp only;omega,by simp only;exact Z⟩,[(2100,some 4001),(3000+(BA own i i).length,some 4003)],by simp only;omega,?_⟩;simp only[e1];obtain⟨G,hG⟩: ∃G,G=BA own i i:=⟨_,rfl⟩;simp only[<-hG] at an⊢;rw[AC (by omega) (by omega)];have pn: ∀m,m≠2100->m≠3000+G.length->pm [(2100,some 4001),(3000+G.length,some 4003)] m=some m:=by intro m hm ag;simp only[pm];rw[Ad (EJ hm),Ad (EJ ag)]
     have hh: ∀(e1 Z e3 e4 e5 e6:An) (m:Nat),hget ((4001,e1)::(4003,Z)::(4002,e3)::(4000,e4)::(2001,e5)::(2,e6)::Bi (Bi (Bi (EC 1000 L k++ES 3000 G) [2001]) [2100]) [4001]) m=if m=4001 then some e1 else if m=4003 then some Z else if m=4002 then some e3 else if m=4000 then some e4 else if m=2001 then some e5 else if m=2 then some e6 else if m=2100 then none else hget (EC 1000 L k++ES 3000 G) m:=by
      intro e1 Z e3 e4 e5 e6 m;simp only[hget,W0,fP,fZ,Rl,Qm,ZeN];by_cases h1:m=4001
      .subst h1;simp
      by_cases h2:m=4003
      .subst h2;simp
      by_cases h3:m=4002
      .subst h3;simp
      by_cases h4:m=4000
      .subst h4;simp
      by_cases h5:m=2001
      .subst h5;simp
      by_cases h6:m=2
      .subst h6;simp
      simp only[Ad h1,Ad h2,Ad h3,Ad h4,Ad h5,Ad h6,Ad (EJ h1),Ad (EJ h2),Ad (EJ h3),Ad (EJ h4),Ad (EJ h5),Ad (EJ h6)]
     have aa:(G++[[(i:Int)]]).length=G.length+1:=by simp
     refine Qxg (O:=4001) (T:=λq=>if q<G.length then 3000+q else 4003) (by omega) (by rw[aa];omega) ⟨by omega,by omega,trivial⟩ (pn _ (by omega) (by omega)) (pn _ (by omega) (by omega)) (λj hj=>pn _ (by omega) (by omega)) (by simp[pm]) (λq hq=> ?_) rfl rfl rfl rfl rfl ?_ ?_ (λj hj=> ?_) (.inr ?_) (λq hq=> ?_) (λq q' hq=> ?_) (λq hq=> ?_) (by omega)
     .rw[aa] at hq;by_cases h:q<G.length
      .rw[pn _ (by omega) (by omega),Ak h]
      .obtain rfl:q=G.length:=by omega
       rw[Ad h];simp only[pm];rw[Ad (by omega),Ak trivial]
     .rw[hh,<-a9,<-Nt _ _ _ hn];rfl
     .rw[hh];rfl
     .rw[hh,Ad (by omega),Ad (by omega),Ad (by omega),Ad (by omega),Ad (by omega),Ad (by omega),Ad (by omega)];exact zV _ _ _ _ hj
     .rw[hh,Ak rfl,Ql0,aa]
     .rw[aa] at hq;rw[hh];by_cases h:q<G.length
      .rw[Ak h,Ad (by omega),Ad (by omega),Ad (by omega),Ad (by omega),Ad (by omega),Ad (by omega),Ad (by omega),EA h];exact zY _ _ _ _ (by omega) h
      .obtain rfl:q=G.length:=by omega
       rw[Ad h,Ad (by omega),Ak rfl,FQ (AN _),HA];rfl
     .rw[aa] at hq;intro au he;rw[aa] at au;by_cases h:q<G.length<;>by_cases h2:q'<G.length<;>simp only[h,h2,BM,CB] at he⊢ <;>omega
     .by_cases h:q<G.length<;>simp only[h,BM,CB]<;>omega
   .have ad:i=k:=by omega
    subst ad;rw[Vu,B5,<-hown];rw[O3 (m:=7) (G:=BA own i i)]
    .simp(disch:=omega)only[ZZ,simprocAttr]
    .intro q hq;have h9:=zY i L (BA own i i) q (by omega) hq;simp (disch:=omega) only[hget,AX,Bq,h9]
def GM(nm:List Int):List Ag->List Ag
 |[]=>[]
 |b::r=>if BN nm b.A=BN nm b.B then GM nm r else ⟨BN nm b.A,BN nm b.B,b.Strength⟩::GM nm r
def Qvj(nm:List Int): ∀(a b:List Ag),GM nm (a++b)=GM nm a++GM nm b
 |[],b=>rfl
 |x::r,b=>by simp only[De,GM,Qvj nm r b];split<;>rfl
def Qpl(nm:List Int): ∀(a:List Ag),(GM nm a).length<=a.length
 |[]=>AN _
 |x::r=>by have:=Qpl nm r;simp only[GM];split<;>simp only[CQ]<;>omega
def Qab6(nm:List Int){bs:List Ag}{k:Nat}{b:Ag}(h:bs[k]? =some b):GM nm (bs.take (k+1))=GM nm (bs.take k)++if BN nm b.A=BN nm b.B then [] else [⟨BN nm b.A,BN nm b.B,b.Strength⟩]:=by
 rw[Ib,h];simp only[vH,Qvj,GM]
def Dw(n:Int)(bs:List Ag)(t:Int):Int×List Ag:=((NQ n bs t).length,GM (Rd n.toNat (NQ n bs t)) bs)
def dlC.H0_dom(a:List Ag×Int)(j:Nat):Al (dlC.H0 a) j=true↔j<1:=by
 simp only[Al,dlC.H0,hget];by_cases h0:j=0
 .subst h0;simp
 .have z:(0==j)=false:=by simp;omega
  simp[z];omega
def contr.fv(a:Int×(List Ag)×Int):Int×(List Ag):=(Dw) (a.1) (a.2.1) (a.2.2)
def contr.row:Ay:=vK (b3 qI (qS Ag.d_le Ag.c_n) qI) (r2 rI (rS Ag.d_le Ag.c_n)) (λa=>0<=a.1/\a.1<=512/\Lm a.1 a.2.1/\a.2.1.length<=1000000) contr.fv
def contr.q:=AT (R:=contr.row) rfl
def contr.ok:A9 166 contr.row:=by
 refine vw (tC clobC.ok (tC dlC.ok (tC groupsBy_.ok tN))) Tryz.func166 ?_;intro a ad;simp only[Tryz.f166];simp only[ZA,simprocAttr,contr.fv];obtain⟨h0,h1,Q,O⟩:=ad;obtain⟨n,hn⟩: ∃n:Nat,a.1=n:=⟨a.1.toNat,by omega⟩;obtain⟨bs,hbsd⟩: ∃bs,bs=a.2.1:=⟨_,rfl⟩;obtain⟨t,ht⟩: ∃t,t=a.2.2:=⟨_,rfl⟩;simp only[hn,<-hbsd,<-ht] at h0 h1 Q O⊢;refine AA.os bs [] O (λj=>by simp[Al,hget]) rfl rfl ?_ ?_
 .simp only[ZA,simprocAttr,clobC.ca,CO]
 simp only[ZA,simprocAttr,clobC.H1];left;refine AA.os (bs,t) [2] O (λj=>dlC.H0_dom _ j) rfl rfl ?_ ?_
 .simp only[ZA,simprocAttr,dlC.ca,dlC.H0,Eo]
 simp only[ZA,simprocAttr,groupsBy_.q,groupsBy_.fv,dlC.H1];have Z:Sz ((n:Int),G3 t bs):=⟨by simp only;omega,by simp only;omega,λb hb=>Q b (gE.1 hb).1,by have:=Qln t bs;simp only;omega⟩;refine⟨Z,by omega,?_⟩;obtain⟨z,hgs⟩: ∃z,z=Vu (n:Int) (G3 t bs):=⟨_,rfl⟩;have ah: ∀r∈z,∀v∈r,0<=v/\v<n:=by rw[hgs];exact Qps n _
 simp only[<-hgs];intro ao;refine AU.old ⟨{i:Nat//i<=z.length},λi=>⟨[(27,.im (.int .i64 i.1)),(26,.im (.int .i64 z.length)),(25,.im (.sl false 1 (z.map CK))),(9,.own 1022),(8,.im (.sl false 1 (z.map CK))),(1,.im (.sl false 3 (bs.map Ag.c)))],[(1022,(true,.arr 2 1 ((Ki z (List.replicate n 0) i.1).map Aj)))],1023⟩,λi=>z.length - i.1,λi=>⟨by simp[ZG],by simp⟩,⟨⟨0,by simp⟩,?_⟩,λi=> ?_⟩
 .simp only[ZA,simprocAttr,sub,Ki,tV]
 obtain⟨i,aq⟩:=i;simp only[ZZ,simprocAttr,AR];refine⟨λhi=>⟨hi,λr hr=> ?_⟩,λhi=> ?_⟩
 .have ak:=ah r (Ba hr);obtain⟨l,hl⟩: ∃l,l=Ki z (List.replicate n 0) i:=⟨_,rfl⟩;have au:l.length=n:=by rw[hl,sL,Ob]
  simp only[<-hl];intro av;refine AU.old ⟨{k:Nat//k<=r.length},λk=>⟨[(34,.im (.int .i64 k.1)),(33,.im (.int .i64 r.length)),(32,.im (.sl false 1 (r.map Aj))),(10,.im (.int .i64 i)),(27,.im (.int .i64 i)),(26,.im (.int .i64 z.length)),(25,.im (.sl false 1 (z.map CK))),(9,.own 1022),(8,.im (.sl false 1 (z.map CK))),(1,.im (.sl false 3 (bs.map Ag.c)))],[(1022,(true,.arr 2 1 ((PZ i r l k.1).map Aj)))],1023⟩,λk=>r.length - k.1,λk=>⟨by simp[ZG],by simp⟩,⟨⟨0,by simp⟩,?_⟩,λk=> ?_⟩
  .simp only[ZA,simprocAttr,sub,PZ]
  obtain⟨k,aj⟩:=k;have ac:=zF (i:Int) r l k;simp only[ZA,simprocAttr,sub,AR,ac,dL];refine⟨λhk=>⟨hk,λv hv=> ?_⟩,λhk=> ?_⟩
  .obtain⟨v1,v2⟩:=ak v (Ba hv);refine⟨v1,by omega,by omega,λ_ _=>⟨⟨k+1,by omega⟩,by simp only;omega,by rw[AC (by omega) (by omega)];simp only;omega,?_⟩⟩;simp only[PZ,hv,AO]
  .have:k=r.length:=by omega
   refine⟨⟨i+1,by omega⟩,by simp only;omega,by rw[AC (by omega) (by omega)];simp only;omega,?_⟩;simp only[Ki,hr,AO,<-hl,this]
 .have ai:i=z.length:=by omega
  subst ai;obtain⟨nm,hnm⟩: ∃nm,nm=Ki z (List.replicate n 0) z.length:=⟨_,rfl⟩;have ac:nm.length=n:=by rw[hnm,sL,Ob]
  simp only[<-hnm];intro an;refine AU.ren ⟨{k:Nat//k<=bs.length},λk=>⟨[(46,.im (.int .i64 k.1)),(45,.im (.int .i64 bs.length)),(44,.im (.sl false 3 (bs.map Ag.c))),(14,.own 1024),(9,.own 1022),(8,.im (.sl false 1 (z.map CK)))],[(1024,(true,.arr 214 3 ((GM nm (bs.take k.1)).map Ag.c))),(1022,(true,.arr 2 1 (nm.map Aj)))],1025⟩,λk=>bs.length - k.1,λk=>⟨by simp[ZG],by simp⟩,⟨⟨0,by simp⟩,[(1024,some 1023)],?_⟩,λk=> ?_⟩
  .simp only[Aw];simp only[ZA,simprocAttr,Br];rfl
  obtain⟨k,aj⟩:=k;have am:=Qpl nm (bs.take k);rw[BH] at am;simp only[ZA,simprocAttr,AR,NG,NE,BK,D.one];refine⟨λhk=>⟨hk,λb hb=> ?_⟩,λhk=> ?_⟩
  .obtain⟨b1,b2,b3,b4⟩:=Q b (Ba hb);refine⟨b1,by omega,by omega,λx hx=>⟨b3,by omega,by omega,λy hy=> ?_⟩⟩;have e1:BN nm b.A=x:=by simp only[BN,hx,AO]
   have e2:BN nm b.B=y:=by simp only[BN,hy,AO]
   have aa:=Qab6 nm hb;rw[e1,e2] at aa;refine⟨λab=>⟨b1,by omega,by omega,λx' af=>⟨b3,by omega,by omega,λy' ag=>⟨by omega,⟨k+1,by omega⟩,[(1024,some 1027)],by simp only;omega,?_⟩⟩⟩,λab=>⟨⟨k+1,by omega⟩,[],by simp only;omega,?_⟩⟩
   .rw[hx] at af;rw[hy] at ag;obtain rfl:=A7 af;obtain rfl:=A7 ag;simp only[Aw];simp only[ZA,simprocAttr,Br,aa];rw[AC (by omega) (by omega),Ad ab];simp[Ag.c]
   .simp only[Aw];simp only[ZA,simprocAttr,Br,aa];rw[AC (by omega) (by omega),Ak (Gi.1 ab),DA];simp
  .have:k=bs.length:=by omega
   subst this;rw[IG];intro _;simp only[Dw,NQ,Rd,B5,<-hgs,<-hnm]
end Go.Ae
