/- Lemmas. Conditions: none. -/
import Derived.Test.YtkjfcnnfidnpcabGreatP08
set_option linter.all false
set_option maxHeartbeats 8000000
set_option maxRecDepth 100000
namespace Go.Ae
open Go.Proofs
def netZ(n:Nat):Nwk:=⟨List.replicate n (List.replicate n 0),List.replicate n (List.replicate n 0)⟩
def addB(x:Nwk)(b:Bond):Nwk:=⟨Qft (Qft x.Room b.A b.B b.Strength) b.B b.A b.Strength,x.Flow⟩
def netK(n:Nat)(bs:List Bond):Nat->Nwk
 |0=>netZ n
 |k+1=>match bs[k]? with
  |some b=>addB (netK n bs k) b
  |none=>netK n bs k
def netF(n:Nat)(bs:List Bond):Nwk:=netK n bs bs.length
theorem Qhc{n:Nat}{bs:List Bond}(hb:Qdm n bs): ∀k,Qjx (netK n bs k) n/\(netK n bs k).Flow=List.replicate n (List.replicate n 0)
 |0=>⟨⟨by simp[netK,netZ],by simp[netK,netZ],fun l hl=>by rw[ZbC hl];simp,fun l hl=>by rw[ZbC hl];simp⟩,rfl⟩
 |k+1=>by
  obtain⟨ih,ih2⟩:=Qhc hb k;simp only[netK];split
  .rename_i b hbk;obtain⟨b1,b2,b3,b4⟩:=hb b (Zae hbk);refine⟨⟨by simp only[addB,Qdl];exact ih.r,ih.f,?_,ih.ff⟩,ih2⟩;exact Qcw (Qcw ih.rr _ _ _ (by rw[ih.r];omega)) _ _ _ (by rw[Qdl,ih.r];omega)
  .exact⟨ih,ih2⟩
def cutW(S:Nat->Bool):List Bond->Int
 |[]=>0
 |b::r=>(if S b.A.toNat=S b.B.toNat then 0 else b.Strength)+cutW S r
theorem Qaat(S:Nat->Bool): ∀(a b:List Bond),cutW S (a++b)=cutW S a+cutW S b
 |[],b=>by simp[cutW]
 |x::r,b=>by simp only[ZaJ,cutW,Qaat S r b];omega
theorem sum_two(n u v:Nat)(hu:u<n)(hv:v<n)(c:Int)(g:Nat->Nat->Bool):sumN (fun a=>sumN (fun b=>if g a b=true then (if a=u/\b=v then c else 0) else 0) n) n=if g u v=true then c else 0:=by
 have h1:sumN (fun a=>sumN (fun b=>if g a b=true then (if a=u/\b=v then c else 0) else 0) n) n=sumN (fun a=>if a=u then (if g u v=true then c else 0) else 0) n:=by
  refine Qa4 fun a _=> ?_
  by_cases ha:a=u
  .subst ha;rw[Zak rfl];have h2:sumN (fun b=>if g a b=true then (if a=a/\b=v then c else 0) else 0) n=sumN (fun b=>if b=v then (if g a v=true then c else 0) else 0) n:=by
    refine Qa4 fun b _=> ?_
    by_cases hb:b=v
    .subst hb;simp
    .simp[hb]
   rw[h2,Qeo,Zak hv]
  .rw[Zai ha];refine (Qa4 fun b _=> ?_).trans (Qc1 n);simp[ha]
 rw[h1,Qeo,Zak hu]
theorem Qnz{l:List (List Int)}{n:Nat}(hl:l.length=n)(h: ∀r∈l,r.length=n){u v:Nat}(d:Int)(hu:u<n)(hv:v<n)(S:Nat->Bool):
 cutF (fun a b=>Qf4 (Qft l u v d) a b) n S=cutF (fun a b=>Qf4 l a b) n S+if S u=true/\S v=false then d else 0:=by
 have h1:sumN (fun a=>sumN (fun b=>if (S a && !S b)=true then (if a=u/\b=v then d else 0) else 0) n) n=if (S u && !S v)=true then d else 0:=sum_two n u v hu hv d (fun a b=>S a && !S b)
 have h2:(if (S u && !S v)=true then d else 0)=if S u=true/\S v=false then d else 0:=by
  cases S u<;>cases S v<;>simp
 rw[h2] at h1;rw[<-h1,cutF,cutF,<-Qdo];refine Qa4 fun a _=> ?_
 rw[<-Qdo];refine Qa4 fun b _=> ?_
 rw[Qe2 hl h d hu hv a b];cases S a<;>cases S b<;>simp
theorem cut_net{n:Nat}{bs:List Bond}(hb:Qdm n bs)(S:Nat->Bool): ∀k,k<=bs.length->cutF (rmF (netK n bs k)) n S=cutW S (bs.take k)
 |0,_=>by
  simp only[Zbq,cutW,cutF];refine (Qa4 fun u hu=> ?_).trans (Qc1 n);refine (Qa4 fun w hw=> ?_).trans (Qc1 n)
  have:rmF (netK n bs 0) u w=0:=by
   simp only[rmF,netK,netZ,Qf4];rw[ZbB,Zak hu,Zad,ZbB,Zak hw,Zad]
  rw[this];split<;>rfl
 |k+1,hk=>by
  obtain⟨b,hbk⟩: ∃b,bs[k]? =some b:=⟨_,Zac hk⟩;have ih:=cut_net hb S k (by omega);obtain⟨hok,_⟩:=Qhc hb k;obtain⟨b1,b2,b3,b4⟩:=hb b (Zae hbk);have e:bs.take (k+1)=bs.take k++[b]:=by rw[Zbu,hbk];rfl
  rw[e,Qaat,<-ih];have e1:rmF (netK n bs (k+1))=fun x y=>Qf4 (Qft (Qft (netK n bs k).Room (b.A.toNat:Int) (b.B.toNat:Int) b.Strength) (b.B.toNat:Int) (b.A.toNat:Int) b.Strength) x y:=by
   funext x y;simp only[rmF,netK,hbk,addB];rw[show ((b.A.toNat:Nat):Int)=b.A by omega,show ((b.B.toNat:Nat):Int)=b.B by omega]
  rw[e1,Qnz (by rw[Qdl];exact hok.r) (Qcw hok.rr _ _ _ (by rw[hok.r];simp;omega)) _ (by omega) (by omega),Qnz hok.r hok.rr _ (by omega) (by omega)];simp only[cutW]
  have:cutF (fun a b=>Qf4 (netK n bs k).Room a b) n S=cutF (rmF (netK n bs k)) n S:=rfl
  rw[this];cases S b.A.toNat<;>cases S b.B.toNat<;>simp<;>omega
theorem cut_netF{n:Nat}{bs:List Bond}(hb:Qdm n bs)(S:Nat->Bool):cutF (rmF (netF n bs)) n S=cutW S bs:=by
 rw[netF,cut_net hb S _ (Zal _),Zbx]
theorem Qpz{n:Nat}{bs:List Bond}(hb:Qdm n bs)(hs:Qmw bs)(a b:Nat): ∀k,0<=rmF (netK n bs k) a b
 |0=>by
  simp only[rmF,netK,netZ,Qf4,ZbB];split
  .rw[Zad,ZbB];split<;>simp
  .simp
 |k+1=>by
  have ih:=Qpz hb hs a b k;obtain⟨hok,_⟩:=Qhc hb k;simp only[rmF,netK] at ih⊢;split
  .rename_i x hx;obtain⟨b1,b2,b3,b4⟩:=hb x (Zae hx);have h0:=(hs x (Zae hx)).1;simp only[addB];rw[show x.A=(x.A.toNat:Int) by omega,show x.B=(x.B.toNat:Int) by omega];rw[Qe2 (n:=n) (by rw[Qdl];exact hok.r) (Qcw hok.rr _ _ _ (by rw[hok.r];simp;omega)) _ (by omega) (by omega),Qe2 hok.r hok.rr _ (by omega) (by omega)]
   split<;>split<;>omega
  .exact ih
theorem Qaae{n:Nat}{bs:List Bond}(hb:Qdm n bs)(hs:Qmw bs)(p q:Nat):Qh5 (rmF (netF n bs)) (flF (netF n bs)) n p q 0:=by
 have hz: ∀a b,flF (netF n bs) a b=0:=by
  intro a b;simp only[flF,netF,(Qhc hb bs.length).2,Qf4,ZbB];split
  .rw[Zad,ZbB];split<;>simp
  .simp
 refine⟨fun u w _ _=>by rw[hz,hz];rfl,fun u w _ _=> ?_,fun u _ _ _=>(Qa4 fun i _=>hz u i).trans (Qc1 n),(Qa4 fun i _=>hz p i).trans (Qc1 n)⟩;rw[hz];exact Qpz hb hs u w bs.length
def Qka(n:Nat)(bs:List Bond)(t:Int)(k:Nat):Prop:= ∀S:Nat->Bool,S 0=true->(∃y,0<y/\y<=k/\y<n/\S y=false)->t<=cutW S bs
def Qid(n:Nat)(bs:List Bond)(t:Int):Nat->Bool
 |0=>true
 |k+1=>Qid n bs t k && decide (t<=Qeq n 0 ((k:Int)+1) t.toNat (netF n bs))
theorem Qtt{n:Nat}{bs:List Bond}(hb:Qdm n bs)(hs:Qmw bs){t:Int}(ht:0<=t): ∀k,k<n->(Qid n bs t k=true↔Qka n bs t k)
 |0,_=>by
  simp only[Qid,true_iff];rintro S _ ⟨y,h1,h2,_⟩;omega
 |k+1,hk=>by
  have ih:=Qtt hb hs ht k (by omega);have hl:=Qaa3 (n:=n) (p:=0) (q:=(k:Int)+1) (by omega) (by omega) (by omega) (by omega) (by omega) t.toNat (netF n bs) 0 (Qhc hb bs.length).1 (Qaae hb hs _ _);simp only[Int.toNat_zero,show ((k:Int)+1).toNat=k+1 by omega,Int.zero_add,cut_netF hb] at hl;simp only[Qid,Zaf,Zan,ih];rcases hl with ⟨h1,h2⟩|⟨h1,S,h2,h3,h4⟩
  .constructor
   .rintro⟨g1,g2⟩ S hS ⟨y,y1,y2,y3,y4⟩;by_cases hy:y<=k
    .exact g1 S hS ⟨y,y1,hy,y3,y4⟩
    .have:=h2 S hS (by rw[show k+1=y by omega];exact y4)
     omega
   .intro h;exact⟨fun S hS ⟨y,y1,y2,y3,y4⟩=>h S hS ⟨y,y1,by omega,y3,y4⟩,by omega⟩
  .constructor
   .rintro⟨_,g2⟩;omega
   .intro h
    have:=h S h2 ⟨k+1,by omega,by omega,hk,h3⟩
    omega
theorem Qt7{n:Net}(hn:Qcf n)(hc:Qib n){q:Int}{st qu:List Int}(hlen:st.length=n.Cnt.toNat)(hP:bfsP n q (st,qu)){p:Int}(hp0:0<=p)(hp1:p<n.Cnt){d:Nat}(hd:st[p.toNat]? =some (d:Int))(w:Int):
 ∀k,k<=d->outQ (Qbd n st p k).1 w=outQ n w+(if p=w then 1 else 0) - (if (Qbd n st p k).2=w then 1 else 0)
 |0,_=>by simp only[Qbd];omega
 |k+1,hk=>by
  have ih:=Qt7 hn hc hlen hP hp0 hp1 hd w k (by omega);have hI:=Qi4 hn hc hlen hP hp0 hp1 hd k (by omega);obtain⟨m,r,hm,hr,hg,hst,hwc⟩:=Qk0 hn hlen hP (by omega) hI;have hr':(Qbd n st p k).1.At[m]? =some r:=by rw[hI.at_];exact hr
  have e:(Qbd n st p (k+1)).1=Qhp (Qbd n st p k).1 m (Qf5 (Qbd n st p k).1 st m).2:=by simp only[Qbd,hm]
  have e2:(Qbd n st p (k+1)).2=(Qf5 (Qbd n st p k).1 st m).1:=by simp only[Qbd,hm]
  rw[e,e2,Qzc hI.ok hr' hg.1,hg.2.2.1,ih,hm];have hwl:=hg.2.2.2.1;rw[Zam,hst,Zad] at hwl;have hne:(m:Int)≠(Qf5 (Qbd n st p k).1 st m).1:=by
   intro he;rw[<-he,Zam,hst,Zad] at hwl;omega
  obtain⟨z,hz⟩: ∃z,z=(Qf5 (Qbd n st p k).1 st m).1:=⟨_,rfl⟩;rw[<-hz] at hne⊢;by_cases c1:p=w<;>by_cases c2:(m:Int)=w<;>by_cases c3:z=w<;>simp only[c1,c2,c3,Zbg,ZbJ]<;>omega
def Qabr(n:Net)(p q:Int):Prop:= ∀w,w≠p->w≠q->outQ n w=0
theorem grow_cons{n:Net}(hn:Qcf n)(hc:Qib n){p q:Int}(hp0:0<=p)(hp1:p<n.Cnt)(hq0:0<=q)(hq1:q<n.Cnt)(hg:(Qd6 n p q).2=true)(hco:Qabr n p q):Qabr (Qd6 n p q).1 p q:=by
 have hlen:=Qgs hn hq0 hq1;have hP:bfsP n q (Qcb n q,(Qbu n q n.Cnt.toNat).2):=Qabw hn hq0 hq1 n.Cnt.toNat;obtain⟨x,hx⟩: ∃x,(Qcb n q)[p.toNat]? =some x:=⟨_,Zac (by omega)⟩;intro w h1 h2;simp only[Qd6,hx,Zad] at hg⊢;by_cases h:x<0
 .rw[Zak h] at hg;simp at hg
 .obtain⟨d,rfl⟩: ∃d:Nat,x=d:=⟨x.toNat,by omega⟩;rw[Zai h,Zam];have hI:=Qi4 hn hc hlen hP hp0 hp1 hx d (Zal _);obtain⟨m,hm,hmc,hst⟩:=hI.v;have hmq:m=q.toNat:=hP.uniq m (by rw[hst];congr 1;omega);have ho:=Qt7 hn hc hlen hP hp0 hp1 hx w d (Zal _);rw[Zai (ZcL h1),hm,Zai (by omega),hco w h1 h2] at ho;simpa using ho
theorem Que{p q:Int}(hp0:0<=p)(hq0:0<=q)(hpq:p≠q): ∀(m:Nat) (n:Net),Qcf n->Qib n->p<n.Cnt->q<n.Cnt->Qabr n p q->Qcf (Qfj p q m n).1/\Qib (Qfj p q m n).1/\(Qfj p q m n).1.Cnt=n.Cnt/\(Qfj p q m n).1.Bonds=n.Bonds/\
 (Qfj p q m n).1.At=n.At/\Qabr (Qfj p q m n).1 p q/\outQ (Qfj p q m n).1 p=outQ n p+(Qfj p q m n).2/\0<=(Qfj p q m n).2/\((Qfj p q m n).2=m\/(Qd6 (Qfj p q m n).1 p q).2=false)
 |0,n,h1,h2,_,_,h5=>⟨h1,h2,rfl,rfl,rfl,h5,by simp[Qfj],by simp[Qfj],.inl (by simp[Qfj])⟩
 |m+1,n,h1,h2,h3,h4,h5=>by
  simp only[Qfj];by_cases hg:(Qd6 n p q).2=true
  .rw[Zak hg];obtain⟨g1,g2,g3,g4,g5,g6⟩:=grow_ok h1 h2 hp0 h3 hq0 h4 hpq hg;have g7:=grow_cons h1 h2 hp0 h3 hq0 h4 hg h5;obtain⟨k1,k2,k3,k4,k5,k6,k7,k8,k9⟩:=Que hp0 hq0 hpq m _ g1 g2 (by omega) (by omega) g7;refine⟨k1,k2,k3.trans g3,k4.trans g4,k5.trans g5,k6,by simp only;omega,by simp only;omega,?_⟩;rcases k9 with h|h
   .exact .inl (by simp only;omega)
   .exact .inr h
  .rw[Zai hg];exact⟨h1,h2,rfl,rfl,rfl,h5,by simp,by simp,.inr (by simpa using hg)⟩
theorem Qu0{n:Int}{bs:List Bond}(h:Qhu (n,bs))(hs:Qmw bs){p q:Int}(hp0:0<=p)(hq0:0<=q)(hp1:p<n)(hq1:q<n)(hpq:p≠q):Qcf (Qcz n bs p q).1/\Qib (Qcz n bs p q).1/\(Qcz n bs p q).1.Cnt=n/\(Qcz n bs p q).1.Bonds=bs/\
 (Qcz n bs p q).1.At=(newN n bs).At/\Qabr (Qcz n bs p q).1 p q/\outQ (Qcz n bs p q).1 p=(Qcz n bs p q).2/\0<=(Qcz n bs p q).2/\(Qd6 (Qcz n bs p q).1 p q).2=false:=by
 obtain⟨h1,h2⟩:=newN_ok h hs;obtain⟨k1,k2,k3,k4,k5,k6,k7,k8,k9⟩:=Que hp0 hq0 hpq ((bs.map Bond.Strength).sum.toNat+1) (newN n bs) h1 h2 hp1 hq1 (fun w _ _=>Qtg w);rw[Qtg,Int.zero_add] at k7;refine⟨k1,k2,k3,k4,k5,k6,k7,k8,?_⟩;rcases k9 with h9|h9
 .exfalso;have h4:(Qfj p q ((bs.map Bond.Strength).sum.toNat+1) (newN n bs)).1.Bonds=bs:=k4
  have:=out_le k1 k2 p
  rw[h4] at this;omega
 .exact h9
theorem Qaau{n:Net}(hn:Qcf n){v:Nat}{r:List Int}(hr:n.At[v]? =some r){y:Int}(hy0:0<=y): ∀(l:List Int) (s:List Int×List Int),(∀i∈l,i∈r)->Qkd n s->s.1[v]? =some y-> ∀i∈l,0<(Qb9 n (Qbg n v i) i).1-> ∃z,(l.foldl (bfs1 n v) s).1[(Qbg n v i).toNat]? =some z/\0<=z
 |[],s,_,_,_,i,hi,_=>by cases hi
 |j::l,s,hl,hs,hv,i,hi,hro=>by
  have hj:=hl j (Zau ..);rcases Zax.1 hi with rfl|hi
  .obtain⟨_,_,o1,o2⟩:=Qhm hn hr hj;obtain⟨z,hz⟩: ∃z,s.1[(Qbg n v i).toNat]? =some z:=⟨_,Zac (by rw[hs.len];omega)⟩;have key: ∃z,(bfs1 n v s i).1[(Qbg n v i).toNat]? =some z/\0<=z:=by
    by_cases h0:0<=z
    .exact⟨z,Qh0 n v s i _ z hz h0,h0⟩
    .refine⟨y+1,?_,by omega⟩;simp only[bfs1];rw[Zak ⟨by rw[hz,Zad];omega,hro⟩,Zam,hv,Zad];exact ZaE (by rw[hs.len];omega)
   obtain⟨z',g1,g2⟩:=key;exact⟨z',Qor n v _ z' g2 l _ g1,g2⟩
  .exact Qaau hn hr hy0 l _ (fun j hj=>hl j (Zas _ hj)) (Qtm hn hr hj hs) (Qh0 n v s j v y hv hy0) i hi hro
theorem Qzj(n:Net)(v:Int): ∀(l:List Int) (s:List Int×List Int),∃e,(l.foldl (bfs1 n v) s).2=s.2++e
 |[],s=>⟨[],by simp⟩
 |i::l,s=>by
  obtain⟨e,he⟩:=Qzj n v l (bfs1 n v s i);simp only[Zdm,he];simp only[bfs1];split
  .exact⟨[Qbg n v i]++e,by simp⟩
  .exact⟨e,rfl⟩
theorem bfs_ext(n:Net)(q:Int)(k:Nat): ∃e,(Qbu n q (k+1)).2=(Qbu n q k).2++e:=by
 rw[Qbu];split
 .exact⟨[],by simp⟩
 .exact Qzj n _ _ _
theorem bfs_keep1(n:Net)(q:Int)(u:Nat)(y:Int)(h0:0<=y)(k:Nat)(h:(Qbu n q k).1[u]? =some y):(Qbu n q (k+1)).1[u]? =some y:=by
 rw[Qbu];split
 .exact h
 .exact Qor n _ u y h0 _ _ h
theorem Qzn{n:Net}(hn:Qcf n){q:Int}(h0:0<=q)(h1:q<n.Cnt): ∀(k j:Nat) (v:Int),j<k->(Qbu n q k).2[j]? =some v-> ∀(r:List Int),n.At[v.toNat]? =some r-> ∀i∈r,0<(Qb9 n (Qbg n v i) i).1-> ∃z,(Qbu n q k).1[(Qbg n v i).toNat]? =some z/\0<=z
 |0,j,v,hj,_,_,_,_,_,_=>by omega
 |k+1,j,v,hj,hv,r,hr,i,hi,hro=>by
  obtain⟨e,he⟩:=bfs_ext n q k;by_cases hjl:j<(Qbu n q k).2.length
  .rw[he,ZaG hjl] at hv;by_cases hjk:j<k
   .obtain⟨z,g1,g2⟩:=Qzn hn h0 h1 k j v hjk hv r hr i hi hro;exact⟨z,bfs_keep1 n q _ z g2 k g1,g2⟩
   .have:j=k:=by omega
    subst this;have hI:=Qg5 hn h0 h1 j;have hPk:=Qabw hn h0 h1 j;have hvq:=hI.q v (Zae hv);obtain⟨m,rfl⟩: ∃m:Nat,v=m:=⟨v.toNat,by omega⟩;obtain⟨y,hy,hy0⟩:=hPk.qs _ (Zae hv);rw[Zam] at hy hr;rw[Qbu,hv];simp only[Zam,hr,Zad];exact Qaau hn hr hy0 r _ (fun _ h=>h) hI hy i hi hro
  .have e1:Qbu n q (k+1)=Qbu n q k:=by rw[Qbu,ZaZ (by omega)]
   rw[e1] at hv
   have:=(Zaj.1 hv).1
   omega
theorem bfs_in{n:Net}(hn:Qcf n){q:Int}(h0:0<=q)(h1:q<n.Cnt): ∀(k u:Nat) (y:Int),(Qbu n q k).1[u]? =some y->0<=y->(u:Int)∈(Qbu n q k).2
 |0,u,y,hu,hy=>by
  have hq:q.toNat<n.Cnt.toNat:=by omega
  simp only[Qbu] at hu⊢;by_cases h:q.toNat=u
  .rw[Zat];omega
  .rw[ZaH h] at hu
   have:=ZbC (Zae hu)
   omega
 |k+1,u,y,hu,hy=>by
  have ih:=bfs_in hn h0 h1 k;have hI:=Qg5 hn h0 h1 k;have hone: ∀(v:Int) (l:List Int) (s:List Int×List Int),(∀i∈l,0<=Qbg n v i)->(∀(u:Nat) (y:Int),s.1[u]? =some y->0<=y->(u:Int)∈s.2)-> ∀(u:Nat) (y:Int),(l.foldl (bfs1 n v) s).1[u]? =some y->0<=y->(u:Int)∈(l.foldl (bfs1 n v) s).2:=by
   intro v l;induction l with
   |nil=>intro s _ hs;exact hs
   |cons i l ihl=>
    intro s hl hs;refine ihl _ (fun j hj=>hl j (Zas _ hj)) ?_;intro u y hu hy;have ho:=hl i (Zau ..);simp only[bfs1] at hu⊢;split at hu
    .rename_i hc;rw[Zak hc];simp only[Zar,Zat] at hu⊢;by_cases he:(Qbg n v i).toNat=u
     .right;omega
     .rw[ZaH he] at hu;exact .inl (hs u y hu hy)
    .rename_i hc;rw[Zai hc];exact hs u y hu hy
  rw[Qbu] at hu⊢;split at hu
  .exact ih u y hu hy
  .rename_i v hv;have hvq:=hI.q v (Zae hv);obtain⟨m,rfl⟩: ∃m:Nat,v=m:=⟨v.toNat,by omega⟩;obtain⟨r,hr⟩: ∃r,n.At[m]? =some r:=⟨_,Zac (by have:=hn.al;omega)⟩;simp only[Zam,hr,Zad] at hu⊢;exact hone m r _ (fun i hi=>(Qhm hn hr hi).2.2.1) ih u y hu hy
theorem Qmo{n:Net}(hn:Qcf n){q:Int}(h0:0<=q)(h1:q<n.Cnt){v:Nat}{y:Int}(hv:(Qcb n q)[v]? =some y)(hy:0<=y){r:List Int}(hr:n.At[v]? =some r){i:Int}(hi:i∈r)(hro:0<(Qb9 n (Qbg n v i) i).1):
 ∃z,(Qcb n q)[(Qbg n v i).toNat]? =some z/\0<=z:=by
 have hm:=bfs_in hn h0 h1 n.Cnt.toNat v y hv hy;obtain⟨j,hj⟩:=Zbz.1 hm;have hjl:=(Zaj.1 hj).1;have hle:=Qkx hn.c0 (Qg5 hn h0 h1 n.Cnt.toNat);exact Qzn hn h0 h1 n.Cnt.toNat j v (by omega) hj r (by rwa [Zam]) i hi hro
def outS(n:Net)(S:Nat->Bool):Int:=(List.zipWith (fun b f=>(if S b.A.toNat=true then f else 0) - (if S b.B.toNat=true then f else 0)) n.Bonds n.Flow).sum
theorem Qaay(S:Nat->Bool)(m:Nat): ∀(bs:List Bond) (fs:List Int),(∀b∈bs,0<=b.A/\b.A<m/\0<=b.B/\b.B<m/\b.A≠b.B)->
 sumN (fun v=>if S v=true then (List.zipWith (ctr (v:Int)) bs fs).sum else 0) m=(List.zipWith (fun b f=>(if S b.A.toNat=true then f else 0) - (if S b.B.toNat=true then f else 0)) bs fs).sum
 |[],fs,_=>by
  simp only[List.zipWith_nil_left,ZeO];refine (Qa4 fun i _=> ?_).trans (Qc1 m)
  split<;>rfl
 |b::bs,[],_=>by
  simp only[ZdS,ZeO];refine (Qa4 fun i _=> ?_).trans (Qc1 m)
  split<;>rfl
 |b::bs,f::fs,h=>by
  have ih:=Qaay S m bs fs (fun x hx=>h x (Zas _ hx));obtain⟨b1,b2,b3,b4,b5⟩:=h b (Zau ..);simp only[Zcv,ZcB];rw[<-ih];have e:sumN (fun v=>if S v=true then ctr (v:Int) b f+(List.zipWith (ctr (v:Int)) bs fs).sum else 0) m=
   (sumN (fun v=>if v=b.A.toNat then (if S b.A.toNat=true then f else 0) else 0) m+ - sumN (fun v=>if v=b.B.toNat then (if S b.B.toNat=true then f else 0) else 0) m)+sumN (fun v=>if S v=true then (List.zipWith (ctr (v:Int)) bs fs).sum else 0) m:=by
   rw[<-Qk3,<-Qdo,<-Qdo];refine Qa4 fun v _=> ?_
   simp only[ctr];by_cases c1:v=b.A.toNat
   .have c2: ¬v=b.B.toNat:=by omega
    rw[Zak (show b.A=(v:Int) by omega),Zak c1,Zai c2,<-c1];cases S v<;>simp
   .rw[Zai (show ¬b.A=(v:Int) by omega),Zai c1];by_cases c2:v=b.B.toNat
    .rw[Zak (show b.B=(v:Int) by omega),Zak c2,<-c2];cases S v<;>simp
    .rw[Zai (show ¬b.B=(v:Int) by omega),Zai c2];cases S v<;>simp
  rw[e,Qeo,Qeo,Zak (show b.A.toNat<m by omega),Zak (show b.B.toNat<m by omega)];omega
theorem out_val{n:Net}(hn:Qcf n){p q:Int}(hp0:0<=p)(hp1:p<n.Cnt)(hco:Qabr n p q){S:Nat->Bool}(hS:S p.toNat=true)(hT:S q.toNat=false)(hq0:0<=q):outS n S=outQ n p:=by
 have h1:=Qaay S n.Cnt.toNat n.Bonds n.Flow (fun b hb=>by
  have:=hn.bs b hb
  have:=hn.ne b hb
  omega)
 rw[outS,<-h1];have h2:sumN (fun v=>if S v=true then (List.zipWith (ctr (v:Int)) n.Bonds n.Flow).sum else 0) n.Cnt.toNat=sumN (fun v=>if v=p.toNat then outQ n p else 0) n.Cnt.toNat:=by
  refine Qa4 fun v hv=> ?_
  by_cases hvp:v=p.toNat
  .subst hvp;rw[Zak rfl,Zak hS,show ((p.toNat:Nat):Int)=p by omega];rfl
  .rw[Zai hvp];cases hSv:S v with
   |false=>rw[Zai (by simp)]
   |true=>
    rw[Zak rfl];have hvq:v≠q.toNat:=fun he=>by rw[he,hT] at hSv;cases hSv
    exact hco v (by omega) (by omega)
 rw[h2,Qeo,Zak (by omega)]
theorem Qw5(S:Nat->Bool): ∀(bs:List Bond) (fs:List Int),(∀(i:Nat) b f,bs[i]? =some b->fs[i]? =some f-> -b.Strength<=f/\f<=b.Strength)->(∀b∈bs,0<=b.Strength)->(List.zipWith (fun b f=>(if S b.A.toNat=true then f else 0) - (if S b.B.toNat=true then f else 0)) bs fs).sum<=cutW S bs
 |[],_,_,_=>by simp[cutW]
 |x::r,[],_,hs=>by
  have h1:=Qw5 S r [] (fun i b f _ h=>by simp at h) (fun b hb=>hs b (Zas _ hb));have h2:=hs x (Zau ..);simp only[ZdS,ZeO,cutW] at h1⊢
  split<;>omega
 |x::r,y::s,hc,hs=>by
  have h1:=Qw5 S r s (fun i b f h h'=>hc (i+1) b f (by simpa using h) (by simpa using h')) (fun b hb=>hs b (Zas _ hb));have h3:=hc 0 x y rfl rfl;simp only[Zcv,ZcB,cutW];cases S x.A.toNat<;>cases S x.B.toNat<;>simp<;>omega
theorem outS_eq(S:Nat->Bool): ∀(bs:List Bond) (fs:List Int),fs.length=bs.length->(∀(i:Nat) b f,bs[i]? =some b->fs[i]? =some f->(S b.A.toNat=true->S b.B.toNat=false->f=b.Strength)/\(S b.A.toNat=false->S b.B.toNat=true->f= -b.Strength))->(List.zipWith (fun b f=>(if S b.A.toNat=true then f else 0) - (if S b.B.toNat=true then f else 0)) bs fs).sum=cutW S bs
 |[],_,_,_=>by simp[cutW]
 |x::r,[],h,_=>by simp at h
 |x::r,y::s,h,hc=>by
  have h1:=outS_eq S r s (by simpa using h) (fun i b f h h'=>hc (i+1) b f (by simpa using h) (by simpa using h'));obtain⟨h2,h3⟩:=hc 0 x y rfl rfl;simp only[Zcv,ZcB,cutW,h1];cases hA:S x.A.toNat<;>cases hB:S x.B.toNat<;>simp
  .have:=h3 hA hB;omega
  .exact h2 hA hB
theorem flow_law{n:Int}{bs:List Bond}(h:Qhu (n,bs))(hs:Qmw bs){p q:Int}(hp0:0<=p)(hq0:0<=q)(hp1:p<n)(hq1:q<n)(hpq:p≠q):
 0<=(Qcz n bs p q).2/\(∀S:Nat->Bool,S p.toNat=true->S q.toNat=false->(Qcz n bs p q).2<=cutW S bs)/\ ∃S:Nat->Bool,S p.toNat=true/\S q.toNat=false/\cutW S bs=(Qcz n bs p q).2:=by
 obtain⟨k1,k2,k3,k4,k5,k6,k7,k8,k9⟩:=Qu0 h hs hp0 hq0 hp1 hq1 hpq;obtain⟨N,hN⟩: ∃N,N=(Qcz n bs p q).1:=⟨_,rfl⟩;obtain⟨val,hval⟩: ∃val,val=(Qcz n bs p q).2:=⟨_,rfl⟩;simp only[<-hN,<-hval] at k1 k2 k3 k4 k5 k6 k7 k8 k9⊢;refine⟨k8,fun S hS hT=> ?_,?_⟩
 .have h1:=out_val k1 hp0 (by omega) k6 hS hT hq0;have h2:=Qw5 S N.Bonds N.Flow k2 (fun b hb=>(k1.st b hb).1);rw[k4] at h2;simp only[outS,k4] at h1;omega
 .have hlen:=Qgs k1 hq0 (by omega);obtain⟨x,hx⟩: ∃x,(Qcb N q)[p.toNat]? =some x:=⟨_,Zac (by omega)⟩;have hx0:x<0:=by
   simp only[Qd6,hx,Zad] at k9;by_cases h0:x<0
   .exact h0
   .rw[Zai h0] at k9;simp at k9
  have hPz:=(Qabw k1 hq0 (show q<N.Cnt by omega) N.Cnt.toNat).zero;have hPz:(Qcb N q)[q.toNat]? =some 0:=hPz;refine⟨fun v=>decide ((Qcb N q)[v]?.getD 0<0),by simp only[hx,Zad,Zan];exact hx0,by simp[hPz],?_⟩;have hS:decide ((Qcb N q)[p.toNat]?.getD 0<0)=true:=by simp only[hx,Zad,Zan];exact hx0
  have hT:decide ((Qcb N q)[q.toNat]?.getD 0<0)=false:=by simp[hPz]
  have h1:=out_val (S:=fun v=>decide ((Qcb N q)[v]?.getD 0<0)) k1 hp0 (by omega) k6 hS hT hq0;have h2:=outS_eq (fun v=>decide ((Qcb N q)[v]?.getD 0<0)) N.Bonds N.Flow k1.fl ?_
  .simp only[outS,k4] at h1;rw[k4] at h2;omega
  .intro i b f hb hf;have hbb:=k1.bs b (Zae hb);have hbn:=k1.ne b (Zae hb);obtain⟨⟨rA,a1,a2⟩,⟨rB,c1,c2⟩⟩:=k1.all i b hb;have hcap:=k2 i b f hb hf;obtain⟨yA,hA⟩: ∃y,(Qcb N q)[b.A.toNat]? =some y:=⟨_,Zac (by omega)⟩;obtain⟨yB,hB⟩: ∃y,(Qcb N q)[b.B.toNat]? =some y:=⟨_,Zac (by omega)⟩;simp only[hA,hB,Zad,Zan,Zbp];refine⟨fun e1 e2=> ?_,fun e1 e2=> ?_⟩
   ·
    have ho:Qbg N b.B i=b.A:=by simp only[Qbg,Zam,hb];omega
    have hr:(Qb9 N b.A i).1=b.Strength - f:=by simp only[Qb9,Zam,hb,hf,Zad,Zbg]
    by_cases hro:0<b.Strength - f
    .have:=Qmo k1 hq0 (by omega) (v:=b.B.toNat) hB (by omega) c1 c2 (by rw[show ((b.B.toNat:Nat):Int)=b.B by omega,ho,hr];exact hro)
     rw[show ((b.B.toNat:Nat):Int)=b.B by omega,ho,hA] at this;obtain⟨z,g1,g2⟩:=this
     have:=Zaa g1
     omega
    .omega
   .have ho:Qbg N b.A i=b.B:=by simp only[Qbg,Zam,hb];omega
    have hr:(Qb9 N b.B i).1=b.Strength+f:=by simp only[Qb9,Zam,hb,hf,Zad];rw[Zai hbn]
    by_cases hro:0<b.Strength+f
    .have:=Qmo k1 hq0 (by omega) (v:=b.A.toNat) hA (by omega) a1 a2 (by rw[show ((b.A.toNat:Nat):Int)=b.A by omega,ho,hr];exact hro)
     rw[show ((b.A.toNat:Nat):Int)=b.A by omega,ho,hB] at this;obtain⟨z,g1,g2⟩:=this
     have:=Zaa g1
     omega
    .omega
def Qem(n:Int)(bs:List Bond):Nat->Int×List Int
 |0=>(-1,[])
 |k+1=>if (Qem n bs k).1<0\/befW (Qcz n bs 0 (k+1)).2 (Qw9 (Qcz n bs 0 (k+1)).1 (k+1)) (Qem n bs k).1 (Qem n bs k).2=true then ((Qcz n bs 0 (k+1)).2,Qw9 (Qcz n bs 0 (k+1)).1 (k+1)) else Qem n bs k
def weakC.fv(a:Int×(List Bond)):Int×(List Int):=(fun n bs=>Qem n bs (n - 1).toNat) (a.1) (a.2)
def weakC.row:Row:=vK (b2 qI (qS Bond.d_le Bond.c_n)) (r2 rI (rS Qb3 Qant)) (fun a=>Qhu (a.1,a.2)/\Qmw a.2/\1<=a.1) weakC.fv
def weakC.q:=vKq (R:=weakC.row) rfl
def YaB:=J @weakC.fv.eq_1<|J @l07Before.q<|J @l07Before.fv.eq_1<|J @sideC.q @sideC.fv.eq_1
theorem weakC.ok:Qas Tryz.prog 97 weakC.row:=by
 refine vw (tC l07Before.ok (tC flC.ok (tC sideC.ok tN))) Tryz.func97 rfl (by kernel_rfl) ?_;intro a hpre;simp only[Tryz.f97,Option.getD];simp(maxSteps:=9^9)(disch:=omega)only[ZZ,simprocAttr,rch,YaB];obtain⟨hp1,hst,hn1⟩:=hpre;have hn2:=hp1.2.1;simp only at hn2;obtain⟨n,hn⟩: ∃n:Nat,a.1=n+1:=⟨(a.1 - 1).toNat,by omega⟩;rw[show (a.1 - 1).toNat=n by omega];refine Qay.frr ⟨{k:Nat//k<=n},fun k=>⟨[(8,.im (.int .i64 ((k.1:Int)+1))),(7,.im (.sl false 1 ((Qem a.1 a.2 k.1).2.map intC))),(6,.im (.int .i64 (Qem a.1 a.2 k.1).1)),(0,.im (.int .i64 a.1)),(1,.im (.sl false 3 (a.2.map Bond.c)))],[],2⟩,fun k=>n - k.1,fun k=>⟨by simp[Qad.good,belT,belH,Qam,AV.bel,belL],by simp⟩,⟨⟨0,by simp⟩,[1],[],?_⟩,fun k=> ?_⟩
 .simp only[subP];simp(maxSteps:=9^9)(disch:=omega)only[ZZ,simprocAttr,rch,YaB,Zah,Zag,Qem,ZaV]
  try simp
 obtain⟨k,hk1⟩:=k;simp(maxSteps:=9^9)(disch:=omega)only[ZZ,simprocAttr,rch,YaB,sub,Qal];refine⟨fun hk=> ?_,fun hk=> ?_⟩
 .refine orow.os (a.1,a.2,0,(k:Int)+1) [] ⟨hp1,hst,by simp,by simp only;omega,by simp only;omega,by simp only;omega,by simp only;omega⟩ (fun j=>by simp[domB,hget]) rfl rfl ?_ ?_
  .simp(maxSteps:=9^9)(disch:=omega)only[ZZ,simprocAttr,rch,YaB,flC.ca,Zbg]
  .simp(maxSteps:=9^9)(disch:=omega)only[ZZ,simprocAttr,rch,YaB,flC.H1,flC.r0,sub,Qal];obtain⟨k1,k2,k3,k4,k5,_⟩:=Qu0 (p:=0) (q:=(k:Int)+1) hp1 hst (by omega) (by omega) (by omega) (by omega) (by omega);have hfold:({Cnt:=a.1,Bonds:=a.2,At:=(newN a.1 a.2).At,Flow:=(flC.net (a.1,a.2,0,(k:Int)+1)).Flow}:Net)=(Qcz a.1 a.2 0 ((k:Int)+1)).1:=by
    rw[<-k5];simp only[flC.net]
    conv=>rhs;rw[show (Qcz a.1 a.2 0 ((k:Int)+1)).1=⟨(Qcz a.1 a.2 0 ((k:Int)+1)).1.Cnt,(Qcz a.1 a.2 0 ((k:Int)+1)).1.Bonds,(Qcz a.1 a.2 0 ((k:Int)+1)).1.At,(Qcz a.1 a.2 0 ((k:Int)+1)).1.Flow⟩ from rfl]
    rw[k3,k4]
   rw[hfold];have hw:IntKind.i64.wrap ((k:Int)+1+1)=(k:Int)+1+1:=Qak (by omega) (by omega);have hb':Qem a.1 a.2 (k+1)=if (Qem a.1 a.2 k).1<0\/befW (Qcz a.1 a.2 0 ((k:Int)+1)).2 (Qw9 (Qcz a.1 a.2 0 ((k:Int)+1)).1 ((k:Int)+1)) (Qem a.1 a.2 k).1 (Qem a.1 a.2 k).2=true then ((Qcz a.1 a.2 0 ((k:Int)+1)).2,Qw9 (Qcz a.1 a.2 0 ((k:Int)+1)).1 ((k:Int)+1)) else Qem a.1 a.2 k:=rfl
   refine⟨⟨k1,by omega,by omega⟩,fun h0=>⟨fun h1=>⟨⟨k+1,by omega⟩,[],[],by simp only;omega,?_⟩,fun h1=>⟨⟨k+1,by omega⟩,[],[],by simp only;omega,?_⟩⟩,fun h0=>⟨⟨k+1,by omega⟩,[],[],by simp only;omega,?_⟩⟩
   .rw[Zak (.inr h1)] at hb';simp only[subP];simp(maxSteps:=9^9)(disch:=omega)only[ZZ,simprocAttr,rch,YaB,Zah,Zag,hb',hw];omega
   .rw[Zai (fun h=>h.elim h0 h1)] at hb';simp only[subP];simp(maxSteps:=9^9)(disch:=omega)only[ZZ,simprocAttr,rch,YaB,Zah,Zag,hb',hw];omega
   .rw[Zak (.inl (ZaY.1 h0))] at hb';simp only[subP];simp(maxSteps:=9^9)(disch:=omega)only[ZZ,simprocAttr,rch,YaB,Zah,Zag,hb',hw];omega
 .have:k=n:=by omega
  rw[this]
theorem Qzk{n:Int}{bs:List Bond}(h:Qhu (n,bs))(hs:Qmw bs){t:Int}(ht:0<=t): ∀k:Nat,(k:Int)<n->(0<k->0<=(Qem n bs k).1/\(t<=(Qem n bs k).1↔Qka n.toNat bs t k))
 |0,_=>fun h0=>by omega
 |k+1,hk=>fun _=>by
  obtain⟨f1,f2,S,f3,f4,f5⟩:=flow_law h hs (p:=0) (q:=(k:Int)+1) (by omega) (by omega) (by omega) (by omega) (by omega);simp only[Int.toNat_zero,show ((k:Int)+1).toNat=k+1 by omega] at f2 f3 f4;obtain⟨v,hv⟩: ∃v,v=(Qcz n bs 0 ((k:Int)+1)).2:=⟨_,rfl⟩;obtain⟨sd,hsd⟩: ∃sd,sd=Qw9 (Qcz n bs 0 ((k:Int)+1)).1 ((k:Int)+1):=⟨_,rfl⟩;have hone:t<=v↔ ∀S:Nat->Bool,S 0=true->S (k+1)=false->t<=cutW S bs:=by
   constructor
   .intro h1 S hS hT
    have:=f2 S hS hT
    omega
   .intro h1
    have:=h1 S f3 f4
    omega
  have hcut:Qka n.toNat bs t (k+1)↔Qka n.toNat bs t k/\t<=v:=by
   rw[hone];constructor
   .intro h1;exact⟨fun S hS ⟨y,y1,y2,y3,y4⟩=>h1 S hS ⟨y,y1,by omega,y3,y4⟩,fun S hS hT=>h1 S hS ⟨k+1,by omega,by omega,by omega,hT⟩⟩
   .rintro⟨h1,h2⟩ S hS ⟨y,y1,y2,y3,y4⟩;by_cases hy:y<=k
    .exact h1 S hS ⟨y,y1,hy,y3,y4⟩
    .exact h2 S hS (by rw[show k+1=y by omega];exact y4)
  rw[hcut];simp only[Qem,<-hv,<-hsd];by_cases hk0:k=0
  .subst hk0;rw[Zak (.inl (by simp[Qem]))];refine⟨by simp only;omega,?_⟩;simp only;constructor
   .intro h1;exact⟨fun S _ ⟨y,y1,y2,_,_⟩=>by omega,h1⟩
   .exact fun h1=>h1.2
  .obtain⟨i1,i2⟩:=Qzk h hs ht k (by omega) (by omega);rw[<-i2];by_cases hc:(Qem n bs k).1<0\/befW v sd (Qem n bs k).1 (Qem n bs k).2=true
   .rw[Zak hc];have hle:v<=(Qem n bs k).1:=by
     rcases hc with hc|hc
     .omega
     .simp only[befW] at hc;split at hc
      .omega
      .simp only[Zan] at hc;omega
    simp only;exact⟨by omega,by omega,by omega⟩
   .rw[Zai hc];have hle:(Qem n bs k).1<=v:=by
     have hc2: ¬befW v sd (Qem n bs k).1 (Qem n bs k).2=true:=fun h=>hc (.inr h)
     simp only[befW] at hc2;split at hc2
     .omega
     .simp only[Zan] at hc2;omega
    exact⟨i1,by omega,by omega⟩
def revK(l:List Int):Nat->List Int
 |0=>l
 |i+1=>((revK l i).set i ((revK l i)[l.length - 1 - i]?.getD 0)).set (l.length - 1 - i) ((revK l i)[i]?.getD 0)
theorem Qnf(l:List Int): ∀i,(revK l i).length=l.length
 |0=>rfl
 |i+1=>by simp only[revK,ZbN,Qnf l i]
theorem Qaap(l:List Int): ∀i,2*i<=l.length-> ∀k,k<l.length->(revK l i)[k]? =if k<i\/l.length - i<=k then l[l.length - 1 - k]? else l[k]?
 |0,_,k,hk=>by simp only[revK];rw[Zai (by omega)]
 |i+1,hi,k,hk=>by
  have ih:=Qaap l i (by omega);have hl:=Qnf l i;have g1:(revK l i)[l.length - 1 - i]?.getD 0=l[l.length - 1 - i]?.getD 0:=by rw[ih _ (by omega),Zai (by omega)]
  have g2:(revK l i)[i]?.getD 0=l[i]?.getD 0:=by rw[ih _ (by omega),Zai (by omega)]
  have gd: ∀j,j<l.length->some (l[j]?.getD 0)=l[j]? :=fun j hj=>by rw[Zac hj];rfl
  rw[revK,g1,g2];by_cases h1:l.length - 1 - i=k
  .subst h1;rw[ZaE (by rw[ZbN,hl];omega),Zak (by omega),gd _ (by omega)];congr 1;omega
  .rw[ZaH h1];by_cases h2:i=k
   .subst h2;rw[ZaE (by rw[hl];omega),Zak (by omega),gd _ (by omega)]
   .rw[ZaH h2,ih k hk];by_cases h3:k<i\/l.length - i<=k
    .rw[Zak h3,Zak (by omega)]
    .rw[Zai h3,Zai (by omega)]
theorem revK_end(l:List Int){i:Nat}(h1:2*i<=l.length)(h2:l.length<=2*i+1):revK l i=l.reverse:=by
 apply Zci;intro k;by_cases hk:k<l.length
 .rw[Qaap l i h1 k hk,ZeL hk];by_cases h:k<i\/l.length - i<=k
  .rw[Zak h]
  .rw[Zai h];congr 1;omega
 .rw[ZaZ (by rw[Qnf];omega),ZaZ (by rw[ZcZ];omega)]
theorem Qdj(l:List Int)(i:Nat)(x:Int):(l.map intC).set i [.int .i64 x]=(l.set i x).map intC:=by rw[ZcP];rfl
def revC.ca(_:List Int):List AV:=[.own 0]
def revC.H0(a:List Int):Qan:=[(0,(true,.arr 3 1 (a.map intC)))]
def revC.H1(a:List Int):Qan:=[(0,(true,.arr 3 1 (a.reverse.map intC)))]
def revC.row:Row:=orow revC.ca revC.H0 1 (fun _=>True) (fun j=>j==0) (fun _=> .im (.tup [])) revC.H1 0
theorem revC.ok:Qas Tryz.prog 167 revC.row:=by
 refine ow tN Tryz.func167 rfl (by kernel_rfl) (exB:=fun _=>false) (R:=fun _ r=>r= .im (.tup [])) (fun _=>rfl)
  (fun a=>by simp[revC.ca,revC.H0,revC.H1,belL,AV.bel,belH,Qam,Qc2,AObj.nms,nmsL,AV.nms,domB,hget]) (fun a p hp=> ?_) (fun a r h=>by subst h;exact LeV.refl _) ?_
 rotate_left
 intro a hpre;simp only[Tryz.f167,Option.getD,revC.ca,revC.H0,revC.H1];simp(maxSteps:=9^9)(disch:=omega)only[ZZ,simprocAttr,rch,ORB,revC.ca,revC.H0,revC.H1];intro hl0;rw[Qak (by omega) (by omega)];refine Qay.old ⟨{i:Nat//2*i<=a.length},fun i=>⟨[(2,.im (.int .i64 i.1)),(3,.im (.int .i64 ((a.length:Int) - 1 - i.1))),(0,.own 0)],[(0,(true,.arr 3 1 ((revK a i.1).map intC)))],1⟩,fun i=>a.length - i.1,fun i=>⟨by simp[Qad.good,belT,belH,Qam,AV.bel,belL],by simp⟩,⟨⟨0,by simp⟩,?_⟩,fun i=> ?_⟩
 .simp(maxSteps:=9^9)(disch:=omega)only[ZZ,simprocAttr,rch,ORB,revC.ca,revC.H0,revC.H1,sub];exact⟨by omega,by rw[revK]⟩
 obtain⟨i,hi⟩:=i;have hrl:=Qnf a i;simp(maxSteps:=9^9)(disch:=omega)only[ZZ,simprocAttr,rch,ORB,revC.ca,revC.H0,revC.H1,sub,Qal,hrl,Qdj,ZbN];refine⟨fun hi2=>⟨by omega,by omega,by omega,fun x hx=>⟨by omega,by omega,fun y hy=>⟨by omega,by omega,fun z hz=>⟨by omega,by omega,by omega,fun u hu=> ?_⟩⟩⟩⟩,fun hi2=> ?_⟩
 .refine⟨⟨i+1,by omega⟩,by simp only;omega,?_⟩;have w1:IntKind.i64.wrap ((a.length:Int) - 1 - i - 1)=(a.length:Int) - 1 - i - 1:=Qak (by omega) (by omega);have w2:IntKind.i64.wrap ((i:Int)+1)=(i:Int)+1:=Qak (by omega) (by omega);simp only[w1,w2];refine⟨⟨by omega,by omega⟩,?_⟩;simp only[revK];rw[show a.length - 1 - i=((a.length:Int) - 1 - i).toNat by omega,hx,hy];rfl
 .rw[revK_end a hi (by omega)]
 simp[revC.H1] at hp;subst hp;exact .inl ⟨by omega,rfl,rfl⟩
def clonC.ca(a:List Qab):List AV:=[.im (.sl false 3 (a.map Qab.c))]
def clonC.H1(a:List Qab):Qan:=[(0,(true,.arr 103 3 (a.map Qab.c)))]
def clonC.row:Row:=orow clonC.ca (fun _=>[]) 0 (fun a=>a.length<=1000000) (fun _=>false) (fun _=> .own 0) clonC.H1 20
theorem clonC.ok:Qas Tryz.prog 201 clonC.row:=by
 refine owN tN Tryz.func201 rfl (by kernel_rfl) (exB:=fun j=>j==0) (R:=fun _ r=>r= .own 0) (fun _=>rfl)
  (fun a=>by simp[clonC.ca,clonC.H1,belL,AV.bel,belH,Qam,Qc2,AObj.nms,nmsL,AV.nms,domB,hget]) (fun a p hp=> ?_) (fun a r h=>by subst h;exact LeV.refl _) ?_
 rotate_left
 intro a hpre;simp only[Tryz.f201,Option.getD,clonC.ca,clonC.H1];simp(maxSteps:=9^9)(disch:=omega)only[ZZ,simprocAttr,rch,Qc7,ORB,clonC.ca,clonC.H1];intro b hb;split
 .rename_i h;have h0:=hb h;refine⟨[],[(0,some 1)],⟨[(2,.own 0)],clonC.H1 a,1⟩,?_,by simp[clonC.H1,Qad.good,belT,belH,Qam,AV.bel,belL],by simp,?_⟩
  .simp only[subP,clonC.H1,h0];simp(maxSteps:=9^9)(disch:=omega)only[ZZ,simprocAttr,rch,Qc7,ORB,clonC.ca,clonC.H1,Zah,Zag]
  .simp(maxSteps:=9^9)(disch:=omega)only[ZZ,simprocAttr,rch,Qc7,ORB,clonC.ca,clonC.H1]
 .refine⟨by omega,[],[(0,some 2)],⟨[(2,.own 0)],clonC.H1 a,1⟩,?_,by simp[clonC.H1,Qad.good,belT,belH,Qam,AV.bel,belL],by simp,?_⟩
  .simp only[subP,clonC.H1];simp(maxSteps:=9^9)(disch:=omega)only[ZZ,simprocAttr,rch,Qc7,ORB,clonC.ca,clonC.H1,Zah,Zag]
  .simp(maxSteps:=9^9)(disch:=omega)only[ZZ,simprocAttr,rch,Qc7,ORB,clonC.ca,clonC.H1]
 simp[clonC.H1] at hp;subst hp;exact .inr ⟨by omega,by omega,rfl,rfl⟩
def clobC.ca(a:List Bond):List AV:=[.im (.sl false 3 (a.map Bond.c))]
def clobC.H1(a:List Bond):Qan:=[(0,(true,.arr 193 3 (a.map Bond.c)))]
def clobC.row:Row:=orow clobC.ca (fun _=>[]) 0 (fun a=>a.length<=1000000) (fun _=>false) (fun _=> .own 0) clobC.H1 20
theorem clobC.ok:Qas Tryz.prog 143 clobC.row:=by
 refine owN tN Tryz.func143 rfl (by kernel_rfl) (exB:=fun j=>j==0) (R:=fun _ r=>r= .own 0) (fun _=>rfl)
  (fun a=>by simp[clobC.ca,clobC.H1,belL,AV.bel,belH,Qam,Qc2,AObj.nms,nmsL,AV.nms,domB,hget]) (fun a p hp=> ?_) (fun a r h=>by subst h;exact LeV.refl _) ?_
 rotate_left
 intro a hpre;simp only[Tryz.f143,Option.getD,clobC.ca,clobC.H1];simp(maxSteps:=9^9)(disch:=omega)only[ZZ,simprocAttr,rch,Qc7,ORB,clobC.ca,clobC.H1];intro b hb;split
 .rename_i h;have h0:=hb h;refine⟨[],[(0,some 1)],⟨[(2,.own 0)],clobC.H1 a,1⟩,?_,by simp[clobC.H1,Qad.good,belT,belH,Qam,AV.bel,belL],by simp,?_⟩
  .simp only[subP,clobC.H1,h0];simp(maxSteps:=9^9)(disch:=omega)only[ZZ,simprocAttr,rch,Qc7,ORB,clobC.ca,clobC.H1,Zah,Zag]
  .simp(maxSteps:=9^9)(disch:=omega)only[ZZ,simprocAttr,rch,Qc7,ORB,clobC.ca,clobC.H1]
 .refine⟨by omega,[],[(0,some 2)],⟨[(2,.own 0)],clobC.H1 a,1⟩,?_,by simp[clobC.H1,Qad.good,belT,belH,Qam,AV.bel,belL],by simp,?_⟩
  .simp only[subP,clobC.H1];simp(maxSteps:=9^9)(disch:=omega)only[ZZ,simprocAttr,rch,Qc7,ORB,clobC.ca,clobC.H1,Zah,Zag]
  .simp(maxSteps:=9^9)(disch:=omega)only[ZZ,simprocAttr,rch,Qc7,ORB,clobC.ca,clobC.H1]
 simp[clobC.H1] at hp;subst hp;exact .inr ⟨by omega,by omega,rfl,rfl⟩
def freeC.fv(a:Nwk×Int×Int):Bool:=(Qp4) (a.1) (a.2.1) (a.2.2)
def freeC.row:Row:=vKF (b3 (qP 2 Nwk.d_le) qI qI) rB (fun a=>Qjx a.1 a.1.Room.length/\0<=a.2.1/\a.2.1<a.1.Room.length/\0<=a.2.2/\a.2.2<a.1.Room.length) freeC.fv
def freeC.q:=vKFq (R:=freeC.row) rfl
theorem freeC.ok:Qas Tryz.prog 166 freeC.row:=by
 refine vwF tN Tryz.func166 rfl (by kernel_rfl) ?_;intro a hpre;simp only[Tryz.f166,Option.getD];simp(maxSteps:=9^9)(disch:=omega)only[ZZ,simprocAttr,rch,freeC.fv,ORC,D.sc,D.scs,scL,decD];obtain⟨h1,h2,h3,h4,h5⟩:=hpre;have hf:=h1.f;refine⟨h2,h3,fun r hr=>⟨h4,by rw[h1.rr r (Zae hr)];exact h5,fun x hx=>⟨h2,by omega,fun s hs=>⟨h4,by rw[h1.ff s (Zae hs)];exact h5,fun y hy=> ?_⟩⟩⟩⟩;simp only[Qp4,Qyw,Qzr,hr,hs,hx,hy,Zad]
def wayD:D->Option (List Int)
 | .sl true _ rows=>decR intD rows
 | .sl false _ (r::rows)=>decR intD (r::rows)
 |_=>none
theorem wayD_le: ∀d x,wayD d=some x->Le d (.sl true 1 (x.map intC)):=by
 intro d x h;unfold wayD at h;split at h
 .rename_i k rows;have h1:=Qbf (nz:=true) (k:=k) (Qa2 Qb3 _ _ h) (k':=1) (by simp[intC]);intro ok hp v hv;have h2:=h1 ok hp v hv;simp only[Ae.rd] at h2 hv⊢;rcases h2 with h2|⟨b,p,cap,vs,T,fr,g1,g2,g3,g4,g5,g6,g7⟩
  .rcases hv with ⟨q1,q2⟩|⟨b',p',cap',vs',T',fr',q1,q2,q3,q4,q5,q6,q7⟩
   .exact .inl ⟨q1,h2.2⟩
   .obtain⟨ao,e⟩:=Qoc h2.1;rw[e] at q1;simp only[Value.slice.injEq] at q1;exact absurd (ZbE.1 q1.2.1.symm) (q2 trivial)
  .rcases hv with ⟨q1,q2⟩|⟨b',p',cap',vs',T',fr',q1,q2,q3,q4,q5,q6,q7⟩
   .rw[Qr7 q1] at g1;cases g1
   .refine .inr ⟨b,p,cap,vs,T,fr,g1,fun _ h0=> ?_,g3,g4,g5,g6,g7⟩;rw[q1] at g1;simp only[Value.slice.injEq] at g1;rw[h0,ZbF] at g1;exact q2 trivial (ZbE.1 g1.2.1)
 .rename_i k r rows;have h1:=Qbf (nz:=false) (k:=k) (Qa2 Qb3 _ _ h) (k':=1) (by simp[intC]);intro ok hp v hv;have h2:=h1 ok hp v hv;simp only[Ae.rd] at h2 hv⊢;rcases h2 with h2|⟨b,p,cap,vs,T,fr,g1,g2,g3,g4,g5,g6,g7⟩
  .rcases hv with ⟨q1,q2⟩|⟨b',p',cap',vs',T',fr',q1,q2,q3,q4,q5,q6,q7⟩
   .cases q2
   .obtain⟨ao,e⟩:=Qoc h2.1;rw[e] at q1;simp only[Value.slice.injEq,ZaF] at q1;omega
  .rcases hv with ⟨q1,q2⟩|⟨b',p',cap',vs',T',fr',q1,q2,q3,q4,q5,q6,q7⟩
   .cases q2
   .refine .inr ⟨b,p,cap,vs,T,fr,g1,fun _ h0=> ?_,g3,g4,g5,g6,g7⟩;rw[q1] at g1;simp only[Value.slice.injEq,ZaF] at g1;rw[h0,ZbF] at g1;omega
 .cases h
theorem Qot(n:Nat)(x:Int):List.replicate n [D.int .i64 x]=(List.replicate n x).map intC:=by rw[ZdQ];rfl
theorem wayD_map{k:Nat}{l:List Int}(h:l≠[]):wayD (.sl false k (l.map intC))=some l:=by
 cases l with
 |nil=>exact absurd rfl h
 |cons x r=>exact Qmp (x::r)
def dI(v:Int):D:= .int .i64 v
theorem rept.H0_dom(a:Int×Int)(j:Nat):domB (rept.H0 a) j=true↔j<1:=by
 simp only[domB,rept.H0,hget];by_cases h0:j=0
 .subst h0;simp
 .have e0:(0==j)=false:=by simp;omega
  simp[e0];omega
theorem revC.H0_dom(a:List Int)(j:Nat):domB (revC.H0 a) j=true↔j<1:=by
 simp only[domB,revC.H0,hget];by_cases h0:j=0
 .subst h0;simp
 .have e0:(0==j)=false:=by simp;omega
  simp[e0];omega
theorem CYc:Qp9 Tryz.prog 256=some 3:=by kernel_rfl
def wayC.rc:D->Option (List Int):=wayD
def wayC.re:(List Int)->D:=fun b=>D.sl true 1 (b.map intC)
theorem wayC.rle: ∀d b,wayC.rc d=some b->Le d (wayC.re b):=wayD_le
def wayC.fv(a:Nwk×Int×Int):List Int:=(fun x p q=>wayN x x.Room.length p q) (a.1) (a.2.1) (a.2.2)
def wayC.row:Row:=vKF (b3 (qP 2 Nwk.d_le) qI qI) (RK.mk wayC.rc wayC.re wayC.rle) (fun a=>Qjx a.1 a.1.Room.length/\a.1.Room.length<=1000/\0<=a.2.1/\a.2.1<a.1.Room.length/\0<=a.2.2/\a.2.2<a.1.Room.length) wayC.fv
def wayC.q:=vKFq (R:=wayC.row) rfl
def YaC:=J @wayC.fv.eq_1<|J @wayC.rc.eq_1<|J @freeC.q @freeC.fv.eq_1
theorem wayC.ok:Qas Tryz.prog 160 wayC.row:=by
 refine vwF (tC freeC.ok (tC rept.ok (tC revC.ok tN))) Tryz.func160 rfl (by kernel_rfl) ?_;intro a hpre;simp only[Tryz.f160,Option.getD];simp(maxSteps:=9^9)(disch:=omega)only[ZZ,simprocAttr,rch,YaC,ORC,D.sc,D.scs,scL,decD];obtain⟨hok,hn,hp0,hp1,hq0,hq1⟩:=hpre;obtain⟨x,hx⟩: ∃x,x=a.1:=⟨_,rfl⟩;obtain⟨p,hp⟩: ∃p,p=a.2.1:=⟨_,rfl⟩;obtain⟨q,hq⟩: ∃q,q=a.2.2:=⟨_,rfl⟩;obtain⟨n,hnn⟩: ∃n,n=x.Room.length:=⟨_,rfl⟩;simp only[<-hx,<-hp,<-hq,<-hnn] at hok hn hp0 hp1 hq0 hq1⊢;intro hl0;refine orow.os (-1,(n:Int)) [1] ⟨by simp only;omega,by simp only;omega⟩ (fun j=>rept.H0_dom _ j) rfl rfl ?_ ?_
 .simp(maxSteps:=9^9)(disch:=omega)only[ZZ,simprocAttr,rch,YaC,ORC,D.sc,D.scs,scL,decD,CYc,rept.ca,rept.H0,Zbg,Zbi]
 simp(maxSteps:=9^9)(disch:=omega)only[ZZ,simprocAttr,rch,YaC,ORC,D.sc,D.scs,scL,decD,CYc,rept.H1,sub,Zam,ZbL,Qdj,Qot];refine⟨by omega,by omega,hp0,hp1,by omega,fun _ _=> ?_⟩;refine Qay.old ⟨{k:Nat//k<=(Qb5 x n p k).2.length},fun k=>⟨[(9,.ch 22),(8,.own 2),(7,.im (.int .i64 n)),(0,.ptr 0 0),(1,.im (.int .i64 p)),(2,.im (.int .i64 q))],[(2,(true,.arr 3 1 ((Qb5 x n p k.1).1.map intC))),(22,(true,.chan (((Qb5 x n p k.1).2.drop k.1).map dI) n)),(0,(false,.view [.sl false 1 (x.Room.map Qcd),.sl false 1 (x.Flow.map Qcd)]))],23⟩,fun k=>n - k.1,fun k=>⟨by simp[Qad.good,belT,belH,Qam,AV.bel,belL],by simp⟩,⟨⟨0,by simp⟩,?_⟩,fun k=> ?_⟩
 .simp(maxSteps:=9^9)(disch:=omega)only[ZZ,simprocAttr,rch,YaC,ORC,D.sc,D.scs,scL,decD,CYc,sub];simp[Qb5,dI]
 obtain⟨k,hk⟩:=k;have hP:=Qnt (x:=x) hp0 hp1 k;have hle:=Qr3 hP;simp(maxSteps:=9^9)(disch:=omega)only[ZZ,simprocAttr,rch,YaC,ORC,D.sc,D.scs,scL,decD,CYc,sub,Qal,Zbv,ZaA];refine⟨fun hk2=> ?_,fun hk2=> ?_⟩
 .have hk3:k<(Qb5 x n p k).2.length:=by omega
  obtain⟨u,hu⟩: ∃u,(Qb5 x n p k).2[k]? =some u:=⟨_,Zac hk3⟩;have hub:=hP.q u (Zae hu);rw[Qd3 hu];refine⟨by simp,fun d r hdr=> ?_⟩;simp only[Zao,Zdl] at hdr;obtain⟨rfl,rfl⟩:=hdr;simp only[dI];obtain⟨s,hs⟩: ∃s,s=Qb5 x n p k:=⟨_,rfl⟩;simp only[<-hs] at hu hP⊢;refine Qay.old ⟨{i:Nat//i<=n},fun i=>⟨[(36,.im (.int .i64 i.1)),(35,.im (.int .i64 n)),(10,.im (.int .i64 u)),(9,.ch 22),(8,.own 2),(7,.im (.int .i64 n)),(0,.ptr 0 0),(1,.im (.int .i64 p)),(2,.im (.int .i64 q))],[(2,(true,.arr 3 1 ((wayI x u s i.1).1.map intC))),(22,(true,.chan (((wayI x u s i.1).2.drop (k+1)).map dI) n)),(0,(false,.view [.sl false 1 (x.Room.map Qcd),.sl false 1 (x.Flow.map Qcd)]))],23⟩,fun i=>n - i.1,fun i=>⟨by simp[Qad.good,belT,belH,Qam,AV.bel,belL],by simp⟩,⟨⟨0,by simp⟩,?_⟩,fun i=> ?_⟩
  .simp(maxSteps:=9^9)(disch:=omega)only[ZZ,simprocAttr,rch,YaC,ORC,D.sc,D.scs,scL,decD,CYc,sub,wayI]
  obtain⟨i,hi⟩:=i;obtain⟨hQ,e,he⟩:=Qwk hP hu i hi;have hqle:=Qr3 hQ;have hql:=hQ.len;simp(maxSteps:=9^9)(disch:=omega)only[ZZ,simprocAttr,rch,YaC,ORC,D.sc,D.scs,scL,decD,CYc,sub,Qal,Zbv,ZaA,hql,Qdj];refine⟨fun hi2=>⟨by omega,by omega,fun y hy=>⟨fun hy0=>⟨⟨hnn▸hok,hub.1,by omega,by omega⟩,fun hf=>⟨by omega,by omega,fun y2 _=>⟨by omega,⟨i+1,by omega⟩,by simp only;omega,by rw[Qak (by omega) (by omega)];simp only;omega,?_⟩⟩,fun hf=>⟨⟨i+1,by omega⟩,by simp only;omega,by rw[Qak (by omega) (by omega)];simp only;omega,?_⟩⟩,fun hy0=>⟨⟨i+1,by omega⟩,by simp only;omega,by rw[Qak (by omega) (by omega)];simp only;omega,?_⟩⟩⟩,fun hi2=> ?_⟩
  .have e1:wayI x u s (i+1)=((wayI x u s i).1.set i u,(wayI x u s i).2++[(i:Int)]):=by
    rw[wayI,way1,Zak ⟨by rw[hy,Zad];exact hy0,hf⟩]
   have hk4:=(Zaj.1 hu).1;simp only[e1];refine⟨trivial,?_⟩;rw[Zdr (by rw[he,ZaC];omega),ZbG];rfl
  .have e1:wayI x u s (i+1)=wayI x u s i:=by
    rw[wayI,way1,Zai (fun h=>hf h.2)]
   simp only[e1];exact⟨trivial,trivial⟩
  .have e1:wayI x u s (i+1)=wayI x u s i:=by
    rw[wayI,way1,Zai (fun h=>hy0 (by have:=h.1;rw[hy,Zad] at this;exact this))]
   simp only[e1];exact⟨trivial,trivial⟩
  .have hin:i=n:=by omega
   have e1:Qb5 x n p (k+1)=wayI x u s i:=by rw[Qb5,<-hs,hu,hin]
   refine⟨⟨k+1,by rw[e1,he,ZaC];have:=(Zaj.1 hu).1;omega⟩,by simp only;omega,?_⟩;simp only[e1];exact⟨trivial,trivial⟩
 .have hkl:(Qb5 x n p k).2.length=k:=by omega
  have hE:Qb5 x n p k=wayE x n p:=by
   have:=way_end x n p (n - k) k (by omega)
   rw[show k+(n - k)=n by omega] at this;exact this.symm
  have hlen:=hP.len;refine⟨hq0,by omega,by omega,fun y hy=>⟨fun hy0=> ?_,fun hy0=> ?_⟩⟩
  .simp only[wayN,<-hE,hy,Zad];rw[Zak hy0];rfl
  have hqm:q∈(Qb5 x n p k).2:=by
   have:=(hP.mem q.toNat y hy).1 (by omega)
   rwa [show (q.toNat:Int)=q by omega] at this
  obtain⟨i,hi⟩:=Zbz.1 hqm;obtain⟨d,hd1,hd2,hd3⟩:=Qq3 hP hi;have hil:=(Zaj.1 hi).1;have hst:Qpv (Qb5 x n p k).1 p q n=d:=Qqr (by omega) hd2 hd3;have hW:wayN x n p q=(Qhr (Qb5 x n p k).1 q d).reverse:=by
   simp only[wayN,<-hE,hy,Zad];rw[Zai hy0,hst]
  obtain⟨par,hpar⟩: ∃par,par=(Qb5 x n p k).1:=⟨_,rfl⟩;simp only[<-hpar] at hlen hd2 hd3 hW⊢;refine Qay.ren ⟨{j:Nat//j<=d},fun j=>⟨[(13,.im (.int .i64 (Qcg par q j.1))),(12,.own 24),(8,.own 2),(1,.im (.int .i64 p))],[(24,(true,.arr 3 1 ((Qhr par q j.1).map intC))),(2,(true,.arr 3 1 (par.map intC)))],25⟩,fun j=>d - j.1,fun j=>⟨by simp[Qad.good,belT,belH,Qam,AV.bel,belL],by simp⟩,⟨⟨0,by omega⟩,[(24,some 23)],?_⟩,fun j=> ?_⟩
  .simp only[subP];simp(maxSteps:=9^9)(disch:=omega)only[ZZ,simprocAttr,rch,YaC,ORC,D.sc,D.scs,scL,decD,CYc,Zah,Zag];exact⟨rfl,rfl⟩
  obtain⟨j,hj⟩:=j;have hbl:(Qhr par q j).length=j+1:=by simp[Qhr]
  simp(maxSteps:=9^9)(disch:=omega)only[ZZ,simprocAttr,rch,YaC,ORC,D.sc,D.scs,scL,decD,CYc,sub,Qal,hbl];refine⟨fun hne=> ?_,fun hne=> ?_⟩
  .have hjd:j<d:=by
    rcases ZbA j d with h|h
    .exact h
    .exact absurd (by rw[show j=d by omega];exact hd2) hne
   obtain⟨j2,g1,g2⟩:=Qkm hP hi j (fun j' hj'=>by rw[<-hpar];exact hd3 j' (by omega));rw[<-hpar] at g2;have hb2:=hP.q _ (Zae g2);refine⟨hb2.1,by omega,by omega,fun z hz=>⟨by omega,⟨j+1,by omega⟩,[(24,some 26)],by simp only;omega,?_⟩⟩;have e1:Qcg par q (j+1)=z:=by rw[Qcg,hz,Zad]
   have e2:Qhr par q (j+1)=Qhr par q j++[z]:=by
    simp only[Qhr];rw[ZeN,ZbG,Zao,ZaV,e1]
   simp only[subP];simp(maxSteps:=9^9)(disch:=omega)only[ZZ,simprocAttr,rch,YaC,ORC,D.sc,D.scs,scL,decD,CYc,Zah,Zag,e1,e2,ZbG]
  .have hjd:j=d:=by
    have h1:=ZaY.1 hne;rcases ZbA j d with h|h
    .exact absurd h1 (hd3 j h)
    .omega
   subst hjd;refine orow.os (Qhr par q j) [24] trivial (fun i=>revC.H0_dom _ i) rfl rfl ?_ ?_
   .simp(maxSteps:=9^9)(disch:=omega)only[ZZ,simprocAttr,rch,YaC,ORC,D.sc,D.scs,scL,decD,CYc,revC.ca,revC.H0,Zbg,Zbi]
   .simp(maxSteps:=9^9)(disch:=omega)only[ZZ,simprocAttr,rch,YaC,ORC,D.sc,D.scs,scL,decD,CYc,revC.H1,sub,Zbi];rw[hW];exact wayD_map (by simp[Qhr])
def Qdc(t:Int)(bs:List Bond):List Bond:=bs.filter fun b=>decide (t<=b.Strength)
def Qmz(g:Int)(r:List Int)(l:List Int):Nat->List Int
 |0=>l
 |k+1=>(Qmz g r l k).set (r[k]?.getD 0).toNat g
def Qjt(gs:List (List Int))(l:List Int):Nat->List Int
 |0=>l
 |i+1=>Qmz i (gs[i]?.getD []) (Qjt gs l i) (gs[i]?.getD []).length
theorem Qkb(g:Int)(r l:List Int): ∀k,(Qmz g r l k).length=l.length
 |0=>rfl
 |k+1=>by simp only[Qmz,ZbN,Qkb g r l k]
theorem Qij(gs:List (List Int))(l:List Int): ∀i,(Qjt gs l i).length=l.length
 |0=>rfl
 |i+1=>by simp only[Qjt,Qkb,Qij gs l i]
def Qoz(n:Nat)(gs:List (List Int)):List Int:=Qjt gs (List.replicate n 0) gs.length
def nmOf(nm:List Int)(v:Int):Int:=nm[v.toNat]?.getD 0
def Qck(nm:List Int):List Bond->List Bond
 |[]=>[]
 |b::r=>if nmOf nm b.A=nmOf nm b.B then Qck nm r else ⟨minI (nmOf nm b.A) (nmOf nm b.B),maxI (nmOf nm b.A) (nmOf nm b.B),b.Strength⟩::Qck nm r
theorem Qp2(nm:List Int): ∀(a b:List Bond),Qck nm (a++b)=Qck nm a++Qck nm b
 |[],b=>rfl
 |x::r,b=>by simp only[ZaJ,Qck,Qp2 nm r b];split<;>rfl
theorem Qjq(nm:List Int): ∀(a:List Bond),(Qck nm a).length<=a.length
 |[]=>Zal _
 |x::r=>by have:=Qjq nm r;simp only[Qck];split<;>simp only[ZaF]<;>omega
theorem Qln(t:Int)(bs:List Bond):(Qdc t bs).length<=bs.length:=Zde _ _
theorem Qjs(t:Int){bs:List Bond}{k:Nat}{b:Bond}(h:bs[k]? =some b):Qdc t (bs.take (k+1))=Qdc t (bs.take k)++if t<=b.Strength then [b] else []:=by
 rw[Zbu,h];simp only[Qdc,ZcI,ZcT,Zds,Zdz,Zan]
theorem Qaaj(own:List Int)(i:Nat): ∀k,∀v∈grpK own i k,(i:Int)<=v/\v<i+k
 |0,v,h=>by simp[grpK] at h
 |k+1,v,h=>by
  simp only[grpK,Zar] at h;rcases h with h|h
  .have:=Qaaj own i k v h;omega
  .split at h
   .rw[Zat] at h;omega
   .simp at h
theorem Qvq(own:List Int)(n:Nat): ∀k,k<=n-> ∀r∈Qa7 own n k,∀v∈r,0<=v/\v<n
 |0,_,r,h,_,_=>by simp[Qa7] at h
 |k+1,hk,r,h,v,hv=>by
  simp only[Qa7,Zar] at h;rcases h with h|h
  .exact Qvq own n k (by omega) r h v hv
  .split at h
   .rw[Zat] at h;subst h
    have:=Qaaj own k (n - k) v hv
    omega
   .simp at h
theorem Qps(n:Nat)(bs:List Bond): ∀r∈Qf2 (n:Int) bs,∀v∈r,0<=v/\v<n:=by
 intro r hr v hv
 have:=Qvq (ownK n bs bs.length) n n (Zal _) r (by simpa[Qf2] using hr) v hv
 omega
theorem Qvc(nm:List Int){bs:List Bond}{k:Nat}{b:Bond}(h:bs[k]? =some b):Qck nm (bs.take (k+1))=Qck nm (bs.take k)++if nmOf nm b.A=nmOf nm b.B then [] else [⟨minI (nmOf nm b.A) (nmOf nm b.B),maxI (nmOf nm b.A) (nmOf nm b.B),b.Strength⟩]:=by
 rw[Zbu,h];simp only[ZcT,Qp2,Qck]
def Qd2(n:Int)(bs:List Bond)(t:Int):List (List Int):=Qf2 n (Qdc t bs)
def shrN(n:Int)(bs:List Bond)(t:Int):Int×List Bond:=((Qd2 n bs t).length,Qck (Qoz n.toNat (Qd2 n bs t)) bs)
def shrunk.fv(a:Int×(List Bond)×Int):Int×(List Bond):=(shrN) (a.1) (a.2.1) (a.2.2)
def shrunk.row:Row:=vK (b3 qI (qS Bond.d_le Bond.c_n) qI) (r2 rI (rS Bond.d_le Bond.c_n)) (fun a=>0<=a.1/\a.1<=1000000/\Qdm a.1 a.2.1/\a.2.1.length<=1000000) shrunk.fv
def shrunk.q:=vKq (R:=shrunk.row) rfl
def YaD:=J @shrunk.fv.eq_1<|J @l06Groups.q<|J @l06Groups.fv.eq_1<|J @l00Min.q<|J @l00Min.fv.eq_1<|J @l00Max.q @l00Max.fv.eq_1
theorem shrunk.ok:Qas Tryz.prog 96 shrunk.row:=by
 refine vw (tC l06Groups.ok (tC l00Min.ok (tC l00Max.ok tN))) Tryz.func96 rfl (by kernel_rfl) ?_;intro a hpre;simp only[Tryz.f96,Option.getD];simp(maxSteps:=9^9)(disch:=omega)only[ZZ,simprocAttr,rch,YaD];obtain⟨h0,h1,hbs,hbl⟩:=hpre;obtain⟨n,hn⟩: ∃n:Nat,a.1=n:=⟨a.1.toNat,by omega⟩;obtain⟨bs,hbsd⟩: ∃bs,bs=a.2.1:=⟨_,rfl⟩;obtain⟨t,ht⟩: ∃t,t=a.2.2:=⟨_,rfl⟩;simp only[hn,<-hbsd,<-ht] at h0 h1 hbs hbl⊢;refine Qay.ren ⟨{k:Nat//k<=bs.length},fun k=>⟨[(9,.im (.int .i64 k.1)),(8,.own 2),(0,.im (.int .i64 n)),(1,.im (.sl false 3 (bs.map Bond.c))),(2,.im (.int .i64 t))],[(2,(true,.arr 193 3 ((Qdc t (bs.take k.1)).map Bond.c)))],3⟩,fun k=>bs.length - k.1,fun k=>⟨by simp[Qad.good,belT,belH,Qam,AV.bel,belL],by simp⟩,⟨⟨0,by simp⟩,[(2,some 1)],?_⟩,fun k=> ?_⟩
 .simp only[subP];simp(maxSteps:=9^9)(disch:=omega)only[ZZ,simprocAttr,rch,YaD,Zah,Zag];rfl
 obtain⟨k,hk1⟩:=k;have hsl:=Qln t (bs.take k);rw[Zav] at hsl;simp(maxSteps:=9^9)(disch:=omega)only[ZZ,simprocAttr,rch,YaD,sub,Qal,Qag,Qac,Qaf,allD,D.one,Zbn,Zcn,Zdk];intro _;refine⟨fun hk=>⟨hk,fun b hb=>⟨fun hs=>⟨hk,fun b' hb'=>⟨by omega,⟨k+1,by omega⟩,[(2,some 4)],by simp only;omega,?_⟩⟩,fun hs=>⟨⟨k+1,by omega⟩,[(2,some 2)],by simp only;omega,?_⟩⟩⟩,fun hk=> ?_⟩
 .rw[hb] at hb';obtain rfl:=Zaa hb';simp only[subP];simp(maxSteps:=9^9)(disch:=omega)only[ZZ,simprocAttr,rch,YaD,Zah,Zag,Qjs t hb];rw[Qak (by omega) (by omega),Zak hs];simp[Bond.c]
 .simp only[subP];simp(maxSteps:=9^9)(disch:=omega)only[ZZ,simprocAttr,rch,YaD,Zah,Zag,Qjs t hb];rw[Qak (by omega) (by omega),Zai hs,ZaK];simp
 have hkn:k=bs.length:=by omega
 subst hkn;rw[Zbx];refine⟨⟨h1,fun b hb=>hbs b (ZcQ.1 hb).1⟩,by omega,?_⟩;obtain⟨gs,hgs⟩: ∃gs,gs=Qf2 (n:Int) (Qdc t bs):=⟨_,rfl⟩;have hgm: ∀r∈gs,∀v∈r,0<=v/\v<n:=by rw[hgs];exact Qps n _
 simp only[<-hgs];clear hk hsl hk1;refine Qay.old ⟨{i:Nat//i<=gs.length},fun i=>⟨[(12,.im (.int .i64 i.1)),(11,.own 3),(10,.im (.sl false 1 (gs.map Qcd))),(0,.im (.int .i64 n)),(1,.im (.sl false 3 (bs.map Bond.c))),(2,.im (.int .i64 t))],[(3,(true,.arr 2 1 ((Qjt gs (List.replicate n 0) i.1).map intC)))],4⟩,fun i=>gs.length - i.1,fun i=>⟨by simp[Qad.good,belT,belH,Qam,AV.bel,belL],by simp⟩,⟨⟨0,by simp⟩,?_⟩,fun i=> ?_⟩
 .simp(maxSteps:=9^9)(disch:=omega)only[ZZ,simprocAttr,rch,YaD,sub,Qjt,Qot]
 obtain⟨i,hi1⟩:=i;simp(maxSteps:=9^9)(disch:=omega)only[ZZ,simprocAttr,rch,YaD,sub,Qal];intro hgl;refine⟨fun hi=> ?_,fun hi=> ?_⟩
 .obtain⟨r,hr⟩: ∃r,gs[i]? =some r:=⟨_,Zac hi⟩;have hrm:=hgm r (Zae hr);obtain⟨l,hl⟩: ∃l,l=Qjt gs (List.replicate n 0) i:=⟨_,rfl⟩;have hll:l.length=n:=by rw[hl,Qij,ZbL]
  simp only[<-hl];refine Qay.old ⟨{k:Nat//k<=r.length},fun k=>⟨[(13,.im (.int .i64 k.1)),(12,.im (.int .i64 i)),(11,.own 3),(10,.im (.sl false 1 (gs.map Qcd))),(0,.im (.int .i64 n)),(1,.im (.sl false 3 (bs.map Bond.c))),(2,.im (.int .i64 t))],[(3,(true,.arr 2 1 ((Qmz i r l k.1).map intC)))],4⟩,fun k=>r.length - k.1,fun k=>⟨by simp[Qad.good,belT,belH,Qam,AV.bel,belL],by simp⟩,⟨⟨0,by simp⟩,?_⟩,fun k=> ?_⟩
  .simp(maxSteps:=9^9)(disch:=omega)only[ZZ,simprocAttr,rch,YaD,sub,Qmz]
  obtain⟨k,hk1⟩:=k;have hnl:=Qkb (i:Int) r l k;simp(maxSteps:=9^9)(disch:=omega)only[ZZ,simprocAttr,rch,YaD,sub,Qal,hr,hnl,Qdj];refine⟨hi,fun r' hr' hr1=> ?_⟩;subst hr';refine⟨fun hk=>⟨hi,fun r' hr'=> ?_⟩,fun hk=>⟨⟨i+1,by omega⟩,by simp only;omega,by rw[Qak (by omega) (by omega)];simp only;omega,?_⟩⟩
  .subst hr';refine⟨hk,fun v hv=> ?_⟩;obtain⟨v1,v2⟩:=hrm v (Zae hv);refine⟨v1,by omega,by omega,fun _ _=>⟨⟨k+1,by omega⟩,by simp only;omega,by rw[Qak (by omega) (by omega)];simp only;omega,?_⟩⟩;simp only[Qmz,hv,Zad]
  .have:k=r.length:=by omega
   simp only[Qjt,hr,Zad,<-hl,this]
 .have hie:i=gs.length:=by omega
  subst hie;obtain⟨nm,hnm⟩: ∃nm,nm=Qjt gs (List.replicate n 0) gs.length:=⟨_,rfl⟩;have hnl:nm.length=n:=by rw[hnm,Qij,ZbL]
  simp only[<-hnm];refine Qay.ren ⟨{k:Nat//k<=bs.length},fun k=>⟨[(15,.im (.int .i64 k.1)),(14,.own 5),(11,.own 3),(10,.im (.sl false 1 (gs.map Qcd))),(0,.im (.int .i64 n)),(1,.im (.sl false 3 (bs.map Bond.c))),(2,.im (.int .i64 t))],[(5,(true,.arr 193 3 ((Qck nm (bs.take k.1)).map Bond.c))),(3,(true,.arr 2 1 (nm.map intC)))],6⟩,fun k=>bs.length - k.1,fun k=>⟨by simp[Qad.good,belT,belH,Qam,AV.bel,belL],by simp⟩,⟨⟨0,by simp⟩,[(5,some 4)],?_⟩,fun k=> ?_⟩
  .simp only[subP];simp(maxSteps:=9^9)(disch:=omega)only[ZZ,simprocAttr,rch,YaD,Zah,Zag];rfl
  obtain⟨k,hk1⟩:=k;have hsl:=Qjq nm (bs.take k);rw[Zav] at hsl;simp(maxSteps:=9^9)(disch:=omega)only[ZZ,simprocAttr,rch,YaD,sub,Qal,Qag,Qac,Qaf,allD,D.one,Zbn,Zcn,Zdk];intro _;refine⟨fun hk=>⟨hk,fun b hb=> ?_⟩,fun hk=> ?_⟩
  .obtain⟨b1,b2,b3,b4⟩:=hbs b (Zae hb);refine⟨b1,by omega,by omega,fun x hx=>⟨hk,fun b' hb'=> ?_⟩⟩;rw[hb] at hb';obtain rfl:=Zaa hb';refine⟨b3,by omega,by omega,fun y hy=> ?_⟩;have e1:nmOf nm b.A=x:=by simp only[nmOf,hx,Zad]
   have e2:nmOf nm b.B=y:=by simp only[nmOf,hy,Zad]
   have hsu:=Qvc nm hb;rw[e1,e2] at hsu;refine⟨fun hxy=>⟨hk,fun b' hb'=>⟨by omega,⟨k+1,by omega⟩,[(5,some 7)],by simp only;omega,?_⟩⟩,fun hxy=>⟨⟨k+1,by omega⟩,[(5,some 5)],by simp only;omega,?_⟩⟩
   .rw[hb] at hb';obtain rfl:=Zaa hb';simp only[subP];simp(maxSteps:=9^9)(disch:=omega)only[ZZ,simprocAttr,rch,YaD,Zah,Zag,hsu];rw[Qak (by omega) (by omega),Zai hxy];simp[Bond.c]
   .simp only[subP];simp(maxSteps:=9^9)(disch:=omega)only[ZZ,simprocAttr,rch,YaD,Zah,Zag,hsu];rw[Qak (by omega) (by omega),Zak (ZaY.1 hxy),ZaK];simp
  .have:k=bs.length:=by omega
   subst this;rw[Zbx];intro _;simp only[shrN,Qd2,Qoz,Zam,<-hgs,<-hnm]
theorem Qk5(s:Qaa): ∀(l:List Glue) (i:Nat),Qb7 s i l=true-> ∀g∈l,1<=g.Strength/\g.Strength<=4
 |[],_,_,_,h=>by cases h
 |x::r,i,h,g,hg=>by
  simp only[Qb7,Zaf,Qau,Zan] at h;rcases Zax.1 hg with rfl|hg
  .exact⟨h.1.2.1.1,h.1.2.1.2⟩
  .exact Qk5 s r _ h.2 g hg
theorem Qlf(s:Qaa): ∀(l:List Tile) (i:Nat),Qby s i l=true-> ∀t∈l,t.Sides.length=4/\ ∀g∈t.Sides,0<=g/\g<=s.Glues.length
 |[],_,_,_,h=>by cases h
 |x::r,i,h,t,ht=>by
  simp only[Qby,Zaf,Zan,ZaL,Qau] at h;rcases Zax.1 ht with rfl|ht
  .exact⟨h.1.2.1,fun g hg=>⟨(h.1.2.2.2 g hg).1,(h.1.2.2.2 g hg).2⟩⟩
  .exact Qlf s r _ h.2 t ht
theorem Qge{s:Qaa}(h:Qcl s=true):setP s:=by
 simp only[Qcl,Zaf,Zan] at h;exact⟨by omega,Qlf s _ _ h.2.2,Qk5 s _ _ h.2.1⟩
theorem Qdg{s:Qaa}{a:Asm}(h:Qcp s a=true):Qn7 s a/\a.Tiles.length<=500:=by
 simp only[Qcp,Zaf,Zan,ZaL,Qau] at h;exact⟨⟨h.1.1,fun x hx=>⟨(h.2 x hx).1,by have:=(h.2 x hx).2;omega⟩⟩,h.1.2⟩
theorem step_ne(p:Qae)(d:Int):Qf7 p d≠p:=by
 intro h;have hx:(Qf7 p d).X=p.X:=by rw[h]
 have hy:(Qf7 p d).Y=p.Y:=by rw[h]
 simp only[Qf7] at hx hy;split at hx
 .rename_i h0;rw[Zak h0] at hy;simp only at hy;omega
 .rename_i h0;rw[Zai h0] at hy;split at hx
  .simp only at hx;omega
  .rename_i h1;rw[Zai h1] at hy;split at hx
   .rename_i h2;rw[Zak h2] at hy;simp only at hy;omega
   .simp only at hx;omega
theorem nbA_ne(a:Asm)(i:Nat)(d:Int)(hi:i<a.Tiles.length):nbA a i d≠i:=by
 intro h;rcases Qep (fun x=>decide (x.At=Qf7 ((a.Tiles[(i:Int).toNat]?.map Qab.At).getD ⟨0,0⟩) d)) a.Tiles 0 with ⟨_,h2⟩|⟨j,x,h1,h2,h3⟩
 .simp only[nbA,h2] at h;omega
 .simp only[nbA,h2,ZbO] at h;have hji:j=i:=by omega
  subst hji
  have:=Zcp h1
  simp only[Zan,Zam,h3,ZaT,Zad] at this;exact step_ne _ _ this.symm
def bndP(n:Int)(b:Bond):Prop:=(0<=b.A/\b.A<n/\0<=b.B/\b.B<n)/\b.A≠b.B/\0<b.Strength/\b.Strength<=4
theorem bndOf_P{s:Qaa}(hs:setP s)(a:Asm)(i:Nat)(hi:i<a.Tiles.length)(d:Int): ∀b∈Qs7 s a i d,bndP a.Tiles.length b:=by
 intro b hb;simp only[Qs7] at hb;split at hb
 .rename_i h0;split at hb
  .rename_i h1;rw[Zat] at hb;subst hb;have h2:=nbA_lt a i d;have h3:=nbA_ne a i d hi;have h4:Qfn s (Qda a i) d (Qda a (nbA a i d))<=4:=by
    simp only[Qfn];split
    .exact (Qp1 hs _).2
    .omega
   exact⟨⟨by simp only;omega,by simp only;omega,h0,h2⟩,fun h=>h3 h.symm,h1,h4⟩
  .simp at hb
 .simp at hb
theorem Qzz{s:Qaa}(hs:setP s)(a:Asm)(i:Nat)(hi:i<a.Tiles.length): ∀k,∀b∈Qez s a i k,bndP a.Tiles.length b
 |0,b,h=>by simp[Qez] at h
 |k+1,b,h=>by
  simp only[Qez,Zar] at h;rcases h with h|h
  .exact Qzz hs a i hi k b h
  .exact bndOf_P hs a i hi _ b h
theorem Qro{s:Qaa}(hs:setP s)(a:Asm): ∀k,k<=a.Tiles.length-> ∀b∈Qel s a k,bndP a.Tiles.length b
 |0,_,b,h=>by simp[Qel] at h
 |k+1,hk,b,h=>by
  simp only[Qel,Zar] at h;rcases h with h|h
  .exact Qro hs a k (by omega) b h
  .exact Qzz hs a k (by omega) _ b h
theorem nmRow_b(g:Int)(r:List Int)(m:Int)(h0:0<=g)(hg:g<m)(l:List Int)(hl: ∀x∈l,0<=x/\x<m): ∀k,∀x∈Qmz g r l k,0<=x/\x<m
 |0=>hl
 |k+1=>by
  intro x hx;simp only[Qmz] at hx;rcases Zcf hx with hx|hx
  .exact nmRow_b g r m h0 hg l hl k x hx
  .omega
theorem nmAll_b(gs:List (List Int))(l:List Int)(hl: ∀x∈l,0<=x/\x<(gs.length:Int)): ∀i,i<=gs.length-> ∀x∈Qjt gs l i,0<=x/\x<(gs.length:Int)
 |0,_=>hl
 |i+1,hi=>nmRow_b _ _ _ (by omega) (by omega) _ (nmAll_b gs l hl i (by omega)) _
theorem Qy8{n:Nat}{gs:List (List Int)}(hg:0<gs.length)(v:Int):0<=nmOf (Qoz n gs) v/\nmOf (Qoz n gs) v<(gs.length:Int):=by
 simp only[nmOf];cases h:(Qoz n gs)[v.toNat]? with
 |none=>simp;omega
 |some x=>
  rw[Zad];exact nmAll_b gs _ (fun x hx=>by have:=ZbC hx;omega) _ (Zal _) x (Zae h)
theorem Qvw{n:Nat}{gs:List (List Int)}(hg:0<gs.length): ∀(bs:List Bond),(∀b∈bs,0<b.Strength/\b.Strength<=4)-> ∀b∈Qck (Qoz n gs) bs,bndP gs.length b
 |[],_,b,h=>by simp[Qck] at h
 |x::r,hs,b,h=>by
  simp only[Qck] at h;have ih:=Qvw (n:=n) hg r (fun y hy=>hs y (Zas _ hy)) b;split at h
  .exact ih h
  .rename_i hne;rcases Zax.1 h with rfl|h
   .have h1:=Qy8 (n:=n) hg x.A;have h2:=Qy8 (n:=n) hg x.B;have h3:=hs x (Zau ..);refine⟨?_,?_,h3.1,h3.2⟩
    .simp only[minI,maxI]
     split<;>split<;>omega
    .simp only[minI,maxI]
     split<;>split<;>omega
   .exact ih h
theorem shr_pre{n:Int}{bs:List Bond}{t:Int}(hb: ∀b∈bs,bndP n b)(hl:bs.length<=1000000)(h0:0<(shrN n bs t).1)(h1:(shrN n bs t).1<=64):Qhu (shrN n bs t)/\Qmw (shrN n bs t).2:=by
 have hP:=Qvw (n:=n.toNat) (gs:=Qd2 n bs t) (by simp only[shrN] at h0;omega) bs (fun b hb'=>⟨(hb b hb').2.2.1,(hb b hb').2.2.2⟩);have hl2:=Qjq (Qoz n.toNat (Qd2 n bs t)) bs;refine⟨⟨by omega,by omega,by simp only[shrN];omega,fun b hb'=>(hP b hb').1,fun b hb'=>(hP b hb').2.1⟩,fun b hb'=> ?_⟩
 have:=(hP b hb').2.2
 omega
def Qx2(s:Qaa)(a:Asm)(t:Int):Bool×Int:=
 if 64<(shrN a.Tiles.length (Qel s a a.Tiles.length) t).1 then (false,4)
 else if (shrN a.Tiles.length (Qel s a a.Tiles.length) t).1<2 then (true,0)
 else (decide (t<=(Qem (shrN a.Tiles.length (Qel s a a.Tiles.length) t).1 (shrN a.Tiles.length (Qel s a a.Tiles.length) t).2 ((shrN a.Tiles.length (Qel s a a.Tiles.length) t).1 - 1).toNat).1),0)
def l07Stable.fv(a:Qaa×Asm×Int):Bool×Int:=(Qx2) (a.1) (a.2.1) (a.2.2)
def l07Stable.row:Row:=vK (b3 (qP 2 Qaa.d_le) (qP 1 Asm.d_le) qI) (r2 rB rI) (fun a=>setP a.1/\Qn7 a.1 a.2.1/\a.2.1.Tiles.length<=500) l07Stable.fv
def l07Stable.q:=vKq (R:=l07Stable.row) rfl
theorem l07Stable.ok:Qas Tryz.prog 62 l07Stable.row:=by
 refine vw (tC l06Bonds.ok (tC shrunk.ok (tC weakC.ok tN))) Tryz.func62 rfl (by kernel_rfl) ?_;intro a hpre;simp only[Tryz.f62,Option.getD];simp(maxSteps:=9^9)(disch:=omega)only[ZZ,simprocAttr,rch,l07Stable.fv,l06Bonds.q,l06Bonds.fv,shrunk.q,shrunk.fv,weakC.q,weakC.fv];obtain⟨h1,h2,h3⟩:=hpre;have hP:=Qro h1 a.2.1 _ (Zal _);have hl:=Qh3 a.1 a.2.1 a.2.1.Tiles.length;refine⟨⟨h1,h2,by omega⟩,⟨by omega,fun b hb=>(hP b hb).1,by omega⟩,?_⟩;simp only[Qx2];split
 .rfl
 .rename_i c1;split
  .rfl
  .rename_i c2;obtain⟨p1,p2⟩:=shr_pre (t:=a.2.2) hP (by omega) (by omega) (by omega);exact⟨⟨p1,p2,by omega⟩,rfl⟩
def stabB(s:Qaa)(a:Asm)(t:Int):Bool:=(Qx2 s a t).1 && decide ((Qx2 s a t).2=0)
def Qjc(y:Qar):Bool:=Qcl y.Set && (Qcp y.Set y.Seed && (!y.Seed.Tiles.isEmpty && (Qau y.Temperature 1 16 && stabB y.Set y.Seed y.Temperature)))
def l08Ok.fv(a:Qar):Bool:=(Qjc) a
def l08Ok.row:Row:=vK (b1 (qP 4 Qar.d_le)) rB (fun a=>True) l08Ok.fv
def l08Ok.q:=vKq (R:=l08Ok.row) rfl
theorem l08Ok.ok:Qas Tryz.prog 39 l08Ok.row:=by
 refine vw (tC l02Ok.ok (tC l03Ok.ok (tC l07Temperature.ok (tC l07Stable.ok tN)))) Tryz.func39 rfl (by kernel_rfl) ?_;intro a hpre;simp only[Tryz.f39,Option.getD];simp(maxSteps:=9^9)(disch:=omega)only[ZZ,simprocAttr,rch,l08Ok.fv,l02Ok.q,l02Ok.fv,l03Ok.q,l03Ok.fv,l07Temperature.q,l07Temperature.fv,l07Stable.q,l07Stable.fv]
 split<;>rename_i c1
 .split<;>rename_i c2
  .have c3:Qcp a.Set a.Seed=true:=by
    simp only[Qcp,Zaf,Zan];exact c2
   split<;>rename_i c4
   .have c5:a.Seed.Tiles.isEmpty=false:=by
     rw[Zez];intro h;rw[h] at c4;simp at c4
    split<;>rename_i c6
    .simp only[Qjc,c6,Zaz,ZbX]
    .refine⟨⟨Qge c1,(Qdg c3).1,(Qdg c3).2⟩,?_⟩;rw[Zbb] at c6;simp only[Qjc,c1,c3,c5,c6,ZaD,ZcX,stabB]
     split<;>rename_i c7
     .rw[c7,ZaD]
     .rw[ZaO] at c7;rw[c7,Zaz]
   .have c5:a.Seed.Tiles=[]:=by
     have:=ZaY.1 c4
     exact ZcA (by omega)
    simp[Qjc,c5]
  .have c3:Qcp a.Set a.Seed=false:=by
    rw[Zck];intro h;simp only[Qcp,Zaf,Zan] at h;exact c2 h
   simp[Qjc,c3]
 .rw[ZaO] at c1;simp[Qjc,c1]
def Qch(b n:Nat):List (List AV):=(List.range n).map fun i=>[AV.own (b+i)]
def matH(b n:Nat)(M:List (List Int)):Qan:=famH b n (fun i=>(true,.arr 2 1 ((M[i]?.getD []).map intC)))
def exW(j:Nat):Bool:=Nat.blt j 3||((Nat.ble 100 j && Nat.blt j 164)||(Nat.ble 200 j && Nat.blt j 264))
def nwH(x:Nwk)(n:Nat):Qan:=(0,(true,.cells 248 [.own 1,.own 2]))::(1,(true,.arrA 32 1 (Qch 100 n)))::(2,(true,.arrA 32 1 (Qch 200 n)))::(matH 100 n x.Room++matH 200 n x.Flow)
def nwC.ca(a:Int×List Bond):List AV:=[.im (.int .i64 a.1),.im (.sl false 3 (a.2.map Bond.c))]
def nwC.H1(a:Int×List Bond):Qan:=nwH (netF a.1.toNat a.2) (min a.1.toNat 64)
def nwPre(a:Int×List Bond):Prop:=0<=a.1/\a.1<=64/\a.2.length<=1000000/\Qdm a.1 a.2/\Qmw a.2/\ ∀b∈a.2,b.A≠b.B
def nwC.row:Row:=orow nwC.ca (fun _=>[]) 0 nwPre (fun _=>false) (fun _=> .ptr 0 0) nwC.H1 320
theorem Qk6(m:Nat): ∀(a b:Qan),belH m (a++b)=(belH m a && belH m b)
 |[],b=>by simp[belH]
 |(i,(mu,e))::r,b=>by
  have ih:=Qk6 m r b;cases e<;>simp only[ZaJ,belH,ih,Zex]
theorem Qmd(m:Nat): ∀(a b:Qan),Qam m (a++b)=(Qam m a && Qam m b)
 |[],b=>by simp[Qam]
 |(i,(mu,e))::r,b=>by simp only[ZaJ,Qam,Qmd m r b,Zex]
theorem Qdv(b n N:Nat)(h:b+n<=N):(Qch b n).all (belL N)=true:=by
 rw[ZaL];intro r hr;obtain⟨i,hi,rfl⟩:=ZaM.1 hr
 have:=ZaR.1 hi
 simp[belL,AV.bel];omega
theorem Qkf(nx:Nat): ∀(l:List Nat),outN nx 0 l=true
 |[]=>rfl
 |x::r=>by
  have:(Nat.blt x nx||Nat.ble (nx+0) x)=true:=by
   rw[ZbV,Zcw,Zdn];omega
  simp only[outN,this,Qkf nx r,ZeY]
theorem Qbj(b n:Nat):(Qch b n).length=n:=by simp[Qch]
theorem Qo7(b n i:Nat)(h:i<n):(Qch b n)[i]? =some [.own (b+i)]:=by simp[Qch,Zce h]
theorem Qpf(a b:Qan):Qg1 (a++b)=Qg1 a++Qg1 b:=by
 induction a with
 |nil=>rfl
 |cons x r ih=>obtain⟨i,e⟩:=x;simp only[ZaJ,Qg1,ih]
theorem Qol(m:Nat): ∀(a b:Qan),hget (a++b) m=(hget a m).or (hget b m)
 |[],b=>by simp[hget]
 |(i,e)::r,b=>by
  have ih:=Qol m r b;simp only[ZaJ,hget];cases i==m<;>simp[ih]
theorem Qpw(b n:Nat)(M:List (List Int))(i:Nat)(h:i<n):hget (matH b n M) (b+i)=some (true,.arr 2 1 ((M[i]?.getD []).map intC)):=Qcy _ _ _ _ h
theorem Qwa(b n:Nat)(M:List (List Int))(m:Nat)(h:m<b\/b+n<=m):hget (matH b n M) m=none:=Qmh _ _ _ _ h
theorem Qe9(k:Nat)(M N:List (List Int))(i:Nat)(h:i<k):hget (matH 100 k M++matH 200 k N) (100+i)=some (true,.arr 2 1 ((M[i]?.getD []).map intC)):=by
 rw[Qol,Qpw _ _ _ _ h];rfl
theorem Qfe(k:Nat)(M N:List (List Int))(i:Nat)(hk:k<=100)(h:i<k):hget (matH 100 k M++matH 200 k N) (200+i)=some (true,.arr 2 1 ((N[i]?.getD []).map intC)):=by
 rw[Qol,Qwa _ _ _ _ (by omega),Qpw _ _ _ _ h];rfl
theorem Qxa(b n i:Nat)(K:List AV->Prop)(h:i<n):Qi9 (Qch b n) i K=K [.own (b+i)]:=by
 apply propext;unfold Qi9;rw[Qo7 b n i h];exact⟨fun h=>h _ rfl,fun h row hr=>by obtain rfl:=Zaa hr;exact h⟩
theorem Qg0(s:Qad): ∀(a b:Qan),subH s (a++b)=(subH s a/\subH s b)
 |[],b=>by simp[subH]
 |(i,e)::r,b=>by simp only[ZaJ,subH,Qg0 s r b,Zem]
theorem Qla(s:Qad)(b n:Nat)(M:List (List Int)):subH s (matH b n M)= ∀i,i<n->hget s.h (b+i)=some (true,.arr 2 1 ((M[i]?.getD []).map intC)):=by
 have: ∀(f:Nat->Ent) (l:List Nat),subH s (l.map fun i=>(b+i,f i))↔ ∀i∈l,hget s.h (b+i)=some (f i):=by
  intro f l;induction l with
  |nil=>simp[subH]
  |cons i r ih=>simp only[Zao,subH,ih,Zax,ZeG]
 apply propext;rw[matH,famH,this];simp only[ZaR]
theorem Qrm{n:Nat}{bs:List Bond}(hb:Qdm n bs)(hs:Qmw bs)(a b:Nat): ∀k,0<=rmF (netK n bs k) a b/\rmF (netK n bs k) a b<=2000000*(k:Int)
 |0=>by
  simp only[rmF,netK,netZ,Qf4,ZbB];split
  .rw[Zad,ZbB];split<;>simp
  .simp
 |k+1=>by
  have ih:=Qrm hb hs a b k;obtain⟨hok,_⟩:=Qhc hb k;simp only[rmF,netK] at ih⊢;split
  .rename_i x hx;obtain⟨b1,b2,b3,b4⟩:=hb x (Zae hx);have h0:=hs x (Zae hx);simp only[addB];rw[show x.A=(x.A.toNat:Int) by omega,show x.B=(x.B.toNat:Int) by omega];rw[Qe2 (n:=n) (by rw[Qdl];exact hok.r) (Qcw hok.rr _ _ _ (by rw[hok.r];simp;omega)) _ (by omega) (by omega),Qe2 hok.r hok.rr _ (by omega) (by omega)]
   split<;>split<;>omega
  .omega
theorem nw_nodup(k:Nat)(hk:k<=64):([0,1,2]++((List.range k).map (100+ ·)++(List.range k).map (200+ ·))).Nodup:=by
 rw[<-Zbt];refine Qet _ 200 k (Qet _ 100 k (by simp) (by simp)) ?_;intro x hx;rcases Zar.1 hx with hx|hx
 .simp at hx;omega
 .obtain⟨i,hi,rfl⟩:=ZaM.1 hx
  have:=ZaR.1 hi
  show 100+i<200;omega
theorem nw_lt(k:Nat)(hk:k<=64): ∀x∈([0,1,2]++((List.range k).map (100+ ·)++(List.range k).map (200+ ·))),x<300:=by
 intro x hx;rcases Zar.1 hx with hx|hx
 .simp at hx;omega
 .rcases Zar.1 hx with hx|hx<;>obtain⟨i,hi,rfl⟩:=ZaM.1 hx<;>have:=ZaR.1 hi
  .show 100+i<300;omega
  .show 200+i<300;omega
theorem Qyn{π:List (Nat×Option Nat)}{b:Nat}{g:Nat->Nat}{n:Nat}(h: ∀i,i<n->pm π (b+i)=some (g i)){R:List (List AV)}(hR:R=(List.range n).map fun i=>[AV.own (g i)]):mtR π (Qch b n) R:=by
 subst hR;rw[Ql2];refine⟨by simp[Qch],fun i x y hx hy=> ?_⟩;have hin:i<n:=by have:=(Zaj.1 hx).1;rwa [Qbj] at this
 rw[Qo7 _ _ _ hin] at hx;rw[ZaN,Zce hin] at hy;obtain rfl:=Zaa hx;obtain rfl:=Zaa hy;simp only[mtL,mt,h i hin,ownM,Zcn]
theorem Ql0(b k c:Nat):Qch b k++[[.own c]]=(List.range (k+1)).map fun i=>[AV.own (if i<k then b+i else c)]:=by
 rw[ZeN,ZbG,Qch];congr 1
 .exact ZcD fun i hi=>by rw[Zak (ZaR.1 hi)]
 .simp
theorem Qow(k:Nat)(M N:List (List Int))(hk:k<=64)(tm:List (Nat×AV))(ht:belT 300 tm=true):Qad.good ⟨tm,(0,(true,.cells 248 [.own 1,.own 2]))::(1,(true,.arrA 32 1 (Qch 100 k)))::(2,(true,.arrA 32 1 (Qch 200 k)))::(matH 100 k M++matH 200 k N),300⟩=true:=by
 simp only[Qad.good,belH,Qam,ht,ZaD,Qk6,Qmd,matH];rw[Qi1 _ _ _ (fun i=>rfl),Qi1 _ _ _ (fun i=>rfl),Qd8 _ _ _ _ (by omega),Qd8 _ _ _ _ (by omega),Qdv _ _ _ (by omega),Qdv _ _ _ (by omega)];rfl
theorem exW_lt(o:Nat)(h:exW o=true):o<264:=by
 simp only[exW,ZbV,Zaf,Zcw,Zdn] at h;omega
theorem exW_1(i:Nat)(h:i<64):exW (100+i)=true:=by
 simp only[exW,ZbV,Zaf,Zcw,Zdn];omega
theorem exW_2(i:Nat)(h:i<64):exW (200+i)=true:=by
 simp only[exW,ZbV,Zaf,Zcw,Zdn];omega
theorem Quc(h:Nat->Option Ent)(f:AV->Option AV): ∀(a b:Qan),Qhk h f (a++b)↔Qhk h f a/\Qhk h f b
 |[],b=>by simp[Qhk]
 |(i,e)::r,b=>by simp only[ZaJ,Qhk,Quc h f r b,Zem]
theorem Qoq(h:Nat->Option Ent)(f:AV->Option AV)(b n:Nat)(M:List (List Int))(H: ∀i,i<n->h (b+i)=some (true,.arr 2 1 ((M[i]?.getD []).map intC))):Qhk h f (matH b n M):=by
 have: ∀(l:List Nat),(∀i∈l,i<n)->Qhk h f (l.map fun i=>(b+i,(true,AObj.arr 2 1 ((M[i]?.getD []).map intC)))):=by
  intro l;induction l with
  |nil=>intro _;simp[Qhk]
  |cons i r ih=>
   intro hl;simp only[Zao,Qhk];refine⟨?_,ih (fun j hj=>hl j (Zas _ hj))⟩;rw[H i (hl i (Zau ..))];exact⟨rfl,rfl⟩
 exact this _ (fun i hi=>ZaR.1 hi)
theorem Quf{h:Nat->Option Ent}{kx:Nat->Option Nat}{m b n:Nat}(hk: ∀i,i<n->kx (b+i)=some (b+i)):mapO (mapO (cvt h kx (m+1))) (Qch b n)=some (Qch b n):=by
 refine Qnl (g:=fun i=>[AV.own (b+i)]) (k:=fun i=>[AV.own (b+i)]) _ fun i hi=> ?_
 simp only[mapO,cvt,hk i (ZaR.1 hi),kp]
theorem outOk_nw{x:Nwk}{n:Nat}(hn:n<=64){kx:Nat->Option Nat}(hk: ∀o,exW o=true->kx o=some o):Qhk (hget (nwH x n)) (cvt (hget (nwH x n)) kx 9) (nwH x n):=by
 have k1:kx 1=some 1:=hk 1 rfl;have k2:kx 2=some 2:=hk 2 rfl;obtain⟨H,hH⟩: ∃H,H=hget (nwH x n):=⟨_,rfl⟩;have g0:H 0=some (true,.cells 248 [.own 1,.own 2]):=by rw[hH];rfl
 have g1:H 1=some (true,.arrA 32 1 (Qch 100 n)):=by rw[hH];rfl
 have g2:H 2=some (true,.arrA 32 1 (Qch 200 n)):=by rw[hH];rfl
 have ga: ∀i,i<n->H (100+i)=some (true,.arr 2 1 ((x.Room[i]?.getD []).map intC)):=by
  intro i hi;rw[hH];simp only[nwH,hget,Qao _ _ (show 0≠100+i by omega),Qao _ _ (show 1≠100+i by omega),Qao _ _ (show 2≠100+i by omega),Zbc];exact Qe9 _ _ _ _ hi
 have gb: ∀i,i<n->H (200+i)=some (true,.arr 2 1 ((x.Flow[i]?.getD []).map intC)):=by
  intro i hi;rw[hH];simp only[nwH,hget,Qao _ _ (show 0≠200+i by omega),Qao _ _ (show 1≠200+i by omega),Qao _ _ (show 2≠200+i by omega),Zbc];exact Qfe _ _ _ _ (by omega) hi
 rw[<-hH];simp only[nwH,Qhk,Quc];refine⟨?_,?_,?_,Qoq _ _ _ _ _ ga,Qoq _ _ _ _ _ gb⟩
 .rw[g0];exact⟨rfl,by simp only[cvtE,mapO,cvt,k1,k2,kp];rfl⟩
 .rw[g1];exact⟨rfl,by simp only[cvtE];rw[Quf (fun i hi=>hk _ (exW_1 i (by omega)))];rfl⟩
 .rw[g2];exact⟨rfl,by simp only[cvtE];rw[Quf (fun i hi=>hk _ (exW_2 i (by omega)))];rfl⟩
theorem nwH_mem{x:Nwk}{n:Nat}(hn:n<=64){p:Nat×Ent}(hp:p∈nwH x n):exW p.1=true/\p.2.1=true:=by
 simp only[nwH,Zax,Zar,matH,famH,ZaM,ZaR] at hp;rcases hp with rfl|rfl|rfl|⟨i,hi,rfl⟩|⟨i,hi,rfl⟩
 .exact⟨rfl,rfl⟩
 .exact⟨rfl,rfl⟩
 .exact⟨rfl,rfl⟩
 .exact⟨exW_1 i (by omega),rfl⟩
 .exact⟨exW_2 i (by omega),rfl⟩
theorem nw_mem{a:Int×List Bond}{p:Nat×Ent}(hp:p∈nwC.H1 a):exW p.1=true/\p.2.1=true:=nwH_mem (ZdJ _ _) hp
theorem nwC.ok:Qas Tryz.prog 147 nwC.row:=by
 refine ow tN Tryz.func147 rfl (by kernel_rfl) (exB:=exW) (R:=fun _ r=>r= .ptr 0 0) (fun _=>rfl)
  (fun a=>by simp[nwC.ca,exW,belL,AV.bel,belH,Qam,Qc2,AObj.nms,nmsL,AV.nms,domB,hget]) (fun a p hp=> ?_) (fun a r h=>by subst h;exact LeV.refl _) ?_
 rotate_left
 intro a hpre;simp only[Tryz.f147,Option.getD,nwC.ca,exW];simp(maxSteps:=9^9)(disch:=omega)only[ZZ,simprocAttr,rch,ORB,nwC.ca,exW];obtain⟨h0,h1,hl,hbs,hst,hne⟩:=hpre;obtain⟨n,hn⟩: ∃n:Nat,a.1=n:=⟨a.1.toNat,by omega⟩;obtain⟨bs,hbsd⟩: ∃bs,bs=a.2:=⟨_,rfl⟩;simp only[<-hbsd] at hl hbs hst hne;rw[hn] at h0 h1 hbs;have hH1:nwC.H1 a=nwH (netF n bs) n:=by simp only[nwC.H1,hn,Zam,hbsd];rw[ZeQ (by omega)]
 rw[hH1];clear hH1;simp only[hn,<-hbsd];refine Qay.ren ⟨{k:Nat//k<=n},fun k=>⟨[(11,.im (.int .i64 k.1)),(10,.im (.int .i64 n)),(5,.ptr 0 0),(0,.im (.int .i64 n)),(1,.im (.sl false 3 (bs.map Bond.c)))],(0,(true,.cells 248 [.own 1,.own 2]))::(1,(true,.arrA 32 1 (Qch 100 k.1)))::(2,(true,.arrA 32 1 (Qch 200 k.1)))::(matH 100 k.1 (List.replicate n (List.replicate n 0))++matH 200 k.1 (List.replicate n (List.replicate n 0))),300⟩,fun k=>n - k.1,fun k=>⟨?_,by simp⟩,⟨⟨0,by simp⟩,[(1,none),(2,none)],?_⟩,fun k=> ?_⟩
 .exact Qow _ _ _ (by omega) _ (by simp[belT,AV.bel])
 .simp only[subP,matH,famH,Qch,List.range_zero,ZaV,ZaK];simp(maxSteps:=9^9)(disch:=omega)only[ZZ,simprocAttr,rch,ORB,nwC.ca,exW,Zah,Zag]
 obtain⟨k,hk1⟩:=k;simp(maxSteps:=9^9)(disch:=omega)only[ZZ,simprocAttr,rch,ORB,nwC.ca,exW,sub,Qal,Qba,Qkf,Zfd,ZdP,ZcF,List.all_nil,Qdv,Qbj];refine⟨fun hk=>⟨by omega,by omega,by omega,by omega,⟨k+1,by omega⟩,[(1,some 302),(2,some 305),(100+k,some 300),(200+k,some 303)],by simp only;omega,?_⟩,fun hk=> ?_⟩
 .have hg: ∀i,i<n->(List.replicate n (List.replicate n (0:Int)))[i]?.getD []=List.replicate n 0:=by
   intro i hi;rw[ZbB,Zak hi,Zad]
  have q100: ∀i,i<k->pm [(1,some 302),(2,some 305),(100+k,some 300),(200+k,some 303)] (100+i)=some (100+i):=by
   intro i hi;simp only[pm];rw[Zai (by omega),Zai (by omega),Zai (by omega),Zai (by omega)]
  have q200: ∀i,i<k->pm [(1,some 302),(2,some 305),(100+k,some 300),(200+k,some 303)] (200+i)=some (200+i):=by
   intro i hi;simp only[pm];rw[Zai (by omega),Zai (by omega),Zai (by omega),Zai (by omega)]
  have k100:pm [(1,some 302),(2,some 305),(100+k,some 300),(200+k,some 303)] (100+k)=some 300:=by
   simp only[pm];rw[Zai (by omega),Zai (by omega),Zak trivial]
  have k200:pm [(1,some 302),(2,some 305),(100+k,some 300),(200+k,some 303)] (200+k)=some 303:=by
   simp only[pm];rw[Zai (by omega),Zai (by omega),Zai (by omega),Zak trivial]
  have q0:pm [(1,some 302),(2,some 305),(100+k,some 300),(200+k,some 303)] 0=some 0:=by
   simp only[pm];rw[Zai (by omega),Zai (by omega),Zai (by omega),Zai (by omega)]
  have q1:pm [(1,some 302),(2,some 305),(100+k,some 300),(200+k,some 303)] 1=some 302:=rfl;have q2:pm [(1,some 302),(2,some 305),(100+k,some 300),(200+k,some 303)] 2=some 305:=rfl;obtain⟨π,hπ⟩: ∃π,π=[(1,some 302),(2,some 305),(100+k,some 300),(200+k,some 303)]:=⟨_,rfl⟩;rw[<-hπ] at q100 q200 k100 k200 q0 q1 q2⊢;refine⟨by rw[hπ];exact⟨by omega,by omega,by omega,by omega,trivial⟩,?_,?_,?_⟩
  .rw[Qi7,hπ];simp only[Qg1,Qpf,matH,Qe0];refine Ql1 _ _ (nw_nodup (k+1) (by omega)) ?_;intro x hx y hy m hm1 hm2;have hx3:=nw_lt (k+1) (by omega) x hx;have hy3:=nw_lt (k+1) (by omega) y hy;simp only[pm] at hm1 hm2
   repeat' split at hm1
   all_goals repeat' split at hm2
   all_goals simp only[Zab] at hm1 hm2
   all_goals omega
  .simp only[Qpt,tget];simp(maxSteps:=9^9)(disch:=omega)only[ZZ,simprocAttr,rch,ORB,nwC.ca,exW,q0];rw[Qak (by omega) (by omega)];omega
  .simp only[Qgb,Qns,matH,Qgn];refine⟨?_,?_,?_,fun i hi=> ?_,fun i hi=> ?_⟩
   .simp(maxSteps:=9^9)(disch:=omega)only[ZZ,simprocAttr,rch,ORB,nwC.ca,exW,q0,q1,q2]
   .simp(maxSteps:=9^9)(disch:=omega)only[ZZ,simprocAttr,rch,ORB,nwC.ca,exW,q0,q1,q2];refine Qyn (g:=fun i=>if i<k then 100+i else 300) (fun i hi=> ?_) (Ql0 100 k 300);by_cases h:i<k
    .rw[Zak h,q100 i h]
    .rw[Zai h,show i=k by omega,k100]
   .simp(maxSteps:=9^9)(disch:=omega)only[ZZ,simprocAttr,rch,ORB,nwC.ca,exW,q0,q1,q2];refine Qyn (g:=fun i=>if i<k then 200+i else 303) (fun i hi=> ?_) (Ql0 200 k 303);by_cases h:i<k
    .rw[Zak h,q200 i h]
    .rw[Zai h,show i=k by omega,k200]
   .by_cases h:i<k
    .rw[q100 i h,hg i (by omega)];simp only[entN,hget,Qao _ _ (show 0≠100+i by omega),Qao _ _ (show 305≠100+i by omega),Qao _ _ (show 303≠100+i by omega),Qao _ _ (show 302≠100+i by omega),Qao _ _ (show 300≠100+i by omega),Zbc,Qeg];have h9:=Qe9 k (List.replicate n (List.replicate n 0)) (List.replicate n (List.replicate n 0)) i h;simp only[matH] at h9;simp (disch:=omega) only[ZcG,ZcN,Qao,ZcE,ZaB,ZbJ,h9,hg,entM,mtE,Zcn]
    .rw[show i=k by omega,k100,hg k (by omega)];simp(maxSteps:=9^9)(disch:=omega)only[ZZ,simprocAttr,rch,ORB,nwC.ca,exW,Qot]
   .by_cases h:i<k
    .rw[q200 i h,hg i (by omega)];simp only[entN,hget,Qao _ _ (show 0≠200+i by omega),Qao _ _ (show 305≠200+i by omega),Qao _ _ (show 303≠200+i by omega),Qao _ _ (show 302≠200+i by omega),Qao _ _ (show 300≠200+i by omega),Zbc,Qeg];have h9:=Qfe k (List.replicate n (List.replicate n 0)) (List.replicate n (List.replicate n 0)) i (by omega) h;simp only[matH] at h9;simp (disch:=omega) only[ZcG,ZcN,Qao,ZcE,ZaB,ZbJ,h9,hg,entM,mtE,Zcn]
    .rw[show i=k by omega,k200,hg k (by omega)];simp(maxSteps:=9^9)(disch:=omega)only[ZZ,simprocAttr,rch,ORB,nwC.ca,exW,Qot]
 .intro _;have hkn:k=n:=by omega
  subst hkn;clear hk hk1;refine Qay.old ⟨{j:Nat//j<=bs.length},fun j=>⟨[(38,.im (.int .i64 j.1)),(37,.im (.int .i64 bs.length)),(36,.im (.sl false 3 (bs.map Bond.c))),(5,.ptr 0 0)],(0,(true,.cells 248 [.own 1,.own 2]))::(1,(true,.arrA 32 1 (Qch 100 k)))::(2,(true,.arrA 32 1 (Qch 200 k)))::(matH 100 k (netK k bs j.1).Room++matH 200 k (netK k bs j.1).Flow),300⟩,fun j=>bs.length - j.1,fun j=>⟨?_,by simp⟩,⟨⟨0,by simp⟩,?_⟩,fun j=> ?_⟩
  .exact Qow _ _ _ (by omega) _ (by simp[belT,AV.bel])
  .simp only[sub,subT,subH,tget,hget,Qg0];simp(maxSteps:=9^9)(disch:=omega)only[ZZ,simprocAttr,rch,ORB,nwC.ca,exW,sub,Qg0,Qla,netK,netZ];refine⟨fun i hi=> ?_,fun i hi=> ?_⟩
   .rw[Zai (by omega),Zai (by omega),Zai (by omega)];exact Qe9 _ _ _ _ hi
   .rw[Zai (by omega),Zai (by omega),Zai (by omega)];exact Qfe _ _ _ _ (by omega) hi
  obtain⟨j,hj⟩:=j;obtain⟨hok,_⟩:=Qhc hbs j;obtain⟨x,hx⟩: ∃x,x=netK k bs j:=⟨_,rfl⟩;simp only[<-hx] at hok⊢;simp(maxSteps:=9^9)(disch:=omega)only[ZZ,simprocAttr,rch,ORB,nwC.ca,exW,sub,Qal,Qba,Qbj];refine⟨fun hj2=>⟨hj2,fun b hb=> ?_⟩,fun hj2=> ?_⟩
  .obtain⟨b1,b2,b3,b4⟩:=hbs b (Zae hb);have hbne:=hne b (Zae hb);have hbs2:=hst b (Zae hb);obtain⟨u,hu⟩: ∃u:Nat,b.A=u:=⟨b.A.toNat,by omega⟩;obtain⟨v,hv⟩: ∃v:Nat,b.B=v:=⟨b.B.toNat,by omega⟩;have hux:u<k:=by omega
   have hvx:v<k:=by omega
   have huv:u≠v:=by omega
   simp only[hu,hv,Zam];refine⟨by omega,by omega,by omega,?_⟩;have hr: ∀i,i<k->(x.Room[i]?.getD []).length=k:=by
    intro i hi;rw[Zac (by rw[hok.r];exact hi),Zad];exact hok.rr _ (Zcq _)
   have hru:=hr u hux;have hrv:=hr v hvx;simp(maxSteps:=9^9)(disch:=omega)only[ZZ,simprocAttr,rch,ORB,nwC.ca,exW,sub,Qal,Qjf,Qba,Qbj,Qao,Qce,Qe9,hu,hv,Zam,hru,hrv,Qxa,Qdj,ZbN,Zfd,Qg0,Qla];have hb1:=Qrm hbs hst u v j;have hb2:=Qrm hbs hst v u j;rw[<-hx] at hb1 hb2;refine⟨by omega,hvx,by omega,hvx,fun x1 e1=>⟨hvx,by omega,hvx,fun x2 _=>⟨.inr (by omega),hvx,hvx,by omega,hux,by omega,hux,fun x3 e3=>⟨hux,by omega,hux,fun x4 _=>⟨.inr (by omega),⟨j+1,by omega⟩,by simp only;omega,by rw[Qak (by omega) (by omega)];simp only;omega,?_⟩⟩⟩⟩⟩;have r1:rmF x u v=x1:=by simp only[rmF,Qf4,e1,Zad]
   have r3:rmF x v u=x3:=by simp only[rmF,Qf4,e3,Zad]
   rw[r1] at hb1;rw[r3] at hb2;rw[Qak (by omega) (by omega),Qak (by omega) (by omega)];have hN:netK k bs (j+1)=addB x b:=by simp only[netK,hb,<-hx]
   have hR: ∀i,i<k->(netK k bs (j+1)).Room[i]?.getD []=if v=i then (x.Room[v]?.getD []).set u (x3+b.Strength) else if u=i then (x.Room[u]?.getD []).set v (x1+b.Strength) else x.Room[i]?.getD []:=by
    intro i hi;rw[hN];simp only[addB,Qft,hu,hv,Zam];by_cases h1:v=i
    .subst h1;rw[Zak rfl,ZaE (by rw[ZbN,hok.r];exact hvx),Zad,ZaH huv,e3,Zad]
    .rw[Zai h1,ZaH h1];by_cases h2:u=i
     .subst h2;rw[Zak rfl,ZaE (by rw[hok.r];exact hux),Zad,e1,Zad]
     .rw[Zai h2,ZaH h2]
   have hF:(netK k bs (j+1)).Flow=x.Flow:=by rw[hN];rfl
   refine⟨fun i hi=> ?_,fun i hi=> ?_⟩
   .rw[hR i hi];by_cases h1:v=i
    .subst h1;rw[Zak rfl,Zak rfl]
    .rw[Zai (by omega),Zai h1];by_cases h2:u=i
     .subst h2;rw[Zak rfl,Zak rfl]
     .rw[Zai (by omega),Zai h2,Zai (by omega)];exact Qe9 _ _ _ _ hi
   .rw[Zai (by omega),hF];exact Qfe _ _ _ _ (by omega) hi
  .have hje:j=bs.length:=by omega
   subst hje;rw[hx];exact outOk_nw (x:=netF k bs) (n:=k) (by omega) (fun o ho=>by
    have h1:(domB [] o||(exW o && (Nat.ble 0 o && Nat.blt o (0+320))))=true:=by
     have h2:=exW_lt o ho;simp[ho];omega
    simp only[kxB,h1,Zbl])
 rcases nw_mem hp with ⟨h1,h2⟩
 have hlt:=exW_lt p.1 h1;exact .inr ⟨by omega,by omega,h1,h2⟩
structure nwIn(H:Nat->Option Ent)(x:Nwk)(n:Nat):Prop where
 g0:H 0=some (true,.cells 248 [.own 1,.own 2])
 g1:H 1=some (true,.arrA 32 1 (Qch 100 n))
 g2:H 2=some (true,.arrA 32 1 (Qch 200 n))
 ga: ∀i,i<n->H (100+i)=some (true,.arr 2 1 ((x.Room[i]?.getD []).map intC))
 gb: ∀i,i<n->H (200+i)=some (true,.arr 2 1 ((x.Flow[i]?.getD []).map intC))
theorem rows_all{M:List (List Int)}{n:Nat}(h:M.length=n):(List.range n).map (fun i=>Qcd (M[i]?.getD []))=M.map Qcd:=by
 apply Zci;intro i;rw[ZaN,ZaN];by_cases hi:i<n
 .rw[Zce hi,Zac (by omega:i<M.length)];simp only[ZaT,Zac (show i<M.length by omega),Zad]
 .rw[ZaZ (by simp;omega),ZaZ (by omega)];rfl
theorem nw_rows{H:Nat->Option Ent}{m b o n:Nat}{M:List (List Int)}(hl:M.length=n)(h1:H o=some (true,.arrA 32 1 (Qch b n)))(h2: ∀i,i<n->H (b+i)=some (true,.arr 2 1 ((M[i]?.getD []).map intC))):
 bk H (m+2) (.own o)=some (.sl false 1 (M.map Qcd)):=by
 simp only[bk,h1,Qwz];rw[Qch,Qnl (f:=mapO (bk H (m+1))) (g:=fun i=>[AV.own (b+i)]) (k:=fun i=>Qcd (M[i]?.getD [])),rows_all hl]
 .rfl
 .intro i hi;simp only[mapO,bk,h2 i (ZaR.1 hi),Qwz];rfl
theorem nw_read{H:Nat->Option Ent}{x:Nwk}{n:Nat}(h:nwIn H x n)(hok:Qjx x n)(a b:D):pkFL H [.ptr 0 0,.im a,.im b]=some [.ptr (Nwk.c x),pkI a,pkI b]:=by
 have e1:=nw_rows (m:=6) hok.r h.g1 h.ga;have e2:=nw_rows (m:=6) hok.f h.g2 h.gb;simp only[pkFL,pkF,h.g0,Qu4,ZbQ,mapO,e1,e2,pkFP,ZaT,Qabo];rfl
theorem way_call{H:Nat->Option Ent}{x:Nwk}{n nx:Nat}{K:Kont}(h:nwIn H x n)(hok:Qjx x n)(hn:n<=1000){p q:Int}(hp0:0<=p)(hp1:p<n)(hq0:0<=q)(hq1:q<n)
 (hK: ∀U,K (.im (.sl true 1 ((wayN x n p q).map intC))) {use:=U}):wayC.row [.ptr 0 0,.im (.int .i64 p),.im (.int .i64 q)] H nx K:=by
 have hr:=hok.r;rw[wayC.q,nw_read h hok];have e:Nwk.d ((Nwk.c x).take 2)=some x:=Nwk.d_c x;simp only[Qct,b3,qP,qI,a3,kP,kI,pkI,e,ZbD,decK];refine⟨⟨hr▸hok,by omega,hp0,by omega,hq0,by omega⟩,?_⟩;have e2:wayC.re (wayC.fv (x,p,q))= .sl true 1 ((wayN x n p q).map intC):=by simp only[wayC.re,wayC.fv,hr]
 rw[e2];exact hK _
def sndC.n(a:Nwk×Int×Int×Int):Nat:=min a.1.Room.length 64
def Qpd(n:Nat)(p q:Int):Nat->Nwk->Nwk
 |0,x=>x
 |m+1,x=>if wayN x n p q=[] then x else Qpd n p q m (Qgo x (wayN x n p q) ((wayN x n p q).length - 1))
def sndC.ca(a:Nwk×Int×Int×Int):List AV:=[.ptr 0 0,.im (.int .i64 a.2.1),.im (.int .i64 a.2.2.1),.im (.int .i64 a.2.2.2)]
def sndC.H0(a:Nwk×Int×Int×Int):Qan:=nwH a.1 (sndC.n a)
def sndC.H1(a:Nwk×Int×Int×Int):Qan:=matH 200 (sndC.n a) (Qpd (sndC.n a) a.2.1 a.2.2.1 a.2.2.2.toNat a.1).Flow
def sndC.r0(a:Nwk×Int×Int×Int):AV:= .im (.int .i64 (Qeq (sndC.n a) a.2.1 a.2.2.1 a.2.2.2.toNat a.1))
structure sndPre(a:Nwk×Int×Int×Int):Prop where
 n:a.1.Room.length<=64
 ok:Qjx a.1 a.1.Room.length
 p0:0<=a.2.1
 p1:a.2.1<a.1.Room.length
 q0:0<=a.2.2.1
 q1:a.2.2.1<a.1.Room.length
 pq:a.2.1≠a.2.2.1
 m0:0<=a.2.2.2
 m1:a.2.2.2<=1000000
 fl: ∃v,Qh5 (rmF a.1) (flF a.1) a.1.Room.length a.2.1.toNat a.2.2.1.toNat v
 rm: ∀u v,rmF a.1 u v<=10000000000000
def klF(j:Nat):Bool:=Nat.ble 200 j && Nat.blt j 264
def sndC.row:Row:=orow sndC.ca sndC.H0 300 sndPre klF sndC.r0 sndC.H1 10
theorem sndC.hbel(a:Nwk×Int×Int×Int):belL 300 (sndC.ca a)=true:=rfl
theorem sndC.n_le(a:Nwk×Int×Int×Int):sndC.n a<=64:=ZdJ _ _
theorem Qaak(x:Nwk)(n:Nat)(hn:n<=64):belH 300 (nwH x n)=true/\Qam 300 (nwH x n)=true:=by
 have:=Qow n x.Room x.Flow hn [] rfl
 simp only[Qad.good,Zaf] at this;exact this.2
theorem sndC.hbH(a:Nwk×Int×Int×Int):belH 300 (sndC.H0 a)=true:=(Qaak _ _ (sndC.n_le a)).1
theorem sndC.hkH(a:Nwk×Int×Int×Int):Qam 300 (sndC.H0 a)=true:=(Qaak _ _ (sndC.n_le a)).2
theorem Qji(x:Nwk)(n:Nat)(hn:n<=64):nwIn (hget (nwH x n)) x n:=by
 refine⟨rfl,rfl,rfl,fun i hi=> ?_,fun i hi=> ?_⟩
 .simp only[nwH,hget,Qao _ _ (show 0≠100+i by omega),Qao _ _ (show 1≠100+i by omega),Qao _ _ (show 2≠100+i by omega),Zbc];exact Qe9 _ _ _ _ hi
 .simp only[nwH,hget,Qao _ _ (show 0≠200+i by omega),Qao _ _ (show 1≠200+i by omega),Qao _ _ (show 2≠200+i by omega),Zbc];exact Qfe _ _ _ _ (by omega) hi
theorem Qvt(H0:Qan): ∀(a b:Qan),Qc2 H0 (a++b)↔Qc2 H0 a/\Qc2 H0 b
 |[],b=>by simp[Qc2]
 |(i,(mu,e))::r,b=>by simp only[ZaJ,Qc2,Qvt H0 r b,Zem]
theorem Qud(H0:Qan)(b n:Nat)(M:List (List Int)):Qc2 H0 (matH b n M):=by
 have: ∀(l:List Nat),Qc2 H0 (l.map fun i=>(b+i,(true,AObj.arr 2 1 ((M[i]?.getD []).map intC)))):=by
  intro l;induction l with
  |nil=>simp[Qc2]
  |cons i r ih=>simp only[Zao,Qc2];exact⟨fun m hm=>by simp[AObj.nms] at hm,ih⟩
 exact this _
theorem Qu6(b n:Nat): ∀m∈nmsR (Qch b n),∃i,i<n/\m=b+i:=by
 have: ∀(l:List Nat),(∀i∈l,i<n)-> ∀m∈nmsR (l.map fun i=>[AV.own (b+i)]),∃i,i<n/\m=b+i:=by
  intro l;induction l with
  |nil=>intro _ m hm;simp[nmsR] at hm
  |cons i r ih=>
   intro hl m hm;simp only[Zao,nmsR,nmsL,AV.nms,ZaK,Zar,Zat] at hm;rcases hm with rfl|hm
   .exact⟨i,hl i (Zau ..),rfl⟩
   .exact ih (fun j hj=>hl j (Zas _ hj)) m hm
 exact this _ (fun i hi=>ZaR.1 hi)
theorem nwH_nms(x:Nwk)(n:Nat)(hn:n<=64):Qc2 (nwH x n) (nwH x n):=by
 have hI:=Qji x n hn;have hd: ∀o e,hget (nwH x n) o=some e->domB (nwH x n) o=true:=fun o e h=>by simp only[domB,h];rfl
 obtain⟨H,hH⟩: ∃H,H=nwH x n:=⟨_,rfl⟩;rw[<-hH] at hI hd;rw[show Qc2 (nwH x n) (nwH x n)=Qc2 H (nwH x n) by rw[hH]];simp only[nwH,Qc2,Qvt];refine⟨fun m hm=> ?_,fun m hm=> ?_,fun m hm=> ?_,Qud _ _ _ _,Qud _ _ _ _⟩
 .simp only[AObj.nms,nmsL,AV.nms,ZaK,Zar,Zat] at hm;rcases hm with rfl|rfl
  .exact hd _ _ hI.g1
  .exact hd _ _ hI.g2
 .obtain⟨i,hi,rfl⟩:=Qu6 100 n m hm;exact hd _ _ (hI.ga i hi)
 .obtain⟨i,hi,rfl⟩:=Qu6 200 n m hm;exact hd _ _ (hI.gb i hi)
theorem subH_nw{s:Qad}{x:Nwk}{n:Nat}(h:nwIn (hget s.h) x n):subH s (nwH x n):=by
 simp only[nwH,subH,Qg0,Qla];exact⟨h.g0,h.g1,h.g2,h.ga,h.gb⟩
theorem roB_app(h:Nat->Option Ent)(f:Nat->Bool): ∀(a b:Qan),roB h f (a++b)↔roB h f a/\roB h f b
 |[],b=>by simp[roB]
 |(i,e)::r,b=>by simp only[ZaJ,roB,roB_app h f r b,Zem]
theorem klF_2(i:Nat)(h:i<64):klF (200+i)=true:=by
 simp only[klF,Zaf,Zdn,Zcw];omega
theorem Qxi(h:Nat->Option Ent)(f:Nat->Bool)(b:Nat)(g:Nat->Ent)(n:Nat)(H: ∀i,i<n->f (b+i)=true\/h (b+i)=some (g i)):roB h f (famH b n g):=by
 have: ∀(l:List Nat),(∀i∈l,i<n)->roB h f (l.map fun i=>(b+i,g i)):=by
  intro l;induction l with
  |nil=>intro _;trivial
  |cons i r ih=>
   intro hl;simp only[Zao,roB];refine⟨?_,ih (fun j hj=>hl j (Zas _ hj))⟩;rcases H i (hl i (Zau ..)) with h1|h1
   .rw[h1];trivial
   .cases f (b+i)
    .exact h1
    .trivial
 exact this _ (fun i hi=>ZaR.1 hi)
theorem roB_mat1{h:Nat->Option Ent}{n:Nat}(hn:n<=64){M:List (List Int)}(H: ∀i,i<n->h (100+i)=some (true,.arr 2 1 ((M[i]?.getD []).map intC))):roB h klF (matH 100 n M):=Qxi _ _ _ _ _ (fun i hi=> .inr (H i hi))
theorem roB_mat2{h:Nat->Option Ent}{n:Nat}(hn:n<=64){M:List (List Int)}:roB h klF (matH 200 n M):=Qxi _ _ _ _ _ (fun i hi=> .inl (klF_2 i (by omega)))
theorem sndC.hnm(a:Nwk×Int×Int×Int):Qc2 (sndC.H0 a) (sndC.H0 a):=nwH_nms _ _ (sndC.n_le a)
theorem sndC.ok:Qas Tryz.prog 148 sndC.row:=by
 refine ow (tC wayC.ok tN) Tryz.func148 rfl (by kernel_rfl) (exB:=fun _=>false) (R:=fun a r=>r=sndC.r0 a) (fun _=>rfl)
  (fun a=>⟨sndC.hbel a,sndC.hbH a,sndC.hkH a,sndC.hnm a⟩) (fun a p hp=> ?_) (fun a r h=>by subst h;exact LeV.refl _) ?_
 rotate_left
 intro a hpre;simp only[Tryz.f148,Option.getD,sndC.ca];simp(maxSteps:=9^9)(disch:=omega)only[ZZ,simprocAttr,rch,ORB,sndC.ca];obtain⟨x,p,q,mo⟩:=a;obtain⟨hn,hok,hp0,hp1,hq0,hq1,hpq,hm0,hm1,hfl,hrm⟩:=hpre;simp only at hn hok hp0 hp1 hq0 hq1 hpq hm0 hm1 hfl hrm;obtain⟨n,hnn⟩: ∃n,n=x.Room.length:=⟨_,rfl⟩;obtain⟨M,hM⟩: ∃M:Nat,mo=M:=⟨mo.toNat,by omega⟩;subst hM;have hsn: ∀y:Int×Int×Int,sndC.n (x,y)=n:=fun y=>by simp only[sndC.n,<-hnn];omega
 simp only[sndC.H1,sndC.r0,sndC.H0,hsn,Zam,nwH,Qba];rw[<-hnn] at hn hok hp1 hq1 hfl;refine Qay.old ⟨{s:Nat×Nwk//s.1<=M/\Qjx s.2 n/\s.2.Room=x.Room/\(∃v,Qh5 (rmF x) (flF s.2) n p.toNat q.toNat v)/\Qeq n p q M x=Qeq n p q (M - s.1) s.2+s.1/\Qpd n p q M x=Qpd n p q (M - s.1) s.2},fun s=>⟨[(9,.im (.int .i64 s.1.1)),(0,.ptr 0 0),(1,.im (.int .i64 p)),(2,.im (.int .i64 q)),(3,.im (.int .i64 M))],nwH s.1.2 n,300⟩,fun s=>M - s.1.1,fun s=>⟨?_,by simp⟩,⟨⟨(0,x),by simp only;omega,hok,rfl,hfl,by simp,by simp⟩,?_⟩,fun s=> ?_⟩
 .simp only[nwH];exact Qow _ _ _ hn _ (by simp[belT,AV.bel])
 .simp only[sub,subT,tget];refine⟨?_,?_⟩
  .simp(maxSteps:=9^9)(disch:=omega)only[ZZ,simprocAttr,rch,ORB,sndC.ca]
  .exact subH_nw (Qji x n hn)
 obtain⟨⟨k,y⟩,i1,i2,i3,i4,i5,i6⟩:=s;simp only at i1 i2 i3 i4 i5 i6;simp only[nwH];simp(maxSteps:=9^9)(disch:=omega)only[ZZ,simprocAttr,rch,ORB,sndC.ca,Qba];refine way_call (Qji y n hn) i2 (by omega) hp0 hp1 hq0 hq1 (fun U=> ?_);obtain⟨L,hL⟩: ∃L,L=wayN y n p q:=⟨_,rfl⟩;rw[<-hL];simp(maxSteps:=9^9)(disch:=omega)only[ZZ,simprocAttr,rch,ORB,sndC.ca,Qba,sub,Qal];have hret:(Qeq n p q (M - k) y=0)->(Qpd n p q (M - k) y=y)->(((bif klF 0 then True else True)/\(bif klF 1 then True else True)/\(bif klF 2 then True else True)/\roB (hget (nwH y n)) klF (matH 100 n x.Room++matH 200 n x.Flow))/\(k:Int)=Qeq n p q M x/\ ∀kx,Qhk (hget (nwH y n)) (cvt (hget (nwH y n)) kx 9) (matH 200 n (Qpd n p q M x).Flow)):=by
  intro e1 e2;have hI:=Qji y n hn;refine⟨⟨trivial,trivial,trivial,(roB_app _ _ _ _).2 ⟨roB_mat1 hn (fun i hi=>by rw[hI.ga i hi,i3]),roB_mat2 hn⟩⟩,by omega,fun kx=> ?_⟩;rw[i6,e2];exact Qoq _ _ _ _ _ hI.gb
 have hLe:(L.map intC).isEmpty=L.isEmpty:=by cases L<;>rfl
 rw[hLe];refine⟨fun c1=>⟨fun c2=> ?_,fun c2=> ?_⟩,fun c1=> ?_⟩
 .obtain⟨g1,g2,g3⟩:=hret (by rw[show M - k=0 by omega];rfl) (by rw[show M - k=0 by omega];rfl);exact⟨g1,g2,g3 _⟩
 .have hLn:L≠[]:=by intro h;rw[h] at c1;cases c1
  have hW:isWay y n p q L:=by rw[hL];exact way_is hp0 hp1 hq0 hq1 (by rw[<-hL];exact hLn)
  have hpos:=hW.pos;obtain⟨v,hv⟩:=i4;have hLs: ∀i,i<L.length-> ∃w:Nat,L[i]? =some (w:Int)/\w<n:=by
   intro i hi
   have:=hW.inb _ (Zcq hi)
   refine⟨(L[i]).toNat,by rw[Zac hi];congr 1;omega,by omega⟩
  refine Qay.old ⟨{j:Nat//j+1<=L.length},fun j=>⟨[(11,.im (.int .i64 ((j.1:Int)+1))),(10,.im (.sl true 1 (L.map intC))),(9,.im (.int .i64 k)),(0,.ptr 0 0),(1,.im (.int .i64 p)),(2,.im (.int .i64 q)),(3,.im (.int .i64 M))],nwH (Qgo y L j.1) n,300⟩,fun j=>L.length - j.1,fun j=>⟨?_,by simp⟩,⟨⟨0,by omega⟩,?_⟩,fun j=> ?_⟩
  .simp only[nwH];exact Qow _ _ _ hn _ (by simp[belT,AV.bel])
  .simp only[sub,subT,tget];refine⟨?_,?_⟩
   .simp(maxSteps:=9^9)(disch:=omega)only[ZZ,simprocAttr,rch,ORB,sndC.ca]
   .exact subH_nw (Qji y n hn)
  obtain⟨j,hj⟩:=j;have hzok:=Qm6 i2 hW.inb j (by omega);obtain⟨z,hz⟩: ∃z,z=Qgo y L j:=⟨_,rfl⟩;simp only[<-hz] at hzok⊢;simp only[nwH];have ej:((j:Int)+1).toNat=j+1:=by omega
  simp(maxSteps:=9^9)(disch:=omega)only[ZZ,simprocAttr,rch,ORB,sndC.ca,Qba,sub,Qal,Qbj];intro hlim;have ew:IntKind.i64.wrap ((j:Int)+1 - 1)=j:=by rw[Qak (by omega) (by omega)];omega
  have ew2:IntKind.i64.wrap ((j:Int)+1+1)=(j:Int)+1+1:=Qak (by omega) (by omega);simp only[ew,Zam];refine⟨fun hj2=> ?_,fun hj2=> ?_⟩
  .obtain⟨u,hLu,hu⟩:=hLs j (by omega);obtain⟨w,hLw,hw⟩:=hLs (j+1) (by omega);have huw:u≠w:=by
    intro h
    have:=hW.nd j (j+1) (by omega) (by omega) (by simp only[Lf,hLu,hLw,h])
    omega
   have hr: ∀i,i<n->(z.Flow[i]?.getD []).length=n:=by
    intro i hi;rw[Zac (by rw[hzok.f];exact hi),Zad];exact hzok.ff _ (Zcq _)
   have hru:=hr u hu;have hrw:=hr w hw;simp only[hLu,Zab,forall_eq'];simp(maxSteps:=9^9)(disch:=omega)only[ZZ,simprocAttr,rch,ORB,sndC.ca,sub,Qal,Qjf,Qba,Qbj,Qao,Qce,Qfe,ew,ew2,ej,hLu,hLw,Zab,forall_eq',hru,hrw,Qxa,Qdj,ZbN,Zfd,Qg0,Qla];have hb: ∀a b,a<n->b<n-> -10000000000002<=flF z a b/\flF z a b<=10000000000002:=by
    intro a b ha hb;have h1:=Qso i2 hW.inb a b j (by omega);have h2:=Qr1 (L:=Lf L) (m:=L.length - 1) (fun i j hi hj=>hW.nd i j (by omega) (by omega)) a b j (by omega);have h3:=Qr1 (L:=Lf L) (m:=L.length - 1) (fun i j hi hj=>hW.nd i j (by omega) (by omega)) b a j (by omega);have h4:=Qfb (Lf L) a b j;have h5:=Qfb (Lf L) b a j;have h6:=hv.cap a b ha hb;have h7:=hv.cap b a hb ha;have h8:=hv.anti a b ha hb;have h9:=hrm a b;have h10:=hrm b a;rw[<-hz] at h1;simp only[flF] at*;omega
   have hb1:=hb u w hu hw;have hb2:=hb w u hw hu;refine⟨by omega,hu,hu,by omega,by omega,by omega,hw,by omega,hw,fun x1 e1=>⟨hw,by omega,hw,fun _ _=>⟨.inr (by omega),by omega,by omega,hw,hw,by omega,by omega,hu,by omega,hu,fun x3 e3=>⟨hu,by omega,hu,fun _ _=>⟨.inr (by omega),⟨j+1,by omega⟩,by simp only;omega,by simp only;omega,?_⟩⟩⟩⟩⟩;have r1:flF z u w=x1:=by simp only[flF,Qf4,e1,Zad]
   have r3:flF z w u=x3:=by simp only[flF,Qf4,e3,Zad]
   rw[r1] at hb1;rw[r3] at hb2;rw[Qak (by omega) (by omega),Qak (by omega) (by omega)];have hN:Qgo y L (j+1)=Qaba z u w:=by simp only[Qgo,hLu,hLw,Zad,<-hz]
   have hR: ∀i,i<n->(Qgo y L (j+1)).Flow[i]?.getD []=if w=i then (z.Flow[w]?.getD []).set u (x3 - 1) else if u=i then (z.Flow[u]?.getD []).set w (x1+1) else z.Flow[i]?.getD []:=by
    intro i hi;rw[hN];simp only[Qaba,Qft,Zam];by_cases h1:w=i
    .subst h1;rw[Zak rfl,ZaE (by rw[ZbN,hzok.f];exact hw),Zad,ZaH huw,e3,Zad];rfl
    .rw[Zai h1,ZaH h1];by_cases h2:u=i
     .subst h2;rw[Zak rfl,ZaE (by rw[hzok.f];exact hu),Zad,e1,Zad]
     .rw[Zai h2,ZaH h2]
   have hF:(Qgo y L (j+1)).Room=z.Room:=by rw[hN];rfl
   refine⟨fun i hi=> ?_,fun i hi=> ?_⟩
   .rw[Zai (by omega),Zai (by omega)];show _=some (true,AObj.arr _ 1 (List.map intC ((Qgo y L (j+1)).Room[i]?.getD [])));rw[hF];exact Qe9 _ _ _ _ hi
   .show _=some (true,AObj.arr _ 1 (List.map intC ((Qgo y L (j+1)).Flow[i]?.getD [])));rw[hR i hi];by_cases h1:w=i
    .subst h1;rw[Zak rfl,Zak rfl]
    .rw[Zai (by omega),Zai h1];by_cases h2:u=i
     .subst h2;rw[Zak rfl,Zak rfl]
     .rw[Zai (by omega),Zai h2];exact Qfe _ _ _ _ (by omega) hi
  .have hje:j=L.length - 1:=by omega
   subst hje;obtain⟨m,hm⟩: ∃m,M - k=m+1:=⟨M - k - 1,by omega⟩;have hne: ¬wayN y n p q=[]:=by rw[<-hL];exact hLn
   have e5:Qeq n p q (m+1) y=Qeq n p q m z+1:=by simp only[Qeq];rw[Zai hne,<-hL,<-hz]
   have e6:Qpd n p q (m+1) y=Qpd n p q m z:=by simp only[Qpd];rw[Zai hne,<-hL,<-hz]
   rw[hm] at i5 i6;have hfl2:=(Qun i2 hp0 hp1 hpq hq0 (v:=v) (by rw[show rmF y=rmF x by funext a b;simp only[rmF,i3]];exact hv) hW).2;have hz3:z.Room=x.Room:=by rw[hz,Ql3,i3]
   rw[show rmF y=rmF x by funext a b;simp only[rmF,i3],<-hz] at hfl2;refine⟨⟨(k+1,z),by simp only;omega,hzok,hz3,⟨_,hfl2⟩,by simp only;rw[show M - (k+1)=m by omega];omega,by simp only;rw[show M - (k+1)=m by omega,i6,e6]⟩,by simp only;omega,?_⟩;refine⟨by rw[Qak (by omega) (by omega)];simp only;omega,?_⟩;simp only[Qg0,Qla];exact⟨(Qji z n hn).ga,(Qji z n hn).gb⟩
 .have hLn:L=[]:=by
   cases L with
   |nil=>rfl
   |cons a r=>exact absurd rfl c1
  have hw:wayN y n p q=[]:=by rw[<-hL,hLn]
  have z1: ∀m,Qeq n p q m y=0:=by
   intro m;cases m with
   |zero=>rfl
   |succ m=>simp only[Qeq];rw[Zak hw]
  have z2: ∀m,Qpd n p q m y=y:=by
   intro m;cases m with
   |zero=>rfl
   |succ m=>simp only[Qpd];rw[Zak hw]
  obtain⟨g1,g2,g3⟩:=hret (z1 _) (z2 _);exact⟨g1,g2,g3 _⟩
 simp only[sndC.H1,matH,famH,ZaM,ZaR] at hp;obtain⟨i,hi,rfl⟩:=hp;have h64:=sndC.n_le a;refine .inl ⟨by omega,by simp only[klF,Zaf,Zdn,Zcw];omega,?_⟩;simp only[domB,sndC.H0];rw[(Qji a.1 (sndC.n a) h64).gb i hi];rfl
theorem Qwi(h:Nat->Option Ent)(σ:Nat->Nat): ∀(a b:Qan),Qer h σ (a++b)↔Qer h σ a/\Qer h σ b
 |[],b=>by simp[Qer]
 |(i,(mu,e))::r,b=>by simp only[ZaJ,Qer,Qwi h σ r b,Zem]
theorem Qt1{h:Nat->Option Ent}{σ:Nat->Nat}{b n:Nat}{M:List (List Int)}(H: ∀i,i<n->h (σ (b+i))=some (true,.arr 2 1 ((M[i]?.getD []).map intC))):Qer h σ (matH b n M):=by
 have: ∀(l:List Nat),(∀i∈l,i<n)->Qer h σ (l.map fun i=>(b+i,(true,AObj.arr 2 1 ((M[i]?.getD []).map intC)))):=by
  intro l;induction l with
  |nil=>intro _;trivial
  |cons i r ih=>
   intro hl;simp only[Zao,Qer];exact⟨H i (hl i (Zau ..)),ih (fun j hj=>hl j (Zas _ hj))⟩
 exact this _ (fun i hi=>ZaR.1 hi)
theorem Qth{σ:Nat->Nat}{b n:Nat}{M:List (List Int)}(H: ∀i,i<n->σ (b+i)=b+i):renH σ (matH b n M)=matH b n M:=by
 have: ∀(l:List Nat),(∀i∈l,i<n)->renH σ (l.map fun i=>(b+i,(true,AObj.arr 2 1 ((M[i]?.getD []).map intC))))=l.map fun i=>(b+i,(true,AObj.arr 2 1 ((M[i]?.getD []).map intC))):=by
  intro l;induction l with
  |nil=>intro _;rfl
  |cons i r ih=>
   intro hl;simp only[Zao,renH];rw[H i (hl i (Zau ..)),ih (fun j hj=>hl j (Zas _ hj))];rfl
 exact this _ (fun i hi=>ZaR.1 hi)
theorem Qj9{σ:Nat->Nat}{b n:Nat}(H: ∀i,i<n->σ (b+i)=b+i):(Qch b n).map (renL σ)=Qch b n:=by
 simp only[Qch,ZdY];refine ZcD fun i hi=> ?_
 simp only[Function.comp,renL,AV.ren,H i (ZaR.1 hi)]
theorem Qzq(σ:Nat->Nat): ∀(a b:Qan),renH σ (a++b)=renH σ a++renH σ b
 |[],b=>rfl
 |(i,(mu,e))::r,b=>by simp only[ZaJ,renH,Qzq σ r b]
theorem renH_nw{σ:Nat->Nat}{x:Nwk}{n:Nat}(hn:n<=64)(H: ∀j,j<300->σ j=j):renH σ (nwH x n)=nwH x n:=by
 simp only[nwH,renH,Qzq,AObj.ren,renL,AV.ren,H 0 (by omega),H 1 (by omega),H 2 (by omega),Qj9 (b:=100) (n:=n) (fun i hi=>H (100+i) (by omega)),Qj9 (b:=200) (n:=n) (fun i hi=>H (200+i) (by omega)),Qth (b:=100) (n:=n) (fun i hi=>H (100+i) (by omega)),Qth (b:=200) (n:=n) (fun i hi=>H (200+i) (by omega))]
theorem nw_dom{x:Nwk}{n:Nat}(hn:n<=64){j:Nat}(h:domB (nwH x n) j=true):j<264/\(200<=j-> ∃i,i<n/\j=200+i)/\j∈[0,1,2]++((List.range n).map (100+ ·)++(List.range n).map (200+ ·)):=by
 have hm:j∈[0,1,2]++((List.range n).map (100+ ·)++(List.range n).map (200+ ·)):=by
  have: ∀(H:Qan),domB H j=true->j∈Qg1 H:=by
   intro H;induction H with
   |nil=>intro h;simp[domB,hget] at h
   |cons e r ih=>
    obtain⟨i,e⟩:=e;intro h;simp only[domB,hget] at h;simp only[Qg1,Zax];by_cases hij:i=j
    .exact .inl hij.symm
    .have:(i==j)=false:=by simpa using hij
     rw[this] at h;exact .inr (ih h)
  have h2:=this _ h;simp only[nwH,Qg1,Qpf,matH,Qe0] at h2;simpa using h2
 refine⟨?_,fun h200=> ?_,hm⟩
 .have:=nw_lt n hn j hm
  rcases Zar.1 hm with hm|hm
  .simp at hm;omega
  .rcases Zar.1 hm with hm|hm<;>obtain⟨i,hi,rfl⟩:=ZaM.1 hm<;>have:=ZaR.1 hi
   .show 100+i<264;omega
   .show 200+i<264;omega
 .rcases Zar.1 hm with hm|hm
  .simp at hm;omega
  .rcases Zar.1 hm with hm|hm<;>obtain⟨i,hi,rfl⟩:=ZaM.1 hm<;>have:=ZaR.1 hi
   .have h3:200<=100+i:=h200;omega
   .exact⟨i,this,rfl⟩
theorem newOk_mat{kill:List Nat}{nx cnt b n:Nat}{M:List (List Int)}(H: ∀i,i<n->kill.contains (b+i)=true/\b+i<nx):Qpx kill nx cnt (matH b n M)=true:=by
 have: ∀(l:List Nat),(∀i∈l,i<n)->Qpx kill nx cnt (l.map fun i=>(b+i,(true,AObj.arr 2 1 ((M[i]?.getD []).map intC))))=true:=by
  intro l;induction l with
  |nil=>intro _;rfl
  |cons i r ih=>
   intro hl;simp only[Zao,Qpx,newIn,Zaf,ZbV,Zdn,Zcw];exact⟨.inr (H i (hl i (Zau ..))),ih (fun j hj=>hl j (Zas _ hj))⟩
 exact this _ (fun i hi=>ZaR.1 hi)
theorem snd_call{H:Nat->Option Ent}{x:Nwk}{nx:Nat}{K:Kont}{p q mo:Int}(hH:nwIn H x x.Room.length)(hpre:sndPre (x,p,q,mo))(hnx:300<=nx)
 (hK: ∀E:Eff,E.cnt=10->E.ok nx (.im (.int .i64 (Qeq x.Room.length p q mo.toNat x)))=true->K (.im (.int .i64 (Qeq x.Room.length p q mo.toNat x))) E):sndC.row [.ptr 0 0,.im (.int .i64 p),.im (.int .i64 q),.im (.int .i64 mo)] H nx K:=by
 have hn:x.Room.length<=64:=hpre.n;have hsn:sndC.n (x,p,q,mo)=x.Room.length:=by simp only[sndC.n];omega
 have hσ: ∀j,j<300->sgx (fun j=>j) 300 nx j=j:=fun j hj=>Zak hj
 refine⟨(x,p,q,mo),fun j=>j,[0,1,2]++((List.range x.Room.length).map (100+ ·)++(List.range x.Room.length).map (200+ ·)),(List.range x.Room.length).map (200+ ·),hpre,?_,?_,?_,?_⟩
 .simp only[sndC.ca,renL,AV.ren,hσ 0 (by omega)]
 .simp only[sndC.H0,hsn,nwH,Qer,Qwi,AObj.ren,renL,AV.ren,hσ 0 (by omega),hσ 1 (by omega),hσ 2 (by omega),Qj9 (b:=100) (n:=x.Room.length) (fun i hi=>hσ (100+i) (by omega)),Qj9 (b:=200) (n:=x.Room.length) (fun i hi=>hσ (200+i) (by omega))];exact⟨hH.g0,hH.g1,hH.g2,Qt1 (fun i hi=>by rw[hσ _ (by omega)];exact hH.ga i hi),Qt1 (fun i hi=>by rw[hσ _ (by omega)];exact hH.gb i hi)⟩
 .have hd: ∀j,domB (sndC.H0 (x,p,q,mo)) j=true->domB (nwH x x.Room.length) j=true:=fun j h=>by simpa only[sndC.H0,hsn] using h
  refine⟨fun i j _ _ h=>h,fun j hj=> ?_,fun j hj=>(nw_dom hn (hd j hj)).2.2,fun m hm=> ?_,fun j hj hk=> ?_⟩
  .have:=(nw_dom hn (hd j hj)).1
   omega
  .obtain⟨i,hi,rfl⟩:=ZaM.1 hm
   have:=ZaR.1 hi
   refine⟨200+i,?_,klF_2 i (by omega),rfl⟩;simp only[domB,sndC.H0,hsn];rw[(Qji x _ hn).gb i this];rfl
  .simp only[klF,Zaf,Zdn,Zcw] at hk;obtain⟨i,hi,rfl⟩:=(nw_dom hn (hd j hj)).2.1 hk.1;exact ZaM.2 ⟨i,ZaR.2 hi,rfl⟩
 .have e:(sndC.r0 (x,p,q,mo)).ren (sgx (fun j=>j) 300 nx)= .im (.int .i64 (Qeq x.Room.length p q mo.toNat x)):=by simp only[sndC.r0,hsn,AV.ren]
  rw[e];refine hK _ rfl ?_;simp only[Eff.ok,AV.bel,ZaD,sndC.H1,hsn];rw[Qth (fun i hi=>hσ _ (by omega)),Zaf];refine⟨Qi1 _ _ _ (fun i=>rfl) _,newOk_mat fun i hi=>⟨?_,by omega⟩⟩;rw[Zbr];exact ZaM.2 ⟨i,ZaR.2 hi,rfl⟩
theorem Qu2(cnt:Nat): ∀(H:Qan),(∀p∈H,p.1<cnt)->Qpx [] 0 cnt H=true
 |[],_=>rfl
 |(i,e)::r,h=>by
  have h1:=h (i,e) (Zau ..);simp only at h1;simp only[Qpx,newIn,Qu2 cnt r (fun p hp=>h p (Zas _ hp)),Zbn,ZbV,Zaf,Zdn,Zcw];exact .inl ⟨by omega,by omega⟩
theorem nw_effok{x:Nwk}{n:Nat}(r:AV)(hn:n<=64)(hr:r.bel 320=true){use:List Nat}:Eff.ok {use:=use,kill:=[],new:=nwH x n,cnt:=320} 0 r=true:=by
 simp only[Eff.ok,ZbO,hr,ZaD,Zaf];refine⟨?_,Qu2 _ _ fun p hp=>by have:=exW_lt _ (nwH_mem hn hp).1;omega⟩;simp only[nwH,belH,Qk6,matH];rw[Qi1 _ _ _ (fun i=>rfl),Qi1 _ _ _ (fun i=>rfl),Qdv _ _ _ (by omega),Qdv _ _ _ (by omega)];rfl
theorem Qt8(n:Nat)(bs:List Bond)(t:Int)(k:Nat)(h:Qid n bs t k=false): ∀m,Qid n bs t (k+m)=false
 |0=>h
 |m+1=>by rw[show k+(m+1)=k+m+1 by omega,Qid,Qt8 n bs t k h m,Zaz]
def Qwj(n:Int)(bs:List Bond)(t:Int):Bool:=Qid n.toNat bs t (n.toNat - 1)
def holds_.fv(a:Int×(List Bond)×Int):Bool:=(Qwj) (a.1) (a.2.1) (a.2.2)
def holds_.row:Row:=vK (b3 qI (qS Bond.d_le Bond.c_n) qI) rB (fun a=>nwPre (a.1,a.2.1)/\0<=a.2.2/\a.2.2<=1000000) holds_.fv
def holds_.q:=vKq (R:=holds_.row) rfl
theorem holds_.ok:Qas Tryz.prog 135 holds_.row:=by
 refine vw (tC nwC.ok (tC sndC.ok tN)) Tryz.func135 rfl (by kernel_rfl) ?_;intro a hpre;simp only[Tryz.f135,Option.getD];simp(maxSteps:=9^9)(disch:=omega)only[ZZ,simprocAttr,rch,holds_.fv];obtain⟨hp,ht0,ht1⟩:=hpre;obtain⟨h0,h1,hl,hbs,hst,hne⟩:=hp;simp only at h0 h1 hl hbs hst hne;obtain⟨n,hn⟩: ∃n:Nat,a.1=n:=⟨a.1.toNat,by omega⟩;obtain⟨bs,hbsd⟩: ∃bs,bs=a.2.1:=⟨_,rfl⟩;obtain⟨t,ht⟩: ∃t,t=a.2.2:=⟨_,rfl⟩;simp only[hn,<-hbsd,<-ht,Qwj,Zam] at h0 h1 hl hbs hst hne ht0 ht1⊢;have hpre2:nwPre ((n:Int),bs):=⟨h0,h1,hl,hbs,hst,hne⟩;refine Qay.old ⟨{k:Nat//(k=0\/k+1<=n)/\Qid n bs t k=true},fun k=>⟨[(7,.im (.int .i64 ((k.1:Int)+1))),(0,.im (.int .i64 n)),(1,.im (.sl false 3 (bs.map Bond.c))),(2,.im (.int .i64 t))],[],0⟩,fun k=>n - k.1,fun k=>⟨by simp[Qad.good,belT,belH,Qam,AV.bel,belL],by simp⟩,⟨⟨0,.inl rfl,rfl⟩,by simp(maxSteps:=9^9)(disch:=omega)only[ZZ,simprocAttr,rch,holds_.fv,sub]⟩,fun k=> ?_⟩;obtain⟨k,hk1,hk2⟩:=k;simp(maxSteps:=9^9)(disch:=omega)only[ZZ,simprocAttr,rch,holds_.fv,sub,Qal];refine⟨fun hk=> ?_,fun hk=> ?_⟩
 .refine orow.os ((n:Int),bs) [] hpre2 (fun j=>by simp[domB,hget]) rfl rfl ?_ ?_
  .simp(maxSteps:=9^9)(disch:=omega)only[ZZ,simprocAttr,rch,holds_.fv,nwC.ca,Zbg]
  .have e1:renH (sgx (osn []) 0 0) (nwC.H1 ((n:Int),bs))=nwH (netF n bs) n:=by
    simp only[nwC.H1,Zam];rw[ZeQ (by omega)];exact renH_nw (by omega) (fun j _=>by simp[sgx])
   rw[e1];refine⟨nw_effok _ (by omega) rfl,?_⟩;simp(maxSteps:=9^9)(disch:=omega)only[ZZ,simprocAttr,rch,holds_.fv,sub,Qal,Qba,ZaK];have hr:(netF n bs).Room.length=n:=(Qhc hbs bs.length).1.r;have hI:=Qji (netF n bs) n (by omega);rw[show hget (nwH (netF n bs) n)=hget (nwH (netF n bs) n) from rfl];refine snd_call (x:=netF n bs) (by rw[hr];exact hI) ?_ (by omega) (fun E hE1 hE2=> ?_)
   .refine⟨by simp only;omega,by simp only[hr];exact (Qhc hbs bs.length).1,by simp,by simp only[hr];omega,by simp only;omega,by simp only[hr];omega,by simp only;omega,ht0,ht1,⟨0,by simp only[hr];exact Qaae hbs hst _ _⟩,fun u v=> ?_⟩
    have:=(Qrm hbs hst u v bs.length).2
    simp only[netF];omega
   .refine⟨hE2,?_⟩;rw[hr];obtain⟨sv,hsv⟩: ∃sv,sv=Qeq n 0 ((k:Int)+1) t.toNat (netF n bs):=⟨_,rfl⟩;rw[<-hsv];have hs:Qid n bs t (k+1)=(Qid n bs t k && decide (t<=sv)):=by rw[hsv];rfl
    rw[hk2,ZaD] at hs;simp(maxSteps:=9^9)(disch:=omega)only[ZZ,simprocAttr,rch,holds_.fv,Qad.app,sub,Qal];refine⟨fun hlt=> ?_,fun hlt=>⟨⟨k+1,.inr (by omega),by rw[hs];exact Zbw (by omega)⟩,by simp only;omega,by rw[Qak (by omega) (by omega)];simp only;omega⟩⟩;have h9:=Qt8 n bs t (k+1) (by rw[hs];exact Zbe (by omega)) (n - 1 - (k+1));rw[show k+1+(n - 1 - (k+1))=n - 1 by omega] at h9;exact h9.symm
 .rcases hk1 with rfl|hk1
  .rw[show n - 1=0 by omega];rfl
  .rw[show n - 1=k by omega];exact hk2.symm
def Qju(t:Int)(b:Bond):Bool:=decide (b.Strength<t)
def CT1.fv(a:Bond×Int):Bool:=(fun b t=>Qju t b) (a.1) (a.2)
def CT1.row:Row:=vKF (b2 (qR Bond.d_le) (qP 1 Qb3)) rB (fun a=>True) CT1.fv
def CT1.q:=vKFq (R:=CT1.row) rfl
theorem CT1.ok:Qas Tryz.prog 144 CT1.row:=by
 refine vwF tN Tryz.func144 rfl (by kernel_rfl) ?_;intro a hpre;simp only[Tryz.f144,Option.getD];simp(maxSteps:=9^9)(disch:=omega)only[ZZ,simprocAttr,rch,CT1.fv,ORC,D.sc,D.scs,scL,decD];rfl
def IdxB.ar:List PK->Option ((List Bond)×Int)
 |[.val (.sl _ _ x0),.val (.fn 144 [] [.ref [.int .i64 x1_0]])]=>(decR Bond.d x0).bind fun y0=>some (y0,x1_0)
 |_=>none
def IdxB.ae(a:(List Bond)×Int):List PK:=[.val (.sl false 3 (a.1.map Bond.c)),.val (.fn 144 [] [.ref [.int .i64 a.2]])]
theorem IdxB.le: ∀ps a,IdxB.ar ps=some a->LeKL ps (IdxB.ae a):=by
 intro ps a h;unfold IdxB.ar at h;split at h
 .simp only[Zaw,Zab] at h;obtain⟨y0,h0,rfl⟩:=h;exact⟨Qbf (Qa2 Bond.d_le _ _ h0) (by simp only[ZaM];rintro r ⟨y,_,rfl⟩;rfl),Qos ⟨Le.refl _,trivial⟩,trivial⟩
 .cases h
def IdxB.fv(a:(List Bond)×Int):Int:=(fun l t=>Qaw (Qju t) 0 l) (a.1) (a.2)
def IdxB.row:Row:=Qfi IdxB.ar (fun a=>True) (fun a=>(D.int .i64) (IdxB.fv a))
def IdxB.q:=vqF IdxB.row rfl
theorem IdxB.ok:Qas Tryz.prog 154 IdxB.row:=by
 refine Qbn Qaq (tC CT1.ok tN) Tryz.func154 rfl (by kernel_rfl) (by kernel_rfl) (ar:=IdxB.ar) (ae:=IdxB.ae) IdxB.le (n:=2) (fun _=>rfl) (by decide) (rc:=(vInt)) (re:=(D.int .i64)) (Qa3) (f:=IdxB.fv) ?_;intro a hpre;simp only[Tryz.f154,Option.getD];simp(maxSteps:=9^9)(disch:=omega)only[ZZ,simprocAttr,rch,IdxB.ae,IdxB.fv,CT1.q,CT1.fv,ORC,D.sc,D.scs,scL,decD];intro hn;refine Qay.old ⟨{k:Nat//k<=a.1.length/\Qaw (Qju a.2) k (a.1.drop k)=Qaw (Qju a.2) 0 a.1},fun k=>⟨[(8,.im (.int .i64 k.1)),(7,.im (.int .i64 a.1.length)),(6,.im (.sl false 3 (a.1.map Bond.c))),(4,.im (.int .i64 0)),(0,.im (.sl false 3 (a.1.map Bond.c))),(1,.im (.fn 144 [] [.ref [.int .i64 a.2]]))],[],0⟩,fun k=>a.1.length - k.1,fun k=>⟨by simp[Qad.good,belT,belH,Qam,AV.bel,belL],Zal _⟩,⟨⟨0,by simp⟩,by simp(maxSteps:=9^9)(disch:=omega)only[ZZ,simprocAttr,rch,IdxB.ae,IdxB.fv,CT1.q,CT1.fv,ORC,D.sc,D.scs,scL,decD,sub]⟩,fun k=> ?_⟩;obtain⟨k,hk1,hk2⟩:=k;simp(maxSteps:=9^9)(disch:=omega)only[ZZ,simprocAttr,rch,IdxB.ae,IdxB.fv,CT1.q,CT1.fv,ORC,D.sc,D.scs,scL,decD,sub,Qal];refine⟨fun hk=>⟨hk,fun x hx=> ?_⟩,fun hk=> ?_⟩
 .rw[Qd3 hx,Qaw] at hk2;refine⟨fun h=> ?_,fun h=>Qb6 hk hn ⟨by omega,by rw[<-hk2,Zai (by simpa using h)]⟩⟩;rw[Zak (by simpa using h)] at hk2;exact hk2
 .rw[Zaq (by omega),Qaw] at hk2;exact hk2
theorem Qu3{t:Int}{l:List Bond}{i:Nat}{b:Bond}(h1:l.find? (Qju t)=some b)(h2:Qaw (Qju t) 0 l=(i:Int))(h3:l[i]? =some b):Qdc t (l.take (i+1))=l.take i:=by
 have hw:Qju t b=true:=Zcp h1;have hall: ∀(l:List Bond) (o i:Nat),Qaw (Qju t) o l=((o+i:Nat):Int)-> ∀x∈l.take i,Qju t x=false:=by
  intro l;induction l with
  |nil=>intro o i _ x hx;simp at hx
  |cons y r ih=>
   intro o i h x hx;cases i with
   |zero=>simp at hx
   |succ i=>
    simp only[Qaw] at h;split at h
    .omega
    .rename_i hy;rw[ZbI] at hx;rcases Zax.1 hx with rfl|hx
     .simpa using hy
     .exact ih (o+1) i (by rw[h];congr 1;omega) x hx
 rw[Zbu,h3,ZcT,Qdc,ZcI];have e1:(l.take i).filter (fun b=>decide (t<=b.Strength))=l.take i:=by
  rw[ZcC];intro x hx
  have:=hall l 0 i (by rw[h2];simp) x hx
  simp only[Qju,Zbp] at this;simp only[Zan];omega
 simp only[Qju,Zan] at hw;rw[e1,Zcj (by simp;omega),Zdz,ZaK]
def dlC.ca(a:List Bond×Int):List AV:=[.own 0,.im (.fn 144 [] [.ref [.int .i64 a.2]])]
def dlC.H0(a:List Bond×Int):Qan:=[(0,(true,.arr 193 3 (a.1.map Bond.c)))]
def dlC.H1(a:List Bond×Int):Qan:=[(1,(true,.arr 193 3 ((Qdc a.2 a.1).map Bond.c)))]
def dlC.row:Row:=orow dlC.ca dlC.H0 1 (fun a=>a.1.length<=1000000) (fun j=>j==0) (fun _=> .own 1) dlC.H1 1000
def YaE:=J @IdxB.q<|J @IdxB.fv.eq_1<|J @CT1.q @CT1.fv.eq_1
theorem dlC.ok:Qas Tryz.prog 142 dlC.row:=by
 refine owN (tC IdxB.ok (tC CT1.ok tN)) Tryz.func142 rfl (by kernel_rfl) (exB:=fun j=>j==1) (R:=fun _ r=>r= .own 1) (fun _=>rfl)
  (fun a=>by simp[dlC.ca,dlC.H0,dlC.H1,belL,AV.bel,belH,Qam,Qc2,AObj.nms,nmsL,AV.nms,domB,hget]) (fun a p hp=> ?_) (fun a r h=>by subst h;exact LeV.refl _) ?_
 rotate_left
 intro a hpre;simp only[Tryz.f142,Option.getD,dlC.ca,dlC.H0,dlC.H1];simp(maxSteps:=9^9)(disch:=omega)only[ZZ,simprocAttr,rch,YaE,IdxB.ar,Qc7,ORB,dlC.ca,dlC.H0,dlC.H1];rcases Qep (Qju a.2) a.1 0 with ⟨e1,e2⟩|⟨i0,b0,e1,e2,e3⟩
 .rw[e2,Zak rfl];refine⟨[],[(1,some 0)],⟨[(4,.own 1)],[(1,(true,.arr 193 3 (a.1.map Bond.c)))],2⟩,?_,by simp[Qad.good,belT,belH,Qam,AV.bel,belL],by simp,?_⟩
  .simp only[subP];simp(maxSteps:=9^9)(disch:=omega)only[ZZ,simprocAttr,rch,YaE,IdxB.ar,Qc7,ORB,dlC.ca,dlC.H0,dlC.H1,Zah,Zag]
  .simp(maxSteps:=9^9)(disch:=omega)only[ZZ,simprocAttr,rch,YaE,IdxB.ar,Qc7,ORB,dlC.ca,dlC.H0,dlC.H1]
   have:Qdc a.2 a.1=a.1:=by
    rw[Qdc,ZcC];intro b hb
    have:=Zcu.1 e1 b hb
    simp only[Qju,Zan] at this⊢;omega
   rw[this]
 .rw[ZbO] at e2;rw[e2,Zai (by omega)];have hil:=(Zaj.1 e3).1;rw[Qak (by omega) (by omega)];obtain⟨l,hl⟩: ∃l,l=a.1:=⟨_,rfl⟩;obtain⟨t,ht⟩: ∃t,t=a.2:=⟨_,rfl⟩;simp only[<-hl,<-ht] at e1 e2 e3 hil hpre⊢;refine Qay.old ⟨{j:Nat//j<=l.length},fun j=>⟨[(6,.im (.int .i64 j.1)),(5,.im (.int .i64 (Qdc t (l.take j.1)).length)),(0,.own 0),(1,.im (.fn 144 [] [.ref [.int .i64 t]]))],[(0,(true,.arr 193 3 ((Qdc t (l.take j.1)++l.drop (Qdc t (l.take j.1)).length).map Bond.c)))],2⟩,fun j=>l.length - j.1,fun j=>⟨by simp[Qad.good,belT,belH,Qam,AV.bel,belL],by simp⟩,⟨⟨i0+1,by omega⟩,?_⟩,fun j=> ?_⟩
  .have h1:=Qu3 e1 e2 e3;simp(maxSteps:=9^9)(disch:=omega)only[ZZ,simprocAttr,rch,YaE,IdxB.ar,Qc7,ORB,dlC.ca,dlC.H0,dlC.H1,sub,h1,Zav];rw[show min i0 l.length=i0 by omega,Zbj];exact⟨⟨by omega,rfl⟩,rfl⟩
  obtain⟨j,hj⟩:=j;obtain⟨kp,hkp⟩: ∃kp,kp=Qdc t (l.take j):=⟨_,rfl⟩;have hkl:kp.length<=j:=by
   have:=Qln t (l.take j)
   rw[Zav] at this;rw[hkp];omega
  have hrl:(kp++l.drop kp.length).length=l.length:=by simp;omega
  simp only[<-hkp];simp(maxSteps:=9^9)(disch:=omega)only[ZZ,simprocAttr,rch,YaE,IdxB.ar,Qc7,ORB,dlC.ca,dlC.H0,dlC.H1,sub,Qal,hrl];intro _;refine⟨fun hj2=>⟨hj2,hj2,fun b hb=> ?_⟩,fun hj2=> ?_⟩
  .have hlb:l[j]? =some b:=by
    rw[ZaI hkl,Zbs,show kp.length+(j - kp.length)=j by omega] at hb;exact hb
   have hsu:=Qjs t hlb;rw[<-hkp] at hsu;refine⟨fun hw=>⟨by omega,by omega,fun c _=>⟨⟨j+1,by omega⟩,by simp only;omega,?_⟩⟩,fun hw=>⟨⟨j+1,by omega⟩,by simp only;omega,?_⟩⟩
   .have hs:t<=b.Strength:=by
     simp only[Qju,Zbp] at hw;omega
    rw[Zak hs] at hsu;simp only[hsu,ZaC,ZaF,ZbF];refine⟨⟨by rw[Qak (by omega) (by omega)];omega,by rw[Qak (by omega) (by omega)];omega⟩,?_⟩;have h1:(kp++l.drop kp.length).set kp.length b=kp++[b]++l.drop (kp.length+1):=by
     obtain⟨c,hc⟩: ∃c,l[kp.length]? =some c:=⟨_,Zac (by omega)⟩;rw[Qd3 hc,Zdf _ _ (Zal _),Zca,ZcS,Zbt];rfl
    rw[<-h1,ZcP];rfl
   .have hs: ¬t<=b.Strength:=by
     rw[Zbb] at hw;simp only[Qju,Zan] at hw;omega
    rw[Zai hs,ZaK] at hsu;simp only[hsu];exact⟨⟨by rw[Qak (by omega) (by omega)];omega,trivial⟩,trivial⟩
  .refine⟨by omega,false,?_⟩;have hjl:j=l.length:=by omega
   subst hjl;rw[Zbx] at hkp;simp(maxSteps:=9^9)(disch:=omega)only[ZZ,simprocAttr,rch,YaE,IdxB.ar,Qc7,ORB,dlC.ca,dlC.H0,dlC.H1,hrl];have hA:List.take kp.length ((kp++l.drop kp.length).map Bond.c)=kp.map Bond.c:=by
    rw[<-Zfa,ZdI]
   rw[hA];refine⟨by simp only[ZaC,Zbv];omega,true,?_⟩;simp(maxSteps:=9^9)(disch:=omega)only[ZZ,simprocAttr,rch,YaE,IdxB.ar,Qc7,ORB,dlC.ca,dlC.H0,dlC.H1,hrl];refine⟨[],[(1,some 2)],⟨[(4,.own 1)],[(1,(true,.arr 193 3 (kp.map Bond.c)))],2⟩,?_,by simp[Qad.good,belT,belH,Qam,AV.bel,belL],by simp,?_⟩
   .simp only[subP];simp(maxSteps:=9^9)(disch:=omega)only[ZZ,simprocAttr,rch,YaE,IdxB.ar,Qc7,ORB,dlC.ca,dlC.H0,dlC.H1,Zah,Zag];rw[show ((kp.length:Int) - 0).toNat=(kp.map Bond.c).length by simp,Zbt,ZdI]
   .simp(maxSteps:=9^9)(disch:=omega)only[ZZ,simprocAttr,rch,YaE,IdxB.ar,Qc7,ORB,dlC.ca,dlC.H0,dlC.H1,hkp]
 simp[dlC.H1] at hp;subst hp;exact .inr ⟨by omega,by omega,rfl,rfl⟩
def ldV(b i:Nat)(x:Int):AV:=if 0<=x/\x<i then .ptr (b+x.toNat) 0 else .im .nilp
def grE(b:Nat)(L:List Int)(i:Nat):Ent:=(true,.cells 239 [ldV b i (L[i]?.getD (-1)),.im (.int .i64 i)])
def grH(b:Nat)(L:List Int)(n:Nat):Qan:=famH b n (grE b L)
def ldOk(L:List Int):Prop:= ∀(i:Nat) (x:Int),L[i]? =some x->x<i
def Qmc(L:List Int)(i:Nat):Nat->Nat
 |0=>i
 |m+1=>if L[i]?.getD (-1)<0 then i else Qmc L (L[i]?.getD (-1)).toNat m
def Qde(L:List Int)(i:Nat):Nat:=Qmc L i i
theorem Qabj{L:List Int}(h:ldOk L): ∀(i m m':Nat),i<=m->i<=m'->Qmc L i m=Qmc L i m':=by
 intro i;induction i using Nat.strongRecOn with
 |_ i ih=>
  intro m m' h1 h2;cases hi:L[i]? with
  |none=>
   cases m<;>cases m'<;>simp[Qmc,hi]
  |some x=>
   have hx:=h i x hi;by_cases h0:x<0
   .cases m<;>cases m'<;>simp[Qmc,hi,h0]
   .cases m with
    |zero=>omega
    |succ m=>
     cases m' with
     |zero=>omega
     |succ m'=>
      simp only[Qmc,hi,Zad,Zai h0];exact ih x.toNat (by omega) m m' (by omega) (by omega)
theorem Qdk{L:List Int}(h:ldOk L){i:Nat}{x:Int}(hi:L[i]? =some x):Qde L i=if x<0 then i else Qde L x.toNat:=by
 have hx:=h i x hi;by_cases h0:x<0
 .rw[Zak h0,Qde];cases i with
  |zero=>rfl
  |succ i=>simp only[Qmc,hi,Zad,Zak h0]
 .rw[Zai h0,Qde];cases i with
  |zero=>omega
  |succ i=>
   simp only[Qmc,hi,Zad,Zai h0];exact Qabj h _ _ _ (by omega) (Zal _)
theorem Qnj{L:List Int}(h:ldOk L): ∀(i:Nat),Qde L i<=i:=by
 intro i;induction i using Nat.strongRecOn with
 |_ i ih=>
  cases hi:L[i]? with
  |none=>rw[Qde];cases i<;>simp[Qmc,hi]
  |some x=>
   rw[Qdk h hi];have hx:=h i x hi;split
   .exact Zal _
   .have:=ih x.toNat (by omega);omega
def firC.n(a:List Int×Nat):Nat:=min a.1.length 512
def firC.ca(a:List Int×Nat):List AV:=[.ptr (min a.2 511) 0]
def firC.H0(a:List Int×Nat):Qan:=grH 0 a.1 (firC.n a)
def firC.r0(a:List Int×Nat):AV:= .ptr (Qde a.1 a.2) 0
def firC.pre(a:List Int×Nat):Prop:=a.1.length<=512/\a.2<a.1.length/\ldOk a.1
def firC.row:Row:=orow firC.ca firC.H0 600 firC.pre (fun _=>false) firC.r0 (fun _=>[]) 0
theorem firC.hbel(a:List Int×Nat):belL 600 (firC.ca a)=true:=by
 simp only[firC.ca,belL,AV.bel,Zbn,Zcw];omega
theorem Qt5(nx b:Nat)(f:Nat->Ent)(n:Nat)(hf: ∀i,i<n->belH nx [(b+i,f i)]=true):belH nx (famH b n f)=true:=by
 have: ∀(l:List Nat),(∀i∈l,i<n)->belH nx (l.map fun i=>(b+i,f i))=true:=by
  intro l;induction l with
  |nil=>intro _;rfl
  |cons i r ih=>
   intro hl;rw[Zao,show (b+i,f i)::(r.map fun i=>(b+i,f i))=[(b+i,f i)]++(r.map fun i=>(b+i,f i)) from rfl,Qk6,hf i (hl i (Zau ..)),ih (fun j hj=>hl j (Zas _ hj))];rfl
 exact this _ (fun i hi=>ZaR.1 hi)
theorem ldV_bel(b i N:Nat)(x:Int)(h:b+i<=N):(ldV b i x).bel N=true:=by
 simp only[ldV];split
 .simp only[AV.bel,Zcw];omega
 .rfl
theorem Qn9(b n N:Nat)(L:List Int)(h:b+n<=N):belH N (grH b L n)=true:=Qt5 _ _ _ _ fun i hi=>by
 simp only[grE,belH,belL,ldV_bel b i N _ (by omega),AV.bel,ZeY]
theorem firC.n_le(a:List Int×Nat):firC.n a<=512:=ZdJ _ _
theorem firC.hbH(a:List Int×Nat):belH 600 (firC.H0 a)=true:=Qn9 _ _ _ _ (by have:=firC.n_le a;omega)
theorem firC.hkH(a:List Int×Nat):Qam 600 (firC.H0 a)=true:=Qd8 _ _ _ _ (by have:=firC.n_le a;omega)
theorem Qdi(b n:Nat)(L:List Int)(i:Nat)(h:i<n):hget (grH b L n) (b+i)=some (grE b L i):=Qcy _ _ _ _ h
theorem nmsIn_fam{H0:Qan}{b n:Nat}{f:Nat->Ent}(h: ∀i,i<n-> ∀m∈(f i).2.nms,domB H0 m=true):Qc2 H0 (famH b n f):=by
 have: ∀(l:List Nat),(∀i∈l,i<n)->Qc2 H0 (l.map fun i=>(b+i,f i)):=by
  intro l;induction l with
  |nil=>intro _;trivial
  |cons i r ih=>
   intro hl;simp only[Zao];exact⟨h i (hl i (Zau ..)),ih (fun j hj=>hl j (Zas _ hj))⟩
 exact this _ (fun i hi=>ZaR.1 hi)
theorem firC.hnm(a:List Int×Nat):Qc2 (firC.H0 a) (firC.H0 a):=by
 refine nmsIn_fam fun i hi m hm=> ?_
 simp only[grE,AObj.nms,nmsL,ldV] at hm;split at hm
 .simp only[AV.nms,ZaK,Zat] at hm;subst hm;rename_i h;simp only[domB,firC.H0];rw[Qdi 0 _ _ _ (by omega)];rfl
 .simp[AV.nms] at hm
theorem subH_famE(s:Qad)(b n:Nat)(f:Nat->Ent):subH s (famH b n f)= ∀i,i<n->hget s.h (b+i)=some (f i):=by
 have: ∀(l:List Nat),subH s (l.map fun i=>(b+i,f i))↔ ∀i∈l,hget s.h (b+i)=some (f i):=by
  intro l;induction l with
  |nil=>simp[subH]
  |cons i r ih=>simp only[Zao,subH,ih,Zax,ZeG]
 apply propext;rw[famH,this];simp only[ZaR]
theorem Qo5{s:Qad}{b n:Nat}{L:List Int}(h: ∀i,i<n->hget s.h (b+i)=some (grE b L i)):subH s (grH b L n):=by
 rw[grH,subH_famE];exact h
theorem firC.ok:Qas Tryz.prog 153 firC.row:=by
 refine ow tN Tryz.func153 rfl (by kernel_rfl) (exB:=fun _=>false) (R:=fun a r=>r=firC.r0 a) (fun _=>rfl)
  (fun a=>⟨firC.hbel a,firC.hbH a,firC.hkH a,firC.hnm a⟩) (fun a p hp=> ?_) (fun a r h=>by subst h;exact LeV.refl _) ?_
 rotate_left
 intro a hpre;simp only[Tryz.f153,Option.getD,firC.ca];simp(maxSteps:=9^9)(disch:=omega)only[ZZ,simprocAttr,rch,ORB,firC.ca];obtain⟨L,i⟩:=a;obtain⟨h1,h2,h3⟩:=hpre;simp only at h1 h2 h3;obtain⟨n,hn⟩: ∃n,n=L.length:=⟨_,rfl⟩;have hsn:firC.n (L,i)=n:=by simp only[firC.n,<-hn];omega
 simp only[firC.H0,firC.r0,hsn,Qba];rw[<-hn] at h1 h2;rw[show min i 511=i by omega];refine Qay.old ⟨{g:Nat//g<n/\Qde L g=Qde L i},fun g=>⟨[(0,.ptr g.1 0)],grH 0 L n,600⟩,fun g=>g.1,fun g=>⟨?_,by simp⟩,⟨⟨i,h2,rfl⟩,?_⟩,fun g=> ?_⟩
 .simp only[Qad.good,belT,AV.bel,Zbn,Zaf,Zcw];exact⟨by omega,Qn9 _ _ _ _ (by omega),Qd8 _ _ _ _ (by omega)⟩
 .simp only[sub,subT,tget];refine⟨?_,Qo5 (fun i hi=>Qdi 0 n L i hi)⟩;simp(maxSteps:=9^9)(disch:=omega)only[ZZ,simprocAttr,rch,ORB,firC.ca]
 obtain⟨g,hg,hr⟩:=g;obtain⟨x,hx⟩: ∃x,L[g]? =some x:=⟨_,Zac (by omega)⟩;have hxg:=h3 g x hx;have hgg:=Qdi 0 n L g hg;rw[ZbO] at hgg;simp only[grE,hx,Zad] at hgg;have hst:=Qdk h3 hx;by_cases h0:x<0
 .have hld:ldV 0 g x= .im .nilp:=Zai (by omega);rw[hld] at hgg;simp(maxSteps:=9^9)(disch:=omega)only[ZZ,simprocAttr,rch,ORB,firC.ca,sub,Qal,hgg,Qba];rw[Zak h0] at hst;exact⟨by omega,by omega,by omega,by omega,by omega,Qxi _ _ _ _ _ (fun i hi=> .inr (Qdi 0 n L i hi)),by omega⟩
 .have hld:ldV 0 g x= .ptr x.toNat 0:=by simp only[ldV];rw[Zak ⟨by omega,hxg⟩,ZbO]
  rw[hld] at hgg;have hgx:=Qdi 0 n L x.toNat (by omega);rw[ZbO] at hgx;simp(maxSteps:=9^9)(disch:=omega)only[ZZ,simprocAttr,rch,ORB,firC.ca,sub,Qal,hgg,hgx,Qba];rw[Zai h0] at hst;exact⟨by omega,by omega,by omega,by omega,by omega,by omega,by omega,by omega,by omega,⟨x.toNat,by omega,by omega⟩,by simp only;omega,rfl,Qo5 (fun i hi=>Qdi 0 n L i hi)⟩
 simp at hp
def Qj1(b n k:Nat):List (List AV):=(List.range n).map fun i=>if i<k then [AV.ptr (b+i) 0] else [.im .nilp]
theorem Qbx(b n k:Nat):(Qj1 b n k).length=n:=by simp[Qj1]
theorem Qj7(b n k i:Nat)(h:i<n):(Qj1 b n k)[i]? =some (if i<k then [.ptr (b+i) 0] else [.im .nilp]):=by simp[Qj1,Zce h]
theorem Qtr(b n k i:Nat)(K:List AV->Prop)(h:i<n):Qi9 (Qj1 b n k) i K=K (if i<k then [.ptr (b+i) 0] else [.im .nilp]):=by
 apply propext;unfold Qi9;rw[Qj7 b n k i h];exact⟨fun h=>h _ rfl,fun h row hr=>by obtain rfl:=Zaa hr;exact h⟩
theorem Qlg(b n k N:Nat)(h:b+k<=N):(Qj1 b n k).all (belL N)=true:=by
 rw[ZaL];intro r hr;obtain⟨i,hi,rfl⟩:=ZaM.1 hr;split
 .simp[belL,AV.bel];omega
 .simp[belL,AV.bel]
theorem Qnw(b n N:Nat)(L:List Int)(h:b+n<=N):Qam N (grH b L n)=true:=Qd8 _ _ _ _ h
theorem rowsP_nil(b n:Nat)(π:List (Nat×Option Nat)):mtR π (Qj1 b n 0) (imR (List.replicate n [.nilp])):=by
 have e:Qj1 b n 0=imR (List.replicate n [.nilp]):=by
  simp only[Qj1,imR,ZdR,ZbJ,ZdQ];rw[List.map_const',ZcO];rfl
 rw[e];exact Qzo _ _
theorem ldV_ren{σ:Nat->Nat}{i:Nat}{x:Int}(h: ∀j,j<i->σ j=1000+j):(ldV 0 i x).ren σ=ldV 1000 i x:=by
 simp only[ldV];split
 .simp only[AV.ren,ZbO];rw[h _ (by omega)]
 .rfl
theorem heapM_fam{h:Nat->Option Ent}{σ:Nat->Nat}{b n:Nat}{f:Nat->Ent}(H: ∀i,i<n->h (σ (b+i))=some ((f i).1,(f i).2.ren σ)):Qer h σ (famH b n f):=by
 have: ∀(l:List Nat),(∀i∈l,i<n)->Qer h σ (l.map fun i=>(b+i,f i)):=by
  intro l;induction l with
  |nil=>intro _;trivial
  |cons i r ih=>
   intro hl;simp only[Zao];exact⟨H i (hl i (Zau ..)),ih (fun j hj=>hl j (Zas _ hj))⟩
 exact this _ (fun i hi=>ZaR.1 hi)
theorem grH_dom{n:Nat}{L:List Int}{j:Nat}(h:domB (grH 0 L n) j=true):j<n:=by
 simp only[domB,grH,Qm4] at h;split at h
 .omega
 .cases h
theorem Qtp{H:Nat->Option Ent}{L:List Int}{k nx u:Nat}{K:Kont}(hL:L.length=k)(hk:k<=512)(hld:ldOk L)(hu:u<k)(hnx:2000<=nx)(hH: ∀i,i<k->H (1000+i)=some (grE 1000 L i))
 (hK: ∀U,K (.ptr (1000+Qde L u) 0) {use:=U}):firC.row [.ptr (1000+u) 0] H nx K:=by
 have hσ: ∀j,j<600->sgx (fun j=>1000+j) 600 nx j=1000+j:=fun j hj=>Zak hj
 have hn:firC.n (L,u)=k:=by simp only[firC.n,hL];omega
 have hr:=Qnj hld u;refine⟨(L,u),fun j=>1000+j,(List.range k).map (1000+ ·),[],⟨by simp only;omega,by simp only;omega,hld⟩,?_,?_,?_,?_⟩
 .simp only[firC.ca,renL,AV.ren];rw[show min u 511=u by omega,hσ u (by omega)]
 .simp only[firC.H0,hn,grH];refine heapM_fam fun i hi=> ?_
  rw[ZbO,hσ i (by omega),hH i hi];simp only[grE,AObj.ren,renL,AV.ren];rw[ldV_ren (fun j hj=>hσ j (by omega))]
 .have hd: ∀j,domB (firC.H0 (L,u)) j=true->j<k:=fun j hj=>by simp only[firC.H0,hn] at hj;exact grH_dom hj
  refine⟨fun i j _ _ h=> ?_,fun j hj=> ?_,fun j hj=> ?_,fun m hm=>(by cases hm),fun j _ hj=>(by cases hj)⟩
  .have h:1000+i=1000+j:=h;omega
  .have:=hd j hj
   show 1000+j<nx;omega
  exact ZaM.2 ⟨j,ZaR.2 (hd j hj),rfl⟩
 .have e:(firC.r0 (L,u)).ren (sgx (fun j=>1000+j) 600 nx)= .ptr (1000+Qde L u) 0:=by
   simp only[firC.r0,AV.ren];rw[hσ _ (by omega)]
  rw[e];exact hK _
theorem Qug(k:Nat):ldOk (List.replicate k (-1)):=by
 intro i x h
 have:=ZbC (Zae h)
 omega
theorem Qj8: ∀(k i:Nat),i<k->(Qtc k)[i]? =some (i:Int)
 |0,i,h=>by omega
 |k+1,i,h=>by
  simp only[Qtc];by_cases hi:i<k
  .rw[ZaG (by rw[Qff];exact hi)];exact Qj8 k i hi
  .have:i=k:=by omega
   subst this;rw[ZaI (by rw[Qff];exact Zal _),Qff,Zca];rfl
theorem own_start{k i:Nat}{bs:List Bond}(h:i<k):(ownK k bs 0)[i]? =some ((Qde (List.replicate k (-1)) i:Nat):Int):=by
 simp only[ownK];rw[Qj8 k i h]
 have:=Qdk (Qug k) (i:=i) (x:= -1) (by rw[ZbB,Zak h])
 rw[this,Zak (by omega)]
theorem Qls{L:List Int}(h:ldOk L): ∀(i:Nat),Qde L (Qde L i)=Qde L i:=by
 intro i;induction i using Nat.strongRecOn with
 |_ i ih=>
  cases hi:L[i]? with
  |none=>
   have:Qde L i=i:=by rw[Qde];cases i<;>simp[Qmc,hi]
   rw[this,this]
  |some x=>
   have hx:=h i x hi;rw[Qdk h hi];split
   .rename_i h0;rw[Qdk h hi,Zak h0]
   .exact ih x.toNat (by omega)
theorem Qsx{L:List Int}(h:ldOk L){p q:Nat}(hpq:p<q):ldOk (L.set q (p:Int)):=by
 intro i x hi;by_cases hq:q=i
 .subst hq;have hl:q<L.length:=by have:=(Zaj.1 hi).1;simpa using this
  rw[ZaE hl] at hi;obtain rfl:=Zaa hi;omega
 .rw[ZaH hq] at hi;exact h i x hi
theorem Qqx{L:List Int}(h:ldOk L){p q:Nat}(hp:Qde L p=p)(hq:Qde L q=q)(hpq:p<q)(hl:q<L.length): ∀(i:Nat),Qde (L.set q (p:Int)) i=if Qde L i=q then p else Qde L i:=by
 have h':=Qsx h hpq;intro i;induction i using Nat.strongRecOn with
 |_ i ih=>
  by_cases hiq:q=i
  .subst hiq;have e:(L.set q (p:Int))[q]? =some (p:Int):=ZaE hl;rw[Qdk h' e,Zai (by omega),Zam,ih p hpq,hp,Zai (by omega),hq,Zak rfl]
  .have e:(L.set q (p:Int))[i]? =L[i]? :=ZaH hiq;cases hi:L[i]? with
   |none=>
    have r1:Qde L i=i:=by rw[Qde];cases i<;>simp[Qmc,hi]
    have r2:Qde (L.set q (p:Int)) i=i:=by rw[Qde];cases i<;>simp[Qmc,e,hi]
    rw[r1,r2,Zai (ZcL hiq)]
   |some x=>
    have hx:=h i x hi;rw[hi] at e;rw[Qdk h' e,Qdk h hi];by_cases h0:x<0
    .rw[Zak h0,Zak h0,Zai (ZcL hiq)]
    .rw[Zai h0,Zai h0];exact ih x.toNat (by omega)
theorem join_lt{x y:Nat}(h:x<y)(r:Nat):Qja (x:Int) (y:Int) (r:Int)=((if r=y then x else r:Nat):Int)/\Qja (y:Int) (x:Int) (r:Int)=((if r=y then x else r:Nat):Int):=by
 have m1:maxI (x:Int) y=y:=Zai (by omega);have m2:maxI (y:Int) x=y:=Zak (by omega);have m3:minI (x:Int) y=x:=Zak (by omega);have m4:minI (y:Int) x=x:=Zai (by omega);simp only[Qja,m1,m2,m3,m4];by_cases hr:r=y
 .rw[Zak hr,Zak (by omega)];exact⟨rfl,rfl⟩
 .rw[Zai hr,Zai (by omega)];exact⟨rfl,rfl⟩
theorem join_eq(x r:Nat):Qja (x:Int) (x:Int) (r:Int)=(r:Int):=by
 have m1:maxI (x:Int) x=x:=Zai (by omega);have m2:minI (x:Int) x=x:=Zai (by omega);simp only[Qja,m1,m2];by_cases hr:(r:Int)=x
 .rw[Zak hr,hr]
 .rw[Zai hr]
def mII(p:Int×Int):D×D:=(.int .i64 p.1,.int .i64 p.2)
def lkZ(M:List (Int×Int))(x:Int):Option Int:=(M.find? (fun p=>p.1==x)).map (·.2)
theorem lk_mII(x:Int): ∀(M:List (Int×Int)),lk (M.map mII) (.int .i64 x)=(lkZ M x).map (D.int .i64)
 |[]=>rfl
 |(k,v)::r=>by
  have ih:=lk_mII x r;simp only[lkZ] at ih;by_cases h:k=x
  .subst h;simp[lk,mII,lkZ,D.beq]
  .have h2: ¬x=k:=fun e=>h e.symm
   have h3:(x==k)=false:=by simpa using h2
   simp[lk,mII,lkZ,D.beq,h,h3,ih]
theorem lkVC_ii(x:Int)(M:List (Int×Int))(Ks:D->Prop)(Kn:Prop):LkVC (M.map mII) (.int .i64 x) Ks Kn=((∀v,lkZ M x=some v->Ks (.int .i64 v))/\(lkZ M x=none->Kn)):=by
 apply propext;unfold LkVC;rw[lk_mII];cases lkZ M x<;>simp
theorem upd_mII(x v:Int): ∀(M:List (Int×Int)),lkZ M x=none->upd (M.map mII) (.int .i64 x) (.int .i64 v)=(M++[(x,v)]).map mII
 |[],_=>rfl
 |(k,w)::r,h=>by
  by_cases hk:k=x
  .subst hk;simp[lkZ] at h
  .have h2: ¬x=k:=fun e=>hk e.symm
   have hr:lkZ r x=none:=by simpa[lkZ,hk] using h
   have ih:=upd_mII x v r hr;simp only[Zao,ZaJ,mII] at ih⊢;have h3:(x==k)=false:=by simpa using h2
   simp[upd,D.beq,h3,ih,mII]
theorem lkZ_app(M:List (Int×Int))(x v y:Int):lkZ (M++[(x,v)]) y=(lkZ M y).or (if x=y then some v else none):=by
 simp only[lkZ,List.find?_append];cases h:M.find? (fun p=>p.1==y) with
 |some p=>simp
 |none=>
  by_cases hx:x=y
  .subst hx;simp
  .simp[hx]
theorem Qld{own:List Int}{i:Nat}(h:own[i]? =some (i:Int)): ∀k,∃rest,grpK own i (k+1)=(i:Int)::rest
 |0=>⟨[],by simp[grpK,h]⟩
 |k+1=>by
  obtain⟨rest,hr⟩:=Qld h k;rw[grpK,hr];exact⟨_,rfl⟩
theorem Qjv(own:List Int)(n:Nat): ∀k,k<=n-> ∀g∈Qa7 own n k,∃(r:Nat) (rest:List Int),g=(r:Int)::rest/\r<k/\own[r]? =some (r:Int)
 |0,_,g,h=>by simp[Qa7] at h
 |k+1,hk,g,h=>by
  simp only[Qa7,Zar] at h;rcases h with h|h
  .obtain⟨r,rest,h1,h2,h3⟩:=Qjv own n k (by omega) g h;exact⟨r,rest,h1,by omega,h3⟩
  .split at h
   .rename_i ho;obtain rfl:=Zat.1 h;obtain⟨rest,hr⟩:=Qld ho (n - k - 1);rw[show n - k - 1+1=n - k by omega] at hr;exact⟨k,rest,hr,by omega,ho⟩
   .cases h
theorem Qo6(own:List Int)(n:Nat)(r:Nat)(ho:own[r]? =some (r:Int)): ∀k,k<=n->r<k-> ∃rest,((r:Int)::rest)∈Qa7 own n k
 |0,_,h=>by omega
 |k+1,hk,h=>by
  by_cases hr:r=k
  .subst hr;obtain⟨rest,hr⟩:=Qld ho (n - r - 1);rw[show n - r - 1+1=n - r by omega] at hr;exact⟨rest,by simp[Qa7,ho,hr]⟩
  .obtain⟨rest,hm⟩:=Qo6 own n r ho k (by omega) (by omega);exact⟨rest,by simp only[Qa7,Zar];exact .inl hm⟩
theorem Qy0(own:List Int)(n:Nat): ∀k,∀g∈Qa7 own n k,g.length<=n
 |0,g,h=>by simp[Qa7] at h
 |k+1,g,h=>by
  simp only[Qa7,Zar] at h;rcases h with h|h
  .exact Qy0 own n k g h
  .split at h
   .obtain rfl:=Zat.1 h
    have:=Qsd own k (n - k)
    omega
   .cases h
theorem cvt_rowsF{h:Nat->Option Ent}{b m:Nat}{G:List (List Int)}(H: ∀q,q<G.length->h (b+q)=some (true,.arr 2 1 ((G[q]?.getD []).map intC))):
 mapO (mapO fun x=>asDO (cvt h (kxOf 0 []) (m+1) x)) (Qch b G.length)=some (G.map Qcd):=by
 have: ∀(l:List Nat),(∀q∈l,q<G.length)->mapO (mapO fun x=>asDO (cvt h (kxOf 0 []) (m+1) x)) (l.map fun i=>[AV.own (b+i)])=some (l.map fun q=>Qcd (G[q]?.getD [])):=by
  intro l;induction l with
  |nil=>intro _;rfl
  |cons q r ih=>
   intro hl;have h0:kxOf 0 [] (b+q)=none:=rfl;have ih2:=ih (fun x hx=>hl x (Zas _ hx));have e:mapO (fun x=>asDO (cvt h (kxOf 0 []) (m+1) x)) [AV.own (b+q)]=some (Qcd (G[q]?.getD [])):=by
    simp only[mapO,cvt,h0,H q (hl q (Zau ..)),Qho,kp,ZaT,asDO,AV.asD];rfl
   rw[Zao,mapO,e,ih2];rfl
 rw[Qch,this _ (fun q hq=>ZaR.1 hq)];congr 1;apply Zci;intro j;by_cases hj:j<G.length
 .rw[ZaN,Zce hj,ZaN,Zac hj,ZaT,ZaT,Zac hj,Zad]
 .rw[ZaZ (by simp;omega),ZaZ (by simp;omega)]
def joinG(r:Int)(m:Nat)(g:List Int):List Int:=if g.head? =some r then g++[(m:Int)] else g
theorem Ql4(own:List Int)(m:Nat)(r:Int)(hr:own[m]? =some r): ∀k,k<=m->Qa7 own (m+1) k=(Qa7 own m k).map (joinG r m)
 |0,_=>rfl
 |k+1,hk=>by
  rw[Qa7,Qa7,ZbG,Ql4 own m r hr k (by omega)];congr 1;by_cases ho:own[k]? =some (k:Int)
  .rw[Zak ho,Zak ho];obtain⟨rest,h2⟩:=Qld ho (m - k - 1);rw[show m - k - 1+1=m - k by omega] at h2;have e:grpK own k (m+1 - k)=grpK own k (m - k)++(if own[m]? =some (k:Int) then [(m:Int)] else []):=by
    rw[show m+1 - k=(m - k)+1 by omega,grpK,show k+(m - k)=m by omega]
   rw[e,hr];simp only[Zao,ZaV,joinG,h2,ZeM,Zab];by_cases hk2:r=(k:Int)
   .rw[Zak hk2,Zak hk2.symm]
   .rw[Zai hk2,Zai (ZcL hk2),ZaK]
  .rw[Zai ho,Zai ho];rfl
structure Qpc(out:List (List Int))(M:List (Int×Int)):Prop where
 a: ∀r v,lkZ M r=some v-> ∃(g:Nat) (rest:List Int),v=g/\out[g]? =some (r::rest)
 b: ∀(g:Nat) (r:Int) (rest:List Int),out[g]? =some (r::rest)->lkZ M r=some (g:Int)
theorem grps_new{own:List Int}{i:Nat}{M:List (Int×Int)}{r:Nat}(hP:Qpc (Qa7 own i i) M)(ho:own[i]? =some (r:Int))(hr:r<=i)(hrr:own[r]? =some (r:Int))(hn:lkZ M r=none):
 r=i/\Qa7 own (i+1) (i+1)=Qa7 own i i++[[(i:Int)]]/\Qpc (Qa7 own (i+1) (i+1)) (M++[((i:Int),((Qa7 own i i).length:Int))]):=by
 have hri:r=i:=by
  by_cases h:r<i
  .obtain⟨rest,hm⟩:=Qo6 own i r hrr i (by omega) h;obtain⟨g,hg⟩:=Zbz.1 hm;rw[hP.b g _ _ hg] at hn;cases hn
  .omega
 subst hri;have e:Qa7 own (r+1) (r+1)=Qa7 own r r++[[(r:Int)]]:=by
  rw[Qa7,Ql4 own r r ho r (Zal _),Zak ho];congr 1
  .conv=>rhs;rw[<-List.map_id (Qa7 own r r)]
   apply ZcD;intro g hg;obtain⟨q,rest,h1,h2,_⟩:=Qjv own r r (Zal _) g hg;simp only[joinG,h1,ZeM,Zab,id];rw[Zai (by omega)]
  .rw[show r+1 - r=0+1 by omega];simp[grpK,ho]
 refine⟨rfl,e,?_⟩;rw[e];refine⟨fun q v hv=> ?_,fun g q rest hg=> ?_⟩
 .rw[lkZ_app] at hv;cases hq:lkZ M q with
  |some w=>
   rw[hq] at hv;obtain rfl:=Zaa hv;obtain⟨g,rest,h1,h2⟩:=hP.a q _ hq;exact⟨g,rest,h1,by rw[ZaG (Zaj.1 h2).1];exact h2⟩
  |none=>
   rw[hq] at hv;simp only[Zdw] at hv;split at hv
   .rename_i h;obtain rfl:=Zaa hv;exact⟨_,[],rfl,by rw[ZaI (Zal _),Zca,<-h];rfl⟩
   .cases hv
 .rw[lkZ_app];by_cases hl:g<(Qa7 own r r).length
  .rw[ZaG hl] at hg;rw[hP.b g q rest hg];rfl
  .rw[ZaI (by omega)] at hg;have h0:g - (Qa7 own r r).length=0:=by
    have:=(Zaj.1 hg).1
    simpa using this
   rw[h0] at hg;simp only[ZaS,Zab,Zdl] at hg;rw[<-hg.1,hn,Zak rfl,Zdw];congr 1;omega
theorem grps_old{own:List Int}{i:Nat}{M:List (Int×Int)}{r:Int}{g:Nat}{rest:List Int}(hP:Qpc (Qa7 own i i) M)(ho:own[i]? =some r)(hg:(Qa7 own i i)[g]? =some (r::rest)):
 Qa7 own (i+1) (i+1)=(Qa7 own i i).set g (r::rest++[(i:Int)])/\Qpc (Qa7 own (i+1) (i+1)) M:=by
 have hri:r≠i:=by
  obtain⟨q,rs,h1,h2,_⟩:=Qjv own i i (Zal _) _ (Zae hg)
  have:=(List.cons.inj h1).1
  omega
 have e:Qa7 own (i+1) (i+1)=(Qa7 own i i).set g (r::rest++[(i:Int)]):=by
  rw[Qa7,Ql4 own i r ho i (Zal _),Zai (by rw[ho];simpa using hri),ZaK];apply Zci;intro j;rw[ZaN];by_cases hj:g=j
  .subst hj;rw[ZaE (Zaj.1 hg).1,hg];simp[joinG]
  .rw[ZaH hj];cases hx:(Qa7 own i i)[j]? with
   |none=>rfl
   |some x=>
    simp only[ZaT,joinG];rw[Zai];intro hh;cases x with
    |nil=>cases hh
    |cons q rs=>
     simp only[ZeM,Zab] at hh;subst hh;have h1:=hP.b j _ _ hx;have h2:=hP.b g _ _ hg;rw[h1] at h2
     have:=Zaa h2
     omega
 refine⟨e,?_⟩;rw[e];have hgl:=(Zaj.1 hg).1;refine⟨fun q v hv=> ?_,fun g' q rs hg'=> ?_⟩
 .obtain⟨j,rs,h1,h2⟩:=hP.a q v hv;by_cases hj:g=j
  .subst hj;rw[hg] at h2;simp only[Zab,Zdl] at h2;exact⟨g,rest++[(i:Int)],h1,by rw[ZaE hgl,h2.1];rfl⟩
  .exact⟨j,rs,h1,by rw[ZaH hj];exact h2⟩
 .by_cases hj:g=g'
  .subst hj;rw[ZaE hgl] at hg';simp only[Zab,ZaJ,Zdl] at hg';rw[<-hg'.1];exact hP.b g _ _ hg
  .rw[ZaH hj] at hg';exact hP.b g' _ _ hg'
def gpsH(b:Nat)(G:List (List Int)):Qan:=famH b G.length (fun i=>(true,.arr 2 1 ((G[i]?.getD []).map intC)))
theorem gpsH_bel(b N:Nat)(G:List (List Int))(h:b+G.length<=N):belH N (gpsH b G)=true:=Qt5 _ _ _ _ fun i hi=>by simp[belH]
theorem gpsH_key(b N:Nat)(G:List (List Int))(h:b+G.length<=N):Qam N (gpsH b G)=true:=Qd8 _ _ _ _ h
theorem mtR_P{π:List (Nat×Option Nat)}{b n k:Nat}(h: ∀i,i<k->pm π (b+i)=some (b+i)):mtR π (Qj1 b n k) (Qj1 b n k):=by
 rw[Ql2];refine⟨rfl,fun i x y hx hy=> ?_⟩;rw[hx] at hy;obtain rfl:=Zaa hy;have hin:i<n:=by have:=(Zaj.1 hx).1;rwa [Qbx] at this
 rw[Qj7 _ _ _ _ hin] at hx;obtain rfl:=Zaa hx;split
 .rename_i hlt;simp only[mtL,mt,h i hlt,Qga,Zcn]
 .simp only[mtL,mt,Zcn]
theorem nodup_two(A:List Nat)(b n c m:Nat)(h:A.Nodup)(hA: ∀x∈A,(x<b\/b+n<=x)/\(x<c\/c+m<=x))(hbc:b+n<=c):(A++((List.range n).map (b+ ·)++(List.range m).map (c+ ·))).Nodup:=by
 have hr: ∀b n,((List.range n).map (b+ ·)).Nodup:=fun b n=>by have:=Qet [] b n (by simp) (by simp);simpa using this
 rw[Zcr];refine⟨h,?_,fun x hx y hy=> ?_⟩
 .rw[Zcr];refine⟨hr _ _,hr _ _,fun x hx y hy=> ?_⟩;obtain⟨i,hi,rfl⟩:=ZaM.1 hx;obtain⟨j,hj,rfl⟩:=ZaM.1 hy
  have:=ZaR.1 hi
  omega
 .have:=hA x hx
  rcases Zar.1 hy with hy|hy
  .obtain⟨j,hj,rfl⟩:=ZaM.1 hy
   have:=ZaR.1 hj
   omega
  .obtain⟨j,hj,rfl⟩:=ZaM.1 hy
   have:=ZaR.1 hj
   omega
theorem Qyb(b:Nat)(G:List (List Int))(g:Nat)(h:g<G.length):hget (gpsH b G) (b+g)=some (true,.arr 2 1 ((G[g]?.getD []).map intC)):=Qcy _ _ _ _ h
theorem grH_out(b k:Nat)(L:List Int)(m:Nat)(h:m<b\/b+k<=m):hget (grH b L k) m=none:=Qmh _ _ _ _ h
theorem Qnb(k:Nat)(L:List Int)(G:List (List Int))(i:Nat)(h:i<k):hget (grH 1000 L k++gpsH 3000 G) (1000+i)=some (grE 1000 L i):=by
 rw[Qol,Qdi _ _ _ _ h];rfl
theorem Qne(k:Nat)(L:List Int)(G:List (List Int))(g:Nat)(hk:k<=512)(h:g<G.length):hget (grH 1000 L k++gpsH 3000 G) (3000+g)=some (true,.arr 2 1 ((G[g]?.getD []).map intC)):=by
 rw[Qol,grH_out _ _ _ _ (by omega),Qyb _ _ _ h];rfl
theorem keysH_gg(k:Nat)(L:List Int)(G:List (List Int)):Qg1 (grH 1000 L k++gpsH 3000 G)=(List.range k).map (1000+ ·)++(List.range G.length).map (3000+ ·):=by
 rw[Qpf,grH,gpsH,Qe0,Qe0]
def gI(k:Nat)(L:List Int)(i:Nat)(M:List (Int×Int))(G:List (List Int)):Qad:=⟨[(81,.im (.int .i64 i)),(80,.im (.int .i64 k)),(79,.own 2),(12,.mp 2001),(11,.own 2100)],(2001,(true,.map {agg:=false,ks:=[KK.int .i64]} (M.map mII)))::(2100,(true,.arrA 32 1 (Qch 3000 G.length)))::(2,(true,.arrA 237 1 (Qj1 1000 k k)))::(grH 1000 L k++gpsH 3000 G),4000⟩
theorem gI_good{k:Nat}{L:List Int}{i:Nat}{M:List (Int×Int)}{G:List (List Int)}(hk:k<=512)(hG:G.length<=512):(gI k L i M G).good=true:=by
 simp only[gI,Qad.good,belH,Qam,Qk6,Qmd,Qn9 1000 k 4000 _ (by omega),Qlg 1000 k k 4000 (by omega),Qnw 1000 k 4000 _ (by omega),Qdv 3000 G.length 4000 (by omega),gpsH_bel 3000 4000 G (by omega),gpsH_key 3000 4000 G (by omega)];simp[belT,AV.bel]
theorem Qxg{π:List (Nat×Option Nat)}{s:Qad}{k:Nat}{L:List Int}{i:Nat}{M:List (Int×Int)}{G:List (List Int)}{O:Nat}{T:Nat->Nat}(hk:k<=512)(hG:G.length<=512)
 (hge:geP 2002 π)(p1:pm π 2001=some 2001)(p2:pm π 2=some 2)(p3: ∀j,j<k->pm π (1000+j)=some (1000+j))(p4:pm π 2100=some O)(p5: ∀q,q<G.length->pm π (3000+q)=some (T q))
 (t1:tget s.tm 81= .im (.int .i64 i))(t2:tget s.tm 80= .im (.int .i64 k))(t3:tget s.tm 79= .own 2)(t4:tget s.tm 12= .mp 2001)(t5:tget s.tm 11= .own O)
 (g1:hget s.h 2001=some (true,.map {agg:=false,ks:=[KK.int .i64]} (M.map mII)))(g2:hget s.h 2=some (true,.arrA 237 1 (Qj1 1000 k k)))(g3: ∀j,j<k->hget s.h (1000+j)=some (grE 1000 L j))
 (g4:(G.length=0/\hget s.h O=some (true,.arr 32 1 []))\/hget s.h O=some (true,.arrA 32 1 ((List.range G.length).map fun q=>[.own (T q)])))
 (g5: ∀q,q<G.length->hget s.h (T q)=some (true,.arr 2 1 ((G[q]?.getD []).map intC)))
 (inj: ∀q q',q<G.length->q'<G.length->T q=T q'->q=q')(out: ∀q,q<G.length->T q≠O/\3000<=T q)(hO:2000<=O/\O≠2001):subP 2002 π s (gI k L i M G):=by
 refine⟨hge,?_,?_,?_⟩
 .rw[Qi7];simp only[gI,Qg1,keysH_gg];have hin: ∀x∈[2001,2100,2]++((List.range k).map (1000+ ·)++(List.range G.length).map (3000+ ·)),(x=2001/\pm π x=some 2001)\/(x=2/\pm π x=some 2)\/(x=2100/\pm π x=some O)\/(1000<=x/\x<1000+k/\pm π x=some x)\/(3000<=x/\x<3000+G.length/\pm π x=some (T (x - 3000))):=by
   intro x hx;rcases Zar.1 hx with hx|hx
   .simp only[Zax,Zec,Zff] at hx;rcases hx with rfl|rfl|rfl
    .exact .inl ⟨rfl,p1⟩
    .exact .inr (.inr (.inl ⟨rfl,p4⟩))
    .exact .inr (.inl ⟨rfl,p2⟩)
   .rcases Zar.1 hx with hx|hx
    .obtain⟨j,hj,rfl⟩:=ZaM.1 hx;have hj:=ZaR.1 hj;exact .inr (.inr (.inr (.inl ⟨by show 1000<=1000+j;omega,by show 1000+j<1000+k;omega,p3 j hj⟩)))
    .obtain⟨j,hj,rfl⟩:=ZaM.1 hx;have hj:=ZaR.1 hj;exact .inr (.inr (.inr (.inr ⟨by show 3000<=3000+j;omega,by show 3000+j<3000+G.length;omega,by show pm π (3000+j)=some (T (3000+j - 3000));rw[show 3000+j - 3000=j by omega];exact p5 j hj⟩)))
  refine Ql1 _ _ (nodup_two [2001,2100,2] 1000 k 3000 G.length (by simp) (by simp;omega) (by omega)) ?_;intro x hx y hy m hm1 hm2;rcases hin x hx with ⟨a1,a2⟩|⟨a1,a2⟩|⟨a1,a2⟩|⟨a0,a1,a2⟩|⟨a0,a1,a2⟩<;>rcases hin y hy with ⟨b1,b2⟩|⟨b1,b2⟩|⟨b1,b2⟩|⟨b0,b1,b2⟩|⟨b0,b1,b2⟩<;>
   rw[a2] at hm1<;>rw[b2] at hm2<;>have hm1:=Zaa hm1<;>have hm2:=Zaa hm2<;>first
   |omega
   |(have:=out (x - 3000) (by omega);omega)
   |(have:=out (y - 3000) (by omega);omega)
   |(have:=inj (x - 3000) (y - 3000) (by omega) (by omega) (hm1.trans hm2.symm);omega)
 .simp only[gI,Qpt,t1,t2,t3,t4,t5,mt,p2,p1,p4,ownM,Qga,Zcn]
 .simp only[gI,Qgb,Qns,p1,p2,p4,entN,g1,g2];refine⟨⟨rfl,rfl⟩,?_,⟨rfl,rfl,rfl,mtR_P p3⟩,?_,?_⟩
  .rcases g4 with ⟨h0,h1⟩|h1
   .rw[h1,h0];exact⟨rfl,rfl,rfl,trivial⟩
   .rw[h1];exact⟨rfl,rfl,rfl,Qyn p5 rfl⟩
  .rw[grH,Qgn];intro j hj;rw[p3 j hj,entN,g3 j hj];refine⟨rfl,?_⟩;simp only[grE,mtE,mtL,mt,Zcn,and_true,Zdk];simp only[ldV];split
   .simp only[mt,p3 _ (show (L[j]?.getD (-1)).toNat<k by omega),Qga]
   .rfl
  .rw[gpsH,Qgn];intro q hq;rw[p5 q hq,entN,g5 q hq];exact⟨rfl,rfl⟩
def grpPre(a:Int×List Bond):Prop:=0<=a.1/\a.1<=512/\Qdm a.1 a.2/\a.2.length<=1000000
def groupsBy_.fv(a:Int×(List Bond)):List (List Int):=(Qf2) (a.1) (a.2)
def groupsBy_.row:Row:=vK (b2 qI (qS Bond.d_le Bond.c_n)) (rS Qj4 Qaoj) (fun a=>grpPre (a.1,a.2)) groupsBy_.fv
def groupsBy_.q:=vKq (R:=groupsBy_.row) rfl
theorem groupsBy_.ok:Qas Tryz.prog 141 groupsBy_.row:=by
 refine vw (tC firC.ok tN) Tryz.func141 rfl (by kernel_rfl) ?_;intro a hpre;simp only[Tryz.f141,Option.getD];simp(maxSteps:=9^9)(disch:=omega)only[ZZ,simprocAttr,rch,groupsBy_.fv];obtain⟨h0,h1,hbs,hl⟩:=hpre;obtain⟨n,hn⟩: ∃n:Nat,a.1=n:=⟨a.1.toNat,by simp only at h0;omega⟩;obtain⟨bs,hbsd⟩: ∃bs,bs=a.2:=⟨_,rfl⟩;simp only[hn,<-hbsd,Zam] at h0 h1 hbs hl⊢;refine⟨h0,ZcY _,by omega,fun _=> ?_⟩;rw[ZbL];refine Qay.ren ⟨{k:Nat//k<=n},fun k=>⟨[(21,.im (.int .i64 k.1)),(20,.im (.int .i64 n)),(19,.own 2),(5,.own 2),(0,.im (.int .i64 n)),(1,.im (.sl false 3 (bs.map Bond.c)))],(2,(true,.arrA 237 1 (Qj1 1000 n k.1)))::grH 1000 (List.replicate n (-1)) k.1,2000⟩,fun k=>n - k.1,fun k=>⟨?_,by simp⟩,⟨⟨0,by simp⟩,[(2,some 1)],?_⟩,fun k=> ?_⟩
 .simp only[Qad.good,belH,Qam,Qn9 1000 k.1 2000 _ (by omega),Qlg 1000 n k.1 2000 (by omega),Qnw 1000 k.1 2000 _ (by omega)];simp[belT,AV.bel]
 .simp only[subP,grH,famH,List.range_zero,ZaV];simp(maxSteps:=9^9)(disch:=omega)only[ZZ,simprocAttr,rch,groupsBy_.fv,Zah,Zag];exact rowsP_nil _ _ _
 obtain⟨k,hk1⟩:=k;simp(maxSteps:=9^9)(disch:=omega)only[ZZ,simprocAttr,rch,groupsBy_.fv,sub,Qal,Qba,Qbx];refine⟨fun hk=>⟨hk,hk,?_⟩,fun hk=> ?_⟩
 .simp(maxSteps:=9^9)(disch:=omega)only[ZZ,simprocAttr,rch,groupsBy_.fv,sub,Qal,Qba,Qbx,Qtr,Zfc,ZbJ];refine⟨?_,⟨k+1,by omega⟩,[(1000+k,some 2000)],by simp only;omega,?_⟩
  .rw[ZaL];intro r hr;rcases Zcf hr with hr|hr
   .exact ZaL.1 (Qlg 1000 n k 2001 (by omega)) r hr
   .subst hr;simp[belL,AV.bel]
  have qi: ∀i,i≠1000+k->pm [(1000+k,some 2000)] i=some i:=by intro i hi;simp only[pm];rw[Zai (by omega)]
  have qk:pm [(1000+k,some 2000)] (1000+k)=some 2000:=by simp only[pm];rw[Zak trivial]
  obtain⟨π,hπ⟩: ∃π,π=[(1000+k,some 2000)]:=⟨_,rfl⟩;rw[<-hπ] at qi qk⊢;refine⟨by rw[hπ];exact⟨by omega,trivial⟩,?_,?_,?_⟩
  .rw[Qi7,hπ];simp only[Qg1,grH,Qe0];refine Ql1 _ _ (Qet [2] 1000 (k+1) (by simp) (by simp)) ?_;intro x hx y hy m hm1 hm2;have hx3:x<2000:=by
    rcases Zax.1 hx with hx|hx
    .omega
    .obtain⟨i,hi,rfl⟩:=ZaM.1 hx
     have:=ZaR.1 hi
     show 1000+i<2000;omega
   have hy3:y<2000:=by
    rcases Zax.1 hy with hy|hy
    .omega
    .obtain⟨i,hi,rfl⟩:=ZaM.1 hy
     have:=ZaR.1 hi
     show 1000+i<2000;omega
   simp only[pm] at hm1 hm2;split at hm1<;>split at hm2<;>simp only[Zab] at hm1 hm2<;>omega
  .simp only[Qpt,tget];simp(maxSteps:=9^9)(disch:=omega)only[ZZ,simprocAttr,rch,groupsBy_.fv,qi 2 (by omega)];rw[Qak (by omega) (by omega)];omega
  .simp only[Qgb,grH,Qgn];refine⟨?_,fun i hi=> ?_⟩
   .simp(maxSteps:=9^9)(disch:=omega)only[ZZ,simprocAttr,rch,groupsBy_.fv,qi 2 (by omega)];rw[Ql2];refine⟨by simp[Qbx],fun i x y hx hy=> ?_⟩;have hin:i<n:=by have:=(Zaj.1 hx).1;rwa [Qbx] at this
    rw[Qj7 _ _ _ _ hin] at hx;obtain rfl:=Zaa hx;by_cases hik:k=i
    .subst hik;rw[ZaE (by rw[Qbx];exact hk)] at hy;obtain rfl:=Zaa hy;rw[Zak (by omega)];simp only[mtL,mt,qk,Qga,Zcn]
    .rw[ZaH hik,Qj7 _ _ _ _ hin] at hy;obtain rfl:=Zaa hy;by_cases hlt:i<k
     .rw[Zak (by omega),Zak hlt];simp only[mtL,mt,qi (1000+i) (by omega),Qga,Zcn]
     .rw[Zai (by omega),Zai hlt];simp only[mtL,mt,Zcn]
   .have hg: ∀i,i<n->(List.replicate n (-1:Int))[i]?.getD (-1)= -1:=by
     intro i hi;rw[ZbB,Zak hi,Zad]
    have hld:ldV 1000 i (-1)= .im .nilp:=by simp only[ldV];rw[Zai (by omega)]
    simp only[grE,hg i (by omega),hld];by_cases hik:i=k
    .subst hik;rw[qk];simp(maxSteps:=9^9)(disch:=omega)only[ZZ,simprocAttr,rch,groupsBy_.fv]
    .rw[qi (1000+i) (by omega)];have h9:=Qdi 1000 k (List.replicate n (-1)) i (by omega);simp only[grE,hg i (by omega),hld,grH] at h9;simp (disch:=omega) only[entN,hget,Qao,Zbc,Qeg,ZcG,ZcN,ZcE,ZaB,ZbJ];rw[h9];simp only[entM,mtE,mtL,mt,Zcn]
 .intro _;have hkn:k=n:=by omega
  subst hkn;clear hk hk1;refine Qay.old ⟨{s:Nat×List Int//s.1<=bs.length/\s.2.length=k/\ldOk s.2/\ ∀i,i<k->(ownK k bs s.1)[i]? =some ((Qde s.2 i:Nat):Int)},fun s=>⟨[(33,.im (.int .i64 s.1.1)),(32,.im (.int .i64 bs.length)),(31,.im (.sl false 3 (bs.map Bond.c))),(5,.own 2),(0,.im (.int .i64 k))],(2,(true,.arrA 237 1 (Qj1 1000 k k)))::grH 1000 s.1.2 k,2000⟩,fun s=>bs.length - s.1.1,fun s=>⟨?_,by simp⟩,⟨⟨(0,List.replicate k (-1)),by simp only;omega,by simp,Qug k,fun i hi=>own_start hi⟩,?_⟩,fun s=> ?_⟩
  .simp only[Qad.good,belH,Qam,Qn9 1000 k 2000 _ (by omega),Qlg 1000 k k 2000 (by omega),Qnw 1000 k 2000 _ (by omega)];simp[belT,AV.bel]
  .simp only[sub,subT,tget];refine⟨?_,?_⟩
   .simp(maxSteps:=9^9)(disch:=omega)only[ZZ,simprocAttr,rch,groupsBy_.fv]
   .simp only[subH];refine⟨rfl,Qo5 fun i hi=> ?_⟩;simp only[hget,Qao _ _ (show 2≠1000+i by omega),Zbc];exact Qdi _ _ _ _ hi
  obtain⟨⟨j,L⟩,i1,i2,i3,i4⟩:=s;simp only at i1 i2 i3 i4;simp(maxSteps:=9^9)(disch:=omega)only[ZZ,simprocAttr,rch,groupsBy_.fv,sub,Qal,Qba,Qbx];refine⟨fun hj=>⟨hj,fun b hb=> ?_⟩,fun hj=> ?_⟩
  .obtain⟨b1,b2,b3,b4⟩:=hbs b (Zae hb);obtain⟨u,hu⟩: ∃u:Nat,b.A=u:=⟨b.A.toNat,by omega⟩;obtain⟨w,hw⟩: ∃w:Nat,b.B=w:=⟨b.B.toNat,by omega⟩;have huk:u<k:=by omega
   have hwk:w<k:=by omega
   have hru:=Qnj i3 u;have hrw:=Qnj i3 w;simp only[hu,hw,Zam];refine⟨by omega,by omega,huk,?_⟩;simp(maxSteps:=9^9)(disch:=omega)only[ZZ,simprocAttr,rch,groupsBy_.fv,sub,Qal,Qba,Qbx,Qtr,Zak huk,Zak hwk,hu,hw,Zam,Zfd];have hH: ∀(e e2:Ent) (i:Nat),i<k->hget ((2000,e)::(2,e2)::hdel (grH 1000 L k) [2000]) (1000+i)=some (grE 1000 L i):=by
    intro e e2 i hi;have h9:=Qdi 1000 k L i hi;simp (disch:=omega) only[hget,Qao,Zbc,Qeg,ZcG,ZcN,ZcE,ZaB,ZbJ,h9]
   refine⟨by omega,Qtp (nx:=2001) i2 (by omega) i3 huk (by decide) (hH _ _) (fun U=> ?_)⟩;simp(maxSteps:=9^9)(disch:=omega)only[ZZ,simprocAttr,rch,groupsBy_.fv,sub,Qal,Qba,Qbx,Qtr,Zak huk,Zak hwk,hu,hw,Zam,Qkf,Zfd];refine⟨by omega,hwk,hwk,by omega,Zak (.inl (by omega)),Qtp (nx:=2001) i2 (by omega) i3 hwk (by decide) (hH _ _) (fun U2=> ?_)⟩;obtain⟨x,hx⟩: ∃x,x=Qde L u:=⟨_,rfl⟩;obtain⟨y,hy⟩: ∃y,y=Qde L w:=⟨_,rfl⟩;rw[<-hx] at hru⊢;rw[<-hy] at hrw⊢;have gx:=Qdi 1000 k L x (by omega);have gy:=Qdi 1000 k L y (by omega);simp only[grE] at gx gy;simp(maxSteps:=9^9)(disch:=omega)only[ZZ,simprocAttr,rch,groupsBy_.fv,sub,Qal,Qba,Qbx,Qkf,Zfd,Qjf,Qao,Qce,gx,gy,ZeX (show 1000+x<2001 by omega),ZeX (show 1000+y<2001 by omega),Zbg];have hxr:Qde L x=x:=by rw[hx];exact Qls i3 u
   have hyr:Qde L y=y:=by rw[hy];exact Qls i3 w
   have ou:=i4 u huk;have ow:=i4 w hwk;rw[<-hx] at ou;rw[<-hy] at ow;have hS:ownK k bs (j+1)=(ownK k bs j).map (Qja (x:Int) (y:Int)):=by
    simp only[ownK,hb,Qnr,hu,hw,Zam,ou,ow,Zad]
   have hset: ∀(p q:Nat),p<q->q<k-> ∀(i:Nat),i<k->grE 1000 (L.set q (p:Int)) i=if i=q then (true,.cells 239 [.ptr (1000+p) 0,.im (.int .i64 q)]) else grE 1000 L i:=by
    intro p q hpq hq i hi;simp only[grE];by_cases h:i=q
    .subst h;rw[Zak rfl,ZaE (by omega),Zad];simp only[ldV];rw[Zak ⟨by omega,by omega⟩,Zam]
    .rw[Zai h,ZaH (ZcL h)]
   have hgrow: ∀(p q:Nat),p<q->q<k-> ∀(e e2:Ent) (tm:List (Nat×AV)),subH ⟨tm,(1000+q,(true,.cells 239 [.ptr (1000+p) 0,.im (.int .i64 q)]))::(2000,e)::(2,e2)::hdel (hdel (grH 1000 L k) [2000]) [1000+q],2001⟩ (grH 1000 (L.set q (p:Int)) k):=by
    intro p q hpq hq e e2 tm;refine Qo5 fun i hi=> ?_
    rw[hset p q hpq hq i hi];by_cases h:i=q
    .subst h;simp only[hget,ZeF,Zbl,Zbg]
    .rw[Zai h];have h9:=Qdi 1000 k L i hi;simp (disch:=omega) only[hget,Qao,Zbc,Qce,h9]
   refine⟨fun hxy=>⟨⟨(j+1,L.set y (x:Int)),by simp only;omega,by simp only[ZbN];exact i2,Qsx i3 hxy,fun i hi=> ?_⟩,by simp only;omega,by rw[Qak (by omega) (by omega)];simp only;omega,hgrow x y hxy (by omega) _ _ _⟩,fun hxy=>⟨fun hyx=>⟨⟨(j+1,L.set x (y:Int)),by simp only;omega,by simp only[ZbN];exact i2,Qsx i3 hyx,fun i hi=> ?_⟩,by simp only;omega,by rw[Qak (by omega) (by omega)];simp only;omega,hgrow y x hyx (by omega) _ _ _⟩,fun hyx=>⟨⟨(j+1,L),by simp only;omega,i2,i3,fun i hi=> ?_⟩,by simp only;omega,by rw[Qak (by omega) (by omega)];simp only;omega,?_⟩⟩⟩
   .rw[hS,ZaN,i4 i hi,ZaT,Qqx i3 hxr hyr hxy (by omega) i,(join_lt hxy _).1]
   .rw[hS,ZaN,i4 i hi,ZaT,Qqx i3 hyr hxr hyx (by omega) i,(join_lt hyx _).2]
   .rw[hS,ZaN,i4 i hi,ZaT,show y=x by omega,join_eq]
   .refine Qo5 fun i hi=> ?_
    have h9:=Qdi 1000 k L i hi;simp (disch:=omega) only[hget,Qao,Zbc,Qce,h9]
  .have hjb:j=bs.length:=by omega
   subst hjb;obtain⟨own,hown⟩: ∃own,own=ownK k bs bs.length:=⟨_,rfl⟩;rw[<-hown] at i4;intro _;refine Qay.ren ⟨{s:Nat×List (Int×Int)//s.1<=k/\Qpc (Qa7 own s.1 s.1) s.2},fun s=>gI k L s.1.1 s.1.2 (Qa7 own s.1.1 s.1.1),fun s=>k - s.1.1,fun s=>⟨?_,by simp[gI]⟩,⟨⟨(0,[]),by simp only;omega,?_⟩,[(2100,some 2000)],?_⟩,fun s=> ?_⟩
   .have hgl:=Qig own s.1.1 s.1.1;have hs:=s.2.1;exact gI_good (by omega) (by omega)
   .exact⟨fun r v h=>(by cases h),fun g r rest h=>(by simp[Qa7] at h)⟩
   .refine Qxg (O:=2000) (T:=fun q=>3000+q) (by omega) (by simp[Qa7]) ⟨by omega,trivial⟩ rfl rfl (fun j hj=> ?_) rfl (fun q hq=>(by simp[Qa7] at hq)) rfl rfl rfl rfl rfl rfl rfl (fun j hj=> ?_) (.inl ⟨rfl,rfl⟩) (fun q hq=>(by simp[Qa7] at hq)) (fun q q' hq=>(by simp[Qa7] at hq)) (fun q hq=>(by simp[Qa7] at hq)) (by omega)
    .simp only[pm];rw[Zai (by omega)]
    .have h9:=Qdi 1000 k L j hj;simp (disch:=omega) only[hget,Qao,Zbc,h9]
   obtain⟨⟨i,M⟩,q1,q2⟩:=s;simp only at q1 q2;simp only[gI];have hGl:=Qig own i i;simp(maxSteps:=9^9)(disch:=omega)only[ZZ,simprocAttr,rch,groupsBy_.fv,sub,Qal,Qba,Qbx];refine⟨fun hi=>⟨hi,hi,?_⟩,fun hi=> ?_⟩
   .simp(maxSteps:=9^9)(disch:=omega)only[ZZ,simprocAttr,rch,groupsBy_.fv,sub,Qal,Qba,Qbx,Qtr,Zak hi];have hH: ∀(e1 e2 e3:Ent) (j:Nat),j<k->hget ((2001,e1)::(2100,e2)::(2,e3)::(grH 1000 L k++gpsH 3000 (Qa7 own i i))) (1000+j)=some (grE 1000 L j):=by
     intro e1 e2 e3 j hj;have h9:=Qnb k L (Qa7 own i i) j hj;simp (disch:=omega) only[hget,Qao,Zbc,h9]
    have ho:=i4 i hi;obtain⟨r,hr⟩: ∃r,r=Qde L i:=⟨_,rfl⟩;have hri:r<=i:=by rw[hr];exact Qnj i3 i
    have hrr:own[r]? =some (r:Int):=by
     have:=i4 r (by omega)
     rwa [hr,Qls i3 i,<-hr] at this
    rw[<-hr] at ho;have gr:=Qnb k L (Qa7 own i i) r (by omega);simp only[grE] at gr;refine⟨by omega,by omega,by omega,Qtp (nx:=4000) i2 (by omega) i3 hi (by omega) (hH _ _ _) (fun U=> ?_)⟩;rw[<-hr];simp(maxSteps:=9^9)(disch:=omega)only[ZZ,simprocAttr,rch,groupsBy_.fv,sub,Qal,Qjf,Qba,Qbx,Qbj,Qao,gr,lkVC_ii,ZeX (show 1000+r<4000 by omega),Zbg];refine⟨fun v hv=> ?_,fun hn=> ?_⟩
    .obtain⟨g,rest,rfl,hg⟩:=q2.a _ v hv;have hgl:=(Zaj.1 hg).1;have hGl:=Qig own i i;have gg:=Qne k L (Qa7 own i i) g (by omega) hgl;rw[hg,Zad] at gg;simp(maxSteps:=9^9)(disch:=omega)only[ZZ,simprocAttr,rch,groupsBy_.fv,sub,Qal,Qjf,Qba,Qbx,Qbj,Qao,gg,Zam,Qxa];obtain⟨e1,e2⟩:=grps_old q2 ho hg;obtain⟨G,hG⟩: ∃G,G=Qa7 own i i:=⟨_,rfl⟩;rw[<-hG] at hg hgl hGl e1 gg⊢;have hset:(Qch 3000 G.length).set g [AV.own 4001]=(List.range G.length).map fun q=>[AV.own (if q=g then 4001 else 3000+q)]:=by
      apply Zci;intro j;rw[ZaN];by_cases hj:j<G.length
      .rw[Zce hj];by_cases h:g=j
       .subst h;rw[ZaE (by rw[Qbj];exact hgl)];simp
       .rw[ZaH h,Qo7 _ _ _ hj,ZaT,Zai (ZcL h)]
      .rw[ZaZ (by simp[Qbj];omega),ZaZ (by simp;omega)];rfl
     refine⟨hgl,hgl,by omega,?_,by omega,?_,hgl,hgl,?_,⟨(i+1,M),by simp only;omega,e2⟩,[(3000+g,some 4001)],by simp only;omega,?_⟩
     .intro row hrow;obtain rfl:=Zat.1 hrow;rfl
     .have h6:(r::rest:List Int).length<=1000:=Zba (by rw[hG] at hg;exact Qy0 own i i _ (Zae hg)) (by omega);simp only[ZaF] at h6;omega
     .rw[ZaL];intro row hrow;rcases Zcf hrow with hr|hr
      .exact ZaL.1 (Qdv 3000 G.length 4002 (by omega)) row hr
      .subst hr;simp[belL,AV.bel]
     have pn: ∀m,m≠3000+g->pm [(3000+g,some 4001)] m=some m:=by intro m hm;simp only[pm];rw[Zai (ZcL hm)]
     simp only[e1];rw[Qak (by omega) (by omega)];have hh: ∀(e1 e2 e3 e4 e5:Ent) (m:Nat),hget ((2100,e1)::(4001,e2)::(4000,e3)::(2001,e4)::(2,e5)::hdel (hdel (grH 1000 L k++gpsH 3000 G) [3000+g]) [2100]) m=if m=2100 then some e1 else if m=4001 then some e2 else if m=4000 then some e3 else if m=2001 then some e4 else if m=2 then some e5 else if m=3000+g then none else hget (grH 1000 L k++gpsH 3000 G) m:=by
      intro e1 e2 e3 e4 e5 m;simp only[hget,Qeg,ZcG,ZcN,ZcE,ZdD,ZeE];by_cases h1:m=2100
      .subst h1;simp
      by_cases h2:m=4001
      .subst h2;simp
      by_cases h3:m=4000
      .subst h3;simp
      by_cases h4:m=2001
      .subst h4;simp
      by_cases h5:m=2
      .subst h5;simp
      simp only[Zai h1,Zai h2,Zai h3,Zai h4,Zai h5,Zai (ZcL h1),Zai (ZcL h2),Zai (ZcL h3),Zai (ZcL h4),Zai (ZcL h5)]
     refine Qxg (O:=2100) (T:=fun q=>if q=g then 4001 else 3000+q) (by omega) (by rw[ZbN];omega) ⟨by omega,trivial⟩ (pn _ (by omega)) (pn _ (by omega)) (fun j hj=>pn _ (by omega)) (pn _ (by omega)) (fun q hq=> ?_) rfl rfl rfl rfl rfl ?_ ?_ (fun j hj=> ?_) (.inr ?_) (fun q hq=> ?_) (fun q q' hq=> ?_) (fun q hq=> ?_) (by omega)
     .by_cases h:q=g
      .subst h;simp[pm]
      .rw[pn _ (by omega),Zai h]
     .rw[hh];rfl
     .rw[hh];rfl
     .rw[hh,Zai (by omega),Zai (by omega),Zai (by omega),Zai (by omega),Zai (by omega),Zai (by omega)];exact Qnb _ _ _ _ hj
     .rw[hh,Zak rfl,hset,ZbN]
     .rw[ZbN] at hq;rw[hh];by_cases h:q=g
      .subst h;rw[Zak rfl,Zai (by omega),Zak rfl,ZaE hgl,Zad];simp[intC]
      .rw[Zai h,Zai (by omega),Zai (by omega),Zai (by omega),Zai (by omega),Zai (by omega),Zai (by omega),ZaH (ZcL h)];exact Qne _ _ _ _ (by omega) hq
     .rw[ZbN] at hq;intro hq2 he;rw[ZbN] at hq2;by_cases h:q=g<;>by_cases h2:q'=g<;>simp only[h,h2,Zbg,ZbJ] at he⊢ <;>omega
     .rw[ZbN] at hq;by_cases h:q=g<;>simp only[h,Zbg,ZbJ]<;>omega
    .obtain⟨hri2,e1,e2⟩:=grps_new q2 ho hri hrr hn;have hrow:(Qch 3000 (Qa7 own i i).length++[[AV.im (D.sl true 0 [])]])[(Qa7 own i i).length]? =some [AV.im (D.sl true 0 [])]:=by
      rw[ZaI (by rw[Qbj];exact Zal _),Qbj,Zca];rfl
     have hall: ∀N,4000<=N->(Qch 3000 (Qa7 own i i).length++[[AV.im (D.sl true 0 [])]]).all (belL N)=true:=by
      intro N hN;rw[ZdP,Qdv _ _ _ (by omega)];rfl
     intro _;refine⟨?_,by omega,hall _ (by omega),by simp[Qbj],by simp[Qbj],Qi3 hrow ?_⟩
     .intro row hrow;obtain rfl:=Zat.1 hrow;rfl
     have hset:(Qch 3000 (Qa7 own i i).length++[[AV.im (D.sl true 0 [])]]).set (Qa7 own i i).length [AV.own 4003]=Qch 3000 (Qa7 own i i).length++[[AV.own 4003]]:=by
      have: ∀(l:List (List AV)) n x y,l.length=n->(l++[x]).set n y=l++[y]:=by
       intro l n x y h;subst h;rw[Zdf _ _ (Zal _),Zca];rfl
      exact this _ _ _ _ (Qbj _ _)
     have hall2: ∀N,4003<N->(Qch 3000 (Qa7 own i i).length++[[AV.own 4003]]).all (belL N)=true:=by
      intro N hN;rw[ZdP,Qdv _ _ _ (by omega)];simp[belL,AV.bel];omega
     simp(maxSteps:=9^9)(disch:=omega)only[ZZ,simprocAttr,rch,groupsBy_.fv,sub,Qal,Qjf,Qba,Qbx,Qbj,Qao];refine⟨?_,by simp[Qbj],by simp[Qbj],Qi3 hrow ?_⟩
     .intro row hrow;obtain rfl:=Zat.1 hrow;rfl
     simp(maxSteps:=9^9)(disch:=omega)only[ZZ,simprocAttr,rch,groupsBy_.fv,sub,Qal,Qjf,Qba,Qbx,Qbj,Qao,hset];refine⟨hall2 _ (by omega),⟨(i+1,M++[((i:Int),((Qa7 own i i).length:Int))]),by simp only;omega,by simp only;exact e2⟩,[(2100,some 4001),(3000+(Qa7 own i i).length,some 4003)],by simp only;omega,?_⟩;simp only[e1];obtain⟨G,hG⟩: ∃G,G=Qa7 own i i:=⟨_,rfl⟩;simp only[<-hG] at hGl⊢;rw[Qak (by omega) (by omega)];have pn: ∀m,m≠2100->m≠3000+G.length->pm [(2100,some 4001),(3000+G.length,some 4003)] m=some m:=by intro m hm hm2;simp only[pm];rw[Zai (ZcL hm),Zai (ZcL hm2)]
     have hh: ∀(e1 e2 e3 e4 e5 e6:Ent) (m:Nat),hget ((4001,e1)::(4003,e2)::(4002,e3)::(4000,e4)::(2001,e5)::(2,e6)::hdel (hdel (hdel (grH 1000 L k++gpsH 3000 G) [2001]) [2100]) [4001]) m=if m=4001 then some e1 else if m=4003 then some e2 else if m=4002 then some e3 else if m=4000 then some e4 else if m=2001 then some e5 else if m=2 then some e6 else if m=2100 then none else hget (grH 1000 L k++gpsH 3000 G) m:=by
      intro e1 e2 e3 e4 e5 e6 m;simp only[hget,Qeg,ZcG,ZcN,ZcE,ZdD,ZeE];by_cases h1:m=4001
      .subst h1;simp
      by_cases h2:m=4003
      .subst h2;simp
      by_cases h3:m=4002
      .subst h3;simp
      by_cases h4:m=4000
      .subst h4;simp
      by_cases h5:m=2001
      .subst h5;simp
      by_cases h6:m=2
      .subst h6;simp
      simp only[Zai h1,Zai h2,Zai h3,Zai h4,Zai h5,Zai h6,Zai (ZcL h1),Zai (ZcL h2),Zai (ZcL h3),Zai (ZcL h4),Zai (ZcL h5),Zai (ZcL h6)]
     have hlen:(G++[[(i:Int)]]).length=G.length+1:=by simp
     refine Qxg (O:=4001) (T:=fun q=>if q<G.length then 3000+q else 4003) (by omega) (by rw[hlen];omega) ⟨by omega,by omega,trivial⟩ (pn _ (by omega) (by omega)) (pn _ (by omega) (by omega)) (fun j hj=>pn _ (by omega) (by omega)) (by simp[pm]) (fun q hq=> ?_) rfl rfl rfl rfl rfl ?_ ?_ (fun j hj=> ?_) (.inr ?_) (fun q hq=> ?_) (fun q q' hq=> ?_) (fun q hq=> ?_) (by omega)
     .rw[hlen] at hq;by_cases h:q<G.length
      .rw[pn _ (by omega) (by omega),Zak h]
      .obtain rfl:q=G.length:=by omega
       rw[Zai h];simp only[pm];rw[Zai (by omega),Zak trivial]
     .rw[hh,<-hri2,<-upd_mII _ _ _ hn];rfl
     .rw[hh];rfl
     .rw[hh,Zai (by omega),Zai (by omega),Zai (by omega),Zai (by omega),Zai (by omega),Zai (by omega),Zai (by omega)];exact Qnb _ _ _ _ hj
     .rw[hh,Zak rfl,Ql0,hlen]
     .rw[hlen] at hq;rw[hh];by_cases h:q<G.length
      .rw[Zak h,Zai (by omega),Zai (by omega),Zai (by omega),Zai (by omega),Zai (by omega),Zai (by omega),Zai (by omega),ZaG h];exact Qne _ _ _ _ (by omega) h
      .obtain rfl:q=G.length:=by omega
       rw[Zai h,Zai (by omega),Zak rfl,ZaI (Zal _),Zca];rfl
     .rw[hlen] at hq;intro hq2 he;rw[hlen] at hq2;by_cases h:q<G.length<;>by_cases h2:q'<G.length<;>simp only[h,h2,Zbg,ZbJ] at he⊢ <;>omega
     .by_cases h:q<G.length<;>simp only[h,Zbg,ZbJ]<;>omega
   .have hik:i=k:=by omega
    subst hik;rw[Qf2,Zam,<-hown];rw[cvt_rowsF (m:=7) (G:=Qa7 own i i)]
    .simp(maxSteps:=9^9)(disch:=omega)only[ZZ,simprocAttr,rch,groupsBy_.fv]
    .intro q hq;have h9:=Qne i L (Qa7 own i i) q (by omega) hq;simp (disch:=omega) only[hget,Qao,Zbc,h9]
def Qf3(nm:List Int):List Bond->List Bond
 |[]=>[]
 |b::r=>if nmOf nm b.A=nmOf nm b.B then Qf3 nm r else ⟨nmOf nm b.A,nmOf nm b.B,b.Strength⟩::Qf3 nm r
theorem Qvj(nm:List Int): ∀(a b:List Bond),Qf3 nm (a++b)=Qf3 nm a++Qf3 nm b
 |[],b=>rfl
 |x::r,b=>by simp only[ZaJ,Qf3,Qvj nm r b];split<;>rfl
theorem Qpl(nm:List Int): ∀(a:List Bond),(Qf3 nm a).length<=a.length
 |[]=>Zal _
 |x::r=>by have:=Qpl nm r;simp only[Qf3];split<;>simp only[ZaF]<;>omega
theorem Qab6(nm:List Int){bs:List Bond}{k:Nat}{b:Bond}(h:bs[k]? =some b):Qf3 nm (bs.take (k+1))=Qf3 nm (bs.take k)++if nmOf nm b.A=nmOf nm b.B then [] else [⟨nmOf nm b.A,nmOf nm b.B,b.Strength⟩]:=by
 rw[Zbu,h];simp only[ZcT,Qvj,Qf3]
def conN(n:Int)(bs:List Bond)(t:Int):Int×List Bond:=((Qd2 n bs t).length,Qf3 (Qoz n.toNat (Qd2 n bs t)) bs)
theorem dlC.H0_dom(a:List Bond×Int)(j:Nat):domB (dlC.H0 a) j=true↔j<1:=by
 simp only[domB,dlC.H0,hget];by_cases h0:j=0
 .subst h0;simp
 .have e0:(0==j)=false:=by simp;omega
  simp[e0];omega
def contr.fv(a:Int×(List Bond)×Int):Int×(List Bond):=(conN) (a.1) (a.2.1) (a.2.2)
def contr.row:Row:=vK (b3 qI (qS Bond.d_le Bond.c_n) qI) (r2 rI (rS Bond.d_le Bond.c_n)) (fun a=>0<=a.1/\a.1<=512/\Qdm a.1 a.2.1/\a.2.1.length<=1000000) contr.fv
def contr.q:=vKq (R:=contr.row) rfl
def YaF:=J @contr.fv.eq_1 (J @groupsBy_.q @groupsBy_.fv.eq_1)
theorem contr.ok:Qas Tryz.prog 133 contr.row:=by
 refine vw (tC clobC.ok (tC dlC.ok (tC groupsBy_.ok tN))) Tryz.func133 rfl (by kernel_rfl) ?_;intro a hpre;simp only[Tryz.f133,Option.getD];simp(maxSteps:=9^9)(disch:=omega)only[ZZ,simprocAttr,rch,YaF];obtain⟨h0,h1,hbs,hbl⟩:=hpre;obtain⟨n,hn⟩: ∃n:Nat,a.1=n:=⟨a.1.toNat,by omega⟩;obtain⟨bs,hbsd⟩: ∃bs,bs=a.2.1:=⟨_,rfl⟩;obtain⟨t,ht⟩: ∃t,t=a.2.2:=⟨_,rfl⟩;simp only[hn,<-hbsd,<-ht] at h0 h1 hbs hbl⊢;refine orow.os bs [] hbl (fun j=>by simp[domB,hget]) rfl rfl ?_ ?_
 .simp(maxSteps:=9^9)(disch:=omega)only[ZZ,simprocAttr,rch,YaF,clobC.ca,Qer]
 simp(maxSteps:=9^9)(disch:=omega)only[ZZ,simprocAttr,rch,YaF,clobC.H1,sub];left;refine orow.os (bs,t) [2] hbl (fun j=>dlC.H0_dom _ j) rfl rfl ?_ ?_
 .simp(maxSteps:=9^9)(disch:=omega)only[ZZ,simprocAttr,rch,YaF,dlC.ca,dlC.H0,Zbg,Zbi]
 simp(maxSteps:=9^9)(disch:=omega)only[ZZ,simprocAttr,rch,YaF,dlC.H1,sub];have hpre2:grpPre ((n:Int),Qdc t bs):=⟨by simp only;omega,by simp only;omega,fun b hb=>hbs b (ZcQ.1 hb).1,by have:=Qln t bs;simp only;omega⟩;refine⟨hpre2,by omega,?_⟩;obtain⟨gs,hgs⟩: ∃gs,gs=Qf2 (n:Int) (Qdc t bs):=⟨_,rfl⟩;have hgm: ∀r∈gs,∀v∈r,0<=v/\v<n:=by rw[hgs];exact Qps n _
 simp only[<-hgs];intro hgl;refine Qay.old ⟨{i:Nat//i<=gs.length},fun i=>⟨[(27,.im (.int .i64 i.1)),(26,.im (.int .i64 gs.length)),(25,.im (.sl false 1 (gs.map Qcd))),(9,.own 1022),(8,.im (.sl false 1 (gs.map Qcd))),(1,.im (.sl false 3 (bs.map Bond.c)))],[(1022,(true,.arr 2 1 ((Qjt gs (List.replicate n 0) i.1).map intC)))],1023⟩,fun i=>gs.length - i.1,fun i=>⟨by simp[Qad.good,belT,belH,Qam,AV.bel,belL],by simp⟩,⟨⟨0,by simp⟩,?_⟩,fun i=> ?_⟩
 .simp(maxSteps:=9^9)(disch:=omega)only[ZZ,simprocAttr,rch,YaF,sub,Qjt,Qot]
 obtain⟨i,hi1⟩:=i;simp(maxSteps:=9^9)(disch:=omega)only[ZZ,simprocAttr,rch,YaF,sub,Qal];refine⟨fun hi=>⟨hi,fun r hr=> ?_⟩,fun hi=> ?_⟩
 .have hrm:=hgm r (Zae hr);obtain⟨l,hl⟩: ∃l,l=Qjt gs (List.replicate n 0) i:=⟨_,rfl⟩;have hll:l.length=n:=by rw[hl,Qij,ZbL]
  simp only[<-hl];intro hrl;refine Qay.old ⟨{k:Nat//k<=r.length},fun k=>⟨[(34,.im (.int .i64 k.1)),(33,.im (.int .i64 r.length)),(32,.im (.sl false 1 (r.map intC))),(10,.im (.int .i64 i)),(27,.im (.int .i64 i)),(26,.im (.int .i64 gs.length)),(25,.im (.sl false 1 (gs.map Qcd))),(9,.own 1022),(8,.im (.sl false 1 (gs.map Qcd))),(1,.im (.sl false 3 (bs.map Bond.c)))],[(1022,(true,.arr 2 1 ((Qmz i r l k.1).map intC)))],1023⟩,fun k=>r.length - k.1,fun k=>⟨by simp[Qad.good,belT,belH,Qam,AV.bel,belL],by simp⟩,⟨⟨0,by simp⟩,?_⟩,fun k=> ?_⟩
  .simp(maxSteps:=9^9)(disch:=omega)only[ZZ,simprocAttr,rch,YaF,sub,Qmz]
  obtain⟨k,hk1⟩:=k;have hnl:=Qkb (i:Int) r l k;simp(maxSteps:=9^9)(disch:=omega)only[ZZ,simprocAttr,rch,YaF,sub,Qal,hr,hnl,Qdj];refine⟨fun hk=>⟨hk,fun v hv=> ?_⟩,fun hk=> ?_⟩
  .obtain⟨v1,v2⟩:=hrm v (Zae hv);refine⟨v1,by omega,by omega,fun _ _=>⟨⟨k+1,by omega⟩,by simp only;omega,by rw[Qak (by omega) (by omega)];simp only;omega,?_⟩⟩;simp only[Qmz,hv,Zad]
  .have:k=r.length:=by omega
   refine⟨⟨i+1,by omega⟩,by simp only;omega,by rw[Qak (by omega) (by omega)];simp only;omega,?_⟩;simp only[Qjt,hr,Zad,<-hl,this]
 .have hie:i=gs.length:=by omega
  subst hie;obtain⟨nm,hnm⟩: ∃nm,nm=Qjt gs (List.replicate n 0) gs.length:=⟨_,rfl⟩;have hnl:nm.length=n:=by rw[hnm,Qij,ZbL]
  simp only[<-hnm];intro hbl2;refine Qay.ren ⟨{k:Nat//k<=bs.length},fun k=>⟨[(46,.im (.int .i64 k.1)),(45,.im (.int .i64 bs.length)),(44,.im (.sl false 3 (bs.map Bond.c))),(14,.own 1024),(9,.own 1022),(8,.im (.sl false 1 (gs.map Qcd)))],[(1024,(true,.arr 193 3 ((Qf3 nm (bs.take k.1)).map Bond.c))),(1022,(true,.arr 2 1 (nm.map intC)))],1025⟩,fun k=>bs.length - k.1,fun k=>⟨by simp[Qad.good,belT,belH,Qam,AV.bel,belL],by simp⟩,⟨⟨0,by simp⟩,[(1024,some 1023)],?_⟩,fun k=> ?_⟩
  .simp only[subP];simp(maxSteps:=9^9)(disch:=omega)only[ZZ,simprocAttr,rch,YaF,Zah,Zag];rfl
  obtain⟨k,hk1⟩:=k;have hsl:=Qpl nm (bs.take k);rw[Zav] at hsl;simp(maxSteps:=9^9)(disch:=omega)only[ZZ,simprocAttr,rch,YaF,sub,Qal,Qag,Qac,Qaf,allD,D.one,Zbn,Zcn,Zdk];refine⟨fun hk=>⟨hk,fun b hb=> ?_⟩,fun hk=> ?_⟩
  .obtain⟨b1,b2,b3,b4⟩:=hbs b (Zae hb);refine⟨b1,by omega,by omega,fun x hx=>⟨b3,by omega,by omega,fun y hy=> ?_⟩⟩;have e1:nmOf nm b.A=x:=by simp only[nmOf,hx,Zad]
   have e2:nmOf nm b.B=y:=by simp only[nmOf,hy,Zad]
   have hsu:=Qab6 nm hb;rw[e1,e2] at hsu;refine⟨fun hxy=>⟨b1,by omega,by omega,fun x' hx'=>⟨b3,by omega,by omega,fun y' hy'=>⟨by omega,⟨k+1,by omega⟩,[(1024,some 1027)],by simp only;omega,?_⟩⟩⟩,fun hxy=>⟨⟨k+1,by omega⟩,[],by simp only;omega,?_⟩⟩
   .rw[hx] at hx';rw[hy] at hy';obtain rfl:=Zaa hx';obtain rfl:=Zaa hy';simp only[subP];simp(maxSteps:=9^9)(disch:=omega)only[ZZ,simprocAttr,rch,YaF,Zah,Zag,hsu];rw[Qak (by omega) (by omega),Zai hxy];simp[Bond.c]
   .simp only[subP];simp(maxSteps:=9^9)(disch:=omega)only[ZZ,simprocAttr,rch,YaF,Zah,Zag,hsu];rw[Qak (by omega) (by omega),Zak (ZaY.1 hxy),ZaK];simp
  .have:k=bs.length:=by omega
   subst this;rw[Zbx];intro _;simp only[conN,Qd2,Qoz,Zam,<-hgs,<-hnm]
end Go.Ae
