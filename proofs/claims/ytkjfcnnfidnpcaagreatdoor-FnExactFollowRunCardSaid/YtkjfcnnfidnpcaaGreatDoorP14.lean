/- Lemmas. Conditions: none. -/
import Derived.Test.YtkjfcnnfidnpcaaGreatDoorP13
set_option linter.all false
set_option maxHeartbeats 8000000
set_option maxRecDepth 100000
namespace Go.Ae
open Go.Proofs
def jO{s:AG}(c1:EP s=true):s.Seed.Tiles.length<=500:=(HU (QB c1).2.2).2
def grsI.ca(a:AG×List Int×Int):List AV:=[.im (.agg (AG.c a.1)),.im (.sl false 1 (a.2.1.map Aj)),.im (.int .i64 a.2.2)]
def grsI.H1(a:AG×List Int×Int):Ao:=Gm (E6 a.1 a.2.1 a.2.2)
def grsI.row:Ay:=AA grsI.ca (λ_=>[]) 0 (λa=>QQ a.1.Set) (λ_=>false) (λa=>G9 (E6 a.1 a.2.1 a.2.2)) grsI.H1 20
def grsI.ok:A9 29 grsI.row:=by
 refine Qr (tC validI_.ok (tC vSch_.ok (tC within_.ok (tC grnI.ok tN)))) Tryz.func29 (exB:=LW) (R:=λa r=>r=G9 (E6 a.1 a.2.1 a.2.2)) (λ_=>rfl)
  (λa=>by simp[grsI.ca,AG.c,AE,AV.bel,Au,BB,BU]) (λa p hp=> ?_) (λa r h=>by subst h;exact CN.refl _) ?_
 rotate_left
 intro a z;simp only[Tryz.f29,grsI.ca,AG.c];simp only[ZA,simprocAttr,CS,validI_.q,validI_.fv,vSch_.q,vSch_.fv,within_.q,within_.fv,F3,AG.c];obtain⟨s,l,n⟩:=a;simp only at z⊢;refine⟨z,?_⟩;simp only[oT];by_cases c1:EP s=true
 case neg=>
  rw[Ak (by simpa using c1)];have O:E6 s l n=([],⟨[]⟩,1):=by simp only[E6];rw[Ak (by simpa using c1)]
  refine⟨[],[(0,some 3),(1,none),(2,some 2)],⟨[(6,.own 0),(7,.ptr 2 0),(8,.im (.int .i64 1))],[(2,(true,.cells 38 [.own 1])),(0,(true,.arr 72 3 ([]))),(1,(true,.arr 97 3 ([])))],3⟩,?_,by simp[ZG],by simp,?_⟩
  .simp only[Aw];simp only[ZA,simprocAttr,Br,Qh]
   try simp
  .simp only[ZA,simprocAttr,LW,G9,grsI.H1,O,Gm]
   try simp
 rw[Ad (by simpa using c1)];by_cases Q:DZ l=true
 case neg=>
  rw[Ad Q];have O:E6 s l n=([],⟨[]⟩,2):=by simp only[E6];rw[Ad (by simp[c1]),Ak (.inl (by simpa using Q))]
  refine⟨[],[(0,some 3),(1,none),(2,some 2)],⟨[(6,.own 0),(7,.ptr 2 0),(8,.im (.int .i64 2))],[(2,(true,.cells 38 [.own 1])),(0,(true,.arr 72 3 ([]))),(1,(true,.arr 97 3 ([])))],3⟩,?_,by simp[ZG],by simp,?_⟩
  .simp only[Aw];simp only[ZA,simprocAttr,Br,Qh]
   try simp
  .simp only[ZA,simprocAttr,LW,G9,grsI.H1,O,Gm]
   try simp
 rw[Ak Q];by_cases Z:AW n 0 500=false
 .rw[Ak Z];have O:E6 s l n=([],⟨[]⟩,2):=by simp only[E6];rw[Ad (by simp[c1]),Ak (.inr Z)]
  refine⟨[],[(0,some 3),(1,none),(2,some 2)],⟨[(6,.own 0),(7,.ptr 2 0),(8,.im (.int .i64 2))],[(2,(true,.cells 38 [.own 1])),(0,(true,.arr 72 3 ([]))),(1,(true,.arr 97 3 ([])))],3⟩,?_,by simp[ZG],by simp,?_⟩
  .simp only[Aw];simp only[ZA,simprocAttr,Br,Qh]
   try simp
  .simp only[ZA,simprocAttr,LW,G9,grsI.H1,O,Gm]
   try simp
 rw[Ad Z];have c4:0<=n/\n<=500:=by simpa[AW] using Z
 obtain⟨m,rfl⟩: ∃m:Nat,n=m:=⟨n.toNat,by omega⟩;obtain⟨w,hw⟩: ∃w,w=E6 s l m:=⟨_,rfl⟩;have O:KA (s,l,m)=w:=by
  rw[hw];simp only[KA,E6];rw[Ad (by simp[c1]),Ad (λh=>h.elim (λh=>by rw[Q] at h;cases h) Z),B5]
 refine AA.os (s,l,m) [] ⟨c1,Q,by simp only;omega⟩ (λj=>by simp[Al,hget]) rfl rfl ?_ ?_
 .simp only[ZA,simprocAttr,AG.c,grnI.ca,CO,AG.c]
  try exact⟨rfl,rfl,rfl⟩
 simp only[ZA,simprocAttr,F3,grnI.H1,Gm,G9,O,<-hw];refine⟨[],[(0,some 3),(1,some 4),(2,some 2)],⟨[(6,.own 0),(7,.ptr 2 0),(8,.im (.int .i64 w.2.2))],[(2,(true,.cells 38 [.own 1])),(0,(true,.arr 72 3 (w.1.map AD.c))),(1,(true,.arr 97 3 (w.2.1.Tiles.map Ah.c)))],3⟩,?_,by simp[ZG],by simp,?_⟩
 .simp only[Aw];simp only[ZA,simprocAttr,Br]
  try simp
 .simp only[ZA,simprocAttr,LW,grsI.H1,<-hw,Gm]
  try simp
 simp[grsI.H1,Gm] at hp;rcases hp with rfl|rfl
 .exact .inr ⟨by omega,by omega,rfl,rfl⟩
 .exact .inr ⟨by omega,by omega,rfl,rfl⟩
def schS_.fv(a:(List Int)):Bool:=(DZ) a
def schS_.row:Ay:=vK (b1 (qS DO Dc)) rB (λa=>True) schS_.fv
def schS_.q:=AT (R:=schS_.row) rfl
def schS_.ok:A9 43 schS_.row:=by
 refine vw (tC l00In.ok tN) Tryz.func43 ?_;intro a Q;simp only[Tryz.f43];simp only[ZA,simprocAttr,schS_.fv];intro _;by_cases c:a.length<=200
 case neg=>
  rw[Ak (by omega)];simp only[DZ,mM c,Fo]
 rw[Ad (by omega)];have hw:DZ a= !a.any Es:=by simp only[DZ,Oi c,DB]
 rw[hw];refine AU.old ⟨{k:Nat//k<=a.length/\(a.drop k).any Es=a.any Es},λk=>⟨[(3,.im (.int .i64 k.1)),(2,.im (.bool false)),(0,.im (.sl false 1 (a.map Aj)))],[],0⟩,λk=>a.length - k.1,λk=>⟨by simp[ZG],by simp⟩,⟨⟨0,by simp⟩,by simp only[ZA,simprocAttr,sub]⟩,λk=> ?_⟩;obtain⟨k,Z,z⟩:=k;simp only[ZA,simprocAttr,l00In.q,l00In.fv,sub,AR];intro _;refine⟨λO=>⟨O,λx hx=> ?_⟩,λO=> ?_⟩
 .rw[E9 hx,List.any_cons] at z;refine⟨λh=> ?_,λh=>⟨⟨k+1,by omega,?_⟩,by simp only;omega,by rw[AC (by omega) (by omega)];simp only;omega⟩⟩
  .have:Es x=true:=by simp only[Es,h];rfl
   rw[this,fX] at z;rw[<-z];rfl
  .have:Es x=false:=by simp only[Es];simpa using h
   rw[this,mN] at z;exact z
 .rw[CG (by omega)] at z;rw[<-z];rfl
def grwS_.fv(a:AG×Af×(List Int)×Int):(List AD)×Af×Bool×Int:=(λs b l n=>Ee s l n.toNat b []) (a.1) (a.2.1) (a.2.2.1) (a.2.2.2)
def grwS_.row:Ay:=vK (b4 (qP 4 AG.d_le) (qP 1 Af.d_le) (qS DO Dc) qI) (r4 (rS AD.d_le AD.c_n) (rA Af.d_le) rB rI) (λa=>BO a.1.Set/\FB a.1.Set a.2.1/\a.2.1.Tiles.length<=500/\a.1.Set.Tiles.length<=160/\DZ a.2.2.1=true/\0<=a.2.2.2/\a.2.2.2<=500) grwS_.fv
def grwS_.q:=AT (R:=grwS_.row) rfl
def grwS_.ok:A9 44 grwS_.row:=by
 refine vw (tC l03Own.ok (tC opsS_.ok (tC l08Attach.ok tN))) Tryz.func44 ?_;intro a ad;simp only[Tryz.f44];simp only[ZA,simprocAttr,Af.d,grwS_.fv,l03Own.q,l03Own.fv];obtain⟨s,b,l,n⟩:=a;obtain⟨h1,h2,h3,h4,h5,h6,h7⟩:=ad;simp only at h1 h2 h3 h4 h5 h6 h7⊢;refine⟨by omega,?_⟩;refine AU.ren ⟨{q:Af×List AD//q.2.length<=n.toNat/\FB s.Set q.1/\q.1.Tiles.length<=500/\Ee s l (n.toNat - q.2.length) q.1 q.2=Ee s l n.toNat b []},λq=>⟨[(13,.own 6),(12,.ptr 4 0),(11,.im (.int .i64 0)),(10,.im (.bool false)),(9,.ptr 3 0),(8,.own 2),(0,.ptr 0 0),(2,.im (.sl false 1 (l.map Aj))),(3,.im (.int .i64 n))],[(6,(true,.arr 72 3 (q.1.2.map AD.c))),(4,(true,.cells 38 [.im (.sl false 3 (q.1.1.Tiles.map Ah.c))])),(3,(true,.cells 38 [.im (.sl true 0 [])])),(2,(true,.arr 72 3 [])),(0,(false,.view (AG.c s))),(1,(false,.view (Af.c b)))],7⟩,λq=>n.toNat - q.1.2.length,λq=>⟨by simp[ZG],by simp⟩,⟨⟨(b,[]),by simp only;exact⟨CR _,h2,h3,by rw[FS,ZU]⟩⟩,[(6,some 5)],?_⟩,λq=> ?_⟩
 .simp only[Aw];simp only[ZA,simprocAttr,Br]
  try simp
 obtain⟨⟨b1,d⟩,e1,e2,e3,e4⟩:=q;simp only at e1 e2 e3 e4;simp only[ZA,simprocAttr,Af.d,opsS_.q,opsS_.fv,l08Attach.q,l08Attach.fv,AR];have ah:=pZ s e3 h4;have hX: ∀m,n.toNat - d.length=m+1-> ∀o,GB s l b1 d.length=some o->Ee s l n.toNat b []=if 500<=b1.Tiles.length then ([],⟨[]⟩,false,4) else Ee s l m (BJ b1 o.At o.Tile) (d++[o]):=by
  intro m hm o z;rw[<-e4,hm,Ee,z]
 refine⟨⟨h1,e2,e3,by omega⟩,λ_=>⟨λc1=> ?_,λc1 _=>⟨λc2=> ?_,λc2 _=> ?_⟩⟩⟩
 .have ac:=Wo (s:=s) (l:=l) (b:=b1) (k:=d.length)|>.2 (Rj.1 (by omega))
  rw[<-e4];cases hm:n.toNat - d.length with
  |zero=>rw[Ee,ac];rfl
  |succ m=>rw[Ee,ac]
 .have ag:(GB s l b1 d.length).isNone=false:=by
   cases hq:GB s l b1 d.length with
   |none=>exact absurd (by rw[Wo.1 hq];rfl) c1
   |some o=>rfl
  rw[<-e4,show n.toNat - d.length=0 by omega,Ee,ag]
 have hn:(0:Int)<(D6 s b1).length:=by omega
 obtain⟨m,hm⟩: ∃m,n.toNat - d.length=m+1:=⟨n.toNat - d.length - 1,by omega⟩;have Q: ∀o,GB s l b1 d.length=some o-> ¬(HB b1 o).2=0->([],(⟨[]⟩:Af),false,(HB b1 o).2)=Ee s l n.toNat b []:=λo z h=>by
  rw[hX m hm o z];simp only[HB] at h⊢;split at h
  .rename_i c;rw[Ak c,Ak c]
  .simp at h
 have Z: ∀o,GB s l b1 d.length=some o->(HB b1 o).2=0->b1.Tiles.length<500/\(HB b1 o).1=BJ b1 o.At o.Tile/\FB s.Set (BJ b1 o.At o.Tile)/\Ee s l (n.toNat - (d++[o]).length) (BJ b1 o.At o.Tile) (d++[o])=Ee s l n.toNat b []:=λo z h=>by
  rw[hX m hm o z];simp only[HB] at h⊢;split at h
  .simp at h
  .rename_i c;rw[Ad c,Ad c,show n.toNat - (d++[o]).length=m by simp;omega];exact⟨by omega,rfl,Kz h4 e2 (QF e2 z),rfl⟩
 have af: ∀i:Nat,i=Gw l (D6 s b1).length d.length->GB s l b1 d.length=(D6 s b1)[i]? :=λi hi=>by rw[hi];rfl
 refine⟨λc3 _ _=>⟨by omega,Zem _ (by omega),ZdW _ (by omega),λx hx _=> ?_⟩,λc3=> ?_⟩
 .have ab:=rF h5 (Ba hx);have e5:(x.tmod (D6 s b1).length).toNat=Gw l (D6 s b1).length d.length:=by
   rw[fS (by omega),<-Int.natCast_emod,B5] at hx;simp only[Gw];rw[Ad (by omega),hx,AO,fS ab.1]
  refine⟨c1,Zem _ ab.1,ZdW _ hn,λo z=> ?_⟩;have O:=(af _ e5).trans z;refine⟨Q o O,λc4=>⟨Zem _ ab.1,ZdW _ hn,λo2 aa=> ?_⟩⟩;obtain rfl:o=o2:=A7 (z.symm.trans aa);obtain⟨f1,f2,f3,f4⟩:=Z o O (Decidable.not_not.1 c4);refine⟨by simp[BY,BK,D.one],by omega,⟨(BJ b1 o.At o.Tile,d++[o]),by simp only;exact⟨by simp;omega,f3,by rw[Wn];omega,f4⟩⟩,[(6,some 9)],by simp;omega,?_⟩;simp only[Aw,f2];simp only[ZA,simprocAttr,Br];simp[AD.c]
 .have e5:0=Gw l (D6 s b1).length d.length:=by
   simp only[Gw];rw[Ak (by omega)]
  refine⟨hn,λo z=> ?_⟩;have O:=(af _ e5).trans z;refine⟨Q o O,λc4=>⟨hn,λo2 aa=> ?_⟩⟩;obtain rfl:o=o2:=A7 (z.symm.trans aa);obtain⟨f1,f2,f3,f4⟩:=Z o O (Decidable.not_not.1 c4);refine⟨by simp[BY,BK,D.one],by omega,⟨(BJ b1 o.At o.Tile,d++[o]),by simp only;exact⟨by simp;omega,f3,by rw[Wn];omega,f4⟩⟩,[(6,some 9)],by simp;omega,?_⟩;simp only[Aw,f2];simp only[ZA,simprocAttr,Br];simp[AD.c]
def MQ{s:AG}(c1: ¬EP s=false):BO s.Set/\FB s.Set s.Seed/\s.Seed.Tiles.length<=500/\s.Set.Tiles.length<=160:=by
 rw[Hq] at c1;obtain⟨⟨q1,z,O,_⟩,_,Q⟩:=QB c1;exact⟨q1,z,(HU Q).2,O⟩
def GrwNS_.fv(a:AG×(List Int)×Int):(List AD)×Af×Int:=(E6) (a.1) (a.2.1) (a.2.2)
def GrwNS_.row:Ay:=vK (b3 (qR AG.d_le) (qS DO Dc) qI) (r3 (rS AD.d_le AD.c_n) (rA Af.d_le) rI) (λa=>True) GrwNS_.fv
def GrwNS_.q:=AT (R:=GrwNS_.row) rfl
def GrwNS_.ok:A9 22 GrwNS_.row:=by
 refine vw (tC l08Ok.ok (tC schS_.ok (tC l00In.ok (tC grwS_.ok tN)))) Tryz.func22 ?_;intro a Q;simp only[Tryz.f22];simp only[ZA,simprocAttr,Af.d,GrwNS_.fv,l08Ok.q,l08Ok.fv,schS_.q,schS_.fv,l00In.q,l00In.fv,grwS_.q,grwS_.fv];obtain⟨s,l,n⟩:=a;simp only[E6];by_cases c1:EP s=false
 .rw[Ak c1,Ak c1]
 rw[Ad c1,Ad c1];by_cases z:DZ l=true
 case neg=>
  rw[Ad z,Ak (.inl (by simpa using z))]
 rw[Ak z];by_cases O:AW n 0 500=false
 .rw[Ak O,Ak (.inr O)]
 rw[Ad O,Ad (λh=>h.elim (λh=>by rw[z] at h;cases h) O)];obtain⟨q1,q2,q3,q4⟩:=MQ c1;have Z:0<=n/\n<=500:=by simpa[AW] using O
 exact⟨⟨q1,q2,q3,q4,z,Z⟩,LZ n.toNat s.Seed []⟩
def SE(l:List Int):a1 (kS Cl) [.val (.sl false 1 (l.map Aj))]=some l:=by simp only[a1,kS,NO VV,FR]
def aY(l:List AD)(k:Int):a2 (kS AD.d) kI [.val (.sl false 3 (l.map AD.c)),.val (.int .i64 k)]=some (l,k):=by simp only[a2,kS,kI,AD.d_R,FR]
def aC(a:Af)(k:Int):a2 (kR Af.d) kI [.val (.agg (Af.c a)),.val (.int .i64 k)]=some (a,k):=by simp only[a2,kR,kI,Af.d_c,FR]
def toIR.row:Ay:=xJ toInt64S.row toIX.row
def toIR.ok:A9 7 toIR.row:=KM toInt64S.ok toIX.ok
def aM(l:List Int): ∀p∈toIX.H1 l,p.1<2/\ ∀m∈p.2.2.nms,m<2:=by
 intro p hp;simp only[toIX.H1,BS] at hp;subst hp;exact⟨by omega,by simp[Ac.nms]⟩
def Sy(w:List AD×Af×Int): ∀p∈Gm w,p.1<20/\ ∀m∈p.2.2.nms,m<20:=by
 intro p hp;simp only[Gm,Be,ZR,Xb] at hp;rcases hp with rfl|rfl
 .exact⟨by omega,by simp[Ac.nms]⟩
 .exact⟨by omega,by simp[Ac.nms]⟩
def K9(w:List AD×Af×Int): ∀m∈(G9 w).nms,m<20:=by simp[G9,AV.nms,AB]
def iH(w:List AD×Af×Int): ∀p∈Gm w,p.1<20/\p.2.1=true/\JF p.2.2=true/\ ∀m∈p.2.2.nms,m<20:=by
 intro p hp;simp only[Gm,Be,ZR,Xb] at hp;rcases hp with rfl|rfl
 .exact⟨by omega,rfl,by simp[JF,AD.c,D.sc],by simp[Ac.nms]⟩
 .exact⟨by omega,rfl,by simp[JF,Ah.c,D.sc],by simp[Ac.nms]⟩
def iG(w:List AD×Af×Int):Il (G9 w)=true/\ ∀m∈(G9 w).nms,m<20:=⟨by simp[G9,Il,Ez,D.sc],K9 w⟩
def eqSimF.fv(a:AF×AF):Bool:=(λa b=>decide (a=b)) (a.1) (a.2)
def eqSimF.row:Ay:=D1 (b2 (qR AF.d_le) (qR AF.d_le)) rB (λa=>True) eqSimF.fv
def eqSimF.ok:A9 11 eqSimF.row:=by
 refine GF (tC eqSystemF.ok (tC eqInt64SF.ok tN)) Tryz.func11 ?_;intro a O;simp only[Tryz.f11];simp only[ZA,simprocAttr,CS,eqSimF.fv,eqSystemF.q,eqSystemF.fv,eqInt64SF.q,eqInt64SF.fv,D.sc,D.scs,BC];obtain⟨⟨⟨⟨x,x1⟩,⟨y⟩,u⟩,⟨⟨x2,x3⟩,⟨y1⟩,Q⟩,n,m⟩,⟨⟨⟨z,z1⟩,⟨w⟩,v⟩,⟨⟨z2,z3⟩,⟨w2⟩,Z⟩,p,q⟩⟩:=a;simp only[AF.mk.injEq,AG.mk.injEq,Az.mk.injEq,Af.mk.injEq]
 grind
def Ef(o:Nat)(s:AG):Ao:=(o+7,(true,.arr 167 2 (s.Set.Glues.map Am.c)))::(o+9,(true,.arrA 170 2 (GD (o+10) s.Set.Tiles)))::(o+2000012,(true,.arr 97 3 (s.Seed.Tiles.map Ah.c)))::AS (o+10) (min s.Set.Tiles.length 1048576) (Dz s.Set.Tiles)
def QH{o:Nat}{s:AG}{p:Nat×An}(hp:p∈Ef o s):o+7<=p.1/\p.1<o+2000013/\p.2.1=true:=by
 simp only[Ef,Be,AS,Bh,Bv] at hp;rcases hp with rfl|rfl|rfl|⟨i,z,rfl⟩
 .exact⟨by simp only;omega,by simp only;omega,rfl⟩
 .exact⟨by simp only;omega,by simp only;omega,rfl⟩
 .exact⟨by simp only;omega,by simp only;omega,rfl⟩
 .exact⟨by simp only;omega,by simp only;omega,rfl⟩
def rM{h:Nat->Option An}{kx:Nat->Option Nat}{m o:Nat}{s:AG}(O:Fl s)(z:Db h (o+7) (o+9) (o+2000012) (o+10) s)(Q: ∀i,i<s.Set.Tiles.length->kx (o+10+i)=some (o+10+i)):Eh h (Bb h kx (m+1)) (Ef o s):=by
 have ht:=O.t;simp only[Ef,Eh,show min s.Set.Tiles.length 1048576=s.Set.Tiles.length by omega];refine⟨?_,?_,?_,Iv _ _ _ _ _ z.f (λi Z=>rfl)⟩
 .rw[z.g];exact⟨rfl,rfl⟩
 .rw[z.t];exact⟨rfl,by simp only[Ck];rw[dJ Q];rfl⟩
 .rw[z.p];exact⟨rfl,rfl⟩
structure ID(m:AF):Prop where
 a:Fl m.Big
 b:Fl m.Small
 l:m.Labels.length<=1048576
def zS:List AV:=[AV.im (D.sl true 0 []),AV.im (D.sl true 0 []),AV.im (D.sl true 0 []),AV.im (D.int IntKind.i64 0),AV.im (D.sl true 0 []),AV.im (D.sl true 0 []),AV.im (D.sl true 0 []),AV.im (D.int IntKind.i64 0),AV.im (D.int IntKind.i64 0),AV.im (D.sl true 0 [])]
def toMX.ca(a:AF):List AV:=[.im (.agg (AF.c a))]
def toMX.r0(a:AF):AV:= .agg [.own 10,.own 12,.own 2000015,.im (.int .i64 a.Big.Temperature),.own 2000023,.own 2000025,.own 4000028,.im (.int .i64 a.Small.Temperature),.im (.int .i64 a.Scale),.own 4000030]
def toMX.H1(a:AF):Ao:=(4000030,(true,.arr 2 1 (a.Labels.map Aj)))::(Ef 3 a.Big++Ef 2000016 a.Small)
def toMX.row:Ay:=AA toMX.ca (λ_=>[]) 0 ID (λ_=>false) toMX.r0 toMX.H1 4000031
def toMX.ok:A9 6 toMX.row:=by
 refine ow (tC toYX.ok (tC toIX.ok tN)) Tryz.func6 (exB:=λj=>Nat.ble 7 j) (R:=λa r=>r=toMX.r0 a) (λ_=>rfl)
  (λa=>by simp[toMX.ca,AF.c,AE,AV.bel,Au,BB,BU]) (λa p hp=> ?_) (λa r h=>by subst h;exact CN.refl _) ?_
 rotate_left
 intro a z;simp only[Tryz.f6,toMX.ca,AF.c];simp only[ZA,simprocAttr];refine AA.nw a.Big z.a.yx rfl rfl (bJ z.a) (by simp[toYX.r0,AV.nms,AB]) λH1 hH1 O=> ?_
 have k0:hget H1 0=some (true,.cells 33 [AV.im (D.sl false 2 (List.map Am.c a.Big.Set.Glues)),AV.im (D.sl false 2 (List.map Tile.c a.Big.Set.Tiles)),AV.im (D.sl false 3 (List.map Ah.c a.Big.Seed.Tiles)),AV.im (D.int IntKind.i64 a.Big.Temperature),AV.im (D.sl false 2 (List.map Am.c a.Small.Set.Glues)),AV.im (D.sl false 2 (List.map Tile.c a.Small.Set.Tiles)),AV.im (D.sl false 3 (List.map Ah.c a.Small.Seed.Tiles)),AV.im (D.int IntKind.i64 a.Small.Temperature),AV.im (D.int IntKind.i64 a.Scale),AV.im (D.sl false 1 (List.map Aj a.Labels))]):=O 0 (by omega);have k1:hget H1 1=some (true,.cells 48 zS):=O 1 (by omega);have k2:hget H1 2=some (true,.cells 48 zS):=O 2 (by omega);clear O;have S1:Db (hget H1) (3+7) (3+9) (3+2000012) (3+10) a.Big:=bI z.a hH1;clear hH1;simp only[toYX.r0,AV.ren,AJ];simp only[ZA,simprocAttr,Bu,NK,k0,k2,zS];refine AA.nw a.Small z.b.yx rfl rfl (bJ z.b) (by simp[toYX.r0,AV.nms,AB]) λQ hH1 O=> ?_
 have u0:hget Q 0=some (true,.cells 33 [AV.im (D.sl false 2 (List.map Am.c a.Big.Set.Glues)),AV.im (D.sl false 2 (List.map Tile.c a.Big.Set.Tiles)),AV.im (D.sl false 3 (List.map Ah.c a.Big.Seed.Tiles)),AV.im (D.int IntKind.i64 a.Big.Temperature),AV.im (D.sl false 2 (List.map Am.c a.Small.Set.Glues)),AV.im (D.sl false 2 (List.map Tile.c a.Small.Set.Tiles)),AV.im (D.sl false 3 (List.map Ah.c a.Small.Seed.Tiles)),AV.im (D.int IntKind.i64 a.Small.Temperature),AV.im (D.int IntKind.i64 a.Scale),AV.im (D.sl false 1 (List.map Aj a.Labels))]):=(O 0 (by omega)).trans ((Ix _ _ _ (by omega)).trans k0);have u1:hget Q 1=some (true,.cells 48 zS):=(O 1 (by omega)).trans ((Ix _ _ _ (by omega)).trans k1);have u2:=O 2 (by omega);have q2:hget Q 2=some (true,.cells 48 [AV.own 10,AV.own 12,AV.own 2000015,AV.im (D.int IntKind.i64 a.Big.Temperature),AV.im (D.sl true 0 []),AV.im (D.sl true 0 []),AV.im (D.sl true 0 []),AV.im (D.int IntKind.i64 0),AV.im (D.int IntKind.i64 0),AV.im (D.sl true 0 [])]):=u2;have S2:Db (hget Q) (3+7) (3+9) (3+2000012) (3+10) a.Big:=S1.mono λm hm=>(O m (by have:=z.a.t;omega)).trans (Ix _ _ _ (by omega))
 have T2:Db (hget Q) (2000016+7) (2000016+9) (2000016+2000012) (2000016+10) a.Small:=bI z.b hH1;clear hH1 O u2 S1 k0 k1 k2;simp only[toYX.r0,AV.ren,AJ];simp only[ZA,simprocAttr,Bu,NK,u0,q2];refine AA.nw a.Labels (by have:=z.l;omega) rfl rfl (aM a.Labels) (by simp[AV.nms]) λZ hH1 O=> ?_
 have X: ∀m,m<4000029->m≠2->hget Z m=hget Q m:=λm h1 h2=>(O m h1).trans ((Ix _ _ _ (λq=>h2 q.symm)).trans (NK (λq=>h2 q.symm)))
 have v1:hget Z 1=some (true,.cells 48 zS):=(X 1 (by omega) (by omega)).trans u1;have v2:hget Z 2=some (true,.cells 48 [AV.own 10,AV.own 12,AV.own 2000015,AV.im (D.int IntKind.i64 a.Big.Temperature),AV.own 2000023,AV.own 2000025,AV.own 4000028,AV.im (D.int IntKind.i64 a.Small.Temperature),AV.im (D.int IntKind.i64 a.Scale),AV.im (D.sl true 0 [])]):=O 2 (by omega);have w3:hget Z 4000030=some (true,.arr 2 1 (a.Labels.map Aj)):=hH1 1 _ rfl;have S3:Db (hget Z) (3+7) (3+9) (3+2000012) (3+10) a.Big:=S2.mono λm hm=>X m (by have:=z.a.t;omega) (by omega)
 have T3:Db (hget Z) (2000016+7) (2000016+9) (2000016+2000012) (2000016+10) a.Small:=T2.mono λm hm=>X m (by have:=z.b.t;omega) (by omega)
 clear hH1 O X S2 T2 u0 u1 q2;simp only[AV.ren];simp only[ZA,simprocAttr,Bu,NK,v1,v2,w3,zS];refine⟨rfl,?_⟩;generalize hG:((1,(true,Ac.cells 48 _))::_:Ao)=H;have S4:Db (hget H) (3+7) (3+9) (3+2000012) (3+10) a.Big:=S3.mono λm hm=>pg2 hG (by omega) (by omega) rfl
 have T4:Db (hget H) (2000016+7) (2000016+9) (2000016+2000012) (2000016+10) a.Small:=T3.mono λm hm=>pg2 hG (by omega) (by omega) rfl
 have w4:=pg2 hG (by decide) (by decide) w3;have hk: ∀o,3<=o->o<=2000016-> ∀i,i<1048577->Ii [] 0 4000031 (λj=>decide (7<=j)) (o+10+i)=some (o+10+i):=λo h1 h2 i hi=>KB (by omega) (by omega)
 simp only[toMX.H1,Eh];refine⟨by rw[w4];exact⟨rfl,rfl⟩,(Quc ..).2 ⟨rM z.a S4 λi hi=>hk _ (by decide) (by decide) i (by have:=z.a.t;omega),rM z.b T4 λi hi=>hk _ (by decide) (by decide) i (by have:=z.b.t;omega)⟩⟩;rcases Be.1 hp with rfl|hp
 .exact .inr ⟨by omega,by simp only;omega,rfl,rfl⟩
 rcases Bs.1 hp with hp|hp
 .have:=QH hp
  exact .inr ⟨by omega,by omega,by simp only[G8];omega,this.2.2⟩
 .have:=QH hp
  exact .inr ⟨by omega,by omega,by simp only[G8];omega,this.2.2⟩
def bD(b n:Nat)(nm:Nat->ByteArray):List (List AV):=(List.range n).map λj=>[.im (.str (nm j)),.own (b+j)]
def E0(o:Nat)(G:List Am)(P:List Ah)(n:Nat)(nm:Nat->ByteArray)(f:Nat->An):Ao:=(o+7,(true,.arr 167 2 (G.map Am.c)))::(o+9,(true,.arrA 170 2 (bD (o+10) n nm)))::(o+2000012,(true,.arr 97 3 (P.map Ah.c)))::AS (o+10) n f
structure IE(h:Nat->Option An)(o:Nat)(G:List Am)(P:List Ah)(n:Nat)(nm:Nat->ByteArray)(f:Nat->An):Prop where
 g:h (o+7)=some (true,.arr 167 2 (G.map Am.c))
 t:h (o+9)=some (true,.arrA 170 2 (bD (o+10) n nm))
 p:h (o+2000012)=some (true,.arr 97 3 (P.map Ah.c))
 f: ∀i,i<n->h (o+10+i)=some (f i)
def Co(o n j:Nat):Prop:=j=o+7\/j=o+9\/j=o+2000012\/(o+10<=j/\j<o+10+n)
section
variable {o n:Nat}{G:List Am}{P:List Ah}{nm:Nat->ByteArray}{f:Nat->An}
def Wp(hn:n<=1048576)(j:Nat):Al (E0 o G P n nm f) j=true↔Co o n j:=by
 simp only[Al,E0,hget,eU,Co];by_cases z:j=o+7
 .subst z;simp
 by_cases O:j=o+9
 .subst O;rw[AX _ _ (show o+7≠o+9 by omega)];simp
 by_cases Q:j=o+2000012
 .subst Q;rw[AX _ _ (show o+7≠o+2000012 by omega),AX _ _ (show o+9≠o+2000012 by omega)];simp
 rw[AX _ _ (λh=>z h.symm),AX _ _ (λh=>O h.symm),AX _ _ (λh=>Q h.symm)];simp only[Bq];split
 .rename_i h;simp;omega
 .rename_i h;simp;omega
def Wr(hf: ∀i,(f i).2.nms=[]){p:Nat×An}(hp:p∈E0 o G P n nm f):Co o n p.1/\ ∀m∈p.2.2.nms,Co o n m:=by
 simp only[E0,Be,AS,Bh,Bv] at hp;rcases hp with rfl|rfl|rfl|⟨i,Z,rfl⟩
 .exact⟨.inl rfl,by simp[Ac.nms]⟩
 .refine⟨.inr (.inl rfl),λm z=> ?_⟩;simp only[Ac.nms] at z;obtain⟨r,Q,z⟩:=Ff.1 z;obtain⟨j,O,rfl⟩:=Bh.1 Q
  have:=Bv.1 O
  simp[AB,AV.nms] at z;exact .inr (.inr (.inr ⟨by omega,by omega⟩))
 .exact⟨.inr (.inr (.inl rfl)),by simp[Ac.nms]⟩
 .exact⟨.inr (.inr (.inr ⟨by simp only;omega,by simp only;omega⟩)),λm z=>by rw[hf] at z;cases z⟩
def Yy{h:Nat->Option An}{kx:Nat->Option Nat}{m b:Nat}(O: ∀i,i<n->kx (b+i)=some (b+i)):Ar (Ar (Bb h kx (m+1))) (bD b n nm)=some (bD b n nm):=by
 refine Rb _ λi z=> ?_
 have z:=Bv.1 z;simp only[Ar,Bb,O i z,kp]
def rO{h:Nat->Option An}{kx:Nat->Option Nat}{m:Nat}(z:IE h o G P n nm f)(hf: ∀i,Ck (Bb h kx (m+1)) (f i).2=some (f i).2)(O: ∀i,i<n->kx (o+10+i)=some (o+10+i)):Eh h (Bb h kx (m+1)) (E0 o G P n nm f):=by
 simp only[E0,Eh];refine⟨?_,?_,?_,Iv _ _ _ _ _ z.f (λi _=>hf i)⟩
 .rw[z.g];exact⟨rfl,rfl⟩
 .rw[z.t];exact⟨rfl,by simp only[Ck];rw[Yy O];rfl⟩
 .rw[z.p];exact⟨rfl,rfl⟩
def rJ{h:Nat->Option An}{σ:Nat->Nat}{N:Nat}(hσ: ∀j,Co o n j->σ j=N+j)(z:IE h (N+o) G P n nm f)(hf: ∀i,(f i).2.ren σ=(f i).2):CO h σ (E0 o G P n nm f):=by
 simp only[E0,CO,hσ _ (.inl rfl),hσ _ (.inr (.inl rfl)),hσ _ (.inr (.inr (.inl rfl))),Ac.ren,<-Gf];refine⟨z.g,?_,z.p,QC λi O=> ?_⟩
 .rw[z.t];congr 3;simp only[bD,Oe];refine Kr λi O=> ?_
  have O:=Bv.1 O;simp only[Function.comp,AJ,AV.ren];rw[hσ (o+10+i) (.inr (.inr (.inr ⟨by omega,by omega⟩)))];simp only[Gf]
 .rw[hσ (o+10+i) (.inr (.inr (.inr ⟨by omega,by omega⟩))),hf]
  have:=z.f i O
  simpa only[Gf] using this
def IE.mono{h h':Nat->Option An}(hs:IE h o G P n nm f)(z: ∀m,Co o n m->h' m=h m):IE h' o G P n nm f:=
 ⟨by rw[z _ (.inl rfl)];exact hs.g,by rw[z _ (.inr (.inl rfl))];exact hs.t,by rw[z _ (.inr (.inr (.inl rfl)))];exact hs.p,λi O=>by rw[z _ (.inr (.inr (.inr ⟨by omega,by omega⟩)))];exact hs.f i O⟩
def rL{h:Nat->Option An}(hn:n<=1048576)(z: ∀j,Co o n j->h j=hget (E0 o G P n nm f) j):IE h o G P n nm f:=by
 refine⟨by rw[z _ (.inl rfl)];simp[E0,hget],by rw[z _ (.inr (.inl rfl))];simp only[E0,hget,AX _ _ (show o+7≠o+9 by omega)];simp,by rw[z _ (.inr (.inr (.inl rfl)))];simp only[E0,hget,AX _ _ (show o+7≠o+2000012 by omega),AX _ _ (show o+9≠o+2000012 by omega)];simp,λi O=> ?_⟩;rw[z _ (.inr (.inr (.inr ⟨by omega,by omega⟩)))];simp only[E0,hget,AX _ _ (show o+7≠o+10+i by omega),AX _ _ (show o+9≠o+10+i by omega),AX _ _ (show o+2000012≠o+10+i by omega),Bq];exact GK _ _ _ _ O
end
def rE{N:Nat}: ∀{H:Ao},(∀p∈H,p.1<N)->BB N H=true
 |[],_=>rfl
 |(j,e)::r,h=>by
  simp only[BB,AL,E4];exact⟨h _ (BR ..),rE λp hp=>h p (BQ _ hp)⟩
def YX(a:List Tile)(j:Nat):ByteArray:=(a[j]?.map Tile.Name).getD ByteArray.empty
def jZ(h:Nat->Option An)(o:Nat)(s:AG):Prop:=IE h o s.Set.Glues s.Seed.Tiles (nT s.Set.Tiles) (YX s.Set.Tiles) (Dz s.Set.Tiles)
def syZ(h:Nat->Option An)(o:Nat)(s:AG)(k:Int):Prop:=IE h o (Dq (gF k) s.Set.Glues.length) (Dq (pF (syK (s,k))) s.Seed.Tiles.length) (nT s.Set.Tiles) (λj=>Hc (E7 s.Set.Tiles (DW (s.Set,k)) j)) (Fe s.Set.Tiles (DW (s.Set,k)) (nT s.Set.Tiles))
def UR(o:Nat)(s:AG):Ao:=E0 o s.Set.Glues s.Seed.Tiles (nT s.Set.Tiles) (YX s.Set.Tiles) (Dz s.Set.Tiles)
def xU(o:Nat)(s:AG)(k:Int):Ao:=E0 o (Dq (gF k) s.Set.Glues.length) (Dq (pF (syK (s,k))) s.Seed.Tiles.length) (nT s.Set.Tiles) (λj=>Hc (E7 s.Set.Tiles (DW (s.Set,k)) j)) (Fe s.Set.Tiles (DW (s.Set,k)) (nT s.Set.Tiles))
def US{h:Nat->Option An}{o:Nat}{s:AG}(Q:Fl s):jZ h o s↔Db h (o+7) (o+9) (o+2000012) (o+10) s:=by
 have Z:=Q.t;have z:nT s.Set.Tiles=s.Set.Tiles.length:=by simp only[nT];omega
 have e:bD (o+10) (nT s.Set.Tiles) (YX s.Set.Tiles)=GD (o+10) s.Set.Tiles:=by rw[z];rfl
 constructor
 .intro h;exact⟨h.g,by rw[<-e];exact h.t,h.p,λi O=>h.f i (by rw[z];exact O)⟩
 .intro h;exact⟨h.g,by rw[e];exact h.t,h.p,λi O=>h.f i (by rw[z] at O;exact O)⟩
def rD{N nx:Nat}{tm:List (Nat×AV)}{h:Ao}{dst:Option Nat}{go:Av->Prop}{s:AG}{k:Int}(hp:mkSy.pre (s,k))(Z:jZ (hget h) N s)(ac:N+2000013<=nx)
 (ab: ∀O:Ao,syZ (hget O) N s k->(∀m,¬Co N (nT s.Set.Tiles) m->hget O m=hget h m)->go ((⟨tm,O,nx⟩:Av).put dst (.im (.int .i64 (syK (s,k)+3*s.Seed.Tiles.length))))):
 mkSy.row [.agg [.own (N+7),.own (N+9),.own (N+2000012),.im (.int .i64 s.Temperature)],.im (.int .i64 k)] (hget h) nx (DH go ⟨tm,h,nx⟩ dst):=by
 have hn:=CT s.Set.Tiles;obtain⟨τ,hτ⟩: ∃τ:Nat->Nat,τ=λj=>if j=2000000 then N+2000012 else if j=0 then N+7 else N+8+j:=⟨_,rfl⟩
 have t0:τ 0=N+7:=by rw[hτ];rfl
 have t1:τ 1=N+9:=by rw[hτ];rfl
 have t2: ∀j,j<1048576->τ (2+j)=N+10+j:=λj z=>by rw[hτ];simp only;rw[Ad (by omega),Ad (by omega)];omega
 have tp:τ 2000000=N+2000012:=by rw[hτ];exact Ak rfl
 have hσ: ∀j,j<2000001->BW τ 2000001 nx j=τ j:=λj z=>Ak z
 have d0: ∀j,Al (mkSy.H0 (s,k)) j=true->j=2000000\/j<2+nT s.Set.Tiles:=λj z=>(mkSy.dom0 _ _).1 z
 have tv: ∀j,(j=2000000/\τ j=N+2000012)\/(j=0/\τ j=N+7)\/(j≠2000000/\j≠0/\τ j=N+8+j):=λj=>by
  rw[hτ];simp only;split
  .exact .inl ⟨by assumption,rfl⟩
  split
  .exact .inr (.inl ⟨by assumption,rfl⟩)
  .exact .inr (.inr ⟨by assumption,by assumption,rfl⟩)
 have rg: ∀j,Al (mkSy.H0 (s,k)) j=true->Co N (nT s.Set.Tiles) (τ j):=λj z=>by
  have h1:=d0 j z;have h2:=tv j;simp only[Co];omega
 have rows: ∀(i:Nat) (nm:Nat->ByteArray),(∀j,j<nT s.Set.Tiles->Fz s.Set.Tiles (DW (s.Set,k)) i j=[.im (.str (nm j)),.own (2+j)])->(Di s.Set.Tiles (DW (s.Set,k)) i).map (AJ (BW τ 2000001 nx))=bD (N+10) (nT s.Set.Tiles) nm:=λi nm hnm=>by
  simp only[Di,bD,Oe];refine Kr λj z=> ?_
  have z:=Bv.1 z;simp only[Function.comp,hnm j z,AJ,AV.ren];rw[hσ _ (by omega),t2 j (by omega)]
 refine AA.tau (s,k) τ hp (λ_ _=>rfl) (λj z=> ?_) (λi j Q z h=> ?_) (mkSy.hcl _) ⟨?_,?_⟩ (by simp[mkSy.r0,AV.nms]) (λO hH1 aa=> ?_)
 .have h1:=d0 j z;have h2:=rg j z;simp only[Co] at h2;omega
 .have h1:=d0 i Q;have h2:=d0 j z;have v1:=tv i;have v2:=tv j;omega
 .simp only[mkSy.ca,AJ,AV.ren,hσ 0 (by omega),hσ 1 (by omega),hσ 2000000 (by omega),t0,t1,tp]
 .simp only[mkSy.H0,mkTS.H0,Ht,CO,hσ 0 (by omega),hσ 1 (by omega),hσ 2000000 (by omega),t0,t1,tp,Ac.ren];refine⟨Z.p,Z.g,?_,QC λi Q=> ?_⟩
  .rw[Z.t,rows 0 (YX s.Set.Tiles) λj _=>rfl]
  .rw[hσ _ (by omega),t2 i (by omega),Z.f i Q];rfl
 refine ab O ⟨?_,?_,?_,λi Q=> ?_⟩ λm hm=>aa m λj z e=>hm (e▸rg j z)
 .have:=hH1 0 _ rfl
  rwa [t0] at this
 .have:=hH1 1 _ rfl
  rw[t1] at this;rw[this];simp only[Ac.ren];rw[rows _ (λj=>Hc (E7 s.Set.Tiles (DW (s.Set,k)) j)) λj z=>Ak z]
 .have:=hH1 2000000 _ rfl
  rwa [tp] at this
 .have e:hget (mkSy.H1 (s,k)) (2+i)=some (Fe s.Set.Tiles (DW (s.Set,k)) (nT s.Set.Tiles) i):=by
   simp only[mkSy.H1,hget,AX _ _ (show 2000000≠2+i by omega),Bq];exact rK i Q
  have:=hH1 _ _ e
  rw[t2 i (by omega)] at this;rw[this];rfl
def Fl.sk{s:AG}(h:Fl s){k:Int}(z:0<=k)(O:k<=1073741824):mkSy.pre (s,k)/\0<=Go.Ae.syK (s,k)/\Go.Ae.syK (s,k)+3*s.Seed.Tiles.length<=k+8388608:=by
 have e:Go.Ae.syK (s,k)=k+2*s.Set.Glues.length+s.Set.Tiles.length+GG s.Set.Tiles:=by simp only[Go.Ae.syK,Nn,DW]
 have:=h.g;have:=h.t;have:=h.d;have:=h.p
 refine⟨⟨z,h.t,?_⟩,?_,?_⟩<;>simp only[e]<;>omega
def Y8(a:AF×Int):Int:=syK (a.1.Big,a.2)+3*a.1.Big.Seed.Tiles.length
def Y9(a:AF×Int):Int:=syK (a.1.Small,Y8 a)+3*a.1.Small.Seed.Tiles.length
def Ca.ca(a:AF×Int):List AV:=[.agg [.own 7,.own 9,.own 2000012,.im (.int .i64 a.1.Big.Temperature),.own 2000020,.own 2000022,.own 4000025,.im (.int .i64 a.1.Small.Temperature),.im (.int .i64 a.1.Scale),.own 4000027],.im (.int .i64 a.2)]
def Ca.H0(a:AF×Int):Ao:=(4000027,(true,.arr 2 1 (a.1.Labels.map Aj)))::(UR 0 a.1.Big++UR 2000013 a.1.Small)
def Ca.H1(a:AF×Int):Ao:=(4000027,(true,.arr 2 1 ((OK (Y9 a) a.1.Labels.length).map Aj)))::(xU 0 a.1.Big a.2++xU 2000013 a.1.Small (Y8 a))
def Ca.pre(a:AF×Int):Prop:=ID a.1/\0<=a.2/\a.2<=1048576
def Ca.r0(a:AF×Int):AV:= .im (.int .i64 (Y9 a+a.1.Labels.length))
def Ca.row:Ay:=AA Ca.ca Ca.H0 4000028 Ca.pre (λ_=>true) Ca.r0 Ca.H1 0
def KW(a:AF×Int)(j:Nat):Prop:=j=4000027\/Co 0 (nT a.1.Big.Set.Tiles) j\/Co 2000013 (nT a.1.Small.Set.Tiles) j
def Ca.dom0(a:AF×Int)(j:Nat):Al (Ca.H0 a) j=true↔KW a j:=by
 have z:=Wp (o:=0) (G:=a.1.Big.Set.Glues) (P:=a.1.Big.Seed.Tiles) (nm:=YX a.1.Big.Set.Tiles) (f:=Dz a.1.Big.Set.Tiles) (CT a.1.Big.Set.Tiles) j;have O:=Wp (o:=2000013) (G:=a.1.Small.Set.Glues) (P:=a.1.Small.Seed.Tiles) (nm:=YX a.1.Small.Set.Tiles) (f:=Dz a.1.Small.Set.Tiles) (CT a.1.Small.Set.Tiles) j;simp only[KW,<-z,<-O,Al,Ca.H0,hget,IB,UR];by_cases h:j=4000027
 .subst h;simp
 .rw[AX _ _ (λq=>h q.symm)];simp[h]
def Ca.in0(a:AF×Int): ∀p∈Ca.H0 a,KW a p.1/\ ∀m∈p.2.2.nms,KW a m:=by
 intro p hp;rcases Be.1 hp with rfl|hp
 .exact⟨.inl rfl,by simp[Ac.nms]⟩
 rcases Bs.1 hp with hp|hp
 .obtain⟨z,O⟩:=Wr (λi=>rfl) hp;exact⟨.inr (.inl z),λm Q=> .inr (.inl (O m Q))⟩
 .obtain⟨z,O⟩:=Wr (λi=>rfl) hp;exact⟨.inr (.inr z),λm Q=> .inr (.inr (O m Q))⟩
def Ca.hcl(a:AF×Int): ∀p∈Ca.H1 a,Al (Ca.H0 a) p.1=true/\ ∀m∈p.2.2.nms,Al (Ca.H0 a) m=true:=by
 intro p hp;simp only[Ca.dom0];rcases Be.1 hp with rfl|hp
 .exact⟨.inl rfl,by simp[Ac.nms]⟩
 rcases Bs.1 hp with hp|hp
 .obtain⟨z,O⟩:=Wr (λi=>rfl) hp;exact⟨.inr (.inl z),λm Q=> .inr (.inl (O m Q))⟩
 .obtain⟨z,O⟩:=Wr (λi=>rfl) hp;exact⟨.inr (.inr z),λm Q=> .inr (.inr (O m Q))⟩
def Ws{a:AF×Int}{j:Nat}(h:KW a j):j<4000028:=by
 have:=CT a.1.Big.Set.Tiles
 have:=CT a.1.Small.Set.Tiles
 simp only[KW,Co] at h;omega
def Ca.hbel(a:AF×Int):AE 4000028 (Ca.ca a)=true:=by simp[Ca.ca,AE,AV.bel]
def Ca.hbH(a:AF×Int):Au 4000028 (Ca.H0 a)=true:=bS _ λp hp m z=>Ws ((Ca.in0 a p hp).2 m z)
def Ca.hkH(a:AF×Int):BB 4000028 (Ca.H0 a)=true:=rE λp hp=>Ws (Ca.in0 a p hp).1
def Ca.hnm(a:AF×Int):BU (Ca.H0 a) (Ca.H0 a):=VT λp hp m z=>(Ca.dom0 _ _).2 ((Ca.in0 a p hp).2 m z)
def Ca.at0(a:AF×Int):jZ (hget (Ca.H0 a)) 0 a.1.Big/\jZ (hget (Ca.H0 a)) 2000013 a.1.Small/\hget (Ca.H0 a) 4000027=some (true,.arr 2 1 (a.1.Labels.map Aj)):=by
 have Q:=CT a.1.Big.Set.Tiles;have l2:=CT a.1.Small.Set.Tiles;refine⟨rL Q λj O=> ?_,rL l2 λj O=> ?_,rfl⟩
 .have z:=(Wp (o:=0) (G:=a.1.Big.Set.Glues) (P:=a.1.Big.Seed.Tiles) (nm:=YX a.1.Big.Set.Tiles) (f:=Dz a.1.Big.Set.Tiles) Q j).2 O;simp only[Co] at O;simp only[Ca.H0,hget,AX _ _ (show 4000027≠j by omega),Bq,IB,UR];simp only[Al,ZdT] at z;obtain⟨e,Z⟩:=z;rw[Z];rfl
 .have z:=Wp (o:=0) (G:=a.1.Big.Set.Glues) (P:=a.1.Big.Seed.Tiles) (nm:=YX a.1.Big.Set.Tiles) (f:=Dz a.1.Big.Set.Tiles) Q j;simp only[Co] at O z;simp only[Ca.H0,hget,AX _ _ (show 4000027≠j by omega),Bq,IB,UR]
  have:hget (E0 0 a.1.Big.Set.Glues a.1.Big.Seed.Tiles (nT a.1.Big.Set.Tiles) (YX a.1.Big.Set.Tiles) (Dz a.1.Big.Set.Tiles)) j=none:=by
   rw[<-Option.not_isSome_iff_eq_none];intro h
   have:=z.1 h
   omega
  rw[this];rfl
def Ca.ok:A9 13 Ca.row:=by
 refine ow (tC mkSy.ok (tC mkIC.ok tN)) Tryz.func13 (exB:=λ_=>false) (R:=λa r=>r=Ca.r0 a) (λ_=>rfl)
  (λa=>⟨Ca.hbel a,Ca.hbH a,Ca.hkH a,Ca.hnm a⟩) (λa p hp=> ?_) (λa r h=>by subst h;exact CN.refl _) ?_
 rotate_left
 intro a Z;simp only[Tryz.f13,Ca.ca];simp only[ZA,simprocAttr];obtain⟨S,k⟩:=a;obtain⟨hB,h2,h3⟩:=Z;simp only at hB h2 h3;obtain⟨A0,B0,I0⟩:=Ca.at0 (S,k);obtain⟨p1,p2,p3⟩:=hB.a.sk h2 (by omega);have q1:Y8 (S,k)=syK (S.Big,k)+3*S.Big.Seed.Tiles.length:=rfl;obtain⟨p4,p5,p6⟩:=hB.b.sk (k:=Y8 (S,k)) (by omega) (by omega);have q2:Y9 (S,k)=syK (S.Small,Y8 (S,k))+3*S.Small.Seed.Tiles.length:=rfl;have l1:=CT S.Big.Set.Tiles;have l2:=CT S.Small.Set.Tiles;simp only[Bu];have dm:=λj=>(Ca.dom0 (S,k) j).2
 generalize Ca.H0 (S,k)=H at A0 B0 I0 dm⊢;generalize hG:((4000028,(true,Ac.cells 48 _))::_:Ao)=H';have gt: ∀m,m≠4000028->hget H' m=hget H m:=λm z=>by rw[<-hG];simp only[hget,AX _ _ (λh=>z h.symm),Bq]
 have A1:jZ (hget H') 0 S.Big:=A0.mono λm z=>gt m (by simp only[Co] at z;omega)
 have B1:jZ (hget H') 2000013 S.Small:=B0.mono λm z=>gt m (by simp only[Co] at z;omega)
 have I1:=(gt 4000027 (by decide)).trans I0;have c1:hget H' 4000028=some (true,.cells 48 [.own 7,.own 9,.own 2000012,.im (.int .i64 S.Big.Temperature),.own 2000020,.own 2000022,.own 4000025,.im (.int .i64 S.Small.Temperature),.im (.int .i64 S.Scale),.own 4000027]):=by rw[<-hG];rfl
 clear gt A0 B0 I0 hG;refine rD (N:=0) p1 A1 (by omega) λH2 Z2 O=> ?_
 have B2:jZ (hget H2) 2000013 S.Small:=B1.mono λm z=>O m (by simp only[Co] at z⊢;omega)
 have I2:=(O 4000027 (by simp only[Co];omega)).trans I1;have c2:=(O 4000028 (by simp only[Co];omega)).trans c1;clear O A1 B1 I1 c1;simp only[<-q1];simp only[ZA,simprocAttr,Bu,c2];refine rD (N:=2000013) p4 B2 (by omega) λH3 Z3 Q=> ?_
 have Z4:syZ (hget H3) 0 S.Big k:=Z2.mono λm z=>Q m (by simp only[Co] at z⊢;omega)
 have I3:=(Q 4000027 (by simp only[Co];omega)).trans I2;have c3:=(Q 4000028 (by simp only[Co];omega)).trans c2;clear Q B2 I2 c2 Z2;simp only[<-q2];simp only[ZA,simprocAttr,Bu,c3];refine pN (l:=S.Labels) (by omega) (by have:=hB.l;omega) I3 (by omega) λH4 hj hk=> ?_
 have Z5:syZ (hget H4) 0 S.Big k:=Z4.mono λm z=>hk m (by simp only[Co] at z;omega)
 have Z6:syZ (hget H4) 2000013 S.Small (Y8 (S,k)):=Z3.mono λm z=>hk m (by simp only[Co] at z;omega)
 have I4:hget H4 4000027=some (true,.arr 2 1 ((OK (Y9 (S,k)) S.Labels.length).map Aj)):=hj 0 _ rfl;clear hj hk Z3 Z4 I3 c3;simp only[ZA,simprocAttr,Bu];refine⟨VR _ _,rfl,?_⟩;simp only[Ca.H1,Eh];exact⟨by rw[I4];exact⟨rfl,rfl⟩,(Quc ..).2 ⟨rO Z5 (λi=>rfl) λi hi=>VW (dm _ (.inr (.inl (.inr (.inr (.inr ⟨by omega,by simp only;omega⟩)))))),rO Z6 (λi=>rfl) λi hi=>VW (dm _ (.inr (.inr (.inr (.inr (.inr ⟨by omega,by simp only;omega⟩))))))⟩⟩;obtain⟨q1,_⟩:=Ca.hcl _ p hp
 have:=Ws ((Ca.dom0 _ _).1 q1)
 exact .inl ⟨by omega,rfl,q1⟩
def Fs(m:AF)(x b:Af):List AD×Bool:=
 if (AP m x).2=false\/(AP m b).2=false then ([],false)
 else if (AP m x).1=(AP m b).1 then ([],true)
 else ([(Kb (AP m x).1 (AP m b).1).1],(Kb (AP m x).1 (AP m b).1).2 && IC m.Small (C5 (Qe m.Small (AP m x).1).Tl) (Kb (AP m x).1 (AP m b).1).1.At (Kb (AP m x).1 (AP m b).1).1.Tile)
def iC(m:AF)(x b:Af):Prop:=EO m=true/\E8 m.Big.Set x=true/\E8 m.Big.Set b=true
def fol_.fv(a:AF×Af×Af):(List AD)×Bool:=(Fs) (a.1) (a.2.1) (a.2.2)
def fol_.row:Ay:=D1 (b3 (qR AF.d_le) (qR Af.d_le) (qR Af.d_le)) (r2 (rS AD.d_le AD.c_n) rB) (λa=>iC a.1 a.2.1 a.2.2) fol_.fv
def fol_.q:=DX (R:=fol_.row) rfl
def fol_.ok:A9 32 fol_.row:=by
 refine GF (tC rep_.ok (tC SameAsm.ok (tC gained_.ok (tC newC.ok (tC fitsC.ok tN))))) Tryz.func32 ?_;intro a af;simp only[Tryz.f32];simp only[ZA,simprocAttr,Af.d,fol_.fv,rep_.q,rep_.fv,SameAsm.q,SameAsm.fv,gained_.q,gained_.fv,JM,D.sc,D.scs,Qt,BC];obtain⟨m,x,b⟩:=a;obtain⟨h0,Q,O⟩:=af;simp only at h0 Q O⊢;have h1:=Kc h0 Q;have h2:=Kc h0 O;have ac:=lZ h0 Q;have ab:=lZ h0 O;have h3:BO m.Small.Set:=by
  simp only[EO,EP,AL] at h0;exact rV h0.2.1.1
 refine⟨h1,h2,?_⟩;simp only[Fs];by_cases c1:(AP m x).2=true
 case neg=>rw[Ad c1,Ak (.inl (by simpa using c1))]
 rw[Ak c1];by_cases c2:(AP m b).2=false
 case pos=>rw[Ak c2,Ak (.inr c2)]
 have c3: ¬((AP m x).2=false\/(AP m b).2=false):=by rintro (h|h);rw[c1] at h;cases h;exact c2 h
 rw[Ad c2,Ad c3];have Z:=Zu h1;have aa:=Zu h2;obtain⟨p,hp⟩: ∃p,p=(AP m x).1:=⟨_,rfl⟩;obtain⟨q,hq⟩: ∃q,q=(AP m b).1:=⟨_,rfl⟩;simp only[<-hp,<-hq] at Z aa ac ab⊢;by_cases c4:p=q
 case pos=>rw[Ak c4,Ak c4]
 rw[Ad c4,Ad c4];obtain⟨g,hg⟩: ∃g,g=Kb p q:=⟨_,rfl⟩;simp only[<-hg];by_cases z:g.2=true
 .rw[Ak z,z];have ah: ∀y∈p.Tiles,Fi m.Small.Set y.Tile/\G4 y.At:=λy hy=>by
   refine⟨ac.2 y hy,?_⟩
   have:=(Vw _ _ Z y hy).1
   simp only[DY,AW,AL,B3] at this;refine⟨?_,?_,?_,?_⟩<;>omega
  have ai:=h1.2.2.1;have ad:newC.pre (m.Small,p):=⟨h3,by simp only;omega,ah⟩;have ag:Fi m.Small.Set g.1.Tile:=by
   rw[hg] at z⊢;simp only[Kb] at z⊢;by_cases hh:q.Tiles.length=p.Tiles.length+1/\QT p q=true
   .rw[Ak hh];obtain⟨_,y,hy,_⟩:=zA Z aa hh.1;simp only[hy,CY,AO];exact ab.2 y (Qg hy)
   .rw[Ad hh] at z;cases z
  refine AA.os (m.Small,p) [] ?_ (λj=>by simp[Al,hget]) rfl rfl ?_ ?_
  .exact ad
  .simp only[ZA,simprocAttr,newC.ca,CO,AG.c,Af.c]
  simp only[ZA,simprocAttr,CS,fitsC.q,fitsC.fv,JM,D.sc,D.scs,Qt,BC,newC.H1];exact⟨h3,(O1 ad).2.1,ag⟩
 .rw[Ad z];rw[IF] at z;simp[z]
end Go.Ae
