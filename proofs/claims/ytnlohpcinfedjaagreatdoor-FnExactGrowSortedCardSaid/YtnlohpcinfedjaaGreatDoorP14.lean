/- Lemmas. Conditions: none. -/
import Derived.Test.YtnlohpcinfedjaaGreatDoorP13
set_option linter.all false
set_option maxHeartbeats 8000000
set_option maxRecDepth 100000
namespace Go.Ae
open Go.Proofs Go.Lib
abbrev Vl:=Mk×ByteArray×Nat
def vlC.ca(a:Vl):List AV:=[.im (.str a.2.1),.ptr 4 0,.ptr 5 0]
def vlC.H0(a:Vl):Ar:=B1 a.1.1 a.1.2++[(4,(true,.cells 2 [.im (.int .i64 a.2.2)])),(5,(true,.cells 69 [.ptr 0 0]))]
def vlC.H1(a:Vl):Ar:=[(0,(true,.cells 80 [.own 6,.own 2,.mp 3])),(6,(true,.arr 66 2 ((a.1.1++AY a.2.1 a.2.2 1).map Ak.c))),(3,(true,.map ⟨false,[.str]⟩ (Cn (a.1.1++AY a.2.1 a.2.2 1))))]
def eW(a:Vl)(j:Nat):An (vlC.H0 a) j=true↔j<6:=by
 simp only[An,vlC.H0,B1,hget,Ci,Dv];rcases (by omega:j=0\/j=1\/j=2\/j=3\/j=4\/j=5\/6<=j) with rfl|rfl|rfl|rfl|rfl|rfl|h<;>try simp
 have e: ∀i,i<6->(i==j)=false:=λi z=>by simp;omega
 simp[e 0 (by omega),e 1 (by omega),e 2 (by omega),e 3 (by omega),e 4 (by omega),e 5 (by omega)];omega
def vlC.row:AG:=Az vlC.ca vlC.H0 6 (λa=>a.1.1.length<=1000/\a.2.1.size<=100/\a.2.2<=100) C3 (λ_=> .im (.tup [])) vlC.H1 40
def bQ:=J @numd_.q @numd_.fv.eq_1
def vlC.ok:AJ 34 vlC.row:=by
 refine Ha (tC numd_.ok (tC mgC.ok tN)) Tryz.func34 (exB:=λj=>j==6) (R:=λa r=>r= .im (.tup [])) (λ_=>rfl)
  (λa=>by simp[vlC.ca,vlC.H0,vlC.H1,B1,C3,AQ,AV.bel,AB,Cg,Cs,Ah.nms,Ax,AV.nms,An,hget]) (λa p hp=> ?_) (λa r h=>by subst h;exact D2.refl _) ?_
 rotate_left
 intro a z;simp only[Tryz.f34,Option.getD,vlC.ca,vlC.H0,vlC.H1,B1,C3];simp(disch:=omega)only[ZZ,simprocAttr,Ab,bQ,AD,Av,vlC.ca,vlC.H0,vlC.H1,B1,C3];rotate_left
 .simp only[vlC.H1,Bw,G7,Gd] at hp;rcases hp with rfl|rfl|rfl
  .exact .inl ⟨by omega,rfl,rfl⟩
  .exact .inr ⟨by omega,by omega,rfl,rfl⟩
  .exact .inl ⟨by omega,rfl,rfl⟩
 obtain⟨⟨g,t⟩,w,b⟩:=a;obtain⟨p1,Z,p3⟩:=z;simp only at p1 Z p3⊢;refine AZ.ren ⟨{k:Nat//k<=b},λk=>⟨[(6,.im (.int .i64 k.1)),(5,.im (.int .i64 b)),(0,.im (.str w)),(1,.ptr 4 0),(2,.ptr 5 0)],[(0,(true,.cells 80 [.own 6,.own 2,.mp 3])),(6,(true,.arr 66 2 ((g++AY w k.1 1).map Ak.c))),(2,(true,.arr 64 2 (t.map Tile.c))),(3,(true,.map ⟨false,[.str]⟩ (Cn (g++AY w k.1 1)))),(4,(true,.cells 2 [.im (.int .i64 b)])),(5,(true,.cells 69 [.ptr 0 0]))],7⟩,λk=>b - k.1,λk=>⟨by simp[ZG],by simp⟩,⟨⟨0,BV _⟩,[(6,some 1)],?_⟩,λk=> ?_⟩
 .simp only[Am,G0,Ck];simp(disch:=omega)only[ZZ,simprocAttr,Ab,bQ,AD,Av,vlC.ca,vlC.H0,vlC.H1,B1,C3,AN,AM]
 obtain⟨k,hk⟩:=k;have Q:IntKind.i64.wrap ((k:Int)+1)=((k+1:Nat):Int):=by rw[AH (by omega) (by omega)];omega
 simp(disch:=omega)only[ZZ,simprocAttr,Ab,bQ,AD,Av,vlC.ca,vlC.H0,vlC.H1,B1,C3,sub,AS];refine⟨λG=>⟨⟨by omega,by omega,by omega⟩,?_⟩,λG=> ?_⟩
 .refine Az.os ((g++AY w k 1,t),(⟨Ac w k,1⟩:Ak)) [0,6,2,3] (by simp only[Bz,EK];omega) (λj=>K6 _ _ j) rfl rfl ?_ ?_
  .simp(disch:=omega)only[ZZ,simprocAttr,Ab,bQ,AD,Av,vlC.ca,vlC.H0,vlC.H1,B1,C3,mgC.ca,mgC.H0,B1,Bb,Br,Bx]
   try exact⟨rfl,rfl⟩
  have O:g++AY w k 1++[⟨Ac w k,1⟩]=g++AY w (k+1) 1:=by rw[Oj,Ej]
  simp(disch:=omega)only[ZZ,simprocAttr,Ab,bQ,AD,Av,vlC.ca,vlC.H0,vlC.H1,B1,C3,mgC.H1,C3,sub,Br,Bx,O,Q];refine⟨⟨k+1,by omega⟩,[(6,some 7)],by simp only;omega,?_⟩;simp only[Am];simp(disch:=omega)only[ZZ,simprocAttr,Ab,bQ,AD,Av,vlC.ca,vlC.H0,vlC.H1,B1,C3,AN,AM]
 .obtain rfl:k=b:=by omega
  refine⟨[],[],⟨[],[(0,(true,.cells 80 [.own 6,.own 2,.mp 3])),(6,(true,.arr 66 2 ((g++AY w k 1).map Ak.c))),(2,(true,.arr 64 2 (t.map Tile.c))),(3,(true,.map ⟨false,[.str]⟩ (Cn (g++AY w k 1)))),(4,(true,.cells 2 [.im (.int .i64 k)])),(5,(true,.cells 69 [.ptr 0 0]))],7⟩,?_,by simp[ZG],by simp,?_⟩
  .simp only[Am];simp(disch:=omega)only[ZZ,simprocAttr,Ab,bQ,AD,Av,vlC.ca,vlC.H0,vlC.H1,B1,C3,AN,AM]
  .simp(disch:=omega)only[ZZ,simprocAttr,Ab,bQ,AD,Av,vlC.ca,vlC.H0,vlC.H1,B1,C3,vlC.H1,C3]
def IV(g:List Ak)(t:List Tile)(nm a b c d:ByteArray):mtT ((g,t),nm,[a,b,c,d])=AL (BX g) nm a b c d:=rfl
def IU(a:Mk×ByteArray×List ByteArray)(j:Nat):An (mtC.H0 a) j=true↔j<5:=by
 simp only[An,mtC.H0,B1,hget,Ci,Dv];rcases (by omega:j=0\/j=1\/j=2\/j=3\/j=4\/5<=j) with rfl|rfl|rfl|rfl|rfl|h<;>try simp
 have e: ∀i,i<5->(i==j)=false:=λi z=>by simp;omega
 simp[e 0 (by omega),e 1 (by omega),e 2 (by omega),e 3 (by omega),e 4 (by omega)];omega
def QR(t k:Nat):List Int:=(List.range k).map λ(i:Nat)=>((t+i:Nat):Int)
def sF(t k:Nat):QR t (k+1)=QR t k++[((t+k:Nat):Int)]:=G1 _ _
def M7(t k:Nat):(QR t k).length=k:=by simp[QR]
def JO(t k:Nat):List Aq:=(List.range k).map λ(i:Nat)=>⟨⟨(i:Int) - 1,0⟩,((t+i:Nat):Int)⟩
def oK(a:Sd):List Ak:=a.1.1++AY ⟨#[115]⟩ (a.2.1.length+1) 2
def mrT(a:Sd):List Tile:=a.1.2++DF (BX (oK a)) ⟨#[45]⟩ a.2.2.1 a.2.2.2 a.2.1
def mrC.ca(a:Sd):List AV:=[.ptr 0 0,.im (.sl false 1 (a.2.1.map Af)),.im (.str a.2.2.1),.im (.str a.2.2.2)]
def mrC.H0(a:Sd):Ar:=B1 a.1.1 a.1.2
def mrC.H1(a:Sd):Ar:=[(0,(true,.cells 80 [.own 4,.own 5,.mp 3])),(4,(true,.arr 66 2 ((oK a).map Ak.c))),(5,(true,.arr 64 2 ((mrT a).map Tile.c))),(3,(true,.map ⟨false,[.str]⟩ (Cn (oK a)))),(6,(true,.arr 88 3 ((Lw a.1.2.length a.2.1.length).map Aq.c)))]
def CM(j:Nat):Bool:=Nat.ble j 3
def CU(j:Nat):Bool:=Nat.ble 4 j && Nat.ble j 6
def mrC.row:AG:=Az mrC.ca mrC.H0 4 (λa=>a.1.1.length<=1000/\a.1.2.length<=1000/\a.2.1.length<=100/\ ∀x∈a.2.1,0<=x/\x<=100) CM (λ_=> .agg [.own 6]) mrC.H1 100
def HI:=J @numd_.q @numd_.fv.eq_1
def mrC.ok:AJ 40 mrC.row:=by
 refine Ha (tC numd_.ok (tC mgC.ok (tC mtC.ok tN))) Tryz.func40 (exB:=CU) (R:=λa r=>r= .agg [.own 6]) (λ_=>rfl)
  (λa=>by simp[mrC.ca,mrC.H0,mrC.H1,B1,CM,CU,AQ,AV.bel,AB,Cg,Cs,Ah.nms,Ax,AV.nms,An,hget]) (λa p hp=> ?_) (λa r h=>by subst h;exact D2.refl _) ?_
 rotate_left
 intro a ad;simp only[Tryz.f40,Option.getD,mrC.ca,mrC.H0,mrC.H1,B1,CM,CU];simp(disch:=omega)only[ZZ,simprocAttr,Ab,HI,AD,Av,mrC.ca,mrC.H0,mrC.H1,B1,CM,CU];rotate_left
 .simp only[mrC.H1,Bw,G7,Gd] at hp;rcases hp with rfl|rfl|rfl|rfl|rfl
  .exact .inl ⟨by omega,rfl,rfl⟩
  .exact .inr ⟨by omega,by omega,rfl,rfl⟩
  .exact .inr ⟨by omega,by omega,rfl,rfl⟩
  .exact .inl ⟨by omega,rfl,rfl⟩
  .exact .inr ⟨by omega,by omega,rfl,rfl⟩
 obtain⟨⟨g,t⟩,l,z,Z⟩:=a;obtain⟨p1,p2,p3,p4⟩:=ad;simp only at p1 p2 p3 p4⊢;have s1:(⟨#[115]⟩:ByteArray).size=1:=rfl;have ak:IntKind.i64.wrap ((l.length:Int)+1)=((l.length+1:Nat):Int):=by rw[AH (by omega) (by omega)];omega
 intro _;rw[ak];refine AZ.ren ⟨{k:Nat//k<=l.length+1},λk=>⟨[(22,.im (.int .i64 k.1)),(21,.im (.int .i64 ((l.length+1:Nat):Int))),(9,.im (.int .i64 l.length)),(8,.ptr 4 0),(0,.ptr 0 0),(1,.im (.sl false 1 (l.map Af))),(2,.im (.str z)),(3,.im (.str Z))],[(4,(true,.cells 25 [.im (.sl true 0 [])])),(0,(true,.cells 80 [.own 5,.own 2,.mp 3])),(5,(true,.arr 66 2 ((g++AY ⟨#[115]⟩ k.1 2).map Ak.c))),(2,(true,.arr 64 2 (t.map Tile.c))),(3,(true,.map ⟨false,[.str]⟩ (Cn (g++AY ⟨#[115]⟩ k.1 2))))],6⟩,λk=>l.length+1 - k.1,λk=>⟨by simp[ZG],by simp⟩,⟨⟨0,BV _⟩,[(5,some 1)],?_⟩,λk=> ?_⟩
 .simp only[Am,G0,Ck];simp(disch:=omega)only[ZZ,simprocAttr,Ab,HI,AD,Av,mrC.ca,mrC.H0,mrC.H1,B1,CM,CU,AN,AM]
 obtain⟨k,hk⟩:=k;have hw:IntKind.i64.wrap ((k:Int)+1)=((k+1:Nat):Int):=by rw[AH (by omega) (by omega)];omega
 simp(disch:=omega)only[ZZ,simprocAttr,Ab,HI,AD,Av,mrC.ca,mrC.H0,mrC.H1,B1,CM,CU,sub,AS];refine⟨λO=>⟨⟨by omega,by omega,by omega⟩,?_⟩,λO=> ?_⟩
 .refine Az.os ((g++AY ⟨#[115]⟩ k 2,t),(⟨Ac ⟨#[115]⟩ k,2⟩:Ak)) [0,5,2,3] (by simp only[Bz,EK];omega) (λj=>K6 _ _ j) rfl rfl ?_ ?_
  .simp(disch:=omega)only[ZZ,simprocAttr,Ab,HI,AD,Av,mrC.ca,mrC.H0,mrC.H1,B1,CM,CU,mgC.ca,mgC.H0,B1,Bb,Br,Bx]
   try exact⟨rfl,rfl⟩
  have hs:g++AY ⟨#[115]⟩ k 2++[⟨Ac ⟨#[115]⟩ k,2⟩]=g++AY ⟨#[115]⟩ (k+1) 2:=by rw[Oj,Ej]
  simp(disch:=omega)only[ZZ,simprocAttr,Ab,HI,AD,Av,mrC.ca,mrC.H0,mrC.H1,B1,CM,CU,mgC.H1,C3,sub,Br,Bx,hs,hw];refine⟨⟨k+1,by omega⟩,[(5,some 6)],by simp only;omega,?_⟩;simp only[Am];simp(disch:=omega)only[ZZ,simprocAttr,Ab,HI,AD,Av,mrC.ca,mrC.H0,mrC.H1,B1,CM,CU,AN,AM]
 obtain rfl:k=l.length+1:=by omega
 obtain⟨G,hG⟩: ∃G,G=g++AY ⟨#[115]⟩ (l.length+1) 2:=⟨_,rfl⟩;simp only[<-hG,Vp];refine Az.os ((G,t),⟨#[108,101,102,116]⟩,[z,Ac ⟨#[115]⟩ 0,⟨#[45]⟩,⟨#[45]⟩]) [0,5,2,3,6] ⟨by simp only;omega,by simp⟩ (λj=>IU _ j) rfl rfl ?_ ?_
 .simp(disch:=omega)only[ZZ,simprocAttr,Ab,HI,AD,Av,mrC.ca,mrC.H0,mrC.H1,B1,CM,CU,mtC.ca,mtC.H0,B1,Ci,Dv,Bb,Br,Bx,Bf,Bg]
  try exact⟨rfl,rfl⟩
 simp(disch:=omega)only[ZZ,simprocAttr,Ab,HI,AD,Av,mrC.ca,mrC.H0,mrC.H1,B1,CM,CU,mtC.H1,BC,sub,Br,Bx,IV];have ag:t++[AL (BX G) ⟨#[108,101,102,116]⟩ z (Ac ⟨#[115]⟩ 0) ⟨#[45]⟩ ⟨#[45]⟩]=t++EY (BX G) ⟨#[45]⟩ z l 0:=rfl;have aq:QR t.length 1=[(t.length:Int)]:=rfl;intro _;refine AZ.ren ⟨{k:Nat//k<=l.length},λk=>⟨[(37,.im (.int .i64 k.1)),(36,.im (.int .i64 l.length)),(35,.im (.sl false 1 (l.map Af))),(11,.own 29),(9,.im (.int .i64 l.length)),(8,.ptr 4 0),(0,.ptr 0 0),(1,.im (.sl false 1 (l.map Af))),(2,.im (.str z)),(3,.im (.str Z))],[(4,(true,.cells 25 [.im (.sl true 0 [])])),(0,(true,.cells 80 [.own 5,.own 28,.mp 3])),(5,(true,.arr 66 2 (G.map Ak.c))),(3,(true,.map ⟨false,[.str]⟩ (Cn G))),(28,(true,.arr 64 2 ((t++EY (BX G) ⟨#[45]⟩ z l k.1).map Tile.c))),(29,(true,.arr 2 1 ((QR t.length (k.1+1)).map Af)))],30⟩,λk=>l.length - k.1,λk=>⟨by simp[ZG],by simp⟩,⟨⟨0,BV _⟩,[(28,some 7),(29,some 27)],?_⟩,λk=> ?_⟩
 .simp only[Am];simp(disch:=omega)only[ZZ,simprocAttr,Ab,HI,AD,Av,mrC.ca,mrC.H0,mrC.H1,B1,CM,CU,AN,AM,ag,FS,aq]
 obtain⟨k,hk⟩:=k;have Q:=Rt (BX G) ⟨#[45]⟩ z l k;have ab:=M7 t.length (k+1);have af:IntKind.i64.wrap ((k:Int)+1)=(k:Int)+1:=AH (by omega) (by omega);have am:IntKind.i64.wrap ((k:Int)+1)=((k+1:Nat):Int):=by rw[af];omega
 have s2:(⟨#[115,116,97,114,116]⟩:ByteArray).size=5:=rfl;have s3:(⟨#[118]⟩:ByteArray).size=1:=rfl;simp(disch:=omega)only[ZZ,simprocAttr,Ab,HI,AD,Av,mrC.ca,mrC.H0,mrC.H1,B1,CM,CU,sub,AS,af];refine⟨λO=>⟨O,λx hx=> ?_⟩,λO=> ?_⟩
 .obtain⟨x1,x2⟩:=p4 x (Bh hx);refine⟨⟨by omega,by omega,by omega⟩,⟨by omega,by omega,by omega⟩,⟨by omega,by omega,by omega⟩,⟨by omega,by omega,by omega⟩,?_⟩;refine Az.os ((G,t++EY (BX G) ⟨#[45]⟩ z l k),Ac ⟨#[115,116,97,114,116]⟩ k,[Ac ⟨#[118]⟩ x,Ac ⟨#[115]⟩ ((k:Int)+1),⟨#[45]⟩,Ac ⟨#[115]⟩ k]) [0,5,28,3,30] ⟨by simp only[Bz,Q];omega,by simp⟩ (λj=>IU _ j) rfl rfl ?_ ?_
  .simp(disch:=omega)only[ZZ,simprocAttr,Ab,HI,AD,Av,mrC.ca,mrC.H0,mrC.H1,B1,CM,CU,mtC.ca,mtC.H0,B1,Ci,Dv,Bb,Br,Bx,Bf,Bg]
   try exact⟨rfl,rfl⟩
  have hs:=sO (BX G) ⟨#[45]⟩ z l k;rw[hx,AW] at hs;have hT:t++EY (BX G) ⟨#[45]⟩ z l k++[AL (BX G) (Ac ⟨#[115,116,97,114,116]⟩ k) (Ac ⟨#[118]⟩ x) (Ac ⟨#[115]⟩ ((k:Int)+1)) ⟨#[45]⟩ (Ac ⟨#[115]⟩ k)]=t++EY (BX G) ⟨#[45]⟩ z l (k+1):=by rw[hs,Ej]
  have hX:(QR t.length (k+1)).map Af++[[D.int .i64 ((t++EY (BX G) ⟨#[45]⟩ z l k).length:Nat)]]=(QR t.length (k+1+1)).map Af:=by
   rw[sF t.length (k+1),CV,Bz,Q];rfl
  simp(disch:=omega)only[ZZ,simprocAttr,Ab,HI,AD,Av,mrC.ca,mrC.H0,mrC.H1,B1,CM,CU,mtC.H1,BC,sub,Br,Bx,IV,hT,hX,am];refine⟨by rw[ab];omega,⟨k+1,by omega⟩,[(28,some 31),(29,some 52)],by simp only;omega,?_⟩;simp only[Am];simp(disch:=omega)only[ZZ,simprocAttr,Ab,HI,AD,Av,mrC.ca,mrC.H0,mrC.H1,B1,CM,CU,AN,AM]
 .obtain rfl:k=l.length:=by omega
  refine⟨⟨by omega,by omega,by omega⟩,?_⟩;refine Az.os ((G,t++EY (BX G) ⟨#[45]⟩ z l l.length),⟨#[114,105,103,104,116]⟩,[Z,⟨#[45]⟩,⟨#[45]⟩,Ac ⟨#[115]⟩ (l.length:Nat)]) [0,5,28,3,30] ⟨by simp only[Bz,Q];omega,by simp⟩ (λj=>IU _ j) rfl rfl ?_ ?_
  .simp(disch:=omega)only[ZZ,simprocAttr,Ab,HI,AD,Av,mrC.ca,mrC.H0,mrC.H1,B1,CM,CU,mtC.ca,mtC.H0,B1,Ci,Dv,Bb,Br,Bx,Bf,Bg]
   try exact⟨rfl,rfl⟩
  have hT:t++EY (BX G) ⟨#[45]⟩ z l l.length++[AL (BX G) ⟨#[114,105,103,104,116]⟩ Z ⟨#[45]⟩ ⟨#[45]⟩ (Ac ⟨#[115]⟩ (l.length:Nat))]=t++DF (BX G) ⟨#[45]⟩ z Z l:=by rw[Xi,Ej]
  have hX:(QR t.length (l.length+1)).map Af++[[D.int .i64 ((t++EY (BX G) ⟨#[45]⟩ z l l.length).length:Nat)]]=(QR t.length (l.length+2)).map Af:=by
   rw[sF t.length (l.length+1),CV,Bz,Q];rfl
  have ah:oK ((g,t),l,z,Z)=G:=by rw[hG];rfl
  have ac:mrT ((g,t),l,z,Z)=t++DF (BX G) ⟨#[45]⟩ z Z l:=by rw[hG];rfl
  obtain⟨TT,hTT⟩: ∃TT,TT=t++DF (BX G) ⟨#[45]⟩ z Z l:=⟨_,rfl⟩;rw[<-hTT] at hT ac;simp(disch:=omega)only[ZZ,simprocAttr,Ab,HI,AD,Av,mrC.ca,mrC.H0,mrC.H1,B1,CM,CU,mtC.H1,BC,sub,Br,Bx,IV,hT,hX];have aa:=M7 t.length (l.length+2);refine⟨by rw[ab];omega,λ_=> ?_⟩;rw[aa];refine AZ.ren ⟨{k:Nat//k<=l.length+2},λk=>⟨[(70,.im (.int .i64 k.1)),(69,.im (.int .i64 ((l.length+2:Nat):Int))),(68,.own 52),(15,.ptr 53 0),(8,.ptr 4 0)],[(4,(true,.cells 25 [.im (.sl true 0 [])])),(0,(true,.cells 80 [.own 5,.own 31,.mp 3])),(5,(true,.arr 66 2 (G.map Ak.c))),(3,(true,.map ⟨false,[.str]⟩ (Cn G))),(31,(true,.arr 64 2 (TT.map Tile.c))),(52,(true,.arr 2 1 ((QR t.length (l.length+2)).map Af))),(53,(true,.cells 25 [.own 54])),(54,(true,.arr 88 3 ((JO t.length k.1).map Aq.c)))],55⟩,λk=>l.length+2 - k.1,λk=>⟨by simp[ZG],by simp⟩,⟨⟨0,BV _⟩,[(54,none)],?_⟩,λk=> ?_⟩
  .simp only[Am,JO,Ho,Bg];simp(disch:=omega)only[ZZ,simprocAttr,Ab,HI,AD,Av,mrC.ca,mrC.H0,mrC.H1,B1,CM,CU,AN,AM]
  obtain⟨k,hk⟩:=k;have ai:(JO t.length k).length=k:=by simp[JO]
  have an:IntKind.i64.wrap ((k:Int) - 1)=(k:Int) - 1:=AH (by omega) (by omega);have ao:IntKind.i64.wrap ((k:Int)+1)=((k+1:Nat):Int):=by rw[AH (by omega) (by omega)];omega
  simp(disch:=omega)only[ZZ,simprocAttr,Ab,HI,AD,Av,mrC.ca,mrC.H0,mrC.H1,B1,CM,CU,sub,AS,Du,aa,an];refine⟨λO=>⟨O,O,λx hx=> ?_⟩,λO=> ?_⟩
  .have au:x=((t.length+k:Nat):Int):=by
    simp only[QR] at hx;rw[Gb,IH O] at hx;exact (AC hx).symm
   have hP:List.map Aq.c (JO t.length k)++[[D.int .i64 ((k:Int) - 1),D.int .i64 0,D.int .i64 x]]=(JO t.length (k+1)).map Aq.c:=by
    simp only[JO];rw[G1,CV,au];rfl
   rw[hP,ao];refine⟨by rw[ai];omega,⟨k+1,by omega⟩,[(54,some 56)],by simp only;omega,?_⟩;simp only[Am];simp(disch:=omega)only[ZZ,simprocAttr,Ab,HI,AD,Av,mrC.ca,mrC.H0,mrC.H1,B1,CM,CU,AN,AM]
  .obtain rfl:k=l.length+2:=by omega
   have aj:JO t.length (l.length+2)=Lw t.length l.length:=rfl;rw[ah,ac,aj];refine⟨[],[(7,some 4),(4,some 5),(5,some 31),(6,some 54)],⟨[(8,.ptr 7 0)],[(7,(true,.cells 25 [.own 6])),(0,(true,.cells 80 [.own 4,.own 5,.mp 3])),(4,(true,.arr 66 2 (G.map Ak.c))),(5,(true,.arr 64 2 (TT.map Tile.c))),(3,(true,.map ⟨false,[.str]⟩ (Cn G))),(6,(true,.arr 88 3 ((Lw t.length l.length).map Aq.c)))],8⟩,?_,by simp[ZG],by simp,?_⟩
   .simp only[Am];simp(disch:=omega)only[ZZ,simprocAttr,Ab,HI,AD,Av,mrC.ca,mrC.H0,mrC.H1,B1,CM,CU,AN,AM]
   .simp(disch:=omega)only[ZZ,simprocAttr,Ab,HI,AD,Av,mrC.ca,mrC.H0,mrC.H1,B1,CM,CU,CM,CU]
def OR(b x:Int):Bool:= !Bj x 0 (b - 1)
def bl1_.fv(a:Int×Int):Bool:=(λx b=>OR b x) (a.1) (a.2)
def bl1_.row:AG:=CY (b2 qI (qP 1 Dj)) rB (λa=> -9223372036854775807<=a.2/\a.2<=9223372036854775807) bl1_.fv
def bl1_.q:=CD (R:=bl1_.row) rfl
def bl1_.ok:AJ 88 bl1_.row:=by
 refine FM (tC within_.ok tN) Tryz.func88 ?_;intro a z;simp only[Tryz.f88,Option.getD];simp(disch:=omega)only[ZZ,simprocAttr,Ab,bl1_.fv,within_.q,within_.fv,BD,D.sc,D.scs,B6,AP];simp only[OR];rw[AH (by omega) (by omega)]
def IdxBl.ar:List PK->Option ((List Int)×Int)
 |[.val (.sl _ _ G),.val (.fn 88 [] [.ref [.int .i64 z]])]=>(AX Ch G).bind λO=>some (O,z)
 |_=>none
def IdxBl.ae(a:(List Int)×Int):List PK:=[.val (.sl false 1 (a.1.map Af)),.val (.fn 88 [] [.ref [.int .i64 a.2]])]
def IdxBl.le: ∀z a,IdxBl.ar z=some a->BY z (IdxBl.ae a):=by
 intro z a h;unfold IdxBl.ar at h;split at h
 .simp only[Fi,AO] at h;obtain⟨G,h0,rfl⟩:=h;exact⟨Fh (EZ Dj _ _ h0) (by simp only[BF];rintro r ⟨y,_,rfl⟩;rfl),Wr ⟨Le.refl _,trivial⟩,trivial⟩
 .cases h
def IdxBl.fv(a:(List Int)×Int):Int:=(λl b=>B0 (OR b) 0 l) (a.1) (a.2)
def IdxBl.row:AG:=LB IdxBl.ar (λa=> -9223372036854775807<=a.2/\a.2<=9223372036854775807) (λa=>(D.int .i64) (IdxBl.fv a))
def IdxBl.q:=oM IdxBl.row rfl
def YaP:=J @IdxBl.ae.eq_1<|J @IdxBl.fv.eq_1<|J @bl1_.q @bl1_.fv.eq_1
def IdxBl.ok:AJ 92 IdxBl.row:=by
 refine lP D3 (tC bl1_.ok tN) Tryz.func92 rfl (by kernel_rfl) (by kernel_rfl) (ar:=IdxBl.ar) (ae:=IdxBl.ae) IdxBl.le (n:=2) (λ_=>rfl) (by decide) (rc:=(DG)) (re:=(D.int .i64)) (Q2) (f:=IdxBl.fv) ?_;intro a G;simp only[Tryz.f92,Option.getD];simp(disch:=omega)only[ZZ,simprocAttr,Ab,YaP,BD,D.sc,D.scs,B6,AP];intro hn;obtain⟨l,b⟩:=a;simp only at G hn⊢;refine AZ.old ⟨{k:Nat//k<=l.length/\B0 (OR b) k (l.drop k)=B0 (OR b) 0 l},λk=>⟨[(8,.im (.int .i64 k.1)),(7,.im (.int .i64 l.length)),(6,.im (.sl false 1 (l.map Af))),(4,.im (.int .i64 0)),(0,.im (.sl false 1 (l.map Af))),(1,.im (.fn 88 [] [.ref (Af b)]))],[],0⟩,λk=>l.length - k.1,λk=>⟨by simp[ZG],AU _⟩,⟨⟨0,by simp⟩,by simp(disch:=omega)only[ZZ,simprocAttr,Ab,YaP,BD,D.sc,D.scs,B6,AP,sub]⟩,λk=> ?_⟩;obtain⟨k,Q,z⟩:=k;simp(disch:=omega)only[ZZ,simprocAttr,Ab,YaP,BD,D.sc,D.scs,B6,AP,sub,AS];refine⟨λO=>⟨O,λx Z=> ?_⟩,λO=> ?_⟩
 .rw[GQ Z,B0] at z;refine⟨G,λh=> ?_,λh=>JW O hn ⟨by omega,by rw[<-z,Ag (by simpa using h)]⟩⟩;rw[Al (by simpa using h)] at z;exact z.symm▸rfl
 .rw[Ee (by omega),B0] at z;exact z
def ContBl.ar:List PK->Option ((List Int)×Int)
 |[.val (.sl _ _ G),.val (.fn 88 [] [.ref [.int .i64 z]])]=>(AX Ch G).bind λO=>some (O,z)
 |_=>none
def ContBl.ae(a:(List Int)×Int):List PK:=[.val (.sl false 1 (a.1.map Af)),.val (.fn 88 [] [.ref [.int .i64 a.2]])]
def ContBl.le: ∀z a,ContBl.ar z=some a->BY z (ContBl.ae a):=by
 intro z a h;unfold ContBl.ar at h;split at h
 .simp only[Fi,AO] at h;obtain⟨G,h0,rfl⟩:=h;exact⟨Fh (EZ Dj _ _ h0) (by simp only[BF];rintro r ⟨y,_,rfl⟩;rfl),Wr ⟨Le.refl _,trivial⟩,trivial⟩
 .cases h
def ContBl.fv(a:(List Int)×Int):Bool:=(λl b=>l.any (OR b)) (a.1) (a.2)
def ContBl.row:AG:=LB ContBl.ar (λa=> -9223372036854775807<=a.2/\a.2<=9223372036854775807) (λa=>(D.bool) (ContBl.fv a))
def ContBl.q:=oM ContBl.row rfl
def ContBl.ok:AJ 67 ContBl.row:=by
 refine lP D3 (tC IdxBl.ok tN) Tryz.func67 rfl (by kernel_rfl) (by kernel_rfl) (ar:=ContBl.ar) (ae:=ContBl.ae) ContBl.le (n:=2) (λ_=>rfl) (by decide) (rc:=(Re)) (re:=(D.bool)) (eP) (f:=ContBl.fv) ?_;intro a z;simp only[Tryz.f67,Option.getD];simp(disch:=omega)only[ZZ,simprocAttr,Ab,ContBl.ae,ContBl.fv,IdxBl.q,IdxBl.ar,IdxBl.fv,BD,D.sc,D.scs,B6,AP];exact⟨z,vL _ _⟩
def blw_.fv(a:(List Int)×Int):Bool:=(λl b=>l.all (λx=>Bj x 0 (b - 1))) (a.1) (a.2)
def blw_.row:AG:=CY (b2 (qS Dj Ct) qI) rB (λa=> -9223372036854775807<=a.2/\a.2<=9223372036854775807) blw_.fv
def blw_.q:=CD (R:=blw_.row) rfl
def blw_.ok:AJ 64 blw_.row:=by
 refine FM (tC ContBl.ok tN) Tryz.func64 ?_;intro a z;simp only[Tryz.f64,Option.getD];simp(disch:=omega)only[ZZ,simprocAttr,Ab,blw_.fv,ContBl.q,ContBl.ar,ContBl.fv,BD,D.sc,D.scs,B6,AP];refine .inl ⟨z,?_⟩;rw[List.all_eq_not_any_not];rfl
def sok_.fv(a:Int×(List Int)):Bool:=(λb l=>decide (CP b l=0)) (a.1) (a.2)
def sok_.row:AG:=CY (b2 qI (qS Dj Ct)) rB (λa=>True) sok_.fv
def sok_.q:=CD (R:=sok_.row) rfl
def sok_.ok:AJ 32 sok_.row:=by
 refine FM (tC within_.ok (tC blw_.ok tN)) Tryz.func32 ?_;intro a G;simp only[Tryz.f32,Option.getD];simp(disch:=omega)only[ZZ,simprocAttr,Ab,sok_.fv,within_.q,within_.fv,blw_.q,blw_.fv,BD,D.sc,D.scs,B6,AP];obtain⟨b,l⟩:=a;simp only;by_cases c1:Bj b 1 6=true
 .rw[Al c1];obtain⟨b1,b2⟩:1<=b/\b<=6:=by simpa[Bj] using c1
  intro _;by_cases z:Bj (l.length:Int) 1 12=true
  .rw[Al z];refine⟨⟨by omega,by omega⟩,?_⟩;simp only[CP,c1,z,ED];cases l.all λx=>Bj x 0 (b - 1)<;>simp
  .rw[Ag z];simp[CP,z]
 .rw[Ag c1];simp[CP,c1]
def V3(b n:Nat)(z:ByteArray->Int)(nx:Nat->ByteArray)(e:ByteArray):(ET z nx e b n).length=1+b+b*b+b+n:=by
 simp only[ET,Bz,Du,FE,RQ];rw[Rs _ _ b (λ_=>by simp)]
def sysI_.fv(a:Int×(List Int)):AF×Int:=(GL) (a.1) (a.2)
def sysI_.row:AG:=vK (b2 qI (qS Dj Ct)) (r2 (rA AF.d_le) rI) (λa=>True) sysI_.fv
def sysI_.q:=B3 (R:=sysI_.row) rfl
def Dd:=J @sysI_.fv.eq_1<|J @sok_.q<|J @sok_.fv.eq_1<|J @numd_.q<|J @numd_.fv.eq_1<|J @prd_.q<|J @prd_.fv.eq_1<|J @unl_.q @unl_.fv.eq_1
def sysI_.ok:AJ 16 sysI_.row:=by
 refine vw (tC sok_.ok (tC nmC.ok (tC vlC.ok (tC mgC.ok (tC mtC.ok (tC numd_.ok (tC prd_.ok (tC unl_.ok (tC mrC.ok tN))))))))) Tryz.func16 ?_;intro a bf;simp only[Tryz.f16,Option.getD];simp(disch:=omega)only[ZZ,simprocAttr,Ab,Dd];obtain⟨a0,l⟩:=a;simp only;by_cases c:CP a0 l=0
 case neg=>
  rw[Al (by simpa using c)];have e:CP a0 l=2:=by
   simp only[CP] at c⊢;split at c
   .exact absurd rfl c
   .rename_i h;rw[Ag h]
  simp only[GL];rw[Ag c,e]
 rw[Ag (by simpa using c)];have hQ:GL a0 l=(VJ a0.toNat l,0):=by
  simp only[GL];rw[Al c,ZE _ _ λx hx=>((Ru c).2.2.2.2 x hx).1]
 obtain⟨p1,p2,bj,p3,p4⟩:=Ru c;obtain⟨b,rfl⟩: ∃b:Nat,a0=b:=⟨a0.toNat,by omega⟩;rw[hQ,B5];intro _;refine Az.os () [] trivial (λj=>by simp[An,hget]) rfl rfl ?_ ?_
 .simp(disch:=omega)only[ZZ,simprocAttr,Ab,Dd,nmC.ca,Fs]
  try exact⟨rfl,rfl,rfl⟩
 simp(disch:=omega)only[ZZ,simprocAttr,Ab,Dd,B1,sub,Br,Bx,Bg];have hz:(⟨#[118]⟩:ByteArray).size=1:=rfl;refine Az.os ((([],[]),⟨#[118]⟩,b):Vl) [2,3,4,5,0,22] ⟨by simp only[DQ];omega,by simp only;omega,by simp only;omega⟩ (λj=>eW _ j) rfl rfl ?_ ?_
 .simp(disch:=omega)only[ZZ,simprocAttr,Ab,Dd,vlC.ca,vlC.H0,B1,Ci,Dv,Bb,Br,Bx,Bg]
  try exact⟨rfl,rfl⟩
 obtain⟨A1,hA1⟩: ∃A,A=AY ⟨#[118]⟩ b 1:=⟨_,rfl⟩;have au:A1.length<=0+b:=by rw[hA1,EK];omega
 simp(disch:=omega)only[ZZ,simprocAttr,Ab,Dd,vlC.H1,C3,sub,Br,Bx,Dv,<-hA1,Bg];clear hz;refine Az.os ((A1,[]),(⟨⟨#[118,120]⟩,1⟩:Ak)) [2,23,4,5] (by simp only;omega) (λj=>K6 _ _ j) rfl rfl ?_ ?_
 .simp(disch:=omega)only[ZZ,simprocAttr,Ab,Dd,mgC.ca,mgC.H0,B1,Bb,Br,Bx,Bg]
  try exact⟨rfl,rfl⟩
 obtain⟨A2,hA2⟩: ∃A,A=A1++[⟨⟨#[118,120]⟩,1⟩]:=⟨_,rfl⟩;have av:A2.length<=0+b+1:=by rw[hA2,Bz,RQ];omega
 simp(disch:=omega)only[ZZ,simprocAttr,Ab,Dd,mgC.H1,C3,sub,Br,Bx,<-hA2,Bg];have hz:(⟨#[99]⟩:ByteArray).size=1:=rfl;refine Az.os (((A2,[]),⟨#[99]⟩,b):Vl) [2,63,4,5,0,22] ⟨by simp only;omega,by simp only;omega,by simp only;omega⟩ (λj=>eW _ j) rfl rfl ?_ ?_
 .simp(disch:=omega)only[ZZ,simprocAttr,Ab,Dd,vlC.ca,vlC.H0,B1,Ci,Dv,Bb,Br,Bx,Bg]
  try exact⟨rfl,rfl⟩
 obtain⟨A3,hA3⟩: ∃A,A=A2++AY ⟨#[99]⟩ b 1:=⟨_,rfl⟩;have aw:A3.length<=0+b+1+b:=by rw[hA3,Bz,EK];omega
 simp(disch:=omega)only[ZZ,simprocAttr,Ab,Dd,vlC.H1,C3,sub,Br,Bx,Dv,<-hA3,Bg];clear hz;refine Az.os ((A3,[]),(⟨⟨#[99,120]⟩,1⟩:Ak)) [2,83,4,5] (by simp only;omega) (λj=>K6 _ _ j) rfl rfl ?_ ?_
 .simp(disch:=omega)only[ZZ,simprocAttr,Ab,Dd,mgC.ca,mgC.H0,B1,Bb,Br,Bx,Bg]
  try exact⟨rfl,rfl⟩
 obtain⟨A4,hA4⟩: ∃A,A=A3++[⟨⟨#[99,120]⟩,1⟩]:=⟨_,rfl⟩;have ax:A4.length<=0+b+1+b+1:=by rw[hA4,Bz,RQ];omega
 simp(disch:=omega)only[ZZ,simprocAttr,Ab,Dd,mgC.H1,C3,sub,Br,Bx,<-hA4,Bg];refine Az.os ((A4,[]),(⟨⟨#[115,105,100,101]⟩,1⟩:Ak)) [2,123,4,5] (by simp only;omega) (λj=>K6 _ _ j) rfl rfl ?_ ?_
 .simp(disch:=omega)only[ZZ,simprocAttr,Ab,Dd,mgC.ca,mgC.H0,B1,Bb,Br,Bx,Bg]
  try exact⟨rfl,rfl⟩
 obtain⟨A5,hA5⟩: ∃A,A=A4++[⟨⟨#[115,105,100,101]⟩,1⟩]:=⟨_,rfl⟩;have ay:A5.length<=0+b+1+b+1+1:=by rw[hA5,Bz,RQ];omega
 simp(disch:=omega)only[ZZ,simprocAttr,Ab,Dd,mgC.H1,C3,sub,Br,Bx,<-hA5,Bg];have hz:(⟨#[109,97,120]⟩:ByteArray).size=3:=rfl;refine Az.os (((A5,[]),⟨#[109,97,120]⟩,b):Vl) [2,143,4,5,0,22] ⟨by simp only;omega,by simp only;omega,by simp only;omega⟩ (λj=>eW _ j) rfl rfl ?_ ?_
 .simp(disch:=omega)only[ZZ,simprocAttr,Ab,Dd,vlC.ca,vlC.H0,B1,Ci,Dv,Bb,Br,Bx,Bg]
  try exact⟨rfl,rfl⟩
 obtain⟨A6,hA6⟩: ∃A,A=A5++AY ⟨#[109,97,120]⟩ b 1:=⟨_,rfl⟩;have az:A6.length<=0+b+1+b+1+1+b:=by rw[hA6,Bz,EK];omega
 simp(disch:=omega)only[ZZ,simprocAttr,Ab,Dd,vlC.H1,C3,sub,Br,Bx,Dv,<-hA6,Bg];clear hz;refine AZ.ren ⟨{k:Nat//k<=l.length},λk=>⟨[(38,.im (.int .i64 k.1)),(37,.im (.int .i64 l.length)),(6,.im (.int .i64 l.length)),(7,.ptr 22 0),(4,.ptr 1 0),(2,.ptr 0 0),(1,.im (.sl false 1 (l.map Af)))],[(0,(true,.cells 2 [.im (.int .i64 b)])),(1,(true,.cells 39 [.im (.sl true 0 []),.im (.sl true 0 []),.im (.sl true 0 []),.im (.int .i64 0)])),(22,(true,.cells 69 [.ptr 2 0])),(2,(true,.cells 80 [.own 203,.own 4,.mp 5])),(203,(true,.arr 66 2 ((A6++AY ⟨#[114]⟩ k.1 2).map Ak.c))),(4,(true,.arr 64 2 (([]:List Tile).map Tile.c))),(5,(true,.map ⟨false,[.str]⟩ (Cn (A6++AY ⟨#[114]⟩ k.1 2))))],204⟩,λk=>l.length - k.1,λk=>⟨by simp[ZG],by simp⟩,⟨⟨0,BV _⟩,[(203,some 163)],?_⟩,λk=> ?_⟩
 .simp only[Am,G0,Ck];simp(disch:=omega)only[ZZ,simprocAttr,Ab,Dd,AN,AM,Bg]
 obtain⟨k,hk⟩:=k;have sW:(⟨#[114]⟩:ByteArray).size=1:=rfl;have hw:IntKind.i64.wrap ((k:Int)+1)=((k+1:Nat):Int):=by rw[AH (by omega) (by omega)];omega
 simp(disch:=omega)only[ZZ,simprocAttr,Ab,Dd,sub,AS];refine⟨λz=>⟨⟨by omega,by omega,by omega⟩,?_⟩,λz=> ?_⟩
 .refine Az.os ((A6++AY ⟨#[114]⟩ k 2,[]),(⟨Ac ⟨#[114]⟩ k,2⟩:Ak)) [2,203,4,5] (by simp only[Bz,EK];omega) (λj=>K6 _ _ j) rfl rfl ?_ ?_
  .simp(disch:=omega)only[ZZ,simprocAttr,Ab,Dd,mgC.ca,mgC.H0,B1,Bb,Br,Bx,Bg]
   try exact⟨rfl,rfl⟩
  have hs:A6++AY ⟨#[114]⟩ k 2++[⟨Ac ⟨#[114]⟩ k,2⟩]=A6++AY ⟨#[114]⟩ (k+1) 2:=by rw[Oj,Ej]
  simp(disch:=omega)only[ZZ,simprocAttr,Ab,Dd,mgC.H1,C3,sub,Br,Bx,hs,hw,Bg];refine⟨⟨k+1,by omega⟩,[(203,some 204)],by simp only;omega,?_⟩;simp only[Am];simp(disch:=omega)only[ZZ,simprocAttr,Ab,Dd,AN,AM,Bg]
 obtain⟨A7,hA7⟩: ∃A,A=A6++AY ⟨#[114]⟩ l.length 2:=⟨_,rfl⟩;have a8:A7.length<=0+b+1+b+1+1+b+l.length:=by rw[hA7,Bz,EK];omega
 have O:k=l.length:=by omega
 simp only[O,<-hA7];clear hw hk z O sW k;obtain⟨G,hG⟩: ∃G,G=A7:=⟨_,rfl⟩;simp only[<-hG];refine Az.os ((G,[]),⟨#[104,111,108,101]⟩,[⟨#[118,120]⟩,⟨#[99,120]⟩,⟨#[118,120]⟩,⟨#[99,120]⟩]) [2,203,4,5,204] ⟨by simp only[DQ];omega,by simp⟩ (λj=>IU _ j) rfl rfl ?_ ?_
 .simp(disch:=omega)only[ZZ,simprocAttr,Ab,Dd,mtC.ca,mtC.H0,B1,Ci,Dv,Bb,Br,Bx,Bf,Bg]
  try exact⟨rfl,rfl⟩
 obtain⟨T1,hT1⟩: ∃A,A=[AL (BX G) ⟨#[104,111,108,101]⟩ ⟨#[118,120]⟩ ⟨#[99,120]⟩ ⟨#[118,120]⟩ ⟨#[99,120]⟩]:=⟨_,rfl⟩;have a9:T1.length<=0+1:=by rw[hT1,RQ];omega
 simp(disch:=omega)only[ZZ,simprocAttr,Ab,Dd,mtC.H1,BC,sub,Br,Bx,IV,Dv,<-hT1];refine AZ.ren ⟨{k:Nat//k<=b},λk=>⟨[(50,.im (.int .i64 k.1)),(49,.im (.int .i64 b)),(6,.im (.int .i64 l.length)),(7,.ptr 22 0),(4,.ptr 1 0),(2,.ptr 0 0),(1,.im (.sl false 1 (l.map Af)))],[(0,(true,.cells 2 [.im (.int .i64 b)])),(1,(true,.cells 39 [.im (.sl true 0 []),.im (.sl true 0 []),.im (.sl true 0 []),.im (.int .i64 0)])),(22,(true,.cells 69 [.ptr 2 0])),(2,(true,.cells 80 [.own 203,.own 225,.mp 5])),(203,(true,.arr 66 2 (G.map Ak.c))),(225,(true,.arr 64 2 ((T1++(List.range k.1).map (λ(k:Nat)=>AL (BX G) (Ac ⟨#[116,97,107,101]⟩ (k:Nat)) ⟨#[118,120]⟩ (Ac ⟨#[99]⟩ (k:Nat)) (Ac ⟨#[118]⟩ (k:Nat)) ⟨#[99,120]⟩)).map Tile.c))),(5,(true,.map ⟨false,[.str]⟩ (Cn G)))],226⟩,λk=>b - k.1,λk=>⟨by simp[ZG],by simp⟩,⟨⟨0,BV _⟩,[(225,some 205)],?_⟩,λk=> ?_⟩
 .simp only[Am,Ho,Bg,Ck];simp(disch:=omega)only[ZZ,simprocAttr,Ab,Dd,AN,AM]
 obtain⟨k,hk⟩:=k;have z0:(⟨#[116,97,107,101]⟩:ByteArray).size=4:=rfl;have z1:(⟨#[99]⟩:ByteArray).size=1:=rfl;have z2:(⟨#[118]⟩:ByteArray).size=1:=rfl;have Q:IntKind.i64.wrap ((k:Int)+1)=(k:Int)+1:=AH (by omega) (by omega);have aa:IntKind.i64.wrap ((l.length:Int) - 1)=(l.length:Int) - 1:=AH (by omega) (by omega);have Z:IntKind.i64.wrap ((k:Int)+1)=((k+1:Nat):Int):=by rw[Q];omega
 simp(disch:=omega)only[ZZ,simprocAttr,Ab,Dd,sub,AS,Q,aa];refine⟨λz=>⟨⟨by omega,by omega,by omega⟩,⟨by omega,by omega,by omega⟩,⟨by omega,by omega,by omega⟩,?_⟩,λz=> ?_⟩
 .have ab:I2 (decide ((k:Int)=(l.length:Int) - 1)) (Ac ⟨#[114]⟩ ((k:Int)+1))=JD l.length k:=by simp only[I2,JD,C7];rfl
  try rw[ab]
  refine Az.os ((G,T1++(List.range k).map (λ(k:Nat)=>AL (BX G) (Ac ⟨#[116,97,107,101]⟩ (k:Nat)) ⟨#[118,120]⟩ (Ac ⟨#[99]⟩ (k:Nat)) (Ac ⟨#[118]⟩ (k:Nat)) ⟨#[99,120]⟩)),(Ac ⟨#[116,97,107,101]⟩ (k:Nat)),[⟨#[118,120]⟩,(Ac ⟨#[99]⟩ (k:Nat)),(Ac ⟨#[118]⟩ (k:Nat)),⟨#[99,120]⟩]) [2,203,225,5,226] ⟨by simp only[Bz,Du,FE];omega,by simp⟩ (λj=>IU _ j) rfl rfl ?_ ?_
  .simp(disch:=omega)only[ZZ,simprocAttr,Ab,Dd,mtC.ca,mtC.H0,B1,Ci,Dv,Bb,Br,Bx,Bf,Bg]
   try exact⟨rfl,rfl⟩
  have hs:T1++(List.range k).map (λ(k:Nat)=>AL (BX G) (Ac ⟨#[116,97,107,101]⟩ (k:Nat)) ⟨#[118,120]⟩ (Ac ⟨#[99]⟩ (k:Nat)) (Ac ⟨#[118]⟩ (k:Nat)) ⟨#[99,120]⟩)++[AL (BX G) (Ac ⟨#[116,97,107,101]⟩ (k:Nat)) ⟨#[118,120]⟩ (Ac ⟨#[99]⟩ (k:Nat)) (Ac ⟨#[118]⟩ (k:Nat)) ⟨#[99,120]⟩]=T1++(List.range (k+1)).map (λ(k:Nat)=>AL (BX G) (Ac ⟨#[116,97,107,101]⟩ (k:Nat)) ⟨#[118,120]⟩ (Ac ⟨#[99]⟩ (k:Nat)) (Ac ⟨#[118]⟩ (k:Nat)) ⟨#[99,120]⟩):=by rw[G1,Ej]
  simp(disch:=omega)only[ZZ,simprocAttr,Ab,Dd,mtC.H1,BC,sub,Br,Bx,IV,hs,Z];refine⟨⟨k+1,by omega⟩,[(225,some 227)],by simp only;omega,?_⟩;simp only[Am];simp(disch:=omega)only[ZZ,simprocAttr,Ab,Dd,AN,AM]
 obtain⟨T2,hT2⟩: ∃A,A=T1++(List.range b).map (λ(k:Nat)=>AL (BX G) (Ac ⟨#[116,97,107,101]⟩ (k:Nat)) ⟨#[118,120]⟩ (Ac ⟨#[99]⟩ (k:Nat)) (Ac ⟨#[118]⟩ (k:Nat)) ⟨#[99,120]⟩):=⟨_,rfl⟩;have ba:T2.length<=0+1+b:=by rw[hT2,Bz,Du,FE];omega
 have O:k=b:=by omega
 simp only[O,<-hT2];clear Q Z aa hk z O z0 z1 z2 k;refine AZ.ren ⟨{k:Nat//k<=b},λk=>⟨[(64,.im (.int .i64 k.1)),(63,.im (.int .i64 b)),(6,.im (.int .i64 l.length)),(7,.ptr 22 0),(4,.ptr 1 0),(2,.ptr 0 0),(1,.im (.sl false 1 (l.map Af)))],[(0,(true,.cells 2 [.im (.int .i64 b)])),(1,(true,.cells 39 [.im (.sl true 0 []),.im (.sl true 0 []),.im (.sl true 0 []),.im (.int .i64 0)])),(22,(true,.cells 69 [.ptr 2 0])),(2,(true,.cells 80 [.own 203,.own 226,.mp 5])),(203,(true,.arr 66 2 (G.map Ak.c))),(226,(true,.arr 64 2 ((T2++(List.range k.1).flatMap (λ(k:Nat)=>(List.range b).map λ(q:Nat)=>AL (BX G) (Cz ⟨#[107]⟩ (k:Nat) (q:Nat)) (Ac ⟨#[118]⟩ (Bt (k:Nat) (q:Nat))) (Ac ⟨#[99]⟩ (Bo (k:Nat) (q:Nat))) (Ac ⟨#[118]⟩ (q:Nat)) (Ac ⟨#[99]⟩ (k:Nat)))).map Tile.c))),(5,(true,.map ⟨false,[.str]⟩ (Cn G)))],227⟩,λk=>b - k.1,λk=>⟨by simp[ZG],by simp⟩,⟨⟨0,BV _⟩,[(226,some 225)],?_⟩,λk=> ?_⟩
 .simp only[Am,Ho,IE,Ck];simp(disch:=omega)only[ZZ,simprocAttr,Ab,Dd,AN,AM]
 obtain⟨k,hk⟩:=k;obtain⟨U,hU⟩: ∃U,U=T2++(List.range k).flatMap (λ(k:Nat)=>(List.range b).map λ(q:Nat)=>AL (BX G) (Cz ⟨#[107]⟩ (k:Nat) (q:Nat)) (Ac ⟨#[118]⟩ (Bt (k:Nat) (q:Nat))) (Ac ⟨#[99]⟩ (Bo (k:Nat) (q:Nat))) (Ac ⟨#[118]⟩ (q:Nat)) (Ac ⟨#[99]⟩ (k:Nat))):=⟨_,rfl⟩;have am:U.length<=0+1+b+k*b:=by rw[hU,Bz,Rs _ _ b (λ_=>by simp)];omega
 have ad:k*b<=6*6:=xA (by omega) (by omega);have Z:IntKind.i64.wrap ((k:Int)+1)=((k+1:Nat):Int):=by rw[AH (by omega) (by omega)];omega
 simp(disch:=omega)only[ZZ,simprocAttr,Ab,Dd,sub,AS,<-hU];refine⟨λz=> ?_,λz=> ?_⟩
 .refine AZ.ren ⟨{q:Nat//q<=b},λq=>⟨[(68,.im (.int .i64 q.1)),(67,.im (.int .i64 b)),(11,.im (.int .i64 k)),(64,.im (.int .i64 k)),(63,.im (.int .i64 b)),(6,.im (.int .i64 l.length)),(7,.ptr 22 0),(4,.ptr 1 0),(2,.ptr 0 0),(1,.im (.sl false 1 (l.map Af)))],[(0,(true,.cells 2 [.im (.int .i64 b)])),(1,(true,.cells 39 [.im (.sl true 0 []),.im (.sl true 0 []),.im (.sl true 0 []),.im (.int .i64 0)])),(22,(true,.cells 69 [.ptr 2 0])),(2,(true,.cells 80 [.own 203,.own 227,.mp 5])),(203,(true,.arr 66 2 (G.map Ak.c))),(227,(true,.arr 64 2 ((U++(List.range q.1).map (λ(q:Nat)=>AL (BX G) (Cz ⟨#[107]⟩ (k:Nat) (q:Nat)) (Ac ⟨#[118]⟩ (Bt (k:Nat) (q:Nat))) (Ac ⟨#[99]⟩ (Bo (k:Nat) (q:Nat))) (Ac ⟨#[118]⟩ (q:Nat)) (Ac ⟨#[99]⟩ (k:Nat)))).map Tile.c))),(5,(true,.map ⟨false,[.str]⟩ (Cn G)))],228⟩,λq=>b - q.1,λq=>⟨by simp[ZG],by simp⟩,⟨⟨0,BV _⟩,[(227,some 226)],?_⟩,λq=> ?_⟩
  .simp only[Am,Ho,Bg,Ck];simp(disch:=omega)only[ZZ,simprocAttr,Ab,Dd,AN,AM]
  obtain⟨q,hq⟩:=q;have ah:min (k:Int) (q:Int)=Bt (k:Int) (q:Int):=by simp only[Bt];split<;>omega
  have ai:max (k:Int) (q:Int)=Bo (k:Int) (q:Int):=by simp only[Bo];split<;>omega
  have bh:0<=Bt (k:Int) (q:Int)/\Bt (k:Int) (q:Int)<=100:=by simp only[Bt];split<;>omega
  have bi:0<=Bo (k:Int) (q:Int)/\Bo (k:Int) (q:Int)<=100:=by simp only[Bo];split<;>omega
  have z0:(⟨#[107]⟩:ByteArray).size=1:=rfl;have z1:(⟨#[118]⟩:ByteArray).size=1:=rfl;have z2:(⟨#[99]⟩:ByteArray).size=1:=rfl;have hw:IntKind.i64.wrap ((q:Int)+1)=((q+1:Nat):Int):=by rw[AH (by omega) (by omega)];omega
  simp(disch:=omega)only[ZZ,simprocAttr,Ab,Dd,sub,AS,ah,ai];refine⟨λan=> ?_,λan=> ?_⟩
  .refine⟨⟨by omega,⟨by omega,by omega⟩,by omega,by omega⟩,⟨by omega,by omega,by omega⟩,⟨by omega,by omega,by omega⟩,⟨by omega,by omega,by omega⟩,⟨by omega,by omega,by omega⟩,?_⟩;refine Az.os ((G,U++(List.range q).map (λ(q:Nat)=>AL (BX G) (Cz ⟨#[107]⟩ (k:Nat) (q:Nat)) (Ac ⟨#[118]⟩ (Bt (k:Nat) (q:Nat))) (Ac ⟨#[99]⟩ (Bo (k:Nat) (q:Nat))) (Ac ⟨#[118]⟩ (q:Nat)) (Ac ⟨#[99]⟩ (k:Nat)))),(Cz ⟨#[107]⟩ (k:Nat) (q:Nat)),[(Ac ⟨#[118]⟩ (Bt (k:Nat) (q:Nat))),(Ac ⟨#[99]⟩ (Bo (k:Nat) (q:Nat))),(Ac ⟨#[118]⟩ (q:Nat)),(Ac ⟨#[99]⟩ (k:Nat))]) [2,203,227,5,228] ⟨by simp only[Bz,Du,FE];omega,by simp⟩ (λj=>IU _ j) rfl rfl ?_ ?_
   .simp(disch:=omega)only[ZZ,simprocAttr,Ab,Dd,mtC.ca,mtC.H0,B1,Ci,Dv,Bb,Br,Bx,Bf,Bg]
    try exact⟨rfl,rfl⟩
   have hs:U++(List.range q).map (λ(q:Nat)=>AL (BX G) (Cz ⟨#[107]⟩ (k:Nat) (q:Nat)) (Ac ⟨#[118]⟩ (Bt (k:Nat) (q:Nat))) (Ac ⟨#[99]⟩ (Bo (k:Nat) (q:Nat))) (Ac ⟨#[118]⟩ (q:Nat)) (Ac ⟨#[99]⟩ (k:Nat)))++[AL (BX G) (Cz ⟨#[107]⟩ (k:Nat) (q:Nat)) (Ac ⟨#[118]⟩ (Bt (k:Nat) (q:Nat))) (Ac ⟨#[99]⟩ (Bo (k:Nat) (q:Nat))) (Ac ⟨#[118]⟩ (q:Nat)) (Ac ⟨#[99]⟩ (k:Nat))]=U++(List.range (q+1)).map (λ(q:Nat)=>AL (BX G) (Cz ⟨#[107]⟩ (k:Nat) (q:Nat)) (Ac ⟨#[118]⟩ (Bt (k:Nat) (q:Nat))) (Ac ⟨#[99]⟩ (Bo (k:Nat) (q:Nat))) (Ac ⟨#[118]⟩ (q:Nat)) (Ac ⟨#[99]⟩ (k:Nat))):=by rw[G1,Ej]
   simp(disch:=omega)only[ZZ,simprocAttr,Ab,Dd,mtC.H1,BC,sub,Br,Bx,IV,hs,hw];refine⟨⟨q+1,by omega⟩,[(227,some 229)],by simp only;omega,?_⟩;simp only[Am];simp(disch:=omega)only[ZZ,simprocAttr,Ab,Dd,AN,AM]
  .have ao:q=b:=by omega
   have hs:U++(List.range b).map (λ(q:Nat)=>AL (BX G) (Cz ⟨#[107]⟩ (k:Nat) (q:Nat)) (Ac ⟨#[118]⟩ (Bt (k:Nat) (q:Nat))) (Ac ⟨#[99]⟩ (Bo (k:Nat) (q:Nat))) (Ac ⟨#[118]⟩ (q:Nat)) (Ac ⟨#[99]⟩ (k:Nat)))=T2++(List.range (k+1)).flatMap (λ(k:Nat)=>(List.range b).map λ(q:Nat)=>AL (BX G) (Cz ⟨#[107]⟩ (k:Nat) (q:Nat)) (Ac ⟨#[118]⟩ (Bt (k:Nat) (q:Nat))) (Ac ⟨#[99]⟩ (Bo (k:Nat) (q:Nat))) (Ac ⟨#[118]⟩ (q:Nat)) (Ac ⟨#[99]⟩ (k:Nat))):=by rw[hU,eX,Ej]
   simp only[ao,hs,Z];refine⟨⟨k+1,by omega⟩,[(226,some 227)],by simp only;omega,?_⟩;simp only[Am];simp(disch:=omega)only[ZZ,simprocAttr,Ab,Dd,AN,AM]
 obtain⟨T3,hT3⟩: ∃A,A=T2++(List.range b).flatMap (λ(k:Nat)=>(List.range b).map λ(q:Nat)=>AL (BX G) (Cz ⟨#[107]⟩ (k:Nat) (q:Nat)) (Ac ⟨#[118]⟩ (Bt (k:Nat) (q:Nat))) (Ac ⟨#[99]⟩ (Bo (k:Nat) (q:Nat))) (Ac ⟨#[118]⟩ (q:Nat)) (Ac ⟨#[99]⟩ (k:Nat))):=⟨_,rfl⟩;have bb:T3.length<=0+1+b+b*b:=by rw[hT3,Bz,Rs _ _ b (λ_=>by simp)];omega
 have bg:b*b<=6*6:=xA (by omega) (by omega);have O:k=b:=by omega
 simp only[hU,O,<-hT3];clear am ad hk z O Z hU U k;refine AZ.ren ⟨{k:Nat//k<=b},λk=>⟨[(92,.im (.int .i64 k.1)),(91,.im (.int .i64 b)),(6,.im (.int .i64 l.length)),(7,.ptr 22 0),(4,.ptr 1 0),(2,.ptr 0 0),(1,.im (.sl false 1 (l.map Af)))],[(0,(true,.cells 2 [.im (.int .i64 b)])),(1,(true,.cells 39 [.im (.sl true 0 []),.im (.sl true 0 []),.im (.sl true 0 []),.im (.int .i64 0)])),(22,(true,.cells 69 [.ptr 2 0])),(2,(true,.cells 80 [.own 203,.own 227,.mp 5])),(203,(true,.arr 66 2 (G.map Ak.c))),(227,(true,.arr 64 2 ((T3++(List.range k.1).map (λ(k:Nat)=>AL (BX G) (Ac ⟨#[103,105,118,101]⟩ (k:Nat)) ⟨#[115,105,100,101]⟩ (Ac ⟨#[109,97,120]⟩ (k:Nat)) ⟨#[115,105,100,101]⟩ (Ac ⟨#[99]⟩ (k:Nat)))).map Tile.c))),(5,(true,.map ⟨false,[.str]⟩ (Cn G)))],228⟩,λk=>b - k.1,λk=>⟨by simp[ZG],by simp⟩,⟨⟨0,BV _⟩,[(227,some 226)],?_⟩,λk=> ?_⟩
 .simp only[Am,Ho,Bg,Ck];simp(disch:=omega)only[ZZ,simprocAttr,Ab,Dd,AN,AM]
 obtain⟨k,hk⟩:=k;have z0:(⟨#[103,105,118,101]⟩:ByteArray).size=4:=rfl;have z1:(⟨#[109,97,120]⟩:ByteArray).size=3:=rfl;have z2:(⟨#[99]⟩:ByteArray).size=1:=rfl;have Q:IntKind.i64.wrap ((k:Int)+1)=(k:Int)+1:=AH (by omega) (by omega);have aa:IntKind.i64.wrap ((l.length:Int) - 1)=(l.length:Int) - 1:=AH (by omega) (by omega);have Z:IntKind.i64.wrap ((k:Int)+1)=((k+1:Nat):Int):=by rw[Q];omega
 simp(disch:=omega)only[ZZ,simprocAttr,Ab,Dd,sub,AS,Q,aa];refine⟨λz=>⟨⟨by omega,by omega,by omega⟩,⟨by omega,by omega,by omega⟩,⟨by omega,by omega,by omega⟩,?_⟩,λz=> ?_⟩
 .have ab:I2 (decide ((k:Int)=(l.length:Int) - 1)) (Ac ⟨#[114]⟩ ((k:Int)+1))=JD l.length k:=by simp only[I2,JD,C7];rfl
  try rw[ab]
  refine Az.os ((G,T3++(List.range k).map (λ(k:Nat)=>AL (BX G) (Ac ⟨#[103,105,118,101]⟩ (k:Nat)) ⟨#[115,105,100,101]⟩ (Ac ⟨#[109,97,120]⟩ (k:Nat)) ⟨#[115,105,100,101]⟩ (Ac ⟨#[99]⟩ (k:Nat)))),(Ac ⟨#[103,105,118,101]⟩ (k:Nat)),[⟨#[115,105,100,101]⟩,(Ac ⟨#[109,97,120]⟩ (k:Nat)),⟨#[115,105,100,101]⟩,(Ac ⟨#[99]⟩ (k:Nat))]) [2,203,227,5,228] ⟨by simp only[Bz,Du,FE];omega,by simp⟩ (λj=>IU _ j) rfl rfl ?_ ?_
  .simp(disch:=omega)only[ZZ,simprocAttr,Ab,Dd,mtC.ca,mtC.H0,B1,Ci,Dv,Bb,Br,Bx,Bf,Bg]
   try exact⟨rfl,rfl⟩
  have hs:T3++(List.range k).map (λ(k:Nat)=>AL (BX G) (Ac ⟨#[103,105,118,101]⟩ (k:Nat)) ⟨#[115,105,100,101]⟩ (Ac ⟨#[109,97,120]⟩ (k:Nat)) ⟨#[115,105,100,101]⟩ (Ac ⟨#[99]⟩ (k:Nat)))++[AL (BX G) (Ac ⟨#[103,105,118,101]⟩ (k:Nat)) ⟨#[115,105,100,101]⟩ (Ac ⟨#[109,97,120]⟩ (k:Nat)) ⟨#[115,105,100,101]⟩ (Ac ⟨#[99]⟩ (k:Nat))]=T3++(List.range (k+1)).map (λ(k:Nat)=>AL (BX G) (Ac ⟨#[103,105,118,101]⟩ (k:Nat)) ⟨#[115,105,100,101]⟩ (Ac ⟨#[109,97,120]⟩ (k:Nat)) ⟨#[115,105,100,101]⟩ (Ac ⟨#[99]⟩ (k:Nat))):=by rw[G1,Ej]
  simp(disch:=omega)only[ZZ,simprocAttr,Ab,Dd,mtC.H1,BC,sub,Br,Bx,IV,hs,Z];refine⟨⟨k+1,by omega⟩,[(227,some 229)],by simp only;omega,?_⟩;simp only[Am];simp(disch:=omega)only[ZZ,simprocAttr,Ab,Dd,AN,AM]
 obtain⟨T4,hT4⟩: ∃A,A=T3++(List.range b).map (λ(k:Nat)=>AL (BX G) (Ac ⟨#[103,105,118,101]⟩ (k:Nat)) ⟨#[115,105,100,101]⟩ (Ac ⟨#[109,97,120]⟩ (k:Nat)) ⟨#[115,105,100,101]⟩ (Ac ⟨#[99]⟩ (k:Nat))):=⟨_,rfl⟩;have bc:T4.length<=0+1+b+b*b+b:=by rw[hT4,Bz,Du,FE];omega
 have O:k=b:=by omega
 simp only[O,<-hT4];clear Q Z aa hk z O z0 z1 z2 k;refine AZ.ren ⟨{k:Nat//k<=l.length},λk=>⟨[(106,.im (.int .i64 k.1)),(105,.im (.int .i64 l.length)),(6,.im (.int .i64 l.length)),(7,.ptr 22 0),(4,.ptr 1 0),(2,.ptr 0 0),(1,.im (.sl false 1 (l.map Af)))],[(0,(true,.cells 2 [.im (.int .i64 b)])),(1,(true,.cells 39 [.im (.sl true 0 []),.im (.sl true 0 []),.im (.sl true 0 []),.im (.int .i64 0)])),(22,(true,.cells 69 [.ptr 2 0])),(2,(true,.cells 80 [.own 203,.own 228,.mp 5])),(203,(true,.arr 66 2 (G.map Ak.c))),(228,(true,.arr 64 2 ((T4++(List.range k.1).map (λ(k:Nat)=>AL (BX G) (Ac ⟨#[114,111,119]⟩ (k:Nat)) (JD l.length k) ⟨#[99,120]⟩ (Ac ⟨#[114]⟩ (k:Nat)) ⟨#[45]⟩)).map Tile.c))),(5,(true,.map ⟨false,[.str]⟩ (Cn G)))],229⟩,λk=>l.length - k.1,λk=>⟨by simp[ZG],by simp⟩,⟨⟨0,BV _⟩,[(228,some 227)],?_⟩,λk=> ?_⟩
 .simp only[Am,Ho,Bg,Ck];simp(disch:=omega)only[ZZ,simprocAttr,Ab,Dd,AN,AM]
 obtain⟨k,hk⟩:=k;have z0:(⟨#[114,111,119]⟩:ByteArray).size=3:=rfl;have z1:(⟨#[114]⟩:ByteArray).size=1:=rfl;have Q:IntKind.i64.wrap ((k:Int)+1)=(k:Int)+1:=AH (by omega) (by omega);have aa:IntKind.i64.wrap ((l.length:Int) - 1)=(l.length:Int) - 1:=AH (by omega) (by omega);have Z:IntKind.i64.wrap ((k:Int)+1)=((k+1:Nat):Int):=by rw[Q];omega
 simp(disch:=omega)only[ZZ,simprocAttr,Ab,Dd,sub,AS,Q,aa];refine⟨λz=>⟨⟨by omega,by omega,by omega⟩,⟨by omega,by omega,by omega⟩,⟨by omega,by omega,by omega⟩,?_⟩,λz=> ?_⟩
 .have ab:I2 (decide ((k:Int)=(l.length:Int) - 1)) (Ac ⟨#[114]⟩ ((k:Int)+1))=JD l.length k:=by simp only[I2,JD,C7];rfl
  try rw[ab]
  refine Az.os ((G,T4++(List.range k).map (λ(k:Nat)=>AL (BX G) (Ac ⟨#[114,111,119]⟩ (k:Nat)) (JD l.length k) ⟨#[99,120]⟩ (Ac ⟨#[114]⟩ (k:Nat)) ⟨#[45]⟩)),(Ac ⟨#[114,111,119]⟩ (k:Nat)),[(JD l.length k),⟨#[99,120]⟩,(Ac ⟨#[114]⟩ (k:Nat)),⟨#[45]⟩]) [2,203,228,5,229] ⟨by simp only[Bz,Du,FE];omega,by simp⟩ (λj=>IU _ j) rfl rfl ?_ ?_
  .simp(disch:=omega)only[ZZ,simprocAttr,Ab,Dd,mtC.ca,mtC.H0,B1,Ci,Dv,Bb,Br,Bx,Bf,Bg]
   try exact⟨rfl,rfl⟩
  have hs:T4++(List.range k).map (λ(k:Nat)=>AL (BX G) (Ac ⟨#[114,111,119]⟩ (k:Nat)) (JD l.length k) ⟨#[99,120]⟩ (Ac ⟨#[114]⟩ (k:Nat)) ⟨#[45]⟩)++[AL (BX G) (Ac ⟨#[114,111,119]⟩ (k:Nat)) (JD l.length k) ⟨#[99,120]⟩ (Ac ⟨#[114]⟩ (k:Nat)) ⟨#[45]⟩]=T4++(List.range (k+1)).map (λ(k:Nat)=>AL (BX G) (Ac ⟨#[114,111,119]⟩ (k:Nat)) (JD l.length k) ⟨#[99,120]⟩ (Ac ⟨#[114]⟩ (k:Nat)) ⟨#[45]⟩):=by rw[G1,Ej]
  simp(disch:=omega)only[ZZ,simprocAttr,Ab,Dd,mtC.H1,BC,sub,Br,Bx,IV,hs,Z];refine⟨⟨k+1,by omega⟩,[(228,some 230)],by simp only;omega,?_⟩;simp only[Am];simp(disch:=omega)only[ZZ,simprocAttr,Ab,Dd,AN,AM]
 obtain⟨T5,hT5⟩: ∃A,A=T4++(List.range l.length).map (λ(k:Nat)=>AL (BX G) (Ac ⟨#[114,111,119]⟩ (k:Nat)) (JD l.length k) ⟨#[99,120]⟩ (Ac ⟨#[114]⟩ (k:Nat)) ⟨#[45]⟩):=⟨_,rfl⟩;have bd:T5.length<=0+1+b+b*b+b+l.length:=by rw[hT5,Bz,Du,FE];omega
 have O:k=l.length:=by omega
 simp only[O,<-hT5];clear Q Z aa hk z O z0 z1 k;have ak:T5=ET (BX A7) (JD l.length) ⟨#[45]⟩ b l.length:=by
  subst hT5 hT4 hT3 hT2 hT1 hG;rfl
 have aj:A7=CO b l.length:=by
  subst hA7 hA6 hA5 hA4 hA3 hA2 hA1;rfl
 have ac:VJ b l=⟨⟨oK ((G,T5),l,Ac ⟨#[114]⟩ 0,⟨#[115,105,100,101]⟩),mrT ((G,T5),l,Ac ⟨#[114]⟩ 0,⟨#[115,105,100,101]⟩)⟩,⟨Lw T5.length l.length⟩,2⟩:=by
  rw[ak,hG,aj];simp only[VJ,oK,mrT,V3];rfl
 rw[UO];obtain⟨s,hs⟩: ∃s:Sd,s=((G,T5),l,Ac ⟨#[114]⟩ 0,⟨#[115,105,100,101]⟩):=⟨_,rfl⟩;rw[<-hs] at ac;have af:s.1=(G,T5):=by rw[hs]
 have ag:s.2.1=l:=by rw[hs]
 have aq:s.2.2=(Ac ⟨#[114]⟩ 0,⟨#[115,105,100,101]⟩):=by rw[hs]
 have be:b*b<=6*6:=xA (by omega) (by omega);refine Az.os s [2,203,228,5] (by rw[hs];exact⟨by simp only;rw[hG];omega,by simp only;omega,by simp only;omega,λx hx=>⟨(p4 x hx).1,by have:=(p4 x hx).2;omega⟩⟩) (λj=>K6 _ _ j) rfl rfl ?_ ?_
 .simp(disch:=omega)only[ZZ,simprocAttr,Ab,Dd,mrC.ca,mrC.H0,B1,af,ag,aq,Bb,Br,Bx]
  try exact⟨rfl,rfl⟩
 simp(disch:=omega)only[ZZ,simprocAttr,Ab,Dd,mrC.H1,CM,sub,Br,Bx,af,ag];exact ac.symm
end Go.Ae
namespace Go.Ae
open Go.Proofs
def Tr(w:List Be×Ao×Int):Ar:=[(0,(true,.arr 107 3 (w.1.map Be.c))),(1,(true,.arr 88 3 (w.2.1.Tiles.map Aq.c)))]
def Tq(w:List Be×Ao×Int):AV:= .tup [.own 0,.agg [.own 1],.im (.int .i64 w.2.2)]
def La(a:AF×List Int×Nat):List Be×Ao×Int:=Kk a.1 a.2.1 a.2.2 a.1.Seed []
def grnI.ca(a:AF×List Int×Nat):List AV:=[.im (.agg (AF.c a.1)),.im (.sl false 1 (a.2.1.map Af)),.im (.int .i64 a.2.2)]
def grnI.H1(a:AF×List Int×Nat):Ar:=Tr (La a)
def D7(j:Nat):Bool:=j==0||j==1
def grnI.row:AG:=Az grnI.ca (λ_=>[]) 0 (λa=>Ga a.1=true/\EJ a.2.1=true/\a.2.2<=501) (λ_=>false) (λa=>Tq (La a)) grnI.H1 20
def grnI.ok:AJ 43 grnI.row:=by
 refine Ha (tC newC.ok (tC growI.ok (tC asmCX.ok tN))) Tryz.func43 (exB:=D7) (R:=λa r=>r=Tq (La a)) (λ_=>rfl)
  (λa=>by simp[grnI.ca,D7,AF.c,AQ,AV.bel,AB,Cg,Cs,Ah.nms,Ax,AV.nms,An,hget]) (λa p hp=> ?_) (λa r h=>by subst h;exact D2.refl _) ?_
 rotate_left
 intro a O;simp only[Tryz.f43,Option.getD,grnI.ca,D7,AF.c];simp only[ZZ,simprocAttr,Ab,AD,Av,grnI.ca,D7,AF.c];obtain⟨s,l,n⟩:=a;obtain⟨c1,hl,hn⟩:=O;simp only at c1 hl hn⊢;have c2:=(IS c1).2.2;obtain⟨aa,G⟩:=Ym c1 c2;refine Az.os (s,s.Seed) [] aa (λj=>by simp[An,hget]) rfl rfl ?_ ?_
 .simp only[ZZ,simprocAttr,Ab,AD,Av,grnI.ca,D7,AF.c,newC.ca,Fs,AF.c,Ao.c]
 simp only[ZZ,simprocAttr,Ab,AD,Av,grnI.ca,D7,AF.c,newC.H1,sub];obtain⟨w,hw⟩: ∃w,w=Gh l n (gK s s.Seed) s.Seed []:=⟨_,rfl⟩;have z:=Mw (l:=l) n (gK s s.Seed) s.Seed [] G;rw[<-hw] at z;refine Az.os (gK s s.Seed,s.Seed,l,n) [7,5,6] ⟨G,hl,hn⟩ (λj=>Kw _ j) rfl rfl ?_ ?_
 .simp only[ZZ,simprocAttr,Ab,AD,Av,grnI.ca,D7,AF.c,growI.ca,AT,Bq,Bb,Br,Bx];exact⟨rfl,rfl,rfl,rfl⟩
 have hS:(gK s s.Seed).Sys=s:=rfl;rcases z with ⟨g1,g2,Z⟩|⟨g1,g2,Z⟩
 .have hF:La (s,l,n)=(w.2.2.1,w.2.1,0):=g2;obtain⟨e1,⟨kk,Q⟩,_,e4,e5,_⟩:=Z;simp only[ZZ,simprocAttr,Ab,AD,Av,grnI.ca,D7,AF.c,growI.H1,BN,sub,Br,Bx,growI.r0,<-hw,g1];refine Az.os w.1 [7,5,6] ⟨Q.nd,by have:=Q.size;omega⟩ (λj=>Kw _ j) rfl rfl ?_ ?_
  .simp only[ZZ,simprocAttr,Ab,AD,Av,grnI.ca,D7,AF.c,asmC.ca,AT,Bq,Bb,Br,Bx,e1]
   try exact⟨rfl,rfl,rfl⟩
  simp only[ZZ,simprocAttr,Ab,AD,Av,grnI.ca,D7,AF.c,asmCX.H1,QS,sub,Br,Bx];have eT:(XY w.1.Tl).Tiles=w.2.1.Tiles:=(Cl Ao.Tiles Q.eq).symm;simp only[eT];refine⟨[],[(0,some 8),(1,some 28),(2,some 2)],⟨[(6,.own 0),(7,.ptr 2 0),(8,.im (.int .i64 0))],[(2,(true,.cells 25 [.own 1])),(0,(true,.arr 107 3 (w.2.2.1.map Be.c))),(1,(true,.arr 88 3 (w.2.1.Tiles.map Aq.c)))],3⟩,?_,by simp[ZG],by simp,?_⟩
  .simp only[Am];simp only[ZZ,simprocAttr,Ab,AD,Av,grnI.ca,D7,AF.c,AN,AM]
   try simp
  .simp only[ZZ,simprocAttr,Ab,AD,Av,grnI.ca,D7,AF.c,Tq,grnI.H1,Tr,hF,AN,AM]
   try simp
 .have hF:La (s,l,n)=([],⟨[]⟩,4):=Z;simp only[ZZ,simprocAttr,Ab,AD,Av,grnI.ca,D7,AF.c,growI.H1,BN,sub,Br,Bx,growI.r0,<-hw,g1,g2,Bg];refine⟨[],[(0,some 28),(1,none),(2,some 2)],⟨[(6,.own 0),(7,.ptr 2 0),(8,.im (.int .i64 4))],[(2,(true,.cells 25 [.own 1])),(0,(true,.arr 107 3 ([]))),(1,(true,.arr 88 3 ([])))],3⟩,?_,by simp[ZG],by simp,?_⟩
  .simp only[Am];simp only[ZZ,simprocAttr,Ab,AD,Av,grnI.ca,D7,AF.c,AN,AM]
   try simp
  .simp only[ZZ,simprocAttr,Ab,AD,Av,grnI.ca,D7,AF.c,Tq,grnI.H1,Tr,hF,AN,AM]
   try simp
 simp[grnI.H1,Tr] at hp;rcases hp with rfl|rfl
 .exact .inr ⟨by omega,by omega,rfl,rfl⟩
 .exact .inr ⟨by omega,by omega,rfl,rfl⟩
def grI.ca(a:AF×List Int):List AV:=[.im (.agg (AF.c a.1)),.im (.sl false 1 (a.2.map Af))]
def grI.H1(a:AF×List Int):Ar:=Tr (J0 a.1 a.2)
def grI.row:AG:=Az grI.ca (λ_=>[]) 0 (λa=>R2 a.1.Set) (λ_=>false) (λa=>Tq (J0 a.1 a.2)) grI.H1 20
def XL:=J @validI_.q<|J @validI_.fv.eq_1<|J @vSch_.q @vSch_.fv.eq_1
def grI.ok:AJ 17 grI.row:=by
 refine Ha (tC validI_.ok (tC vSch_.ok (tC grnI.ok tN))) Tryz.func17 (exB:=D7) (R:=λa r=>r=Tq (J0 a.1 a.2)) (λ_=>rfl)
  (λa=>by simp[grI.ca,D7,AF.c,AQ,AV.bel,AB,Cg,Cs,Ah.nms,Ax,AV.nms,An,hget]) (λa p hp=> ?_) (λa r h=>by subst h;exact D2.refl _) ?_
 rotate_left
 intro a z;simp only[Tryz.f17,Option.getD,grI.ca,D7,AF.c];simp only[ZZ,simprocAttr,Ab,XL,AD,Av,grI.ca,D7,AF.c];obtain⟨s,l⟩:=a;simp only at z⊢;refine⟨z,?_⟩;simp only[pV];by_cases c1:Ga s=true
 case neg=>
  rw[Al (by simpa using c1)];have O:J0 s l=([],⟨[]⟩,1):=by simp only[J0];rw[Al (by simpa using c1)]
  refine⟨[],[(0,some 3),(1,none),(2,some 2)],⟨[(4,.own 0),(5,.ptr 2 0),(6,.im (.int .i64 1))],[(2,(true,.cells 25 [.own 1])),(0,(true,.arr 107 3 ([]))),(1,(true,.arr 88 3 ([])))],3⟩,?_,by simp[ZG],by simp,?_⟩
  .simp only[Am];simp only[ZZ,simprocAttr,Ab,XL,AD,Av,grI.ca,D7,AF.c,AN,AM]
   try simp
  .simp only[ZZ,simprocAttr,Ab,XL,AD,Av,grI.ca,D7,AF.c,Tq,grI.H1,O,Tr,AN,AM]
   try simp
 rw[Ag (by simpa using c1)];by_cases G:EJ l=true
 case neg=>
  rw[Al (by simpa using G)];have O:J0 s l=([],⟨[]⟩,2):=by simp only[J0];rw[Ag (by simp[c1]),Al (by simpa using G)]
  refine⟨[],[(0,some 3),(1,none),(2,some 2)],⟨[(4,.own 0),(5,.ptr 2 0),(6,.im (.int .i64 2))],[(2,(true,.cells 25 [.own 1])),(0,(true,.arr 107 3 ([]))),(1,(true,.arr 88 3 ([])))],3⟩,?_,by simp[ZG],by simp,?_⟩
  .simp only[Am];simp only[ZZ,simprocAttr,Ab,XL,AD,Av,grI.ca,D7,AF.c,AN,AM]
   try simp
  .simp only[ZZ,simprocAttr,Ab,XL,AD,Av,grI.ca,D7,AF.c,Tq,grI.H1,O,Tr,AN,AM]
   try simp
 rw[Ag (by simpa using G)];obtain⟨w,hw⟩: ∃w,w=J0 s l:=⟨_,rfl⟩;have O:La (s,l,501)=w:=by
  rw[hw];simp only[La,J0];rw[Ag (by simp[c1]),Ag (by simp[G])];exact sA 500 _ _ (V0 c1) (by have:=Zx c1;omega)
 refine Az.os (s,l,501) [] ⟨c1,G,AU _⟩ (λj=>by simp[An,hget]) rfl rfl ?_ ?_
 .simp only[ZZ,simprocAttr,Ab,XL,AD,Av,grI.ca,D7,AF.c,grnI.ca,Fs,AF.c]
  try exact⟨rfl,rfl,rfl⟩
 simp only[ZZ,simprocAttr,Ab,XL,AD,Av,grI.ca,D7,AF.c,grnI.H1,Tr,Tq,sub,Br,Bx,O,<-hw];refine⟨[],[(0,some 3),(1,some 4),(2,some 2)],⟨[(4,.own 0),(5,.ptr 2 0),(6,.im (.int .i64 w.2.2))],[(2,(true,.cells 25 [.own 1])),(0,(true,.arr 107 3 (w.1.map Be.c))),(1,(true,.arr 88 3 (w.2.1.Tiles.map Aq.c)))],3⟩,?_,by simp[ZG],by simp,?_⟩
 .simp only[Am];simp only[ZZ,simprocAttr,Ab,XL,AD,Av,grI.ca,D7,AF.c,AN,AM]
  try simp
 .simp only[ZZ,simprocAttr,Ab,XL,AD,Av,grI.ca,D7,AF.c,Tq,grI.H1,<-hw,Tr,AN,AM]
  try simp
 simp[grI.H1,Tr] at hp;rcases hp with rfl|rfl
 .exact .inr ⟨by omega,by omega,rfl,rfl⟩
 .exact .inr ⟨by omega,by omega,rfl,rfl⟩
def syK(a:AF×Int):Int:=tlK a.1.Set.Tiles (tsK (a.1.Set,a.2)) a.1.Set.Tiles.length
def mkSy.pre(a:AF×Int):Prop:=0<=a.2/\a.1.Set.Tiles.length<=1048576/\syK a+3*a.1.Seed.Tiles.length<=1099511627776
def yT(a:List Tile):Nat:=(a.map λx=>x.Sides.length).sum
structure SysB(s:AF):Prop where
 g:s.Set.Glues.length<=1048576
 t:s.Set.Tiles.length<=1048576
 d:yT s.Set.Tiles<=1048576
 p:s.Seed.Tiles.length<=1048576
structure RF(h:Nat->Option Au)(g t p f:Nat)(s:AF):Prop where
 g:h g=some (true,.arr 66 2 (s.Set.Glues.map Ak.c))
 t:h t=some (true,.arrA 64 2 (tlB f s.Set.Tiles))
 p:h p=some (true,.arr 88 3 (s.Seed.Tiles.map Aq.c))
 f: ∀i,i<s.Set.Tiles.length->h (f+i)=some (tlF s.Set.Tiles i)
def vN.call{A:Type}{ar:List PK->Option A}{pre:A->Prop}{re:A->D}{args:List AV}{tm:List (Nat×AV)}{h:Ar}{nx:Nat}{dst:Option Nat}{Q:A8->Prop}(ps:List PK)(O:Kp (hget h) args=some (ps,[]))(a:A)(Z:ar ps=some a)(z:pre a)
 (G:Q ((⟨tm,h,nx⟩:A8).put dst (.im (re a)))):Ff ar pre re args (hget h) nx (Fx Q ⟨tm,h,nx⟩ dst):=by
 unfold Ff;rw[O];simp only[aE,Z,EQ,Tb];refine⟨z,?_,?_⟩
 .rw[B4.ok_nr];simp[AV.bel,AB,IC]
 .rw[A8.app_nr,Cx,W5];exact G
def J2(l m:List Int):a2 (kS Ch) (kS Ch) [.val (.sl false 1 (l.map Af)),.val (.sl false 1 (m.map Af))]=some (l,m):=by simp only[a2,kS,KA Rj,G8]
def xT(l:List Int)(k:Int):a2 (kS Ch) kI [.val (.sl false 1 (l.map Af)),.val (.int .i64 k)]=some (l,k):=by simp only[a2,kS,kI,KA Rj,G8]
def RF.mono{h h':Nat->Option Au}{g t p f:Nat}{s:AF}(hs:RF h g t p f s)(z: ∀m,(m=g\/m=t\/m=p\/(f<=m/\m<f+s.Set.Tiles.length))->h' m=h m):RF h' g t p f s:=
 ⟨by rw[z g (.inl rfl)];exact hs.g,by rw[z t (.inr (.inl rfl))];exact hs.t,by rw[z p (.inr (.inr (.inl rfl)))];exact hs.p,λi G=>by rw[z _ (.inr (.inr (.inr ⟨by omega,by omega⟩)))];exact hs.f i G⟩
def Tz{H:Ar}(e:Au)(k m:Nat)(h:k≠m):hget ((k,e)::Cb H [k]) m=hget H m:=by
 simp only[hget,Cr _ _ h,Cy];exact Q4 _ _ _ h
def QU{h:Nat->Option Au}{x y:AV}{p q:PK}(z:Ec h x=some p)(G:Ec h y=some q):Cp h [x,y]=some [p,q]:=by simp only[Cp,z,G,Gz]
def HQ{h:Nat->Option Au}{o T k:Nat}{z:Bool}{rows:List (List D)}(g:h o=some (z,.arr T k rows)):Ec h (.own o)=some (.val (.sl false k rows)):=by simp only[Ec,bk,g,RE,E6,Ez]
def mkIC.d0(a:List Int×Int)(j:Nat)(z:An (mkIC.H0 a) j=true):j=0:=by
 simp only[An,mkIC.H0,hget] at z;by_cases h:j=0
 .exact h
 .rw[Cr _ _ (λq=>h q.symm)] at z;cases z
def dS{nx o:Nat}{tm:List (Nat×AV)}{h:Ar}{dst:Option Nat}{go:A8->Prop}{l:List Int}{k:Int}(hk:0<=k)(Z:k+l.length<=1099511627776)(hS:hget h o=some (true,.arr 2 1 (l.map Af)))(aa:o<nx)
 (Q: ∀G:Ar,(∀j e,hget (mkIC.H1 (l,k)) j=some e->hget G o=some (e.1,e.2.ren (Db (λ_=>o) 1 nx)))->(∀m,m≠o->hget G m=hget h m)->go ((⟨tm,G,nx⟩:A8).put dst (.im (.int .i64 (k+l.length))))):
 mkIC.row [.own o,.im (.int .i64 k)] (hget h) nx (Fx go ⟨tm,h,nx⟩ dst):=by
 refine Az.tau (l,k) (λ_=>o) ⟨hk,Z⟩ (λj z=>by rw[mkIC.d0 _ j z];rfl) (λj z=>⟨by rw[mkIC.d0 _ j z];omega,aa⟩) (λi j hi z _=>by rw[mkIC.d0 _ i hi,mkIC.d0 _ j z]) (λp hp=> ?_) ⟨rfl,hS,trivial⟩ (by simp[AV.nms]) (λG hH1 O=>Q G hH1 λm hm=>O m λj z h=>hm h.symm);simp only[mkIC.H1,BL] at hp;subst hp;exact⟨rfl,λm hm=>by simp[Ah.nms] at hm⟩
def Tx(k:Int)(n:Nat):J1 (Hu k n) k=k+n:=by
 simp only[J1,Rh,Bb]
def needX.pre(a:Kv):Prop:=(∀o∈a.Seq,I7 o.At)/\a.Inputs.length=a.Seq.length/\a.Seq.length<=500
def totI(M:List (List Int)):Nat:=(M.map List.length).sum
def mkSS.pre(a:List (List Int)×Int):Prop:=a.1.length<=1048576/\0<=a.2/\a.2+totI a.1<=1099511627776
structure dL(h:Nat->Option Au)(o b:Nat)(M:List (List Int)):Prop where
 r:h o=some (true,.arrA 22 1 (DL b M.length))
 f: ∀i,i<M.length->h (b+i)=some (true,.arr 2 1 ((M[i]?.getD []).map Af))
def dL.mono{h h':Nat->Option Au}{o b:Nat}{M:List (List Int)}(hs:dL h o b M)(z: ∀m,(m=o\/(b<=m/\m<b+M.length))->h' m=h m):dL h' o b M:=
 ⟨by rw[z o (.inl rfl)];exact hs.r,λi G=>by rw[z _ (.inr ⟨by omega,by omega⟩)];exact hs.f i G⟩
def revI.ca(_:List Int):List AV:=[.own 0]
def revI.H0(a:List Int):Ar:=[(0,(true,.arr 2 1 (a.map Af)))]
def revI.H1(a:List Int):Ar:=[(0,(true,.arr 2 1 (a.reverse.map Af)))]
def revI.row:AG:=Az revI.ca revI.H0 1 (λ_=>True) (λj=>j==0) (λ_=> .im (.tup [])) revI.H1 0
def revI.ok:AJ 19 revI.row:=by
 refine ow tN Tryz.func19 (exB:=λ_=>false) (R:=λ_ r=>r= .im (.tup [])) (λ_=>rfl)
  (λa=>by simp[revI.ca,revI.H0,revI.H1,AQ,AV.bel,AB,Cg,Cs,Ah.nms,Ax,AV.nms,An,hget]) (λa p hp=> ?_) (λa r h=>by subst h;exact D2.refl _) ?_
 rotate_left
 intro a Q;simp only[Tryz.f19,Option.getD,revI.ca,revI.H0,revI.H1];simp(disch:=omega)only[ZZ,simprocAttr,Ab,Av,revI.ca,revI.H0,revI.H1];intro aa;rw[AH (by omega) (by omega)];refine AZ.old ⟨{i:Nat//2*i<=a.length},λi=>⟨[(2,.im (.int .i64 i.1)),(3,.im (.int .i64 ((a.length:Int) - 1 - i.1))),(0,.own 0)],[(0,(true,.arr 2 1 ((E8 a i.1).map Af)))],1⟩,λi=>a.length - i.1,λi=>⟨by simp[ZG],by simp⟩,⟨⟨0,by simp⟩,?_⟩,λi=> ?_⟩
 .simp(disch:=omega)only[ZZ,simprocAttr,Ab,Av,revI.ca,revI.H0,revI.H1,sub];exact⟨by omega,by rw[E8]⟩
 obtain⟨i,Z⟩:=i;have O:=uN a i;simp(disch:=omega)only[ZZ,simprocAttr,Ab,Av,revI.ca,revI.H0,revI.H1,sub,AS,O,aL,GX];refine⟨λG=>⟨by omega,by omega,by omega,λx hx=>⟨by omega,by omega,λy hy=>⟨by omega,by omega,λz hz=>⟨by omega,by omega,by omega,λu hu=> ?_⟩⟩⟩⟩,λG=> ?_⟩
 .refine⟨⟨i+1,by omega⟩,by simp only;omega,?_⟩;have w1:IntKind.i64.wrap ((a.length:Int) - 1 - i - 1)=(a.length:Int) - 1 - i - 1:=AH (by omega) (by omega);have w2:IntKind.i64.wrap ((i:Int)+1)=(i:Int)+1:=AH (by omega) (by omega);simp only[w1,w2];refine⟨⟨by omega,by omega⟩,?_⟩;simp only[E8];rw[show a.length - 1 - i=((a.length:Int) - 1 - i).toNat by omega,hx,hy];rfl
 .rw[qL a Z (by omega)]
 simp[revI.H1] at hp;subst hp;exact .inl ⟨by omega,rfl,rfl⟩
def NI{A:Type}(f:Nat->A)(n:Nat):(Hc f n).length=n:=by simp[Hc]
def Wc{A:Type}(f:Nat->A)(n:Nat):Hc f (n+1)=Hc f n++[f n]:=by simp[Hc,XQ]
def aA{A:Type}{f:Nat->A}{n i:Nat}(h:i<n):(Hc f n)[i]? =some (f i):=by simp only[Hc,Gb];rw[IH h];rfl
def totO(M:List (List Be)):Nat:=(M.map List.length).sum
def mkOO.pre(a:List (List Be)×Int):Prop:=a.1.length<=1048576/\0<=a.2/\a.2+3*totO a.1<=1099511627776
def He(l:List Aq)(k:Int):Int:=if l=Hc (pF k) l.length then k+3*l.length else -1
def Ty(k:Int)(n:Nat):He (Hc (pF k) n) k=k+3*n:=by
 simp only[He,NI,Bb]
def heldP_.fv(a:(List Aq)×Int):Int:=(He) (a.1) (a.2)
def heldP_.row:AG:=CY (b2 (qS Aq.d_le Aq.c_n) qI) rI (λa=>0<=a.2/\a.2+3*a.1.length<=1099511627776) heldP_.fv
def heldP_.q:=CD (R:=heldP_.row) rfl
def heldP_.ok:AJ 22 heldP_.row:=by
 refine FM tN Tryz.func22 ?_;intro a z;simp only[Tryz.f22,Option.getD];simp only[ZZ,simprocAttr,Ab,heldP_.fv,BD,D.sc,D.scs,B6,AP];obtain⟨l,k⟩:=a;simp only at z⊢;obtain⟨h1,h2⟩:=z;refine AZ.old ⟨{i:Nat//i<=l.length/\l.take i=Hc (pF k) i},λi=>⟨[(5,.im (.int .i64 i.1)),(4,.im (.int .i64 0)),(1,.im (.int .i64 (k+3*i.1))),(0,.im (.sl false 3 (l.map Aq.c)))],[],0⟩,λi=>l.length - i.1,λi=>⟨by simp[ZG],by simp⟩,⟨⟨0,by simp[Hc]⟩,by simp only[ZZ,simprocAttr,Ab,heldP_.fv,BD,D.sc,D.scs,B6,AP,sub];simp⟩,λi=> ?_⟩;obtain⟨i,ab,G⟩:=i;simp only[ZZ,simprocAttr,Ab,heldP_.fv,BD,D.sc,D.scs,B6,AP,sub,AS];intro _;refine⟨λQ=>⟨Q,λx Z=> ?_⟩,λQ=> ?_⟩
 .have w1:IntKind.i64.wrap (k+3*(i:Int)+1)=k+3*(i:Int)+1:=AH (by omega) (by omega);have w2:IntKind.i64.wrap (k+3*(i:Int)+1+1)=k+3*(i:Int)+2:=(AH (by omega) (by omega)).trans (by omega);have w3:IntKind.i64.wrap (k+3*(i:Int)+2+1)=k+3*((i+1:Nat):Int):=(AH (by omega) (by omega)).trans (by omega);simp only[w1,w2,w3];have O:x≠pF k i-> -1=He l k:=λc=>by
   simp only[He];rw[Ag λh=> ?_];rw[h,aA Q] at Z;exact c (AC Z).symm
  refine⟨λc=>O λh=>c (by rw[h];rfl),λc1=>⟨Q,λy hy=> ?_⟩⟩;obtain rfl:x=y:=AC (Z.symm.trans hy);refine⟨λc=>O λh=>c (by rw[h];rfl),λc2=>⟨Q,λy hy=> ?_⟩⟩;obtain rfl:x=y:=AC (Z.symm.trans hy);refine⟨λc=>O λh=>c (by rw[h];rfl),λc3=>⟨⟨i+1,by omega,?_⟩,by simp only;omega,by rw[AH (by omega) (by omega)];simp only;omega,rfl⟩⟩;have e:x=pF k i:=by
   obtain⟨⟨u,v⟩,t⟩:=x;simp only[HJ] at c1 c2 c3;simp only[pF,c1,c2,c3]
  rw[Ww Z,G,Wc,e]
 .have aa:i=l.length:=by omega
  subst aa;rw[IF] at G;simp only[He];rw[Al G]
def Pj(x:List Aq)(k:Int):He x k=k+3*x.length\/He x k= -1:=by
 simp only[He];split
 .exact .inl rfl
 .exact .inr rfl
def heldA_.fv(a:Ao×Int):Int:=(λa k=>He a.Tiles k) (a.1) (a.2)
def heldA_.row:AG:=CY (b2 (qR Ao.d_le) qI) rI (λa=>0<=a.2/\a.2+3*a.1.Tiles.length<=1099511627776) heldA_.fv
def heldA_.ok:AJ 12 heldA_.row:=by
 refine FM (tC heldP_.ok tN) Tryz.func12 ?_;intro a z;simp only[Tryz.f12,Option.getD];simp only[ZZ,simprocAttr,Ab,heldA_.fv,heldP_.q,heldP_.fv,BD,D.sc,D.scs,B6,AP];obtain⟨⟨x⟩,k⟩:=a;obtain⟨G,O⟩:=z;simp only at G O⊢;refine⟨⟨G,O⟩,?_⟩;rcases Pj x k with h|h
 .rw[Ag (by omega)];trivial
 .rw[Al (by omega)];exact h.symm
def eqAsmF.fv(a:Ao×Ao):Bool:=(λa b=>decide (a=b)) (a.1) (a.2)
def eqAsmF.row:AG:=CY (b2 (qR Ao.d_le) (qR Ao.d_le)) rB (λa=>True) eqAsmF.fv
def eqAsmF.ok:AJ 8 eqAsmF.row:=by
 refine FM (tC eqPlacedS.ok tN) Tryz.func8 ?_;intro a z;simp only[Tryz.f8,Option.getD];simp only[ZZ,simprocAttr,Ab,eqAsmF.fv,eqPlacedS.q,eqPlacedS.fv,BD,D.sc,D.scs,B6,AP];obtain⟨⟨x⟩,⟨y⟩⟩:=a;simp only[Ao.mk.injEq]
 grind
def JG{h:Nat->Option Au}{n:Nat}{a:Ao}(hn:h n=some (true,.arr 88 3 (a.Tiles.map Aq.c))):Ec h (.agg [.own n])=some (.val (.agg (Ao.c a))):=by
 simp only[Ec,bk,AA,hn,RE,Ez,E6,Ao.c]
def Sc(a b:Ao):a2 (kR Ao.d) (kR Ao.d) [.val (.agg (Ao.c a)),.val (.agg (Ao.c b))]=some (a,b):=by simp only[a2,kR,Ao.d_c,G8]
def Pp{nx o:Nat}{tm:List (Nat×AV)}{h:Ar}{dst:Option Nat}{go:A8->Prop}{a:Ao}{k:Int}(hk:0<=k)(Z:k+3*a.Tiles.length<=1099511627776)(hS:hget h o=some (true,.arr 88 3 (a.Tiles.map Aq.c)))(aa:o<nx)
 (Q: ∀G:Ar,hget G o=some (true,.arr 88 3 ((Hc (pF k) a.Tiles.length).map Aq.c))->(∀m,m≠o->hget G m=hget h m)->go ((⟨tm,G,nx⟩:A8).put dst (.im (.int .i64 (k+3*a.Tiles.length))))):
 mkAC.row [.agg [.own o],.im (.int .i64 k)] (hget h) nx (Fx go ⟨tm,h,nx⟩ dst):=by
 have hd: ∀j,An (mkAC.H0 (a,k)) j=true->j=0:=λj z=>by
  simp only[An,mkAC.H0,hget] at z;by_cases h:j=0
  .exact h
  .rw[Cr _ _ (λq=>h q.symm)] at z;cases z
 refine Az.tau (a,k) (λ_=>o) ⟨hk,Z⟩ (λj z=>by rw[hd j z];rfl) (λj z=>⟨by rw[hd j z];omega,aa⟩) (λi j hi z _=>by rw[hd i hi,hd j z]) (λp hp=> ?_) ⟨rfl,hS,trivial⟩ (by simp[AV.nms]) (λG hH1 O=>Q G (hH1 0 _ rfl) λm hm=>O m λj z h=>hm h.symm);simp only[mkAC.H1,BL] at hp;subst hp;exact⟨rfl,λm hm=>by simp[Ah.nms] at hm⟩
def pg{H H':Ar}{k m:Nat}{e:Au}{x:Option Au}(z:(k,e)::Cb H [k]=H')(h:k≠m)(g:hget H m=x):hget H' m=x:=by subst z;exact (Tz _ _ _ h).trans g
section
variable {A B:Type}{k:AK A}{r:RK B}{pre:A->Prop}{f:A->B}{args:List AV}{tm:List (Nat×AV)}{h:Ar}{nx:Nat}{dst:Option Nat}
def vK.call{Q:A8->Prop}(ps:List PK)(O:Kp (hget h) args=some (ps,[]))(a:A)(Z:k.r ps=some a)(z:pre a)(G:Q ((⟨tm,h,nx⟩:A8).put dst (.im (r.e (f a))))):vK k r pre f args (hget h) nx (Fx Q ⟨tm,h,nx⟩ dst):=vN.call ps O a Z z G
def CY.call{Q:A8->Prop}(ps:List PK)(O:Cp (hget h) args=some ps)(a:A)(Z:k.r ps=some a)(z:pre a)(G:Q ((⟨tm,h,nx⟩:A8).put dst (.im (r.e (f a))))):CY k r pre f args (hget h) nx (Fx Q ⟨tm,h,nx⟩ dst):=vF.call ps O a Z z G
end
def Oq(l:List Int):a1 (kS Ch) [.val (.sl false 1 (l.map Af))]=some l:=by simp only[a1,kS,KA Rj,G8]
def cC(a:Ao)(k:Int):a2 (kR Ao.d) kI [.val (.agg (Ao.c a)),.val (.int .i64 k)]=some (a,k):=by simp only[a2,kR,kI,Ao.d_c,G8]
def toIR.row:AG:=orR toInt64S.row toIX.row
def toIR.ok:AJ 5 toIR.row:=UA toInt64S.ok toIX.ok
def cL(l:List Int): ∀p∈toIX.H1 l,p.1<2/\ ∀m∈p.2.2.nms,m<2:=by
 intro p hp;simp only[toIX.H1,BL] at hp;subst hp;exact⟨by omega,by simp[Ah.nms]⟩
def pk3g{h:Nat->Option Au}{x y z:AV}{p q r:PK}(G:Ec h x=some p)(O:Ec h y=some q)(Q:Ec h z=some r):Cp h [x,y,z]=some [p,q,r]:=by simp only[Cp,G,O,Q,Gz]
end Go.Ae
namespace Go.Ae
open Go.Proofs Go.Lib
def nin_.fv(a:ByteArray×ByteArray×Int):Int:=(λnm w z=>HT nm w z.toNat) (a.1) (a.2.1) (a.2.2)
def nin_.row:AG:=CY (b3 qT qT qI) rI (λa=>a.2.1.size<=1000/\0<=a.2.2/\a.2.2<=1000) nin_.fv
def nin_.q:=CD (R:=nin_.row) rfl
def nin_.ok:AJ 46 nin_.row:=by
 refine FM (tC numd_.ok tN) Tryz.func46 ?_;intro a O;simp only[Tryz.f46,Option.getD];simp(disch:=omega)only[ZZ,simprocAttr,Ab,nin_.fv,numd_.q,numd_.fv,BD,D.sc,D.scs,B6,AP];obtain⟨nm,w,z⟩:=a;obtain⟨Q,h2,h3⟩:=O;simp only at Q h2 h3⊢;refine AZ.old ⟨{k:Nat//k<=z.toNat/\ ∀i:Nat,i<k->nm≠Ac w (i:Nat)},λk=>⟨[(9,.im (.int .i64 k.1)),(8,.im (.int .i64 z)),(6,.im (.int .i64 0)),(0,.im (.str nm)),(1,.im (.str w))],[],0⟩,λk=>z.toNat - k.1,λk=>⟨by simp[ZG],AU _⟩,⟨⟨0,BV _,λi Z=>by omega⟩,by simp(disch:=omega)only[ZZ,simprocAttr,Ab,nin_.fv,numd_.q,numd_.fv,BD,D.sc,D.scs,B6,AP,sub]⟩,λk=> ?_⟩;obtain⟨k,aa,G⟩:=k;have hw:IntKind.i64.wrap ((k:Int)+1)=((k+1:Nat):Int):=by rw[AH (by omega) (by omega)];omega
 simp(disch:=omega)only[ZZ,simprocAttr,Ab,nin_.fv,numd_.q,numd_.fv,BD,D.sc,D.scs,B6,AP,sub,AS,hw];refine⟨λhk=>⟨⟨Q,by omega,by omega⟩,λe=>(sL (by omega) e).symm,λe=>⟨⟨k+1,by omega,λi Z=> ?_⟩,by simp only;omega,rfl⟩⟩,λhk=>(sJ λi Z=>G i (by omega)).symm⟩;rcases (by omega:i<k\/i=k) with h|rfl
 .exact G i h
 .exact e
def gln_.fv(a:AE×Ao×Ad×Int):ByteArray:=(Iu) (a.1) (a.2.1) (a.2.2.1) (a.2.2.2)
def gln_.row:AG:=CY (b4 (qR AE.d_le) (qR Ao.d_le) (qR Ad.d_le) qI) rT (λa=>C5 a.1/\HG a.1 a.2.1/\0<=a.2.2.2/\a.2.2.2<=3) gln_.fv
def gln_.q:=CD (R:=gln_.row) rfl
def gln_.ok:AJ 47 gln_.row:=by
 refine FM (tC at_.ok tN) Tryz.func47 ?_;intro a G;simp only[Tryz.f47,Option.getD];simp(disch:=omega)only[ZZ,simprocAttr,Ab,gln_.fv,at_.q,at_.fv,BD,D.sc,D.scs,B6,AP];obtain⟨s,a,p,d⟩:=a;obtain⟨z,h2,h3,h4⟩:=G;simp only at z h2 h3 h4⊢;refine⟨h2.1,?_⟩;by_cases c1:BM a p<0
 .rw[Ag (by simpa using c1)];simp only[Iu];rw[Al c1];rfl
 rw[Al c1];have ht:=WP h2 p (Zfq.1 c1);refine⟨ht.1,ht.2,λx hx=> ?_⟩;have ab:=bA z hx;refine⟨h3,by rw[ab];omega,λg hg=> ?_⟩;have O:=XC hx hg;have ac:=Qvv z hx hg;have ad:=z.1;by_cases Z:g=0
 .rw[Al Z];simp only[Iu];rw[Ag c1,O,Al Z];rfl
 rw[Ag Z];have hw:IntKind.i64.wrap (g - 1)=g - 1:=AH (by omega) (by omega);refine⟨ht.1,ht.2,λx' Q=>⟨h3,by rw[bA z Q];omega,λg' aa=> ?_⟩⟩;obtain rfl:=AC (hx.symm.trans Q);obtain rfl:=AC (hg.symm.trans aa);rw[hw];refine⟨by omega,by omega,λy hy=> ?_⟩;simp only[Iu];rw[Ag c1,O,Ag Z,hy];rfl
abbrev Dq:=AF×Ao×Int
def deI.ca(a:Dq):List AV:=[.im (.agg (AF.c a.1)),.im (.agg (Ao.c a.2.1)),.im (.int .i64 a.2.2)]
def deI.H1(a:Dq):Ar:=[(0,(true,.arr 2 1 ((Dw a.1 a.2.1 a.2.2).1.map Af)))]
def deI.r0(a:Dq):AV:= .tup [.own 0,.im (.int .i64 (Dw a.1 a.2.1 a.2.2).2)]
def deI.row:AG:=Az deI.ca (λ_=>[]) 0 (λa=>R2 a.1.Set) (λ_=>false) deI.r0 deI.H1 20
def QE:=J @growC_.q<|J @growC_.fv.eq_1<|J @within_.q<|J @within_.fv.eq_1<|J @gln_.q<|J @gln_.fv.eq_1<|J @nin_.q @nin_.fv.eq_1
def deI.ok:AJ 18 deI.row:=by
 refine Ha (tC growC_.ok (tC within_.ok (tC gln_.ok (tC nin_.ok tN)))) Tryz.func18 (exB:=λj=>j==0) (R:=λa r=>r=deI.r0 a) (λ_=>rfl)
  (λa=>by simp[deI.ca,deI.H1,deI.r0,AF.c,Ao.c,AQ,AV.bel,AB,Cg,Cs,Ah.nms,Ax,AV.nms,An,hget]) (λa p hp=> ?_) (λa r h=>by subst h;exact D2.refl _) ?_
 rotate_left
 intro a z;simp only[Tryz.f18,Option.getD,deI.ca,deI.H1,deI.r0,AF.c,Ao.c];simp(disch:=omega)only[ZZ,simprocAttr,Ab,QE,AD,Av,deI.ca,deI.H1,deI.r0,AF.c,Ao.c];rotate_left
 .simp only[deI.H1,Bw,G7,Gd] at hp;subst hp;exact .inr ⟨by omega,by omega,rfl,rfl⟩
 obtain⟨s,a,n⟩:=a;simp only at z⊢;refine⟨z,?_⟩;by_cases c1:EN s a=0
 case neg=>
  rw[Al c1];have e1:EN s a=1:=by
   simp only[EN] at c1⊢;split at c1
   .exact absurd rfl c1
   .rename_i h;rw[Ag h]
  have G:Dw s a n=([],1):=by simp only[Dw];rw[Ag c1,e1]
  refine⟨[],[(0,some 3)],⟨[(6,.own 0),(7,.im (.int .i64 1))],[(0,(true,.arr 2 1 []))],1⟩,?_,by simp[ZG],by simp,?_⟩
  .simp only[Am];simp(disch:=omega)only[ZZ,simprocAttr,Ab,QE,AD,Av,deI.ca,deI.H1,deI.r0,AF.c,Ao.c,AN,AM]
  .simp(disch:=omega)only[ZZ,simprocAttr,Ab,QE,AD,Av,deI.ca,deI.H1,deI.r0,AF.c,Ao.c,G,Bg]
 rw[Ag (by simpa using c1)];by_cases O:Bj n 1 12=true
 case neg=>
  rw[Al (by simpa using O)];have G:Dw s a n=([],2):=by simp only[Dw];rw[Al c1,Ag O]
  refine⟨[],[(0,some 3)],⟨[(6,.own 0),(7,.im (.int .i64 2))],[(0,(true,.arr 2 1 []))],1⟩,?_,by simp[ZG],by simp,?_⟩
  .simp only[Am];simp(disch:=omega)only[ZZ,simprocAttr,Ab,QE,AD,Av,deI.ca,deI.H1,deI.r0,AF.c,Ao.c,AN,AM]
  .simp(disch:=omega)only[ZZ,simprocAttr,Ab,QE,AD,Av,deI.ca,deI.H1,deI.r0,AF.c,Ao.c,G,Bg]
 rw[Ag (by simp[O])];obtain⟨n1,n2⟩:(1:Int)<=n/\n<=12:=by simpa[Bj] using O
 have G:Dw s a n=if (List.range n.toNat).all (λi=>decide (0<=CI s a n i))=true then ((List.range n.toNat).map (CI s a n),0) else ([],9):=by simp only[Dw];rw[Al c1,Al O]
 obtain⟨hs,ha⟩:=LO c1;have aa:=sV (IS hs).2.1;have hA:=Xr ha;refine AZ.ren ⟨{i:Nat//i<=n.toNat/\ ∀j,j<i->0<=CI s a n j},λi=>⟨[(9,.im (.int .i64 (i.1+1))),(8,.own 4),(7,.im (.int .i64 0)),(4,.ptr 1 0),(3,.ptr 0 0),(2,.im (.int .i64 n))],[(4,(true,.arr 2 1 (((List.range i.1).map (CI s a n)).map Af))),(1,(true,.cells 25 [.im (.sl false 3 (a.Tiles.map Aq.c))])),(0,(true,.cells 39 [.im (.sl false 2 (s.Set.Glues.map Ak.c)),.im (.sl false 2 (s.Set.Tiles.map Tile.c)),.im (.sl false 3 (s.Seed.Tiles.map Aq.c)),.im (.int .i64 s.Temperature)]))],5⟩,λi=>n.toNat - i.1,λi=>⟨by simp[ZG],by simp⟩,⟨⟨0,BV _,λj hj=>by omega⟩,[(4,some 3)],?_⟩,λi=> ?_⟩
 .simp only[Am,Ho,Bg];simp(disch:=omega)only[ZZ,simprocAttr,Ab,QE,AD,Av,deI.ca,deI.H1,deI.r0,AF.c,Ao.c,AN,AM]
 obtain⟨i,ad,Z⟩:=i;have hw:IntKind.i64.wrap ((i:Int)+1+1)=((i+1:Nat):Int)+1:=by rw[AH (by omega) (by omega)];omega
 have z3:(⟨#[109,97,120]⟩:ByteArray).size=3:=rfl;have hN:HT (Iu s.Set a ⟨n,(i:Int)+1⟩ 1) ⟨#[109,97,120]⟩ 10=CI s a n i:=rfl;simp(disch:=omega)only[ZZ,simprocAttr,Ab,QE,AD,Av,deI.ca,deI.H1,deI.r0,AF.c,Ao.c,sub,AS,hN,hw];refine⟨λhi=>⟨⟨aa,hA.1⟩,by omega,λhd=> ?_,λhd=> ?_⟩,λhi=> ?_⟩
 .have ab:Dw s a n=([],9):=by
   rw[G,Ag];intro Q
   have:=Fk.1 Q i (CS.2 (by omega))
   rw[C7] at this;omega
  refine⟨[],[(0,some 5)],⟨[(6,.own 0),(7,.im (.int .i64 9))],[(0,(true,.arr 2 1 []))],1⟩,?_,by simp[ZG],by simp,?_⟩
  .simp only[Am];simp(disch:=omega)only[ZZ,simprocAttr,Ab,QE,AD,Av,deI.ca,deI.H1,deI.r0,AF.c,Ao.c,AN,AM]
  .simp(disch:=omega)only[ZZ,simprocAttr,Ab,QE,AD,Av,deI.ca,deI.H1,deI.r0,AF.c,Ao.c,ab,Bg]
 .have ac:List.map Af ((List.range i).map (CI s a n))++[[D.int .i64 (CI s a n i)]]=((List.range (i+1)).map (CI s a n)).map Af:=by
   rw[G1,CV];rfl
  rw[ac];refine⟨by rw[FE];omega,⟨i+1,by omega,λj hj=> ?_⟩,[(4,some 6)],by simp only;omega,?_⟩
  .rcases (by omega:j<i\/j=i) with h|rfl
   .exact Z j h
   .omega
  simp only[Am];simp(disch:=omega)only[ZZ,simprocAttr,Ab,QE,AD,Av,deI.ca,deI.H1,deI.r0,AF.c,Ao.c,AN,AM]
 .obtain rfl:i=n.toNat:=by omega
  rw[Al (Fk.2 λj hj=>by rw[C7];exact Z j (CS.1 hj))] at G;refine⟨[],[(0,some 4)],⟨[(6,.own 0),(7,.im (.int .i64 0))],[(0,(true,.arr 2 1 (((List.range n.toNat).map (CI s a n)).map Af)))],1⟩,?_,by simp[ZG],by simp,?_⟩
  .simp only[Am];simp(disch:=omega)only[ZZ,simprocAttr,Ab,QE,AD,Av,deI.ca,deI.H1,deI.r0,AF.c,Ao.c,AN,AM]
  .simp(disch:=omega)only[ZZ,simprocAttr,Ab,QE,AD,Av,deI.ca,deI.H1,deI.r0,AF.c,Ao.c,G]
def deX.ar:List PK->Option Dq:=a3 (kR AF.d) (kR Ao.d) kI
def deX.row:AG:=Fm deX.ar (λa=>R2 a.1.Set) deI.r0 deI.H1 20
def deX.ok:AJ 18 deX.row:=
 dT (A:=Dq) (ca:=λ(a:Dq)=>[D.agg (AF.c a.1),D.agg (Ao.c a.2.1),D.int .i64 a.2.2]) (by kernel_rfl) deI.ok (λ_=>rfl) (RX (J6 AF.d_le) (J6 Ao.d_le) TJ)
  (λa=>by simp[deI.r0,HN,E9,D.sc,AV.nms,Ax])
  (λa p hp=>by
   simp only[deI.H1,BL] at hp;subst hp;exact⟨by omega,rfl,by simp[IM,Af,D.sc],by simp[Ah.nms]⟩)
def ZC{b:Nat}{l:List Int}(hb:b<=6)(hl:l.length<=12)(hx: ∀x∈l,0<=x/\x<=100):R2 (EA b l).Set:=by
 have hn: ∀(w:ByteArray) (k:Nat),w.size<=1000->k<=100->(Ac w (k:Nat)).size<=140737488355328:=λw k Q Z=>by
  have:=fE (w:=w) (n:=(k:Int)) (by omega) (by omega);omega
 constructor
 .intro g G;simp only[EA,BO,CO,AY,B2,BF,CS,BL] at G;rcases G with ((((((⟨k,z,rfl⟩|rfl)|⟨k,z,rfl⟩)|rfl)|rfl)|⟨k,z,rfl⟩)|⟨k,z,rfl⟩)|⟨k,z,rfl⟩
  .exact hn _ _ (by decide) (by omega)
  .decide
  .exact hn _ _ (by decide) (by omega)
  .decide
  .decide
  .exact hn _ _ (by decide) (by omega)
  .exact hn _ _ (by decide) (by omega)
  .exact hn _ _ (by decide) (by omega)
 .intro t O;simp only[EA,ET,DF,AL,B2,BF,bW,CS,BL] at O;rcases O with ((((rfl|⟨k,z,rfl⟩)|⟨k,z,q,hq,rfl⟩)|⟨k,z,rfl⟩)|⟨k,z,rfl⟩)|((rfl|⟨k,z,rfl⟩)|rfl)
  .simp only;decide
  .exact hn _ _ (by decide) (by omega)
  .have:=UG (w:=⟨#[107]⟩) (a:=(k:Int)) (b:=(q:Int)) (by omega) (by omega) (by omega) (by omega)
   have e:(⟨#[107]⟩:ByteArray).size=1:=rfl;simp only;omega
  .exact hn _ _ (by decide) (by omega)
  .exact hn _ _ (by decide) (by omega)
  .simp only;decide
  .exact hn _ _ (by decide) (by omega)
  .simp only;decide
abbrev Gq:=Int×List Int×List Int
def gsI.ca(a:Gq):List AV:=[.im (.int .i64 a.1),.im (.sl false 1 (a.2.1.map Af)),.im (.sl false 1 (a.2.2.map Af))]
def GY(w:List Int×Ao×Int):Ar:=[(0,(true,.arr 2 1 (w.1.map Af))),(1,(true,.arr 88 3 (w.2.1.Tiles.map Aq.c)))]
def FU(w:List Int×Ao×Int):AV:= .tup [.own 0,.agg [.own 1],.im (.int .i64 w.2.2)]
def gsI.H1(a:Gq):Ar:=GY (Iv a.1 a.2.1 a.2.2)
def gsI.row:AG:=Az gsI.ca (λ_=>[]) 0 (λ_=>True) (λ_=>false) (λa=>FU (Iv a.1 a.2.1 a.2.2)) gsI.H1 100
def LJ:=J @sysI_.q @sysI_.fv.eq_1
def gsI.ok:AJ 6 gsI.row:=by
 refine Ha (tC sysI_.ok (tC grI.ok (tC deX.ok (tC revI.ok tN)))) Tryz.func6 (exB:=D7) (R:=λa r=>r=FU (Iv a.1 a.2.1 a.2.2)) (λ_=>rfl)
  (λa=>by simp[gsI.ca,gsI.H1,GY,FU,D7,AQ,AV.bel,AB,Cg,Cs,Ah.nms,Ax,AV.nms,An,hget]) (λa p hp=> ?_) (λa r h=>by subst h;exact D2.refl _) ?_
 rotate_left
 intro a aa;simp only[Tryz.f6,Option.getD,gsI.ca,gsI.H1,GY,FU,D7];simp(disch:=omega)only[ZZ,simprocAttr,Ab,LJ,AD,Av,gsI.ca,gsI.H1,GY,FU,D7];rotate_left
 .simp only[gsI.H1,GY,Bw,G7,Gd] at hp;rcases hp with rfl|rfl
  .exact .inr ⟨by omega,by omega,rfl,rfl⟩
  .exact .inr ⟨by omega,by omega,rfl,rfl⟩
 obtain⟨b,l,c⟩:=a;simp only;by_cases c1:CP b l=0
 case neg=>
  have e:GL b l=(⟨⟨[],[]⟩,⟨[]⟩,0⟩,CP b l):=Ag c1;have z:Iv b l c=([],⟨[]⟩,CP b l):=by simp only[Iv];rw[Ag c1]
  rw[e];simp only;rw[Al c1];refine⟨[],[(0,some 3),(1,none),(2,some 1)],⟨[(6,.own 0),(7,.ptr 2 0),(8,.im (.int .i64 (CP b l)))],[(2,(true,.cells 25 [.own 1])),(0,(true,.arr 2 1 ([]))),(1,(true,.arr 88 3 ([])))],3⟩,?_,by simp[ZG],by simp,?_⟩
  .simp only[Am];simp(disch:=omega)only[ZZ,simprocAttr,Ab,LJ,AD,Av,gsI.ca,gsI.H1,GY,FU,D7,AN,AM]
  .simp(disch:=omega)only[ZZ,simprocAttr,Ab,LJ,AD,Av,gsI.ca,gsI.H1,GY,FU,D7,z,Bg]
 have e:GL b l=(EA b.toNat l,0):=Al c1;obtain⟨s,hs⟩: ∃s,s=EA b.toNat l:=⟨_,rfl⟩;have G:R2 s.Set:=by
  obtain⟨p1,p2,p3,p4,p5⟩:=Ru c1;rw[hs];exact ZC (by omega) p4 λx hx=>by have:=p5 x hx;omega
 rw[e];simp only[<-hs];rw[Ag (by simp)];obtain⟨w,hw⟩: ∃w,w=J0 s c:=⟨_,rfl⟩;have Z:Iv b l c=if w.2.2=0 then (if (Dw s w.2.1 l.length).2=0 then ((Dw s w.2.1 l.length).1.reverse,w.2.1,0) else ([],⟨[]⟩,(Dw s w.2.1 l.length).2)) else ([],⟨[]⟩,w.2.2):=by simp only[Iv];rw[Al c1,<-hs,<-hw]
 refine Az.os (s,c) [] G (λj=>by simp[An,hget]) rfl rfl ?_ ?_
 .simp(disch:=omega)only[ZZ,simprocAttr,Ab,LJ,AD,Av,gsI.ca,gsI.H1,GY,FU,D7,grI.ca,Fs,AF.c]
  try exact⟨rfl,rfl,rfl⟩
 simp(disch:=omega)only[ZZ,simprocAttr,Ab,LJ,AD,Av,gsI.ca,gsI.H1,GY,FU,D7,grI.H1,Tr,Tq,sub,Br,Bx,<-hw];by_cases O:w.2.2=0
 case neg=>
  rw[Al O];have z:Iv b l c=([],⟨[]⟩,w.2.2):=by rw[Z,Ag O]
  refine⟨[],[(0,some 24),(1,none),(2,some 1)],⟨[(6,.own 0),(7,.ptr 2 0),(8,.im (.int .i64 w.2.2))],[(2,(true,.cells 25 [.own 1])),(0,(true,.arr 2 1 ([]))),(1,(true,.arr 88 3 ([])))],3⟩,?_,by simp[ZG],by simp,?_⟩
  .simp only[Am];simp(disch:=omega)only[ZZ,simprocAttr,Ab,LJ,AD,Av,gsI.ca,gsI.H1,GY,FU,D7,AN,AM]
  .simp(disch:=omega)only[ZZ,simprocAttr,Ab,LJ,AD,Av,gsI.ca,gsI.H1,GY,FU,D7,z,Bg]
 rw[Ag (by simpa using O)];obtain⟨d,hd⟩: ∃d,d=Dw s w.2.1 l.length:=⟨_,rfl⟩;rw[Al O,<-hd] at Z;intro _;refine Fm.os [.val (.agg (AF.c s)),.val (.agg (Ao.c w.2.1)),.val (.int .i64 l.length)] rfl (s,w.2.1,(l.length:Int)) (by simp only[deX.ar,a3,kR,kI,AF.d_c,Ao.d_c,G8]) G ?_;simp(disch:=omega)only[ZZ,simprocAttr,Ab,LJ,AD,Av,gsI.ca,gsI.H1,GY,FU,D7,deI.r0,deI.H1,sub,<-hd];by_cases Q:d.2=0
 case neg=>
  rw[Al Q];have z:Iv b l c=([],⟨[]⟩,d.2):=by rw[Z,Ag Q]
  refine⟨[],[(0,some 44),(1,none),(2,some 1)],⟨[(6,.own 0),(7,.ptr 2 0),(8,.im (.int .i64 d.2))],[(2,(true,.cells 25 [.own 1])),(0,(true,.arr 2 1 ([]))),(1,(true,.arr 88 3 ([])))],3⟩,?_,by simp[ZG],by simp,?_⟩
  .simp only[Am];simp(disch:=omega)only[ZZ,simprocAttr,Ab,LJ,AD,Av,gsI.ca,gsI.H1,GY,FU,D7,AN,AM]
  .simp(disch:=omega)only[ZZ,simprocAttr,Ab,LJ,AD,Av,gsI.ca,gsI.H1,GY,FU,D7,z,Bg]
 rw[Ag (by simpa using Q)];have z:Iv b l c=(d.1.reverse,w.2.1,0):=by rw[Z,Al Q]
 refine Az.os d.1 [24] trivial (λj=> ?_) rfl rfl ?_ ?_
 .simp only[An,revI.H0,hget];by_cases h0:j=0
  .subst h0;simp
  .have e0:(0==j)=false:=by simpa using λh=>h0 h.symm
   simp[e0];omega
 .simp(disch:=omega)only[ZZ,simprocAttr,Ab,LJ,AD,Av,gsI.ca,gsI.H1,GY,FU,D7,revI.ca,revI.H0,Fs,Br]
  try exact⟨rfl,rfl⟩
 simp(disch:=omega)only[ZZ,simprocAttr,Ab,LJ,AD,Av,gsI.ca,gsI.H1,GY,FU,D7,revI.H1,sub,Br,Bx];refine⟨[],[(0,some 24),(1,some 4),(2,some 1)],⟨[(6,.own 0),(7,.ptr 2 0),(8,.im (.int .i64 0))],[(2,(true,.cells 25 [.own 1])),(0,(true,.arr 2 1 (d.1.reverse.map Af))),(1,(true,.arr 88 3 (w.2.1.Tiles.map Aq.c)))],3⟩,?_,by simp[ZG],by simp,?_⟩
 .simp only[Am];simp(disch:=omega)only[ZZ,simprocAttr,Ab,LJ,AD,Av,gsI.ca,gsI.H1,GY,FU,D7,AN,AM]
 .simp(disch:=omega)only[ZZ,simprocAttr,Ab,LJ,AD,Av,gsI.ca,gsI.H1,GY,FU,D7,z]
end Go.Ae
namespace Go.Ae
open Go.Proofs
def Tw(w:List Int×Ao×Int): ∀p∈GY w,p.1<100/\ ∀m∈p.2.2.nms,m<100:=by
 intro p hp;simp only[GY,Bw,BL,G7,Gd] at hp;rcases hp with rfl|rfl
 .exact⟨by omega,by simp[Ah.nms]⟩
 .exact⟨by omega,by simp[Ah.nms]⟩
def Lb(w:List Int×Ao×Int): ∀m∈(FU w).nms,m<100:=by simp[FU,AV.nms,Ax]
def jF(w:List Int×Ao×Int): ∀p∈GY w,p.1<100/\p.2.1=true/\IM p.2.2=true/\ ∀m∈p.2.2.nms,m<100:=by
 intro p hp;simp only[GY,Bw,BL,G7,Gd] at hp;rcases hp with rfl|rfl
 .exact⟨by omega,rfl,by simp[IM,Af,D.sc],by simp[Ah.nms]⟩
 .exact⟨by omega,rfl,by simp[IM,Aq.c,D.sc],by simp[Ah.nms]⟩
def jG(w:List Int×Ao×Int):HN (FU w)=true/\ ∀m∈(FU w).nms,m<100:=⟨by simp[FU,HN,E9,D.sc],Lb w⟩
def gsV.ar:List PK->Option Gq:=a3 kI (kS Ch) (kS Ch)
def gsV.row:AG:=Fm gsV.ar (λ_=>True) (λa=>FU (Iv a.1 a.2.1 a.2.2)) gsI.H1 100
def gsV.ok:AJ 6 gsV.row:=
 dT (A:=Gq) (ca:=λ(a:Gq)=>[D.int .i64 a.1,D.sl false 1 (a.2.1.map Af),D.sl false 1 (a.2.2.map Af)]) (by kernel_rfl) gsI.ok (λ_=>rfl) (RX TJ (M9 1 Dj (λ_=>rfl)) (M9 1 Dj (λ_=>rfl))) (λ_=>jG _) (λ_=>jF _)
def xS(b:Int)(l c:List Int):gsV.ar [.val (.int .i64 b),.val (.sl false 1 (l.map Af)),.val (.sl false 1 (c.map Af))]=some (b,l,c):=by simp only[gsV.ar,a3,kI,kS,KA Rj,G8]
def jH(b:Int)(l c:List Int):(Iv b l c).1.length<=12/\(Iv b l c).2.1.Tiles.length<=1048576:=by
 simp only[Iv];split
 .rename_i c1;obtain⟨p1,G,O,Q,Z⟩:=Ru c1;have z:=(jI (EA b.toNat l) c).2;split
  .split
   .refine⟨?_,by simp only;omega⟩;simp only[Dw,bS];split
    .split
     .split
      .simp only[Du,FE];omega
      .simp
     .simp
    .simp
   .simp
  .simp
 .simp
def lawSo.rc:D->Option (Bool):=Re
def lawSo.re:Bool->D:=D.bool
def lawSo.rle: ∀d b,lawSo.rc d=some b->Le d (lawSo.re b):=eP
def lawSo.ar:List PK->Option (Int×(List Int)×(List Int)):=a3 kI (kS Ch) (kS Ch)
def lawSo.fv(a:Int×(List Int)×(List Int)):Bool:=(λ_ _ _=>true) (a.1) (a.2.1) (a.2.2)
def lawSo.row:AG:=vK (b3 qI (qS Dj Ct) (qS Dj Ct)) (RK.mk lawSo.rc lawSo.re lawSo.rle) (λa=>True) lawSo.fv
def lawSo.q:=B3 (R:=lawSo.row) rfl
def FA:=J @lawSo.fv.eq_1<|J @lawSo.rc.eq_1<|J @gsS_.q<|J @gsS_.fv.eq_1<|J @toInt64S.fv.eq_1<|J @eqInt64SF.fv.eq_1 @eqAsmF.fv.eq_1
def lawSo.ok:AJ 3 lawSo.row:=by
 refine vw (tC toIR.ok (tC gsS_.ok (tC gsV.ok (tC eqAsmF.ok (tC eqInt64SF.ok (tC mkIC.ok (tC mkAC.ok (tC heldIS.ok (tC heldA_.ok tN))))))))) Tryz.func3 ?_;intro a av;simp only[Tryz.f3,Option.getD];simp(maxSteps:=9^9)(disch:=omega)only[ZZ,simprocAttr,Ab,FA];obtain⟨b,l,c⟩:=a;simp only;intro _;split
 .trivial
 rename_i c1;intro _;split
 .trivial
 rename_i c2;have ah:l.length<=1073741824:=by omega
 have ag:c.length<=1073741824:=by omega
 refine .inl (vK.call [.val (.sl false 1 (l.map Af))] rfl l (Oq l) ah ?_);simp(disch:=omega)only[ZZ,simprocAttr,Ab,FA,sub,Cx];refine .inl (vK.call [.val (.sl false 1 (c.map Af))] rfl c (Oq c) ag ?_);simp(disch:=omega)only[ZZ,simprocAttr,Ab,FA,sub,Cx];obtain⟨w,hw⟩: ∃w,w=Iv b l c:=⟨_,rfl⟩;have au:=jH b l c;obtain⟨Q,w1,w2⟩:=w;simp only[<-hw] at au⊢;refine .inr (Az.nw l ah rfl rfl (cL l) (by simp[AV.nms]) λak hH1 O=> ?_);have z:hget ak 0=some (true,.cells 25 [AV.im (D.sl false 3 (List.map Aq.c w1.Tiles))]):=O 0 (by omega);have ol:hget ak 2=some (true,.arr 2 1 (l.map Af)):=hH1 1 _ rfl;clear hH1 O;simp only[AV.ren];simp(disch:=omega)only[ZZ,simprocAttr,Ab,FA,sub,Cx,z,ol];refine .inr (Az.nw c ag rfl rfl (cL c) (by simp[AV.nms]) λai hH1 O=> ?_);have z:hget ai 0=_:=(O 0 (by omega)).trans z;have ol:hget ai 2=_:=(O 2 (by omega)).trans ol;have oc:hget ai 4=some (true,.arr 2 1 (c.map Af)):=hH1 1 _ rfl;clear hH1 O;simp only[AV.ren];simp(disch:=omega)only[ZZ,simprocAttr,Ab,FA,sub,Cx,z,ol,oc];refine Fm.nw [.val (.int .i64 b),.val (.sl false 1 (l.map Af)),.val (.sl false 1 (c.map Af))] (pk3g rfl (HQ ol) (HQ oc)) (b,l,c) (xS b l c) trivial (Tw _) (Lb _) λab hH1 O=> ?_
 simp only[<-hw,gsI.H1] at hH1⊢;have z:hget ab 0=_:=(O 0 (by omega)).trans z;have ol:hget ab 2=_:=(O 2 (by omega)).trans ol;have oc:hget ab 4=_:=(O 4 (by omega)).trans oc;have G:hget ab 5=some (true,.arr 2 1 (Q.map Af)):=hH1 0 _ rfl;have gp:hget ab 6=some (true,.arr 88 3 (w1.Tiles.map Aq.c)):=hH1 1 _ rfl;clear hH1 O;simp only[FU,AV.ren,Bd];simp(disch:=omega)only[ZZ,simprocAttr,Ab,FA,sub,Cx,z,ol,oc,G,gp];generalize hG:((105,(true,Ah.cells 25 [AV.own 6]))::Cb ab [105]:Ar)=H3;have z:=pg hG (by omega) z;have ol:=pg hG (by omega) ol;have oc:=pg hG (by omega) oc;have G:=pg hG (by omega) G;have gp:=pg hG (by omega) gp;have ga:hget H3 105=some (true,.cells 25 [.own 6]):=by rw[<-hG];rfl
 clear hG;refine CY.call [_,_] (QU (HQ G) rfl) (Q,Q) (J2 _ _) trivial ?_;simp(disch:=omega)only[ZZ,simprocAttr,Ab,FA,sub,Cx,z,ol,oc,G,gp,ga,RW];refine CY.call [_,_] (QU (JG gp) rfl) (w1,w1) (Sc _ _) trivial ?_;simp(disch:=omega)only[ZZ,simprocAttr,Ab,FA,sub,Cx,z,ol,oc,G,gp,ga,RW];refine .inl (vK.call [.val (.sl false 1 (l.map Af))] rfl l (Oq l) ah ?_);simp(disch:=omega)only[ZZ,simprocAttr,Ab,FA,sub,Cx,z,ol,oc,G,gp,ga];refine CY.call [_,_] (QU (HQ ol) rfl) (l,l) (J2 _ _) trivial ?_;simp(disch:=omega)only[ZZ,simprocAttr,Ab,FA,sub,Cx,z,ol,oc,G,gp,ga,RW];refine .inl (vK.call [.val (.sl false 1 (c.map Af))] rfl c (Oq c) ag ?_);simp(disch:=omega)only[ZZ,simprocAttr,Ab,FA,sub,Cx,z,ol,oc,G,gp,ga];refine CY.call [_,_] (QU (HQ oc) rfl) (c,c) (J2 _ _) trivial ?_;simp(disch:=omega)only[ZZ,simprocAttr,Ab,FA,sub,Cx,z,ol,oc,G,gp,ga,RW];refine dS (by decide) (by omega) ol (by omega) λac _ Z=> ?_
 have z:hget ac 0=_:=(Z 0 (by omega)).trans z;have oc:hget ac 4=_:=(Z 4 (by omega)).trans oc;have G:hget ac 5=_:=(Z 5 (by omega)).trans G;have gp:hget ac 6=_:=(Z 6 (by omega)).trans gp;have ga:hget ac 105=_:=(Z 105 (by omega)).trans ga;clear Z;simp(disch:=omega)only[ZZ,simprocAttr,Ab,FA,sub,Cx,z,oc,G,gp,ga];refine dS (by omega) (by omega) oc (by omega) λad _ Z=> ?_
 have z:hget ad 0=_:=(Z 0 (by omega)).trans z;have G:hget ad 5=_:=(Z 5 (by omega)).trans G;have gp:hget ad 6=_:=(Z 6 (by omega)).trans gp;have ga:hget ad 105=_:=(Z 105 (by omega)).trans ga;clear Z;simp(disch:=omega)only[ZZ,simprocAttr,Ab,FA,sub,Cx,z,G,gp,ga];rw[Al (by omega)];refine CY.call [_,_] (QU (HQ G) rfl) (Q,Q) (J2 _ _) trivial ?_;simp(disch:=omega)only[ZZ,simprocAttr,Ab,FA,sub,Cx,z,G,gp,ga,RW];refine CY.call [_,_] (QU (JG gp) rfl) (w1,w1) (Sc _ _) trivial ?_;simp(disch:=omega)only[ZZ,simprocAttr,Ab,FA,sub,Cx,z,G,gp,ga,RW];refine dS (by decide) (by omega) G (by omega) λaf hj Z=> ?_
 have z:hget af 0=_:=(Z 0 (by omega)).trans z;have G:hget af 5=some (true,.arr 2 1 ((Hu 1 Q.length).map Af)):=hj 0 _ rfl;have gp:hget af 6=_:=(Z 6 (by omega)).trans gp;have ga:hget af 105=_:=(Z 105 (by omega)).trans ga;clear hj Z;simp(disch:=omega)only[ZZ,simprocAttr,Ab,FA,sub,Cx,z,G,gp,ga];refine Pp (by omega) (by omega) gp (by omega) λaj gp Z=> ?_
 have z:hget aj 0=_:=(Z 0 (by omega)).trans z;have G:hget aj 5=_:=(Z 5 (by omega)).trans G;have ga:hget aj 105=_:=(Z 105 (by omega)).trans ga;clear Z;simp(disch:=omega)only[ZZ,simprocAttr,Ab,FA,sub,Cx,z,G,gp,ga];have an:(0:Int)<=1/\(1:Int)+(Hu 1 Q.length).length<=1099511627776:=by rw[Rh];omega
 have aq:heldIS.fv (Hu 1 Q.length,1)=1+Q.length:=Tx 1 Q.length;have am:(0:Int)<=1+Q.length/\(1:Int)+Q.length+3*(Hc (pF (1+Q.length)) w1.Tiles.length).length<=1099511627776:=by rw[NI];omega
 have ao:heldA_.fv (⟨Hc (pF (1+Q.length)) w1.Tiles.length⟩,1+Q.length)=1+Q.length+3*w1.Tiles.length:=Ty _ _;refine CY.call [_,_] (QU (HQ G) rfl) (Hu 1 Q.length,1) (xT _ _) an ?_;simp only[aq];simp(disch:=omega)only[ZZ,simprocAttr,Ab,FA,sub,Cx,z,G,gp,ga];rw[Ag (by omega)];refine CY.call [_,_] (QU (JG (a:=⟨Hc (pF (1+Q.length)) w1.Tiles.length⟩) gp) rfl) (⟨Hc (pF (1+Q.length)) w1.Tiles.length⟩,1+Q.length) (cC _ _) am ?_;simp only[ao];simp(disch:=omega)only[ZZ,simprocAttr,Ab,FA,sub,Cx,z,G,gp,ga];rw[Ag (by omega)];refine .inl (vK.call [.val (.sl false 1 (l.map Af))] rfl l (Oq l) ah ?_);simp(disch:=omega)only[ZZ,simprocAttr,Ab,FA,sub,Cx,z,G,gp,ga];refine .inl (vK.call [.val (.sl false 1 (c.map Af))] rfl c (Oq c) ag ?_);simp(disch:=omega)only[ZZ,simprocAttr,Ab,FA,sub,Cx,z,G,gp,ga];refine Fm.nw [.val (.int .i64 b),.val (.sl false 1 (l.map Af)),.val (.sl false 1 (c.map Af))] rfl (b,l,c) (xS b l c) trivial (Tw _) (Lb _) λaa hH1 O=> ?_
 simp only[<-hw,gsI.H1] at hH1⊢;have z:hget aa 0=_:=(O 0 (by omega)).trans z;have G:hget aa 5=_:=(O 5 (by omega)).trans G;have gp:hget aa 6=_:=(O 6 (by omega)).trans gp;have ga:hget aa 105=_:=(O 105 (by omega)).trans ga;have gh:hget aa 106=some (true,.arr 2 1 (Q.map Af)):=hH1 0 _ rfl;have gq:hget aa 107=some (true,.arr 88 3 (w1.Tiles.map Aq.c)):=hH1 1 _ rfl;clear hH1 O;simp only[FU,AV.ren,Bd];simp(disch:=omega)only[ZZ,simprocAttr,Ab,FA,sub,Cx,z,G,gp,ga,gh,gq];generalize hG:((206,(true,Ah.cells 25 [AV.own 107]))::Cb aa [206]:Ar)=H8;have z:=pg hG (by omega) z;have G:=pg hG (by omega) G;have gp:=pg hG (by omega) gp;have ga:=pg hG (by omega) ga;have gh:=pg hG (by omega) gh;have gq:=pg hG (by omega) gq;have gb:hget H8 206=some (true,.cells 25 [.own 107]):=by rw[<-hG];rfl
 clear hG;refine CY.call [_,_] (QU (HQ gh) rfl) (Q,Q) (J2 _ _) trivial ?_;simp(disch:=omega)only[ZZ,simprocAttr,Ab,FA,sub,Cx,z,G,gp,ga,gh,gq,gb,RW];refine CY.call [_,_] (QU (JG gq) rfl) (w1,w1) (Sc _ _) trivial ?_;simp(disch:=omega)only[ZZ,simprocAttr,Ab,FA,sub,Cx,z,G,gp,ga,gh,gq,gb,RW];refine CY.call [_,_] (QU (HQ G) rfl) (Hu 1 Q.length,1) (xT _ _) an ?_;simp only[aq];simp(disch:=omega)only[ZZ,simprocAttr,Ab,FA,sub,Cx,z,G,gp,ga,gh,gq,gb];rw[Ag (by omega)];refine CY.call [_,_] (QU (JG (a:=⟨Hc (pF (1+Q.length)) w1.Tiles.length⟩) gp) rfl) (⟨Hc (pF (1+Q.length)) w1.Tiles.length⟩,1+Q.length) (cC _ _) am ?_;simp only[ao];simp(disch:=omega)only[ZZ,simprocAttr,Ab,FA,sub,Cx,z,G,gp,ga,gh,gq,gb];rw[Ag (by omega)];trivial
end Go.Ae
