/- Lemmas. Conditions: none. -/
import Derived.Test.YtpdpgenppceapaaGreatP12
import Derived.Shelf.SortM.Plain
import Derived.Shelf.SortM.SortNone
set_option linter.all false
set_option maxHeartbeats 8000000
set_option maxRecDepth 100000
namespace Go.Proofs
open Go.Shelf
def Tryz.sortI_ren:Go.Shelf.Ren:=⟨λ|5=>118|8=>159|7=>158|19=>200|20=>201|10=>191|11=>192|12=>193|13=>194|14=>195|15=>196|16=>197|17=>198|18=>199|30=>216|31=>217|32=>218|33=>219|34=>220|35=>207|40=>246|n=>n,λ|23=>37|25=>2|3=>3|32=>185|22=>37|0=>0|44=>238|46=>123|4=>4|36=>231|35=>230|41=>235|5=>5|9=>9|53=>253|57=>257|63=>283|64=>284|n=>n,λ|n=>n⟩
def Tryz.sortI:Go.Proofs.SlLaysM.n5 Tryz.prog Tryz.sortI_ren:={
 mixed:=by kernel_rfl
 f5:=⟨Tryz.f118.name,by decide,Tryz.func118.trans (BW some (by kernel_rfl))⟩
 f7:=⟨Tryz.f158.name,by decide,Tryz.func158.trans (BW some (by kernel_rfl))⟩
 f8:=Tryz.func159.trans (BW some (by kernel_rfl))
 f10:=⟨Tryz.f191.name,by decide,Tryz.func191.trans (BW some (by kernel_rfl))⟩
 f11:=⟨Tryz.f192.name,by decide,Tryz.func192.trans (BW some (by kernel_rfl))⟩
 f12:=⟨Tryz.f193.name,by decide,Tryz.func193.trans (BW some (by kernel_rfl))⟩
 f13:=⟨Tryz.f194.name,by decide,Tryz.func194.trans (BW some (by kernel_rfl))⟩
 f14:=⟨Tryz.f195.name,by decide,Tryz.func195.trans (BW some (by kernel_rfl))⟩
 f15:=⟨Tryz.f196.name,by decide,Tryz.func196.trans (BW some (by kernel_rfl))⟩
 f16:=⟨Tryz.f197.name,by decide,Tryz.func197.trans (BW some (by kernel_rfl))⟩
 f17:=⟨Tryz.f198.name,by decide,Tryz.func198.trans (BW some (by kernel_rfl))⟩
 f18:=⟨Tryz.f199.name,by decide,Tryz.func199.trans (BW some (by kernel_rfl))⟩
 f19:=Tryz.func200.trans (BW some (by kernel_rfl))
 f20:=Tryz.func201.trans (BW some (by kernel_rfl))
 f30:=⟨Tryz.f216.name,by decide,Tryz.func216.trans (BW some (by kernel_rfl))⟩
 f31:=Tryz.func217.trans (BW some (by kernel_rfl))
 f32:=Tryz.func218.trans (BW some (by kernel_rfl))
 f33:=⟨Tryz.f219.name,by decide,Tryz.func219.trans (BW some (by kernel_rfl))⟩
 f34:=⟨Tryz.f220.name,by decide,Tryz.func220.trans (BW some (by kernel_rfl))⟩
 f35:=⟨Tryz.f207.name,by decide,Tryz.func207.trans (BW some (by kernel_rfl))⟩
 f40:=⟨Tryz.f246.name,by decide,Tryz.func246.trans (BW some (by kernel_rfl))⟩
 t0:=Tryz.underlying0
 a0:=Tryz.isAgg0
 z0:=Tryz.sizeOf0
 v0:=Tryz.zeroValue0
 t3:=Tryz.underlying3
 a3:=Tryz.isAgg3
 z3:=Tryz.sizeOf3
 v3:=Tryz.zeroValue3
 t4:=Tryz.underlying4
 a4:=Tryz.isAgg4
 z4:=Tryz.sizeOf4
 v4:=Tryz.zeroValue4
 t5:=Tryz.underlying5
 a5:=Tryz.isAgg5
 z5:=Tryz.sizeOf5
 v5:=Tryz.zeroValue5
 t9:=Tryz.underlying9
 a9:=Tryz.isAgg9
 z9:=Tryz.sizeOf9
 v9:=Tryz.zeroValue9
 t22:=Tryz.underlying37
 a22:=Tryz.isAgg37
 z22:=Tryz.sizeOf37
 v22:=Tryz.zeroValue37
 t23:=Tryz.underlying37
 a23:=Tryz.isAgg37
 z23:=Tryz.sizeOf37
 v23:=Tryz.zeroValue37
 t25:=Tryz.underlying2
 a25:=Tryz.isAgg2
 z25:=Tryz.sizeOf2
 v25:=Tryz.zeroValue2
 t32:=Tryz.underlying185
 a32:=Tryz.isAgg185
 z32:=Tryz.sizeOf185
 v32:=Tryz.zeroValue185
 t35:=Tryz.underlying230
 a35:=Tryz.isAgg230
 z35:=Tryz.sizeOf230
 v35:=Tryz.zeroValue230
 t36:=Tryz.underlying231
 a36:=Tryz.isAgg231
 z36:=Tryz.sizeOf231
 v36:=Tryz.zeroValue231
 t41:=Tryz.underlying235
 a41:=Tryz.isAgg235
 z41:=Tryz.sizeOf235
 v41:=Tryz.zeroValue235
 t44:=Tryz.underlying238
 a44:=Tryz.isAgg238
 z44:=Tryz.sizeOf238
 v44:=Tryz.zeroValue238
 t46:=Tryz.underlying123
 a46:=Tryz.isAgg123
 z46:=Tryz.sizeOf123
 v46:=Tryz.zeroValue123
 t53:=Tryz.underlying253
 a53:=Tryz.isAgg253
 z53:=Tryz.sizeOf253
 v53:=Tryz.zeroValue253
 t57:=Tryz.underlying257
 a57:=Tryz.isAgg257
 z57:=Tryz.sizeOf257
 v57:=Tryz.zeroValue257
 t63:=Tryz.underlying283
 a63:=Tryz.isAgg283
 z63:=Tryz.sizeOf283
 v63:=Tryz.zeroValue283
 t64:=Tryz.underlying284
 a64:=Tryz.isAgg284
 z64:=Tryz.sizeOf284
 v64:=Tryz.zeroValue284}
end Go.Proofs
namespace Go.Ae
open Go.Proofs Go.Sort Go.Shelf
def nB(l:List Int):List Value:=l.map (Value.int .i64)
def gD{ok:Nat->Prop}{hp:Nat->Option Obj}: ∀(l:List Int) (L:List Value),rdr ok hp 1 (l.map Af) L↔ ∃r,L=nB l++r
 |[],L=>by simp[rdr,nB]
 |x::r,L=>by
  simp only[Bm,rdr,gD r,Af,rdp,rd,nB,Bm];constructor
  .rintro⟨_,⟨v,z,rfl,rfl,_⟩,q,hq⟩;exact⟨q,by simp only[Mo,Jc] at hq;rw[hq];rfl⟩
  .rintro⟨q,rfl⟩;exact⟨rfl,⟨_,_,rfl,rfl,trivial⟩,q,rfl⟩
def XH(l:List Int):(nB l).length=l.length:=FN ..
def srI.ca(_:List Int):List AV:=[.own 0]
def srI.H0(a:List Int):Au:=[(0,(true,.arr 2 1 (a.map Af)))]
def srI.H1(a:List Int):Au:=[(0,(true,.arr 2 1 ((sortI a).map Af)))]
def srI.row:AO:=AM srI.ca srI.H0 1 (λ_=>True) (λ_=>true) (λ_=> .im (.tup [])) srI.H1 0
def srI.ok:AS 118 srI.row:=by
 rintro a9 h nx K ⟨a,τ,U,KL,bb,rfl,O,hN,hK⟩;refine⟨S5 (by kernel_rfl),_,_,?_,hK⟩;intro C S vs R hW aq av aw ab ak;have ai:FW τ 1 nx 0=τ 0:=Ak (by omega);simp only[srI.ca,Bn,AV.ren,ai,AY,Aa] at ab;obtain⟨v0,r0,hv,⟨ad,ag⟩,a0⟩:=ab;subst a0;have a8:vs= #[v0]:=by apply RG;simpa using hv
 subst a8;have hm:h (τ 0)=some (true,.arr 2 1 (a.map Af)):=by
  have:=O.1
  rwa [ai] at this
 have aj:Av (srI.H0 a) 0=true:=rfl;have Q:S.h (τ 0)=some (true,.arr 2 1 (a.map Af)):=by
  rw[aq (τ 0) (J6 _ (hN.u 0 aj)),hm]
 have am: ∀n,n∈KL↔n=τ 0:=by
  intro n;constructor
  .intro hn;obtain⟨j,h1,_,h3⟩:=hN.k1 n hn
   have:j=0:=by
    simp only[Av,srI.H0,hget] at h1;by_cases hj:j=0
    .exact hj
    .have:(0==j)=false:=by simpa using λh=>hj h.symm
     rw[this] at h1;cases h1
   rw[h3,this]
  .rintro rfl;exact hN.k2 0 aj rfl
 obtain⟨m,hmm⟩: ∃m,m=τ 0:=⟨_,rfl⟩;rw[<-hmm] at Q ag am;have aa:=QX a;have fin: ∀(w':World),Jv S m (.arr 2 1 ((sortI a).map Af)) (S.ρ m) [m] w'->
  (BU (λn=>S.h m≠none\/n≠m) S (S.one m (.arr 2 1 ((sortI a).map Af)) (S.ρ m) [m] w')->Ap (S.one m (.arr 2 1 ((sortI a).map Af)) (S.ρ m) [m] w') (S.ρ m) (.arr 2 1 ((sortI a).map Af)))->R (.returned (.tuple #[])) w':=by
  intro w' ad az;have hp:=dJ hW ad;refine ak (.tuple #[]) _ (lF hW ad (az hp)) ?_ ⟨hp.ok,λn _=>hp.nm n (.inl (by rw[Q];simp))⟩ ⟨#[],rfl,rfl⟩;funext n;simp only[A7.one,BD.appf,srI.H1,Cd,ai,hget,Ah.ren,<-hmm];by_cases hn:n=m
  .subst hn;simp
  .have h1:(m==n)=false:=by simpa using λh=>hn h.symm
   have h2:KL.contains n=false:=by
    rw[<-RE,J5,am];exact hn
   simp only[h1,Co,h2,hn,CY,BN]
 have z:=ag _ Q;have Z:=hW.obj _ _ Q;have ao:=λG=>hW.loc m _ G Q
 cases hρ:S.ρ m with
 |none=>
  rw[hρ] at z Z;simp only[Ap] at Z;have ha:a=[]:=by simpa using Z.2
  subst ha;simp only at z;rw[z];refine (AnyM.slices_Sort_int_none Tryz.sortI none 0 S.w).mono ?_;rintro e w' ⟨rfl,rfl⟩;refine fin S.w (XI Q (λl hl=>by rw[hρ] at hl;cases hl) (by first|rfl|simp[Ah.len,sortI]) (by first|rfl|simp[Ah.len,sortI])) (λ_=> ?_);rw[hρ];exact⟨by simp[sortI],by simp[sortI]⟩
 |some G=>
  rw[hρ] at z Z;simp only[Ap,Ah.len] at Z z;obtain⟨g1,g2,cv,g3,g4,g5⟩:=Z;obtain⟨ah,bc⟩:=ao G hρ;rw[gD] at g5;obtain⟨au,g5⟩:=g5;simp only[FN] at g1 g2 z;have O:S.w.heap[G.b]? =some (.cells cv 2 (0,0)):=g3;have ba:G.p+a.length<=cv.size:=by omega
  have hget: ∀j,j<a.length->cv[G.p+j]? =some (Value.int .i64 (a.toArray[j]!)):=by
   intro j hj;have h1:(cv.toList.drop G.p)[j]? =(nB a++au)[j]? :=by rw[g5]
   rw[Ib,GF,Eh (by rw[XH];exact hj),nB,DX,Bk hj] at h1;rw[h1,getElem!_pos _ _ (by simpa using hj)];simp
  have hH:Holds (Value.int .i64) S.w G.b G.p a.toArray:=by
   intro j hj;have hj:j<a.length:=by simpa using hj
   refine⟨?_,?_⟩
   .simp only[World.cell?,O,eQ,Dx,CY,id];exact hget j hj
   .simp only[World.frozen?,O];simp
  have hc:=AnyM.slices_Sort_int Tryz.sortI G.b G.p G.cap a S.w hH ah (by simp only[KH] at g1⊢;omega);rw[z];refine hc.mono ?_;rintro e w' ⟨rfl,n,os,rfl⟩;change R _ (grow (putRow (Value.int .i64) (Sort.ahead S.w n) G.b G.p (sortI a).toArray) os);have af:S.w.heap.size<=(grow (putRow (Value.int .i64) (Sort.ahead S.w n) G.b G.p (sortI a).toArray) os).heap.size:=by
   simp[grow,putRow,mapBlock,Sort.ahead]
  have hb: ∀b,b<S.w.heap.size->(grow (putRow (Value.int .i64) (Sort.ahead S.w n) G.b G.p (sortI a).toArray) os).heap[b]? =if G.b=b then S.w.heap[b]?.map (onCells (putCells (Value.int .i64) G.p (sortI a).toArray)) else S.w.heap[b]? :=by
   intro b hb;have e0:b<(putRow (Value.int .i64) (Sort.ahead S.w n) G.b G.p (sortI a).toArray).heap.size:=by simpa[putRow,mapBlock,Sort.ahead] using hb
   simp only[grow];rw[Zdk e0];simp only[putRow,mapBlock,Sort.ahead,ZdH]
  refine fin _ ⟨rfl,rfl,rfl,af,?_,.inl (by simp),?_,?_,?_⟩ ?_
  .intro b ax ay;rw[hb b ax,Ad (ay m _ G (by simp) Q hρ)]
  .intro lo an;rw[hρ] at an;obtain rfl:=A8 an;exact⟨HO ah af,.inr ⟨m,_,G,by simp,Q,hρ,rfl⟩⟩
  .intro f hf;rw[Q] at hf;obtain rfl:=A8 hf;exact⟨rfl,rfl,by simp[Ah.len,aa]⟩
  .intro n' f _ ac;rw[Q] at ac;cases ac
  .intro _;rw[hρ];simp only[Ap,FN,aa];refine⟨g1,g2,putCells (Value.int .i64) G.p (sortI a).toArray cv,?_,by simpa[putCells] using g4,?_⟩
   .simp only[A7.one,A7.hp];rw[hb G.b ah,Ak rfl,O];rfl
   .rw[gD];refine⟨(cv.toList.drop (G.p+a.length)),?_⟩;apply Ja;intro t;rw[Ib,GF,putCells,Zeg];by_cases ht:t<a.length
    .rw[Eh (by rw[XH,aa];exact ht),nB,DX,Bk (by rw[aa];exact ht),J4 (show G.p+t<cv.size by omega)];simp only[CR];rw[Ak ⟨by omega,by simp[aa];omega⟩,rJ,getElem!_pos _ _ (by simpa[aa] using ht)];simp
    .rw[Fe (by rw[XH,aa];omega),XH,aa,Ib,GF,show G.p+a.length+(t - a.length)=G.p+t by omega];cases cv[G.p+t]? with
     |none=>rfl
     |some x=>simp only[CR];rw[Ad (by simp[aa];omega)]
def rgI(n:Nat):List Int:=(List.range n).map λ(i:Nat)=>(i:Int)
def bD(n:Nat):(rgI n).length=n:=by simp[rgI]
end Go.Ae
namespace Go.Ae
open Go.Proofs
def NT{s:An}{t:List (Ac×Int)}{a:Al}{k:Nat}{o:Aj}(h:RM t a k)(Z:CA s.Set a)(c1:BX s a o=true):BP t o.At=none/\0<=o.Tile:=by
 simp only[BX,AZ,BA] at c1;obtain⟨d1,z,G,_⟩:=c1;have hv:0<=o.Tile:=by
  simp only[Bz,AZ,BA] at z;exact z.1
 refine⟨?_,hv⟩;have O:CO t o.At=Ba a o.At:=congrFun h.at o.At;have h2:=(GS Z.2 o.At).1 G;cases hq:BP t o.At with
 |none=>rfl
 |some v=>
  exfalso;have Q:=h.pos _ (XE hq);simp only[CO,hq,AJ] at O;simp only at Q;omega
def plD:D->Option (Option CH)
 | .ref ds=>(CH.d (ds.take 8)).map some
 | .nilp=>some none
 |_=>none
def plE:Option CH->D
 |some x=> .ref (CH.c x)
 |none=> .nilp
def oP: ∀d b,plD d=some b->Le d (plE b):=by
 intro d b h;unfold plD at h;split at h
 .simp only[DN] at h;obtain⟨x,z,rfl⟩:=h;exact Xd (Hr.trans_take (CH.d_le _ _ z))
 .obtain rfl:=A8 h;exact Le.refl _
 .cases h
def aX(x:CH):plD (.ref (CH.c x))=some (some x):=by
 show (CH.d (CH.c x)).map some=_;rw[CH.d_c];rfl
def Zj(s:AI)(f:Ac->Int)(p:Ac)(t:Int)(d:Nat)(h:0<=f (Bv p d)):CW s f p t (d+1)=CW s f p t d+Gd s t d (f (Bv p d)):=by
 have e:Ds s f p t d=Gd s t d (f (Bv p d)):=Ak h;simp only[CW,e]
def Mw{s:AI}(hs:BK s)(f:Ac->Int)(p:Ac)(t:Int)(d:Nat)(h: ¬(0<=f (Bv p d)/\0<Gd s t d (f (Bv p d)))):CW s f p t (d+1)=CW s f p t d:=by
 have z:=SE hs f p t d;have G: ¬0<Ds s f p t d:=λq=>h ((Im ..).1 q)
 simp only[CW];omega
def EH(s:An)(l:List Aj):Option CH×Int:=if (Br s l).2.2≠0 then (none,(Br s l).2.2) else (some ⟨s,l,(Br s l).1,BH s s.Seed l,Dd s s.Seed l⟩,0)
def Ip{s:An}{l:List Aj}(h:(Br s l).2.2=0):(Br s l).1=Ax s.Seed l/\Cw s l/\FL s=true:=by
 obtain⟨z,G⟩:=oZ h;obtain⟨⟨q1,Q,Z,q4⟩,_⟩:=Gl z;have e:Br s l=Dr s s.Seed l 0:=by
  simp only[Br];rw[Ad (by rw[z];decide),Ad (by omega)]
 rw[e] at h⊢;obtain⟨p1,O⟩:=uL l s.Seed 0 h;exact⟨by rw[p1],⟨q1,Q,Z,q4,O,G⟩,z⟩
def play_.fv(a:An×(List Aj)):(Option CH)×Int:=(EH) (a.1) (a.2)
def play_.row:AO:=vK (b2 (qR An.d_le) (qS Aj.d_le Aj.c_n)) (r2 (RK.mk (plD) (plE) (oP)) rI) (λa=>R0 a.1.Set) play_.fv
def play_.q:=B2 (R:=play_.row) rfl
def Xm:=J @play_.fv.eq_1<|J @PlayI_.q<|J @PlayI_.fv.eq_1<|J @step_.q<|J @step_.fv.eq_1<|J @step_.re.eq_1<|J @catC.q<|J @catC.fv.eq_1<|J @bond_.q<|J @bond_.fv.eq_1 @bond_.re.eq_1
def play_.ok:AS 59 play_.row:=by
 refine vw (tC PlayI_.ok (tC newC.ok (tC step_.ok (tC catC.ok (tC bond_.ok (tC putC.ok tN)))))) Tryz.func59 ?_;intro a O;simp only[Tryz.f59,Option.getD];simp only[ZZ,simprocAttr,Ab,Xm];obtain⟨s,l⟩:=a;simp only at O⊢;refine⟨O,?_⟩;simp only[bN];by_cases c0:(Br s l).2.2=0
 case neg=>
  rw[Ak c0];simp only[EH,plD,GG];rw[Ak c0]
 rw[Ad (λh=>h c0)];have eR:EH s l=(some ⟨s,l,(Br s l).1,BH s s.Seed l,Dd s s.Seed l⟩,0):=by
  simp only[EH];rw[Ad (λh=>h c0)]
 obtain⟨hE,⟨q1,q2,q3,q4,q5,q6⟩,ai⟩:=Ip c0;obtain⟨_,q7,q8⟩:=Gl ai;have ad:=zC (s:=s.Set) (a:=s.Seed) (by rw[q7,q8];rfl);have ah:newC.pre (s,s.Seed):=⟨q1,by simp only;omega,λy hy=>⟨q2.2 y hy,ad.1.2.2.2 y hy⟩⟩;obtain⟨e,he⟩: ∃e,e=(Br s l).1:=⟨_,rfl⟩;rw[eR];simp only[<-he];refine AM.os (s,s.Seed) [] ah (λj=>by simp[Av,hget]) rfl rfl ?_ ?_
 .simp only[ZZ,simprocAttr,Ab,Xm,newC.ca,EJ,An.c,Al.c]
 simp only[ZZ,simprocAttr,Ab,Xm,newC.H1,sub,Cl,Hz];intro _;refine Bc.ren ⟨{k:Nat×List (Ac×Int)×List (Ac×List Int)//k.1<=l.length/\ ∃n,RM k.2.1 (Ax s.Seed (l.take k.1)) n},λk=>⟨[(39,.im (.int .i64 k.1.1)),(38,.im (.int .i64 l.length)),(37,.im (.sl false 3 (l.map Aj.c))),(10,.ptr 7 0),(9,.ptr 2 0),(5,.im (.int .i64 0)),(2,.ptr 0 0)],[(2,(true,.cells 157 [.im (.sl false 2 (s.Set.Glues.map AG.c)),.im (.sl false 2 (s.Set.Tiles.map Tile.c)),.im (.sl false 3 (s.Seed.Tiles.map Ar.c)),.im (.int .i64 s.Temperature),.im (.sl false 3 (l.map Aj.c)),.im (.sl false 3 (e.Tiles.map Ar.c)),.own 8,.own 9])),(9,(true,.arr 2 1 ((Dd s s.Seed (l.take k.1.1)).map Af))),(8,(true,.arr 2 1 ((BH s s.Seed (l.take k.1.1)).map Af))),(7,(true,.cells 115 [.im (.sl false 2 (s.Set.Glues.map AG.c)),.im (.sl false 2 (s.Set.Tiles.map Tile.c)),.im (.sl false 3 (s.Seed.Tiles.map Ar.c)),.im (.int .i64 s.Temperature),.mp 5,.mp 6])),
  (5,(true,.map ⟨true,[.int .i64,.int .i64]⟩ (k.1.2.1.map F3))),(6,(true,.map ⟨true,[.int .i64,.int .i64]⟩ (k.1.2.2.map DG))),(0,(true,.cells 32 ((An.c s).map .im)))],10⟩,λk=>l.length - k.1.1,λk=>⟨by simp[ZG,An.c],by simp⟩,⟨⟨(0,(YQ s s.Seed).Tl,(YQ s s.Seed).Op),by simp only;exact⟨Cx _,_,RM.of q2.1 (λx hx=>(q2.2 x hx).1)⟩⟩,[(9,none),(8,none)],?_⟩,λk=> ?_⟩
 .simp only[Ao];simp only[ZZ,simprocAttr,Ab,Xm,Fh,BH,Dd,Ax,BY]
  try simp
 obtain⟨⟨k,Z,op⟩,ab,n,G⟩:=k;simp only at ab G;simp only[ZZ,simprocAttr,Ab,Xm,sub,AQ];obtain⟨b,hb⟩: ∃b,b=Ax s.Seed (l.take k):=⟨_,rfl⟩;have Q:CA s.Set b:=by rw[hb];exact DI q3 q2 q5 k ab
 rw[<-hb] at G;have aa:=G.at;refine⟨λhk=>⟨hk,λx hx=> ?_⟩,λhk=> ?_⟩
 .obtain⟨cS,cL⟩:=q5 k x hx;rw[<-hb] at cS cL;obtain⟨g1,g2,g3,g4,g5,g6⟩:=D8 cS;refine Bc.old ⟨{d:Nat//d<=4},λd=>⟨[(43,.im (.int .i64 d.1)),(14,.im (.int .i64 (CW s.Set (Ba b) x.At x.Tile d.1))),(13,.im (.int .i64 (CZ s.Set (Ba b) x.At x.Tile d.1))),(12,.ptr 10 0),(39,.im (.int .i64 k)),(38,.im (.int .i64 l.length)),(37,.im (.sl false 3 (l.map Aj.c))),(10,.ptr 7 0),(9,.ptr 2 0),(5,.im (.int .i64 0)),(2,.ptr 0 0)],[(10,(true,.cells 52 ((Aj.c x).map .im))),(2,(true,.cells 157 [.im (.sl false 2 (s.Set.Glues.map AG.c)),.im (.sl false 2 (s.Set.Tiles.map Tile.c)),.im (.sl false 3 (s.Seed.Tiles.map Ar.c)),.im (.int .i64 s.Temperature),.im (.sl false 3 (l.map Aj.c)),.im (.sl false 3 (e.Tiles.map Ar.c)),.own 8,.own 9])),(9,(true,.arr 2 1 ((Dd s s.Seed (l.take k)).map Af))),(8,(true,.arr 2 1 ((BH s s.Seed (l.take k)).map Af))),(7,(true,.cells 115 [.im (.sl false 2 (s.Set.Glues.map AG.c)),.im (.sl false 2 (s.Set.Tiles.map Tile.c)),.im (.sl false 3 (s.Seed.Tiles.map Ar.c)),.im (.int .i64 s.Temperature),.mp 5,.mp 6])),
   (5,(true,.map ⟨true,[.int .i64,.int .i64]⟩ (Z.map F3))),(6,(true,.map ⟨true,[.int .i64,.int .i64]⟩ (op.map DG))),(0,(true,.cells 32 ((An.c s).map .im)))],11⟩,λd=>4 - d.1,λd=>⟨by simp[ZG,An.c,Aj.c],by simp⟩,⟨⟨0,by simp⟩,by simp only[ZZ,simprocAttr,Ab,Xm,sub,CZ,CW]⟩,λd=> ?_⟩
  obtain⟨d,am⟩:=d;simp only[ZZ,simprocAttr,Ab,Xm,sub,AQ,aa];have ac:=gO s.Set (Ba b) x.At x.Tile d;have ak:=Qwy q1 (Ba b) x.At x.Tile d;have aj:=SE q1 (Ba b) x.At x.Tile d;refine⟨λhd=> ?_,λhd=> ?_⟩
  .have z:d<4:=by omega
   have an:=gM z;refine⟨⟨g2,by omega⟩,λc1=>⟨⟨q1,g5,⟨by omega,by omega⟩,ON Q _ c1⟩,λc2=> ?_,λc2=> ?_⟩,λc1=> ?_⟩
   .have ht:Ds s.Set (Ba b) x.At x.Tile d=Gd s.Set x.Tile d (Ba b (Bv x.At d)):=Ak c1;rw[ht] at aj;refine⟨⟨d+1,by omega⟩,by simp only;omega,by rw[AF (by omega) (by omega)];simp only;omega,?_,?_⟩
    .rw[AF (by omega) (by omega),Zj _ _ _ _ _ c1]
    .rw[iP z,oO z ac.1 ac.2,Nx _ _ _ _ _ c1 c2]
   .refine⟨⟨d+1,by omega⟩,by simp only;omega,by rw[AF (by omega) (by omega)];simp only;omega,?_,?_⟩
    .rw[Mw q1 _ _ _ _ (λh=>c2 h.2)]
    .rw[XL _ _ _ _ _ (λh=>c2 h.2)]
   .refine⟨⟨d+1,by omega⟩,by simp only;omega,by rw[AF (by omega) (by omega)];simp only;omega,?_,?_⟩
    .rw[Mw q1 _ _ _ _ (λh=>c1 h.1)]
    .rw[XL _ _ _ _ _ (λh=>c1 h.1)]
  .have z:d=4:=by omega
   subst z;refine⟨by simp[B7,B8,D.one],by rw[Ik,Cp];omega,by simp[B7,B8,D.one],by rw[XM,Cp];omega,?_⟩;have ag:ZQ s.Set (CO Z):=by rw[aa];exact λp hp=>ON Q p hp
   have af:OJ ⟨s,Z,op⟩:=⟨q1,ag,by simp only;omega⟩;obtain⟨f1,f2⟩:=NT G Q cS;refine AM.os (⟨s,Z,op⟩,x.At,x.Tile) [7,5,6] ⟨af,g2,g5⟩ (λj=>Ij _ j) rfl rfl ?_ ?_
   .simp only[ZZ,simprocAttr,Ab,Xm,putC.ca,B0,Cf,Bt,Cl,Hz]
   .simp only[ZZ,simprocAttr,Ab,Xm,putC.H1,IF,sub,Kb,Cl,Hz];refine⟨⟨(k+1,Bu Z x.At x.Tile,Hb s (CO (Bu Z x.At x.Tile)) (Eb op x.At) x.At 4),by simp only;exact⟨by omega,_,by rw[K4 hx,Sc,<-hb];exact G.put f2 f1⟩⟩,[(9,some 14),(8,some 12)],by simp only;omega,?_⟩;simp only[Ao,K4 hx,gG,gH,<-hb];simp only[ZZ,simprocAttr,Ab,Xm,AU,AT];refine⟨by rw[AF (by omega) (by omega)];omega,?_,?_⟩<;>simp[Af]
 .rw[GE (by omega)]
  have:=aX ⟨s,l,e,BH s s.Seed l,Dd s s.Seed l⟩
  simp only[CH.c] at this;rw[this];rfl
def has_.fv(a:Int×Int):Bool:=(DR) (a.1) (a.2)
def has_.row:AO:=vK (b2 qI qI) rB (λa=>0<=a.2/\a.2<=62) has_.fv
def has_.q:=B2 (R:=has_.row) rfl
def has_.ok:AS 117 has_.row:=by
 refine vw tN Tryz.func117 ?_;intro a z;simp only[Tryz.f117,Option.getD];simp only[ZZ,simprocAttr,Ab,has_.fv];exact⟨z.1,rfl⟩
def iA1.fv(a:Aj×Ac):Bool:=(λo p=>decide (o.At=p)) (a.1) (a.2)
def iA1.row:AO:=vK (b2 (qR Aj.d_le) (qP 2 Ac.d_le)) rB (λa=>True) iA1.fv
def iA1.q:=B2 (R:=iA1.row) rfl
def iA1.ok:AS 157 iA1.row:=by
 refine vw tN Tryz.func157 ?_;intro a G;simp only[Tryz.f157,Option.getD];simp only[ZZ,simprocAttr,Ab,iA1.fv];obtain⟨⟨⟨x,y⟩,u⟩,⟨z,w⟩⟩:=a;rw[Xq];simp
def IdxO_.ar:List PK->Option ((List Aj)×Ac)
 |[.val (.sl _ _ O),.val (.fn 157 [] [.ref z])]=>(AX Aj.d O).bind λQ=>(Ac.d (z.take 2)).bind λG=>some (Q,G)
 |_=>none
def IdxO_.ae(a:(List Aj)×Ac):List PK:=[.val (.sl false 3 (a.1.map Aj.c)),.val (.fn 157 [] [.ref (Ac.c a.2)])]
def IdxO_.le: ∀G a,IdxO_.ar G=some a->Cy G (IdxO_.ae a):=by
 intro G a h;unfold IdxO_.ar at h;split at h
 .simp only[F5,AP] at h;obtain⟨Q,h0,O,z,rfl⟩:=h;exact⟨E0 (Ej Aj.d_le _ _ h0) (by simp only[BZ];rintro r ⟨y,_,rfl⟩;rfl),YL ⟨Xd (Hr.trans_take (Ac.d_le _ _ z)),trivial⟩,trivial⟩
 .cases h
def IdxO_.fv(a:(List Aj)×Ac):Int:=(λl p=>Hj l p) (a.1) (a.2)
def IdxO_.row:AO:=FY IdxO_.ar (λa=>True) (λa=>(D.int .i64) (IdxO_.fv a))
def IdxO_.q:=vq IdxO_.row rfl
def IdxO_.ok:AS 156 IdxO_.row:=by
 refine gZ DJ (tC iA1.ok tN) Tryz.func156 rfl (by kernel_rfl) (by kernel_rfl) (ar:=IdxO_.ar) (ae:=IdxO_.ae) IdxO_.le (n:=2) (λ_=>rfl) (by decide) (rc:=(DU)) (re:=(D.int .i64)) (RZ) (f:=IdxO_.fv) ?_;intro a O;simp only[Tryz.f156,Option.getD];simp only[ZZ,simprocAttr,Ab,IdxO_.ae,IdxO_.fv,iA1.q,iA1.fv];intro hn;simp only[Hj];refine Bc.old ⟨{k:Nat//k<=a.1.length/\BB (λo:Aj=>decide (o.At=a.2)) k (a.1.drop k)=BB (λo:Aj=>decide (o.At=a.2)) 0 a.1},λk=>⟨[(8,.im (.int .i64 k.1)),(7,.im (.int .i64 a.1.length)),(6,.im (.sl false 3 (a.1.map Aj.c))),(4,.im (.int .i64 0)),(0,.im (.sl false 3 (a.1.map Aj.c))),(1,.im (.fn 157 [] [.ref (Ac.c a.2)]))],[],0⟩,λk=>a.1.length - k.1,λk=>⟨by simp[ZG],AW _⟩,⟨⟨0,by simp⟩,by simp only[ZZ,simprocAttr,Ab,IdxO_.ae,IdxO_.fv,iA1.q,iA1.fv,sub]⟩,λk=> ?_⟩;obtain⟨k,Q,z⟩:=k;simp only[ZZ,simprocAttr,Ab,IdxO_.ae,IdxO_.fv,iA1.q,iA1.fv,sub,AQ];refine⟨λG=>⟨G,λx Z=> ?_⟩,λG=> ?_⟩
 .rw[Gr Z,BB] at z;refine⟨λh=> ?_,λh=>Jo G hn ⟨by omega,by rw[<-z,Ad (by simpa using h)]⟩⟩;rw[Ak (by simpa using h)] at z;exact z
 .rw[Ei (by omega),BB] at z;exact z
def idxAt_.fv(a:CH×Ac):Int:=(λx p=>Hj x.Seq p) (a.1) (a.2)
def idxAt_.row:AO:=vK (b2 (qP 8 CH.d_le) (qR Ac.d_le)) rI (λa=>True) idxAt_.fv
def idxAt_.q:=B2 (R:=idxAt_.row) rfl
def idxAt_.ok:AS 116 idxAt_.row:=by
 refine vw (tC IdxO_.ok tN) Tryz.func116 ?_;intro a z;simp only[Tryz.f116,Option.getD];simp only[ZZ,simprocAttr,Ab,idxAt_.fv,IdxO_.q,IdxO_.ar,IdxO_.fv]
 skip
def Fy(x:CH):Nat->List (List Int)
 |0=>[]
 |i+1=>Fy x i++[sortI (D5 x.Seq (x.Inputs[i]?.getD 0) ((x.Seq[i]?.map Aj.At).getD ⟨0,0⟩) 4)]
def uM(l:List Aj)(m:Int)(p:Ac): ∀n,(D5 l m p n).length<=n
 |0=>by simp[D5]
 |n+1=>by
  have:=uM l m p n
  simp only[D5,CS]
  split<;>simp<;>omega
def uJ(x:CH): ∀n,(Fy x n).length=n
 |0=>rfl
 |n+1=>by simp only[Fy,CS,uJ x n,SN]
def needs_.fv(a:CH):List (List Int):=(λx=>Fy x x.Seq.length) a
def needs_.row:AO:=vK (b1 (qP 8 CH.d_le)) (rS Xe Sk) (λa=>(∀o∈a.Seq,GZ o.At)/\a.Inputs.length=a.Seq.length/\a.Seq.length<=500) needs_.fv
def needs_.q:=B2 (R:=needs_.row) rfl
def R5:=J @needs_.fv.eq_1<|J @step_.q<|J @step_.fv.eq_1<|J @step_.re.eq_1<|J @idxAt_.q<|J @idxAt_.fv.eq_1<|J @has_.q @has_.fv.eq_1
def needs_.ok:AS 61 needs_.row:=by
 refine vw (tC step_.ok (tC idxAt_.ok (tC has_.ok (tC srI.ok tN)))) Tryz.func61 ?_;intro a G;simp only[Tryz.f61,Option.getD];simp(disch:=omega)only[ZZ,simprocAttr,Ab,R5];obtain⟨h1,h2,h3⟩:=G;intro _;refine Bc.frr ⟨{k:Nat//k<=a.Seq.length},λk=>⟨[(14,.im (.int .i64 k.1)),(13,.im (.int .i64 a.Seq.length)),(12,.im (.sl false 3 (a.Seq.map Aj.c))),(3,.own 3),(0,.ptr 0 0)],[(3,(true,.arrA 37 1 (Bo ((Fy a k.1).map C9)))),(0,(false,.view (CH.c a)))],4⟩,λk=>a.Seq.length - k.1,λk=>⟨by simp[ZG,Jz],by simp⟩,⟨⟨0,by simp⟩,[],[(3,some 2)],?_⟩,λk=> ?_⟩
 .simp only[Ao];simp(disch:=omega)only[ZZ,simprocAttr,Ab,R5,AU,AT,Fy,BY,gN]
  try simp
 obtain⟨k,ac⟩:=k;simp(disch:=omega)only[ZZ,simprocAttr,Ab,R5,sub,AQ];have ad:=uJ a k;refine⟨λhk=>⟨hk,λo ho=> ?_⟩,λhk=> ?_⟩
 .obtain⟨z,hmi⟩: ∃z,a.Inputs[k]? =some z:=⟨_,Bk (by omega)⟩;have aa:=h1 o (Bd ho);refine Bc.ren ⟨{d:Nat//d<=4},λd=>⟨[(19,.im (.int .i64 d.1)),(6,.own 6),(4,.im (.int .i64 k)),(5,.ptr 4 0),(14,.im (.int .i64 k)),(13,.im (.int .i64 a.Seq.length)),(12,.im (.sl false 3 (a.Seq.map Aj.c))),(3,.own 3),(0,.ptr 0 0)],[(6,(true,.arr 2 1 ((D5 a.Seq z o.At d.1).map Af))),(4,(true,.cells 52 ((Aj.c o).map .im))),(3,(true,.arrA 37 1 (Bo ((Fy a k).map C9)))),(0,(false,.view (CH.c a)))],7⟩,λd=>4 - d.1,λd=>⟨by simp[ZG,Jz,Aj.c],by simp⟩,⟨⟨0,by simp⟩,[(6,some 5)],?_⟩,λd=> ?_⟩
  .simp only[Ao];simp(disch:=omega)only[ZZ,simprocAttr,Ab,R5,AU,AT,D5,BY,GC]
   try simp
  obtain⟨d,ab⟩:=d;have af:=uM a.Seq z o.At d;simp(disch:=omega)only[ZZ,simprocAttr,Ab,R5,sub,AQ];refine⟨λhd=>⟨⟨aa,by omega⟩,by omega,λx hx=>⟨by omega,?_⟩⟩,λhd=> ?_⟩
  .obtain rfl:z=x:=A8 (hmi.symm.trans hx);refine⟨λc1=>⟨λO=>⟨by simp[B7,B8,D.one],by omega,⟨d+1,by omega⟩,[(6,some 8)],by simp only;omega,?_⟩,λO=>⟨⟨d+1,by omega⟩,[(6,some 6)],by simp only;omega,?_⟩⟩,λc1=>⟨⟨d+1,by omega⟩,[(6,some 6)],by simp only;omega,?_⟩⟩
   .simp only[Ao];simp(disch:=omega)only[ZZ,simprocAttr,Ab,R5,AU,AT,GC];refine⟨by rw[AF (by omega) (by omega)];omega,?_⟩;simp only[D5];rw[Ak ⟨c1,O⟩];simp[Af]
   .simp only[Ao];simp(disch:=omega)only[ZZ,simprocAttr,Ab,R5,AU,AT,GC];refine⟨by rw[AF (by omega) (by omega)];omega,?_⟩;simp only[D5];rw[Ad (λh=>O h.2),CQ]
   .simp only[Ao];simp(disch:=omega)only[ZZ,simprocAttr,Ab,R5,AU,AT,GC];refine⟨by rw[AF (by omega) (by omega)];omega,?_⟩;simp only[D5];rw[Ad (λh=>c1 h.1),CQ]
  .have Q:d=4:=by omega
   subst Q;refine AM.os (D5 a.Seq z o.At 4) [6] trivial (λj=> ?_) rfl rfl ?_ ?_
   .simp only[Av,srI.H0,hget];by_cases hj:j=0
    .subst hj;simp
    .have:(0==j)=false:=by simpa using λh=>hj h.symm
     rw[this];simp;omega
   .simp(disch:=omega)only[ZZ,simprocAttr,Ab,R5,srI.ca,srI.H0,EJ,Cl]
    try exact⟨rfl,rfl⟩
   simp(disch:=omega)only[ZZ,simprocAttr,Ab,R5,srI.H1,sub,Cl,Hz];refine⟨by simp[AL,AV.bel],by simp[B7,Mk,AV.one],by omega,by rw[Mp,KN];simp[AL,AV.bel],⟨k+1,by omega⟩,[6],[(3,some 8)],by simp only;omega,?_⟩;have e1:Fy a (k+1)=Fy a k++[sortI (D5 a.Seq z o.At 4)]:=by
    simp only[Fy,hmi,ho,CR,AJ]
   simp only[Ao];simp(disch:=omega)only[ZZ,simprocAttr,Ab,R5,AU,AT,Xl,YS,e1,Fg,Bm,BY];rw[AF (by omega) (by omega)];refine⟨by simp,?_⟩
   have:=SF [(3,some 8)] ((Fy a k).map C9++[[D.sl false 1 ((sortI (D5 a.Seq z o.At 4)).map Af)]])
   simpa only[Bo,Fg,Bm,BY] using this
 .have Z:k=a.Seq.length:=by omega
  subst Z;simp(disch:=omega)only[ZZ,simprocAttr,Ab,R5,OK]
def gU{s:An}{l:List Aj}(h:Fz s s.Seed l)(e:Al)(st:List Int):Fy ⟨s,l,e,BH s s.Seed l,st⟩ l.length=Bh s l:=by
 have z: ∀n,n<=l.length->Fy ⟨s,l,e,BH s s.Seed l,st⟩ n=EG l (BH s s.Seed l) n:=by
  intro n;induction n with
  |zero=>intro _;rfl
  |succ n ih=>
   intro hn;obtain⟨o,ho⟩: ∃o,l[n]? =some o:=⟨_,Bk (by omega)⟩;simp only[Fy,EG,ih (by omega),ho,XO s l s.Seed n o ho,CR,AJ];rw[Vo h ho]
 exact z l.length (AW _)
end Go.Ae
namespace Go.Ae
def XJ{m:Nat}: ∀{rows:List (List AV)},m∈BJ rows↔ ∃r∈rows,m∈AE r
 |[]=>by simp[BJ]
 |r::z=>by simp[BJ,XJ (rows:=z)]
section
variable {S1 S':A7}{F:Nat->Prop}
end
end Go.Ae
namespace Go.Ae
open Go.Proofs
def Ih(out own:List Int):Nat->Int
 |0=>0
 |j+1=>max (Ih out own j) ((out[(own[j]?.getD 0).toNat]?).getD 0)
def AB(z:List (List Int)):Nat->List Int
 |0=>[]
 |i+1=>AB z i++[Ih (AB z i) (z[i]?.getD []) (z[i]?.getD []).length+1]
def KP{out own:List Int}{B:Int}(h: ∀x∈out,0<=x/\x<=B)(z:0<=B): ∀j,0<=Ih out own j/\Ih out own j<=B
 |0=>⟨Gy _,z⟩
 |j+1=>by
  have G:=KP (own:=own) h z j;have O:0<=(out[(own[j]?.getD 0).toNat]?).getD 0/\(out[(own[j]?.getD 0).toNat]?).getD 0<=B:=by
   cases hq:out[(own[j]?.getD 0).toNat]? with
   |none=>exact⟨Gy _,z⟩
   |some y=>exact h y (Bd hq)
  simp only[Ih];omega
def Ek(z:List (List Int)): ∀i,(AB z i).length=i
 |0=>rfl
 |i+1=>by simp only[AB,CS,Ek z i,SN]
def GR(z:List (List Int)): ∀i,∀x∈AB z i,0<=x/\x<=(i:Int)
 |0,x,h=>by cases h
 |i+1,x,h=>by
  simp only[AB,B5,BN] at h;rcases h with h|rfl
  .have:=GR z i x h
   omega
  .have:=KP (own:=z[i]?.getD []) (GR z i) (by omega) (z[i]?.getD []).length
   omega
def Gm(z:List (List Int)):Prop:=z.length<=500/\ ∀(i:Nat) (own:List Int),z[i]? =some own-> ∀k∈own,0<=k/\k<(i:Int)
def gL(l:List Aj)(Bl:List Int): ∀n i,i<n->(EG l Bl n)[i]? =some (GI l (Bl[i]?.getD 0) ((l[i]?.map Aj.At).getD ⟨0,0⟩) i)
 |0,i,h=>by omega
 |n+1,i,h=>by
  simp only[EG];by_cases z:i<n
  .rw[Eh (by rw[E4];exact z)];exact gL l Bl n i z
  .have:i=n:=by omega
   subst this;rw[Fe (by rw[E4];omega),E4]
   try simp
def H7{s:An}{l:List Aj}(hl:l.length<=500):Gm (Bh s l):=by
 have Q:(Bh s l).length=l.length:=E4 ..;refine⟨by omega,λi own z k O=> ?_⟩;have G:i<l.length:=by have:=(B9.1 z).1;omega
 simp only[Bh] at z;rw[gL l _ l.length i G] at z;obtain rfl:=A8 z;rw[Io (l:=l) i (by omega)] at O;obtain⟨j,d,Z,_,h3,_⟩:=O;omega
def Ve(a b:Int):Et a b=max a b:=by simp only[Et];omega
def l12Levels.fv(a:(List (List Int))):List Int:=(λn=>AB n n.length) a
def l12Levels.row:AO:=vK (b1 (qS Xe Sk)) (rS Ez Dy) (λa=>Gm a) l12Levels.fv
def l12Levels.q:=B2 (R:=l12Levels.row) rfl
def rE:=J @l12Levels.fv.eq_1 (J @l00Max.q @l00Max.fv.eq_1)
def l12Levels.ok:AS 63 l12Levels.row:=by
 refine vw (tC l00Max.ok tN) Tryz.func63 ?_;intro a G;simp only[Tryz.f63,Option.getD];simp(disch:=omega)only[ZZ,simprocAttr,Ab,rE];obtain⟨h1,h2⟩:=G;refine Bc.ren ⟨{k:Nat//k<=a.length},λk=>⟨[(4,.im (.int .i64 k.1)),(3,.own 2),(0,.im (.sl false 1 (a.map C9)))],[(2,(true,.arr 2 1 ((AB a k.1).map Af)))],3⟩,λk=>a.length - k.1,λk=>⟨by simp[ZG],by simp⟩,⟨⟨0,by simp⟩,[(2,some 1)],?_⟩,λk=> ?_⟩
 .simp only[Ao];simp(disch:=omega)only[ZZ,simprocAttr,Ab,rE,AU,AT,AB,BY]
  try simp
 obtain⟨k,ag⟩:=k;have ad:=Ek a k;have ac:=GR a k;simp(disch:=omega)only[ZZ,simprocAttr,Ab,rE,sub,AQ];intro _;refine⟨λQ=> ?_,λQ=> ?_⟩
 .obtain⟨own,hown⟩: ∃own,a[k]? =some own:=⟨_,Bk Q⟩;have Z:=h2 k own hown;refine Bc.old ⟨{j:Nat//j<=own.length},λj=>⟨[(6,.im (.int .i64 j.1)),(5,.im (.int .i64 (Ih (AB a k) own j.1))),(4,.im (.int .i64 k)),(3,.own 2),(0,.im (.sl false 1 (a.map C9)))],[(2,(true,.arr 2 1 ((AB a k).map Af)))],3⟩,λj=>own.length - j.1,λj=>⟨by simp[ZG],by simp⟩,⟨⟨0,by simp⟩,by simp(disch:=omega)only[ZZ,simprocAttr,Ab,rE,sub,Ih]⟩,λj=> ?_⟩;obtain⟨j,af⟩:=j;simp(disch:=omega)only[ZZ,simprocAttr,Ab,rE,sub,AQ,ad];have ah:=KP (own:=own) ac (by omega) j;refine⟨Q,λx hx ai=> ?_⟩;obtain rfl:own=x:=A8 (hown.symm.trans hx);refine⟨λhj=>⟨Q,λy hy=> ?_⟩,λhj=> ?_⟩
  .obtain rfl:own=y:=A8 (hown.symm.trans hy);refine⟨hj,λz hz=> ?_⟩;have O:=Z z (Bd hz);refine⟨O.1,O.2,by omega,λv hv=> ?_⟩;refine⟨⟨j+1,by omega⟩,by simp only;omega,by rw[AF (by omega) (by omega)];simp only;omega,?_⟩;simp only[Ih,hz,AJ,hv,Ve]
  .have aa:j=own.length:=by omega
   subst aa;refine⟨by simp[B7,B8,D.one],by omega,⟨k+1,by omega⟩,[(2,some 4)],by simp only;omega,?_⟩;simp only[Ao,AB,hown,AJ];simp(disch:=omega)only[ZZ,simprocAttr,Ab,rE,AU,AT];refine⟨by rw[AF (by omega) (by omega)];omega,?_⟩;rw[AF (by omega) (by omega)];simp[Af]
 .have ab:k=a.length:=by omega
  subst ab;rfl
def GQ(s:An)(l:List Aj):List Int×Int:=if (Br s l).2.2≠0 then ([],(Br s l).2.2) else (AB (Bh s l) l.length,0)
def LevS_.fv(a:An×(List Aj)):(List Int)×Int:=(GQ) (a.1) (a.2)
def LevS_.row:AO:=vK (b2 (qR An.d_le) (qS Aj.d_le Aj.c_n)) (r2 (rS Ez Dy) rI) (λa=>True) LevS_.fv
def LevS_.q:=B2 (R:=LevS_.row) rfl
def LevS_.ok:AS 22 LevS_.row:=by
 refine vw (tC l10Asked.ok (tC l12Needs.ok (tC l12Levels.ok tN))) Tryz.func22 ?_;intro a G;simp only[Tryz.f22,Option.getD];simp(disch:=omega)only[ZZ,simprocAttr,Ab,LevS_.fv,l10Asked.q,l10Asked.fv,l12Needs.q,l12Needs.fv,l12Levels.q,l12Levels.fv];obtain⟨s,l⟩:=a;simp only at G⊢;by_cases c0:(Br s l).2.2=0
 case neg=>
  rw[Ak c0];simp only[GQ];rw[Ak c0]
 rw[Ad (λh=>h c0)];obtain⟨_,hp,_⟩:=Ip c0;have z:(Bh s l).length=l.length:=E4 ..;refine⟨hp,H7 hp.2.2.2.2.2,?_⟩;simp only[GQ];rw[Ad (λh=>h c0),z]
def levC.ca(a:List (List Int)):List AV:=[.im (.sl false 1 (a.map C9))]
def levC.H1(a:List (List Int)):Au:=[(1,(true,.arr 2 1 ((AB a a.length).map Af)))]
def levC.row:AO:=AM levC.ca (λ_=>[]) 0 Gm (λ_=>false) (λ_=> .own 1) levC.H1 2
def EZ(a:List (List Int))(i:Nat)(v:Int):List Int:=AB a i++v::List.replicate (a.length - i - 1) 0
def JR(a:List (List Int))(i:Nat):List Int:=AB a i++List.replicate (a.length - i) 0
def aC{a:List (List Int)}{i:Nat}(h:i<a.length):JR a i=EZ a i 0:=by
 rw[JR,EZ,show a.length - i=(a.length - i - 1)+1 by omega,Zew];simp
def Qf{a:List (List Int)}{i:Nat}(h:i<a.length)(v:Int):(EZ a i v).length=a.length:=by simp[EZ,Ek];omega
def uP(a:List (List Int))(i:Nat)(v:Int):(EZ a i v)[i]? =some v:=by
 rw[EZ,Fe (by rw[Ek];omega),Ek];simp
def UO{a:List (List Int)}{i j:Nat}(h:j<i)(v:Int):(EZ a i v)[j]? =(AB a i)[j]? :=by
 rw[EZ,Eh (by rw[Ek];omega)]
def uI(a:List (List Int))(i:Nat)(v w:Int):(EZ a i v).set i w=EZ a i w:=by
 rw[EZ,Zei _ _ (by rw[Ek];omega),Ek,I6,sC,EZ]
def Qe{a:List (List Int)}{i:Nat}{own:List Int}(h:a[i]? =some own):EZ a i (Ih (AB a i) own own.length+1)=JR a (i+1):=by
 have z:=(B9.1 h).1;simp only[EZ,JR,AB,h,AJ,HY,Zej];rw[show a.length - (i+1)=a.length - i - 1 by omega]
def UN(a:List (List Int)):JR a a.length=AB a a.length:=by simp[JR]
def uF(l:List Int)(i:Nat)(x:Int):(l.map Af).set i [.int .i64 x]=(l.set i x).map Af:=by rw[SR];rfl
def levC.ok:AS 60 levC.row:=by
 refine ow tN Tryz.func60 (exB:=λj=>j==1) (R:=λ_ r=>r= .own 1) (λ_=>rfl)
  (λa=>by simp[levC.ca,levC.H1,AL,AV.bel,AH,Cz,Df,Ah.nms,AE,AV.nms,Av,hget]) (λa p hp=> ?_) (λa r h=>by subst h;exact ED.refl _) ?_
 rotate_left
 intro a Q;simp only[Tryz.f60,Option.getD,levC.ca,levC.H1];simp(disch:=omega)only[ZZ,simprocAttr,Ab,Az,levC.ca,levC.H1];obtain⟨h1,h2⟩:=Q;intro _;refine⟨by omega,λ_=> ?_⟩;refine Bc.old ⟨{k:Nat//k<=a.length},λk=>⟨[(13,.im (.int .i64 k.1)),(12,.im (.int .i64 a.length)),(11,.im (.sl false 1 (a.map C9))),(3,.own 1)],[(1,(true,.arr 2 1 ((JR a k.1).map Af)))],2⟩,λk=>a.length - k.1,λk=>⟨by simp[ZG],by simp⟩,⟨⟨0,by simp⟩,by simp(disch:=omega)only[ZZ,simprocAttr,Ab,Az,levC.ca,levC.H1,sub,JR,AB];simp[Af]⟩,λk=> ?_⟩;obtain⟨k,ai⟩:=k;have ad:=GR a k;have aj:=Ek a k;simp(disch:=omega)only[ZZ,simprocAttr,Ab,Az,levC.ca,levC.H1,sub,AQ];refine⟨λG=>⟨G,λown O ak=> ?_⟩,λG=> ?_⟩
 .have aa:=h2 k own O;rw[aC G];refine Bc.old ⟨{j:Nat//j<=own.length},λj=>⟨[(20,.im (.int .i64 j.1)),(19,.im (.int .i64 own.length)),(18,.im (.sl false 1 (own.map Af))),(4,.im (.int .i64 k)),(13,.im (.int .i64 k)),(12,.im (.int .i64 a.length)),(11,.im (.sl false 1 (a.map C9))),(3,.own 1)],[(1,(true,.arr 2 1 ((EZ a k (Ih (AB a k) own j.1)).map Af)))],2⟩,λj=>own.length - j.1,λj=>⟨by simp[ZG],by simp⟩,⟨⟨0,by simp⟩,by simp(disch:=omega)only[ZZ,simprocAttr,Ab,Az,levC.ca,levC.H1,sub,Ih]⟩,λj=> ?_⟩;obtain⟨j,ah⟩:=j;have am:=KP (own:=own) ad (by omega) j;have af:=Qf G (Ih (AB a k) own j);simp(disch:=omega)only[ZZ,simprocAttr,Ab,Az,levC.ca,levC.H1,sub,AQ,af];refine⟨λhj=>⟨hj,λx hx=>⟨G,G,λy Z=> ?_⟩⟩,λhj=>⟨G,G,λy Z=>⟨G,G,λy' _=> ?_⟩⟩⟩
  .have ag:=aa x (Bd hx);rw[uP] at Z;obtain rfl:=A8 Z;refine⟨ag.1,by omega,by omega,λz hz=>⟨G,G,λy' _=> ?_⟩⟩;rw[UO (by omega)] at hz;refine⟨⟨j+1,by omega⟩,by simp only;omega,by rw[AF (by omega) (by omega)];simp only;omega,?_⟩;rw[uF,uI];simp only[Ih,hx,AJ,hz]
  .have ab:j=own.length:=by omega
   subst ab;rw[uP] at Z;obtain rfl:=A8 Z;refine⟨⟨k+1,by omega⟩,by simp only;omega,by rw[AF (by omega) (by omega)];simp only;omega,?_⟩;rw[AF (by omega) (by omega),uF,uI,Qe O]
 .have ac:k=a.length:=by omega
  subst ac;rw[UN]
  skip
 simp[levC.H1] at hp;subst hp;exact .inr ⟨by omega,by omega,rfl,rfl⟩
def levI.ca(a:An×List Aj):List AV:=[.im (.agg (An.c a.1)),.im (.sl false 3 (a.2.map Aj.c))]
def levI.H1(a:An×List Aj):Au:=[(0,(true,.arr 2 1 ((GQ a.1 a.2).1.map Af)))]
def levI.r0(a:An×List Aj):AV:= .tup [.own 0,.im (.int .i64 (GQ a.1 a.2).2)]
def levI.row:AO:=AM levI.ca (λ_=>[]) 0 (λa=>R0 a.1.Set) (λ_=>false) levI.r0 levI.H1 20
def lO:=J @play_.q<|J @play_.fv.eq_1<|J @needs_.q @needs_.fv.eq_1
def levI.ok:AS 21 levI.row:=by
 refine VA (tC play_.ok (tC needs_.ok (tC levC.ok tN))) Tryz.func21 (exB:=λj=>j==0) (R:=λa r=>r=levI.r0 a) (λ_=>rfl)
  (λa=>by simp[levI.ca,levI.H1,An.c,AL,AV.bel,AH,Cz,Df,Ah.nms,AE,AV.nms,Av,hget]) (λa p hp=> ?_) (λa r h=>by subst h;exact ED.refl _) ?_
 rotate_left
 intro a z;simp only[Tryz.f21,Option.getD,levI.ca,levI.H1,An.c];simp(disch:=omega)only[ZZ,simprocAttr,Ab,lO,AR,Az,levI.ca,levI.H1,An.c];obtain⟨s,l⟩:=a;simp only at z⊢;refine⟨z,?_⟩;by_cases c0:(Br s l).2.2=0
 case neg=>
  have Q:EH s l=(none,(Br s l).2.2):=by simp only[EH];rw[Ak c0]
  have G:GQ s l=([],(Br s l).2.2):=by simp only[GQ];rw[Ak c0]
  simp only[Q];rw[Ak c0];refine⟨[],[(0,some 2)],⟨[(4,.own 0),(5,.im (.int .i64 (Br s l).2.2))],levI.H1 (s,l),1⟩,?_,by simp[levI.H1,ZG],by simp,?_⟩
  .simp only[Ao,levI.H1,G];simp(disch:=omega)only[ZZ,simprocAttr,Ab,lO,AR,Az,levI.ca,levI.H1,An.c,AU,AT,BY]
   try simp
  .simp(disch:=omega)only[ZZ,simprocAttr,Ab,lO,AR,Az,levI.ca,levI.H1,An.c,levI.r0,G]
 have Q:EH s l=(some ⟨s,l,(Br s l).1,BH s s.Seed l,Dd s s.Seed l⟩,0):=by
  simp only[EH];rw[Ad (λh=>h c0)]
 have G:GQ s l=(AB (Bh s l) l.length,0):=by simp only[GQ];rw[Ad (λh=>h c0)]
 obtain⟨_,hp,_⟩:=Ip c0;simp only[Q];rw[Ad (by simp)];have Z: ∀x:CH,(kP CH.d 8 (Gk (plE (some x))))=some x:=λx=>CH.d_c x
 simp only[Z,GG,Fj];have O:(Bh s l).length=l.length:=E4 ..;refine⟨⟨λo ho=> ?_,Ik ..,hp.2.2.2.2.2⟩,?_⟩
 .obtain⟨k,hk⟩:=EK.1 ho;exact (D8 (hp.2.2.2.2.1 k o hk).1).2.1
 simp only[gU hp.2.2.2.2.1];refine AM.os (Bh s l) [] (H7 hp.2.2.2.2.2) (λj=>by simp[Av,hget]) rfl rfl ?_ ?_
 .simp(disch:=omega)only[ZZ,simprocAttr,Ab,lO,AR,Az,levI.ca,levI.H1,An.c,levC.ca,EJ]
 simp(disch:=omega)only[ZZ,simprocAttr,Ab,lO,AR,Az,levI.ca,levI.H1,An.c,levC.H1,sub,Cl,Hz];refine⟨[],[(0,some 3)],⟨[(4,.own 0),(5,.im (.int .i64 0))],levI.H1 (s,l),1⟩,?_,by simp[levI.H1,ZG],by simp,?_⟩
 .simp only[Ao,levI.H1,G];simp(disch:=omega)only[ZZ,simprocAttr,Ab,lO,AR,Az,levI.ca,levI.H1,An.c,AU,AT,O]
  try simp
 .simp(disch:=omega)only[ZZ,simprocAttr,Ab,lO,AR,Az,levI.ca,levI.H1,An.c,levI.r0,G]
 simp[levI.H1] at hp;subst hp;exact .inr ⟨by omega,by omega,rfl,rfl⟩
def tlF(a:List Tile)(i:Nat):Aq:=(true,.arr 2 1 (((a[i]?.map Tile.Sides).getD []).map Af))
def Qu(h:Nat->Option Aq)(F:AV->Option AV)(b:Nat)(f:Nat->Aq)(n:Nat)(H: ∀i,i<n->h (b+i)=some (f i))(G: ∀i,i<n->DQ F (f i).2=some (f i).2):GB h F (B4 b n f):=by
 have: ∀(l:List Nat),(∀i∈l,i<n)->GB h F (l.map λi=>(b+i,f i)):=by
  intro l;induction l with
  |nil=>intro _;simp[GB]
  |cons i r ih=>
   intro z;simp only[Bm,GB];refine⟨?_,ih (λj Q=>z j (Cs _ Q))⟩;rw[H i (z i (Ct ..))];exact⟨rfl,G i (z i (Ct ..))⟩
 exact this _ (λi O=>CX.1 O)
def toLX.pre(a:List Tile):Prop:=a.length<=1048576/\ ∀x∈a,x.Sides.length<=1073741824
def tlB(b:Nat)(a:List Tile):List (List AV):=(List.range a.length).map λi=>[.im (.str ((a[i]?.map Tile.Name).getD ByteArray.empty)),.own (b+i)]
def uC(k:List Nat)(nx cnt:Nat): ∀(H:Au),(∀p∈H,nx<=p.1/\p.1<nx+cnt)->Jx k nx cnt H=true
 |[],_=>rfl
 |(i,e)::r,h=>by
  have z:=h (i,e) (Ct ..);simp only at z;simp only[Jx,OM,uC k nx cnt r (λp hp=>h p (Cs _ hp)),Er,J3,AZ,Ln,FG];exact .inl z
def nN{lo cnt m:Nat}(G:lo<=m)(O:m<cnt):(Qc [] 0 cnt λj=>decide (lo<=j)) m=some m:=by
 have z:(decide (lo<=m) && (Nat.ble 0 m && Nat.blt m (0+cnt)))=true:=by
  simp only[AZ,BA,Ln,FG];omega
 simp only[Qc,Av,hget,eQ,Zeo,z,CJ]
def toSX.pre(a:AI):Prop:=a.Glues.length<=1073741824/\toLX.pre a.Tiles
def toYX.pre(a:An):Prop:=toSX.pre a.Set/\a.Seed.Tiles.length<=1073741824
def f6b_.fv(a:(List Int)):Bool:=(λl=>decide (4096<(l.length:Int))) a
def f6b_.row:AO:=vK (b1 (qS Yp Yw)) rB (λa=>True) f6b_.fv
def f6b_.q:=B2 (R:=f6b_.row) rfl
def f6b_.ok:AS 17 f6b_.row:=by
 refine vw tN Tryz.func17 ?_;intro a z;simp only[Tryz.f17,Option.getD];simp(disch:=omega)only[ZZ,simprocAttr,Ab,f6b_.fv];exact λ_=>trivial
def f6i_.fv(a:(List Int)×(List Int)):Bool:=(λa b=>decide (a=b)) (a.1) (a.2)
def f6i_.row:AO:=H5 (b2 (qS Ez Dy) (qS Ez Dy)) rB (λa=>True) f6i_.fv
def f6i_.q:=FE (R:=f6i_.row) rfl
def f6i_.ok:AS 23 f6i_.row:=by
 refine LX tN Tryz.func23 ?_;intro a Z;simp only[Tryz.f23,Option.getD];simp(disch:=omega)only[ZZ,simprocAttr,Ab,f6i_.fv,C8,D.sc,D.scs,Cm,Be];intro h1 h2;simp only[AQ];refine⟨λG=> ?_,λG=> ?_⟩
 .have:a.1≠a.2:=λh=>G (by rw[h])
  simp[this]
 have G:a.1.length=a.2.length:=by omega
 refine Bc.old ⟨{k:Nat//k<=a.1.length/\a.1.take k=a.2.take k},λk=>⟨[(5,.im (.int .i64 k.1)),(4,.im (.bool false)),(0,.im (.sl false 1 (a.1.map Af))),(1,.im (.sl false 1 (a.2.map Af)))],[],0⟩,λk=>a.1.length - k.1,λk=>⟨by simp[ZG],AW _⟩,⟨⟨0,by simp⟩,by simp(disch:=omega)only[ZZ,simprocAttr,Ab,f6i_.fv,C8,D.sc,D.scs,Cm,Be,sub]⟩,λk=> ?_⟩;obtain⟨k,Q,z⟩:=k;simp(disch:=omega)only[ZZ,simprocAttr,Ab,f6i_.fv,C8,D.sc,D.scs,Cm,Be,sub,AQ];intro _;refine⟨λO=>⟨O,λx hx=>⟨by omega,λy hy=> ?_⟩⟩,λO=> ?_⟩
 .obtain⟨g1,g2⟩:=Qew G Q z hx hy;exact⟨λh=>by simp[g2 h],λh=>Jo O h1 ⟨by omega,g1 (by simpa using h)⟩⟩
 .rw[GE (by omega),GE (by omega)] at z;simp[z]
def smA_.fv(a:Al×Al):Bool:=(λa b=>decide (a=b)) (a.1) (a.2)
def smA_.row:AO:=vK (b2 (qR Al.d_le) (qR Al.d_le)) rB (λa=>True) smA_.fv
def smA_.q:=B2 (R:=smA_.row) rfl
def smA_.ok:AS 16 smA_.row:=by
 refine vw (tC l03Same.ok tN) Tryz.func16 ?_;intro a z;simp only[Tryz.f16,Option.getD];simp(disch:=omega)only[ZZ,simprocAttr,Ab,smA_.fv,l03Same.q,l03Same.fv]
def G3{A:Type}(l:List A):Option (List A):=if l=[] then none else some l
abbrev DZ(s:An)(f:Ac->Int)(q:Ac):List Int:=Gg s f q s.Set.Tiles.length
def O6(s:An)(f:Ac->Int)(op:List (Ac×List Int)):Prop:=(op.map Prod.fst).Nodup/\ ∀q,BP op q=G3 (DZ s f q)
def XW{s:An}{f:Ac->Int}{q:Ac}(h: ∀k:Int,HL s f q k=false): ∀n,Gg s f q n=[]
 |0=>rfl
 |n+1=>by simp only[Gg,XW h n,h,Fs];rfl
def vU{s:An}{f:Ac->Int}{q:Ac}(h:0<=f q)(n:Nat):Gg s f q n=[]:=
 XW (λk=>by simp only[HL];rw[Zeb (show ¬f q<0 by omega)];simp) n
def vD{s:AI}{f:Ac->Int}{q:Ac}{t:Int}(h: ∀d:Nat,d<4->f (Bv q d)<0): ∀k,k<=4->CW s f q t k=0
 |0,_=>rfl
 |k+1,z=>by
  have:=h k (by omega)
  simp only[CW,vD h k (by omega),Ds];rw[Ad (by omega)];rfl
def iF{s:An}{f:Ac->Int}{q:Ac}(z:1<=s.Temperature)(h: ∀d:Nat,d<4->f (Bv q d)<0)(n:Nat):Gg s f q n=[]:=
 XW (λk=>by simp only[HL,vD h 4 (AW _)];rw[Zeb (show ¬s.Temperature<=0 by omega)];simp) n
def vR{s:AI}{f g:Ac->Int}{q:Ac}{t:Int}(h: ∀d:Nat,d<4->f (Bv q d)=g (Bv q d)): ∀k,k<=4->CW s f q t k=CW s g q t k
 |0,_=>rfl
 |k+1,z=>by simp only[CW,vR h k (by omega),Ds,h k (by omega)]
def vQ{s:An}{f g:Ac->Int}{q:Ac}(h0:f q=g q)(h: ∀d:Nat,d<4->f (Bv q d)=g (Bv q d)): ∀n,Gg s f q n=Gg s g q n
 |0=>rfl
 |n+1=>by
  have e:HL s f q n=HL s g q n:=by simp only[HL,h0,vR h 4 (AW _)]
  simp only[Gg,vQ h0 h n,e]
def LC{β:Type}{p:Ac}: ∀{l:List (Ac×β)},p∉l.map Prod.fst->BP l p=none
 |[],_=>rfl
 |(k,v)::r,h=>by
  simp only[Bm,BO,Zf] at h;simp only[BP];rw[Ad h.1,LC h.2]
def vB{β:Type}{p:Ac}: ∀{l:List (Ac×β)},p∈l.map Prod.fst-> ∃v,BP l p=some v/\(p,v)∈l
 |[],h=>by simp at h
 |(k,v)::r,h=>by
  simp only[BP];by_cases c:p=k
  .rw[Ak c,c];exact⟨v,rfl,Ct ..⟩
  .rw[Ad c];obtain⟨w,z,G⟩:=vB (l:=r) (by simpa[c] using h);exact⟨w,z,Cs _ G⟩
def nR{β:Type}{p:Ac}{l:List (Ac×β)}:p∈l.map Prod.fst↔BP l p≠none:=by
 constructor
 .intro h;obtain⟨v,z,_⟩:=vB h;rw[z];simp
 .intro h;apply Hc;intro G;exact h (LC G)
def uZ{β:Type}{p q:Ac}: ∀{l:List (Ac×β)},q∈(Eb l p).map Prod.fst->q∈l.map Prod.fst
 |[],h=>by simp[Eb] at h
 |(k,v)::r,h=>by
  simp only[Eb] at h;split at h
  .exact Cs _ h
  .simp only[Bm,BO] at h⊢;rcases h with h|h
   .exact .inl h
   .exact .inr (uZ h)
def iN{β:Type}{p:Ac}: ∀{l:List (Ac×β)},(l.map Prod.fst).Nodup->((Eb l p).map Prod.fst).Nodup
 |[],h=>h
 |(k,v)::r,h=>by
  simp only[Bm,Jb] at h;simp only[Eb];split
  .exact h.2
  .simp only[Bm,Jb];exact⟨λz=>h.1 (uZ z),iN h.2⟩
def iL{β:Type}{p:Ac}(q:Ac): ∀{l:List (Ac×β)},(l.map Prod.fst).Nodup->BP (Eb l p) q=if q=p then none else BP l q
 |[],_=>by simp[Eb,BP]
 |(k,v)::r,h=>by
  simp only[Bm,Jb] at h;simp only[Eb];by_cases c:p=k
  .rw[Ak c];by_cases e:q=p
   .rw[Ak e,e,c];exact LC h.1
   .rw[Ad e];simp only[BP];rw[Ad (λz=>e (z.trans c.symm))]
  .rw[Ad c];simp only[BP];by_cases e:q=k
   .rw[Ak e,Ak e,Ad (λz=>c (z.symm.trans e))]
   .rw[Ad e,Ad e,iL q h.2]
def Oz{β:Type}{p q:Ac}{v:β}: ∀{l:List (Ac×β)},q∈(Bu l p v).map Prod.fst↔q=p\/q∈l.map Prod.fst
 |[]=>by simp[Bu]
 |(k,w)::r=>by
  simp only[Bu];split
  .rename_i c;subst c;simp
  .simp only[Bm,BO,Oz (l:=r)];constructor
   .rintro (h|h|h)
    .exact .inr (.inl h)
    .exact .inl h
    .exact .inr (.inr h)
   .rintro (h|h|h)
    .exact .inr (.inl h)
    .exact .inl h
    .exact .inr (.inr h)
def vA{β:Type}{p:Ac}{v:β}: ∀{l:List (Ac×β)},(l.map Prod.fst).Nodup->((Bu l p v).map Prod.fst).Nodup
 |[],_=>by simp[Bu]
 |(k,w)::r,h=>by
  simp only[Bm,Jb] at h;simp only[Bu];split
  .rename_i c;subst c;simp only[Bm,Jb];exact h
  .rename_i c;simp only[Bm,Jb];refine⟨λz=> ?_,vA h.2⟩;rcases Oz.1 z with e|e
   .exact c e.symm
   .exact h.1 e
def UX{s:An}{f:Ac->Int}{op:List (Ac×List Int)}{q:Ac}(h:(op.map Prod.fst).Nodup):((KR s f op q).map Prod.fst).Nodup:=by
 simp only[KR];split
 .exact iN h
 .exact vA h
def UW{s:An}{f:Ac->Int}{op:List (Ac×List Int)}{p:Ac}(h:(op.map Prod.fst).Nodup)(q:Ac):BP (KR s f op p) q=if q=p then G3 (DZ s f q) else BP op q:=by
 simp only[KR];by_cases c:Gg s f p s.Set.Tiles.length=[]
 .rw[Ak c,iL q h];by_cases e:q=p
  .subst e;rw[Ak rfl,Ak rfl,G3,Ak c]
  .rw[Ad e,Ad e]
 .rw[Ad c,rC];by_cases e:q=p
  .subst e;rw[Ak rfl,Ak rfl,G3,Ad c]
  .rw[Ad e,Ad e]
def Yf{s:An}{f:Ac->Int}{op:List (Ac×List Int)}{p:Ac}(h:(op.map Prod.fst).Nodup): ∀k,((Hb s f op p k).map Prod.fst).Nodup
 |0=>h
 |k+1=>UX (Yf h k)
def KQ(p q:Ac):Prop:= ∃d:Nat,d<4/\Bv p d=q
def vL{s:An}{f:Ac->Int}{op:List (Ac×List Int)}{p:Ac}(h:(op.map Prod.fst).Nodup)(q:Ac): ∀k,(∀d:Nat,d<k->Bv p d≠q)/\BP (Hb s f op p k) q=BP op q\/(∃d:Nat,d<k/\Bv p d=q)/\BP (Hb s f op p k) q=G3 (DZ s f q)
 |0=> .inl ⟨λd hd=>absurd hd (by omega),rfl⟩
 |k+1=>by
  have ih:=vL (s:=s) (f:=f) (p:=p) h q k;simp only[Hb,UW (Yf h k)];by_cases c:q=Bv p k
  .rw[Ak c];exact .inr ⟨⟨k,by omega,c.symm⟩,rfl⟩
  .rw[Ad c];rcases ih with ⟨G,z⟩|⟨⟨d,G,z⟩,O⟩
   .refine .inl ⟨λd hd=> ?_,z⟩;by_cases e:d=k
    .subst e;exact λh=>c h.symm
    .exact G d (by omega)
   .exact .inr ⟨⟨d,by omega,z⟩,O⟩
def fL{s:An}{f:Ac->Int}{op:List (Ac×List Int)}{p:Ac}(h:(op.map Prod.fst).Nodup)(q:Ac):(¬KQ p q/\BP (Hb s f op p 4) q=BP op q)\/(KQ p q/\BP (Hb s f op p 4) q=G3 (DZ s f q)):=by
 rcases vL (s:=s) (f:=f) h q 4 with ⟨z,G⟩|h
 .exact .inl ⟨λ⟨d,hd,e⟩=>z d hd e,G⟩
 .exact .inr h
def Rd(p:Ac){d:Nat}(h:d<4):Bv (Bv p d) ((d+2) % 4:Nat)=p:=by
 rcases (by omega:d=0\/d=1\/d=2\/d=3) with rfl|rfl|rfl|rfl<;>simp[Bv]<;>omega
def Yd{p q:Ac}(h:KQ p q):KQ q p:=by
 obtain⟨d,hd,rfl⟩:=h;exact⟨(d+2) % 4,by omega,Rd p hd⟩
def iA{s:An}{f:Ac->Int}(q:Ac): ∀(l:List Ar) (op:List (Ac×List Int)),(op.map Prod.fst).Nodup->
 ((l.foldl (λo x=>Hb s f o x.At 4) op).map Prod.fst).Nodup/\((∀x∈l,¬KQ x.At q)/\BP (l.foldl (λo x=>Hb s f o x.At 4) op) q=BP op q\/(∃x∈l,KQ x.At q)/\BP (l.foldl (λo x=>Hb s f o x.At 4) op) q=G3 (DZ s f q))
 |[],op,h=>⟨h,.inl ⟨by simp,rfl⟩⟩
 |x::r,op,h=>by
  simp only[mH];obtain⟨G,O⟩:=iA (s:=s) (f:=f) q r (Hb s f op x.At 4) (Yf h 4);refine⟨G,?_⟩;rcases O with ⟨a,b⟩|⟨⟨y,z,a⟩,b⟩
  .rcases fL (s:=s) (f:=f) (p:=x.At) h q with ⟨c,e⟩|⟨c,e⟩
   .refine .inl ⟨λy z=> ?_,b.trans e⟩;rcases BO.1 z with rfl|z
    .exact c
    .exact a y z
   .exact .inr ⟨⟨x,Ct ..,c⟩,b.trans e⟩
  .exact .inr ⟨⟨y,Cs _ z,a⟩,b⟩
def cI{l:List Ar}: ∀{q:Ac},0<=CO (CG l) q-> ∃x∈l,x.At=q:=by
 have G: ∀(l:List Ar) (t:List (Ac×Int)) (q:Ac),BP (l.foldl (λt x=>Bu t x.At x.Tile) t) q≠none->(∃x∈l,x.At=q)\/BP t q≠none:=by
  intro l;induction l with
  |nil=>intro t q h;exact .inr h
  |cons x r ih=>
   intro t q h;rcases ih _ q h with ⟨y,O,e⟩|z
   .exact .inl ⟨y,Cs _ O,e⟩
   .rw[rC] at z;split at z
    .rename_i e;exact .inl ⟨x,Ct ..,e.symm⟩
    .exact .inr z
 intro q h;rcases G l [] q (λe=>by
  simp only[CO,CG,e,Option.getD_none] at h;omega) with z|z
 .exact z
 .simp[BP] at z
def oL{s:An}{l:List Ar}(O:1<=s.Temperature):O6 s (CO (CG l)) (IN s (CO (CG l)) l):=by
 have hn:(([]:List (Ac×List Int)).map Prod.fst).Nodup:=by simp
 refine⟨(iA ⟨0,0⟩ l [] hn).1,λq=> ?_⟩;rcases (iA (s:=s) (f:=CO (CG l)) q l [] hn).2 with ⟨G,z⟩|⟨_,z⟩
 .rw[IN,z]
  have:DZ s (CO (CG l)) q=[]:=by
   refine iF O (λd hd=> ?_) _;apply Hc;intro h;obtain⟨x,Q,e⟩:=cI (l:=l) (q:=Bv q d) (by omega);exact G x Q (Yd (e▸⟨d,hd,rfl⟩))
  rw[G3,Ak this];rfl
 .exact z
def oM{s:An}{z:List (Ac×Int)}{op:List (Ac×List Int)}{p:Ac}{t:Int}(h:O6 s (CO z) op)(ht:0<=t):
 O6 s (CO (Bu z p t)) (Hb s (CO (Bu z p t)) (Eb op p) p 4):=by
 have hn:=iN (p:=p) h.1;have G: ∀q,CO (Bu z p t) q=if q=p then t else CO z q:=λq=>by
  simp only[CO,rC];split<;>rfl
 refine⟨Yf hn 4,λq=> ?_⟩;rcases fL (s:=s) (f:=CO (Bu z p t)) (p:=p) hn q with ⟨Z,O⟩|⟨_,O⟩
 .rw[O,iL q h.1];by_cases e:q=p
  .rw[Ak e,G3,Ak (vU (by rw[G,Ak e];exact ht) _)]
  .rw[Ad e,h.2 q]
   have:DZ s (CO (Bu z p t)) q=DZ s (CO z) q:=by
    refine vQ (by rw[G,Ad e]) (λd hd=> ?_) _;rw[G,Ad];intro Q;exact Z (Yd ⟨d,hd,Q⟩)
   rw[this]
 .exact O
def Es(p:Ac):List Ac->List Ac
 |[]=>[p]
 |y::r=>if B6 y p=true then y::Es p r else if y=p then y::r else p::y::r
def Cr(l:List Ac):List Ac:=l.foldr Es []
abbrev KC(l:List Ac):Prop:=l.Pairwise λa b=>B6 a b=true
def Ya{a b c:Ac}(z:B6 a b=true)(G:B6 b c=true):B6 a c=true:=by simp only[B6] at*;grind
def uX(a:Ac):B6 a a=false:=by simp[B6]
def vC{a b:Ac}(Z:B6 a b=false)(h2:a≠b):B6 b a=true:=by
 obtain⟨G,O⟩:=a;obtain⟨Q,z⟩:=b;simp only[B6,ne_eq,Ac.mk.injEq] at*
 grind
def XZ{p q:Ac}: ∀{l:List Ac},q∈Es p l↔q=p\/q∈l
 |[]=>by simp[Es]
 |y::r=>by
  simp only[Es];split
  .simp only[BO,XZ (l:=r)];constructor
   .rintro (h|h|h)
    .exact .inr (.inl h)
    .exact .inl h
    .exact .inr (.inr h)
   .rintro (h|h|h)
    .exact .inr (.inl h)
    .exact .inl h
    .exact .inr (.inr h)
  .split
   .rename_i c;subst c;simp
   .simp
def iC{p:Ac}: ∀{l:List Ac},KC l->KC (Es p l)
 |[],_=>by simp[Es]
 |y::r,h=>by
  rw[KC,Xu] at h;simp only[Es];split
  .rename_i c;rw[KC,Xu];refine⟨λz G=> ?_,iC h.2⟩;rcases XZ.1 G with rfl|G
   .exact c
   .exact h.1 z G
  .rename_i c;split
   .rw[KC,Xu];exact h
   .rename_i e;have O:=vC (by simpa using c) e;rw[KC,Xu,Xu];refine⟨λz G=> ?_,h⟩;rcases BO.1 G with rfl|G
    .exact O
    .exact Ya O (h.1 z G)
def OT: ∀(l:List Ac),KC (Cr l)
 |[]=>List.Pairwise.nil
 |_::r=>iC (OT r)
def KS{q:Ac}: ∀{l:List Ac},q∈Cr l↔q∈l
 |[]=>by simp[Cr]
 |x::r=>by
  have:Cr (x::r)=Es x (Cr r):=rfl
  rw[this,XZ,KS (l:=r),BO]
def LF{l:List Ac}(h:KC l):l.Nodup:=by
 refine ZeP (λ{a b} z e=> ?_) h;rw[e,uX] at z;cases z
def iG{l m:List Ac}(z:KC l)(G:KC m)(h: ∀q,q∈l↔q∈m):l=m:=by
 have hp:l.Perm m:=(rM (LF z) (LF G)).2 h;refine Zdx (le:=λa b=>B6 a b=true) (λa b _ _ g1 g2=> ?_) z G hp
 have:=Ya g1 g2
 rw[uX] at this;cases this
def El(a:Al)(p:Ac)(l:List Ac):Nat->List Ac
 |0=>l
 |k+1=>if EU (Bv p k)=true/\Ba a (Bv p k)<0 then Es (Bv p k) (El a p l k) else El a p l k
def CI(a:Al):Nat->List Ac
 |0=>[]
 |i+1=>El a ((a.Tiles[i]?.map Ar.At).getD ⟨0,0⟩) (CI a i) 4
def XY{a:Al}{p:Ac}{l:List Ac}(h:KC l): ∀k,KC (El a p l k)
 |0=>h
 |k+1=>by
  simp only[El];split
  .exact iC (XY h k)
  .exact XY h k
def Ye(a:Al): ∀i,KC (CI a i)
 |0=>List.Pairwise.nil
 |i+1=>XY (Ye a i) 4
def vE{a:Al}{p q:Ac}{l:List Ac}: ∀k,q∈El a p l k↔q∈l\/(EU q=true/\Ba a q<0)/\ ∃d:Nat,d<k/\Bv p d=q
 |0=>by simp[El]
 |k+1=>by
  simp only[El];have ih:=vE (a:=a) (p:=p) (q:=q) (l:=l) k;split
  .rename_i c;rw[XZ,ih];constructor
   .rintro (rfl|h|⟨h,d,G,z⟩)
    .exact .inr ⟨c,k,by omega,rfl⟩
    .exact .inl h
    .exact .inr ⟨h,d,by omega,z⟩
   .rintro (h|⟨h,d,G,z⟩)
    .exact .inr (.inl h)
    .by_cases e:d=k
     .subst e;exact .inl z.symm
     .exact .inr (.inr ⟨h,d,by omega,z⟩)
  .rename_i c;rw[ih];constructor
   .rintro (h|⟨h,d,G,z⟩)
    .exact .inl h
    .exact .inr ⟨h,d,by omega,z⟩
   .rintro (h|⟨h,d,G,z⟩)
    .exact .inl h
    .by_cases e:d=k
     .subst e;subst z;exact absurd h c
     .exact .inr ⟨h,d,by omega,z⟩
def OS{a:Al}{q:Ac}: ∀i,i<=a.Tiles.length->(q∈CI a i↔(EU q=true/\Ba a q<0)/\ ∃x∈a.Tiles.take i,KQ x.At q)
 |0,_=>by simp[CI]
 |i+1,Q=>by
  have O:a.Tiles[i]? =some (a.Tiles[i]'(by omega)):=Bk (by omega);simp only[CI];rw[vE,OS i (by omega),K4 O,O,CR,AJ];constructor
  .rintro (⟨h,x,z,G⟩|⟨h,G⟩)
   .exact⟨h,x,J6 _ z,G⟩
   .exact⟨h,_,RA _ (Ct ..),G⟩
  .rintro⟨h,x,z,G⟩;rcases B5.1 z with z|z
   .exact .inl ⟨h,x,z,G⟩
   .rw[BN] at z;subst z;exact .inr ⟨h,G⟩
def EF(s:An)(f:Ac->Int)(q:Ac):Nat->List Int
 |0=>[]
 |k+1=>EF s f q k++(if s.Temperature<=CW s.Set f q k 4 then [(k:Int)] else [])
def Yg(s:An)(f:Ac->Int)(q:Ac): ∀k,(EF s f q k).length<=k
 |0=>by simp[EF]
 |k+1=>by
  have:=Yg s f q k
  simp only[EF,CS]
  split<;>simp<;>omega
def iI{s:An}{f:Ac->Int}{q:Ac}(z:EU q=true)(G:f q<0): ∀n,Gg s f q n=EF s f q n
 |0=>rfl
 |n+1=>by
  simp only[Gg,EF,iI z G n,HL,z,ZeN G,EL,BA]
def JU(p:Ac)(k:Int):Aj:=⟨p,k⟩
def CC(g:Ac->List Int)(l:List Ac):List Aj:=l.flatMap λp=>(g p).map (JU p)
def Bi(s:An)(a:Al):List Aj:=CC (λp=>EF s (Ba a) p s.Set.Tiles.length) (CI a a.Tiles.length)
def H9(op:List (Ac×List Int)):List Aj:=CC (λp=>(BP op p).getD []) (Cr (op.map Prod.fst))
def uY{g:Ac->List Int}: ∀(l:List Ac),CC g (l.filter λp=> !(g p).isEmpty)=CC g l
 |[]=>rfl
 |p::r=>by
  have ih:=uY (g:=g) r;simp only[CC] at ih;simp only[CC,mG];split
  .simp only[H2,ih]
  .rename_i c
   have:g p=[]:=by simpa using c
   simp only[H2,ih,this,BY,Fs]
def hZ{g h:Ac->List Int}: ∀(l:List Ac),(∀p∈l,g p=h p)->CC g l=CC h l
 |[],_=>rfl
 |p::r,z=>by
  simp only[CC,H2];rw[z p (Ct ..)]
  have:=hZ r λq hq=>z q (Cs _ hq)
  simp only[CC] at this;rw[this]
def Ms{a:Al}{q:Ac}(h:0<=Ba a q): ∃x∈a.Tiles,x.At=q:=by
 simp only[Ba] at h;cases e:a.Tiles.find? (λx=>decide (x.At=q)) with
 |none=>rw[e] at h;simp at h
 |some x=>exact⟨x,rO e,by simpa using Xr e⟩
def V2{s:An}{a:Al}{op:List (Ac×List Int)}(hT:1<=s.Temperature)(h:O6 s (Ba a) op):H9 op=Bi s a:=by
 have G: ∀q,DZ s (Ba a) q≠[]->q∈CI a a.Tiles.length:=λq hq=>by
  rw[OS _ (AW _),EW];have h0:Ba a q<0:=by
   apply Hc;intro c;exact hq (vU (by omega) _)
  have hp:EU q=true:=by
   apply Hc;intro c;exact hq (XW (λk=>by simp only[HL];rw[RE] at c;rw[c];rfl) _)
  refine⟨⟨hp,h0⟩,?_⟩;apply Hc;intro c;refine hq (iF hT (λd hd=> ?_) _);apply Hc;intro c2;obtain⟨x,hx,e⟩:=Ms (a:=a) (q:=Bv q d) (by omega);exact c ⟨x,hx,Yd ⟨d,hd,e.symm⟩⟩
 have Q: ∀q∈CI a a.Tiles.length,EF s (Ba a) q s.Set.Tiles.length=DZ s (Ba a) q:=λq hq=>by
  rw[OS _ (AW _)] at hq;exact (iI hq.1.1 hq.1.2 _).symm
 have O: ∀q,(BP op q).getD []=DZ s (Ba a) q:=λq=>by
  rw[h.2 q,G3];split
  .rename_i e;rw[e];rfl
  .rfl
 have Z:Bi s a=CC (DZ s (Ba a)) (CI a a.Tiles.length):=hZ _ Q;have e2:H9 op=CC (DZ s (Ba a)) (Cr (op.map Prod.fst)):=hZ _ λq _=>O q
 rw[Z,e2,<-uY (CI a a.Tiles.length)];congr 1;refine iG (OT _) ((Ye a _).filter _) (λq=> ?_);rw[KS,nR,h.2 q,G3,SP];constructor
 .intro hq;have z:DZ s (Ba a) q≠[]:=λe=>hq (Ak e)
  exact⟨G q z,by simpa using z⟩
 .rintro⟨_,hq⟩;have z:DZ s (Ba a) q≠[]:=by simpa using hq
  rw[Ad z];simp
def Fo(p:Ac)(l:List Ac):Nat:=(l.takeWhile λy=>B6 y p).length
def vM(p:Ac): ∀(l:List Ac),Es p l=if l[Fo p l]? =some p then l else l.take (Fo p l)++p::l.drop (Fo p l)
 |[]=>by simp[Es,Fo]
 |y::r=>by
  have ih:=vM p r;simp only[Es];by_cases c:B6 y p=true
  .have e:Fo p (y::r)=Fo p r+1:=by simp[Fo,rZ,c]
   rw[Ak c,ih,e,GD];split
   .rfl
   .simp
  .have e:Fo p (y::r)=0:=by simp[Fo,rZ,c]
   rw[Ad c,e];simp
def NG{p:Ac}: ∀{l:List Ac} {k:Nat},KC l->k<=l.length->(∀(i:Nat) (y:Ac),k<=i->l[i]? =some y->B6 y p=false)->(∀y,k≠0->l[k - 1]? =some y->B6 y p=true)->Fo p l=k
 |[],k,_,G,_,_=>by simp at G;simp[Fo,G]
 |y::r,0,_,_,O,_=>by
  have:=O 0 y (AW _) rfl
  simp[Fo,rZ,this]
 |y::r,k+1,Z,G,O,Q=>by
  rw[KC,Xu] at Z;have hy:B6 y p=true:=by
   cases k with
   |zero=>exact Q y (by omega) rfl
   |succ k=>
    have aa:k+1<(y::r).length:=by simp at G⊢;omega
    have h3:=Q _ (by omega) (Bk (l:=y::r) (i:=k+1) aa);refine Ya (Z.1 _ ?_) h3;simp
  have ih:=NG (p:=p) (l:=r) (k:=k) Z.2 (by simpa using G) (λi z hi hz=>O (i+1) z (by omega) (by simpa using hz)) (λz ab hz=>Q z (by omega) (by
   obtain⟨m,rfl⟩: ∃m,k=m+1:=⟨k - 1,by omega⟩;simpa using hz))
  simp only[Fo] at ih;simp[Fo,rZ,hy,ih]
def Ob(p:Ac)(l:List Ac)(i:Nat):List Ac:=(l++[p]).take (i+1)++l.drop i
def iD{p:Ac}{l:List Ac}{i:Nat}(h:i<=l.length):(Ob p l i).length=l.length+1:=by simp[Ob];omega
def bO(p:Ac)(l:List Ac):Ob p l l.length=l++[p]:=by simp[Ob,GE]
def Ww{p x:Ac}{l:List Ac}{i:Nat}(h:i+1<=l.length)(Z:(Ob p l (i+1))[i]? =some x):(Ob p l (i+1)).set (i+1) x=Ob p l i:=by
 have z:l[i]? =some x:=by
  rw[<-Z,Ob,Eh (by simp;omega),eO,Ak (by omega),Eh (by omega)]
 apply Ja;intro j;have Q:((l++[p]).take (i+1+1)).length=i+2:=by simp;omega
 have G:((l++[p]).take (i+1)).length=i+1:=by simp;omega
 by_cases c:j=i+1
 .subst c;rw[EE (by rw[iD h];omega),Ob,Fe (by omega),G,I6,Ib,Xx,z]
 .rw[Ep (Fi c)];simp only[Ob];by_cases O:j<i+1
  .rw[Eh (by omega),Eh (by omega),eO,eO,Ak (by omega),Ak O]
  .rw[Fe (by omega),Fe (by omega),Q,G,Ib,Ib];congr 1;omega
def bP{p:Ac}{l:List Ac}{k:Nat}(h:k<=l.length):(Ob p l k).set k p=l.take k++p::l.drop k:=by
 apply Ja;intro j;have O:((l++[p]).take (k+1)).length=k+1:=by simp;omega
 have z:(l.take k).length=k:=by simp;omega
 by_cases c:j=k
 .subst c;rw[EE (by rw[iD h];omega),Fe (by omega),z,I6];simp
 .rw[Ep (Fi c)];simp only[Ob];by_cases G:j<k
  .rw[Eh (by omega),Eh (by omega),eO,eO,Ak (by omega),Ak G,Eh (by omega)]
  .obtain⟨m,rfl⟩: ∃m,j=k+1+m:=⟨j - (k+1),by omega⟩;rw[Fe (by omega),Fe (by omega),O,z,Ib,show k+1+m - k=m+1 by omega,GD,Ib];congr 1;omega
def LM{p q:Ac}:((p.X==q.X)=true/\(p.Y==q.Y)=true)↔p=q:=by
 obtain⟨z,G⟩:=p;obtain⟨O,Q⟩:=q;simp
def putQ.ca(a:List Ac×Ac):List AV:=[.own 0,.im (.agg [.int .i64 a.2.X,.int .i64 a.2.Y])]
def putQ.H0(a:List Ac×Ac):Au:=[(0,(true,.arr 50 2 (a.1.map Ac.c)))]
def putQ.H1(a:List Ac×Ac):Au:=[(1,(true,.arr 50 2 ((Es a.2 a.1).map Ac.c)))]
def L8(j:Nat):Bool:=j==0
def putQ.row:AO:=AM putQ.ca putQ.H0 1 (λa=>KC a.1/\a.1.length<=1000000) L8 (λ_=> .own 1) putQ.H1 1
def SI:=J @l_LessPoint.q @l_LessPoint.fv.eq_1
def putQ.ok:AS 183 putQ.row:=by
 refine VA (tC l_LessPoint.ok tN) Tryz.func183 (exB:=λj=>j==1) (R:=λ_ r=>r= .own 1) (λ_=>rfl)
  (λa=>by simp[putQ.ca,putQ.H0,putQ.H1,L8,AL,AV.bel,AH,Cz,Df,Ah.nms,AE,AV.nms,Av,hget]) (λa p hp=> ?_) (λa r h=>by subst h;exact ED.refl _) ?_
 rotate_left
 intro a af;simp only[Tryz.f183,Option.getD,putQ.ca,putQ.H0,putQ.H1,L8];simp only[ZZ,simprocAttr,Ab,SI,AR,Az,putQ.ca,putQ.H0,putQ.H1,L8];rotate_left
 .simp[putQ.H1] at hp;subst hp;exact .inr ⟨by omega,by omega,rfl,rfl⟩
 obtain⟨l,p⟩:=a;obtain⟨hl,hn⟩:=af;simp only at hl hn⊢;intro _;refine Bc.old ⟨{k:Nat//k<=l.length/\ ∀(i:Nat) (y:Ac),k<=i->l[i]? =some y->B6 y p=false},λk=>⟨[(5,.im (.int .i64 k.1)),(3,.ptr 1 0),(0,.own 0)],[(1,(true,.cells 50 [.im (.int .i64 p.X),.im (.int .i64 p.Y)])),(0,(true,.arr 50 2 (l.map Ac.c)))],3⟩,λk=>k.1,λk=>⟨by simp[ZG],by simp⟩,⟨⟨l.length,AW _,λi y hi Z=>by rw[Hy hi] at Z;cases Z⟩,by simp only[ZZ,simprocAttr,Ab,SI,AR,Az,putQ.ca,putQ.H0,putQ.H1,L8,sub]⟩,λk=> ?_⟩;obtain⟨k,hk,ac⟩:=k;simp only[ZZ,simprocAttr,Ab,SI,AR,Az,putQ.ca,putQ.H0,putQ.H1,L8,sub,AQ,FN];have Q:0<k->IntKind.i64.wrap ((k:Int) - 1)=((k - 1:Nat):Int):=λh=>by rw[AF (by omega) (by omega)];omega
 refine⟨λab=>⟨by rw[Q (by omega)];omega,by rw[Q (by omega)];omega,by rw[Q (by omega)];omega,λx hx=>⟨λaa=> ?r,λaa=>⟨λO=>⟨O,O,λy Z=>⟨λe=> ?a1,λe=> ?b1⟩⟩,λO=> ?b2⟩⟩⟩,λab=>⟨λO=>⟨O,O,λy Z=>⟨λe=> ?a2,λe=> ?b3⟩⟩,λO=> ?b4⟩⟩
 case r=>
  rw[Q (by omega),B1] at hx;refine⟨⟨k - 1,by omega,λi y hi Z=> ?_⟩,by simp only;omega,by rw[Q (by omega)]⟩;by_cases c:i=k - 1
  .subst c;obtain rfl:=A8 (hx.symm.trans Z);exact aa
  .exact ac i y (by omega) Z
 all_goals
  have ad:Fo p l=k:=NG hl hk ac (λy aq Z=>by
   first
    |(rw[Q (by omega),B1] at hx;obtain rfl:=A8 (hx.symm.trans Z);simpa using aa)
    |(exact absurd (by omega) ab))
  have G:=vM p l;rw[ad] at G
 case a1=>
  have ey:y=p:=LM.1 e;rw[Z,ey,Ak rfl] at G;refine⟨[],[(1,some 0)],⟨[(4,.own 1)],putQ.H1 (l,p),2⟩,?_,by simp[putQ.H1,ZG],by simp,?_⟩
  .simp only[Ao,putQ.H1,G];simp only[ZZ,simprocAttr,Ab,SI,AR,Az,putQ.ca,putQ.H0,putQ.H1,L8,AU,AT]
  .simp only[ZZ,simprocAttr,Ab,SI,AR,Az,putQ.ca,putQ.H0,putQ.H1,L8,putQ.H1]
 case a2=>
  have ey:y=p:=LM.1 e;rw[Z,ey,Ak rfl] at G;refine⟨[],[(1,some 0)],⟨[(4,.own 1)],putQ.H1 (l,p),2⟩,?_,by simp[putQ.H1,ZG],by simp,?_⟩
  .simp only[Ao,putQ.H1,G];simp only[ZZ,simprocAttr,Ab,SI,AR,Az,putQ.ca,putQ.H0,putQ.H1,L8,AU,AT]
  .simp only[ZZ,simprocAttr,Ab,SI,AR,Az,putQ.ca,putQ.H0,putQ.H1,L8,putQ.H1]
 all_goals
  have am:l[k]? ≠some p:=λh=>by
   first
    |(obtain rfl:=A8 (Z.symm.trans h);exact e (LM.2 rfl))
    |(rw[Hy (by omega)] at h;cases h)
  rw[Ad am] at G;have ah:l.map Ac.c++[[D.int .i64 p.X,D.int .i64 p.Y]]=(l++[p]).map Ac.c:=by rw[Fg];rfl
  rw[ah];refine⟨by omega,λ_=> ?_⟩;refine Bc.old ⟨{i:Nat//k<=i/\i<=l.length},λi=>⟨[(6,.im (.int .i64 i.1)),(5,.im (.int .i64 k)),(0,.own 4),(3,.ptr 1 0)],[(4,(true,.arr 50 2 ((Ob p l i.1).map Ac.c))),(1,(true,.cells 50 [.im (.int .i64 p.X),.im (.int .i64 p.Y)]))],5⟩,λi=>i.1,λi=>⟨by simp[ZG],by simp⟩,⟨⟨l.length,hk,AW _⟩,?_⟩,λi=> ?_⟩
  .simp only[ZZ,simprocAttr,Ab,SI,AR,Az,putQ.ca,putQ.H0,putQ.H1,L8,sub,bO];rw[CS,SN,AF (by omega) (by omega)];omega
  obtain⟨i,au,ai⟩:=i;have ao:=iD (p:=p) ai;simp only[ZZ,simprocAttr,Ab,SI,AR,Az,putQ.ca,putQ.H0,putQ.H1,L8,sub,AQ,FN,ao];refine⟨λak=> ?_,λak=>⟨by omega,by omega,λx hx=> ?_⟩⟩
  .have aj:IntKind.i64.wrap ((i:Int) - 1)=((i - 1:Nat):Int):=by rw[AF (by omega) (by omega)];omega
   rw[aj,B1];refine⟨by omega,by omega,by omega,λx hx=>⟨by omega,by omega,λz hz=>⟨⟨i - 1,by omega,by omega⟩,by simp only;omega,rfl,?_⟩⟩⟩;have ag:=Ww (p:=p) (x:=x) (l:=l) (i:=i - 1) (by omega) (by rwa [show i - 1+1=i by omega]);rw[show i - 1+1=i by omega] at ag;rw[<-ag,SR];rfl
  .obtain rfl:i=k:=by omega
   have an:((Ob p l i).map Ac.c).set i [D.int .i64 p.X,D.int .i64 p.Y]=(Es p l).map Ac.c:=by
    rw[G,<-bP hk,SR];rfl
   refine⟨[],[(1,some 4)],⟨[(4,.own 1)],putQ.H1 (l,p),2⟩,?_,by simp[putQ.H1,ZG],by simp,?_⟩
   .simp only[Ao,putQ.H1,an];simp only[ZZ,simprocAttr,Ab,SI,AR,Az,putQ.ca,putQ.H0,putQ.H1,L8,AU,AT]
   .simp only[ZZ,simprocAttr,Ab,SI,AR,Az,putQ.ca,putQ.H0,putQ.H1,L8,putQ.H1]
def VG(a:List Ac×Ac)(j:Nat):Av (putQ.H0 a) j=true↔j<1:=by
 simp only[Av,putQ.H0,hget];by_cases z:j=0
 .subst z;simp
 .have:(0==j)=false:=by simpa using λh=>z h.symm
  rw[this];simp;omega
def vO(p:Ac): ∀(l:List Ac),(Es p l).length<=l.length+1
 |[]=>by simp[Es]
 |y::r=>by
  have:=vO p r
  simp only[Es];split
  .simp only[Dp];omega
  .split<;>simp
def iE(a:Al)(p:Ac)(l:List Ac): ∀k,(El a p l k).length<=l.length+k
 |0=>by simp[El]
 |k+1=>by
  have:=iE a p l k
  simp only[El];split
  .have:=vO (Bv p k) (El a p l k);omega
  .omega
def XX(a:Al): ∀i,(CI a i).length<=4*i
 |0=>by simp[CI]
 |i+1=>by
  have:=XX a i
  have:=iE a ((a.Tiles[i]?.map Ar.At).getD ⟨0,0⟩) (CI a i) 4
  simp only[CI];omega
def nearS_.fv(a:Al):List Ac:=(λa=>CI a a.Tiles.length) a
def nearS_.row:AO:=vK (b1 (qP 1 Al.d_le)) (rS Ac.d_le Ac.c_n) (λa=>Dw none a.Tiles=true/\a.Tiles.length<=1000/\ ∃s,∀x∈a.Tiles,GY s x.Tile) nearS_.fv
def nearS_.q:=B2 (R:=nearS_.row) rfl
def Xn:=J @nearS_.fv.eq_1<|J @l01Step.q<|J @l01Step.fv.eq_1<|J @l01Point.q<|J @l01Point.fv.eq_1<|J @l03Index.q @l03Index.fv.eq_1
def nearS_.ok:AS 139 nearS_.row:=by
 refine vw (tC l01Step.ok (tC l01Point.ok (tC l03Index.ok (tC putQ.ok tN)))) Tryz.func139 ?_;intro a Z;simp only[Tryz.f139,Option.getD];simp only[ZZ,simprocAttr,Ab,Xn];obtain⟨h1,h2,s0,h3⟩:=Z;refine Bc.ren ⟨{i:Nat//i<=a.Tiles.length},λi=>⟨[(4,.im (.int .i64 i.1)),(3,.own 3),(0,.ptr 0 0)],[(3,(true,.arr 50 2 ((CI a i.1).map Ac.c))),(0,(false,.view (Al.c a)))],4⟩,λi=>a.Tiles.length - i.1,λi=>⟨by simp[ZG],by simp⟩,⟨⟨0,Cx _⟩,[(3,some 2)],?_⟩,λi=> ?_⟩
 .simp only[Ao];simp only[ZZ,simprocAttr,Ab,Xn,AU,AT,CI,BY]
  try simp
 obtain⟨i,hi⟩:=i;simp only[ZZ,simprocAttr,Ab,Xn,sub,AQ];intro _;refine⟨λz=> ?_,λz=> ?_⟩;rotate_left
 .obtain rfl:i=a.Tiles.length:=by omega
  rfl
 obtain⟨x,hx⟩: ∃x,a.Tiles[i]? =some x:=⟨_,Bk z⟩;have af:=(Qh6 _ _ h1 x (Bd hx)).1;have e1:CI a (i+1)=El a x.At (CI a i) 4:=by simp only[CI,hx];rfl
 have ag:=XX a i;have ac:=Ye a i;refine Bc.ren ⟨{d:Nat//d<=4},λd=>⟨[(5,.im (.int .i64 d.1)),(4,.im (.int .i64 i)),(3,.own 4),(0,.ptr 0 0)],[(4,(true,.arr 50 2 ((El a x.At (CI a i) d.1).map Ac.c))),(0,(false,.view (Al.c a)))],5⟩,λd=>4 - d.1,λd=>⟨by simp[ZG],by simp⟩,⟨⟨0,Cx _⟩,[(4,some 3)],?_⟩,λd=> ?_⟩
 .simp only[Ao];simp only[ZZ,simprocAttr,Ab,Xn,AU,AT,El]
  try simp
 obtain⟨d,hd⟩:=d;have ah:=iE a x.At (CI a i) d;have ad:=XY (a:=a) (p:=x.At) ac d;simp only[ZZ,simprocAttr,Ab,Xn,sub,AQ];have Q:IntKind.i64.wrap ((d:Int)+1)=((d+1:Nat):Int):=by rw[AF (by omega) (by omega)];omega
 refine⟨λab=>⟨z,λy hy=> ?_⟩,λab=> ?_⟩;rotate_left
 .obtain rfl:d=4:=by omega
  refine⟨⟨i+1,by omega⟩,[(3,some 4)],by simp only;omega,?_⟩;simp only[Ao];simp only[ZZ,simprocAttr,Ab,Xn,AU,AT,e1];rw[AF (by omega) (by omega)];rfl
 obtain rfl:=A8 (hx.symm.trans hy);refine⟨⟨kO af,by omega⟩,λO=>⟨h1,λG=> ?_,λG=> ?_⟩,λO=> ?_⟩
 .have aa:=(GS h3 (Bv x.At d)).1 G;refine AM.os (El a x.At (CI a i) d,Bv x.At d) [4] ⟨ad,by simp only;omega⟩ (VG _) rfl rfl ?_ ?_
  .simp only[ZZ,simprocAttr,Ab,Xn,putQ.ca,putQ.H0,EJ,Cl]
  simp only[ZZ,simprocAttr,Ab,Xn,putQ.H1,sub,L8,Cl,Hz];refine⟨⟨d+1,by omega⟩,[(4,some 6)],by simp only;omega,?_⟩;simp only[Ao];simp only[ZZ,simprocAttr,Ab,Xn,AU,AT,El];rw[Ak ⟨O,aa⟩];exact⟨Q,rfl⟩
 all_goals
  refine⟨⟨d+1,by omega⟩,[(4,some 4)],by simp only;omega,?_⟩;simp only[Ao];simp only[ZZ,simprocAttr,Ab,Xn,AU,AT,El];refine⟨Q,?_⟩;rw[Ad];rintro⟨g1,g2⟩
  first
   |exact G ((GS h3 _).2 g2)
   |exact O g1
def Ut(s:AI)(a:Al)(p:Ac):Nat->List Int
 |0=>[]
 |k+1=>Ut s a p k++[if Ba a (Bv p k)<0 then 0 else Jy s (Ba a (Bv p k)) (((k:Int)+2) % 4)]
def OR(s:AI)(a:Al)(p:Ac): ∀k,(Ut s a p k).length=k
 |0=>rfl
 |k+1=>by simp[Ut,OR s a p k]
def iB{s:AI}{a:Al}{p:Ac}: ∀{n k:Nat},k<n->(Ut s a p n)[k]? =some (if Ba a (Bv p k)<0 then 0 else Jy s (Ba a (Bv p k)) (((k:Int)+2) % 4))
 |0,k,h=>by omega
 |n+1,k,h=>by
  simp only[Ut];by_cases c:k<n
  .rw[Eh (by rw[OR];exact c),iB c]
  .obtain rfl:k=n:=by omega
   rw[Fe (by rw[OR];omega),OR,I6];rfl
def cG{s:AI}{a:Al}{p:Ac}{i:Int}{k:Nat}{g:Int}(z:g=if Ba a (Bv p k)<0 then 0 else Jy s (Ba a (Bv p k)) (((k:Int)+2) % 4)):(if Jy s i k=g then Rz s g else 0)=Ds s (Ba a) p i k:=by
 simp only[Ds,Gd];by_cases c:Ba a (Bv p k)<0
 .rw[Ak c] at z;subst z;rw[Ad (show ¬0<=Ba a (Bv p k) by omega),MM (by omega)]
  split<;>rfl
 .rw[Ad c] at z;rw[Ak (show 0<=Ba a (Bv p k) by omega),<-z];split
  .rename_i e;rw[e]
  .rfl
def pA{s:AI}(h:BK s){t:Int}{d:Int}:0<=Jy s t d/\Jy s t d<=s.Glues.length:=by
 simp only[Jy];cases e:s.Tiles[t.toNat]? with
 |none=>simp
 |some x=>
  simp only[CR,AJ];cases e2:x.Sides[d.toNat]? with
  |none=>simp
  |some g=>
   simp only[AJ];exact (h.2.1 x (Bd e)).2 g (Bd e2)
def atQ_.fv(a:AI×Al×Ac×Int):List Int:=(λs a p t=>EF ⟨s,a,t⟩ (Ba a) p s.Tiles.length) (a.1) (a.2.1) (a.2.2.1) (a.2.2.2)
def atQ_.row:AO:=vK (b4 (qP 2 AI.d_le) (qP 1 Al.d_le) (qR Ac.d_le) qI) (rS Ez Dy) (λa=>BK a.1/\CA a.1 a.2.1/\GZ a.2.2.1/\a.1.Tiles.length<=1000000) atQ_.fv
def atQ_.q:=B2 (R:=atQ_.row) rfl
def SJ:=J @atQ_.fv.eq_1<|J @l01Step.q<|J @l01Step.fv.eq_1<|J @l03At.q<|J @l03At.fv.eq_1<|J @Opposite_.q<|J @Opposite_.fv.eq_1<|J @l02Strength.q @l02Strength.fv.eq_1
def atQ_.ok:AS 112 atQ_.row:=by
 refine vw (tC l01Step.ok (tC l03At.ok (tC Opposite_.ok (tC l02Strength.ok tN)))) Tryz.func112 ?_;intro a af;simp only[Tryz.f112,Option.getD];simp only[ZZ,simprocAttr,Ab,SJ];obtain⟨s,a,p,t⟩:=a;obtain⟨Q,h2,h3,h4⟩:=af;simp only at Q h2 h3 h4⊢;refine Bc.ren ⟨{d:Nat//d<=4},λd=>⟨[(10,.im (.int .i64 d.1)),(9,.own 5),(6,.ptr 2 0),(0,.ptr 0 0),(1,.ptr 1 0),(3,.im (.int .i64 t))],[(5,(true,.arr 2 1 ((Ut s a p d.1).map Af))),(2,(true,.cells 50 [.im (.int .i64 p.X),.im (.int .i64 p.Y)])),(0,(false,.view (AI.c s))),(1,(false,.view (Al.c a)))],6⟩,λd=>4 - d.1,λd=>⟨by simp[ZG],by simp⟩,⟨⟨0,Cx _⟩,[(5,some 4)],?_⟩,λd=> ?_⟩
 .simp only[Ao];simp only[ZZ,simprocAttr,Ab,SJ,AU,AT,Ut,BY]
  try simp
 obtain⟨d,hd⟩:=d;have ak:=OR s a p d;simp only[ZZ,simprocAttr,Ab,SJ,sub,AQ,OO,OI,OL,B8,D.one,Er,EN,I7];have Z:IntKind.i64.wrap ((d:Int)+1)=((d+1:Nat):Int):=by rw[AF (by omega) (by omega)];omega
 refine⟨λaa=>⟨⟨h3,by omega⟩,h2.1,λhn=>⟨by omega,⟨d+1,by omega⟩,[(5,some 7)],by simp only;omega,?_⟩,λhn=> ?_⟩,λaa=> ?_⟩
 .simp only[Ao];simp only[ZZ,simprocAttr,Ab,SJ,AU,AT,Ut];rw[Ak hn];refine⟨Z,by simp[Af]⟩
 .obtain⟨b1,b2⟩:=ON h2 (Bv p d) (by omega);refine⟨b1,b2,λx hx=>⟨by omega,by omega,by rw[(Q.2.1 x (Bd hx)).1];omega,λg hg=>⟨by omega,⟨d+1,by omega⟩,[(5,some 7)],by simp only;omega,?_⟩⟩⟩;have O:Jy s (Ba a (Bv p d)) (((d:Int)+2) % 4)=g:=lD hx hg;simp only[Ao];simp only[ZZ,simprocAttr,Ab,SJ,AU,AT,Ut];rw[Ad hn,O];refine⟨Z,by simp[Af]⟩
 obtain rfl:d=4:=by omega
 clear Z aa hd;obtain⟨S,hS⟩: ∃S:An,S=⟨s,a,t⟩:=⟨_,rfl⟩;rw[<-hS];refine Bc.ren ⟨{i:Nat//i<=s.Tiles.length},λi=>⟨[(13,.im (.int .i64 i.1)),(12,.own 7),(9,.own 5),(0,.ptr 0 0),(3,.im (.int .i64 t))],[(7,(true,.arr 2 1 ((EF S (Ba a) p i.1).map Af))),(5,(true,.arr 2 1 ((Ut s a p 4).map Af))),(0,(false,.view (AI.c s))),(1,(false,.view (Al.c a)))],8⟩,λi=>s.Tiles.length - i.1,λi=>⟨by simp[ZG],by simp⟩,⟨⟨0,Cx _⟩,[(7,some 6)],?_⟩,λi=> ?_⟩
 .simp only[Ao];simp only[ZZ,simprocAttr,Ab,SJ,AU,AT,EF,BY]
  try simp
 obtain⟨i,hi⟩:=i;have an:=Yg S (Ba a) p i;simp only[ZZ,simprocAttr,Ab,SJ,sub,AQ];intro _;refine⟨λab=> ?_,λab=> ?_⟩;rotate_left
 .obtain rfl:i=s.Tiles.length:=by omega
  rfl
 refine Bc.old ⟨{k:Nat//k<=4},λk=>⟨[(15,.im (.int .i64 k.1)),(14,.im (.int .i64 (CW s (Ba a) p i k.1))),(13,.im (.int .i64 i)),(12,.own 7),(9,.own 5),(0,.ptr 0 0),(3,.im (.int .i64 t))],[(7,(true,.arr 2 1 ((EF S (Ba a) p i).map Af))),(5,(true,.arr 2 1 ((Ut s a p 4).map Af))),(0,(false,.view (AI.c s))),(1,(false,.view (Al.c a)))],8⟩,λk=>4 - k.1,λk=>⟨by simp[ZG],by simp⟩,⟨⟨0,Cx _⟩,?_⟩,λk=> ?_⟩
 .simp only[ZZ,simprocAttr,Ab,SJ,sub,CW]
 obtain⟨k,hk⟩:=k;simp only[ZZ,simprocAttr,Ab,SJ,sub,AQ,OO,OI,OL,B8,D.one,Er,EN,I7];have ad:IntKind.i64.wrap ((k:Int)+1)=((k+1:Nat):Int):=by rw[AF (by omega) (by omega)];omega
 have aj:=Qwy Q (Ba a) p i k;have am:=SE Q (Ba a) p i k;have ah:=OR s a p 4;rw[ah];refine⟨λai=>⟨ab,λx hx=>⟨by rw[(Q.2.1 x (Bd hx)).1];omega,λg hg=>⟨by omega,by omega,λy hy=> ?_⟩⟩⟩,λai=> ?_⟩
 .have O:Jy s i k=g:=lD (by simpa using hx) (by simpa using hg);rw[iB (by omega),AP] at hy;have G:=cG (i:=i) hy.symm;rw[O] at G;refine⟨λe=>⟨by omega,by omega,λz hz=> ?_⟩,λe=>⟨⟨k+1,by omega⟩,by simp only;omega,ad,?_⟩⟩
  .rw[iB (by omega),AP] at hz;obtain rfl:y=z:=hy.symm.trans hz;rw[Ak e] at G;have ag:0<=y/\y<=s.Glues.length:=by
    have:=pA Q (t:=i) (d:=k)
    rw[O,e] at this;exact this
   refine⟨⟨ag.1,ag.2,Q.1⟩,⟨k+1,by omega⟩,by simp only;omega,ad,?_⟩;rw[G,AF (by omega) (by omega)];rfl
  .rw[Ad e] at G;simp only[CW,<-G];omega
 .obtain rfl:k=4:=by omega
  have ac:IntKind.i64.wrap ((i:Int)+1)=((i+1:Nat):Int):=by rw[AF (by omega) (by omega)];omega
  have e1:S.Temperature=t:=by rw[hS]
  have e2:S.Set=s:=by rw[hS]
  refine⟨λe=>⟨by omega,⟨i+1,by omega⟩,[(7,some 9)],by simp only;omega,?_⟩,λe=>⟨⟨i+1,by omega⟩,[(7,some 7)],by simp only;omega,?_⟩⟩
  .simp only[Ao];simp only[ZZ,simprocAttr,Ab,SJ,AU,AT,EF,e1,e2];rw[Ak e];exact⟨ac,by simp[Af]⟩
  .simp only[Ao];simp only[ZZ,simprocAttr,Ab,SJ,AU,AT,EF,e1,e2];rw[Ad e,CQ];exact⟨ac,rfl⟩
def Mt(s:An)(a b:Al)(f:Ac->Int)(p:Ac): ∀n,EF ⟨s.Set,a,s.Temperature⟩ f p n=EF s f p n
 |0=>rfl
 |n+1=>by simp only[EF,Mt s a b f p n]
def EI(g:Ac->List Int)(l:List Ac)(i:Nat):List Aj:=CC g (l.take i)
def vP{g:Ac->List Int}{l:List Ac}{i:Nat}{p:Ac}(h:l[i]? =some p):EI g l (i+1)=EI g l i++(g p).map (JU p):=by
 simp only[EI,CC,K4 h,ZdR,H2,rP,CQ]
def Yc{g:Ac->List Int}{m:Nat}(z: ∀p,(g p).length<=m): ∀(l:List Ac),(CC g l).length<=l.length*m
 |[]=>by simp[CC]
 |p::r=>by
  have ih:=Yc z r
  have:=z p
  simp only[CC] at ih;simp only[CC,H2,CS,FN,Dp,Zfj];omega
def opsS_.fv(a:An×Al):List Aj:=(Bi) (a.1) (a.2)
def opsS_.row:AO:=vK (b2 (qP 4 An.d_le) (qP 1 Al.d_le)) (rS Aj.d_le Aj.c_n) (λa=>BK a.1.Set/\CA a.1.Set a.2/\a.2.Tiles.length<=500/\a.1.Set.Tiles.length<=1000) opsS_.fv
def opsS_.q:=B2 (R:=opsS_.row) rfl
def lP:=J @opsS_.fv.eq_1<|J @nearS_.q<|J @nearS_.fv.eq_1<|J @atQ_.q @atQ_.fv.eq_1
def opsS_.ok:AS 87 opsS_.row:=by
 refine vw (tC nearS_.ok (tC atQ_.ok tN)) Tryz.func87 ?_;intro a Q;simp only[Tryz.f87,Option.getD];simp only[ZZ,simprocAttr,Ab,lP];obtain⟨s,a⟩:=a;obtain⟨h1,Z,h3,h4⟩:=Q;simp only at h1 Z h3 h4⊢;refine⟨⟨Z.1,by omega,s.Set,Z.2⟩,?_⟩;obtain⟨L,hL⟩: ∃L,L=CI a a.Tiles.length:=⟨_,rfl⟩;obtain⟨g,hg⟩: ∃g,g=λp=>EF s (Ba a) p s.Set.Tiles.length:=⟨_,rfl⟩
 have ac:Bi s a=CC g L:=by rw[hg,hL];rfl
 rw[ac];have af:L.length<=2000:=by have:=XX a a.Tiles.length;rw[hL];omega
 have G: ∀p,(g p).length<=1000:=λp=>by have:=Yg s (Ba a) p s.Set.Tiles.length;rw[hg];simp only;omega
 have aa: ∀p∈L,EU p=true:=λp hp=>by
  rw[hL,OS _ (AW _)] at hp;exact hp.1.1
 simp only[<-hL];refine Bc.ren ⟨{i:Nat//i<=L.length},λi=>⟨[(7,.im (.int .i64 i.1)),(6,.im (.sl false 2 (L.map Ac.c))),(5,.own 4),(0,.ptr 0 0),(1,.ptr 1 0)],[(4,(true,.arr 52 3 ((EI g L i.1).map Aj.c))),(0,(false,.view (An.c s))),(1,(false,.view (Al.c a)))],5⟩,λi=>L.length - i.1,λi=>⟨by simp[ZG],by simp⟩,⟨⟨0,Cx _⟩,[(4,some 3)],?_⟩,λi=> ?_⟩
 .simp only[Ao];simp only[ZZ,simprocAttr,Ab,lP,AU,AT,EI,Fh,CC,rP,BY]
  try simp
 obtain⟨i,hi⟩:=i;simp only[ZZ,simprocAttr,Ab,lP,sub,AQ];intro _;refine⟨λz=> ?_,λz=> ?_⟩;rotate_left
 .obtain rfl:i=L.length:=by omega
  rw[EI,EW]
 have ah:(EI g L i).length<=2000*1000:=by
  have:=Yc G (L.take i)
  have h9:(L.take i).length*1000<=2000*1000:=I5 _ (by simp;omega);simp only[EI];omega
 refine⟨z,λp hp=> ?_⟩;have ad:=aa p (Bd hp);refine⟨⟨h1,Z,kO ad,by omega⟩,?_⟩;have ab:EF ⟨s.Set,a,s.Temperature⟩ (Ba a) p s.Set.Tiles.length=g p:=by rw[Mt _ _ a,hg]
 rw[ab];have ag:=G p;refine Bc.ren ⟨{k:Nat//k<=(g p).length},λk=>⟨[(9,.im (.int .i64 k.1)),(8,.im (.sl false 1 ((g p).map Af))),(7,.im (.int .i64 i)),(6,.im (.sl false 2 (L.map Ac.c))),(5,.own 5),(0,.ptr 0 0),(1,.ptr 1 0)],[(5,(true,.arr 52 3 ((EI g L i++((g p).take k.1).map (JU p)).map Aj.c))),(0,(false,.view (An.c s))),(1,(false,.view (Al.c a)))],6⟩,λk=>(g p).length - k.1,λk=>⟨by simp[ZG],by simp⟩,⟨⟨0,Cx _⟩,[(5,some 4)],?_⟩,λk=> ?_⟩
 .simp only[Ao];simp only[ZZ,simprocAttr,Ab,lP,AU,AT,Fh,BY,CQ]
  try simp
 obtain⟨k,hk⟩:=k;simp only[ZZ,simprocAttr,Ab,lP,sub,AQ,OO,OI,OL,B8,D.one,Er,EN,I7,CS];intro _;refine⟨λO=>⟨z,λq hq=>⟨O,λx hx=>⟨?_,⟨k+1,by omega⟩,[(5,some 7)],by simp only;omega,?_⟩⟩⟩,λO=>⟨⟨i+1,by omega⟩,[(4,some 5)],by simp only;omega,?_⟩⟩
 .have:((g p).take k).length<=1000:=by simp;omega
  omega
 .obtain rfl:=A8 (hp.symm.trans hq);simp only[Ao];simp only[ZZ,simprocAttr,Ab,lP,AU,AT];refine⟨by rw[AF (by omega) (by omega)];rfl,?_⟩;rw[K4 hx];simp[JU,Aj.c,Ac.c]
 .obtain rfl:k=(g p).length:=by omega
  simp only[Ao];simp only[ZZ,simprocAttr,Ab,lP,AU,AT];refine⟨by rw[AF (by omega) (by omega)];rfl,?_⟩;rw[vP hp,EW]
def ouC(l:List Aj)(Bl:List Int)(i:Nat)(p:Ac)(d k:Nat):Bool:=decide (i<k) && (decide (l[k]?.map Aj.At=some (Bv p d)) && DR (Bl[k]?.getD 0) (((d:Int)+2) % 4))
def ES(l:List Aj)(Bl:List Int)(i:Nat)(p:Ac)(d:Nat):Nat->Bool
 |0=>false
 |k+1=>ES l Bl i p d k||ouC l Bl i p d k
def Qt(l:List Aj)(Bl:List Int)(i:Nat)(p:Ac)(d:Nat):Bool:=ES l Bl i p d l.length
def FB(l:List Aj)(Bl:List Int)(i:Nat)(p:Ac):Nat->Int
 |0=>0
 |d+1=>FB l Bl i p d+BR (Qt l Bl i p d) d
def Si{l:List Aj}{Bl:List Int}{i:Nat}{p:Ac}{d:Nat}: ∀{n:Nat},ES l Bl i p d n=true↔ ∃k,k<n/\ouC l Bl i p d k=true
 |0=>by simp[ES]
 |n+1=>by
  simp only[ES,J3,Si (n:=n)];constructor
  .rintro (⟨k,G,z⟩|h)
   .exact⟨k,by omega,z⟩
   .exact⟨n,by omega,h⟩
  .rintro⟨k,G,z⟩;by_cases O:k=n
   .subst O;exact .inr z
   .exact .inl ⟨k,by omega,z⟩
def Jn{l:List Aj}{Bl:List Int}{i:Nat}{p:Ac}{d k:Nat}:ouC l Bl i p d k=true↔i<k/\l[k]?.map Aj.At=some (Bv p d)/\DR (Bl[k]?.getD 0) (((d:Int)+2) % 4)=true:=by
 simp only[ouC,AZ,BA]
def Pa{l:List Aj}(hd:(l.map Aj.At).Nodup){q:Ac}{j k:Nat}(z:l[j]?.map Aj.At=some q)(G:l[k]?.map Aj.At=some q):j=k:=by
 have a1:=iO hd z;have a2:=iO hd G;omega
def aT{l:List Aj}{Bl:List Int}{i:Nat}{p:Ac}{d k:Nat}(hd:(l.map Aj.At).Nodup)(h:ouC l Bl i p d k=true):ES l Bl i p d k=false:=by
 cases hb:ES l Bl i p d k with
 |false=>rfl
 |true=>
  exfalso;obtain⟨j,G,z⟩:=Si.1 hb
  have:=Pa hd (Jn.1 z).2.1 (Jn.1 h).2.1
  omega
def wC{l:List Aj}{Bl:List Int}{i:Nat}{p:Ac}{d k:Nat}(hd:(l.map Aj.At).Nodup):BR (ES l Bl i p d (k+1)) d=BR (ES l Bl i p d k) d+(if ouC l Bl i p d k=true then 2^d else 0):=by
 simp only[ES];by_cases h:ouC l Bl i p d k=true
 .rw[aT hd h,h,Ak rfl];simp[BR]
 .rw[Ad h];rw[RE] at h;rw[h];simp
def V4{l:List Aj}{Bl:List Int}{i:Nat}{p:Ac}{d:Nat}: ∀{k:Nat},k<=i+1->ES l Bl i p d k=false:=by
 intro k O;cases hb:ES l Bl i p d k with
 |false=>rfl
 |true=>
  exfalso;obtain⟨j,G,z⟩:=Si.1 hb
  have:=(Jn.1 z).1
  omega
def Tj(b:Bool)(k:Nat):0<=BR b k/\BR b k<=2^k:=by
 have:(0:Int)<=2^k:=Int.le_of_lt (Int.pow_pos (by omega))
 cases b<;>simp[BR,this]
def V5(l:List Aj)(Bl:List Int)(i:Nat)(p:Ac): ∀k,0<=FB l Bl i p k/\FB l Bl i p k<2^k
 |0=>by simp[FB]
 |k+1=>by
  have z:=V5 l Bl i p k;have G:=Tj (Qt l Bl i p k) k;have e:(2:Int)^(k+1)=2^k*2:=Int.pow_succ ..;simp only[FB];omega
def MT(l:List Aj)(Bl:List Int)(i:Nat)(p:Ac): ∀d:Nat,d<4->DR (FB l Bl i p 4) d=Qt l Bl i p d:=by
 intro d hd;obtain⟨z,k1,k2,G⟩:=wU (Qt l Bl i p 0) (Qt l Bl i p 1) (Qt l Bl i p 2) (Qt l Bl i p 3);have e:FB l Bl i p 4=0+BR (Qt l Bl i p 0) 0+BR (Qt l Bl i p 1) 1+BR (Qt l Bl i p 2) 2+BR (Qt l Bl i p 3) 3:=by
  simp only[FB]
 rw[e];rcases (by omega:d=0\/d=1\/d=2\/d=3) with rfl|rfl|rfl|rfl
 .exact z
 .exact k1
 .exact k2
 .exact G
def E5(p:Ac)(m:Int):Nat->Ar->Bool
 |0,x=>decide (x.At≠p)
 |d+1,x=>E5 p m d x && !(DR m d && decide (x.At=Bv p d))
def G6(a:Al)(p:Ac)(m:Int):Al:=⟨a.Tiles.filter (E5 p m 4)⟩
def PR{p:Ac}{q:Option Ac}(hq: ∀u,q=some u->B6 u p=true): ∀{r:List Ar},Dw (some p) r=true->Dw q r=true
 |[],_=>xY q
 |x::r,h=>by
  rw[Ru] at h⊢;simp only[AZ] at h⊢;obtain⟨z,G,O,Q⟩:=h;refine⟨z,G,?_,Q⟩;cases q with
  |none=>rfl
  |some u=>exact Ya (hq u rfl) O
def wA(c:Ar->Bool): ∀(l:List Ar) (q:Option Ac),Dw q l=true->Dw q (l.filter c)=true
 |[],q,_=>xY q
 |x::r,q,h=>by
  rw[Ru] at h;simp only[AZ] at h;obtain⟨G,O,z,Q⟩:=h;have ih:=wA c r (some x.At) Q;rw[mG];split
  .rw[Ru];simp only[AZ];exact⟨G,O,z,ih⟩
  .refine PR (λu Z=> ?_) ih;subst Z;exact z
def LY{s:AI}{a:Al}(h:CA s a)(p:Ac)(m:Int):CA s (G6 a p m):=
 ⟨wA _ _ _ h.1,λx z=>h.2 x (SP.1 z).1⟩
def Fc{a:Al}(h:Dw none a.Tiles=true){x:Ar}(z:x∈a.Tiles):Ba a x.At=x.Tile:=by
 simp only[Ba];cases hf:a.Tiles.find? (λy=>decide (y.At=x.At)) with
 |none=>
  have:=lX.1 hf x z
  simp at this
 |some y=>
  have G:=rO hf;have e:y.At=x.At:=by simpa using Xr hf
  rw[Vs (Qix h) y G x z e];rfl
def Sj{s:AI}{f g:Ac->Int}{p:Ac}{t:Int}: ∀(k:Nat),(∀d:Nat,d<k->Ds s f p t d<=Ds s g p t d)->CW s f p t k<=CW s g p t k
 |0,_=>Gy _
 |k+1,h=>by
  have z:=Sj k λd hd=>h d (by omega)
  have G:=h k (by omega);simp only[CW];omega
def Uf{s:An}{b:Al}{l:List Aj}(h:Fz s b l)(hb:CA s.Set b)(h0:BK s.Set)(h1:s.Set.Tiles.length<=160){i:Nat}{o:Aj}(ho:l[i]? =some o)(Bl:List Int):
 CW s.Set (Ba (Ax b (l.take i))) o.At o.Tile 4<=CW s.Set (Ba (G6 (Ax b l) o.At (FB l Bl i o.At 4))) o.At o.Tile 4:=by
 have ai:i<l.length:=(B9.1 ho).1;have ab:=DI h1 hb h i (by omega);have Z:CA s.Set (Ax b l):=by
  have:=DI h1 hb h l.length (AW _)
  rwa [EW] at this
 have ad:=LY Z o.At (FB l Bl i o.At 4);have G: ∀x∈(Ax b (l.take i)).Tiles,∀k,i<=k->x∈(Ax b (l.take k)).Tiles:=by
  intro x O k hk;rw[CB] at O⊢;rcases O with O|⟨z,hz,e⟩
  .exact .inl O
  .refine .inr ⟨z,?_,e⟩;obtain⟨j,hj⟩:=EK.1 hz;have ac:j<i:=by
    have:=(B9.1 hj).1
    simp at this;omega
   rw[EK];exact⟨j,by rw[R9 ac] at hj;rw[R9 (by omega)];exact hj⟩
 refine Sj 4 λd hd=> ?_
 have hp:=(SE h0 (Ba (G6 (Ax b l) o.At (FB l Bl i o.At 4))) o.At o.Tile d).1;by_cases c:0<=Ba (Ax b (l.take i)) (Bv o.At d)
 .obtain⟨x,O,ag⟩:=GX c;have af:x∈(Ax b l).Tiles:=by
   have:=G x O l.length (by omega)
   rwa [EW] at this
  have Q:=(D8 (h i o ho).1).2.2.2.2.2;have hk: ∀e:Nat,e<=4->E5 o.At (FB l Bl i o.At 4) e x=true:=by
   intro e;induction e with
   |zero=>intro _;simpa[E5] using Q x O
   |succ e ih=>
    intro he;simp only[E5,ih (by omega),EL,K5,lU,HZ];rw[MT _ _ _ _ e (by omega)];cases hob:Qt l Bl i o.At e with
    |false=>exact .inl rfl
    |true=>
     right;intro aa;obtain⟨k,_,h3⟩:=Si.1 hob;obtain⟨g1,g2,_⟩:=Jn.1 h3;cases hlk:l[k]? with
     |none=>rw[hlk] at g2;cases g2
     |some y=>
      rw[hlk] at g2;have hy:y.At=Bv o.At e:=by simpa using g2
      exact (D8 (h k y hlk).1).2.2.2.2.2 x (G x O k (by omega)) (aa.trans hy.symm)
  have ah:x∈(G6 (Ax b l) o.At (FB l Bl i o.At 4)).Tiles:=SP.2 ⟨af,hk 4 (AW _)⟩;have e1:=Fc ab.1 O;have e2:=Fc ad.1 ah;rw[ag] at e1 e2;simp only[Ds,e1,e2];exact Gy _
 .have:Ds s.Set (Ba (Ax b (l.take i))) o.At o.Tile d=0:=Ad c
  omega
def Yj{s:An}{f:Ac->Int}{p:Ac}{x:Int}: ∀{n:Nat},x∈EF s f p n↔ ∃k:Nat,k<n/\x=k/\s.Temperature<=CW s.Set f p k 4
 |0=>by simp[EF]
 |n+1=>by
  simp only[EF,B5,Yj (n:=n)];constructor
  .rintro (⟨k,O,z⟩|h)
   .exact⟨k,by omega,z⟩
   .split at h
    .rename_i c;exact⟨n,by omega,by simpa using h,c⟩
    .cases h
  .rintro⟨k,O,z,G⟩;by_cases Q:k=n
   .subst Q;right;rw[Ak G,z];exact BN.2 rfl
   .exact .inl ⟨k,by omega,z,G⟩
def Lp{s:An}{f:Ac->Int}{p:Ac}: ∀n:Nat,(EF s f p n).Nodup
 |0=>by simp[EF]
 |n+1=>by
  simp only[EF];split
  .rw[RD];refine⟨Lp n,by simp,?_⟩;intro a G z Q O;rw[BN] at Q;obtain⟨k,Z,h2,_⟩:=Yj.1 G;omega
  .rw[CQ];exact Lp n
def GH{A:Type}(g:Nat->Option A):Nat->Nat->Option A
 |0,_=>none
 |n+1,k=>(g k).or (GH g n (k+1))
def IB(s:An)(G:List Int)(o:Aj)(i:Nat)(z:Bool):Option (Int×Aj):=if G[i]?.getD 0≠s.Temperature then some (1,o) else if z=true then some (2,o) else none
def endO:List Aj->Option (Int×Aj)
 |[]=>none
 |o::_=>some (3,o)
def IE(s:An)(l:List Aj)(i:Nat):Option (Int×Aj):=
 (l[i]?).bind λo=>IB s (Dd s s.Seed l) o i (decide ((EF s (Ba (G6 (Ax s.Seed l) o.At (FB l (BH s s.Seed l) i o.At 4))) o.At s.Set.Tiles.length).length≠1))
def iQ(s:An): ∀(l:List Aj) (b:Al) (k:Nat) (o:Aj),l[k]? =some o->(Dd s b l)[k]? =some (CW s.Set (Ba (Ax b (l.take k))) o.At o.Tile 4)
 |[],_,k,o,h=>by simp at h
 |x::r,b,0,o,h=>by
  simp only[Gw,AP] at h;subst h;simp[Dd,Ax]
 |x::r,b,k+1,o,h=>by
  rw[GD] at h;simp only[Dd,GD,Ia,Ax];exact iQ s r _ k o h
def CK(s:An)(l:List Aj):Option (Int×Aj):=(GH (IE s l) l.length 0).or (endO (Bi s (Ax s.Seed l)))
def Ue:Option (Int×Aj)->Int×Ac×Int
 |none=>(0,⟨0,0⟩,3)
 |some (k,o)=>(k,o.At,0)
def sN(s:An)(l:List Aj):Int×Ac×Int:=if (Br s l).2.2≠0 then (0,⟨0,0⟩,(Br s l).2.2) else Ue (CK s l)
def MG{l:List Ar}(h:Dw none l=true):l.Pairwise (λa b=>B6 a.At b.At=true):=by
 rw[ZcV];intro i j G O z;exact (jN l none h).2 i j _ _ z (Bk G) (Bk O)
def wZ{l m:List Ar}(z:Dw none l=true)(G:Dw none m=true)(h: ∀x,x∈l↔x∈m):l=m:=by
 have nd: ∀{k:List Ar},Dw none k=true->k.Nodup:=λZ=>(mF.1 (Qix Z)).imp λh e=>h (by rw[e])
 refine Zdx (le:=λa b=>B6 a.At b.At=true) (λa b _ _ O Q=> ?_) (MG z) (MG G) ((rM (nd z) (nd G)).2 h)
 have:=jQ O Q
 rw[kV] at this;cases this
def Gp(l:List Aj)(Bl:List Int):Nat->List Int
 |0=>[]
 |i+1=>Gp l Bl i++[FB l Bl i ((l[i]?.map Aj.At).getD ⟨0,0⟩) 4]
def OU(l:List Aj)(Bl:List Int): ∀n,(Gp l Bl n).length=n
 |0=>rfl
 |n+1=>by simp only[Gp,CS,OU l Bl n,SN]
def wB(l:List Aj)(Bl:List Int): ∀(n i:Nat),i<n->(Gp l Bl n)[i]? =some (FB l Bl i ((l[i]?.map Aj.At).getD ⟨0,0⟩) 4)
 |n+1,i,h=>by
  simp only[Gp];by_cases c:i=n
  .subst c;rw[Fe (by rw[OU];omega),OU];simp
  .rw[Eh (by rw[OU];omega)];exact wB l Bl n i (by omega)
def outS_.fv(a:(List Aj)×(List Int)):List Int:=(λl Bl=>Gp l Bl l.length) (a.1) (a.2)
def outS_.row:AO:=vK (b2 (qS Aj.d_le Aj.c_n) (qS Ez Dy)) (rS Ez Dy) (λa=>(a.1.map Aj.At).Nodup/\(∀o∈a.1,GZ o.At)/\a.2.length=a.1.length/\a.1.length<=500) outS_.fv
def outS_.q:=B2 (R:=outS_.row) rfl
def eJ:=J @outS_.fv.eq_1<|J @l01Step.q<|J @l01Step.fv.eq_1<|J @Opposite_.q @Opposite_.fv.eq_1
def outS_.ok:AS 109 outS_.row:=by
 refine vw (tC l01Step.ok (tC Opposite_.ok tN)) Tryz.func109 ?_;intro a ab;simp only[Tryz.f109,Option.getD];simp only[ZZ,simprocAttr,Ab,eJ];obtain⟨l,Bl⟩:=a;obtain⟨h1,h2,h3,h4⟩:=ab;simp only at h1 h2 h3 h4⊢;refine Bc.ren ⟨{i:Nat//i<=l.length},λi=>⟨[(6,.im (.int .i64 i.1)),(5,.own 2),(0,.im (.sl false 3 (l.map Aj.c))),(1,.im (.sl false 1 (Bl.map Af)))],[(2,(true,.arr 2 1 ((Gp l Bl i.1).map Af)))],3⟩,λi=>l.length - i.1,λi=>⟨by simp[ZG],by simp⟩,⟨⟨0,Cx _⟩,[(2,some 1)],?_⟩,λi=> ?_⟩
 .simp only[Ao];simp only[ZZ,simprocAttr,Ab,eJ,AU,AT,Gp,BY]
  try simp
 obtain⟨i,hi⟩:=i;simp only[ZZ,simprocAttr,Ab,eJ,sub,AQ];intro _;refine⟨λz=> ?_,λz=> ?_⟩;rotate_left
 .obtain rfl:i=l.length:=by omega
  rfl
 obtain⟨o,ho⟩: ∃o,l[i]? =some o:=⟨_,Bk z⟩;have ad:=h2 o (Bd ho);refine Bc.old ⟨{d:Nat//d<=4},λd=>⟨[(8,.im (.int .i64 d.1)),(7,.im (.int .i64 (FB l Bl i o.At d.1))),(6,.im (.int .i64 i)),(5,.own 2),(0,.im (.sl false 3 (l.map Aj.c))),(1,.im (.sl false 1 (Bl.map Af)))],[(2,(true,.arr 2 1 ((Gp l Bl i).map Af)))],3⟩,λd=>4 - d.1,λd=>⟨by simp[ZG],by simp⟩,⟨⟨0,Cx _⟩,by simp only[ZZ,simprocAttr,Ab,eJ,sub,FB]⟩,λd=> ?_⟩;obtain⟨d,hd⟩:=d;simp only[ZZ,simprocAttr,Ab,eJ,sub,AQ];refine⟨λac=> ?_,λac=> ?_⟩;rotate_left
 .obtain rfl:d=4:=by omega
  refine⟨by simp[B7,B8,D.one],by rw[OU];omega,⟨i+1,by omega⟩,[(2,some 4)],by simp only;omega,?_⟩;simp only[Ao];simp only[ZZ,simprocAttr,Ab,eJ,AU,AT];refine⟨by rw[AF (by omega) (by omega)];omega,?_⟩;simp[Gp,ho,Af]
 refine⟨z,λx hx=> ?_⟩;obtain rfl:o=x:=A8 (ho.symm.trans hx);refine⟨⟨ad,by omega⟩,?_⟩;have ai:=V5 l Bl i o.At d;have Q:d<4:=by omega
 have aj:=gM Q;refine Bc.old ⟨{k:Nat//i+1<=k/\k<=l.length},λk=>⟨[(10,.im (.int .i64 k.1)),(9,.ptr 3 0),(8,.im (.int .i64 d)),(7,.im (.int .i64 (FB l Bl i o.At d+BR (ES l Bl i o.At d k.1) d))),(6,.im (.int .i64 i)),(5,.own 2),(0,.im (.sl false 3 (l.map Aj.c))),(1,.im (.sl false 1 (Bl.map Af)))],[(3,(true,.cells 50 ((Ac.c (Bv o.At d)).map .im))),(2,(true,.arr 2 1 ((Gp l Bl i).map Af)))],4⟩,λk=>l.length - k.1,λk=>⟨by simp[ZG,Ac.c],by simp⟩,⟨⟨i+1,by omega⟩,?_⟩,λk=> ?_⟩
 .simp only[ZZ,simprocAttr,Ab,eJ,sub,V4 (AW _),BR];exact⟨by rw[AF (by omega) (by omega)];omega,by simp⟩
 obtain⟨k,ag,ah⟩:=k;simp only[ZZ,simprocAttr,Ab,eJ,sub,AQ];intro _;have G:k<l.length->IntKind.i64.wrap ((k:Int)+1)=((k+1:Nat):Int):=λh=>by rw[AF (by omega) (by omega)];omega
 have af:=Tj (ES l Bl i o.At d k) d;have aa:ouC l Bl i o.At d k≠true->FB l Bl i o.At d+BR (ES l Bl i o.At d k) d=FB l Bl i o.At d+BR (ES l Bl i o.At d (k+1)) d:=λh=>by
  rw[wC h1,Ad h,Zfu]
 refine⟨λZ=>⟨Z,λy hy=>⟨λc1=>⟨by omega,λv hv=>⟨by omega,by omega,λc2=>⟨⟨k+1,by omega⟩,by simp only;omega,G Z,?_⟩,λc2=>⟨⟨k+1,by omega⟩,by simp only;omega,G Z,?_⟩⟩⟩,λc1=>⟨⟨k+1,by omega⟩,by simp only;omega,G Z,?_⟩⟩⟩,λZ=>⟨⟨d+1,by omega⟩,by simp only;omega,by rw[AF (by omega) (by omega)];simp only;omega,?_⟩⟩
 .rw[KU] at c1;have O:ouC l Bl i o.At d k=true:=Jn.2 ⟨by omega,by rw[hy,CR,c1],by rw[hv,AJ];simp only[DR,BA];exact c2⟩;simp only;rw[iP Q,wC h1,Ak O,AF (by omega) (by omega),Int.add_assoc]
 .refine aa λO=>c2 ?_
  have:=(Jn.1 O).2.2
  rw[hv,AJ] at this;simp only[DR,BA] at this;exact this
 .refine aa λO=>c1 ?_
  have:=(Jn.1 O).2.1
  rw[hy,CR] at this;rw[KU];exact A8 this
 .obtain rfl:k=l.length:=by omega
  rfl
def keep0(p:Ac)(m:Int)(x:Ar):(!(x.At.X==p.X && x.At.Y==p.Y))=E5 p m 0 x:=by
 simp only[E5];rw[Xq];have h:=KU (p:=x.At) (q:=p);simp only[K5,BA,ne_eq];rw[<-h];simp[lU]
def witS_.fv(a:Al×Ac×Int):Al:=(G6) (a.1) (a.2.1) (a.2.2)
def witS_.row:AO:=vK (b3 (qP 1 Al.d_le) (qR Ac.d_le) qI) (rA Al.d_le) (λa=>GZ a.2.1/\0<=a.2.2/\a.2.2<=1000000/\a.1.Tiles.length<=1000000) witS_.fv
def witS_.q:=B2 (R:=witS_.row) rfl
def lQ:=J @witS_.fv.eq_1 (J @l01Step.q @l01Step.fv.eq_1)
def witS_.ok:AS 111 witS_.row:=by
 refine vw (tC l01Step.ok tN) Tryz.func111 ?_;intro a Z;simp only[Tryz.f111,Option.getD];simp only[ZZ,simprocAttr,Ab,lQ];obtain⟨a,p,m⟩:=a;obtain⟨h1,h2,h3,h4⟩:=Z;simp only at h1 h2 h3 h4⊢;refine Bc.ren ⟨{i:Nat//i<=a.Tiles.length},λi=>⟨[(8,.im (.int .i64 i.1)),(7,.ptr 3 0),(6,.ptr 2 0),(4,.ptr 1 0),(0,.ptr 0 0),(2,.im (.int .i64 m))],[(4,(true,.arr 136 3 (((a.Tiles.take i.1).filter (E5 p m 4)).map Ar.c))),(3,(true,.cells 30 [.own 4])),(2,(true,.cells 30 [.im (.sl true 0 [])])),(1,(true,.cells 50 [.im (.int .i64 p.X),.im (.int .i64 p.Y)])),(0,(false,.view (Al.c a)))],5⟩,λi=>a.Tiles.length - i.1,λi=>⟨by simp[ZG],by simp⟩,⟨⟨0,Cx _⟩,[(4,none)],?_⟩,λi=> ?_⟩
 .simp only[Ao];simp only[ZZ,simprocAttr,Ab,lQ,AU,AT,Fh,rQ,BY]
  try simp
 obtain⟨i,hi⟩:=i;simp only[ZZ,simprocAttr,Ab,lQ,sub,AQ];intro _;refine⟨λz=>⟨z,λx hx=> ?_⟩,λz=> ?_⟩;rotate_left
 .rw[GE (by omega)];rfl
 refine Bc.old ⟨{d:Nat//d<=4},λd=>⟨[(10,.im (.int .i64 d.1)),(9,.im (.bool (E5 p m d.1 x))),(8,.im (.int .i64 i)),(7,.ptr 3 0),(6,.ptr 2 0),(4,.ptr 1 0),(0,.ptr 0 0),(2,.im (.int .i64 m))],[(4,(true,.arr 136 3 (((a.Tiles.take i).filter (E5 p m 4)).map Ar.c))),(3,(true,.cells 30 [.own 4])),(2,(true,.cells 30 [.im (.sl true 0 [])])),(1,(true,.cells 50 [.im (.int .i64 p.X),.im (.int .i64 p.Y)])),(0,(false,.view (Al.c a)))],5⟩,λd=>4 - d.1,λd=>⟨by simp[ZG],by simp⟩,⟨⟨0,Cx _⟩,?_⟩,λd=> ?_⟩
 .simp only[ZZ,simprocAttr,Ab,lQ,sub,keep0 p m x]
  try simp
 obtain⟨d,hd⟩:=d;simp only[ZZ,simprocAttr,Ab,lQ,sub,AQ];have G:IntKind.i64.wrap ((d:Int)+1)=((d+1:Nat):Int):=by rw[AF (by omega) (by omega)];omega
 simp only[<-U3];refine⟨λaa=>⟨λc1=>⟨z,λy hy=>⟨⟨h1,by omega⟩,λO=>⟨⟨d+1,by omega⟩,by simp only;omega,G,?_⟩,λO=>⟨⟨d+1,by omega⟩,by simp only;omega,G,?_⟩⟩⟩,λc1=>⟨⟨d+1,by omega⟩,by simp only;omega,G,?_⟩⟩,λaa=> ?_⟩
 .obtain rfl:x=y:=A8 (hx.symm.trans hy);rw[KU] at O;simp[E5,c1,O]
 .obtain rfl:x=y:=A8 (hx.symm.trans hy);rw[KU] at O;simp[E5,c1,O]
 .rw[RE] at c1;simp[E5,c1]
 .obtain rfl:d=4:=by omega
  have ab:((a.Tiles.take i).filter (E5 p m 4)).length<=a.Tiles.length:=DO (Zdp _ _) (by simp;omega);have Q:IntKind.i64.wrap ((i:Int)+1)=((i+1:Nat):Int):=by rw[AF (by omega) (by omega)];omega
  refine⟨λc1=>⟨z,λy hy=>⟨by simp[B7,B8,D.one],by omega,⟨i+1,by omega⟩,[(4,some 6)],by simp only;omega,?_⟩⟩,λc1=>⟨⟨i+1,by omega⟩,[(4,some 4)],by simp only;omega,?_⟩⟩
  .obtain rfl:x=y:=A8 (hx.symm.trans hy);simp only[Ao];simp only[ZZ,simprocAttr,Ab,lQ,AU,AT];refine⟨Q,?_⟩;rw[K4 hx,sA,ZdX c1];simp[Ar.c]
  .simp only[Ao];simp only[ZZ,simprocAttr,Ab,lQ,AU,AT];refine⟨Q,?_⟩;rw[K4 hx,sA,rH c1];simp
def NF{s:An}: ∀(l:List Aj) (b:Al) (i:Nat),Fz s b l->Dr s b l i=(Ax b l,0,0)
 |[],_,_,_=>rfl
 |o::r,b,i,h=>by
  have h0:=h 0 o rfl;simp only[Fh,Ax] at h0;simp only[Dr];rw[Ad (by rw[h0.1];simp),Ad (by omega),NF r _ (i+1) λk o' z=>h (k+1) o' z];rfl
def nC:Option (Int×Aj)->Int×Ac
 |none=>(0,⟨0,0⟩)
 |some (k,o)=>(k,o.At)
def vZ{A:Type}{g:Nat->Option A}{n i:Nat}{r:A}(G:i<n)(h:GH g (n - i) i=GH g n 0)(z:g i=some r):GH g n 0=some r:=by
 rw[<-h,show n - i=(n - i - 1)+1 by omega];simp only[GH,z,Zfr]
def Uk{A:Type}{g:Nat->Option A}{n i:Nat}(G:i<n)(h:GH g (n - i) i=GH g n 0)(z:g i=none):GH g (n - (i+1)) (i+1)=GH g n 0:=by
 rw[<-h,show n - i=(n - (i+1))+1 by omega];simp only[GH,z,rU]
def ZD{A:Type}{g:Nat->Option A}{n:Nat}(h:GH g (n - n) n=GH g n 0):GH g n 0=none:=by
 rw[<-h,I6];rfl
def aZ(b:Al)(p:Ac)(t:Int):(Ci b p t).Tiles.length<=b.Tiles.length+1:=by
 rw[YE];exact Zfi (by rw[(qO ⟨p,t⟩ b.Tiles).length_eq,Dp])
def Ym{s:An}: ∀(l:List Aj) (b:Al),b.Tiles.length<=500->Fz s b l->(Ax b l).Tiles.length<=500
 |[],_,h,_=>h
 |o::r,b,h,hp=>by
  have h0:=(hp 0 o rfl).2;simp only[Fh,Ax] at h0;have G:=aZ b o.At o.Tile;exact Ym r _ (by omega) λk o' z=>hp (k+1) o' z
def fltS_.fv(a:An×(List Aj)):Int×Ac:=(λs l=>nC (CK s l)) (a.1) (a.2)
def fltS_.row:AO:=vK (b2 (qP 4 An.d_le) (qS Aj.d_le Aj.c_n)) (r2 rI (rA Ac.d_le)) (λa=>Cw a.1 a.2/\a.1.Seed.Tiles.length<=500) fltS_.fv
def fltS_.q:=B2 (R:=fltS_.row) rfl
def YaN:=J @fltS_.fv.eq_1<|J @l10Inputs.q<|J @l10Inputs.fv.eq_1<|J @outS_.q<|J @outS_.fv.eq_1<|J @l08Play.q<|J @l08Play.fv.eq_1<|J @witS_.q<|J @witS_.fv.eq_1<|J @atQ_.q<|J @atQ_.fv.eq_1<|J @opsS_.q @opsS_.fv.eq_1
def fltS_.ok:AS 58 fltS_.row:=by
 refine vw (tC l10Inputs.ok (tC outS_.ok (tC l08Play.ok (tC witS_.ok (tC atQ_.ok (tC opsS_.ok tN)))))) Tryz.func58 ?_;intro a aa;simp only[Tryz.f58,Option.getD];simp only[ZZ,simprocAttr,Ab,YaN];obtain⟨s,l⟩:=a;simp only at aa⊢;obtain⟨⟨q1,q2,q3,q4,q5,q6⟩,q7⟩:=aa;have ai:=KO q5;have ac:=Ym l s.Seed q7 q5;have af: ∀o∈l,GZ o.At:=λo G=>by
  obtain⟨k,hk⟩:=EK.1 G;exact (D8 (q5 k o hk).1).2.1
 have am:Dr s s.Seed l 0=(Ax s.Seed l,0,0):=NF l s.Seed 0 q5;refine⟨⟨q1,q2,q3,q4,q5,q6⟩,⟨ai,af,Ik ..,q6⟩,⟨q1,q2,q3,q4⟩,?_⟩;rw[am];simp only;have O:CA s.Set (Ax s.Seed l):=by
  have:=DI q3 q2 q5 l.length (AW _)
  rwa [EW] at this
 obtain⟨e,he⟩: ∃e,e=Ax s.Seed l:=⟨_,rfl⟩;obtain⟨Bl,hins⟩: ∃Bl,Bl=BH s s.Seed l:=⟨_,rfl⟩;obtain⟨Q,hsms⟩: ∃Q,Q=Dd s s.Seed l:=⟨_,rfl⟩;rw[<-he] at O ac;have ao:Q.length=l.length:=by rw[hsms,XM]
 have ab: ∀i o,l[i]? =some o->IE s l i=IB s Q o i (decide ((EF s (Ba (G6 e o.At (FB l Bl i o.At 4))) o.At s.Set.Tiles.length).length≠1)):=λi o G=>by
  simp only[IE,G,GG,<-he,<-hins,<-hsms]
 have ag:CK s l=(GH (IE s l) l.length 0).or (endO (Bi s e)):=by rw[he];rfl
 rw[ag];simp only[<-hins,<-hsms,<-he];refine Bc.old ⟨{i:Nat//i<=l.length/\GH (IE s l) (l.length - i) i=GH (IE s l) l.length 0},λi=>⟨[(12,.im (.int .i64 i.1)),(9,.ptr 2 0),(8,.im (.sl false 1 ((Gp l Bl l.length).map Af))),(7,.im (.sl false 1 (Q.map Af))),(4,.im (.int .i64 0)),(5,.ptr 1 0),(0,.ptr 0 0),(1,.im (.sl false 3 (l.map Aj.c)))],[(2,(true,.cells 30 [.im (.sl false 3 (e.Tiles.map Ar.c))])),(1,(true,.cells 50 [.im (.int .i64 0),.im (.int .i64 0)])),(0,(false,.view (An.c s)))],3⟩,λi=>l.length - i.1,λi=>⟨by simp[ZG],by simp⟩,⟨⟨0,Cx _,rfl⟩,by simp only[ZZ,simprocAttr,Ab,YaN,sub]⟩,λi=> ?_⟩;obtain⟨i,hi,Z⟩:=i;simp only[ZZ,simprocAttr,Ab,YaN,sub,AQ];intro _;refine⟨λz=>⟨by omega,λv hv=>⟨λc1=>⟨z,λo G=> ?_⟩,λc1=>⟨z,λo G=>⟨by rw[OU];exact z,λm hm=> ?_⟩⟩⟩⟩,λz=> ?_⟩
 .have hg:IE s l i=some (1,o):=by
   rw[ab i o G];simp only[IB,hv,AJ];rw[Ak c1]
  rw[vZ z Z hg];rfl
 .rw[wB l Bl l.length i z,G] at hm;obtain rfl:=A8 hm;simp only[CR,AJ];have ah:=V5 l Bl i o.At 4;have ad:=af o (Bd G);have an:=LY O o.At (FB l Bl i o.At 4);refine⟨⟨ad,ah.1,by omega,by omega⟩,z,λo2 aj=> ?_⟩;obtain rfl:o=o2:=A8 (G.symm.trans aj);refine⟨⟨q1,an,ad,by omega⟩,λ_=>⟨λc2=>⟨z,λo3 ak=> ?_⟩,λc2=>⟨⟨i+1,by omega,?_⟩,by simp only;omega,by rw[AF (by omega) (by omega)];simp only;omega⟩⟩⟩
  .obtain rfl:o=o3:=A8 (G.symm.trans ak);rw[Mt _ _ e] at c2;have hg:IE s l i=some (2,o):=by
    rw[ab i o G];simp only[IB,hv,AJ];rw[Ad c1,Ak (by simp only[BA];omega)]
   rw[vZ z Z hg];rfl
  .rw[Mt _ _ e] at c2;refine Uk z Z ?_;rw[ab i o G];simp only[IB,hv,AJ];rw[Ad c1,Ad (by simp only[BA];omega)]
 .obtain rfl:i=l.length:=by omega
  rw[ZD Z,rU];refine⟨⟨q1,O,ac,by omega⟩,λ_=>⟨λc=>⟨c,λo G=> ?_⟩,λc=> ?_⟩⟩
  .cases hL:Bi s e with
   |nil=>rw[hL] at G;cases G
   |cons x r=>
    rw[hL] at G;obtain rfl:x=o:=by simpa using G
    rfl
  .have:Bi s e=[]:=Pv.1 (by omega)
   rw[this];rfl
def sdL(a:List Tile)(i:Nat):List Int:=(a[i]?.map Tile.Sides).getD []
def tlK(a:List Tile)(k:Int):Nat->Int
 |0=>k
 |i+1=>tlK a k i+1+(sdL a i).length
def mkLC.pre(a:List Tile×Int):Prop:=a.1.length<=1048576/\0<=a.2/\tlK a.1 a.2 a.1.length<=1099511627776
mutual
def uH{n:Nat}: ∀x:AV,(∀m∈x.nms,m<n)->x.bel n=true
 | .any,_=>rfl
 | .im _,_=>rfl
 | .agg z,h=>by simp only[AV.nms] at h;simp only[AV.bel];exact KJ z h
 | .tup z,h=>by simp only[AV.nms] at h;simp only[AV.bel];exact KJ z h
 | .ptr o _,h=>by simp only[AV.bel,FG];exact h o (by simp[AV.nms])
 | .eptr o _ _,h=>by simp only[AV.bel,FG];exact h o (by simp[AV.nms])
 | .own o,h=>by simp only[AV.bel,FG];exact h o (by simp[AV.nms])
 | .mp o,h=>by simp only[AV.bel,FG];exact h o (by simp[AV.nms])
 | .ch o,h=>by simp only[AV.bel,FG];exact h o (by simp[AV.nms])
 | .it o,h=>by simp only[AV.bel,FG];exact h o (by simp[AV.nms])
 | .osl o _ _,h=>by simp only[AV.bel,FG];exact h o (by simp[AV.nms])
 | .clo _ a c,h=>by
   simp only[AV.nms,B5] at h;simp only[AV.bel,KJ a λm G=>h m (.inl G),KJ c λm G=>h m (.inr G),rV]
def KJ{n:Nat}: ∀xs:List AV,(∀m∈AE xs,m<n)->AL n xs=true
 |[],_=>rfl
 |x::r,h=>by
  simp only[AE,B5] at h;simp only[AL,uH x λm z=>h m (.inl z),KJ r λm z=>h m (.inr z),rV]
end
def uD{n:Nat}: ∀H:Au,(∀p∈H,∀m∈p.2.2.nms,m<n)->AH n H=true
 |[],_=>rfl
 |(i,(Q,e))::r,h=>by
  have z:=h _ (Ct ..);have ih:=uD r λp hp=>h p (Cs _ hp)
  cases e with
  |cells T G=>simp only[AH,ih,Er];exact KJ G (by simpa[Ah.nms] using z)
  |arrA T k rows=>
   simp only[AH,ih,Er,HN];refine λq hq=>KJ q λm O=>z m ?_
   simp only[Ah.nms];exact XJ.2 ⟨q,hq,O⟩
  |_=>simp only[AH,ih]
mutual
def N4(σ:Nat->Nat): ∀x:AV,(x.ren σ).nms=x.nms.map σ
 | .any=>rfl
 | .im _=>rfl
 | .agg z=>by simp only[AV.ren,AV.nms];exact KM σ z
 | .tup z=>by simp only[AV.ren,AV.nms];exact KM σ z
 | .ptr o _=>rfl
 | .eptr o _ _=>rfl
 | .own o=>rfl
 | .mp o=>rfl
 | .ch o=>rfl
 | .it o=>rfl
 | .osl o _ _=>rfl
 | .clo _ a c=>by simp only[AV.ren,AV.nms,KM σ a,KM σ c,Fg]
def KM(σ:Nat->Nat): ∀xs:List AV,AE (Bn σ xs)=(AE xs).map σ
 |[]=>rfl
 |x::r=>by simp only[Bn,AE,N4 σ x,KM σ r,Fg]
end
def Qafh(σ:Nat->Nat)(e:Ah): ∀m∈(e.ren σ).nms,∃j∈e.nms,m=σ j:=by
 intro m z;cases e with
 |cells T Q=>
  simp only[Ah.ren,Ah.nms,KM,BZ] at z⊢;obtain⟨j,G,rfl⟩:=z;exact⟨j,G,rfl⟩
 |arrA T k rows=>
  simp only[Ah.ren,Ah.nms] at z⊢;obtain⟨r,O,z⟩:=XJ.1 z;obtain⟨q,hq,rfl⟩:=BZ.1 O;rw[KM,BZ] at z;obtain⟨j,G,rfl⟩:=z;exact⟨j,XJ.2 ⟨q,hq,G⟩,rfl⟩
 |_=>simp[Ah.ren,Ah.nms] at z
def Te{σ:Nat->Nat}{N:Nat}(H:Au)(h: ∀p∈H,∀m∈p.2.2.nms,σ m<N):AH N (Cd σ H)=true:=by
 refine uD _ ?_;induction H with
 |nil=>intro p hp;cases hp
 |cons x r ih=>
  obtain⟨i,O,e⟩:=x;intro p hp m z;rcases BO.1 hp with rfl|hp
  .obtain⟨j,G,rfl⟩:=Qafh σ e m z;exact h _ (Ct ..) j G
  .exact ih (λp hp=>h p (Cs _ hp)) p hp m z
def UI{go:A9->Prop}{tm:List (Nat×AV)}{h:Au}{nx:Nat}{dst:Option Nat}{σ:Nat->Nat}(hσ: ∀j,σ j=nx+j){r0:AV}{H1:Au}{cnt:Nat}{u kl:List Nat}(ab:kl=[])
 (z: ∀p∈H1,p.1<cnt/\ ∀m∈p.2.2.nms,m<cnt)(hb: ∀m∈r0.nms,m<cnt)
 (aa: ∀O:Au,(∀j e,hget H1 j=some e->hget O (nx+j)=some (e.1,e.2.ren σ))->(∀m,m<nx->hget O m=hget h m)->go ((⟨tm,O,nx+cnt⟩:A9).put dst (r0.ren σ))):
 JO go ⟨tm,h,nx⟩ dst (r0.ren σ) {use:=u,kill:=kl,new:=Cd σ H1,cnt:=cnt}:=by
 subst ab;refine⟨?_,?_⟩
 .have Q:(r0.ren σ).bel (nx+cnt)=true:=by
   refine uH _ λm G=> ?_
   rw[N4,BZ] at G;obtain⟨j,hj,rfl⟩:=G
   have:=hb j hj
   rw[hσ];omega
  have Z:AH (nx+cnt) (Cd σ H1)=true:=Te _ λp hp m G=>by
   have:=(z p hp).2 m G
   rw[hσ];omega
  rw[BD.ok_nr,Q,Z,EL,EL];refine uC _ _ _ _ λp hp=> ?_
  have: ∀H:Au,(∀p∈H,p.1<cnt)-> ∀p∈Cd σ H,nx<=p.1/\p.1<nx+cnt:=by
   intro H;induction H with
   |nil=>intro _ p hp;cases hp
   |cons x r ih=>
    obtain⟨i,mu,e⟩:=x;intro hx p hp;have h1:=hx _ (Ct ..);simp only at h1;simp only[Cd,BO] at hp;rcases hp with rfl|hp
    .simp only;rw[hσ];omega
    .exact ih (λp h=>hx p (Cs _ h)) p hp
  exact this _ (λp hp=>(z p hp).1) p hp
 rw[A9.app_nr,D0];refine aa _ (λj e he=> ?_) (λm G=> ?_)
 .rw[lB,<-hσ j,uO (λi j h=>by rw[hσ,hσ] at h;omega),he];rfl
 .rw[lB];cases hq:hget (Cd σ H1) m with
  |some e=>
   obtain⟨j,e0,_,h2,_⟩:=Qzm hq;rw[hσ] at h2;omega
  |none=>rfl
def AM.nw{A:Type}{ca:A->List AV}{H0:A->Au}{pre:A->Prop}{klB:Nat->Bool}{r0:A->AV}{H1:A->Au}{cnt:Nat}{args:List AV}{tm:List (Nat×AV)}{h:Au}{nx:Nat}{dst:Option Nat}{Z:A9->Prop}(a:A)(z:pre a)(h0:H0 a=[])
 (hx:args=Bn (λj=>nx+j) (ca a))(O: ∀p∈H1 a,p.1<cnt/\ ∀m∈p.2.2.nms,m<cnt)(hb: ∀m∈(r0 a).nms,m<cnt)
 (Q: ∀G:Au,(∀j e,hget (H1 a) j=some e->hget G (nx+j)=some (e.1,e.2.ren λj=>nx+j))->(∀m,m<nx->hget G m=hget h m)->Z ((⟨tm,G,nx+cnt⟩:A9).put dst ((r0 a).ren λj=>nx+j))):
 AM ca H0 0 pre klB r0 H1 cnt args (hget h) nx (JO Z ⟨tm,h,nx⟩ dst):=by
 have e:FW (Qs []) 0 nx=λj=>nx+j:=funext λj=>by simp[FW]
 refine AM.os a [] z (λj=>by rw[h0];simp[Av,hget]) rfl rfl ⟨by rw[e];exact hx,by rw[h0];trivial⟩ ?_;rw[e];exact UI (λ_=>rfl) rfl O hb Q
def vF.call{A:Type}{ar:List PK->Option A}{pre:A->Prop}{re:A->D}{args:List AV}{tm:List (Nat×AV)}{h:Au}{nx:Nat}{dst:Option Nat}{Q:A9->Prop}(ps:List PK)(O:DT (hget h) args=some ps)(a:A)(Z:ar ps=some a)(z:pre a)
 (G:Q ((⟨tm,h,nx⟩:A9).put dst (.im (re a)))):Pg ar pre re args (hget h) nx (JO Q ⟨tm,h,nx⟩ dst):=by
 unfold Pg;rw[O];simp only[Y4,Z,Fj];refine⟨z,?_,?_⟩
 .rw[BD.ok_nr];simp[AV.bel,AH,Jx]
 .rw[A9.app_nr,D0,Xx];exact G
def tsK(a:AI×Int):Int:=a.2+2*a.1.Glues.length
def mkTS.pre(a:AI×Int):Prop:=0<=a.2/\a.1.Tiles.length<=1048576/\tlK a.1.Tiles (tsK a) a.1.Tiles.length<=1099511627776
def syK(a:An×Int):Int:=tlK a.1.Set.Tiles (tsK (a.1.Set,a.2)) a.1.Set.Tiles.length
def mkSy.pre(a:An×Int):Prop:=0<=a.2/\a.1.Set.Tiles.length<=1048576/\syK a+3*a.1.Seed.Tiles.length<=1099511627776
def sdSum(a:List Tile):Nat:=(a.map λx=>x.Sides.length).sum
structure SysB(s:An):Prop where
 g:s.Set.Glues.length<=1048576
 t:s.Set.Tiles.length<=1048576
 d:sdSum s.Set.Tiles<=1048576
 p:s.Seed.Tiles.length<=1048576
structure SG(h:Nat->Option Aq)(g t p f:Nat)(s:An):Prop where
 g:h g=some (true,.arr 133 2 (s.Set.Glues.map AG.c))
 t:h t=some (true,.arrA 135 2 (tlB f s.Set.Tiles))
 p:h p=some (true,.arr 136 3 (s.Seed.Tiles.map Ar.c))
 f: ∀i,i<s.Set.Tiles.length->h (f+i)=some (tlF s.Set.Tiles i)
def vN.call{A:Type}{ar:List PK->Option A}{pre:A->Prop}{re:A->D}{args:List AV}{tm:List (Nat×AV)}{h:Au}{nx:Nat}{dst:Option Nat}{Q:A9->Prop}(ps:List PK)(O:RL (hget h) args=some (ps,[]))(a:A)(Z:ar ps=some a)(z:pre a)
 (G:Q ((⟨tm,h,nx⟩:A9).put dst (.im (re a)))):FY ar pre re args (hget h) nx (JO Q ⟨tm,h,nx⟩ dst):=by
 unfold FY;rw[O];simp only[gB,Z,Fj,X0];refine⟨z,?_,?_⟩
 .rw[BD.ok_nr];simp[AV.bel,AH,Jx]
 .rw[A9.app_nr,D0,Xx];exact G
def intR(l:List Int)(k:Int):a2 (kS Dj) kI [.val (.sl false 1 (l.map Af)),.val (.int .i64 k)]=some (l,k):=by simp only[a2,kS,kI,Kt XQ,GG]
def SG.mono{h h':Nat->Option Aq}{g t p f:Nat}{s:An}(hs:SG h g t p f s)(z: ∀m,(m=g\/m=t\/m=p\/(f<=m/\m<f+s.Set.Tiles.length))->h' m=h m):SG h' g t p f s:=
 ⟨by rw[z g (.inl rfl)];exact hs.g,by rw[z t (.inr (.inl rfl))];exact hs.t,by rw[z p (.inr (.inr (.inl rfl)))];exact hs.p,λi G=>by rw[z _ (.inr (.inr (.inr ⟨by omega,by omega⟩)))];exact hs.f i G⟩
def pk2{h:Nat->Option Aq}{x y:AV}{p q:PK}(z:Hm h x=some p)(G:Hm h y=some q):DT h [x,y]=some [p,q]:=by simp only[DT,z,G,Jk]
def fQ{h:Nat->Option Aq}{o T k:Nat}{z:Bool}{rows:List (List D)}(g:h o=some (z,.arr T k rows)):Hm h (.own o)=some (.val (.sl false k rows)):=by simp only[Hm,bk,g,eE,IP,CR]
def uK: ∀l:List Nat,K3 l []=true
 |[]=>rfl
 |x::r=>by simp[K3,uK r]
def Sd:List Fp->Bool
 |[]=>true
 |f::r=>f.touch.isEmpty && Sd r
def uG(cl:List (List Nat))(i:Nat)(use:List Nat): ∀acc:List Fp,Sd acc=true->Jm cl i use [] [] acc=true
 |[],_=>rfl
 |f::r,h=>by
  simp only[Sd,AZ,List.isEmpty_iff] at h;simp only[Jm,sI,h.1,CQ,uK,K3,Hl,rV,CJ,uG cl i use r h.2]
def Nb(π:List (Nat×Option Nat)): ∀a b:Au,Fl π (a++b)=Fl π a++Fl π b
 |[],_=>rfl
 |(n,_)::r,b=>by simp only[CP,Fl,Nb π r b]
def gS: ∀a b:List (Option Nat),CT a=true->CT b=true->(∀m,some m∈a->some m∉b)->CT (a++b)=true
 |[],_,_,h,_=>h
 |none::r,b,z,O,G=>by
  simp only[CP,CT] at z⊢;exact gS r b z O λm Q=>G m (Cs _ Q)
 |some x::r,b,z,O,G=>by
  simp only[CP,CT,AZ,K5,ZdM,B5,HZ] at z⊢;refine⟨λh=> ?_,gS r b z.2 O λm Q=>G m (Cs _ Q)⟩;rcases h with h|h
  .exact z.1 h
  .exact G x (Ct ..) h
def Se{lo:Nat}{π:List (Nat×Option Nat)}{s:A9}{tm:List (Nat×AV)}{A:Au}{b n nx:Nat}{f:Nat->Aq}(g:Nat->Nat)(aa:JL lo π)(hA:CT (Fl π A)=true)(z: ∀i,i<n->pm π (b+i)=some (g i))(hg: ∀i j,i<n->j<n->g i=g j->i=j)
 (hd: ∀m,some m∈Fl π A-> ∀i,i<n->g i≠m)(hT:Jw π s tm)(Z:Gf π s A)(hE: ∀i,i<n->Du s π (f i).1 (f i).2 (some (g i))):Ao lo π s ⟨tm,A++B4 b n f,nx⟩:=by
 have e:Fl π (B4 b n f)=(List.range n).map λi=>pm π (b+i):=by
  rw[kK,cY,Xw];rfl
 refine⟨aa,?_,hT,?_⟩
 .simp only;rw[Nb,e];refine gS _ _ hA (kW _ _ List.nodup_range λx O y Q m h1 h2=> ?_) λm hm h=> ?_
  .have O:=CX.1 O;have Q:=CX.1 Q;rw[z x O] at h1;rw[z y Q] at h2;exact hg x y O Q (A8 (h1.trans h2.symm))
  .obtain⟨i,G,h⟩:=BZ.1 h;have G:=CX.1 G;rw[z i G] at h;exact hd m hm i G (A8 h)
 .simp only;rw[Qns];exact⟨Z,(jY _ _ _ _ _).2 λi G=>by rw[z i G];exact hE i G⟩
def gR{N b n:Nat}{f:Nat->Aq}{tm:List (Nat×AV)}{A:Au}(O:C4 N tm=true)(z:AH N A=true)(G:Cz N A=true)(hf: ∀i,AH N [(b+i,f i)]=true)(h:b+n<=N):A9.good ⟨tm,A++B4 b n f,N⟩=true:=by
 simp only[A9.good,qE,Qmd,O,z,G,EL,AZ];exact⟨kJ _ _ _ hf _,cU _ _ _ _ h⟩
def Sg{b n k:Nat}{f:Nat->Aq}(h:k<b\/b+n<=k):Cg (B4 b n f) [k]=B4 b n f:=Qadi _ _ _ _ λx z=>by rw[BN] at z;subst z;exact h
mutual
def ZE(H:Au): ∀x:AV,x.fzA [] H=x
 | .own n=>rfl
 | .agg z=>by simp only[AV.fzA,XS H z]
 | .any=>rfl
 | .im d=>rfl
 | .tup z=>rfl
 | .ptr o p=>rfl
 | .eptr o i p=>rfl
 | .mp o=>rfl
 | .ch o=>rfl
 | .it o=>rfl
 | .osl o a n=>rfl
 | .clo f a c=>rfl
def XS(H:Au): ∀xs:List AV,CF [] H xs=xs
 |[]=>rfl
 |x::r=>by simp only[CF,ZE H x,XS H r]
end
def gV(H:Au): ∀xs:List (List AV),CL [] H xs=xs
 |[]=>rfl
 |x::r=>by simp only[CL,XS H x,gV H r]
def gT(H:Au): ∀X:Au,FQ [] H X=X
 |[]=>rfl
 |(n,(z,e))::r=>by
  have:e.fzA [] H=e:=by cases e<;>simp only[Ah.fzA,XS,gV]
  simp only[FQ,this,gT H r,eS,Xs,Er]
def totI(M:List (List Int)):Nat:=(M.map List.length).sum
def mkSS.pre(a:List (List Int)×Int):Prop:=a.1.length<=1048576/\0<=a.2/\a.2+totI a.1<=1099511627776
structure gA(h:Nat->Option Aq)(o b:Nat)(M:List (List Int)):Prop where
 r:h o=some (true,.arrA 37 1 (C3 b M.length))
 f: ∀i,i<M.length->h (b+i)=some (true,.arr 2 1 ((M[i]?.getD []).map Af))
def gA.mono{h h':Nat->Option Aq}{o b:Nat}{M:List (List Int)}(hs:gA h o b M)(z: ∀m,(m=o\/(b<=m/\m<b+M.length))->h' m=h m):gA h' o b M:=
 ⟨by rw[z o (.inl rfl)];exact hs.r,λi G=>by rw[z _ (.inr ⟨by omega,by omega⟩)];exact hs.f i G⟩
def Dm(z:List Int):Nat->Int
 |0=> -1
 |i+1=>if Dm z i<0\/(z[(Dm z i).toNat]?).getD 0<(z[i]?).getD 0 then (i:Int) else Dm z i
def LV(z:List Int): ∀i,-1<=Dm z i/\Dm z i<(i:Int)/\(0<i->0<=Dm z i)
 |0=>by simp[Dm]
 |i+1=>by
  obtain⟨G,O,Q⟩:=LV z i;simp only[Dm];split
  .omega
  .rename_i c;omega
def IM(p:Int->Bool):List Int->Int
 |[]=> -1
 |x::r=>if p x=true then x else IM p r
def OP(p:Int->Bool): ∀l:List Int,(IM p l= -1/\ ∀x∈l,p x=false)\/(IM p l∈l/\p (IM p l)=true)
 |[]=> .inl ⟨rfl,by simp⟩
 |x::r=>by
  simp only[IM];by_cases c:p x=true
  .rw[Ak c];exact .inr ⟨Ct ..,c⟩
  .rw[Ad c];rcases OP p r with ⟨z,G⟩|⟨z,G⟩
   .exact .inl ⟨z,λy O=>by
     rcases BO.1 O with rfl|O
     .simpa using c
     .exact G y O⟩
   .exact .inr ⟨Cs _ z,G⟩
def H3(z:List Int)(a:Nat)(k:Int):Bool:=decide ((z[k.toNat]?).getD 0=(z[a]?).getD 0 - 1)
def Fw(nd:List (List Int))(z:List Int)(a:Nat):Int:=IM (H3 z a) ((nd[a]?).getD [])
def Ic(nx:Nat->Int):Nat->Int->List Int->List Int
 |0,_,out=>out
 |f+1,a,out=>if a<0 then out else Ic nx f (nx a.toNat) (a::out)
def T1(nd:List (List Int))(z:List Int):List Int:=Ic (Fw nd z) (z.length+1) (Dm z z.length) []
def N8{nd:List (List Int)}(h:Gm nd)(z:List Int){a:Nat}(O:a<nd.length): -1<=Fw nd z a/\Fw nd z a<(a:Int):=by
 obtain⟨own,ho⟩: ∃own,nd[a]? =some own:=⟨_,Bk O⟩;simp only[Fw,ho,AJ];rcases OP (H3 z a) own with ⟨G,_⟩|⟨G,_⟩
 .omega
 .have:=h.2 a own ho _ G
  omega
def FI(nd:List (List Int)): ∀n i,i<n->(AB nd n)[i]? =some (Ih (AB nd i) ((nd[i]?).getD []) ((nd[i]?).getD []).length+1)
 |0,i,h=>by omega
 |n+1,i,h=>by
  simp only[AB];by_cases z:i<n
  .rw[Eh (by rw[Ek];exact z)];exact FI nd n i z
  .obtain rfl:i=n:=by omega
   rw[Fe (by rw[Ek];omega),Ek];simp
def Nl(nd:List (List Int)){n i k:Nat}(z:k<i)(G:i<=n):(AB nd n)[k]? =(AB nd i)[k]? :=by
 rw[FI nd n k (by omega),FI nd i k z]
def Yx(out own:List Int): ∀j,j<=own.length->(∀t,t<j->(out[((own[t]?).getD 0).toNat]?).getD 0<=Ih out own j)/\(Ih out own j=0\/ ∃t,t<j/\(out[((own[t]?).getD 0).toNat]?).getD 0=Ih out own j)
 |0,_=>⟨λt h=>by omega,.inl rfl⟩
 |j+1,h=>by
  obtain⟨G,z⟩:=Yx out own j (by omega);simp only[Ih];refine⟨λt Q=> ?_,?_⟩
  .by_cases c:t=j
   .subst c;omega
   .have:=G t (by omega);omega
  .by_cases c:Ih out own j<=(out[((own[j]?).getD 0).toNat]?).getD 0
   .exact .inr ⟨j,by omega,by omega⟩
   .rcases z with z|⟨t,z,O⟩
    .exact .inl (by omega)
    .exact .inr ⟨t,by omega,by omega⟩
def Sf{nd:List (List Int)}(h:Gm nd){a:Nat}(ha:a<nd.length):(1<((AB nd nd.length)[a]?).getD 0->0<=Fw nd (AB nd nd.length) a)/\(((AB nd nd.length)[a]?).getD 0<=1->Fw nd (AB nd nd.length) a= -1):=by
 obtain⟨own,ho⟩: ∃own,nd[a]? =some own:=⟨_,Bk ha⟩;have z:=h.2 a own ho;have e:=FI nd nd.length a ha;simp only[ho,AJ] at e;obtain⟨q1,O⟩:=Yx (AB nd a) own own.length (AW _);have ev: ∀t,t<own.length-> ∃x,own[t]? =some x/\0<=x/\x<(a:Int)/\((AB nd nd.length)[x.toNat]?).getD 0=((AB nd a)[x.toNat]?).getD 0:=λt ht=>by
  have G:own[t]? =some own[t]:=Bk ht
  have:=z _ (Bd G)
  exact⟨_,G,this.1,this.2,by rw[Nl nd (show own[t].toNat<a by omega) (by omega)]⟩
 simp only[Fw,ho,AJ,e];rcases OP (H3 (AB nd nd.length) a) own with ⟨Z,Q⟩|⟨Z,Q⟩
 .refine⟨λc=> ?_,λ_=>Z⟩;exfalso;rcases O with O|⟨t,ht,O⟩
  .omega
  .obtain⟨x,G,ab,ac,aa⟩:=ev t ht
   have:=Q x (Bd G)
   simp only[H3,e,AJ,HZ] at this;rw[G,AJ] at O;apply this;rw[aa,O];omega
 .have hn:=z _ Z;refine⟨λ_=>hn.1,λc=> ?_⟩;exfalso;simp only[H3,e,AJ,BA] at Q;have hb:=GR nd a;have e2:=FI nd a (IM (H3 (AB nd nd.length) a) own).toNat (by omega);rw[Nl nd (show (IM (H3 (AB nd nd.length) a) own).toNat<a by omega) (by omega),e2,AJ] at Q
  have:=KP (out:=AB nd (IM (H3 (AB nd nd.length) a) own).toNat) (own:=(nd[(IM (H3 (AB nd nd.length) a) own).toNat]?).getD []) (GR nd _) (by omega) ((nd[(IM (H3 (AB nd nd.length) a) own).toNat]?).getD []).length
  omega
def IJ(s:An)(l:List Aj):List Int×Int:=if (Br s l).2.2≠0 then ([],(Br s l).2.2) else (T1 (Bh s l) (AB (Bh s l) l.length),0)
def F9(l:List Int):Nat->Int
 |0=>(l[0]?).getD 0
 |i+1=>max (F9 l i) ((l[i]?).getD 0)
def gQ(l:List Int):F9 l 1=(l[0]?).getD 0:=by simp only[F9];omega
def jI(z:List Int): ∀i,0<i-> ∃t:Nat,Dm z i=(t:Int)/\t<i/\(z[t]?).getD 0=F9 z i/\ ∀j,j<i->(z[j]?).getD 0<=F9 z i/\(j<t->(z[j]?).getD 0<F9 z i)
 |0,h=>by omega
 |i+1,_=>by
  by_cases h0:i=0
  .subst h0;refine⟨0,by simp[Dm],by omega,by rw[gQ],λj Q=> ?_⟩;obtain rfl:j=0:=by omega
   rw[gQ];exact⟨Gy _,λh=>by omega⟩
  .obtain⟨t,Z,h2,h3,O⟩:=jI z i (by omega);simp only[Dm,F9,Z,B1];by_cases c:(z[t]?).getD 0<(z[i]?).getD 0
   .rw[Ak (.inr c)];refine⟨i,rfl,by omega,by omega,λj Q=> ?_⟩;by_cases G:j=i
    .subst G;exact⟨by omega,λh=>by omega⟩
    .have:=(O j (by omega)).1
     exact⟨by omega,λ_=>by omega⟩
   .rw[Ad (by omega)];refine⟨t,rfl,by omega,by omega,λj Q=> ?_⟩;by_cases G:j=i
    .subst G;exact⟨by omega,λh=>by omega⟩
    .have:=O j (by omega)
     exact⟨by omega,λh=>by have:=this.2 h;omega⟩
def cM(z:List Int)(h:0<z.length):BB (λy=>decide (F9 z z.length=y)) 0 z=Dm z z.length:=by
 obtain⟨t,Q,G,O,Z⟩:=jI z z.length h;rw[Q,Qtf _ z 0 t z[t] (Bk G) ?_ ?_,FM]
 .rw[Bk G,AJ] at O;simp[O]
 .intro i y hi hy
  have:=(Z i (by omega)).2 hi
  rw[hy,AJ] at this;simp only[HZ];omega
def maxS_.fv(a:(List Int)):Int:=(λl=>F9 l l.length) a
def maxS_.row:AO:=H5 (b1 (qS Ez Dy)) rI (λa=>1<=a.length) maxS_.fv
def maxS_.ok:AS 73 maxS_.row:=by
 refine LX tN Tryz.func73 ?_;intro a G;simp only[Tryz.f73,Option.getD];simp(disch:=omega)only[ZZ,simprocAttr,Ab,maxS_.fv,C8,D.sc,D.scs,Cm,Be];intro _;rw[Ad (by omega)];refine⟨by omega,λx Z=> ?_⟩;refine Bc.old ⟨{i:Nat//1<=i/\i<=a.length},λi=>⟨[(4,.im (.int .i64 i.1)),(3,.im (.int .i64 (F9 a i.1))),(2,.im (.int .i64 0)),(0,.im (.sl false 1 (a.map Af)))],[],0⟩,λi=>a.length - i.1,λi=>⟨by simp[ZG],by simp⟩,⟨⟨1,by omega,by omega⟩,by simp(disch:=omega)only[ZZ,simprocAttr,Ab,maxS_.fv,C8,D.sc,D.scs,Cm,Be,sub,gQ,Z,AJ]⟩,λi=> ?_⟩;obtain⟨i,O,Q⟩:=i;simp(disch:=omega)only[ZZ,simprocAttr,Ab,maxS_.fv,C8,D.sc,D.scs,Cm,Be,sub,AQ];intro _;refine⟨λz=>⟨z,λy hy=>⟨⟨i+1,by omega,by omega⟩,by simp only;omega,by rw[AF (by omega) (by omega)];simp only;omega,by simp only[F9,hy,AJ]⟩⟩,λz=> ?_⟩;obtain rfl:i=a.length:=by omega
 rfl
def idxS_.fv(a:(List Int)×Int):Int:=(λl x=>BB (λy=>decide (x=y)) 0 l) (a.1) (a.2)
def idxS_.row:AO:=H5 (b2 (qS Ez Dy) qI) rI (λa=>True) idxS_.fv
def idxS_.ok:AS 72 idxS_.row:=by
 refine LX tN Tryz.func72 ?_;intro a O;simp only[Tryz.f72,Option.getD];simp(disch:=omega)only[ZZ,simprocAttr,Ab,idxS_.fv,C8,D.sc,D.scs,Cm,Be];intro hn;refine Bc.old ⟨{k:Nat//k<=a.1.length/\BB (λy=>decide (a.2=y)) k (a.1.drop k)=BB (λy=>decide (a.2=y)) 0 a.1},λk=>⟨[(8,.im (.int .i64 k.1)),(7,.im (.int .i64 a.1.length)),(4,.im (.int .i64 0)),(0,.im (.sl false 1 (a.1.map Af))),(1,.im (.int .i64 a.2))],[],0⟩,λk=>a.1.length - k.1,λk=>⟨by simp[ZG],AW _⟩,⟨⟨0,by simp⟩,by simp(disch:=omega)only[ZZ,simprocAttr,Ab,idxS_.fv,C8,D.sc,D.scs,Cm,Be,sub]⟩,λk=> ?_⟩;obtain⟨k,Q,z⟩:=k;simp(disch:=omega)only[ZZ,simprocAttr,Ab,idxS_.fv,C8,D.sc,D.scs,Cm,Be,sub,AQ];refine⟨λG=>⟨G,λx Z=> ?_⟩,λG=> ?_⟩
 .rw[Gr Z,BB] at z;refine⟨λh=> ?_,λh=>Jo G hn ⟨by omega,by rw[<-z,Ad (by simpa using h)]⟩⟩;rw[Ak (by simpa using h)] at z;exact z
 .rw[Ei (by omega),BB] at z;exact z
def lcF1.fv(a:Int×(List Int)×Int):Bool:=(λk z a=>decide ((z[k.toNat]?).getD 0=(z[a.toNat]?).getD 0 - 1)) (a.1) (a.2.1) (a.2.2)
def lcF1.row:AO:=vK (b3 qI (qP 1 Xe) (qP 1 Ez)) rB (λa=>0<=a.1/\a.1<a.2.1.length/\0<=a.2.2/\a.2.2<a.2.1.length/\ ∀x∈a.2.1,0<=x/\x<=1000000) lcF1.fv
def lcF1.q:=B2 (R:=lcF1.row) rfl
def lcF1.ok:AS 75 lcF1.row:=by
 refine vw tN Tryz.func75 ?_;intro a z;simp only[Tryz.f75,Option.getD];simp(disch:=omega)only[ZZ,simprocAttr,Ab,lcF1.fv];obtain⟨O,Q,Z,h4,h5⟩:=z;refine⟨O,Q,λx hx=>⟨Z,h4,λy G=> ?_⟩⟩
 have:=h5 y (Bd G)
 rw[hx,G,AF (by omega) (by omega)];rfl
def IdxC_.ar:List PK->Option ((List Int)×((List Int)×Int))
 |[.val (.sl _ _ Q),.val (.fn 75 [] [.ref z,.ref [.int .i64 G]])]=>(AX Dj Q).bind λZ=>(Pm (z.take 1)).bind λO=>some (Z,(O,G))
 |_=>none
def IdxC_.ae(a:(List Int)×((List Int)×Int)):List PK:=[.val (.sl false 1 (a.1.map Af)),.val (.fn 75 [] [.ref (C9 a.2.1),.ref [.int .i64 a.2.2]])]
def IdxC_.le: ∀G a,IdxC_.ar G=some a->Cy G (IdxC_.ae a):=by
 intro G a h;unfold IdxC_.ar at h;split at h
 .simp only[F5,AP] at h;obtain⟨Q,h0,O,z,rfl⟩:=h;exact⟨E0 (Ej Ez _ _ h0) (by simp only[BZ];rintro r ⟨y,_,rfl⟩;rfl),YL ⟨Xd (Hr.trans_take (Xe _ _ z)),Le.refl _,trivial⟩,trivial⟩
 .cases h
def IdxC_.fv(a:(List Int)×((List Int)×Int)):Int:=(λl c=>BB (λk=>decide ((c.1[k.toNat]?).getD 0=(c.1[c.2.toNat]?).getD 0 - 1)) 0 l) (a.1) (a.2)
def IdxC_.row:AO:=Pg IdxC_.ar (λa=>(∀k∈a.1,0<=k/\k<a.2.1.length)/\0<=a.2.2/\a.2.2<a.2.1.length/\ ∀x∈a.2.1,0<=x/\x<=1000000) (λa=>(D.int .i64) (IdxC_.fv a))
def YaO:=J @IdxC_.ae.eq_1<|J @IdxC_.fv.eq_1<|J @lcF1.q @lcF1.fv.eq_1
def IdxC_.ok:AS 74 IdxC_.row:=by
 refine Qbn DJ (tC lcF1.ok tN) Tryz.func74 rfl (by kernel_rfl) (by kernel_rfl) (ar:=IdxC_.ar) (ae:=IdxC_.ae) IdxC_.le (n:=2) (λ_=>rfl) (by decide) (rc:=(DU)) (re:=(D.int .i64)) (RZ) (f:=IdxC_.fv) ?_;intro a G;simp only[Tryz.f74,Option.getD];simp(disch:=omega)only[ZZ,simprocAttr,Ab,YaO,C8,D.sc,D.scs,Cm,Be];intro hn;obtain⟨l,O,c⟩:=a;simp only at G hn⊢;obtain⟨h1,h2,h3,h4⟩:=G;refine Bc.old ⟨{k:Nat//k<=l.length/\BB (λk=>decide ((O[k.toNat]?).getD 0=(O[c.toNat]?).getD 0 - 1)) k (l.drop k)=BB (λk=>decide ((O[k.toNat]?).getD 0=(O[c.toNat]?).getD 0 - 1)) 0 l},λk=>⟨[(8,.im (.int .i64 k.1)),(7,.im (.int .i64 l.length)),(6,.im (.sl false 1 (l.map Af))),(4,.im (.int .i64 0)),(0,.im (.sl false 1 (l.map Af))),(1,.im (.fn 75 [] [.ref (C9 O),.ref (Af c)]))],[],0⟩,λk=>l.length - k.1,λk=>⟨by simp[ZG],AW _⟩,⟨⟨0,by simp⟩,by simp(disch:=omega)only[ZZ,simprocAttr,Ab,YaO,C8,D.sc,D.scs,Cm,Be,sub]⟩,λk=> ?_⟩;obtain⟨k,aa,z⟩:=k;simp(disch:=omega)only[ZZ,simprocAttr,Ab,YaO,C8,D.sc,D.scs,Cm,Be,sub,AQ];refine⟨λQ=>⟨Q,λx hx=> ?_⟩,λQ=> ?_⟩
 .rw[Gr hx,BB] at z;have Z:=h1 x (Bd hx);refine⟨⟨Z.1,Z.2,h2,h3,h4⟩,λh=> ?_,λh=>Jo Q hn ⟨by omega,by rw[<-z,Ad (by simpa using h)]⟩⟩;rw[Ak (by simpa using h)] at z;exact z.symm▸rfl
 .rw[Ei (by omega),BB] at z;exact z
def revI.ca(_:List Int):List AV:=[.own 0]
def revI.H0(a:List Int):Au:=[(0,(true,.arr 2 1 (a.map Af)))]
def revI.H1(a:List Int):Au:=[(0,(true,.arr 2 1 (a.reverse.map Af)))]
def revI.row:AO:=AM revI.ca revI.H0 1 (λ_=>True) (λj=>j==0) (λ_=> .im (.tup [])) revI.H1 0
def revI.ok:AS 76 revI.row:=by
 refine ow tN Tryz.func76 (exB:=λ_=>false) (R:=λ_ r=>r= .im (.tup [])) (λ_=>rfl)
  (λa=>by simp[revI.ca,revI.H0,revI.H1,AL,AV.bel,AH,Cz,Df,Ah.nms,AE,AV.nms,Av,hget]) (λa p hp=> ?_) (λa r h=>by subst h;exact ED.refl _) ?_
 rotate_left
 intro a Q;simp only[Tryz.f76,Option.getD,revI.ca,revI.H0,revI.H1];simp(disch:=omega)only[ZZ,simprocAttr,Ab,Az,revI.ca,revI.H0,revI.H1];intro aa;rw[AF (by omega) (by omega)];refine Bc.old ⟨{i:Nat//2*i<=a.length},λi=>⟨[(2,.im (.int .i64 i.1)),(3,.im (.int .i64 ((a.length:Int) - 1 - i.1))),(0,.own 0)],[(0,(true,.arr 2 1 ((EB a i.1).map Af)))],1⟩,λi=>a.length - i.1,λi=>⟨by simp[ZG],by simp⟩,⟨⟨0,by simp⟩,?_⟩,λi=> ?_⟩
 .simp(disch:=omega)only[ZZ,simprocAttr,Ab,Az,revI.ca,revI.H0,revI.H1,sub];exact⟨by omega,by rw[EB]⟩
 obtain⟨i,Z⟩:=i;have O:=yS a i;simp(disch:=omega)only[ZZ,simprocAttr,Ab,Az,revI.ca,revI.H0,revI.H1,sub,AQ,O,cV,I4];refine⟨λG=>⟨by omega,by omega,by omega,λx hx=>⟨by omega,by omega,λy hy=>⟨by omega,by omega,λz hz=>⟨by omega,by omega,by omega,λu hu=> ?_⟩⟩⟩⟩,λG=> ?_⟩
 .refine⟨⟨i+1,by omega⟩,by simp only;omega,?_⟩;have w1:IntKind.i64.wrap ((a.length:Int) - 1 - i - 1)=(a.length:Int) - 1 - i - 1:=AF (by omega) (by omega);have w2:IntKind.i64.wrap ((i:Int)+1)=(i:Int)+1:=AF (by omega) (by omega);simp only[w1,w2];refine⟨⟨by omega,by omega⟩,?_⟩;simp only[EB];rw[show a.length - 1 - i=((a.length:Int) - 1 - i).toNat by omega,hx,hy];rfl
 .rw[uQ a Z (by omega)]
 simp[revI.H1] at hp;subst hp;exact .inl ⟨by omega,rfl,rfl⟩
def F1(x:List Aj):List D:=[.sl false 3 (x.map Aj.c)]
def bZ(x:List Aj):(F1 x).length=1:=rfl
def OQ:List D->Option (List Aj)
 |[.sl _ _ rows]=>AX Aj.d rows
 |_=>none
def WA: ∀ds x,OQ ds=some x->Dh ds (F1 x):=by
 intro ds x h;unfold OQ at h;split at h
 .exact⟨E0 (Ej Aj.d_le _ _ h) (by simp[Aj.c]),trivial⟩
 .cases h
def cA(x:List Aj):OQ (F1 x)=some x:=Aj.d_R x
def Oh(l:List (List Aj)):AX OQ (l.map F1)=some l:=Kt cA l
def V1:Aj:=⟨⟨0,0⟩,0⟩
def D3(l:List Aj)(z:List Int)(q:Int):Nat->List Aj
 |0=>[]
 |i+1=>D3 l z q i++if (z[i]?).getD 0=q then [(l[i]?).getD V1] else []
def Fv(z:List Int):Nat->Int
 |0=>0
 |i+1=>max (Fv z i) ((z[i]?).getD 0)
def MZ(l:List Aj)(z:List Int)(i:Nat):List (List Aj):=(List.range (Fv z i).toNat).map λ(q:Nat)=>D3 l z ((q:Int)+1) i
def Pb(z:List Int): ∀i,0<=Fv z i
 |0=>Gy _
 |i+1=>by have:=Pb z i;simp only[Fv];omega
def H8(z:List Int): ∀i,(∀j,j<i->(z[j]?).getD 0<=Fv z i)/\(Fv z i=0\/ ∃j,j<i/\(z[j]?).getD 0=Fv z i)
 |0=>⟨λj h=>by omega,.inl rfl⟩
 |i+1=>by
  obtain⟨O,G⟩:=H8 z i;simp only[Fv];refine⟨λj Z=> ?_,?_⟩
  .by_cases c:j=i
   .subst c;omega
   .have:=O j (by omega);omega
  .by_cases c:Fv z i<=(z[i]?).getD 0
   .exact .inr ⟨i,by omega,by omega⟩
   .rcases G with G|⟨j,G,Q⟩
    .exact .inl (by omega)
    .exact .inr ⟨j,by omega,by omega⟩
def M9{l:List Aj}{z:List Int}{q:Int}: ∀n j,j<n->(z[j]?).getD 0=q->D3 l z q n≠[]
 |0,j,h,_=>by omega
 |n+1,j,h,hq=>by
  simp only[D3];by_cases c:j=n
  .subst c;rw[Ak hq];simp
  .have:=M9 (l:=l) n j (by omega) hq
   intro G;exact this (ZeZ.1 G).1
def XT{l:List Aj}{z:List Int}{q:Int}: ∀n,(∀j,j<n->(z[j]?).getD 0≠q)->D3 l z q n=[]
 |0,_=>rfl
 |n+1,h=>by
  simp only[D3];rw[XT n λj G=>h j (by omega),Ad (h n (by omega))];rfl
def uS(l:List Aj)(z:List Int)(q:Int): ∀n,(D3 l z q n).length<=n
 |0=>by simp[D3]
 |n+1=>by
  have:=uS l z q n
  simp only[D3,CS]
  split<;>simp<;>omega
def gY{nd:List (List Int)}(h:Gm nd): ∀(n i:Nat),i<n->i<nd.length-> ∀q:Int,1<=q->q<=((AB nd nd.length)[i]?).getD 0-> ∃j,j<=i/\((AB nd nd.length)[j]?).getD 0=q
 |0,i,O,_,_,_,_=>by omega
 |n+1,i,O,z,q,G,Z=>by
  by_cases c:((AB nd nd.length)[i]?).getD 0=q
  .exact⟨i,AW _,c⟩
  .have Q:=(Sf h z).1 (by omega);have hb:=N8 h (AB nd nd.length) z;obtain⟨own,ho⟩: ∃own,nd[i]? =some own:=⟨_,Bk z⟩;have hp:H3 (AB nd nd.length) i (Fw nd (AB nd nd.length) i)=true:=by
    simp only[Fw,ho,AJ] at Q⊢;rcases OP (H3 (AB nd nd.length) i) own with ⟨e,_⟩|⟨_,e⟩
    .omega
    .exact e
   simp only[H3,BA] at hp;obtain⟨j,hj,hq⟩:=gY h n (Fw nd (AB nd nd.length) i).toNat (by omega) (by omega) q G (by omega);exact⟨j,by omega,hq⟩
def XU{nd:List (List Int)}(h:Gm nd){l:List Aj}(hl:l.length=nd.length):Fv (AB nd nd.length) l.length<=nd.length/\(∀q:Nat,q<(Fv (AB nd nd.length) l.length).toNat->D3 l (AB nd nd.length) ((q:Int)+1) l.length≠[])/\
 D3 l (AB nd nd.length) (((Fv (AB nd nd.length) l.length).toNat:Int)+1) l.length=[]:=by
 obtain⟨Z,z⟩:=H8 (AB nd nd.length) l.length;have hb:=Pb (AB nd nd.length) l.length;refine⟨?_,λq hq=> ?_,XT _ λj G=> ?_⟩
 .rcases z with z|⟨j,G,z⟩
  .omega
  .rw[<-z];have O:j<(AB nd nd.length).length:=by rw[Ek];omega
   have Q:(AB nd nd.length)[j]? =some (AB nd nd.length)[j]:=Bk O
   have:=GR nd nd.length _ (Bd Q)
   rw[Q,AJ];omega
 .rcases z with z|⟨j,G,z⟩
  .omega
  .obtain⟨i,hi,he⟩:=gY h (j+1) j (by omega) (by omega) ((q:Int)+1) (by omega) (by omega);exact M9 _ i (by omega) he
 .have:=Z j G
  omega
def Gn(s:An)(l:List Aj):List (List Aj)×Int:=if (Br s l).2.2≠0 then ([],(Br s l).2.2) else (MZ l (AB (Bh s l) l.length) l.length,0)
def Dl(nd:List (List Int))(x:Int):List Int:=(nd[x.toNat]?).getD []
def rchN(nd:List (List Int))(k x:Int):Prop:= ∀S:Int->Prop,(∀y∈Dl nd k,S y)->(∀y,S y-> ∀z∈Dl nd y,S z)->S x
structure AncOk(nd:List (List Int))(k:Int)(out:List Int):Prop where
 base: ∀x∈Dl nd k,x∈out
 sub: ∀x∈out,rchN nd k x
 lt: ∀x∈out,0<=x/\x<k
def XR{nd:List (List Int)}(h:Gm nd){k x:Int}(G:0<=k)(z:x∈Dl nd k):0<=x/\x<k:=by
 simp only[Dl] at z;cases hq:nd[k.toNat]? with
 |none=>rw[hq] at z;cases z
 |some own=>
  rw[hq,AJ] at z
  have:=h.2 _ own hq x z
  omega
def pkF1{h:Nat->Option Aq}{x:AV}{p:PK}(z:Hm h x=some p):DT h [x]=some [p]:=by simp only[DT,z,Jk]
def intR1(l:List Int):a1 (kS Dj) [.val (.sl false 1 (l.map Af))]=some l:=by simp only[a1,kS,Kt XQ,GG]
def vF.callU{A:Type}{ar:List PK->Option A}{pre:A->Prop}{re:A->D}{args:List AV}{tm:List (Nat×AV)}{h:Au}{nx:Nat}{dst:Option Nat}{Q:cQ}{cl:List (List Nat)}{i:Nat}{acc:List Fp}(ps:List PK)(O:DT (hget h) args=some ps)(a:A)(Z:ar ps=some a)(z:pre a)(hq:Sd acc=true)
 (G: ∀u,u=G5 (hget h) args->Q (⟨i,u,[],nx,0⟩::acc) ((⟨tm,h,nx⟩:A9).put dst (.im (re a)))):Pg ar pre re args (hget h) nx (Nf cl i acc Q ⟨tm,h,nx⟩ dst):=by
 unfold Pg;rw[O];simp only[Y4,Z,Fj];refine⟨z,?_,?_,?_⟩
 .rw[BD.ok_nr];simp[AV.bel,AH,Jx]
 .exact uG _ _ _ _ hq
 .rw[A9.app_nr,D0,Xx];exact G _ (CQ _)
def H5.callU{A B:Type}{k:AK A}{r:RK B}{pre:A->Prop}{f:A->B}{args:List AV}{tm:List (Nat×AV)}{h:Au}{nx:Nat}{dst:Option Nat}{Q:cQ}{cl:List (List Nat)}{i:Nat}{acc:List Fp}(ps:List PK)(O:DT (hget h) args=some ps)(a:A)(Z:k.r ps=some a)(z:pre a)(hq:Sd acc=true)
 (G: ∀u,u=G5 (hget h) args->Q (⟨i,u,[],nx,0⟩::acc) ((⟨tm,h,nx⟩:A9).put dst (.im (r.e (f a))))):H5 k r pre f args (hget h) nx (Nf cl i acc Q ⟨tm,h,nx⟩ dst):=vF.callU ps O a Z z hq G
def MY(p:Int->Bool): ∀(l:List Int) (o:Nat),(∀x∈l,0<=x)->0<=IM p l-> ∃t:Nat,BB p o l=((o+t:Nat):Int)/\l[t]? =some (IM p l)
 |[],o,_,h=>by simp[IM] at h
 |x::r,o,O,h=>by
  simp only[IM,BB] at h⊢;by_cases c:p x=true
  .rw[Ak c,Ak c];exact⟨0,rfl,rfl⟩
  .rw[Ad c] at h⊢;rw[Ad c];obtain⟨t,z,G⟩:=MY p r (o+1) (λy Q=>O y (Cs _ Q)) h;exact⟨t+1,by rw[z];congr 1;omega,by rw[GD];exact G⟩
def lcI.ca(a:An×List Aj):List AV:=[.im (.agg (An.c a.1)),.im (.sl false 3 (a.2.map Aj.c))]
def lcI.H1(a:An×List Aj):Au:=[(0,(true,.arr 2 1 ((IJ a.1 a.2).1.map Af)))]
def lcI.r0(a:An×List Aj):AV:= .tup [.own 0,.im (.int .i64 (IJ a.1 a.2).2)]
def lcI.row:AO:=AM lcI.ca (λ_=>[]) 0 (λa=>R0 a.1.Set) (λ_=>false) lcI.r0 lcI.H1 20
def J1:=J @play_.q<|J @play_.fv.eq_1<|J @needs_.q @needs_.fv.eq_1
def lcI.ok:AS 26 lcI.row:=by
 refine VA (tC play_.ok (tC needs_.ok (tC levC.ok (tC maxS_.ok (tC idxS_.ok (tC IdxC_.ok (tC revI.ok tN))))))) Tryz.func26 (exB:=λj=>j==0) (R:=λa r=>r=lcI.r0 a) (λ_=>rfl)
  (λa=>by simp[lcI.ca,lcI.H1,An.c,AL,AV.bel,AH,Cz,Df,Ah.nms,AE,AV.nms,Av,hget]) (λa p hp=> ?_) (λa r h=>by subst h;exact ED.refl _) ?_
 rotate_left
 intro a ab;simp only[Tryz.f26,Option.getD,lcI.ca,lcI.H1,An.c];simp(disch:=omega)only[ZZ,simprocAttr,Ab,J1,AR,Az,lcI.ca,lcI.H1,An.c];obtain⟨s,l⟩:=a;simp only at ab⊢;refine⟨ab,?_⟩;by_cases c0:(Br s l).2.2=0
 case neg=>
  have eP:EH s l=(none,(Br s l).2.2):=by simp only[EH];rw[Ak c0]
  have Z:IJ s l=([],(Br s l).2.2):=by simp only[IJ];rw[Ak c0]
  simp only[eP];rw[Ad c0];refine⟨[],[(0,some 2)],⟨[(4,.own 0),(5,.im (.int .i64 (Br s l).2.2))],lcI.H1 (s,l),1⟩,?_,by simp[lcI.H1,ZG],by simp,?_⟩
  .simp only[Ao,lcI.H1,Z];simp(disch:=omega)only[ZZ,simprocAttr,Ab,J1,AR,Az,lcI.ca,lcI.H1,An.c,AU,AT,BY]
   try simp
  .simp(disch:=omega)only[ZZ,simprocAttr,Ab,J1,AR,Az,lcI.ca,lcI.H1,An.c,lcI.r0,Z]
 have eP:EH s l=(some ⟨s,l,(Br s l).1,BH s s.Seed l,Dd s s.Seed l⟩,0):=by
  simp only[EH];rw[Ad (λh=>h c0)]
 obtain⟨_,hp,_⟩:=Ip c0;have aa:(Bh s l).length=l.length:=E4 ..;have G:=H7 (s:=s) hp.2.2.2.2.2;have Z:IJ s l=(T1 (Bh s l) (AB (Bh s l) (Bh s l).length),0):=by
  simp only[IJ];rw[Ad (λh=>h c0),aa]
 simp only[eP];rw[Ak trivial];intro _;by_cases ad:(l.length:Int)=0
 .rw[Ak ad];have e0:IJ s l=([],0):=by
   rw[Z];have h0:(Bh s l).length=0:=by omega
   have h1:(AB (Bh s l) (Bh s l).length).length=0:=by rw[Ek];exact h0
   simp only[T1,h1,Dm,Ic];rfl
  refine⟨[],[(0,some 2)],⟨[(4,.own 0),(5,.im (.int .i64 0))],lcI.H1 (s,l),1⟩,?_,by simp[lcI.H1,ZG],by simp,?_⟩
  .simp only[Ao,lcI.H1,e0];simp(disch:=omega)only[ZZ,simprocAttr,Ab,J1,AR,Az,lcI.ca,lcI.H1,An.c,AU,AT,BY]
   try simp
  .simp(disch:=omega)only[ZZ,simprocAttr,Ab,J1,AR,Az,lcI.ca,lcI.H1,An.c,lcI.r0,e0]
 rw[Ad ad];have ao: ∀x:CH,(kP CH.d 8 (Gk (plE (some x))))=some x:=λx=>CH.d_c x
 simp only[ao,GG,Fj];refine⟨⟨λo ho=> ?_,Ik ..,hp.2.2.2.2.2⟩,?_⟩
 .obtain⟨k,hk⟩:=EK.1 ho;exact (D8 (hp.2.2.2.2.1 k o hk).1).2.1
 simp only[gU hp.2.2.2.2.1];obtain⟨nd,hnd⟩: ∃nd,nd=Bh s l:=⟨_,rfl⟩;rw[<-hnd] at G aa Z;simp only[<-hnd];refine AM.os nd [] G (λj=>by simp[Av,hget]) rfl rfl ?_ ?_
 .simp(disch:=omega)only[ZZ,simprocAttr,Ab,J1,AR,Az,lcI.ca,lcI.H1,An.c,levC.ca,EJ]
 obtain⟨z,hlv⟩: ∃z,z=AB nd nd.length:=⟨_,rfl⟩;rw[<-hlv] at Z;simp only[levC.H1,<-hlv];have aq:z.length=nd.length:=by rw[hlv];exact Ek ..
 have au:=G.1;have ak: ∀x∈z,0<=x/\x<=500:=λx hx=>by
  rw[hlv] at hx
  have:=GR nd nd.length x hx
  omega
 simp(disch:=omega)only[ZZ,simprocAttr,Ab,J1,AR,Az,lcI.ca,lcI.H1,An.c,sub,Cl,Hz];have am:1<=z.length:=by omega
 refine H5.callU [_] (pkF1 (fQ rfl)) z (intR1 z) am rfl λu1 O=> ?_
 have em:maxS_.fv z=F9 z z.length:=rfl;have O:u1=[3]:=O;subst O;simp only[em];simp(disch:=omega)only[ZZ,simprocAttr,Ab,J1,AR,Az,lcI.ca,lcI.H1,An.c,sub];refine H5.callU [_,_] (pk2 (fQ rfl) rfl) (z,F9 z z.length) (intR _ _) trivial rfl λu2 Q=> ?_
 have Q:u2=[3]:=Q;subst Q;have ei:idxS_.fv (z,F9 z z.length)=Dm z z.length:=cM z (by omega);simp only[ei];simp(disch:=omega)only[ZZ,simprocAttr,Ab,J1,AR,Az,lcI.ca,lcI.H1,An.c,sub];obtain⟨nx,hnxd⟩: ∃nx,nx=Fw nd z:=⟨_,rfl⟩;obtain⟨q1,q2,q3⟩:=LV z z.length;have an: ∀a:Int,0<=a->a<z.length-> -1<=nx a.toNat/\nx a.toNat<a:=λa h0 h1=>by
  have:=N8 G z (a:=a.toNat) (by omega)
  rw[hnxd];omega
 refine Bc.ren ⟨{x:Nat×Int×List Int//0<=x.2.1/\x.2.1<z.length/\x.2.1<x.1/\x.1+x.2.2.length<=502/\Ic nx x.1 (nx x.2.1.toNat) x.2.2.reverse=T1 nd z},λx=>⟨[(11,.own 7),(10,.ptr 5 0),(9,.ptr 4 0),(8,.im (.sl false 1 (nd.map C9)))],[(7,(true,.arr 2 1 (x.1.2.2.map Af))),(5,(true,.cells 2 [.im (.int .i64 x.1.2.1)])),(4,(true,.cells 37 [.own 3])),(3,(true,.arr 2 1 (z.map Af)))],8⟩,λx=>x.1.1,λx=>⟨by simp[ZG],by simp⟩,⟨⟨(z.length,Dm z z.length,[Dm z z.length]),⟨q3 (by omega),q2,by simp only;omega,by simp only[SN];omega,?_⟩⟩,[(7,some 6)],?_⟩,λx=> ?_⟩
 .simp only[T1,Ic,<-hnxd];rw[Ad (by have:=q3 (by omega);omega)];rfl
 .simp only[Ao];simp(disch:=omega)only[ZZ,simprocAttr,Ab,J1,AR,Az,lcI.ca,lcI.H1,An.c,AU,AT,Bm,BY]
  try simp[Af]
 obtain⟨⟨f,c,out⟩,p1,p2,p3,p4,p5⟩:=x;simp only at p1 p2 p3 p4 p5;simp(disch:=omega)only[ZZ,simprocAttr,Ab,J1,AR,Az,lcI.ca,lcI.H1,An.c,sub,AQ];clear O Q;refine⟨p1,p2,by omega,λv hv=>⟨λc1=>⟨p1,by omega,λown ho=> ?_⟩,λc1=> ?_⟩⟩
 .have ac:=G.2 c.toNat own ho;have hs:=(Sf G (a:=c.toNat) (by omega)).1 (by rw[<-hlv,hv];exact c1);rw[<-hlv] at hs;have af:nx c.toNat=IM (H3 z c.toNat) own:=by rw[hnxd];simp only[Fw,ho,AJ]
  rw[<-hnxd,af] at hs;obtain⟨t,ag,ah⟩:=MY (H3 z c.toNat) own 0 (λx hx=>(ac x hx).1) hs;rw[FM] at ag;have ai:IdxC_.ar [.val (.sl false 1 (own.map Af)),.val (.fn 75 [] [.ref (C9 z),.ref (Af c)])]=some (own,z,c):=by
   show ((AX Dj (own.map Af)).bind λy0=>(Pm (List.take 1 (C9 z))).bind λy1=>some (y0,y1,c))=_;rw[Kt XQ,GG];show ((Pm (C9 z)).bind λy1=>some (own,y1,c))=_;rw[Oe];rfl
  have aj:IdxC_.fv (own,z,c)=(t:Int):=ag;refine vF.call [_,_] (pk2 rfl rfl) (own,z,c) ai ⟨λk hk=>by have:=ac k hk;simp only;omega,p1,p2,λx hx=>by have:=ak x hx;omega⟩ ?_;simp only[aj];simp(disch:=omega)only[ZZ,simprocAttr,Ab,J1,AR,Az,lcI.ca,lcI.H1,An.c,sub,D0];refine⟨p1,by omega,λx hx=> ?_⟩;obtain rfl:own=x:=A8 (ho.symm.trans hx);refine⟨(B9.1 ah).1,λy hy=> ?_⟩;obtain rfl:IM (H3 z c.toNat) own=y:=A8 (ah.symm.trans hy);rw[<-af] at hs⊢;have hb:=an c p1 p2;obtain⟨g,rfl⟩: ∃g,f=g+1:=⟨f - 1,by omega⟩;rw[Ic,Ad (by omega)] at p5;refine⟨by omega,⟨(g,nx c.toNat,out++[nx c.toNat]),?_⟩,[(7,some 9)],by simp only;omega,?_⟩
  .simp only[CS,SN,List.reverse_append,List.reverse_cons,List.reverse_nil,Fs,Zej];exact⟨hs,by omega,by omega,by omega,p5⟩
  .simp only[Ao];simp(disch:=omega)only[ZZ,simprocAttr,Ab,J1,AR,Az,lcI.ca,lcI.H1,An.c,AU,AT]
   try simp[Af]
 .have hs:=(Sf G (a:=c.toNat) (by omega)).2 (by rw[<-hlv,hv,AJ];omega);rw[<-hlv,<-hnxd] at hs;have hR:out.reverse=T1 nd z:=by
   rw[hs] at p5;cases f with
   |zero=>simpa only[Ic] using p5
   |succ g=>
    rw[Ic,Ak (by omega)] at p5;exact p5
  refine AM.os out [7] trivial (λj=> ?_) rfl rfl ?_ ?_
  .simp only[Av,revI.H0,hget];by_cases hj:j=0
   .subst hj;simp
   .have:(0==j)=false:=by simpa using λh=>hj h.symm
    rw[this];simp;omega
  .simp(disch:=omega)only[ZZ,simprocAttr,Ab,J1,AR,Az,lcI.ca,lcI.H1,An.c,revI.ca,revI.H0,EJ,Cl]
   try exact⟨rfl,rfl⟩
  simp(disch:=omega)only[ZZ,simprocAttr,Ab,J1,AR,Az,lcI.ca,lcI.H1,An.c,revI.H1,sub,D0,Cl,Hz];refine⟨[],[(0,some 7)],⟨[(4,.own 0),(5,.im (.int .i64 0))],lcI.H1 (s,l),1⟩,?_,by simp[lcI.H1,ZG],by simp,?_⟩
  .simp only[Ao,lcI.H1,Z,hR];simp(disch:=omega)only[ZZ,simprocAttr,Ab,J1,AR,Az,lcI.ca,lcI.H1,An.c,AU,AT]
   try simp
  .simp(disch:=omega)only[ZZ,simprocAttr,Ab,J1,AR,Az,lcI.ca,lcI.H1,An.c,lcI.r0,Z]
 simp[lcI.H1] at hp;subst hp;exact .inr ⟨by omega,by omega,rfl,rfl⟩
end Go.Ae
namespace Go.Ae
open Go.Proofs Go.Sort Go.Shelf
instance:Inhabited Ac:=⟨⟨0,0⟩⟩
def D2(x:Ac):List Value:=[.int .i64 x.X,.int .i64 x.Y]
def cfQ(x y:Ac):Int:=Jl (x.X,x.Y) (y.X,y.Y)
def Yk(x y:Ac):ltOf cfQ x y=B6 x y:=by
 simp only[ltOf,cfQ,Jl,Lib.compareInt,B6]
 grind
def swoQ:SWO (ltOf cfQ) where
 irrefl x:=by rw[Yk];simp only[B6];grind
 trans x y z h1 h2:=by rw[Yk] at*;simp only[B6] at*;grind
 ntrans x y z h1 h2:=by rw[Yk] at*;simp only[B6] at*;grind
def iJ{l:List Ac}(hd:l.Nodup):(Cr l).Perm l:=(rM (LF (OT l)) hd).2 λ_=>KS
def Qamw{l l':List Ac}(hd:l.Nodup)(hp:l'.Perm l)(hs:l'.Pairwise (λa b=>B6 b a=false)):l'=Cr l:=by
 refine iG ?_ (OT l) (λq=>by rw[KS,hp.mem_iff]);have hn:l'.Nodup:=hp.nodup_iff.2 hd;refine ZeP (λ{a b} h=> ?_) (List.pairwise_and_iff.2 ⟨hs,hn⟩);exact vC h.1 λe=>h.2 e.symm
def QY{l:List Ac}(hd:l.Nodup):(Cr l).length=l.length:=(iJ hd).length_eq
def Ub(l:List Ac):List Value:=l.flatMap D2
def MF(l:List Ac):(Ub l).length=l.length*2:=by
 induction l with
 |nil=>rfl
 |cons x r ih=>simp only[Ub,H2,CS,Dp] at ih⊢;rw[ih];simp[D2];omega
def iM{ok:Nat->Prop}{hp:Nat->Option Obj}: ∀(l:List Ac) (L:List Value),rdr ok hp 2 (l.map Ac.c) L↔ ∃r,L=Ub l++r
 |[],L=>by simp[rdr,Ub]
 |x::r,L=>by
  simp only[Bm,rdr,iM r,Ac.c,rdp,rd,Ub,H2];constructor
  .rintro⟨_,⟨v,z,rfl,rfl,O,G,rfl,rfl,_⟩,q,hq⟩;exact⟨q,by simp only[Mo,Jc] at hq;rw[hq];rfl⟩
  .rintro⟨q,rfl⟩;exact⟨rfl,⟨_,_,rfl,rfl,_,_,rfl,rfl,trivial⟩,q,rfl⟩
def ME: ∀(l:List Ac) (t:Nat),t<l.length*2->(Ub l)[t]? =some ((D2 (l[t/2]?.getD default))[t % 2]!)
 |[],t,h=>by simp at h
 |x::r,t,h=>by
  by_cases O:t<2
  .have:t=0\/t=1:=by omega
   rcases this with rfl|rfl<;>simp[Ub,D2]
  .obtain⟨u,rfl⟩: ∃u,t=u+2:=⟨t - 2,by omega⟩;have z:(u+2)/2=u/2+1:=by omega
   have G:(u+2) % 2=u % 2:=by omega
   have ih:=ME r u (by simp at h;omega);rw[z,G,GD,<-ih];simp[Ub,D2]
def vT(l:List Ac):(flatK D2 2 l.toArray).toList=Ub l:=by
 apply Ja;intro t;by_cases z:t<l.length*2
 .rw[ME l t z];have G:t<(flatK D2 2 l.toArray).size:=by simp only[size_flatK,Py];exact z
  have O:=get_flatK D2 2 l.toArray t (by simpa using z);rw[GF,J4 G,<-getElem!_pos (flatK D2 2 l.toArray) t G,O];congr 3;simp[getElem!_def];cases l[t/2]? <;>rfl
 .have a1:(flatK D2 2 l.toArray).toList.length<=t:=by rw[FF,size_flatK,Py];omega
  have a2:(Ub l).length<=t:=by rw[MF];omega
  rw[Hy a1,Hy a2]
def srtQ.ca(_:List Ac):List AV:=[.own 0,.im (.fn 126 [] [])]
def srtQ.H0(a:List Ac):Au:=[(0,(true,.arr 50 2 (a.map Ac.c)))]
def srtQ.H1(a:List Ac):Au:=[(0,(true,.arr 50 2 ((Cr a).map Ac.c)))]
def srtQ.row:AO:=AM srtQ.ca srtQ.H0 1 (λa=>a.Nodup) (λ_=>true) (λ_=> .im (.tup [])) srtQ.H1 0
def srtQ.ok:AS 163 srtQ.row:=by
 rintro bn h nx K ⟨a,τ,U,KL,aj,rfl,O,hN,hK⟩;refine⟨S5 (by kernel_rfl),_,_,?_,hK⟩;intro C S vs R hW a9 bb bc aa ax;have aq:FW τ 1 nx 0=τ 0:=Ak (by omega);simp only[srtQ.ca,Bn,AV.ren,aq,AY,Aa,rd,rdl] at aa;obtain⟨v0,r0,hv,⟨ad,ai⟩,v1,r1,bi,⟨ac,cc,bl,ak,am⟩,bj⟩:=aa;have ak:ac= #[]:=by apply RG;simpa using ak
 have am:cc= #[]:=by apply RG;simpa using am
 subst ak am bj bi bl;have bm:vs= #[v0,.func (Xz 126) #[] #[]]:=by apply RG;simpa using hv
 subst bm;have hm:h (τ 0)=some (true,.arr 50 2 (a.map Ac.c)):=by
  have:=O.1
  rwa [aq] at this
 have aw:Av (srtQ.H0 a) 0=true:=rfl;have Q:S.h (τ 0)=some (true,.arr 50 2 (a.map Ac.c)):=by
  rw[a9 (τ 0) (J6 _ (hN.u 0 aw)),hm]
 have ay: ∀n,n∈KL↔n=τ 0:=by
  intro n;constructor
  .intro hn;obtain⟨j,h1,_,h3⟩:=hN.k1 n hn
   have:j=0:=by
    simp only[Av,srtQ.H0,hget] at h1;by_cases hj:j=0
    .exact hj
    .have:(0==j)=false:=by simpa using λh=>hj h.symm
     rw[this] at h1;cases h1
   rw[h3,this]
  .rintro rfl;exact hN.k2 0 aw rfl
 obtain⟨m,hmm⟩: ∃m,m=τ 0:=⟨_,rfl⟩;rw[<-hmm] at Q ai ay;have au:=QY aj;have fin: ∀(w':World),Jv S m (.arr 50 2 ((Cr a).map Ac.c)) (S.ρ m) [m] w'->
  (BU (λn=>S.h m≠none\/n≠m) S (S.one m (.arr 50 2 ((Cr a).map Ac.c)) (S.ρ m) [m] w')->Ap (S.one m (.arr 50 2 ((Cr a).map Ac.c)) (S.ρ m) [m] w') (S.ρ m) (.arr 50 2 ((Cr a).map Ac.c)))->R (.returned (.tuple #[])) w':=by
  intro w' ad bh;have hp:=dJ hW ad;refine ax (.tuple #[]) _ (lF hW ad (bh hp)) ?_ ⟨hp.ok,λn _=>hp.nm n (.inl (by rw[Q];simp))⟩ ⟨#[],rfl,rfl⟩;funext n;simp only[A7.one,BD.appf,srtQ.H1,Cd,aq,hget,Ah.ren,<-hmm];by_cases hn:n=m
  .subst hn;simp
  .have h1:(m==n)=false:=by simpa using λh=>hn h.symm
   have h2:KL.contains n=false:=by
    rw[<-RE,J5,ay];exact hn
   simp only[h1,Co,h2,hn,CY,BN]
 have z:=ai _ Q;have Z:=hW.obj _ _ Q;have a0:=λG=>hW.loc m _ G Q
 cases hρ:S.ρ m with
 |none=>
  rw[hρ] at z Z;simp only[Ap] at Z;have ha:a=[]:=by simpa using Z.2
  subst ha;simp only at z;rw[z,YK (by decide)];refine (AnyF.slices_SortFunc_none Tryz.sortPt none 0 (.func (.func 126) #[] #[]) S.w).mono ?_;rintro e w' ⟨rfl,rfl⟩;refine fin S.w (XI Q (λl hl=>by rw[hρ] at hl;cases hl) rfl rfl) (λ_=> ?_);rw[hρ];exact⟨Cx _,rfl⟩
 |some G=>
  rw[hρ] at z Z;simp only[Ap,Ah.len] at Z z;obtain⟨g1,g2,cv,g3,g4,g5⟩:=Z;obtain⟨ao,bp⟩:=a0 G hρ;rw[iM] at g5;obtain⟨ba,g5⟩:=g5;simp only[FN] at g1 g2 z;have O:S.w.heap[G.b]? =some (.cells cv 50 (0,0)):=g3;have bo:G.p+a.length*2<=cv.size:=by omega
  have hF:(flatK D2 2 a.toArray).size=a.length*2:=by simp
  have hget: ∀j,j<a.length*2->cv[G.p+j]? =some ((flatK D2 2 a.toArray)[j]!):=by
   intro j hj;have h1:(cv.toList.drop G.p)[j]? =(Ub a++ba)[j]? :=by rw[g5]
   rw[Ib,GF,Eh (by rw[MF];exact hj),<-vT,GF] at h1;rw[h1,J4 (by rw[hF];exact hj),getElem!_pos _ _ (by rw[hF];exact hj)]
  have hH:HoldsK D2 2 S.w G.b G.p a.toArray:=by
   intro j hj;rw[hF] at hj;refine⟨?_,?_⟩
   .simp only[World.cell?,O,eQ,Dx,CY,id];exact hget j hj
   .simp only[World.frozen?,O];simp
  have hc:=AnyQ.slices_SortFunc Tryz.sortPt 2 Tryz.isAgg50 Tryz.sizeOf50 D2 (λ_=>rfl) (λx v hv=>by simp[D2] at hv;rcases hv with rfl|rfl<;>rfl) cfQ swoQ 126 #[] G.b G.p G.cap a.toArray S.w
   (xR (S5 (by kernel_rfl))) (λm os dk hs x y=>Tryz.cmpPoints _ _ _ _ _) hH ao (by simp only[Py,KH] at g1⊢;omega)
  rw[z,YK (by decide)];refine hc.mono ?_;rintro e w' ⟨rfl,d',n,os,af,av,rfl⟩;have a8:d'.size=a.length:=af.1;have bf:d'.toList=Cr a:=by
   refine Qamw aj ?_ ?_
   .have:=af.2.2
    rwa [show d'.extract 0 a.toArray.size=d' by rw[Py,<-a8];exact ZdG,show a.toArray.extract 0 a.toArray.size=a.toArray from ZdG] at this
   .rw[ZcV];intro i j hi hj bg
    have:=av i j (Cx _) bg (by rw[Py,<-a8];simpa using hj)
    rw[Yk,getElem!_pos d' i (by simpa using hi),getElem!_pos d' j (by simpa using hj)] at this;simpa using this
  obtain rfl:d'=(Cr a).toArray:=by apply RG;rw[bf]
  have ah:(flatK D2 2 (Cr a).toArray).size=a.length*2:=by simp[au]
  have an:(flatK D2 2 (Cr a).toArray).toList.length=a.length*2:=by rw[FF,ah]
  have ag:S.w.heap.size<=(sortWorldK D2 2 S.w G.b G.p n (Cr a).toArray os).heap.size:=by
   simp[sortWorldK,grow,putRowK,Sort.ahead]
  have hb: ∀b,b<S.w.heap.size->(sortWorldK D2 2 S.w G.b G.p n (Cr a).toArray os).heap[b]? =if G.b=b then S.w.heap[b]?.map (onCells (putCells id G.p (flatK D2 2 (Cr a).toArray))) else S.w.heap[b]? :=by
   intro b hb;have e0:b<(putRowK D2 2 (Sort.ahead S.w n) G.b G.p (Cr a).toArray).heap.size:=by simpa[putRowK,Sort.ahead] using hb
   simp only[sortWorldK,grow];rw[Zdk e0];simp only[putRowK,putRow,mapBlock,Sort.ahead,ZdH]
  refine fin _ ⟨rfl,rfl,rfl,ag,?_,.inl (by simp),?_,?_,?_⟩ ?_
  .intro b bd be;rw[hb b bd,Ad (be m _ G (by simp) Q hρ)]
  .intro lo az;rw[hρ] at az;obtain rfl:=A8 az;exact⟨HO ao ag,.inr ⟨m,_,G,by simp,Q,hρ,rfl⟩⟩
  .intro f hf;rw[Q] at hf;obtain rfl:=A8 hf;exact⟨rfl,rfl,by simp[Ah.len,au]⟩
  .intro n' f _ ab;rw[Q] at ab;cases ab
  .intro _;rw[hρ];simp only[Ap,FN,au];refine⟨g1,g2,putCells id G.p (flatK D2 2 (Cr a).toArray) cv,?_,by simpa[putCells] using g4,?_⟩
   .simp only[A7.one,A7.hp];rw[hb G.b ao,Ak rfl,O];rfl
   .rw[iM];refine⟨(cv.toList.drop (G.p+a.length*2)),?_⟩;apply Ja;intro t;rw[Ib,GF,putCells,Zeg,ah,<-vT];by_cases ht:t<a.length*2
    .rw[Eh (by rw[an];exact ht),GF,J4 (show G.p+t<cv.size by omega),J4 (by rw[ah];exact ht)];simp only[CR,id];rw[Ak ⟨by omega,by omega⟩,rJ,getElem!_pos _ _ (by rw[ah];exact ht)]
    .rw[Fe (by rw[an];omega),an,Ib,GF,show G.p+a.length*2+(t - a.length*2)=G.p+t by omega];cases cv[G.p+t]? with
     |none=>rfl
     |some x=>simp only[CR];rw[Ad (by omega)]
end Go.Ae
namespace Go.Ae
open Go.Proofs
def Zr(op:List (Ac×List Int)):Nat:=(op.map λq=>q.2.length).sum
def LD{β:Type}: ∀{l:List (Ac×β)} {q:Ac×β},(l.map Prod.fst).Nodup->q∈l->BP l q.1=some q.2
 |x::r,q,hn,hq=>by
  obtain⟨p,v⟩:=x;rw[Bm,Jb] at hn;simp only[BP];rcases BO.1 hq with rfl|hq
  .rw[Ak rfl]
  .have:q.1≠p:=λe=>hn.1 (by rw[<-e];exact BZ.2 ⟨q,hq,rfl⟩)
   rw[Ad this];exact LD hn.2 hq
def vG{g:Ac->List Int}: ∀(l:List Ac),(CC g l).length=(l.map λp=>(g p).length).sum
 |[]=>rfl
 |p::r=>by
  have:=vG (g:=g) r
  simp only[CC] at this;simp only[CC,H2,CS,FN,Bm,SM,this]
def Qr{op:List (Ac×List Int)}(h:(op.map Prod.fst).Nodup):(H9 op).length=Zr op:=by
 rw[H9,vG,((iJ h).map _).sum_nat,Xw];congr 1;refine SO λq hq=> ?_
 simp only[Function.comp,LD h hq,AJ]
def T6: ∀{l:List (Ac×List Int)},(∀q∈l,q.2≠[])->l.length<=Zr l
 |[],_=>Cx _
 |x::r,h=>by
  have G:0<x.2.length:=eM.2 (h x (Ct ..));have z:=T6 λq hq=>h q (Cs x hq)
  simp only[Zr,Bm,SM,Dp] at z⊢;omega
def vH(s:An){b:Al}(O:b.Tiles.length<=500)(Q:s.Set.Tiles.length<=160):(Bi s b).length<=320000:=by
 have z:=Yc (g:=λp=>EF s (Ba b) p s.Set.Tiles.length) (m:=160) (λp=>DO (Yg s (Ba b) p _) (by omega)) (CI b b.Tiles.length);have Z:=XX b b.Tiles.length;have G:(CI b b.Tiles.length).length*160<=2000*160:=I5 _ (by omega);exact DO z G
def oK{s:An}{b:Al}{op:List (Ac×List Int)}(hT:1<=s.Temperature)(h1:b.Tiles.length<=500)(h2:s.Set.Tiles.length<=160)(G:O6 s (Ba b) op):
 H9 op=Bi s b/\((op.map Prod.fst).Nodup/\op.length<=1000000/\ ∀q∈op,q.2.length<=1000)/\(H9 op).length<=320000:=by
 have z:=V2 hT G;have O:=Qr G.1;rw[z] at O;have Q: ∀q∈op,q.2=DZ s (Ba b) q.1/\q.2≠[]:=λq hq=>by
  have Z:=LD G.1 hq;rw[G.2,G3] at Z;split at Z
  .cases Z
  .rename_i c;have h6:=A8 Z;exact⟨h6.symm,by rw[<-h6];exact c⟩
 have h6:op.length<=Zr op:=T6 λq hq=>(Q q hq).2
 have h7:=vH s h1 h2;refine⟨z,⟨G.1,by omega,λq hq=> ?_⟩,by rw[z];exact h7⟩;rw[(Q q hq).1];exact DO (Qus s _ _ _) (by omega)
def vI{s:An}{f:Ac->Int}{q:Ac}{x:Int}: ∀{n:Nat},x∈Gg s f q n↔ ∃k:Nat,k<n/\x=k/\HL s f q k=true
 |0=>by simp[Gg]
 |n+1=>by
  simp only[Gg,B5,vI (n:=n)];constructor
  .rintro (⟨k,O,z⟩|h)
   .exact⟨k,by omega,z⟩
   .split at h
    .rename_i c;exact⟨n,by omega,by simpa using h,c⟩
    .cases h
  .rintro⟨k,O,z,G⟩;by_cases Q:k=n
   .subst Q;right;rw[Ak G,z];exact BN.2 rfl
   .exact .inl ⟨k,by omega,z,G⟩
def wX{s:An}{b:Al}(hT:1<=s.Temperature)(hb:CA s.Set b){o:Aj}(h:BX s b o=true):o∈Bi s b:=by
 obtain⟨p1,p2,p3,p4,p5,p6⟩:=D8 h;simp only[BX,AZ,BA] at h;obtain⟨z,d2,Q,Z⟩:=h;have h0:Ba b o.At<0:=(GS hb.2 o.At).1 Q;have hf:HL s (Ba b) o.At o.Tile=true:=by
  simp only[HL,AZ,BA];exact⟨z,h0,by rw[H6];exact Z⟩
 have G:o.Tile∈DZ s (Ba b) o.At:=by
  rw[DZ,vI];exact⟨o.Tile.toNat,by omega,by omega,by rw[ZdP p3];exact hf⟩
 have O:DZ s (Ba b) o.At≠[]:=λe=>by rw[e] at G;cases G
 have hn:o.At∈CI b b.Tiles.length:=by
  rw[OS _ (AW _),EW];refine⟨⟨z,h0⟩,?_⟩;apply Hc;intro c;refine O (iF hT (λd hd=> ?_) _);apply Hc;intro c2;obtain⟨x,hx,e⟩:=Ms (a:=b) (q:=Bv o.At d) (by omega);exact c ⟨x,hx,Yd ⟨d,hd,e.symm⟩⟩
 rw[Bi,CC,Zel];refine⟨o.At,hn,BZ.2 ⟨o.Tile,?_,rfl⟩⟩;rw[<-iI z h0];exact G
def Hf(n:Int):Bool:= !Bz n 0 1000
def HA(l:List Int):Bool:=decide (l.length<=200) && !l.any Hf
def Kg(l:List Int)(n k:Nat):Nat:=if l.length=0 then 0 else (((l[k % l.length]?).getD 0) % (n:Int)).toNat
def Wu{l:List Int}(h:HA l=true){x:Int}(G:x∈l):0<=x/\x<=1000:=by
 simp only[HA,AZ,K5] at h;have z:Hf x=false:=by
  cases hb:Hf x with
  |false=>rfl
  |true=>rw[ZeV.2 ⟨x,G,hb⟩] at h;cases h.2
 simpa[Hf,Bz] using z
def bM{l:List Int}{n k:Nat}(hn:0<n):Kg l n k<n:=by
 simp only[Kg];split
 .exact hn
 .have z:=Int.emod_nonneg ((l[k % l.length]?).getD 0) (b:=(n:Int)) (by omega);have G:=Int.emod_lt_of_pos ((l[k % l.length]?).getD 0) (b:=(n:Int)) (by omega);omega
def Qn(s:An)(l:List Int)(b:Al)(k:Nat):Option Aj:=(Bi s b)[Kg l (Bi s b).length k]?
def wD{s:An}{l:List Int}{b:Al}{k:Nat}:Qn s l b k=none↔Bi s b=[]:=by
 simp only[Qn,ZeL];constructor
 .intro h;cases he:Bi s b with
  |nil=>rfl
  |cons x r=>
   have:=bM (l:=l) (k:=k) (n:=(Bi s b).length) (by rw[he];simp)
   omega
 .intro h;rw[h];simp
def L7(s:An)(l:List Int):Nat->Al->List Aj->List Aj×Al×Int
 |0,b,d=>(d,b,0)
 |n+1,b,d=>match Qn s l b d.length with
  |none=>(d,b,0)
  |some o=>if 500<=b.Tiles.length then ([],⟨[]⟩,4) else L7 s l n (Ci b o.At o.Tile) (d++[o])
def OV(b:Al)(p:Ac)(t:Int):(Ci b p t).Tiles.length=b.Tiles.length+1:=by
 rw[YE];rw[(qO ⟨p,t⟩ b.Tiles).length_eq,Dp]
def Ig(s:An)(l:List Int):List Aj×Al×Int:=if FL s=false then ([],⟨[]⟩,1) else if HA l=false then ([],⟨[]⟩,2) else L7 s l 500 s.Seed []
def jH{s:An}{b:Al}(Q:CA s.Set b){o:Aj}(h:o∈Bi s b):BX s b o=true:=by
 rw[Bi,CC,Zel] at h;obtain⟨p,hp,h⟩:=h;obtain⟨t,Z,rfl⟩:=BZ.1 h;rw[OS _ (AW _)] at hp;obtain⟨⟨G,O⟩,_⟩:=hp;have z: ∀n,t∈EF s (Ba b) p n->0<=t/\t<n/\s.Temperature<=CW s.Set (Ba b) p t 4:=by
  intro n;induction n with
  |zero=>intro h;simp[EF] at h
  |succ n ih=>
   intro h;simp only[EF,B5] at h;rcases h with h|h
   .have:=ih h;exact⟨this.1,by omega,this.2.2⟩
   .split at h
    .rename_i c;simp only[BN] at h;subst h;exact⟨by omega,by omega,c⟩
    .cases h
 obtain⟨k1,k2,k3⟩:=z _ Z;show BX s b ⟨p,t⟩=true;simp only[BX,Bz,AZ,BA];exact⟨G,⟨k1,by omega⟩,(GS Q.2 p).2 O,by rw[<-H6];exact k3⟩
def N9{s:An}{l:List Int}{b:Al}{k:Nat}(z:CA s.Set b){o:Aj}(h:Qn s l b k=some o):BX s b o=true:=jH z (Bd h)
def E9(s:An)(l:List Int):Nat->Al->List Aj->List Aj×Al×Bool×Int
 |0,b,d=>(d,b,(Qn s l b d.length).isNone,0)
 |n+1,b,d=>match Qn s l b d.length with
  |none=>(d,b,true,0)
  |some o=>if 500<=b.Tiles.length then ([],⟨[]⟩,false,4) else E9 s l n (Ci b o.At o.Tile) (d++[o])
def MR{s:An}{l:List Int}: ∀(n:Nat) (b:Al) (d:List Aj),((E9 s l n b d).1,(E9 s l n b d).2.1,(E9 s l n b d).2.2.2)=L7 s l n b d
 |0,b,d=>rfl
 |n+1,b,d=>by
  rw[E9,L7];split
  .rfl
  .split
   .rfl
   .exact MR n _ _
def MN(nd:List (List Int))(o:List Int):Prop:= ∀(j:Nat) (i:Int),o[j]? =some i-> ∀x∈Dl nd i,x∈o.take j
def Sn{s:An}{l:List Aj}{k:Nat}{o:Aj}(z:l[k]? =some o):Dl (Bh s l) k=GI l (CZ s.Set (Ba (Ax s.Seed (l.take k))) o.At o.Tile 4) o.At k:=by
 have G:=(B9.1 z).1;rw[Dl,B1,Bh,gL _ _ _ _ G,XO s l s.Seed k o z,z];rfl
def GU{l:List Aj}{o:List Int}{x:Aj}(G: ∀i∈o,0<=i/\i<l.length):x∈BV l o↔ ∃i∈o,l[i.toNat]? =some x:=by
 simp only[BV,BZ];constructor
 .rintro⟨i,z,h⟩
  have:=G i z
  refine⟨i,z,?_⟩;rw[Bk (by omega)] at h⊢;rw[<-h];rfl
 .rintro⟨i,z,h⟩;exact⟨i,z,by rw[h];rfl⟩
def VB{l:List Aj}{o:List Int}{j:Nat}{x:Aj}(z: ∀i∈o,0<=i/\i<l.length)(h:(BV l o)[j]? =some x): ∃i,o[j]? =some i/\l[i.toNat]? =some x:=by
 simp only[BV,DX] at h;cases hj:o[j]? with
 |none=>rw[hj] at h;cases h
 |some i=>
  rw[hj] at h
  have:=z i (Bd hj)
  refine⟨i,rfl,?_⟩;have G:i.toNat<l.length:=by omega
  have h:=A8 h;simp only[Bk G,AJ] at h⊢;rw[h]
def wO(l:List Aj)(o:List Int)(j:Nat):(BV l o).take j=BV l (o.take j):=by simp only[BV,List.map_take]
def Yq: ∀(l:List Aj) (b:Al),(Ax b l).Tiles.length=b.Tiles.length+l.length
 |[],b=>rfl
 |x::r,b=>by rw[Ax,Yq r,OV,Dp];omega
def V3{s:An}{l:List Aj}(h:Cw s l){o:List Int}(hb: ∀i∈o,0<=i/\i<l.length)(hd:o.Nodup)(hl:o.length=l.length)(hg:MN (Bh s l) o):
 Fz s s.Seed (BV l o):=by
 obtain⟨h1,h2,h3,_,h5,_⟩:=h;have ak:=KO h5;have au:(BV l o).length=l.length:=by rw[<-hl];simp[BV]
 have aq: ∀n,n<=l.length-> ∀j x,j<n->(BV l o)[j]? =some x->BX s (Ax s.Seed ((BV l o).take j)) x=true/\(Ax s.Seed ((BV l o).take j)).Tiles.length<500:=by
  intro n;induction n with
  |zero=>intro _ j x hj;omega
  |succ n ih=>
   intro hn j x hj hx;rcases Ff j n with c|c
   .exact ih (by omega) j x c hx
   obtain rfl:j=n:=by omega
   have ab:Fz s s.Seed ((BV l o).take j):=by
    intro k y G;have hk:k<j:=by
     have:=(B9.1 G).1
     rw[Cp] at this;omega
    rw[R9 hk] at G;rw[List.take_take,Zey (by omega)];exact ih (by omega) k y hk G
   have ac:CA s.Set (Ax s.Seed ((BV l o).take j)):=by
    have:=DI h3 h2 ab ((BV l o).take j).length (AW _)
    rwa [EW] at this
   obtain⟨i,hi,O⟩:=VB hb hx;obtain⟨k,rfl⟩: ∃k:Nat,i=k:=⟨i.toNat,by have:=(hb i (Bd hi)).1;omega⟩;rw[B1] at O;obtain⟨c1,c2⟩:=h5 k x O;have ag:CA s.Set (Ax s.Seed (l.take k)):=DI h3 h2 h5 k (by have:=(B9.1 O).1;omega);have ah:=hg j k hi;have aa: ∀i∈o.take j,0<=i/\i<l.length:=λi hi=>hb i (Zdv hi)
   have am:(Ax s.Seed ((BV l o).take j)).Tiles.length<500:=by
    obtain⟨y,G⟩: ∃y,l[l.length - 1]? =some y:=⟨_,Bk (by omega)⟩
    have:=(h5 _ y G).2
    rw[Yq,Cp] at this⊢;omega
   refine⟨?_,am⟩;simp only[BX,AZ,BA] at c1⊢;obtain⟨e1,e2,e3,e4⟩:=c1;refine⟨e1,e2,?_,?_⟩
   .rw[GS ac.2];by_cases c:0<=Ba (Ax s.Seed ((BV l o).take j)) x.At
    case neg=>omega
    exfalso;obtain⟨y,G,Q⟩:=GX c;rw[CB] at G;rcases G with G|⟨z,hz,rfl⟩
    .have:=Qma e3 y (by rw[CB];exact .inl G)
     exact this Q
    .rw[wO,GU aa] at hz;obtain⟨m,hm,aj⟩:=hz;have aw:=aa m hm;have e:m.toNat=k:=Pa ak (q:=x.At) (by rw[aj];simpa using Q) (by rw[O];rfl);have Z:m=k:=by omega
     subst Z;obtain⟨t,ht⟩:=EK.1 hm;have an:t<j:=by
      have:=(B9.1 ht).1
      rw[Cp] at this;omega
     rw[R9 an] at ht;obtain⟨g1,f1⟩:=B9.1 ht;obtain⟨g2,f2⟩:=B9.1 hi
     have:=(List.getElem_inj hd).1 (f1.trans f2.symm)
     omega
   .rw[wI] at e4⊢;refine Zfc e4 (Sj 4 λd ad=> ?_);have av:=SE h1 (Ba (Ax s.Seed ((BV l o).take j))) x.At x.Tile d;by_cases c:0<Ds s.Set (Ba (Ax s.Seed (l.take k))) x.At x.Tile d
    case neg=>omega
    have c3:=((Im ..).1 c).1;obtain⟨y,G,Q⟩:=GX c3;have ao:=Fc ag.1 G;have ai:y∈(Ax s.Seed ((BV l o).take j)).Tiles:=by
     rw[CB] at G⊢;rcases G with G|⟨z,hz,rfl⟩
     .exact .inl G
     .refine .inr ⟨z,?_,rfl⟩;rw[wO,GU aa];obtain⟨m,hm⟩:=EK.1 hz;have Z:m<k:=by
       have:=(B9.1 hm).1
       rw[Cp] at this;omega
      rw[R9 Z] at hm;refine⟨m,ah m ?_,by rw[B1];exact hm⟩;rw[Sn O,Io k (by have:=(B9.1 O).1;omega)];refine⟨m,d,Z,ad,rfl,?_,by rw[hm];simpa using Q⟩;rw[Sm _ _ _ _ d ad,BA];exact c
    have af:=Fc ac.1 ai;have e:Ba (Ax s.Seed ((BV l o).take j)) (Bv x.At d)=Ba (Ax s.Seed (l.take k)) (Bv x.At d):=by
     rw[<-Q,ao,af]
    simp only[Ds,e];exact Gy _
 intro j x hx;exact aq l.length (AW _) j x (by have:=(B9.1 hx).1;omega) hx
def schS_.fv(a:(List Int)):Bool:=(HA) a
def schS_.row:AO:=vK (b1 (qS Ez Dy)) rB (λa=>True) schS_.fv
def schS_.q:=B2 (R:=schS_.row) rfl
def schS_.ok:AS 31 schS_.row:=by
 refine vw (tC l00In.ok tN) Tryz.func31 ?_;intro a O;simp only[Tryz.f31,Option.getD];simp only[ZZ,simprocAttr,Ab,schS_.fv,l00In.q,l00In.fv];intro _;by_cases c:a.length<=200
 case neg=>
  rw[Ak (by omega)];simp only[HA,Zeb c,Gx]
 rw[Ad (by omega)];have Z:HA a= !a.any Hf:=by simp only[HA,ZeN c,EL]
 rw[Z];refine Bc.old ⟨{k:Nat//k<=a.length/\(a.drop k).any Hf=a.any Hf},λk=>⟨[(3,.im (.int .i64 k.1)),(2,.im (.bool false)),(0,.im (.sl false 1 (a.map Af)))],[],0⟩,λk=>a.length - k.1,λk=>⟨by simp[ZG],by simp⟩,⟨⟨0,by simp⟩,by simp only[ZZ,simprocAttr,Ab,schS_.fv,l00In.q,l00In.fv,sub]⟩,λk=> ?_⟩;obtain⟨k,Q,z⟩:=k;simp only[ZZ,simprocAttr,Ab,schS_.fv,l00In.q,l00In.fv,sub,AQ];intro _;refine⟨λG=>⟨G,λx hx=> ?_⟩,λG=> ?_⟩
 .rw[Gr hx,List.any_cons] at z;refine⟨λh=> ?_,λh=>⟨⟨k+1,by omega,?_⟩,by simp only;omega,by rw[AF (by omega) (by omega)];simp only;omega⟩⟩
  .have:Hf x=true:=by simp only[Hf,h];rfl
   rw[this,ZeE] at z;rw[<-z];rfl
  .have:Hf x=false:=by simp only[Hf];simpa using h
   rw[this,Zeo] at z;exact z
 .rw[Ei (by omega)] at z;rw[<-z];rfl
def grwS_.fv(a:An×Al×(List Int)×Int):(List Aj)×Al×Bool×Int:=(λs b l n=>E9 s l n.toNat b []) (a.1) (a.2.1) (a.2.2.1) (a.2.2.2)
def grwS_.row:AO:=vK (b4 (qP 4 An.d_le) (qP 1 Al.d_le) (qS Ez Dy) qI) (r4 (rS Aj.d_le Aj.c_n) (rA Al.d_le) rB rI) (λa=>BK a.1.Set/\CA a.1.Set a.2.1/\a.2.1.Tiles.length<=500/\a.1.Set.Tiles.length<=160/\HA a.2.2.1=true/\0<=a.2.2.2/\a.2.2.2<=500) grwS_.fv
def grwS_.q:=B2 (R:=grwS_.row) rfl
def YaQ:=J @grwS_.fv.eq_1<|J @l03Own.q<|J @l03Own.fv.eq_1<|J @opsS_.q<|J @opsS_.fv.eq_1<|J @l08Attach.q @l08Attach.fv.eq_1
def grwS_.ok:AS 33 grwS_.row:=by
 refine vw (tC l03Own.ok (tC opsS_.ok (tC l08Attach.ok tN))) Tryz.func33 ?_;intro a ac;simp only[Tryz.f33,Option.getD];simp only[ZZ,simprocAttr,Ab,YaQ];obtain⟨s,b,l,n⟩:=a;obtain⟨h1,h2,h3,h4,h5,h6,h7⟩:=ac;simp only at h1 h2 h3 h4 h5 h6 h7⊢;refine⟨by omega,?_⟩;refine Bc.ren ⟨{q:Al×List Aj//q.2.length<=n.toNat/\CA s.Set q.1/\q.1.Tiles.length<=500/\E9 s l (n.toNat - q.2.length) q.1 q.2=E9 s l n.toNat b []},λq=>⟨[(13,.own 6),(12,.ptr 4 0),(11,.im (.int .i64 0)),(10,.im (.bool false)),(9,.ptr 3 0),(8,.own 2),(0,.ptr 0 0),(2,.im (.sl false 1 (l.map Af))),(3,.im (.int .i64 n))],[(6,(true,.arr 52 3 (q.1.2.map Aj.c))),(4,(true,.cells 30 [.im (.sl false 3 (q.1.1.Tiles.map Ar.c))])),(3,(true,.cells 30 [.im (.sl true 0 [])])),(2,(true,.arr 52 3 [])),(0,(false,.view (An.c s))),(1,(false,.view (Al.c b)))],7⟩,λq=>n.toNat - q.1.2.length,λq=>⟨by simp[ZG],by simp⟩,⟨⟨(b,[]),by simp only;exact⟨Cx _,h2,h3,by rw[Hx,mD]⟩⟩,[(6,some 5)],?_⟩,λq=> ?_⟩
 .simp only[Ao];simp only[ZZ,simprocAttr,Ab,YaQ,AU,AT,BY]
  try simp
 obtain⟨⟨b1,d⟩,e1,e2,e3,e4⟩:=q;simp only at e1 e2 e3 e4;simp only[ZZ,simprocAttr,Ab,YaQ,sub,AQ];have ag:=vH s e3 h4;have hX: ∀m,n.toNat - d.length=m+1-> ∀o,Qn s l b1 d.length=some o->E9 s l n.toNat b []=if 500<=b1.Tiles.length then ([],⟨[]⟩,false,4) else E9 s l m (Ci b1 o.At o.Tile) (d++[o]):=by
  intro m hm o z;rw[<-e4,hm,E9,z]
 refine⟨⟨h1,e2,e3,by omega⟩,λ_=>⟨λc1=> ?_,λc1 _=>⟨λc2=> ?_,λc2 _=> ?_⟩⟩⟩
 .have ab:=wD (s:=s) (l:=l) (b:=b1) (k:=d.length)|>.2 (Pv.1 (by omega))
  rw[<-e4];cases hm:n.toNat - d.length with
  |zero=>rw[E9,ab];rfl
  |succ m=>rw[E9,ab]
 .have af:(Qn s l b1 d.length).isNone=false:=by
   cases hq:Qn s l b1 d.length with
   |none=>exact absurd (by rw[wD.1 hq];rfl) c1
   |some o=>rfl
  rw[<-e4,show n.toNat - d.length=0 by omega,E9,af]
 have hn:(0:Int)<(Bi s b1).length:=by omega
 obtain⟨m,hm⟩: ∃m,n.toNat - d.length=m+1:=⟨n.toNat - d.length - 1,by omega⟩;have O: ∀o,Qn s l b1 d.length=some o-> ¬(He b1 o).2=0->([],(⟨[]⟩:Al),false,(He b1 o).2)=E9 s l n.toNat b []:=λo z h=>by
  rw[hX m hm o z];simp only[He] at h⊢;split at h
  .rename_i c;rw[Ak c,Ak c]
  .simp at h
 have Q: ∀o,Qn s l b1 d.length=some o->(He b1 o).2=0->b1.Tiles.length<500/\(He b1 o).1=Ci b1 o.At o.Tile/\CA s.Set (Ci b1 o.At o.Tile)/\E9 s l (n.toNat - (d++[o]).length) (Ci b1 o.At o.Tile) (d++[o])=E9 s l n.toNat b []:=λo z h=>by
  rw[hX m hm o z];simp only[He] at h⊢;split at h
  .simp at h
  .rename_i c;rw[Ad c,Ad c,show n.toNat - (d++[o]).length=m by simp;omega];exact⟨by omega,rfl,KV h4 e2 (N9 e2 z),rfl⟩
 have ad: ∀i:Nat,i=Kg l (Bi s b1).length d.length->Qn s l b1 d.length=(Bi s b1)[i]? :=λi hi=>by rw[hi];rfl
 refine⟨λc3 _ _=>⟨by omega,Zfd _ (by omega),ZeF _ (by omega),λx hx _=> ?_⟩,λc3=> ?_⟩
 .have aa:=Wu h5 (Bd hx);have e5:(x.tmod (Bi s b1).length).toNat=Kg l (Bi s b1).length d.length:=by
   rw[eT (by omega),<-Int.natCast_emod,B1] at hx;simp only[Kg];rw[Ad (by omega),hx,AJ,eT aa.1]
  refine⟨c1,Zfd _ aa.1,ZeF _ hn,λo z=> ?_⟩;have G:=(ad _ e5).trans z;refine⟨O o G,λc4=>⟨Zfd _ aa.1,ZeF _ hn,λo2 Z=> ?_⟩⟩;obtain rfl:o=o2:=A8 (z.symm.trans Z);obtain⟨f1,f2,f3,f4⟩:=Q o G (ZeO.1 c4);refine⟨by simp[B7,B8,D.one],by omega,⟨(Ci b1 o.At o.Tile,d++[o]),by simp only;exact⟨by simp;omega,f3,by rw[OV];omega,f4⟩⟩,[(6,some 9)],by simp;omega,?_⟩;simp only[Ao,f2];simp only[ZZ,simprocAttr,Ab,YaQ,AU,AT];simp[Aj.c]
 .have e5:0=Kg l (Bi s b1).length d.length:=by
   simp only[Kg];rw[Ak (by omega)]
  refine⟨hn,λo z=> ?_⟩;have G:=(ad _ e5).trans z;refine⟨O o G,λc4=>⟨hn,λo2 Z=> ?_⟩⟩;obtain rfl:o=o2:=A8 (z.symm.trans Z);obtain⟨f1,f2,f3,f4⟩:=Q o G (ZeO.1 c4);refine⟨by simp[B7,B8,D.one],by omega,⟨(Ci b1 o.At o.Tile,d++[o]),by simp only;exact⟨by simp;omega,f3,by rw[OV];omega,f4⟩⟩,[(6,some 9)],by simp;omega,?_⟩;simp only[Ao,f2];simp only[ZZ,simprocAttr,Ab,YaQ,AU,AT];simp[Aj.c]
def Oa{s:An}(c1: ¬FL s=false):BK s.Set/\CA s.Set s.Seed/\s.Seed.Tiles.length<=500/\s.Set.Tiles.length<=160:=by
 rw[Gi] at c1;obtain⟨⟨q1,z,G,_⟩,_,O⟩:=Gl c1;exact⟨q1,z,(WV O).2,G⟩
def GrowS_.fv(a:An×(List Int)):(List Aj)×Al×Int:=(Ig) (a.1) (a.2)
def GrowS_.row:AO:=vK (b2 (qR An.d_le) (qS Ez Dy)) (r3 (rS Aj.d_le Aj.c_n) (rA Al.d_le) rI) (λa=>True) GrowS_.fv
def GrowS_.q:=B2 (R:=GrowS_.row) rfl
def GrowS_.ok:AS 57 GrowS_.row:=by
 refine vw (tC l08Ok.ok (tC schS_.ok (tC grwS_.ok tN))) Tryz.func57 ?_;intro a G;simp only[Tryz.f57,Option.getD];simp only[ZZ,simprocAttr,Ab,GrowS_.fv,l08Ok.q,l08Ok.fv,schS_.q,schS_.fv,grwS_.q,grwS_.fv];obtain⟨s,l⟩:=a;simp only[Ig];by_cases c1:FL s=false
 .rw[Ak c1,Ak c1]
 rw[Ad c1,Ad c1];by_cases z:HA l=false
 .rw[Ak z,Ak z]
 rw[Ad z,Ad z];rw[Gi] at z;obtain⟨q1,O,Q,Z⟩:=Oa c1;exact⟨⟨q1,O,Q,Z,z⟩,MR 500 s.Seed []⟩
def Uu{nd:List (List Int)}{o A:List Int}(h:MN nd o)(O: ∀i∈A,∀x∈Dl nd i,x∈o):MN nd (o++A):=by
 intro j i z x G;rcases Ff j o.length with c|c
 .rw[Eh c] at z
  have:=h j i z x G
  rw[Zem (by omega)];exact this
 .rw[Fe c] at z;have Q:=O i (Bd z) x G;rw[List.take_append,GE c];exact J6 _ Q
def oU(n:Nat):(rgI n).Pairwise (· < ·):=by
 rw[rgI,mF];exact List.pairwise_lt_range.imp λh=>by omega
def PU{o:List Int}{n:Nat}(z:o.Nodup)(G: ∀x∈o,0<=x/\x<(n:Int))(O: ∀x:Int,0<=x->x<n->x∈o):o.Perm (rgI n):=by
 refine (rM z (Pw.2 ((oU n).imp λh=>by omega))).2 λx=>⟨λh=> ?_,λh=> ?_⟩
 .obtain⟨a,b⟩:=G x h;exact BZ.2 ⟨x.toNat,CX.2 (by omega),by omega⟩
 .obtain⟨k,Q,rfl⟩:=BZ.1 h
  have:=CX.1 Q
  exact O _ (by omega) (by omega)
def Ul{o:List Int}{n:Nat}(z:o.Nodup)(G: ∀x∈o,0<=x/\x<(n:Int))(O: ∀x:Int,0<=x->x<n->x∈o):o.length=n:=by
 rw[(PU z G O).length_eq,bD]
def Gq(z:List Int)(q:Int):Nat->List Int
 |0=>[]
 |i+1=>Gq z q i++if (z[i]?).getD 0=q then [(i:Int)] else []
def iV(l:List Aj)(z:List Int)(q:Int): ∀n,D3 l z q n=BV l (Gq z q n)
 |0=>rfl
 |n+1=>by
  rw[D3,Gq,iV l z q n];simp only[BV,Fg];congr 1
  split<;>simp[V1]
def HB(z:List Int)(q:Int)(x:Int): ∀n:Nat,x∈Gq z q n↔0<=x/\x<n/\(z[x.toNat]?).getD 0=q
 |0=>by simp only[Gq,Za,false_iff];omega
 |n+1=>by
  rw[Gq,B5,HB z q x n];by_cases c:(z[n]?).getD 0=q
  .rw[Ak c,BN];constructor
   .rintro (⟨a,b,e⟩|rfl)
    .exact⟨a,by omega,e⟩
    .exact⟨by omega,by omega,by simpa using c⟩
   .rintro⟨a,b,e⟩;by_cases h:x=n
    .exact .inr h
    .exact .inl ⟨a,by omega,e⟩
  .rw[Ad c];simp only[Za,eW];constructor
   .rintro⟨a,b,e⟩;exact⟨a,by omega,e⟩
   .rintro⟨a,b,e⟩;refine⟨a,?_,e⟩
    have:x≠n:=λh=>c (by rw[h] at e;simpa using e)
    omega
def iU(G:List Int)(q:Int): ∀n:Nat,(Gq G q n).Pairwise (· < ·)
 |0=> .nil
 |n+1=>by
  rw[Gq,Zfn];refine⟨iU G q n,by split<;>simp,λa O b z=> ?_⟩
  have:=((HB G q a n).1 O).2.1
  split at z
  .obtain rfl:=BN.1 z;omega
  .cases z
def Da(z:List Int)(n:Nat):Nat->List Int
 |0=>[]
 |m+1=>Da z n m++Gq z ((m:Int)+1) n
def KX(z:List Int)(n:Nat)(x:Int): ∀m:Nat,x∈Da z n m↔0<=x/\x<n/\1<=(z[x.toNat]?).getD 0/\(z[x.toNat]?).getD 0<=m
 |0=>by simp only[Da,Za,false_iff];omega
 |m+1=>by
  rw[Da,B5,KX z n x m,HB];omega
def wG(z:List Int)(n:Nat): ∀m:Nat,(Da z n m).Nodup
 |0=> .nil
 |m+1=>by
  rw[Da,RD];refine⟨wG z n m,Pw.2 ((iU _ _ _).imp λh=>by omega),λa O b Q e=> ?_⟩;have G:=((KX z n a m).1 O).2.2.2;have Z:=((HB z _ b n).1 Q).2.2;rw[e] at G;omega
def UP{nd:List (List Int)}(hn:Gm nd){i x:Int}(h0:0<=i)(Z:i<nd.length)(O:x∈Dl nd i):((AB nd nd.length)[x.toNat]?).getD 0<((AB nd nd.length)[i.toNat]?).getD 0:=by
 have Q:=XR hn h0 O;rw[FI nd nd.length i.toNat (by omega),FI nd nd.length x.toNat (by omega)];obtain⟨t,G⟩:=EK.1 O;have z:=(Yx (AB nd i.toNat) (Dl nd i) (Dl nd i).length (AW _)).1 t (B9.1 G).1;rw[G,AJ,FI nd i.toNat x.toNat (by omega)] at z;simp only[AJ,Dl] at z⊢;omega
def Iu{nd:List (List Int)}{i:Nat}(z:i<nd.length):1<=((AB nd nd.length)[i]?).getD 0:=by
 rw[FI nd nd.length i z,AJ]
 have:=(KP (out:=AB nd i) (own:=(nd[i]?).getD []) (GR nd i) (by omega) ((nd[i]?).getD []).length).1
 omega
def wQ{nd:List (List Int)}(hn:Gm nd): ∀m:Nat,MN nd (Da (AB nd nd.length) nd.length m)
 |0=>λj i h=>by simp[Da] at h
 |m+1=>by
  refine Uu (wQ hn m) λi O x G=> ?_
  obtain⟨a,b,e⟩:=(HB _ _ _ _).1 O;have z:=XR hn a G
  have:=UP hn a b G
  have:=Iu (nd:=nd) (i:=x.toNat) (by omega)
  exact (KX _ _ _ _).2 ⟨z.1,by omega,by omega,by omega⟩
def Na(l:List Aj)(z:List Int)(n:Nat):(MZ l z n).length=(Fv z n).toNat:=by simp[MZ]
def T4(s:An)(l:List Aj)(B:Al):Prop:= ∀(j k:Nat) (o q:Aj),l[j]? =some o->(⟨o.At,o.Tile⟩:Ar)∈B.Tiles->(k:Int)∈Dl (Bh s l) j->l[k]? =some q->(⟨q.At,q.Tile⟩:Ar)∈B.Tiles
def Tb(p:Ac){e:Nat}(z:e<4):Bv (Bv p (e:Int)) (((e+2) % 4:Nat):Int)=p:=by
 cases p;rcases (by omega:e=0\/e=1\/e=2\/e=3) with rfl|rfl|rfl|rfl<;>simp[Bv]<;>omega
def UT{s:An}{l:List Aj}(h:Cw s l){B:Al}(G: ∀x∈B.Tiles,x∈(Ax s.Seed l).Tiles)(aa:T4 s l B){i:Nat}{o:Aj}(ho:l[i]? =some o)(hp: ∀x∈B.Tiles,x.At≠o.At){y:Ar}(Q:y∈B.Tiles):
 y∈(G6 (Ax s.Seed l) o.At (FB l (BH s s.Seed l) i o.At 4)).Tiles:=by
 obtain⟨h1,h2,h3,_,h5,_⟩:=h;have z:CA s.Set (Ax s.Seed l):=by
  have:=DI h3 h2 h5 l.length (AW _)
  rwa [EW] at this
 have af:=(B9.1 ho).1;rw[G6,SP];refine⟨G y Q,?_⟩;have hk: ∀e:Nat,e<=4->E5 o.At (FB l (BH s s.Seed l) i o.At 4) e y=true:=by
  intro e;induction e with
  |zero=>intro _;simpa[E5] using hp y Q
  |succ e ih=>
   intro he;simp only[E5,ih (by omega),EL,K5,lU,HZ];rw[MT _ _ _ _ e (by omega)];cases hob:Qt l (BH s s.Seed l) i o.At e with
   |false=>exact .inl rfl
   |true=>
    right;intro ac;obtain⟨k,_,g⟩:=Si.1 hob;obtain⟨g1,g2,g3⟩:=Jn.1 g;obtain⟨q,hq⟩: ∃q,l[k]? =some q:=by
     cases c:l[k]? with
     |none=>rw[c] at g2;cases g2
     |some q=>exact⟨q,rfl⟩
    rw[hq] at g2;have O:q.At=Bv o.At e:=by simpa using g2
    have ab:(⟨q.At,q.Tile⟩:Ar)∈(Ax s.Seed l).Tiles:=by
     rw[CB];exact .inr ⟨q,Bd hq,rfl⟩
    have ad:y=⟨q.At,q.Tile⟩:=by
     have a1:=Fc z.1 (G y Q);have a2:=Fc z.1 ab;have Z:y.At=q.At:=by rw[ac,O]
     rw[Z] at a1
     have:y.Tile=q.Tile:=a1.symm.trans a2
     cases y;simp only at Z this;rw[Z,this]
    have hi:(i:Int)∈Dl (Bh s l) k:=by
     rw[Sn hq,Io k (by have:=(B9.1 hq).1;omega)];refine⟨i,(e+2) % 4,g1,by omega,rfl,?_,?_⟩
     .rw[XO s l s.Seed k q hq,AJ] at g3;rw[show (((e+2) % 4:Nat):Int)=((e:Int)+2) % 4 by omega];exact g3
     .rw[ho,CR,O,Tb _ (by omega)]
    have:=aa k i q o hq (ad▸Q) hi ho
    exact hp _ this rfl
 exact hk 4 (AW _)
def jD{s:AI}(h0:BK s){B W:Al}(Q:Dw none B.Tiles=true)(hW:Dw none W.Tiles=true)(hs: ∀x∈B.Tiles,x∈W.Tiles)(p:Ac)(t:Int):CW s (Ba B) p t 4<=CW s (Ba W) p t 4:=by
 refine Sj 4 λd _=> ?_
 have G:=SE h0 (Ba W) p t d;by_cases c:0<Ds s (Ba B) p t d
 case neg=>omega
 obtain⟨y,O,z⟩:=GX ((Im ..).1 c).1;have e:Ba B (Bv p d)=Ba W (Bv p d):=by rw[<-z,Fc Q O,Fc hW (hs y O)]
 simp only[Ds,e];exact Gy _
def jE{s:An}{l:List Aj}(hf:CK s l=none):(∀i,i<l.length->IE s l i=none)/\Bi s (Ax s.Seed l)=[]:=by
 simp only[CK] at hf;have G:GH (IE s l) l.length 0=none:=by
  cases c:GH (IE s l) l.length 0 with
  |none=>rfl
  |some r=>rw[c] at hf;cases hf
 rw[G] at hf;constructor
 .have z: ∀(n k:Nat),GH (IE s l) n k=none-> ∀i,k<=i->i<k+n->IE s l i=none:=by
   intro n;induction n with
   |zero=>intro k _ i a b;omega
   |succ n ih=>
    intro k h i a b;simp only[GH] at h;cases c:IE s l k with
    |some r=>rw[c] at h;cases h
    |none=>
     rw[c] at h;by_cases e:i=k
     .exact e▸c
     .exact ih (k+1) h i (by omega) (by omega)
  exact λi O=>z _ _ G i (Cx _) (by omega)
 .cases c:Bi s (Ax s.Seed l) with
  |nil=>rfl
  |cons o r=>rw[c] at hf;cases hf
def UV{s:An}{l:List Aj}(h:Cw s l)(hf:CK s l=none){B:Al}(hB:CA s.Set B)(aa: ∀x∈B.Tiles,x∈(Ax s.Seed l).Tiles)(ab:T4 s l B){i:Nat}{o:Aj}(O:l[i]? =some o)(hp: ∀x∈B.Tiles,x.At≠o.At)
 {t:Int}(h0:0<=t)(ht:t<s.Set.Tiles.length)(hb:s.Temperature<=CW s.Set (Ba B) o.At t 4):t=o.Tile:=by
 have ac:=(B9.1 O).1;have G:=(jE hf).1 i ac;have h':=h;obtain⟨q1,q2,q3,_,q5,_⟩:=h;have Q:CA s.Set (Ax s.Seed l):=by
  have:=DI q3 q2 q5 l.length (AW _)
  rwa [EW] at this
 have ad:=LY Q o.At (FB l (BH s s.Seed l) i o.At 4);have ag:=jD q1 hB.1 ad.1 (λx hx=>UT h' aa ab O hp hx) o.At t;have af:=Uf q5 q2 q1 q3 O (BH s s.Seed l);obtain⟨_,_,g3,g4,_,_⟩:=D8 (q5 i o O).1;simp only[IE,O,GG,IB] at G;rw[iQ s l s.Seed i o O,AJ] at G;by_cases c:CW s.Set (Ba (Ax s.Seed (l.take i))) o.At o.Tile 4≠s.Temperature
 .rw[Ak c] at G;cases G
 rw[Ad c] at G;have Z:(EF s (Ba (G6 (Ax s.Seed l) o.At (FB l (BH s s.Seed l) i o.At 4))) o.At s.Set.Tiles.length).length=1:=by
  refine Hc λhn=> ?_
  rw[Ak (by simpa using hn)] at G;cases G
 have m1:t∈EF s (Ba (G6 (Ax s.Seed l) o.At (FB l (BH s s.Seed l) i o.At 4))) o.At s.Set.Tiles.length:=Yj.2 ⟨t.toNat,by omega,by omega,by rw[ZdP h0];omega⟩;have m2:o.Tile∈EF s (Ba (G6 (Ax s.Seed l) o.At (FB l (BH s s.Seed l) i o.At 4))) o.At s.Set.Tiles.length:=Yj.2 ⟨o.Tile.toNat,by omega,by omega,by rw[ZdP g3];have:=ZeO.1 c;omega⟩;obtain⟨z,hz⟩:=ZdF.1 Z;rw[hz] at m1 m2;rw[BN] at m1 m2;rw[m1,m2]
def PD(s:AI)(a b:Int){d:Nat}(hd:d<4):Gd s b (((d+2) % 4:Nat):Int) a=Gd s a d b:=by
 have e:((((d+2) % 4:Nat):Int)+2) % 4=d:=by omega
 have z:(((d+2) % 4:Nat):Int)=((d:Int)+2) % 4:=by omega
 simp only[Gd,e];rw[z];by_cases c:Jy s b (((d:Int)+2) % 4)=Jy s a d
 .rw[Ak c,Ak c.symm,c]
 .rw[Ad c,Ad λh=>c h.symm]
def Ti{s:AI}{f g:Ac->Int}{p:Ac}{t:Int}(h: ∀d:Nat,d<4->Ds s f p t d<=Ds s g p t d){d:Nat}(hd:d<4)(G:Ds s f p t d<Ds s g p t d):CW s f p t 4<CW s g p t 4:=by
 have z:=h 0 (by decide);have a1:=h 1 (by decide);have a2:=h 2 (by decide);have a3:=h 3 (by decide);simp only[CW];rcases (by omega:d=0\/d=1\/d=2\/d=3) with rfl|rfl|rfl|rfl<;>omega
def Qg{s:An}{l:List Aj}(h:Cw s l)(hf:CK s l=none){B:Al}(hB:CA s.Set B)(aa: ∀x∈B.Tiles,x∈(Ax s.Seed l).Tiles)(ah:T4 s l B){i:Nat}{o:Aj}(Q:l[i]? =some o)(hp: ∀x∈B.Tiles,x.At≠o.At)
 (hb:s.Temperature<=CW s.Set (Ba B) o.At o.Tile 4){k:Nat}{q:Aj}(hk:(k:Int)∈Dl (Bh s l) i)(hq:l[k]? =some q):(⟨q.At,q.Tile⟩:Ar)∈B.Tiles:=by
 refine Hc λam=> ?_
 have ai:=(B9.1 Q).1;have hg:=(jE hf).1 i ai;obtain⟨q1,q2,q3,_,q5,_⟩:=h;have Z:CA s.Set (Ax s.Seed l):=by
  have:=DI q3 q2 q5 l.length (AW _)
  rwa [EW] at this
 have aq:CA s.Set (Ax s.Seed (l.take i)):=DI q3 q2 q5 i (by omega);simp only[IE,Q,GG,IB] at hg;rw[iQ s l s.Seed i o Q,AJ] at hg;have hT:CW s.Set (Ba (Ax s.Seed (l.take i))) o.At o.Tile 4=s.Temperature:=by
  refine Hc λc=> ?_
  rw[Ak c] at hg;cases hg
 have ak: ∀d:Nat,d<4->Ds s.Set (Ba B) o.At o.Tile d<=Ds s.Set (Ba (Ax s.Seed (l.take i))) o.At o.Tile d:=by
  intro d hd;have ag:=SE q1 (Ba (Ax s.Seed (l.take i))) o.At o.Tile d;by_cases c:0<Ds s.Set (Ba B) o.At o.Tile d
  case neg=>omega
  obtain⟨c1,c2⟩:=(Im ..).1 c;obtain⟨y,hy,G⟩:=GX c1;have ab:=Fc hB.1 hy;have aj:y∈(Ax s.Seed (l.take i)).Tiles:=by
   rcases (CB l s.Seed).1 (aa y hy) with au|⟨z,hz,rfl⟩
   .rw[CB];exact .inl au
   .obtain⟨j,hj⟩:=EK.1 hz;rcases sE j i with O|rfl|O
    .rw[CB];exact .inr ⟨z,EK.2 ⟨j,by rw[R9 O];exact hj⟩,rfl⟩
    .rw[Q] at hj;obtain rfl:=A8 hj;exact absurd rfl (hp _ hy)
    .exfalso;refine hp _ (ah j i z o hj hy ?_ Q) rfl;rw[Sn hj,Io j (by have:=(B9.1 hj).1;omega)];simp only at G;refine⟨i,(d+2) % 4,O,by omega,rfl,?_,by rw[Q,CR,G,Tb _ hd]⟩;rw[Sm _ _ _ _ _ (by omega),BA,Im,G,Tb _ hd];have af:(⟨o.At,o.Tile⟩:Ar)∈(Ax s.Seed (l.take j)).Tiles:=by
      rw[CB];exact .inr ⟨o,EK.2 ⟨i,by rw[R9 O];exact Q⟩,rfl⟩
     have ad:CA s.Set (Ax s.Seed (l.take j)):=DI q3 q2 q5 j (by have:=(B9.1 hj).1;omega);have e:=Fc ad.1 af;simp only at e ab;rw[e,PD _ _ _ hd];rw[<-G,ab] at c2;exact⟨(D8 (q5 i o Q).1).2.2.1,c2⟩
  have e:Ba B (Bv o.At d)=Ba (Ax s.Seed (l.take i)) (Bv o.At d):=by rw[<-G,ab,Fc aq.1 aj]
  simp only[Ds,e];exact Gy _
 rw[Sn Q,Io i (by omega)] at hk;obtain⟨k',d,_,hd,e,hm,ha⟩:=hk;obtain rfl:k=k':=by omega
 rw[Sm _ _ _ _ _ hd,BA] at hm;rw[hq] at ha;have an:q.At=Bv o.At d:=by simpa using ha
 have ac:Ds s.Set (Ba B) o.At o.Tile d=0:=by
  refine Hc λc=> ?_
  have ag:=(SE q1 (Ba B) o.At o.Tile d).1;obtain⟨c1,_⟩:=(Im ..).1 (show 0<Ds s.Set (Ba B) o.At o.Tile d by omega);obtain⟨y,hy,G⟩:=GX c1;have ao:(⟨q.At,q.Tile⟩:Ar)∈(Ax s.Seed l).Tiles:=by
   rw[CB];exact .inr ⟨q,Bd hq,rfl⟩
  have a1:=Fc Z.1 (aa y hy);have a2:=Fc Z.1 ao;have e1:y.At=q.At:=by rw[G,an]
  rw[e1] at a1;have e2:y.Tile=q.Tile:=a1.symm.trans a2;refine am ?_
  have:y=⟨q.At,q.Tile⟩:=by cases y;simp only at e1 e2;rw[e1,e2]
  exact this▸hy
 have:=Ti ak hd (by rw[ac];exact hm)
 omega
def UU{s:An}{l:List Aj}(h:Cw s l)(hf:CK s l=none)(ac:1<=s.Temperature){B:Al}(hB:CA s.Set B)(aa: ∀x∈B.Tiles,x∈(Ax s.Seed l).Tiles)(ag: ∀x∈s.Seed.Tiles,x∈B.Tiles)(ad:T4 s l B)(x:Aj):
 x∈Bi s B↔ ∃i:Nat,l[i]? =some x/\(∀y∈B.Tiles,y.At≠x.At)/\ ∀(k:Nat) (q:Aj),(k:Int)∈Dl (Bh s l) i->l[k]? =some q->(⟨q.At,q.Tile⟩:Ar)∈B.Tiles:=by
 have h':=h;obtain⟨q1,q2,q3,_,q5,_⟩:=h;have Z:CA s.Set (Ax s.Seed l):=by
  have:=DI q3 q2 q5 l.length (AW _)
  rwa [EW] at this
 constructor
 .intro hx;have hc:=jH hB hx;obtain⟨p1,_,p3,p4,_,p6⟩:=D8 hc;have hb:s.Temperature<=CW s.Set (Ba B) x.At x.Tile 4:=by
   simp only[BX,AZ,BA] at hc;rw[H6];exact hc.2.2.2
  have ai: ∃y∈(Ax s.Seed l).Tiles,y.At=x.At:=by
   refine Hc λam=> ?_
   have G: ∀y∈(Ax s.Seed l).Tiles,y.At≠x.At:=λy O e=>am ⟨y,O,e⟩
   have av:=jD q1 hB.1 Z.1 aa x.At x.Tile
   have:BX s (Ax s.Seed l) x=true:=by
    simp only[BX,Bz,AZ,BA];refine⟨p1,⟨p3,by omega⟩,(GS Z.2 _).2 ?_,by rw[<-H6];omega⟩;refine Hc λc=> ?_
    obtain⟨y,O,e⟩:=GX (show 0<=Ba (Ax s.Seed l) x.At by omega);exact G y O e
   have:=wX ac Z this
   rw[(jE hf).2] at this;cases this
  obtain⟨y,O,Q⟩:=ai;rcases (CB l s.Seed).1 O with O|⟨z,hz,rfl⟩
  .exact absurd Q (p6 y (ag y O))
  .obtain⟨i,hi⟩:=EK.1 hz;simp only at Q;have ht:=UV h' hf hB aa ad hi (λw hw=>by rw[Q];exact p6 w hw) p3 p4 (by rw[Q];exact hb);have aq:z=x:=by cases z;cases x;simp only at Q ht;rw[Q,ht]
   subst aq;exact⟨i,hi,p6,λk q hk hq=>Qg h' hf hB aa ad hi p6 hb hk hq⟩
 .rintro⟨i,hi,G,ak⟩;have aw:=(B9.1 hi).1;have ab:=(q5 i x hi).1;obtain⟨p1,_,p3,p4,_,p6⟩:=D8 ab;have an:CA s.Set (Ax s.Seed (l.take i)):=DI q3 q2 q5 i (by omega);refine wX ac hB ?_;simp only[BX,Bz,AZ,BA] at ab⊢;refine⟨p1,⟨p3,by omega⟩,(GS hB.2 _).2 ?_,?_⟩
  .refine Hc λc=> ?_
   obtain⟨y,O,e⟩:=GX (show 0<=Ba B x.At by omega);exact G y O e
  .rw[<-H6] at ab⊢;refine Zfc ab.2.2.2 (Sj 4 λd hd=> ?_);have au:=SE q1 (Ba B) x.At x.Tile d;by_cases c:0<Ds s.Set (Ba (Ax s.Seed (l.take i))) x.At x.Tile d
   case neg=>omega
   obtain⟨c1,_⟩:=(Im ..).1 c;obtain⟨y,O,ah⟩:=GX c1;have ao:=Fc an.1 O;have aj:y∈B.Tiles:=by
    rcases (CB _ _).1 O with O|⟨z,hz,rfl⟩
    .exact ag y O
    .obtain⟨m,hm⟩:=EK.1 hz;have af:m<i:=by
      have:=(B9.1 hm).1
      rw[Cp] at this;omega
     rw[R9 af] at hm;refine ak m z ?_ hm;rw[Sn hi,Io i (by omega)];refine⟨m,d,af,hd,rfl,?_,by rw[hm];simpa using ah⟩;rw[Sm _ _ _ _ d hd,BA];exact c
   have e:Ba B (Bv x.At d)=Ba (Ax s.Seed (l.take i)) (Bv x.At d):=by rw[<-ah,ao,Fc hB.1 aj]
   simp only[Ds,e];exact Gy _
def BQ(s:An)(l:List Aj):List Int:=AB (Bh s l) l.length
def Bb(s:An)(l:List Aj)(m:Nat):Al:=Ax s.Seed (BV l (Da (BQ s l) l.length m))
def GW{z:List Int}{n m:Nat}: ∀i∈Da z n m,0<=i/\i<(n:Int):=λi G=>by
 have:=(KX z n i m).1 G
 exact⟨this.1,this.2.1⟩
def Ta{s:An}{l:List Aj}(h:Cw s l){m k:Nat}{q:Aj}(hq:l[k]? =some q):(∃y∈(Bb s l m).Tiles,y.At=q.At)↔(k:Int)∈Da (BQ s l) l.length m:=by
 have O:=KO h.2.2.2.2.1;constructor
 .rintro⟨y,G,e⟩;rw[Bb,CB] at G;rcases G with G|⟨z,Q,rfl⟩
  .exact absurd e ((D8 (h.2.2.2.2.1 k q hq).1).2.2.2.2.2 y (by rw[CB];exact .inl G))
  .obtain⟨i,Z,Q⟩:=(GU GW).1 Q;have hb:=GW i Z;simp only at e
   have:i.toNat=k:=Pa O (q:=q.At) (by rw[Q];simpa using e) (by rw[hq];rfl)
   rwa [show (k:Int)=i by omega]
 .intro hk;refine⟨⟨q.At,q.Tile⟩,?_,rfl⟩;rw[Bb,CB];exact .inr ⟨q,(GU GW).2 ⟨k,hk,by rw[B1];exact hq⟩,rfl⟩
def Yy{s:An}{l:List Aj}(h:Cw s l){m k:Nat}{q:Aj}(hq:l[k]? =some q):(⟨q.At,q.Tile⟩:Ar)∈(Bb s l m).Tiles↔(k:Int)∈Da (BQ s l) l.length m:=by
 constructor
 .exact λG=>(Ta h hq).1 ⟨_,G,rfl⟩
 .intro z;rw[Bb,CB];exact .inr ⟨q,(GU GW).2 ⟨k,z,by rw[B1];exact hq⟩,rfl⟩
def jA{s:An}{l:List Aj}(h:Cw s l)(m:Nat):Fz s s.Seed (BV l (Da (BQ s l) l.length m)):=by
 have z:(Bh s l).length=l.length:=E4 ..;have aa:=H7 (s:=s) h.2.2.2.2.2;have hg:=wQ aa;rw[z] at hg;obtain⟨M,hM,Z⟩: ∃M:Nat,m<=M/\(Fv (BQ s l) l.length).toNat<=M:=⟨m+(Fv (BQ s l) l.length).toNat,by omega,by omega⟩;have hd:=wG (BQ s l) l.length M;have G: ∀x:Int,0<=x->x<l.length->x∈Da (BQ s l) l.length M:=λx a b=>by
  rw[KX];have g1:=Iu (nd:=Bh s l) (i:=x.toNat) (by omega);have g2:=(H8 (BQ s l) l.length).1 x.toNat (by omega);rw[z] at g1;simp only[BQ] at g2⊢;exact⟨a,b,g1,by simp only[BQ] at Z;omega⟩
 have hl:=Ul hd GW G;have hp:=V3 h GW hd hl (hg M);have Q: ∀d,∃R,Da (BQ s l) l.length (m+d)=Da (BQ s l) l.length m++R:=by
  intro d;induction d with
  |zero=>exact⟨[],by simp⟩
  |succ d ih=>
   obtain⟨R,hR⟩:=ih;exact⟨R++Gq (BQ s l) ((m+d:Nat)+1) l.length,by rw[<-Px,Da,hR,HY]⟩
 obtain⟨R,hR⟩:=Q (M - m);rw[show m+(M - m)=M by omega] at hR;rw[hR] at hp;intro j o hj;have O:=(B9.1 hj).1
 have:=hp j o (by rw[BV,Fg];rw[Eh (by simpa[BV] using O)];exact hj)
 rw[BV,Fg,Zem (by have:j<(BV l (Da (BQ s l) l.length m)).length:=O;simp only[BV,FN] at this⊢;omega)] at this;exact this
def Yz{s:An}{l:List Aj}(h:Cw s l)(hf:CK s l=none)(hT:1<=s.Temperature)(m:Nat)(x:Aj):x∈Bi s (Bb s l m)↔ ∃i:Nat,l[i]? =some x/\((BQ s l)[i]?).getD 0=(m:Int)+1:=by
 have Z:(Bh s l).length=l.length:=E4 ..;have ad:=H7 (s:=s) h.2.2.2.2.2;have hB:CA s.Set (Bb s l m):=by
  have:=DI h.2.2.1 h.2.1 (jA h m) _ (AW _)
  rwa [EW] at this
 have ah: ∀x∈(Bb s l m).Tiles,x∈(Ax s.Seed l).Tiles:=λy G=>by
  rw[Bb,CB] at G;rw[CB];rcases G with G|⟨z,hz,e⟩
  .exact .inl G
  .obtain⟨i,_,hz⟩:=(GU GW).1 hz;exact .inr ⟨z,Bd hz,e⟩
 have an: ∀x∈s.Seed.Tiles,x∈(Bb s l m).Tiles:=λy G=>by rw[Bb,CB];exact .inl G
 have ag: ∀(j k:Nat),j<l.length->(k:Int)∈Dl (Bh s l) j->((BQ s l)[k]?).getD 0<((BQ s l)[j]?).getD 0/\k<j:=λj k hj hk=>by
  have Q:=UP ad (i:=(j:Int)) (by omega) (by omega) hk;have h2:=XR ad (by omega) hk;rw[Z] at Q;simp only[B1] at Q;exact⟨Q,by omega⟩
 have ak: ∀j:Nat,j<l.length->1<=((BQ s l)[j]?).getD 0:=λj hj=>by
  have:=Iu (nd:=Bh s l) (i:=j) (by omega)
  rwa [Z] at this
 have O: ∀j:Nat,j<l.length->((j:Int)∈Da (BQ s l) l.length m↔((BQ s l)[j]?).getD 0<=m):=λj hj=>by
  rw[KX,B1]
  have:=ak j hj
  omega
 have aj:T4 s l (Bb s l m):=λj k o q ho G hk hq=>by
  have af:=(B9.1 ho).1;have ac:=(B9.1 hq).1;rw[Yy h ho,O j af] at G;rw[Yy h hq,O k ac]
  have:=(ag j k af hk).1
  omega
 rw[UU h hf hT hB ah an aj];refine exists_congr λi=>and_congr_right λhi=> ?_
 have ab:=(B9.1 hi).1;have aa:(∀y∈(Bb s l m).Tiles,y.At≠x.At)↔ ¬((BQ s l)[i]?).getD 0<=m:=by
  rw[<-O i ab,<-Ta h hi];constructor
  .rintro Q ⟨y,G,e⟩;exact Q y G e
  .exact λQ y G e=>Q ⟨y,G,e⟩
 rw[aa];constructor
 .rintro⟨Q,h2⟩;have e:=FI (Bh s l) l.length i ab;obtain⟨_,h4⟩:=Yx (AB (Bh s l) i) (Dl (Bh s l) i) (Dl (Bh s l) i).length (AW _);have am:((BQ s l)[i]?).getD 0=Ih (AB (Bh s l) i) (Dl (Bh s l) i) (Dl (Bh s l) i).length+1:=by
   simp only[BQ,e,AJ,Dl,B1]
  rcases h4 with h4|⟨t,ht,h4⟩
  .omega
  .obtain⟨z,hz⟩: ∃z,(Dl (Bh s l) i)[t]? =some z:=⟨_,Bk ht⟩;have ai:=Bd hz;have ao:=XR ad (by omega) ai;obtain⟨k,rfl⟩: ∃k:Nat,z=k:=⟨z.toNat,by omega⟩;obtain⟨q,hq⟩: ∃q,l[k]? =some q:=⟨_,Bk (by omega)⟩
   have:=h2 k q ai hq
   rw[Yy h hq,O k (by omega)] at this;rw[hz,AJ,B1,FI (Bh s l) i k (by omega),<-FI (Bh s l) l.length k (by omega)] at h4;simp only[BQ] at this am Q⊢;omega
 .intro Q;refine⟨by omega,λk q hk hq=> ?_⟩;have ac:=(B9.1 hq).1;rw[Yy h hq,O k ac]
  have:=(ag i k ab hk).1
  omega
def Qatc{l:List Aj}(hl:(l.map Aj.At).Nodup){o:List Int}(Z: ∀i∈o,0<=i/\i<l.length)(hd:o.Nodup):(BV l o).Nodup:=by
 rw[BV,Pw,mF];refine (Pw.1 hd).imp_of_mem λ{a b} ha G z e=>z ?_
 have h1:=Z a ha;have h2:=Z b G;have O:l[a.toNat]? =some l[a.toNat]:=Bk (by omega);have Q:l[b.toNat]? =some l[b.toNat]:=Bk (by omega);rw[O,Q,AJ,AJ] at e
 have:=Pa hl (q:=l[a.toNat].At) (by rw[O];rfl) (by rw[Q,CR,<-e])
 omega
def QB{s:An}{l:List Aj}(h:Cw s l)(hf:CK s l=none)(O:1<=s.Temperature)(m:Nat){R:List Aj}(hR:R.Nodup)(Q: ∀x,x∈R↔x∈Bi s (Bb s l m)):R.length=(D3 l (BQ s l) ((m:Int)+1) l.length).length:=by
 have G: ∀i∈Gq (BQ s l) ((m:Int)+1) l.length,0<=i/\i<(l.length:Int):=λi z=>by
  have:=(HB _ _ i _).1 z
  exact⟨this.1,this.2.1⟩
 have hd:(Gq (BQ s l) ((m:Int)+1) l.length).Nodup:=Pw.2 ((iU _ _ _).imp λh=>by omega);rw[iV];refine ((rM hR (Qatc (KO h.2.2.2.2.1) G hd)).2 λx=> ?_).length_eq;rw[Q,Yz h hf O,GU G];constructor
 .rintro⟨i,z,e⟩;exact⟨i,(HB _ _ _ _).2 ⟨by omega,by have:=(B9.1 z).1;omega,by rw[B1];exact e⟩,by rw[B1];exact z⟩
 .rintro⟨i,z,e⟩;obtain⟨_,_,g⟩:=(HB _ _ _ _).1 z;exact⟨i.toNat,e,g⟩
def ZX{s:An}{l:List Aj}(h:Cw s l)(hf:CK s l=none)(G:1<=s.Temperature){m:Nat}{x y:Aj}(Q:x∈Bi s (Bb s l m))(Z:y∈Bi s (Bb s l m))(e:x.At=y.At):x=y:=by
 obtain⟨i,O,_⟩:=(Yz h hf G m x).1 Q;obtain⟨j,z,_⟩:=(Yz h hf G m y).1 Z
 have:i=j:=Pa (KO h.2.2.2.2.1) (q:=x.At) (by rw[O];rfl) (by rw[z,e];rfl)
 subst this;rw[O] at z;exact A8 z
def QA{s:An}{l:List Aj}(h:Cw s l)(hf:CK s l=none)(Z:1<=s.Temperature)(m:Nat){R:List Aj}(hp:CA s.Set (Ax (Bb s l m) R))(hm: ∀x,x∈R↔x∈Bi s (Bb s l m))(x:Ar):x∈(Ax (Bb s l m) R).Tiles↔x∈(Bb s l (m+1)).Tiles:=by
 rw[CB,Bb,Bb,CB,CB];have O: ∀o,o∈BV l (Da (BQ s l) l.length (m+1))↔o∈BV l (Da (BQ s l) l.length m)\/o∈R:=λo=>by
  rw[hm,Yz h hf Z,GU GW,GU GW];constructor
  .rintro⟨i,z,e⟩;rw[Da,B5] at z;rcases z with z|z
   .exact .inl ⟨i,z,e⟩
   .exact .inr ⟨i.toNat,e,((HB _ _ _ _).1 z).2.2⟩
  .rintro (⟨i,z,e⟩|⟨i,z,e⟩)
   .exact⟨i,by rw[Da];exact J6 _ z,e⟩
   .refine⟨i,?_,by rw[B1];exact z⟩;rw[Da];refine RA _ ((HB _ _ _ _).2 ⟨by omega,by have:=(B9.1 z).1;omega,by rw[B1];exact e⟩)
 constructor
 .rintro ((Q|⟨o,G,e⟩)|⟨o,G,e⟩)
  .exact .inl Q
  .exact .inr ⟨o,(O o).2 (.inl G),e⟩
  .exact .inr ⟨o,(O o).2 (.inr G),e⟩
 .rintro (Q|⟨o,G,e⟩)
  .exact .inl (.inl Q)
  .rcases (O o).1 G with G|G
   .exact .inl (.inr ⟨o,G,e⟩)
   .exact .inr ⟨o,G,e⟩
def NA(s:An)(a:Al):(Bi s a).Nodup:=by
 rw[Bi,CC,Pw,List.pairwise_flatMap];refine⟨λp _=> ?_,?_⟩
 .rw[mF];refine (Pw.1 (Lp (s:=s) (f:=Ba a) (p:=p) s.Set.Tiles.length)).imp λh e=>h ?_
  have:=BW Aj.Tile e
  simpa[JU] using this
 .refine (Ye a a.Tiles.length).imp λ{p q} z x G y O e=> ?_
  obtain⟨t,_,rfl⟩:=BZ.1 G;obtain⟨u,_,rfl⟩:=BZ.1 O
  have:=BW Aj.At e
  simp only[JU] at this;rw[this,kV] at z;cases z
def wW{s:An}{b:Al}{o:Aj}(Q:CA s.Set b):BX s b o=true↔EU o.At=true/\(0<=o.Tile/\o.Tile<s.Set.Tiles.length)/\(∀x∈b.Tiles,x.At≠o.At)/\s.Temperature<=CW s.Set (Ba b) o.At o.Tile 4:=by
 constructor
 .intro h;obtain⟨p1,_,z,O,_,G⟩:=D8 h;simp only[BX,AZ,BA] at h;exact⟨p1,⟨z,O⟩,G,by rw[H6];exact h.2.2.2⟩
 .rintro⟨p1,⟨z,O⟩,G,p7⟩;simp only[BX,Bz,AZ,BA];refine⟨p1,⟨z,by omega⟩,(GS Q.2 _).2 ?_,by rw[<-H6];exact p7⟩;refine Hc λc=> ?_
  obtain⟨y,Z,e⟩:=GX (show 0<=Ba b o.At by omega);exact G y Z e
def Ty{s:An}(hs:BK s.Set)(Z:s.Set.Tiles.length<=160){b:Al}(O:CA s.Set b){o q:Aj}(ho:BX s b o=true)(hq:BX s b q=true)(hn:o.At≠q.At):BX s (Ci b o.At o.Tile) q=true:=by
 have z:=KV Z O ho;obtain⟨p1,p2,p3,p4⟩:=(wW O).1 hq;have Q: ∀x,x∈(Ci b o.At o.Tile).Tiles↔x∈b.Tiles\/x=⟨o.At,o.Tile⟩:=λx=>by
  have:=CB (x:=x) [o] b
  simpa[Ax] using this
 refine (wW z).2 ⟨p1,p2,λx G=> ?_,Zfc p4 (jD hs O.1 z.1 (λx G=>(Q x).2 (.inl G)) _ _)⟩;rcases (Q x).1 G with G|rfl
 .exact p3 x G
 .exact hn
def xB{s:An}(hs:BK s.Set)(G:s.Set.Tiles.length<=160): ∀(R:List Aj) (b:Al),CA s.Set b->(R.map Aj.At).Nodup->(∀o∈R,BX s b o=true)->b.Tiles.length+R.length<=500->Fz s b R
 |[],_,_,_,_,_=>λk o h=>by simp at h
 |x::r,b,Q,hd,Z,hn=>by
  rw[Bm,Jb] at hd;have O:=Z x (Ct ..);simp only[Dp] at hn;have ih:=xB hs G r (Ci b x.At x.Tile) (KV G Q O) hd.2 (λo ho=>Ty hs G Q O (Z o (Cs _ ho)) λe=>hd.1 (e▸rY ho)) (by rw[OV];omega);intro k o z;cases k with
  |zero=>
   simp only[Gw,AP] at z;subst z;exact⟨by simpa[Ax] using O,by simp only[Fh,Ax];omega⟩
  |succ k=>
   rw[GD] at z;simp only[Ia,Ax];exact ih k o z
def sK(s:An):Nat->Al->List (List Aj)->List (List Aj)×Al×Int
 |0,a,out=>(out,a,0)
 |n+1,a,out=>if Bi s a=[] then (out,a,0) else if 500<a.Tiles.length+(Bi s a).length then ([],⟨[]⟩,4) else sK s n (Ax a (Bi s a)) (out++[Bi s a])
def C5(s:An)(l:List Aj):Nat:=(Fv (BQ s l) l.length).toNat
def iW{s:An}{l:List Aj}(h:Cw s l)(m:Nat):CA s.Set (Bb s l m):=by
 have:=DI h.2.2.1 h.2.1 (jA h m) _ (AW _)
 rwa [EW] at this
def LA{s:An}{l:List Aj}(h:Cw s l)(z:s.Seed.Tiles.length<=500)(m:Nat):(Bb s l m).Tiles.length<=500:=Ym _ _ z (jA h m)
def Ni{s:An}{l:List Aj}(h:Cw s l)(hf:CK s l=none)(G:1<=s.Temperature)(m:Nat):((Bi s (Bb s l m)).map Aj.At).Nodup:=by
 rw[Pw,mF];exact (Pw.1 (NA s (Bb s l m))).imp_of_mem λ{x y} O Q z e=>z (ZX h hf G O Q e)
def jG{s:An}{l:List Aj}(h:Cw s l)(hf:CK s l=none)(z:1<=s.Temperature)(m:Nat):(Bi s (Bb s l m)).length=(D3 l (BQ s l) ((m:Int)+1) l.length).length:=QB h hf z m (NA s _) λ_=>Iff.rfl
def iY{s:An}{l:List Aj}(h:Cw s l)(hf:CK s l=none)(z:1<=s.Temperature)(m:Nat):(Bb s l (m+1)).Tiles.length=(Bb s l m).Tiles.length+(Bi s (Bb s l m)).length:=by
 rw[jG h hf z,Bb,Bb,Yq,Yq,Da,iV];simp only[BV,FN,CS];omega
def wV{s:An}{l:List Aj}(h:Cw s l)(hf:CK s l=none)(O:1<=s.Temperature)(Q:s.Seed.Tiles.length<=500)(m:Nat):Fz s (Bb s l m) (Bi s (Bb s l m))/\Ax (Bb s l m) (Bi s (Bb s l m))=Bb s l (m+1):=by
 have G:=iW h m;have hp:=xB h.1 h.2.2.1 (Bi s (Bb s l m)) (Bb s l m) G (Ni h hf O m) (λo Z=>jH G Z) (by rw[<-iY h hf O m];exact LA h Q _);refine⟨hp,?_⟩;have z:CA s.Set (Ax (Bb s l m) (Bi s (Bb s l m))):=by
  have:=DI h.2.2.1 G hp _ (AW _)
  rwa [EW] at this
 have e:=wZ z.1 (iW h (m+1)).1 λx=>QA h hf O m z (λ_=>Iff.rfl) x
 cases hx:Ax (Bb s l m) (Bi s (Bb s l m)) with
 |mk t=>
  rw[hx] at e;cases hy:Bb s l (m+1) with
  |mk u=>rw[hy] at e;exact BW Al.mk e
def jJ{s:An}{l:List Aj}(h:Cw s l)(hf:CK s l=none)(O:1<=s.Temperature)(m:Nat):Bi s (Bb s l m)≠[]↔m<C5 s l:=by
 have z:(Bh s l).length=l.length:=E4 ..;obtain⟨_,b2,_⟩:=XU (H7 (s:=s) h.2.2.2.2.2) z.symm;rw[z] at b2;have e:=jG h hf O m;constructor
 .intro G;have Z:(D3 l (BQ s l) ((m:Int)+1) l.length)≠[]:=λc=>by
   rw[c] at e;exact G (Pv.1 e)
  refine Hc λc=>Z (XT _ λj Q=> ?_)
  have:=(H8 (BQ s l) l.length).1 j Q
  simp only[C5] at c;omega
 .intro hm c;rw[c] at e;exact b2 m hm (Pv.1 e.symm)
def jK{s:An}{l:List Aj}(h:Cw s l):C5 s l<=l.length:=by
 have z:(Bh s l).length=l.length:=E4 ..;obtain⟨b1,_,_⟩:=XU (H7 (s:=s) h.2.2.2.2.2) z.symm;rw[z] at b1;simp only[C5,BQ];omega
def MP{s:An}{l:List Aj}(h:Cw s l)(hf:CK s l=none)(z:1<=s.Temperature)(G:s.Seed.Tiles.length<=500): ∀(d m k:Nat) (out:List (List Aj)),m+d=C5 s l->sK s (d+k) (Bb s l m) out=(out++(List.range d).map (λj=>Bi s (Bb s l (m+j))),Bb s l (C5 s l),0)
 |0,m,k,out,Z=>by
  have e:Bi s (Bb s l m)=[]:=Hc λc=>by
   have:=(jJ h hf z m).1 c
   omega
  have O:m=C5 s l:=by omega
  subst O;rw[FM];cases k with
  |zero=>simp[sK]
  |succ k=>rw[sK,Ak e];simp
 |d+1,m,k,out,Z=>by
  have Q:=(jJ h hf z m).2 (by omega);have e:=(wV h hf z G m).2;have hz:=LA h G (m+1);rw[iY h hf z m] at hz;rw[show d+1+k=(d+k)+1 by omega,sK,Ad Q,Ad (by omega),e,MP h hf z G d (m+1) k _ (by omega)];refine Prod.ext ?_ rfl;simp only[HY];rw[List.range_succ_eq_map,Bm,Xw];simp only[Zej,Xx,List.append_cancel_left_eq,eV,I7];refine SO λj _=> ?_
  simp only[Function.comp];rw[show m+1+j=m+(j+1) by omega]
def jF{s:An}{l:List Aj}(h:Cw s l):Bb s l (C5 s l)=Ax s.Seed l:=by
 have z:(Bh s l).length=l.length:=E4 ..;have Z:=iW h (C5 s l);have hE:CA s.Set (Ax s.Seed l):=by
  have:=DI h.2.2.1 h.2.1 h.2.2.2.2.1 _ (AW _)
  rwa [EW] at this
 have e:=wZ Z.1 hE.1 λx=>by
  rw[Bb,CB,CB];refine or_congr Iff.rfl ⟨?_,?_⟩
  .rintro⟨o,Q,rfl⟩;obtain⟨i,_,G⟩:=(GU GW).1 Q;exact⟨o,Bd G,rfl⟩
  .rintro⟨o,Q,rfl⟩;obtain⟨i,G⟩:=EK.1 Q;have O:=(B9.1 G).1;refine⟨o,(GU GW).2 ⟨i,(KX _ _ _ _).2 ⟨by omega,by omega,?_,?_⟩,by rw[B1];exact G⟩,rfl⟩
   .have:=Iu (nd:=Bh s l) (i:=i) (by omega)
    rw[z] at this;rwa [B1]
   .have:=(H8 (BQ s l) l.length).1 i O
    have:=Pb (BQ s l) l.length
    rw[B1];simp only[C5];omega
 cases hx:Bb s l (C5 s l) with
 |mk t=>
  rw[hx] at e;cases hy:Ax s.Seed l with
  |mk u=>rw[hy] at e;exact BW Al.mk e
def nK(s:An)(n:Int):List (List Aj)×Al×Int:=sK s n.toNat s.Seed []
def iZ{s:An}{l:List Aj}(h:Cw s l)(hf:CK s l=none)(G:1<=s.Temperature)(z:s.Seed.Tiles.length<=500):nK s 500=((List.range (C5 s l)).map (λj=>Bi s (Bb s l j)),Ax s.Seed l,0):=by
 have h0:Bb s l 0=s.Seed:=rfl;have Q:=jK h;have O:=h.2.2.2.2.2;have e:=MP h hf G z (C5 s l) 0 (500 - C5 s l) [] (by omega);rw[h0,show C5 s l+(500 - C5 s l)=500 by omega] at e;rw[nK,show (500:Int).toNat=500 from rfl,e,jF h];simp only[Fs,FM]
def fA{nd:List (List Int)}(h:Gm nd): ∀(f:Nat) (a:Int) (out:List Int),a<nd.length->(0<=a->(((AB nd nd.length)[a.toNat]?).getD 0).toNat<=f)->
 (∀i:Nat,i<out.length-> ∃k:Nat,out[i]? =some (k:Int)/\k<nd.length/\((AB nd nd.length)[k]?).getD 0=(if 0<=a then ((AB nd nd.length)[a.toNat]?).getD 0 else 0)+1+i)->
 ∀i:Nat,i<(Ic (Fw nd (AB nd nd.length)) (f+1) a out).length-> ∃k:Nat,(Ic (Fw nd (AB nd nd.length)) (f+1) a out)[i]? =some (k:Int)/\k<nd.length/\((AB nd nd.length)[k]?).getD 0=i+1
 |0,a,out,ha,hf,ho=>by
  by_cases c:a<0
  .have e:Ic (Fw nd (AB nd nd.length)) (0+1) a out=out:=by rw[Ic,Ak c]
   rw[e];intro i O;obtain⟨k,Z,h2,h3⟩:=ho i O;rw[Ad (by omega)] at h3;exact⟨k,Z,h2,by omega⟩
  .have Z:=Iu (nd:=nd) (i:=a.toNat) (by omega)
   have:=hf (by omega)
   omega
 |f+1,a,out,ha,hf,ho=>by
  by_cases c:a<0
  .have e:Ic (Fw nd (AB nd nd.length)) (f+1+1) a out=out:=by rw[Ic,Ak c]
   rw[e];intro i O;obtain⟨k,Z,h2,h3⟩:=ho i O;rw[Ad (by omega)] at h3;exact⟨k,Z,h2,by omega⟩
  .rw[Ic,Ad c];have z:a.toNat<nd.length:=by omega
   have hb:=N8 h (AB nd nd.length) z;obtain⟨s1,s2⟩:=Sf h z;have g1:=Iu (nd:=nd) (i:=a.toNat) z;have aa:=hf (by omega);have Q:0<=Fw nd (AB nd nd.length) a.toNat->((AB nd nd.length)[(Fw nd (AB nd nd.length) a.toNat).toNat]?).getD 0=((AB nd nd.length)[a.toNat]?).getD 0 - 1:=λG=>by
    obtain⟨own,hw⟩: ∃own,nd[a.toNat]? =some own:=⟨_,Bk z⟩;have hx:Fw nd (AB nd nd.length) a.toNat=IM (H3 (AB nd nd.length) a.toNat) own:=by simp only[Fw,hw,AJ]
    rw[hx] at G⊢;rcases OP (H3 (AB nd nd.length) a.toNat) own with ⟨q,_⟩|⟨_,q⟩
    .omega
    .simpa only[H3,BA] using q
   refine fA h f _ _ (by omega) (λG=>by rw[Q G];omega) ?_;intro i O;have hx:(if 0<=Fw nd (AB nd nd.length) a.toNat then ((AB nd nd.length)[(Fw nd (AB nd nd.length) a.toNat).toNat]?).getD 0 else 0)=((AB nd nd.length)[a.toNat]?).getD 0 - 1:=by
    split
    .rename_i G;exact Q G
    .rename_i G;refine Hc λc3=>G (s1 (by omega))
   rw[hx];cases i with
   |zero=>exact⟨a.toNat,by rw[Gw];congr 1;omega,z,by omega⟩
   |succ i=>
    simp only[Dp] at O;obtain⟨k,k1,k2,k3⟩:=ho i (by omega);rw[Ak (by omega)] at k3;exact⟨k,by rw[GD];exact k1,k2,by omega⟩
def wY{nd:List (List Int)}(h:Gm nd): ∀(f:Nat) (a:Int) (out:List Int),a<nd.length->(0<=a->(((AB nd nd.length)[a.toNat]?).getD 0).toNat<=f)->
 ((Ic (Fw nd (AB nd nd.length)) (f+1) a out).length:Int)=out.length+(if 0<=a then ((AB nd nd.length)[a.toNat]?).getD 0 else 0)
 |0,a,out,Z,hf=>by
  by_cases c:a<0
  .rw[Ic,Ak c,Ad (by omega)];omega
  .have h1:=Iu (nd:=nd) (i:=a.toNat) (by omega)
   have:=hf (by omega)
   omega
 |f+1,a,out,Z,hf=>by
  by_cases c:a<0
  .rw[Ic,Ak c,Ad (by omega)];omega
  .rw[Ic,Ad c];have z:a.toNat<nd.length:=by omega
   have hb:=N8 h (AB nd nd.length) z;obtain⟨s1,s2⟩:=Sf h z;have g1:=Iu (nd:=nd) (i:=a.toNat) z;have aa:=hf (by omega);have O:0<=Fw nd (AB nd nd.length) a.toNat->((AB nd nd.length)[(Fw nd (AB nd nd.length) a.toNat).toNat]?).getD 0=((AB nd nd.length)[a.toNat]?).getD 0 - 1:=λG=>by
    obtain⟨own,hw⟩: ∃own,nd[a.toNat]? =some own:=⟨_,Bk z⟩;have Q:Fw nd (AB nd nd.length) a.toNat=IM (H3 (AB nd nd.length) a.toNat) own:=by simp only[Fw,hw,AJ]
    rw[Q] at G⊢;rcases OP (H3 (AB nd nd.length) a.toNat) own with ⟨q,_⟩|⟨_,q⟩
    .omega
    .simpa only[H3,BA] using q
   have Q:(if 0<=Fw nd (AB nd nd.length) a.toNat then ((AB nd nd.length)[(Fw nd (AB nd nd.length) a.toNat).toNat]?).getD 0 else 0)=((AB nd nd.length)[a.toNat]?).getD 0 - 1:=by
    split
    .rename_i G;exact O G
    .rename_i G;refine Hc λc3=>G (s1 (by omega))
   rw[wY h f _ _ (by omega) (λG=>by rw[O G];omega),Q,Ak (show 0<=a by omega),Dp];omega
def mS{s:An}{l:List Aj}(h:Cw s l):(T1 (Bh s l) (BQ s l)).length=C5 s l/\ ∀i:Nat,i<C5 s l-> ∃k:Nat,(T1 (Bh s l) (BQ s l))[i]? =some (k:Int)/\k<l.length/\((BQ s l)[k]?).getD 0=i+1:=by
 have Q:(Bh s l).length=l.length:=E4 ..;have Z:=H7 (s:=s) h.2.2.2.2.2;have G:BQ s l=AB (Bh s l) (Bh s l).length:=by rw[Q];rfl
 have hl:(BQ s l).length=l.length:=Ek ..;have aa:=LV (BQ s l) l.length;have ab:=Pb (BQ s l) l.length;have z:(if 0<=Dm (BQ s l) l.length then ((BQ s l)[(Dm (BQ s l) l.length).toNat]?).getD 0 else 0)=Fv (BQ s l) l.length:=by
  by_cases c:0<l.length
  .obtain⟨t,h1,h2,h3,h4⟩:=jI (BQ s l) l.length c;rw[h1,Ak (by omega),B1,h3];have m1:=(H8 (BQ s l) l.length).1 t h2;rcases (H8 (BQ s l) l.length).2 with m2|⟨j,hj,m2⟩
   .have:=Iu (nd:=Bh s l) (i:=t) (by omega)
    rw[<-G] at this;omega
   .have:=(h4 j hj).1
    omega
  .have e:l.length=0:=by omega
   rw[e];rfl
 have O:0<=Dm (BQ s l) l.length->(((BQ s l)[(Dm (BQ s l) l.length).toNat]?).getD 0).toNat<=l.length:=λc=>by
  rw[Ak c] at z
  have:=jK h
  rw[z];exact this
 simp only[T1,hl];have g1:=wY Z l.length (Dm (BQ s l) l.length) [] (by omega) (by rw[<-G];exact O);have g2:=fA Z l.length (Dm (BQ s l) l.length) [] (by omega) (by rw[<-G];exact O) (λi hi=>by simp at hi);rw[<-G] at g1 g2;rw[z,Hx] at g1;have g3:(Ic (Fw (Bh s l) (BQ s l)) (l.length+1) (Dm (BQ s l) l.length) []).length=C5 s l:=by simp only[C5];omega
 refine⟨g3,λi hi=> ?_⟩;obtain⟨k,k1,k2,k3⟩:=g2 i (by omega);exact⟨k,k1,by omega,k3⟩
def pldOk(x:CH):Prop:=(x.Seq.map Aj.At).Nodup/\(∀o∈x.Seq,GZ o.At)/\x.Inputs.length=x.Seq.length/\x.Seq.length<=500/\BK x.Sys.Set/\CA x.Sys.Set x.End/\x.End.Tiles.length<=1000000/\x.Sys.Set.Tiles.length<=160
def nE{s:An}{z:List Int}{o:Aj}{i:Nat}{m:Bool}{q:Int×Aj}(h:IB s z o i m=some q):q.1=1\/q.1=2:=by
 simp only[IB] at h;split at h
 .obtain rfl:=A8 h;exact .inl rfl
 .split at h
  .obtain rfl:=A8 h;exact .inr rfl
  .cases h
def fE{g:Nat->Option (Int×Aj)}(z: ∀i q,g i=some q->q.1=1\/q.1=2): ∀(n k:Nat) (q:Int×Aj),GH g n k=some q->q.1=1\/q.1=2
 |n+1,k,q,h=>by
  simp only[GH] at h;cases hk:g k with
  |none=>rw[hk,rU] at h;exact fE z n (k+1) q h
  |some r=>rw[hk,Zfr] at h;obtain rfl:=A8 h;exact z k _ hk
def nF{s:An}{l:List Aj}{q:Int×Aj}(h:CK s l=some q):q.1=1\/q.1=2\/q.1=3:=by
 simp only[CK] at h;cases hf:GH (IE s l) l.length 0 with
 |some r=>
  rw[hf,Zfr] at h;obtain rfl:=A8 h
  have:=fE (g:=IE s l) (λi q hq=>by
   simp only[IE,F5] at hq;obtain⟨o,_,z⟩:=hq;exact nE z) _ _ _ hf
  rcases this with h|h
  .exact .inl h
  .exact .inr (.inl h)
 |none=>
  rw[hf,rU] at h;cases he:Bi s (Ax s.Seed l) with
  |nil=>rw[he] at h;cases h
  |cons o r=>rw[he] at h;obtain rfl:=A8 h;exact .inr (.inr rfl)
def UQ{s:An}{l:List Aj}(h:(Br s l).2.2=0):sN s l=Ue (CK s l):=by simp only[sN];rw[Ad (λc=>c h)]
def oQ{s:An}{l:List Aj}(c0:(Br s l).2.2=0):(Br s l).1=Ax s.Seed l/\Cw s l/\s.Seed.Tiles.length<=500/\1<=s.Temperature/\(Ax s.Seed l).Tiles.length<=500/\pldOk ⟨s,l,Ax s.Seed l,BH s s.Seed l,Dd s s.Seed l⟩:=by
 obtain⟨hE,hp,z⟩:=Ip c0;have hp':=hp;obtain⟨q1,q2,q3,q4,O,q6⟩:=hp';have Z:s.Seed.Tiles.length<=500:=(WV (Gl z).2.2).2;have hT:1<=s.Temperature:=by
  simp only[FL,Bz,AZ,BA] at z;exact z.2.2.2.1.1
 have Q:=Ym l s.Seed Z O;have G:CA s.Set (Ax s.Seed l):=by
  have:=DI q3 q2 O l.length (AW _)
  rwa [EW] at this
 exact⟨hE,hp,Z,hT,Q,KO O,λo ho=>by
  obtain⟨k,hk⟩:=EK.1 ho;exact (D8 (O k o hk).1).2.1,Ik ..,q6,q1,G,by simp only;omega,q3⟩
def Lx(s:An)(b:Al)(c:Dv):Prop:=c.Sys=s/\(∃n,RM c.Tl b n)/\O6 s (CO c.Tl) c.Op/\CA s.Set b/\b.Tiles.length<=500/\BK s.Set/\1<=s.Temperature/\s.Set.Tiles.length<=160
def Lx.put{s:An}{b:Al}{c:Dv}(h:Lx s b c){o:Aj}(G:BX s b o=true)(hl:b.Tiles.length<500):Lx s (Ci b o.At o.Tile) (Kb c o.At o.Tile):=by
 obtain⟨rfl,⟨n,z⟩,O,Z,h5,h1,hT,Q⟩:=h;obtain⟨f1,f2⟩:=NT z Z G;obtain⟨z1,z2,z3,z4,z5,z6⟩:=D8 G;exact⟨rfl,⟨_,z.put f2 f1⟩,oM O z3,KV Q Z G,by rw[OV];omega,h1,hT,Q⟩
def MS(s:An)(l:List Int): ∀(n:Nat) (b:Al) (d:List Aj),b.Tiles.length<=500->(L7 s l n b d).1.length<=d.length+n/\(L7 s l n b d).2.1.Tiles.length<=500
 |0,b,d,h=>by simp[L7,h]
 |n+1,b,d,h=>by
  rw[L7];split
  .exact⟨by simp only;omega,h⟩
  .split
   .simp
   .have:=MS s l n (Ci b ‹Aj›.At ‹Aj›.Tile) (d++[‹Aj›]) (by rw[OV];omega)
    simp only[CS,SN] at this;exact⟨by omega,this.2⟩
def Zw{s:An}{a:Al}(c1:FL s=true)(O:La s.Set a=true):newC.pre (s,a)/\Lx s a (YQ s a):=by
 obtain⟨⟨q1,q2,q3,_⟩,q5,_⟩:=Gl c1;obtain⟨z,h4⟩:=WV O;have G:=zC (s:=s.Set) (a:=a) (by rw[q5,O];rfl);have Q:1<=s.Temperature:=by
  simp only[FL,Bz,AZ,BA] at c1;exact c1.2.2.2.1.1
 exact⟨⟨q1,by simp only;omega,λy Z=>⟨z.2 y Z,G.1.2.2.2 y Z⟩⟩,rfl,⟨_,RM.of z.1 λx hx=>(z.2 x hx).1⟩,oL Q,z,h4,q1,Q,q3⟩
def oX{s:An}(c1:FL s=true):s.Seed.Tiles.length<=500:=(WV (Gl c1).2.2).2
def nL(s:An)(l:List Int):(Ig s l).1.length<=500/\(Ig s l).2.1.Tiles.length<=500:=by
 simp only[Ig];split
 .simp
 rename_i c1;split
 .simp
 have:=MS s l 500 s.Seed [] (oX (by simpa using c1))
 simpa using this
def wE{s:An}{l:List Int}(hs:s.Set.Tiles.length<=160): ∀(n:Nat) (b:Al) (d:List Aj),CA s.Set b->(L7 s l n b d).2.2=0-> ∃r,(L7 s l n b d).1=d++r/\ ∀i,Dr s b r i=((L7 s l n b d).2.1,0,0)
 |0,b,d,_,_=>⟨[],by simp[L7],λi=>by simp only[Dr,L7]⟩
 |n+1,b,d,G,h=>by
  rw[L7] at h⊢;cases ho:Qn s l b d.length with
  |none=>exact⟨[],by simp,λi=>by simp only[Dr]⟩
  |some o=>
   rw[ho] at h;simp only at h⊢;by_cases z:500<=b.Tiles.length
   .rw[Ak z] at h;exact absurd h (by decide)
   .rw[Ad z] at h⊢;have O:=N9 G ho;obtain⟨r,Q,Z⟩:=wE hs n _ _ (KV hs G O) h;refine⟨o::r,by rw[Q,HY];rfl,λi=> ?_⟩;rw[Dr,Ad (by simp[O]),Ad z];exact Z _
def U1{s:An}{l:List Int}(h:(Ig s l).2.2=0):Br s (Ig s l).1=((Ig s l).2.1,0,0):=by
 have Q:=(nL s l).1;by_cases c1:FL s=false
 .simp only[Ig] at h;rw[Ak c1] at h;exact absurd h (by decide)
 by_cases z:HA l=false
 .simp only[Ig] at h;rw[Ad c1,Ak z] at h;exact absurd h (by decide)
 have e:Ig s l=L7 s l 500 s.Seed []:=by simp only[Ig];rw[Ad c1,Ad z]
 rw[e] at h Q⊢;obtain⟨_,Z,_,q4⟩:=Oa c1;obtain⟨r,G,O⟩:=wE q4 500 s.Seed [] Z h;rw[Fs] at G;simp only[Br];rw[Ad c1,Ad (by omega),G];exact O 0
def JJ(s:An)(l:List Int):List Aj×Al×Int:=if (Ig s l).2.2≠0 then ([],⟨[]⟩,(Ig s l).2.2) else if (sN s (Ig s l).1).2.2=3 then Ig s l else ([],⟨[]⟩,3)
def fndS_.fv(a:An×(List Int)):(List Aj)×Al×Int:=(JJ) (a.1) (a.2)
def fndS_.row:AO:=vK (b2 (qR An.d_le) (qS Ez Dy)) (r3 (rS Aj.d_le Aj.c_n) (rA Al.d_le) rI) (λa=>True) fndS_.fv
def fndS_.q:=B2 (R:=fndS_.row) rfl
def fndS_.ok:AS 19 fndS_.row:=by
 refine vw (tC GrowS_.ok (tC fltS_.ok tN)) Tryz.func19 ?_;intro a O;simp only[Tryz.f19,Option.getD];simp(disch:=omega)only[ZZ,simprocAttr,Ab,fndS_.fv,GrowS_.q,GrowS_.fv,fltS_.q,fltS_.fv];obtain⟨s,l⟩:=a;have hq:=U1 (s:=s) (l:=l);obtain⟨w,hw⟩: ∃w,w=Ig s l:=⟨_,rfl⟩;simp only[JJ,<-hw] at hq⊢;by_cases c0:w.2.2=0
 case neg=>rw[Ak c0,Ak c0]
 have G:(if w.2.2≠0 then ([],⟨[]⟩,w.2.2) else if (sN s w.1).2.2=3 then w else ([],⟨[]⟩,3))=(if (sN s w.1).2.2=3 then w else (([]:List Aj),(⟨[]⟩:Al),3)):=Ad (λh=>h c0);rw[Ad (λh=>h c0),G];have z:(Br s w.1).2.2=0:=by rw[hq c0]
 obtain⟨_,hp,Z,_⟩:=oQ z;refine⟨⟨hp,Z⟩,?_⟩;rw[UQ z];cases hf:CK s w.1 with
 |none=>
  obtain⟨w0,w1,w2⟩:=w;simp only at c0;subst c0;rfl
 |some q=>
  obtain⟨k,o⟩:=q
  have:=nF hf
  simp only at this;have hk: ¬(nC (some (k,o))).1=0:=by simp only[nC];omega
  have Q: ¬(Ue (some (k,o))).2.2=3:=by simp[Ue]
  rw[Ak hk,Ad Q]
def fF(l:List AG):Prop:= ∀g∈l,g.Name.size<=4
def Ot(l:List Tile):Prop:= ∀t∈l,t.Name.size<=4
def OX(c:UInt8)(k:Int):(Jh c k).size<=4:=by
 simp only[Jh,Zfb,xA];exact (by decide:1+1<=4)
def iR{l m:List AG}(z:fF l)(G:fF m):fF (l++m):=λg O=>(B5.1 O).elim (z g) (G g)
def OZ{l m:List Tile}(z:Ot l)(G:Ot m):Ot (l++m):=λg O=>(B5.1 O).elim (z g) (G g)
def Yu{g:AG}(h:g.Name.size<=4):fF [g]:=λx z=>by obtain rfl:=BN.1 z;exact h
def OY{g:Tile}(h:g.Name.size<=4):Ot [g]:=λx z=>by obtain rfl:=BN.1 z;exact h
def Ou{l:List Tile}(h:Ot l)(i d:Nat)(v:Int):Ot (Fa l i d v):=by
 intro T G;obtain⟨j,z⟩:=EK.1 G;rw[KW] at z;obtain⟨U,O,rfl⟩:=DN.1 z
 have:=h U (Bd O)
 split<;>exact this
def Lr(x:Dc): ∀k,fF (D9 k x).1.1/\Ot (D9 k x).1.2
 |0=>by
  simp only[D9];refine⟨iR (l:=[_]) (Yu (by decide)) (Yu (by decide)),OY (by decide)⟩
 |k+1=>by
  obtain⟨z,G⟩:=Lr x k;simp only[D9];exact⟨iR z (Yu (OX _ _)),OZ (Ou G _ _ _) (OY (OX _ _))⟩
def Lu{w:Nat}{s:(List AG×List Tile)×Dc}(hs:fF s.1.1/\Ot s.1.2): ∀k,fF (DY w s k).1.1/\Ot (DY w s k).1.2
 |0=>hs
 |k+1=>by
  obtain⟨z,G⟩:=Lu (w:=w) hs k;simp only[DY];exact⟨iR z (Yu (OX _ _)),OZ (Ou G _ _ _) (OY (OX _ _))⟩
def Tw{s:List Tile×Dc}(hs:Ot s.1): ∀k,Ot (Gj s k).1
 |0=>hs
 |k+1=>by
  simp only[Gj];exact OZ (Tw hs k) (OY (OX _ _))
def RO(l:List Tile):Prop:= ∀t∈l,1<=t.Name.size
def iX(c:UInt8)(k:Int):1<=(Jh c k).size:=by
 simp only[Jh,Zfb,xA];exact (by decide:1<=1+1)
def Zv{m:Int}{x:Dc}(h:EY m x):EY (m+24) (EP x).2/\(EP x).1.Set.Tiles.length<=14:=by
 have p1:=DK h 4;have b1:=GV x 4;have Q:=DK p1 4;have b2:=GV (AD x 4).2 4;obtain⟨p,hp⟩: ∃p,p=AD x 4:=⟨_,rfl⟩;rw[<-hp] at p1 b1 Q b2;obtain⟨q,hq⟩: ∃q,q=AD p.2 4:=⟨_,rfl⟩;rw[<-hq] at Q b2;obtain⟨c1,c2,c3,c4⟩:=Ls Q (1+p.1).toNat;obtain⟨d1,d2,O,d4⟩:=Lv (w:=(1+p.1).toNat) c1 c2 c3 c4 (1+q.1).toNat;obtain⟨z,hb⟩: ∃z,z=DY (1+p.1).toNat (D9 (1+p.1).toNat q.2) (1+q.1).toNat:=⟨_,rfl⟩;rw[<-hb] at d1 d2 O d4;obtain⟨e1,G⟩:=Lw (s:=(z.1.2,z.2)) d1 4;simp only at G;obtain⟨Z,hc⟩: ∃Z,Z=Gj (z.1.2,z.2) 4:=⟨_,rfl⟩;rw[<-hc] at e1 G;have z1:=DK e1 3;have u1:=DK z1 2;have v1:=DK u1 2;have aa:=b1.2 (by decide);have ab:=b2.2 (by decide);simp only[EP,<-hp,<-hq,<-hb,<-hc];constructor
 .split
  .exact v1.mono (by omega)
  .exact z1.mono (by omega)
 .split
  .simp only[CS,SN];rw[G,O];omega
  .rw[G,O];omega
def Y1{l m:List Tile}(z:RO l)(G:RO m):RO (l++m):=λg O=>(B5.1 O).elim (z g) (G g)
def Sr{g:Tile}(h:1<=g.Name.size):RO [g]:=λx z=>by obtain rfl:=BN.1 z;exact h
def Oq{l:List Tile}(h:RO l)(i d:Nat)(v:Int):RO (Fa l i d v):=by
 intro T G;obtain⟨j,z⟩:=EK.1 G;rw[KW] at z;obtain⟨U,O,rfl⟩:=DN.1 z
 have:=h U (Bd O)
 split<;>exact this
def Tt(x:Dc): ∀k,RO (D9 k x).1.2
 |0=>by
  simp only[D9];exact Sr (by decide)
 |k+1=>by
  simp only[D9];exact Y1 (Oq (Tt x k) _ _ _) (Sr (iX _ _))
def Tu{w:Nat}{s:(List AG×List Tile)×Dc}(hs:RO s.1.2): ∀k,RO (DY w s k).1.2
 |0=>hs
 |k+1=>by
  simp only[DY];exact Y1 (Oq (Tu hs k) _ _ _) (Sr (iX _ _))
def Tv{s:List Tile×Dc}(hs:RO s.1): ∀k,RO (Gj s k).1
 |0=>hs
 |k+1=>by
  simp only[Gj];exact Y1 (Tv hs k) (Sr (iX _ _))
def Zt(x:Dc):RO (EP x).1.Set.Tiles:=by
 simp only[EP];have h:=Tv (s:=((DY (1+(AD x 4).1).toNat (D9 (1+(AD x 4).1).toNat (AD (AD x 4).2 4).2) (1+(AD (AD x 4).2 4).1).toNat).1.2,(DY (1+(AD x 4).1).toNat (D9 (1+(AD x 4).1).toNat (AD (AD x 4).2 4).2) (1+(AD (AD x 4).2 4).1).toNat).2)) (Tu (Tt _ _) _) 4;split
 .exact Y1 h (Sr (show 1<=(⟨#[114,52]⟩:ByteArray).size by decide))
 .exact h
def sP(t:Tile):Bool:=decide ((t.Name.data[0]?.getD 0).toNat≠114)
def Zk(f:Int)(k:Nat):Int:=IntKind.i64.wrap (1+Hd .i64 (f.fdiv (2^min k IntKind.i64.bits)) 1)
def Rt(f g:Int):Nat->List Tile
 |0=>[]
 |k+1=>Rt f g k++[⟨Jh 114 k,[Zk f k,Zk g k,1+(k:Int) % 2,1+(k:Int)/2]⟩]
def LZ(x:Dc):An×Dc:=
 let c:=EP x
 let f:=AD c.2 16
 let g:=AD f.2 16
 (⟨⟨c.1.Set.Glues,c.1.Set.Tiles.filter sP++Rt f.1 g.1 4⟩,c.1.Seed,c.1.Temperature⟩,g.2)
def xor_.H1(x:Dc):Au:=(0,(true,.cells 125 (Am (LZ x).2)))::Bf (LZ x).1
def xor_.row:AO:=AM wld_.ca Ay 1 (λx=>EY 800 x) B3 (λx=>Bg (LZ x).1) xor_.H1 130
def IZ:=J @dec_.q @dec_.fv.eq_1
def xor_.ok:AS 56 xor_.row:=by
 refine VA (tC pck_.ok (tC cor_.ok (tC dec_.ok tN))) Tryz.func56 (exB:=λj=>Nat.ble 1 j) (R:=λx r=>r=Bg (LZ x).1) (λ_=>rfl)
  (λa=>by simp[wld_.ca,Ay,Am,xor_.H1,Bf,Bg,B3,AL,AV.bel,AH,Cz,Df,Ah.nms,AE,AV.nms,Av,hget]) (λa p hp=> ?_) (λa r h=>by subst h;exact ED.refl _) ?_
 rotate_left
 intro a aa;simp only[Tryz.f56,Option.getD,wld_.ca,Ay,Am,xor_.H1,Bf,Bg,B3];simp(disch:=omega)only[ZZ,simprocAttr,Ab,IZ,AR,Az,wld_.ca,Ay,Am,xor_.H1,Bf,Bg,B3]
 .obtain⟨x,rfl⟩: ∃x,x=a:=⟨_,rfl⟩;refine AM.os x [0] (show EY 900 x from aa.mono (by omega)) (λj=>E6 _ j) rfl rfl ?_ ?_
  .simp(disch:=omega)only[ZZ,simprocAttr,Ab,IZ,AR,Az,wld_.ca,Ay,Am,xor_.H1,Bf,Bg,B3,wld_.ca,Ay,Am,Bt,Cl]
   try exact⟨rfl,rfl⟩
  obtain⟨d,hd⟩: ∃d,d=EP x:=⟨_,rfl⟩;have ad:=Zt x;obtain⟨af,ac⟩:=Zv aa;rw[<-hd] at ad af ac;simp(disch:=omega)only[ZZ,simprocAttr,Ab,IZ,AR,Az,wld_.ca,Ay,Am,xor_.H1,Bf,Bg,B3,cor_.H1,Bg,Bf,Ay,Am,B3,sub,Cl,<-hd,NO,KN];refine AM.os (d.2,16) [0] ⟨af.mono (by omega),by simp only;omega⟩ (λj=>E6 _ j) rfl rfl ?_ ?_
  .simp(disch:=omega)only[ZZ,simprocAttr,Ab,IZ,AR,Az,wld_.ca,Ay,Am,xor_.H1,Bf,Bg,B3,pck_.ca,pck_.H0,Ay,Am,Bt,Cl]
   try exact⟨rfl,rfl⟩
  have Z:=DK af 16;simp(disch:=omega)only[ZZ,simprocAttr,Ab,IZ,AR,Az,wld_.ca,Ay,Am,xor_.H1,Bf,Bg,B3,pck_.H1,Ay,Am,B3,sub,Cl];obtain⟨y,hy⟩: ∃y,y=AD d.2 16:=⟨_,rfl⟩;rw[<-hy] at Z;simp only[<-hy];refine AM.os (y.2,16) [0] ⟨Z.mono (by omega),by simp only;omega⟩ (λj=>E6 _ j) rfl rfl ?_ ?_
  .simp(disch:=omega)only[ZZ,simprocAttr,Ab,IZ,AR,Az,wld_.ca,Ay,Am,xor_.H1,Bf,Bg,B3,pck_.ca,pck_.H0,Ay,Am,Bt,Cl]
   try exact⟨rfl,rfl⟩
  simp(disch:=omega)only[ZZ,simprocAttr,Ab,IZ,AR,Az,wld_.ca,Ay,Am,xor_.H1,Bf,Bg,B3,pck_.H1,Ay,Am,B3,sub,Cl];obtain⟨z,hz⟩: ∃z,z=AD y.2 16:=⟨_,rfl⟩;simp only[<-hz];obtain⟨O,hts⟩: ∃O,O=d.1.Set.Tiles:=⟨_,rfl⟩;rw[<-hts] at ad ac;simp only[<-hts];refine Bc.ren ⟨{i:Nat//i<=O.length},λi=>⟨[(7,.im (.int .i64 i.1)),(6,.own 84),(5,.im (.int .i64 z.1)),(4,.im (.int .i64 y.1)),(3,.ptr 82 0),(2,.ptr 1 0),(0,.ptr 0 0)],[(84,(true,.arr 135 2 (((O.take i.1).filter sP).map Tile.c))),(0,(true,.cells 125 (Am z.2))),(82,(true,.cells 32 [.own 2,.own 3,.own 4,.im (.int .i64 d.1.Temperature)])),(2,(true,.arr 133 2 (d.1.Set.Glues.map AG.c))),(3,(true,.arrA 135 2 (Bo (O.map Tile.c)))),(4,(true,.arr 136 3 (d.1.Seed.Tiles.map Ar.c))),(1,(true,.cells 32 [.im (.sl true 0 []),.im (.sl true 0 []),.im (.sl true 0 []),.im (.int .i64 0)]))],85⟩,λi=>O.length - i.1,λi=>⟨by simp[ZG,Am,Jz],by simp⟩,⟨⟨0,Cx _⟩,[(84,some 83)],?_⟩,λi=> ?_⟩
  .simp only[Ao,Am,Fh,rQ,BY];simp(disch:=omega)only[ZZ,simprocAttr,Ab,IZ,AR,Az,wld_.ca,Ay,Am,xor_.H1,Bf,Bg,B3,AU,AT,GC]
   try simp
  obtain⟨i,hi⟩:=i;have ab:(Bo (O.map Tile.c)).length=O.length:=by simp[Bo]
  simp only[Am];simp(disch:=omega)only[ZZ,simprocAttr,Ab,IZ,AR,Az,wld_.ca,Ay,Am,xor_.H1,Bf,Bg,B3,sub,AQ,ab];refine λ_=>⟨λG=>⟨G,G,λr hr=> ?_⟩,λG=> ?_⟩
  .obtain⟨T,hT⟩: ∃T,O[i]? =some T:=⟨_,Bk G⟩;rw[DX,hT,CR] at hr;obtain rfl:=(A8 hr).symm;have am:=ad T (Bd hT);simp(disch:=omega)only[ZZ,simprocAttr,Ab,IZ,AR,Az,wld_.ca,Ay,Am,xor_.H1,Bf,Bg,B3,Tile.c,Bm,BY,Ia,Fh,hT,ab];refine⟨by omega,λc hc=> ?_⟩;have ag:sP T=decide (¬(c.toNat:Int)=114):=by
    simp only[sP,hc,AJ];rw[ZeX];omega
   have ao:((O.take i).filter sP).length<=14:=DO (Zdp _ _) (by simp;omega);have ai:IntKind.i64.wrap ((i:Int)+1)=((i+1:Nat):Int):=by rw[AF (by omega) (by omega)];omega
   by_cases c1: ¬(c.toNat:Int)=114
   .rw[Ak c1];refine⟨G,G,λr2 ah=> ?_⟩;rw[DX,hT,CR] at ah;obtain rfl:=(A8 ah).symm;simp(disch:=omega)only[ZZ,simprocAttr,Ab,IZ,AR,Az,wld_.ca,Ay,Am,xor_.H1,Bf,Bg,B3,Tile.c,Bm,BY,Ia,Fh,hT,ab];refine⟨by omega,⟨i+1,by omega⟩,[(84,some 86)],by simp only;omega,?_⟩;simp only[Ao,Am];simp(disch:=omega)only[ZZ,simprocAttr,Ab,IZ,AR,Az,wld_.ca,Ay,Am,xor_.H1,Bf,Bg,B3,AU,AT,GC];refine⟨ai,?_⟩;rw[K4 hT,sA,mG,ag,Ak (by simpa using c1),rQ,Fg,Bm,BY];rfl
   .rw[Ad c1];refine⟨⟨i+1,by omega⟩,[],by simp only;omega,?_⟩;simp only[Ao,Am];simp(disch:=omega)only[ZZ,simprocAttr,Ab,IZ,AR,Az,wld_.ca,Ay,Am,xor_.H1,Bf,Bg,B3,AU,AT,GC];refine⟨ai,?_⟩;rw[K4 hT,sA,mG,ag,Ad (by simpa using c1),rQ,CQ]
  obtain rfl:i=O.length:=by omega
  obtain⟨Q,hfs⟩: ∃Q,Q=O.filter sP:=⟨_,rfl⟩;have an:Q.length<=14:=by rw[hfs];exact DO (Zdp _ _) ac
  simp only[EW,<-hfs];refine Bc.frr ⟨{k:Nat//k<=4},λk=>⟨[(8,.im (.int .i64 k.1)),(6,.own 85),(5,.im (.int .i64 z.1)),(4,.im (.int .i64 y.1)),(3,.ptr 82 0),(2,.ptr 1 0),(0,.ptr 0 0)],[(85,(true,.arrA 135 2 (Bo ((Q++Rt y.1 z.1 k.1).map Tile.c)))),(0,(true,.cells 125 (Am z.2))),(82,(true,.cells 32 [.own 2,.own 3,.own 4,.im (.int .i64 d.1.Temperature)])),(2,(true,.arr 133 2 (d.1.Set.Glues.map AG.c))),(3,(true,.arrA 135 2 (Bo (O.map Tile.c)))),(4,(true,.arr 136 3 (d.1.Seed.Tiles.map Ar.c))),(1,(true,.cells 32 [.im (.sl true 0 []),.im (.sl true 0 []),.im (.sl true 0 []),.im (.int .i64 0)]))],86⟩,λk=>4 - k.1,λk=>⟨by simp[ZG,Am,Jz],by simp⟩,⟨⟨0,Cx _⟩,[],[(85,some 84)],?_⟩,λk=> ?_⟩
  .simp only[Ao,Am,Rt,CQ];simp(disch:=omega)only[ZZ,simprocAttr,Ab,IZ,AR,Az,wld_.ca,Ay,Am,xor_.H1,Bf,Bg,B3,AU,AT,GC,YS]
   try simp
  obtain⟨k,hk⟩:=k;simp only[Am];have aq:(Q++Rt y.1 z.1 k).length<=18:=by
   have: ∀k:Nat,(Rt y.1 z.1 k).length=k:=λk=>by
    induction k with
    |zero=>rfl
    |succ k ih=>simp[Rt,ih]
   rw[CS,this];omega
  simp(disch:=omega)only[ZZ,simprocAttr,Ab,IZ,AR,Az,wld_.ca,Ay,Am,xor_.H1,Bf,Bg,B3,sub,AQ];refine⟨λak=>⟨by omega,by show 1+1<=9223372036854775807;omega,by simp[AL,AV.bel],by omega,by rw[Mp,KN];simp[AL,AV.bel],by simp,?_⟩,λak=> ?_⟩
  .refine⟨⟨k+1,by omega⟩,[86],[(85,some 88)],by simp only;omega,?_⟩;have hm:IntKind.i64.wrap (1+(k:Int).tmod 2)=1+(k:Int) % 2:=by
    rw[eT (by omega)];exact AF (by omega) (by omega)
   have aj:IntKind.i64.wrap (1+IntKind.i64.wrap ((k:Int).tdiv 2))=1+(k:Int)/2:=by
    rw[Zdl (by omega),AF (x:=(k:Int)/2) (by omega) (by omega)];exact AF (by omega) (by omega)
   simp only[Ao,Am];simp(disch:=omega)only[ZZ,simprocAttr,Ab,IZ,AR,Az,wld_.ca,Ay,Am,xor_.H1,Bf,Bg,B3,AU,AT,GC,YS,Xl,hm,aj];refine⟨by rw[AF (by omega) (by omega)];omega,?_⟩;have e:(List.map (λr=>List.map AV.im r) (List.map Tile.c (Q++Rt y.1 z.1 (k+1))))=List.map (λr=>List.map AV.im r) (List.map Tile.c (Q++Rt y.1 z.1 k))++[[AV.im (.str (Jh 114 k)),AV.im (.sl false 1 [[.int .i64 (Zk y.1 k)],[.int .i64 (Zk z.1 k)],[.int .i64 (1+(k:Int) % 2)],[.int .i64 (1+(k:Int)/2)]])]]:=by
    simp[Rt,Tile.c,Af]
   rw[e];exact Yv (SF _ _) ⟨rfl,rfl,trivial⟩
  .obtain rfl:k=4:=by omega
   have eN:LZ x=(⟨⟨d.1.Set.Glues,Q++Rt y.1 z.1 4⟩,d.1.Seed,d.1.Temperature⟩,z.2):=by
    simp only[LZ,<-hd,<-hy,<-hz,<-hts,<-hfs]
   refine⟨[],[(1,some 2),(2,some 85),(3,some 4),(4,some 1)],⟨[(2,.ptr 4 0),(0,.ptr 0 0)],[(4,(true,.cells 32 [.own 1,.own 2,.own 3,.im (.int .i64 d.1.Temperature)])),(0,(true,.cells 125 (Am z.2))),(1,(true,.arr 133 2 (d.1.Set.Glues.map AG.c))),(2,(true,.arrA 135 2 (Bo ((Q++Rt y.1 z.1 4).map Tile.c)))),(3,(true,.arr 136 3 (d.1.Seed.Tiles.map Ar.c)))],5⟩,?_,by simp[ZG,Am,Jz],by simp,?_⟩
   .simp only[Ao,Am];simp(disch:=omega)only[ZZ,simprocAttr,Ab,IZ,AR,Az,wld_.ca,Ay,Am,xor_.H1,Bf,Bg,B3,AU,AT,YS,GC]
   .simp only[eN,Am];simp(disch:=omega)only[ZZ,simprocAttr,Ab,IZ,AR,Az,wld_.ca,Ay,Am,xor_.H1,Bf,Bg,B3,Am,Yr]
 simp only[xor_.H1,Bf,BO,Za,eW] at hp;rcases hp with rfl|rfl|rfl|rfl
 .exact .inl ⟨by omega,rfl,rfl⟩
 .exact .inr ⟨by omega,by omega,rfl,rfl⟩
 .exact .inr ⟨by omega,by omega,rfl,rfl⟩
 .exact .inr ⟨by omega,by omega,rfl,rfl⟩
def Y0(code:List Int):An:=(LZ ⟨code,0,0⟩).1
def lxr_.fv(a:(List Int)):An:=(Y0) a
def lxr_.row:AO:=vK (b1 (qS Yp Yw)) (rA An.d_le) (λa=>PE a) lxr_.fv
def lxr_.q:=B2 (R:=lxr_.row) rfl
def lxr_.ok:AS 18 lxr_.row:=by
 refine vw (tC frm_.ok (tC xor_.ok tN)) Tryz.func18 ?_;intro a z;simp only[Tryz.f18,Option.getD];simp(disch:=omega)only[ZZ,simprocAttr,Ab,lxr_.fv];refine AM.os a [] trivial (λj=>by simp[Av,hget]) rfl rfl ?_ ?_
 .simp(disch:=omega)only[ZZ,simprocAttr,Ab,lxr_.fv,frm_.ca,EJ]
  try exact⟨rfl,rfl⟩
 have h0:EY 0 ⟨a,0,0⟩:=⟨z,Gy _,Gy _⟩;simp(disch:=omega)only[ZZ,simprocAttr,Ab,lxr_.fv,frm_.H1,Ay,Am,sub];refine AM.os ⟨a,0,0⟩ [1] (show EY 800 _ from h0.mono (by decide)) (λj=>E6 _ j) rfl rfl ?_ ?_
 .simp(disch:=omega)only[ZZ,simprocAttr,Ab,lxr_.fv,wld_.ca,Ay,Am,Bt,Cl]
  try exact⟨rfl,rfl⟩
 simp(disch:=omega)only[ZZ,simprocAttr,Ab,lxr_.fv,xor_.H1,Bg,Bf,Ay,Am,B3,sub,Cl,NO,KN,OK];rfl
def WS(f g:Int): ∀k,Ot (Rt f g k)
 |0=>λt z=>by cases z
 |k+1=>OZ (WS f g k) (OY (OX _ _))
def Zu(x:Dc):fF (EP x).1.Set.Glues/\Ot (EP x).1.Set.Tiles:=by
 simp only[EP];refine⟨(Lu (Lr _ _) _).1,?_⟩;have h:=Tw (s:=((DY (1+(AD x 4).1).toNat (D9 (1+(AD x 4).1).toNat (AD (AD x 4).2 4).2) (1+(AD (AD x 4).2 4).1).toNat).1.2,(DY (1+(AD x 4).1).toNat (D9 (1+(AD x 4).1).toNat (AD (AD x 4).2 4).2) (1+(AD (AD x 4).2 4).1).toNat).2)) (Lu (Lr _ _) _).2 4;split
 .exact OZ h (OY (show (⟨#[114,52]⟩:ByteArray).size<=4 by decide))
 .exact h
def Qd(code:List Int):R0 (Y0 code).Set:=by
 obtain⟨G,O⟩:=Zu ⟨code,0,0⟩;have Q:Ot (Y0 code).Set.Tiles:=OZ (λt z=>O t (SP.1 z).1) (WS _ _ 4);exact⟨λg Z=>DO (G g Z) (by decide),λt z=>DO (Q t z) (by decide)⟩
def ZS{ι:Type}{P:Program}{V:D6}{N:Nat}{J:ι->(Nat->Prop)->World->Prop}{base:Nat}{ok0:Nat->Prop}{i j:ι}(HV:HU P V)(Z:Pl base J){ac:ι->List D->ι->Prop}{l:Nat}(hY: ∀i x j G Pr W,ac i x j->(∀ok hp,rdl ok hp x G.toList)->J i Pr W->YieldAt Fence.wide 0 P l G W λe W'=>e= .returned (.bool true)/\ ∃Pr',J j Pr' W'/\Ji ok0 Pr W Pr' W')
 {id:Nat}{ops:Array Oper}(k1:Nat)(aq:List.range ops.size=List.range' 0 (ops.toList.take k1).length++(k1::(List.range' (k1+1) (ops.toList.drop (k1+1)).length++[])))(ad:K2 N (ops.toList.take k1)=true)(af:K2 N (ops.toList.drop (k1+1))=true)(z:YD ops=true)
 {o:Oper}{c:Call}{f:Operand}{x:List D}(s1:A9){s s2:A9}{a:Act}{w:World}{Q:Exit->Act->World->Prop}(ho:ops[k1]? =some o)(an:o.op= .call c)(aa:c.callee= .value f)(ai:o.guard=none)
 (hf:Aw s1.tm f= .im (.fn (1000000000+l) [] []))(O:Ec s1.tm c.args.toList=x.map .im)(ao:x.all D.scs=true)(hx:ac i x j)(am: ∀n e,hget s1.h n=some e->e.2.isView=false)(hd: ∀d,o.dst=some d->d<N)(ag:s1.good=true)(ah:s2.good=true)
 (h:It J base ok0 N i s a w)(aj:LP P V (Ha ops (ops.toList.take k1)) (λs=>sub s s1) s)(ak:LP P V (Ha ops (ops.toList.drop (k1+1))) (λs=>sub s s2) (s1.put o.dst (.im (.bool true))))
 (ab: ∀a w,It J base ok0 N j s2 a w->Q .normal a w):(Code.region id ops false).wpIn Fence.wide 0 P Q a w:=by
 refine wpIn_region ?_;rw[aq];refine Yl HV Z (seg:=ops.toList.take k1) (more:=ops.toList.drop k1) (by rw[Jc,Ze]) ad z aj h (λs a w h1 h2=> ?_);have h3:=G8 h2 h1 ag Z;have hw:Region.wanted o (yielded ops a.tmps)=true:=by simp[Region.wanted,ai]
 refine vX Z hY ho hw an aa hf O ao hx am hd h3 (λa w h4=> ?_);refine Yl HV Z (seg:=ops.toList.drop (k1+1)) (more:=[]) (by rw[CQ]) af z ak h4 (λs a w h5 h6=> ?_);exact ab a w (G8 h6 h5 ah Z)
abbrev GM:=List (Ac×List Int)
def ZI(op:GM):sV:=⟨GM×List Ac,(op,[]),λi x j=> ∃(k:Nat) (p:Ac×List Int),i.1[k]? =some p/\x=[.agg (Ac.c p.1)]/\j=(i.1.eraseIdx k,i.2++[p.1]),λi=>i.1=[]⟩
def IH(l:Nat)(left:GM)(z:Option (D×D)):A9:=⟨[(5,.it 0),(0,.im (.fn (1000000000+l) [] []))],[(0,(true,.iter z (left.map DG)))],1⟩
def sM(l:Nat)(left:GM)(p:Ac×List Int):A9:=⟨[(3,.ptr 1 0),(5,.it 0),(0,.im (.fn (1000000000+l) [] []))],[(0,(true,.iter (some (DG p)) (left.map DG))),(1,(true,.cells 50 [.im (.int .i64 p.1.X),.im (.int .i64 p.1.Y)]))],2⟩
def iH(l:Nat)(left:GM)(z:Option (D×D)):(IH l left z).good=true:=by simp[IH,ZG]
def UJ(l:Nat)(left:GM)(p:Ac×List Int):(sM l left p).good=true:=by simp[sM,ZG]
def vY:K1 Tryz.prog (RP []):=Sa [] (by simp)
def Qa(op:GM):Mb Tryz.prog 164 [.ref [.mp ktP (op.map DG)]] (ZI op):=by
 refine U9 Tryz.func164 rfl rfl (by simp) ?_;intro l J base ok0 z hY a w aa;have HV:=lG vY;obtain⟨R,hR⟩: ∃R,R=(λ(e:Exit) (a:Act) (w:World)=> ∃i,(ZI op).fin i/\U8 J base ok0 Tryz.f164.ntmps i (λe _=>e= .normal\/e= .ret) e a w):=⟨_,rfl⟩;rw[<-hR];simp only[Tryz.f164,Option.getD] at aa⊢;refine Mm DJ HV z (by decide) (by decide) aa (Qx:=BS (IH l op none)) ?_ (λs a w G Q=> ?_) (λ_ _ _ _ h=>h.elim) (λ_ _ _ h=>h.elim)
 .simp only[ZZ,simprocAttr,Ab,BS,IH,entry,sub,ktP]
 have h3:=G8 Q G (iH _ _ _) z;clear G Q aa;refine wpIn_block (wpIn_loop_ghost (λm a w=> ∃(i:GM×List Ac) (O:Option (D×D)),m=i.1.length/\It J base ok0 14 i (IH l i.1 O) a w) op.length ⟨(op,[]),none,rfl,h3⟩ ?_);clear h3;rintro m a w ⟨⟨left,Z⟩,O,hm,h⟩;simp only at hm h;refine Mm DJ HV z (by decide) (by decide) h (Qx:=λe s=>match e with
  | .normal=>(left=[]/\sub s ⟨(7,.im (.bool false))::(IH l left O).tm,(IH l left O).h,1⟩)\/ ∃(k:Nat) (p:Ac×List Int),left[k]? =some p/\sub s ⟨(7,.im (.bool true))::(IH l left O).tm,(IH l (left.eraseIdx k) (some (DG p))).h,1⟩
  |_=>False) ?_ (λs a w G Q=> ?_) (λ_ _ _ _ h=>h.elim) (λ_ _ _ h=>h.elim)
 .simp only[ZZ,simprocAttr,Ab,IH,sub,Qwf];refine⟨λh=> .inl (by simpa using h),λi p hp=> ?_⟩;rw[DX] at hp;obtain⟨q,hq,rfl⟩:=DN.1 hp;exact .inr ⟨i,q,hq,rfl⟩
 simp only at G;rcases G with ⟨hl,hs⟩|⟨k,p,hk,hs⟩
 .have h3:=G8 Q hs (by simp[IH,ZG]) z;refine Mm DJ HV z (by decide) (by decide) h3 (Qx:=JF (IH l left O) False True 0) ?_ (λs a w G Q=>G.1.elim) (λid s a w G Q=> ?_) (λ_ _ _ h=>h.elim)
  .simp only[ZZ,simprocAttr,Ab,JF,IH,sub]
  .obtain⟨rfl,_,G⟩:=G;simp only[Exit.then,Exit.inBlock,Bt,hR,U8];exact⟨(left,Z),hl,s,.inl trivial,Q⟩
 have h3:=G8 Q hs (by simp[IH,ZG]) z;clear Q h hs;refine Mm DJ HV z (by decide) (by decide) h3 (Qx:=JF (IH l (left.eraseIdx k) (some (DG p))) True False 0) ?_ (λs a w G Q=> ?_) (λid s a w G Q=>G.2.1.elim) (λ_ _ _ h=>h.elim)
 .simp only[ZZ,simprocAttr,Ab,JF,IH,sub]
 have h:=G8 Q G.2 (iH _ _ _) z;clear G Q h3;refine wpIn_block ?_;refine Mm DJ HV z (by decide) (by decide) h (Qx:=BS (sM l (left.eraseIdx k) p)) ?_ (λs a w G Q=> ?_) (λ_ _ _ _ h=>h.elim) (λ_ _ _ h=>h.elim)
 .simp only[ZZ,simprocAttr,Ab,BS,IH,sM,sub,DG,Ac.c]
  trace_state
 have h3:=G8 Q G (UJ _ _ _) z;clear G Q h;have ab:=(B9.1 hk).1;obtain⟨F,hF⟩: ∃F:AV,F= .im (.fn (1000000000+l) [] []):=⟨_,rfl⟩;obtain⟨E,hE⟩: ∃E:Aq,E=(true,.iter (some (DG p)) ((left.eraseIdx k).map DG)):=⟨_,rfl⟩;refine wpIn_seq (ZS HV z hY (i:=(left,Z)) (j:=(left.eraseIdx k,Z++[p.1])) (x:=[.agg (Ac.c p.1)]) 2 (by decide) (by decide) (by decide) (by decide)
  (⟨[(11,.im (.agg (Ac.c p.1))),(10,F),(5,.it 0),(0,F)],[(0,E)],2⟩:A9) (s2:=⟨[(13,.im (.bool false)),(5,.it 0),(0,F)],[(0,E)],2⟩) rfl rfl rfl rfl (by rw[hF];rfl) rfl (by rfl) ⟨k,p,hk,rfl,rfl⟩ ?_ (by decide) (by rw[hE,hF];simp[ZG]) (by rw[hE,hF];simp[ZG]) h3 ?_ ?_ (λa w h4=> ?_))
 .exact λn e he=>XA _ (by rw[hE];rfl) n e he
 .simp only[ZZ,simprocAttr,Ab,sM,sub,hE,hF,Ac.c,Ha,YR,List.take]
 .simp only[ZZ,simprocAttr,Ab,sM,sub,hE,hF,Ac.c,Ha,YR,List.drop]
 simp only[Exit.then];refine zP DJ HV z (by decide) (by decide) h4 (Qx:=BS (IH l (left.eraseIdx k) (some (DG p)))) ?_ (λs a w G Q=> ?_) (λ_ _ _ _ h=>h.elim) (λ_ _ _ h=>h.elim)
 .simp only[ZZ,simprocAttr,Ab,BS,IH,sub,hE,hF]
 simp only[Exit.inBlock,Exit.then];exact⟨(left.eraseIdx k).length,by rw[Zfl,Ak ab];omega,(left.eraseIdx k,Z++[p.1]),_,rfl,G8 Q G (iH _ _ _) z⟩
end Go.Ae
