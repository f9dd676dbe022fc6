/- Lemmas. Conditions: none. -/
import Derived.Test.YtogafbdeamcpnaaGreatDoorP13
set_option linter.all false
set_option maxHeartbeats 8000000
set_option maxRecDepth 100000
namespace Go.Ae
open Go.Proofs
def Gr(l:List Ak)(k:Int):Int:=if l=D2 (pF k) l.length then k+3*l.length else -1
def RL(k:Int)(n:Nat):Gr (D2 (pF k) n) k=k+3*n:=by
 simp only[Gr,VG,BI]
def heldP_.fv(a:(List Ak)×Int):Int:=(Gr) (a.1) (a.2)
def heldP_.row:A7:=CN (b2 (qS Ak.d_le Ak.c_n) qI) rI (λa=>0<=a.2/\a.2+3*a.1.length<=1099511627776) heldP_.fv
def heldP_.q:=DO (R:=heldP_.row) rfl
def heldP_.ok:AA Tryz.prog 63 heldP_.row:=by
 refine FZ tN Tryz.func63 rfl (by kernel_rfl) ?_;intro a z;simp only[Tryz.f63];simp(disch:=omega)only[ZA,simprocAttr,heldP_.fv];obtain⟨l,k⟩:=a;simp only at z⊢;obtain⟨h1,h2⟩:=z;refine AR.old ⟨{i:Nat//i<=l.length/\l.take i=D2 (pF k) i},λi=>⟨[(5,.im (.int .i64 i.1)),(4,.im (.int .i64 0)),(1,.im (.int .i64 (k+3*i.1))),(0,.im (.sl false 3 (l.map Ak.c)))],[],0⟩,λi=>l.length - i.1,λi=>⟨by simp[Aj.good,An,Ac,A9,AV.bel],by simp⟩,⟨⟨0,by simp[D2]⟩,by simp(disch:=omega)only[ZA,simprocAttr,sub];simp⟩,λi=> ?_⟩;obtain⟨i,ab,G⟩:=i;simp(disch:=omega)only[ZA,simprocAttr,D.sc,D.scs,Bv,sub,AP];intro _;refine⟨λQ=>⟨Q,λx Z=> ?_⟩,λQ=> ?_⟩
 .have w1:IntKind.i64.wrap (k+3*(i:Int)+1)=k+3*(i:Int)+1:=AG (by omega) (by omega);have w2:IntKind.i64.wrap (k+3*(i:Int)+1+1)=k+3*(i:Int)+2:=(AG (by omega) (by omega)).trans (by omega);have w3:IntKind.i64.wrap (k+3*(i:Int)+2+1)=k+3*((i+1:Nat):Int):=(AG (by omega) (by omega)).trans (by omega);simp only[w1,w2,w3];have O:x≠pF k i-> -1=Gr l k:=λc=>by
   simp only[Gr];rw[Ag λh=> ?_];rw[h,MJ Q] at Z;exact c (AE Z).symm
  refine⟨λc=>O λh=>c (by rw[h];rfl),λc1=>⟨Q,λy hy=> ?_⟩⟩;obtain rfl:x=y:=AE (Z.symm.trans hy);refine⟨λc=>O λh=>c (by rw[h];rfl),λc2=>⟨Q,λy hy=> ?_⟩⟩;obtain rfl:x=y:=AE (Z.symm.trans hy);refine⟨λc=>O λh=>c (by rw[h];rfl),λc3=>⟨⟨i+1,by omega,?_⟩,by simp only;omega,by rw[AG (by omega) (by omega)];simp only;omega,rfl⟩⟩;have e:x=pF k i:=by
   obtain⟨⟨u,v⟩,t⟩:=x;simp only[F8] at c1 c2 c3;simp only[pF,c1,c2,c3]
  rw[YV Z,G,nL,e]
 .have aa:i=l.length:=by omega
  subst aa;rw[HJ] at G;simp only[Gr];rw[Ao G]
def NX(x:List Ak)(k:Int):Gr x k=k+3*x.length\/Gr x k= -1:=by
 simp only[Gr];split
 .exact .inl rfl
 .exact .inr rfl
def heldA_.fv(a:Ah×Int):Int:=(λa k=>Gr a.Tiles k) (a.1) (a.2)
def heldA_.row:A7:=CN (b2 (qR Ah.d_le) qI) rI (λa=>0<=a.2/\a.2+3*a.1.Tiles.length<=1099511627776) heldA_.fv
def heldA_.ok:AA Tryz.prog 27 heldA_.row:=by
 refine FZ (tC heldP_.ok tN) Tryz.func27 rfl (by kernel_rfl) ?_;intro a z;simp only[Tryz.f27];simp(disch:=omega)only[ZA,simprocAttr,CB,heldA_.fv,heldP_.q,heldP_.fv,D.sc,D.scs,Bv];obtain⟨⟨x⟩,k⟩:=a;obtain⟨G,O⟩:=z;simp only at G O⊢;refine⟨⟨G,O⟩,?_⟩;rcases NX x k with h|h
 .rw[Ag (by omega)];trivial
 .rw[Ao (by omega)];exact h.symm
def eqAsmF.fv(a:Ah×Ah):Bool:=(λa b=>decide (a=b)) (a.1) (a.2)
def eqAsmF.row:A7:=CN (b2 (qR Ah.d_le) (qR Ah.d_le)) rB (λa=>True) eqAsmF.fv
def eqAsmF.ok:AA Tryz.prog 17 eqAsmF.row:=by
 refine FZ (tC eqPlacedS.ok tN) Tryz.func17 rfl (by kernel_rfl) ?_;intro a z;simp only[Tryz.f17];simp(disch:=omega)only[ZA,simprocAttr,eqAsmF.fv,eqPlacedS.q,eqPlacedS.fv,D.sc,D.scs,Bv];obtain⟨⟨x⟩,⟨y⟩⟩:=a;simp only[Ah.mk.injEq]
 grind
def J3{h:Nat->Option Aq}{n:Nat}{a:Ah}(hn:h n=some (true,.arr 137 3 (a.Tiles.map Ak.c))):Ed h (.agg [.own n])=some (.val (.agg (Ah.c a))):=by
 simp only[Ed,bk,Ax,hn,K9,Ds,EZ,Ah.c]
def KG(a b:Ah):a2 (kR Ah.d) (kR Ah.d) [.val (.agg (Ah.c a)),.val (.agg (Ah.c b))]=some (a,b):=by simp only[a2,kR,Ah.d_c,EN]
def QC(a:Ah):a1 (kR Ah.d) [.val (.agg (Ah.c a))]=some a:=by simp only[a1,kR,Ah.d_c,EN]
def Oc{nx o:Nat}{tm:List (Nat×AV)}{h:Ap}{dst:Option Nat}{go:Aj->Prop}{a:Ah}{k:Int}(hk:0<=k)(Z:k+3*a.Tiles.length<=1099511627776)(hS:hget h o=some (true,.arr 137 3 (a.Tiles.map Ak.c)))(aa:o<nx)
 (Q: ∀G:Ap,(∀m,m≠o->hget G m=hget h m)->go ((⟨tm,G,nx⟩:Aj).put dst (.im (.int .i64 (k+3*a.Tiles.length))))):
 mkAC.row [.agg [.own o],.im (.int .i64 k)] (hget h) nx (CR go ⟨tm,h,nx⟩ dst):=by
 have hd: ∀j,Am (mkAC.H0 (a,k)) j=true->j=0:=λj z=>by
  simp only[Am,mkAC.H0,hget] at z;by_cases h:j=0
  .exact h
  .rw[Be _ _ (λq=>h q.symm)] at z;cases z
 refine AF.tau (a,k) (λ_=>o) ⟨hk,Z⟩ (λj z=>by rw[hd j z];rfl) (λj z=>⟨by rw[hd j z];omega,aa⟩) (λi j hi z _=>by rw[hd i hi,hd j z]) (λp hp=> ?_) ⟨rfl,hS,trivial⟩ (by simp[AV.nms]) (λG hH1 O=>Q G λm hm=>O m λj z h=>hm h.symm);simp only[mkAC.H1,BE] at hp;subst hp;exact⟨rfl,λm hm=>by simp[Ad.nms] at hm⟩
def Od{nx o:Nat}{tm:List (Nat×AV)}{h:Ap}{dst:Option Nat}{go:Aj->Prop}{a:Ah}{k:Int}(hk:0<=k)(Z:k+3*a.Tiles.length<=1099511627776)(hS:hget h o=some (true,.arr 137 3 (a.Tiles.map Ak.c)))(aa:o<nx)
 (Q: ∀G:Ap,hget G o=some (true,.arr 137 3 ((D2 (pF k) a.Tiles.length).map Ak.c))->(∀m,m≠o->hget G m=hget h m)->go ((⟨tm,G,nx⟩:Aj).put dst (.im (.int .i64 (k+3*a.Tiles.length))))):
 mkAC.row [.agg [.own o],.im (.int .i64 k)] (hget h) nx (CR go ⟨tm,h,nx⟩ dst):=by
 have hd: ∀j,Am (mkAC.H0 (a,k)) j=true->j=0:=λj z=>by
  simp only[Am,mkAC.H0,hget] at z;by_cases h:j=0
  .exact h
  .rw[Be _ _ (λq=>h q.symm)] at z;cases z
 refine AF.tau (a,k) (λ_=>o) ⟨hk,Z⟩ (λj z=>by rw[hd j z];rfl) (λj z=>⟨by rw[hd j z];omega,aa⟩) (λi j hi z _=>by rw[hd i hi,hd j z]) (λp hp=> ?_) ⟨rfl,hS,trivial⟩ (by simp[AV.nms]) (λG hH1 O=>Q G (hH1 0 _ rfl) λm hm=>O m λj z h=>hm h.symm);simp only[mkAC.H1,BE] at hp;subst hp;exact⟨rfl,λm hm=>by simp[Ad.nms] at hm⟩
def vN.callU{A:Type}{ar:List PK->Option A}{pre:A->Prop}{re:A->D}{args:List AV}{tm:List (Nat×AV)}{h:Ap}{nx:Nat}{dst:Option Nat}{Q:MN}{cl:List (List Nat)}{i:Nat}{acc:List Fp}(ps:List PK)(O:IH (hget h) args=some (ps,[]))(a:A)(Z:ar ps=some a)(z:pre a)(hq:Hc acc=true)(hu:AC args=[])
 (G:Q (⟨i,[],[],nx,0⟩::acc) ((⟨tm,h,nx⟩:Aj).put dst (.im (re a)))):CU ar pre re args (hget h) nx (Hd cl i acc Q ⟨tm,h,nx⟩ dst):=by
 unfold CU;rw[O,hu];simp only[Vi,Z,DK,PD];refine⟨z,?_,?_,?_⟩
 .rw[Bk.ok_nr];simp[AV.bel,Ac,G1]
 .exact Vr _ _ _ _ hq
 .rw[Aj.app_nr,Bo,N2];exact G
def mH(cl:List (List Nat))(j:Nat)(use touch z:List Nat): ∀acc:List Fp,(acc.all λf=>DN cl f.i j)=true->Gp cl j use touch z acc=true
 |[],_=>rfl
 |f::r,h=>by
  rw[Je,AS] at h;simp only[Gp,dX,h.1,mH cl j use touch z r h.2,ET];cases (HI (use++touch) f.touch && (HI touch f.use && Fx f.nx f.cnt z))<;>rfl
def DQ.nwA{A:Type}{ar:List PK->Option A}{pre:A->Prop}{r0:A->AV}{H1:A->Ap}{cnt:Nat}{args:List AV}{tm:List (Nat×AV)}{h:Ap}{nx:Nat}{dst:Option Nat}{Q:MN}{cl:List (List Nat)}{i:Nat}{acc:List Fp}(ps:List PK)(aa:Ce (hget h) args=some ps)(a:A)(ha:ar ps=some a)(G:pre a)
 (hu:EG (hget h) args=[])(z:(acc.all λf=>DN cl f.i i)=true)
 (hcl: ∀p∈H1 a,p.1<cnt/\ ∀m∈p.2.2.nms,m<cnt)(hb: ∀m∈(r0 a).nms,m<cnt)
 (Z: ∀O:Ap,(∀j e,hget (H1 a) j=some e->hget O (nx+j)=some (e.1,e.2.ren λj=>nx+j))->(∀m,m<nx->hget O m=hget h m)->Q (⟨i,[],IW (AW (λj=>nx+j) (H1 a)),nx,cnt⟩::acc) ((⟨tm,O,nx+cnt⟩:Aj).put dst ((r0 a).ren λj=>nx+j))):
 DQ ar pre r0 H1 cnt args (hget h) nx (Hd cl i acc Q ⟨tm,h,nx⟩ dst):=by
 have e:BT (λj=>j) 0 nx=λj=>nx+j:=funext λj=>by simp[BT]
 unfold DQ;rw[aa];simp only[PW,ha,DK];rw[e,hu];have hk:CR (λs=>Q (⟨i,[],IW (AW (λj=>nx+j) (H1 a)),nx,cnt⟩::acc) s) ⟨tm,h,nx⟩ dst ((r0 a).ren λj=>nx+j) {use:=[],new:=AW (λj=>nx+j) (H1 a),cnt:=cnt}:=aG (λ_=>rfl) rfl hcl hb Z;obtain⟨k1,k2⟩:=hk;exact⟨G,k1,mH _ _ _ _ _ _ z,k2⟩
def RI{H:Ap}{n m:Nat}(h:n≠m):hget (Bg H [n]) m=hget H m:=Kx _ _ _ h
def pg{H H':Ap}{k m:Nat}{e:Aq}{x:Option Aq}(z:(k,e)::Bg H [k]=H')(h:k≠m)(g:hget H m=x):hget H' m=x:=by subst z;exact (FG _ _ _ h).trans g
section
variable {A B:Type}{k:AK A}{r:RK B}{pre:A->Prop}{f:A->B}{args:List AV}{tm:List (Nat×AV)}{h:Ap}{nx:Nat}{dst:Option Nat}
def vK.call{Q:Aj->Prop}(ps:List PK)(O:IH (hget h) args=some (ps,[]))(a:A)(Z:k.r ps=some a)(z:pre a)(G:Q ((⟨tm,h,nx⟩:Aj).put dst (.im (r.e (f a))))):vK k r pre f args (hget h) nx (CR Q ⟨tm,h,nx⟩ dst):=vN.call ps O a Z z G
def CN.call{Q:Aj->Prop}(ps:List PK)(O:Ce (hget h) args=some ps)(a:A)(Z:k.r ps=some a)(z:pre a)(G:Q ((⟨tm,h,nx⟩:Aj).put dst (.im (r.e (f a))))):CN k r pre f args (hget h) nx (CR Q ⟨tm,h,nx⟩ dst):=vF.call ps O a Z z G
def vK.callA{Q:MN}{cl:List (List Nat)}{i:Nat}{acc:List Fp}(ps:List PK)(O:IH (hget h) args=some (ps,[]))(a:A)(Z:k.r ps=some a)(z:pre a)(hq:Hc acc=true)(G: ∀u,Q (⟨i,u,[],nx,0⟩::acc) ((⟨tm,h,nx⟩:Aj).put dst (.im (r.e (f a))))):vK k r pre f args (hget h) nx (Hd cl i acc Q ⟨tm,h,nx⟩ dst):=vN.callA ps O a Z z hq G
def vK.callU{Q:MN}{cl:List (List Nat)}{i:Nat}{acc:List Fp}(ps:List PK)(O:IH (hget h) args=some (ps,[]))(a:A)(Z:k.r ps=some a)(z:pre a)(hq:Hc acc=true)(hu:AC args=[])(G:Q (⟨i,[],[],nx,0⟩::acc) ((⟨tm,h,nx⟩:Aj).put dst (.im (r.e (f a))))):vK k r pre f args (hget h) nx (Hd cl i acc Q ⟨tm,h,nx⟩ dst):=vN.callU ps O a Z z hq hu G
def CN.callA{Q:MN}{cl:List (List Nat)}{i:Nat}{acc:List Fp}(ps:List PK)(O:Ce (hget h) args=some ps)(a:A)(Z:k.r ps=some a)(z:pre a)(hq:Hc acc=true)(G: ∀u,Q (⟨i,u,[],nx,0⟩::acc) ((⟨tm,h,nx⟩:Aj).put dst (.im (r.e (f a))))):CN k r pre f args (hget h) nx (Hd cl i acc Q ⟨tm,h,nx⟩ dst):=vF.callA ps O a Z z hq G
end
def RP(l:List Int):a1 (kS Ck) [.val (.sl false 1 (l.map Al))]=some l:=by simp only[a1,kS,Ku V1,EN]
def Z7(l:List AJ)(k:Int):a2 (kS AJ.d) kI [.val (.sl false 3 (l.map AJ.c)),.val (.int .i64 k)]=some (l,k):=by simp only[a2,kS,kI,AJ.d_R,EN]
def Zp(a:Ah)(k:Int):a2 (kR Ah.d) kI [.val (.agg (Ah.c a)),.val (.int .i64 k)]=some (a,k):=by simp only[a2,kR,kI,Ah.d_c,EN]
def toIR.row:A7:=fK toInt64S.row toIX.row
def toIR.ok:AA Tryz.prog 14 toIR.row:=PV toInt64S.ok toIX.ok
def sQ(l:List Int): ∀p∈toIX.H1 l,p.1<2/\ ∀m∈p.2.2.nms,m<2:=by
 intro p hp;simp only[toIX.H1,BE] at hp;subst hp;exact⟨by omega,by simp[Ad.nms]⟩
def RE(w:List AJ×Ah×Int): ∀p∈UX w,p.1<20/\ ∀m∈p.2.2.nms,m<20:=by
 intro p hp;simp only[UX,Bi,jF,dP] at hp;rcases hp with rfl|rfl
 .exact⟨by omega,by simp[Ad.nms]⟩
 .exact⟨by omega,by simp[Ad.nms]⟩
def JS(w:List AJ×Ah×Int): ∀m∈(Lq w).nms,m<20:=by simp[Lq,AV.nms,AC]
def eI(w:List AJ×Ah×Int): ∀p∈UX w,p.1<20/\p.2.1=true/\Jm p.2.2=true/\ ∀m∈p.2.2.nms,m<20:=by
 intro p hp;simp only[UX,Bi,jF,dP] at hp;rcases hp with rfl|rfl
 .exact⟨by omega,rfl,by simp[Jm,AJ.c,D.sc],by simp[Ad.nms]⟩
 .exact⟨by omega,rfl,by simp[Jm,Ak.c,D.sc],by simp[Ad.nms]⟩
def eH(w:List AJ×Ah×Int):HU (Lq w)=true/\ ∀m∈(Lq w).nms,m<20:=⟨by simp[Lq,HU,Ee,D.sc],JS w⟩
def H4(x:List Ab):List D:=[.sl false 2 (x.map Ab.c)]
def Yd:List D->Option (List Ab)
 |[.sl _ _ rows]=>AO Ab.d rows
 |_=>none
def My: ∀ds x,Yd ds=some x->C6 ds (H4 x):=by
 intro ds x h;unfold Yd at h;split at h
 .exact⟨DV (DP Ab.d_le _ _ h) (by simp[Ab.c]),trivial⟩
 .cases h
def Ub(x:List Ab):Yd (List.take 1 (H4 x))=some x:=Ab.d_R x
def uB(x:List Ab):(1<=(H4 x).length)=True:=Zk (AN 1)
def uA(x:List Ab):eJ (List.take 1 (H4 x))= .sl false 2 (x.map Ab.c):=rfl
def E4(l:List Ab)(x:Ak):Bool:=l.contains x.At
def Cf(l:List Ab)(ts:List Ak):List Ak:=ts.filter λx=> !E4 l x
def bB(l:List Ab)(ts:List Ak):(Cf l ts).length<=ts.length:=yV _ _
def nH(l:List Ab){ts:List Ak}{k:Nat}{x:Ak}(h:ts[k]? =some x):Cf l (ts.take (k+1))=Cf l (ts.take k)++if E4 l x=false then [x] else []:=by
 rw[GO,h,cY,Cf,Cf,yQ];congr 1;cases hg:E4 l x<;>simp[hg]
def Qans{A:Type}{p:A->Bool}: ∀(l:List A) (o i:Nat),Bn p o l=((o+i:Nat):Int)-> ∀x∈l.take i,p x=false:=by
 intro l;induction l with
 |nil=>intro o i _ x z;simp at z
 |cons y r ih=>
  intro o i h x z;cases i with
  |zero=>simp at z
  |succ i=>
   simp only[Bn] at h;split at h
   .omega
   .rename_i G;rw[P9] at z;rcases Bi.1 z with rfl|z
    .simpa using G
    .exact ih (o+1) i (by rw[h];congr 1;omega) x z
def O5{l:List Ab}{ts:List Ak}{i:Nat}{x:Ak}(z:ts.find? (E4 l)=some x)(G:Bn (E4 l) 0 ts=(i:Int))(O:ts[i]? =some x):Cf l (ts.take (i+1))=ts.take i:=by
 have Q:E4 l x=true:=Wx z;rw[nH l O,Ag (by rw[Q];simp),DA,Cf,Ze];intro y Z;rw[Qans (p:=E4 l) ts 0 i (by rw[G];simp) y Z];rfl
def SX{p q:Ab}:(p.X=q.X/\p.Y=q.Y)↔p=q:=by
 obtain⟨a,b⟩:=p;obtain⟨c,d⟩:=q;simp
def idxP_.fv(a:(List Ab)×Ab):Int:=(λl p=>Bn (λy=>decide (p=y)) 0 l) (a.1) (a.2)
def idxP_.row:A7:=CN (b2 (qS Ab.d_le Ab.c_n) (qR Ab.d_le)) rI (λa=>True) idxP_.fv
def idxP_.q:=DO (R:=idxP_.row) rfl
def idxP_.ok:AA Tryz.prog 153 idxP_.row:=by
 refine FZ tN Tryz.func153 rfl (by kernel_rfl) ?_;intro a O;simp only[Tryz.f153];simp(disch:=omega)only[ZA,simprocAttr,idxP_.fv];intro hn;refine AR.old ⟨{k:Nat//k<=a.1.length/\Bn (λy=>decide (a.2=y)) k (a.1.drop k)=Bn (λy=>decide (a.2=y)) 0 a.1},λk=>⟨[(8,.im (.int .i64 k.1)),(7,.im (.int .i64 a.1.length)),(4,.im (.int .i64 0)),(0,.im (.sl false 2 (a.1.map Ab.c))),(1,.im (.agg [.int .i64 a.2.X,.int .i64 a.2.Y])),(3,.ptr 0 0)],[(0,(true,.cells 96 [.im (.int .i64 a.2.X),.im (.int .i64 a.2.Y)]))],1⟩,λk=>a.1.length - k.1,λk=>⟨by simp[Aj.good,An,Ac,A9,AV.bel,Av],AN _⟩,⟨⟨0,by simp⟩,by simp(disch:=omega)only[ZA,simprocAttr,sub]⟩,λk=> ?_⟩;obtain⟨k,Q,z⟩:=k;simp(disch:=omega)only[ZA,simprocAttr,D.sc,D.scs,Bv,sub,AP];refine⟨λG=>⟨G,λx Z=> ?_⟩,λG=> ?_⟩
 .rw[Eu Z,Bn] at z;refine⟨λh=> ?_,λh=>F2 G hn ⟨by omega,by rw[<-z,Ag (by rw[Ch,<-SX];simpa using h)]⟩⟩;rw[Ao (by rw[Ch,<-SX];simpa using h)] at z;exact z
 .rw[CZ (by omega),Bn] at z;exact z
def contP_.fv(a:(List Ab)×Ab):Bool:=(λl p=>l.contains p) (a.1) (a.2)
def contP_.row:A7:=CN (b2 (qS Ab.d_le Ab.c_n) (qR Ab.d_le)) rB (λa=>True) contP_.fv
def contP_.q:=DO (R:=contP_.row) rfl
def contP_.ok:AA Tryz.prog 107 contP_.row:=by
 refine FZ (tC idxP_.ok tN) Tryz.func107 rfl (by kernel_rfl) ?_;intro a G;simp only[Tryz.f107];simp(disch:=omega)only[ZA,simprocAttr,CB,contP_.fv,idxP_.q,idxP_.fv,D.sc,D.scs,Bv];rw[Q5,Ch,Gi];rcases Qyg (λy=>decide (a.2=y)) a.1 0 with ⟨h,_⟩|⟨O,Q⟩
 .rw[h,rN];constructor
  .rintro⟨x,z,Z⟩
   have:a.2=x:=by simpa using Z
   rw[this];exact z
  .exact λz=>⟨_,z,by simp⟩
 .rw[Q,O];simp
def wo1.fv(a:Ak×(List Ab)):Bool:=(λx l=>E4 l x) (a.1) (a.2)
def wo1.row:A7:=CN (b2 (qR Ak.d_le) (qP 1 My)) rB (λa=>True) wo1.fv
def wo1.q:=DO (R:=wo1.row) rfl
def wo1.ok:AA Tryz.prog 106 wo1.row:=by
 refine FZ (tC contP_.ok tN) Tryz.func106 rfl (by kernel_rfl) ?_;intro a z;simp only[Tryz.f106];simp(disch:=omega)only[ZA,simprocAttr,CB,wo1.fv,contP_.q,contP_.fv,D.sc,D.scs,Bv];simp(disch:=omega)only[ZA,simprocAttr,uB,uA]
 try rfl
def IdxW.ar:List PK->Option ((List Ak)×((List Ab)))
 |[.val (.sl _ _ O),.val (.fn 106 [] [.ref z])]=>(AO Ak.d O).bind λQ=>(Yd (z.take 1)).bind λG=>some (Q,G)
 |_=>none
def IdxW.ae(a:(List Ak)×((List Ab))):List PK:=[.val (.sl false 3 (a.1.map Ak.c)),.val (.fn 106 [] [.ref (H4 a.2)])]
def IdxW.le: ∀G a,IdxW.ar G=some a->BA G (IdxW.ae a):=by
 intro G a h;unfold IdxW.ar at h;split at h
 .simp only[Eg,AI] at h;obtain⟨Q,h0,O,z,rfl⟩:=h;exact⟨DV (DP Ak.d_le _ _ h0) (by simp only[Bm];rintro r ⟨y,_,rfl⟩;rfl),Qq ⟨Qm (Gb.trans_take (My _ _ z)),trivial⟩,trivial⟩
 .cases h
def IdxW.fv(a:(List Ak)×((List Ab))):Int:=(λl t=>Bn (E4 t) 0 l) (a.1) (a.2)
def IdxW.row:A7:=K2 IdxW.ar (λa=>True) (λa=>(D.int .i64) (IdxW.fv a))
def IdxW.q:=uH IdxW.row rfl
def IdxW.ok:AA Tryz.prog 152 IdxW.row:=by
 refine nR C9 (tC wo1.ok tN) Tryz.func152 rfl (by kernel_rfl) (by kernel_rfl) (ar:=IdxW.ar) (ae:=IdxW.ae) IdxW.le (n:=2) (λ_=>rfl) (by decide) (rc:=(Dj)) (re:=(D.int .i64)) (Kt) (f:=IdxW.fv) ?_;intro a O;simp only[Tryz.f152];simp(disch:=omega)only[ZA,simprocAttr,IdxW.ae,IdxW.fv];intro hn;refine AR.old ⟨{k:Nat//k<=a.1.length/\Bn (E4 a.2) k (a.1.drop k)=Bn (E4 a.2) 0 a.1},λk=>⟨[(8,.im (.int .i64 k.1)),(7,.im (.int .i64 a.1.length)),(6,.im (.sl false 3 (a.1.map Ak.c))),(4,.im (.int .i64 0)),(0,.im (.sl false 3 (a.1.map Ak.c))),(1,.im (.fn 106 [] [.ref (H4 a.2)]))],[],0⟩,λk=>a.1.length - k.1,λk=>⟨by simp[Aj.good,An,Ac,A9,AV.bel],AN _⟩,⟨⟨0,by simp⟩,by simp(disch:=omega)only[ZA,simprocAttr,sub]⟩,λk=> ?_⟩;obtain⟨k,Q,z⟩:=k;simp(disch:=omega)only[ZA,simprocAttr,CB,wo1.q,wo1.fv,D.sc,D.scs,Bv,sub,AP,Ub];refine⟨λG=>⟨G,λx Z=> ?_⟩,λG=> ?_⟩
 .rw[Eu Z,Bn] at z;refine⟨λh=> ?_,λh=>F2 G hn ⟨by omega,by rw[<-z,Ag (by simpa using h)]⟩⟩;rw[Ao (by simpa using h)] at z;exact z
 .rw[CZ (by omega),Bn] at z;exact z
def dlP.ca(a:List Ak×List Ab):List AV:=[.own 0,.im (.fn 106 [] [.ref (H4 a.2)])]
def dlP.H0(a:List Ak×List Ab):Ap:=[(0,(true,.arr 137 3 (a.1.map Ak.c)))]
def dlP.H1(a:List Ak×List Ab):Ap:=[(1,(true,.arr 137 3 ((Cf a.2 a.1).map Ak.c)))]
def dlP.row:A7:=AF dlP.ca dlP.H0 1 (λa=>a.1.length<=1000000) (λj=>j==0) (λ_=> .own 1) dlP.H1 1000
def dlP.ok:AA Tryz.prog 104 dlP.row:=by
 refine SR (tC IdxW.ok (tC wo1.ok tN)) Tryz.func104 rfl (by kernel_rfl) (exB:=λj=>j==1) (R:=λ_ r=>r= .own 1) (λ_=>rfl)
  (λa=>by simp[dlP.ca,dlP.H0,Av,AV.bel,Ac,A9,BK,Ad.nms,Am,hget]) (λa p hp=> ?_) (λa r h=>by subst h;exact C8.refl _) ?_
 rotate_left
 intro a Q;simp only[Tryz.f104,dlP.ca,dlP.H0,dlP.H1];simp(disch:=omega)only[ZA,simprocAttr,CB,IdxW.q,IdxW.ar,IdxW.fv,F3];simp(disch:=omega)only[ZA,simprocAttr,Ub];rcases Px (E4 a.2) a.1 0 with ⟨Z,O⟩|⟨i0,b0,Z,O,e3⟩
 .rw[O,Ao rfl];refine⟨[],[(1,some 0)],⟨[(4,.own 1)],[(1,(true,.arr 137 3 (a.1.map Ak.c)))],2⟩,?_,by simp[Aj.good,An,Ac,A9,AV.bel],by simp,?_⟩
  .simp only[A8];simp(disch:=omega)only[ZA,simprocAttr]
  .simp(disch:=omega)only[ZA,simprocAttr]
   have:Cf a.2 a.1=a.1:=by
    rw[Cf,Ze];intro b hb
    have:=YY.1 Z b hb
    simpa using this
   rw[this]
 .rw[Fh] at O;rw[O,Ag (by omega)];have aa:=(Cd.1 e3).1;rw[AG (by omega) (by omega)];obtain⟨l,hl⟩: ∃l,l=a.1:=⟨_,rfl⟩;obtain⟨t,ht⟩: ∃t,t=a.2:=⟨_,rfl⟩;simp only[<-hl,<-ht] at Z O e3 aa Q⊢;refine AR.old ⟨{j:Nat//j<=l.length},λj=>⟨[(6,.im (.int .i64 j.1)),(5,.im (.int .i64 (Cf t (l.take j.1)).length)),(0,.own 0),(1,.im (.fn 106 [] [.ref (H4 t)]))],[(0,(true,.arr 137 3 ((Cf t (l.take j.1)++l.drop (Cf t (l.take j.1)).length).map Ak.c)))],2⟩,λj=>l.length - j.1,λj=>⟨by simp[Aj.good,An,Ac,A9,AV.bel],by simp⟩,⟨⟨i0+1,by omega⟩,?_⟩,λj=> ?_⟩
  .have h1:=O5 Z O e3;simp(disch:=omega)only[ZA,simprocAttr,sub,h1,Ci];rw[show min i0 l.length=i0 by omega,KA];exact⟨⟨by omega,rfl⟩,rfl⟩
  obtain⟨j,hj⟩:=j;obtain⟨kp,hkp⟩: ∃kp,kp=Cf t (l.take j):=⟨_,rfl⟩;have ac:kp.length<=j:=by
   have:=bB t (l.take j)
   rw[Ci] at this;rw[hkp];omega
  have af:(kp++l.drop kp.length).length=l.length:=by simp;omega
  simp only[<-hkp];simp(disch:=omega)only[ZA,simprocAttr,CB,wo1.q,wo1.fv,sub,AP,af,Ub];intro _;refine⟨λG=>⟨G,G,λb hb=> ?_⟩,λG=> ?_⟩
  .have ad:l[j]? =some b:=by
    rw[Fo ac,HN,show kp.length+(j - kp.length)=j by omega] at hb;exact hb
   have z:=nH t ad;rw[<-hkp] at z;refine⟨λhw=>⟨by omega,by omega,λc _=>⟨⟨j+1,by omega⟩,by simp only;omega,?_⟩⟩,λhw=>⟨⟨j+1,by omega⟩,by simp only;omega,?_⟩⟩
   .rw[Ao hw] at z;simp only[z,Dn,CY,G5];refine⟨⟨by rw[AG (by omega) (by omega)];omega,by rw[AG (by omega) (by omega)];omega⟩,?_⟩;have h1:(kp++l.drop kp.length).set kp.length b=kp++[b]++l.drop (kp.length+1):=by
     obtain⟨c,hc⟩: ∃c,l[kp.length]? =some c:=⟨_,Bh (by omega)⟩;rw[Eu hc,iV _ _ (AN _),GS,Za,HP];rfl
    rw[<-h1,JG];rfl
   .rw[Ag hw,DA] at z;simp only[z];exact⟨⟨by rw[AG (by omega) (by omega)];omega,trivial⟩,trivial⟩
  .refine⟨by omega,false,?_⟩;have ab:j=l.length:=by omega
   subst ab;rw[HJ] at hkp;simp(disch:=omega)only[ZA,simprocAttr];have hA:List.take kp.length ((kp++l.drop kp.length).map Ak.c)=kp.map Ak.c:=by
    rw[<-Zff,zF]
   rw[hA];refine⟨by simp only[Dn,FM];omega,true,?_⟩;simp(disch:=omega)only[ZA,simprocAttr,F3];refine⟨[],[(1,some 2)],⟨[(4,.own 1)],[(1,(true,.arr 137 3 (kp.map Ak.c)))],2⟩,?_,by simp[Aj.good,An,Ac,A9,AV.bel],by simp,?_⟩
   .simp only[A8];simp(disch:=omega)only[ZA,simprocAttr];rw[show ((kp.length:Int) - 0).toNat=(kp.map Ak.c).length by simp,HP,zF]
   .simp(disch:=omega)only[ZA,simprocAttr,hkp]
 simp[dlP.H1] at hp;subst hp;exact .inr ⟨by omega,by omega,rfl,rfl⟩
def dlP.H0_dom(a:List Ak×List Ab)(j:Nat):Am (dlP.H0 a) j=true↔j<1:=by
 simp only[Am,dlP.H0,hget];by_cases h0:j=0
 .subst h0;simp
 .have z:(0==j)=false:=by simp;omega
  simp[z];omega
def woA.fv(a:Ah×(List Ab)):Ah:=(λa l=>⟨Cf l a.Tiles⟩) (a.1) (a.2)
def woA.row:A7:=CN (b2 (qR Ah.d_le) (qS Ab.d_le Ab.c_n)) (rA Ah.d_le) (λa=>a.1.Tiles.length<=1000000) woA.fv
def woA.q:=DO (R:=woA.row) rfl
def woA.ok:AA Tryz.prog 54 woA.row:=by
 refine FZ (tC clonC.ok (tC dlP.ok tN)) Tryz.func54 rfl (by kernel_rfl) ?_;intro a z;simp only[Tryz.f54];simp(disch:=omega)only[ZA,simprocAttr,woA.fv];refine AF.os a.1.Tiles [] z (λj=>by simp[Am,hget]) rfl rfl ?_ ?_
 .simp(disch:=omega)only[ZA,simprocAttr,clonC.ca,D3]
 simp(disch:=omega)only[ZA,simprocAttr,clonC.H1];left;refine AF.os (a.1.Tiles,a.2) [3] z (λj=>dlP.H0_dom _ j) rfl rfl ?_ ?_
 .simp(disch:=omega)only[ZA,simprocAttr,Jq,dlP.ca,dlP.H0,H4,Eh]
 simp(disch:=omega)only[ZA,simprocAttr,Ah.d,Jq,D.sc,T7,Bv,dlP.H1]
def NS{p:Ab}{q:Option Ab}(hq: ∀u,q=some u->Bf u p=true): ∀{r:List Ak},BV (some p) r=true->BV q r=true
 |[],_=>oP q
 |x::r,h=>by
  rw[Pp] at h⊢;simp only[AS] at h⊢;obtain⟨z,G,O,Q⟩:=h;refine⟨z,G,?_,Q⟩;cases q with
  |none=>rfl
  |some u=>exact V6 (hq u rfl) O
def aZ(c:Ak->Bool): ∀(l:List Ak) (q:Option Ab),BV q l=true->BV q (l.filter c)=true
 |[],q,_=>oP q
 |x::r,q,h=>by
  rw[Pp] at h;simp only[AS] at h;obtain⟨G,O,z,Q⟩:=h;have ih:=aZ c r (some x.At) Q;rw[jE];split
  .rw[Pp];simp only[AS];exact⟨G,O,z,ih⟩
  .refine NS (λu Z=> ?_) ih;subst Z;exact z
abbrev InS:=Ah×List AJ×Bool
structure InOk(s:Az)(ts:List Ak)(q:InS):Prop where
 rm: ∃t k,RM t q.1 k
 asm:Hm s.Set q.1
 mem: ∀o∈q.2.1,o.At∈ts.map Ak.At
 nd:(q.2.1.map AJ.At).Nodup
 pos: ∀o∈q.2.1,0<=Bu q.1 o.At
 len:q.1.Tiles.length=s.Seed.Tiles.length+q.2.1.length
abbrev InI:=BZ×List AJ×Bool
structure InC(s:Az)(i:InI)(q:InS):Prop where
 sys:i.1.Sys=s
 rm: ∃k,RM i.1.Tl q.1 k
 eq:i.2=q.2
def insX.pre(a:Az×Ah):Prop:=UG a.1.Set/\Hl a.1=true/\a.2.Tiles.length<=500/\ ∀x∈a.2.Tiles,Gc a.1.Set x.Tile
def Em(s:Az)(a:Ah):Int:=if (Hl s && FH s.Set a)=true then 0 else 1
def eN(a b:Ah):Bool:=a.Tiles.all λx=>decide (Bu b x.At=x.Tile)
def CC(s:Az)(a:Ah):Int:=if Em s a=0 then (if eN s.Seed a=true then 0 else 2) else 1
def W4{s:Az}{a:Ah}(h:Em s a=0):Hl s=true/\FH s.Set a=true:=by
 simp only[Em] at h;split at h
 .rename_i c;simpa using c
 .cases h
def LU{s:Az}{a:Ah}(h:CC s a=0):Hl s=true/\FH s.Set a=true/\eN s.Seed a=true:=by
 simp only[CC] at h;split at h
 .rename_i c;split at h
  .rename_i z;exact⟨(W4 c).1,(W4 c).2,z⟩
  .cases h
 .cases h
def growC_.fv(a:Az×Ah):Int:=(Em) (a.1) (a.2)
def growC_.row:A7:=vK (b2 (qR Az.d_le) (qR Ah.d_le)) rI (λa=>UG a.1.Set) growC_.fv
def growC_.q:=AU (R:=growC_.row) rfl
def growC_.ok:AA Tryz.prog 145 growC_.row:=by
 refine vw (tC validI_.ok (tC ValidAssembly_.ok tN)) Tryz.func145 rfl (by kernel_rfl) ?_;intro a z;simp only[Tryz.f145];simp(disch:=omega)only[ZA,simprocAttr,Ah.d,CB,growC_.fv,validI_.q,validI_.fv,ValidAssembly_.q,ValidAssembly_.fv];obtain⟨s,a⟩:=a;simp only at z⊢;refine⟨z,?_⟩;rw[Pi];by_cases c:Hl s=true
 .rw[Ao c];refine⟨z,?_⟩;have O:=(Nb c).2.1;by_cases G:FH s.Set a=true
  .rw[Ag (by rw[O,G];decide)];simp only[Em,c,G];rfl
  .rw[N3] at G;rw[Ao (by rw[O,G];rfl)];simp only[Em,c,G];rfl
 .rw[Ag c];rw[N3] at c;simp only[Em,c];rfl
def inCode_.fv(a:Az×Ah):Int:=(CC) (a.1) (a.2)
def inCode_.row:A7:=vK (b2 (qR Az.d_le) (qR Ah.d_le)) rI (λa=>UG a.1.Set) inCode_.fv
def inCode_.q:=AU (R:=inCode_.row) rfl
def inCode_.ok:AA Tryz.prog 98 inCode_.row:=by
 refine vw (tC growC_.ok (tC IsWithin_.ok tN)) Tryz.func98 rfl (by kernel_rfl) ?_;intro a z;simp only[Tryz.f98];simp(disch:=omega)only[ZA,simprocAttr,Ah.d,inCode_.fv,growC_.q,growC_.fv,IsWithin_.q,IsWithin_.fv];obtain⟨s,a⟩:=a;simp only at z⊢;refine⟨z,?_⟩;by_cases c:Em s a=0
 .rw[Ag (by simpa using c)];obtain⟨c1,O⟩:=W4 c;have e:gZ s.Seed a=eN s.Seed a:=by
   obtain⟨Q,Z⟩:=Kz (Nb c1).2.2;obtain⟨h3,h4⟩:=Kz O;simp only[gZ,eN,Q.1,h3.1,Zh Z,Zh h4,CP,Zi]
  rw[e];simp only[CC];rw[Ao c];by_cases G:eN s.Seed a=true
  .rw[Ag (by rw[G];decide),Ao G]
  .rw[Ag G,Ao (by simpa using G)]
 .rw[Ao c];simp only[CC];rw[Ag c];simp only[Em] at c⊢;split
  .rename_i h;rw[Ao h] at c;exact absurd rfl c
  .rfl
def ask08.fv(a:Az×Ah):Int:=(Em) (a.1) (a.2)
def ask08.row:A7:=vK (b2 (qP 4 Az.d_le) (qP 1 Ah.d_le)) rI (λa=>True) ask08.fv
def ask08.q:=AU (R:=ask08.row) rfl
def ask08.ok:AA Tryz.prog 86 ask08.row:=by
 refine vw (tC l08Ok.ok (tC l03Ok.ok tN)) Tryz.func86 rfl (by kernel_rfl) ?_;intro a G;simp only[Tryz.f86];simp(disch:=omega)only[ZA,simprocAttr,Ah.d,ask08.fv,l08Ok.q,l08Ok.fv,l03Ok.q,l03Ok.fv];obtain⟨s,a⟩:=a;simp only;have e:((BV none a.Tiles && decide (a.Tiles.length<=500)) && a.Tiles.all λx=>Bq x.Tile 0 (s.Set.Tiles.length - 1))=FH s.Set a:=rfl;rw[e];by_cases c:Hl s=true
 .rw[Ao c];by_cases z:FH s.Set a=true
  .rw[Ag (by rw[z];decide)];simp only[Em,c,z];rfl
  .rw[N3] at z;rw[Ao z];simp only[Em,c,z];rfl
 .rw[Ag c];rw[N3] at c;simp only[Em,c];rfl
def over08.fv(a:Az×Ah):Int:=(CC) (a.1) (a.2)
def over08.row:A7:=vK (b2 (qP 4 Az.d_le) (qP 1 Ah.d_le)) rI (λa=>True) over08.fv
def over08.q:=AU (R:=over08.row) rfl
def over08.ok:AA Tryz.prog 43 over08.row:=by
 refine vw (tC ask08.ok (tC l03Within.ok tN)) Tryz.func43 rfl (by kernel_rfl) ?_;intro a G;simp only[Tryz.f43];simp(disch:=omega)only[ZA,simprocAttr,Ah.d,over08.fv,ask08.q,ask08.fv,l03Within.q,l03Within.fv];obtain⟨s,a⟩:=a;simp only;by_cases c:Em s a=0
 .rw[Ao c];obtain⟨c1,O⟩:=W4 c;refine⟨(Kz O).1.1,?_⟩;have e:(s.Seed.Tiles.all λx=>decide (Bu a x.At=x.Tile))=eN s.Seed a:=rfl;rw[e];simp only[CC];rw[Ao c];by_cases z:eN s.Seed a=true
  .rw[Ag (by rw[z];decide),Ao z,c]
  .rw[Ag z,Ao (by simpa using z)]
 .rw[Ag c];simp only[CC];rw[Ag c];simp only[Em] at c⊢;split
  .rename_i h;rw[Ao h] at c;exact absurd rfl c
  .rfl
def Mz(l:List Ab):Prop:= ∀(i j:Nat) (x y:Ab),i<j->l[i]? =some x->l[j]? =some y->Bf x y=true
def ND(l:List Ab)(p:Ab):Nat:=(l.takeWhile (λx=>Bf x p)).length
def bA(p:Ab): ∀(l:List Ab) (lo:Nat),lo<=l.length->(∀(i:Nat) (x:Ab),i<lo->l[i]? =some x->Bf x p=true)->(∀(i:Nat) (x:Ab),lo<=i->l[i]? =some x->Bf x p=false)->ND l p=lo
 |[],lo,h,_,_=>by simp at h;simp[ND,h]
 |x::r,0,_,_,h=>by
  have:=h 0 x (by omega) (by simp)
  simp[ND,this]
 |x::r,lo+1,hl,G,Q=>by
  have Z:=G 0 x (by omega) (by simp);have O:=bA p r lo (by simpa using hl) (λi y hi z=>G (i+1) y (by omega) (by simpa using z)) (λi y hi z=>Q (i+1) y (by omega) (by simpa using z));simp only[ND] at O;simp[ND,Z,O]
def BinQ.ar:List PK->Option ((List Ab)×Ab×Unit)
 |[.val (.sl _ _ z),.val (.agg G),.val (.fn 161 [] [])]=>(AO Ab.d z).bind λO=>(Ab.d G).bind λQ=>some (O,Q,())
 |_=>none
def BinQ.ae(a:(List Ab)×Ab×Unit):List PK:=[.val (.sl false 2 (a.1.map Ab.c)),.val (.agg (Ab.c a.2.1)),.val (.fn 161 [] [])]
def BinQ.le: ∀z a,BinQ.ar z=some a->BA z (BinQ.ae a):=by
 intro z a h;unfold BinQ.ar at h;split at h
 .simp only[Eg,AI] at h;obtain⟨O,h0,Q,G,rfl⟩:=h;exact⟨DV (DP Ab.d_le _ _ h0) (by simp only[Bm];rintro r ⟨y,_,rfl⟩;rfl),VK (Ab.d_le _ _ G),Cg.refl _,trivial⟩
 .cases h
def BinQ.fv(a:(List Ab)×Ab×Unit):Int×Bool:=(λl p _=>((ND l p:Int),l.any (λx=>decide (x=p)))) (a.1) (a.2.1) (a.2.2)
def BinQ.row:A7:=CU BinQ.ar (λa=>Mz a.1) (λa=>(λb=>D.tup [(D.int .i64) (b.1),(D.bool) (b.2)]) (BinQ.fv a))
def BinQ.q:=vq BinQ.row rfl
def BinQ.ok:AA Tryz.prog 195 BinQ.row:=by
 refine PS C9 (tC comparePoints.ok tN) Tryz.func195 rfl (by kernel_rfl) (by kernel_rfl) (ar:=BinQ.ar) (ae:=BinQ.ae) BinQ.le (n:=3) (λ_=>rfl) (by decide) (rc:=(bL (Dj) (Po))) (re:=(λb=>D.tup [(D.int .i64) (b.1),(D.bool) (b.2)])) (Qbz (Kt) (Y0)) (f:=BinQ.fv) ?_;intro a af;simp only[Tryz.f195];simp(disch:=omega)only[ZA,simprocAttr,BinQ.ae,BinQ.fv];intro hn;refine AR.old ⟨{p:Nat×Nat//p.1<=p.2/\p.2<=a.1.length/\(∀i x,i<p.1->a.1[i]? =some x->Bf x a.2.1=true)/\(∀i x,p.2<=i->a.1[i]? =some x->Bf x a.2.1=false)},λp=>⟨[(9,.im (.int .i64 p.1.1)),(10,.im (.int .i64 p.1.2)),(8,.im (.int .i64 a.1.length)),(6,.im (.int .i64 0)),(7,.im (.bool false)),(4,.ptr 0 0),(0,.im (.sl false 2 (a.1.map Ab.c))),(2,.im (.fn 161 [] []))],[(0,(true,.cells 96 [.im (.int .i64 a.2.1.X),.im (.int .i64 a.2.1.Y)]))],1⟩,λp=>p.1.2 - p.1.1,λp=>⟨by simp[Aj.good,An,Ac,A9,AV.bel,Av],AN _⟩,⟨⟨(0,a.1.length),by simp,by simp,by simp,?_⟩,by simp(disch:=omega)only[ZA,simprocAttr,sub]⟩,λp=> ?_⟩
 .intro i x hi Q
  have:=(Cd.1 Q).1
  simp only at hi;omega
 obtain⟨⟨lo,hi⟩,h1,h2,h3,h4⟩:=p;simp only at h1 h2 h3 h4;simp(disch:=omega)only[ZA,simprocAttr,comparePoints.q,comparePoints.fv,sub,AP];have O:=af;have ad: ∀(i:Nat) (x:Ab),i<lo->a.1[i]? =some x->x≠a.2.1:=by
  intro i x hi Q he
  have:=h3 i x hi Q
  rw[he,Wi] at this;cases this
 rw[tE lo hi (by omega)];simp only[nO,QT];refine⟨λag=> ?_,λag=>⟨λhl=>⟨hl,λx Q=> ?_⟩,λhl=> ?_⟩⟩
 .refine⟨by omega,by omega,λx Q=>⟨λhb=> ?_,λhb=> ?_⟩⟩
  .rw[Bt] at Q;refine⟨⟨((lo+hi)/2+1,hi),by simp only;omega,h2,λi y G Z=> ?_,h4⟩,by simp only;omega,?_,rfl⟩
   .simp only at G;rcases EO i ((lo+hi)/2) with h|h
    .exact VS (O i _ y x h Z Q) hb
    .have:i=(lo+hi)/2:=by omega
     subst this;rw[Q] at Z;exact AE Z▸hb
   .rw[AG (by omega) (by omega)];simp only;omega
  .rw[Bt] at Q;refine⟨⟨(lo,(lo+hi)/2),by simp only;omega,by simp only;omega,h3,λi y G Z=> ?_⟩,by simp only;omega,rfl,rfl⟩;simp only at G;rcases EO ((lo+hi)/2) i with h|h
   .cases hl:Bf y a.2.1 with
    |false=>rfl
    |true=>exact absurd (VS (O _ i x y h Q Z) hl) hb
   .have:i=(lo+hi)/2:=by omega
    subst this;rw[Q] at Z;obtain rfl:=AE Z;simpa using hb
 .have aa:=bA a.2.1 a.1 lo (by omega) h3 (λi y G Z=>h4 i y (by omega) Z);refine⟨by rw[aa],?_⟩;rw[Q5];simp only[Ch,rN];refine⟨λhe=>⟨x,AY Q,he⟩,?_⟩;rintro⟨y,Z,he⟩;obtain⟨i,G,ac⟩:=Wz.1 Z;have z:a.1[i]? =some y:=by rw[Bh G,ac]
  rcases dA i lo with h|h|h
  .exact absurd he (ad i y h z)
  .subst h;rw[Q] at z;exact AE z▸he
  .have ab:=O lo i x y h Q z;rw[he] at ab
   have:=h4 lo x (by omega) Q
   rw[this] at ab;cases ab
 .have aa:=bA a.2.1 a.1 lo (by omega) h3 (λi y G Z=>h4 i y (by omega) Z);refine⟨by rw[aa],?_⟩;symm;simp only[List.any_eq_false,Ch];intro y Z he;obtain⟨i,G,ac⟩:=Wz.1 Z;have z:a.1[i]? =some y:=by rw[Bh G,ac]
  exact ad i y (by omega) z he
def isIn_.fv(a:(List Ab)×Ab):Bool:=(λl p=>l.contains p) (a.1) (a.2)
def isIn_.row:A7:=vK (b2 (qS Ab.d_le Ab.c_n) (qR Ab.d_le)) rB (λa=>Mz a.1) isIn_.fv
def isIn_.q:=AU (R:=isIn_.row) rfl
def isIn_.ok:AA Tryz.prog 148 isIn_.row:=by
 refine vw (tC BinQ.ok tN) Tryz.func148 rfl (by kernel_rfl) ?_;intro a z;simp only[Tryz.f148];simp(disch:=omega)only[ZA,simprocAttr,isIn_.fv,BinQ.q,BinQ.ar,BinQ.fv];obtain⟨l,p⟩:=a;simp only at z⊢;refine⟨z,?_⟩;rw[List.contains_eq_any_beq];congr 1;funext x;exact Q5.2 (by rw[Ch,N5];exact eq_comm)
def ZE(s:Az)(x:Ak):Bool:=decide (Bu s.Seed x.At=x.Tile)
def Gn(f:Ab->Bool):Option Ab->List Ab->Bool
 |_,[]=>true
 |q,p::r=>f p && ((match q with|none=>true|some x=>Bf x p) && Gn f (some p) r)
def VJ(f:Ab->Bool)(q:Option Ab)(p:Ab)(r:List Ab):Gn f q (p::r)=(f p && ((match q with|none=>true|some x=>Bf x p) && Gn f (some p) r)):=by cases q<;>rfl
def MI(f:Ab->Bool)(q:Option Ab):Gn f q []=true:=by cases q<;>rfl
def E5(l:List Ab)(k:Nat):Option Ab:=if k=0 then none else l[k - 1]?
def VI{l:List Ab}{k:Nat}{p:Ab}(h:l[k]? =some p):E5 l (k+1)=some p:=by simp[E5,h]
def Cr(s:Az)(l:List Ak):List Ab:=(l.filter λx=> !ZE s x).map Ak.At
def nN(s:Az){l:List Ak}{k:Nat}{x:Ak}(h:l[k]? =some x):Cr s (l.take (k+1))=Cr s (l.take k)++if ZE s x=false then [x.At] else []:=by
 rw[GO,h,cY,Cr,Cr,yQ,F9];congr 1;cases hx:ZE s x<;>simp[hx]
def nQ(s:Az)(l:List Ak):(Cr s l).length<=l.length:=by
 rw[Cr,FM];exact yV _ _
def seedB_.fv(a:Az×Ak):Bool:=(ZE) (a.1) (a.2)
def seedB_.row:A7:=vK (b2 (qR Az.d_le) (qR Ak.d_le)) rB (λa=>BV none a.1.Seed.Tiles=true) seedB_.fv
def seedB_.q:=AU (R:=seedB_.row) rfl
def seedB_.ok:AA Tryz.prog 194 seedB_.row:=by
 refine vw (tC at_.ok tN) Tryz.func194 rfl (by kernel_rfl) ?_;intro a z;simp only[Tryz.f194];simp(disch:=omega)only[ZA,simprocAttr,Ah.d,seedB_.fv,at_.q,at_.fv];exact⟨z,rfl⟩
def seedS_.fv(a:Az×Ak):Bool:=(ZE) (a.1) (a.2)
def seedS_.row:A7:=vK (b2 (qP 4 Az.d_le) (qR Ak.d_le)) rB (λa=>BV none a.1.Seed.Tiles=true) seedS_.fv
def seedS_.q:=AU (R:=seedS_.row) rfl
def seedS_.ok:AA Tryz.prog 89 seedS_.row:=by
 refine vw (tC l03At.ok tN) Tryz.func89 rfl (by kernel_rfl) ?_;intro a z;simp only[Tryz.f89];simp(disch:=omega)only[ZA,simprocAttr,Ah.d,seedS_.fv,l03At.q,l03At.fv];exact⟨z,rfl⟩
def softI_.fv(a:Az×Ah):List Ab:=(λs a=>Cr s a.Tiles) (a.1) (a.2)
def softI_.row:A7:=vK (b2 (qR Az.d_le) (qR Ah.d_le)) (rS Ab.d_le Ab.c_n) (λa=>BV none a.1.Seed.Tiles=true/\a.2.Tiles.length<=1000000) softI_.fv
def softI_.q:=AU (R:=softI_.row) rfl
def softI_.ok:AA Tryz.prog 147 softI_.row:=by
 refine vw (tC seedB_.ok tN) Tryz.func147 rfl (by kernel_rfl) ?_;intro a G;simp only[Tryz.f147];simp(disch:=omega)only[ZA,simprocAttr,softI_.fv];obtain⟨s,a⟩:=a;obtain⟨O,Z⟩:=G;simp only at O Z⊢;intro _;refine AR.ren ⟨{k:Nat//k<=a.Tiles.length},λk=>⟨[(11,.im (.int .i64 k.1)),(10,.im (.int .i64 a.Tiles.length)),(9,.im (.sl false 3 (a.Tiles.map Ak.c))),(5,.own 5),(2,.ptr 0 0)],[(5,(true,.arr 96 2 ((Cr s (a.Tiles.take k.1)).map Ab.c))),(0,(true,.cells 47 [.im (.sl false 2 (s.Set.Glues.map Ar.c)),.im (.sl false 2 (s.Set.Tiles.map Tile.c)),.im (.sl false 3 (s.Seed.Tiles.map Ak.c)),.im (.int .i64 s.Temperature)]))],6⟩,λk=>a.Tiles.length - k.1,λk=>⟨by simp[Aj.good,An,Ac,A9,AV.bel,Av],by simp⟩,⟨⟨0,CF _⟩,[(5,some 3)],?_⟩,λk=> ?_⟩
 .simp only[A8,UQ,Cr,ZeN];simp(disch:=omega)only[ZA,simprocAttr,Bz]
  try simp
 obtain⟨k,hk⟩:=k;simp(disch:=omega)only[ZA,simprocAttr,seedB_.q,seedB_.fv,AP];have hl:=nQ s (a.Tiles.take k);rw[Ci] at hl;refine⟨λz=>⟨z,λx Q=>⟨O,λhb=>⟨by simp[BL,BC,D.one],by omega,⟨⟨k+1,by omega⟩,[(5,some 8)],by simp only;omega,?_⟩⟩,λhb=>⟨⟨k+1,by omega⟩,[(5,some 5)],by simp only;omega,?_⟩⟩⟩,λz=> ?_⟩
 .simp only[A8];simp(disch:=omega)only[ZA,simprocAttr,Bz];rw[nN s Q,Ao hb];simp[Ab.c,AG (x:=(k:Int)+1) (by omega) (by omega)]
 .simp only[A8];simp(disch:=omega)only[ZA,simprocAttr,Bz];rw[nN s Q,Ag (by simp[hb])];simp[AG (x:=(k:Int)+1) (by omega) (by omega)]
 .rw[DB (by omega)]
def ZF(s:Az)(a:Ah):Prop:=BV none s.Seed.Tiles=true/\BV none a.Tiles=true/\a.Tiles.length<=1000000
def TZ{s:Az}{a:Ah}(h:BV none a.Tiles=true):Mz (Cr s a.Tiles):=by
 obtain⟨_,z⟩:=Y7 _ _ (aZ (λx=> !ZE s x) a.Tiles none h);intro i j x y G O Q;rw[Cr,D9] at O Q;obtain⟨u,Z,rfl⟩:=Df.1 O;obtain⟨v,hv,rfl⟩:=Df.1 Q;exact z i j u v G Z hv
def wndI_.fv(a:Az×Ah×(List Ab)):Bool:=(λs a l=>Gn (λp=>(Cr s a.Tiles).contains p) none l) (a.1) (a.2.1) (a.2.2)
def wndI_.row:A7:=vK (b3 (qR Az.d_le) (qR Ah.d_le) (qS Ab.d_le Ab.c_n)) rB (λa=>ZF a.1 a.2.1) wndI_.fv
def wndI_.q:=AU (R:=wndI_.row) rfl
def wndI_.ok:AA Tryz.prog 99 wndI_.row:=by
 refine vw (tC softI_.ok (tC isIn_.ok (tC impl_LessPoint.ok tN))) Tryz.func99 rfl (by kernel_rfl) ?_;intro a O;simp only[Tryz.f99];simp(disch:=omega)only[ZA,simprocAttr,Ah.d,wndI_.fv,softI_.q,softI_.fv];obtain⟨s,a,l⟩:=a;obtain⟨h1,h2,h3⟩:=O;simp only at h1 h2 h3⊢;refine⟨⟨h1,h3⟩,λ_=> ?_⟩;obtain⟨S,hS⟩: ∃S,S=Cr s a.Tiles:=⟨_,rfl⟩;have Q:Mz S:=by rw[hS];exact TZ h2
 simp only[<-hS];refine AR.old ⟨{k:Nat//k<=l.length/\Gn (λp=>S.contains p) (E5 l k) (l.drop k)=Gn (λp=>S.contains p) none l},λk=>⟨[(15,.im (.int .i64 k.1)),(14,.im (.int .i64 l.length)),(13,.im (.sl false 2 (l.map Ab.c))),(7,.im (.sl false 2 (S.map Ab.c))),(2,.im (.sl false 2 (l.map Ab.c)))],[],2⟩,λk=>l.length - k.1,λk=>⟨by simp[Aj.good,An,Ac,A9,AV.bel],by simp⟩,⟨⟨0,by simp[E5]⟩,by simp(disch:=omega)only[ZA,simprocAttr,sub]⟩,λk=> ?_⟩;obtain⟨k,aa,z⟩:=k;simp(disch:=omega)only[ZA,simprocAttr,isIn_.q,isIn_.fv,impl_LessPoint.q,impl_LessPoint.fv,sub,AP];refine⟨λhk=>⟨hk,λx hx=>⟨Q,?_⟩⟩,λhk=> ?_⟩
 .rw[Eu hx,VJ] at z;refine⟨λG=>⟨λh5=> ?_,λh5=> ?_⟩,λG=> ?_⟩
  .rw[AG (x:=(k:Int) - 1) (by omega) (by omega)];refine⟨by omega,by omega,λy hy=> ?_⟩;have hp:E5 l k=some y:=by
    have e:((k:Int) - 1).toNat=k - 1:=by omega
    rw[e] at hy;simp only[E5,hy];rw[Ag (by omega)]
   rw[hp] at z;simp only at z;refine⟨λZ=> ?_,λZ=>⟨⟨k+1,by omega,?_⟩,by simp only;omega,by rw[AG (by omega) (by omega)];simp only;omega⟩⟩
   .rw[Z,Ei,Zg] at z;exact z
   .rw[G,CP,HO _|>.mp Z,CP] at z;rw[VI hx];exact z
  .have hp:E5 l k=none:=by simp only[E5];rw[Ao (by omega)]
   rw[hp] at z;simp only at z;refine⟨⟨k+1,by omega,?_⟩,by simp only;omega,by rw[AG (by omega) (by omega)];simp only;omega⟩;rw[G,CP,CP] at z;rw[VI hx];exact z
  .rw[N3] at G;rw[G,Ei] at z;exact z
 .rw[CZ (by omega),MI] at z;exact z
def Ig(s:Az)(a:Ah)(l:List Ab):Int:=if CC s a≠0 then CC s a else if Gn (λp=>(Cr s a.Tiles).contains p) none l=true then 0 else 2
def wndC_.fv(a:Az×Ah×(List Ab)):Int:=(Ig) (a.1) (a.2.1) (a.2.2)
def wndC_.row:A7:=vK (b3 (qR Az.d_le) (qR Ah.d_le) (qS Ab.d_le Ab.c_n)) rI (λa=>UG a.1.Set) wndC_.fv
def wndC_.q:=AU (R:=wndC_.row) rfl
def wndC_.ok:AA Tryz.prog 51 wndC_.row:=by
 refine vw (tC inCode_.ok (tC wndI_.ok tN)) Tryz.func51 rfl (by kernel_rfl) ?_;intro a z;simp only[Tryz.f51];simp(disch:=omega)only[ZA,simprocAttr,Ah.d,wndC_.fv,inCode_.q,inCode_.fv,wndI_.q,wndI_.fv];obtain⟨s,a,l⟩:=a;simp only at z⊢;refine⟨z,?_⟩;simp only[Ig];by_cases c:CC s a=0
 .obtain⟨c1,O,_⟩:=LU c;have k1:=Kz (Nb c1).2.2;have k2:=Kz O;rw[Ag (λh=>h c)];refine⟨⟨k1.1.1,k2.1.1,by omega⟩,?_⟩;have e: ∀x:Int,(if ¬CC s a=0 then CC s a else x)=x:=λx=>Ag (λh=>h c)
  simp only[e];by_cases G:Gn (λp=>(Cr s a.Tiles).contains p) none l=true
  .rw[Ag (by rw[G];decide),Ao G]
  .rw[Ao (by simpa using G),Ag G]
 .rw[Ao c,Ao c]
def Vd(s:Az)(a:Ah)(p:Ab):Bool:=match a.Tiles.find? (λx=>decide (x.At=p)) with|none=>false|some x=> !ZE s x
def wndS_.fv(a:Az×Ah×(List Ab)):Bool:=(λs a l=>decide (l.length<=a.Tiles.length) && Gn (Vd s a) none l) (a.1) (a.2.1) (a.2.2)
def wndS_.row:A7:=vK (b3 (qP 4 Az.d_le) (qP 1 Ah.d_le) (qS Ab.d_le Ab.c_n)) rB (λa=>ZF a.1 a.2.1) wndS_.fv
def wndS_.q:=AU (R:=wndS_.row) rfl
def wndS_.ok:AA Tryz.prog 44 wndS_.row:=by
 refine vw (tC l03Index.ok (tC seedS_.ok (tC l_LessPoint.ok tN))) Tryz.func44 rfl (by kernel_rfl) ?_;intro a aa;simp only[Tryz.f44];simp(disch:=omega)only[ZA,simprocAttr,wndS_.fv];obtain⟨s,a,l⟩:=a;obtain⟨h1,h2,h3⟩:=aa;simp only at h1 h2 h3⊢;intro _ _;by_cases c0:a.Tiles.length<l.length
 .rw[Ao c0,dN (by omega),Ei]
 rw[Ag c0,Zh (by omega),CP];refine AR.old ⟨{k:Nat//k<=l.length/\Gn (Vd s a) (E5 l k) (l.drop k)=Gn (Vd s a) none l},λk=>⟨[(7,.im (.int .i64 k.1)),(0,.ptr 0 0),(1,.ptr 1 0),(2,.im (.sl false 2 (l.map Ab.c)))],[(0,(false,.view (Az.c s))),(1,(false,.view (Ah.c a)))],2⟩,λk=>l.length - k.1,λk=>⟨by simp[Aj.good,An,Ac,A9,AV.bel],by simp⟩,⟨⟨0,by simp[E5]⟩,by simp(disch:=omega)only[ZA,simprocAttr,sub]⟩,λk=> ?_⟩;obtain⟨k,ad,G⟩:=k;simp(disch:=omega)only[ZA,simprocAttr,Ah.d,l03Index.q,l03Index.fv,seedS_.q,seedS_.fv,l_LessPoint.q,l_LessPoint.fv,sub,AP];refine λ_=>⟨λhk=>⟨hk,λx hx=>⟨h2,λh4=> ?_,λh4=> ?_⟩⟩,λhk=> ?_⟩
 .rw[Eu hx,VJ] at G;rcases Px (λy=>decide (y.At=x)) a.Tiles 0 with ⟨Z,O⟩|⟨i,z,Z,O,f3⟩
  .rw[O] at h4;omega
  have hi:=(Cd.1 f3).1;rw[Fh] at O;simp only[O,Bt];refine⟨by omega,by omega,λz' ac=> ?_⟩;obtain rfl:z=z':=AE (f3.symm.trans ac);have Q:Vd s a x= !ZE s z:=by simp only[Vd,Z]
  rw[Q] at G;refine⟨h1,λh5=>⟨λh6=> ?_,λh6=> ?_⟩,λh5=> ?_⟩
  .rw[h5,Q6,CP] at G;rw[AG (x:=(k:Int) - 1) (by omega) (by omega)];refine⟨by omega,by omega,λy hy=>⟨hk,λx2 ab=> ?_⟩⟩;obtain rfl:x=x2:=AE (hx.symm.trans ab);have hp:E5 l k=some y:=by
    have e:((k:Int) - 1).toNat=k - 1:=by omega
    rw[e] at hy;simp only[E5,hy];rw[Ag (by omega)]
   rw[hp] at G;simp only at G;refine⟨λh7=> ?_,λh7=>⟨⟨k+1,by omega,?_⟩,by simp only;omega,by rw[AG (by omega) (by omega)];simp only;omega⟩⟩
   .rw[h7,Ei] at G;exact G
   .rw[HO _|>.mp h7,CP] at G;rw[VI hx];exact G
  .rw[h5,Q6,CP] at G;have hp:E5 l k=none:=by simp only[E5];rw[Ao (by omega)]
   rw[hp] at G;simp only at G;refine⟨⟨k+1,by omega,?_⟩,by simp only;omega,by rw[AG (by omega) (by omega)];simp only;omega⟩;rw[CP] at G;rw[VI hx];exact G
  .rw[HO] at h5;rw[h5,Zj,Ei] at G;exact G
 .rw[Eu hx,VJ] at G;rcases Px (λy=>decide (y.At=x)) a.Tiles 0 with ⟨Z,O⟩|⟨i,z,Z,O,f3⟩
  .have Q:Vd s a x=false:=by simp only[Vd,Z]
   rw[Q,Ei] at G;exact G
  .rw[O] at h4;omega
 .rw[CZ (by omega),MI] at G;exact G
def Rl(a:Ah)(k:Int):Ah:=⟨a.Tiles.eraseIdx k.toNat⟩
def witK_.fv(a:Ah×Int):Ah:=(Rl) (a.1) (a.2)
def witK_.row:A7:=vK (b2 (qP 1 Ah.d_le) qI) (rA Ah.d_le) (λa=>0<=a.2/\a.2<a.1.Tiles.length/\a.1.Tiles.length<=1000000) witK_.fv
def witK_.q:=AU (R:=witK_.row) rfl
def witK_.ok:AA Tryz.prog 92 witK_.row:=by
 refine vw tN Tryz.func92 rfl (by kernel_rfl) ?_;intro a z;simp only[Tryz.f92];simp(disch:=omega)only[ZA,simprocAttr,Ah.d,witK_.fv];obtain⟨a,k⟩:=a;obtain⟨G,h2,h3⟩:=z;simp only at G h2 h3⊢;have Q:(k - 0).toNat=k.toNat:=by omega
 have Z:(k+1).toNat=k.toNat+1:=by omega
 have e3:List.take ((a.Tiles.length:Int) - (k+1)).toNat (List.drop (k+1).toNat (a.Tiles.map Ak.c))=(a.Tiles.drop (k.toNat+1)).map Ak.c:=by
  rw[Z,<-List.map_drop,DB (by simp;omega)]
 rw[AG (x:=k+1) (by omega) (by omega),e3,Q,<-Zff,<-F9,Ku Ak.d_c];have O: ∀l:List Ak,BL BC (l.map Ak.c):=λl=>by
  rw[Qah];intro x _;simp[Ak.c,BC,D.one]
 refine⟨G,by omega,O _,by simp;omega,by omega,by omega,O _,by simp;omega,?_⟩;rw[EN,Rl,List.eraseIdx_eq_take_drop_succ]
def Ua{s:Az}{a:Ah}(h:BV none a.Tiles=true)(p:Ab):Vd s a p=(Cr s a.Tiles).contains p:=by
 obtain⟨_,z⟩:=Y7 _ _ h;have G: ∀x∈a.Tiles,∀y∈a.Tiles,x.At=y.At->x=y:=by
  intro x hx y hy e;obtain⟨i,Q⟩:=P7.1 hx;obtain⟨j,Z⟩:=P7.1 hy;rcases dA i j with c|c|c
  .have:=z i j x y c Q Z
   rw[e,Wi] at this;cases this
  .subst c;exact AE (Q.symm.trans Z)
  .have:=z j i y x c Z Q
   rw[e,Wi] at this;cases this
 rw[Q5,Gi,Cr,Bm];simp only[Vd];cases hf:a.Tiles.find? (λx=>decide (x.At=p)) with
 |none=>
  simp only[CE,false_iff,not_exists,not_and];intro x hx O
  have:=YY.1 hf x (KD.1 hx).1
  simp[O] at this
 |some x=>
  have O:x.At=p:=by simpa using Wx hf
  have hm:=rJ hf;simp only[Nz];constructor
  .exact λh2=>⟨x,KD.2 ⟨hm,by simp[h2]⟩,O⟩
  .rintro⟨y,hy,ac⟩;obtain⟨aa,ab⟩:=KD.1 hy;obtain rfl:=G x hm y aa (O.trans ac.symm);simpa using ab
def bC{f:Ab->Bool}: ∀(l:List Ab) (q:Option Ab),Gn f q l=true->(∀p∈l,f p=true)/\(∀x,q=some x-> ∀p∈l,Bf x p=true)/\l.Nodup
 |[],_,_=>by simp
 |p::r,q,h=>by
  rw[VJ] at h;simp only[AS] at h;obtain⟨Q,O,Z⟩:=h;obtain⟨i1,G,i3⟩:=bC r (some p) Z;have G:=G p rfl;refine⟨λy z=> ?_,λx hx y z=> ?_,Ip.2 ⟨λhm=> ?_,i3⟩⟩
  .rcases Bi.1 z with rfl|z
   .exact Q
   .exact i1 y z
  .subst hx;rcases Bi.1 z with rfl|z
   .exact O
   .exact VS O (G y z)
  .have:=G p hm
   rw[Wi] at this;cases this
def Yz{s:Az}{a:Ah}{l:List Ab}(h:Gn (λp=>(Cr s a.Tiles).contains p) none l=true):l.length<=a.Tiles.length:=by
 obtain⟨z,_,G⟩:=bC l none h;refine Dt (Qpo l (Cr s a.Tiles) G λx O=>Gi.1 (z x O)) (nQ s _)
def nM: ∀(b:List Ak) (i:Nat) (z:Ak),(b.map Ak.At).Nodup->b[i]? =some z->b.eraseIdx i=b.filter λx=> !decide (x.At=z.At)
 |[],_,_,_,h=>by simp at h
 |x::r,0,z,hn,h=>by
  obtain rfl:=AE h;rw[Bd,Ip] at hn;rw[List.eraseIdx_zero,List.tail_cons,jE];simp only[zG,Zj,CE,Cy];symm;rw[Ze];intro y O
  have:y.At≠x.At:=λe=>hn.1 (by rw[<-e];exact Bm.2 ⟨y,O,rfl⟩)
  simp[this]
 |x::r,i+1,z,hn,h=>by
  rw[Bd,Ip] at hn;have Q:z∈r:=AY h;have G:x.At≠z.At:=λe=>hn.1 (by rw[e];exact Bm.2 ⟨z,Q,rfl⟩)
  rw[iX,jE,nM r i z hn.2 h];simp[G]
def Tj(l:List Ab){k:Nat}{p:Ab}(hp:l[k]? =some p)(ts:List Ak):Cf (l.take (k+1)) ts=(Cf (l.take k) ts).filter λx=> !decide (x.At=p):=by
 rw[Cf,Cf,List.filter_filter];refine List.filter_congr λx _=> ?_
 rw[GO,hp,cY];simp only[E4,List.contains_eq_mem,Br,BE,Bool.decide_or,Bool.not_or,Bool.and_comm]
def nP{l:List Ab}{ts:List Ak}(h:BV none ts=true):BV none (Cf l ts)=true:=aZ _ _ _ h
def remS_.fv(a:Ah×(List Ab)):Ah:=(λa l=>⟨Cf l a.Tiles⟩) (a.1) (a.2)
def remS_.row:A7:=vK (b2 (qP 1 Ah.d_le) (qS Ab.d_le Ab.c_n)) (rA Ah.d_le) (λa=>BV none a.1.Tiles=true/\a.2.Nodup/\(∀p∈a.2,∃x∈a.1.Tiles,x.At=p)/\a.1.Tiles.length<=1000000) remS_.fv
def remS_.q:=AU (R:=remS_.row) rfl
def remS_.ok:AA Tryz.prog 46 remS_.row:=by
 refine vw (tC l03Own.ok (tC l03Index.ok (tC witK_.ok tN))) Tryz.func46 rfl (by kernel_rfl) ?_;intro a Q;simp only[Tryz.f46];simp(disch:=omega)only[ZA,simprocAttr,Ah.d,remS_.fv,l03Own.q,l03Own.fv];obtain⟨a,l⟩:=a;obtain⟨h1,h2,h3,h4⟩:=Q;simp only at h1 h2 h3 h4⊢;refine⟨h4,?_⟩;refine AR.old ⟨{k:Nat//k<=l.length},λk=>⟨[(6,.im (.int .i64 k.1)),(5,.ptr 2 0),(4,.ptr 1 0),(1,.im (.sl false 2 (l.map Ab.c)))],[(2,(true,.cells 39 [.im (.sl false 3 ((Cf (l.take k.1) a.Tiles).map Ak.c))])),(1,(true,.cells 39 [.im (.sl true 0 [])])),(0,(false,.view [.sl false 3 (a.Tiles.map Ak.c)]))],3⟩,λk=>l.length - k.1,λk=>⟨by simp[Aj.good,An,Ac,A9,AV.bel,Av],by simp⟩,⟨⟨0,CF _⟩,?_⟩,λk=> ?_⟩
 .have e:Cf [] a.Tiles=a.Tiles:=by rw[Cf,Ze];intro x _;rfl
  simp only[UQ,e];simp(disch:=omega)only[ZA,simprocAttr,sub]
 obtain⟨k,hk⟩:=k;simp(disch:=omega)only[ZA,simprocAttr,Ah.d,l03Index.q,l03Index.fv,witK_.q,witK_.fv,sub,AP];intro _;refine⟨λG=>⟨G,λp hp=> ?_⟩,λG=>by rw[DB (by omega)]⟩;have hf:=nP (l:=l.take k) h1;have ab:=bB (l.take k) a.Tiles;obtain⟨x,hx,Z⟩:=h3 p (AY hp);have O:p∉l.take k:=λhm=>by
  have h5:=h2;rw[<-KA k l,US] at h5;exact h5.2.2 p hm p (by rw[Eu hp];exact BM ..) rfl
 have aa:x∈Cf (l.take k) a.Tiles:=KD.2 ⟨hx,by simp[E4,Z,O]⟩;refine⟨hf,?_⟩;rcases Px (λy=>decide (y.At=p)) (Cf (l.take k) a.Tiles) 0 with ⟨f1,f2⟩|⟨i,z,f1,f2,f3⟩
 .have:=YY.1 f1 x aa
  simp[Z] at this
 have hz:z.At=p:=by simpa using Wx f1
 have hi:=(Cd.1 f3).1;rw[Fh] at f2;rw[f2];refine⟨⟨by omega,by omega,by omega⟩,⟨k+1,by omega⟩,by simp only;omega,by rw[AG (by omega) (by omega)];simp only;omega,?_⟩;simp only[Rl,Bt];rw[Tj l hp,nM _ _ _ (Qix hf) f3,hz]
def Ji(a:Ah)(l:List Ab):Ah:=⟨Cf l a.Tiles⟩
def UY(s:Az)(a:Ah)(l:List Ab)(c:List Int):List AJ×Ah×Int:=if CC s a≠0 then ([],⟨[]⟩,CC s a) else if Gn (λp=>(Cr s a.Tiles).contains p) none l=false\/DT c=false then ([],⟨[]⟩,2) else FA s c 500 (Ji a l) []
def Ly{s:Az}{a:Ah}(l:List Ab)(G:FH s.Set a=true):Hm s.Set (Ji a l)/\(Ji a l).Tiles.length<=500:=by
 obtain⟨z,O⟩:=Kz G;exact⟨⟨nP z.1,λx Q=>z.2 x (KD.1 Q).1⟩,Dt (bB _ _) O⟩
def Lu{s:Az}{l:List Int}: ∀(n:Nat) (b:Ah) (d:List AJ),(FA s l n b d).2.2≠0->FA s l n b d=([],⟨[]⟩,(FA s l n b d).2.2)
 |0,_,_,h=>absurd rfl h
 |n+1,b,d,h=>by
  rw[FA] at h⊢;split
  .rename_i e;rw[e] at h;exact absurd rfl h
  .rename_i o e;rw[e] at h;simp only at h;by_cases c:500<=b.Tiles.length
   .rw[Ao c]
   .rw[Ag c] at h⊢;exact Lu n _ _ h
def hlS_.fv(a:Az×Ah×(List Ab)×(List Int)):(List AJ)×Ah×Int:=(UY) (a.1) (a.2.1) (a.2.2.1) (a.2.2.2)
def hlS_.row:A7:=vK (b4 (qR Az.d_le) (qR Ah.d_le) (qS Ab.d_le Ab.c_n) (qS DU Dc)) (r3 (rS AJ.d_le AJ.c_n) (rA Ah.d_le) rI) (λa=>True) hlS_.fv
def hlS_.q:=AU (R:=hlS_.row) rfl
def hlS_.ok:AA Tryz.prog 10 hlS_.row:=by
 refine vw (tC over08.ok (tC wndS_.ok (tC schS_.ok (tC remS_.ok (tC grwS_.ok tN))))) Tryz.func10 rfl (by kernel_rfl) ?_;intro a aa;simp only[Tryz.f10];simp(disch:=omega)only[ZA,simprocAttr,Ah.d,hlS_.fv,over08.q,over08.fv,wndS_.q,wndS_.fv,schS_.q,schS_.fv,remS_.q,remS_.fv,grwS_.q,grwS_.fv];obtain⟨s,a,l,c⟩:=a;simp only[UY];by_cases c0:CC s a=0
 case neg=>rw[Ao c0,Ao c0]
 obtain⟨o1,o2,_⟩:=LU c0;have k1:=Kz (Nb o1).2.2;have k2:=Kz o2;have e0: ∀x:List AJ×Ah×Int,(if CC s a≠0 then ([],⟨[]⟩,CC s a) else x)=x:=λx=>Ag (λh=>h c0)
 rw[Ag (λh=>h c0)];simp only[e0];have hw:Gn (Vd s a) none l=Gn (λp=>(Cr s a.Tiles).contains p) none l:=by
  congr 1;funext p;exact Ua k2.1.1 p
 refine⟨⟨k1.1.1,k2.1.1,by omega⟩,?_⟩;rw[hw];by_cases z:Gn (λp=>(Cr s a.Tiles).contains p) none l=true
 case neg=>
  rw[Ag (λh=>z h.2),Ao (.inl (by simpa using z))]
 have hl:=Yz z;rw[Ao ⟨hl,z⟩];by_cases G:DT c=true
 case neg=>
  rw[Ao (by simpa using G),Ao (.inr (by simpa using G))]
 have Z: ¬(Gn (λp=>(Cr s a.Tiles).contains p) none l=false\/DT c=false):=by rw[z,G];decide
 rw[Ag (by simp[G]),Ag Z];obtain⟨w1,_,w3⟩:=bC l none z;obtain⟨g1,g2⟩:=Ly l o2;obtain⟨⟨q1,_,q3,_⟩,_⟩:=Nb o1;refine⟨⟨k2.1.1,w3,λp hp=> ?_,by omega⟩,⟨q1,g1,g2,q3,G⟩,?_⟩
 .obtain⟨x,hx,he⟩:=Bm.1 (Gi.1 (w1 p hp));exact⟨x,(KD.1 hx).1,he⟩
 have Q:=Ls (s:=s) (l:=c) 500 (Ji a l) [];have hB:(⟨Cf l a.Tiles⟩:Ah)=Ji a l:=rfl;rw[hB];obtain⟨w,hW⟩: ∃w,w=DC s c 500 (Ji a l) []:=⟨_,rfl⟩;rw[<-hW] at Q⊢;rw[<-Q];by_cases O:w.2.2.2=0
 .rw[Ag (λh=>h O),O]
 .rw[Ao O]
  have:=Lu (s:=s) (l:=c) 500 (Ji a l) [] (by rw[<-Q];exact O)
  rw[<-Q] at this;exact this.symm
def SL(s:Az):Db s ⟨[]⟩=[]:=rfl
def Lw(s:Az)(l:List Int)(n:Nat)(d:List AJ):FA s l n ⟨[]⟩ d=(d,⟨[]⟩,0):=by
 cases n with
 |zero=>rfl
 |succ n=>
  have:Gl s l ⟨[]⟩ d.length=none:=PX.2 (SL s)
  rw[FA,this]
def Xg(s:Az)(c:List Int)(b:Ah)(h:b.Tiles.length<=500):FA s c 501 b []=FA s c 500 b []:=by
 by_cases e:b.Tiles.length=0
 .obtain⟨t⟩:=b;obtain rfl:t=[]:=Qv.1 e;rw[Lw,Lw]
 .exact nJ 500 _ _ h (by omega)
def WH{s:Az}{a:Ah}(l:List Ab)(c1:Hl s=true)(z:FH s.Set a=true):newC.pre (s,Ji a l)/\G9 s (Ji a l) (YR s (Ji a l)):=by
 obtain⟨h1,_,_,_,_,O,G,Q⟩:=(KU c1 z).2;obtain⟨p1,p2,p3⟩:=(KU c1 z).1;obtain⟨g1,g2⟩:=Ly l z;exact⟨⟨p1,p2,λy hy=>p3 y (KD.1 hy).1⟩,rfl,⟨_,RM.of g1.1 λx Z=>(g1.2 x Z).1⟩,SI G,g1,g2,O,G,Q⟩
def hlI.ca(a:Az×Ah×List Ab×List Int):List AV:=[.im (.agg (Az.c a.1)),.im (.agg (Ah.c a.2.1)),.im (.sl false 2 (a.2.2.1.map Ab.c)),.im (.sl false 1 (a.2.2.2.map Al))]
def Lx(a:Az×Ah×List Ab×List Int):List AJ×Ah×Int:=UY a.1 a.2.1 a.2.2.1 a.2.2.2
def hlI.H1(a:Az×Ah×List Ab×List Int):Ap:=UX (Lx a)
def hlI.row:A7:=AF hlI.ca (λ_=>[]) 0 (λa=>UG a.1.Set) (λ_=>false) (λa=>Lq (Lx a)) hlI.H1 20
def hlI.ok:AA Tryz.prog 15 hlI.row:=by
 refine SR (tC wndC_.ok (tC vSch_.ok (tC woA.ok (tC newC.ok (tC growI.ok (tC asmCX.ok tN)))))) Tryz.func15 rfl (by kernel_rfl) (exB:=sM) (R:=λa r=>r=Lq (Lx a)) (λ_=>rfl)
  (λa=>by simp[hlI.ca,Az.c,Ah.c,Av,AV.bel,Ac,A9,BK]) (λa p hp=> ?_) (λa r h=>by subst h;exact C8.refl _) ?_
 rotate_left
 intro a G;simp only[Tryz.f15,hlI.ca,Az.c,Ah.c];simp(disch:=omega)only[ZA,simprocAttr,Ah.d,CB,wndC_.q,wndC_.fv,vSch_.q,vSch_.fv,woA.q,woA.fv,F3,Az.c,Ah.c];obtain⟨s,a,l,c⟩:=a;simp only at G⊢;refine⟨G,?_⟩;by_cases c0:Ig s a l=0
 case neg=>
  rw[Ao c0];have O:Lx (s,a,l,c)=([],⟨[]⟩,Ig s a l):=by
   simp only[Lx,UY,Ig] at c0⊢;split
   .rfl
   .rename_i h1;rw[Ag h1] at c0;have h2: ¬Gn (λp=>(Cr s a.Tiles).contains p) none l=true:=λh=>c0 (Ao h)
    rw[Ao (.inl (by simpa using h2)),Ag h2]
  refine⟨[],[(0,some 4),(1,none),(2,some 3)],⟨[(8,.own 0),(9,.ptr 2 0),(10,.im (.int .i64 (Ig s a l)))],[(2,(true,.cells 39 [.own 1])),(0,(true,.arr 108 3 ([]))),(1,(true,.arr 137 3 ([])))],3⟩,?_,by simp[Aj.good,An,Ac,A9,AV.bel,Av],by simp,?_⟩
  .simp only[A8];simp(disch:=omega)only[ZA,simprocAttr,Bz,cW]
   try simp
  .simp(disch:=omega)only[ZA,simprocAttr,sM,Lq,hlI.H1,O,UX]
   try simp
 rw[Ag (λh=>h c0)];have o0:CC s a=0:=by
  simp only[Ig] at c0;by_cases h:CC s a=0
  .exact h
  .rw[Ao h] at c0;exact absurd c0 h
 have c3:Gn (λp=>(Cr s a.Tiles).contains p) none l=true:=by
  simp only[Ig] at c0;rw[Ag (λh=>h o0)] at c0;by_cases h:Gn (λp=>(Cr s a.Tiles).contains p) none l=true
  .exact h
  .rw[Ag h] at c0;exact absurd c0 (by decide)
 have hN: ∀x:List AJ×Ah×Int,(if CC s a≠0 then ([],⟨[]⟩,CC s a) else x)=x:=λx=>Ag (λh=>h o0)
 by_cases c4:DT c=true
 case neg=>
  rw[Ao (by simpa using c4)];have O:Lx (s,a,l,c)=([],⟨[]⟩,2):=by
   simp only[Lx,UY,hN];rw[Ao (.inr (by simpa using c4))]
  refine⟨[],[(0,some 4),(1,none),(2,some 3)],⟨[(8,.own 0),(9,.ptr 2 0),(10,.im (.int .i64 2))],[(2,(true,.cells 39 [.own 1])),(0,(true,.arr 108 3 ([]))),(1,(true,.arr 137 3 ([])))],3⟩,?_,by simp[Aj.good,An,Ac,A9,AV.bel,Av],by simp,?_⟩
  .simp only[A8];simp(disch:=omega)only[ZA,simprocAttr,Bz,cW]
   try simp
  .simp(disch:=omega)only[ZA,simprocAttr,sM,Lq,hlI.H1,O,UX]
   try simp
 rw[Ag (by simp[c4])];obtain⟨o1,o2,_⟩:=LU o0;have k2:=Kz o2;obtain⟨ab,Z⟩:=WH l o1 o2;have aa:=(Ly l o2).2;have Q:Lx (s,a,l,c)=FA s c 501 (Ji a l) []:=by
  rw[Xg s c (Ji a l) aa];simp only[Lx,UY,hN];rw[Ag (by rw[c3,c4];decide)]
 refine⟨by omega,?_⟩;refine AF.os (s,Ji a l) [] ab (λj=>by simp[Am,hget]) rfl rfl ?_ ?_
 .simp(disch:=omega)only[ZA,simprocAttr,Az.c,Ah.c,newC.ca,D3,Az.c,Ah.c,Ji]
 simp(disch:=omega)only[ZA,simprocAttr,newC.H1];obtain⟨b,hb⟩: ∃b,b=Ji a l:=⟨_,rfl⟩;rw[<-hb] at Z Q;simp only[<-hb];obtain⟨w,hw⟩: ∃w,w=Fs c 501 (YR s b) b []:=⟨_,rfl⟩;have z:=Lp (l:=c) 501 (YR s b) b [] Z;rw[<-hw] at z;have hS:(YR s b).Sys=s:=rfl;refine AF.os (YR s b,b,c,501) [8,6,7] ⟨Z,c4,AN _⟩ (λj=>Jv _ j) rfl rfl ?_ ?_
 .simp(disch:=omega)only[ZA,simprocAttr,D5,growI.ca,BN,Cs,Eh,G6,hS]
  try exact⟨rfl,rfl,rfl,rfl⟩
 rcases z with ⟨g1,g2,g3⟩|⟨g1,g2,g3⟩
 .have O:Lx (s,a,l,c)=(w.2.2.1,w.2.1,0):=Q.trans g2;obtain⟨e1,⟨kk,e2⟩,_,e4,e5,_⟩:=g3;simp(disch:=omega)only[ZA,simprocAttr,D5,growI.H1,DF,Eh,G6,growI.r0,<-hw,g1];refine AF.os w.1 [8,6,7] ⟨e2.nd,by have:=e2.size;omega⟩ (λj=>Jv _ j) rfl rfl ?_ ?_
  .simp(disch:=omega)only[ZA,simprocAttr,D5,asmC.ca,BN,Cs,Eh,G6,e1]
   try exact⟨rfl,rfl,rfl⟩
  simp(disch:=omega)only[ZA,simprocAttr,F3,D5,asmCX.H1,klA,Eh,G6];have eT:(W5 w.1.Tl).Tiles=w.2.1.Tiles:=(CL Ah.Tiles e2.eq).symm;simp only[eT];refine⟨[],[(0,some 9),(1,some 29),(2,some 3)],⟨[(8,.own 0),(9,.ptr 2 0),(10,.im (.int .i64 0))],[(2,(true,.cells 39 [.own 1])),(0,(true,.arr 108 3 (w.2.2.1.map AJ.c))),(1,(true,.arr 137 3 (w.2.1.Tiles.map Ak.c)))],3⟩,?_,by simp[Aj.good,An,Ac,A9,AV.bel,Av],by simp,?_⟩
  .simp only[A8];simp(disch:=omega)only[ZA,simprocAttr,Bz]
   try simp
  .simp(disch:=omega)only[ZA,simprocAttr,sM,Lq,hlI.H1,O,UX]
   try simp
 .have O:Lx (s,a,l,c)=([],⟨[]⟩,4):=Q.trans g3;simp(disch:=omega)only[ZA,simprocAttr,F3,D5,growI.H1,DF,Eh,G6,growI.r0,<-hw,g1,g2];refine⟨[],[(0,some 29),(1,none),(2,some 3)],⟨[(8,.own 0),(9,.ptr 2 0),(10,.im (.int .i64 4))],[(2,(true,.cells 39 [.own 1])),(0,(true,.arr 108 3 ([]))),(1,(true,.arr 137 3 ([])))],3⟩,?_,by simp[Aj.good,An,Ac,A9,AV.bel,Av],by simp,?_⟩
  .simp only[A8];simp(disch:=omega)only[ZA,simprocAttr,Bz,cW]
   try simp
  .simp(disch:=omega)only[ZA,simprocAttr,sM,Lq,hlI.H1,O,UX]
   try simp
 simp[hlI.H1,UX] at hp;rcases hp with rfl|rfl
 .exact .inr ⟨by omega,by omega,rfl,rfl⟩
 .exact .inr ⟨by omega,by omega,rfl,rfl⟩
def szPointS.fv(a:(List Ab)×Int):Int:=(λa l=>Cj a.length l) (a.1) (a.2)
def szPointS.row:A7:=vK (b2 (qS Ab.d_le Ab.c_n) qI) rI (λa=> -1<=a.2/\a.2<=1048576) szPointS.fv
def szPointS.q:=AU (R:=szPointS.row) rfl
def szPointS.ok:AA Tryz.prog 9 szPointS.row:=by
 refine vw tN Tryz.func9 rfl (by kernel_rfl) ?_;intro a z;simp only[Tryz.f9];simp(disch:=omega)only[ZA,simprocAttr,szPointS.fv];intro h;rw[AG (by omega) (by omega)];simp only[Cj];grind
def toPointS.fv(a:(List Ab)):List Ab:=(λp=>p) a
def toPointS.row:A7:=vK (b1 (qS Ab.d_le Ab.c_n)) (rS Ab.d_le Ab.c_n) (λa=>a.length<=1073741824) toPointS.fv
def toPointS.ok:AA Tryz.prog 13 toPointS.row:=by
 refine vw (tC toPoint.ok tN) Tryz.func13 rfl (by kernel_rfl) ?_;intro a z;simp only[Tryz.f13];simp(disch:=omega)only[ZA,simprocAttr,toPointS.fv];intro Q;have aa:a.length<=1073741824:=z;refine⟨by omega,?_⟩;refine AR.old ⟨{k:Nat//k<=a.length},λk=>⟨[(4,.im (.int .i64 k.1)),(3,.own 1),(0,.im (.sl false 2 (a.map Ab.c)))],[(1,(true,.arr 96 2 ((a.take k.1).map Ab.c++List.replicate (a.length - k.1) [.int .i64 0,.int .i64 0])))],2⟩,λk=>a.length - k.1,λk=>⟨by simp[Aj.good,An,Ac,A9,AV.bel],AN _⟩,⟨⟨0,by omega⟩,by simp(disch:=omega)only[ZA,simprocAttr,sub];simp⟩,λk=> ?_⟩;obtain⟨k,O⟩:=k;simp(disch:=omega)only[ZA,simprocAttr,toPoint.q,toPoint.fv,AP,Wc _ _ a k O];intro _;refine⟨λG=> ?_,λG=> ?_⟩
 .refine⟨G,λx Z=>⟨G,G,Hj (Wa Ab.c _ a k x Z) ?_⟩⟩;simp(disch:=omega)only[ZA,simprocAttr,sub];refine⟨⟨k+1,by omega⟩,by simp only;omega,?_,?_⟩
  .rw[AG (by omega) (by omega)];simp only;omega
  .exact Wl Ab.c _ a k x Z
 .rw[Wh Ab.c _ a k (by omega)];simp[Ab.d_R]
def eqPointSF.fv(a:(List Ab)×(List Ab)):Bool:=(λa b=>decide (a=b)) (a.1) (a.2)
def eqPointSF.row:A7:=CN (b2 (qS Ab.d_le Ab.c_n) (qS Ab.d_le Ab.c_n)) rB (λa=>True) eqPointSF.fv
def eqPointSF.ok:AA Tryz.prog 19 eqPointSF.row:=by
 refine FZ (tC eqPoint.ok tN) Tryz.func19 rfl (by kernel_rfl) ?_;intro a Z;simp only[Tryz.f19];simp(disch:=omega)only[ZA,simprocAttr,eqPointSF.fv,D.sc,D.scs,Bv];intro h1 h2;simp only[AP];refine⟨λG=> ?_,λG=> ?_⟩
 .have:a.1≠a.2:=λh=>G (by rw[h])
  simp[this]
 have G:a.1.length=a.2.length:=by omega
 refine AR.old ⟨{k:Nat//k<=a.1.length/\a.1.take k=a.2.take k},λk=>⟨[(5,.im (.int .i64 k.1)),(4,.im (.bool false)),(0,.im (.sl false 2 (a.1.map Ab.c))),(1,.im (.sl false 2 (a.2.map Ab.c)))],[],0⟩,λk=>a.1.length - k.1,λk=>⟨by simp[Aj.good,An,Ac,A9,AV.bel],AN _⟩,⟨⟨0,by simp⟩,by simp(disch:=omega)only[ZA,simprocAttr,sub]⟩,λk=> ?_⟩;obtain⟨k,Q,z⟩:=k;simp(disch:=omega)only[ZA,simprocAttr,eqPoint.q,eqPoint.fv,D.sc,D.scs,Bv,sub,AP];intro _;refine⟨λO=>⟨O,λx hx=>⟨by omega,λy hy=> ?_⟩⟩,λO=> ?_⟩
 .obtain⟨g1,g2⟩:=bJ G Q z hx hy;exact⟨λh=>by simp[g2 (show x≠y from h)],λh=>F2 O h1 ⟨by omega,g1 (show x=y from F8.1 h)⟩⟩
 .rw[DB (by omega),DB (by omega)] at z;simp[z]
def toQX.ca(a:List Ab):List AV:=[.im (.sl false 2 (a.map Ab.c))]
def toQX.H1(a:List Ab):Ap:=[(1,(true,.arr 96 2 (a.map Ab.c)))]
def toQX.row:A7:=AF toQX.ca (λ_=>[]) 0 (λa=>a.length<=1073741824) (λ_=>false) (λ_=> .own 1) toQX.H1 2
def toQX.ok:AA Tryz.prog 13 toQX.row:=by
 refine ow (tC toPoint.ok tN) Tryz.func13 rfl (by kernel_rfl) (exB:=λj=>j==1) (R:=λ_ r=>r= .own 1) (λ_=>rfl)
  (λa=>by simp[toQX.ca,Av,AV.bel,Ac,A9,BK]) (λa p hp=> ?_) (λa r h=>by subst h;exact C8.refl _) ?_
 rotate_left
 intro a z;simp only[Tryz.f13,toQX.ca,toQX.H1];simp(disch:=omega)only[ZA,simprocAttr];intro Q;have aa:a.length<=1073741824:=z;refine⟨by omega,?_⟩;refine AR.old ⟨{k:Nat//k<=a.length},λk=>⟨[(4,.im (.int .i64 k.1)),(3,.own 1),(0,.im (.sl false 2 (a.map Ab.c)))],[(1,(true,.arr 96 2 ((a.take k.1).map Ab.c++List.replicate (a.length - k.1) [.int .i64 0,.int .i64 0])))],2⟩,λk=>a.length - k.1,λk=>⟨by simp[Aj.good,An,Ac,A9,AV.bel],AN _⟩,⟨⟨0,by omega⟩,by simp(disch:=omega)only[ZA,simprocAttr,sub];simp⟩,λk=> ?_⟩;obtain⟨k,O⟩:=k;simp(disch:=omega)only[ZA,simprocAttr,toPoint.q,toPoint.fv,AP,Wc _ _ a k O];intro _;refine⟨λG=> ?_,λG=> ?_⟩
 .refine⟨G,λx Z=>⟨G,G,Hj (Wa Ab.c _ a k x Z) ?_⟩⟩;simp(disch:=omega)only[ZA,simprocAttr,sub];refine⟨⟨k+1,by omega⟩,by simp only;omega,?_,?_⟩
  .rw[AG (by omega) (by omega)];simp only;omega
  .exact Wl Ab.c _ a k x Z
 .rw[Wh Ab.c _ a k (by omega)]
  try trivial
 simp[toQX.H1] at hp;subst hp;exact .inr ⟨by omega,by omega,rfl,rfl⟩
def qF(k:Int)(i:Nat):Ab:=⟨k+2*i,k+2*i+1⟩
def mkQC.ca(a:List Ab×Int):List AV:=[.own 0,.im (.int .i64 a.2)]
def mkQC.H0(a:List Ab×Int):Ap:=[(0,(true,.arr 96 2 (a.1.map Ab.c)))]
def mkQC.H1(a:List Ab×Int):Ap:=[(0,(true,.arr 96 2 ((D2 (qF a.2) a.1.length).map Ab.c)))]
def mkQC.row:A7:=AF mkQC.ca mkQC.H0 1 (λa=>0<=a.2/\a.2+2*a.1.length<=1099511627776) (λj=>j==0) (λa=> .im (.int .i64 (a.2+2*a.1.length))) mkQC.H1 0
def mkQC.ok:AA Tryz.prog 23 mkQC.row:=by
 refine ow tN Tryz.func23 rfl (by kernel_rfl) (exB:=λ_=>false) (R:=λa r=>r= .im (.int .i64 (a.2+2*a.1.length))) (λ_=>rfl)
  (λa=>by simp[mkQC.ca,mkQC.H0,Av,AV.bel,Ac,A9,BK,Ad.nms,Am,hget]) (λa p hp=> ?_) (λa r h=>by subst h;exact C8.refl _) ?_
 rotate_left
 intro a z;simp only[Tryz.f23,mkQC.ca,mkQC.H0,mkQC.H1];simp(disch:=omega)only[ZA,simprocAttr];obtain⟨l,k⟩:=a;simp only at z⊢;obtain⟨h1,h2⟩:=z;refine AR.old ⟨{i:Nat//i<=l.length},λi=>⟨[(5,.im (.int .i64 i.1)),(4,.im (.int .i64 0)),(1,.im (.int .i64 (k+2*i.1))),(0,.own 0)],[(0,(true,.arr 96 2 ((HY (qF k) l i.1).map Ab.c)))],1⟩,λi=>l.length - i.1,λi=>⟨by simp[Aj.good,An,Ac,A9,AV.bel],by simp⟩,⟨⟨0,by simp⟩,by simp(disch:=omega)only[ZA,simprocAttr,sub,Vv];simp⟩,λi=> ?_⟩;obtain⟨i,Z⟩:=i;have Q:=Vx (f:=qF k) Z;simp(disch:=omega)only[ZA,simprocAttr,AP,Q];intro _;refine⟨λO=>⟨O,O,λx hx=> ?_⟩,λO=> ?_⟩
 .have w1:IntKind.i64.wrap (k+2*(i:Int)+1)=k+2*(i:Int)+1:=AG (by omega) (by omega);have G:i<(List.map Ab.c (HY (qF k) l i)).length:=by rw[FM,Q];exact O
  simp only[w1];refine⟨by rw[Ew];exact G,by rw[Ew];exact G,Hj (Da G) ?_⟩;simp(disch:=omega)only[ZA,simprocAttr,sub,iZ];refine⟨⟨i+1,by omega⟩,by simp only;omega,⟨?_,?_⟩,?_⟩
  .rw[AG (by omega) (by omega)];simp only;omega
  .rw[AG (by omega) (by omega)];simp only;omega
  .simp only;rw[<-Vy O,JG];rfl
 .exact⟨by omega,by rw[Vz (by omega)]⟩
 simp[mkQC.H1] at hp;subst hp;exact .inl ⟨by omega,rfl,rfl⟩
def toAR.row:A7:=fK toAssembly.row toAX.row
def toAR.ok:AA Tryz.prog 12 toAR.row:=PV toAssembly.ok toAX.ok
def toQR.row:A7:=fK toPointS.row toQX.row
def toQR.ok:AA Tryz.prog 13 toQR.row:=PV toPointS.ok toQX.ok
def pk4{h:Nat->Option Aq}{x y z u:AV}{p q r s:PK}(O:Ed h x=some p)(Q:Ed h y=some q)(Z:Ed h z=some r)(G:Ed h u=some s):Ce h [x,y,z,u]=some [p,q,r,s]:=by simp only[Ce,O,Q,Z,G,GY]
def fL(l:List Ab):a1 (kS Ab.d) [.val (.sl false 2 (l.map Ab.c))]=some l:=by simp only[a1,kS,Ab.d_R,EN]
def pt2R(l m:List Ab):a2 (kS Ab.d) (kS Ab.d) [.val (.sl false 2 (l.map Ab.c)),.val (.sl false 2 (m.map Ab.c))]=some (l,m):=by simp only[a2,kS,Ab.d_R,EN]
def hlR(s:Az)(a:Ah)(l:List Ab)(c:List Int):a4 (kR Az.d) (kR Ah.d) (kS Ab.d) (kS Ck) [.val (.agg (Az.c s)),.val (.agg (Ah.c a)),.val (.sl false 2 (l.map Ab.c)),.val (.sl false 1 (c.map Al))]=some (s,a,l,c):=by simp only[a4,kR,kS,Az.d_c,Ah.d_c,Ab.d_R,Ku V1,EN]
def sD(l:Ah): ∀p∈toAX.H1 l,p.1<5/\ ∀m∈p.2.2.nms,m<5:=by
 intro p hp;simp only[toAX.H1,BE] at hp;subst hp;exact⟨by omega,by simp[Ad.nms]⟩
def tR(l:List Ab): ∀p∈toQX.H1 l,p.1<2/\ ∀m∈p.2.2.nms,m<2:=by
 intro p hp;simp only[toQX.H1,BE] at hp;subst hp;exact⟨by omega,by simp[Ad.nms]⟩
def Oh{nx o:Nat}{tm:List (Nat×AV)}{h:Ap}{dst:Option Nat}{go:Aj->Prop}{l:List Ab}{k:Int}(hk:0<=k)(Z:k+2*l.length<=1099511627776)(hS:hget h o=some (true,.arr 96 2 (l.map Ab.c)))(aa:o<nx)
 (Q: ∀G:Ap,(∀m,m≠o->hget G m=hget h m)->go ((⟨tm,G,nx⟩:Aj).put dst (.im (.int .i64 (k+2*l.length))))):
 mkQC.row [.own o,.im (.int .i64 k)] (hget h) nx (CR go ⟨tm,h,nx⟩ dst):=by
 have hd: ∀j,Am (mkQC.H0 (l,k)) j=true->j=0:=λj z=>by
  simp only[Am,mkQC.H0,hget] at z;by_cases h:j=0
  .exact h
  .rw[Be _ _ (λq=>h q.symm)] at z;cases z
 refine AF.tau (l,k) (λ_=>o) ⟨hk,Z⟩ (λj z=>by rw[hd j z];rfl) (λj z=>⟨by rw[hd j z];omega,aa⟩) (λi j hi z _=>by rw[hd i hi,hd j z]) (λp hp=> ?_) ⟨rfl,hS,trivial⟩ (by simp[AV.nms]) (λG hH1 O=>Q G λm hm=>O m λj z h=>hm h.symm);simp only[mkQC.H1,BE] at hp;subst hp;exact⟨rfl,λm hm=>by simp[Ad.nms] at hm⟩
def hlV.row:A7:=DQ (a4 (kR Az.d) (kR Ah.d) (kS Ab.d) (kS Ck)) (λa=>UG a.1.Set) (λa=>Lq (Lx a)) hlI.H1 20
def hlV.ok:AA Tryz.prog 15 hlV.row:=
 lY (A:=Az×Ah×List Ab×List Int) (ca:=λ(a:Az×Ah×List Ab×List Int)=>[D.agg (Az.c a.1),D.agg (Ah.c a.2.1),D.sl false 2 (a.2.2.1.map Ab.c),D.sl false 1 (a.2.2.2.map Al)]) (by kernel_rfl) hlI.ok (λ_=>rfl) (Zo (I7 Az.d_le) (I7 Ah.d_le) (L5 2 Ab.d_le (λ_=>rfl)) (L5 1 DU (λ_=>rfl))) (λ_=>eH _) (λ_=>eI _)
def eL(s:Az)(a:Ah)(l:List Ab)(c:List Int):(UY s a l c).1.length<=500/\(UY s a l c).2.1.Tiles.length<=500:=by
 simp only[UY];split
 .simp
 rename_i h;split
 .simp
 have h:=LU (Zey.1 h)
 have:=Lv s c 500 (Ji a l) [] (Ly l h.2.1).2
 simpa using this
def lawHS.rc:D->Option (Bool):=Po
def lawHS.re:Bool->D:=D.bool
def lawHS.rle: ∀d b,lawHS.rc d=some b->Le d (lawHS.re b):=Y0
def lawHS.fv(a:Az×Ah×(List Ab)×(List Int)):Bool:=(λ_ _ _ _=>true) (a.1) (a.2.1) (a.2.2.1) (a.2.2.2)
def lawHS.row:A7:=vK (b4 (qR Az.d_le) (qR Ah.d_le) (qS Ab.d_le Ab.c_n) (qS DU Dc)) (RK.mk lawHS.rc lawHS.re lawHS.rle) (λa=>Om a.1.Set) lawHS.fv
def lawHS.q:=AU (R:=lawHS.row) rfl
def Hn:=J @toSystem.fv.eq_1<|J @toAssembly.fv.eq_1<|J @toPointS.fv.eq_1<|J @toInt64S.fv.eq_1<|J @eqOptionSF.fv.eq_1 @eqAsmF.fv.eq_1
def lawHS.ok:AA Tryz.prog 3 lawHS.row:=by
 refine vw (tC szSystem.ok (tC szAssembly.ok (tC szPointS.ok (tC toYR.ok (tC toAR.ok (tC toQR.ok (tC toIR.ok (tC hlS_.ok (tC hlV.ok (tC eqOptionSF.ok (tC eqAsmF.ok (tC eqSystemF.ok (tC eqPointSF.ok (tC eqInt64SF.ok (tC mkSy.ok (tC mkAC.ok (tC mkQC.ok (tC mkIC.ok (tC mkOC.ok (tC heldO_.ok (tC heldA_.ok tN))))))))))))))))))))) Tryz.func3 rfl (by kernel_rfl) ?_;intro a aj;simp only[Tryz.f3];simp(maxSteps:=9^9)(disch:=omega)only[ZA,simprocAttr,Ah.d,lawHS.fv,lawHS.rc,szSystem.q,szSystem.fv,szAssembly.q,szAssembly.fv,szPointS.q,szPointS.fv];obtain⟨s,b,p,l⟩:=a;simp only at aj⊢;intro _;split
 .trivial
 rename_i c2;refine⟨aj,?_⟩;split
 .trivial
 rename_i c0;have hB:=Yj (s:=s) (l:=1048576) (by decide) (by decide) (by omega);have h1:=Um (s:=s) (l:=1048576) (by decide) (by decide) (by omega);have hb:=Yk s 1048576 (by decide);refine⟨⟨by omega,by omega⟩,?_⟩;split
 .trivial
 rename_i c1;have hA:Ju b (K8 s 1048576)=Cj b.Tiles.length (K8 s 1048576):=rfl;obtain⟨b1,_,_⟩:=Qo (n:=b.Tiles.length) (l:=K8 s 1048576) (by omega);have b2:=Uk (n:=b.Tiles.length) (l:=K8 s 1048576) (by omega);refine⟨⟨by omega,by omega⟩,?_⟩;split
 .trivial
 rename_i c3;obtain⟨b3,_,_⟩:=Qo (n:=p.length) (l:=Ju b (K8 s 1048576)) (by omega);have a0:b.Tiles.length<=1048576:=by omega
 have a8:p.length<=1048576:=by omega
 have hl:l.length<=1048576:=by omega
 have ao:b.Tiles.length<=1073741824:=by omega
 have au:p.length<=1073741824:=by omega
 have aq:l.length<=1073741824:=by omega
 refine .inl (vK.callU [.val (.agg (Az.c s))] rfl s (Uj s) h1 rfl (by simp[AC,AV.nms]) ?_);simp(disch:=omega)only[ZA,simprocAttr,Hn,Bo];refine .inl (vK.callU [.val (.agg (Ah.c b))] rfl b (QC b) ao rfl (by simp[AC,AV.nms]) ?_);simp(disch:=omega)only[ZA,simprocAttr,Hn,Bo];refine .inl (vK.callU [.val (.sl false 2 (p.map Ab.c))] rfl p (fL p) au rfl (by simp[AC,AV.nms]) ?_);simp(disch:=omega)only[ZA,simprocAttr,Hn,Bo];refine .inl (vK.callU [.val (.sl false 1 (l.map Al))] rfl l (RP l) aq rfl (by simp[AC,AV.nms]) ?_);simp(disch:=omega)only[ZA,simprocAttr,Ah.d,Hn,hlS_.q,hlS_.fv,Bo];obtain⟨w,hw⟩: ∃w,w=UY s b p l:=⟨_,rfl⟩;have az:=eL s b p l;obtain⟨Z,w1,w2⟩:=w;simp only[<-hw] at az⊢;refine .inr (AF.nw s hB.yx rfl rfl (uK hB) (by simp[toYX.r0,AV.nms,AC]) λan hH1 z=> ?_);have Q:hget an 0=some (true,.cells 30 [AV.im (D.sl false 2 (List.map Ar.c s.Set.Glues)),AV.im (D.sl false 2 (List.map Tile.c s.Set.Tiles)),AV.im (D.sl false 3 (List.map Ak.c s.Seed.Tiles)),AV.im (D.int IntKind.i64 s.Temperature)]):=z 0 (by omega);have k1:hget an 1=some (true,.cells 28 [AV.im (D.sl false 3 (List.map Ak.c b.Tiles))]):=z 1 (by omega);have k2:hget an 2=some (true,.cells 39 [AV.im (D.sl false 3 (List.map Ak.c w1.Tiles))]):=z 2 (by omega);have S1:Ek (hget an) 10 12 2000015 13 s:=uJ hB hH1;clear hH1 z;simp only[toYX.r0,AV.ren,AL];simp(disch:=omega)only[ZA,simprocAttr,Bo,k1,RI];refine .inr (AF.nw b ao rfl rfl (sD b) (by simp[AV.nms,AC]) λak hH1 z=> ?_);have Q:hget ak 0=_:=((z 0 (by omega)).trans (FG _ _ _ (by omega))).trans Q;have k1:hget ak 1=_:=((z 1 (by omega)).trans (FG _ _ _ (by omega))).trans k1;have k2:hget ak 2=_:=((z 2 (by omega)).trans (FG _ _ _ (by omega))).trans k2;have S2:Ek (hget ak) 10 12 2000015 13 s:=S1.mono λm hm=>by
  exact (z m (by have:=hB.t;omega)).trans (FG _ _ _ (by have:=hB.t;omega))
 have cs:hget ak 2000016=some (true,.cells 47 [.own 10,.own 12,.own 2000015,.im (.int .i64 s.Temperature)]):=z _ (by omega);have ob:hget ak 2000021=some (true,.arr 137 3 (b.Tiles.map Ak.c)):=hH1 4 _ rfl;clear hH1 z;simp only[AV.ren,AL];simp(disch:=omega)only[ZA,simprocAttr,Bo];refine .inr (AF.nw p au rfl rfl (tR p) (by simp[AV.nms]) λag hH1 z=> ?_);have Q:hget ag 0=_:=((z 0 (by omega)).trans (FG _ _ _ (by omega))).trans Q;have k1:hget ag 1=_:=((z 1 (by omega)).trans (FG _ _ _ (by omega))).trans k1;have k2:hget ag 2=_:=((z 2 (by omega)).trans (FG _ _ _ (by omega))).trans k2;have cs:hget ag 2000016=_:=((z 2000016 (by omega)).trans (FG _ _ _ (by omega))).trans cs;have ob:hget ag 2000021=_:=((z 2000021 (by omega)).trans (FG _ _ _ (by omega))).trans ob;have S3:Ek (hget ag) 10 12 2000015 13 s:=S2.mono λm hm=>by
  exact (z m (by have:=hB.t;omega)).trans (FG _ _ _ (by have:=hB.t;omega))
 have cb:hget ag 2000022=some (true,.cells 39 [.own 2000021]):=z _ (by omega);have op:hget ag 2000024=some (true,.arr 96 2 (p.map Ab.c)):=hH1 1 _ rfl;clear hH1 z;simp only[AV.ren];simp(disch:=omega)only[ZA,simprocAttr,Bo];refine .inr (AF.nw l aq rfl rfl (sQ l) (by simp[AV.nms]) λad hH1 z=> ?_);have Q:hget ad 0=_:=(z 0 (by omega)).trans Q;have k1:hget ad 1=_:=(z 1 (by omega)).trans k1;have k2:hget ad 2=_:=(z 2 (by omega)).trans k2;have cs:hget ad 2000016=_:=(z 2000016 (by omega)).trans cs;have ob:hget ad 2000021=_:=(z 2000021 (by omega)).trans ob;have cb:hget ad 2000022=_:=(z 2000022 (by omega)).trans cb;have op:hget ad 2000024=_:=(z 2000024 (by omega)).trans op;have S4:Ek (hget ad) 10 12 2000015 13 s:=S3.mono λm hm=>by
  exact (z m (by have:=hB.t;omega))
 have ol:hget ad 2000026=some (true,.arr 2 1 (l.map Al)):=hH1 1 _ rfl;clear hH1 z;simp only[AV.ren];simp(disch:=omega)only[ZA,simprocAttr,Bo,cs,cb];refine DQ.nw [.val (.agg (Az.c s)),.val (.agg (Ah.c b)),.val (.sl false 2 (p.map Ab.c)),.val (.sl false 1 (l.map Al))] (pk4 S4.pk (J3 ob) (Ha op) (Ha ol)) (s,b,p,l) (hlR s b p l) aj (RE _) (JS _) λaa hH1 z=> ?_
 simp only[<-hw,hlI.H1,Lx] at hH1⊢;have Q:hget aa 0=_:=(z 0 (by omega)).trans Q;have k1:hget aa 1=_:=(z 1 (by omega)).trans k1;have k2:hget aa 2=_:=(z 2 (by omega)).trans k2;have cs:hget aa 2000016=_:=(z 2000016 (by omega)).trans cs;have ob:hget aa 2000021=_:=(z 2000021 (by omega)).trans ob;have cb:hget aa 2000022=_:=(z 2000022 (by omega)).trans cb;have op:hget aa 2000024=_:=(z 2000024 (by omega)).trans op;have ol:hget aa 2000026=_:=(z 2000026 (by omega)).trans ol;have S5:Ek (hget aa) 10 12 2000015 13 s:=S4.mono λm hm=>z m (by have:=hB.t;omega)
 have gg:hget aa 2000027=some (true,.arr 108 3 (Z.map AJ.c)):=hH1 0 _ rfl;have gp:hget aa 2000028=some (true,.arr 137 3 (w1.Tiles.map Ak.c)):=hH1 1 _ rfl;clear hH1 z;simp only[Lq,AV.ren,AL];simp(disch:=omega)only[ZA,simprocAttr,Bo];generalize hG:((2000047,(true,Ad.cells 39 [AV.own 2000028]))::Bg aa [2000047]:Ap)=HX5;have S5:Ek (hget HX5) 10 12 2000015 13 s:=S5.mono λm hm=>pg hG (by have:=hB.t;omega) rfl
 have Q:=pg hG (by omega) Q;have k1:=pg hG (by omega) k1;have k2:=pg hG (by omega) k2;have cs:=pg hG (by omega) cs;have ob:=pg hG (by omega) ob;have cb:=pg hG (by omega) cb;have op:=pg hG (by omega) op;have ol:=pg hG (by omega) ol;have gg:=pg hG (by omega) gg;have gp:=pg hG (by omega) gp;have ga:hget HX5 2000047=some (true,.cells 39 [.own 2000028]):=by rw[<-hG];rfl
 clear hG;refine CN.call [_,_] (LW (Ha gg) rfl) (Z,Z) (SJ _ _) trivial ?_;simp(disch:=omega)only[ZA,simprocAttr,Hn,Bo,k2,ga];refine CN.call [_,_] (LW (J3 gp) rfl) (w1,w1) (KG _ _) trivial ?_;simp(disch:=omega)only[ZA,simprocAttr,Hn,Bo,Q,cs];refine .inl (vK.callA [.val (.agg (Az.c s))] rfl s (Uj s) h1 rfl λu=> ?_);simp(disch:=omega)only[ZA,simprocAttr,Hn];refine CN.callA [_,_] (LW S5.pk rfl) (s,s) (uC _ _) trivial rfl λu2=> ?_
 simp(disch:=omega)only[ZA,simprocAttr,Bo,k1,cb,eqSystemF.fv];refine .inl (vK.callA [.val (.agg (Ah.c b))] rfl b (QC b) ao rfl λu=> ?_);simp(disch:=omega)only[ZA,simprocAttr,Hn];refine CN.callA [_,_] (LW (J3 ob) rfl) (b,b) (KG _ _) trivial rfl λu2=> ?_
 simp(disch:=omega)only[ZA,simprocAttr,Hn,Bo];refine .inl (vK.call [.val (.sl false 2 (p.map Ab.c))] rfl p (fL p) au ?_);simp(disch:=omega)only[ZA,simprocAttr,Hn];refine CN.call [_,_] (LW (Ha op) rfl) (p,p) (pt2R _ _) trivial ?_;simp(disch:=omega)only[ZA,simprocAttr,Bo,eqPointSF.fv];refine .inl (vK.call [.val (.sl false 1 (l.map Al))] rfl l (RP l) aq ?_);simp(disch:=omega)only[ZA,simprocAttr,Hn];refine CN.call [_,_] (LW (Ha ol) rfl) (l,l) (sO _ _) trivial ?_;simp(disch:=omega)only[ZA,simprocAttr,Bo,cs,eqInt64SF.fv];refine Oi (N:=3) hB (by decide) (by decide) S5 (by omega) λab G=> ?_
 have Q:hget ab 0=_:=(G 0 (by omega)).trans Q;have k1:hget ab 1=_:=(G 1 (by omega)).trans k1;have k2:hget ab 2=_:=(G 2 (by omega)).trans k2;have ob:hget ab 2000021=_:=(G 2000021 (by omega)).trans ob;have cb:hget ab 2000022=_:=(G 2000022 (by omega)).trans cb;have op:hget ab 2000024=_:=(G 2000024 (by omega)).trans op;have ol:hget ab 2000026=_:=(G 2000026 (by omega)).trans ol;have gg:hget ab 2000027=_:=(G 2000027 (by omega)).trans gg;have gp:hget ab 2000028=_:=(G 2000028 (by omega)).trans gp;have ga:hget ab 2000047=_:=(G 2000047 (by omega)).trans ga;obtain⟨y1,y2⟩:=hB.syK (k:=1) (by decide) (by decide);obtain⟨m1,hm1⟩: ∃m1,m1=syK (s,1)+3*s.Seed.Tiles.length:=⟨_,rfl⟩;rw[<-hm1] at y2;have y3:0<=m1:=by omega
 simp only[<-hm1];clear G S5 y1 hm1;simp(disch:=omega)only[ZA,simprocAttr,Bo,cb];refine Oc (by omega) (by omega) ob (by omega) λah G=> ?_
 have Q:hget ah 0=_:=(G 0 (by omega)).trans Q;have k1:hget ah 1=_:=(G 1 (by omega)).trans k1;have k2:hget ah 2=_:=(G 2 (by omega)).trans k2;have op:hget ah 2000024=_:=(G 2000024 (by omega)).trans op;have ol:hget ah 2000026=_:=(G 2000026 (by omega)).trans ol;have gg:hget ah 2000027=_:=(G 2000027 (by omega)).trans gg;have gp:hget ah 2000028=_:=(G 2000028 (by omega)).trans gp;have ga:hget ah 2000047=_:=(G 2000047 (by omega)).trans ga;clear G;simp(disch:=omega)only[ZA,simprocAttr,Bo];refine Oh (by omega) (by omega) op (by omega) λai G=> ?_
 have Q:hget ai 0=_:=(G 0 (by omega)).trans Q;have k1:hget ai 1=_:=(G 1 (by omega)).trans k1;have k2:hget ai 2=_:=(G 2 (by omega)).trans k2;have ol:hget ai 2000026=_:=(G 2000026 (by omega)).trans ol;have gg:hget ai 2000027=_:=(G 2000027 (by omega)).trans gg;have gp:hget ai 2000028=_:=(G 2000028 (by omega)).trans gp;have ga:hget ai 2000047=_:=(G 2000047 (by omega)).trans ga;clear G;simp(disch:=omega)only[ZA,simprocAttr,Bo];refine Oe (by omega) (by omega) ol (by omega) λam _ G=> ?_
 have Q:hget am 0=_:=(G 0 (by omega)).trans Q;have k1:hget am 1=_:=(G 1 (by omega)).trans k1;have k2:hget am 2=_:=(G 2 (by omega)).trans k2;have gg:hget am 2000027=_:=(G 2000027 (by omega)).trans gg;have gp:hget am 2000028=_:=(G 2000028 (by omega)).trans gp;have ga:hget am 2000047=_:=(G 2000047 (by omega)).trans ga;clear G;simp(disch:=omega)only[ZA,simprocAttr,Bo];rw[Ao (by omega)];refine CN.call [_,_] (LW (Ha gg) rfl) (Z,Z) (SJ _ _) trivial ?_;simp(disch:=omega)only[ZA,simprocAttr,Hn,Bo,k2,ga];refine CN.call [_,_] (LW (J3 gp) rfl) (w1,w1) (KG _ _) trivial ?_;simp(disch:=omega)only[ZA,simprocAttr,Hn,Bo];refine Og (by decide) (by omega) gg (by omega) λac hj G=> ?_
 have Q:hget ac 0=_:=(G 0 (by omega)).trans Q;have k1:hget ac 1=_:=(G 1 (by omega)).trans k1;have k2:hget ac 2=_:=(G 2 (by omega)).trans k2;have gg:hget ac 2000027=some (true,.arr 108 3 ((D2 (oF 1) Z.length).map AJ.c)):=hj 0 _ rfl;have gp:hget ac 2000028=_:=(G 2000028 (by omega)).trans gp;have ga:hget ac 2000047=_:=(G 2000047 (by omega)).trans ga;clear hj G;simp(disch:=omega)only[ZA,simprocAttr,Bo,ga];refine Od (by omega) (by omega) gp (by omega) λaf gp G=> ?_
 have Q:hget af 0=_:=(G 0 (by omega)).trans Q;have k1:hget af 1=_:=(G 1 (by omega)).trans k1;have k2:hget af 2=_:=(G 2 (by omega)).trans k2;have gg:hget af 2000027=_:=(G 2000027 (by omega)).trans gg;have ga:hget af 2000047=_:=(G 2000047 (by omega)).trans ga;clear G;simp(disch:=omega)only[ZA,simprocAttr,Bo];have aw:(0:Int)<=1/\(1:Int)+3*(D2 (oF 1) Z.length).length<=1099511627776:=by rw[VG];omega
 have ay:heldO_.fv (D2 (oF 1) Z.length,1)=1+3*Z.length:=RJ 1 Z.length;have av:(0:Int)<=1+3*Z.length/\(1:Int)+3*Z.length+3*(D2 (pF (1+3*Z.length)) w1.Tiles.length).length<=1099511627776:=by rw[VG];omega
 have ax:heldA_.fv (⟨D2 (pF (1+3*Z.length)) w1.Tiles.length⟩,1+3*Z.length)=1+3*Z.length+3*w1.Tiles.length:=RL _ _;refine CN.call [_,_] (LW (Ha gg) rfl) (D2 (oF 1) Z.length,1) (Z7 _ _) aw ?_;simp only[ay];simp(disch:=omega)only[ZA,simprocAttr,Bo,ga];rw[Ag (by omega)];refine CN.call [_,_] (LW (J3 (a:=⟨D2 (pF (1+3*Z.length)) w1.Tiles.length⟩) gp) rfl) (⟨D2 (pF (1+3*Z.length)) w1.Tiles.length⟩,1+3*Z.length) (Zp _ _) av ?_;simp only[ax];simp(disch:=omega)only[ZA,simprocAttr,Bo,Q];rw[Ag (by omega)];refine .inl (vK.callU [.val (.agg (Az.c s))] rfl s (Uj s) h1 rfl (by simp[AC,AV.nms]) ?_);simp(disch:=omega)only[ZA,simprocAttr,Hn,Bo,k1];refine .inl (vK.callU [.val (.agg (Ah.c b))] rfl b (QC b) ao rfl (by simp[AC,AV.nms]) ?_);simp(disch:=omega)only[ZA,simprocAttr,Hn,Bo];refine .inl (vK.callU [.val (.sl false 2 (p.map Ab.c))] rfl p (fL p) au rfl (by simp[AC,AV.nms]) ?_);simp(disch:=omega)only[ZA,simprocAttr,Hn,Bo];refine .inl (vK.callU [.val (.sl false 1 (l.map Al))] rfl l (RP l) aq rfl (by simp[AC,AV.nms]) ?_);simp(disch:=omega)only[ZA,simprocAttr,Hn];refine DQ.nwA [.val (.agg (Az.c s)),.val (.agg (Ah.c b)),.val (.sl false 2 (p.map Ab.c)),.val (.sl false 1 (l.map Al))] rfl (s,b,p,l) (hlR s b p l) aj rfl rfl (RE _) (JS _) λO hH1 z=> ?_
 simp only[<-hw,hlI.H1,Lx] at hH1⊢;have Q:hget O 0=_:=(z 0 (by omega)).trans Q;have k1:hget O 1=_:=(z 1 (by omega)).trans k1;have k2:hget O 2=_:=(z 2 (by omega)).trans k2;have gg:hget O 2000027=_:=(z 2000027 (by omega)).trans gg;have gp:hget O 2000028=_:=(z 2000028 (by omega)).trans gp;have ga:hget O 2000047=_:=(z 2000047 (by omega)).trans ga;have gh:hget O 2000048=some (true,.arr 108 3 (Z.map AJ.c)):=hH1 0 _ rfl;have gq:hget O 2000049=some (true,.arr 137 3 (w1.Tiles.map Ak.c)):=hH1 1 _ rfl;clear hH1 z;simp only[Lq,AV.ren,AL];simp(disch:=omega)only[ZA,simprocAttr,Bo];refine⟨rfl,?_⟩;generalize hG:((2000068,(true,Ad.cells 39 [AV.own 2000049]))::Bg O [2000068]:Ap)=HX12;have Q:=pg hG (by omega) Q;have k1:=pg hG (by omega) k1;have k2:=pg hG (by omega) k2;have gg:=pg hG (by omega) gg;have gp:=pg hG (by omega) gp;have ga:=pg hG (by omega) ga;have gh:=pg hG (by omega) gh;have gq:=pg hG (by omega) gq;have gb:hget HX12 2000068=some (true,.cells 39 [.own 2000049]):=by rw[<-hG];rfl
 clear hG;refine CN.call [_,_] (LW (Ha gh) rfl) (Z,Z) (SJ _ _) trivial ?_;simp(disch:=omega)only[ZA,simprocAttr,Hn,Bo,k2,gb];refine CN.call [_,_] (LW (J3 gq) rfl) (w1,w1) (KG _ _) trivial ?_;simp(disch:=omega)only[ZA,simprocAttr,Hn,Bo];refine CN.call [_,_] (LW (Ha gg) rfl) (D2 (oF 1) Z.length,1) (Z7 _ _) aw ?_;simp only[ay];simp(disch:=omega)only[ZA,simprocAttr,Bo,ga];rw[Ag (by omega)];refine CN.call [_,_] (LW (J3 (a:=⟨D2 (pF (1+3*Z.length)) w1.Tiles.length⟩) gp) rfl) (⟨D2 (pF (1+3*Z.length)) w1.Tiles.length⟩,1+3*Z.length) (Zp _ _) av ?_;simp only[ax];simp(disch:=omega)only[ZA,simprocAttr,Bo];rw[Ag (by omega)];trivial
end Go.Ae
