/- Lemmas. Conditions: none. -/
import Derived.Test.YtldneeclgjaehabGreatDoorP09
set_option linter.all false
set_option maxHeartbeats 8000000
set_option maxRecDepth 100000
namespace Go.Ae
open Go.Proofs
def H8(t:Int)(bs:List Ak):List Ak:=bs.filter λb=>decide (t<=b.Strength)
def Rc(g:Int)(r:Cz)(l:Cz):Nat->Cz
 |0=>l
 |k+1=>(Rc g r l k).set (r[k]?.getD 0).toNat g
def Lp(gs:List (Cz))(l:Cz):Nat->Cz
 |0=>l
 |i+1=>Rc i (gs[i]?.getD []) (Lp gs l i) (gs[i]?.getD []).length
def Qkb(g:Int)(r l:Cz): ∀k,(Rc g r l k).length=l.length
 |0=>rfl
 |k+1=>by simp only[Rc,EU,Qkb g r l k]
def wX(gs:List (Cz))(l:Cz): ∀i,(Lp gs l i).length=l.length
 |0=>rfl
 |i+1=>by simp only[Lp,Qkb,wX gs l i]
def Sq(n:Nat)(gs:List (Cz)):Cz:=Lp gs (List.replicate n 0) gs.length
def Cs(nm:Cz)(v:Int):Int:=nm[v.toNat]?.getD 0
def ID(nm:Cz):List Ak->List Ak
 |[]=>[]
 |b::r=>if Cs nm b.A=Cs nm b.B then ID nm r else ⟨Gb (Cs nm b.A) (Cs nm b.B),Fj (Cs nm b.A) (Cs nm b.B),b.Strength⟩::ID nm r
def Qp2(nm:Cz): ∀(a b:List Ak),ID nm (a++b)=ID nm a++ID nm b
 |[],b=>rfl
 |x::r,b=>by simp only[BZ,ID,Qp2 nm r b];split<;>rfl
def Qjq(nm:Cz): ∀(a:List Ak),(ID nm a).length<=a.length
 |[]=>BN _
 |x::r=>by have:=Qjq nm r;simp only[ID];split<;>simp only[Em]<;>omega
def Qln(t:Int)(bs:List Ak):(H8 t bs).length<=bs.length:=ZeL _ _
def Qjs(t:Int){bs:List Ak}{k:Nat}{b:Ak}(h:bs[k]? =some b):H8 t (bs.take (k+1))=H8 t (bs.take k)++if t<=b.Strength then [b] else []:=by
 rw[FL,h];simp only[H8,List.filter_append,ZdP,List.filter_cons,List.filter_nil,CK]
def tH(own:Cz)(i:Nat): ∀k,∀v∈DP own i k,(i:Int)<=v/\v<i+k
 |0,v,h=>by simp[DP] at h
 |k+1,v,h=>by
  simp only[DP,BO] at h;rcases h with h|h
  .have:=tH own i k v h;omega
  .split at h
   .rw[Am] at h;omega
   .simp at h
def Qvq(own:Cz)(n:Nat): ∀k,k<=n-> ∀r∈BW own n k,∀v∈r,0<=v/\v<n
 |0,_,r,h,_,_=>by simp[BW] at h
 |k+1,O,r,h,v,z=>by
  simp only[BW,BO] at h;rcases h with h|h
  .exact Qvq own n k auOm r h v z
  .split at h
   .rw[Am] at h;subst h
    have:=tH own k (n - k) v z
    omega
   .simp at h
def Qps(n:Nat)(bs:List Ak): ∀r∈WO (n:Int) bs,∀v∈r,0<=v/\v<n:=by
 intro r z v O
 have:=Qvq (CC n bs bs.length) n n (BN _) r (by simpa[WO] using z) v O
 omega
def Qvc(nm:Cz){bs:List Ak}{k:Nat}{b:Ak}(h:bs[k]? =some b):ID nm (bs.take (k+1))=ID nm (bs.take k)++if Cs nm b.A=Cs nm b.B then [] else [⟨Gb (Cs nm b.A) (Cs nm b.B),Fj (Cs nm b.A) (Cs nm b.B),b.Strength⟩]:=by
 rw[FL,h];simp only[ZdP,Qp2,ID]
def OW(n:Int)(bs:List Ak)(t:Int):List (Cz):=WO n (H8 t bs)
def CD(n:Int)(bs:List Ak)(t:Int):Int×List Ak:=((OW n bs t).length,ID (Sq n.toNat (OW n bs t)) bs)
def shrunk.fv(a:Int×(List Ak)×Int):Int×(List Ak):=(CD) (a.1) (a.2.1) (a.2.2)
def shrunk.row:A8:=vK (b3 qI (qS Ak.d_le Ak.c_n) qI) (r2 rI (rS Ak.d_le Ak.c_n)) (λa=>0<=a.1/\a.1<=1000000/\Mm a.1 a.2.1/\a.2.1.length<=1000000) shrunk.fv
def shrunk.q:=Bg (R:=shrunk.row) rfl
def shrunk.ok:AE 99 shrunk.row:=by
 refine vw (tC l06Groups.ok (tC l00Min.ok (tC l00Max.ok tN))) Tryz.func99 ?_;intro a ai;simp only[Tryz.f99];simp only[ZA,simprocAttr,shrunk.fv];obtain⟨h0,h1,ab,aj⟩:=ai;obtain⟨n,hn⟩: ∃n:Nat,a.1=n:=⟨a.1.toNat,auOm⟩;obtain⟨bs,hbsd⟩: ∃bs,bs=a.2.1:=⟨_,rfl⟩;obtain⟨t,ht⟩: ∃t,t=a.2.2:=⟨_,rfl⟩;simp only[hn,<-hbsd,<-ht] at h0 h1 ab aj⊢;refine AY.ren ⟨{k:Nat//k<=bs.length},λk=>⟨[(9,.im (.int .i64 k.1)),(8,.own 2),(0,.im (.int .i64 n)),(1,.im (.sl false 3 (bs.map Ak.c))),(2,.im (.int .i64 t))],[(2,(true,.arr 196 3 ((H8 t (bs.take k.1)).map Ak.c)))],3⟩,λk=>bs.length - k.1,λk=>⟨by simp[ZG],auSi⟩,⟨⟨0,auSi⟩,[(2,some 1)],?_⟩,λk=> ?_⟩
 .simp only[AB];simp only[ZA,simprocAttr];rfl
 obtain⟨k,ac⟩:=k;have aa:=Qln t (bs.take k);rw[Eb] at aa;simp only[ZA,simprocAttr,l06Groups.q,l06Groups.fv,AL,XG,X3,Ee,D.one];intro _;refine⟨λQ=>⟨Q,λb Z=>⟨λhs=>⟨Q,λb' z=>⟨auOm,⟨k+1,auOm⟩,[(2,some 4)],by simp only;omega,?_⟩⟩,λhs=>⟨⟨k+1,auOm⟩,[(2,some 2)],by simp only;omega,?_⟩⟩⟩,λQ=> ?_⟩
 .rw[Z] at z;obtain rfl:=AJ z;simp only[AB];simp only[ZA,simprocAttr,Qjs t Z];rw[AG auOm auOm,Bt hs];simp[Ak.c]
 .simp only[AB];simp only[ZA,simprocAttr,Qjs t Z];rw[AG auOm auOm,Be hs,C3];simp
 have an:k=bs.length:=auOm;subst an;rw[Pj];refine⟨⟨h1,λb Z=>ab b (rM.1 Z).1⟩,auOm,?_⟩;obtain⟨O,hgs⟩: ∃O,O=WO (n:Int) (H8 t bs):=⟨_,rfl⟩;have ak: ∀r∈O,∀v∈r,0<=v/\v<n:=by rw[hgs];exact Qps n _
 simp only[<-hgs];clear Q aa ac;refine AY.old ⟨{i:Nat//i<=O.length},λi=>⟨[(12,.im (.int .i64 i.1)),(11,.own 3),(10,.im (.sl false 1 (O.map BD))),(0,.im (.int .i64 n)),(1,.im (.sl false 3 (bs.map Ak.c))),(2,.im (.int .i64 t))],[(3,(true,.arr 2 1 ((Lp O (List.replicate n 0) i.1).map Aj)))],4⟩,λi=>O.length - i.1,λi=>⟨by simp[ZG],auSi⟩,⟨⟨0,auSi⟩,?_⟩,λi=> ?_⟩
 .simp only[ZA,simprocAttr,sub,Lp,xZ]
 obtain⟨i,au⟩:=i;simp only[ZA,simprocAttr,AL];intro aq;refine⟨λhi=> ?_,λhi=> ?_⟩
 .obtain⟨r,hr⟩: ∃r,O[i]? =some r:=⟨_,Bk hi⟩;have ao:=ak r (Bj hr);obtain⟨l,hl⟩: ∃l,l=Lp O (List.replicate n 0) i:=⟨_,rfl⟩;have av:l.length=n:=by rw[hl,wX,Ri]
  simp only[<-hl];refine AY.old ⟨{k:Nat//k<=r.length},λk=>⟨[(13,.im (.int .i64 k.1)),(12,.im (.int .i64 i)),(11,.own 3),(10,.im (.sl false 1 (O.map BD))),(0,.im (.int .i64 n)),(1,.im (.sl false 3 (bs.map Ak.c))),(2,.im (.int .i64 t))],[(3,(true,.arr 2 1 ((Rc i r l k.1).map Aj)))],4⟩,λk=>r.length - k.1,λk=>⟨by simp[ZG],auSi⟩,⟨⟨0,auSi⟩,?_⟩,λk=> ?_⟩
  .simp only[ZA,simprocAttr,sub,Rc]
  obtain⟨k,ac⟩:=k;have ah:=Qkb (i:Int) r l k;simp only[ZZ,simprocAttr,sub,AL,hr,ah,iY];refine⟨hi,λr' ad aw=> ?_⟩;subst ad;refine⟨λQ=>⟨hi,λr' ad=> ?_⟩,λQ=>⟨⟨i+1,auOm⟩,by simp only;omega,by rw[AG auOm auOm];simp only;omega,?_⟩⟩
  .subst ad;refine⟨Q,λv hv=> ?_⟩;obtain⟨v1,v2⟩:=ao v (Bj hv);refine⟨v1,auOm,auOm,λ_ _=>⟨⟨k+1,auOm⟩,by simp only;omega,by rw[AG auOm auOm];simp only;omega,?_⟩⟩;simp only[Rc,hv,BG]
  .have:k=r.length:=auOm
   simp only[Lp,hr,BG,<-hl,this]
 .have am:i=O.length:=auOm;subst am;obtain⟨nm,hnm⟩: ∃nm,nm=Lp O (List.replicate n 0) O.length:=⟨_,rfl⟩;have ah:nm.length=n:=by rw[hnm,wX,Ri]
  simp only[<-hnm];refine AY.ren ⟨{k:Nat//k<=bs.length},λk=>⟨[(15,.im (.int .i64 k.1)),(14,.own 5),(11,.own 3),(10,.im (.sl false 1 (O.map BD))),(0,.im (.int .i64 n)),(1,.im (.sl false 3 (bs.map Ak.c))),(2,.im (.int .i64 t))],[(5,(true,.arr 196 3 ((ID nm (bs.take k.1)).map Ak.c))),(3,(true,.arr 2 1 (nm.map Aj)))],6⟩,λk=>bs.length - k.1,λk=>⟨by simp[ZG],auSi⟩,⟨⟨0,auSi⟩,[(5,some 4)],?_⟩,λk=> ?_⟩
  .simp only[AB];simp only[ZA,simprocAttr,Bf];rfl
  obtain⟨k,ac⟩:=k;have aa:=Qjq nm (bs.take k);rw[Eb] at aa;simp only[ZA,simprocAttr,l00Min.q,l00Min.fv,l00Max.q,l00Max.fv,AL,XG,X3,Ee,D.one];intro _;refine⟨λQ=>⟨Q,λb Z=> ?_⟩,λQ=> ?_⟩
  .obtain⟨b1,b2,b3,b4⟩:=ab b (Bj Z);refine⟨b1,auOm,auOm,λx hx=>⟨Q,λb' z=> ?_⟩⟩;rw[Z] at z;obtain rfl:=AJ z;refine⟨b3,auOm,auOm,λy hy=> ?_⟩;have e1:Cs nm b.A=x:=by simp only[Cs,hx,BG]
   have e2:Cs nm b.B=y:=by simp only[Cs,hy,BG]
   have af:=Qvc nm Z;rw[e1,e2] at af;refine⟨λag=>⟨Q,λb' z=>⟨auOm,⟨k+1,auOm⟩,[(5,some 7)],by simp only;omega,?_⟩⟩,λag=>⟨⟨k+1,auOm⟩,[(5,some 5)],by simp only;omega,?_⟩⟩
   .rw[Z] at z;obtain rfl:=AJ z;simp only[AB];simp only[ZA,simprocAttr,Bf,af];rw[AG auOm auOm,Be ag];simp[Ak.c]
   .simp only[AB];simp only[ZA,simprocAttr,Bf,af];rw[AG auOm auOm,Bt (Ch.1 ag),C3];simp
  .have:k=bs.length:=auOm
   subst this;rw[Pj];intro _;simp only[CD,OW,Sq,Cp,<-hgs,<-hnm]
def Qk5(s:AI): ∀(l:List Ac) (i:Nat),Mi s i l=true-> ∀g∈l,1<=g.Strength/\g.Strength<=4
 |[],_,_,_,h=>by cases h
 |x::r,i,h,g,hg=>by
  simp only[Mi,B1,B7,CK] at h;rcases B0.1 hg with rfl|hg
  .exact⟨h.1.2.1.1,h.1.2.1.2⟩
  .exact Qk5 s r _ h.2 g hg
def Qlf(s:AI): ∀(l:List Tile) (i:Nat),K1 s i l=true-> ∀t∈l,t.Sides.length=4/\ ∀g∈t.Sides,0<=g/\g<=s.Glues.length
 |[],_,_,_,h=>by cases h
 |x::r,i,h,t,ht=>by
  simp only[K1,B1,CK,CF,B7] at h;rcases B0.1 ht with rfl|ht
  .exact⟨h.1.2.1,λg hg=>⟨(h.1.2.2.2 g hg).1,(h.1.2.2.2 g hg).2⟩⟩
  .exact Qlf s r _ h.2 t ht
def Qge{s:AI}(h:He s=true):FB s:=by
 simp only[He,B1,CK] at h;exact⟨auOm,Qlf s _ _ h.2.2,Qk5 s _ _ h.2.1⟩
def Qdg{s:AI}{a:AP}(h:OV s a=true):M2 s a/\a.Tiles.length<=500:=by
 simp only[OV,B1,CK,CF,B7] at h;exact⟨⟨h.1.1,λx z=>⟨(h.2 x z).1,by have:=(h.2 x z).2;omega⟩⟩,h.1.2⟩
def bU(p:AR)(d:Int):WP p d≠p:=by
 intro h;have O:(WP p d).X=p.X:=by rw[h]
 have z:(WP p d).Y=p.Y:=by rw[h]
 simp only[WP] at O z;split at O
 .rename_i h0;rw[Bt h0] at z;simp only at z;omega
 .rename_i h0;rw[Be h0] at z;split at O
  .simp only at O;omega
  .rename_i Q;rw[Be Q] at z;split at O
   .rename_i Z;rw[Bt Z] at z;simp only at z;omega
   .simp only at O;omega
def mP(a:AP)(i:Nat)(d:Int)(hi:i<a.Tiles.length):HZ a i d≠i:=by
 intro h;rcases wB (λx=>decide (x.At=WP ((a.Tiles[(i:Int).toNat]?.map AA.At).getD ⟨0,0⟩) d)) a.Tiles 0 with ⟨_,z⟩|⟨j,x,Q,z,Z⟩
 .simp only[HZ,z] at h;omega
 .simp only[HZ,z,Je] at h;have O:j=i:=auOm;subst O
  have:=lE Q
  simp only[CK,Cp,Z,CT,BG] at this;exact bU _ _ this.symm
def L6(n:Int)(b:Ak):Prop:=(0<=b.A/\b.A<n/\0<=b.B/\b.B<n)/\b.A≠b.B/\0<b.Strength/\b.Strength<=4
def YX{s:AI}(hs:FB s)(a:AP)(i:Nat)(hi:i<a.Tiles.length)(d:Int): ∀b∈Y4 s a i d,L6 a.Tiles.length b:=by
 intro b z;simp only[Y4] at z;split at z
 .rename_i h0;split at z
  .rename_i O;rw[Am] at z;subst z;have Q:=LM a i d;have Z:=mP a i d hi;have h4:WR s (H6 a i) d (H6 a (HZ a i d))<=4:=by
    simp only[WR];split
    .exact (PI hs _).2
    .omega
   exact⟨⟨by simp only;omega,by simp only;omega,h0,Q⟩,λh=>Z h.symm,O,h4⟩
  .simp at z
 .simp at z
def Qzz{s:AI}(hs:FB s)(a:AP)(i:Nat)(z:i<a.Tiles.length): ∀k,∀b∈Li s a i k,L6 a.Tiles.length b
 |0,b,h=>by simp[Li] at h
 |k+1,b,h=>by
  simp only[Li,BO] at h;rcases h with h|h
  .exact Qzz hs a i z k b h
  .exact YX hs a i z _ b h
def Qro{s:AI}(hs:FB s)(a:AP): ∀k,k<=a.Tiles.length-> ∀b∈GM s a k,L6 a.Tiles.length b
 |0,_,b,h=>by simp[GM] at h
 |k+1,z,b,h=>by
  simp only[GM,BO] at h;rcases h with h|h
  .exact Qro hs a k auOm b h
  .exact Qzz hs a k auOm _ b h
def N4(g:Int)(r:Cz)(m:Int)(h0:0<=g)(hg:g<m)(l:Cz)(O: ∀x∈l,0<=x/\x<m): ∀k,∀x∈Rc g r l k,0<=x/\x<m
 |0=>O
 |k+1=>by
  intro x z;simp only[Rc] at z;rcases GR z with z|z
  .exact N4 g r m h0 hg l O k x z
  .omega
def N3(gs:List (Cz))(l:Cz)(z: ∀x∈l,0<=x/\x<(gs.length:Int)): ∀i,i<=gs.length-> ∀x∈Lp gs l i,0<=x/\x<(gs.length:Int)
 |0,_=>z
 |i+1,O=>N4 _ _ _ auOm auOm _ (N3 gs l z i auOm) _
def Qy8{n:Nat}{gs:List (Cz)}(hg:0<gs.length)(v:Int):0<=Cs (Sq n gs) v/\Cs (Sq n gs) v<(gs.length:Int):=by
 simp only[Cs];cases h:(Sq n gs)[v.toNat]? with
 |none=>simp;omega
 |some x=>
  rw[BG];exact N3 gs _ (λx z=>by have:=JA z;omega) _ (BN _) x (Bj h)
def Qvw{n:Nat}{gs:List (Cz)}(hg:0<gs.length): ∀(bs:List Ak),(∀b∈bs,0<b.Strength/\b.Strength<=4)-> ∀b∈ID (Sq n gs) bs,L6 gs.length b
 |[],_,b,h=>by simp[ID] at h
 |x::r,O,b,h=>by
  simp only[ID] at h;have ih:=Qvw (n:=n) hg r (λy Z=>O y (Ah _ Z)) b;split at h
  .exact ih h
  .rename_i Q;rcases B0.1 h with rfl|h
   .have h1:=Qy8 (n:=n) hg x.A;have h2:=Qy8 (n:=n) hg x.B;have z:=O x (CP ..);refine⟨?_,?_,z.1,z.2⟩
    .simp only[Gb,Fj]
     split<;>split<;>omega
    .simp only[Gb,Fj]
     split<;>split<;>omega
   .exact ih h
def NX{n:Int}{bs:List Ak}{t:Int}(Q: ∀b∈bs,L6 n b)(hl:bs.length<=1000000)(h0:0<(CD n bs t).1)(h1:(CD n bs t).1<=64):dH (CD n bs t)/\Rb (CD n bs t).2:=by
 have O:=Qvw (n:=n.toNat) (gs:=OW n bs t) (by simp only[CD] at h0;omega) bs (λb z=>⟨(Q b z).2.2.1,(Q b z).2.2.2⟩);have Z:=Qjq (Sq n.toNat (OW n bs t)) bs;refine⟨⟨auOm,auOm,by simp only[CD];omega,λb z=>(O b z).1,λb z=>(O b z).2.1⟩,λb z=> ?_⟩
 have:=(O b z).2.2
 omega
def kG(s:AI)(a:AP)(t:Int):Bool×Int:=
 if 64<(CD a.Tiles.length (GM s a a.Tiles.length) t).1 then (false,4)
 else if (CD a.Tiles.length (GM s a a.Tiles.length) t).1<2 then (true,0)
 else (decide (t<=(GN (CD a.Tiles.length (GM s a a.Tiles.length) t).1 (CD a.Tiles.length (GM s a a.Tiles.length) t).2 ((CD a.Tiles.length (GM s a a.Tiles.length) t).1 - 1).toNat).1),0)
def l07Stable.fv(a:AI×AP×Int):Bool×Int:=(kG) (a.1) (a.2.1) (a.2.2)
def l07Stable.row:A8:=vK (b3 (qP 2 AI.d_le) (qP 1 AP.d_le) qI) (r2 rB rI) (λa=>FB a.1/\M2 a.1 a.2.1/\a.2.1.Tiles.length<=500) l07Stable.fv
def l07Stable.q:=Bg (R:=l07Stable.row) rfl
def l07Stable.ok:AE 53 l07Stable.row:=by
 refine vw (tC l06Bonds.ok (tC shrunk.ok (tC weakC.ok tN))) Tryz.func53 ?_;intro a z;simp only[Tryz.f53];simp only[ZA,simprocAttr,AP.d,l07Stable.fv,l06Bonds.q,l06Bonds.fv,shrunk.q,shrunk.fv,weakC.q,weakC.fv];obtain⟨O,Z,h3⟩:=z;have Q:=Qro O a.2.1 _ (BN _);have hl:=wO a.1 a.2.1 a.2.1.Tiles.length;refine⟨⟨O,Z,auOm⟩,⟨auOm,λb hb=>(Q b hb).1,auOm⟩,?_⟩;simp only[kG];split
 .rfl
 .rename_i c1;split
  .rfl
  .rename_i c2;obtain⟨p1,p2⟩:=NX (t:=a.2.2) Q auOm auOm auOm;exact⟨⟨p1,p2,auOm⟩,rfl⟩
def Wi(s:AI)(a:AP)(t:Int):Bool:=(kG s a t).1 && decide ((kG s a t).2=0)
def WU(y:AM):Bool:=He y.Set && (OV y.Set y.Seed && (!y.Seed.Tiles.isEmpty && (B7 y.Temperature 1 16 && Wi y.Set y.Seed y.Temperature)))
def l08Ok.fv(a:AM):Bool:=(WU) a
def l08Ok.row:A8:=vK (b1 (qP 4 AM.d_le)) rB (λa=>True) l08Ok.fv
def l08Ok.q:=Bg (R:=l08Ok.row) rfl
def l08Ok.ok:AE 22 l08Ok.row:=by
 refine vw (tC l02Ok.ok (tC l03Ok.ok (tC l07Temperature.ok (tC l07Stable.ok tN)))) Tryz.func22 ?_;intro a aa;simp only[Tryz.f22];simp only[ZA,simprocAttr,AP.d,l08Ok.fv,l02Ok.q,l02Ok.fv,l03Ok.q,l03Ok.fv,l07Temperature.q,l07Temperature.fv,l07Stable.q,l07Stable.fv]
 split<;>rename_i c1
 .split<;>rename_i c2
  .have z:OV a.Set a.Seed=true:=by
    simp only[OV,B1,CK];exact c2
   split<;>rename_i O
   .have Q:a.Seed.Tiles.isEmpty=false:=by
     rw[Zeu];intro h;rw[h] at O;simp at O
    split<;>rename_i Z
    .simp only[WU,Z,Da,zR]
    .refine⟨⟨Qge c1,(Qdg z).1,(Qdg z).2⟩,?_⟩;rw[FM] at Z;simp only[WU,c1,z,Q,Z,CZ,Xm,Wi]
     split<;>rename_i c7
     .rw[c7,CZ]
     .rw[kN] at c7;rw[c7,Da]
   .have Q:a.Seed.Tiles=[]:=by
     have:=Ch.1 O
     exact Sw auOm
    simp[WU,Q]
  .have z:OV a.Set a.Seed=false:=by
    rw[Hk];intro h;simp only[OV,B1,CK] at h;exact c2 h
   simp[WU,z]
 .rw[kN] at c1;simp[WU,c1]
end Go.Ae
namespace Go.Ae
open Go.Proofs Go.Lib
def zE(x:Int):Dz .i64 x 1=0\/Dz .i64 x 1=1:=by
 have h:((BitVec.ofInt 64 x &&& BitVec.ofInt 64 1).toNat=0\/(BitVec.ofInt 64 x &&& BitVec.ofInt 64 1).toNat=1):=by
  rw[ZeE]
  have:(BitVec.ofInt 64 1).toNat=1:=rfl
  rw[this,Nat.and_one_is_mod];omega
 have e:Dz .i64 x 1=IntKind.i64.wrap (((BitVec.ofInt 64 x &&& BitVec.ofInt 64 1).toNat:Nat):Int):=rfl;rw[e];rcases h with h|h<;>rw[h]
 .left;rfl
 .right;rfl
def M5(x:Int)(c:Nat):F8 x c=0\/F8 x c=1:=zE _
def lM{v c:Int}(h0:0<=c)(Q:c<9223372036854775808):0<=Dz .i64 v c/\Dz .i64 v c<=c:=by
 have e:Dz .i64 v c=IntKind.i64.wrap (((BitVec.ofInt 64 v &&& BitVec.ofInt 64 c).toNat:Nat):Int):=rfl;have z:(BitVec.ofInt 64 c).toNat=c.toNat:=by
  rw[BitVec.toNat_ofInt];congr 1;exact Int.emod_eq_of_lt h0 auOm
 have O:(BitVec.ofInt 64 v &&& BitVec.ofInt 64 c).toNat<=c.toNat:=by
  rw[ZeE,z];exact Nat.and_le_right
 rw[e];generalize (BitVec.ofInt 64 v &&& BitVec.ofInt 64 c).toNat=m at O⊢;rw[AG auOm auOm];omega
def EY(n:Int):Int:=IntKind.i64.wrap (1*2^min n.toNat IntKind.i64.bits)
def LX{n:Int}(h:1<=n/\n<=4):EY n=2^n.toNat/\2<=EY n/\EY n<=16:=by
 rcases (by omega:n=1\/n=2\/n=3\/n=4) with rfl|rfl|rfl|rfl<;>decide
def P4(n:Int)(q:Ag):Bool:=B7 q.Care 0 (IntKind.i64.wrap (EY n - 1)) && (B7 q.Value 0 (IntKind.i64.wrap (EY n - 1)) && decide (Dz .i64 q.Value q.Care=q.Value))
def Zd(n:Int)(q:Ag):Bool:=B7 q.Care 0 (IntKind.i64.wrap (EY n - 1)) && decide (Dz .i64 q.Value q.Care=q.Value)
def Ze{n:Int}(h:1<=n/\n<=4)(q:Ag):Zd n q=P4 n q:=by
 obtain⟨_,s1,s2⟩:=LX h;have w:IntKind.i64.wrap (EY n - 1)=EY n - 1:=AG auOm auOm;simp only[Zd,P4,w];by_cases c1:B7 q.Care 0 (EY n - 1)=true
 .rw[c1,CZ,CZ];by_cases z:Dz .i64 q.Value q.Care=q.Value
  .have O:0<=q.Care/\q.Care<=EY n - 1:=by simpa[B7] using c1
   have:=lM (v:=q.Value) (c:=q.Care) O.1 auOm
   rw[z] at this
   have:B7 q.Value 0 (EY n - 1)=true:=by simp only[B7,B1,CK];omega
   rw[this,CZ]
  .rw[Jh z,zR]
 .rw[Hk.2 c1,Da,Da]
def JK(a b:Ag):Bool:=decide (a.Care<b.Care)||(decide (a.Care=b.Care) && decide (a.Value<b.Value))
def Hr(n:Int):Option Ag->List Ag->Bool
 |_,[]=>true
 |p,q::r=>P4 n q && ((match p with|none=>true|some a=>JK a q) && Hr n (some q) r)
def Fo(lo z:Int):Option Int->Cz->Bool
 |_,[]=>true
 |p,x::r=>B7 x lo z && ((match p with|none=>true|some a=>decide (a<x)) && Fo lo z (some x) r)
def EX(f:Af):Bool:=(B7 f.Inputs 1 4 && (B7 f.Sums.length 1 3 && decide (f.Cubes.length<=81))) && (Hr f.Inputs none f.Cubes && f.Sums.all (Fo 0 ((f.Cubes.length:Int) - 1) none))
def EV(n:Int)(l:Cz):Bool:=decide ((l.length:Int)=n) && l.all (λx=>B7 x 0 1)
def Hv(f:Af)(l:Cz):Int:=if EX f=true then (if EV f.Inputs l=true then (if 1+AZ f+Ao f+AZ f*(4*Ao f)<=160/\4+AZ f*(2*Ao f)+AZ f+Ao f<=200 then 0 else 4) else 2) else 1
def Dd(n:Nat)(m:Int):Cz:=(List.range n).map λi=>F8 m i
def Hd(s:AM)(f:Af)(l:Cz):AM×Int:=
 if WU s=true then (if Hv f l=0 then (if (List.range (2^f.Inputs.toNat)).any (λn=>decide (Dc f (Dd f.Inputs.toNat n)=s))=true then (Dc f l,0) else (⟨⟨[],[]⟩,⟨[]⟩,0⟩,9)) else (⟨⟨[],[]⟩,⟨[]⟩,0⟩,Hv f l)) else (⟨⟨[],[]⟩,⟨[]⟩,0⟩,1)
end Go.Ae
namespace Go.Ae
open Go.Proofs
def sC:PK->Prop
 | .ptr _=>True
 | .val d=>GH d= .val d
def nI(d:D):sC (GH d):=by cases d<;>simp[GH,sC]
def nH{h:HpT}{x:AV}{p:PK}(hp:DX h x=some p):sC p:=by
 cases x with
 |im d=>
  simp only[DX,AS] at hp;subst hp;exact nI d
 |ptr o off=>
  simp only[DX,Kb,Dx] at hp;obtain⟨_,_,rfl⟩:=hp;trivial
 |eptr o i off=>
  simp only[DX,Kb,Dx] at hp;obtain⟨_,_,rfl⟩:=hp;trivial
 |own o=>
  simp only[DX,EE,bk,Dx] at hp;obtain⟨d,hd,rfl⟩:=hp;unfold Lu at hd;split at hd
  .obtain rfl:=AJ hd;rfl
  .simp only[Dx] at hd;obtain⟨_,_,rfl⟩:=hd;rfl
  .cases hd
 |mp o=>
  simp only[DX,EE,bk,Dx] at hp;obtain⟨d,hd,rfl⟩:=hp;unfold M7 at hd;split at hd
  .obtain rfl:=AJ hd;rfl
  .cases hd
 |agg z=>
  simp only[DX,EE,bk,Dx] at hp;obtain⟨d,⟨_,_,rfl⟩,rfl⟩:=hp;rfl
 |tup z=>
  simp only[DX,EE,bk,Dx] at hp;obtain⟨d,⟨_,_,rfl⟩,rfl⟩:=hp;rfl
 |clo f a c=>
  simp only[DX,EE,bk,Dx] at hp;obtain⟨d,hd,rfl⟩:=hp;unfold Py at hd;split at hd
  .obtain rfl:=AJ hd;rfl
  .cases hd
  .cases hd
 |_=>cases hp
def ND{h:HpT}: ∀(xs:List AV) (ps:List PK),Co h xs=some ps-> ∀p∈ps,sC p
 |[],ps,hp=>by
  simp only[Co,AS] at hp;subst hp;intro p hm;cases hm
 |x::xs,ps,hp=>by
  simp only[Co] at hp;cases hx:DX h x with
  |none=>rw[hx] at hp;cases hp
  |some p=>
   cases hr:Co h xs with
   |none=>rw[hx,hr] at hp;cases hp
   |some qs=>
    rw[hx,hr] at hp;simp only[HF,AS] at hp;subst hp;intro q hq;rcases B0.1 hq with rfl|hq
    .exact nH hx
    .exact ND xs qs hr q hq
def gZ: ∀(ps:List PK) (j:Nat) (H:HpT),(∀p∈ps,sC p)->(∀n e,hget (D6 j ps) n=some e->H n=some e)->I1 H (D7 j ps)=some (ps,[])
 |[],_,_,_,_=>rfl
 | .val d::r,j,H,hn,hH=>by
   have z:=hn _ (CP ..);simp only[sC] at z;simp only[D7,I1,Jm,z,gZ r j H (λp hp=>hn p (Ah _ hp)) (by simpa only[D6] using hH),Y2,C3]
 | .ptr Q::r,j,H,hn,hH=>by
   have z:=hH j (false,.view Q) (by simp only[D6,hget,K7,IJ]);have Z:=gZ r (j+1) H (λp hp=>hn p (Ah _ hp)) (λn e O=>hH n e (by
    have h3:=(Hs (j+1) r n e O).1;have hq:(j==n)=false:=by rw[FX];omega
    simp only[D6,hget,hq,Dw];exact O))
   simp only[D7,I1,Jm,z,Ru,Mv,Z,Y2,C3]
def iO{P:Program}{g:FuncId}{A B:Type}{k:AK A}{r:RK B}{pre:A->Prop}{f:A->B}(hr: ∀b,(r.e b).scs=true)(h:Ij P g (vK k r pre f)):Ij P g (Cj k r pre f):=by
 intro args hh nx K z;unfold Cj Lj at z;cases hp:Co hh args with
 |none=>rw[hp] at z;exact z.elim
 |some Q=>
  rw[hp] at z;simp only[RV] at z;cases ha:k.r Q with
  |none=>rw[ha] at z;exact z.elim
  |some a=>
   rw[ha] at z;simp only[DM] at z;obtain⟨ah,hK⟩:=z;have aq:=gZ Q 0 (hget (D6 0 Q)) (ND args Q hp) (λ_ _ h=>h);obtain⟨hcl,r',E,hT,av,hE⟩:=h (D7 0 Q) (hget (D6 0 Q)) (Cm Q) (λx E=>x= .im (r.e (f a))/\E={use:=Av (D7 0 Q)}) (by
    unfold vK Ei;rw[aq];simp only[WI,ha,DM,PE];exact⟨ah,by trivial,by trivial⟩)
   subst av hE;refine⟨hcl,_,_,?_,hK⟩;intro C S vs RR hW ai aj ak aa af;have au:=Qtx hW args Q vs.toList (λm hm=>ai m (HR _ hm)) hp aa;have ad:=qX hW;obtain⟨ls,ag,hcl⟩:=qG Q vs.toList 0 au
   let S0:AD:=⟨ls,S.froz.ok,hget (D6 0 Q),S.w⟩
   let C0:Bn:=⟨S.w,λ_=>False,S.froz.ok,0,λ_=>none,λ_=>none,[]⟩
   have an:Wf C0 S0:=by
    refine⟨rfl,rfl,rfl,BN _,BN _,λ_ _ _=>rfl,λ_ hb=>hb,λ_ hb=> .inl hb,ad.oks,?_,?_,?_,ad.glN λ_ h=>h.elim⟩
    .intro n e he;obtain⟨l,h1,_,h3⟩:=ag n e he;have h4:S0.ρ n=some l:=h1;rw[h4];obtain⟨_,cs,rfl⟩:=Hs 0 Q n e he;simp only[Au] at h3⊢;exact h3
    .intro n e l he hl;obtain⟨l',h1,h2,h3⟩:=ag n e he;have h4:S0.ρ n=some l':=h1;rw[h4] at hl;obtain rfl:=AJ hl;obtain⟨_,cs,rfl⟩:=Hs 0 Q n e he;exact⟨h2,.inr rfl⟩
    .intro n n' e e' l l' he ab hl ay ax ao;obtain⟨_,cs,rfl⟩:=Hs 0 Q n e he;obtain⟨_,aw,rfl⟩:=Hs 0 Q n' e' ab;simp at ao
   refine hT C0 S0 vs RR an (λ_ _=>rfl) (λn hn=>absurd hn (by unfold Fr;simp)) (λn e _ m _=>by unfold Fr;simp) (hcl S0 rfl rfl (λn _=>⟨rfl,rfl⟩)) ?_;intro v S1 Z _ _ hv;have O: ∀b,b<S.w.heap.size->S1.w.heap[b]? =S.w.heap[b]? :=λb hb=>Z.keep b hb (λh=>h)
   have ac:S.w.heap.size<=S1.w.heap.size:=Z.size
   let S':AD:={S with w:=S1.w}
   have hp':Ck (λ_=>True) S S':=⟨λb hb=>⟨hb,O b (hW.oks b hb)⟩,λo _ e' ab=>⟨e',ab,rfl,rfl,rfl⟩⟩;have am:Wf C S':=by
    refine⟨?_,?_,?_,Gu hW.dr Z.dr,Gu hW.size ac,?_,hW.ok0,hW.ok1,?_,?_,?_,hW.inj,hW.gl⟩
    .exact Z.os.trans hW.os
    .exact Z.tape.trans hW.tape
    .exact Z.output.trans hW.output
    .intro b hb hM;exact (O b (ET hb hW.size)).trans (hW.keep b hb hM)
    .intro b hb;exact ET (hW.oks b hb) ac
    .intro o e he;exact Im hp' (λlc hl=>O lc.b (hW.loc o e lc he hl).1) _ (λ_ _=>trivial) (hW.obj o e he)
    .intro o e l he hl;obtain⟨h2,h3⟩:=hW.loc o e l he hl;exact⟨ET h2 ac,h3⟩
   refine af v S' am ?_ ⟨hp'.ok,λo _=>hp'.nm o trivial⟩ ?_
   .show S.h=_;funext m;simp[BA.appf,hget]
   .simp only[Ab] at hv⊢;exact XR (hr _) hv
end Go.Ae
namespace Go.Ae
open Go.Proofs Go.Lib
def CJ(f:AV->List Nat)(z:Bool)(T:TypeId)(k:Nat)(rows:List (List D)):IV f (some (z,.arr T k rows))=[]:=rfl
def Cv(x:List (List AV)): ∀(rows:List (List D)),BI ((rows.map λr=>r.map AV.im)++x)=BI x
 |[]=>rfl
 |r::rows=>by
  have h: ∀l:List D,Av (l.map AV.im)=[]:=by
   intro l;induction l with
   |nil=>rfl
   |cons d l ih=>simp only[Br,Av,AV.nms,ih,C3]
  simp only[Br,BZ,BI,h,E5];exact Cv x rows
def SI(n:Nat)(x:List (List AV))(rows:List (List D)):((rows.map λr=>r.map AV.im)++x).all (A9 n)=x.all (A9 n):=by
 rw[L2,tZ,CZ]
def decm_.fv(a:Int):MM:=(BT) a
def decm_.row:A8:=Cj (b1 qI) rT (λa=>0<=a/\a<=9223372036854775807) decm_.fv
def decm_.q:=Cf (R:=decm_.row) rfl
def decm_.ok:AE 61 decm_.row:=by
 refine EK tN Tryz.func61 ?_;intro a O;simp only[Tryz.f61];simp(disch:=omega)only[ZA,simprocAttr,decm_.fv];refine AY.old ⟨{q:Int×MM//0<=q.1/\q.1<=a/\(if q.1=0 then [] else itoa q.1)++Eh q.2=if a=0 then [] else itoa a},λq=>⟨[(4,.im (.int .i64 q.1.1)),(3,.im (.str q.1.2)),(2,.im (.str ByteArray.empty)),(0,.im (.int .i64 a))],[],0⟩,λq=>q.1.1.toNat,λq=>⟨by simp[ZG],auSi⟩,⟨⟨(a,ByteArray.empty),O.1,kV _,by simp[Eh]⟩,by simp(disch:=omega)only[ZA,simprocAttr,sub];rfl⟩,λq=> ?_⟩;obtain⟨⟨m,s⟩,Z,h2,z⟩:=q;simp only at Z h2 z;have h3:s.size<=21:=by
  have l1:=eG List.length z;have l2:=Nh (n:=a) auOm auOm;have l3:(Eh s).length=s.size:=by rw[Eh,HA];rfl
  rw[BR,l3] at l1;have l4:(if a=0 then [] else itoa a).length<=21:=by
   by_cases c:a=0
   .rw[Bt c];exact Ir _
   .rw[Be c];exact l2
  omega
 have e1:m.tmod 10=m % 10:=Ix Z;have Q:m.tdiv 10=m/10:=lI Z;have e3:IntKind.i64.wrap (48+m % 10)=48+m % 10:=AG auOm auOm;have e4:IntKind.u8.wrap (48+m % 10)=48+m % 10:=by
  unfold IntKind.wrap;have e:IntKind.u8.bits=8:=rfl;have Q:IntKind.u8.signed=false:=rfl;simp only[e,Q,Da,BL,HS];omega
 simp(disch:=omega)only[ZA,simprocAttr,D.sc,D.scs,AO,sub,AL,e1,Q,e3,e4];have e5:(⟨#[UInt8.ofNat (48+m % 10).toNat]⟩:MM).size=1:=rfl;refine⟨λhm=>⟨λh=>auOm,λ_=>⟨by rw[e5];omega,⟨⟨(m/10,⟨#[UInt8.ofNat (48+m % 10).toNat]⟩++s),by simp only;omega,by simp only;omega,?_⟩,by simp only;omega,AG auOm auOm,rfl⟩⟩⟩,λhm=>⟨λh=> ?_,λh=>⟨λh2=>auOm,λ_=> ?_⟩⟩⟩
 .simp only;rw[Be hm] at z;rw[<-z];obtain⟨k,rfl⟩: ∃k:Nat,m=k:=⟨m.toNat,auOm⟩;have e6:Eh (⟨#[UInt8.ofNat (48+(k:Int) % 10).toNat]⟩++s)=UInt8.ofNat (48+k % 10)::Eh s:=by
   have:(48+(k:Int) % 10).toNat=48+k % 10:=auOm
   rw[this];simp[Eh]
  rw[e6];have e7:itoa ((k:Nat):Int)=decDigits k:=by
   unfold itoa;rw[Be auOm,Cp]
  have e8:itoa ((k:Nat)/10:Int)=decDigits (k/10):=by
   unfold itoa;rw[Be auOm];congr 1
  rw[e7,e8]
  conv=>rhs;rw[decDigits]
  by_cases c:k<10
  .rw[dif_pos c,Bt auOm,Nat.mod_eq_of_lt c];rfl
  .rw[dif_neg c,Be auOm];simp
 .subst h;simp[BT,itoa,decDigits]
 .rw[Bt (Ch.1 hm),Be h] at z
  have:s=BT a:=by
   have h5:Eh s=itoa a:=by simpa using z
   cases s with|mk d=>cases d with|mk l=>simp[Eh] at h5;subst h5;rfl
  exact this
def CH(g:List Ac)(t:List Tile):An:=[(0,(true,.cells 104 [.own 1,.own 2])),(1,(true,.arr 151 2 (g.map Ac.c))),(2,(true,.arr 155 2 (t.map Tile.c)))]
abbrev Mk:=List Ac×List Tile
def glN(g:List Ac)(nm:MM):Int:=if B3 g nm=0 then (g.length:Int)+1 else B3 g nm
def HG(g:List Ac)(t:List Tile)(j:Nat):Ai (CH g t) j=true↔j<3:=by
 simp only[Ai,CH,hget];by_cases h0:j=0
 .subst h0;simp
 by_cases z:j=1
 .subst z;simp
 by_cases O:j=2
 .subst O;simp
 have Q:(0==j)=false:=by simpa using λh=>h0 h.symm
 have Z:(1==j)=false:=by simpa using λh=>z h.symm
 have e2:(2==j)=false:=by simpa using λh=>O h.symm
 simp[Q,Z,e2];omega
def l02GF.fv(a:AI×MM):Int:=(λs n=>B3 s.Glues n) (a.1) (a.2)
def l02GF.row:A8:=Cj (b2 (qP 2 AI.d_le) qT) rI (λa=>True) l02GF.fv
def l02GF.q:=Cf (R:=l02GF.row) rfl
def l02GF.ok:AE 95 l02GF.row:=iO (λ_=>rfl) l02Glue.ok
def l02TF.fv(a:AI×MM):Int:=(λs n=>oU s.Tiles n) (a.1) (a.2)
def l02TF.row:A8:=Cj (b2 (qP 2 AI.d_le) qT) rI (λa=>True) l02TF.fv
def l02TF.q:=Cf (R:=l02TF.row) rfl
def l02TF.ok:AE 96 l02TF.row:=iO (λ_=>rfl) l02Tile.ok
def sid_.fv(a:AI×MM):Int:=(λs n=>B3 s.Glues n) (a.1) (a.2)
def sid_.row:A8:=Cj (b2 (qP 2 AI.d_le) qT) rI (λa=>True) sid_.fv
def sid_.q:=Cf (R:=sid_.row) rfl
def sid_.ok:AE 106 sid_.row:=by
 refine EK (tC l02GF.ok tN) Tryz.func106 ?_;intro a z;simp only[Tryz.f106];simp(disch:=omega)only[ZA,simprocAttr,Aa,sid_.fv,l02GF.q,l02GF.fv,D.sc,D.scs,AO]
def sgC.ca(a:Mk×Ac):List AV:=[.ptr 0 0,.im (.str a.2.Name),.im (.int .i64 a.2.Strength)]
def sgC.H0(a:Mk×Ac):An:=CH a.1.1 a.1.2
def sgC.H1(a:Mk×Ac):An:=[(0,(true,.cells 104 [.own 3,.own 2])),(3,(true,.arr 151 2 ((Fw a.1.1 a.2).map Ac.c)))]
def CQ(j:Nat):Bool:=j==0||j==1
def sgC.row:A8:=A7 sgC.ca sgC.H0 3 (λa=>a.1.1.length<=1000000) CQ (λa=> .im (.int .i64 (glN a.1.1 a.2.Name))) sgC.H1 20
def sgC.ok:AE 59 sgC.row:=by
 refine KF (tC l02GF.ok tN) Tryz.func59 (exB:=λj=>j==3) (R:=λa r=>r= .im (.int .i64 (glN a.1.1 a.2.Name))) (λ_=>rfl)
  (λa=>by simp[sgC.ca,sgC.H0,CH,A9,AV.bel,Ar,B5,Ca,Ad.nms,Av,AV.nms,Ai,hget]) (λa p hp=> ?_) LeVq ?_
 rotate_left
 intro a z;simp only[Tryz.f59,sgC.ca,sgC.H0,sgC.H1,CH];simp(disch:=omega)only[ZA,simprocAttr,Aa,l02GF.q,l02GF.fv,Bh,B8,BF,CA];rotate_left
 .simp only[sgC.H1,B0,D2,Rl] at hp;rcases hp with rfl|rfl
  .exact .inl ⟨auOm,rfl,rfl⟩
  .exact .inr ⟨auOm,auOm,rfl,rfl⟩
 obtain⟨⟨g,t⟩,x⟩:=a;simp only at z⊢
 split<;>rename_i c
 .have O:List.map Ac.c g++[[D.str x.Name,D.int .i64 x.Strength]]=(Fw g x).map Ac.c:=by rw[show Fw g x=g++[x] from Bt c,Dj];rfl
  have Z:((((Fw g x).map Ac.c).length:Nat):Int)=glN g x.Name:=by rw[show Fw g x=g++[x] from Bt c,glN,Bt c];simp
  rw[O,Z];refine⟨auOm,λ_=> ?_⟩;refine⟨[],[(3,some 4)],⟨[(6,.im (.int .i64 (glN g x.Name)))],[(0,(true,.cells 104 [.own 3,.own 2])),(3,(true,.arr 151 2 ((Fw g x).map Ac.c))),(2,(true,.arr 155 2 (t.map Tile.c)))],4⟩,?_,by simp[ZG],auSi,?_⟩
  .simp only[AB];simp(disch:=omega)only[ZA,simprocAttr,Bf]
  .simp(disch:=omega)only[ZA,simprocAttr,CQ,CQ]
 .have Q:glN g x.Name=B3 g x.Name:=Be c;have O:Fw g x=g:=Be c;rw[Q];refine⟨[],[(3,some 1)],⟨[(6,.im (.int .i64 (B3 g x.Name)))],[(0,(true,.cells 104 [.own 3,.own 2])),(3,(true,.arr 151 2 (g.map Ac.c))),(2,(true,.arr 155 2 (t.map Tile.c)))],4⟩,?_,by simp[ZG],auSi,?_⟩
  .simp only[AB];simp(disch:=omega)only[ZA,simprocAttr,Bf]
  .simp(disch:=omega)only[ZA,simprocAttr,CQ,CQ,O]
def stC.ca(a:Mk×MM×MM×MM×MM×MM):List AV:=[.ptr 0 0,.im (.str a.2.1),.im (.str a.2.2.1),.im (.str a.2.2.2.1),.im (.str a.2.2.2.2.1),.im (.str a.2.2.2.2.2)]
def bS(a:Mk×MM×MM×MM×MM×MM):Tile:=Di (B3 a.1.1) a.2.1 a.2.2.1 a.2.2.2.1 a.2.2.2.2.1 a.2.2.2.2.2
def stC.H0(a:Mk×MM×MM×MM×MM×MM):An:=CH a.1.1 a.1.2
def stC.H1(a:Mk×MM×MM×MM×MM×MM):An:=[(0,(true,.cells 104 [.own 1,.own 3])),(3,(true,.arr 155 2 ((EH a.1.2 (bS a)).map Tile.c)))]
def Bq(j:Nat):Bool:=j==0||j==2
def stC.row:A8:=A7 stC.ca stC.H0 3 (λa=>a.1.2.length<=1000000) Bq (λa=> .im (.int .i64 (QJ a.1.2 a.2.1))) stC.H1 20
def stC.ok:AE 62 stC.row:=by
 refine KF (tC l02TF.ok (tC sid_.ok tN)) Tryz.func62 (exB:=λj=>j==3) (R:=λa r=>r= .im (.int .i64 (QJ a.1.2 a.2.1))) (λ_=>rfl)
  (λa=>by simp[stC.ca,stC.H0,CH,A9,AV.bel,Ar,B5,Ca,Ad.nms,Av,AV.nms,Ai,hget]) (λa p hp=> ?_) LeVq ?_
 rotate_left
 intro a z;simp only[Tryz.f62,stC.ca,stC.H0,stC.H1,CH];simp(disch:=omega)only[ZA,simprocAttr,Aa,l02TF.q,l02TF.fv,sid_.q,sid_.fv,Bh,Aq,CJ,Cv,SI,E6,J9];rotate_left
 .simp only[stC.H1,B0,D2,Rl] at hp;rcases hp with rfl|rfl
  .exact .inl ⟨auOm,rfl,rfl⟩
  .exact .inr ⟨auOm,auOm,rfl,rfl⟩
 obtain⟨⟨g,t⟩,x,a,b,c,d⟩:=a;simp only at z⊢
 split<;>rename_i h
 .have e:EH t (Di (B3 g) x a b c d)=t++[Di (B3 g) x a b c d]:=Bt h;have O:(List.map Tile.c (EH t (Di (B3 g) x a b c d))).map (λr=>r.map AV.im)=(t.map Tile.c).map (λr=>r.map AV.im)++[[.im (.str x),.im (.sl false 1 [[D.int .i64 (B3 g a)],[D.int .i64 (B3 g b)],[D.int .i64 (B3 g c)],[D.int .i64 (B3 g d)]])]]:=by rw[e,Dj,Dj];rfl
  have Z:IntKind.i64.wrap ((((t.map Tile.c).map (λr=>r.map AV.im)++[[AV.im (.str x),AV.own 3]]).length:Nat) - 1:Int)=QJ t x:=by
   simp only[BR,Dy,zK];rw[QJ,Bt h,AG auOm auOm];omega
  rw[Z];refine⟨auOm,λ_=> ?_⟩;refine⟨[3],[(3,some 5)],⟨[(12,.im (.int .i64 (QJ t x)))],[(0,(true,.cells 104 [.own 1,.own 3])),(1,(true,.arr 151 2 (g.map Ac.c))),(3,(true,.arr 155 2 ((EH t (Di (B3 g) x a b c d)).map Tile.c)))],4⟩,?_,by simp[ZG],auSi,?_⟩
  .simp only[AB];simp(disch:=omega)only[ZA,simprocAttr,Bf,Qzl,Qzb,O]
  .simp(disch:=omega)only[ZA,simprocAttr,Bq,Bq,bS]
 .have Q:QJ t x=oU t x:=Be h;have O:EH t (Di (B3 g) x a b c d)=t:=Be h;rw[Q];refine⟨[],[(3,some 2)],⟨[(12,.im (.int .i64 (oU t x)))],[(0,(true,.cells 104 [.own 1,.own 3])),(1,(true,.arr 151 2 (g.map Ac.c))),(3,(true,.arr 155 2 (t.map Tile.c)))],4⟩,?_,by simp[ZG],auSi,?_⟩
  .simp only[AB];simp(disch:=omega)only[ZA,simprocAttr,Bf]
  .simp(disch:=omega)only[ZA,simprocAttr,Bq,Bq,bS,O]
def HB(g l:List Ac):List Ac:=l.foldl Fw g
def Et(t l:List Tile):List Tile:=l.foldl EH t
def hZ(g l:List Ac)(x:Ac):Fw (HB g l) x=HB g (l++[x]):=by simp[HB]
def RO(t l:List Tile)(x:Tile):EH (Et t l) x=Et t (l++[x]):=by simp[Et]
def OL(g l:List Ac):(HB g l).length<=g.length+l.length:=by
 induction l generalizing g with
 |nil=>simp[HB]
 |cons x l ih=>
  have:=ih (Fw g x)
  simp only[HB] at this;simp only[HB,Fu,Em];have z:(Fw g x).length<=g.length+1:=by
   simp only[Fw]
   split<;>simp
  omega
def XQ(g l:List Tile):(Et g l).length<=g.length+l.length:=by
 induction l generalizing g with
 |nil=>simp[Et]
 |cons x l ih=>
  have:=ih (EH g x)
  simp only[Et] at this;simp only[Et,Fu,Em];have z:(EH g x).length<=g.length+1:=by
   simp only[EH]
   split<;>simp
  omega
def Ql(w:MM)(n:Nat)(st:Int):Bx w (n+1) st=Bx w n st++[⟨Bd w (n:Nat),st⟩]:=by simp[Bx,Xi]
def RN(w:MM)(n:Nat)(st:Int):(Bx w n st).length=n:=by simp[Bx]
def V6{A:Type}(f:Nat->A)(n:Nat):(List.range (n+1)).map f=(List.range n).map f++[f n]:=by simp[Xi]
def uS(w:MM)(n:Int):w++BT n=Bd w n:=rfl
def ZY:BT 0=⟨#[48]⟩:=by simp[BT,itoa,decDigits]
def zJ:(⟨#[]⟩:MM)=ByteArray.empty:=rfl
def Ic(x:Int)(r:Cz)(k:Nat):List AA:=(List.range k).map λ(i:Nat)=>⟨⟨x+(i:Int),0⟩,(r[i]?).getD 0⟩
abbrev Sy:=Mk×Int×Cz
def syC.ca(a:Sy):List AV:=[.ptr 0 0,.im (.int .i64 a.2.1),.own 3]
def syC.H0(a:Sy):An:=CH a.1.1 a.1.2++[(3,(true,.arr 2 1 (a.2.2.map Aj)))]
def bX(a:Sy)(j:Nat):Ai (syC.H0 a) j=true↔j<4:=by
 simp only[Ai,syC.H0,CH,hget,BZ,E5];by_cases h0:j=0
 .subst h0;simp
 by_cases z:j=1
 .subst z;simp
 by_cases O:j=2
 .subst O;simp
 by_cases Q:j=3
 .subst Q;simp
 have Z:(0==j)=false:=by simpa using λh=>h0 h.symm
 have e1:(1==j)=false:=by simpa using λh=>z h.symm
 have e2:(2==j)=false:=by simpa using λh=>O h.symm
 have e3:(3==j)=false:=by simpa using λh=>Q h.symm
 simp[Z,e1,e2,e3];omega
def syC.r0(_:Sy):AV:= .agg [.own 1,.own 2,.own 4,.im (.int .i64 2)]
def syC.H1(a:Sy):An:=[(4,(true,.arr 137 3 ((Ic a.2.1 a.2.2 a.2.2.length).map AA.c)))]
def syC.row:A8:=A7 syC.ca syC.H0 4 (λa=> -1000<=a.2.1/\a.2.1<=1000/\a.2.2.length<=1000) (λ_=>false) syC.r0 syC.H1 20
def syC.ok:AE 64 syC.row:=by
 refine KF tN Tryz.func64 (exB:=λj=>j==4) (R:=λa r=>r=syC.r0 a) (λ_=>rfl)
  (λa=>by simp[syC.ca,syC.H0,CH,A9,AV.bel,Ar,B5,Ca,Ad.nms,Av,AV.nms,Ai,hget]) (λa p hp=> ?_) LeVq ?_
 rotate_left
 intro a O;simp only[Tryz.f64,syC.ca,syC.H0,syC.H1,syC.r0,CH];simp only[ZA,simprocAttr];rotate_left
 .simp only[syC.H1,B0,D2,Rl] at hp;subst hp;exact .inr ⟨auOm,auOm,rfl,rfl⟩
 obtain⟨⟨g,t⟩,x,r⟩:=a;obtain⟨p1,p2,p3⟩:=O;simp only at p1 p2 p3⊢;refine AY.ren ⟨{k:Nat//k<=r.length},λk=>⟨[(8,.im (.int .i64 k.1)),(7,.ptr 5 0),(6,.ptr 4 0),(0,.ptr 0 0),(1,.im (.int .i64 x)),(2,.own 3)],[(5,(true,.cells 46 [.own 1,.own 2,.own 6,.im (.int .i64 2)])),(6,(true,.arr 137 3 ((Ic x r k.1).map AA.c))),(4,(true,.cells 46 [.im (.sl true 0 []),.im (.sl true 0 []),.im (.sl true 0 []),.im (.int .i64 0)])),(0,(true,.cells 104 [.own 1,.own 2])),(1,(true,.arr 151 2 (g.map Ac.c))),(2,(true,.arr 155 2 (t.map Tile.c))),(3,(true,.arr 2 1 (r.map Aj)))],7⟩,λk=>r.length - k.1,λk=>⟨by simp[ZG],auSi⟩,⟨⟨0,Ir _⟩,[(6,none)],?_⟩,λk=> ?_⟩
 .simp only[AB,Ic,JC,Gl];simp only[ZA,simprocAttr,Bf,lA]
 obtain⟨k,hk⟩:=k;have Z:(Ic x r k).length=k:=by simp[Ic]
 have hw:IntKind.i64.wrap (x+(k:Int))=x+k:=AG auOm auOm;have Q:IntKind.i64.wrap ((k:Int)+1)=((k+1:Nat):Int):=by rw[AG auOm auOm];omega
 simp only[ZA,simprocAttr,Bh,Aq,AL,hw];intro _;refine⟨λz=>⟨z,z,λv hv=> ?_⟩,λz=> ?_⟩
 .have hs:List.map AA.c (Ic x r k)++[[D.int .i64 (x+k),D.int .i64 0,D.int .i64 v]]=(Ic x r (k+1)).map AA.c:=by
   simp only[Ic];rw[V6,Dj,hv];rfl
  refine⟨auOm,⟨k+1,auOm⟩,[(6,some 8)],by simp only;omega,?_⟩;simp only[AB];simp only[ZA,simprocAttr,Bf,Q,hs]
 .obtain rfl:k=r.length:=auOm;refine⟨[],[(5,some 4),(4,some 6)],⟨[(6,.ptr 5 0)],[(5,(true,.cells 46 [.own 1,.own 2,.own 4,.im (.int .i64 2)])),(4,(true,.arr 137 3 ((Ic x r r.length).map AA.c))),(0,(true,.cells 104 [.own 1,.own 2])),(1,(true,.arr 151 2 (g.map Ac.c))),(2,(true,.arr 155 2 (t.map Tile.c))),(3,(true,.arr 2 1 (r.map Aj)))],6⟩,?_,by simp[ZG],auSi,?_⟩
  .simp only[AB];simp only[ZA,simprocAttr,Bf]
  .simp only[ZA,simprocAttr]
def cB(g:List Tile):Et g []=g:=rfl
def MW(g A:List Ac)(w:MM)(k:Nat)(st:Int):Fw (HB g (A++Bx w k st)) ⟨Bd w (k:Nat),st⟩=HB g (A++Bx w (k+1) st):=by rw[hZ,Ql,Gk]
def MP{f:Af}(h:EX f=true):(1<=f.Inputs/\f.Inputs<=4)/\(1<=f.Sums.length/\f.Sums.length<=3)/\f.Cubes.length<=81:=by
 simp only[EX,B7,B1,CK] at h;omega
def eX(f:Af):Prop:=(1<=f.Inputs/\f.Inputs<=4)/\(1<=f.Sums.length/\f.Sums.length<=3)/\f.Cubes.length<=81
def Kd(f:Af)(k c v:Int):MM:=if c=f.Inputs+f.Sums.length then ByteArray.empty else Kv ⟨#[112]⟩ k c v
def prd20.fv(a:Af×Int×Int×Int):MM:=(Kd) (a.1) (a.2.1) (a.2.2.1) (a.2.2.2)
def prd20.row:A8:=Cj (b4 (qP 3 Af.d_le) qI qI qI) rT (λa=>((0<=a.1.Inputs/\a.1.Inputs<=100)/\a.1.Sums.length<=100)/\(0<=a.2.1/\a.2.1<=1000)/\(0<=a.2.2.1/\a.2.2.1<=1000)/\0<=a.2.2.2/\a.2.2.2<=1000) prd20.fv
def prd20.q:=Cf (R:=prd20.row) rfl
def prd20.ok:AE 60 prd20.row:=by
 refine EK (tC decm_.ok tN) Tryz.func60 ?_;intro a z;simp only[Tryz.f60];obtain⟨f,k,c,v⟩:=a;obtain⟨⟨h0,O⟩,Q,Z,h4⟩:=z;simp only at h0 O Q Z h4⊢;simp(disch:=omega)only[ZA,simprocAttr,Aa,prd20.fv,decm_.q,decm_.fv,D.sc,D.scs,AO,Af.c,AL];have w:IntKind.i64.wrap (f.Inputs+(f.Sums.length:Int))=f.Inputs+f.Sums.length:=AG auOm auOm;have s1:=CN (n:=k) auOm auOm;have s2:=CN (n:=c) auOm auOm;have s3:=CN (n:=v) auOm auOm;have z1:(⟨#[112]⟩:MM).size=1:=rfl;have z2:(⟨#[95]⟩:MM).size=1:=rfl;rw[w];simp only[Pk,z1,z2];refine⟨λh=> ?_,λh=>⟨⟨auOm,auOm⟩,auOm,auOm,⟨auOm,auOm⟩,auOm,auOm,⟨auOm,auOm⟩,auOm,?_⟩⟩
 .simp only[Kd];rw[Bt h];rfl
 .simp only[Kd];rw[Be h];rfl
def YP(q:Ag)(c v d:Int):Int:=if Dz .i64 (q.Care.fdiv (2^min c.toNat IntKind.i64.bits)) 1=1/\Dz .i64 (q.Value.fdiv (2^min c.toNat IntKind.i64.bits)) 1≠d then 0 else v
def and20.fv(a:Ag×Int×Int×Int):Int:=(YP) (a.1) (a.2.1) (a.2.2.1) (a.2.2.2)
def and20.row:A8:=Cj (b4 (qR Ag.d_le) qI qI qI) rI (λa=>0<=a.2.1) and20.fv
def and20.q:=Cf (R:=and20.row) rfl
def and20.ok:AE 107 and20.row:=by
 refine EK tN Tryz.func107 ?_;intro a z;simp only[Tryz.f107];obtain⟨q,c,v,d⟩:=a;simp only at z⊢;simp(disch:=omega)only[ZA,simprocAttr,and20.fv,D.sc,D.scs,AO,Ag.c,AL];simp only[YP];refine⟨z,λO=>⟨z,λQ=> ?_,λQ=> ?_⟩,λO=> ?_⟩
 .rw[Bt ⟨O,Q⟩]
 .rw[Be (λh=>Q h.2)]
 .rw[Be (λh=>O h.1)]
def orG(f:Af)(k o v d:Int):Int:=match f.Sums[o.toNat]? with
 |some q=>if v=1/\k∈q then 1 else d
 |none=>d
def has20.fv(a:(Cz)×Int):Bool:=(λl n=>decide (n∈l)) (a.1) (a.2)
def has20.row:A8:=Cj (b2 (qS D4 Cq) qI) rB (λa=>True) has20.fv
def has20.q:=Cf (R:=has20.row) rfl
def has20.ok:AE 149 has20.row:=by
 refine EK tN Tryz.func149 ?_;intro a Q;simp only[Tryz.f149];simp(disch:=omega)only[ZA,simprocAttr,has20.fv];refine AY.old ⟨{k:Nat//k<=a.1.length/\a.2∉a.1.take k},λk=>⟨[(5,.im (.int .i64 k.1)),(4,.im (.bool false)),(0,.im (.sl false 1 (a.1.map Aj))),(1,.im (.int .i64 a.2))],[],0⟩,λk=>a.1.length - k.1,λk=>⟨by simp[ZG],BN _⟩,⟨⟨0,auSi⟩,by simp(disch:=omega)only[ZA,simprocAttr,sub]⟩,λk=> ?_⟩;obtain⟨k,aa,z⟩:=k;simp(disch:=omega)only[ZA,simprocAttr,D.sc,D.scs,AO,sub,AL];intro _;refine⟨λO=>⟨O,λx Z=>⟨λh=> ?_,λh=>⟨⟨k+1,auOm,?_⟩,by simp only;omega,by rw[AG auOm auOm];simp only;omega⟩⟩⟩,λO=> ?_⟩
 .have:a.2∈a.1:=h▸Bj Z
  simp[this]
 .rw[qW Z,BO,Am];exact λe=>e.elim z λe=>h e.symm
 .rw[BE auOm] at z;simp[z]
def or20.fv(a:Af×Int×Int×Int×Int):Int:=(orG) (a.1) (a.2.1) (a.2.2.1) (a.2.2.2.1) (a.2.2.2.2)
def or20.row:A8:=Cj (b5 (qP 3 Af.d_le) qI qI qI qI) rI (λa=>0<=a.2.2.1/\a.2.2.1<a.1.Sums.length) or20.fv
def or20.q:=Cf (R:=or20.row) rfl
def or20.ok:AE 108 or20.row:=by
 refine EK (tC has20.ok tN) Tryz.func108 ?_;intro a z;simp only[Tryz.f108];obtain⟨f,k,o,v,d⟩:=a;obtain⟨Z,h2⟩:=z;simp only at Z h2⊢;simp(disch:=omega)only[ZZ,simprocAttr,Aa,or20.fv,has20.q,has20.fv,D.sc,D.scs,AO,Af.c,AL];simp only[orG];have ho:o.toNat<f.Sums.length:=auOm;obtain⟨x,hx⟩: ∃x,f.Sums[o.toNat]? =some x:=⟨_,Bk ho⟩;rw[hx];simp only;refine⟨λO=>⟨Z,h2,λy hy=> ?_⟩,λO=> ?_⟩
 .obtain rfl:x=y:=AJ hy;exact⟨λQ=>by rw[Bt ⟨O,Q⟩],λQ=>by rw[Be (λh=>Q h.2)]⟩
 .rw[Be (λh=>O h.1)]
def vX(lo z:Int)(q:Option Int)(p:Int)(r:Cz):Fo lo z q (p::r)=(B7 p lo z && ((match q with|none=>true|some x=>decide (x<p)) && Fo lo z (some p) r)):=by cases q<;>rfl
def sO(lo z:Int)(q:Option Int):Fo lo z q []=true:=by cases q<;>rfl
def Gg(l:Cz)(k:Nat):Option Int:=if k=0 then none else l[k - 1]?
def Ya{l:Cz}{k:Nat}{p:Int}(h:l[k]? =some p):Gg l (k+1)=some p:=by simp[Gg,h]
def ris20.fv(a:(Cz)×Int×Int):Bool:=(λl lo z=>Fo lo z none l) (a.1) (a.2.1) (a.2.2)
def ris20.row:A8:=vK (b3 (qS D4 Cq) qI qI) rB (λa=>True) ris20.fv
def ris20.q:=Bg (R:=ris20.row) rfl
def ris20.ok:AE 104 ris20.row:=by
 refine vw (tC l00In.ok tN) Tryz.func104 ?_;intro a ab;simp only[Tryz.f104];simp(disch:=omega)only[ZA,simprocAttr,ris20.fv];obtain⟨l,lo,Z⟩:=a;simp only;refine AY.old ⟨{k:Nat//k<=l.length/\Fo lo Z (Gg l k) (l.drop k)=Fo lo Z none l},λk=>⟨[(7,.im (.int .i64 k.1)),(6,.im (.bool false)),(0,.im (.sl false 1 (l.map Aj))),(1,.im (.int .i64 lo)),(2,.im (.int .i64 Z))],[],0⟩,λk=>l.length - k.1,λk=>⟨by simp[ZG],auSi⟩,⟨⟨0,by simp[Gg]⟩,by simp(disch:=omega)only[ZA,simprocAttr,sub]⟩,λk=> ?_⟩;obtain⟨k,ac,z⟩:=k;simp(disch:=omega)only[ZA,simprocAttr,l00In.q,l00In.fv,sub,AL];refine λ_=>⟨λhk=>⟨hk,λx Q=> ?_⟩,λhk=> ?_⟩
 .rw[FH Q,vX] at z;have hw:IntKind.i64.wrap ((k:Int)+1)=((k+1:Nat):Int):=by rw[AG auOm auOm];omega
  refine⟨λO=>⟨λh5=> ?_,λh5=> ?_⟩,λO=> ?_⟩
  .rw[AG (x:=(k:Int) - 1) auOm auOm];refine⟨auOm,auOm,λy hy=>⟨hk,λx2 aa=> ?_⟩⟩;obtain rfl:x=x2:=AJ (Q.symm.trans aa);have hp:Gg l k=some y:=by
    have e:((k:Int) - 1).toNat=k - 1:=auOm;rw[e] at hy;simp only[Gg,hy];rw[Be auOm]
   rw[hp] at z;simp only at z;refine⟨λh7=> ?_,λh7=>⟨⟨k+1,auOm,?_⟩,by simp only;omega,hw⟩⟩
   .rw[Jh auOm,Da,zR] at z;exact z
   .rw[O,My auOm,CZ,CZ] at z;rw[Ya Q];exact z
  .have hp:Gg l k=none:=by simp only[Gg];rw[Bt auOm]
   rw[hp] at z;simp only at z;refine⟨⟨k+1,auOm,?_⟩,by simp only;omega,hw⟩;rw[O,CZ,CZ] at z;rw[Ya Q];exact z
  .rw[kN] at O;rw[O,Da] at z;exact z
 .rw[Bm auOm,sO] at z;exact z
def cub19.fv(a:Int×Ag):Bool:=(P4) (a.1) (a.2)
def cub19.row:A8:=vK (b2 qI (qR Ag.d_le)) rB (λa=>1<=a.1/\a.1<=4) cub19.fv
def cub19.q:=Bg (R:=cub19.row) rfl
def cub19.ok:AE 102 cub19.row:=by
 refine vw (tC l00In.ok tN) Tryz.func102 ?_;intro a z;simp only[Tryz.f102];obtain⟨n,q⟩:=a;simp only at z⊢;simp(disch:=omega)only[ZA,simprocAttr,cub19.fv,l00In.q,l00In.fv,Ag.c,AL];have Z:IntKind.i64.wrap (1*2^min n.toNat IntKind.i64.bits)=EY n:=rfl;rw[Z];simp only[P4];refine⟨auOm,λO=>⟨auOm,λQ=> ?_,λQ=> ?_⟩,λO=> ?_⟩
 .rw[O,Q,CZ,CZ]
 .rw[O,Hk.2 Q,CZ,Da]
 .rw[Hk.2 O,Da]
def bef19.fv(a:Ag×Ag):Bool:=(JK) (a.1) (a.2)
def bef19.row:A8:=vK (b2 (qR Ag.d_le) (qR Ag.d_le)) rB (λa=>True) bef19.fv
def bef19.q:=Bg (R:=bef19.row) rfl
def bef19.ok:AE 103 bef19.row:=by
 refine vw tN Tryz.func103 ?_;intro a Q;simp only[Tryz.f103];obtain⟨p,q⟩:=a;simp(disch:=omega)only[ZA,simprocAttr,bef19.fv,Ag.c,AL];simp only[JK];refine⟨λz=>⟨λO=> ?_,λO=> ?_⟩,λz=> ?_⟩
 .rw[Jh z,My O,Dv,CZ]
 .rw[Jh z,Jh O,Dv,Da]
 .rw[My (Ch.1 z),Gj]
def siz20.fv(a:Af):Int×Int×Int:=(λf=>(1+(AZ f:Int)+Ao f+AZ f*(4*Ao f),((AZ f:Int)+1)*(Ao f+1),4+(AZ f:Int)*(2*Ao f)+AZ f+Ao f)) a
def siz20.row:A8:=vK (b1 (qP 3 Af.d_le)) (r3 rI rI rI) (λa=>eX a) siz20.fv
def siz20.q:=Bg (R:=siz20.row) rfl
def siz20.ok:AE 56 siz20.row:=by
 refine vw tN Tryz.func56 ?_;intro a z;simp only[Tryz.f56];obtain⟨h0,h1,h2⟩:=z;simp(disch:=omega)only[ZA,simprocAttr,siz20.fv,Af.c];intro _;have hC:a.Inputs+(a.Sums.length:Int)=(Ao a:Nat):=by simp only[Ao];omega
 have hR:(AZ a:Int)=a.Cubes.length:=rfl;have hc:2<=Ao a/\Ao a<=7:=by simp only[Ao];omega
 rw[AG (x:=a.Inputs+(a.Sums.length:Int)) auOm auOm,hC,<-hR];have hr:AZ a<=81:=h2;generalize Ao a=C at*;generalize AZ a=R at*;have m1:R*C<=81*7:=Z7 hr hc.2;have O:(4*(R:Int))*(C:Int)=4*((R*C:Nat):Int):=by rw[kM,Int.mul_assoc]
 have Q:(2*(R:Int))*(C:Int)=2*((R*C:Nat):Int):=by rw[kM,Int.mul_assoc]
 have Z:(R:Int)*(4*(C:Int))=4*((R*C:Nat):Int):=by rw[kM,Int.mul_left_comm]
 have e4:(R:Int)*(2*(C:Int))=2*((R*C:Nat):Int):=by rw[kM,Int.mul_left_comm]
 have e5:((R:Int)+1)*((C:Int)+1)=((R*C:Nat):Int)+R+C+1:=by rw[kM,Int.add_mul,Int.mul_add,Int.one_mul];omega
 rw[AG (x:=4*(R:Int)) auOm auOm,AG (x:=2*(R:Int)) auOm auOm,AG (x:=(R:Int)+1) auOm auOm,AG (x:=(C:Int)+1) auOm auOm,O,Q,Z,e4,e5];generalize R*C=M at m1⊢;rw[AG (x:=1+(R:Int)) auOm auOm,AG (x:=4+(R:Int)) auOm auOm,AG (x:=4*(M:Int)) auOm auOm,AG (x:=2*(M:Int)) auOm auOm];rw[AG (x:=1+(R:Int)+C) auOm auOm,AG (x:=4+(R:Int)+C) auOm auOm];refine⟨?_,?_,?_⟩
 .rw[AG auOm auOm]
 .rw[AG auOm auOm]
 .rw[AG auOm auOm];omega
def T7{f:Af}(h:0<=f.Inputs):f.Inputs+(f.Sums.length:Int)=(Ao f:Nat):=by simp only[Ao];omega
def Vd{f:Af}(h:0<=f.Inputs)(k c v:Nat):Kd f (k:Nat) (c:Nat) (v:Nat)=pE (some ByteArray.empty) (Ao f) k c v:=by
 simp only[Kd,pE,T7 h];by_cases e:c=Ao f
 .rw[Bt auOm,Bt e]
 .rw[Be auOm,Be e]
def lL{f:Af}{k:Nat}{q:Ag}(hq:f.Cubes[k]? =some q)(c v d:Nat):YP q (c:Nat) (v:Nat) (d:Nat)=(IM f k c v d:Nat):=by
 have e: ∀x:Int,Dz .i64 (x.fdiv (2^min c IntKind.i64.bits)) 1=F8 x c:=λ_=>rfl
 simp only[YP,IM,hq,Cp,e];by_cases g:F8 q.Care c=1/\F8 q.Value c≠(d:Int)
 .rw[Bt g,Bt g];rfl
 .rw[Be g,Be g]
def YO{f:Af}{k c v d:Nat}(z:v<=1):IM f k c v d<=1:=by
 simp only[IM];split
 .split<;>omega
 .omega
def orG_F{f:Af}{k c v d:Nat}(h:0<=f.Inputs)(z:f.Inputs<=c):orG f (k:Nat) ((c:Int) - f.Inputs) (v:Nat) (d:Nat)=(N9 f k c v d:Nat):=by
 have e:((c:Int) - f.Inputs).toNat=c - f.Inputs.toNat:=auOm;simp only[orG,N9,e];cases f.Sums[c - f.Inputs.toNat]? with
 |none=>rfl
 |some q=>
  simp only;by_cases g:v=1/\((k:Nat):Int)∈q
  .rw[Bt ⟨auOm,g.2⟩,Bt g];rfl
  .rw[Be (λx=>g ⟨auOm,x.2⟩),Be g]
def nG{f:Af}{k c v d:Nat}(hd:d<=1):N9 f k c v d<=1:=by
 simp only[N9];split
 .split<;>omega
 .omega
def cP{v d:Nat}(z:v<2)(hd:d<2):W3.take (2*v+d+1)=W3.take (2*v+d)++[(v,d)]:=by
 rcases (by omega:v=0\/v=1) with rfl|rfl<;>rcases (by omega:d=0\/d=1) with rfl|rfl<;>rfl
def iK(z:MM->Int)(e:Option MM)(f:Af)(C k c:Nat){v d:Nat}(O:v<2)(hd:d<2):Bl z e f C k c (2*v+d+1)=Bl z e f C k c (2*v+d)++[En z e f C k c v d]:=by
 simp only[Bl,cP O hd,Dj,Br,Gl]
def Oi(z:MM->Int)(e:Option MM)(f:Af)(C k c n:Nat):(Bl z e f C k c n).length<=4:=by
 simp only[Bl,Dy,Eb];exact L4 _ _
abbrev Crs:=Mk×Af×Nat×Nat
def crC.ca(a:Crs):List AV:=[.ptr 0 0,.ptr 3 0,.im (.int .i64 (a.2.2.1:Nat)),.im (.int .i64 (a.2.2.2:Nat))]
def crC.H0(a:Crs):An:=CH a.1.1 a.1.2++[(3,(false,.view (Af.c a.2.1)))]
def Zc(a:Crs)(j:Nat):Ai (crC.H0 a) j=true↔j<4:=by
 simp only[Ai,crC.H0,CH,hget,BZ,E5];by_cases h0:j=0
 .subst h0;simp
 by_cases z:j=1
 .subst z;simp
 by_cases O:j=2
 .subst O;simp
 by_cases Q:j=3
 .subst Q;simp
 .rw[AC _ _ (λe=>h0 e.symm),AC _ _ (λe=>z e.symm),AC _ _ (λe=>O e.symm),AC _ _ (λe=>Q e.symm)];simp;omega
def crC.H1(a:Crs):An:=[(0,(true,.cells 104 [.own 1,.own 4])),(4,(true,.arr 155 2 ((Et a.1.2 (Bl (B3 a.1.1) (some ByteArray.empty) a.2.1 (Ao a.2.1) a.2.2.1 a.2.2.2 4)).map Tile.c)))]
def crC.row:A8:=A7 crC.ca crC.H0 4 (λa=>a.1.2.length<=900000/\eX a.2.1/\a.2.2.1<AZ a.2.1/\a.2.2.2<Ao a.2.1) Bq (λ_=> .im (.tup [])) crC.H1 1000
def crC.ok:AE 63 crC.row:=by
 refine KF (tC decm_.ok (tC prd20.ok (tC and20.ok (tC or20.ok (tC stC.ok tN))))) Tryz.func63 (exB:=λj=>j==4) (R:=λa r=>r= .im (.tup [])) (λ_=>rfl)
  (λa=>by simp[crC.ca,crC.H0,CH,Af.c,A9,AV.bel,Ar,B5,Ca,Ad.nms,Av,AV.nms,Ai,hget]) (λa p hp=> ?_) LeVq ?_
 rotate_left
 intro a Q;simp only[Tryz.f63,crC.ca,crC.H0,crC.H1,CH,Af.c];simp(disch:=omega)only[ZA,simprocAttr];rotate_left
 .simp only[crC.H1,B0,D2,Rl] at hp;rcases hp with rfl|rfl
  .exact .inl ⟨auOm,rfl,rfl⟩
  .exact .inr ⟨auOm,auOm,rfl,rfl⟩
 obtain⟨⟨g,t⟩,f,k,c⟩:=a;obtain⟨h0,⟨h1,h2,h3⟩,h4,h5⟩:=Q;simp only at h0 h1 h2 h3 h4 h5⊢;have hC:Ao f<=7:=by simp only[Ao];omega
 have hR:AZ f<=81:=h3;refine AY.ren ⟨{v:Nat//v<=2},λv=>⟨[(8,.im (.int .i64 v.1)),(0,.ptr 0 0),(1,.ptr 3 0),(2,.im (.int .i64 (k:Nat))),(3,.im (.int .i64 (c:Nat)))],[(0,(true,.cells 104 [.own 1,.own 4])),(1,(true,.arr 151 2 (g.map Ac.c))),(4,(true,.arr 155 2 ((Et t (Bl (B3 g) (some ByteArray.empty) f (Ao f) k c (2*v.1))).map Tile.c))),(3,(false,.view (Af.c f)))],5⟩,λv=>2 - v.1,λv=>⟨by simp[ZG],auSi⟩,⟨⟨0,Ir _⟩,[(4,some 2)],?_⟩,λv=> ?_⟩
 .simp only[AB,Bl,eF,Gl,cB,Nat.mul_zero];simp(disch:=omega)only[ZA,simprocAttr,Af.c,Bf,Af.c]
 obtain⟨v,hv⟩:=v;have ak:IntKind.i64.wrap ((v:Int)+1)=((v+1:Nat):Int):=by rw[AG auOm auOm];omega
 simp(disch:=omega)only[ZA,simprocAttr,Bh,Af.c,AL,Af.c];refine⟨λai=> ?_,λai=> ?_⟩
 .refine AY.ren ⟨{d:Nat//d<=2},λd=>⟨[(9,.im (.int .i64 d.1)),(8,.im (.int .i64 (v:Nat))),(0,.ptr 0 0),(1,.ptr 3 0),(2,.im (.int .i64 (k:Nat))),(3,.im (.int .i64 (c:Nat)))],[(0,(true,.cells 104 [.own 1,.own 5])),(1,(true,.arr 151 2 (g.map Ac.c))),(5,(true,.arr 155 2 ((Et t (Bl (B3 g) (some ByteArray.empty) f (Ao f) k c (2*v+d.1))).map Tile.c))),(3,(false,.view (Af.c f)))],6⟩,λd=>2 - d.1,λd=>⟨by simp[ZG],auSi⟩,⟨⟨0,Ir _⟩,[(5,some 4)],?_⟩,λd=> ?_⟩
  .simp only[AB,lC];simp(disch:=omega)only[ZA,simprocAttr,Af.c,Bf,Af.c]
  obtain⟨d,hd⟩:=d;have z:IntKind.i64.wrap ((d:Int)+1)=((d+1:Nat):Int):=by rw[AG auOm auOm];omega
  have ad:IntKind.i64.wrap ((c:Int)+1)=((c+1:Nat):Int):=by rw[AG auOm auOm];omega
  have ah:IntKind.i64.wrap ((c:Int) - f.Inputs)=(c:Int) - f.Inputs:=AG auOm auOm;have hp:=λa b d=>Vd (f:=f) auOm a b d
  simp(disch:=omega)only[ZZ,simprocAttr,Aa,decm_.q,decm_.fv,prd20.q,prd20.fv,and20.q,and20.fv,or20.q,or20.fv,Af.c,AL,Af.c,Af.d,Af.eta,Ag.d_R,Ag.c,Ag.d,Ag.eta,ad,ah,hp];have s1:=CN (n:=(k:Int)) auOm auOm;have s2:=CN (n:=(c:Int)) auOm auOm;have s3:=CN (n:=(v:Int)) auOm auOm;have s4:=CN (n:=(d:Int)) auOm auOm;have z1:(⟨#[120]⟩:MM).size=1:=rfl;have z2:(⟨#[95]⟩:MM).size=1:=rfl;have z3:(⟨#[98]⟩:MM).size=1:=rfl;have z4:(⟨#[111]⟩:MM).size=1:=rfl;have hx:(⟨#[120]⟩++BT (k:Nat)++⟨#[95]⟩++BT (c:Nat)++⟨#[95]⟩++BT (v:Nat)++BT (d:Nat):MM)=xN k c v d:=rfl;have ab:(⟨#[98]⟩++BT (d:Nat):MM)=bN d:=rfl;have ag:(⟨#[111]⟩++BT (d:Nat):MM)=oN d:=rfl;have ao:=XQ t (Bl (B3 g) (some ByteArray.empty) f (Ao f) k c (2*v+d));have am:=Oi (B3 g) (some ByteArray.empty) f (Ao f) k c (2*v+d);simp only[hx,ab,ag,Pk,z1,z2,z3,z4];refine⟨λaf=>⟨auOm,auOm,auOm,auOm,auOm,auOm,auOm,auOm,auOm,auOm,⟨⟨⟨auOm,auOm⟩,auOm⟩,auOm,auOm,auOm⟩,λhc=>⟨h4,λq hq=> ?_⟩,λhc=> ?_⟩,λaf=> ?_⟩
  .have Z:=lL hq c v d;have aa:=YO (f:=f) (k:=k) (c:=c) (v:=v) (d:=d) auOm;rw[Z,hp];refine⟨auOm,auOm,⟨⟨⟨auOm,auOm⟩,auOm⟩,auOm,auOm,auOm,auOm⟩,auOm,auOm,?_⟩;refine A7.os ((g,Et t (Bl (B3 g) (some ByteArray.empty) f (Ao f) k c (2*v+d))),xN k c v d,bN d,pE (some ByteArray.empty) (Ao f) k (c+1) (IM f k c v d),bN d,pE (some ByteArray.empty) (Ao f) k c v) [0,1,5] (by simp only;omega) (λj=>HG _ _ j) rfl rfl ?_ ?_
   .simp(disch:=omega)only[ZA,simprocAttr,Aq,CH,stC.ca,stC.H0,CH,BF,CA]
    try exact⟨rfl,rfl⟩
   have hs:EH (Et t (Bl (B3 g) (some ByteArray.empty) f (Ao f) k c (2*v+d))) (Di (B3 g) (xN k c v d) (bN d) (pE (some ByteArray.empty) (Ao f) k (c+1) (IM f k c v d)) (bN d) (pE (some ByteArray.empty) (Ao f) k c v))=Et t (Bl (B3 g) (some ByteArray.empty) f (Ao f) k c (2*v+(d+1))):=by
    rw[<-Rj,iK _ _ _ _ _ _ auOm auOm,<-RO];simp only[En];rw[Bt hc]
   simp(disch:=omega)only[ZA,simprocAttr,Aq,Bq,stC.H1,bS,Bq,BF,CA,hs,z];refine⟨⟨d+1,auOm⟩,[(5,some 6)],by simp only;omega,?_⟩;simp only[AB];simp(disch:=omega)only[ZA,simprocAttr,Bf]
  .have ac:f.Inputs<=c:=auOm;have Z:=orG_F (f:=f) (k:=k) (c:=c) (v:=v) (d:=d) auOm ac;have aa:=nG (f:=f) (k:=k) (c:=c) (v:=v) (d:=d) auOm;have s5:=CN (n:=((N9 f k c v d:Nat):Int)) auOm auOm;have an:=T7 (f:=f) auOm;have O:(⟨#[111]⟩++BT ((N9 f k c v d:Nat):Int):MM)=oN (N9 f k c v d):=rfl;rw[Z,O];refine⟨⟨auOm,auOm⟩,⟨auOm,auOm⟩,auOm,⟨⟨⟨auOm,auOm⟩,auOm⟩,auOm,auOm,auOm⟩,auOm,auOm,?_⟩;refine A7.os ((g,Et t (Bl (B3 g) (some ByteArray.empty) f (Ao f) k c (2*v+d))),xN k c v d,oN (N9 f k c v d),pE (some ByteArray.empty) (Ao f) k (c+1) v,oN d,pE (some ByteArray.empty) (Ao f) k c v) [0,1,5] (by simp only;omega) (λj=>HG _ _ j) rfl rfl ?_ ?_
   .simp(disch:=omega)only[ZA,simprocAttr,Aq,CH,stC.ca,stC.H0,CH,BF,CA]
    try exact⟨rfl,rfl⟩
   have hs:EH (Et t (Bl (B3 g) (some ByteArray.empty) f (Ao f) k c (2*v+d))) (Di (B3 g) (xN k c v d) (oN (N9 f k c v d)) (pE (some ByteArray.empty) (Ao f) k (c+1) v) (oN d) (pE (some ByteArray.empty) (Ao f) k c v))=Et t (Bl (B3 g) (some ByteArray.empty) f (Ao f) k c (2*v+(d+1))):=by
    rw[<-Rj,iK _ _ _ _ _ _ auOm auOm,<-RO];simp only[En];rw[Be hc]
   simp(disch:=omega)only[ZA,simprocAttr,Aq,Bq,stC.H1,bS,Bq,BF,CA,hs,z];refine⟨⟨d+1,auOm⟩,[(5,some 6)],by simp only;omega,?_⟩;simp only[AB];simp(disch:=omega)only[ZA,simprocAttr,Bf]
  .obtain rfl:d=2:=auOm;refine⟨⟨v+1,auOm⟩,[(4,some 5)],by simp only;omega,?_⟩;have aj:2*(v+1)=2*v+2:=auOm;simp only[AB,ak,aj];simp(disch:=omega)only[ZA,simprocAttr,Bf]
 .obtain rfl:v=2:=auOm;refine⟨[],[(4,some 4)],⟨[],[(0,(true,.cells 104 [.own 1,.own 4])),(1,(true,.arr 151 2 (g.map Ac.c))),(4,(true,.arr 155 2 ((Et t (Bl (B3 g) (some ByteArray.empty) f (Ao f) k c 4)).map Tile.c))),(3,(false,.view (Af.c f)))],5⟩,?_,by simp[ZG],auSi,?_⟩
  .simp only[AB];simp(disch:=omega)only[ZA,simprocAttr,Af.c,Bf,Af.c]
  .simp(disch:=omega)only[ZA,simprocAttr,Bq,Af.c,Bq,Af.c]
def sgN.ca(a:Ac):List AV:=[.ptr 0 0,.im (.str a.Name),.im (.int .i64 a.Strength)]
def sgN.H0(_:Ac):An:=[(0,(true,.cells 104 [.im (.sl true 0 []),.im (.sl true 0 [])]))]
def sgN.H1(a:Ac):An:=[(0,(true,.cells 104 [.own 1,.im (.sl true 0 [])])),(1,(true,.arr 151 2 ([a].map Ac.c)))]
def sgN.row:A8:=A7 sgN.ca sgN.H0 1 (λ_=>True) (λj=>j==0) (λ_=> .im (.int .i64 1)) sgN.H1 20
def sgN.ok:AE 59 sgN.row:=by
 refine KF (tC l02GF.ok tN) Tryz.func59 (exB:=λj=>j==1) (R:=λa r=>r= .im (.int .i64 1)) (λ_=>rfl)
  (λa=>by simp[sgN.ca,sgN.H0,A9,AV.bel,Ar,B5,Ca,Ad.nms,Av,AV.nms,Ai,hget]) (λa p hp=> ?_) LeVq ?_
 rotate_left
 intro a z;simp only[Tryz.f59,sgN.ca,sgN.H0,sgN.H1];simp only[ZA,simprocAttr,Aa,l02GF.q,l02GF.fv,Bh,B8,BF,CA];rotate_left
 .simp only[sgN.H1,B0,D2,Rl] at hp;rcases hp with rfl|rfl
  .exact .inl ⟨auOm,rfl,rfl⟩
  .exact .inr ⟨auOm,auOm,rfl,rfl⟩
 rw[Bt (show B3 [] a.Name=0 from rfl)];refine⟨[],[(1,some 2)],⟨[(6,.im (.int .i64 1))],[(0,(true,.cells 104 [.own 1,.im (.sl true 0 [])])),(1,(true,.arr 151 2 ([a].map Ac.c)))],2⟩,?_,by simp[ZG],auSi,?_⟩
 .simp only[AB,Br,Gl,Ac.c];simp only[ZA,simprocAttr,Bf]
 .simp only[ZA,simprocAttr]
def sgM.ca(a:List Ac×Ac):List AV:=[.ptr 0 0,.im (.str a.2.Name),.im (.int .i64 a.2.Strength)]
def sgM.H0(a:List Ac×Ac):An:=[(0,(true,.cells 104 [.own 1,.im (.sl true 0 [])])),(1,(true,.arr 151 2 (a.1.map Ac.c)))]
def sgM.H1(a:List Ac×Ac):An:=[(0,(true,.cells 104 [.own 2,.im (.sl true 0 [])])),(2,(true,.arr 151 2 ((Fw a.1 a.2).map Ac.c)))]
def sgM.row:A8:=A7 sgM.ca sgM.H0 2 (λa=>a.1.length<=1000000) CQ (λa=> .im (.int .i64 (glN a.1 a.2.Name))) sgM.H1 20
def sgM.ok:AE 59 sgM.row:=by
 refine KF (tC l02GF.ok tN) Tryz.func59 (exB:=λj=>j==2) (R:=λa r=>r= .im (.int .i64 (glN a.1 a.2.Name))) (λ_=>rfl)
  (λa=>by simp[sgM.ca,sgM.H0,A9,AV.bel,Ar,B5,Ca,Ad.nms,Av,AV.nms,Ai,hget]) (λa p hp=> ?_) LeVq ?_
 rotate_left
 intro a z;simp only[Tryz.f59,sgM.ca,sgM.H0,sgM.H1];simp only[ZA,simprocAttr,Aa,l02GF.q,l02GF.fv,Bh,B8,BF,CA];rotate_left
 .simp only[sgM.H1,B0,D2,Rl] at hp;rcases hp with rfl|rfl
  .exact .inl ⟨auOm,rfl,rfl⟩
  .exact .inr ⟨auOm,auOm,rfl,rfl⟩
 obtain⟨g,x⟩:=a;simp only at z⊢
 split<;>rename_i c
 .have O:List.map Ac.c g++[[D.str x.Name,D.int .i64 x.Strength]]=(Fw g x).map Ac.c:=by rw[show Fw g x=g++[x] from Bt c,Dj];rfl
  have Z:((((Fw g x).map Ac.c).length:Nat):Int)=glN g x.Name:=by rw[show Fw g x=g++[x] from Bt c,glN,Bt c];simp
  rw[O,Z];refine⟨auOm,λ_=> ?_⟩;refine⟨[],[(2,some 3)],⟨[(6,.im (.int .i64 (glN g x.Name)))],[(0,(true,.cells 104 [.own 2,.im (.sl true 0 [])])),(2,(true,.arr 151 2 ((Fw g x).map Ac.c)))],3⟩,?_,by simp[ZG],auSi,?_⟩
  .simp only[AB];simp only[ZA,simprocAttr,Bf]
  .simp only[ZA,simprocAttr,CQ,CQ]
 .have Q:glN g x.Name=B3 g x.Name:=Be c;have O:Fw g x=g:=Be c;rw[Q];refine⟨[],[(2,some 1)],⟨[(6,.im (.int .i64 (B3 g x.Name)))],[(0,(true,.cells 104 [.own 2,.im (.sl true 0 [])])),(2,(true,.arr 151 2 (g.map Ac.c)))],3⟩,?_,by simp[ZG],auSi,?_⟩
  .simp only[AB];simp only[ZA,simprocAttr,Bf]
  .simp only[ZA,simprocAttr,CQ,CQ,O]
def sgR.row:A8:=fM sgC.row (fM sgN.row sgM.row)
def sgR.ok:AE 59 sgR.row:=KY sgC.ok (KY sgN.ok sgM.ok)
def num1:BT 1=⟨#[49]⟩:=by simp[BT,itoa,decDigits]
def SD:(⟨#[98,48]⟩:MM)=bN 0:=by show _=Bd ⟨#[98]⟩ 0;rw[Bd,ZY];rfl
def SE:(⟨#[98,49]⟩:MM)=bN 1:=by show _=Bd ⟨#[98]⟩ 1;rw[Bd,num1];rfl
def LR:(⟨#[111,48]⟩:MM)=oN 0:=by show _=Bd ⟨#[111]⟩ 0;rw[Bd,ZY];rfl
def UM:(⟨#[111,49]⟩:MM)=oN 1:=by show _=Bd ⟨#[111]⟩ 1;rw[Bd,num1];rfl
def W8:(⟨#[119,48]⟩:MM)=wN 0:=by show _=Bd ⟨#[119]⟩ 0;rw[Bd,ZY];rfl
def Tj:(⟨#[101,48]⟩:MM)=eN 0:=by show _=Bd ⟨#[101]⟩ 0;rw[Bd,ZY];rfl
def bE(x:Ac)(j:Nat):Ai (sgN.H0 x) j=true↔j<1:=by
 simp only[Ai,sgN.H0,hget];by_cases h:j=0
 .subst h;simp
 .rw[AC _ _ (λe=>h e.symm)];simp;omega
def iS(x:List Ac×Ac)(j:Nat):Ai (sgM.H0 x) j=true↔j<2:=by
 simp only[Ai,sgM.H0,hget];by_cases h:j=0
 .subst h;simp
 by_cases z:j=1
 .subst z;simp
 .rw[AC _ _ (λe=>h e.symm),AC _ _ (λe=>z e.symm)];simp;omega
def l20S_.fv(a:Af×(Cz)):AM:=(λf l=>Dc f l) (a.1) (a.2)
def l20S_.row:A8:=vK (b2 (qP 3 Af.d_le) (qS D4 Cq)) (rA AM.d_le) (λa=>eX a.1/\EV a.1.Inputs a.2=true) l20S_.fv
def l20S_.q:=Bg (R:=l20S_.row) rfl
def Yb:=J @prd20.q<|J @prd20.fv.eq_1<|J @decm_.q @decm_.fv.eq_1
def l20S_.ok:AE 25 l20S_.row:=by
 refine vw (tC decm_.ok (tC prd20.ok (tC sgR.ok (tC stC.ok (tC crC.ok (tC syC.ok tN)))))) Tryz.func25 ?_;intro a av;simp only[Tryz.f25];obtain⟨f,l⟩:=a;obtain⟨⟨h1,h2,h3⟩,hb⟩:=av;simp only at h1 h2 h3 hb⊢;have ba: ∀x∈l,0<=x/\x<=1:=λx hx=>by
  simp only[EV,B1,CF] at hb;simpa[B7] using hb.2 x hx
 have bf:(l.length:Int)=f.Inputs:=by
  simp only[EV,B1,CK] at hb;exact hb.1
 simp(disch:=omega)only[ZA,simprocAttr,l20S_.fv,Af.c];simp only[SD];refine .inr (.inl (A7.os (⟨bN 0,1⟩:Ac) [2] trivial (λj=>bE _ j) rfl rfl ?_ ?_))
 .simp(disch:=omega)only[ZA,simprocAttr,sgN.ca,sgN.H0,Du,BF]
  try exact⟨rfl,rfl⟩
 simp(disch:=omega)only[ZA,simprocAttr,sgN.H1,BF];simp only[SE];refine .inr (.inr (A7.os (([⟨bN 0,1⟩]:List Ac),(⟨bN 1,1⟩:Ac)) [2,3] (by simp only[Em,Ed];omega) (λj=>iS _ j) rfl rfl ?_ ?_))
 .simp(disch:=omega)only[ZA,simprocAttr,sgM.ca,sgM.H0,Du,BF,CA,Ac.c]
  try exact⟨rfl,rfl⟩
 simp(disch:=omega)only[ZA,simprocAttr,sgM.H1,CQ,BF];have q1:(Fw [⟨bN 0,1⟩] ⟨bN 1,1⟩).length<=2:=OL [] [⟨bN 0,1⟩,⟨bN 1,1⟩];have q2:(Fw (Fw [⟨bN 0,1⟩] ⟨bN 1,1⟩) ⟨oN 0,1⟩).length<=3:=OL [] [⟨bN 0,1⟩,⟨bN 1,1⟩,⟨oN 0,1⟩];simp only[LR];refine .inr (.inr (A7.os ((Fw [⟨bN 0,1⟩] ⟨bN 1,1⟩:List Ac),(⟨oN 0,1⟩:Ac)) [2,23] (by simp only;omega) (λj=>iS _ j) rfl rfl ?_ ?_))
 .simp(disch:=omega)only[ZA,simprocAttr,sgM.ca,sgM.H0,Du,BF,CA]
  try exact⟨rfl,rfl⟩
 simp(disch:=omega)only[ZA,simprocAttr,sgM.H1,CQ,BF];simp only[UM];refine .inr (.inr (A7.os ((Fw (Fw [⟨bN 0,1⟩] ⟨bN 1,1⟩) ⟨oN 0,1⟩:List Ac),(⟨oN 1,1⟩:Ac)) [2,43] (by simp only;omega) (λj=>iS _ j) rfl rfl ?_ ?_))
 .simp(disch:=omega)only[ZA,simprocAttr,sgM.ca,sgM.H0,Du,BF,CA]
  try exact⟨rfl,rfl⟩
 simp(disch:=omega)only[ZA,simprocAttr,sgM.H1,CQ,BF];have aa:Fw (Fw (Fw [⟨bN 0,1⟩] ⟨bN 1,1⟩) ⟨oN 0,1⟩) ⟨oN 1,1⟩=HB [] Cw:=rfl;have ao:=T7 (f:=f) auOm;have az:2<=Ao f/\Ao f<=7:=by simp only[Ao];omega
 have bd:IntKind.i64.wrap (f.Inputs+(f.Sums.length:Int))=(Ao f:Nat):=by rw[AG auOm auOm,ao]
 have a8:f.Cubes.length=AZ f:=rfl;have am:AZ f<=81:=h3;simp only[aa,bd,a8];have hp:=λa b d=>Vd (f:=f) auOm a b d
 obtain⟨R,hR⟩: ∃R,R=AZ f:=⟨_,rfl⟩;obtain⟨C,hC⟩: ∃C,C=Ao f:=⟨_,rfl⟩;simp only[<-hR,<-hC] at az am hp ao⊢;have z2:(⟨#[95]⟩:MM).size=1:=rfl;intro _;refine AY.ren ⟨{k:Nat//k<=R},λk=>⟨[(8,.im (.int .i64 k.1)),(7,.im (.int .i64 (C:Nat))),(6,.im (.int .i64 (R:Nat))),(5,.ptr 2 0),(4,.ptr 1 0),(0,.ptr 0 0),(1,.im (.sl false 1 (l.map Aj)))],[(2,(true,.cells 104 [.own 100,.own 101])),(100,(true,.arr 151 2 ((HB [] (Cw++CG C k.1)).map Ac.c))),(101,(true,.arr 155 2 (([]:List Tile).map Tile.c))),(1,(true,.cells 46 [.im (.sl true 0 []),.im (.sl true 0 []),.im (.sl true 0 []),.im (.int .i64 0)])),(0,(false,.view (Af.c f)))],102⟩,λk=>R - k.1,λk=>⟨by simp[ZG],auSi⟩,⟨⟨0,Ir _⟩,[(100,some 63),(101,none)],?_⟩,λk=> ?_⟩
 .simp only[AB,CG,JC,L0,C3,Gl];simp(disch:=omega)only[ZA,simprocAttr,Bf,lA,Af.c]
 obtain⟨k,hk⟩:=k;have ab:IntKind.i64.wrap ((k:Int)+1)=((k+1:Nat):Int):=by rw[AG auOm auOm];omega
 simp(disch:=omega)only[ZA,simprocAttr,AL,Af.c];refine⟨λz=> ?_,λz=> ?_⟩
 .refine AY.ren ⟨{c:Nat//c<=C},λc=>⟨[(9,.im (.int .i64 c.1)),(8,.im (.int .i64 (k:Nat))),(7,.im (.int .i64 (C:Nat))),(6,.im (.int .i64 (R:Nat))),(5,.ptr 2 0),(4,.ptr 1 0),(0,.ptr 0 0),(1,.im (.sl false 1 (l.map Aj)))],[(2,(true,.cells 104 [.own 102,.own 101])),(102,(true,.arr 151 2 ((HB [] (Cw++CG C k++CB C k c.1)).map Ac.c))),(101,(true,.arr 155 2 (([]:List Tile).map Tile.c))),(1,(true,.cells 46 [.im (.sl true 0 []),.im (.sl true 0 []),.im (.sl true 0 []),.im (.int .i64 0)])),(0,(false,.view (Af.c f)))],103⟩,λc=>C - c.1,λc=>⟨by simp[ZG],auSi⟩,⟨⟨0,Ir _⟩,[(102,some 100)],?_⟩,λc=> ?_⟩
  .simp only[AB,CB,JC,L0,C3,Gl];simp(disch:=omega)only[ZA,simprocAttr,Bf,Af.c]
  obtain⟨c,hc⟩:=c;have ah:IntKind.i64.wrap ((c:Int)+1)=((c+1:Nat):Int):=by rw[AG auOm auOm];omega
  simp(disch:=omega)only[ZZ,simprocAttr,Aa,Yb,AL,Af.c,Af.d,Af.eta,Ag.d_R];have Q:=OL [] (Cw++CG C k++CB C k c);have ad:CG C k=CG C k:=rfl;rw[BR,BR,IA,RS,Ed,show Cw.length=4 from rfl] at Q;have hm:k*(2*C)<=81*14:=Z7 auOm auOm;refine⟨λag=>⟨⟨⟨⟨auOm,auOm⟩,auOm⟩,auOm,auOm⟩,?_⟩,λag=> ?_⟩
  .have p0:Kd f (k:Nat) (c:Nat) 0=pN k c 0:=(hp k c 0).trans (Be auOm);have p1:Kd f (k:Nat) (c:Nat) 1=pN k c 1:=(hp k c 1).trans (Be auOm);rw[p0];refine .inl (A7.os ((HB [] (Cw++CG C k++CB C k c),([]:List Tile)),(⟨pN k c 0,1⟩:Ac)) [2,102,101] (by simp only;omega) (λj=>HG _ _ j) rfl rfl ?_ ?_)
   .simp(disch:=omega)only[ZA,simprocAttr,sgC.ca,sgC.H0,CH,BF,CA]
    try exact⟨rfl,rfl⟩
   have O:=hZ [] (Cw++CG C k++CB C k c) ⟨pN k c 0,1⟩;simp(disch:=omega)only[ZZ,simprocAttr,Aa,Yb,sgC.H1,CQ,BF,CA,O,Af.c,Af.d,Af.eta,Ag.d_R];refine⟨⟨⟨⟨auOm,auOm⟩,auOm⟩,auOm,auOm⟩,?_⟩;rw[p1];have aq:=OL [] (Cw++CG C k++CB C k c++[⟨pN k c 0,1⟩]);rw[BR,BR,BR,IA,RS,Ed,show Cw.length=4 from rfl,zK] at aq;refine .inl (A7.os ((HB [] (Cw++CG C k++CB C k c++[⟨pN k c 0,1⟩]),([]:List Tile)),(⟨pN k c 1,1⟩:Ac)) [2,103,101] (by simp only;omega) (λj=>HG _ _ j) rfl rfl ?_ ?_)
   .simp(disch:=omega)only[ZA,simprocAttr,sgC.ca,sgC.H0,CH,BF,CA]
    try exact⟨rfl,rfl⟩
   have bc:Fw (HB [] (Cw++CG C k++CB C k c++[⟨pN k c 0,1⟩])) ⟨pN k c 1,1⟩=HB [] (Cw++CG C k++CB C k (c+1)):=by
    rw[hZ,vV];simp only[Gk]
   simp(disch:=omega)only[ZA,simprocAttr,sgC.H1,CQ,BF,CA,bc,ah];refine⟨⟨c+1,auOm⟩,[(102,some 123)],by simp only;omega,?_⟩;simp only[AB];simp(disch:=omega)only[ZA,simprocAttr,Bf]
  .obtain rfl:c=C:=auOm;have ac:Cw++CG c k++CB c k c=Cw++CG c (k+1):=by rw[iR,Gk]
   refine⟨⟨k+1,auOm⟩,[(100,some 102)],by simp only;omega,?_⟩;simp only[AB,ab,ac];simp(disch:=omega)only[ZA,simprocAttr,Bf]
 obtain rfl:R=k:=auOm;clear ab hk z;have hm:R*(2*C)<=81*14:=Z7 auOm auOm;have af:Cw.length=4:=rfl;have ad:=IA C R;refine AY.ren ⟨{k:Nat//k<=R},λk=>⟨[(10,.im (.int .i64 k.1)),(7,.im (.int .i64 (C:Nat))),(6,.im (.int .i64 (R:Nat))),(5,.ptr 2 0),(4,.ptr 1 0),(0,.ptr 0 0),(1,.im (.sl false 1 (l.map Aj)))],[(2,(true,.cells 104 [.own 104,.own 101])),(104,(true,.arr 151 2 ((HB [] (Cw++CG C R++Bx ⟨#[119]⟩ k.1 2)).map Ac.c))),(101,(true,.arr 155 2 (([]:List Tile).map Tile.c))),(1,(true,.cells 46 [.im (.sl true 0 []),.im (.sl true 0 []),.im (.sl true 0 []),.im (.int .i64 0)])),(0,(false,.view (Af.c f)))],105⟩,λk=>R - k.1,λk=>⟨by simp[ZG],auSi⟩,⟨⟨0,Ir _⟩,[(104,some 100)],?_⟩,λk=> ?_⟩
 .simp only[AB,Bx,JC,C3,Gl];simp(disch:=omega)only[ZA,simprocAttr,Bf,Af.c]
 obtain⟨k,hk⟩:=k;have ik:=CN (n:=(k:Int)) auOm auOm;have Q:=OL [] (Cw++CG C R++Bx ⟨#[119]⟩ k 2);simp only[BR,RN,Ed,af,ad] at Q;have sW:(⟨#[119]⟩:MM).size=1:=rfl;have hw:IntKind.i64.wrap ((k:Int)+1)=((k+1:Nat):Int):=by rw[AG auOm auOm];omega
 simp(disch:=omega)only[ZA,simprocAttr,Aa,Yb,AL,Af.c];refine⟨λz=>⟨auOm,auOm,?_⟩,λz=> ?_⟩
 .simp only[uS];refine .inl (A7.os ((HB [] (Cw++CG C R++Bx ⟨#[119]⟩ k 2),([]:List Tile)),(⟨Bd ⟨#[119]⟩ k,2⟩:Ac)) [2,104,101] (by simp only;omega) (λj=>HG _ _ j) rfl rfl ?_ ?_)
  .simp(disch:=omega)only[ZA,simprocAttr,sgC.ca,sgC.H0,CH,BF,CA]
   try exact⟨rfl,rfl⟩
  have O:=MW [] (Cw++CG C R) ⟨#[119]⟩ k 2;simp(disch:=omega)only[ZA,simprocAttr,sgC.H1,CQ,BF,CA,hw,O];refine⟨⟨k+1,auOm⟩,[(104,some 105)],by simp only;omega,?_⟩;simp only[AB];simp(disch:=omega)only[ZA,simprocAttr,Bf]
 obtain rfl:R=k:=auOm;clear Q ik hw hk z sW;refine AY.ren ⟨{k:Nat//k<=C},λk=>⟨[(11,.im (.int .i64 k.1)),(7,.im (.int .i64 (C:Nat))),(6,.im (.int .i64 (R:Nat))),(5,.ptr 2 0),(4,.ptr 1 0),(0,.ptr 0 0),(1,.im (.sl false 1 (l.map Aj)))],[(2,(true,.cells 104 [.own 106,.own 101])),(106,(true,.arr 151 2 ((HB [] (Cw++CG C R++Bx ⟨#[119]⟩ R 2++Bx ⟨#[101]⟩ k.1 2)).map Ac.c))),(101,(true,.arr 155 2 (([]:List Tile).map Tile.c))),(1,(true,.cells 46 [.im (.sl true 0 []),.im (.sl true 0 []),.im (.sl true 0 []),.im (.int .i64 0)])),(0,(false,.view (Af.c f)))],107⟩,λk=>C - k.1,λk=>⟨by simp[ZG],auSi⟩,⟨⟨0,Ir _⟩,[(106,some 104)],?_⟩,λk=> ?_⟩
 .simp only[AB,show Bx ⟨#[101]⟩ 0 2=[] from rfl,C3,Gl];simp(disch:=omega)only[ZA,simprocAttr,Bf,Af.c]
 obtain⟨k,hk⟩:=k;have ik:=CN (n:=(k:Int)) auOm auOm;have Q:=OL [] (Cw++CG C R++Bx ⟨#[119]⟩ R 2++Bx ⟨#[101]⟩ k 2);simp only[BR,RN,Ed,af,ad] at Q;have sW:(⟨#[101]⟩:MM).size=1:=rfl;have hw:IntKind.i64.wrap ((k:Int)+1)=((k+1:Nat):Int):=by rw[AG auOm auOm];omega
 simp(disch:=omega)only[ZA,simprocAttr,Aa,Yb,AL,Af.c];refine⟨λz=>⟨auOm,auOm,?_⟩,λz=> ?_⟩
 .simp only[uS];refine .inl (A7.os ((HB [] (Cw++CG C R++Bx ⟨#[119]⟩ R 2++Bx ⟨#[101]⟩ k 2),([]:List Tile)),(⟨Bd ⟨#[101]⟩ k,2⟩:Ac)) [2,106,101] (by simp only;omega) (λj=>HG _ _ j) rfl rfl ?_ ?_)
  .simp(disch:=omega)only[ZA,simprocAttr,sgC.ca,sgC.H0,CH,BF,CA]
   try exact⟨rfl,rfl⟩
  have O:=MW [] (Cw++CG C R++Bx ⟨#[119]⟩ R 2) ⟨#[101]⟩ k 2;simp(disch:=omega)only[ZA,simprocAttr,sgC.H1,CQ,BF,CA,hw,O];refine⟨⟨k+1,auOm⟩,[(106,some 107)],by simp only;omega,?_⟩;simp only[AB];simp(disch:=omega)only[ZA,simprocAttr,Bf]
 obtain rfl:C=k:=auOm;clear Q ik hw hk z sW;have ak:Cw++CG C R++Bx ⟨#[119]⟩ R 2++Bx ⟨#[101]⟩ C 2=D3 R C:=rfl;obtain⟨G,hG⟩: ∃G,G=HB [] (D3 R C):=⟨_,rfl⟩;simp only[ak,<-hG,W8,Tj,zJ];clear ak ad af aa;refine A7.os ((G,([]:List Tile)),⟨#[99,111,114,110,101,114]⟩,wN 0,eN 0,ByteArray.empty,ByteArray.empty) [2,106,101] (by simp only[Ed];omega) (λj=>HG _ _ j) rfl rfl ?_ ?_
 .simp(disch:=omega)only[ZA,simprocAttr,stC.ca,stC.H0,CH,BF,CA]
  try exact⟨rfl,rfl⟩
 have O:EH [] (Di (B3 G) ⟨#[99,111,114,110,101,114]⟩ (wN 0) (eN 0) ByteArray.empty ByteArray.empty)=Et [] [Kt (B3 G) ByteArray.empty]:=rfl;simp(disch:=omega)only[ZA,simprocAttr,stC.H1,bS,Bq,BF,CA,O];clear O;obtain⟨T1,hT1⟩: ∃T,T=[Kt (B3 G) ByteArray.empty]:=⟨_,rfl⟩;have aw:T1.length=1:=by rw[hT1];rfl
 simp only[<-hT1];refine AY.ren ⟨{k:Nat//k<=R},λk=>⟨[(12,.im (.int .i64 k.1)),(7,.im (.int .i64 (C:Nat))),(6,.im (.int .i64 (R:Nat))),(5,.ptr 2 0),(4,.ptr 1 0),(0,.ptr 0 0),(1,.im (.sl false 1 (l.map Aj)))],[(2,(true,.cells 104 [.own 106,.own 128])),(106,(true,.arr 151 2 (G.map Ac.c))),(128,(true,.arr 155 2 ((Et [] (T1++tW (B3 G) (some ByteArray.empty) ByteArray.empty C k.1)).map Tile.c))),(1,(true,.cells 46 [.im (.sl true 0 []),.im (.sl true 0 []),.im (.sl true 0 []),.im (.int .i64 0)])),(0,(false,.view (Af.c f)))],129⟩,λk=>R - k.1,λk=>⟨by simp[ZG],auSi⟩,⟨⟨0,Ir _⟩,[(128,some 107)],?_⟩,λk=> ?_⟩
 .simp only[AB,show tW (B3 G) (some ByteArray.empty) ByteArray.empty C 0=[] from rfl,C3];simp(disch:=omega)only[ZA,simprocAttr,Bf,Af.c]
 obtain⟨k,hk⟩:=k;have ik:=CN (n:=(k:Int)) auOm auOm;have aj:=CN (n:=((k+1:Nat):Int)) auOm auOm;have Z:=XQ [] (T1++tW (B3 G) (some ByteArray.empty) ByteArray.empty C k);rw[BR,aw,show (tW (B3 G) (some ByteArray.empty) ByteArray.empty C k).length=k by simp[tW],Ed] at Z;have sW:(⟨#[119]⟩:MM).size=1:=rfl;have hw:IntKind.i64.wrap ((k:Int)+1)=((k+1:Nat):Int):=by rw[AG auOm auOm];omega
 simp(disch:=omega)only[ZZ,simprocAttr,Aa,Yb,AL,Af.c,Af.d,Af.eta,Ag.d_R,hw];refine⟨λz=>⟨auOm,auOm,auOm,auOm,⟨⟨⟨auOm,auOm⟩,auOm⟩,auOm⟩,auOm,auOm,?_⟩,λz=> ?_⟩
 .have p1:Kd f (k:Nat) 0 1=pE (some ByteArray.empty) C k 0 1:=hp k 0 1;have n1:(⟨#[119]⟩++BT ((k+1:Nat):Int):MM)=wN (k+1):=rfl;have n0:(⟨#[119]⟩++BT (k:Nat):MM)=wN k:=rfl;rw[p1,n1,n0];refine A7.os ((G,Et [] (T1++tW (B3 G) (some ByteArray.empty) ByteArray.empty C k)),wN k,wN (k+1),pE (some ByteArray.empty) C k 0 1,wN k,ByteArray.empty) [2,106,128] (by simp only;omega) (λj=>HG _ _ j) rfl rfl ?_ ?_
  .simp(disch:=omega)only[ZA,simprocAttr,stC.ca,stC.H0,CH,BF,CA]
   try exact⟨rfl,rfl⟩
  have O:EH (Et [] (T1++tW (B3 G) (some ByteArray.empty) ByteArray.empty C k)) (Di (B3 G) (wN k) (wN (k+1)) (pE (some ByteArray.empty) C k 0 1) (wN k) ByteArray.empty)=Et [] (T1++tW (B3 G) (some ByteArray.empty) ByteArray.empty C (k+1)):=by
   rw[RO,Oj,Gk]
  simp(disch:=omega)only[ZA,simprocAttr,stC.H1,bS,Bq,BF,CA,O];refine⟨⟨k+1,auOm⟩,[(128,some 129)],by simp only;omega,?_⟩;simp only[AB];simp(disch:=omega)only[ZA,simprocAttr,Bf,hw]
 obtain rfl:R=k:=auOm;clear Z ik aj hw hk z sW;obtain⟨T2,hT2⟩: ∃T,T=T1++tW (B3 G) (some ByteArray.empty) ByteArray.empty C R:=⟨_,rfl⟩;have ax:T2.length=1+R:=by rw[hT2,BR,aw];simp[tW]
 simp only[<-hT2];refine AY.ren ⟨{k:Nat//k<=C},λk=>⟨[(13,.im (.int .i64 k.1)),(7,.im (.int .i64 (C:Nat))),(6,.im (.int .i64 (R:Nat))),(5,.ptr 2 0),(4,.ptr 1 0),(0,.ptr 0 0),(1,.im (.sl false 1 (l.map Aj)))],[(2,(true,.cells 104 [.own 106,.own 130])),(106,(true,.arr 151 2 (G.map Ac.c))),(130,(true,.arr 155 2 ((Et [] (T2++tE (B3 G) ByteArray.empty f l k.1)).map Tile.c))),(1,(true,.cells 46 [.im (.sl true 0 []),.im (.sl true 0 []),.im (.sl true 0 []),.im (.int .i64 0)])),(0,(false,.view (Af.c f)))],131⟩,λk=>C - k.1,λk=>⟨by simp[ZG],auSi⟩,⟨⟨0,Ir _⟩,[(130,some 128)],?_⟩,λk=> ?_⟩
 .simp only[AB,show tE (B3 G) ByteArray.empty f l 0=[] from rfl,C3];simp(disch:=omega)only[ZA,simprocAttr,Bf,Af.c]
 obtain⟨k,hk⟩:=k;have ik:=CN (n:=(k:Int)) auOm auOm;have aj:=CN (n:=((k+1:Nat):Int)) auOm auOm;have Z:=XQ [] (T2++tE (B3 G) ByteArray.empty f l k);rw[BR,ax,show (tE (B3 G) ByteArray.empty f l k).length=k by simp[tE],Ed] at Z;have sW:(⟨#[101]⟩:MM).size=1:=rfl;have sB:(⟨#[98]⟩:MM).size=1:=rfl;have hw:IntKind.i64.wrap ((k:Int)+1)=((k+1:Nat):Int):=by rw[AG auOm auOm];omega
 simp(disch:=omega)only[ZA,simprocAttr,Aa,Yb,AL,Af.c,hw];have n1:(⟨#[101]⟩++BT ((k+1:Nat):Int):MM)=eN (k+1):=rfl;have n0:(⟨#[101]⟩++BT (k:Nat):MM)=eN k:=rfl;refine⟨λz=>⟨λai=>⟨auOm,λx hx=> ?_⟩,λai=> ?_⟩,λz=> ?_⟩
 .have be:=ba x (Bj hx);have sx:=CN (n:=x) auOm auOm;have hn:(⟨#[98]⟩++BT x:MM)=LP f l k:=by
   simp only[LP];rw[Bt ai,hx];rfl
  rw[n1,n0,hn];refine⟨⟨auOm,auOm⟩,auOm,auOm,auOm,auOm,auOm,auOm,auOm,?_⟩;refine A7.os ((G,Et [] (T2++tE (B3 G) ByteArray.empty f l k)),eN k,LP f l k,eN (k+1),ByteArray.empty,eN k) [2,106,130] (by simp only;omega) (λj=>HG _ _ j) rfl rfl ?_ ?_
  .simp(disch:=omega)only[ZA,simprocAttr,stC.ca,stC.H0,CH,BF,CA]
   try exact⟨rfl,rfl⟩
  have O:EH (Et [] (T2++tE (B3 G) ByteArray.empty f l k)) (Di (B3 G) (eN k) (LP f l k) (eN (k+1)) ByteArray.empty (eN k))=Et [] (T2++tE (B3 G) ByteArray.empty f l (k+1)):=by
   rw[RO,Yd,Gk]
  simp(disch:=omega)only[ZA,simprocAttr,stC.H1,bS,Bq,BF,CA,O];refine⟨⟨k+1,auOm⟩,[(130,some 131)],by simp only;omega,?_⟩;simp only[AB];simp(disch:=omega)only[ZA,simprocAttr,Bf,hw]
 .have hn:oN 0=LP f l k:=by
   simp only[LP];rw[Be ai]
  rw[n1,n0,hn];refine⟨auOm,auOm,auOm,auOm,auOm,auOm,?_⟩;refine A7.os ((G,Et [] (T2++tE (B3 G) ByteArray.empty f l k)),eN k,LP f l k,eN (k+1),ByteArray.empty,eN k) [2,106,130] (by simp only;omega) (λj=>HG _ _ j) rfl rfl ?_ ?_
  .simp(disch:=omega)only[ZA,simprocAttr,stC.ca,stC.H0,CH,BF,CA]
   try exact⟨rfl,rfl⟩
  have O:EH (Et [] (T2++tE (B3 G) ByteArray.empty f l k)) (Di (B3 G) (eN k) (LP f l k) (eN (k+1)) ByteArray.empty (eN k))=Et [] (T2++tE (B3 G) ByteArray.empty f l (k+1)):=by
   rw[RO,Yd,Gk]
  simp(disch:=omega)only[ZA,simprocAttr,stC.H1,bS,Bq,BF,CA,O];refine⟨⟨k+1,auOm⟩,[(130,some 131)],by simp only;omega,?_⟩;simp only[AB];simp(disch:=omega)only[ZA,simprocAttr,Bf,hw]
 obtain rfl:C=k:=auOm;clear Z ik aj hw hk z sW sB n1 n0;obtain⟨T3,hT3⟩: ∃T,T=T2++tE (B3 G) ByteArray.empty f l C:=⟨_,rfl⟩;have ay:T3.length=1+R+C:=by rw[hT3,BR,ax];simp[tE]
 simp only[<-hT3];refine AY.ren ⟨{k:Nat//k<=R},λk=>⟨[(15,.im (.int .i64 k.1)),(7,.im (.int .i64 (C:Nat))),(6,.im (.int .i64 (R:Nat))),(5,.ptr 2 0),(4,.ptr 1 0),(0,.ptr 0 0),(1,.im (.sl false 1 (l.map Aj)))],[(2,(true,.cells 104 [.own 106,.own 132])),(106,(true,.arr 151 2 (G.map Ac.c))),(132,(true,.arr 155 2 ((Et [] (T3++AT (B3 G) (some ByteArray.empty) f C k.1)).map Tile.c))),(1,(true,.cells 46 [.im (.sl true 0 []),.im (.sl true 0 []),.im (.sl true 0 []),.im (.int .i64 0)])),(0,(false,.view (Af.c f)))],133⟩,λk=>R - k.1,λk=>⟨by simp[ZG],auSi⟩,⟨⟨0,Ir _⟩,[(132,some 130)],?_⟩,λk=> ?_⟩
 .simp only[AB,show AT (B3 G) (some ByteArray.empty) f C 0=[] from rfl,C3];simp(disch:=omega)only[ZA,simprocAttr,Bf,Af.c]
 obtain⟨k,hk⟩:=k;have ab:IntKind.i64.wrap ((k:Int)+1)=((k+1:Nat):Int):=by rw[AG auOm auOm];omega
 simp(disch:=omega)only[ZA,simprocAttr,AL,Af.c];refine⟨λz=> ?_,λz=> ?_⟩
 .refine AY.ren ⟨{c:Nat//c<=C},λc=>⟨[(16,.im (.int .i64 c.1)),(15,.im (.int .i64 (k:Nat))),(7,.im (.int .i64 (C:Nat))),(6,.im (.int .i64 (R:Nat))),(5,.ptr 2 0),(4,.ptr 1 0),(0,.ptr 0 0),(1,.im (.sl false 1 (l.map Aj)))],[(2,(true,.cells 104 [.own 106,.own 134])),(106,(true,.arr 151 2 (G.map Ac.c))),(134,(true,.arr 155 2 ((Et [] (T3++AT (B3 G) (some ByteArray.empty) f C k++Bc (B3 G) (some ByteArray.empty) f C k c.1)).map Tile.c))),(1,(true,.cells 46 [.im (.sl true 0 []),.im (.sl true 0 []),.im (.sl true 0 []),.im (.int .i64 0)])),(0,(false,.view (Af.c f)))],135⟩,λc=>C - c.1,λc=>⟨by simp[ZG],auSi⟩,⟨⟨0,Ir _⟩,[(134,some 132)],?_⟩,λc=> ?_⟩
  .simp only[AB,show Bc (B3 G) (some ByteArray.empty) f C k 0=[] from rfl,C3];simp(disch:=omega)only[ZA,simprocAttr,Bf,Af.c]
  obtain⟨c,hc⟩:=c;have ah:IntKind.i64.wrap ((c:Int)+1)=((c+1:Nat):Int):=by rw[AG auOm auOm];omega
  have Z:=XQ [] (T3++AT (B3 G) (some ByteArray.empty) f C k++Bc (B3 G) (some ByteArray.empty) f C k c);rw[BR,BR,ay,I9,OQ,Ed] at Z;have bb:k*(4*C)<=81*28:=Z7 auOm auOm;simp(disch:=omega)only[ZA,simprocAttr,AL];refine⟨λag=> ?_,λag=> ?_⟩
  .refine A7.os ((G,Et [] (T3++AT (B3 G) (some ByteArray.empty) f C k++Bc (B3 G) (some ByteArray.empty) f C k c)),f,k,c) [2,106,134,0] ⟨by simp only;omega,⟨h1,h2,h3⟩,by simp only;omega,by simp only;omega⟩ (λj=>Zc _ j) rfl rfl ?_ ?_
   .simp(disch:=omega)only[ZA,simprocAttr,crC.ca,crC.H0,CH,BF,CA,Af.c]
    try exact⟨rfl,rfl⟩
   have O:Et (Et [] (T3++AT (B3 G) (some ByteArray.empty) f C k++Bc (B3 G) (some ByteArray.empty) f C k c)) (Bl (B3 G) (some ByteArray.empty) f C k c 4)=Et [] (T3++AT (B3 G) (some ByteArray.empty) f C k++Bc (B3 G) (some ByteArray.empty) f C k (c+1)):=by
    rw[iM];simp only[Et,eJ]
   simp(disch:=omega)only[ZA,simprocAttr,crC.H1,Bq,BF,CA,<-hC,O,ah];refine⟨⟨c+1,auOm⟩,[(134,some 135)],by simp only;omega,?_⟩;simp only[AB];refine⟨by simp(disch:=omega)only[ZA,simprocAttr],by simp(disch:=omega)only[ZA,simprocAttr,Bf],by simp(disch:=omega)only[ZA,simprocAttr],by simp(disch:=omega)only[ZA,simprocAttr,Af.c]⟩
  .obtain rfl:C=c:=auOm;have ac:T3++AT (B3 G) (some ByteArray.empty) f C k++Bc (B3 G) (some ByteArray.empty) f C k C=T3++AT (B3 G) (some ByteArray.empty) f C (k+1):=by rw[iL,Gk]
   refine⟨⟨k+1,auOm⟩,[(132,some 134)],by simp only;omega,?_⟩;simp only[AB,ab,ac];simp(disch:=omega)only[ZA,simprocAttr,Bf,Af.c]
 obtain rfl:R=k:=auOm;clear ab hk z;have a0:G=D3 R C:=by rw[hG,HB,uW _ _ (by simpa using vZ R C)];rfl
 have an:T3++AT (B3 G) (some ByteArray.empty) f C R=ML (B3 G) (some ByteArray.empty) ByteArray.empty f l R C:=by rw[hT3,hT2,hT1];rfl
 have a9:Et [] (T3++AT (B3 G) (some ByteArray.empty) f C R)=ML (B3 G) (some ByteArray.empty) ByteArray.empty f l R C:=by rw[an,Et,uV _ _ (by simpa using PA (B3 G) (some ByteArray.empty) ByteArray.empty f l R C)];rfl
 have au:(T3++AT (B3 G) (some ByteArray.empty) f C R).length<=3000:=by
  have bb:R*(4*C)<=81*28:=Z7 auOm auOm;rw[BR,ay,I9];omega
 rw[an] at au;simp only[a9];refine A7.os (((G,ML (B3 G) (some ByteArray.empty) ByteArray.empty f l R C),0,[0]):Sy) [2,106,132,133] ⟨by simp only;omega,by simp only;omega,by simp only[Em,Ed];omega⟩ (λj=>bX _ j) rfl rfl ?_ ?_
 .simp(disch:=omega)only[ZA,simprocAttr,syC.ca,syC.H0,CH,BF,CA]
  try exact⟨rfl,rfl⟩
 simp(disch:=omega)only[ZA,simprocAttr,syC.H1,syC.r0,BF,CA];subst a0;have hq:Ic 0 [0] 1=[⟨⟨0,0⟩,0⟩]:=rfl;rw[hq,hR,hC];rfl
def bit19.fv(a:Int×(Cz)):Bool:=(EV) (a.1) (a.2)
def bit19.row:A8:=vK (b2 qI (qS D4 Cq)) rB (λa=>True) bit19.fv
def bit19.q:=Bg (R:=bit19.row) rfl
def bit19.ok:AE 55 bit19.row:=by
 refine vw (tC l00In.ok tN) Tryz.func55 ?_;intro a aa;simp only[Tryz.f55];simp(disch:=omega)only[ZA,simprocAttr,bit19.fv];obtain⟨n,l⟩:=a;simp only;simp(disch:=omega)only[simprocAttr,AL];simp only[EV];refine λ_=>⟨λO=> ?_,λO=> ?_⟩
 .rw[Jh O,Da]
 .rw[My (Ch.1 O),CZ];refine AY.old ⟨{k:Nat//k<=l.length/\(l.drop k).all (λx=>B7 x 0 1)=l.all (λx=>B7 x 0 1)},λk=>⟨[(5,.im (.int .i64 k.1)),(4,.im (.bool false)),(0,.im (.int .i64 n)),(1,.im (.sl false 1 (l.map Aj)))],[],0⟩,λk=>l.length - k.1,λk=>⟨by simp[ZG],auSi⟩,⟨⟨0,auSi⟩,by simp(disch:=omega)only[ZA,simprocAttr,sub]⟩,λk=> ?_⟩;obtain⟨k,ab,z⟩:=k;simp(disch:=omega)only[ZA,simprocAttr,l00In.q,l00In.fv,sub,AL];refine λ_=>⟨λZ=>⟨Z,λx hx=> ?_⟩,λZ=> ?_⟩
  .rw[FH hx,E6] at z;have hw:IntKind.i64.wrap ((k:Int)+1)=((k+1:Nat):Int):=by rw[AG auOm auOm];omega
   refine⟨λQ=> ?_,λQ=>⟨⟨k+1,auOm,?_⟩,by simp only;omega,hw⟩⟩
   .rw[Q,Da] at z;exact z
   .rw[(FM _).mp Q,CZ] at z;exact z
  .rw[Bm auOm] at z;exact z
def vW(n:Nat)(m:Int):Dd n m++[F8 m n]=Dd (n+1) m:=by
 simp only[Dd,Xi,Dj,Br,Gl]
def inp19.fv(a:Int×Int):Cz:=(λn m=>Dd n.toNat m) (a.1) (a.2)
def inp19.row:A8:=vK (b2 qI qI) (rS D4 Cq) (λa=>0<=a.1/\a.1<=100) inp19.fv
def inp19.q:=Bg (R:=inp19.row) rfl
def inp19.ok:AE 26 inp19.row:=by
 refine vw tN Tryz.func26 ?_;intro a z;simp only[Tryz.f26];simp(disch:=omega)only[ZA,simprocAttr,inp19.fv];obtain⟨n,m⟩:=a;simp only at z⊢;obtain⟨N,rfl⟩: ∃N:Nat,n=N:=⟨n.toNat,auOm⟩;simp(disch:=omega)only[ZA,simprocAttr];refine AY.ren ⟨{k:Nat//k<=N},λk=>⟨[(6,.im (.int .i64 k.1)),(5,.own 2),(0,.im (.int .i64 (N:Nat))),(1,.im (.int .i64 m))],[(2,(true,.arr 2 1 ((Dd k.1 m).map Aj)))],3⟩,λk=>N - k.1,λk=>⟨by simp[ZG],auSi⟩,⟨⟨0,Ir _⟩,[(2,some 1)],?_⟩,λk=> ?_⟩
 .simp only[AB,show Dd 0 m=[] from rfl,Gl];simp(disch:=omega)only[ZA,simprocAttr]
 obtain⟨k,hk⟩:=k;have hw:IntKind.i64.wrap ((k:Int)+1)=((k+1:Nat):Int):=by rw[AG auOm auOm];omega
 have hl:(Dd k m).length=k:=by simp[Dd]
 simp(disch:=omega)only[ZA,simprocAttr,AL];have Q:F8 m k=Dz .i64 (m.fdiv (2^min k IntKind.i64.bits)) 1:=rfl;rw[<-Q];refine⟨λO=>⟨?_,auOm,⟨k+1,auOm⟩,[(2,some 4)],by simp only;omega,?_⟩,λO=> ?_⟩
 .intro r Z;rw[Am.1 Z];rfl
 .simp only[AB,hw,<-vW,Dj,Br,Gl];simp(disch:=omega)only[ZA,simprocAttr,Aj]
 .obtain rfl:k=N:=auOm;rfl
def vP(n:Int)(p:Option Ag)(q:Ag)(r:List Ag):Hr n p (q::r)=(P4 n q && ((match p with|none=>true|some a=>JK a q) && Hr n (some q) r)):=by cases p<;>rfl
def vY(n:Int)(p:Option Ag):Hr n p []=true:=by cases p<;>rfl
def Gf(l:List Ag)(k:Nat):Option Ag:=if k=0 then none else l[k - 1]?
def XZ{l:List Ag}{k:Nat}{p:Ag}(h:l[k]? =some p):Gf l (k+1)=some p:=by simp[Gf,h]
def frm19.fv(a:Af):Bool:=(EX) a
def frm19.row:A8:=vK (b1 (qP 3 Af.d_le)) rB (λa=>a.Cubes.length<=2000000) frm19.fv
def frm19.q:=Bg (R:=frm19.row) rfl
def frm19.ok:AE 54 frm19.row:=by
 refine vw (tC l00In.ok (tC cub19.ok (tC bef19.ok (tC ris20.ok tN)))) Tryz.func54 ?_;intro a ac;simp only[Tryz.f54];simp(disch:=omega)only[ZA,simprocAttr,frm19.fv,l00In.q,l00In.fv,Af.c,AL];refine⟨λh1 _=>⟨λh2 _=>⟨λh3=> ?_,λh3=> ?_⟩,λh2=> ?_⟩,λh1=> ?_⟩
 .simp only[EX];rw[Jh auOm];simp
 .have g1:1<=a.Inputs/\a.Inputs<=4:=by simpa[B7] using h1
  have g2:1<=a.Sums.length/\a.Sums.length<=3:=by simp only[B7,B1,CK] at h2;omega
  have g3:a.Cubes.length<=81:=auOm;have hB:EX a=(Hr a.Inputs none a.Cubes && a.Sums.all (Fo 0 ((a.Cubes.length:Int) - 1) none)):=by
   simp only[EX];rw[h1,h2,My g3];simp
  rw[hB];refine AY.old ⟨{k:Nat//k<=a.Cubes.length/\Hr a.Inputs (Gf a.Cubes k) (a.Cubes.drop k)=Hr a.Inputs none a.Cubes},λk=>⟨[(3,.im (.int .i64 k.1)),(2,.im (.bool false)),(0,.ptr 0 0)],[(0,(false,.view (Af.c a)))],1⟩,λk=>a.Cubes.length - k.1,λk=>⟨by simp[ZG],auSi⟩,⟨⟨0,by simp[Gf]⟩,by simp(disch:=omega)only[ZA,simprocAttr,sub,Af.c]⟩,λk=> ?_⟩;obtain⟨k,ad,z⟩:=k;simp(disch:=omega)only[ZA,simprocAttr,cub19.q,cub19.fv,bef19.q,bef19.fv,sub,AL,Af.c,Ag.c,Ag.d,Ag.eta];have hw:IntKind.i64.wrap ((k:Int)+1)=((k+1:Nat):Int):=by rw[AG auOm auOm];omega
  refine λ_=>⟨λQ=>⟨Q,λx Z=>⟨?_,?_⟩⟩,λQ=> ?_⟩
  .exact g1
  .rw[FH Z,vP] at z;refine⟨λh4=>⟨λh5=> ?_,λh5=> ?_⟩,λh4=> ?_⟩
   .rw[AG (x:=(k:Int) - 1) auOm auOm];refine⟨auOm,auOm,λy hy=>⟨Q,λx2 ab=> ?_⟩⟩;obtain rfl:x=x2:=AJ (Z.symm.trans ab);have hp:Gf a.Cubes k=some y:=by
     have e:((k:Int) - 1).toNat=k - 1:=auOm;rw[e] at hy;simp only[Gf,hy];rw[Be auOm]
    rw[hp,h4,CZ] at z;simp only at z;refine⟨λh7=> ?_,λh7=>⟨⟨k+1,auOm,?_⟩,by simp only;omega,hw⟩⟩
    .rw[h7,Da] at z;rw[<-z,Da]
    .rw[(FM _).mp h7,CZ] at z;rw[XZ Z];exact z
   .have hp:Gf a.Cubes k=none:=by simp only[Gf];rw[Bt auOm]
    rw[hp,h4,CZ] at z;simp only at z;refine⟨⟨k+1,auOm,?_⟩,by simp only;omega,hw⟩;rw[CZ] at z;rw[XZ Z];exact z
   .rw[Hk.2 h4,Da] at z;rw[<-z,Da]
  .obtain rfl:k=a.Cubes.length:=auOm;rw[Bm (BN _),vY] at z;rw[<-z,CZ];refine AY.old ⟨{k:Nat//k<=a.Sums.length/\(a.Sums.drop k).all (Fo 0 ((a.Cubes.length:Int) - 1) none)=a.Sums.all (Fo 0 ((a.Cubes.length:Int) - 1) none)},λk=>⟨[(4,.im (.int .i64 k.1)),(2,.im (.bool false)),(0,.ptr 0 0)],[(0,(false,.view (Af.c a)))],1⟩,λk=>a.Sums.length - k.1,λk=>⟨by simp[ZG],auSi⟩,⟨⟨0,auSi⟩,by simp(disch:=omega)only[ZA,simprocAttr,sub,Af.c]⟩,λk=> ?_⟩;obtain⟨k,af,O⟩:=k;simp(disch:=omega)only[ZZ,simprocAttr,ris20.q,ris20.fv,sub,AL,Af.c];have aa:IntKind.i64.wrap ((k:Int)+1)=((k+1:Nat):Int):=by rw[AG auOm auOm];omega
   rw[AG (x:=(a.Cubes.length:Int) - 1) auOm auOm];refine λ_=>⟨λQ=>⟨Q,λx Z=> ?_⟩,λQ=> ?_⟩
   .rw[FH Z,E6] at O;refine⟨λh5=> ?_,λh5=>⟨⟨k+1,auOm,?_⟩,by simp only;omega,aa⟩⟩
    .rw[h5,Da] at O;exact O
    .rw[(FM _).mp h5,CZ] at O;exact O
   .rw[Bm auOm] at O;exact O
 .simp only[EX];rw[Hk.2 h2];simp
 .simp only[EX];rw[Hk.2 h1];simp
def ask20.fv(a:Af×(Cz)):Int:=(Hv) (a.1) (a.2)
def ask20.row:A8:=vK (b2 (qP 3 Af.d_le) (qS D4 Cq)) rI (λa=>a.1.Cubes.length<=2000000) ask20.fv
def ask20.q:=Bg (R:=ask20.row) rfl
def ask20.ok:AE 23 ask20.row:=by
 refine vw (tC frm19.ok (tC bit19.ok (tC siz20.ok tN))) Tryz.func23 ?_;intro a z;simp only[Tryz.f23];obtain⟨f,l⟩:=a;simp only at z⊢;simp(disch:=omega)only[ZZ,simprocAttr,ask20.fv,frm19.q,frm19.fv,bit19.q,bit19.fv,siz20.q,siz20.fv,Af.c,AL,Af.d,Af.eta,Ag.d_R];simp only[Hv];have Z:((AZ f*(4*Ao f):Nat):Int)=(AZ f:Int)*(4*(Ao f:Int)):=by push_cast;rfl
 have e2:((AZ f*(2*Ao f):Nat):Int)=(AZ f:Int)*(2*(Ao f:Int)):=by push_cast;rfl
 rw[<-Z,<-e2];refine⟨z,λO=> ?_,λO=>⟨λQ=> ?_,λQ=>⟨MP ((FM _).mp O),λh3=>⟨λh4=> ?_,λh4=> ?_⟩,λh3=> ?_⟩⟩⟩
 .rw[Be (by rw[O];decide)]
 .rw[Bt ((FM _).mp O),Be (by rw[Q];decide)]
 .rw[Bt ((FM _).mp O),Bt ((FM _).mp Q),Be auOm]
 .rw[Bt ((FM _).mp O),Bt ((FM _).mp Q),Bt auOm]
 .rw[Bt ((FM _).mp O),Bt ((FM _).mp Q),Be auOm]
def same00.fv(a:(Cz)×(Cz)):Bool:=(λa b=>decide (a=b)) (a.1) (a.2)
def same00.row:A8:=vK (b2 (qS D4 Cq) (qS D4 Cq)) rB (λa=>True) same00.fv
def same00.q:=Bg (R:=same00.row) rfl
def same00.ok:AE 105 same00.row:=by
 refine vw tN Tryz.func105 ?_;intro a aa;simp only[Tryz.f105];simp only[ZA,simprocAttr,same00.fv];intro h1 h2;simp only[AL];refine⟨λO=> ?_,λO=> ?_⟩
 .have:a.1≠a.2:=λh=>O (by rw[h])
  simp[this]
 have O:a.1.length=a.2.length:=auOm;refine AY.old ⟨{k:Nat//k<=a.1.length/\a.1.take k=a.2.take k},λk=>⟨[(5,.im (.int .i64 k.1)),(4,.im (.bool false)),(0,.im (.sl false 1 (a.1.map Aj))),(1,.im (.sl false 1 (a.2.map Aj)))],[],0⟩,λk=>a.1.length - k.1,λk=>⟨by simp[ZG],BN _⟩,⟨⟨0,auSi⟩,by simp only[ZA,simprocAttr,sub]⟩,λk=> ?_⟩;obtain⟨k,Z,z⟩:=k;simp only[ZA,simprocAttr,sub,AL];intro h1;refine⟨λQ=>⟨Q,λx hx=>⟨auOm,λy hy=> ?_⟩⟩,λQ=> ?_⟩
 .obtain⟨g1,g2⟩:=Lh O Z z hx hy;refine⟨λh=> ?_,λh=>FG Q h1 ⟨auOm,g1 (by simpa using h)⟩⟩
  have:=g2 (by simpa using h)
  simp[this]
 .rw[BE auOm,BE auOm] at z;simp[z]
def Mt(a b:AI):a=b↔a.Glues=b.Glues/\a.Tiles=b.Tiles:=by
 obtain⟨x,y⟩:=a;obtain⟨z,w⟩:=b;simp
def OT(a b:AM):a=b↔a.Set=b.Set/\a.Seed=b.Seed/\a.Temperature=b.Temperature:=by
 obtain⟨x,y,z⟩:=a;obtain⟨u,v,w⟩:=b;simp
def lO(a c:MM):(a==c)=true↔a=c:=by
 obtain⟨x⟩:=a;obtain⟨y⟩:=c;rw[show ((⟨x⟩:MM)==⟨y⟩)=(x==y) from rfl,YI,ByteArray.mk.injEq]
def sQ(x y:Ac):(x.Name==y.Name && x.Strength==y.Strength)=decide (x=y):=by
 obtain⟨a,b⟩:=x;obtain⟨c,d⟩:=y;rw[Iw];simp only[B1,lO,YI,CK,Ac.mk.injEq]
def same02.fv(a:AI×AI):Bool:=(λa b=>decide (a=b)) (a.1) (a.2)
def same02.row:A8:=vK (b2 (qP 2 AI.d_le) (qP 2 AI.d_le)) rB (λa=>True) same02.fv
def same02.q:=Bg (R:=same02.row) rfl
def same02.ok:AE 57 same02.row:=by
 refine vw (tC same00.ok tN) Tryz.func57 ?_;intro a af;simp only[Tryz.f57];simp only[ZA,simprocAttr,same02.fv];simp only[AL];obtain⟨⟨g,t⟩,⟨g2,t2⟩⟩:=a;simp only;have eA: ∀h:g=g2,decide ((⟨g,t⟩:AI)=⟨g2,t2⟩)=decide (t=t2):=λh=>by rw[Iw];simp[h]
 have eB:g≠g2->decide ((⟨g,t⟩:AI)=⟨g2,t2⟩)=false:=λh=>by simp[h]
 refine⟨λhl=>⟨λhm=> ?_,λhm=> ?_⟩,λhl=> ?_⟩
 .have:t≠t2:=λh=>hm (by rw[h])
  simp[this]
 .have hl:g.length=g2.length:=auOm;have hm:t.length=t2.length:=auOm;refine AY.old ⟨{k:Nat//k<=g.length/\g.take k=g2.take k},λk=>⟨[(5,.im (.int .i64 k.1)),(4,.im (.bool false)),(0,.ptr 0 0),(1,.ptr 1 0)],[(0,(false,.view [.sl false 2 (g.map Ac.c),.sl false 2 (t.map Tile.c)])),(1,(false,.view [.sl false 2 (g2.map Ac.c),.sl false 2 (t2.map Tile.c)]))],2⟩,λk=>g.length - k.1,λk=>⟨by simp[ZG],BN _⟩,⟨⟨0,auSi⟩,by simp only[ZA,simprocAttr,sub]⟩,λk=> ?_⟩;obtain⟨k,aa,O⟩:=k;simp only[ZA,simprocAttr,sub,AL];intro h1;refine⟨λz=>⟨z,λx hx=>⟨auOm,λy hy=> ?_⟩⟩,λz=> ?_⟩
  .obtain⟨g1,Z⟩:=Lh hl aa O hx hy;rw[sQ];refine⟨λh=> ?_,λh=>FG z h1 ⟨auOm,g1 (by simpa using h)⟩⟩;rw[eB (Z (by simpa using h))]
  .rw[BE auOm,BE auOm] at O;rw[eA O];refine AY.old ⟨{k:Nat//k<=t.length/\t.take k=t2.take k},λk=>⟨[(6,.im (.int .i64 k.1)),(4,.im (.bool false)),(0,.ptr 0 0),(1,.ptr 1 0)],[(0,(false,.view [.sl false 2 (g.map Ac.c),.sl false 2 (t.map Tile.c)])),(1,(false,.view [.sl false 2 (g2.map Ac.c),.sl false 2 (t2.map Tile.c)]))],2⟩,λk=>t.length - k.1,λk=>⟨by simp[ZG],BN _⟩,⟨⟨0,auSi⟩,by simp only[ZA,simprocAttr,sub]⟩,λk=> ?_⟩;obtain⟨k,ab,Q⟩:=k;simp only[ZA,simprocAttr,same00.q,same00.fv,sub,AL];intro h2;refine⟨λz=>⟨z,λx hx=>⟨auOm,λy hy=> ?_⟩⟩,λz=> ?_⟩
   .obtain⟨g1,Z⟩:=Lh hm ab Q hx hy;refine⟨λh5=>⟨z,λx2 ac=>⟨auOm,λy2 ad=> ?_⟩⟩,λh5=> ?_⟩
    .obtain rfl:x=x2:=AJ (hx.symm.trans ac);obtain rfl:y=y2:=AJ (hy.symm.trans ad);refine⟨λh6=> ?_,λh6=>FG z h2 ⟨auOm,g1 ?_⟩⟩
     .rw[Jh (Z λh=>h6 (by rw[h]))]
     .obtain⟨x0,x1⟩:=x;obtain⟨y0,y1⟩:=y;simp only at h5 h6;rw[h5,Ch.1 h6]
    .rw[Jh (Z λh=>h5 (by rw[h]))]
   .rw[BE auOm,BE auOm] at Q;simp[Q]
 .have:g≠g2:=λh=>hl (by rw[h])
  rw[eB this]
def sysE.fv(a:AM×AM):Bool:=(λa b=>decide (a=b)) (a.1) (a.2)
def sysE.row:A8:=vK (b2 (qR AM.d_le) (qR AM.d_le)) rB (λa=>True) sysE.fv
def sysE.q:=Bg (R:=sysE.row) rfl
def sysE.ok:AE 24 sysE.row:=by
 refine vw (tC same02.ok (tC l03Same.ok tN)) Tryz.func24 ?_;intro a O;simp only[Tryz.f24];simp only[ZA,simprocAttr,AP.d,sysE.fv,same02.q,same02.fv,l03Same.q,l03Same.fv]
 split<;>rename_i c1
 .split<;>rename_i z
  .rw[Iw];simp[OT,c1,z]
  .simp[OT,z]
 .simp[OT,c1]
def MQ{f:Af}{l:Cz}(h:Hv f l=0):EX f=true/\EV f.Inputs l=true:=by
 simp only[Hv] at h;split at h
 .split at h
  .exact⟨by assumption,by assumption⟩
  .omega
 .omega
def sN{n:Int}(h:0<=n)(m:Int):EV n (Dd n.toNat m)=true:=by
 simp only[EV,Dd,Dy,Ro,B1,CK,CF,BY];refine⟨auOm,?_⟩;rintro x ⟨i,_,rfl⟩;rcases M5 m i with e|e<;>rw[e]<;>rfl
def rsS_.fv(a:AM×Af×(Cz)):AM×Int:=(Hd) (a.1) (a.2.1) (a.2.2)
def rsS_.row:A8:=vK (b3 (qR AM.d_le) (qR Af.d_le) (qS D4 Cq)) (r2 (rA AM.d_le) rI) (λa=>a.2.1.Cubes.length<=2000000) rsS_.fv
def rsS_.q:=Bg (R:=rsS_.row) rfl
def rsS_.ok:AE 6 rsS_.row:=by
 refine vw (tC l08Ok.ok (tC ask20.ok (tC sysE.ok (tC l20S_.ok (tC inp19.ok tN))))) Tryz.func6 ?_;intro a z;simp only[Tryz.f6];obtain⟨s,f,l⟩:=a;simp only at z⊢;simp only[ZZ,simprocAttr,rsS_.fv,l08Ok.q,l08Ok.fv,ask20.q,ask20.fv,AL,Af.c,Af.d,Af.eta,Ag.d_R];refine⟨λO=> ?_,λO=>⟨z,λQ=> ?_,λQ=> ?_⟩⟩
 .simp only[Hd];rw[Be (by rw[O];decide)]
 .simp only[Hd];rw[Bt ((FM _).mp O),Be Q]
 have Q:=Ch.1 Q;have O:=(FM _).mp O;obtain⟨h3,h4⟩:=MQ Q;have hK:=MP h3;have hR:Hd s f l=if (List.range (2^f.Inputs.toNat)).any (λn=>decide (Dc f (Dd f.Inputs.toNat n)=s))=true then (Dc f l,0) else (⟨⟨[],[]⟩,⟨[]⟩,0⟩,9):=by
  simp only[Hd];rw[Bt O,Bt Q]
 rw[hR];obtain⟨v1,v2,v3⟩:=LX hK.1;have hv:IntKind.i64.wrap (1*2^min f.Inputs.toNat IntKind.i64.bits)=((2^f.Inputs.toNat:Nat):Int):=by
  have e:IntKind.i64.wrap (1*2^min f.Inputs.toNat IntKind.i64.bits)=EY f.Inputs:=rfl;rw[e,v1];norm_cast
 have hN:(2:Nat)^f.Inputs.toNat<=16:=by
  have e:((2^f.Inputs.toNat:Nat):Int)=EY f.Inputs:=by rw[v1];norm_cast
  omega
 obtain⟨N,hNe⟩: ∃N:Nat,N=2^f.Inputs.toNat:=⟨_,rfl⟩;rw[<-hNe] at hv hN⊢;refine AY.ren ⟨{n:Nat//n<=N/\ ∀j<n,Dc f (Dd f.Inputs.toNat j)≠s},λn=>⟨[(9,.im (.int .i64 n.1)),(7,.im (.int .i64 0)),(6,.ptr 2 0),(4,.ptr 1 0),(3,.ptr 0 0),(2,.im (.sl false 1 (l.map Aj)))],[(2,(true,.cells 46 [.im (.sl true 0 []),.im (.sl true 0 []),.im (.sl true 0 []),.im (.int .i64 0)])),(1,(true,.cells 52 [.im (.int .i64 f.Inputs),.im (.sl false 2 (f.Cubes.map Ag.c)),.im (.sl false 1 (f.Sums.map BD))])),(0,(true,.cells 46 [.im (.sl false 2 (s.Set.Glues.map Ac.c)),.im (.sl false 2 (s.Set.Tiles.map Tile.c)),.im (.sl false 3 (s.Seed.Tiles.map AA.c)),.im (.int .i64 s.Temperature)]))],3⟩,λn=>N - n.1,λn=>⟨by simp[ZG],auSi⟩,⟨⟨0,Ir _,auSi⟩,[],?_⟩,λn=> ?_⟩
 .simp only[AB];simp only[ZA,simprocAttr,Bf]
 obtain⟨n,hn,hq⟩:=n;simp only[ZZ,simprocAttr,sysE.q,sysE.fv,l20S_.q,l20S_.fv,inp19.q,inp19.fv,AL,Af.c,Af.d,Af.eta,Ag.d_R,hv];have hw:IntKind.i64.wrap ((n:Int)+1)=((n+1:Nat):Int):=by rw[AG auOm auOm];omega
 refine⟨auOm,λhk=>⟨⟨auOm,auOm⟩,⟨hK,sN auOm _⟩,λZ=>⟨⟨hK,h4⟩,?_⟩,λZ=>⟨⟨n+1,auOm,λj hj=> ?_⟩,[],by simp only;omega,?_⟩⟩,λhk=> ?_⟩
 .rw[Bt];rw[Sx];exact⟨n,AU.2 hk,by rw[Z];simp⟩
 .rcases (by omega:j<n\/j=n) with h|rfl
  .exact hq j h
  .exact Z
 .simp only[AB,hw];simp only[ZA,simprocAttr,Bf]
 .rw[Be];rw[Sx];rintro⟨j,hj,he⟩;exact hq j (by have:=AU.1 hj;omega) (by simpa using he)
end Go.Ae
namespace Go.Ae
open Go.Proofs
def CE(b n:Nat):List (List AV):=(List.range n).map λi=>[AV.own (b+i)]
def BU(b n:Nat)(M:List (Cz)):An:=AH b n (λi=>(true,.arr 2 1 ((M[i]?.getD []).map Aj)))
def GW(j:Nat):Bool:=Nat.blt j 3||((Nat.ble 100 j && Nat.blt j 164)||(Nat.ble 200 j && Nat.blt j 264))
def Dm(x:Bv)(n:Nat):An:=(0,(true,.cells 261 [.own 1,.own 2]))::(1,(true,.arrA 35 1 (CE 100 n)))::(2,(true,.arrA 35 1 (CE 200 n)))::(BU 100 n x.Room++BU 200 n x.Flow)
def nwC.ca(a:Int×List Ak):List AV:=[.im (.int .i64 a.1),.im (.sl false 3 (a.2.map Ak.c))]
def nwC.H1(a:Int×List Ak):An:=Dm (Ep a.1.toNat a.2) (min a.1.toNat 64)
def N7(a:Int×List Ak):Prop:=0<=a.1/\a.1<=64/\a.2.length<=1000000/\Mm a.1 a.2/\Rb a.2/\ ∀b∈a.2,b.A≠b.B
def nwC.row:A8:=A7 nwC.ca (λ_=>[]) 0 N7 (λ_=>false) (λ_=> .ptr 0 0) nwC.H1 320
def pW(m:Nat): ∀(a b:An),Ar m (a++b)=(Ar m a && Ar m b)
 |[],b=>by simp[Ar]
 |(i,(z,e))::r,b=>by
  have ih:=pW m r b;cases e<;>simp only[BZ,Ar,ih,Zet]
def Qmd(m:Nat): ∀(a b:An),B5 m (a++b)=(B5 m a && B5 m b)
 |[],b=>by simp[B5]
 |(i,(z,e))::r,b=>by simp only[BZ,B5,Qmd m r b,Zet]
def RZ(b n N:Nat)(h:b+n<=N):(CE b n).all (A9 N)=true:=by
 rw[CF];intro r O;obtain⟨i,z,rfl⟩:=BY.1 O
 have:=AU.1 z
 simp[A9,AV.bel];omega
def xC(nx:Nat): ∀(l:List Nat),Fm nx 0 l=true
 |[]=>rfl
 |x::r=>by
  have:(Nat.blt x nx||Nat.ble (nx+0) x)=true:=by
   rw[IK,Mw,Jf];omega
  simp only[Fm,this,xC nx r,Pg]
def Il(b n:Nat):(CE b n).length=n:=by simp[CE]
def Qo7(b n i:Nat)(h:i<n):(CE b n)[i]? =some [.own (b+i)]:=by simp[CE,ER h]
def Qpf(a b:An):DF (a++b)=DF a++DF b:=by
 induction a with
 |nil=>rfl
 |cons x r ih=>obtain⟨i,e⟩:=x;simp only[BZ,DF,ih]
def J7(m:Nat): ∀(a b:An),hget (a++b) m=(hget a m).or (hget b m)
 |[],b=>by simp[hget]
 |(i,e)::r,b=>by
  have ih:=J7 m r b;simp only[BZ,hget];cases i==m<;>simp[ih]
def Qpw(b n:Nat)(M:List (Cz))(i:Nat)(h:i<n):hget (BU b n M) (b+i)=some (true,.arr 2 1 ((M[i]?.getD []).map Aj)):=CY _ _ _ _ h
def Qwa(b n:Nat)(M:List (Cz))(m:Nat)(h:m<b\/b+n<=m):hget (BU b n M) m=none:=Qmh _ _ _ _ h
def jB(k:Nat)(M N:List (Cz))(i:Nat)(h:i<k):hget (BU 100 k M++BU 200 k N) (100+i)=some (true,.arr 2 1 ((M[i]?.getD []).map Aj)):=by
 rw[J7,Qpw _ _ _ _ h];rfl
def jE(k:Nat)(M N:List (Cz))(i:Nat)(z:k<=100)(h:i<k):hget (BU 100 k M++BU 200 k N) (200+i)=some (true,.arr 2 1 ((N[i]?.getD []).map Aj)):=by
 rw[J7,Qwa _ _ _ _ auOm,Qpw _ _ _ _ h];rfl
def Qxa(b n i:Nat)(K:List AV->Prop)(h:i<n):K4 (CE b n) i K=K [.own (b+i)]:=by
 apply propext;unfold K4;rw[Qo7 b n i h];exact⟨λh=>h _ rfl,λh row z=>by obtain rfl:=AJ z;exact h⟩
def jI(s:Az): ∀(a b:An),C5 s (a++b)=(C5 s a/\C5 s b)
 |[],b=>by simp[C5]
 |(i,e)::r,b=>by simp only[BZ,C5,jI s r b,FJ]
def xK(s:Az)(b n:Nat)(M:List (Cz)):C5 s (BU b n M)= ∀i,i<n->hget s.h (b+i)=some (true,.arr 2 1 ((M[i]?.getD []).map Aj)):=by
 have: ∀(f:Nat->Ap) (l:List Nat),C5 s (l.map λi=>(b+i,f i))↔ ∀i∈l,hget s.h (b+i)=some (f i):=by
  intro f l;induction l with
  |nil=>simp[C5]
  |cons i r ih=>simp only[Br,C5,ih,B0,ZdY]
 apply propext;rw[BU,AH,this];simp only[AU]
def Qrm{n:Nat}{bs:List Ak}(O:Mm n bs)(hs:Rb bs)(a b:Nat): ∀k,0<=EG (C4 n bs k) a b/\EG (C4 n bs k) a b<=2000000*(k:Int)
 |0=>by
  simp only[EG,C4,LN,HN,IL];split
  .rw[BG,IL];split<;>simp
  .simp
 |k+1=>by
  have ih:=Qrm O hs a b k;obtain⟨z,_⟩:=Yt O k;simp only[EG,C4] at ih⊢;split
  .rename_i x Q;obtain⟨b1,b2,b3,b4⟩:=O x (Bj Q);have h0:=hs x (Bj Q);simp only[L5];rw[show x.A=(x.A.toNat:Int) by omega,show x.B=(x.B.toNat:Int) by omega];rw[iZ (n:=n) (by rw[cZ];exact z.r) (cW z.rr _ _ _ (by rw[z.r];simp;omega)) _ auOm auOm,iZ z.r z.rr _ auOm auOm]
   split<;>split<;>omega
  .omega
def UK(k:Nat)(Q:k<=64):([0,1,2]++((List.range k).map (100+ ·)++(List.range k).map (200+ ·))).Nodup:=by
 rw[<-Gk];refine dB _ 200 k (dB _ 100 k auSi auSi) ?_;intro x z;rcases BO.1 z with z|z
 .simp at z;omega
 .obtain⟨i,O,rfl⟩:=BY.1 z
  have:=AU.1 O
  show 100+i<200;omega
def UJ(k:Nat)(Q:k<=64): ∀x∈([0,1,2]++((List.range k).map (100+ ·)++(List.range k).map (200+ ·))),x<300:=by
 intro x z;rcases BO.1 z with z|z
 .simp at z;omega
 .rcases BO.1 z with z|z<;>obtain⟨i,O,rfl⟩:=BY.1 z<;>have:=AU.1 O
  .show 100+i<300;omega
  .show 200+i<300;omega
def Qyn{π:List (Nat×Option Nat)}{b:Nat}{g:Nat->Nat}{n:Nat}(h: ∀i,i<n->pm π (b+i)=some (g i)){R:List (List AV)}(hR:R=(List.range n).map λi=>[AV.own (g i)]):Hm π (CE b n) R:=by
 subst hR;rw[Sm];refine⟨by simp[CE],λi x y O Q=> ?_⟩;have z:i<n:=by have:=(Bi.1 O).1;rwa [Il] at this
 rw[Qo7 _ _ _ z] at O;rw[Dp,ER z] at Q;obtain rfl:=AJ O;obtain rfl:=AJ Q;simp only[Dl,mt,h i z,DS,Ly]
def Ql0(b k c:Nat):CE b k++[[.own c]]=(List.range (k+1)).map λi=>[AV.own (if i<k then b+i else c)]:=by
 rw[Xi,Dj,CE];congr 1
 .exact Iu λi z=>by rw[Bt (AU.1 z)]
 .simp
def yC(k:Nat)(M N:List (Cz))(z:k<=64)(tm:TmT)(ht:Cl 300 tm=true):Az.good ⟨tm,(0,(true,.cells 261 [.own 1,.own 2]))::(1,(true,.arrA 35 1 (CE 100 k)))::(2,(true,.arrA 35 1 (CE 200 k)))::(BU 100 k M++BU 200 k N),300⟩=true:=by
 simp only[Az.good,Ar,B5,ht,CZ,pW,Qmd,BU];rw[Ll _ _ _ (λi=>rfl),Ll _ _ _ (λi=>rfl),K2 _ _ _ _ auOm,K2 _ _ _ _ auOm,RZ _ _ _ auOm,RZ _ _ _ auOm];rfl
def LC(o:Nat)(h:GW o=true):o<264:=by
 simp only[GW,IK,B1,Mw,Jf] at h;omega
def eS(i:Nat)(h:i<64):GW (100+i)=true:=by
 simp only[GW,IK,B1,Mw,Jf];omega
def eU(i:Nat)(h:i<64):GW (200+i)=true:=by
 simp only[GW,IK,B1,Mw,Jf];omega
def Quc(h:HpT)(f:AV->Option AV): ∀(a b:An),E4 h f (a++b)↔E4 h f a/\E4 h f b
 |[],b=>by simp[E4]
 |(i,e)::r,b=>by simp only[BZ,E4,Quc h f r b,FJ]
def Qoq(h:HpT)(f:AV->Option AV)(b n:Nat)(M:List (Cz))(H: ∀i,i<n->h (b+i)=some (true,.arr 2 1 ((M[i]?.getD []).map Aj))):E4 h f (BU b n M):=by
 have: ∀(l:List Nat),(∀i∈l,i<n)->E4 h f (l.map λi=>(b+i,(true,Ad.arr 2 1 ((M[i]?.getD []).map Aj)))):=by
  intro l;induction l with
  |nil=>intro _;simp[E4]
  |cons i r ih=>
   intro z;simp only[Br,E4];refine⟨?_,ih (λj Q=>z j (Ah _ Q))⟩;rw[H i (z i (CP ..))];exact⟨rfl,rfl⟩
 exact this _ (λi O=>AU.1 O)
def qV{h:HpT}{kx:Nat->Option Nat}{m b n:Nat}(O: ∀i,i<n->kx (b+i)=some (b+i)):Aw (Aw (Bs h kx (m+1))) (CE b n)=some (CE b n):=by
 refine Sn (g:=λi=>[AV.own (b+i)]) (k:=λi=>[AV.own (b+i)]) _ λi z=> ?_
 simp only[Aw,Bs,O i (AU.1 z),kp]
def UU{x:Bv}{n:Nat}(hn:n<=64){kx:Nat->Option Nat}(O: ∀o,GW o=true->kx o=some o):E4 (hget (Dm x n)) (Bs (hget (Dm x n)) kx 9) (Dm x n):=by
 have k1:kx 1=some 1:=O 1 rfl;have k2:kx 2=some 2:=O 2 rfl;obtain⟨H,hH⟩: ∃H,H=hget (Dm x n):=⟨_,rfl⟩;have g0:H 0=some (true,.cells 261 [.own 1,.own 2]):=by rw[hH];rfl
 have g1:H 1=some (true,.arrA 35 1 (CE 100 n)):=by rw[hH];rfl
 have g2:H 2=some (true,.arrA 35 1 (CE 200 n)):=by rw[hH];rfl
 have ga: ∀i,i<n->H (100+i)=some (true,.arr 2 1 ((x.Room[i]?.getD []).map Aj)):=by
  intro i z;rw[hH];simp only[Dm,hget,AC _ _ (show 0≠100+i by omega),AC _ _ (show 1≠100+i by omega),AC _ _ (show 2≠100+i by omega),Dw];exact jB _ _ _ _ z
 have gb: ∀i,i<n->H (200+i)=some (true,.arr 2 1 ((x.Flow[i]?.getD []).map Aj)):=by
  intro i z;rw[hH];simp only[Dm,hget,AC _ _ (show 0≠200+i by omega),AC _ _ (show 1≠200+i by omega),AC _ _ (show 2≠200+i by omega),Dw];exact jE _ _ _ _ auOm z
 rw[<-hH];simp only[Dm,E4,Quc];refine⟨?_,?_,?_,Qoq _ _ _ _ _ ga,Qoq _ _ _ _ _ gb⟩
 .rw[g0];exact⟨rfl,by simp only[Cd,Aw,Bs,k1,k2,kp];rfl⟩
 .rw[g1];exact⟨rfl,by simp only[Cd];rw[qV (λi z=>O _ (eS i auOm))];rfl⟩
 .rw[g2];exact⟨rfl,by simp only[Cd];rw[qV (λi z=>O _ (eU i auOm))];rfl⟩
def N6{x:Bv}{n:Nat}(hn:n<=64){p:Nat×Ap}(hp:p∈Dm x n):GW p.1=true/\p.2.1=true:=by
 simp only[Dm,B0,BO,BU,AH,BY,AU] at hp;rcases hp with rfl|rfl|rfl|⟨i,z,rfl⟩|⟨i,z,rfl⟩
 .exact⟨rfl,rfl⟩
 .exact⟨rfl,rfl⟩
 .exact⟨rfl,rfl⟩
 .exact⟨eS i auOm,rfl⟩
 .exact⟨eU i auOm,rfl⟩
def nB{a:Int×List Ak}{p:Nat×Ap}(hp:p∈nwC.H1 a):GW p.1=true/\p.2.1=true:=N6 (L4 _ _) hp
def nwC.ok:AE 187 nwC.row:=by
 refine ow tN Tryz.func187 (exB:=GW) (R:=λ_ r=>r= .ptr 0 0) (λ_=>rfl)
  (λa=>by simp[nwC.ca,A9,AV.bel,Ar,B5,Ca]) (λa p hp=> ?_) LeVq ?_
 rotate_left
 intro a aq;simp only[Tryz.f187,nwC.ca];simp(disch:=omega)only[ZA,simprocAttr];obtain⟨h0,Q,hl,Z,ah,ao⟩:=aq;obtain⟨n,hn⟩: ∃n:Nat,a.1=n:=⟨a.1.toNat,auOm⟩;obtain⟨bs,hbsd⟩: ∃bs,bs=a.2:=⟨_,rfl⟩;simp only[<-hbsd] at hl Z ah ao;rw[hn] at h0 Q Z;have hH1:nwC.H1 a=Dm (Ep n bs) n:=by simp only[nwC.H1,hn,Cp,hbsd];rw[ZeQ auOm]
 rw[hH1];clear hH1;simp only[hn,<-hbsd];refine AY.ren ⟨{k:Nat//k<=n},λk=>⟨[(11,.im (.int .i64 k.1)),(10,.im (.int .i64 n)),(5,.ptr 0 0),(0,.im (.int .i64 n)),(1,.im (.sl false 3 (bs.map Ak.c)))],(0,(true,.cells 261 [.own 1,.own 2]))::(1,(true,.arrA 35 1 (CE 100 k.1)))::(2,(true,.arrA 35 1 (CE 200 k.1)))::(BU 100 k.1 (List.replicate n (List.replicate n 0))++BU 200 k.1 (List.replicate n (List.replicate n 0))),300⟩,λk=>n - k.1,λk=>⟨?_,auSi⟩,⟨⟨0,auSi⟩,[(1,none),(2,none)],?_⟩,λk=> ?_⟩
 .exact yC _ _ _ auOm _ (by simp[Cl,AV.bel])
 .simp only[AB,BU,AH,CE,JC,Gl,C3];simp(disch:=omega)only[ZA,simprocAttr,lA]
 obtain⟨k,av⟩:=k;simp(disch:=omega)only[ZA,simprocAttr,Aq,AL,Bb,xC,Pv,L2,E6,J9,RZ,Il];refine⟨λhk=>⟨auOm,auOm,auOm,auOm,⟨k+1,auOm⟩,[(1,some 302),(2,some 305),(100+k,some 300),(200+k,some 303)],by simp only;omega,?_⟩,λhk=> ?_⟩
 .have hg: ∀i,i<n->(List.replicate n (List.replicate n (0:Int)))[i]?.getD []=List.replicate n 0:=by
   intro i z;rw[IL,Bt z,BG]
  have af: ∀i,i<k->pm [(1,some 302),(2,some 305),(100+k,some 300),(200+k,some 303)] (100+i)=some (100+i):=by
   intro i z;simp only[pm];rw[Be auOm,Be auOm,Be auOm,Be auOm]
  have ag: ∀i,i<k->pm [(1,some 302),(2,some 305),(100+k,some 300),(200+k,some 303)] (200+i)=some (200+i):=by
   intro i z;simp only[pm];rw[Be auOm,Be auOm,Be auOm,Be auOm]
  have ac:pm [(1,some 302),(2,some 305),(100+k,some 300),(200+k,some 303)] (100+k)=some 300:=by
   simp only[pm];rw[Be auOm,Be auOm,Bt trivial]
  have ad:pm [(1,some 302),(2,some 305),(100+k,some 300),(200+k,some 303)] (200+k)=some 303:=by
   simp only[pm];rw[Be auOm,Be auOm,Be auOm,Bt trivial]
  have q0:pm [(1,some 302),(2,some 305),(100+k,some 300),(200+k,some 303)] 0=some 0:=by
   simp only[pm];rw[Be auOm,Be auOm,Be auOm,Be auOm]
  have q1:pm [(1,some 302),(2,some 305),(100+k,some 300),(200+k,some 303)] 1=some 302:=rfl;have q2:pm [(1,some 302),(2,some 305),(100+k,some 300),(200+k,some 303)] 2=some 305:=rfl;obtain⟨π,hπ⟩: ∃π,π=[(1,some 302),(2,some 305),(100+k,some 300),(200+k,some 303)]:=⟨_,rfl⟩;rw[<-hπ] at af ag ac ad q0 q1 q2⊢;refine⟨by rw[hπ];exact⟨auOm,auOm,auOm,auOm,trivial⟩,?_,?_,?_⟩
  .rw[Sj,hπ];simp only[DF,Qpf,BU,WK];refine WZ _ _ (UK (k+1) auOm) ?_;intro x hx y hy m ai aj;have ba:=UJ (k+1) auOm x hx;have bb:=UJ (k+1) auOm y hy;simp only[pm] at ai aj
   repeat' split at ai
   all_goals repeat' split at aj
   all_goals simp only[AS] at ai aj
   all_goals omega
  .simp only[EQ,AF];simp(disch:=omega)only[ZA,simprocAttr,q0];rw[AG auOm auOm];omega
  .simp only[F6,Qns,BU,Ys];refine⟨?_,?_,?_,λi z=> ?_,λi z=> ?_⟩
   .simp(disch:=omega)only[ZA,simprocAttr,q0,q1,q2]
   .simp(disch:=omega)only[ZA,simprocAttr,q1];refine Qyn (g:=λi=>if i<k then 100+i else 300) (λi z=> ?_) (Ql0 100 k 300);by_cases h:i<k
    .rw[Bt h,af i h]
    .rw[Be h,show i=k by omega,ac]
   .simp(disch:=omega)only[ZA,simprocAttr,q2];refine Qyn (g:=λi=>if i<k then 200+i else 303) (λi z=> ?_) (Ql0 200 k 303);by_cases h:i<k
    .rw[Bt h,ag i h]
    .rw[Be h,show i=k by omega,ad]
   .by_cases h:i<k
    .rw[af i h,hg i auOm];simp only[Ci,hget,AC _ _ (show 0≠100+i by omega),AC _ _ (show 305≠100+i by omega),AC _ _ (show 303≠100+i by omega),AC _ _ (show 302≠100+i by omega),AC _ _ (show 300≠100+i by omega),Dw,Se];have h9:=jB k (List.replicate n (List.replicate n 0)) (List.replicate n (List.replicate n 0)) i h;simp only[BU] at h9;simp (disch:=omega) only[K8,Xl,AC,YF,BL,HS,h9,hg,D9,Df,Ly]
    .rw[show i=k by omega,ac,hg k auOm];simp(disch:=omega)only[ZA,simprocAttr,xZ]
   .by_cases h:i<k
    .rw[ag i h,hg i auOm];simp only[Ci,hget,AC _ _ (show 0≠200+i by omega),AC _ _ (show 305≠200+i by omega),AC _ _ (show 303≠200+i by omega),AC _ _ (show 302≠200+i by omega),AC _ _ (show 300≠200+i by omega),Dw,Se];have h9:=jE k (List.replicate n (List.replicate n 0)) (List.replicate n (List.replicate n 0)) i auOm h;simp only[BU] at h9;simp (disch:=omega) only[K8,Xl,AC,YF,BL,HS,h9,hg,D9,Df,Ly]
    .rw[show i=k by omega,ad,hg k auOm];simp(disch:=omega)only[ZA,simprocAttr,xZ]
 .intro _;have aw:k=n:=auOm;subst aw;clear hk av;refine AY.old ⟨{j:Nat//j<=bs.length},λj=>⟨[(38,.im (.int .i64 j.1)),(37,.im (.int .i64 bs.length)),(36,.im (.sl false 3 (bs.map Ak.c))),(5,.ptr 0 0)],(0,(true,.cells 261 [.own 1,.own 2]))::(1,(true,.arrA 35 1 (CE 100 k)))::(2,(true,.arrA 35 1 (CE 200 k)))::(BU 100 k (C4 k bs j.1).Room++BU 200 k (C4 k bs j.1).Flow),300⟩,λj=>bs.length - j.1,λj=>⟨?_,auSi⟩,⟨⟨0,auSi⟩,?_⟩,λj=> ?_⟩
  .exact yC _ _ _ auOm _ (by simp[Cl,AV.bel])
  .simp only[sub,H2,C5,AF,hget,jI];simp(disch:=omega)only[ZA,simprocAttr,xK,C4,LN];refine⟨λi z=> ?_,λi z=> ?_⟩
   .rw[Be auOm,Be auOm,Be auOm];exact jB _ _ _ _ z
   .rw[Be auOm,Be auOm,Be auOm];exact jE _ _ _ _ auOm z
  obtain⟨j,hj⟩:=j;obtain⟨ab,_⟩:=Yt Z j;obtain⟨x,hx⟩: ∃x,x=C4 k bs j:=⟨_,rfl⟩;simp only[<-hx] at ab⊢;simp(disch:=omega)only[ZA,simprocAttr,GW,AL,Bb,Il];refine⟨λan=>⟨an,λb hb=> ?_⟩,λan=> ?_⟩
  .obtain⟨b1,b2,b3,b4⟩:=Z b (Bj hb);have a0:=ao b (Bj hb);have a8:=ah b (Bj hb);obtain⟨u,hu⟩: ∃u:Nat,b.A=u:=⟨b.A.toNat,auOm⟩;obtain⟨v,hv⟩: ∃v:Nat,b.B=v:=⟨b.B.toNat,auOm⟩;have aa:u<k:=auOm;have O:v<k:=auOm;have az:u≠v:=auOm;simp only[hu,hv,Cp];refine⟨auOm,auOm,auOm,?_⟩;have hr: ∀i,i<k->(x.Room[i]?.getD []).length=k:=by
    intro i z;rw[Bk (by rw[ab.r];exact z),BG];exact ab.rr _ (Rm _)
   have ax:=hr u aa;have ay:=hr v O;simp(disch:=omega)only[ZA,simprocAttr,sub,J6,Bb,Il,AC,J2,jB,ax,ay,Qxa,iY,Pv,jI,xK];have ak:=Qrm Z ah u v j;have am:=Qrm Z ah v u j;rw[<-hx] at ak am;refine⟨auOm,O,auOm,O,λx1 e1=>⟨O,auOm,O,λx2 _=>⟨.inr auOm,O,O,auOm,aa,auOm,aa,λx3 e3=>⟨aa,auOm,aa,λx4 _=>⟨.inr auOm,⟨j+1,auOm⟩,by simp only;omega,by rw[AG auOm auOm];simp only;omega,?_⟩⟩⟩⟩⟩;have r1:EG x u v=x1:=by simp only[EG,HN,e1,BG]
   have r3:EG x v u=x3:=by simp only[EG,HN,e3,BG]
   rw[r1] at ak;rw[r3] at am;rw[AG auOm auOm,AG auOm auOm];have hN:C4 k bs (j+1)=L5 x b:=by simp only[C4,hb,<-hx]
   have hR: ∀i,i<k->(C4 k bs (j+1)).Room[i]?.getD []=if v=i then (x.Room[v]?.getD []).set u (x3+b.Strength) else if u=i then (x.Room[u]?.getD []).set v (x1+b.Strength) else x.Room[i]?.getD []:=by
    intro i z;rw[hN];simp only[L5,Mp,hu,hv,Cp];by_cases Q:v=i
    .subst Q;rw[Bt rfl,Bo (by rw[EU,ab.r];exact O),BG,DL az,e3,BG]
    .rw[Be Q,DL Q];by_cases h2:u=i
     .subst h2;rw[Bt rfl,Bo (by rw[ab.r];exact aa),BG,e1,BG]
     .rw[Be h2,DL h2]
   have hF:(C4 k bs (j+1)).Flow=x.Flow:=by rw[hN];rfl
   refine⟨λi z=> ?_,λi z=> ?_⟩
   .rw[hR i z];by_cases Q:v=i
    .subst Q;rw[Bt rfl,Bt rfl]
    .rw[Be auOm,Be Q];by_cases h2:u=i
     .subst h2;rw[Bt rfl,Bt rfl]
     .rw[Be auOm,Be h2,Be auOm];exact jB _ _ _ _ z
   .rw[Be auOm,hF];exact jE _ _ _ _ auOm z
  .have au:j=bs.length:=auOm;subst au;rw[hx];exact UU (x:=Ep k bs) (n:=k) auOm (λo ho=>by
    have Q:(Ai [] o||(GW o && (Nat.ble 0 o && Nat.blt o (0+320))))=true:=by
     have h2:=LC o ho;simp[ho];omega
    simp only[Hl,Q,IJ])
 rcases nB hp with ⟨Q,h2⟩
 have a9:=LC p.1 Q;exact .inr ⟨auOm,auOm,Q,h2⟩
structure UH(H:HpT)(x:Bv)(n:Nat):Prop where
 g0:H 0=some (true,.cells 261 [.own 1,.own 2])
 g1:H 1=some (true,.arrA 35 1 (CE 100 n))
 g2:H 2=some (true,.arrA 35 1 (CE 200 n))
 ga: ∀i,i<n->H (100+i)=some (true,.arr 2 1 ((x.Room[i]?.getD []).map Aj))
 gb: ∀i,i<n->H (200+i)=some (true,.arr 2 1 ((x.Flow[i]?.getD []).map Aj))
def VA{M:List (Cz)}{n:Nat}(h:M.length=n):(List.range n).map (λi=>BD (M[i]?.getD []))=M.map BD:=by
 apply Rn;intro i;rw[Dp,Dp];by_cases z:i<n
 .rw[ER z,Bk (by omega:i<M.length)];simp only[CT,Bk (show i<M.length by omega),BG]
 .rw[Gv (by simp;omega),Gv auOm];rfl
def N8{H:HpT}{m b o n:Nat}{M:List (Cz)}(Z:M.length=n)(z:H o=some (true,.arrA 35 1 (CE b n)))(O: ∀i,i<n->H (b+i)=some (true,.arr 2 1 ((M[i]?.getD []).map Aj))):
 bk H (m+2) (.own o)=some (.sl false 1 (M.map BD)):=by
 simp only[bk,z,Lu];rw[CE,Sn (f:=Aw (bk H (m+1))) (g:=λi=>[AV.own (b+i)]) (k:=λi=>BD (M[i]?.getD [])),VA Z]
 .rfl
 .intro i Q;simp only[Aw,bk,O i (AU.1 Q),Lu];rfl
def aD{H:HpT}{x:Bv}{n:Nat}(h:UH H x n)(z:Lr x n)(a b:D):Co H [.ptr 0 0,.im a,.im b]=some [.ptr (Bv.c x),GH a,GH b]:=by
 have O:=N8 (m:=6) z.r h.g1 h.ga;have Q:=N8 (m:=6) z.f h.g2 h.gb;simp only[Co,DX,h.g0,dV,Mv,Aw,O,Q,Kb,CT,HF];rfl
def WB{H:HpT}{x:Bv}{n nx:Nat}{K:Al}(h:UH H x n)(z:Lr x n)(hn:n<=1000){p q:Int}(O:0<=p)(aa:p<n)(Q:0<=q)(ab:q<n)
 (hK: ∀U,K (.im (.sl true 1 ((CS x n p q).map Aj))) {use:=U}):wayC.row [.ptr 0 0,.im (.int .i64 p),.im (.int .i64 q)] H nx K:=by
 have Z:=z.r;rw[wayC.q,aD h z];have e:Bv.d ((Bv.c x).take 2)=some x:=Bv.d_c x;simp only[RV,b3,qP,qI,a3,kP,kI,GH,e,E7,DM];refine⟨⟨Z▸z,auOm,O,auOm,Q,auOm⟩,?_⟩;have e2:wayC.re (wayC.fv (x,p,q))= .sl true 1 ((CS x n p q).map Aj):=by simp only[wayC.re,wayC.fv,Z]
 rw[e2];exact hK _
def sndC.n(a:Bv×Int×Int×Int):Nat:=min a.1.Room.length 64
def Sr(n:Nat)(p q:Int):Nat->Bv->Bv
 |0,x=>x
 |m+1,x=>if CS x n p q=[] then x else Sr n p q m (Iq x (CS x n p q) ((CS x n p q).length - 1))
def sndC.ca(a:Bv×Int×Int×Int):List AV:=[.ptr 0 0,.im (.int .i64 a.2.1),.im (.int .i64 a.2.2.1),.im (.int .i64 a.2.2.2)]
def sndC.H0(a:Bv×Int×Int×Int):An:=Dm a.1 (sndC.n a)
def sndC.H1(a:Bv×Int×Int×Int):An:=BU 200 (sndC.n a) (Sr (sndC.n a) a.2.1 a.2.2.1 a.2.2.2.toNat a.1).Flow
def sndC.r0(a:Bv×Int×Int×Int):AV:= .im (.int .i64 (Hf (sndC.n a) a.2.1 a.2.2.1 a.2.2.2.toNat a.1))
structure VT(a:Bv×Int×Int×Int):Prop where
 n:a.1.Room.length<=64
 ok:Lr a.1 a.1.Room.length
 p0:0<=a.2.1
 p1:a.2.1<a.1.Room.length
 q0:0<=a.2.2.1
 q1:a.2.2.1<a.1.Room.length
 pq:a.2.1≠a.2.2.1
 m0:0<=a.2.2.2
 m1:a.2.2.2<=1000000
 fl: ∃v,Sf (EG a.1) (KB a.1) a.1.Room.length a.2.1.toNat a.2.2.1.toNat v
 rm: ∀u v,EG a.1 u v<=10000000000000
def Ui(j:Nat):Bool:=Nat.ble 200 j && Nat.blt j 264
def sndC.row:A8:=A7 sndC.ca sndC.H0 300 VT Ui sndC.r0 sndC.H1 10
def sndC.hbel(a:Bv×Int×Int×Int):A9 300 (sndC.ca a)=true:=rfl
def sndC.n_le(a:Bv×Int×Int×Int):sndC.n a<=64:=L4 _ _
def tJ(x:Bv)(n:Nat)(hn:n<=64):Ar 300 (Dm x n)=true/\B5 300 (Dm x n)=true:=by
 have:=yC n x.Room x.Flow hn [] rfl
 simp only[Az.good,B1] at this;exact this.2
def sndC.hbH(a:Bv×Int×Int×Int):Ar 300 (sndC.H0 a)=true:=(tJ _ _ (sndC.n_le a)).1
def sndC.hkH(a:Bv×Int×Int×Int):B5 300 (sndC.H0 a)=true:=(tJ _ _ (sndC.n_le a)).2
def WW(x:Bv)(n:Nat)(hn:n<=64):UH (hget (Dm x n)) x n:=by
 refine⟨rfl,rfl,rfl,λi z=> ?_,λi z=> ?_⟩
 .simp only[Dm,hget,AC _ _ (show 0≠100+i by omega),AC _ _ (show 1≠100+i by omega),AC _ _ (show 2≠100+i by omega),Dw];exact jB _ _ _ _ z
 .simp only[Dm,hget,AC _ _ (show 0≠200+i by omega),AC _ _ (show 1≠200+i by omega),AC _ _ (show 2≠200+i by omega),Dw];exact jE _ _ _ _ auOm z
def Qvt(H0:An): ∀(a b:An),Ca H0 (a++b)↔Ca H0 a/\Ca H0 b
 |[],b=>by simp[Ca]
 |(i,(z,e))::r,b=>by simp only[BZ,Ca,Qvt H0 r b,FJ]
def Qud(H0:An)(b n:Nat)(M:List (Cz)):Ca H0 (BU b n M):=by
 have: ∀(l:List Nat),Ca H0 (l.map λi=>(b+i,(true,Ad.arr 2 1 ((M[i]?.getD []).map Aj)))):=by
  intro l;induction l with
  |nil=>simp[Ca]
  |cons i r ih=>simp only[Br,Ca];exact⟨λm hm=>by simp[Ad.nms] at hm,ih⟩
 exact this _
def Qu6(b n:Nat): ∀m∈BI (CE b n),∃i,i<n/\m=b+i:=by
 have: ∀(l:List Nat),(∀i∈l,i<n)-> ∀m∈BI (l.map λi=>[AV.own (b+i)]),∃i,i<n/\m=b+i:=by
  intro l;induction l with
  |nil=>intro _ m hm;simp[BI] at hm
  |cons i r ih=>
   intro z m hm;simp only[Br,BI,Av,AV.nms,C3,BO,Am] at hm;rcases hm with rfl|hm
   .exact⟨i,z i (CP ..),rfl⟩
   .exact ih (λj Q=>z j (Ah _ Q)) m hm
 exact this _ (λi O=>AU.1 O)
def aC(x:Bv)(n:Nat)(hn:n<=64):Ca (Dm x n) (Dm x n):=by
 have z:=WW x n hn;have hd: ∀o e,hget (Dm x n) o=some e->Ai (Dm x n) o=true:=λo e h=>by simp only[Ai,h];rfl
 obtain⟨H,hH⟩: ∃H,H=Dm x n:=⟨_,rfl⟩;rw[<-hH] at z hd;rw[show Ca (Dm x n) (Dm x n)=Ca H (Dm x n) by rw[hH]];simp only[Dm,Ca,Qvt];refine⟨λm hm=> ?_,λm hm=> ?_,λm hm=> ?_,Qud _ _ _ _,Qud _ _ _ _⟩
 .simp only[Ad.nms,Av,AV.nms,C3,BO,Am] at hm;rcases hm with rfl|rfl
  .exact hd _ _ z.g1
  .exact hd _ _ z.g2
 .obtain⟨i,O,rfl⟩:=Qu6 100 n m hm;exact hd _ _ (z.ga i O)
 .obtain⟨i,O,rfl⟩:=Qu6 200 n m hm;exact hd _ _ (z.gb i O)
def Og{s:Az}{x:Bv}{n:Nat}(h:UH (hget s.h) x n):C5 s (Dm x n):=by
 simp only[Dm,C5,jI,xK];exact⟨h.g0,h.g1,h.g2,h.ga,h.gb⟩
def NT(h:HpT)(f:Nat->Bool): ∀(a b:An),I2 h f (a++b)↔I2 h f a/\I2 h f b
 |[],b=>by simp[I2]
 |(i,e)::r,b=>by simp only[BZ,I2,NT h f r b,FJ]
def fG(i:Nat)(h:i<64):Ui (200+i)=true:=by
 simp only[Ui,B1,Jf,Mw];omega
def yX(h:HpT)(f:Nat->Bool)(b:Nat)(g:Nat->Ap)(n:Nat)(H: ∀i,i<n->f (b+i)=true\/h (b+i)=some (g i)):I2 h f (AH b n g):=by
 have: ∀(l:List Nat),(∀i∈l,i<n)->I2 h f (l.map λi=>(b+i,g i)):=by
  intro l;induction l with
  |nil=>intro _;trivial
  |cons i r ih=>
   intro O;simp only[Br,I2];refine⟨?_,ih (λj Z=>O j (Ah _ Z))⟩;rcases H i (O i (CP ..)) with z|z
   .rw[z];trivial
   .cases f (b+i)
    .exact z
    .trivial
 exact this _ (λi Q=>AU.1 Q)
def V7{h:HpT}{n:Nat}(hn:n<=64){M:List (Cz)}(H: ∀i,i<n->h (100+i)=some (true,.arr 2 1 ((M[i]?.getD []).map Aj))):I2 h Ui (BU 100 n M):=yX _ _ _ _ _ (λi z=> .inr (H i z))
def V8{h:HpT}{n:Nat}(hn:n<=64){M:List (Cz)}:I2 h Ui (BU 200 n M):=yX _ _ _ _ _ (λi z=> .inl (fG i auOm))
def sndC.hnm(a:Bv×Int×Int×Int):Ca (sndC.H0 a) (sndC.H0 a):=aC _ _ (sndC.n_le a)
def sndC.ok:AE 188 sndC.row:=by
 refine ow (tC wayC.ok tN) Tryz.func188 (exB:=λ_=>false) (R:=λa r=>r=sndC.r0 a) (λ_=>rfl)
  (λa=>⟨sndC.hbel a,sndC.hbH a,sndC.hkH a,sndC.hnm a⟩) (λa p hp=> ?_) LeVq ?_
 rotate_left
 intro a av;simp only[Tryz.f188,sndC.ca];simp(disch:=omega)only[ZA,simprocAttr];obtain⟨x,p,q,mo⟩:=a;obtain⟨hn,am,ad,aa,af,ag,au,ba,bb,ak,an⟩:=av;simp only at hn am ad aa af ag au ba bb ak an;obtain⟨n,hnn⟩: ∃n,n=x.Room.length:=⟨_,rfl⟩;obtain⟨M,hM⟩: ∃M:Nat,mo=M:=⟨mo.toNat,auOm⟩;subst hM;have be: ∀y:Int×Int×Int,sndC.n (x,y)=n:=λy=>by simp only[sndC.n,<-hnn];omega
 simp only[sndC.H1,sndC.r0,sndC.H0,be,Cp,Dm,Bb];rw[<-hnn] at hn am aa ag ak;refine AY.old ⟨{s:Nat×Bv//s.1<=M/\Lr s.2 n/\s.2.Room=x.Room/\(∃v,Sf (EG x) (KB s.2) n p.toNat q.toNat v)/\Hf n p q M x=Hf n p q (M - s.1) s.2+s.1/\Sr n p q M x=Sr n p q (M - s.1) s.2},λs=>⟨[(9,.im (.int .i64 s.1.1)),(0,.ptr 0 0),(1,.im (.int .i64 p)),(2,.im (.int .i64 q)),(3,.im (.int .i64 M))],Dm s.1.2 n,300⟩,λs=>M - s.1.1,λs=>⟨?_,auSi⟩,⟨⟨(0,x),by simp only;omega,am,rfl,ak,auSi,auSi⟩,?_⟩,λs=> ?_⟩
 .simp only[Dm];exact yC _ _ _ hn _ (by simp[Cl,AV.bel])
 .simp only[sub,H2,AF];refine⟨?_,?_⟩
  .simp(disch:=omega)only[ZA,simprocAttr]
  .exact Og (WW x n hn)
 obtain⟨⟨k,y⟩,i1,i2,i3,i4,i5,i6⟩:=s;simp only at i1 i2 i3 i4 i5 i6;simp only[Dm];simp(disch:=omega)only[ZA,simprocAttr,Bb];refine WB (WW y n hn) i2 auOm ad aa af ag (λU=> ?_);obtain⟨L,hL⟩: ∃L,L=CS y n p q:=⟨_,rfl⟩;rw[<-hL];simp(disch:=omega)only[ZA,simprocAttr,Bb,AL];have ai:(Hf n p q (M - k) y=0)->(Sr n p q (M - k) y=y)->(((bif Ui 0 then True else True)/\(bif Ui 1 then True else True)/\(bif Ui 2 then True else True)/\I2 (hget (Dm y n)) Ui (BU 100 n x.Room++BU 200 n x.Flow))/\(k:Int)=Hf n p q M x/\ ∀kx,E4 (hget (Dm y n)) (Bs (hget (Dm y n)) kx 9) (BU 200 n (Sr n p q M x).Flow)):=by
  intro e1 e2;have hI:=WW y n hn;refine⟨⟨trivial,trivial,trivial,(NT _ _ _ _).2 ⟨V7 hn (λi Q=>by rw[hI.ga i Q,i3]),V8 hn⟩⟩,auOm,λkx=> ?_⟩;rw[i6,e2];exact Qoq _ _ _ _ _ hI.gb
 have ay:(L.map Aj).isEmpty=L.isEmpty:=by cases L<;>rfl
 rw[ay];refine⟨λc1=>⟨λc2=> ?_,λc2=> ?_⟩,λc1=> ?_⟩
 .obtain⟨g1,g2,g3⟩:=ai (by rw[show M - k=0 by omega];rfl) (by rw[show M - k=0 by omega];rfl);exact⟨g1,g2,g3 _⟩
 .have ab:L≠[]:=by intro h;rw[h] at c1;cases c1
  have hW:Ub y n p q L:=by rw[hL];exact WD ad aa af ag (by rw[<-hL];exact ab)
  have bi:=hW.pos;obtain⟨v,hv⟩:=i4;have ao: ∀i,i<L.length-> ∃w:Nat,L[i]? =some (w:Int)/\w<n:=by
   intro i Q
   have:=hW.inb _ (Rm Q)
   refine⟨(L[i]).toNat,by rw[Bk Q];congr 1;omega,auOm⟩
  refine AY.old ⟨{j:Nat//j+1<=L.length},λj=>⟨[(11,.im (.int .i64 ((j.1:Int)+1))),(10,.im (.sl true 1 (L.map Aj))),(9,.im (.int .i64 k)),(0,.ptr 0 0),(1,.im (.int .i64 p)),(2,.im (.int .i64 q)),(3,.im (.int .i64 M))],Dm (Iq y L j.1) n,300⟩,λj=>L.length - j.1,λj=>⟨?_,auSi⟩,⟨⟨0,auOm⟩,?_⟩,λj=> ?_⟩
  .simp only[Dm];exact yC _ _ _ hn _ (by simp[Cl,AV.bel])
  .simp only[sub,H2,AF];refine⟨?_,?_⟩
   .simp(disch:=omega)only[ZA,simprocAttr]
   .exact Og (WW y n hn)
  obtain⟨j,hj⟩:=j;have O:=Qm6 i2 hW.inb j auOm;obtain⟨z,hz⟩: ∃z,z=Iq y L j:=⟨_,rfl⟩;simp only[<-hz] at O⊢;simp only[Dm];have ej:((j:Int)+1).toNat=j+1:=auOm;simp(disch:=omega)only[ZA,simprocAttr,Bb,sub,AL,Il];intro bh;have ew:IntKind.i64.wrap ((j:Int)+1 - 1)=j:=by rw[AG auOm auOm];omega
  have aw:IntKind.i64.wrap ((j:Int)+1+1)=(j:Int)+1+1:=AG auOm auOm;simp only[ew,Cp];refine⟨λa8=> ?_,λa8=> ?_⟩
  .obtain⟨u,ac,hu⟩:=ao j auOm;obtain⟨w,aj,Z⟩:=ao (j+1) auOm;have bf:u≠w:=by
    intro h
    have:=hW.nd j (j+1) auOm auOm (by simp only[Lf,ac,aj,h])
    omega
   have hr: ∀i,i<n->(z.Flow[i]?.getD []).length=n:=by
    intro i Q;rw[Bk (by rw[O.f];exact Q),BG];exact O.ff _ (Rm _)
   have bc:=hr u hu;have bd:=hr w Z;simp only[ac,AS,forall_eq'];simp(disch:=omega)only[ZA,simprocAttr,sub,J6,Bb,Il,AC,J2,jE,ew,aw,ej,ac,aj,forall_eq',bc,bd,Qxa,iY,Pv,jI,xK];have hb: ∀a b,a<n->b<n-> -10000000000002<=KB z a b/\KB z a b<=10000000000002:=by
    intro a b ha hb;have h1:=Qso i2 hW.inb a b j auOm;have h2:=Qr1 (L:=Lf L) (m:=L.length - 1) (λi j Q hj=>hW.nd i j auOm auOm) a b j auOm;have h3:=Qr1 (L:=Lf L) (m:=L.length - 1) (λi j Q hj=>hW.nd i j auOm auOm) b a j auOm;have h4:=wD (Lf L) a b j;have h5:=wD (Lf L) b a j;have h6:=hv.cap a b ha hb;have h7:=hv.cap b a hb ha;have h8:=hv.anti a b ha hb;have h9:=an a b;have bj:=an b a;rw[<-hz] at h1;simp only[KB] at*;omega
   have az:=hb u w hu Z;have a0:=hb w u Z hu;refine⟨auOm,hu,hu,auOm,auOm,auOm,Z,auOm,Z,λx1 e1=>⟨Z,auOm,Z,λ_ _=>⟨.inr auOm,auOm,auOm,Z,Z,auOm,auOm,hu,auOm,hu,λx3 e3=>⟨hu,auOm,hu,λ_ _=>⟨.inr auOm,⟨j+1,auOm⟩,by simp only;omega,by simp only;omega,?_⟩⟩⟩⟩⟩;have r1:KB z u w=x1:=by simp only[KB,HN,e1,BG]
   have r3:KB z w u=x3:=by simp only[KB,HN,e3,BG]
   rw[r1] at az;rw[r3] at a0;rw[AG auOm auOm,AG auOm auOm];have hN:Iq y L (j+1)=O7 z u w:=by simp only[Iq,ac,aj,BG,<-hz]
   have hR: ∀i,i<n->(Iq y L (j+1)).Flow[i]?.getD []=if w=i then (z.Flow[w]?.getD []).set u (x3 - 1) else if u=i then (z.Flow[u]?.getD []).set w (x1+1) else z.Flow[i]?.getD []:=by
    intro i Q;rw[hN];simp only[O7,Mp,Cp];by_cases h1:w=i
    .subst h1;rw[Bt rfl,Bo (by rw[EU,O.f];exact Z),BG,DL bf,e3,BG];rfl
    .rw[Be h1,DL h1];by_cases h2:u=i
     .subst h2;rw[Bt rfl,Bo (by rw[O.f];exact hu),BG,e1,BG]
     .rw[Be h2,DL h2]
   have hF:(Iq y L (j+1)).Room=z.Room:=by rw[hN];rfl
   refine⟨λi Q=> ?_,λi Q=> ?_⟩
   .rw[Be auOm,Be auOm];show _=some (true,Ad.arr _ 1 (List.map Aj ((Iq y L (j+1)).Room[i]?.getD [])));rw[hF];exact jB _ _ _ _ Q
   .show _=some (true,Ad.arr _ 1 (List.map Aj ((Iq y L (j+1)).Flow[i]?.getD [])));rw[hR i Q];by_cases h1:w=i
    .subst h1;rw[Bt rfl,Bt rfl]
    .rw[Be auOm,Be h1];by_cases h2:u=i
     .subst h2;rw[Bt rfl,Bt rfl]
     .rw[Be auOm,Be h2];exact jE _ _ _ _ auOm Q
  .have a9:j=L.length - 1:=auOm;subst a9;obtain⟨m,hm⟩: ∃m,M - k=m+1:=⟨M - k - 1,auOm⟩;have aq: ¬CS y n p q=[]:=by rw[<-hL];exact ab
   have e5:Hf n p q (m+1) y=Hf n p q m z+1:=by simp only[Hf];rw[Be aq,<-hL,<-hz]
   have e6:Sr n p q (m+1) y=Sr n p q m z:=by simp only[Sr];rw[Be aq,<-hL,<-hz]
   rw[hm] at i5 i6;have ah:=(Qun i2 ad aa au af (v:=v) (by rw[show EG y=EG x by funext a b;simp only[EG,i3]];exact hv) hW).2;have bg:z.Room=x.Room:=by rw[hz,Ql3,i3]
   rw[show EG y=EG x by funext a b;simp only[EG,i3],<-hz] at ah;refine⟨⟨(k+1,z),by simp only;omega,O,bg,⟨_,ah⟩,by simp only;rw[show M - (k+1)=m by omega];omega,by simp only;rw[show M - (k+1)=m by omega,i6,e6]⟩,by simp only;omega,?_⟩;refine⟨by rw[AG auOm auOm];simp only;omega,?_⟩;simp only[jI,xK];exact⟨(WW z n hn).ga,(WW z n hn).gb⟩
 .have ab:L=[]:=by
   cases L with
   |nil=>rfl
   |cons a r=>exact absurd rfl c1
  have Z:CS y n p q=[]:=by rw[<-hL,ab]
  have z1: ∀m,Hf n p q m y=0:=by
   intro m;cases m with
   |zero=>rfl
   |succ m=>simp only[Hf];rw[Bt Z]
  have z2: ∀m,Sr n p q m y=y:=by
   intro m;cases m with
   |zero=>rfl
   |succ m=>simp only[Sr];rw[Bt Z]
  obtain⟨g1,g2,g3⟩:=ai (z1 _) (z2 _);exact⟨g1,g2,g3 _⟩
 simp only[sndC.H1,BU,AH,BY,AU] at hp;obtain⟨i,Q,rfl⟩:=hp;have ax:=sndC.n_le a;refine .inl ⟨auOm,by simp only[Ui,B1,Jf,Mw];omega,?_⟩;simp only[Ai,sndC.H0];rw[(WW a.1 (sndC.n a) ax).gb i Q];rfl
def Qwi(h:HpT)(σ:Nat->Nat): ∀(a b:An),Du h σ (a++b)↔Du h σ a/\Du h σ b
 |[],b=>by simp[Du]
 |(i,(z,e))::r,b=>by simp only[BZ,Du,Qwi h σ r b,FJ]
def Qt1{h:HpT}{σ:Nat->Nat}{b n:Nat}{M:List (Cz)}(H: ∀i,i<n->h (σ (b+i))=some (true,.arr 2 1 ((M[i]?.getD []).map Aj))):Du h σ (BU b n M):=by
 have: ∀(l:List Nat),(∀i∈l,i<n)->Du h σ (l.map λi=>(b+i,(true,Ad.arr 2 1 ((M[i]?.getD []).map Aj)))):=by
  intro l;induction l with
  |nil=>intro _;trivial
  |cons i r ih=>
   intro z;simp only[Br,Du];exact⟨H i (z i (CP ..)),ih (λj Q=>z j (Ah _ Q))⟩
 exact this _ (λi O=>AU.1 O)
def Qth{σ:Nat->Nat}{b n:Nat}{M:List (Cz)}(H: ∀i,i<n->σ (b+i)=b+i):AW σ (BU b n M)=BU b n M:=by
 have: ∀(l:List Nat),(∀i∈l,i<n)->AW σ (l.map λi=>(b+i,(true,Ad.arr 2 1 ((M[i]?.getD []).map Aj))))=l.map λi=>(b+i,(true,Ad.arr 2 1 ((M[i]?.getD []).map Aj))):=by
  intro l;induction l with
  |nil=>intro _;rfl
  |cons i r ih=>
   intro z;simp only[Br,AW];rw[H i (z i (CP ..)),ih (λj Q=>z j (Ah _ Q))];rfl
 exact this _ (λi O=>AU.1 O)
def Qj9{σ:Nat->Nat}{b n:Nat}(H: ∀i,i<n->σ (b+i)=b+i):(CE b n).map (AN σ)=CE b n:=by
 simp only[CE,GS];refine Iu λi z=> ?_
 simp only[Function.comp,AN,AV.ren,H i (AU.1 z)]
def Qzq(σ:Nat->Nat): ∀(a b:An),AW σ (a++b)=AW σ a++AW σ b
 |[],b=>rfl
 |(i,(z,e))::r,b=>by simp only[BZ,AW,Qzq σ r b]
def aQ{σ:Nat->Nat}{x:Bv}{n:Nat}(hn:n<=64)(H: ∀j,j<300->σ j=j):AW σ (Dm x n)=Dm x n:=by
 simp only[Dm,AW,Qzq,Ad.ren,AN,AV.ren,H 0 auOm,H 1 auOm,H 2 auOm,Qj9 (b:=100) (n:=n) (λi z=>H (100+i) auOm),Qj9 (b:=200) (n:=n) (λi z=>H (200+i) auOm),Qth (b:=100) (n:=n) (λi z=>H (100+i) auOm),Qth (b:=200) (n:=n) (λi z=>H (200+i) auOm)]
def LQ{x:Bv}{n:Nat}(hn:n<=64){j:Nat}(h:Ai (Dm x n) j=true):j<264/\(200<=j-> ∃i,i<n/\j=200+i)/\j∈[0,1,2]++((List.range n).map (100+ ·)++(List.range n).map (200+ ·)):=by
 have hm:j∈[0,1,2]++((List.range n).map (100+ ·)++(List.range n).map (200+ ·)):=by
  have: ∀(H:An),Ai H j=true->j∈DF H:=by
   intro H;induction H with
   |nil=>intro h;simp[Ai,hget] at h
   |cons e r ih=>
    obtain⟨i,e⟩:=e;intro h;simp only[Ai,hget] at h;simp only[DF,B0];by_cases O:i=j
    .exact .inl O.symm
    .have:(i==j)=false:=by simpa using O
     rw[this] at h;exact .inr (ih h)
  have Z:=this _ h;simp only[Dm,DF,Qpf,BU,WK] at Z;simpa using Z
 refine⟨?_,λz=> ?_,hm⟩
 .have:=UJ n hn j hm
  rcases BO.1 hm with hm|hm
  .simp at hm;omega
  .rcases BO.1 hm with hm|hm<;>obtain⟨i,Q,rfl⟩:=BY.1 hm<;>have:=AU.1 Q
   .show 100+i<264;omega
   .show 200+i<264;omega
 .rcases BO.1 hm with hm|hm
  .simp at hm;omega
  .rcases BO.1 hm with hm|hm<;>obtain⟨i,Q,rfl⟩:=BY.1 hm<;>have:=AU.1 Q
   .have h3:200<=100+i:=z;omega
   .exact⟨i,this,rfl⟩
def PS{kill:List Nat}{nx cnt b n:Nat}{M:List (Cz)}(H: ∀i,i<n->kill.contains (b+i)=true/\b+i<nx):GO kill nx cnt (BU b n M)=true:=by
 have: ∀(l:List Nat),(∀i∈l,i<n)->GO kill nx cnt (l.map λi=>(b+i,(true,Ad.arr 2 1 ((M[i]?.getD []).map Aj))))=true:=by
  intro l;induction l with
  |nil=>intro _;rfl
  |cons i r ih=>
   intro z;simp only[Br,GO,I8,B1,IK,Jf,Mw];exact⟨.inr (H i (z i (CP ..))),ih (λj Q=>z j (Ah _ Q))⟩
 exact this _ (λi O=>AU.1 O)
def VV{H:HpT}{x:Bv}{nx:Nat}{K:Al}{p q Q:Int}(hH:UH H x x.Room.length)(Z:VT (x,p,q,Q))(aa:300<=nx)
 (hK: ∀E:BA,E.cnt=10->E.ok nx (.im (.int .i64 (Hf x.Room.length p q Q.toNat x)))=true->K (.im (.int .i64 (Hf x.Room.length p q Q.toNat x))) E):sndC.row [.ptr 0 0,.im (.int .i64 p),.im (.int .i64 q),.im (.int .i64 Q)] H nx K:=by
 have hn:x.Room.length<=64:=Z.n;have O:sndC.n (x,p,q,Q)=x.Room.length:=by simp only[sndC.n];omega
 have hσ: ∀j,j<300->B2 (λj=>j) 300 nx j=j:=λj hj=>Bt hj
 refine⟨(x,p,q,Q),λj=>j,[0,1,2]++((List.range x.Room.length).map (100+ ·)++(List.range x.Room.length).map (200+ ·)),(List.range x.Room.length).map (200+ ·),Z,?_,?_,?_,?_⟩
 .simp only[sndC.ca,AN,AV.ren,hσ 0 auOm]
 .simp only[sndC.H0,O,Dm,Du,Qwi,Ad.ren,AN,AV.ren,hσ 0 auOm,hσ 1 auOm,hσ 2 auOm,Qj9 (b:=100) (n:=x.Room.length) (λi z=>hσ (100+i) auOm),Qj9 (b:=200) (n:=x.Room.length) (λi z=>hσ (200+i) auOm)];exact⟨hH.g0,hH.g1,hH.g2,Qt1 (λi z=>by rw[hσ _ auOm];exact hH.ga i z),Qt1 (λi z=>by rw[hσ _ auOm];exact hH.gb i z)⟩
 .have hd: ∀j,Ai (sndC.H0 (x,p,q,Q)) j=true->Ai (Dm x x.Room.length) j=true:=λj h=>by simpa only[sndC.H0,O] using h
  refine⟨λi j _ _ h=>h,λj hj=> ?_,λj hj=>(LQ hn (hd j hj)).2.2,λm hm=> ?_,λj hj hk=> ?_⟩
  .have:=(LQ hn (hd j hj)).1
   omega
  .obtain⟨i,z,rfl⟩:=BY.1 hm
   have:=AU.1 z
   refine⟨200+i,?_,fG i auOm,rfl⟩;simp only[Ai,sndC.H0,O];rw[(WW x _ hn).gb i this];rfl
  .simp only[Ui,B1,Jf,Mw] at hk;obtain⟨i,z,rfl⟩:=(LQ hn (hd j hj)).2.1 hk.1;exact BY.2 ⟨i,AU.2 z,rfl⟩
 .have e:(sndC.r0 (x,p,q,Q)).ren (B2 (λj=>j) 300 nx)= .im (.int .i64 (Hf x.Room.length p q Q.toNat x)):=by simp only[sndC.r0,O,AV.ren]
  rw[e];refine hK _ rfl ?_;simp only[BA.ok,AV.bel,CZ,sndC.H1,O];rw[Qth (λi z=>hσ _ auOm),B1];refine⟨Ll _ _ _ (λi=>rfl) _,PS λi z=>⟨?_,auOm⟩⟩;rw[GF];exact BY.2 ⟨i,AU.2 z,rfl⟩
def Qu2(cnt:Nat): ∀(H:An),(∀p∈H,p.1<cnt)->GO [] 0 cnt H=true
 |[],_=>rfl
 |(i,e)::r,h=>by
  have z:=h (i,e) (CP ..);simp only at z;simp only[GO,I8,Qu2 cnt r (λp hp=>h p (Ah _ hp)),Jg,IK,B1,Jf,Mw];exact .inl ⟨auOm,auOm⟩
def UI{x:Bv}{n:Nat}(r:AV)(hn:n<=64)(z:r.bel 320=true){use:List Nat}:BA.ok {use:=use,kill:=[],new:=Dm x n,cnt:=320} 0 r=true:=by
 simp only[BA.ok,Je,z,CZ,B1];refine⟨?_,Qu2 _ _ λp hp=>by have:=LC _ (N6 hn hp).1;omega⟩;simp only[Dm,Ar,pW,BU];rw[Ll _ _ _ (λi=>rfl),Ll _ _ _ (λi=>rfl),RZ _ _ _ auOm,RZ _ _ _ auOm];rfl
def Qt8(n:Nat)(bs:List Ak)(t:Int)(k:Nat)(h:Sk n bs t k=false): ∀m,Sk n bs t (k+m)=false
 |0=>h
 |m+1=>by rw[show k+(m+1)=k+m+1 by omega,Sk,Qt8 n bs t k h m,Da]
def yU(n:Int)(bs:List Ak)(t:Int):Bool:=Sk n.toNat bs t (n.toNat - 1)
def holds_.fv(a:Int×(List Ak)×Int):Bool:=(yU) (a.1) (a.2.1) (a.2.2)
def holds_.row:A8:=vK (b3 qI (qS Ak.d_le Ak.c_n) qI) rB (λa=>N7 (a.1,a.2.1)/\0<=a.2.2/\a.2.2<=1000000) holds_.fv
def holds_.q:=Bg (R:=holds_.row) rfl
def holds_.ok:AE 158 holds_.row:=by
 refine vw (tC nwC.ok (tC sndC.ok tN)) Tryz.func158 ?_;intro a ac;simp only[Tryz.f158];simp only[ZA,simprocAttr,holds_.fv];obtain⟨hp,ad,af⟩:=ac;obtain⟨h0,h1,hl,z,O,Q⟩:=hp;simp only at h0 h1 hl z O Q;obtain⟨n,hn⟩: ∃n:Nat,a.1=n:=⟨a.1.toNat,auOm⟩;obtain⟨bs,hbsd⟩: ∃bs,bs=a.2.1:=⟨_,rfl⟩;obtain⟨t,ht⟩: ∃t,t=a.2.2:=⟨_,rfl⟩;simp only[hn,<-hbsd,<-ht,yU,Cp] at h0 h1 hl z O Q ad af⊢;have Z:N7 ((n:Int),bs):=⟨h0,h1,hl,z,O,Q⟩;refine AY.old ⟨{k:Nat//(k=0\/k+1<=n)/\Sk n bs t k=true},λk=>⟨[(7,.im (.int .i64 ((k.1:Int)+1))),(0,.im (.int .i64 n)),(1,.im (.sl false 3 (bs.map Ak.c))),(2,.im (.int .i64 t))],[],0⟩,λk=>n - k.1,λk=>⟨by simp[ZG],auSi⟩,⟨⟨0,.inl rfl,rfl⟩,by simp only[ZA,simprocAttr,sub]⟩,λk=> ?_⟩;obtain⟨k,aa,ab⟩:=k;simp only[ZA,simprocAttr,AL];refine⟨λhk=> ?_,λhk=> ?_⟩
 .refine A7.os ((n:Int),bs) [] Z (λj=>by simp[Ai,hget]) rfl rfl ?_ ?_
  .simp only[ZA,simprocAttr,nwC.ca]
  .have e1:AW (B2 (IU []) 0 0) (nwC.H1 ((n:Int),bs))=Dm (Ep n bs) n:=by
    simp only[nwC.H1,Cp];rw[ZeQ auOm];exact aQ auOm (λj _=>by simp[B2])
   rw[e1];refine⟨UI _ auOm rfl,?_⟩;simp only[ZA,simprocAttr,Bb];have hr:(Ep n bs).Room.length=n:=(Yt z bs.length).1.r;have hI:=WW (Ep n bs) n auOm;rw[show hget (Dm (Ep n bs) n)=hget (Dm (Ep n bs) n) from rfl];refine VV (x:=Ep n bs) (by rw[hr];exact hI) ?_ auOm (λE ai ag=> ?_)
   .refine⟨by simp only;omega,by simp only[hr];exact (Yt z bs.length).1,auSi,by simp only[hr];omega,by simp only;omega,by simp only[hr];omega,by simp only;omega,ad,af,⟨0,by simp only[hr];exact tA z O _ _⟩,λu v=> ?_⟩
    have:=(Qrm z O u v bs.length).2
    simp only[Ep];omega
   .refine⟨ag,?_⟩;rw[hr];obtain⟨sv,hsv⟩: ∃sv,sv=Hf n 0 ((k:Int)+1) t.toNat (Ep n bs):=⟨_,rfl⟩;rw[<-hsv];have hs:Sk n bs t (k+1)=(Sk n bs t k && decide (t<=sv)):=by rw[hsv];rfl
    rw[ab,CZ] at hs;simp only[ZA,simprocAttr,Az.app,sub,AL];refine⟨λah=> ?_,λah=>⟨⟨k+1,.inr auOm,by rw[hs];exact My auOm⟩,by simp only;omega,by rw[AG auOm auOm];simp only;omega⟩⟩;have h9:=Qt8 n bs t (k+1) (by rw[hs];exact Jh auOm) (n - 1 - (k+1));rw[show k+1+(n - 1 - (k+1))=n - 1 by omega] at h9;exact h9.symm
 .rcases aa with rfl|aa
  .rw[show n - 1=0 by omega];rfl
  .rw[show n - 1=k by omega];exact ab.symm
def Lq(t:Int)(b:Ak):Bool:=decide (b.Strength<t)
def CT1.fv(a:Ak×Int):Bool:=(λb t=>Lq t b) (a.1) (a.2)
def CT1.row:A8:=Cj (b2 (qR Ak.d_le) (qP 1 D4)) rB (λa=>True) CT1.fv
def CT1.q:=Cf (R:=CT1.row) rfl
def CT1.ok:AE 184 CT1.row:=by
 refine EK tN Tryz.func184 ?_;intro a z;simp only[Tryz.f184];simp only[ZA,simprocAttr,CT1.fv,D.sc,D.scs,AO];rfl
def IdxB.ar:List PK->Option ((List Ak)×Int)
 |[.val (.sl _ _ O),.val (.fn 184 [] [.ref [.int .i64 z]])]=>(Ba Ak.d O).bind λQ=>some (Q,z)
 |_=>none
def IdxB.ae(a:(List Ak)×Int):List PK:=[.val (.sl false 3 (a.1.map Ak.c)),.val (.fn 184 [] [.ref [.int .i64 a.2]])]
def IdxB.le: ∀z a,IdxB.ar z=some a->Cu z (IdxB.ae a):=by
 intro z a h;unfold IdxB.ar at h;split at h
 .simp only[DG,AS] at h;obtain⟨O,h0,rfl⟩:=h;exact⟨Fz (Fs Ak.d_le _ _ h0) (by simp only[BY];rintro r ⟨y,_,rfl⟩;rfl),Xc ⟨Le.refl _,trivial⟩,trivial⟩
 .cases h
def IdxB.fv(a:(List Ak)×Int):Int:=(λl t=>BC (Lq t) 0 l) (a.1) (a.2)
def IdxB.row:A8:=Lj IdxB.ar (λa=>True) (λa=>(D.int .i64) (IdxB.fv a))
def IdxB.q:=vqF IdxB.row rfl
def IdxB.ok:AE 197 IdxB.row:=by
 refine Qbn Fc (tC CT1.ok tN) Tryz.func197 rfl (by kernel_rfl) (by kernel_rfl) (ar:=IdxB.ar) (ae:=IdxB.ae) IdxB.le (n:=2) (λ_=>rfl) auDe (rc:=(Eu)) (re:=(D.int .i64)) (Xy) (f:=IdxB.fv) ?_;intro a Q;simp only[Tryz.f197];simp only[ZA,simprocAttr,IdxB.ae,IdxB.fv];intro hn;refine AY.old ⟨{k:Nat//k<=a.1.length/\BC (Lq a.2) k (a.1.drop k)=BC (Lq a.2) 0 a.1},λk=>⟨[(8,.im (.int .i64 k.1)),(7,.im (.int .i64 a.1.length)),(6,.im (.sl false 3 (a.1.map Ak.c))),(4,.im (.int .i64 0)),(0,.im (.sl false 3 (a.1.map Ak.c))),(1,.im (.fn 184 [] [.ref [.int .i64 a.2]]))],[],0⟩,λk=>a.1.length - k.1,λk=>⟨by simp[ZG],BN _⟩,⟨⟨0,auSi⟩,by simp only[ZA,simprocAttr,sub]⟩,λk=> ?_⟩;obtain⟨k,Z,z⟩:=k;simp only[ZA,simprocAttr,Aa,CT1.q,CT1.fv,D.sc,D.scs,AO,sub,AL];refine⟨λO=>⟨O,λx hx=> ?_⟩,λO=> ?_⟩
 .rw[FH hx,BC] at z;refine⟨λh=> ?_,λh=>FG O hn ⟨auOm,by rw[<-z,Be (by simpa using h)]⟩⟩;rw[Bt (by simpa using h)] at z;exact z
 .rw[Bm auOm,BC] at z;exact z
def Qu3{t:Int}{l:List Ak}{i:Nat}{b:Ak}(Z:l.find? (Lq t)=some b)(h2:BC (Lq t) 0 l=(i:Int))(h3:l[i]? =some b):H8 t (l.take (i+1))=l.take i:=by
 have hw:Lq t b=true:=lE Z;have O: ∀(l:List Ak) (o i:Nat),BC (Lq t) o l=((o+i:Nat):Int)-> ∀x∈l.take i,Lq t x=false:=by
  intro l;induction l with
  |nil=>intro o i _ x z;simp at z
  |cons y r ih=>
   intro o i h x z;cases i with
   |zero=>simp at z
   |succ i=>
    simp only[BC] at h;split at h
    .omega
    .rename_i hy;rw[Mx] at z;rcases B0.1 z with rfl|z
     .simpa using hy
     .exact ih (o+1) i (by rw[h];congr 1;omega) x z
 rw[FL,h3,ZdP,H8,List.filter_append];have Q:(l.take i).filter (λb=>decide (t<=b.Strength))=l.take i:=by
  rw[ZdA];intro x z
  have:=O l 0 i (by rw[h2];simp) x z
  simp only[Lq,GU] at this;simp only[CK];omega
 simp only[Lq,CK] at hw;rw[Q,L3 (by simp;omega),List.filter_nil,C3]
def dlC.ca(a:List Ak×Int):List AV:=[.own 0,.im (.fn 184 [] [.ref [.int .i64 a.2]])]
def dlC.H0(a:List Ak×Int):An:=[(0,(true,.arr 196 3 (a.1.map Ak.c)))]
def dlC.H1(a:List Ak×Int):An:=[(1,(true,.arr 196 3 ((H8 a.2 a.1).map Ak.c)))]
def dlC.row:A8:=A7 dlC.ca dlC.H0 1 (λa=>a.1.length<=1000000) (λj=>j==0) (λ_=> .own 1) dlC.H1 1000
def dlC.ok:AE 182 dlC.row:=by
 refine KF (tC IdxB.ok (tC CT1.ok tN)) Tryz.func182 (exB:=λj=>j==1) (R:=λ_ r=>r= .own 1) (λ_=>rfl)
  (λa=>by simp[dlC.ca,dlC.H0,A9,AV.bel,Ar,B5,Ca,Ad.nms,Ai,hget]) (λa p hp=> ?_) LeVq ?_
 rotate_left
 intro a Z;simp only[Tryz.f182,dlC.ca,dlC.H0,dlC.H1];simp only[ZA,simprocAttr,Aa,IdxB.q,IdxB.ar,IdxB.fv,Bh];rcases wB (Lq a.2) a.1 0 with ⟨e1,Q⟩|⟨i0,b0,e1,Q,e3⟩
 .rw[Q,Bt rfl];refine⟨[],[(1,some 0)],⟨[(4,.own 1)],[(1,(true,.arr 196 3 (a.1.map Ak.c)))],2⟩,?_,by simp[ZG],auSi,?_⟩
  .simp only[AB];simp only[ZA,simprocAttr]
  .simp only[ZA,simprocAttr]
   have:H8 a.2 a.1=a.1:=by
    rw[H8,ZdA];intro b hb
    have:=lD.1 e1 b hb
    simp only[Lq,CK] at this⊢;omega
   rw[this]
 .rw[Je] at Q;rw[Q,Be auOm];have aa:=(Bi.1 e3).1;rw[AG auOm auOm];obtain⟨l,hl⟩: ∃l,l=a.1:=⟨_,rfl⟩;obtain⟨t,ht⟩: ∃t,t=a.2:=⟨_,rfl⟩;simp only[<-hl,<-ht] at e1 Q e3 aa Z⊢;refine AY.old ⟨{j:Nat//j<=l.length},λj=>⟨[(6,.im (.int .i64 j.1)),(5,.im (.int .i64 (H8 t (l.take j.1)).length)),(0,.own 0),(1,.im (.fn 184 [] [.ref [.int .i64 t]]))],[(0,(true,.arr 196 3 ((H8 t (l.take j.1)++l.drop (H8 t (l.take j.1)).length).map Ak.c)))],2⟩,λj=>l.length - j.1,λj=>⟨by simp[ZG],auSi⟩,⟨⟨i0+1,auOm⟩,?_⟩,λj=> ?_⟩
  .have h1:=Qu3 e1 Q e3;simp only[ZA,simprocAttr,sub,h1,Eb];rw[show min i0 l.length=i0 by omega,HT];exact⟨⟨auOm,rfl⟩,rfl⟩
  obtain⟨j,hj⟩:=j;obtain⟨kp,hkp⟩: ∃kp,kp=H8 t (l.take j):=⟨_,rfl⟩;have ac:kp.length<=j:=by
   have:=Qln t (l.take j)
   rw[Eb] at this;rw[hkp];omega
  have af:(kp++l.drop kp.length).length=l.length:=by simp;omega
  simp only[<-hkp];simp only[ZA,simprocAttr,Aa,CT1.q,CT1.fv,sub,AL,af];intro _;refine⟨λO=>⟨O,O,λb hb=> ?_⟩,λO=> ?_⟩
  .have ad:l[j]? =some b:=by
    rw[D8 ac,lF,show kp.length+(j - kp.length)=j by omega] at hb;exact hb
   have z:=Qjs t ad;rw[<-hkp] at z;refine⟨λhw=>⟨auOm,auOm,λc _=>⟨⟨j+1,auOm⟩,by simp only;omega,?_⟩⟩,λhw=>⟨⟨j+1,auOm⟩,by simp only;omega,?_⟩⟩
   .have hs:t<=b.Strength:=by
     simp only[Lq,GU] at hw;omega
    rw[Bt hs] at z;simp only[z,BR,Em,Ed];refine⟨⟨by rw[AG auOm auOm];omega,by rw[AG auOm auOm];omega⟩,?_⟩;have h1:(kp++l.drop kp.length).set kp.length b=kp++[b]++l.drop (kp.length+1):=by
     obtain⟨c,hc⟩: ∃c,l[kp.length]? =some c:=⟨_,Bk auOm⟩;rw[FH hc,zQ _ _ (BN _),YL,YH,Gk];rfl
    rw[<-h1,GG];rfl
   .have hs: ¬t<=b.Strength:=by
     rw[FM] at hw;simp only[Lq,CK] at hw;omega
    rw[Be hs,C3] at z;simp only[z];exact⟨⟨by rw[AG auOm auOm];omega,trivial⟩,trivial⟩
  .refine⟨auOm,false,?_⟩;have ab:j=l.length:=auOm;subst ab;rw[Pj] at hkp;simp only[ZA,simprocAttr];have hA:List.take kp.length ((kp++l.drop kp.length).map Ak.c)=kp.map Ak.c:=by
    rw[<-List.map_take,List.take_left]
   rw[hA];refine⟨by simp only[BR,Dy];omega,true,?_⟩;simp only[ZA,simprocAttr,Bh];refine⟨[],[(1,some 2)],⟨[(4,.own 1)],[(1,(true,.arr 196 3 (kp.map Ak.c)))],2⟩,?_,by simp[ZG],auSi,?_⟩
   .simp only[AB];simp only[ZA,simprocAttr];rw[show ((kp.length:Int) - 0).toNat=(kp.map Ak.c).length by simp,Gk,List.take_left]
   .simp only[ZA,simprocAttr,hkp]
 simp[dlC.H1] at hp;subst hp;exact .inr ⟨auOm,auOm,rfl,rfl⟩
def Nl(b i:Nat)(x:Int):AV:=if 0<=x/\x<i then .ptr (b+x.toNat) 0 else .im .nilp
def Iy(b:Nat)(L:Cz)(i:Nat):Ap:=(true,.cells 252 [Nl b i (L[i]?.getD (-1)),.im (.int .i64 i)])
def F9(b:Nat)(L:Cz)(n:Nat):An:=AH b n (Iy b L)
def Hx(L:Cz):Prop:= ∀(i:Nat) (x:Int),L[i]? =some x->x<i
def Pc(L:Cz)(i:Nat):Nat->Nat
 |0=>i
 |m+1=>if L[i]?.getD (-1)<0 then i else Pc L (L[i]?.getD (-1)).toNat m
def Ft(L:Cz)(i:Nat):Nat:=Pc L i i
def Qabj{L:Cz}(h:Hx L): ∀(i m m':Nat),i<=m->i<=m'->Pc L i m=Pc L i m':=by
 intro i;induction i using Nat.strongRecOn with
 |_ i ih=>
  intro m m' z O;cases hi:L[i]? with
  |none=>
   cases m<;>cases m'<;>simp[Pc,hi]
  |some x=>
   have Q:=h i x hi;by_cases h0:x<0
   .cases m<;>cases m'<;>simp[Pc,hi,h0]
   .cases m with
    |zero=>omega
    |succ m=>
     cases m' with
     |zero=>omega
     |succ m'=>
      simp only[Pc,hi,BG,Be h0];exact ih x.toNat auOm m m' auOm auOm
def cY{L:Cz}(h:Hx L){i:Nat}{x:Int}(z:L[i]? =some x):Ft L i=if x<0 then i else Ft L x.toNat:=by
 have O:=h i x z;by_cases h0:x<0
 .rw[Bt h0,Ft];cases i with
  |zero=>rfl
  |succ i=>simp only[Pc,z,BG,Bt h0]
 .rw[Be h0,Ft];cases i with
  |zero=>omega
  |succ i=>
   simp only[Pc,z,BG,Be h0];exact Qabj h _ _ _ auOm (BN _)
def Qnj{L:Cz}(h:Hx L): ∀(i:Nat),Ft L i<=i:=by
 intro i;induction i using Nat.strongRecOn with
 |_ i ih=>
  cases hi:L[i]? with
  |none=>rw[Ft];cases i<;>simp[Pc,hi]
  |some x=>
   rw[cY h hi];have z:=h i x hi;split
   .exact BN _
   .have:=ih x.toNat auOm;omega
def firC.n(a:Cz×Nat):Nat:=min a.1.length 512
def firC.ca(a:Cz×Nat):List AV:=[.ptr (min a.2 511) 0]
def firC.H0(a:Cz×Nat):An:=F9 0 a.1 (firC.n a)
def firC.r0(a:Cz×Nat):AV:= .ptr (Ft a.1 a.2) 0
def firC.pre(a:Cz×Nat):Prop:=a.1.length<=512/\a.2<a.1.length/\Hx a.1
def firC.row:A8:=A7 firC.ca firC.H0 600 firC.pre (λ_=>false) firC.r0 (λ_=>[]) 0
def firC.hbel(a:Cz×Nat):A9 600 (firC.ca a)=true:=by
 simp only[firC.ca,A9,AV.bel,Jg,Mw];omega
def Qt5(nx b:Nat)(f:Nat->Ap)(n:Nat)(hf: ∀i,i<n->Ar nx [(b+i,f i)]=true):Ar nx (AH b n f)=true:=by
 have: ∀(l:List Nat),(∀i∈l,i<n)->Ar nx (l.map λi=>(b+i,f i))=true:=by
  intro l;induction l with
  |nil=>intro _;rfl
  |cons i r ih=>
   intro z;rw[Br,show (b+i,f i)::(r.map λi=>(b+i,f i))=[(b+i,f i)]++(r.map λi=>(b+i,f i)) from rfl,pW,hf i (z i (CP ..)),ih (λj Q=>z j (Ah _ Q))];rfl
 exact this _ (λi O=>AU.1 O)
def ZF(b i N:Nat)(x:Int)(h:b+i<=N):(Nl b i x).bel N=true:=by
 simp only[Nl];split
 .simp only[AV.bel,Mw];omega
 .rfl
def xQ(b n N:Nat)(L:Cz)(h:b+n<=N):Ar N (F9 b L n)=true:=Qt5 _ _ _ _ λi z=>by
 simp only[Iy,Ar,A9,ZF b i N _ auOm,AV.bel,Pg]
def firC.n_le(a:Cz×Nat):firC.n a<=512:=L4 _ _
def firC.hbH(a:Cz×Nat):Ar 600 (firC.H0 a)=true:=xQ _ _ _ _ (by have:=firC.n_le a;omega)
def firC.hkH(a:Cz×Nat):B5 600 (firC.H0 a)=true:=K2 _ _ _ _ (by have:=firC.n_le a;omega)
def Lg(b n:Nat)(L:Cz)(i:Nat)(h:i<n):hget (F9 b L n) (b+i)=some (Iy b L i):=CY _ _ _ _ h
def gC{H0:An}{b n:Nat}{f:Nat->Ap}(h: ∀i,i<n-> ∀m∈(f i).2.nms,Ai H0 m=true):Ca H0 (AH b n f):=by
 have: ∀(l:List Nat),(∀i∈l,i<n)->Ca H0 (l.map λi=>(b+i,f i)):=by
  intro l;induction l with
  |nil=>intro _;trivial
  |cons i r ih=>
   intro z;simp only[Br];exact⟨h i (z i (CP ..)),ih (λj Q=>z j (Ah _ Q))⟩
 exact this _ (λi O=>AU.1 O)
def firC.hnm(a:Cz×Nat):Ca (firC.H0 a) (firC.H0 a):=by
 refine gC λi z m hm=> ?_
 simp only[Iy,Ad.nms,Av,Nl] at hm;split at hm
 .simp only[AV.nms,C3,Am] at hm;subst hm;rename_i h;simp only[Ai,firC.H0];rw[Lg 0 _ _ _ auOm];rfl
 .simp[AV.nms] at hm
def QG(s:Az)(b n:Nat)(f:Nat->Ap):C5 s (AH b n f)= ∀i,i<n->hget s.h (b+i)=some (f i):=by
 have: ∀(l:List Nat),C5 s (l.map λi=>(b+i,f i))↔ ∀i∈l,hget s.h (b+i)=some (f i):=by
  intro l;induction l with
  |nil=>simp[C5]
  |cons i r ih=>simp only[Br,C5,ih,B0,ZdY]
 apply propext;rw[AH,this];simp only[AU]
def xT{s:Az}{b n:Nat}{L:Cz}(h: ∀i,i<n->hget s.h (b+i)=some (Iy b L i)):C5 s (F9 b L n):=by
 rw[F9,QG];exact h
def firC.ok:AE 196 firC.row:=by
 refine ow tN Tryz.func196 (exB:=λ_=>false) (R:=λa r=>r=firC.r0 a) (λ_=>rfl)
  (λa=>⟨firC.hbel a,firC.hbH a,firC.hkH a,firC.hnm a⟩) (λa p hp=> ?_) LeVq ?_
 rotate_left
 intro a aa;simp only[Tryz.f196,firC.ca];simp only[ZA,simprocAttr];obtain⟨L,i⟩:=a;obtain⟨h1,h2,h3⟩:=aa;simp only at h1 h2 h3;obtain⟨n,hn⟩: ∃n,n=L.length:=⟨_,rfl⟩;have ac:firC.n (L,i)=n:=by simp only[firC.n,<-hn];omega
 simp only[firC.H0,firC.r0,ac,Bb];rw[<-hn] at h1 h2;rw[show min i 511=i by omega];refine AY.old ⟨{g:Nat//g<n/\Ft L g=Ft L i},λg=>⟨[(0,.ptr g.1 0)],F9 0 L n,600⟩,λg=>g.1,λg=>⟨?_,auSi⟩,⟨⟨i,h2,rfl⟩,?_⟩,λg=> ?_⟩
 .simp only[Az.good,Cl,AV.bel,Jg,B1,Mw];exact⟨auOm,xQ _ _ _ _ auOm,K2 _ _ _ _ auOm⟩
 .simp only[sub,H2,AF];refine⟨?_,xT (λi Z=>Lg 0 n L i Z)⟩;simp only[ZA,simprocAttr]
 obtain⟨g,hg,hr⟩:=g;obtain⟨x,hx⟩: ∃x,L[g]? =some x:=⟨_,Bk auOm⟩;have ad:=h3 g x hx;have z:=Lg 0 n L g hg;rw[Je] at z;simp only[Iy,hx,BG] at z;have ab:=cY h3 hx;by_cases h0:x<0
 .have O:Nl 0 g x= .im .nilp:=Be auOm;rw[O] at z;simp only[ZA,simprocAttr,z,Bb];rw[Bt h0] at ab;exact⟨auOm,auOm,auOm,auOm,auOm,yX _ _ _ _ _ (λi Z=> .inr (Lg 0 n L i Z)),auOm⟩
 .have O:Nl 0 g x= .ptr x.toNat 0:=by simp only[Nl];rw[Bt ⟨auOm,ad⟩,Je]
  rw[O] at z;have Q:=Lg 0 n L x.toNat auOm;rw[Je] at Q;simp only[ZA,simprocAttr,sub,z,Q,Bb];rw[Be h0] at ab;exact⟨auOm,auOm,auOm,auOm,auOm,auOm,auOm,auOm,auOm,⟨x.toNat,auOm,auOm⟩,by simp only;omega,rfl,xT (λi Z=>Lg 0 n L i Z)⟩
 simp at hp
def Lm(b n k:Nat):List (List AV):=(List.range n).map λi=>if i<k then [AV.ptr (b+i) 0] else [.im .nilp]
def K0(b n k:Nat):(Lm b n k).length=n:=by simp[Lm]
def Qj7(b n k i:Nat)(h:i<n):(Lm b n k)[i]? =some (if i<k then [.ptr (b+i) 0] else [.im .nilp]):=by simp[Lm,ER h]
def Qtr(b n k i:Nat)(K:List AV->Prop)(h:i<n):K4 (Lm b n k) i K=K (if i<k then [.ptr (b+i) 0] else [.im .nilp]):=by
 apply propext;unfold K4;rw[Qj7 b n k i h];exact⟨λh=>h _ rfl,λh row z=>by obtain rfl:=AJ z;exact h⟩
def Qlg(b n k N:Nat)(h:b+k<=N):(Lm b n k).all (A9 N)=true:=by
 rw[CF];intro r z;obtain⟨i,O,rfl⟩:=BY.1 z;split
 .simp[A9,AV.bel];omega
 .simp[A9,AV.bel]
def Qnw(b n N:Nat)(L:Cz)(h:b+n<=N):B5 N (F9 b L n)=true:=K2 _ _ _ _ h
def Qo(b n:Nat)(π:List (Nat×Option Nat)):Hm π (Lm b n 0) (Bw (List.replicate n [.nilp])):=by
 have e:Lm b n 0=Bw (List.replicate n [.nilp]):=by
  simp only[Lm,Bw,zN,HS,List.map_replicate];rw[List.map_const',Ro];rfl
 rw[e];exact Qzo _ _
def ZH{σ:Nat->Nat}{i:Nat}{x:Int}(h: ∀j,j<i->σ j=1000+j):(Nl 0 i x).ren σ=Nl 1000 i x:=by
 simp only[Nl];split
 .simp only[AV.ren,Je];rw[h _ auOm]
 .rfl
def Jv{h:HpT}{σ:Nat->Nat}{b n:Nat}{f:Nat->Ap}(H: ∀i,i<n->h (σ (b+i))=some ((f i).1,(f i).2.ren σ)):Du h σ (AH b n f):=by
 have: ∀(l:List Nat),(∀i∈l,i<n)->Du h σ (l.map λi=>(b+i,f i)):=by
  intro l;induction l with
  |nil=>intro _;trivial
  |cons i r ih=>
   intro z;simp only[Br];exact⟨H i (z i (CP ..)),ih (λj Q=>z j (Ah _ Q))⟩
 exact this _ (λi O=>AU.1 O)
def Z0{n:Nat}{L:Cz}{j:Nat}(h:Ai (F9 0 L n) j=true):j<n:=by
 simp only[Ai,F9,jV] at h;split at h
 .omega
 .cases h
def Qtp{H:HpT}{L:Cz}{k nx u:Nat}{K:Al}(Z:L.length=k)(hk:k<=512)(O:Hx L)(hu:u<k)(aa:2000<=nx)(hH: ∀i,i<k->H (1000+i)=some (Iy 1000 L i))
 (Q: ∀U,K (.ptr (1000+Ft L u) 0) {use:=U}):firC.row [.ptr (1000+u) 0] H nx K:=by
 have hσ: ∀j,j<600->B2 (λj=>1000+j) 600 nx j=1000+j:=λj z=>Bt z
 have hn:firC.n (L,u)=k:=by simp only[firC.n,Z];omega
 have hr:=Qnj O u;refine⟨(L,u),λj=>1000+j,(List.range k).map (1000+ ·),[],⟨by simp only;omega,by simp only;omega,O⟩,?_,?_,?_,?_⟩
 .simp only[firC.ca,AN,AV.ren];rw[show min u 511=u by omega,hσ u auOm]
 .simp only[firC.H0,hn,F9];refine Jv λi hi=> ?_
  rw[Je,hσ i auOm,hH i hi];simp only[Iy,Ad.ren,AN,AV.ren];rw[ZH (λj z=>hσ j auOm)]
 .have hd: ∀j,Ai (firC.H0 (L,u)) j=true->j<k:=λj z=>by simp only[firC.H0,hn] at z;exact Z0 z
  refine⟨λi j _ _ h=> ?_,λj z=> ?_,λj z=> ?_,λm hm=>(by cases hm),λj _ z=>(by cases z)⟩
  .have h:1000+i=1000+j:=h;omega
  .have:=hd j z
   show 1000+j<nx;omega
  exact BY.2 ⟨j,AU.2 (hd j z),rfl⟩
 .have e:(firC.r0 (L,u)).ren (B2 (λj=>1000+j) 600 nx)= .ptr (1000+Ft L u) 0:=by
   simp only[firC.r0,AV.ren];rw[hσ _ auOm]
  rw[e];exact Q _
def Qug(k:Nat):Hx (List.replicate k (-1)):=by
 intro i x h
 have:=JA (Bj h)
 omega
def Qj8: ∀(k i:Nat),i<k->(Y6 k)[i]? =some (i:Int)
 |0,i,h=>by omega
 |k+1,i,h=>by
  simp only[Y6];by_cases z:i<k
  .rw[Db (by rw[jF];exact z)];exact Qj8 k i z
  .have:i=k:=auOm
   subst this;rw[D8 (by rw[jF];exact BN _),jF,YL];rfl
def Qa{k i:Nat}{bs:List Ak}(h:i<k):(CC k bs 0)[i]? =some ((Ft (List.replicate k (-1)) i:Nat):Int):=by
 simp only[CC];rw[Qj8 k i h]
 have:=cY (Qug k) (i:=i) (x:= -1) (by rw[IL,Bt h])
 rw[this,Bt auOm]
def Qls{L:Cz}(h:Hx L): ∀(i:Nat),Ft L (Ft L i)=Ft L i:=by
 intro i;induction i using Nat.strongRecOn with
 |_ i ih=>
  cases hi:L[i]? with
  |none=>
   have:Ft L i=i:=by rw[Ft];cases i<;>simp[Pc,hi]
   rw[this,this]
  |some x=>
   have z:=h i x hi;rw[cY h hi];split
   .rename_i h0;rw[cY h hi,Bt h0]
   .exact ih x.toNat auOm
def Qsx{L:Cz}(h:Hx L){p q:Nat}(Q:p<q):Hx (L.set q (p:Int)):=by
 intro i x z;by_cases hq:q=i
 .subst hq;have O:q<L.length:=by have:=(Bi.1 z).1;simpa using this
  rw[Bo O] at z;obtain rfl:=AJ z;omega
 .rw[DL hq] at z;exact h i x z
def Qqx{L:Cz}(h:Hx L){p q:Nat}(hp:Ft L p=p)(hq:Ft L q=q)(O:p<q)(Q:q<L.length): ∀(i:Nat),Ft (L.set q (p:Int)) i=if Ft L i=q then p else Ft L i:=by
 have h':=Qsx h O;intro i;induction i using Nat.strongRecOn with
 |_ i ih=>
  by_cases z:q=i
  .subst z;have e:(L.set q (p:Int))[q]? =some (p:Int):=Bo Q;rw[cY h' e,Be auOm,Cp,ih p O,hp,Be auOm,hq,Bt rfl]
  .have e:(L.set q (p:Int))[i]? =L[i]? :=DL z;cases hi:L[i]? with
   |none=>
    have Z:Ft L i=i:=by rw[Ft];cases i<;>simp[Pc,hi]
    have r2:Ft (L.set q (p:Int)) i=i:=by rw[Ft];cases i<;>simp[Pc,e,hi]
    rw[Z,r2,Be (kZ z)]
   |some x=>
    have hx:=h i x hi;rw[hi] at e;rw[cY h' e,cY h hi];by_cases h0:x<0
    .rw[Bt h0,Bt h0,Be (kZ z)]
    .rw[Be h0,Be h0];exact ih x.toNat auOm
def Ni{x y:Nat}(h:x<y)(r:Nat):K5 (x:Int) (y:Int) (r:Int)=((if r=y then x else r:Nat):Int)/\K5 (y:Int) (x:Int) (r:Int)=((if r=y then x else r:Nat):Int):=by
 have m1:Fj (x:Int) y=y:=Be auOm;have O:Fj (y:Int) x=y:=Bt auOm;have Q:Gb (x:Int) y=x:=Bt auOm;have Z:Gb (y:Int) x=x:=Be auOm;simp only[K5,m1,O,Q,Z];by_cases z:r=y
 .rw[Bt z,Bt auOm];exact⟨rfl,rfl⟩
 .rw[Be z,Be auOm];exact⟨rfl,rfl⟩
def ZC(x r:Nat):K5 (x:Int) (x:Int) (r:Int)=(r:Int):=by
 have m1:Fj (x:Int) x=x:=Be auOm;have O:Gb (x:Int) x=x:=Be auOm;simp only[K5,m1,O];by_cases z:(r:Int)=x
 .rw[Bt z,z]
 .rw[Be z]
def Xq(p:Int×Int):D×D:=(.int .i64 p.1,.int .i64 p.2)
def Jl(M:List (Int×Int))(x:Int):Option Int:=(M.find? (λp=>p.1==x)).map (·.2)
def Ul(x:Int): ∀(M:List (Int×Int)),lk (M.map Xq) (.int .i64 x)=(Jl M x).map (D.int .i64)
 |[]=>rfl
 |(k,v)::r=>by
  have ih:=Ul x r;simp only[Jl] at ih;by_cases h:k=x
  .subst h;simp[lk,Xq,Jl,D.beq]
  .have z: ¬x=k:=λe=>h e.symm
   have O:(x==k)=false:=by simpa using z
   simp[lk,Xq,Jl,D.beq,h,O,ih]
def ZJ(x:Int)(M:List (Int×Int))(Ks:D->Prop)(Kn:Prop):Jq (M.map Xq) (.int .i64 x) Ks Kn=((∀v,Jl M x=some v->Ks (.int .i64 v))/\(Jl M x=none->Kn)):=by
 apply propext;unfold Jq;rw[Ul];cases Jl M x<;>simp
def Ot(x v:Int): ∀(M:List (Int×Int)),Jl M x=none->Fq (M.map Xq) (.int .i64 x) (.int .i64 v)=(M++[(x,v)]).map Xq
 |[],_=>rfl
 |(k,w)::r,h=>by
  by_cases z:k=x
  .subst z;simp[Jl] at h
  .have O: ¬x=k:=λe=>z e.symm
   have Z:Jl r x=none:=by simpa[Jl,z] using h
   have ih:=Ot x v r Z;simp only[Br,BZ,Xq] at ih⊢;have Q:(x==k)=false:=by simpa using O
   simp[Fq,D.beq,Q,ih,Xq]
def Nn(M:List (Int×Int))(x v y:Int):Jl (M++[(x,v)]) y=(Jl M y).or (if x=y then some v else none):=by
 simp only[Jl,List.find?_append];cases h:M.find? (λp=>p.1==y) with
 |some p=>simp
 |none=>
  by_cases z:x=y
  .subst z;simp
  .simp[z]
def Qld{own:Cz}{i:Nat}(h:own[i]? =some (i:Int)): ∀k,∃z,DP own i (k+1)=(i:Int)::z
 |0=>⟨[],by simp[DP,h]⟩
 |k+1=>by
  obtain⟨z,O⟩:=Qld h k;rw[DP,O];exact⟨_,rfl⟩
def Qjv(own:Cz)(n:Nat): ∀k,k<=n-> ∀g∈BW own n k,∃(r:Nat) (rest:Cz),g=(r:Int)::rest/\r<k/\own[r]? =some (r:Int)
 |0,_,g,h=>by simp[BW] at h
 |k+1,hk,g,h=>by
  simp only[BW,BO] at h;rcases h with h|h
  .obtain⟨r,rest,Q,h2,Z⟩:=Qjv own n k auOm g h;exact⟨r,rest,Q,auOm,Z⟩
  .split at h
   .rename_i z;obtain rfl:=Am.1 h;obtain⟨rest,O⟩:=Qld z (n - k - 1);rw[show n - k - 1+1=n - k by omega] at O;exact⟨k,rest,O,auOm,z⟩
   .cases h
def Qo6(own:Cz)(n:Nat)(r:Nat)(Q:own[r]? =some (r:Int)): ∀k,k<=n->r<k-> ∃z,((r:Int)::z)∈BW own n k
 |0,_,h=>by omega
 |k+1,Z,h=>by
  by_cases O:r=k
  .subst O;obtain⟨z,O⟩:=Qld Q (n - r - 1);rw[show n - r - 1+1=n - r by omega] at O;exact⟨z,by simp[BW,Q,O]⟩
  .obtain⟨z,hm⟩:=Qo6 own n r Q k auOm auOm;exact⟨z,by simp only[BW,BO];exact .inl hm⟩
def Qy0(own:Cz)(n:Nat): ∀k,∀g∈BW own n k,g.length<=n
 |0,g,h=>by simp[BW] at h
 |k+1,g,h=>by
  simp only[BW,BO] at h;rcases h with h|h
  .exact Qy0 own n k g h
  .split at h
   .obtain rfl:=Am.1 h
    have:=Qsd own k (n - k)
    omega
   .cases h
def P6{h:HpT}{b m:Nat}{G:List (Cz)}(H: ∀q,q<G.length->h (b+q)=some (true,.arr 2 1 ((G[q]?.getD []).map Aj))):
 Aw (Aw λx=>Fg (Bs h (IS 0 []) (m+1) x)) (CE b G.length)=some (G.map BD):=by
 have: ∀(l:List Nat),(∀q∈l,q<G.length)->Aw (Aw λx=>Fg (Bs h (IS 0 []) (m+1) x)) (l.map λi=>[AV.own (b+i)])=some (l.map λq=>BD (G[q]?.getD [])):=by
  intro l;induction l with
  |nil=>intro _;rfl
  |cons q r ih=>
   intro Q;have h0:IS 0 [] (b+q)=none:=rfl;have O:=ih (λx Z=>Q x (Ah _ Z));have e:Aw (λx=>Fg (Bs h (IS 0 []) (m+1) x)) [AV.own (b+q)]=some (BD (G[q]?.getD [])):=by
    simp only[Aw,Bs,h0,H q (Q q (CP ..)),Ra,kp,CT,Fg,AV.asD];rfl
   rw[Br,Aw,e,O];rfl
 rw[CE,this _ (λq hq=>AU.1 hq)];congr 1;apply Rn;intro j;by_cases z:j<G.length
 .rw[Dp,ER z,Dp,Bk z,CT,CT,Bk z,BG]
 .rw[Gv (by simp;omega),Gv (by simp;omega)]
def JQ(r:Int)(m:Nat)(g:Cz):Cz:=if g.head? =some r then g++[(m:Int)] else g
def Ql4(own:Cz)(m:Nat)(r:Int)(Z:own[m]? =some r): ∀k,k<=m->BW own (m+1) k=(BW own m k).map (JQ r m)
 |0,_=>rfl
 |k+1,hk=>by
  rw[BW,BW,Dj,Ql4 own m r Z k auOm];congr 1;by_cases O:own[k]? =some (k:Int)
  .rw[Bt O,Bt O];obtain⟨aa,Q⟩:=Qld O (m - k - 1);rw[show m - k - 1+1=m - k by omega] at Q;have e:DP own k (m+1 - k)=DP own k (m - k)++(if own[m]? =some (k:Int) then [(m:Int)] else []):=by
    rw[show m+1 - k=(m - k)+1 by omega,DP,show k+(m - k)=m by omega]
   rw[e,Z];simp only[Br,Gl,JQ,Q,ZeK,AS];by_cases z:r=(k:Int)
   .rw[Bt z,Bt z.symm]
   .rw[Be z,Be (kZ z),C3]
  .rw[Be O,Be O];rfl
structure yF(out:List (Cz))(M:List (Int×Int)):Prop where
 a: ∀r v,Jl M r=some v-> ∃(g:Nat) (rest:Cz),v=g/\out[g]? =some (r::rest)
 b: ∀(g:Nat) (r:Int) (rest:Cz),out[g]? =some (r::rest)->Jl M r=some (g:Int)
def TP{own:Cz}{i:Nat}{M:List (Int×Int)}{r:Nat}(hP:yF (BW own i i) M)(ho:own[i]? =some (r:Int))(hr:r<=i)(ab:own[r]? =some (r:Int))(hn:Jl M r=none):
 r=i/\BW own (i+1) (i+1)=BW own i i++[[(i:Int)]]/\yF (BW own (i+1) (i+1)) (M++[((i:Int),((BW own i i).length:Int))]):=by
 have aa:r=i:=by
  by_cases h:r<i
  .obtain⟨z,hm⟩:=Qo6 own i r ab i auOm h;obtain⟨g,hg⟩:=JB.1 hm;rw[hP.b g _ _ hg] at hn;cases hn
  .omega
 subst aa;have e:BW own (r+1) (r+1)=BW own r r++[[(r:Int)]]:=by
  rw[BW,Ql4 own r r ho r (BN _),Bt ho];congr 1
  .conv=>rhs;rw[<-List.map_id (BW own r r)]
   apply Iu;intro g hg;obtain⟨q,z,Q,Z,_⟩:=Qjv own r r (BN _) g hg;simp only[JQ,Q,ZeK,AS,id];rw[Be auOm]
  .rw[show r+1 - r=0+1 by omega];simp[DP,ho]
 refine⟨rfl,e,?_⟩;rw[e];refine⟨λq v O=> ?_,λg q z hg=> ?_⟩
 .rw[Nn] at O;cases hq:Jl M q with
  |some w=>
   rw[hq] at O;obtain rfl:=AJ O;obtain⟨g,z,Q,Z⟩:=hP.a q _ hq;exact⟨g,z,Q,by rw[Db (Bi.1 Z).1];exact Z⟩
  |none=>
   rw[hq] at O;simp only[Option.none_or] at O;split at O
   .rename_i h;obtain rfl:=AJ O;exact⟨_,[],rfl,by rw[D8 (BN _),YL,<-h];rfl⟩
   .cases O
 .rw[Nn];by_cases hl:g<(BW own r r).length
  .rw[Db hl] at hg;rw[hP.b g q z hg];rfl
  .rw[D8 auOm] at hg;have h0:g - (BW own r r).length=0:=by
    have:=(Bi.1 hg).1
    simpa using this
   rw[h0] at hg;simp only[ES,AS,YG] at hg;rw[<-hg.1,hn,Bt rfl,Option.none_or];congr 1;omega
def TQ{own:Cz}{i:Nat}{M:List (Int×Int)}{r:Int}{g:Nat}{rest:Cz}(hP:yF (BW own i i) M)(ho:own[i]? =some r)(hg:(BW own i i)[g]? =some (r::rest)):
 BW own (i+1) (i+1)=(BW own i i).set g (r::rest++[(i:Int)])/\yF (BW own (i+1) (i+1)) M:=by
 have ab:r≠i:=by
  obtain⟨q,rs,Z,O,_⟩:=Qjv own i i (BN _) _ (Bj hg)
  have:=(ZeY Z).1
  omega
 have e:BW own (i+1) (i+1)=(BW own i i).set g (r::rest++[(i:Int)]):=by
  rw[BW,Ql4 own i r ho i (BN _),Be (by rw[ho];simpa using ab),C3];apply Rn;intro j;rw[Dp];by_cases Q:g=j
  .subst Q;rw[Bo (Bi.1 hg).1,hg];simp[JQ]
  .rw[DL Q];cases hx:(BW own i i)[j]? with
   |none=>rfl
   |some x=>
    simp only[CT,JQ];rw[Be];intro hh;cases x with
    |nil=>cases hh
    |cons q rs=>
     simp only[ZeK,AS] at hh;subst hh;have Z:=hP.b j _ _ hx;have O:=hP.b g _ _ hg;rw[Z] at O
     have:=AJ O
     omega
 refine⟨e,?_⟩;rw[e];have aa:=(Bi.1 hg).1;refine⟨λq v hv=> ?_,λg' q rs z=> ?_⟩
 .obtain⟨j,rs,Z,O⟩:=hP.a q v hv;by_cases Q:g=j
  .subst Q;rw[hg] at O;simp only[AS,YG] at O;exact⟨g,rest++[(i:Int)],Z,by rw[Bo aa,O.1];rfl⟩
  .exact⟨j,rs,Z,by rw[DL Q];exact O⟩
 .by_cases Q:g=g'
  .subst Q;rw[Bo aa] at z;simp only[AS,BZ,YG] at z;rw[<-z.1];exact hP.b g _ _ hg
  .rw[DL Q] at z;exact hP.b g' _ _ z
def FZ(b:Nat)(G:List (Cz)):An:=AH b G.length (λi=>(true,.arr 2 1 ((G[i]?.getD []).map Aj)))
def TM(b N:Nat)(G:List (Cz))(h:b+G.length<=N):Ar N (FZ b G)=true:=Qt5 _ _ _ _ λi z=>by simp[Ar]
def TN(b N:Nat)(G:List (Cz))(h:b+G.length<=N):B5 N (FZ b G)=true:=K2 _ _ _ _ h
def mtR_P{π:List (Nat×Option Nat)}{b n k:Nat}(h: ∀i,i<k->pm π (b+i)=some (b+i)):Hm π (Lm b n k) (Lm b n k):=by
 rw[Sm];refine⟨rfl,λi x y z Z=> ?_⟩;rw[z] at Z;obtain rfl:=AJ Z;have O:i<n:=by have:=(Bi.1 z).1;rwa [K0] at this
 rw[Qj7 _ _ _ _ O] at z;obtain rfl:=AJ z;split
 .rename_i Q;simp only[Dl,mt,h i Q,Hh,Ly]
 .simp only[Dl,mt,Ly]
def PW(A:List Nat)(b n c m:Nat)(h:A.Nodup)(hA: ∀x∈A,(x<b\/b+n<=x)/\(x<c\/c+m<=x))(aa:b+n<=c):(A++((List.range n).map (b+ ·)++(List.range m).map (c+ ·))).Nodup:=by
 have Z: ∀b n,((List.range n).map (b+ ·)).Nodup:=λb n=>by have:=dB [] b n auSi auSi;simpa using this
 rw[Hj];refine⟨h,?_,λx Q y z=> ?_⟩
 .rw[Hj];refine⟨Z _ _,Z _ _,λx Q y z=> ?_⟩;obtain⟨i,hi,rfl⟩:=BY.1 Q;obtain⟨j,O,rfl⟩:=BY.1 z
  have:=AU.1 hi
  omega
 .have:=hA x Q
  rcases BO.1 z with z|z
  .obtain⟨j,O,rfl⟩:=BY.1 z
   have:=AU.1 O
   omega
  .obtain⟨j,O,rfl⟩:=BY.1 z
   have:=AU.1 O
   omega
def Qyb(b:Nat)(G:List (Cz))(g:Nat)(h:g<G.length):hget (FZ b G) (b+g)=some (true,.arr 2 1 ((G[g]?.getD []).map Aj)):=CY _ _ _ _ h
def Z1(b k:Nat)(L:Cz)(m:Nat)(h:m<b\/b+k<=m):hget (F9 b L k) m=none:=Qmh _ _ _ _ h
def Qnb(k:Nat)(L:Cz)(G:List (Cz))(i:Nat)(h:i<k):hget (F9 1000 L k++FZ 3000 G) (1000+i)=some (Iy 1000 L i):=by
 rw[J7,Lg _ _ _ _ h];rfl
def Qne(k:Nat)(L:Cz)(G:List (Cz))(g:Nat)(z:k<=512)(h:g<G.length):hget (F9 1000 L k++FZ 3000 G) (3000+g)=some (true,.arr 2 1 ((G[g]?.getD []).map Aj)):=by
 rw[J7,Z1 _ _ _ _ auOm,Qyb _ _ _ h];rfl
def Uh(k:Nat)(L:Cz)(G:List (Cz)):DF (F9 1000 L k++FZ 3000 G)=(List.range k).map (1000+ ·)++(List.range G.length).map (3000+ ·):=by
 rw[Qpf,F9,FZ,WK,WK]
def gI(k:Nat)(L:Cz)(i:Nat)(M:List (Int×Int))(G:List (Cz)):Az:=⟨[(81,.im (.int .i64 i)),(80,.im (.int .i64 k)),(79,.own 2),(12,.mp 2001),(11,.own 2100)],(2001,(true,.map {agg:=false,ks:=[KK.int .i64]} (M.map Xq)))::(2100,(true,.arrA 35 1 (CE 3000 G.length)))::(2,(true,.arrA 250 1 (Lm 1000 k k)))::(F9 1000 L k++FZ 3000 G),4000⟩
def Zx{k:Nat}{L:Cz}{i:Nat}{M:List (Int×Int)}{G:List (Cz)}(O:k<=512)(z:G.length<=512):(gI k L i M G).good=true:=by
 simp only[gI,Az.good,Ar,B5,pW,Qmd,xQ 1000 k 4000 _ auOm,Qlg 1000 k k 4000 auOm,Qnw 1000 k 4000 _ auOm,RZ 3000 G.length 4000 auOm,TM 3000 4000 G auOm,TN 3000 4000 G auOm];simp[Cl,AV.bel]
def Qxg{π:List (Nat×Option Nat)}{s:Az}{k:Nat}{L:Cz}{i:Nat}{M:List (Int×Int)}{G:List (Cz)}{O:Nat}{T:Nat->Nat}(hk:k<=512)(hG:G.length<=512)
 (ac:JP 2002 π)(p1:pm π 2001=some 2001)(p2:pm π 2=some 2)(p3: ∀j,j<k->pm π (1000+j)=some (1000+j))(p4:pm π 2100=some O)(p5: ∀q,q<G.length->pm π (3000+q)=some (T q))
 (t1:AF s.tm 81= .im (.int .i64 i))(t2:AF s.tm 80= .im (.int .i64 k))(t3:AF s.tm 79= .own 2)(t4:AF s.tm 12= .mp 2001)(t5:AF s.tm 11= .own O)
 (g1:hget s.h 2001=some (true,.map {agg:=false,ks:=[KK.int .i64]} (M.map Xq)))(g2:hget s.h 2=some (true,.arrA 250 1 (Lm 1000 k k)))(g3: ∀j,j<k->hget s.h (1000+j)=some (Iy 1000 L j))
 (g4:(G.length=0/\hget s.h O=some (true,.arr 35 1 []))\/hget s.h O=some (true,.arrA 35 1 ((List.range G.length).map λq=>[.own (T q)])))
 (g5: ∀q,q<G.length->hget s.h (T q)=some (true,.arr 2 1 ((G[q]?.getD []).map Aj)))
 (inj: ∀q q',q<G.length->q'<G.length->T q=T q'->q=q')(out: ∀q,q<G.length->T q≠O/\3000<=T q)(hO:2000<=O/\O≠2001):AB 2002 π s (gI k L i M G):=by
 refine⟨ac,?_,?_,?_⟩
 .rw[Sj];simp only[gI,DF,Uh];have ab: ∀x∈[2001,2100,2]++((List.range k).map (1000+ ·)++(List.range G.length).map (3000+ ·)),(x=2001/\pm π x=some 2001)\/(x=2/\pm π x=some 2)\/(x=2100/\pm π x=some O)\/(1000<=x/\x<1000+k/\pm π x=some x)\/(3000<=x/\x<3000+G.length/\pm π x=some (T (x - 3000))):=by
   intro x z;rcases BO.1 z with z|z
   .simp only[B0,D2,Rl] at z;rcases z with rfl|rfl|rfl
    .exact .inl ⟨rfl,p1⟩
    .exact .inr (.inr (.inl ⟨rfl,p4⟩))
    .exact .inr (.inl ⟨rfl,p2⟩)
   .rcases BO.1 z with z|z
    .obtain⟨j,Q,rfl⟩:=BY.1 z;have Q:=AU.1 Q;exact .inr (.inr (.inr (.inl ⟨by show 1000<=1000+j;omega,by show 1000+j<1000+k;omega,p3 j Q⟩)))
    .obtain⟨j,Q,rfl⟩:=BY.1 z;have Q:=AU.1 Q;exact .inr (.inr (.inr (.inr ⟨by show 3000<=3000+j;omega,by show 3000+j<3000+G.length;omega,by show pm π (3000+j)=some (T (3000+j - 3000));rw[show 3000+j - 3000=j by omega];exact p5 j Q⟩)))
  refine WZ _ _ (PW [2001,2100,2] 1000 k 3000 G.length auSi (by simp;omega) auOm) ?_;intro x z y hy m Z aa;rcases ab x z with ⟨a1,a2⟩|⟨a1,a2⟩|⟨a1,a2⟩|⟨a0,a1,a2⟩|⟨a0,a1,a2⟩<;>rcases ab y hy with ⟨b1,b2⟩|⟨b1,b2⟩|⟨b1,b2⟩|⟨b0,b1,b2⟩|⟨b0,b1,b2⟩<;>
   rw[a2] at Z<;>rw[b2] at aa<;>have Z:=AJ Z<;>have aa:=AJ aa<;>first
   |omega
   |(have:=out (x - 3000) auOm;omega)
   |(have:=out (y - 3000) auOm;omega)
   |(have:=inj (x - 3000) (y - 3000) auOm auOm (Z.trans aa.symm);omega)
 .simp only[gI,EQ,t1,t2,t3,t4,t5,mt,p2,p1,p4,DS,Hh,Ly]
 .simp only[gI,F6,Qns,p1,p2,p4,Ci,g1,g2];refine⟨⟨rfl,rfl⟩,?_,⟨rfl,rfl,rfl,mtR_P p3⟩,?_,?_⟩
  .rcases g4 with ⟨h0,h1⟩|h1
   .rw[h1,h0];exact⟨rfl,rfl,rfl,trivial⟩
   .rw[h1];exact⟨rfl,rfl,rfl,Qyn p5 rfl⟩
  .rw[F9,Ys];intro j Q;rw[p3 j Q,Ci,g3 j Q];refine⟨rfl,?_⟩;simp only[Iy,Df,Dl,mt,Ly,lK,eE];simp only[Nl];split
   .simp only[mt,p3 _ (show (L[j]?.getD (-1)).toNat<k by omega),Hh]
   .rfl
  .rw[FZ,Ys];intro q hq;rw[p5 q hq,Ci,g5 q hq];exact⟨rfl,rfl⟩
def TO(a:Int×List Ak):Prop:=0<=a.1/\a.1<=512/\Mm a.1 a.2/\a.2.length<=1000000
def groupsBy_.fv(a:Int×(List Ak)):List (Cz):=(WO) (a.1) (a.2)
def groupsBy_.row:A8:=vK (b2 qI (qS Ak.d_le Ak.c_n)) (rS OZ KZ) (λa=>TO (a.1,a.2)) groupsBy_.fv
def groupsBy_.q:=Bg (R:=groupsBy_.row) rfl
def groupsBy_.ok:AE 181 groupsBy_.row:=by
 refine vw (tC firC.ok tN) Tryz.func181 ?_;intro a a8;simp only[Tryz.f181];simp(disch:=omega)only[ZA,simprocAttr,groupsBy_.fv];obtain⟨h0,h1,aw,hl⟩:=a8;obtain⟨n,hn⟩: ∃n:Nat,a.1=n:=⟨a.1.toNat,by simp only at h0;omega⟩;obtain⟨bs,hbsd⟩: ∃bs,bs=a.2:=⟨_,rfl⟩;simp only[hn,<-hbsd,Cp] at h0 h1 aw hl⊢;refine⟨h0,kV _,auOm,λ_=> ?_⟩;rw[Ri];refine AY.ren ⟨{k:Nat//k<=n},λk=>⟨[(21,.im (.int .i64 k.1)),(20,.im (.int .i64 n)),(19,.own 2),(5,.own 2),(0,.im (.int .i64 n)),(1,.im (.sl false 3 (bs.map Ak.c)))],(2,(true,.arrA 250 1 (Lm 1000 n k.1)))::F9 1000 (List.replicate n (-1)) k.1,2000⟩,λk=>n - k.1,λk=>⟨?_,auSi⟩,⟨⟨0,auSi⟩,[(2,some 1)],?_⟩,λk=> ?_⟩
 .simp only[Az.good,Ar,B5,xQ 1000 k.1 2000 _ auOm,Qlg 1000 n k.1 2000 auOm,Qnw 1000 k.1 2000 _ auOm];simp[Cl,AV.bel]
 .simp only[AB,F9,AH,JC,Gl];simp(disch:=omega)only[ZA,simprocAttr];exact Qo _ _ _
 obtain⟨k,bd⟩:=k;simp(disch:=omega)only[ZA,simprocAttr,AL,Bb,K0];refine⟨λhk=>⟨hk,hk,?_⟩,λhk=> ?_⟩
 .simp(disch:=omega)only[ZA,simprocAttr,Bb,Qtr,YC];refine⟨?_,⟨k+1,auOm⟩,[(1000+k,some 2000)],by simp only;omega,?_⟩
  .rw[CF];intro r hr;rcases GR hr with hr|hr
   .exact CF.1 (Qlg 1000 n k 2001 auOm) r hr
   .subst hr;simp[A9,AV.bel]
  have qi: ∀i,i≠1000+k->pm [(1000+k,some 2000)] i=some i:=by intro i z;simp only[pm];rw[Be auOm]
  have qk:pm [(1000+k,some 2000)] (1000+k)=some 2000:=by simp only[pm];rw[Bt trivial]
  obtain⟨π,hπ⟩: ∃π,π=[(1000+k,some 2000)]:=⟨_,rfl⟩;rw[<-hπ] at qi qk⊢;refine⟨by rw[hπ];exact⟨auOm,trivial⟩,?_,?_,?_⟩
  .rw[Sj,hπ];simp only[DF,F9,WK];refine WZ _ _ (dB [2] 1000 (k+1) auSi auSi) ?_;intro x hx y hy m aq ag;have bj:x<2000:=by
    rcases B0.1 hx with hx|hx
    .omega
    .obtain⟨i,z,rfl⟩:=BY.1 hx
     have:=AU.1 z
     show 1000+i<2000;omega
   have bl:y<2000:=by
    rcases B0.1 hy with hy|hy
    .omega
    .obtain⟨i,z,rfl⟩:=BY.1 hy
     have:=AU.1 z
     show 1000+i<2000;omega
   simp only[pm] at aq ag;split at aq<;>split at ag<;>simp only[AS] at aq ag<;>omega
  .simp only[EQ,AF];simp(disch:=omega)only[ZA,simprocAttr,qi 2 auOm];rw[AG auOm auOm];omega
  .simp only[F6,F9,Ys];refine⟨?_,λi z=> ?_⟩
   .simp(disch:=omega)only[ZA,simprocAttr,qi 2 auOm];rw[Sm];refine⟨by simp[K0],λi x y hx hy=> ?_⟩;have ax:i<n:=by have:=(Bi.1 hx).1;rwa [K0] at this
    rw[Qj7 _ _ _ _ ax] at hx;obtain rfl:=AJ hx;by_cases ad:k=i
    .subst ad;rw[Bo (by rw[K0];exact hk)] at hy;obtain rfl:=AJ hy;rw[Bt auOm];simp only[Dl,mt,qk,Hh,Ly]
    .rw[DL ad,Qj7 _ _ _ _ ax] at hy;obtain rfl:=AJ hy;by_cases az:i<k
     .rw[Bt auOm,Bt az];simp only[Dl,mt,qi (1000+i) auOm,Hh,Ly]
     .rw[Be auOm,Be az];simp only[Dl,mt,Ly]
   .have hg: ∀i,i<n->(List.replicate n (-1:Int))[i]?.getD (-1)= -1:=by
     intro i z;rw[IL,Bt z,BG]
    have ay:Nl 1000 i (-1)= .im .nilp:=by simp only[Nl];rw[Be auOm]
    simp only[Iy,hg i auOm,ay];by_cases ad:i=k
    .subst ad;rw[qk];simp(disch:=omega)only[ZA,simprocAttr]
    .rw[qi (1000+i) auOm];have h9:=Lg 1000 k (List.replicate n (-1)) i auOm;simp only[Iy,hg i auOm,ay,F9] at h9;simp (disch:=omega) only[Ci,hget,AC,Dw,Se,K8,Xl,YF,BL,HS];rw[h9];simp only[D9,Df,Dl,mt,Ly]
 .intro _;have be:k=n:=auOm;subst be;clear hk bd;refine AY.old ⟨{s:Nat×Cz//s.1<=bs.length/\s.2.length=k/\Hx s.2/\ ∀i,i<k->(CC k bs s.1)[i]? =some ((Ft s.2 i:Nat):Int)},λs=>⟨[(33,.im (.int .i64 s.1.1)),(32,.im (.int .i64 bs.length)),(31,.im (.sl false 3 (bs.map Ak.c))),(5,.own 2),(0,.im (.int .i64 k))],(2,(true,.arrA 250 1 (Lm 1000 k k)))::F9 1000 s.1.2 k,2000⟩,λs=>bs.length - s.1.1,λs=>⟨?_,auSi⟩,⟨⟨(0,List.replicate k (-1)),by simp only;omega,auSi,Qug k,λi z=>Qa z⟩,?_⟩,λs=> ?_⟩
  .simp only[Az.good,Ar,B5,xQ 1000 k 2000 _ auOm,Qlg 1000 k k 2000 auOm,Qnw 1000 k 2000 _ auOm];simp[Cl,AV.bel]
  .simp only[sub,H2,AF];refine⟨?_,?_⟩
   .simp(disch:=omega)only[ZA,simprocAttr]
   .simp only[C5];refine⟨rfl,xT λi z=> ?_⟩;simp only[hget,AC _ _ (show 2≠1000+i by omega),Dw];exact Lg _ _ _ _ z
  obtain⟨⟨j,L⟩,i1,i2,i3,i4⟩:=s;simp only at i1 i2 i3 i4;simp(disch:=omega)only[ZA,simprocAttr,AL,Bb,K0];refine⟨λhj=>⟨hj,λb hb=> ?_⟩,λhj=> ?_⟩
  .obtain⟨b1,b2,b3,b4⟩:=aw b (Bj hb);obtain⟨u,hu⟩: ∃u:Nat,b.A=u:=⟨b.A.toNat,auOm⟩;obtain⟨w,hw⟩: ∃w:Nat,b.B=w:=⟨b.B.toNat,auOm⟩;have ak:u<k:=auOm;have ah:w<k:=auOm;have bh:=Qnj i3 u;have bi:=Qnj i3 w;simp only[hu,hw,Cp];refine⟨auOm,auOm,ak,?_⟩;simp(disch:=omega)only[ZA,simprocAttr,Bb,Qtr,Bt ak,Pv];have hH: ∀(e Z:Ap) (i:Nat),i<k->hget ((2000,e)::(2,Z)::Bp (F9 1000 L k) [2000]) (1000+i)=some (Iy 1000 L i):=by
    intro e Z i z;have h9:=Lg 1000 k L i z;simp (disch:=omega) only[hget,AC,Dw,Se,K8,Xl,YF,BL,HS,h9]
   refine⟨auOm,Qtp (nx:=2001) i2 auOm i3 ak auDe (hH _ _) (λU=> ?_)⟩;simp(disch:=omega)only[ZA,simprocAttr,Bb,K0,Qtr,Bt ah,Pv];refine⟨auOm,ah,ah,auOm,Bt (.inl auOm),Qtp (nx:=2001) i2 auOm i3 ah auDe (hH _ _) (λU2=> ?_)⟩;obtain⟨x,hx⟩: ∃x,x=Ft L u:=⟨_,rfl⟩;obtain⟨y,hy⟩: ∃y,y=Ft L w:=⟨_,rfl⟩;rw[<-hx] at bh⊢;rw[<-hy] at bi⊢;have gx:=Lg 1000 k L x auOm;have gy:=Lg 1000 k L y auOm;simp only[Iy] at gx gy;simp(disch:=omega)only[ZA,simprocAttr,sub,AL,Bb,J6,AC,J2,gx,gy,Rg (show 1000+x<2001 by omega),Rg (show 1000+y<2001 by omega)];have ba:Ft L x=x:=by rw[hx];exact Qls i3 u
   have bb:Ft L y=y:=by rw[hy];exact Qls i3 w
   have ou:=i4 u ak;have ow:=i4 w ah;rw[<-hx] at ou;rw[<-hy] at ow;have hS:CC k bs (j+1)=(CC k bs j).map (K5 (x:Int) (y:Int)):=by
    simp only[CC,hb,xR,hu,hw,Cp,ou,ow,BG]
   have ac: ∀(p q:Nat),p<q->q<k-> ∀(i:Nat),i<k->Iy 1000 (L.set q (p:Int)) i=if i=q then (true,.cells 252 [.ptr (1000+p) 0,.im (.int .i64 q)]) else Iy 1000 L i:=by
    intro p q a0 hq i z;simp only[Iy];by_cases h:i=q
    .subst h;rw[Bt rfl,Bo auOm,BG];simp only[Nl];rw[Bt ⟨auOm,auOm⟩,Cp]
    .rw[Be h,DL (kZ h)]
   have af: ∀(p q:Nat),p<q->q<k-> ∀(e Z:Ap) (tm:TmT),C5 ⟨tm,(1000+q,(true,.cells 252 [.ptr (1000+p) 0,.im (.int .i64 q)]))::(2000,e)::(2,Z)::Bp (Bp (F9 1000 L k) [2000]) [1000+q],2001⟩ (F9 1000 (L.set q (p:Int)) k):=by
    intro p q a0 hq e Z tm;refine xT λi z=> ?_
    rw[ac p q a0 hq i z];by_cases h:i=q
    .subst h;simp only[hget,K7,IJ,Ff]
    .rw[Be h];have h9:=Lg 1000 k L i z;simp (disch:=omega) only[hget,AC,Dw,J2,h9]
   refine⟨λai=>⟨⟨(j+1,L.set y (x:Int)),by simp only;omega,by simp only[EU];exact i2,Qsx i3 ai,λi z=> ?_⟩,by simp only;omega,by rw[AG auOm auOm];simp only;omega,af x y ai auOm _ _ _⟩,λai=>⟨λaj=>⟨⟨(j+1,L.set x (y:Int)),by simp only;omega,by simp only[EU];exact i2,Qsx i3 aj,λi z=> ?_⟩,by simp only;omega,by rw[AG auOm auOm];simp only;omega,af y x aj auOm _ _ _⟩,λaj=>⟨⟨(j+1,L),by simp only;omega,i2,i3,λi z=> ?_⟩,by simp only;omega,by rw[AG auOm auOm];simp only;omega,?_⟩⟩⟩
   .rw[hS,Dp,i4 i z,CT,Qqx i3 ba bb ai auOm i,(Ni ai _).1]
   .rw[hS,Dp,i4 i z,CT,Qqx i3 bb ba aj auOm i,(Ni aj _).2]
   .rw[hS,Dp,i4 i z,CT,show y=x by omega,ZC]
   .refine xT λi z=> ?_
    have h9:=Lg 1000 k L i z;simp (disch:=omega) only[hget,AC,Dw,J2,h9]
  .have bc:j=bs.length:=auOm;subst bc;obtain⟨own,hown⟩: ∃own,own=CC k bs bs.length:=⟨_,rfl⟩;rw[<-hown] at i4;intro _;refine AY.ren ⟨{s:Nat×List (Int×Int)//s.1<=k/\yF (BW own s.1 s.1) s.2},λs=>gI k L s.1.1 s.1.2 (BW own s.1.1 s.1.1),λs=>k - s.1.1,λs=>⟨?_,by simp[gI]⟩,⟨⟨(0,[]),by simp only;omega,?_⟩,[(2100,some 2000)],?_⟩,λs=> ?_⟩
   .have ab:=wU own s.1.1 s.1.1;have hs:=s.2.1;exact Zx auOm auOm
   .exact⟨λr v h=>(by cases h),λg r am h=>(by simp[BW] at h)⟩
   .refine Qxg (O:=2000) (T:=λq=>3000+q) auOm (by simp[BW]) ⟨auOm,trivial⟩ rfl rfl (λj hj=> ?_) rfl (λq hq=>(by simp[BW] at hq)) rfl rfl rfl rfl rfl rfl rfl (λj hj=> ?_) (.inl ⟨rfl,rfl⟩) (λq hq=>(by simp[BW] at hq)) (λq q' hq=>(by simp[BW] at hq)) (λq hq=>(by simp[BW] at hq)) auOm
    .simp only[pm];rw[Be auOm]
    .have h9:=Lg 1000 k L j hj;simp (disch:=omega) only[hget,AC,Dw,h9]
   obtain⟨⟨i,M⟩,q1,q2⟩:=s;simp only at q1 q2;simp only[gI];have an:=wU own i i;simp(disch:=omega)only[ZA,simprocAttr,AL,Bb,K0];refine⟨λz=>⟨z,z,?_⟩,λz=> ?_⟩
   .simp(disch:=omega)only[ZA,simprocAttr,Bb,Qtr,Bt z];have hH: ∀(e1 Z e3:Ap) (j:Nat),j<k->hget ((2001,e1)::(2100,Z)::(2,e3)::(F9 1000 L k++FZ 3000 (BW own i i))) (1000+j)=some (Iy 1000 L j):=by
     intro e1 Z e3 j hj;have h9:=Qnb k L (BW own i i) j hj;simp (disch:=omega) only[hget,AC,Dw,h9]
    have ho:=i4 i z;obtain⟨r,hr⟩: ∃r,r=Ft L i:=⟨_,rfl⟩;have bf:r<=i:=by rw[hr];exact Qnj i3 i
    have bg:own[r]? =some (r:Int):=by
     have:=i4 r auOm
     rwa [hr,Qls i3 i,<-hr] at this
    rw[<-hr] at ho;have gr:=Qnb k L (BW own i i) r auOm;simp only[Iy] at gr;refine⟨auOm,auOm,auOm,Qtp (nx:=4000) i2 auOm i3 z auOm (hH _ _ _) (λU=> ?_)⟩;rw[<-hr];simp(disch:=omega)only[ZA,simprocAttr,J6,Bb,Il,AC,gr,ZJ,Rg (show 1000+r<4000 by omega)];refine⟨λv hv=> ?_,λhn=> ?_⟩
    .obtain⟨g,am,rfl,hg⟩:=q2.a _ v hv;have ab:=(Bi.1 hg).1;have an:=wU own i i;have gg:=Qne k L (BW own i i) g auOm ab;rw[hg,BG] at gg;simp(disch:=omega)only[ZA,simprocAttr,J6,Bb,Il,AC,gg,Qxa];obtain⟨e1,Z⟩:=TQ q2 ho hg;obtain⟨G,hG⟩: ∃G,G=BW own i i:=⟨_,rfl⟩;rw[<-hG] at hg ab an e1 gg⊢;have ac:(CE 3000 G.length).set g [AV.own 4001]=(List.range G.length).map λq=>[AV.own (if q=g then 4001 else 3000+q)]:=by
      apply Rn;intro j;rw[Dp];by_cases hj:j<G.length
      .rw[ER hj];by_cases h:g=j
       .subst h;rw[Bo (by rw[Il];exact ab)];simp
       .rw[DL h,Qo7 _ _ _ hj,CT,Be (kZ h)]
      .rw[Gv (by simp[Il];omega),Gv (by simp;omega)];rfl
     refine⟨ab,ab,auOm,?_,auOm,?_,ab,ab,?_,⟨(i+1,M),by simp only;omega,Z⟩,[(3000+g,some 4001)],by simp only;omega,?_⟩
     .intro row Q;obtain rfl:=Am.1 Q;rfl
     .have h6:(r::am:Cz).length<=1000:=Gu (by rw[hG] at hg;exact Qy0 own i i _ (Bj hg)) auOm;simp only[Em] at h6;omega
     .rw[CF];intro row Q;rcases GR Q with hr|hr
      .exact CF.1 (RZ 3000 G.length 4002 auOm) row hr
      .subst hr;simp[A9,AV.bel]
     have pn: ∀m,m≠3000+g->pm [(3000+g,some 4001)] m=some m:=by intro m hm;simp only[pm];rw[Be (kZ hm)]
     simp only[e1];rw[AG auOm auOm];have hh: ∀(e1 Z e3 e4 e5:Ap) (m:Nat),hget ((2100,e1)::(4001,Z)::(4000,e3)::(2001,e4)::(2,e5)::Bp (Bp (F9 1000 L k++FZ 3000 G) [3000+g]) [2100]) m=if m=2100 then some e1 else if m=4001 then some Z else if m=4000 then some e3 else if m=2001 then some e4 else if m=2 then some e5 else if m=3000+g then none else hget (F9 1000 L k++FZ 3000 G) m:=by
      intro e1 Z e3 e4 e5 m;simp only[hget,Se,K8,Xl,YF,YI,ZeF];by_cases h1:m=2100
      .subst h1;simp
      by_cases h2:m=4001
      .subst h2;simp
      by_cases h3:m=4000
      .subst h3;simp
      by_cases h4:m=2001
      .subst h4;simp
      by_cases h5:m=2
      .subst h5;simp
      simp only[Be h1,Be h2,Be h3,Be h4,Be h5,Be (kZ h1),Be (kZ h2),Be (kZ h3),Be (kZ h4),Be (kZ h5)]
     refine Qxg (O:=2100) (T:=λq=>if q=g then 4001 else 3000+q) auOm (by rw[EU];omega) ⟨auOm,trivial⟩ (pn _ auOm) (pn _ auOm) (λj hj=>pn _ auOm) (pn _ auOm) (λq hq=> ?_) rfl rfl rfl rfl rfl ?_ ?_ (λj hj=> ?_) (.inr ?_) (λq hq=> ?_) (λq q' hq=> ?_) (λq hq=> ?_) auOm
     .by_cases h:q=g
      .subst h;simp[pm]
      .rw[pn _ auOm,Be h]
     .rw[hh];rfl
     .rw[hh];rfl
     .rw[hh,Be auOm,Be auOm,Be auOm,Be auOm,Be auOm,Be auOm];exact Qnb _ _ _ _ hj
     .rw[hh,Bt rfl,ac,EU]
     .rw[EU] at hq;rw[hh];by_cases h:q=g
      .subst h;rw[Bt rfl,Be auOm,Bt rfl,Bo ab,BG];simp[Aj]
      .rw[Be h,Be auOm,Be auOm,Be auOm,Be auOm,Be auOm,Be auOm,DL (kZ h)];exact Qne _ _ _ _ auOm hq
     .rw[EU] at hq;intro au he;rw[EU] at au;by_cases h:q=g<;>by_cases h2:q'=g<;>simp only[h,h2,Ff,HS] at he⊢ <;>omega
     .rw[EU] at hq;by_cases h:q=g<;>simp only[h,Ff,HS]<;>omega
    .obtain⟨a9,e1,Z⟩:=TP q2 ho bf bg hn;have Q:(CE 3000 (BW own i i).length++[[AV.im (D.sl true 0 [])]])[(BW own i i).length]? =some [AV.im (D.sl true 0 [])]:=by
      rw[D8 (by rw[Il];exact BN _),Il,YL];rfl
     have av: ∀N,4000<=N->(CE 3000 (BW own i i).length++[[AV.im (D.sl true 0 [])]]).all (A9 N)=true:=by
      intro N hN;rw[L2,RZ _ _ _ auOm];rfl
     intro _;refine⟨?_,auOm,av _ auOm,by simp[Il],by simp[Il],IH Q ?_⟩
     .intro row Q;obtain rfl:=Am.1 Q;rfl
     have ac:(CE 3000 (BW own i i).length++[[AV.im (D.sl true 0 [])]]).set (BW own i i).length [AV.own 4003]=CE 3000 (BW own i i).length++[[AV.own 4003]]:=by
      have: ∀(l:List (List AV)) n x y,l.length=n->(l++[x]).set n y=l++[y]:=by
       intro l n x y h;subst h;rw[zQ _ _ (BN _),YL];rfl
      exact this _ _ _ _ (Il _ _)
     have ao: ∀N,4003<N->(CE 3000 (BW own i i).length++[[AV.own 4003]]).all (A9 N)=true:=by
      intro N hN;rw[L2,RZ _ _ _ auOm];simp[A9,AV.bel];omega
     simp(disch:=omega)only[ZA,simprocAttr,Bb];refine⟨?_,by simp[Il],by simp[Il],IH Q ?_⟩
     .intro row Q;obtain rfl:=Am.1 Q;rfl
     simp(disch:=omega)only[ZA,simprocAttr,Bb,AC,ac];refine⟨ao _ auOm,⟨(i+1,M++[((i:Int),((BW own i i).length:Int))]),by simp only;omega,by simp only;exact Z⟩,[(2100,some 4001),(3000+(BW own i i).length,some 4003)],by simp only;omega,?_⟩;simp only[e1];obtain⟨G,hG⟩: ∃G,G=BW own i i:=⟨_,rfl⟩;simp only[<-hG] at an⊢;rw[AG auOm auOm];have pn: ∀m,m≠2100->m≠3000+G.length->pm [(2100,some 4001),(3000+G.length,some 4003)] m=some m:=by intro m hm ag;simp only[pm];rw[Be (kZ hm),Be (kZ ag)]
     have hh: ∀(e1 Z e3 e4 e5 e6:Ap) (m:Nat),hget ((4001,e1)::(4003,Z)::(4002,e3)::(4000,e4)::(2001,e5)::(2,e6)::Bp (Bp (Bp (F9 1000 L k++FZ 3000 G) [2001]) [2100]) [4001]) m=if m=4001 then some e1 else if m=4003 then some Z else if m=4002 then some e3 else if m=4000 then some e4 else if m=2001 then some e5 else if m=2 then some e6 else if m=2100 then none else hget (F9 1000 L k++FZ 3000 G) m:=by
      intro e1 Z e3 e4 e5 e6 m;simp only[hget,Se,K8,Xl,YF,YI,ZeF];by_cases h1:m=4001
      .subst h1;simp
      by_cases h2:m=4003
      .subst h2;simp
      by_cases h3:m=4002
      .subst h3;simp
      by_cases h4:m=4000
      .subst h4;simp
      by_cases h5:m=2001
      .subst h5;simp
      by_cases h6:m=2
      .subst h6;simp
      simp only[Be h1,Be h2,Be h3,Be h4,Be h5,Be h6,Be (kZ h1),Be (kZ h2),Be (kZ h3),Be (kZ h4),Be (kZ h5),Be (kZ h6)]
     have aa:(G++[[(i:Int)]]).length=G.length+1:=auSi;refine Qxg (O:=4001) (T:=λq=>if q<G.length then 3000+q else 4003) auOm (by rw[aa];omega) ⟨auOm,auOm,trivial⟩ (pn _ auOm auOm) (pn _ auOm auOm) (λj hj=>pn _ auOm auOm) (by simp[pm]) (λq hq=> ?_) rfl rfl rfl rfl rfl ?_ ?_ (λj hj=> ?_) (.inr ?_) (λq hq=> ?_) (λq q' hq=> ?_) (λq hq=> ?_) auOm
     .rw[aa] at hq;by_cases h:q<G.length
      .rw[pn _ auOm auOm,Bt h]
      .obtain rfl:q=G.length:=auOm;rw[Be h];simp only[pm];rw[Be auOm,Bt trivial]
     .rw[hh,<-a9,<-Ot _ _ _ hn];rfl
     .rw[hh];rfl
     .rw[hh,Be auOm,Be auOm,Be auOm,Be auOm,Be auOm,Be auOm,Be auOm];exact Qnb _ _ _ _ hj
     .rw[hh,Bt rfl,Ql0,aa]
     .rw[aa] at hq;rw[hh];by_cases h:q<G.length
      .rw[Bt h,Be auOm,Be auOm,Be auOm,Be auOm,Be auOm,Be auOm,Be auOm,Db h];exact Qne _ _ _ _ auOm h
      .obtain rfl:q=G.length:=auOm;rw[Be h,Be auOm,Bt rfl,D8 (BN _),YL];rfl
     .rw[aa] at hq;intro au he;rw[aa] at au;by_cases h:q<G.length<;>by_cases h2:q'<G.length<;>simp only[h,h2,Ff,HS] at he⊢ <;>omega
     .by_cases h:q<G.length<;>simp only[h,Ff,HS]<;>omega
   .have ad:i=k:=auOm;subst ad;rw[WO,Cp,<-hown];rw[P6 (m:=7) (G:=BW own i i)]
    .simp(disch:=omega)only[ZZ,simprocAttr]
    .intro q hq;have h9:=Qne i L (BW own i i) q auOm hq;simp (disch:=omega) only[hget,AC,Dw,h9]
def HL(nm:Cz):List Ak->List Ak
 |[]=>[]
 |b::r=>if Cs nm b.A=Cs nm b.B then HL nm r else ⟨Cs nm b.A,Cs nm b.B,b.Strength⟩::HL nm r
def Qvj(nm:Cz): ∀(a b:List Ak),HL nm (a++b)=HL nm a++HL nm b
 |[],b=>rfl
 |x::r,b=>by simp only[BZ,HL,Qvj nm r b];split<;>rfl
def Qpl(nm:Cz): ∀(a:List Ak),(HL nm a).length<=a.length
 |[]=>BN _
 |x::r=>by have:=Qpl nm r;simp only[HL];split<;>simp only[Em]<;>omega
def Qab6(nm:Cz){bs:List Ak}{k:Nat}{b:Ak}(h:bs[k]? =some b):HL nm (bs.take (k+1))=HL nm (bs.take k)++if Cs nm b.A=Cs nm b.B then [] else [⟨Cs nm b.A,Cs nm b.B,b.Strength⟩]:=by
 rw[FL,h];simp only[ZdP,Qvj,HL]
def Ef(n:Int)(bs:List Ak)(t:Int):Int×List Ak:=((OW n bs t).length,HL (Sq n.toNat (OW n bs t)) bs)
def dlC.H0_dom(a:List Ak×Int)(j:Nat):Ai (dlC.H0 a) j=true↔j<1:=by
 simp only[Ai,dlC.H0,hget];by_cases h0:j=0
 .subst h0;simp
 .have z:(0==j)=false:=by simp;omega
  simp[z];omega
def contr.fv(a:Int×(List Ak)×Int):Int×(List Ak):=(Ef) (a.1) (a.2.1) (a.2.2)
def contr.row:A8:=vK (b3 qI (qS Ak.d_le Ak.c_n) qI) (r2 rI (rS Ak.d_le Ak.c_n)) (λa=>0<=a.1/\a.1<=512/\Mm a.1 a.2.1/\a.2.1.length<=1000000) contr.fv
def contr.q:=Bg (R:=contr.row) rfl
def contr.ok:AE 156 contr.row:=by
 refine vw (tC clobC.ok (tC dlC.ok (tC groupsBy_.ok tN))) Tryz.func156 ?_;intro a ad;simp only[Tryz.f156];simp only[ZA,simprocAttr,contr.fv];obtain⟨h0,h1,Q,O⟩:=ad;obtain⟨n,hn⟩: ∃n:Nat,a.1=n:=⟨a.1.toNat,auOm⟩;obtain⟨bs,hbsd⟩: ∃bs,bs=a.2.1:=⟨_,rfl⟩;obtain⟨t,ht⟩: ∃t,t=a.2.2:=⟨_,rfl⟩;simp only[hn,<-hbsd,<-ht] at h0 h1 Q O⊢;refine A7.os bs [] O (λj=>by simp[Ai,hget]) rfl rfl ?_ ?_
 .simp only[ZA,simprocAttr,clobC.ca,Du]
 simp only[ZA,simprocAttr,clobC.H1];left;refine A7.os (bs,t) [2] O (λj=>dlC.H0_dom _ j) rfl rfl ?_ ?_
 .simp only[ZA,simprocAttr,dlC.ca,dlC.H0,BF]
 simp only[ZA,simprocAttr,groupsBy_.q,groupsBy_.fv,dlC.H1];have Z:TO ((n:Int),H8 t bs):=⟨by simp only;omega,by simp only;omega,λb hb=>Q b (rM.1 hb).1,by have:=Qln t bs;simp only;omega⟩;refine⟨Z,auOm,?_⟩;obtain⟨z,hgs⟩: ∃z,z=WO (n:Int) (H8 t bs):=⟨_,rfl⟩;have ah: ∀r∈z,∀v∈r,0<=v/\v<n:=by rw[hgs];exact Qps n _
 simp only[<-hgs];intro ao;refine AY.old ⟨{i:Nat//i<=z.length},λi=>⟨[(27,.im (.int .i64 i.1)),(26,.im (.int .i64 z.length)),(25,.im (.sl false 1 (z.map BD))),(9,.own 1022),(8,.im (.sl false 1 (z.map BD))),(1,.im (.sl false 3 (bs.map Ak.c)))],[(1022,(true,.arr 2 1 ((Lp z (List.replicate n 0) i.1).map Aj)))],1023⟩,λi=>z.length - i.1,λi=>⟨by simp[ZG],auSi⟩,⟨⟨0,auSi⟩,?_⟩,λi=> ?_⟩
 .simp only[ZA,simprocAttr,sub,Lp,xZ]
 obtain⟨i,aq⟩:=i;simp only[ZZ,simprocAttr,AL];refine⟨λhi=>⟨hi,λr hr=> ?_⟩,λhi=> ?_⟩
 .have ak:=ah r (Bj hr);obtain⟨l,hl⟩: ∃l,l=Lp z (List.replicate n 0) i:=⟨_,rfl⟩;have au:l.length=n:=by rw[hl,wX,Ri]
  simp only[<-hl];intro av;refine AY.old ⟨{k:Nat//k<=r.length},λk=>⟨[(34,.im (.int .i64 k.1)),(33,.im (.int .i64 r.length)),(32,.im (.sl false 1 (r.map Aj))),(10,.im (.int .i64 i)),(27,.im (.int .i64 i)),(26,.im (.int .i64 z.length)),(25,.im (.sl false 1 (z.map BD))),(9,.own 1022),(8,.im (.sl false 1 (z.map BD))),(1,.im (.sl false 3 (bs.map Ak.c)))],[(1022,(true,.arr 2 1 ((Rc i r l k.1).map Aj)))],1023⟩,λk=>r.length - k.1,λk=>⟨by simp[ZG],auSi⟩,⟨⟨0,auSi⟩,?_⟩,λk=> ?_⟩
  .simp only[ZA,simprocAttr,sub,Rc]
  obtain⟨k,aj⟩:=k;have ac:=Qkb (i:Int) r l k;simp only[ZA,simprocAttr,sub,AL,ac,iY];refine⟨λhk=>⟨hk,λv hv=> ?_⟩,λhk=> ?_⟩
  .obtain⟨v1,v2⟩:=ak v (Bj hv);refine⟨v1,auOm,auOm,λ_ _=>⟨⟨k+1,auOm⟩,by simp only;omega,by rw[AG auOm auOm];simp only;omega,?_⟩⟩;simp only[Rc,hv,BG]
  .have:k=r.length:=auOm
   refine⟨⟨i+1,auOm⟩,by simp only;omega,by rw[AG auOm auOm];simp only;omega,?_⟩;simp only[Lp,hr,BG,<-hl,this]
 .have ai:i=z.length:=auOm;subst ai;obtain⟨nm,hnm⟩: ∃nm,nm=Lp z (List.replicate n 0) z.length:=⟨_,rfl⟩;have ac:nm.length=n:=by rw[hnm,wX,Ri]
  simp only[<-hnm];intro an;refine AY.ren ⟨{k:Nat//k<=bs.length},λk=>⟨[(46,.im (.int .i64 k.1)),(45,.im (.int .i64 bs.length)),(44,.im (.sl false 3 (bs.map Ak.c))),(14,.own 1024),(9,.own 1022),(8,.im (.sl false 1 (z.map BD)))],[(1024,(true,.arr 196 3 ((HL nm (bs.take k.1)).map Ak.c))),(1022,(true,.arr 2 1 (nm.map Aj)))],1025⟩,λk=>bs.length - k.1,λk=>⟨by simp[ZG],auSi⟩,⟨⟨0,auSi⟩,[(1024,some 1023)],?_⟩,λk=> ?_⟩
  .simp only[AB];simp only[ZA,simprocAttr,Bf];rfl
  obtain⟨k,aj⟩:=k;have am:=Qpl nm (bs.take k);rw[Eb] at am;simp only[ZA,simprocAttr,AL,XG,X3,Ee,D.one];refine⟨λhk=>⟨hk,λb hb=> ?_⟩,λhk=> ?_⟩
  .obtain⟨b1,b2,b3,b4⟩:=Q b (Bj hb);refine⟨b1,auOm,auOm,λx hx=>⟨b3,auOm,auOm,λy hy=> ?_⟩⟩;have e1:Cs nm b.A=x:=by simp only[Cs,hx,BG]
   have e2:Cs nm b.B=y:=by simp only[Cs,hy,BG]
   have aa:=Qab6 nm hb;rw[e1,e2] at aa;refine⟨λab=>⟨b1,auOm,auOm,λx' af=>⟨b3,auOm,auOm,λy' ag=>⟨auOm,⟨k+1,auOm⟩,[(1024,some 1027)],by simp only;omega,?_⟩⟩⟩,λab=>⟨⟨k+1,auOm⟩,[],by simp only;omega,?_⟩⟩
   .rw[hx] at af;rw[hy] at ag;obtain rfl:=AJ af;obtain rfl:=AJ ag;simp only[AB];simp only[ZA,simprocAttr,Bf,aa];rw[AG auOm auOm,Be ab];simp[Ak.c]
   .simp only[AB];simp only[ZA,simprocAttr,Bf,aa];rw[AG auOm auOm,Bt (Ch.1 ab),C3];simp
  .have:k=bs.length:=auOm
   subst this;rw[Pj];intro _;simp only[Ef,OW,Sq,Cp,<-hgs,<-hnm]
end Go.Ae
