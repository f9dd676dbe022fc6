/- Lemmas. Conditions: none. -/
import Derived.Test.YtpnmcdpbphpklaaGreatDoorP09
set_option linter.all false
set_option maxHeartbeats 8000000
set_option maxRecDepth 100000
namespace Go.Ae
open Go.Proofs
def G0(t:Int)(bs:List Af):List Af:=bs.filter λb=>decide (t<=b.Strength)
def PV(g:Int)(r:List Int)(l:List Int):Nat->List Int
 |0=>l
 |k+1=>(PV g r l k).set (r[k]?.getD 0).toNat g
def JG(gs:List (List Int))(l:List Int):Nat->List Int
 |0=>l
 |i+1=>PV i (gs[i]?.getD []) (JG gs l i) (gs[i]?.getD []).length
def yR(g:Int)(r l:List Int): ∀k,(PV g r l k).length=l.length
 |0=>rfl
 |k+1=>by simp only[PV,JR,yR g r l k]
def rN(gs:List (List Int))(l:List Int): ∀i,(JG gs l i).length=l.length
 |0=>rfl
 |i+1=>by simp only[JG,yR,rN gs l i]
def QU(n:Nat)(gs:List (List Int)):List Int:=JG gs (List.replicate n 0) gs.length
def BS(nm:List Int)(v:Int):Int:=nm[v.toNat]?.getD 0
def Hv(nm:List Int):List Af->List Af
 |[]=>[]
 |b::r=>if BS nm b.A=BS nm b.B then Hv nm r else ⟨EV (BS nm b.A) (BS nm b.B),DF (BS nm b.A) (BS nm b.B),b.Strength⟩::Hv nm r
def Qp2(nm:List Int): ∀(a b:List Af),Hv nm (a++b)=Hv nm a++Hv nm b
 |[],b=>rfl
 |x::r,b=>by simp only[CW,Hv,Qp2 nm r b];split<;>rfl
def Qjq(nm:List Int): ∀(a:List Af),(Hv nm a).length<=a.length
 |[]=>AF _
 |x::r=>by have:=Qjq nm r;simp only[Hv];split<;>simp only[Cr]<;>omega
def Qln(t:Int)(bs:List Af):(G0 t bs).length<=bs.length:=fC _ _
def Qjs(t:Int){bs:List Af}{k:Nat}{b:Af}(h:bs[k]? =some b):G0 t (bs.take (k+1))=G0 t (bs.take k)++if t<=b.Strength then [b] else []:=by
 rw[G9,h];simp only[G0,fM,WZ,lW,fJ,Bo]
def nN(own:List Int)(i:Nat): ∀k,∀v∈Dp own i k,(i:Int)<=v/\v<i+k
 |0,v,h=>by simp[Dp] at h
 |k+1,v,h=>by
  simp only[Dp,Bp] at h;rcases h with h|h
  .have:=nN own i k v h;omega
  .split at h
   .rw[B4] at h;omega
   .simp at h
def Qvq(own:List Int)(n:Nat): ∀k,k<=n-> ∀r∈BC own n k,∀v∈r,0<=v/\v<n
 |0,_,r,h,_,_=>by simp[BC] at h
 |k+1,G,r,h,v,z=>by
  simp only[BC,Bp] at h;rcases h with h|h
  .exact Qvq own n k (by omega) r h v z
  .split at h
   .rw[B4] at h;subst h
    have:=nN own k (n - k) v z
    omega
   .simp at h
def Qps(n:Nat)(bs:List Af): ∀r∈Vl (n:Int) bs,∀v∈r,0<=v/\v<n:=by
 intro r z v G
 have:=Qvq (Co n bs bs.length) n n (AF _) r (by simpa[Vl] using z) v G
 omega
def Qvc(nm:List Int){bs:List Af}{k:Nat}{b:Af}(h:bs[k]? =some b):Hv nm (bs.take (k+1))=Hv nm (bs.take k)++if BS nm b.A=BS nm b.B then [] else [⟨EV (BS nm b.A) (BS nm b.B),DF (BS nm b.A) (BS nm b.B),b.Strength⟩]:=by
 rw[G9,h];simp only[WZ,Qp2,Hv]
def NA(n:Int)(bs:List Af)(t:Int):List (List Int):=Vl n (G0 t bs)
def Cp(n:Int)(bs:List Af)(t:Int):Int×List Af:=((NA n bs t).length,Hv (QU n.toNat (NA n bs t)) bs)
def shrunk.fv(a:Int×(List Af)×Int):Int×(List Af):=(Cp) (a.1) (a.2.1) (a.2.2)
def shrunk.row:Ax:=vK (b3 qI (qS Af.d_le Af.c_n) qI) (r2 rI (rS Af.d_le Af.c_n)) (λa=>0<=a.1/\a.1<=1000000/\KD a.1 a.2.1/\a.2.1.length<=1000000) shrunk.fv
def shrunk.q:=AX (R:=shrunk.row) rfl
def shrunk.ok:AA 179 shrunk.row:=by
 refine vw (tC l06Groups.ok (tC l00Min.ok (tC l00Max.ok tN))) Tryz.func179 ?_;intro a ah;simp only[Tryz.f179];simp only[ZA,simprocAttr,shrunk.fv];obtain⟨h0,h1,aa,ai⟩:=ah;obtain⟨n,hn⟩: ∃n:Nat,a.1=n:=⟨a.1.toNat,by omega⟩;obtain⟨bs,hbsd⟩: ∃bs,bs=a.2.1:=⟨_,rfl⟩;obtain⟨t,ht⟩: ∃t,t=a.2.2:=⟨_,rfl⟩;simp only[hn,<-hbsd,<-ht] at h0 h1 aa ai⊢;refine AR.ren ⟨{k:Nat//k<=bs.length},λk=>⟨[(9,.im (.int .i64 k.1)),(8,.own 2),(0,.im (.int .i64 n)),(1,.im (.sl false 3 (bs.map Af.c))),(2,.im (.int .i64 t))],[(2,(true,.arr 277 3 ((G0 t (bs.take k.1)).map Af.c)))],3⟩,λk=>bs.length - k.1,λk=>⟨by simp[ZG],by simp⟩,⟨⟨0,by simp⟩,[(2,some 1)],?_⟩,λk=> ?_⟩
 .simp only[Ak];simp only[ZA,simprocAttr];rfl
 obtain⟨k,ab⟩:=k;have Z:=Qln t (bs.take k);rw[Bw] at Z;simp only[ZA,simprocAttr,l06Groups.q,l06Groups.fv,AM,FJ,FI,Bn,D.one];intro _;refine⟨λO=>⟨O,λb Q=>⟨λhs=>⟨O,λb' z=>⟨by omega,⟨k+1,by omega⟩,[(2,some 4)],by simp only;omega,?_⟩⟩,λhs=>⟨⟨k+1,by omega⟩,[(2,some 2)],by simp only;omega,?_⟩⟩⟩,λO=> ?_⟩
 .rw[Q] at z;obtain rfl:=Aw z;simp only[Ak];simp only[ZA,simprocAttr,Qjs t Q];rw[AB (by omega) (by omega),Ai hs];simp[Af.c]
 .simp only[Ak];simp only[ZA,simprocAttr,Qjs t Q];rw[AB (by omega) (by omega),Ad hs,CC];simp
 have am:k=bs.length:=by omega
 subst am;rw[El];refine⟨⟨h1,λb Q=>aa b (Rc.1 Q).1⟩,by omega,?_⟩;obtain⟨G,hgs⟩: ∃G,G=Vl (n:Int) (G0 t bs):=⟨_,rfl⟩;have aj: ∀r∈G,∀v∈r,0<=v/\v<n:=by rw[hgs];exact Qps n _
 simp only[<-hgs];clear O Z ab;refine AR.old ⟨{i:Nat//i<=G.length},λi=>⟨[(12,.im (.int .i64 i.1)),(11,.own 3),(10,.im (.sl false 1 (G.map Du))),(0,.im (.int .i64 n)),(1,.im (.sl false 3 (bs.map Af.c))),(2,.im (.int .i64 t))],[(3,(true,.arr 2 1 ((JG G (List.replicate n 0) i.1).map Ao)))],4⟩,λi=>G.length - i.1,λi=>⟨by simp[ZG],by simp⟩,⟨⟨0,by simp⟩,?_⟩,λi=> ?_⟩
 .simp only[ZA,simprocAttr,sub,JG,sU]
 obtain⟨i,aq⟩:=i;simp only[ZA,simprocAttr,AM];intro ao;refine⟨λhi=> ?_,λhi=> ?_⟩
 .obtain⟨r,hr⟩: ∃r,G[i]? =some r:=⟨_,Bd hi⟩;have an:=aj r (AP hr);obtain⟨l,hl⟩: ∃l,l=JG G (List.replicate n 0) i:=⟨_,rfl⟩;have au:l.length=n:=by rw[hl,rN,NM]
  simp only[<-hl];refine AR.old ⟨{k:Nat//k<=r.length},λk=>⟨[(13,.im (.int .i64 k.1)),(12,.im (.int .i64 i)),(11,.own 3),(10,.im (.sl false 1 (G.map Du))),(0,.im (.int .i64 n)),(1,.im (.sl false 3 (bs.map Af.c))),(2,.im (.int .i64 t))],[(3,(true,.arr 2 1 ((PV i r l k.1).map Ao)))],4⟩,λk=>r.length - k.1,λk=>⟨by simp[ZG],by simp⟩,⟨⟨0,by simp⟩,?_⟩,λk=> ?_⟩
  .simp only[ZA,simprocAttr,sub,PV]
  obtain⟨k,ab⟩:=k;have ag:=yR (i:Int) r l k;simp only[ZZ,simprocAttr,sub,AM,hr,ag,dN];refine⟨hi,λr' ac av=> ?_⟩;subst ac;refine⟨λO=>⟨hi,λr' ac=> ?_⟩,λO=>⟨⟨i+1,by omega⟩,by simp only;omega,by rw[AB (by omega) (by omega)];simp only;omega,?_⟩⟩
  .subst ac;refine⟨O,λv hv=> ?_⟩;obtain⟨v1,v2⟩:=an v (AP hv);refine⟨v1,by omega,by omega,λ_ _=>⟨⟨k+1,by omega⟩,by simp only;omega,by rw[AB (by omega) (by omega)];simp only;omega,?_⟩⟩;simp only[PV,hv,AS]
  .have:k=r.length:=by omega
   simp only[JG,hr,AS,<-hl,this]
 .have ak:i=G.length:=by omega
  subst ak;obtain⟨nm,hnm⟩: ∃nm,nm=JG G (List.replicate n 0) G.length:=⟨_,rfl⟩;have ag:nm.length=n:=by rw[hnm,rN,NM]
  simp only[<-hnm];refine AR.ren ⟨{k:Nat//k<=bs.length},λk=>⟨[(15,.im (.int .i64 k.1)),(14,.own 5),(11,.own 3),(10,.im (.sl false 1 (G.map Du))),(0,.im (.int .i64 n)),(1,.im (.sl false 3 (bs.map Af.c))),(2,.im (.int .i64 t))],[(5,(true,.arr 277 3 ((Hv nm (bs.take k.1)).map Af.c))),(3,(true,.arr 2 1 (nm.map Ao)))],6⟩,λk=>bs.length - k.1,λk=>⟨by simp[ZG],by simp⟩,⟨⟨0,by simp⟩,[(5,some 4)],?_⟩,λk=> ?_⟩
  .simp only[Ak];simp only[ZA,simprocAttr,AL];rfl
  obtain⟨k,ab⟩:=k;have Z:=Qjq nm (bs.take k);rw[Bw] at Z;simp only[ZA,simprocAttr,l00Min.q,l00Min.fv,l00Max.q,l00Max.fv,AM,FJ,FI,Bn,D.one];intro _;refine⟨λO=>⟨O,λb Q=> ?_⟩,λO=> ?_⟩
  .obtain⟨b1,b2,b3,b4⟩:=aa b (AP Q);refine⟨b1,by omega,by omega,λx hx=>⟨O,λb' z=> ?_⟩⟩;rw[Q] at z;obtain rfl:=Aw z;refine⟨b3,by omega,by omega,λy hy=> ?_⟩;have e1:BS nm b.A=x:=by simp only[BS,hx,AS]
   have e2:BS nm b.B=y:=by simp only[BS,hy,AS]
   have ad:=Qvc nm Q;rw[e1,e2] at ad;refine⟨λaf=>⟨O,λb' z=>⟨by omega,⟨k+1,by omega⟩,[(5,some 7)],by simp only;omega,?_⟩⟩,λaf=>⟨⟨k+1,by omega⟩,[(5,some 5)],by simp only;omega,?_⟩⟩
   .rw[Q] at z;obtain rfl:=Aw z;simp only[Ak];simp only[ZA,simprocAttr,AL,ad];rw[AB (by omega) (by omega),Ad af];simp[Af.c]
   .simp only[Ak];simp only[ZA,simprocAttr,AL,ad];rw[AB (by omega) (by omega),Ai (G8.1 af),CC];simp
  .have:k=bs.length:=by omega
   subst this;rw[El];intro _;simp only[Cp,NA,QU,BD,<-hgs,<-hnm]
def Qk5(s:A8): ∀(l:List Av) (i:Nat),K9 s i l=true-> ∀g∈l,1<=g.Strength/\g.Strength<=4
 |[],_,_,_,h=>by cases h
 |x::r,i,h,g,z=>by
  simp only[K9,AO,Bf,Bo] at h;rcases Bx.1 z with rfl|z
  .exact⟨h.1.2.1.1,h.1.2.1.2⟩
  .exact Qk5 s r _ h.2 g z
def Qlf(s:A8): ∀(l:List Tile) (i:Nat),Jn s i l=true-> ∀t∈l,t.Sides.length=4/\ ∀g∈t.Sides,0<=g/\g<=s.Glues.length
 |[],_,_,_,h=>by cases h
 |x::r,i,h,t,z=>by
  simp only[Jn,AO,Bo,DV,Bf] at h;rcases Bx.1 z with rfl|z
  .exact⟨h.1.2.1,λg G=>⟨(h.1.2.2.2 g G).1,(h.1.2.2.2 g G).2⟩⟩
  .exact Qlf s r _ h.2 t z
def Qge{s:A8}(h:Eu s=true):BG s:=by
 simp only[Eu,AO,Bo] at h;exact⟨by omega,Qlf s _ _ h.2.2,Qk5 s _ _ h.2.1⟩
def Ix{s:A8}{a:Ab}(h:FM s a=true):Fy s a/\a.Tiles.length<=500:=by
 simp only[FM,AO,Bo,DV,Bf] at h;exact⟨⟨h.1.1,λx z=>⟨(h.2 x z).1,by have:=(h.2 x z).2;omega⟩⟩,h.1.2⟩
def YQ(p:Ac)(d:Int):Cm p d≠p:=by
 intro h;have G:(Cm p d).X=p.X:=by rw[h]
 have z:(Cm p d).Y=p.Y:=by rw[h]
 simp only[Cm] at G z;split at G
 .rename_i h0;rw[Ai h0] at z;simp only at z;omega
 .rename_i h0;rw[Ad h0] at z;split at G
  .simp only at G;omega
  .rename_i O;rw[Ad O] at z;split at G
   .rename_i Q;rw[Ai Q] at z;simp only at z;omega
   .simp only at G;omega
def gW(a:Ab)(i:Nat)(d:Int)(Z:i<a.Tiles.length):Ha a i d≠i:=by
 intro h;rcases Vk (λx=>decide (x.At=Cm ((a.Tiles[(i:Int).toNat]?.map Aj.At).getD ⟨0,0⟩) d)) a.Tiles 0 with ⟨_,z⟩|⟨j,x,O,z,Q⟩
 .simp only[Ha,z] at h;omega
 .simp only[Ha,z,Fj] at h;have G:j=i:=by omega
  subst G
  have:=V8 O
  simp only[Bo,BD,Q,DW,AS] at this;exact YQ _ _ this.symm
def JX(n:Int)(b:Af):Prop:=(0<=b.A/\b.A<n/\0<=b.B/\b.B<n)/\b.A≠b.B/\0<b.Strength/\b.Strength<=4
def Xo{s:A8}(hs:BG s)(a:Ab)(i:Nat)(hi:i<a.Tiles.length)(d:Int): ∀b∈WO s a i d,JX a.Tiles.length b:=by
 intro b z;simp only[WO] at z;split at z
 .rename_i h0;split at z
  .rename_i G;rw[B4] at z;subst z;have O:=Kq a i d;have Q:=gW a i d hi;have Z:JD s (Gy a i) d (Gy a (Ha a i d))<=4:=by
    simp only[JD];split
    .exact (Qp1 hs _).2
    .omega
   exact⟨⟨by simp only;omega,by simp only;omega,h0,O⟩,λh=>Q h.symm,G,Z⟩
  .simp at z
 .simp at z
def Qzz{s:A8}(hs:BG s)(a:Ab)(i:Nat)(z:i<a.Tiles.length): ∀k,∀b∈JC s a i k,JX a.Tiles.length b
 |0,b,h=>by simp[JC] at h
 |k+1,b,h=>by
  simp only[JC,Bp] at h;rcases h with h|h
  .exact Qzz hs a i z k b h
  .exact Xo hs a i z _ b h
def Qro{s:A8}(hs:BG s)(a:Ab): ∀k,k<=a.Tiles.length-> ∀b∈F7 s a k,JX a.Tiles.length b
 |0,_,b,h=>by simp[F7] at h
 |k+1,z,b,h=>by
  simp only[F7,Bp] at h;rcases h with h|h
  .exact Qro hs a k (by omega) b h
  .exact Qzz hs a k (by omega) _ b h
def Mc(g:Int)(r:List Int)(m:Int)(h0:0<=g)(O:g<m)(l:List Int)(G: ∀x∈l,0<=x/\x<m): ∀k,∀x∈PV g r l k,0<=x/\x<m
 |0=>G
 |k+1=>by
  intro x z;simp only[PV] at z;rcases ZM z with z|z
  .exact Mc g r m h0 O l G k x z
  .omega
def Mb(gs:List (List Int))(l:List Int)(z: ∀x∈l,0<=x/\x<(gs.length:Int)): ∀i,i<=gs.length-> ∀x∈JG gs l i,0<=x/\x<(gs.length:Int)
 |0,_=>z
 |i+1,G=>Mc _ _ _ (by omega) (by omega) _ (Mb gs l z i (by omega)) _
def Qy8{n:Nat}{gs:List (List Int)}(G:0<gs.length)(v:Int):0<=BS (QU n gs) v/\BS (QU n gs) v<(gs.length:Int):=by
 simp only[BS];cases h:(QU n gs)[v.toNat]? with
 |none=>simp;omega
 |some x=>
  rw[AS];exact Mb gs _ (λx z=>by have:=PY z;omega) _ (AF _) x (AP h)
def Qvw{n:Nat}{gs:List (List Int)}(z:0<gs.length): ∀(bs:List Af),(∀b∈bs,0<b.Strength/\b.Strength<=4)-> ∀b∈Hv (QU n gs) bs,JX gs.length b
 |[],_,b,h=>by simp[Hv] at h
 |x::r,O,b,h=>by
  simp only[Hv] at h;have ih:=Qvw (n:=n) z r (λy Z=>O y (BZ _ Z)) b;split at h
  .exact ih h
  .rename_i Q;rcases Bx.1 h with rfl|h
   .have h1:=Qy8 (n:=n) z x.A;have h2:=Qy8 (n:=n) z x.B;have G:=O x (Cb ..);refine⟨?_,?_,G.1,G.2⟩
    .simp only[EV,DF]
     split<;>split<;>omega
    .simp only[EV,DF]
     split<;>split<;>omega
   .exact ih h
def MA{n:Int}{bs:List Af}{t:Int}(O: ∀b∈bs,JX n b)(hl:bs.length<=1000000)(h0:0<(Cp n bs t).1)(Z:(Cp n bs t).1<=64):Zt (Cp n bs t)/\PU (Cp n bs t).2:=by
 have G:=Qvw (n:=n.toNat) (gs:=NA n bs t) (by simp only[Cp] at h0;omega) bs (λb z=>⟨(O b z).2.2.1,(O b z).2.2.2⟩);have Q:=Qjq (QU n.toNat (NA n bs t)) bs;refine⟨⟨by omega,by omega,by simp only[Cp];omega,λb z=>(G b z).1,λb z=>(G b z).2.1⟩,λb z=> ?_⟩
 have:=(G b z).2.2
 omega
def eW(s:A8)(a:Ab)(t:Int):Bool×Int:=
 if 64<(Cp a.Tiles.length (F7 s a a.Tiles.length) t).1 then (false,4)
 else if (Cp a.Tiles.length (F7 s a a.Tiles.length) t).1<2 then (true,0)
 else (decide (t<=(F8 (Cp a.Tiles.length (F7 s a a.Tiles.length) t).1 (Cp a.Tiles.length (F7 s a a.Tiles.length) t).2 ((Cp a.Tiles.length (F7 s a a.Tiles.length) t).1 - 1).toNat).1),0)
def l07Stable.fv(a:A8×Ab×Int):Bool×Int:=(eW) (a.1) (a.2.1) (a.2.2)
def l07Stable.row:Ax:=vK (b3 (qP 2 A8.d_le) (qP 1 Ab.d_le) qI) (r2 rB rI) (λa=>BG a.1/\Fy a.1 a.2.1/\a.2.1.Tiles.length<=500) l07Stable.fv
def l07Stable.q:=AX (R:=l07Stable.row) rfl
def l07Stable.ok:AA 131 l07Stable.row:=by
 refine vw (tC l06Bonds.ok (tC shrunk.ok (tC weakC.ok tN))) Tryz.func131 ?_;intro a z;simp only[Tryz.f131];simp only[ZA,simprocAttr,Ab.d,l07Stable.fv,l06Bonds.q,l06Bonds.fv,shrunk.q,shrunk.fv,weakC.q,weakC.fv];obtain⟨G,Q,h3⟩:=z;have O:=Qro G a.2.1 _ (AF _);have hl:=rE a.1 a.2.1 a.2.1.Tiles.length;refine⟨⟨G,Q,by omega⟩,⟨by omega,λb Z=>(O b Z).1,by omega⟩,?_⟩;simp only[eW];split
 .rfl
 .rename_i c1;split
  .rfl
  .rename_i c2;obtain⟨p1,p2⟩:=MA (t:=a.2.2) O (by omega) (by omega) (by omega);exact⟨⟨p1,p2,by omega⟩,rfl⟩
def UK(s:A8)(a:Ab)(t:Int):Bool:=(eW s a t).1 && decide ((eW s a t).2=0)
def Dw(y:Am):Bool:=Eu y.Set && (FM y.Set y.Seed && (!y.Seed.Tiles.isEmpty && (Bf y.Temperature 1 16 && UK y.Set y.Seed y.Temperature)))
def l08Ok.fv(a:Am):Bool:=(Dw) a
def l08Ok.row:Ax:=vK (b1 (qP 4 Am.d_le)) rB (λa=>True) l08Ok.fv
def l08Ok.q:=AX (R:=l08Ok.row) rfl
def l08Ok.ok:AA 76 l08Ok.row:=by
 refine vw (tC l02Ok.ok (tC l03Ok.ok (tC l07Temperature.ok (tC l07Stable.ok tN)))) Tryz.func76 ?_;intro a aa;simp only[Tryz.f76];simp only[ZA,simprocAttr,Ab.d,l08Ok.fv,l02Ok.q,l02Ok.fv,l03Ok.q,l03Ok.fv,l07Temperature.q,l07Temperature.fv,l07Stable.q,l07Stable.fv]
 split<;>rename_i c1
 .split<;>rename_i c2
  .have z:FM a.Set a.Seed=true:=by
    simp only[FM,AO,Bo];exact c2
   split<;>rename_i G
   .have O:a.Seed.Tiles.isEmpty=false:=by
     rw[ZdV];intro h;rw[h] at G;simp at G
    split<;>rename_i Q
    .simp only[Dw,Q,Gf,lY]
    .refine⟨⟨Qge c1,(Ix z).1,(Ix z).2⟩,?_⟩;rw[I1] at Q;simp only[Dw,c1,z,O,Q,F2,Xe,UK]
     split<;>rename_i Z
     .rw[Z,F2]
     .rw[JQ] at Z;rw[Z,Gf]
   .have O:a.Seed.Tiles=[]:=by
     have:=G8.1 G
     exact uE (by omega)
    simp[Dw,O]
  .have z:FM a.Set a.Seed=false:=by
    rw[Rf];intro h;simp only[FM,AO,Bo] at h;exact c2 h
   simp[Dw,z]
 .rw[JQ] at c1;simp[Dw,c1]
def Qq4{a b:Ac}(h:Bj a b=false)(G:a≠b):Bj b a=true:=by
 obtain⟨x,y⟩:=a;obtain⟨z,w⟩:=b;simp only[Bj,ne_eq,Ac.mk.injEq] at*
 grind
def CJ(p:Ac)(t:Int):List Aj->List Aj
 |[]=>[⟨p,t⟩]
 |x::r=>if Bj p x.At=true then ⟨p,t⟩::x::r else x::CJ p t r
def Mp(p:Ac)(t:Int): ∀(l:List Aj),GN p t false l++(if Iw p l=true then [] else [⟨p,t⟩])=CJ p t l
 |[]=>rfl
 |x::r=>by
  have ih:=Mp p t r;by_cases h:Bj p x.At=true
  .have e:Iw p (x::r)=true:=by simp only[Iw,Ai h]
   simp only[e,BF,CC,GN,CJ,Ai h,tE]
  .have e:Iw p (x::r)=Iw p r:=by simp only[Iw,Ad h]
   simp only[e,GN,CJ,Ad h,CW,ih]
def WE(a:Ab)(p:Ac)(t:Int):Br a p t=⟨CJ p t a.Tiles⟩:=by simp only[Br,Mp]
def Qkk(p:Ac)(t:Int): ∀(l:List Aj),(CJ p t l).length=l.length+1
 |[]=>rfl
 |x::r=>by simp only[CJ];split<;>simp[Qkk p t r]
def sF(p:Ac)(t:Int)(y:Aj): ∀(l:List Aj),y∈CJ p t l↔y=⟨p,t⟩\/y∈l
 |[]=>by simp[CJ]
 |x::r=>by
  simp only[CJ];split
  .simp
  .simp only[Bx,sF p t y r];constructor
   .rintro (h|h|h)
    .exact .inr (.inl h)
    .exact .inl h
    .exact .inr (.inr h)
   .rintro (h|h|h)
    .exact .inr (.inl h)
    .exact .inl h
    .exact .inr (.inr h)
def Qki{p:Ac}{t:Int}(hp:Dl p=true)(Z:Bf t 0 159=true): ∀(l:List Aj) (q:Option Ac),Ck q l=true->(∀q',q=some q'->Bj q' p=true)->(∀x∈l,x.At≠p)->Ck q (CJ p t l)=true
 |[],q,_,G,_=>by
  simp only[CJ,N8,rO,hp,Z,F2,F1];cases q with
  |none=>rfl
  |some q'=>exact G q' rfl
 |x::r,q,z,G,h3=>by
  have hx:=h3 x (Cb ..);rw[N8] at z;simp only[AO] at z;obtain⟨g1,g2,g3,g4⟩:=z;simp only[CJ];split
  .rename_i O;rw[N8,N8];simp only[hp,Z,g1,g2,g4,O,F2,F1];cases q with
   |none=>rfl
   |some q'=>exact G q' rfl
  .rename_i O;rw[N8];have ih:=Qki hp Z r (some x.At) g4 (λq' Q=>by
    obtain rfl:=Aw Q;exact Qq4 (by simpa using O) (E3 hx)) (λy hy=>h3 y (BZ _ hy))
   simp only[g1,g2,ih,F2,F1];exact g3
def fT{a:Ab}(hf:Ck none a.Tiles=true){p:Ac}(h:Bq a p<0): ∀x∈a.Tiles,x.At≠p:=by
 intro x O G;have z:(a.Tiles.find? (λx=>decide (x.At=p))).isSome=true:=by
  rw[List.find?_isSome];exact⟨x,O,by simpa using G⟩
 cases hq:a.Tiles.find? (λx=>decide (x.At=p)) with
 |none=>rw[hq] at z;cases z
 |some y=>
  simp only[Bq,hq,DW,AS] at h
  have:=(Zs _ _ hf y (fG hq)).2
  simp only[Bf,AO,Bo] at this;omega
def TW(m:Hm)(o:Ab)(x:Aj):Option Ab:=
 if (m.Labels[x.Tile.toNat]?.getD 0)<0 then some o
 else if 0<=Bq o (eB x.At m.Scale).1/\Bq o (eB x.At m.Scale).1≠(m.Labels[x.Tile.toNat]?.getD 0) then none
 else if Bq o (eB x.At m.Scale).1<0 then some (Br o (eB x.At m.Scale).1 (m.Labels[x.Tile.toNat]?.getD 0)) else some o
def FT:List Aj->List Aj->Bool
 |x::l,y::m=>if x.At≠y.At then Bj x.At y.At else if x.Tile≠y.Tile then decide (x.Tile<y.Tile) else FT l m
 |_,_=>false
def Bg(a b:Ab):Bool:=if a.Tiles.length≠b.Tiles.length then decide (a.Tiles.length<b.Tiles.length) else FT a.Tiles b.Tiles
def KW: ∀l,FT l l=false
 |[]=>rfl
 |x::l=>by
  simp only[FT,ne_eq,not_true,Cu];exact KW l
def pM: ∀{a b c:List Aj},FT a b=true->FT b c=true->FT a c=true
 |[],_,_,h,_=>by simp[FT] at h
 |_::_,[],_,h,_=>by simp[FT] at h
 |_::_,_::_,[],_,h=>by simp[FT] at h
 |x::a,y::b,z::c,h,g=>by
  simp only[FT] at h g⊢;by_cases O:x.At=y.At
  .rw[Ad (λn=>n O)] at h;by_cases G:y.At=z.At
   .rw[Ad (λn=>n G)] at g;rw[Ad (λn=>n (O.trans G))];by_cases t1:x.Tile=y.Tile
    .rw[Ad (λn=>n t1)] at h;by_cases Q:y.Tile=z.Tile
     .rw[Ad (λn=>n Q)] at g;rw[Ad (λn=>n (t1.trans Q))];exact pM h g
     .rw[Ai Q,Bo] at g;rw[Ai (by omega),Bo];omega
    .rw[Ai t1,Bo] at h;by_cases Q:y.Tile=z.Tile
     .rw[Ai (by omega),Bo];omega
     .rw[Ai Q,Bo] at g;rw[Ai (by omega),Bo];omega
   .rw[Ai G] at g;rw[Ai (λn=>G (O.symm.trans n)),O];exact g
  .rw[Ai O] at h;by_cases G:y.At=z.At
   .rw[Ai (λn=>O (n.trans G.symm)),<-G];exact h
   .rw[Ai G] at g;have Z:=dS h g;rw[Ai (λn=>by rw[n,kX] at Z;cases Z)];exact Z
def KX: ∀{a b:List Aj},a.length=b.length->FT a b=false->FT b a=false->a=b
 |[],[],_,_,_=>rfl
 |[],_::_,h,_,_=>by simp at h
 |_::_,[],h,_,_=>by simp at h
 |x::a,y::b,O,h,g=>by
  simp only[FT] at h g;by_cases z:x.At=y.At
  .rw[Ad (λn=>n z)] at h;rw[Ad (λn=>n z.symm)] at g;by_cases G:x.Tile=y.Tile
   .rw[Ad (λn=>n G)] at h;rw[Ad (λn=>n G.symm)] at g;have ih:=KX (by simpa using O) h g;cases x;cases y;simp only at z G;rw[z,G,ih]
   .rw[Ai G,Ho] at h;rw[Ai (λn=>G n.symm),Ho] at g;omega
  .rw[Ai z] at h;rw[Ai (λn=>z n.symm)] at g
   have:=Qq4 h z
   rw[this] at g;cases g
def QD(a:Ab):Bg a a=false:=by
 simp only[Bg,ne_eq,not_true,Cu];exact KW _
def J7{a b c:Ab}(h:Bg a b=true)(g:Bg b c=true):Bg a c=true:=by
 simp only[Bg] at h g⊢;by_cases G:a.Tiles.length=b.Tiles.length
 .rw[Ad (λn=>n G)] at h;by_cases z:b.Tiles.length=c.Tiles.length
  .rw[Ad (λn=>n z)] at g;rw[Ad (λn=>n (G.trans z))];exact pM h g
  .rw[Ai z,Bo] at g;rw[Ai (by omega),Bo];omega
 .rw[Ai G,Bo] at h;by_cases z:b.Tiles.length=c.Tiles.length
  .rw[Ai (by omega),Bo];omega
  .rw[Ai z,Bo] at g;rw[Ai (by omega),Bo];omega
def Wr{a b:Ab}(h:Bg a b=false)(g:Bg b a=false):a=b:=by
 simp only[Bg] at h g;by_cases z:a.Tiles.length=b.Tiles.length
 .rw[Ad (λn=>n z)] at h;rw[Ad (λn=>n z.symm)] at g
  have:=KX z h g
  cases a;cases b;simp only at this;rw[this]
 .rw[Ai z,Ho] at h;rw[Ai (λn=>z n.symm),Ho] at g;omega
def Rw{l m:List Aj}{k:Nat}{x y:Aj}(z:l[k]? =some x)(G:m[k]? =some y):FT (l.drop k) (m.drop k)=if x.At≠y.At then Bj x.At y.At else if x.Tile≠y.Tile then decide (x.Tile<y.Tile) else FT (l.drop (k+1)) (m.drop (k+1)):=by
 rw[E5 z,E5 G,FT]
def befB_.fv(a:Ab×Ab):Bool:=(Bg) (a.1) (a.2)
def befB_.row:Ax:=vK (b2 (qP 1 Ab.d_le) (qP 1 Ab.d_le)) rB (λa=>True) befB_.fv
def befB_.ok:AA 142 befB_.row:=by
 refine vw (tC l_LessPoint.ok tN) Tryz.func142 ?_;intro a aa;simp only[Tryz.f142];simp only[ZA,simprocAttr,befB_.fv];simp only[AM];refine⟨λhl=> ?_,λhl=> ?_⟩
 .simp only[Bg];rw[Ai (by omega)]
 have O:a.1.Tiles.length=a.2.Tiles.length:=by omega
 have hA:Bg a.1 a.2=FT a.1.Tiles a.2.Tiles:=by
  simp only[Bg];rw[Ad (λh=>h O)]
 rw[hA];refine AR.old ⟨{k:Nat//k<=a.1.Tiles.length/\FT a.1.Tiles a.2.Tiles=FT (a.1.Tiles.drop k) (a.2.Tiles.drop k)},λk=>⟨[(5,.im (.int .i64 k.1)),(4,.im (.bool false)),(0,.ptr 0 0),(1,.ptr 1 0)],[(0,(false,.view [.sl false 3 (a.1.Tiles.map Aj.c)])),(1,(false,.view [.sl false 3 (a.2.Tiles.map Aj.c)]))],2⟩,λk=>a.1.Tiles.length - k.1,λk=>⟨by simp[ZG],AF _⟩,⟨⟨0,by simp⟩,by simp only[ZA,simprocAttr,sub]⟩,λk=> ?_⟩;obtain⟨k,ab,z⟩:=k;simp only[ZA,simprocAttr,l_LessPoint.q,l_LessPoint.fv,sub,AM];intro h1;refine⟨λhk=>⟨hk,λx hx=>⟨by omega,λy hy=> ?_⟩⟩,λhk=> ?_⟩
 .rw[Rw hx hy] at z;rw[z];simp only[ZA];have G:x.At=y.At↔ ¬(x.At.X==y.At.X && x.At.Y==y.At.Y)=false:=by
   rw[I1,AO,Qd,Qd];constructor
   .intro e;rw[e];exact⟨rfl,rfl⟩
   .rintro⟨Q,Z⟩;cases hp:x.At;cases hq:y.At;simp only[hp,hq] at Q Z;rw[Q,Z]
  refine⟨λc=> ?_,λc=>⟨λt=> ?_,λt=> ?_⟩⟩
  .rw[Ai (λe=>G.1 e c)]
  .rw[Ad (λe=>e (G.2 c)),Ai t]
  .exact⟨⟨k+1,by omega,by rw[Ad (λe=>e (G.2 c)),Ad t]⟩,by simp only;omega,by rw[AB (by omega) (by omega)];simp only;omega⟩
 .rw[CO (by omega)] at z;rw[z];simp[FT]
def mP:PK->Prop
 | .ptr _=>True
 | .val d=>F5 d= .val d
def iK(d:D):mP (F5 d):=by cases d<;>simp[F5,mP]
def iJ{h:Nat->Option Ap}{x:AV}{p:PK}(hp:EL h x=some p):mP p:=by
 cases x with
 |im d=>
  simp only[EL,AI] at hp;subst hp;exact iK d
 |ptr o off=>
  simp only[EL,IV,CX] at hp;obtain⟨_,_,rfl⟩:=hp;trivial
 |eptr o i off=>
  simp only[EL,IV,CX] at hp;obtain⟨_,_,rfl⟩:=hp;trivial
 |own o=>
  simp only[EL,Er,bk,CX] at hp;obtain⟨d,hd,rfl⟩:=hp;unfold WR at hd;split at hd
  .obtain rfl:=Aw hd;rfl
  .simp only[CX] at hd;obtain⟨_,_,rfl⟩:=hd;rfl
  .cases hd
 |mp o=>
  simp only[EL,Er,bk,CX] at hp;obtain⟨d,hd,rfl⟩:=hp;unfold Lb at hd;split at hd
  .obtain rfl:=Aw hd;rfl
  .cases hd
 |agg cs=>
  simp only[EL,Er,bk,CX] at hp;obtain⟨d,⟨_,_,rfl⟩,rfl⟩:=hp;rfl
 |tup cs=>
  simp only[EL,Er,bk,CX] at hp;obtain⟨d,⟨_,_,rfl⟩,rfl⟩:=hp;rfl
 |clo f a c=>
  simp only[EL,Er,bk,CX] at hp;obtain⟨d,hd,rfl⟩:=hp;unfold Od at hd;split at hd
  .obtain rfl:=Aw hd;rfl
  .cases hd
  .cases hd
 |_=>cases hp
def Mj{h:Nat->Option Ap}: ∀(xs:List AV) (ps:List PK),CK h xs=some ps-> ∀p∈ps,mP p
 |[],ps,hp=>by
  simp only[CK,AI] at hp;subst hp;intro p z;cases z
 |x::xs,ps,hp=>by
  simp only[CK] at hp;cases hx:EL h x with
  |none=>rw[hx] at hp;cases hp
  |some p=>
   cases hr:CK h xs with
   |none=>rw[hx,hr] at hp;cases hp
   |some qs=>
    rw[hx,hr] at hp;simp only[GE,AI] at hp;subst hp;intro q hq;rcases Bx.1 hq with rfl|hq
    .exact iJ hx
    .exact Mj xs qs hr q hq
def cQ: ∀(ps:List PK) (j:Nat) (H:Nat->Option Ap),(∀p∈ps,mP p)->(∀n e,hget (CT j ps) n=some e->H n=some e)->Mk H (CU j ps)=some (ps,[])
 |[],_,_,_,_=>rfl
 | .val d::r,j,H,hn,hH=>by
   have z:=hn _ (Cb ..);simp only[mP] at z;simp only[CU,Mk,Ih,z,cQ r j H (λp hp=>hn p (BZ _ hp)) (by simpa only[CT] using hH),WK,CC]
 | .ptr cs::r,j,H,hn,hH=>by
   have z:=hH j (false,.view cs) (by simp only[CT,hget,lX,C3]);have O:=cQ r (j+1) H (λp hp=>hn p (BZ _ hp)) (λn e G=>hH n e (by
    have Q:=(Gb (j+1) r n e G).1;have hq:(j==n)=false:=by rw[H4];omega
    simp only[CT,hget,hq,Ct];exact G))
   simp only[CU,Mk,Ih,z,Ql,FR,O,WK,CC]
def MV{P:Program}{g:FuncId}{A B:Type}{k:AK A}{r:RK B}{pre:A->Prop}{f:A->B}(hr: ∀b,(r.e b).scs=true)(h:Ga P g (vK k r pre f)):Ga P g (Fv k r pre f):=by
 intro aa hh nx K z;unfold Fv KE at z;cases hp:CK hh aa with
 |none=>rw[hp] at z;exact z.elim
 |some O=>
  rw[hp] at z;simp only[Wy] at z;cases ha:k.r O with
  |none=>rw[ha] at z;exact z.elim
  |some a=>
   rw[ha] at z;simp only[EA] at z;obtain⟨ai,hK⟩:=z;have au:=cQ O 0 (hget (CT 0 O)) (Mj aa O hp) (λ_ _ h=>h);obtain⟨hcl,r',E,hT,aw,hE⟩:=h (CU 0 O) (hget (CT 0 O)) (BN O) (λx E=>x= .im (r.e (f a))/\E={use:=A9 (CU 0 O)}) (by
    unfold vK FH;rw[au];simp only[bL,ha,EA,VC];exact⟨ai,by trivial,by trivial⟩)
   subst aw hE;refine⟨hcl,_,_,?_,hK⟩;intro C S vs RR hW aj ak am ab ag;have av:=Qtx hW aa O vs.toList (λm hm=>aj m (G7 _ hm)) hp ab;have af:=lR hW;obtain⟨ls,ah,hcl⟩:=lJ O vs.toList 0 av
   let S0:Au:=⟨ls,S.froz.ok,hget (CT 0 O),S.w⟩
   let C0:AT:=⟨S.w,λ_=>False,S.froz.ok,0,λ_=>none,λ_=>none,[]⟩
   have ao:Wf C0 S0:=by
    refine⟨rfl,rfl,rfl,AF _,AF _,λ_ _ _=>rfl,λ_ Z=>Z,λ_ Z=> .inl Z,af.oks,?_,?_,?_,af.glN λ_ h=>h.elim⟩
    .intro n e he;obtain⟨l,h1,_,h3⟩:=ah n e he;have h4:S0.ρ n=some l:=h1;rw[h4];obtain⟨_,cs,rfl⟩:=Gb 0 O n e he;simp only[Al] at h3⊢;exact h3
    .intro n e l he hl;obtain⟨l',h1,h2,h3⟩:=ah n e he;have h4:S0.ρ n=some l':=h1;rw[h4] at hl;obtain rfl:=Aw hl;obtain⟨_,cs,rfl⟩:=Gb 0 O n e he;exact⟨h2,.inr rfl⟩
    .intro n n' e e' l l' he ac hl az ay aq;obtain⟨_,cs,rfl⟩:=Gb 0 O n e he;obtain⟨_,ax,rfl⟩:=Gb 0 O n' e' ac;simp at aq
   refine hT C0 S0 vs RR ao (λ_ _=>rfl) (λn hn=>absurd hn (by unfold Fr;simp)) (λn e _ m _=>by unfold Fr;simp) (hcl S0 rfl rfl (λn _=>⟨rfl,rfl⟩)) ?_;intro v S1 Q _ _ hv;have G: ∀b,b<S.w.heap.size->S1.w.heap[b]? =S.w.heap[b]? :=λb Z=>Q.keep b Z (λh=>h)
   have ad:S.w.heap.size<=S1.w.heap.size:=Q.size
   let S':Au:={S with w:=S1.w}
   have hp':B3 (λ_=>True) S S':=⟨λb Z=>⟨Z,G b (hW.oks b Z)⟩,λo _ e' ac=>⟨e',ac,rfl,rfl,rfl⟩⟩;have an:Wf C S':=by
    refine⟨?_,?_,?_,BR hW.dr Q.dr,BR hW.size ad,?_,hW.ok0,hW.ok1,?_,?_,?_,hW.inj,hW.gl⟩
    .exact Q.os.trans hW.os
    .exact Q.tape.trans hW.tape
    .exact Q.output.trans hW.output
    .intro b Z hM;exact (G b (E8 Z hW.size)).trans (hW.keep b Z hM)
    .intro b Z;exact E8 (hW.oks b Z) ad
    .intro o e he;exact Hh hp' (λlc hl=>G lc.b (hW.loc o e lc he hl).1) _ (λ_ _=>trivial) (hW.obj o e he)
    .intro o e l he hl;obtain⟨h2,h3⟩:=hW.loc o e l he hl;exact⟨E8 h2 ad,h3⟩
   refine ag v S' an ?_ ⟨hp'.ok,λo _=>hp'.nm o trivial⟩ ?_
   .show S.h=_;funext m;simp[Bz.appf,hget]
   .simp only[Aa] at hv⊢;exact Wm (hr _) hv
def Ek(l:List Ab):Prop:=l.Pairwise λa b=>Bg a b=true
def O7(l:List Ab)(a:Ab):Nat:=(l.filter λx=>Bg x a).length
def Ca(l:List Ab)(a:Ab):List Ab×Bool:=if a∈l then (l,false) else (l.take (O7 l a)++a::l.drop (O7 l a),true)
def cR{l:List Ab}(h:Ek l){i j:Nat}{x y:Ab}(Q:l[i]? =some x)(Z:l[j]? =some y)(z:i<j):Bg x y=true:=by
 obtain⟨G,rfl⟩:=BJ.1 Q;obtain⟨O,rfl⟩:=BJ.1 Z;exact uO.1 h i j G O z
def Ta{l:List Ab}{a:Ab}{k:Nat}(hk:k<=l.length)(h1: ∀i x,i<k->l[i]? =some x->Bg x a=true)(h2: ∀i x,k<=i->l[i]? =some x->Bg x a=false):O7 l a=k:=by
 have e:l=l.take k++l.drop k:=(HZ k l).symm;have Q:(l.take k).filter (λx=>Bg x a)=l.take k:=V9.2 λx O=>by
  obtain⟨i,z⟩:=GV.1 O;have G:i<k:=by
   have:=(BJ.1 z).1
   simp at this;omega
  rw[uQ G] at z;exact h1 i x G z
 have Z:(l.drop k).filter (λx=>Bg x a)=[]:=Zfj.2 λx O=>by
  obtain⟨i,z⟩:=GV.1 O;rw[Ez] at z;rw[h2 (k+i) x (by omega) z];decide
 have:O7 l a=((l.take k++l.drop k).filter λx=>Bg x a).length:=by rw[<-e];rfl
 rw[this,fM,Q,Z,CC,Bw];omega
def Yd{l:List Ab}(h:Ek l){a:Ab}{k:Nat}(Z: ∀i x,i<k->l[i]? =some x->Bg x a=true)(h2: ∀i x,k<=i->l[i]? =some x->Bg x a=false):a∈l↔l[k]? =some a:=by
 refine⟨λhm=> ?_,AP⟩;obtain⟨j,G⟩:=GV.1 hm;rcases lV j k with z|rfl|z
 .have:=Z j a z G
  rw[QD] at this;cases this
 .exact G
 .have O:k<l.length:=by have:=(BJ.1 G).1;omega
  have Q:l[k]? =some l[k]:=Bd O
  have:=cR h Q G z
  rw[h2 k _ (AF _) Q] at this;cases this
def Qauj{l:List Ab}(h:Ek l)(a:Ab):Ek (Ca l a).1:=by
 simp only[Ca];split
 .exact h
 .rename_i hn;have e: ∀k,(∀x∈l.take k,Bg x a=true)->(∀x∈l.drop k,Bg a x=true)->Ek (l.take k++a::l.drop k):=by
   intro k g1 g2;have Q:(l.take k++l.drop k).Pairwise λa b=>Bg a b=true:=by rw[HZ];exact h
   rw[Zeu] at Q;simp only[Ek];rw[Zeu,Qb];refine⟨Q.1,⟨g2,Q.2.1⟩,λx z y hy=> ?_⟩;rcases Bx.1 hy with rfl|hy
   .exact g1 x z
   .exact Q.2.2 x z y hy
  have aa: ∃k,k<=l.length/\(∀i x,i<k->l[i]? =some x->Bg x a=true)/\(∀i x,k<=i->l[i]? =some x->Bg x a=false):=by
   clear e hn;induction l with
   |nil=>exact⟨0,AF _,λi x G=>by omega,λi x _ z=>by simp at z⟩
   |cons y r ih=>
    rw[Ek,Qb] at h;by_cases c:Bg y a=true
    .obtain⟨k,k1,k2,Z⟩:=ih h.2;refine⟨k+1,by simp only[Cr];omega,λi x G z=> ?_,λi x G z=> ?_⟩
     .cases i with
      |zero=>simp at z;rw[<-z];exact c
      |succ i=>exact k2 i x (by omega) (by simpa using z)
     .cases i with
      |zero=>omega
      |succ i=>exact Z i x (by omega) (by simpa using z)
    .refine⟨0,BP _,λi x G=>by omega,λi x _ z=> ?_⟩;rw[JQ] at c;cases i with
     |zero=>simp at z;rw[<-z];exact c
     |succ i=>
      have hm:x∈r:=AP (by simpa using z);cases hb:Bg x a with
      |false=>rfl
      |true=>
       have:=J7 (h.1 x hm) hb
       rw[c] at this;cases this
  obtain⟨k,k1,k2,Z⟩:=aa;rw[Ta k1 k2 Z];refine e k (λx z=> ?_) (λx z=> ?_)
  .obtain⟨i,G⟩:=GV.1 z;have O:i<k:=by
    have:=(BJ.1 G).1
    simp at this;omega
   rw[uQ O] at G;exact k2 i x O G
  .obtain⟨i,G⟩:=GV.1 z;rw[Ez] at G;have g:=Z (k+i) x (by omega) G;cases hb:Bg a x with
   |true=>rfl
   |false=>exact absurd (by rw[<-Wr g hb];exact AP G) hn
def cU(l:List Ab)(a x:Ab):x∈(Ca l a).1↔x∈l\/x=a:=by
 simp only[Ca];split
 .rename_i h;refine⟨.inl,λg=>g.elim id λe=>e▸h⟩
 .rw[Bp,Bx];have e:x∈l↔x∈l.take (O7 l a)\/x∈l.drop (O7 l a):=by
   rw[<-Bp,HZ]
  rw[e];constructor
  .rintro (h|rfl|h)
   .exact .inl (.inl h)
   .exact .inr rfl
   .exact .inl (.inr h)
  .rintro ((h|h)|rfl)
   .exact .inl h
   .exact .inr (.inr h)
   .exact .inr (.inl rfl)
def pY(l:List Ab)(a:Ab):(Ca l a).1.length<=l.length+1:=by
 simp only[Ca];split
 .simp
 .simp only[BQ,Bw,Cr,Ch];omega
def befF_.fv(a:Ab×Ab):Bool:=(Bg) (a.1) (a.2)
def befF_.row:Ax:=Fv (b2 (qP 1 Ab.d_le) (qP 1 Ab.d_le)) rB (λa=>True) befF_.fv
def befF_.q:=CR (R:=befF_.row) rfl
def befF_.ok:AA 142 befF_.row:=MV (λ_=>rfl) befB_.ok
def smF_.fv(a:Ab×Ab):Bool:=(λa b=>decide (a=b)) (a.1) (a.2)
def smF_.row:Ax:=Fv (b2 (qP 1 Ab.d_le) (qP 1 Ab.d_le)) rB (λa=>True) smF_.fv
def smF_.q:=CR (R:=smF_.row) rfl
def smF_.ok:AA 106 smF_.row:=MV (λ_=>rfl) l03Same.ok
def M8(p:Ab)(l:List Ab)(i:Nat):List Ab:=(l++[p]).take (i+1)++l.drop i
def cN{p:Ab}{l:List Ab}{i:Nat}(h:i<=l.length):(M8 p l i).length=l.length+1:=by simp[M8];omega
def Y9(p:Ab)(l:List Ab):M8 p l l.length=l++[p]:=by simp[M8,DP]
def Uy{p x:Ab}{l:List Ab}{i:Nat}(h:i+1<=l.length)(Z:(M8 p l (i+1))[i]? =some x):(M8 p l (i+1)).set (i+1) x=M8 p l i:=by
 have z:l[i]? =some x:=by
  rw[<-Z,M8,DQ (by simp;omega),KM,Ai (by omega),DQ (by omega)]
 apply NP;intro j;have Q:((l++[p]).take (i+1+1)).length=i+2:=by simp;omega
 have G:((l++[p]).take (i+1)).length=i+1:=by simp;omega
 by_cases c:j=i+1
 .subst c;rw[Ee (by rw[cN h];omega),M8,E7 (by omega),G,G5,Ez,Xd,z]
 .rw[DM (E3 c)];simp only[M8];by_cases O:j<i+1
  .rw[DQ (by omega),DQ (by omega),KM,KM,Ai (by omega),Ai O]
  .rw[E7 (by omega),E7 (by omega),Q,G,Ez,Ez];congr 1;omega
def YA{p:Ab}{l:List Ab}{k:Nat}(h:k<=l.length):(M8 p l k).set k p=l.take k++p::l.drop k:=by
 apply NP;intro j;have O:((l++[p]).take (k+1)).length=k+1:=by simp;omega
 have z:(l.take k).length=k:=by simp;omega
 by_cases c:j=k
 .subst c;rw[Ee (by rw[cN h];omega),E7 (by omega),z,G5];simp
 .rw[DM (E3 c)];simp only[M8];by_cases G:j<k
  .rw[DQ (by omega),DQ (by omega),KM,KM,Ai (by omega),Ai G,DQ (by omega)]
  .obtain⟨m,rfl⟩: ∃m,j=k+1+m:=⟨j - (k+1),by omega⟩;rw[E7 (by omega),E7 (by omega),O,z,Ez,show k+1+m - k=m+1 by omega,I2,Ez];congr 1;omega
def gQ(j:Nat):Bool:=j==0
def pu_.ca(a:List Ab×Ab):List AV:=[.own 0,.im (.agg (Ab.c a.2))]
def pu_.H0(a:List Ab×Ab):Ar:=[(0,(true,.arr 41 1 (a.1.map Ab.c)))]
def pu_.H1(a:List Ab×Ab):Ar:=[(1,(true,.arr 41 1 ((Ca a.1 a.2).1.map Ab.c)))]
def pu_.r0(a:List Ab×Ab):AV:= .tup [.own 1,.im (.bool (Ca a.1 a.2).2)]
def pu_.row:Ax:=AE pu_.ca pu_.H0 1 (λa=>Ek a.1/\a.1.length<=1000000) gQ pu_.r0 pu_.H1 20
def pu_.ok:AA 94 pu_.row:=by
 refine Hd (tC befF_.ok (tC smF_.ok tN)) Tryz.func94 (exB:=λj=>j==1) (R:=λa r=>r=pu_.r0 a) (λ_=>rfl)
  (λa=>by simp[pu_.ca,pu_.H0,AN,AV.bel,AD,Cg,Cx,Ag.nms,An,hget]) (λa p hp=> ?_) (λa r h=>by subst h;exact DK.refl _) ?_
 rotate_left
 intro a af;simp only[Tryz.f94,pu_.ca,pu_.H0,pu_.H1];simp only[ZA,simprocAttr];rotate_left
 .simp[pu_.H1] at hp;subst hp;exact .inr ⟨by omega,by omega,rfl,rfl⟩
 .obtain⟨l,x⟩:=a;obtain⟨hs,hl⟩:=af;simp only at hs hl⊢;intro _;refine AR.old ⟨{q:Nat×Nat//q.1<=q.2/\q.2<=l.length/\(∀i y,i<q.1->l[i]? =some y->Bg y x=true)/\ ∀i y,q.2<=i->l[i]? =some y->Bg y x=false},λq=>⟨[(7,.im (.int .i64 q.1.2)),(6,.im (.int .i64 q.1.1)),(3,.ptr 1 0),(0,.own 0)],[(1,(true,.cells 41 [.im (.sl false 3 (x.Tiles.map Aj.c))])),(0,(true,.arr 41 1 (l.map Ab.c)))],3⟩,λq=>q.1.2 - q.1.1,λq=>⟨by simp[ZG],by simp⟩,⟨⟨(0,l.length),BP _,AF _,λi y G=>by omega,λi y G Z=>by have:=(BJ.1 Z).1;simp only at G;omega⟩,by simp only[ZA,simprocAttr,sub]⟩,λq=> ?_⟩;obtain⟨⟨lo,G⟩,q1,q2,q3,q4⟩:=q;simp only at q1 q2 q3 q4;have ac:(IntKind.i64.wrap ((lo:Int)+G)).tdiv 2=(((lo+G)/2:Nat):Int):=by
   rw[AB (by omega) (by omega),ZeJ (by omega)];omega
  have aa:IntKind.i64.wrap ((IntKind.i64.wrap ((lo:Int)+G)).tdiv 2)=(((lo+G)/2:Nat):Int):=by
   rw[ac,AB (by omega) (by omega)]
  simp only[ZA,simprocAttr,rch,befF_.q,befF_.fv,smF_.q,smF_.fv,AC,AM,aa];refine⟨λc=> ?_,λc=> ?_⟩
  .have ad:(lo+G)/2<l.length:=by omega
   obtain⟨y,Z⟩: ∃y,l[(lo+G)/2]? =some y:=⟨_,Bd ad⟩;refine⟨ad,?_⟩;simp only[ZA,simprocAttr,Ab.d,sub,AM,Ef,Z];refine⟨λh=>⟨⟨((lo+G)/2+1,G),by simp only;omega,q2,λi z O hz=> ?_,q4⟩,by simp only;omega,rfl,by rw[AB (by omega) (by omega)];rfl⟩,λh=>⟨⟨(lo,(lo+G)/2),by simp only;omega,by simp only;omega,q3,λi z O hz=> ?_⟩,by simp only;omega,rfl,rfl⟩⟩
   .simp only at O;by_cases e:i=(lo+G)/2
    .subst e;obtain rfl:=Aw (Z.symm.trans hz);exact h
    .exact J7 (cR hs hz Z (by omega)) h
   .simp only at O;rw[JQ] at h;by_cases e:i=(lo+G)/2
    .subst e;obtain rfl:=Aw (Z.symm.trans hz);exact h
    .cases hb:Bg z x with
     |false=>rfl
     |true=>
      have:=J7 (cR hs Z hz (by omega)) hb
      rw[h] at this;cases this
  .intro _;obtain rfl:lo=G:=by omega
   have ab:=Ta q2 q3 q4;have Q:=Yd hs q3 q4;have aj:l.map Ab.c++[[D.sl false 3 (x.Tiles.map Aj.c)]]=(l++[x]).map Ab.c:=by rw[Ei];rfl
   have ag: ∀hn:x∉l,(Ca l x).1=l.take lo++x::l.drop lo/\(Ca l x).2=true:=λhn=>by
    simp only[Ca];rw[Ad hn,ab];exact⟨rfl,rfl⟩
   refine⟨λc=>⟨c,?g1⟩,λc=> ?g2⟩
   case' g1=>
    obtain⟨y,Z⟩: ∃y,l[lo]? =some y:=⟨_,Bd c⟩;simp only[ZA,simprocAttr,Ab.d,AG,AC,AM,Ef,Z];refine⟨λe=> ?g3,λe=> ?g4⟩
    case' g4=>
     have ai:x∉l:=λh=>e (Aw (Z.symm.trans (Q.1 h)))
    case g3=>
     have ak:x∈l:=Q.2 (by rw[Z,e]);have hp:Ca l x=(l,false):=by simp only[Ca];rw[Ai ak]
     refine⟨[],[(1,some 0)],⟨[(5,.im (.bool false)),(4,.own 1)],pu_.H1 (l,x),2⟩,?_,by simp[pu_.H1,ZG],by simp,?_⟩
     .simp only[Ak,pu_.H1,hp];simp only[ZA,simprocAttr]
     .simp only[ZA,simprocAttr,pu_.H1,gQ,pu_.H1,pu_.r0,hp]
   case' g2=>
    have ai:x∉l:=λh=>by rw[Q,Fz (by omega)] at h;cases h
   all_goals
    obtain⟨ao,aq⟩:=ag ai;rw[aj];refine⟨by omega,λ_=> ?_⟩;refine AR.old ⟨{i:Nat//lo<=i/\i<=l.length},λi=>⟨[(9,.im (.int .i64 i.1)),(6,.im (.int .i64 lo)),(0,.own 4),(3,.ptr 1 0)],[(4,(true,.arr 41 1 ((M8 x l i.1).map Ab.c))),(1,(true,.cells 41 [.im (.sl false 3 (x.Tiles.map Aj.c))]))],5⟩,λi=>i.1,λi=>⟨by simp[ZG],by simp⟩,⟨⟨l.length,q2,AF _⟩,?_⟩,λi=> ?_⟩
    .simp only[ZA,simprocAttr,sub,Y9];rw[BQ,uU,AB (by omega) (by omega)];omega
    obtain⟨i,aw,O⟩:=i;have av:=cN (p:=x) O;simp only[ZA,simprocAttr,AG,sub,AM,av];refine⟨λan=> ?_,λan=>⟨by omega,by omega,λz hz=> ?_⟩⟩
    .have am:IntKind.i64.wrap ((i:Int) - 1)=((i - 1:Nat):Int):=by rw[AB (by omega) (by omega)];omega
     rw[am,BD];refine⟨by omega,by omega,by omega,λz hz=>⟨by omega,by omega,λu hu=>⟨⟨i - 1,by omega,by omega⟩,by simp only;omega,rfl,?_⟩⟩⟩;have ah:=Uy (p:=x) (x:=z) (l:=l) (i:=i - 1) (by omega) (by rwa [show i - 1+1=i by omega]);rw[show i - 1+1=i by omega] at ah;rw[<-ah,KN];rfl
    .obtain rfl:i=lo:=by omega
     have au:((M8 x l i).map Ab.c).set i [D.sl false 3 (x.Tiles.map Aj.c)]=(Ca l x).1.map Ab.c:=by
      rw[ao,<-YA q2,KN];rfl
     refine⟨[],[(1,some 4)],⟨[(5,.im (.bool true)),(4,.own 1)],pu_.H1 (l,x),2⟩,?_,by simp[pu_.H1,ZG],by simp,?_⟩
     .simp only[Ak,pu_.H1,au];simp only[ZA,simprocAttr]
     .simp only[ZA,simprocAttr,pu_.H1,gQ,pu_.H1,pu_.r0,aq]
def D2(b n:Nat):List (List AV):=(List.range n).map λi=>[AV.own (b+i)]
def BA(b n:Nat)(M:List (List Int)):Ar:=CA b n (λi=>(true,.arr 2 1 ((M[i]?.getD []).map Ao)))
def Qf(j:Nat):Bool:=Nat.blt j 3||((Nat.ble 100 j && Nat.blt j 164)||(Nat.ble 200 j && Nat.blt j 264))
def CF(x:Be)(n:Nat):Ar:=(0,(true,.cells 359 [.own 1,.own 2]))::(1,(true,.arrA 56 1 (D2 100 n)))::(2,(true,.arrA 56 1 (D2 200 n)))::(BA 100 n x.Room++BA 200 n x.Flow)
def nwC.ca(a:Int×List Af):List AV:=[.im (.int .i64 a.1),.im (.sl false 3 (a.2.map Af.c))]
def nwC.H1(a:Int×List Af):Ar:=CF (DG a.1.toNat a.2) (min a.1.toNat 64)
def Me(a:Int×List Af):Prop:=0<=a.1/\a.1<=64/\a.2.length<=1000000/\KD a.1 a.2/\PU a.2/\ ∀b∈a.2,b.A≠b.B
def nwC.row:Ax:=AE nwC.ca (λ_=>[]) 0 Me (λ_=>false) (λ_=> .ptr 0 0) nwC.H1 320
def rW(m:Nat): ∀(a b:Ar),AD m (a++b)=(AD m a && AD m b)
 |[],b=>by simp[AD]
 |(i,(z,e))::r,b=>by
  have ih:=rW m r b;cases e<;>simp only[CW,AD,ih,ZeV]
def Qmd(m:Nat): ∀(a b:Ar),Cg m (a++b)=(Cg m a && Cg m b)
 |[],b=>by simp[Cg]
 |(i,(z,e))::r,b=>by simp only[CW,Cg,Qmd m r b,ZeV]
def Wz(b n N:Nat)(h:b+n<=N):(D2 b n).all (AN N)=true:=by
 rw[DV];intro r G;obtain⟨i,z,rfl⟩:=BI.1 G
 have:=Dt.1 z
 simp[AN,AV.bel];omega
def Qkf(nx:Nat): ∀(l:List Nat),Hc nx 0 l=true
 |[]=>rfl
 |x::r=>by
  have:(Nat.blt x nx||Nat.ble (nx+0) x)=true:=by
   rw[HY,H5,Qc];omega
  simp only[Hc,this,Qkf nx r,vB]
def Ir(b n:Nat):(D2 b n).length=n:=by simp[D2]
def Qo7(b n i:Nat)(h:i<n):(D2 b n)[i]? =some [.own (b+i)]:=by simp[D2,Qa h]
def Qpf(a b:Ar):Hx (a++b)=Hx a++Hx b:=by
 induction a with
 |nil=>rfl
 |cons x r ih=>obtain⟨i,e⟩:=x;simp only[CW,Hx,ih]
def sS(m:Nat): ∀(a b:Ar),hget (a++b) m=(hget a m).or (hget b m)
 |[],b=>by simp[hget]
 |(i,e)::r,b=>by
  have ih:=sS m r b;simp only[CW,hget];cases i==m<;>simp[ih]
def Qpw(b n:Nat)(M:List (List Int))(i:Nat)(h:i<n):hget (BA b n M) (b+i)=some (true,.arr 2 1 ((M[i]?.getD []).map Ao)):=dJ _ _ _ _ h
def Qwa(b n:Nat)(M:List (List Int))(m:Nat)(h:m<b\/b+n<=m):hget (BA b n M) m=none:=Qmh _ _ _ _ h
def dR(k:Nat)(M N:List (List Int))(i:Nat)(h:i<k):hget (BA 100 k M++BA 200 k N) (100+i)=some (true,.arr 2 1 ((M[i]?.getD []).map Ao)):=by
 rw[sS,Qpw _ _ _ _ h];rfl
def dW(k:Nat)(M N:List (List Int))(i:Nat)(z:k<=100)(h:i<k):hget (BA 100 k M++BA 200 k N) (200+i)=some (true,.arr 2 1 ((N[i]?.getD []).map Ao)):=by
 rw[sS,Qwa _ _ _ _ (by omega),Qpw _ _ _ _ h];rfl
def Qxa(b n i:Nat)(K:List AV->Prop)(h:i<n):Jo (D2 b n) i K=K [.own (b+i)]:=by
 apply propext;unfold Jo;rw[Qo7 b n i h];exact⟨λh=>h _ rfl,λh row z=>by obtain rfl:=Aw z;exact h⟩
def jV(s:Az): ∀(a b:Ar),CE s (a++b)=(CE s a/\CE s b)
 |[],b=>by simp[CE]
 |(i,e)::r,b=>by simp only[CW,CE,jV s r b,fP]
def sE(s:Az)(b n:Nat)(M:List (List Int)):CE s (BA b n M)= ∀i,i<n->hget s.h (b+i)=some (true,.arr 2 1 ((M[i]?.getD []).map Ao)):=by
 have: ∀(f:Nat->Ap) (l:List Nat),CE s (l.map λi=>(b+i,f i))↔ ∀i∈l,hget s.h (b+i)=some (f i):=by
  intro f l;induction l with
  |nil=>simp[CE]
  |cons i r ih=>simp only[Bb,CE,ih,Bx,Zfh]
 apply propext;rw[BA,CA,this];simp only[Dt]
def Qrm{n:Nat}{bs:List Af}(G:KD n bs)(hs:PU bs)(a b:Nat): ∀k,0<=DU (Cd n bs k) a b/\DU (Cd n bs k) a b<=2000000*(k:Int)
 |0=>by
  simp only[DU,Cd,Kr,GK,NL];split
  .rw[AS,NL];split<;>simp
  .simp
 |k+1=>by
  have ih:=Qrm G hs a b k;obtain⟨z,_⟩:=WA G k;simp only[DU,Cd] at ih⊢;split
  .rename_i x O;obtain⟨b1,b2,b3,b4⟩:=G x (AP O);have h0:=hs x (AP O);simp only[JU];rw[show x.A=(x.A.toNat:Int) by omega,show x.B=(x.B.toNat:Int) by omega];rw[dP (n:=n) (by rw[Zj];exact z.r) (Zh z.rr _ _ _ (by rw[z.r];simp;omega)) _ (by omega) (by omega),dP z.r z.rr _ (by omega) (by omega)]
   split<;>split<;>omega
  .omega
def Tu(k:Nat)(O:k<=64):([0,1,2]++((List.range k).map (100+ ·)++(List.range k).map (200+ ·))).Nodup:=by
 rw[<-E0];refine jQ _ 200 k (jQ _ 100 k (by simp) (by simp)) ?_;intro x z;rcases Bp.1 z with z|z
 .simp at z;omega
 .obtain⟨i,G,rfl⟩:=BI.1 z
  have:=Dt.1 G
  show 100+i<200;omega
def Tt(k:Nat)(O:k<=64): ∀x∈([0,1,2]++((List.range k).map (100+ ·)++(List.range k).map (200+ ·))),x<300:=by
 intro x z;rcases Bp.1 z with z|z
 .simp at z;omega
 .rcases Bp.1 z with z|z<;>obtain⟨i,G,rfl⟩:=BI.1 z<;>have:=Dt.1 G
  .show 100+i<300;omega
  .show 200+i<300;omega
def Qyn{π:List (Nat×Option Nat)}{b:Nat}{g:Nat->Nat}{n:Nat}(h: ∀i,i<n->pm π (b+i)=some (g i)){R:List (List AV)}(hR:R=(List.range n).map λi=>[AV.own (g i)]):GB π (D2 b n) R:=by
 subst hR;rw[lA];refine⟨by simp[D2],λi x y G O=> ?_⟩;have z:i<n:=by have:=(BJ.1 G).1;rwa [Ir] at this
 rw[Qo7 _ _ _ z] at G;rw[Ef,Qa z] at O;obtain rfl:=Aw G;obtain rfl:=Aw O;simp only[DZ,mt,h i z,He,F4]
def Ql0(b k c:Nat):D2 b k++[[.own c]]=(List.range (k+1)).map λi=>[AV.own (if i<k then b+i else c)]:=by
 rw[ZeD,Ei,D2];congr 1
 .exact ZI λi z=>by rw[Ai (Dt.1 z)]
 .simp
def sV(k:Nat)(M N:List (List Int))(G:k<=64)(tm:List (Nat×AV))(z:CQ 300 tm=true):Az.good ⟨tm,(0,(true,.cells 359 [.own 1,.own 2]))::(1,(true,.arrA 56 1 (D2 100 k)))::(2,(true,.arrA 56 1 (D2 200 k)))::(BA 100 k M++BA 200 k N),300⟩=true:=by
 simp only[Az.good,AD,Cg,z,F2,rW,Qmd,BA];rw[kK _ _ _ (λi=>rfl),kK _ _ _ (λi=>rfl),dM _ _ _ _ (by omega),dM _ _ _ _ (by omega),Wz _ _ _ (by omega),Wz _ _ _ (by omega)];rfl
def Ke(o:Nat)(h:Qf o=true):o<264:=by
 simp only[Qf,HY,AO,H5,Qc] at h;omega
def aB(i:Nat)(h:i<64):Qf (100+i)=true:=by
 simp only[Qf,HY,AO,H5,Qc];omega
def aC(i:Nat)(h:i<64):Qf (200+i)=true:=by
 simp only[Qf,HY,AO,H5,Qc];omega
def Quc(h:Nat->Option Ap)(f:AV->Option AV): ∀(a b:Ar),Hy h f (a++b)↔Hy h f a/\Hy h f b
 |[],b=>by simp[Hy]
 |(i,e)::r,b=>by simp only[CW,Hy,Quc h f r b,fP]
def Qoq(h:Nat->Option Ap)(f:AV->Option AV)(b n:Nat)(M:List (List Int))(H: ∀i,i<n->h (b+i)=some (true,.arr 2 1 ((M[i]?.getD []).map Ao))):Hy h f (BA b n M):=by
 have: ∀(l:List Nat),(∀i∈l,i<n)->Hy h f (l.map λi=>(b+i,(true,Ag.arr 2 1 ((M[i]?.getD []).map Ao)))):=by
  intro l;induction l with
  |nil=>intro _;simp[Hy]
  |cons i r ih=>
   intro z;simp only[Bb,Hy];refine⟨?_,ih (λj O=>z j (BZ _ O))⟩;rw[H i (z i (Cb ..))];exact⟨rfl,rfl⟩
 exact this _ (λi G=>Dt.1 G)
def Quf{h:Nat->Option Ap}{kx:Nat->Option Nat}{m b n:Nat}(G: ∀i,i<n->kx (b+i)=some (b+i)):A7 (A7 (Bl h kx (m+1))) (D2 b n)=some (D2 b n):=by
 refine zU (g:=λi=>[AV.own (b+i)]) (k:=λi=>[AV.own (b+i)]) _ λi z=> ?_
 simp only[A7,Bl,G i (Dt.1 z),kp]
def T6{x:Be}{n:Nat}(hn:n<=64){kx:Nat->Option Nat}(G: ∀o,Qf o=true->kx o=some o):Hy (hget (CF x n)) (Bl (hget (CF x n)) kx 9) (CF x n):=by
 have k1:kx 1=some 1:=G 1 rfl;have k2:kx 2=some 2:=G 2 rfl;obtain⟨H,hH⟩: ∃H,H=hget (CF x n):=⟨_,rfl⟩;have g0:H 0=some (true,.cells 359 [.own 1,.own 2]):=by rw[hH];rfl
 have g1:H 1=some (true,.arrA 56 1 (D2 100 n)):=by rw[hH];rfl
 have g2:H 2=some (true,.arrA 56 1 (D2 200 n)):=by rw[hH];rfl
 have ga: ∀i,i<n->H (100+i)=some (true,.arr 2 1 ((x.Room[i]?.getD []).map Ao)):=by
  intro i z;rw[hH];simp only[CF,hget,Cw _ _ (show 0≠100+i by omega),Cw _ _ (show 1≠100+i by omega),Cw _ _ (show 2≠100+i by omega),Ct];exact dR _ _ _ _ z
 have gb: ∀i,i<n->H (200+i)=some (true,.arr 2 1 ((x.Flow[i]?.getD []).map Ao)):=by
  intro i z;rw[hH];simp only[CF,hget,Cw _ _ (show 0≠200+i by omega),Cw _ _ (show 1≠200+i by omega),Cw _ _ (show 2≠200+i by omega),Ct];exact dW _ _ _ _ (by omega) z
 rw[<-hH];simp only[CF,Hy,Quc];refine⟨?_,?_,?_,Qoq _ _ _ _ _ ga,Qoq _ _ _ _ _ gb⟩
 .rw[g0];exact⟨rfl,by simp only[D8,A7,Bl,k1,k2,kp];rfl⟩
 .rw[g1];exact⟨rfl,by simp only[D8];rw[Quf (λi z=>G _ (aB i (by omega)))];rfl⟩
 .rw[g2];exact⟨rfl,by simp only[D8];rw[Quf (λi z=>G _ (aC i (by omega)))];rfl⟩
def Md{x:Be}{n:Nat}(hn:n<=64){p:Nat×Ap}(hp:p∈CF x n):Qf p.1=true/\p.2.1=true:=by
 simp only[CF,Bx,Bp,BA,CA,BI,Dt] at hp;rcases hp with rfl|rfl|rfl|⟨i,z,rfl⟩|⟨i,z,rfl⟩
 .exact⟨rfl,rfl⟩
 .exact⟨rfl,rfl⟩
 .exact⟨rfl,rfl⟩
 .exact⟨aB i (by omega),rfl⟩
 .exact⟨aC i (by omega),rfl⟩
def iF{a:Int×List Af}{p:Nat×Ap}(hp:p∈nwC.H1 a):Qf p.1=true/\p.2.1=true:=Md (uN _ _) hp
def nwC.ok:AA 265 nwC.row:=by
 refine ow tN Tryz.func265 (exB:=Qf) (R:=λ_ r=>r= .ptr 0 0) (λ_=>rfl)
  (λa=>by simp[nwC.ca,AN,AV.bel,AD,Cg,Cx]) (λa p hp=> ?_) (λa r h=>by subst h;exact DK.refl _) ?_
 rotate_left
 intro a ao;simp only[Tryz.f265,nwC.ca];simp(disch:=omega)only[ZA,simprocAttr];obtain⟨h0,O,hl,Q,ag,an⟩:=ao;obtain⟨n,hn⟩: ∃n:Nat,a.1=n:=⟨a.1.toNat,by omega⟩;obtain⟨bs,hbsd⟩: ∃bs,bs=a.2:=⟨_,rfl⟩;simp only[<-hbsd] at hl Q ag an;rw[hn] at h0 O Q;have hH1:nwC.H1 a=CF (DG n bs) n:=by simp only[nwC.H1,hn,BD,hbsd];rw[ZeG (by omega)]
 rw[hH1];clear hH1;simp only[hn,<-hbsd];refine AR.ren ⟨{k:Nat//k<=n},λk=>⟨[(11,.im (.int .i64 k.1)),(10,.im (.int .i64 n)),(5,.ptr 0 0),(0,.im (.int .i64 n)),(1,.im (.sl false 3 (bs.map Af.c)))],(0,(true,.cells 359 [.own 1,.own 2]))::(1,(true,.arrA 56 1 (D2 100 k.1)))::(2,(true,.arrA 56 1 (D2 200 k.1)))::(BA 100 k.1 (List.replicate n (List.replicate n 0))++BA 200 k.1 (List.replicate n (List.replicate n 0))),300⟩,λk=>n - k.1,λk=>⟨?_,by simp⟩,⟨⟨0,by simp⟩,[(1,none),(2,none)],?_⟩,λk=> ?_⟩
 .exact sV _ _ _ (by omega) _ (by simp[CQ,AV.bel])
 .simp only[Ak,BA,CA,D2,ZeE,Cs,CC];simp(disch:=omega)only[ZA,simprocAttr,Bk]
 obtain⟨k,au⟩:=k;simp(disch:=omega)only[ZA,simprocAttr,AC,AM,Da,Qkf,vG,uZ,KP,List.all_nil,Wz,Ir];refine⟨λhk=>⟨by omega,by omega,by omega,by omega,⟨k+1,by omega⟩,[(1,some 302),(2,some 305),(100+k,some 300),(200+k,some 303)],by simp only;omega,?_⟩,λhk=> ?_⟩
 .have hg: ∀i,i<n->(List.replicate n (List.replicate n (0:Int)))[i]?.getD []=List.replicate n 0:=by
   intro i z;rw[NL,Ai z,AS]
  have ad: ∀i,i<k->pm [(1,some 302),(2,some 305),(100+k,some 300),(200+k,some 303)] (100+i)=some (100+i):=by
   intro i z;simp only[pm];rw[Ad (by omega),Ad (by omega),Ad (by omega),Ad (by omega)]
  have af: ∀i,i<k->pm [(1,some 302),(2,some 305),(100+k,some 300),(200+k,some 303)] (200+i)=some (200+i):=by
   intro i z;simp only[pm];rw[Ad (by omega),Ad (by omega),Ad (by omega),Ad (by omega)]
  have ab:pm [(1,some 302),(2,some 305),(100+k,some 300),(200+k,some 303)] (100+k)=some 300:=by
   simp only[pm];rw[Ad (by omega),Ad (by omega),Ai trivial]
  have ac:pm [(1,some 302),(2,some 305),(100+k,some 300),(200+k,some 303)] (200+k)=some 303:=by
   simp only[pm];rw[Ad (by omega),Ad (by omega),Ad (by omega),Ai trivial]
  have q0:pm [(1,some 302),(2,some 305),(100+k,some 300),(200+k,some 303)] 0=some 0:=by
   simp only[pm];rw[Ad (by omega),Ad (by omega),Ad (by omega),Ad (by omega)]
  have q1:pm [(1,some 302),(2,some 305),(100+k,some 300),(200+k,some 303)] 1=some 302:=rfl;have q2:pm [(1,some 302),(2,some 305),(100+k,some 300),(200+k,some 303)] 2=some 305:=rfl;obtain⟨π,hπ⟩: ∃π,π=[(1,some 302),(2,some 305),(100+k,some 300),(200+k,some 303)]:=⟨_,rfl⟩;rw[<-hπ] at ad af ab ac q0 q1 q2⊢;refine⟨by rw[hπ];exact⟨by omega,by omega,by omega,by omega,trivial⟩,?_,?_,?_⟩
  .rw[kO,hπ];simp only[Hx,Qpf,BA,dO];refine kZ _ _ (Tu (k+1) (by omega)) ?_;intro x hx y hy m ah ai;have a9:=Tt (k+1) (by omega) x hx;have ba:=Tt (k+1) (by omega) y hy;simp only[pm] at ah ai
   repeat' split at ah
   all_goals repeat' split at ai
   all_goals simp only[AI] at ah ai
   all_goals omega
  .simp only[QW,Ay];simp(disch:=omega)only[ZA,simprocAttr,q0];rw[AB (by omega) (by omega)];omega
  .simp only[Hj,Qns,BA,kF];refine⟨?_,?_,?_,λi z=> ?_,λi z=> ?_⟩
   .simp(disch:=omega)only[ZA,simprocAttr,q0,q1,q2]
   .simp(disch:=omega)only[ZA,simprocAttr,q1];refine Qyn (g:=λi=>if i<k then 100+i else 300) (λi z=> ?_) (Ql0 100 k 300);by_cases h:i<k
    .rw[Ai h,ad i h]
    .rw[Ad h,show i=k by omega,ab]
   .simp(disch:=omega)only[ZA,simprocAttr,q2];refine Qyn (g:=λi=>if i<k then 200+i else 303) (λi z=> ?_) (Ql0 200 k 303);by_cases h:i<k
    .rw[Ai h,af i h]
    .rw[Ad h,show i=k by omega,ac]
   .by_cases h:i<k
    .rw[ad i h,hg i (by omega)];simp only[EC,hget,Cw _ _ (show 0≠100+i by omega),Cw _ _ (show 305≠100+i by omega),Cw _ _ (show 303≠100+i by omega),Cw _ _ (show 302≠100+i by omega),Cw _ _ (show 300≠100+i by omega),Ct,Zm];have h9:=dR k (List.replicate n (List.replicate n 0)) (List.replicate n (List.replicate n 0)) i h;simp only[BA] at h9;simp (disch:=omega) only[ZK,ZO,Cw,JT,CN,Cu,h9,hg,Ka,EK,F4]
    .rw[show i=k by omega,ab,hg k (by omega)];simp(disch:=omega)only[ZA,simprocAttr,sU]
   .by_cases h:i<k
    .rw[af i h,hg i (by omega)];simp only[EC,hget,Cw _ _ (show 0≠200+i by omega),Cw _ _ (show 305≠200+i by omega),Cw _ _ (show 303≠200+i by omega),Cw _ _ (show 302≠200+i by omega),Cw _ _ (show 300≠200+i by omega),Ct,Zm];have h9:=dW k (List.replicate n (List.replicate n 0)) (List.replicate n (List.replicate n 0)) i (by omega) h;simp only[BA] at h9;simp (disch:=omega) only[ZK,ZO,Cw,JT,CN,Cu,h9,hg,Ka,EK,F4]
    .rw[show i=k by omega,ac,hg k (by omega)];simp(disch:=omega)only[ZA,simprocAttr,sU]
 .intro _;have av:k=n:=by omega
  subst av;clear hk au;refine AR.old ⟨{j:Nat//j<=bs.length},λj=>⟨[(38,.im (.int .i64 j.1)),(37,.im (.int .i64 bs.length)),(36,.im (.sl false 3 (bs.map Af.c))),(5,.ptr 0 0)],(0,(true,.cells 359 [.own 1,.own 2]))::(1,(true,.arrA 56 1 (D2 100 k)))::(2,(true,.arrA 56 1 (D2 200 k)))::(BA 100 k (Cd k bs j.1).Room++BA 200 k (Cd k bs j.1).Flow),300⟩,λj=>bs.length - j.1,λj=>⟨?_,by simp⟩,⟨⟨0,by simp⟩,?_⟩,λj=> ?_⟩
  .exact sV _ _ _ (by omega) _ (by simp[CQ,AV.bel])
  .simp only[sub,Gs,CE,Ay,hget,jV];simp(disch:=omega)only[ZA,simprocAttr,sE,Cd,Kr];refine⟨λi z=> ?_,λi z=> ?_⟩
   .rw[Ad (by omega),Ad (by omega),Ad (by omega)];exact dR _ _ _ _ z
   .rw[Ad (by omega),Ad (by omega),Ad (by omega)];exact dW _ _ _ _ (by omega) z
  obtain⟨j,hj⟩:=j;obtain⟨aa,_⟩:=WA Q j;obtain⟨x,hx⟩: ∃x,x=Cd k bs j:=⟨_,rfl⟩;simp only[<-hx] at aa⊢;simp(disch:=omega)only[ZA,simprocAttr,Qf,AM,Da,Ir];refine⟨λam=>⟨am,λb hb=> ?_⟩,λam=> ?_⟩
  .obtain⟨b1,b2,b3,b4⟩:=Q b (AP hb);have az:=an b (AP hb);have a0:=ag b (AP hb);obtain⟨u,hu⟩: ∃u:Nat,b.A=u:=⟨b.A.toNat,by omega⟩;obtain⟨v,hv⟩: ∃v:Nat,b.B=v:=⟨b.B.toNat,by omega⟩;have Z:u<k:=by omega
   have G:v<k:=by omega
   have ay:u≠v:=by omega
   simp only[hu,hv,BD];refine⟨by omega,by omega,by omega,?_⟩;have hr: ∀i,i<k->(x.Room[i]?.getD []).length=k:=by
    intro i z;rw[Bd (by rw[aa.r];exact z),AS];exact aa.rr _ (Rh _)
   have aw:=hr u Z;have ax:=hr v G;simp(disch:=omega)only[ZA,simprocAttr,sub,eK,Da,Ir,Cw,Vf,dR,aw,ax,Qxa,dN,vG,jV,sE];have aj:=Qrm Q ag u v j;have ak:=Qrm Q ag v u j;rw[<-hx] at aj ak;refine⟨by omega,G,by omega,G,λx1 e1=>⟨G,by omega,G,λx2 _=>⟨.inr (by omega),G,G,by omega,Z,by omega,Z,λx3 e3=>⟨Z,by omega,Z,λx4 _=>⟨.inr (by omega),⟨j+1,by omega⟩,by simp only;omega,by rw[AB (by omega) (by omega)];simp only;omega,?_⟩⟩⟩⟩⟩;have r1:DU x u v=x1:=by simp only[DU,GK,e1,AS]
   have r3:DU x v u=x3:=by simp only[DU,GK,e3,AS]
   rw[r1] at aj;rw[r3] at ak;rw[AB (by omega) (by omega),AB (by omega) (by omega)];have hN:Cd k bs (j+1)=JU x b:=by simp only[Cd,hb,<-hx]
   have hR: ∀i,i<k->(Cd k bs (j+1)).Room[i]?.getD []=if v=i then (x.Room[v]?.getD []).set u (x3+b.Strength) else if u=i then (x.Room[u]?.getD []).set v (x1+b.Strength) else x.Room[i]?.getD []:=by
    intro i z;rw[hN];simp only[JU,KG,hu,hv,BD];by_cases O:v=i
    .subst O;rw[Ai rfl,Ee (by rw[JR,aa.r];exact G),AS,DM ay,e3,AS]
    .rw[Ad O,DM O];by_cases h2:u=i
     .subst h2;rw[Ai rfl,Ee (by rw[aa.r];exact Z),AS,e1,AS]
     .rw[Ad h2,DM h2]
   have hF:(Cd k bs (j+1)).Flow=x.Flow:=by rw[hN];rfl
   refine⟨λi z=> ?_,λi z=> ?_⟩
   .rw[hR i z];by_cases O:v=i
    .subst O;rw[Ai rfl,Ai rfl]
    .rw[Ad (by omega),Ad O];by_cases h2:u=i
     .subst h2;rw[Ai rfl,Ai rfl]
     .rw[Ad (by omega),Ad h2,Ad (by omega)];exact dR _ _ _ _ z
   .rw[Ad (by omega),hF];exact dW _ _ _ _ (by omega) z
  .have aq:j=bs.length:=by omega
   subst aq;rw[hx];exact T6 (x:=DG k bs) (n:=k) (by omega) (λo ho=>by
    have O:(An [] o||(Qf o && (Nat.ble 0 o && Nat.blt o (0+320))))=true:=by
     have h2:=Ke o ho;simp[ho];omega
    simp only[XV,O,C3])
 rcases iF hp with ⟨O,h2⟩
 have a8:=Ke p.1 O;exact .inr ⟨by omega,by omega,O,h2⟩
structure Tr(H:Nat->Option Ap)(x:Be)(n:Nat):Prop where
 g0:H 0=some (true,.cells 359 [.own 1,.own 2])
 g1:H 1=some (true,.arrA 56 1 (D2 100 n))
 g2:H 2=some (true,.arrA 56 1 (D2 200 n))
 ga: ∀i,i<n->H (100+i)=some (true,.arr 2 1 ((x.Room[i]?.getD []).map Ao))
 gb: ∀i,i<n->H (200+i)=some (true,.arr 2 1 ((x.Flow[i]?.getD []).map Ao))
def Uj{M:List (List Int)}{n:Nat}(h:M.length=n):(List.range n).map (λi=>Du (M[i]?.getD []))=M.map Du:=by
 apply NP;intro i;rw[Ef,Ef];by_cases z:i<n
 .rw[Qa z,Bd (by omega:i<M.length)];simp only[DW,Bd (show i<M.length by omega),AS]
 .rw[Fz (by simp;omega),Fz (by omega)];rfl
def Mf{H:Nat->Option Ap}{m b o n:Nat}{M:List (List Int)}(Q:M.length=n)(z:H o=some (true,.arrA 56 1 (D2 b n)))(G: ∀i,i<n->H (b+i)=some (true,.arr 2 1 ((M[i]?.getD []).map Ao))):
 bk H (m+2) (.own o)=some (.sl false 1 (M.map Du)):=by
 simp only[bk,z,WR];rw[D2,zU (f:=A7 (bk H (m+1))) (g:=λi=>[AV.own (b+i)]) (k:=λi=>Du (M[i]?.getD [])),Uj Q]
 .rfl
 .intro i O;simp only[A7,bk,G i (Dt.1 O),WR];rfl
def Yn{H:Nat->Option Ap}{x:Be}{n:Nat}(h:Tr H x n)(z:JI x n)(a b:D):CK H [.ptr 0 0,.im a,.im b]=some [.ptr (Be.c x),F5 a,F5 b]:=by
 have G:=Mf (m:=6) z.r h.g1 h.ga;have O:=Mf (m:=6) z.f h.g2 h.gb;simp only[CK,EL,h.g0,Z8,FR,A7,G,O,IV,DW,GE];rfl
def UY{H:Nat->Option Ap}{x:Be}{n nx:Nat}{K:Ah}(h:Tr H x n)(z:JI x n)(hn:n<=1000){p q:Int}(G:0<=p)(aa:p<n)(O:0<=q)(ab:q<n)
 (hK: ∀U,K (.im (.sl true 1 ((C8 x n p q).map Ao))) {use:=U}):wayC.row [.ptr 0 0,.im (.int .i64 p),.im (.int .i64 q)] H nx K:=by
 have Q:=z.r;rw[wayC.q,Yn h z];have e:Be.d ((Be.c x).take 2)=some x:=Be.d_c x;simp only[Wy,b3,qP,qI,a3,kP,kI,F5,e,H3,EA];refine⟨⟨Q▸z,by omega,G,by omega,O,by omega⟩,?_⟩;have Z:wayC.re (wayC.fv (x,p,q))= .sl true 1 ((C8 x n p q).map Ao):=by simp only[wayC.re,wayC.fv,Q]
 rw[Z];exact hK _
def sndC.n(a:Be×Int×Int×Int):Nat:=min a.1.Room.length 64
def QV(n:Nat)(p q:Int):Nat->Be->Be
 |0,x=>x
 |m+1,x=>if C8 x n p q=[] then x else QV n p q m (Hl x (C8 x n p q) ((C8 x n p q).length - 1))
def sndC.ca(a:Be×Int×Int×Int):List AV:=[.ptr 0 0,.im (.int .i64 a.2.1),.im (.int .i64 a.2.2.1),.im (.int .i64 a.2.2.2)]
def sndC.H0(a:Be×Int×Int×Int):Ar:=CF a.1 (sndC.n a)
def sndC.H1(a:Be×Int×Int×Int):Ar:=BA 200 (sndC.n a) (QV (sndC.n a) a.2.1 a.2.2.1 a.2.2.2.toNat a.1).Flow
def sndC.r0(a:Be×Int×Int×Int):AV:= .im (.int .i64 (FP (sndC.n a) a.2.1 a.2.2.1 a.2.2.2.toNat a.1))
structure U6(a:Be×Int×Int×Int):Prop where
 n:a.1.Room.length<=64
 ok:JI a.1 a.1.Room.length
 p0:0<=a.2.1
 p1:a.2.1<a.1.Room.length
 q0:0<=a.2.2.1
 q1:a.2.2.1<a.1.Room.length
 pq:a.2.1≠a.2.2.1
 m0:0<=a.2.2.2
 m1:a.2.2.2<=1000000
 fl: ∃v,QN (DU a.1) (Jw a.1) a.1.Room.length a.2.1.toNat a.2.2.1.toNat v
 rm: ∀u v,DU a.1 u v<=10000000000000
def SM(j:Nat):Bool:=Nat.ble 200 j && Nat.blt j 264
def sndC.row:Ax:=AE sndC.ca sndC.H0 300 U6 SM sndC.r0 sndC.H1 10
def sndC.hbel(a:Be×Int×Int×Int):AN 300 (sndC.ca a)=true:=rfl
def sndC.n_le(a:Be×Int×Int×Int):sndC.n a<=64:=uN _ _
def nO(x:Be)(n:Nat)(hn:n<=64):AD 300 (CF x n)=true/\Cg 300 (CF x n)=true:=by
 have:=sV n x.Room x.Flow hn [] rfl
 simp only[Az.good,AO] at this;exact this.2
def sndC.hbH(a:Be×Int×Int×Int):AD 300 (sndC.H0 a)=true:=(nO _ _ (sndC.n_le a)).1
def sndC.hkH(a:Be×Int×Int×Int):Cg 300 (sndC.H0 a)=true:=(nO _ _ (sndC.n_le a)).2
def Vq(x:Be)(n:Nat)(hn:n<=64):Tr (hget (CF x n)) x n:=by
 refine⟨rfl,rfl,rfl,λi z=> ?_,λi z=> ?_⟩
 .simp only[CF,hget,Cw _ _ (show 0≠100+i by omega),Cw _ _ (show 1≠100+i by omega),Cw _ _ (show 2≠100+i by omega),Ct];exact dR _ _ _ _ z
 .simp only[CF,hget,Cw _ _ (show 0≠200+i by omega),Cw _ _ (show 1≠200+i by omega),Cw _ _ (show 2≠200+i by omega),Ct];exact dW _ _ _ _ (by omega) z
def Qvt(H0:Ar): ∀(a b:Ar),Cx H0 (a++b)↔Cx H0 a/\Cx H0 b
 |[],b=>by simp[Cx]
 |(i,(z,e))::r,b=>by simp only[CW,Cx,Qvt H0 r b,fP]
def Qud(H0:Ar)(b n:Nat)(M:List (List Int)):Cx H0 (BA b n M):=by
 have: ∀(l:List Nat),Cx H0 (l.map λi=>(b+i,(true,Ag.arr 2 1 ((M[i]?.getD []).map Ao)))):=by
  intro l;induction l with
  |nil=>simp[Cx]
  |cons i r ih=>simp only[Bb,Cx];exact⟨λm z=>by simp[Ag.nms] at z,ih⟩
 exact this _
def Qu6(b n:Nat): ∀m∈BB (D2 b n),∃i,i<n/\m=b+i:=by
 have: ∀(l:List Nat),(∀i∈l,i<n)-> ∀m∈BB (l.map λi=>[AV.own (b+i)]),∃i,i<n/\m=b+i:=by
  intro l;induction l with
  |nil=>intro _ m z;simp[BB] at z
  |cons i r ih=>
   intro G m z;simp only[Bb,BB,A9,AV.nms,CC,Bp,B4] at z;rcases z with rfl|z
   .exact⟨i,G i (Cb ..),rfl⟩
   .exact ih (λj Q=>G j (BZ _ Q)) m z
 exact this _ (λi O=>Dt.1 O)
def Ym(x:Be)(n:Nat)(hn:n<=64):Cx (CF x n) (CF x n):=by
 have G:=Vq x n hn;have hd: ∀o e,hget (CF x n) o=some e->An (CF x n) o=true:=λo e h=>by simp only[An,h];rfl
 obtain⟨H,hH⟩: ∃H,H=CF x n:=⟨_,rfl⟩;rw[<-hH] at G hd;rw[show Cx (CF x n) (CF x n)=Cx H (CF x n) by rw[hH]];simp only[CF,Cx,Qvt];refine⟨λm z=> ?_,λm z=> ?_,λm z=> ?_,Qud _ _ _ _,Qud _ _ _ _⟩
 .simp only[Ag.nms,A9,AV.nms,CC,Bp,B4] at z;rcases z with rfl|rfl
  .exact hd _ _ G.g1
  .exact hd _ _ G.g2
 .obtain⟨i,O,rfl⟩:=Qu6 100 n m z;exact hd _ _ (G.ga i O)
 .obtain⟨i,O,rfl⟩:=Qu6 200 n m z;exact hd _ _ (G.gb i O)
def MN{s:Az}{x:Be}{n:Nat}(h:Tr (hget s.h) x n):CE s (CF x n):=by
 simp only[CF,CE,jV,sE];exact⟨h.g0,h.g1,h.g2,h.ga,h.gb⟩
def M5(h:Nat->Option Ap)(f:Nat->Bool): ∀(a b:Ar),Ja h f (a++b)↔Ja h f a/\Ja h f b
 |[],b=>by simp[Ja]
 |(i,e)::r,b=>by simp only[CW,Ja,M5 h f r b,fP]
def aK(i:Nat)(h:i<64):SM (200+i)=true:=by
 simp only[SM,AO,Qc,H5];omega
def Qxi(h:Nat->Option Ap)(f:Nat->Bool)(b:Nat)(g:Nat->Ap)(n:Nat)(H: ∀i,i<n->f (b+i)=true\/h (b+i)=some (g i)):Ja h f (CA b n g):=by
 have: ∀(l:List Nat),(∀i∈l,i<n)->Ja h f (l.map λi=>(b+i,g i)):=by
  intro l;induction l with
  |nil=>intro _;trivial
  |cons i r ih=>
   intro G;simp only[Bb,Ja];refine⟨?_,ih (λj Q=>G j (BZ _ Q))⟩;rcases H i (G i (Cb ..)) with z|z
   .rw[z];trivial
   .cases f (b+i)
    .exact z
    .trivial
 exact this _ (λi O=>Dt.1 O)
def Ug{h:Nat->Option Ap}{n:Nat}(hn:n<=64){M:List (List Int)}(H: ∀i,i<n->h (100+i)=some (true,.arr 2 1 ((M[i]?.getD []).map Ao))):Ja h SM (BA 100 n M):=Qxi _ _ _ _ _ (λi z=> .inr (H i z))
def Uh{h:Nat->Option Ap}{n:Nat}(hn:n<=64){M:List (List Int)}:Ja h SM (BA 200 n M):=Qxi _ _ _ _ _ (λi z=> .inl (aK i (by omega)))
def sndC.hnm(a:Be×Int×Int×Int):Cx (sndC.H0 a) (sndC.H0 a):=Ym _ _ (sndC.n_le a)
def sndC.ok:AA 266 sndC.row:=by
 refine ow (tC wayC.ok tN) Tryz.func266 (exB:=λ_=>false) (R:=λa r=>r=sndC.r0 a) (λ_=>rfl)
  (λa=>⟨sndC.hbel a,sndC.hbH a,sndC.hkH a,sndC.hnm a⟩) (λa p hp=> ?_) (λa r h=>by subst h;exact DK.refl _) ?_
 rotate_left
 intro a au;simp only[Tryz.f266,sndC.ca];simp(disch:=omega)only[ZA,simprocAttr];obtain⟨x,p,q,mo⟩:=a;obtain⟨hn,ak,ac,Z,ad,af,aq,a9,ba,aj,am⟩:=au;simp only at hn ak ac Z ad af aq a9 ba aj am;obtain⟨n,hnn⟩: ∃n,n=x.Room.length:=⟨_,rfl⟩;obtain⟨M,hM⟩: ∃M:Nat,mo=M:=⟨mo.toNat,by omega⟩;subst hM;have bd: ∀y:Int×Int×Int,sndC.n (x,y)=n:=λy=>by simp only[sndC.n,<-hnn];omega
 simp only[sndC.H1,sndC.r0,sndC.H0,bd,BD,CF,Da];rw[<-hnn] at hn ak Z af aj;refine AR.old ⟨{s:Nat×Be//s.1<=M/\JI s.2 n/\s.2.Room=x.Room/\(∃v,QN (DU x) (Jw s.2) n p.toNat q.toNat v)/\FP n p q M x=FP n p q (M - s.1) s.2+s.1/\QV n p q M x=QV n p q (M - s.1) s.2},λs=>⟨[(9,.im (.int .i64 s.1.1)),(0,.ptr 0 0),(1,.im (.int .i64 p)),(2,.im (.int .i64 q)),(3,.im (.int .i64 M))],CF s.1.2 n,300⟩,λs=>M - s.1.1,λs=>⟨?_,by simp⟩,⟨⟨(0,x),by simp only;omega,ak,rfl,aj,by simp,by simp⟩,?_⟩,λs=> ?_⟩
 .simp only[CF];exact sV _ _ _ hn _ (by simp[CQ,AV.bel])
 .simp only[sub,Gs,Ay];refine⟨?_,?_⟩
  .simp(disch:=omega)only[ZA,simprocAttr]
  .exact MN (Vq x n hn)
 obtain⟨⟨k,y⟩,i1,i2,i3,i4,i5,i6⟩:=s;simp only at i1 i2 i3 i4 i5 i6;simp only[CF];simp(disch:=omega)only[ZA,simprocAttr,Da];refine UY (Vq y n hn) i2 (by omega) ac Z ad af (λU=> ?_);obtain⟨L,hL⟩: ∃L,L=C8 y n p q:=⟨_,rfl⟩;rw[<-hL];simp(disch:=omega)only[ZA,simprocAttr,Da,AM];have ah:(FP n p q (M - k) y=0)->(QV n p q (M - k) y=y)->(((bif SM 0 then True else True)/\(bif SM 1 then True else True)/\(bif SM 2 then True else True)/\Ja (hget (CF y n)) SM (BA 100 n x.Room++BA 200 n x.Flow))/\(k:Int)=FP n p q M x/\ ∀kx,Hy (hget (CF y n)) (Bl (hget (CF y n)) kx 9) (BA 200 n (QV n p q M x).Flow)):=by
  intro e1 e2;have hI:=Vq y n hn;refine⟨⟨trivial,trivial,trivial,(M5 _ _ _ _).2 ⟨Ug hn (λi O=>by rw[hI.ga i O,i3]),Uh hn⟩⟩,by omega,λkx=> ?_⟩;rw[i6,e2];exact Qoq _ _ _ _ _ hI.gb
 have ax:(L.map Ao).isEmpty=L.isEmpty:=by cases L<;>rfl
 rw[ax];refine⟨λc1=>⟨λc2=> ?_,λc2=> ?_⟩,λc1=> ?_⟩
 .obtain⟨g1,g2,g3⟩:=ah (by rw[show M - k=0 by omega];rfl) (by rw[show M - k=0 by omega];rfl);exact⟨g1,g2,g3 _⟩
 .have aa:L≠[]:=by intro h;rw[h] at c1;cases c1
  have hW:SC y n p q L:=by rw[hL];exact Va ac Z ad af (by rw[<-hL];exact aa)
  have bh:=hW.pos;obtain⟨v,hv⟩:=i4;have an: ∀i,i<L.length-> ∃w:Nat,L[i]? =some (w:Int)/\w<n:=by
   intro i O
   have:=hW.inb _ (Rh O)
   refine⟨(L[i]).toNat,by rw[Bd O];congr 1;omega,by omega⟩
  refine AR.old ⟨{j:Nat//j+1<=L.length},λj=>⟨[(11,.im (.int .i64 ((j.1:Int)+1))),(10,.im (.sl true 1 (L.map Ao))),(9,.im (.int .i64 k)),(0,.ptr 0 0),(1,.im (.int .i64 p)),(2,.im (.int .i64 q)),(3,.im (.int .i64 M))],CF (Hl y L j.1) n,300⟩,λj=>L.length - j.1,λj=>⟨?_,by simp⟩,⟨⟨0,by omega⟩,?_⟩,λj=> ?_⟩
  .simp only[CF];exact sV _ _ _ hn _ (by simp[CQ,AV.bel])
  .simp only[sub,Gs,Ay];refine⟨?_,?_⟩
   .simp(disch:=omega)only[ZA,simprocAttr]
   .exact MN (Vq y n hn)
  obtain⟨j,hj⟩:=j;have G:=zG i2 hW.inb j (by omega);obtain⟨z,hz⟩: ∃z,z=Hl y L j:=⟨_,rfl⟩;simp only[<-hz] at G⊢;simp only[CF];have ej:((j:Int)+1).toNat=j+1:=by omega
  simp(disch:=omega)only[ZA,simprocAttr,Da,sub,AM,Ir];intro bg;have ew:IntKind.i64.wrap ((j:Int)+1 - 1)=j:=by rw[AB (by omega) (by omega)];omega
  have av:IntKind.i64.wrap ((j:Int)+1+1)=(j:Int)+1+1:=AB (by omega) (by omega);simp only[ew,BD];refine⟨λa0=> ?_,λa0=> ?_⟩
  .obtain⟨u,ab,hu⟩:=an j (by omega);obtain⟨w,ai,Q⟩:=an (j+1) (by omega);have be:u≠w:=by
    intro h
    have:=hW.nd j (j+1) (by omega) (by omega) (by simp only[Lf,ab,ai,h])
    omega
   have hr: ∀i,i<n->(z.Flow[i]?.getD []).length=n:=by
    intro i O;rw[Bd (by rw[G.f];exact O),AS];exact G.ff _ (Rh _)
   have bb:=hr u hu;have bc:=hr w Q;simp only[ab,AI,forall_eq'];simp(disch:=omega)only[ZA,simprocAttr,sub,eK,Da,Ir,Cw,Vf,dW,ew,av,ej,ab,ai,forall_eq',bb,bc,Qxa,dN,vG,jV,sE];have hb: ∀a b,a<n->b<n-> -10000000000002<=Jw z a b/\Jw z a b<=10000000000002:=by
    intro a b ha hb;have h1:=Qso i2 hW.inb a b j (by omega);have h2:=Qr1 (L:=Lf L) (m:=L.length - 1) (λi j O hj=>hW.nd i j (by omega) (by omega)) a b j (by omega);have h3:=Qr1 (L:=Lf L) (m:=L.length - 1) (λi j O hj=>hW.nd i j (by omega) (by omega)) b a j (by omega);have h4:=qQ (Lf L) a b j;have h5:=qQ (Lf L) b a j;have h6:=hv.cap a b ha hb;have h7:=hv.cap b a hb ha;have h8:=hv.anti a b ha hb;have h9:=am a b;have bi:=am b a;rw[<-hz] at h1;simp only[Jw] at*;omega
   have ay:=hb u w hu Q;have az:=hb w u Q hu;refine⟨by omega,hu,hu,by omega,by omega,by omega,Q,by omega,Q,λx1 e1=>⟨Q,by omega,Q,λ_ _=>⟨.inr (by omega),by omega,by omega,Q,Q,by omega,by omega,hu,by omega,hu,λx3 e3=>⟨hu,by omega,hu,λ_ _=>⟨.inr (by omega),⟨j+1,by omega⟩,by simp only;omega,by simp only;omega,?_⟩⟩⟩⟩⟩;have r1:Jw z u w=x1:=by simp only[Jw,GK,e1,AS]
   have r3:Jw z w u=x3:=by simp only[Jw,GK,e3,AS]
   rw[r1] at ay;rw[r3] at az;rw[AB (by omega) (by omega),AB (by omega) (by omega)];have hN:Hl y L (j+1)=Nj z u w:=by simp only[Hl,ab,ai,AS,<-hz]
   have hR: ∀i,i<n->(Hl y L (j+1)).Flow[i]?.getD []=if w=i then (z.Flow[w]?.getD []).set u (x3 - 1) else if u=i then (z.Flow[u]?.getD []).set w (x1+1) else z.Flow[i]?.getD []:=by
    intro i O;rw[hN];simp only[Nj,KG,BD];by_cases h1:w=i
    .subst h1;rw[Ai rfl,Ee (by rw[JR,G.f];exact Q),AS,DM be,e3,AS];rfl
    .rw[Ad h1,DM h1];by_cases h2:u=i
     .subst h2;rw[Ai rfl,Ee (by rw[G.f];exact hu),AS,e1,AS]
     .rw[Ad h2,DM h2]
   have hF:(Hl y L (j+1)).Room=z.Room:=by rw[hN];rfl
   refine⟨λi O=> ?_,λi O=> ?_⟩
   .rw[Ad (by omega),Ad (by omega)];show _=some (true,Ag.arr _ 1 (List.map Ao ((Hl y L (j+1)).Room[i]?.getD [])));rw[hF];exact dR _ _ _ _ O
   .show _=some (true,Ag.arr _ 1 (List.map Ao ((Hl y L (j+1)).Flow[i]?.getD [])));rw[hR i O];by_cases h1:w=i
    .subst h1;rw[Ai rfl,Ai rfl]
    .rw[Ad (by omega),Ad h1];by_cases h2:u=i
     .subst h2;rw[Ai rfl,Ai rfl]
     .rw[Ad (by omega),Ad h2];exact dW _ _ _ _ (by omega) O
  .have a8:j=L.length - 1:=by omega
   subst a8;obtain⟨m,hm⟩: ∃m,M - k=m+1:=⟨M - k - 1,by omega⟩;have ao: ¬C8 y n p q=[]:=by rw[<-hL];exact aa
   have e5:FP n p q (m+1) y=FP n p q m z+1:=by simp only[FP];rw[Ad ao,<-hL,<-hz]
   have e6:QV n p q (m+1) y=QV n p q m z:=by simp only[QV];rw[Ad ao,<-hL,<-hz]
   rw[hm] at i5 i6;have ag:=(Qun i2 ac Z aq ad (v:=v) (by rw[show DU y=DU x by funext a b;simp only[DU,i3]];exact hv) hW).2;have bf:z.Room=x.Room:=by rw[hz,Ql3,i3]
   rw[show DU y=DU x by funext a b;simp only[DU,i3],<-hz] at ag;refine⟨⟨(k+1,z),by simp only;omega,G,bf,⟨_,ag⟩,by simp only;rw[show M - (k+1)=m by omega];omega,by simp only;rw[show M - (k+1)=m by omega,i6,e6]⟩,by simp only;omega,?_⟩;refine⟨by rw[AB (by omega) (by omega)];simp only;omega,?_⟩;simp only[jV,sE];exact⟨(Vq z n hn).ga,(Vq z n hn).gb⟩
 .have aa:L=[]:=by
   cases L with
   |nil=>rfl
   |cons a r=>exact absurd rfl c1
  have Q:C8 y n p q=[]:=by rw[<-hL,aa]
  have z1: ∀m,FP n p q m y=0:=by
   intro m;cases m with
   |zero=>rfl
   |succ m=>simp only[FP];rw[Ai Q]
  have z2: ∀m,QV n p q m y=y:=by
   intro m;cases m with
   |zero=>rfl
   |succ m=>simp only[QV];rw[Ai Q]
  obtain⟨g1,g2,g3⟩:=ah (z1 _) (z2 _);exact⟨g1,g2,g3 _⟩
 simp only[sndC.H1,BA,CA,BI,Dt] at hp;obtain⟨i,O,rfl⟩:=hp;have aw:=sndC.n_le a;refine .inl ⟨by omega,by simp only[SM,AO,Qc,H5];omega,?_⟩;simp only[An,sndC.H0];rw[(Vq a.1 (sndC.n a) aw).gb i O];rfl
def Qwi(h:Nat->Option Ap)(σ:Nat->Nat): ∀(a b:Ar),CV h σ (a++b)↔CV h σ a/\CV h σ b
 |[],b=>by simp[CV]
 |(i,(z,e))::r,b=>by simp only[CW,CV,Qwi h σ r b,fP]
def Qt1{h:Nat->Option Ap}{σ:Nat->Nat}{b n:Nat}{M:List (List Int)}(H: ∀i,i<n->h (σ (b+i))=some (true,.arr 2 1 ((M[i]?.getD []).map Ao))):CV h σ (BA b n M):=by
 have: ∀(l:List Nat),(∀i∈l,i<n)->CV h σ (l.map λi=>(b+i,(true,Ag.arr 2 1 ((M[i]?.getD []).map Ao)))):=by
  intro l;induction l with
  |nil=>intro _;trivial
  |cons i r ih=>
   intro z;simp only[Bb,CV];exact⟨H i (z i (Cb ..)),ih (λj O=>z j (BZ _ O))⟩
 exact this _ (λi G=>Dt.1 G)
def Qth{σ:Nat->Nat}{b n:Nat}{M:List (List Int)}(H: ∀i,i<n->σ (b+i)=b+i):B1 σ (BA b n M)=BA b n M:=by
 have: ∀(l:List Nat),(∀i∈l,i<n)->B1 σ (l.map λi=>(b+i,(true,Ag.arr 2 1 ((M[i]?.getD []).map Ao))))=l.map λi=>(b+i,(true,Ag.arr 2 1 ((M[i]?.getD []).map Ao))):=by
  intro l;induction l with
  |nil=>intro _;rfl
  |cons i r ih=>
   intro z;simp only[Bb,B1];rw[H i (z i (Cb ..)),ih (λj O=>z j (BZ _ O))];rfl
 exact this _ (λi G=>Dt.1 G)
def yL{σ:Nat->Nat}{b n:Nat}(H: ∀i,i<n->σ (b+i)=b+i):(D2 b n).map (AU σ)=D2 b n:=by
 simp only[D2,mH];refine ZI λi z=> ?_
 simp only[Function.comp,AU,AV.ren,H i (Dt.1 z)]
def Qzq(σ:Nat->Nat): ∀(a b:Ar),B1 σ (a++b)=B1 σ a++B1 σ b
 |[],b=>rfl
 |(i,(z,e))::r,b=>by simp only[CW,B1,Qzq σ r b]
def Yy{σ:Nat->Nat}{x:Be}{n:Nat}(hn:n<=64)(H: ∀j,j<300->σ j=j):B1 σ (CF x n)=CF x n:=by
 simp only[CF,B1,Qzq,Ag.ren,AU,AV.ren,H 0 (by omega),H 1 (by omega),H 2 (by omega),yL (b:=100) (n:=n) (λi z=>H (100+i) (by omega)),yL (b:=200) (n:=n) (λi z=>H (200+i) (by omega)),Qth (b:=100) (n:=n) (λi z=>H (100+i) (by omega)),Qth (b:=200) (n:=n) (λi z=>H (200+i) (by omega))]
def Kt{x:Be}{n:Nat}(hn:n<=64){j:Nat}(h:An (CF x n) j=true):j<264/\(200<=j-> ∃i,i<n/\j=200+i)/\j∈[0,1,2]++((List.range n).map (100+ ·)++(List.range n).map (200+ ·)):=by
 have z:j∈[0,1,2]++((List.range n).map (100+ ·)++(List.range n).map (200+ ·)):=by
  have: ∀(H:Ar),An H j=true->j∈Hx H:=by
   intro H;induction H with
   |nil=>intro h;simp[An,hget] at h
   |cons e r ih=>
    obtain⟨i,e⟩:=e;intro h;simp only[An,hget] at h;simp only[Hx,Bx];by_cases O:i=j
    .exact .inl O.symm
    .have:(i==j)=false:=by simpa using O
     rw[this] at h;exact .inr (ih h)
  have Z:=this _ h;simp only[CF,Hx,Qpf,BA,dO] at Z;simpa using Z
 refine⟨?_,λG=> ?_,z⟩
 .have:=Tt n hn j z
  rcases Bp.1 z with z|z
  .simp at z;omega
  .rcases Bp.1 z with z|z<;>obtain⟨i,Q,rfl⟩:=BI.1 z<;>have:=Dt.1 Q
   .show 100+i<264;omega
   .show 200+i<264;omega
 .rcases Bp.1 z with z|z
  .simp at z;omega
  .rcases Bp.1 z with z|z<;>obtain⟨i,Q,rfl⟩:=BI.1 z<;>have:=Dt.1 Q
   .have h3:200<=100+i:=G;omega
   .exact⟨i,this,rfl⟩
def OA{kill:List Nat}{nx cnt b n:Nat}{M:List (List Int)}(H: ∀i,i<n->kill.contains (b+i)=true/\b+i<nx):NH kill nx cnt (BA b n M)=true:=by
 have: ∀(l:List Nat),(∀i∈l,i<n)->NH kill nx cnt (l.map λi=>(b+i,(true,Ag.arr 2 1 ((M[i]?.getD []).map Ao))))=true:=by
  intro l;induction l with
  |nil=>intro _;rfl
  |cons i r ih=>
   intro z;simp only[Bb,NH,IR,AO,HY,Qc,H5];exact⟨.inr (H i (z i (Cb ..))),ih (λj O=>z j (BZ _ O))⟩
 exact this _ (λi G=>Dt.1 G)
def U8{H:Nat->Option Ap}{x:Be}{nx:Nat}{K:Ah}{p q O:Int}(hH:Tr H x x.Room.length)(Q:U6 (x,p,q,O))(aa:300<=nx)
 (hK: ∀E:Bz,E.cnt=10->E.ok nx (.im (.int .i64 (FP x.Room.length p q O.toNat x)))=true->K (.im (.int .i64 (FP x.Room.length p q O.toNat x))) E):sndC.row [.ptr 0 0,.im (.int .i64 p),.im (.int .i64 q),.im (.int .i64 O)] H nx K:=by
 have hn:x.Room.length<=64:=Q.n;have G:sndC.n (x,p,q,O)=x.Room.length:=by simp only[sndC.n];omega
 have hσ: ∀j,j<300->Di (λj=>j) 300 nx j=j:=λj Z=>Ai Z
 refine⟨(x,p,q,O),λj=>j,[0,1,2]++((List.range x.Room.length).map (100+ ·)++(List.range x.Room.length).map (200+ ·)),(List.range x.Room.length).map (200+ ·),Q,?_,?_,?_,?_⟩
 .simp only[sndC.ca,AU,AV.ren,hσ 0 (by omega)]
 .simp only[sndC.H0,G,CF,CV,Qwi,Ag.ren,AU,AV.ren,hσ 0 (by omega),hσ 1 (by omega),hσ 2 (by omega),yL (b:=100) (n:=x.Room.length) (λi z=>hσ (100+i) (by omega)),yL (b:=200) (n:=x.Room.length) (λi z=>hσ (200+i) (by omega))];exact⟨hH.g0,hH.g1,hH.g2,Qt1 (λi z=>by rw[hσ _ (by omega)];exact hH.ga i z),Qt1 (λi z=>by rw[hσ _ (by omega)];exact hH.gb i z)⟩
 .have hd: ∀j,An (sndC.H0 (x,p,q,O)) j=true->An (CF x x.Room.length) j=true:=λj h=>by simpa only[sndC.H0,G] using h
  refine⟨λi j _ _ h=>h,λj Z=> ?_,λj Z=>(Kt hn (hd j Z)).2.2,λm hm=> ?_,λj Z hk=> ?_⟩
  .have:=(Kt hn (hd j Z)).1
   omega
  .obtain⟨i,z,rfl⟩:=BI.1 hm
   have:=Dt.1 z
   refine⟨200+i,?_,aK i (by omega),rfl⟩;simp only[An,sndC.H0,G];rw[(Vq x _ hn).gb i this];rfl
  .simp only[SM,AO,Qc,H5] at hk;obtain⟨i,z,rfl⟩:=(Kt hn (hd j Z)).2.1 hk.1;exact BI.2 ⟨i,Dt.2 z,rfl⟩
 .have e:(sndC.r0 (x,p,q,O)).ren (Di (λj=>j) 300 nx)= .im (.int .i64 (FP x.Room.length p q O.toNat x)):=by simp only[sndC.r0,G,AV.ren]
  rw[e];refine hK _ rfl ?_;simp only[Bz.ok,AV.bel,F2,sndC.H1,G];rw[Qth (λi z=>hσ _ (by omega)),AO];refine⟨kK _ _ _ (λi=>rfl) _,OA λi z=>⟨?_,by omega⟩⟩;rw[G6];exact BI.2 ⟨i,Dt.2 z,rfl⟩
def Qu2(cnt:Nat): ∀(H:Ar),(∀p∈H,p.1<cnt)->NH [] 0 cnt H=true
 |[],_=>rfl
 |(i,e)::r,h=>by
  have z:=h (i,e) (Cb ..);simp only at z;simp only[NH,IR,Qu2 cnt r (λp hp=>h p (BZ _ hp)),F1,HY,AO,Qc,H5];exact .inl ⟨by omega,by omega⟩
def Ts{x:Be}{n:Nat}(r:AV)(hn:n<=64)(z:r.bel 320=true){use:List Nat}:Bz.ok {use:=use,kill:=[],new:=CF x n,cnt:=320} 0 r=true:=by
 simp only[Bz.ok,Fj,z,F2,AO];refine⟨?_,Qu2 _ _ λp hp=>by have:=Ke _ (Md hn hp).1;omega⟩;simp only[CF,AD,rW,BA];rw[kK _ _ _ (λi=>rfl),kK _ _ _ (λi=>rfl),Wz _ _ _ (by omega),Wz _ _ _ (by omega)];rfl
def Qt8(n:Nat)(bs:List Af)(t:Int)(k:Nat)(h:QR n bs t k=false): ∀m,QR n bs t (k+m)=false
 |0=>h
 |m+1=>by rw[show k+(m+1)=k+m+1 by omega,QR,Qt8 n bs t k h m,Gf]
def tT(n:Int)(bs:List Af)(t:Int):Bool:=QR n.toNat bs t (n.toNat - 1)
def holds_.fv(a:Int×(List Af)×Int):Bool:=(tT) (a.1) (a.2.1) (a.2.2)
def holds_.row:Ax:=vK (b3 qI (qS Af.d_le Af.c_n) qI) rB (λa=>Me (a.1,a.2.1)/\0<=a.2.2/\a.2.2<=1000000) holds_.fv
def holds_.q:=AX (R:=holds_.row) rfl
def holds_.ok:AA 228 holds_.row:=by
 refine vw (tC nwC.ok (tC sndC.ok tN)) Tryz.func228 ?_;intro a ac;simp only[Tryz.f228];simp only[ZA,simprocAttr,holds_.fv];obtain⟨hp,ad,af⟩:=ac;obtain⟨h0,h1,hl,z,G,O⟩:=hp;simp only at h0 h1 hl z G O;obtain⟨n,hn⟩: ∃n:Nat,a.1=n:=⟨a.1.toNat,by omega⟩;obtain⟨bs,hbsd⟩: ∃bs,bs=a.2.1:=⟨_,rfl⟩;obtain⟨t,ht⟩: ∃t,t=a.2.2:=⟨_,rfl⟩;simp only[hn,<-hbsd,<-ht,tT,BD] at h0 h1 hl z G O ad af⊢;have Q:Me ((n:Int),bs):=⟨h0,h1,hl,z,G,O⟩;refine AR.old ⟨{k:Nat//(k=0\/k+1<=n)/\QR n bs t k=true},λk=>⟨[(7,.im (.int .i64 ((k.1:Int)+1))),(0,.im (.int .i64 n)),(1,.im (.sl false 3 (bs.map Af.c))),(2,.im (.int .i64 t))],[],0⟩,λk=>n - k.1,λk=>⟨by simp[ZG],by simp⟩,⟨⟨0,.inl rfl,rfl⟩,by simp only[ZA,simprocAttr,sub]⟩,λk=> ?_⟩;obtain⟨k,aa,ab⟩:=k;simp only[ZA,simprocAttr,AM];refine⟨λhk=> ?_,λhk=> ?_⟩
 .refine AE.os ((n:Int),bs) [] Q (λj=>by simp[An,hget]) rfl rfl ?_ ?_
  .simp only[ZA,simprocAttr,nwC.ca]
  .have e1:B1 (Di (Qk []) 0 0) (nwC.H1 ((n:Int),bs))=CF (DG n bs) n:=by
    simp only[nwC.H1,BD];rw[ZeG (by omega)];exact Yy (by omega) (λj _=>by simp[Di])
   rw[e1];refine⟨Ts _ (by omega) rfl,?_⟩;simp only[ZA,simprocAttr,Da];have Z:(DG n bs).Room.length=n:=(WA z bs.length).1.r;have hI:=Vq (DG n bs) n (by omega);rw[show hget (CF (DG n bs) n)=hget (CF (DG n bs) n) from rfl];refine U8 (x:=DG n bs) (by rw[Z];exact hI) ?_ (by omega) (λE ai ag=> ?_)
   .refine⟨by simp only;omega,by simp only[Z];exact (WA z bs.length).1,by simp,by simp only[Z];omega,by simp only;omega,by simp only[Z];omega,by simp only;omega,ad,af,⟨0,by simp only[Z];exact nI z G _ _⟩,λu v=> ?_⟩
    have:=(Qrm z G u v bs.length).2
    simp only[DG];omega
   .refine⟨ag,?_⟩;rw[Z];obtain⟨sv,hsv⟩: ∃sv,sv=FP n 0 ((k:Int)+1) t.toNat (DG n bs):=⟨_,rfl⟩;rw[<-hsv];have hs:QR n bs t (k+1)=(QR n bs t k && decide (t<=sv)):=by rw[hsv];rfl
    rw[ab,F2] at hs;simp only[ZA,simprocAttr,Az.app,sub,AM];refine⟨λah=> ?_,λah=>⟨⟨k+1,.inr (by omega),by rw[hs];exact JS (by omega)⟩,by simp only;omega,by rw[AB (by omega) (by omega)];simp only;omega⟩⟩;have h9:=Qt8 n bs t (k+1) (by rw[hs];exact KO (by omega)) (n - 1 - (k+1));rw[show k+1+(n - 1 - (k+1))=n - 1 by omega] at h9;exact h9.symm
 .rcases aa with rfl|aa
  .rw[show n - 1=0 by omega];rfl
  .rw[show n - 1=k by omega];exact ab.symm
def JH(t:Int)(b:Af):Bool:=decide (b.Strength<t)
def CT1.fv(a:Af×Int):Bool:=(λb t=>JH t b) (a.1) (a.2)
def CT1.row:Ax:=Fv (b2 (qR Af.d_le) (qP 1 FK)) rB (λa=>True) CT1.fv
def CT1.q:=CR (R:=CT1.row) rfl
def CT1.ok:AA 263 CT1.row:=by
 refine HJ tN Tryz.func263 ?_;intro a z;simp only[Tryz.f263];simp only[ZA,simprocAttr,CT1.fv,D.sc,D.scs,Bt];rfl
def IdxB.ar:List PK->Option ((List Af)×Int)
 |[.val (.sl _ _ G),.val (.fn 263 [] [.ref [.int .i64 z]])]=>(AQ Af.d G).bind λO=>some (O,z)
 |_=>none
def IdxB.ae(a:(List Af)×Int):List PK:=[.val (.sl false 3 (a.1.map Af.c)),.val (.fn 263 [] [.ref [.int .i64 a.2]])]
def IdxB.le: ∀z a,IdxB.ar z=some a->BM z (IdxB.ae a):=by
 intro z a h;unfold IdxB.ar at h;split at h
 .simp only[EP,AI] at h;obtain⟨G,h0,rfl⟩:=h;exact⟨E4 (Et Af.d_le _ _ h0) (by simp only[BI];rintro r ⟨y,_,rfl⟩;rfl),WM ⟨Le.refl _,trivial⟩,trivial⟩
 .cases h
def IdxB.fv(a:(List Af)×Int):Int:=(λl t=>B0 (JH t) 0 l) (a.1) (a.2)
def IdxB.row:Ax:=KE IdxB.ar (λa=>True) (λa=>(D.int .i64) (IdxB.fv a))
def IdxB.q:=mS IdxB.row rfl
def IdxB.ok:AA 293 IdxB.row:=by
 refine jJ CS (tC CT1.ok tN) Tryz.func293 rfl (by kernel_rfl) (by kernel_rfl) (ar:=IdxB.ar) (ae:=IdxB.ae) IdxB.le (n:=2) (λ_=>rfl) (by decide) (rc:=(DJ)) (re:=(D.int .i64)) (Nf) (f:=IdxB.fv) ?_;intro a O;simp only[Tryz.f293];simp only[ZA,simprocAttr,IdxB.ae,IdxB.fv];intro hn;refine AR.old ⟨{k:Nat//k<=a.1.length/\B0 (JH a.2) k (a.1.drop k)=B0 (JH a.2) 0 a.1},λk=>⟨[(8,.im (.int .i64 k.1)),(7,.im (.int .i64 a.1.length)),(6,.im (.sl false 3 (a.1.map Af.c))),(4,.im (.int .i64 0)),(0,.im (.sl false 3 (a.1.map Af.c))),(1,.im (.fn 263 [] [.ref [.int .i64 a.2]]))],[],0⟩,λk=>a.1.length - k.1,λk=>⟨by simp[ZG],AF _⟩,⟨⟨0,by simp⟩,by simp only[ZA,simprocAttr,sub]⟩,λk=> ?_⟩;obtain⟨k,Q,z⟩:=k;simp only[ZA,simprocAttr,rch,CT1.q,CT1.fv,D.sc,D.scs,Bt,sub,AM];refine⟨λG=>⟨G,λx Z=> ?_⟩,λG=> ?_⟩
 .rw[E5 Z,B0] at z;refine⟨λh=> ?_,λh=>GH G hn ⟨by omega,by rw[<-z,Ad (by simpa using h)]⟩⟩;rw[Ai (by simpa using h)] at z;exact z
 .rw[CO (by omega),B0] at z;exact z
def Qu3{t:Int}{l:List Af}{i:Nat}{b:Af}(Q:l.find? (JH t)=some b)(Z:B0 (JH t) 0 l=(i:Int))(h3:l[i]? =some b):G0 t (l.take (i+1))=l.take i:=by
 have hw:JH t b=true:=V8 Q;have G: ∀(l:List Af) (o i:Nat),B0 (JH t) o l=((o+i:Nat):Int)-> ∀x∈l.take i,JH t x=false:=by
  intro l;induction l with
  |nil=>intro o i _ x z;simp at z
  |cons y r ih=>
   intro o i h x z;cases i with
   |zero=>simp at z
   |succ i=>
    simp only[B0] at h;split at h
    .omega
    .rename_i hy;rw[JO] at z;rcases Bx.1 z with rfl|z
     .simpa using hy
     .exact ih (o+1) i (by rw[h];congr 1;omega) x z
 rw[G9,h3,WZ,G0,fM];have O:(l.take i).filter (λb=>decide (t<=b.Strength))=l.take i:=by
  rw[V9];intro x z
  have:=G l 0 i (by rw[Z];simp) x z
  simp only[JH,Ho] at this;simp only[Bo];omega
 simp only[JH,Bo] at hw;rw[O,uR (by simp;omega),fJ,CC]
def dlC.ca(a:List Af×Int):List AV:=[.own 0,.im (.fn 263 [] [.ref [.int .i64 a.2]])]
def dlC.H0(a:List Af×Int):Ar:=[(0,(true,.arr 277 3 (a.1.map Af.c)))]
def dlC.H1(a:List Af×Int):Ar:=[(1,(true,.arr 277 3 ((G0 a.2 a.1).map Af.c)))]
def dlC.row:Ax:=AE dlC.ca dlC.H0 1 (λa=>a.1.length<=1000000) (λj=>j==0) (λ_=> .own 1) dlC.H1 1000
def dlC.ok:AA 261 dlC.row:=by
 refine Hd (tC IdxB.ok (tC CT1.ok tN)) Tryz.func261 (exB:=λj=>j==1) (R:=λ_ r=>r= .own 1) (λ_=>rfl)
  (λa=>by simp[dlC.ca,dlC.H0,AN,AV.bel,AD,Cg,Cx,Ag.nms,An,hget]) (λa p hp=> ?_) (λa r h=>by subst h;exact DK.refl _) ?_
 rotate_left
 intro a Q;simp only[Tryz.f261,dlC.ca,dlC.H0,dlC.H1];simp only[ZA,simprocAttr,rch,IdxB.q,IdxB.ar,IdxB.fv,AG];rcases Vk (JH a.2) a.1 0 with ⟨Z,O⟩|⟨i0,b0,Z,O,e3⟩
 .rw[O,Ai rfl];refine⟨[],[(1,some 0)],⟨[(4,.own 1)],[(1,(true,.arr 277 3 (a.1.map Af.c)))],2⟩,?_,by simp[ZG],by simp,?_⟩
  .simp only[Ak];simp only[ZA,simprocAttr]
  .simp only[ZA,simprocAttr]
   have:G0 a.2 a.1=a.1:=by
    rw[G0,V9];intro b hb
    have:=Re.1 Z b hb
    simp only[JH,Bo] at this⊢;omega
   rw[this]
 .rw[Fj] at O;rw[O,Ad (by omega)];have aa:=(BJ.1 e3).1;rw[AB (by omega) (by omega)];obtain⟨l,hl⟩: ∃l,l=a.1:=⟨_,rfl⟩;obtain⟨t,ht⟩: ∃t,t=a.2:=⟨_,rfl⟩;simp only[<-hl,<-ht] at Z O e3 aa Q⊢;refine AR.old ⟨{j:Nat//j<=l.length},λj=>⟨[(6,.im (.int .i64 j.1)),(5,.im (.int .i64 (G0 t (l.take j.1)).length)),(0,.own 0),(1,.im (.fn 263 [] [.ref [.int .i64 t]]))],[(0,(true,.arr 277 3 ((G0 t (l.take j.1)++l.drop (G0 t (l.take j.1)).length).map Af.c)))],2⟩,λj=>l.length - j.1,λj=>⟨by simp[ZG],by simp⟩,⟨⟨i0+1,by omega⟩,?_⟩,λj=> ?_⟩
  .have h1:=Qu3 Z O e3;simp only[ZA,simprocAttr,sub,h1,Bw];rw[show min i0 l.length=i0 by omega,HZ];exact⟨⟨by omega,rfl⟩,rfl⟩
  obtain⟨j,hj⟩:=j;obtain⟨kp,hkp⟩: ∃kp,kp=G0 t (l.take j):=⟨_,rfl⟩;have ac:kp.length<=j:=by
   have:=Qln t (l.take j)
   rw[Bw] at this;rw[hkp];omega
  have af:(kp++l.drop kp.length).length=l.length:=by simp;omega
  simp only[<-hkp];simp only[ZA,simprocAttr,rch,CT1.q,CT1.fv,sub,AM,af];intro _;refine⟨λG=>⟨G,G,λb hb=> ?_⟩,λG=> ?_⟩
  .have ad:l[j]? =some b:=by
    rw[E7 ac,Ez,show kp.length+(j - kp.length)=j by omega] at hb;exact hb
   have z:=Qjs t ad;rw[<-hkp] at z;refine⟨λhw=>⟨by omega,by omega,λc _=>⟨⟨j+1,by omega⟩,by simp only;omega,?_⟩⟩,λhw=>⟨⟨j+1,by omega⟩,by simp only;omega,?_⟩⟩
   .have hs:t<=b.Strength:=by
     simp only[JH,Ho] at hw;omega
    rw[Ai hs] at z;simp only[z,BQ,Cr,F3];refine⟨⟨by rw[AB (by omega) (by omega)];omega,by rw[AB (by omega) (by omega)];omega⟩,?_⟩;have h1:(kp++l.drop kp.length).set kp.length b=kp++[b]++l.drop (kp.length+1):=by
     obtain⟨c,hc⟩: ∃c,l[kp.length]? =some c:=⟨_,Bd (by omega)⟩;rw[E5 hc,fD _ _ (AF _),G5,ZL,E0];rfl
    rw[<-h1,KN];rfl
   .have hs: ¬t<=b.Strength:=by
     rw[I1] at hw;simp only[JH,Bo] at hw;omega
    rw[Ad hs,CC] at z;simp only[z];exact⟨⟨by rw[AB (by omega) (by omega)];omega,trivial⟩,trivial⟩
  .refine⟨by omega,false,?_⟩;have ab:j=l.length:=by omega
   subst ab;rw[El] at hkp;simp only[ZA,simprocAttr];have hA:List.take kp.length ((kp++l.drop kp.length).map Af.c)=kp.map Af.c:=by
    rw[<-vD,ZR]
   rw[hA];refine⟨by simp only[BQ,EJ];omega,true,?_⟩;simp only[ZA,simprocAttr,AG];refine⟨[],[(1,some 2)],⟨[(4,.own 1)],[(1,(true,.arr 277 3 (kp.map Af.c)))],2⟩,?_,by simp[ZG],by simp,?_⟩
   .simp only[Ak];simp only[ZA,simprocAttr];rw[show ((kp.length:Int) - 0).toNat=(kp.map Af.c).length by simp,E0,ZR]
   .simp only[ZA,simprocAttr,hkp]
 simp[dlC.H1] at hp;subst hp;exact .inr ⟨by omega,by omega,rfl,rfl⟩
def LM(b i:Nat)(x:Int):AV:=if 0<=x/\x<i then .ptr (b+x.toNat) 0 else .im .nilp
def Hp(b:Nat)(L:List Int)(i:Nat):Ap:=(true,.cells 353 [LM b i (L[i]?.getD (-1)),.im (.int .i64 i)])
def ED(b:Nat)(L:List Int)(n:Nat):Ar:=CA b n (Hp b L)
def Gm(L:List Int):Prop:= ∀(i:Nat) (x:Int),L[i]? =some x->x<i
def NF(L:List Int)(i:Nat):Nat->Nat
 |0=>i
 |m+1=>if L[i]?.getD (-1)<0 then i else NF L (L[i]?.getD (-1)).toNat m
def Ew(L:List Int)(i:Nat):Nat:=NF L i i
def Qabj{L:List Int}(h:Gm L): ∀(i m m':Nat),i<=m->i<=m'->NF L i m=NF L i m':=by
 intro i;induction i using Nat.strongRecOn with
 |_ i ih=>
  intro m m' z G;cases hi:L[i]? with
  |none=>
   cases m<;>cases m'<;>simp[NF,hi]
  |some x=>
   have O:=h i x hi;by_cases h0:x<0
   .cases m<;>cases m'<;>simp[NF,hi,h0]
   .cases m with
    |zero=>omega
    |succ m=>
     cases m' with
     |zero=>omega
     |succ m'=>
      simp only[NF,hi,AS,Ad h0];exact ih x.toNat (by omega) m m' (by omega) (by omega)
def Zi{L:List Int}(h:Gm L){i:Nat}{x:Int}(z:L[i]? =some x):Ew L i=if x<0 then i else Ew L x.toNat:=by
 have G:=h i x z;by_cases h0:x<0
 .rw[Ai h0,Ew];cases i with
  |zero=>rfl
  |succ i=>simp only[NF,z,AS,Ai h0]
 .rw[Ad h0,Ew];cases i with
  |zero=>omega
  |succ i=>
   simp only[NF,z,AS,Ad h0];exact Qabj h _ _ _ (by omega) (AF _)
def zS{L:List Int}(h:Gm L): ∀(i:Nat),Ew L i<=i:=by
 intro i;induction i using Nat.strongRecOn with
 |_ i ih=>
  cases hi:L[i]? with
  |none=>rw[Ew];cases i<;>simp[NF,hi]
  |some x=>
   rw[Zi h hi];have z:=h i x hi;split
   .exact AF _
   .have:=ih x.toNat (by omega);omega
def firC.n(a:List Int×Nat):Nat:=min a.1.length 512
def firC.ca(a:List Int×Nat):List AV:=[.ptr (min a.2 511) 0]
def firC.H0(a:List Int×Nat):Ar:=ED 0 a.1 (firC.n a)
def firC.r0(a:List Int×Nat):AV:= .ptr (Ew a.1 a.2) 0
def firC.pre(a:List Int×Nat):Prop:=a.1.length<=512/\a.2<a.1.length/\Gm a.1
def firC.row:Ax:=AE firC.ca firC.H0 600 firC.pre (λ_=>false) firC.r0 (λ_=>[]) 0
def firC.hbel(a:List Int×Nat):AN 600 (firC.ca a)=true:=by
 simp only[firC.ca,AN,AV.bel,F1,H5];omega
def Qt5(nx b:Nat)(f:Nat->Ap)(n:Nat)(hf: ∀i,i<n->AD nx [(b+i,f i)]=true):AD nx (CA b n f)=true:=by
 have: ∀(l:List Nat),(∀i∈l,i<n)->AD nx (l.map λi=>(b+i,f i))=true:=by
  intro l;induction l with
  |nil=>intro _;rfl
  |cons i r ih=>
   intro z;rw[Bb,show (b+i,f i)::(r.map λi=>(b+i,f i))=[(b+i,f i)]++(r.map λi=>(b+i,f i)) from rfl,rW,hf i (z i (Cb ..)),ih (λj O=>z j (BZ _ O))];rfl
 exact this _ (λi G=>Dt.1 G)
def XX(b i N:Nat)(x:Int)(h:b+i<=N):(LM b i x).bel N=true:=by
 simp only[LM];split
 .simp only[AV.bel,H5];omega
 .rfl
def sL(b n N:Nat)(L:List Int)(h:b+n<=N):AD N (ED b L n)=true:=Qt5 _ _ _ _ λi z=>by
 simp only[Hp,AD,AN,XX b i N _ (by omega),AV.bel,vB]
def firC.n_le(a:List Int×Nat):firC.n a<=512:=uN _ _
def firC.hbH(a:List Int×Nat):AD 600 (firC.H0 a)=true:=sL _ _ _ _ (by have:=firC.n_le a;omega)
def firC.hkH(a:List Int×Nat):Cg 600 (firC.H0 a)=true:=dM _ _ _ _ (by have:=firC.n_le a;omega)
def JB(b n:Nat)(L:List Int)(i:Nat)(h:i<n):hget (ED b L n) (b+i)=some (Hp b L i):=dJ _ _ _ _ h
def OC{H0:Ar}{b n:Nat}{f:Nat->Ap}(h: ∀i,i<n-> ∀m∈(f i).2.nms,An H0 m=true):Cx H0 (CA b n f):=by
 have: ∀(l:List Nat),(∀i∈l,i<n)->Cx H0 (l.map λi=>(b+i,f i)):=by
  intro l;induction l with
  |nil=>intro _;trivial
  |cons i r ih=>
   intro z;simp only[Bb];exact⟨h i (z i (Cb ..)),ih (λj O=>z j (BZ _ O))⟩
 exact this _ (λi G=>Dt.1 G)
def firC.hnm(a:List Int×Nat):Cx (firC.H0 a) (firC.H0 a):=by
 refine OC λi G m z=> ?_
 simp only[Hp,Ag.nms,A9,LM] at z;split at z
 .simp only[AV.nms,CC,B4] at z;subst z;rename_i h;simp only[An,firC.H0];rw[JB 0 _ _ _ (by omega)];rfl
 .simp[AV.nms] at z
def P4(s:Az)(b n:Nat)(f:Nat->Ap):CE s (CA b n f)= ∀i,i<n->hget s.h (b+i)=some (f i):=by
 have: ∀(l:List Nat),CE s (l.map λi=>(b+i,f i))↔ ∀i∈l,hget s.h (b+i)=some (f i):=by
  intro l;induction l with
  |nil=>simp[CE]
  |cons i r ih=>simp only[Bb,CE,ih,Bx,Zfh]
 apply propext;rw[CA,this];simp only[Dt]
def sO{s:Az}{b n:Nat}{L:List Int}(h: ∀i,i<n->hget s.h (b+i)=some (Hp b L i)):CE s (ED b L n):=by
 rw[ED,P4];exact h
def firC.ok:AA 292 firC.row:=by
 refine ow tN Tryz.func292 (exB:=λ_=>false) (R:=λa r=>r=firC.r0 a) (λ_=>rfl)
  (λa=>⟨firC.hbel a,firC.hbH a,firC.hkH a,firC.hnm a⟩) (λa p hp=> ?_) (λa r h=>by subst h;exact DK.refl _) ?_
 rotate_left
 intro a Z;simp only[Tryz.f292,firC.ca];simp only[ZA,simprocAttr];obtain⟨L,i⟩:=a;obtain⟨h1,h2,h3⟩:=Z;simp only at h1 h2 h3;obtain⟨n,hn⟩: ∃n,n=L.length:=⟨_,rfl⟩;have ab:firC.n (L,i)=n:=by simp only[firC.n,<-hn];omega
 simp only[firC.H0,firC.r0,ab,Da];rw[<-hn] at h1 h2;rw[show min i 511=i by omega];refine AR.old ⟨{g:Nat//g<n/\Ew L g=Ew L i},λg=>⟨[(0,.ptr g.1 0)],ED 0 L n,600⟩,λg=>g.1,λg=>⟨?_,by simp⟩,⟨⟨i,h2,rfl⟩,?_⟩,λg=> ?_⟩
 .simp only[Az.good,CQ,AV.bel,F1,AO,H5];exact⟨by omega,sL _ _ _ _ (by omega),dM _ _ _ _ (by omega)⟩
 .simp only[sub,Gs,Ay];refine⟨?_,sO (λi Q=>JB 0 n L i Q)⟩;simp only[ZA,simprocAttr]
 obtain⟨g,hg,hr⟩:=g;obtain⟨x,hx⟩: ∃x,L[g]? =some x:=⟨_,Bd (by omega)⟩;have ac:=h3 g x hx;have z:=JB 0 n L g hg;rw[Fj] at z;simp only[Hp,hx,AS] at z;have aa:=Zi h3 hx;by_cases h0:x<0
 .have G:LM 0 g x= .im .nilp:=Ad (by omega);rw[G] at z;simp only[ZA,simprocAttr,z,Da];rw[Ai h0] at aa;exact⟨by omega,by omega,by omega,by omega,by omega,Qxi _ _ _ _ _ (λi Q=> .inr (JB 0 n L i Q)),by omega⟩
 .have G:LM 0 g x= .ptr x.toNat 0:=by simp only[LM];rw[Ai ⟨by omega,ac⟩,Fj]
  rw[G] at z;have O:=JB 0 n L x.toNat (by omega);rw[Fj] at O;simp only[ZA,simprocAttr,sub,z,O,Da];rw[Ad h0] at aa;exact⟨by omega,by omega,by omega,by omega,by omega,by omega,by omega,by omega,by omega,⟨x.toNat,by omega,by omega⟩,by simp only;omega,rfl,sO (λi Q=>JB 0 n L i Q)⟩
 simp at hp
def JE(b n k:Nat):List (List AV):=(List.range n).map λi=>if i<k then [AV.ptr (b+i) 0] else [.im .nilp]
def Zg(b n k:Nat):(JE b n k).length=n:=by simp[JE]
def yJ(b n k i:Nat)(h:i<n):(JE b n k)[i]? =some (if i<k then [.ptr (b+i) 0] else [.im .nilp]):=by simp[JE,Qa h]
def Qtr(b n k i:Nat)(K:List AV->Prop)(h:i<n):Jo (JE b n k) i K=K (if i<k then [.ptr (b+i) 0] else [.im .nilp]):=by
 apply propext;unfold Jo;rw[yJ b n k i h];exact⟨λh=>h _ rfl,λh row z=>by obtain rfl:=Aw z;exact h⟩
def yY(b n k N:Nat)(h:b+k<=N):(JE b n k).all (AN N)=true:=by
 rw[DV];intro r z;obtain⟨i,G,rfl⟩:=BI.1 z;split
 .simp[AN,AV.bel];omega
 .simp[AN,AV.bel]
def Qnw(b n N:Nat)(L:List Int)(h:b+n<=N):Cg N (ED b L n)=true:=dM _ _ _ _ h
def Pc(b n:Nat)(π:List (Nat×Option Nat)):GB π (JE b n 0) (Bm (List.replicate n [.nilp])):=by
 have e:JE b n 0=Bm (List.replicate n [.nilp]):=by
  simp only[JE,Bm,vA,Cu,List.map_replicate];rw[List.map_const',Xa];rfl
 rw[e];exact Qzo _ _
def XY{σ:Nat->Nat}{i:Nat}{x:Int}(h: ∀j,j<i->σ j=1000+j):(LM 0 i x).ren σ=LM 1000 i x:=by
 simp only[LM];split
 .simp only[AV.ren,Fj];rw[h _ (by omega)]
 .rfl
def O3{h:Nat->Option Ap}{σ:Nat->Nat}{b n:Nat}{f:Nat->Ap}(H: ∀i,i<n->h (σ (b+i))=some ((f i).1,(f i).2.ren σ)):CV h σ (CA b n f):=by
 have: ∀(l:List Nat),(∀i∈l,i<n)->CV h σ (l.map λi=>(b+i,f i)):=by
  intro l;induction l with
  |nil=>intro _;trivial
  |cons i r ih=>
   intro z;simp only[Bb];exact⟨H i (z i (Cb ..)),ih (λj O=>z j (BZ _ O))⟩
 exact this _ (λi G=>Dt.1 G)
def XJ{n:Nat}{L:List Int}{j:Nat}(h:An (ED 0 L n) j=true):j<n:=by
 simp only[An,ED,zF] at h;split at h
 .omega
 .cases h
def Qtp{H:Nat->Option Ap}{L:List Int}{k nx u:Nat}{K:Ah}(Q:L.length=k)(hk:k<=512)(G:Gm L)(hu:u<k)(aa:2000<=nx)(hH: ∀i,i<k->H (1000+i)=some (Hp 1000 L i))
 (O: ∀U,K (.ptr (1000+Ew L u) 0) {use:=U}):firC.row [.ptr (1000+u) 0] H nx K:=by
 have hσ: ∀j,j<600->Di (λj=>1000+j) 600 nx j=1000+j:=λj z=>Ai z
 have hn:firC.n (L,u)=k:=by simp only[firC.n,Q];omega
 have hr:=zS G u;refine⟨(L,u),λj=>1000+j,(List.range k).map (1000+ ·),[],⟨by simp only;omega,by simp only;omega,G⟩,?_,?_,?_,?_⟩
 .simp only[firC.ca,AU,AV.ren];rw[show min u 511=u by omega,hσ u (by omega)]
 .simp only[firC.H0,hn,ED];refine O3 λi Z=> ?_
  rw[Fj,hσ i (by omega),hH i Z];simp only[Hp,Ag.ren,AU,AV.ren];rw[XY (λj z=>hσ j (by omega))]
 .have hd: ∀j,An (firC.H0 (L,u)) j=true->j<k:=λj z=>by simp only[firC.H0,hn] at z;exact XJ z
  refine⟨λi j _ _ h=> ?_,λj z=> ?_,λj z=> ?_,λm hm=>(by cases hm),λj _ z=>(by cases z)⟩
  .have h:1000+i=1000+j:=h;omega
  .have:=hd j z
   show 1000+j<nx;omega
  exact BI.2 ⟨j,Dt.2 (hd j z),rfl⟩
 .have e:(firC.r0 (L,u)).ren (Di (λj=>1000+j) 600 nx)= .ptr (1000+Ew L u) 0:=by
   simp only[firC.r0,AV.ren];rw[hσ _ (by omega)]
  rw[e];exact O _
def Qug(k:Nat):Gm (List.replicate k (-1)):=by
 intro i x h
 have:=PY (AP h)
 omega
def yK: ∀(k i:Nat),i<k->(WQ k)[i]? =some (i:Int)
 |0,i,h=>by omega
 |k+1,i,h=>by
  simp only[WQ];by_cases z:i<k
  .rw[DQ (by rw[dX];exact z)];exact yK k i z
  .have:i=k:=by omega
   subst this;rw[E7 (by rw[dX];exact AF _),dX,G5];rfl
def ON{k i:Nat}{bs:List Af}(h:i<k):(Co k bs 0)[i]? =some ((Ew (List.replicate k (-1)) i:Nat):Int):=by
 simp only[Co];rw[yK k i h]
 have:=Zi (Qug k) (i:=i) (x:= -1) (by rw[NL,Ai h])
 rw[this,Ai (by omega)]
def Qls{L:List Int}(h:Gm L): ∀(i:Nat),Ew L (Ew L i)=Ew L i:=by
 intro i;induction i using Nat.strongRecOn with
 |_ i ih=>
  cases hi:L[i]? with
  |none=>
   have:Ew L i=i:=by rw[Ew];cases i<;>simp[NF,hi]
   rw[this,this]
  |some x=>
   have z:=h i x hi;rw[Zi h hi];split
   .rename_i h0;rw[Zi h hi,Ai h0]
   .exact ih x.toNat (by omega)
def Qsx{L:List Int}(h:Gm L){p q:Nat}(O:p<q):Gm (L.set q (p:Int)):=by
 intro i x z;by_cases hq:q=i
 .subst hq;have G:q<L.length:=by have:=(BJ.1 z).1;simpa using this
  rw[Ee G] at z;obtain rfl:=Aw z;omega
 .rw[DM hq] at z;exact h i x z
def Qqx{L:List Int}(h:Gm L){p q:Nat}(hp:Ew L p=p)(hq:Ew L q=q)(G:p<q)(O:q<L.length): ∀(i:Nat),Ew (L.set q (p:Int)) i=if Ew L i=q then p else Ew L i:=by
 have h':=Qsx h G;intro i;induction i using Nat.strongRecOn with
 |_ i ih=>
  by_cases z:q=i
  .subst z;have e:(L.set q (p:Int))[q]? =some (p:Int):=Ee O;rw[Zi h' e,Ad (by omega),BD,ih p G,hp,Ad (by omega),hq,Ai rfl]
  .have e:(L.set q (p:Int))[i]? =L[i]? :=DM z;cases hi:L[i]? with
   |none=>
    have Q:Ew L i=i:=by rw[Ew];cases i<;>simp[NF,hi]
    have r2:Ew (L.set q (p:Int)) i=i:=by rw[Ew];cases i<;>simp[NF,e,hi]
    rw[Q,r2,Ad (E3 z)]
   |some x=>
    have Z:=h i x hi;rw[hi] at e;rw[Zi h' e,Zi h hi];by_cases h0:x<0
    .rw[Ai h0,Ai h0,Ad (E3 z)]
    .rw[Ad h0,Ad h0];exact ih x.toNat (by omega)
def LK{x y:Nat}(h:x<y)(r:Nat):Jp (x:Int) (y:Int) (r:Int)=((if r=y then x else r:Nat):Int)/\Jp (y:Int) (x:Int) (r:Int)=((if r=y then x else r:Nat):Int):=by
 have m1:DF (x:Int) y=y:=Ad (by omega);have G:DF (y:Int) x=y:=Ai (by omega);have O:EV (x:Int) y=x:=Ai (by omega);have Q:EV (y:Int) x=x:=Ad (by omega);simp only[Jp,m1,G,O,Q];by_cases z:r=y
 .rw[Ai z,Ai (by omega)];exact⟨rfl,rfl⟩
 .rw[Ad z,Ad (by omega)];exact⟨rfl,rfl⟩
def XT(x r:Nat):Jp (x:Int) (x:Int) (r:Int)=(r:Int):=by
 have m1:DF (x:Int) x=x:=Ad (by omega);have G:EV (x:Int) x=x:=Ad (by omega);simp only[Jp,m1,G];by_cases z:(r:Int)=x
 .rw[Ai z,z]
 .rw[Ad z]
def VF(p:Int×Int):D×D:=(.int .i64 p.1,.int .i64 p.2)
def Ic(M:List (Int×Int))(x:Int):Option Int:=(M.find? (λp=>p.1==x)).map (·.2)
def SV(x:Int): ∀(M:List (Int×Int)),lk (M.map VF) (.int .i64 x)=(Ic M x).map (D.int .i64)
 |[]=>rfl
 |(k,v)::r=>by
  have ih:=SV x r;simp only[Ic] at ih;by_cases h:k=x
  .subst h;simp[lk,VF,Ic,D.beq]
  .have z: ¬x=k:=λe=>h e.symm
   have G:(x==k)=false:=by simpa using z
   simp[lk,VF,Ic,D.beq,h,G,ih]
def XZ(x:Int)(M:List (Int×Int))(Ks:D->Prop)(Kn:Prop):FX (M.map VF) (.int .i64 x) Ks Kn=((∀v,Ic M x=some v->Ks (.int .i64 v))/\(Ic M x=none->Kn)):=by
 apply propext;unfold FX;rw[SV];cases Ic M x<;>simp
def MT(x v:Int): ∀(M:List (Int×Int)),Ic M x=none->Gu (M.map VF) (.int .i64 x) (.int .i64 v)=(M++[(x,v)]).map VF
 |[],_=>rfl
 |(k,w)::r,h=>by
  by_cases z:k=x
  .subst z;simp[Ic] at h
  .have G: ¬x=k:=λe=>z e.symm
   have Q:Ic r x=none:=by simpa[Ic,z] using h
   have ih:=MT x v r Q;simp only[Bb,CW,VF] at ih⊢;have O:(x==k)=false:=by simpa using G
   simp[Gu,D.beq,O,ih,VF]
def LQ(M:List (Int×Int))(x v y:Int):Ic (M++[(x,v)]) y=(Ic M y).or (if x=y then some v else none):=by
 simp only[Ic,List.find?_append];cases h:M.find? (λp=>p.1==y) with
 |some p=>simp
 |none=>
  by_cases z:x=y
  .subst z;simp
  .simp[z]
def yX{own:List Int}{i:Nat}(h:own[i]? =some (i:Int)): ∀k,∃z,Dp own i (k+1)=(i:Int)::z
 |0=>⟨[],by simp[Dp,h]⟩
 |k+1=>by
  obtain⟨z,G⟩:=yX h k;rw[Dp,G];exact⟨_,rfl⟩
def Qjv(own:List Int)(n:Nat): ∀k,k<=n-> ∀g∈BC own n k,∃(r:Nat) (rest:List Int),g=(r:Int)::rest/\r<k/\own[r]? =some (r:Int)
 |0,_,g,h=>by simp[BC] at h
 |k+1,hk,g,h=>by
  simp only[BC,Bp] at h;rcases h with h|h
  .obtain⟨r,rest,O,Z,Q⟩:=Qjv own n k (by omega) g h;exact⟨r,rest,O,by omega,Q⟩
  .split at h
   .rename_i z;obtain rfl:=B4.1 h;obtain⟨rest,G⟩:=yX z (n - k - 1);rw[show n - k - 1+1=n - k by omega] at G;exact⟨k,rest,G,by omega,z⟩
   .cases h
def Qo6(own:List Int)(n:Nat)(r:Nat)(O:own[r]? =some (r:Int)): ∀k,k<=n->r<k-> ∃z,((r:Int)::z)∈BC own n k
 |0,_,h=>by omega
 |k+1,Z,h=>by
  by_cases G:r=k
  .subst G;obtain⟨z,G⟩:=yX O (n - r - 1);rw[show n - r - 1+1=n - r by omega] at G;exact⟨z,by simp[BC,O,G]⟩
  .obtain⟨z,Q⟩:=Qo6 own n r O k (by omega) (by omega);exact⟨z,by simp only[BC,Bp];exact .inl Q⟩
def Qy0(own:List Int)(n:Nat): ∀k,∀g∈BC own n k,g.length<=n
 |0,g,h=>by simp[BC] at h
 |k+1,g,h=>by
  simp only[BC,Bp] at h;rcases h with h|h
  .exact Qy0 own n k g h
  .split at h
   .obtain rfl:=B4.1 h
    have:=Qsd own k (n - k)
    omega
   .cases h
def Ol{h:Nat->Option Ap}{b m:Nat}{G:List (List Int)}(H: ∀q,q<G.length->h (b+q)=some (true,.arr 2 1 ((G[q]?.getD []).map Ao))):
 A7 (A7 λx=>Em (Bl h (HA 0 []) (m+1) x)) (D2 b G.length)=some (G.map Du):=by
 have: ∀(l:List Nat),(∀q∈l,q<G.length)->A7 (A7 λx=>Em (Bl h (HA 0 []) (m+1) x)) (l.map λi=>[AV.own (b+i)])=some (l.map λq=>Du (G[q]?.getD [])):=by
  intro l;induction l with
  |nil=>intro _;rfl
  |cons q r ih=>
   intro Q;have h0:HA 0 [] (b+q)=none:=rfl;have O:=ih (λx Z=>Q x (BZ _ Z));have e:A7 (λx=>Em (Bl h (HA 0 []) (m+1) x)) [AV.own (b+q)]=some (Du (G[q]?.getD [])):=by
    simp only[A7,Bl,h0,H q (Q q (Cb ..)),PS,kp,DW,Em,AV.asD];rfl
   rw[Bb,A7,e,O];rfl
 rw[D2,this _ (λq hq=>Dt.1 hq)];congr 1;apply NP;intro j;by_cases z:j<G.length
 .rw[Ef,Qa z,Ef,Bd z,DW,DW,Bd z,AS]
 .rw[Fz (by simp;omega),Fz (by simp;omega)]
def II(r:Int)(m:Nat)(g:List Int):List Int:=if g.head? =some r then g++[(m:Int)] else g
def Ql4(own:List Int)(m:Nat)(r:Int)(Q:own[m]? =some r): ∀k,k<=m->BC own (m+1) k=(BC own m k).map (II r m)
 |0,_=>rfl
 |k+1,hk=>by
  rw[BC,BC,Ei,Ql4 own m r Q k (by omega)];congr 1;by_cases G:own[k]? =some (k:Int)
  .rw[Ai G,Ai G];obtain⟨Z,O⟩:=yX G (m - k - 1);rw[show m - k - 1+1=m - k by omega] at O;have e:Dp own k (m+1 - k)=Dp own k (m - k)++(if own[m]? =some (k:Int) then [(m:Int)] else []):=by
    rw[show m+1 - k=(m - k)+1 by omega,Dp,show k+(m - k)=m by omega]
   rw[e,Q];simp only[Bb,Cs,II,O,Zfp,AI];by_cases z:r=(k:Int)
   .rw[Ai z,Ai z.symm]
   .rw[Ad z,Ad (E3 z),CC]
  .rw[Ad G,Ad G];rfl
structure sY(out:List (List Int))(M:List (Int×Int)):Prop where
 a: ∀r v,Ic M r=some v-> ∃(g:Nat) (rest:List Int),v=g/\out[g]? =some (r::rest)
 b: ∀(g:Nat) (r:Int) (rest:List Int),out[g]? =some (r::rest)->Ic M r=some (g:Int)
def S4{own:List Int}{i:Nat}{M:List (Int×Int)}{r:Nat}(hP:sY (BC own i i) M)(ho:own[i]? =some (r:Int))(hr:r<=i)(ab:own[r]? =some (r:Int))(hn:Ic M r=none):
 r=i/\BC own (i+1) (i+1)=BC own i i++[[(i:Int)]]/\sY (BC own (i+1) (i+1)) (M++[((i:Int),((BC own i i).length:Int))]):=by
 have aa:r=i:=by
  by_cases h:r<i
  .obtain⟨z,hm⟩:=Qo6 own i r ab i (by omega) h;obtain⟨g,G⟩:=GV.1 hm;rw[hP.b g _ _ G] at hn;cases hn
  .omega
 subst aa;have e:BC own (r+1) (r+1)=BC own r r++[[(r:Int)]]:=by
  rw[BC,Ql4 own r r ho r (AF _),Ai ho];congr 1
  .conv=>rhs;rw[<-List.map_id (BC own r r)]
   apply ZI;intro g G;obtain⟨q,z,Q,Z,_⟩:=Qjv own r r (AF _) g G;simp only[II,Q,Zfp,AI,id];rw[Ad (by omega)]
  .rw[show r+1 - r=0+1 by omega];simp[Dp,ho]
 refine⟨rfl,e,?_⟩;rw[e];refine⟨λq v O=> ?_,λg q z G=> ?_⟩
 .rw[LQ] at O;cases hq:Ic M q with
  |some w=>
   rw[hq] at O;obtain rfl:=Aw O;obtain⟨g,z,Q,Z⟩:=hP.a q _ hq;exact⟨g,z,Q,by rw[DQ (BJ.1 Z).1];exact Z⟩
  |none=>
   rw[hq] at O;simp only[Option.none_or] at O;split at O
   .rename_i h;obtain rfl:=Aw O;exact⟨_,[],rfl,by rw[E7 (AF _),G5,<-h];rfl⟩
   .cases O
 .rw[LQ];by_cases hl:g<(BC own r r).length
  .rw[DQ hl] at G;rw[hP.b g q z G];rfl
  .rw[E7 (by omega)] at G;have h0:g - (BC own r r).length=0:=by
    have:=(BJ.1 G).1
    simpa using this
   rw[h0] at G;simp only[G4,AI,V7] at G;rw[<-G.1,hn,Ai rfl,Option.none_or];congr 1;omega
def S5{own:List Int}{i:Nat}{M:List (Int×Int)}{r:Int}{g:Nat}{rest:List Int}(hP:sY (BC own i i) M)(ho:own[i]? =some r)(Q:(BC own i i)[g]? =some (r::rest)):
 BC own (i+1) (i+1)=(BC own i i).set g (r::rest++[(i:Int)])/\sY (BC own (i+1) (i+1)) M:=by
 have ab:r≠i:=by
  obtain⟨q,rs,Z,G,_⟩:=Qjv own i i (AF _) _ (AP Q)
  have:=(Zfb Z).1
  omega
 have e:BC own (i+1) (i+1)=(BC own i i).set g (r::rest++[(i:Int)]):=by
  rw[BC,Ql4 own i r ho i (AF _),Ad (by rw[ho];simpa using ab),CC];apply NP;intro j;rw[Ef];by_cases O:g=j
  .subst O;rw[Ee (BJ.1 Q).1,Q];simp[II]
  .rw[DM O];cases hx:(BC own i i)[j]? with
   |none=>rfl
   |some x=>
    simp only[DW,II];rw[Ad];intro hh;cases x with
    |nil=>cases hh
    |cons q rs=>
     simp only[Zfp,AI] at hh;subst hh;have Z:=hP.b j _ _ hx;have G:=hP.b g _ _ Q;rw[Z] at G
     have:=Aw G
     omega
 refine⟨e,?_⟩;rw[e];have aa:=(BJ.1 Q).1;refine⟨λq v hv=> ?_,λg' q rs z=> ?_⟩
 .obtain⟨j,rs,Z,G⟩:=hP.a q v hv;by_cases O:g=j
  .subst O;rw[Q] at G;simp only[AI,V7] at G;exact⟨g,rest++[(i:Int)],Z,by rw[Ee aa,G.1];rfl⟩
  .exact⟨j,rs,Z,by rw[DM O];exact G⟩
 .by_cases O:g=g'
  .subst O;rw[Ee aa] at z;simp only[AI,CW,V7] at z;rw[<-z.1];exact hP.b g _ _ Q
  .rw[DM O] at z;exact hP.b g' _ _ z
def EU(b:Nat)(G:List (List Int)):Ar:=CA b G.length (λi=>(true,.arr 2 1 ((G[i]?.getD []).map Ao)))
def Sx(b N:Nat)(G:List (List Int))(h:b+G.length<=N):AD N (EU b G)=true:=Qt5 _ _ _ _ λi z=>by simp[AD]
def Sy(b N:Nat)(G:List (List Int))(h:b+G.length<=N):Cg N (EU b G)=true:=dM _ _ _ _ h
def wN{π:List (Nat×Option Nat)}{b n k:Nat}(h: ∀i,i<k->pm π (b+i)=some (b+i)):GB π (JE b n k) (JE b n k):=by
 rw[lA];refine⟨rfl,λi x y z Q=> ?_⟩;rw[z] at Q;obtain rfl:=Aw Q;have G:i<n:=by have:=(BJ.1 z).1;rwa [Zg] at this
 rw[yJ _ _ _ _ G] at z;obtain rfl:=Aw z;split
 .rename_i O;simp only[DZ,mt,h i O,GO,F4]
 .simp only[DZ,mt,F4]
def OF(A:List Nat)(b n c m:Nat)(h:A.Nodup)(Z: ∀x∈A,(x<b\/b+n<=x)/\(x<c\/c+m<=x))(aa:b+n<=c):(A++((List.range n).map (b+ ·)++(List.range m).map (c+ ·))).Nodup:=by
 have Q: ∀b n,((List.range n).map (b+ ·)).Nodup:=λb n=>by have:=jQ [] b n (by simp) (by simp);simpa using this
 rw[Rg];refine⟨h,?_,λx O y z=> ?_⟩
 .rw[Rg];refine⟨Q _ _,Q _ _,λx O y z=> ?_⟩;obtain⟨i,hi,rfl⟩:=BI.1 O;obtain⟨j,G,rfl⟩:=BI.1 z
  have:=Dt.1 hi
  omega
 .have:=Z x O
  rcases Bp.1 z with z|z
  .obtain⟨j,G,rfl⟩:=BI.1 z
   have:=Dt.1 G
   omega
  .obtain⟨j,G,rfl⟩:=BI.1 z
   have:=Dt.1 G
   omega
def Qyb(b:Nat)(G:List (List Int))(g:Nat)(h:g<G.length):hget (EU b G) (b+g)=some (true,.arr 2 1 ((G[g]?.getD []).map Ao)):=dJ _ _ _ _ h
def XK(b k:Nat)(L:List Int)(m:Nat)(h:m<b\/b+k<=m):hget (ED b L k) m=none:=Qmh _ _ _ _ h
def zM(k:Nat)(L:List Int)(G:List (List Int))(i:Nat)(h:i<k):hget (ED 1000 L k++EU 3000 G) (1000+i)=some (Hp 1000 L i):=by
 rw[sS,JB _ _ _ _ h];rfl
def zO(k:Nat)(L:List Int)(G:List (List Int))(g:Nat)(z:k<=512)(h:g<G.length):hget (ED 1000 L k++EU 3000 G) (3000+g)=some (true,.arr 2 1 ((G[g]?.getD []).map Ao)):=by
 rw[sS,XK _ _ _ _ (by omega),Qyb _ _ _ h];rfl
def SL(k:Nat)(L:List Int)(G:List (List Int)):Hx (ED 1000 L k++EU 3000 G)=(List.range k).map (1000+ ·)++(List.range G.length).map (3000+ ·):=by
 rw[Qpf,ED,EU,dO,dO]
def gI(k:Nat)(L:List Int)(i:Nat)(M:List (Int×Int))(G:List (List Int)):Az:=⟨[(81,.im (.int .i64 i)),(80,.im (.int .i64 k)),(79,.own 2),(12,.mp 2001),(11,.own 2100)],(2001,(true,.map {agg:=false,ks:=[KK.int .i64]} (M.map VF)))::(2100,(true,.arrA 56 1 (D2 3000 G.length)))::(2,(true,.arrA 351 1 (JE 1000 k k)))::(ED 1000 L k++EU 3000 G),4000⟩
def XH{k:Nat}{L:List Int}{i:Nat}{M:List (Int×Int)}{G:List (List Int)}(O:k<=512)(z:G.length<=512):(gI k L i M G).good=true:=by
 simp only[gI,Az.good,AD,Cg,rW,Qmd,sL 1000 k 4000 _ (by omega),yY 1000 k k 4000 (by omega),Qnw 1000 k 4000 _ (by omega),Wz 3000 G.length 4000 (by omega),Sx 3000 4000 G (by omega),Sy 3000 4000 G (by omega)];simp[CQ,AV.bel]
def Qxg{π:List (Nat×Option Nat)}{s:Az}{k:Nat}{L:List Int}{i:Nat}{M:List (Int×Int)}{G:List (List Int)}{O:Nat}{T:Nat->Nat}(hk:k<=512)(hG:G.length<=512)
 (ac:VD 2002 π)(p1:pm π 2001=some 2001)(p2:pm π 2=some 2)(p3: ∀j,j<k->pm π (1000+j)=some (1000+j))(p4:pm π 2100=some O)(p5: ∀q,q<G.length->pm π (3000+q)=some (T q))
 (t1:Ay s.tm 81= .im (.int .i64 i))(t2:Ay s.tm 80= .im (.int .i64 k))(t3:Ay s.tm 79= .own 2)(t4:Ay s.tm 12= .mp 2001)(t5:Ay s.tm 11= .own O)
 (g1:hget s.h 2001=some (true,.map {agg:=false,ks:=[KK.int .i64]} (M.map VF)))(g2:hget s.h 2=some (true,.arrA 351 1 (JE 1000 k k)))(g3: ∀j,j<k->hget s.h (1000+j)=some (Hp 1000 L j))
 (g4:(G.length=0/\hget s.h O=some (true,.arr 56 1 []))\/hget s.h O=some (true,.arrA 56 1 ((List.range G.length).map λq=>[.own (T q)])))
 (g5: ∀q,q<G.length->hget s.h (T q)=some (true,.arr 2 1 ((G[q]?.getD []).map Ao)))
 (inj: ∀q q',q<G.length->q'<G.length->T q=T q'->q=q')(out: ∀q,q<G.length->T q≠O/\3000<=T q)(hO:2000<=O/\O≠2001):Ak 2002 π s (gI k L i M G):=by
 refine⟨ac,?_,?_,?_⟩
 .rw[kO];simp only[gI,Hx,SL];have ab: ∀x∈[2001,2100,2]++((List.range k).map (1000+ ·)++(List.range G.length).map (3000+ ·)),(x=2001/\pm π x=some 2001)\/(x=2/\pm π x=some 2)\/(x=2100/\pm π x=some O)\/(1000<=x/\x<1000+k/\pm π x=some x)\/(3000<=x/\x<3000+G.length/\pm π x=some (T (x - 3000))):=by
   intro x z;rcases Bp.1 z with z|z
   .simp only[Bx,Ri,NR] at z;rcases z with rfl|rfl|rfl
    .exact .inl ⟨rfl,p1⟩
    .exact .inr (.inr (.inl ⟨rfl,p4⟩))
    .exact .inr (.inl ⟨rfl,p2⟩)
   .rcases Bp.1 z with z|z
    .obtain⟨j,Q,rfl⟩:=BI.1 z;have Q:=Dt.1 Q;exact .inr (.inr (.inr (.inl ⟨by show 1000<=1000+j;omega,by show 1000+j<1000+k;omega,p3 j Q⟩)))
    .obtain⟨j,Q,rfl⟩:=BI.1 z;have Q:=Dt.1 Q;exact .inr (.inr (.inr (.inr ⟨by show 3000<=3000+j;omega,by show 3000+j<3000+G.length;omega,by show pm π (3000+j)=some (T (3000+j - 3000));rw[show 3000+j - 3000=j by omega];exact p5 j Q⟩)))
  refine kZ _ _ (OF [2001,2100,2] 1000 k 3000 G.length (by simp) (by simp;omega) (by omega)) ?_;intro x z y hy m Z aa;rcases ab x z with ⟨a1,a2⟩|⟨a1,a2⟩|⟨a1,a2⟩|⟨a0,a1,a2⟩|⟨a0,a1,a2⟩<;>rcases ab y hy with ⟨b1,b2⟩|⟨b1,b2⟩|⟨b1,b2⟩|⟨b0,b1,b2⟩|⟨b0,b1,b2⟩<;>
   rw[a2] at Z<;>rw[b2] at aa<;>have Z:=Aw Z<;>have aa:=Aw aa<;>first
   |omega
   |(have:=out (x - 3000) (by omega);omega)
   |(have:=out (y - 3000) (by omega);omega)
   |(have:=inj (x - 3000) (y - 3000) (by omega) (by omega) (Z.trans aa.symm);omega)
 .simp only[gI,QW,t1,t2,t3,t4,t5,mt,p2,p1,p4,He,GO,F4]
 .simp only[gI,Hj,Qns,p1,p2,p4,EC,g1,g2];refine⟨⟨rfl,rfl⟩,?_,⟨rfl,rfl,rfl,wN p3⟩,?_,?_⟩
  .rcases g4 with ⟨h0,h1⟩|h1
   .rw[h1,h0];exact⟨rfl,rfl,rfl,trivial⟩
   .rw[h1];exact⟨rfl,rfl,rfl,Qyn p5 rfl⟩
  .rw[ED,kF];intro j Q;rw[p3 j Q,EC,g3 j Q];refine⟨rfl,?_⟩;simp only[Hp,EK,DZ,mt,F4,vE,KR];simp only[LM];split
   .simp only[mt,p3 _ (show (L[j]?.getD (-1)).toNat<k by omega),GO]
   .rfl
  .rw[EU,kF];intro q hq;rw[p5 q hq,EC,g5 q hq];exact⟨rfl,rfl⟩
def Sz(a:Int×List Af):Prop:=0<=a.1/\a.1<=512/\KD a.1 a.2/\a.2.length<=1000000
def groupsBy_.fv(a:Int×(List Af)):List (List Int):=(Vl) (a.1) (a.2)
def groupsBy_.row:Ax:=vK (b2 qI (qS Af.d_le Af.c_n)) (rS rQ MB) (λa=>Sz (a.1,a.2)) groupsBy_.fv
def groupsBy_.q:=AX (R:=groupsBy_.row) rfl
def groupsBy_.ok:AA 260 groupsBy_.row:=by
 refine vw (tC firC.ok tN) Tryz.func260 ?_;intro a a8;simp only[Tryz.f260];simp(disch:=omega)only[ZA,simprocAttr,groupsBy_.fv];obtain⟨h0,h1,aw,hl⟩:=a8;obtain⟨n,hn⟩: ∃n:Nat,a.1=n:=⟨a.1.toNat,by simp only at h0;omega⟩;obtain⟨bs,hbsd⟩: ∃bs,bs=a.2:=⟨_,rfl⟩;simp only[hn,<-hbsd,BD] at h0 h1 aw hl⊢;refine⟨h0,Qe _,by omega,λ_=> ?_⟩;rw[NM];refine AR.ren ⟨{k:Nat//k<=n},λk=>⟨[(21,.im (.int .i64 k.1)),(20,.im (.int .i64 n)),(19,.own 2),(5,.own 2),(0,.im (.int .i64 n)),(1,.im (.sl false 3 (bs.map Af.c)))],(2,(true,.arrA 351 1 (JE 1000 n k.1)))::ED 1000 (List.replicate n (-1)) k.1,2000⟩,λk=>n - k.1,λk=>⟨?_,by simp⟩,⟨⟨0,by simp⟩,[(2,some 1)],?_⟩,λk=> ?_⟩
 .simp only[Az.good,AD,Cg,sL 1000 k.1 2000 _ (by omega),yY 1000 n k.1 2000 (by omega),Qnw 1000 k.1 2000 _ (by omega)];simp[CQ,AV.bel]
 .simp only[Ak,ED,CA,ZeE,Cs];simp(disch:=omega)only[ZA,simprocAttr];exact Pc _ _ _
 obtain⟨k,bd⟩:=k;simp(disch:=omega)only[ZA,simprocAttr,AM,Da,Zg];refine⟨λhk=>⟨hk,hk,?_⟩,λhk=> ?_⟩
 .simp(disch:=omega)only[ZA,simprocAttr,Da,Qtr,Zfe];refine⟨?_,⟨k+1,by omega⟩,[(1000+k,some 2000)],by simp only;omega,?_⟩
  .rw[DV];intro r hr;rcases ZM hr with hr|hr
   .exact DV.1 (yY 1000 n k 2001 (by omega)) r hr
   .subst hr;simp[AN,AV.bel]
  have qi: ∀i,i≠1000+k->pm [(1000+k,some 2000)] i=some i:=by intro i z;simp only[pm];rw[Ad (by omega)]
  have qk:pm [(1000+k,some 2000)] (1000+k)=some 2000:=by simp only[pm];rw[Ai trivial]
  obtain⟨π,hπ⟩: ∃π,π=[(1000+k,some 2000)]:=⟨_,rfl⟩;rw[<-hπ] at qi qk⊢;refine⟨by rw[hπ];exact⟨by omega,trivial⟩,?_,?_,?_⟩
  .rw[kO,hπ];simp only[Hx,ED,dO];refine kZ _ _ (jQ [2] 1000 (k+1) (by simp) (by simp)) ?_;intro x hx y hy m aq ag;have bj:x<2000:=by
    rcases Bx.1 hx with hx|hx
    .omega
    .obtain⟨i,z,rfl⟩:=BI.1 hx
     have:=Dt.1 z
     show 1000+i<2000;omega
   have bl:y<2000:=by
    rcases Bx.1 hy with hy|hy
    .omega
    .obtain⟨i,z,rfl⟩:=BI.1 hy
     have:=Dt.1 z
     show 1000+i<2000;omega
   simp only[pm] at aq ag;split at aq<;>split at ag<;>simp only[AI] at aq ag<;>omega
  .simp only[QW,Ay];simp(disch:=omega)only[ZA,simprocAttr,qi 2 (by omega)];rw[AB (by omega) (by omega)];omega
  .simp only[Hj,ED,kF];refine⟨?_,λi z=> ?_⟩
   .simp(disch:=omega)only[ZA,simprocAttr,qi 2 (by omega)];rw[lA];refine⟨by simp[Zg],λi x y hx hy=> ?_⟩;have ax:i<n:=by have:=(BJ.1 hx).1;rwa [Zg] at this
    rw[yJ _ _ _ _ ax] at hx;obtain rfl:=Aw hx;by_cases ad:k=i
    .subst ad;rw[Ee (by rw[Zg];exact hk)] at hy;obtain rfl:=Aw hy;rw[Ai (by omega)];simp only[DZ,mt,qk,GO,F4]
    .rw[DM ad,yJ _ _ _ _ ax] at hy;obtain rfl:=Aw hy;by_cases az:i<k
     .rw[Ai (by omega),Ai az];simp only[DZ,mt,qi (1000+i) (by omega),GO,F4]
     .rw[Ad (by omega),Ad az];simp only[DZ,mt,F4]
   .have hg: ∀i,i<n->(List.replicate n (-1:Int))[i]?.getD (-1)= -1:=by
     intro i z;rw[NL,Ai z,AS]
    have ay:LM 1000 i (-1)= .im .nilp:=by simp only[LM];rw[Ad (by omega)]
    simp only[Hp,hg i (by omega),ay];by_cases ad:i=k
    .subst ad;rw[qk];simp(disch:=omega)only[ZA,simprocAttr]
    .rw[qi (1000+i) (by omega)];have h9:=JB 1000 k (List.replicate n (-1)) i (by omega);simp only[Hp,hg i (by omega),ay,ED] at h9;simp (disch:=omega) only[EC,hget,Cw,Ct,Zm,ZK,ZO,JT,CN,Cu];rw[h9];simp only[Ka,EK,DZ,mt,F4]
 .intro _;have be:k=n:=by omega
  subst be;clear hk bd;refine AR.old ⟨{s:Nat×List Int//s.1<=bs.length/\s.2.length=k/\Gm s.2/\ ∀i,i<k->(Co k bs s.1)[i]? =some ((Ew s.2 i:Nat):Int)},λs=>⟨[(33,.im (.int .i64 s.1.1)),(32,.im (.int .i64 bs.length)),(31,.im (.sl false 3 (bs.map Af.c))),(5,.own 2),(0,.im (.int .i64 k))],(2,(true,.arrA 351 1 (JE 1000 k k)))::ED 1000 s.1.2 k,2000⟩,λs=>bs.length - s.1.1,λs=>⟨?_,by simp⟩,⟨⟨(0,List.replicate k (-1)),by simp only;omega,by simp,Qug k,λi z=>ON z⟩,?_⟩,λs=> ?_⟩
  .simp only[Az.good,AD,Cg,sL 1000 k 2000 _ (by omega),yY 1000 k k 2000 (by omega),Qnw 1000 k 2000 _ (by omega)];simp[CQ,AV.bel]
  .simp only[sub,Gs,Ay];refine⟨?_,?_⟩
   .simp(disch:=omega)only[ZA,simprocAttr]
   .simp only[CE];refine⟨rfl,sO λi z=> ?_⟩;simp only[hget,Cw _ _ (show 2≠1000+i by omega),Ct];exact JB _ _ _ _ z
  obtain⟨⟨j,L⟩,i1,i2,i3,i4⟩:=s;simp only at i1 i2 i3 i4;simp(disch:=omega)only[ZA,simprocAttr,AM,Da,Zg];refine⟨λhj=>⟨hj,λb hb=> ?_⟩,λhj=> ?_⟩
  .obtain⟨b1,b2,b3,b4⟩:=aw b (AP hb);obtain⟨u,hu⟩: ∃u:Nat,b.A=u:=⟨b.A.toNat,by omega⟩;obtain⟨w,hw⟩: ∃w:Nat,b.B=w:=⟨b.B.toNat,by omega⟩;have ak:u<k:=by omega
   have ah:w<k:=by omega
   have bh:=zS i3 u;have bi:=zS i3 w;simp only[hu,hw,BD];refine⟨by omega,by omega,ak,?_⟩;simp(disch:=omega)only[ZA,simprocAttr,Da,Qtr,Ai ak,vG];have hH: ∀(e Z:Ap) (i:Nat),i<k->hget ((2000,e)::(2,Z)::Cn (ED 1000 L k) [2000]) (1000+i)=some (Hp 1000 L i):=by
    intro e Z i z;have h9:=JB 1000 k L i z;simp (disch:=omega) only[hget,Cw,Ct,Zm,ZK,ZO,JT,CN,Cu,h9]
   refine⟨by omega,Qtp (nx:=2001) i2 (by omega) i3 ak (by decide) (hH _ _) (λU=> ?_)⟩;simp(disch:=omega)only[ZA,simprocAttr,Da,Zg,Qtr,Ai ah,vG];refine⟨by omega,ah,ah,by omega,Ai (.inl (by omega)),Qtp (nx:=2001) i2 (by omega) i3 ah (by decide) (hH _ _) (λU2=> ?_)⟩;obtain⟨x,hx⟩: ∃x,x=Ew L u:=⟨_,rfl⟩;obtain⟨y,hy⟩: ∃y,y=Ew L w:=⟨_,rfl⟩;rw[<-hx] at bh⊢;rw[<-hy] at bi⊢;have gx:=JB 1000 k L x (by omega);have gy:=JB 1000 k L y (by omega);simp only[Hp] at gx gy;simp(disch:=omega)only[ZA,simprocAttr,sub,AM,Da,eK,Cw,Vf,gx,gy,ZS (show 1000+x<2001 by omega),ZS (show 1000+y<2001 by omega)];have ba:Ew L x=x:=by rw[hx];exact Qls i3 u
   have bb:Ew L y=y:=by rw[hy];exact Qls i3 w
   have ou:=i4 u ak;have ow:=i4 w ah;rw[<-hx] at ou;rw[<-hy] at ow;have hS:Co k bs (j+1)=(Co k bs j).map (Jp (x:Int) (y:Int)):=by
    simp only[Co,hb,sM,hu,hw,BD,ou,ow,AS]
   have ac: ∀(p q:Nat),p<q->q<k-> ∀(i:Nat),i<k->Hp 1000 (L.set q (p:Int)) i=if i=q then (true,.cells 353 [.ptr (1000+p) 0,.im (.int .i64 q)]) else Hp 1000 L i:=by
    intro p q a0 hq i z;simp only[Hp];by_cases h:i=q
    .subst h;rw[Ai rfl,Ee (by omega),AS];simp only[LM];rw[Ai ⟨by omega,by omega⟩,BD]
    .rw[Ad h,DM (E3 h)]
   have af: ∀(p q:Nat),p<q->q<k-> ∀(e Z:Ap) (tm:List (Nat×AV)),CE ⟨tm,(1000+q,(true,.cells 353 [.ptr (1000+p) 0,.im (.int .i64 q)]))::(2000,e)::(2,Z)::Cn (Cn (ED 1000 L k) [2000]) [1000+q],2001⟩ (ED 1000 (L.set q (p:Int)) k):=by
    intro p q a0 hq e Z tm;refine sO λi z=> ?_
    rw[ac p q a0 hq i z];by_cases h:i=q
    .subst h;simp only[hget,lX,C3,BF]
    .rw[Ad h];have h9:=JB 1000 k L i z;simp (disch:=omega) only[hget,Cw,Ct,Vf,h9]
   refine⟨λai=>⟨⟨(j+1,L.set y (x:Int)),by simp only;omega,by simp only[JR];exact i2,Qsx i3 ai,λi z=> ?_⟩,by simp only;omega,by rw[AB (by omega) (by omega)];simp only;omega,af x y ai (by omega) _ _ _⟩,λai=>⟨λaj=>⟨⟨(j+1,L.set x (y:Int)),by simp only;omega,by simp only[JR];exact i2,Qsx i3 aj,λi z=> ?_⟩,by simp only;omega,by rw[AB (by omega) (by omega)];simp only;omega,af y x aj (by omega) _ _ _⟩,λaj=>⟨⟨(j+1,L),by simp only;omega,i2,i3,λi z=> ?_⟩,by simp only;omega,by rw[AB (by omega) (by omega)];simp only;omega,?_⟩⟩⟩
   .rw[hS,Ef,i4 i z,DW,Qqx i3 ba bb ai (by omega) i,(LK ai _).1]
   .rw[hS,Ef,i4 i z,DW,Qqx i3 bb ba aj (by omega) i,(LK aj _).2]
   .rw[hS,Ef,i4 i z,DW,show y=x by omega,XT]
   .refine sO λi z=> ?_
    have h9:=JB 1000 k L i z;simp (disch:=omega) only[hget,Cw,Ct,Vf,h9]
  .have bc:j=bs.length:=by omega
   subst bc;obtain⟨own,hown⟩: ∃own,own=Co k bs bs.length:=⟨_,rfl⟩;rw[<-hown] at i4;intro _;refine AR.ren ⟨{s:Nat×List (Int×Int)//s.1<=k/\sY (BC own s.1 s.1) s.2},λs=>gI k L s.1.1 s.1.2 (BC own s.1.1 s.1.1),λs=>k - s.1.1,λs=>⟨?_,by simp[gI]⟩,⟨⟨(0,[]),by simp only;omega,?_⟩,[(2100,some 2000)],?_⟩,λs=> ?_⟩
   .have ab:=rL own s.1.1 s.1.1;have hs:=s.2.1;exact XH (by omega) (by omega)
   .exact⟨λr v h=>(by cases h),λg r am h=>(by simp[BC] at h)⟩
   .refine Qxg (O:=2000) (T:=λq=>3000+q) (by omega) (by simp[BC]) ⟨by omega,trivial⟩ rfl rfl (λj hj=> ?_) rfl (λq hq=>(by simp[BC] at hq)) rfl rfl rfl rfl rfl rfl rfl (λj hj=> ?_) (.inl ⟨rfl,rfl⟩) (λq hq=>(by simp[BC] at hq)) (λq q' hq=>(by simp[BC] at hq)) (λq hq=>(by simp[BC] at hq)) (by omega)
    .simp only[pm];rw[Ad (by omega)]
    .have h9:=JB 1000 k L j hj;simp (disch:=omega) only[hget,Cw,Ct,h9]
   obtain⟨⟨i,M⟩,q1,q2⟩:=s;simp only at q1 q2;simp only[gI];have an:=rL own i i;simp(disch:=omega)only[ZA,simprocAttr,AM,Da,Zg];refine⟨λz=>⟨z,z,?_⟩,λz=> ?_⟩
   .simp(disch:=omega)only[ZA,simprocAttr,Da,Qtr,Ai z];have hH: ∀(e1 Z e3:Ap) (j:Nat),j<k->hget ((2001,e1)::(2100,Z)::(2,e3)::(ED 1000 L k++EU 3000 (BC own i i))) (1000+j)=some (Hp 1000 L j):=by
     intro e1 Z e3 j hj;have h9:=zM k L (BC own i i) j hj;simp (disch:=omega) only[hget,Cw,Ct,h9]
    have ho:=i4 i z;obtain⟨r,hr⟩: ∃r,r=Ew L i:=⟨_,rfl⟩;have bf:r<=i:=by rw[hr];exact zS i3 i
    have bg:own[r]? =some (r:Int):=by
     have:=i4 r (by omega)
     rwa [hr,Qls i3 i,<-hr] at this
    rw[<-hr] at ho;have gr:=zM k L (BC own i i) r (by omega);simp only[Hp] at gr;refine⟨by omega,by omega,by omega,Qtp (nx:=4000) i2 (by omega) i3 z (by omega) (hH _ _ _) (λU=> ?_)⟩;rw[<-hr];simp(disch:=omega)only[ZA,simprocAttr,eK,Da,Ir,Cw,gr,XZ,ZS (show 1000+r<4000 by omega)];refine⟨λv hv=> ?_,λhn=> ?_⟩
    .obtain⟨g,am,rfl,hg⟩:=q2.a _ v hv;have ab:=(BJ.1 hg).1;have an:=rL own i i;have gg:=zO k L (BC own i i) g (by omega) ab;rw[hg,AS] at gg;simp(disch:=omega)only[ZA,simprocAttr,eK,Da,Ir,Cw,gg,Qxa];obtain⟨e1,Z⟩:=S5 q2 ho hg;obtain⟨G,hG⟩: ∃G,G=BC own i i:=⟨_,rfl⟩;rw[<-hG] at hg ab an e1 gg⊢;have ac:(D2 3000 G.length).set g [AV.own 4001]=(List.range G.length).map λq=>[AV.own (if q=g then 4001 else 3000+q)]:=by
      apply NP;intro j;rw[Ef];by_cases hj:j<G.length
      .rw[Qa hj];by_cases h:g=j
       .subst h;rw[Ee (by rw[Ir];exact ab)];simp
       .rw[DM h,Qo7 _ _ _ hj,DW,Ad (E3 h)]
      .rw[Fz (by simp[Ir];omega),Fz (by simp;omega)];rfl
     refine⟨ab,ab,by omega,?_,by omega,?_,ab,ab,?_,⟨(i+1,M),by simp only;omega,Z⟩,[(3000+g,some 4001)],by simp only;omega,?_⟩
     .intro row Q;obtain rfl:=B4.1 Q;rfl
     .have h6:(r::am:List Int).length<=1000:=BR (by rw[hG] at hg;exact Qy0 own i i _ (AP hg)) (by omega);simp only[Cr] at h6;omega
     .rw[DV];intro row Q;rcases ZM Q with hr|hr
      .exact DV.1 (Wz 3000 G.length 4002 (by omega)) row hr
      .subst hr;simp[AN,AV.bel]
     have pn: ∀m,m≠3000+g->pm [(3000+g,some 4001)] m=some m:=by intro m hm;simp only[pm];rw[Ad (E3 hm)]
     simp only[e1];rw[AB (by omega) (by omega)];have hh: ∀(e1 Z e3 e4 e5:Ap) (m:Nat),hget ((2100,e1)::(4001,Z)::(4000,e3)::(2001,e4)::(2,e5)::Cn (Cn (ED 1000 L k++EU 3000 G) [3000+g]) [2100]) m=if m=2100 then some e1 else if m=4001 then some Z else if m=4000 then some e3 else if m=2001 then some e4 else if m=2 then some e5 else if m=3000+g then none else hget (ED 1000 L k++EU 3000 G) m:=by
      intro e1 Z e3 e4 e5 m;simp only[hget,Zm,ZK,ZO,JT,Qd,Zff];by_cases h1:m=2100
      .subst h1;simp
      by_cases h2:m=4001
      .subst h2;simp
      by_cases h3:m=4000
      .subst h3;simp
      by_cases h4:m=2001
      .subst h4;simp
      by_cases h5:m=2
      .subst h5;simp
      simp only[Ad h1,Ad h2,Ad h3,Ad h4,Ad h5,Ad (E3 h1),Ad (E3 h2),Ad (E3 h3),Ad (E3 h4),Ad (E3 h5)]
     refine Qxg (O:=2100) (T:=λq=>if q=g then 4001 else 3000+q) (by omega) (by rw[JR];omega) ⟨by omega,trivial⟩ (pn _ (by omega)) (pn _ (by omega)) (λj hj=>pn _ (by omega)) (pn _ (by omega)) (λq hq=> ?_) rfl rfl rfl rfl rfl ?_ ?_ (λj hj=> ?_) (.inr ?_) (λq hq=> ?_) (λq q' hq=> ?_) (λq hq=> ?_) (by omega)
     .by_cases h:q=g
      .subst h;simp[pm]
      .rw[pn _ (by omega),Ad h]
     .rw[hh];rfl
     .rw[hh];rfl
     .rw[hh,Ad (by omega),Ad (by omega),Ad (by omega),Ad (by omega),Ad (by omega),Ad (by omega)];exact zM _ _ _ _ hj
     .rw[hh,Ai rfl,ac,JR]
     .rw[JR] at hq;rw[hh];by_cases h:q=g
      .subst h;rw[Ai rfl,Ad (by omega),Ai rfl,Ee ab,AS];simp[Ao]
      .rw[Ad h,Ad (by omega),Ad (by omega),Ad (by omega),Ad (by omega),Ad (by omega),Ad (by omega),DM (E3 h)];exact zO _ _ _ _ (by omega) hq
     .rw[JR] at hq;intro au he;rw[JR] at au;by_cases h:q=g<;>by_cases h2:q'=g<;>simp only[h,h2,BF,Cu] at he⊢ <;>omega
     .rw[JR] at hq;by_cases h:q=g<;>simp only[h,BF,Cu]<;>omega
    .obtain⟨a9,e1,Z⟩:=S4 q2 ho bf bg hn;have Q:(D2 3000 (BC own i i).length++[[AV.im (D.sl true 0 [])]])[(BC own i i).length]? =some [AV.im (D.sl true 0 [])]:=by
      rw[E7 (by rw[Ir];exact AF _),Ir,G5];rfl
     have av: ∀N,4000<=N->(D2 3000 (BC own i i).length++[[AV.im (D.sl true 0 [])]]).all (AN N)=true:=by
      intro N hN;rw[uZ,Wz _ _ _ (by omega)];rfl
     intro _;refine⟨?_,by omega,av _ (by omega),by simp[Ir],by simp[Ir],kM Q ?_⟩
     .intro row Q;obtain rfl:=B4.1 Q;rfl
     have ac:(D2 3000 (BC own i i).length++[[AV.im (D.sl true 0 [])]]).set (BC own i i).length [AV.own 4003]=D2 3000 (BC own i i).length++[[AV.own 4003]]:=by
      have: ∀(l:List (List AV)) n x y,l.length=n->(l++[x]).set n y=l++[y]:=by
       intro l n x y h;subst h;rw[fD _ _ (AF _),G5];rfl
      exact this _ _ _ _ (Ir _ _)
     have ao: ∀N,4003<N->(D2 3000 (BC own i i).length++[[AV.own 4003]]).all (AN N)=true:=by
      intro N hN;rw[uZ,Wz _ _ _ (by omega)];simp[AN,AV.bel];omega
     simp(disch:=omega)only[ZA,simprocAttr,Da];refine⟨?_,by simp[Ir],by simp[Ir],kM Q ?_⟩
     .intro row Q;obtain rfl:=B4.1 Q;rfl
     simp(disch:=omega)only[ZA,simprocAttr,Da,Cw,ac];refine⟨ao _ (by omega),⟨(i+1,M++[((i:Int),((BC own i i).length:Int))]),by simp only;omega,by simp only;exact Z⟩,[(2100,some 4001),(3000+(BC own i i).length,some 4003)],by simp only;omega,?_⟩;simp only[e1];obtain⟨G,hG⟩: ∃G,G=BC own i i:=⟨_,rfl⟩;simp only[<-hG] at an⊢;rw[AB (by omega) (by omega)];have pn: ∀m,m≠2100->m≠3000+G.length->pm [(2100,some 4001),(3000+G.length,some 4003)] m=some m:=by intro m hm ag;simp only[pm];rw[Ad (E3 hm),Ad (E3 ag)]
     have hh: ∀(e1 Z e3 e4 e5 e6:Ap) (m:Nat),hget ((4001,e1)::(4003,Z)::(4002,e3)::(4000,e4)::(2001,e5)::(2,e6)::Cn (Cn (Cn (ED 1000 L k++EU 3000 G) [2001]) [2100]) [4001]) m=if m=4001 then some e1 else if m=4003 then some Z else if m=4002 then some e3 else if m=4000 then some e4 else if m=2001 then some e5 else if m=2 then some e6 else if m=2100 then none else hget (ED 1000 L k++EU 3000 G) m:=by
      intro e1 Z e3 e4 e5 e6 m;simp only[hget,Zm,ZK,ZO,JT,Qd,Zff];by_cases h1:m=4001
      .subst h1;simp
      by_cases h2:m=4003
      .subst h2;simp
      by_cases h3:m=4002
      .subst h3;simp
      by_cases h4:m=4000
      .subst h4;simp
      by_cases h5:m=2001
      .subst h5;simp
      by_cases h6:m=2
      .subst h6;simp
      simp only[Ad h1,Ad h2,Ad h3,Ad h4,Ad h5,Ad h6,Ad (E3 h1),Ad (E3 h2),Ad (E3 h3),Ad (E3 h4),Ad (E3 h5),Ad (E3 h6)]
     have aa:(G++[[(i:Int)]]).length=G.length+1:=by simp
     refine Qxg (O:=4001) (T:=λq=>if q<G.length then 3000+q else 4003) (by omega) (by rw[aa];omega) ⟨by omega,by omega,trivial⟩ (pn _ (by omega) (by omega)) (pn _ (by omega) (by omega)) (λj hj=>pn _ (by omega) (by omega)) (by simp[pm]) (λq hq=> ?_) rfl rfl rfl rfl rfl ?_ ?_ (λj hj=> ?_) (.inr ?_) (λq hq=> ?_) (λq q' hq=> ?_) (λq hq=> ?_) (by omega)
     .rw[aa] at hq;by_cases h:q<G.length
      .rw[pn _ (by omega) (by omega),Ai h]
      .obtain rfl:q=G.length:=by omega
       rw[Ad h];simp only[pm];rw[Ad (by omega),Ai trivial]
     .rw[hh,<-a9,<-MT _ _ _ hn];rfl
     .rw[hh];rfl
     .rw[hh,Ad (by omega),Ad (by omega),Ad (by omega),Ad (by omega),Ad (by omega),Ad (by omega),Ad (by omega)];exact zM _ _ _ _ hj
     .rw[hh,Ai rfl,Ql0,aa]
     .rw[aa] at hq;rw[hh];by_cases h:q<G.length
      .rw[Ai h,Ad (by omega),Ad (by omega),Ad (by omega),Ad (by omega),Ad (by omega),Ad (by omega),Ad (by omega),DQ h];exact zO _ _ _ _ (by omega) h
      .obtain rfl:q=G.length:=by omega
       rw[Ad h,Ad (by omega),Ai rfl,E7 (AF _),G5];rfl
     .rw[aa] at hq;intro au he;rw[aa] at au;by_cases h:q<G.length<;>by_cases h2:q'<G.length<;>simp only[h,h2,BF,Cu] at he⊢ <;>omega
     .by_cases h:q<G.length<;>simp only[h,BF,Cu]<;>omega
   .have ad:i=k:=by omega
    subst ad;rw[Vl,BD,<-hown];rw[Ol (m:=7) (G:=BC own i i)]
    .simp(disch:=omega)only[ZZ,simprocAttr]
    .intro q hq;have h9:=zO i L (BC own i i) q (by omega) hq;simp (disch:=omega) only[hget,Cw,Ct,h9]
def GJ(nm:List Int):List Af->List Af
 |[]=>[]
 |b::r=>if BS nm b.A=BS nm b.B then GJ nm r else ⟨BS nm b.A,BS nm b.B,b.Strength⟩::GJ nm r
def Qvj(nm:List Int): ∀(a b:List Af),GJ nm (a++b)=GJ nm a++GJ nm b
 |[],b=>rfl
 |x::r,b=>by simp only[CW,GJ,Qvj nm r b];split<;>rfl
def Qpl(nm:List Int): ∀(a:List Af),(GJ nm a).length<=a.length
 |[]=>AF _
 |x::r=>by have:=Qpl nm r;simp only[GJ];split<;>simp only[Cr]<;>omega
def Qab6(nm:List Int){bs:List Af}{k:Nat}{b:Af}(h:bs[k]? =some b):GJ nm (bs.take (k+1))=GJ nm (bs.take k)++if BS nm b.A=BS nm b.B then [] else [⟨BS nm b.A,BS nm b.B,b.Strength⟩]:=by
 rw[G9,h];simp only[WZ,Qvj,GJ]
def Dx(n:Int)(bs:List Af)(t:Int):Int×List Af:=((NA n bs t).length,GJ (QU n.toNat (NA n bs t)) bs)
def dlC.H0_dom(a:List Af×Int)(j:Nat):An (dlC.H0 a) j=true↔j<1:=by
 simp only[An,dlC.H0,hget];by_cases h0:j=0
 .subst h0;simp
 .have z:(0==j)=false:=by simp;omega
  simp[z];omega
def contr.fv(a:Int×(List Af)×Int):Int×(List Af):=(Dx) (a.1) (a.2.1) (a.2.2)
def contr.row:Ax:=vK (b3 qI (qS Af.d_le Af.c_n) qI) (r2 rI (rS Af.d_le Af.c_n)) (λa=>0<=a.1/\a.1<=512/\KD a.1 a.2.1/\a.2.1.length<=1000000) contr.fv
def contr.q:=AX (R:=contr.row) rfl
def contr.ok:AA 226 contr.row:=by
 refine vw (tC clobC.ok (tC dlC.ok (tC groupsBy_.ok tN))) Tryz.func226 ?_;intro a ac;simp only[Tryz.f226];simp only[ZA,simprocAttr,contr.fv];obtain⟨h0,h1,O,G⟩:=ac;obtain⟨n,hn⟩: ∃n:Nat,a.1=n:=⟨a.1.toNat,by omega⟩;obtain⟨bs,hbsd⟩: ∃bs,bs=a.2.1:=⟨_,rfl⟩;obtain⟨t,ht⟩: ∃t,t=a.2.2:=⟨_,rfl⟩;simp only[hn,<-hbsd,<-ht] at h0 h1 O G⊢;refine AE.os bs [] G (λj=>by simp[An,hget]) rfl rfl ?_ ?_
 .simp only[ZA,simprocAttr,clobC.ca,CV]
 simp only[ZA,simprocAttr,clobC.H1];left;refine AE.os (bs,t) [2] G (λj=>dlC.H0_dom _ j) rfl rfl ?_ ?_
 .simp only[ZA,simprocAttr,dlC.ca,dlC.H0,Cz]
 simp only[ZA,simprocAttr,groupsBy_.q,groupsBy_.fv,dlC.H1];have Q:Sz ((n:Int),G0 t bs):=⟨by simp only;omega,by simp only;omega,λb hb=>O b (Rc.1 hb).1,by have:=Qln t bs;simp only;omega⟩;refine⟨Q,by omega,?_⟩;obtain⟨z,hgs⟩: ∃z,z=Vl (n:Int) (G0 t bs):=⟨_,rfl⟩;have ag: ∀r∈z,∀v∈r,0<=v/\v<n:=by rw[hgs];exact Qps n _
 simp only[<-hgs];intro an;refine AR.old ⟨{i:Nat//i<=z.length},λi=>⟨[(27,.im (.int .i64 i.1)),(26,.im (.int .i64 z.length)),(25,.im (.sl false 1 (z.map Du))),(9,.own 1022),(8,.im (.sl false 1 (z.map Du))),(1,.im (.sl false 3 (bs.map Af.c)))],[(1022,(true,.arr 2 1 ((JG z (List.replicate n 0) i.1).map Ao)))],1023⟩,λi=>z.length - i.1,λi=>⟨by simp[ZG],by simp⟩,⟨⟨0,by simp⟩,?_⟩,λi=> ?_⟩
 .simp only[ZA,simprocAttr,sub,JG,sU]
 obtain⟨i,ao⟩:=i;simp only[ZZ,simprocAttr,AM];refine⟨λhi=>⟨hi,λr hr=> ?_⟩,λhi=> ?_⟩
 .have aj:=ag r (AP hr);obtain⟨l,hl⟩: ∃l,l=JG z (List.replicate n 0) i:=⟨_,rfl⟩;have aq:l.length=n:=by rw[hl,rN,NM]
  simp only[<-hl];intro au;refine AR.old ⟨{k:Nat//k<=r.length},λk=>⟨[(34,.im (.int .i64 k.1)),(33,.im (.int .i64 r.length)),(32,.im (.sl false 1 (r.map Ao))),(10,.im (.int .i64 i)),(27,.im (.int .i64 i)),(26,.im (.int .i64 z.length)),(25,.im (.sl false 1 (z.map Du))),(9,.own 1022),(8,.im (.sl false 1 (z.map Du))),(1,.im (.sl false 3 (bs.map Af.c)))],[(1022,(true,.arr 2 1 ((PV i r l k.1).map Ao)))],1023⟩,λk=>r.length - k.1,λk=>⟨by simp[ZG],by simp⟩,⟨⟨0,by simp⟩,?_⟩,λk=> ?_⟩
  .simp only[ZA,simprocAttr,sub,PV]
  obtain⟨k,ai⟩:=k;have ab:=yR (i:Int) r l k;simp only[ZA,simprocAttr,sub,AM,ab,dN];refine⟨λhk=>⟨hk,λv hv=> ?_⟩,λhk=> ?_⟩
  .obtain⟨v1,v2⟩:=aj v (AP hv);refine⟨v1,by omega,by omega,λ_ _=>⟨⟨k+1,by omega⟩,by simp only;omega,by rw[AB (by omega) (by omega)];simp only;omega,?_⟩⟩;simp only[PV,hv,AS]
  .have:k=r.length:=by omega
   refine⟨⟨i+1,by omega⟩,by simp only;omega,by rw[AB (by omega) (by omega)];simp only;omega,?_⟩;simp only[JG,hr,AS,<-hl,this]
 .have ah:i=z.length:=by omega
  subst ah;obtain⟨nm,hnm⟩: ∃nm,nm=JG z (List.replicate n 0) z.length:=⟨_,rfl⟩;have ab:nm.length=n:=by rw[hnm,rN,NM]
  simp only[<-hnm];intro am;refine AR.ren ⟨{k:Nat//k<=bs.length},λk=>⟨[(46,.im (.int .i64 k.1)),(45,.im (.int .i64 bs.length)),(44,.im (.sl false 3 (bs.map Af.c))),(14,.own 1024),(9,.own 1022),(8,.im (.sl false 1 (z.map Du)))],[(1024,(true,.arr 277 3 ((GJ nm (bs.take k.1)).map Af.c))),(1022,(true,.arr 2 1 (nm.map Ao)))],1025⟩,λk=>bs.length - k.1,λk=>⟨by simp[ZG],by simp⟩,⟨⟨0,by simp⟩,[(1024,some 1023)],?_⟩,λk=> ?_⟩
  .simp only[Ak];simp only[ZA,simprocAttr,AL];rfl
  obtain⟨k,ai⟩:=k;have ak:=Qpl nm (bs.take k);rw[Bw] at ak;simp only[ZA,simprocAttr,AM,FJ,FI,Bn,D.one];refine⟨λhk=>⟨hk,λb hb=> ?_⟩,λhk=> ?_⟩
  .obtain⟨b1,b2,b3,b4⟩:=O b (AP hb);refine⟨b1,by omega,by omega,λx hx=>⟨b3,by omega,by omega,λy hy=> ?_⟩⟩;have e1:BS nm b.A=x:=by simp only[BS,hx,AS]
   have e2:BS nm b.B=y:=by simp only[BS,hy,AS]
   have Z:=Qab6 nm hb;rw[e1,e2] at Z;refine⟨λaa=>⟨b1,by omega,by omega,λx' ad=>⟨b3,by omega,by omega,λy' af=>⟨by omega,⟨k+1,by omega⟩,[(1024,some 1027)],by simp only;omega,?_⟩⟩⟩,λaa=>⟨⟨k+1,by omega⟩,[],by simp only;omega,?_⟩⟩
   .rw[hx] at ad;rw[hy] at af;obtain rfl:=Aw ad;obtain rfl:=Aw af;simp only[Ak];simp only[ZA,simprocAttr,AL,Z];rw[AB (by omega) (by omega),Ad aa];simp[Af.c]
   .simp only[Ak];simp only[ZA,simprocAttr,AL,Z];rw[AB (by omega) (by omega),Ai (G8.1 aa),CC];simp
  .have:k=bs.length:=by omega
   subst this;rw[El];intro _;simp only[Dx,NA,QU,BD,<-hgs,<-hnm]
end Go.Ae
