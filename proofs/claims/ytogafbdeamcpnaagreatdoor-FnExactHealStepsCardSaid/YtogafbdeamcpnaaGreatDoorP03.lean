/- Lemmas. Conditions: none. -/
import Derived.Test.YtogafbdeamcpnaaGreatDoorP02
import Derived.Laws.StructEq
import Derived.WideKeyRuns
set_option linter.all false
set_option maxHeartbeats 8000000
set_option maxRecDepth 100000
namespace Go.Ae
def wP: ∀(a b:List KK) (l:List D),Bw (a++b) l=true->Bw a (l.take a.length)=true/\Bw b (l.drop a.length)=true/\a.length<=l.length
 |[],b,l,h=>by simpa[Bw] using h
 |k::a,b,[],h=>by simp[Bw] at h
 |k::a,b,d::l,h=>by
  simp only[CX,Bw,AS] at h;obtain⟨z,G,O⟩:=wP a b l h.2;simp only[CY,P9,P8,Bw,AS];exact⟨⟨h.1,z⟩,G,by omega⟩
def wC: ∀(a:List KK) (l:List D),Bw a l=true->l.length=a.length
 |[],[],_=>rfl
 |[],_::_,h=>by simp[Bw] at h
 |_::_,[],h=>by simp[Bw] at h
 |k::a,d::l,h=>by
  simp only[Bw,AS] at h;simp[wC a l h.2]
def Qq6: ∀(n:Nat) (a b:List D),n<=a.length->n<=b.length->D.beql a b=(D.beql (a.take n) (b.take n) && D.beql (a.drop n) (b.drop n))
 |0,a,b,_,_=>by simp[D.beql]
 |n+1,[],_,h,_=>by simp at h
 |n+1,_::_,[],_,h=>by simp at h
 |n+1,x::a,y::b,z,G=>by
  simp only[P9,P8,D.beql,zC];rw[Qq6 n a b (by simpa using z) (by simpa using G)]
def cG{ok:Nat->Prop}{hp:Nat->Option Obj}{k:KK}{d:D}{v:Value}(hf:k.fit d=true)(h:rd ok hp d v):
 (∃j n,k= .int j/\d= .int j n/\v= .int j n)\/(∃s,k= .str/\d= .str s/\v= .string s)\/(∃b,k= .bool/\d= .bool b/\v= .bool b):=by
 cases k<;>cases d<;>simp only[KK.fit,CE,N5] at hf<;>simp only[rd] at h
 .subst hf;exact .inl ⟨_,_,rfl,rfl,h⟩
 .exact .inr (.inl ⟨_,rfl,rfl,h⟩)
 .exact .inr (.inr ⟨_,rfl,rfl,h⟩)
section
variable {P:Program}
def qC: ∀{n:Nat} {t:TypeId} {O:KT},Bj P n t=some O->O.agg=false-> ∃k,O.ks=[k]/\((∃j,k= .int j/\P.underlying t=some (.int j))\/(k= .str/\P.underlying t=some .string)\/(k= .bool/\P.underlying t=some .bool)):=by
 intro n t O h Q;cases n with
 |zero=>simp[Bj] at h
 |succ n=>
  simp only[Bj] at h;split at h
  .rename_i k z;obtain rfl:=AE h;exact⟨_,rfl,.inl ⟨k,rfl,z⟩⟩
  .rename_i z;obtain rfl:=AE h;exact⟨_,rfl,.inr (.inl ⟨rfl,z⟩)⟩
  .rename_i z;obtain rfl:=AE h;exact⟨_,rfl,.inr (.inr ⟨rfl,z⟩)⟩
  .rename_i G z;cases hst:P.stoodInHeld t<;>rw[hst] at h
   .simp only[B8,Df] at h;obtain⟨ks,_,rfl⟩:=h;cases Q
   .simp at h
  .cases h
def wE: ∀{n:Nat} {t:TypeId} {G:KT},Bj P n t=some G->G.agg=true-> ∃m z,n=m+1/\P.underlying t=some (.struct z)/\P.stoodInHeld t=false/\YS P (Bj P m) z.toList 0=some G.ks:=by
 intro n t G h O;cases n with
 |zero=>simp[Bj] at h
 |succ n=>
  simp only[Bj] at h;split at h
  .obtain rfl:=AE h;cases O
  .obtain rfl:=AE h;cases O
  .obtain rfl:=AE h;cases O
  .rename_i z Z;cases hst:P.stoodInHeld t<;>rw[hst] at h
   .simp only[B8,Df] at h;obtain⟨ks,Q,rfl⟩:=h;exact⟨n,z,rfl,Z,rfl,Q⟩
   .simp at h
  .cases h
def Qsw{n:Nat}{f:Field}{z:KT}{i:TypeInfo}(hk:Bj P n f.type=some z)(hi:P.info? f.type=some i)(hz:i.size=z.ks.length){ok:Nat->Prop}{hp:Nat->Option Obj}{w:World}
 {ds:List D}{xs:Array Value}{off:Nat}(ab:off+z.ks.length<=ds.length)(h:rdl ok hp ds xs.toList)(hf:Bw z.ks ((ds.drop off).take z.ks.length)=true):
 ∃d v,(part f.type xs off).run P w= .ok v w/\z.fit d=true/\rd ok hp d v/\((z.agg=true/\d= .agg ((ds.drop off).take z.ks.length))\/(z.agg=false/\[d]=(ds.drop off).take z.ks.length)):=by
 have Z:z.ks.length<=(ds.drop off).length:=by rw[Cx];omega
 have h1:=UB off ds _ (VY _ _ h) (by omega);obtain⟨h2,O⟩:=UE z.ks.length _ _ h1 Z;cases ha:z.agg with
 |false=>
  obtain⟨k,Q,G⟩:=qC hk ha;rw[Q] at Z O hf⊢;simp only[ZdX] at Z O hf⊢;cases hd:ds.drop off with
  |nil=>rw[hd] at Z;simp at Z
  |cons d r=>
   rw[hd] at O hf;simp only[P9,UQ,rdl] at O hf;obtain⟨v,r',hv,h4,h5⟩:=O;refine⟨d,v,?_,by simpa[KT.fit,ha,Q] using hf,h4,.inr ⟨trivial,by simp⟩⟩;have hx:xs[off]? =some v:=by
    have:(xs.toList.drop off)[0]? =some v:=by
     cases hq:xs.toList.drop off with
     |nil=>rw[hq] at hv;simp at hv
     |cons a b=>rw[hq] at hv;simp at hv;simp[hv.1]
    simpa using this
   unfold part;rcases G with ⟨j,_,G⟩|⟨_,G⟩|⟨_,G⟩<;>simp[isAgg,run_underlying G,hx]
 |true=>
  obtain⟨m,aa,_,G,_⟩:=wE hk ha;refine⟨_,.agg (xs.extract off (off+z.ks.length)),?_,by simpa[KT.fit,ha] using hf,?_,.inl ⟨rfl,rfl⟩⟩
  .unfold part;simp[isAgg,run_underlying G,sizeOf,typeInfo,hi,hz]
  .simp only[rd];refine⟨_,rfl,?_⟩;rw[ZeX];simpa[List.extract] using O
def Qr5(d:Nat)(xs z:Array Value)(f:Field)(G:List Field)(hn:f.name≠ "_"){w:World}{a b:Value}{r:Bool}(O:(part f.type xs f.offset).run P w= .ok a w)
 (Q:(part f.type z f.offset).run P w= .ok b w)(Z:(Op.equalIn d f.type a b).run P w= .ok r w):
 (Op.eqFields d xs z (f::G)).run P w=if r=true then (Op.eqFields d xs z G).run P w else .ok false w:=by
 simp only[Op.eqFields,ne_eq,hn,yS,BI,Sem.run_bind,O,Q,Z,Result.andThen_ok];cases r<;>simp
section
variable {ok:Nat->Prop}{hp:Nat->Option Obj}{w:World}
def RY{n m:Nat}(ih: ∀(t:TypeId) (Q:KT),Bj P n t=some Q-> ∀(d1 d2:D) (v1 v2:Value),Q.fit d1=true->Q.fit d2=true->rd ok hp d1 v1->rd ok hp d2 v2->(Op.equalIn m t v1 v2).run P w= .ok (D.beq d1 d2) w):
 ∀(fs:List Field) (off:Nat) (ks:List KK),YS P (Bj P n) fs off=some ks-> ∀(z G:List D) (xs ys:Array Value),off+ks.length=z.length->off+ks.length=G.length->
  Bw ks (z.drop off)=true->Bw ks (G.drop off)=true->rdl ok hp z xs.toList->rdl ok hp G ys.toList->(Op.eqFields m xs ys fs).run P w= .ok (D.beql (z.drop off) (G.drop off)) w:=by
 intro fs;induction fs with
 |nil=>
  intro off ks O z G xs ys aa ab _ _ _ _;simp only[YS,AI] at O;subst O;rw[CZ (by simpa using Zfi aa.symm),CZ (by simpa using Zfi ab.symm)];simp[Op.eqFields,D.beql]
 |cons f fs an=>
  intro off ks O z G xs ys aa ab ak am ag ah;simp only[YS] at O;split at O
  .rename_i Q i Z hi;cases hb:(f.offset==off && (f.name != "_" && i.size==Q.ks.length))<;>rw[hb] at O
   .simp at O
   .simp only[Ca,Df] at O;obtain⟨ao,af,rfl⟩:=O;simp only[AS,N5,bne_iff_ne,ne_eq] at hb;obtain⟨rfl,ac,ai⟩:=hb;obtain⟨g1,g2,g3⟩:=wP _ _ _ ak;obtain⟨g4,g5,g6⟩:=wP _ _ _ am;rw[Dn] at aa ab;obtain⟨d1,v1,p1,q1,r1,s1⟩:=Qsw (w:=w) Z hi ai (by omega) ag g1;obtain⟨d2,v2,p2,q2,r2,s2⟩:=Qsw (w:=w) Z hi ai (by omega) ah g4;have he:=ih _ _ Z d1 d2 v1 v2 q1 q2 r1 r2;rw[Qr5 m xs ys f fs ac p1 p2 he];rw[Ey] at g2 g5;have ad:=an _ _ af z G xs ys (by omega) (by omega) g2 g5 ag ah;have aj:D.beq d1 d2=D.beql ((z.drop f.offset).take Q.ks.length) ((G.drop f.offset).take Q.ks.length):=by
     rcases s1 with ⟨_,rfl⟩|⟨ha,e1⟩<;>rcases s2 with ⟨hb,rfl⟩|⟨hb,e2⟩
     .simp[D.beq]
     .simp_all
     .simp_all
     .rw[<-e1,<-e2];simp[D.beql]
    rw[Qq6 Q.ks.length (z.drop f.offset) (G.drop f.offset) g3 g6,ad,aj,Ey,Ey];cases D.beql ((z.drop f.offset).take Q.ks.length) ((G.drop f.offset).take Q.ks.length)<;>simp
  .cases O
def L6: ∀(n m:Nat),n<=m-> ∀(t:TypeId) (kt:KT),Bj P n t=some kt-> ∀(d1 d2:D) (v1 v2:Value),kt.fit d1=true->kt.fit d2=true->rd ok hp d1 v1->rd ok hp d2 v2->
 (Op.equalIn m t v1 v2).run P w= .ok (D.beq d1 d2) w:=by
 intro n;induction n with
 |zero=>intro m _ t kt h;simp[Bj] at h
 |succ n ih=>
  intro m hm t kt h d1 d2 v1 v2 G O Q Z;obtain⟨m,rfl⟩: ∃m',m=m'+1:=⟨m - 1,by omega⟩;cases ha:kt.agg with
  |false=>
   obtain⟨k,hk,hu⟩:=qC h ha;simp only[KT.fit,ha,hk,Bw,ET] at G O;rcases cG G Q with ⟨j,a,e1,rfl,rfl⟩|⟨a,e1,rfl,rfl⟩|⟨a,e1,rfl,rfl⟩<;>
    rcases cG O Z with ⟨j2,b,e2,rfl,rfl⟩|⟨b,e2,rfl,rfl⟩|⟨b,e2,rfl,rfl⟩<;>rw[e1] at e2<;>cases e2<;>
    rcases hu with ⟨_,e3,hu⟩|⟨e3,hu⟩|⟨e3,hu⟩<;>rw[e1] at e3<;>cases e3
   .simp[Op.equalIn,run_underlying hu,D.beq]
   .simp[Op.equalIn,run_underlying hu,D.beq]
   .simp[Op.equalIn,run_underlying hu,D.beq]
  |true=>
   obtain⟨m0,z,ag,hu,af,ad⟩:=wE h ha;obtain rfl:n=m0:=by omega
   cases d1<;>simp only[KT.fit,ha,CE] at G;cases d2<;>simp only[KT.fit,ha,CE] at O;rename_i ab ac;simp only[rd] at Q Z;obtain⟨xs,rfl,Q⟩:=Q;obtain⟨ys,rfl,Z⟩:=Z;have aa:P.fieldsOf t=z:=by simp[Program.fieldsOf,hu]
   rw[run_equalIn_struct w m t xs ys (by rw[aa];exact hu) af,aa]
   have:=RY (w:=w) (λt kt h=>ih m (by omega) t kt h) z.toList 0 kt.ks ad ab ac xs ys (by simp[wC _ _ G]) (by simp[wC _ _ O]) (by simpa using G) (by simpa using O) Q Z
   rw[this];simp[D.beq]
def YH(em:Bool)(n:Nat)(cs:Array Value):List Field->Sem Unit
 |[]=>pure ()
 |f::z=>if f.name≠ "_" then do
   let a <-part f.type cs f.offset
   Instr.checkKey em n f.type a
   YH em n cs z
  else YH em n cs z
def Qvk(em:Bool)(n:Nat)(t:TypeId)(cs:Array Value){z:Array Field}(O:P.underlying t=some (.struct z)):
 (Instr.checkKey em (n+1) t (.agg cs)).run P w=(YH em n cs z.toList).run P w:=by
 simp only[Instr.checkKey,Sem.run_bind,run_underlying O,Result.andThen_ok];rw[<-Array.forIn_toList];generalize z.toList=G;clear O;induction G generalizing w with
 |nil=>simp[YH]
 |cons f G ih=>
  simp only[List.forIn_cons,YH,Sem.run_bind,Sem.run_ite];split
  .generalize (part f.type cs f.offset).run P w=r1;cases r1 with
   |ok a Q=>
    simp only[Result.andThen_ok];generalize (Instr.checkKey em n f.type a).run P Q=r2;cases r2 with
    |ok b Z=>
     simp only[Result.andThen_ok,Sem.run_pure];exact ih
    |halt x Z=>simp[Result.andThen]
   |halt x Q=>simp[Result.andThen]
  .simp only[Sem.run_pure,Result.andThen_ok];exact ih
def Qw3{n m:Nat}{em:Bool}(ih: ∀(t:TypeId) (kt:KT),Bj P n t=some kt-> ∀(d1:D) (v1:Value),kt.fit d1=true->rd ok hp d1 v1->(Instr.checkKey em m t v1).run P w= .ok () w):
 ∀(Q:List Field) (off:Nat) (ks:List KK),YS P (Bj P n) Q off=some ks-> ∀(G:List D) (xs:Array Value),off+ks.length=G.length->
  Bw ks (G.drop off)=true->rdl ok hp G xs.toList->(YH em m xs Q).run P w= .ok () w:=by
 intro Q;induction Q with
 |nil=>intro off ks _ G xs _ _ _;simp[YH]
 |cons f Q ag=>
  intro off ks z G xs ad ac ab;simp only[YS] at z;split at z
  .rename_i kt i aa hi;cases hb:(f.offset==off && (f.name != "_" && i.size==kt.ks.length))<;>rw[hb] at z
   .simp at z
   .simp only[Ca,Df] at z;obtain⟨ah,Z,rfl⟩:=z;simp only[AS,N5,bne_iff_ne,ne_eq] at hb;obtain⟨rfl,O,af⟩:=hb;obtain⟨g1,g2,g3⟩:=wP _ _ _ ac;rw[Dn] at ad;obtain⟨d1,v1,p1,q1,r1,s1⟩:=Qsw (w:=w) aa hi af (by omega) ab g1;rw[Ey] at g2;simp only[YH,ne_eq,O,yS,BI,Sem.run_bind,p1,ih _ _ aa d1 v1 q1 r1,Result.andThen_ok];exact ag _ _ Z G xs (by omega) g2 ab
  .cases z
def vC{em:Bool}: ∀(n m:Nat),n<=m-> ∀(t:TypeId) (O:KT),Bj P n t=some O-> ∀(d1:D) (v1:Value),O.fit d1=true->rd ok hp d1 v1->
 (Instr.checkKey em m t v1).run P w= .ok () w:=by
 intro n;induction n with
 |zero=>intro m _ t O h;simp[Bj] at h
 |succ n ih=>
  intro m hm t O h d1 v1 Q G;obtain⟨m,rfl⟩: ∃m',m=m'+1:=⟨m - 1,by omega⟩;cases ha:O.agg with
  |false=>
   obtain⟨k,hk,Z⟩:=qC h ha;rcases Z with ⟨_,_,Z⟩|⟨_,Z⟩|⟨_,Z⟩<;>simp[Instr.checkKey,run_underlying Z]
  |true=>
   obtain⟨m0,z,ac,Z,ad,ab⟩:=wE h ha;obtain rfl:n=m0:=by omega
   cases d1<;>simp only[KT.fit,ha,CE] at Q;rename_i aa;simp only[rd] at G;obtain⟨xs,rfl,G⟩:=G;rw[Qvk em m t xs Z];exact Qw3 (w:=w) (λt O h=>ih m (by omega) t O h) z.toList 0 O.ks ab aa xs (by simp[wC _ _ Q]) (by simpa using Q) G
def UM(kd:D)(ds:List (D×D))(i:Nat)(ok:Nat->Prop)(hp:Nat->Option Obj):Option (Nat×Value)->Prop
 |none=>lk ds kd=none/\(∀y,FY ds kd y=ds++[(kd,y)])/\I0 ds kd=ds
 |some (j,v)=> ∃p k y,j=i+p/\ds[p]? =some (k,y)/\D.beq kd k=true/\lk ds kd=some y/\rd ok hp y v/\(∀y',FY ds kd y'=ds.set p (kd,y'))/\I0 ds kd=ds.eraseIdx p
def Qq2{kd k y:D}{ds:List (D×D)}{i:Nat}{r:Option (Nat×Value)}(z:D.beq kd k=false)(h:UM kd ds (i+1) ok hp r):UM kd ((k,y)::ds) i ok hp r:=by
 cases r with
 |none=>
  simp only[UM] at h⊢;exact⟨by simp[lk,z,h.1],λy=>by simp[FY,z,h.2.1],by simp[I0,z,h.2.2]⟩
 |some r=>
  obtain⟨j,v⟩:=r;simp only[UM] at h⊢;obtain⟨p,k',y',h1,G,O,Q,Z,h6,h7⟩:=h;exact⟨p+1,k',y',by omega,by simpa using G,O,by simp[lk,z,Q],Z,λy=>by simp[FY,z,h6],by simp[I0,z,h7]⟩
def Qz7{kd k y:D}{ds:List (D×D)}{i:Nat}{v:Value}(z:D.beq kd k=true)(G:rd ok hp y v):UM kd ((k,y)::ds) i ok hp (some (i,v)):=
 ⟨0,k,y,rfl,rfl,z,by simp[lk,z],G,λy'=>by simp[FY,z],by simp[I0,z]⟩
def Qh4{t:TypeId}{G:KT}(Z:Bp P t=some G){kd:D}{Q:Value}(hf:G.fit kd=true)(hr:rd ok hp kd Q):
 ∀(ds:List (D×D)) (es:List MapEntry) (i:Nat),(∀e∈ds,G.fit e.1=true)->rde ok hp ds es-> ∃r,(Instr.findAsking t Q es i).run P w= .ok r w/\UM kd ds i ok hp r
 |[],es,i,_,h=>by
  simp only[rde] at h;subst h;exact⟨none,by simp[Instr.findAsking],by simp[UM,lk,FY,I0]⟩
 |(k,y)::ds,es,i,z,h=>by
  simp only[rde] at h;obtain⟨e,es,rfl,h1,h2,h3⟩:=h;have O:(Op.equal t Q e.key).run P w= .ok (D.beq kd k) w:=L6 5 10000 (by omega) t G Z kd k _ _ hf (z (k,y) (by simp)) hr h1;simp only[Instr.findAsking,Sem.run_bind,O,Result.andThen_ok];cases hb:D.beq kd k with
  |true=>exact⟨_,by simp,Qz7 hb h2⟩
  |false=>
   obtain⟨r,h4,h5⟩:=Qh4 Z hf hr ds es (i+1) (λe O=>z e (by simp[O])) h3;exact⟨r,by simpa using h4,Qq2 hb h5⟩
def Qmm{t:TypeId}{u:TypeDesc}{kt:KT}(hk:Bp P t=some kt)(ha:kt.agg=false)(hu:P.underlying t=some u){kd:D}{kv:Value}(hf:kt.fit kd=true)(hr:rd ok hp kd kv):
 ∀(ds:List (D×D)) (es:List MapEntry) (i:Nat),(∀e∈ds,kt.fit e.1=true)->rde ok hp ds es-> ∃r,Instr.findNow u kv es i=some r/\UM kd ds i ok hp r
 |[],es,i,_,h=>by
  simp only[rde] at h;subst h;exact⟨none,by simp[Instr.findNow],by simp[UM,lk,FY,I0]⟩
 |(k,y)::ds,es,i,O,h=>by
  simp only[rde] at h;obtain⟨e,es,rfl,h1,h2,h3⟩:=h;have he:Instr.sameNow u kv e.key=some (D.beq kd k):=by
   obtain⟨q,hq,z⟩:=qC hk ha;have G:=O _ (BM);simp only[KT.fit,ha,hq,Bw,ET] at hf G;generalize e.key=ek at h1⊢;rcases cG hf hr with ⟨j,a,Q,rfl,rfl⟩|⟨a,Q,rfl,rfl⟩|⟨a,Q,rfl,rfl⟩<;>
    rcases cG G h1 with ⟨j2,b,Z,rfl,rfl⟩|⟨b,Z,rfl,rfl⟩|⟨b,Z,rfl,rfl⟩<;>rw[Q] at Z<;>cases Z<;>
    rcases z with ⟨_,e3,z⟩|⟨e3,z⟩|⟨e3,z⟩<;>rw[Q] at e3<;>cases e3<;>rw[hu] at z<;>obtain rfl:=AE z<;>simp[Instr.sameNow,D.beq]
  simp only[Instr.findNow,he];cases hb:D.beq kd k with
  |true=>exact⟨_,rfl,Qz7 hb h2⟩
  |false=>
   obtain⟨r,h4,h5⟩:=Qmm hk ha hu hf hr ds es (i+1) (λe he=>O e (by simp[he])) h3;exact⟨r,h4,Qq2 hb h5⟩
def uR{t:TypeId}{Z:KT}(Q:Bp P t=some Z){kd:D}{kv:Value}(hf:Z.fit kd=true)(hr:rd ok hp kd kv)(ds:List (D×D))(es:List MapEntry)(G: ∀e∈ds,Z.fit e.1=true)
 (h:rde ok hp ds es): ∃r,(Instr.findKey t kv es).run P w= .ok r w/\UM kd ds 0 ok hp r:=by
 cases ha:Z.agg with
 |true=>
  obtain⟨m0,O,ac,z,ad,ab⟩:=wE Q ha;rw[run_findKey_eq w (by simp[z])];exact Qh4 Q hf hr ds es 0 G h
 |false=>
  obtain⟨k,aa,z⟩:=qC Q ha;obtain⟨u,z⟩: ∃u,P.underlying t=some u:=by rcases z with ⟨j,_,z⟩|⟨_,z⟩|⟨_,z⟩<;>exact⟨_,z⟩
  obtain⟨r,h1,h2⟩:=Qmm Q ha z hf hr ds es 0 G h;exact⟨r,by simp[Instr.findKey,run_underlying z,h1],h2⟩
end
end
def vH{P:Program}{w:World}{b:Nat}{es es':Array MapEntry}{clock c':Nat}(h:w.heap[b]? =some (.map es clock)):
 ∃w',(setObj b (.map es' c')).run P w= .ok () w'/\w'.heap=w.heap.setIfInBounds b (.map es' c')/\w'.os=w.os/\w'.tape=w.tape/\w'.output=w.output:=by
 refine⟨{w with heap:=w.heap.setIfInBounds b (.map es' c')},?_,rfl,rfl,rfl,rfl⟩;exact MapKept.run_setObj_map _ h
section
variable {P:Program}{tm:List (Nat×AV)}{h:Nat->Option Aq}{nx:Nat}{o:Oper}{K:Ai}
def OG{op:BinOp}{T U:TypeId}{x y:Operand}{a b:List D}(ho:o.op= .binOp op T x y U)(hx:Aw tm x= .im (.agg a))(hy:Aw tm y= .im (.agg b))
 (z:pR P T op a b K (Bp P T)):BJ P tm h nx o K:=by
 cases hkt:Bp P T with
 |none=>rw[hkt] at z;exact z.elim
 |some kt=>
 rw[hkt] at z;simp only[pR] at z;obtain⟨ad,af,hg,z⟩:=z;have Z:op= .eql\/op= .neq:=by cases op<;>first|exact .inl rfl|exact .inr rfl|exact z.elim
 have ag:K (.im (.bool (decide (op= .neq) !=D.beql a b))) {}:=by
  rcases Z with rfl|rfl
  .simpa[pV] using z
  .simpa[pV] using z
 refine⟨_,_,B5.pure (u:=[]) ?_,ag⟩;intro C S ac hW _ G;have O:=G x (by rw[ho];simp[Op.operands]);have Q:=G y (by rw[ho];simp[Op.operands]);rw[hx] at O;rw[hy] at Q;simp only[Aa] at O Q;refine⟨.bool (decide (op= .neq) !=D.beql a b),?_,by simp only[Aa,rd]⟩;have he:=L6 (P:=P) (w:=S.w) 5 10000 (by omega) T kt hkt _ _ _ _ ad af O Q;simp only[rd] at O Q;obtain⟨xs,aa,_⟩:=O;obtain⟨ys,ab,_⟩:=Q;rw[aa,ab] at he;simp only[execOp,ho,aa,ab,Sem.run_bind,run_eqGuard_agg S.w op T x y xs ys hg,Result.andThen_ok];rcases Z with rfl|rfl
 .simp[run_eql_struct,he,D.beq]
 .simp[run_neq_struct,he,D.beq]
def Qqm{T k e:TypeId}{kt:KT}(hu:P.underlying T=some (.map k e))(aa:Bp P k=some kt){kd:D}{kv:Value}(O:kt.fit kd=true)
 {Q:Nat->Prop}{hp:Nat->Option Obj}(hr:rd Q hp kd kv){w:World}{b:Nat}{G:Array MapEntry}{clock:Nat}(hb:w.heap[b]? =some (.map G clock)){es:List (D×D)}(ac: ∀e∈es,kt.fit e.1=true)
 (ab:rde Q hp es G.toList)(ok:Bool):
 (∃y v,lk es kd=some y/\rd Q hp y v/\(Instr.lookup T (.map (some b)) kv ok).run P w= .ok (if ok then .tuple #[v,.bool true] else v) w)\/
 (lk es kd=none/\ ∀z,(zeroValue e).run P w= .ok z w->(Instr.lookup T (.map (some b)) kv ok).run P w= .ok (if ok then .tuple #[z,.bool false] else z) w):=by
 obtain⟨r,h1,h2⟩:=uR (w:=w) aa O hr es G.toList ac ab;have Z:=vC (P:=P) (w:=w) (em:=G.isEmpty) 5 10000 (by omega) k kt aa kd kv O hr;cases r with
 |none=>
  refine .inr ⟨h2.1,λz hz=> ?_⟩;simp[Instr.lookup,run_underlying hu,Pq (w:=w) hb,Z,h1,hz]
 |some r=>
  obtain⟨j,v⟩:=r;obtain⟨p,k',y,_,_,_,h4,h5,_⟩:=h2;refine .inl ⟨y,v,h4,h5,?_⟩;simp[Instr.lookup,run_underlying hu,Pq (w:=w) hb,Z,h1]
def Qabs{T k e:TypeId}{Z:KT}(hu:P.underlying T=some (.map k e))(O:Bp P k=some Z){kd:D}{kv:Value}(G:Z.fit kd=true)
 {aa:Nat->Prop}{hp:Nat->Option Obj}(hr:rd aa hp kd kv){w:World}(ok:Bool){z:Value}(hz:(zeroValue e).run P w= .ok z w):
 (Instr.lookup T (.map none) kv ok).run P w= .ok (if ok then .tuple #[z,.bool false] else z) w:=by
 obtain⟨r,h1,h2⟩:=uR (w:=w) O G hr [] [] (by simp) (by simp only[rde]);have Q:=vC (P:=P) (w:=w) (em:=true) 5 10000 (by omega) k Z O kd kv G hr;cases r with
 |none=>simp[Instr.lookup,run_underlying hu,Q,h1,hz]
 |some r=>
  obtain⟨j,v⟩:=r;obtain⟨p,k',y,_,h3,_⟩:=h2;simp at h3
def Qx8{S:Ay}{d:D}{v:Value}(ok b:Bool)(h:rd S.ok S.hp d v):Aa S (bif ok then .tup [.im d,.im (.bool b)] else .im d) (if ok then .tuple #[v,.bool b] else v):=by
 cases ok with
 |false=>simpa only[B8,CE,Cy,Aa] using h
 |true=>
  simp only[Ca,BI,Aa];exact⟨_,rfl,by simp[AM,Aa,rd,h]⟩
def Qabg{T:TypeId}{m k:Operand}{ok:Bool}(ho:o.op= .lookup T m k ok)(O:Bc (wN P h (Aw tm m) (Aw tm k) ok K) (tI P T)):BJ P tm h nx o K:=by
 cases hT:tI P T with
 |none=>rw[hT] at O;exact O.elim
 |some ti=>
 rw[hT] at O;simp only[Bc,wN] at O;cases hf:ti.kind<;>rw[hf] at O<;>try exact O.elim
 rename_i kT e;have hu:=iR hT hf;cases hkv:Aw tm k<;>rw[hkv] at O<;>try exact O.elim
 rename_i kd;simp only[luK] at O;cases hE:tI P e with
 |none=>rw[hE] at O;exact O.elim
 |some te=>
 rw[hE] at O;simp only[Bc,luE] at O;cases ag:Bp P kT with
 |none=>rw[ag] at O;exact O.elim
 |some kt=>
 rw[ag] at O;simp only[Xu] at O;obtain⟨af,O⟩:=O;have am: ∀(S:Ay) (a:Act),(∀x∈o.op.operands,Aa S (Aw tm x) (a.eval x))->rd S.ok S.hp kd (a.eval k):=by
  intro S a G
  have:=G k (by rw[ho];simp[Op.operands])
  rw[hkv] at this;simpa only[Aa] using this
 have ai: ∀{u:List Nat} {es:List (D×D)},(∀e∈es,kt.fit e.1=true)->
  (∀(C:AX) (S:Ay) (a:Act),Wf C S->(∀n∈u,S.h n=h n)->(∀x∈o.op.operands,Aa S (Aw tm x) (a.eval x))-> ∃b aa Q,a.eval m= .map (some b)/\S.hp b=some (.map aa Q)/\rde S.ok S.hp es aa.toList)->
  FD es kd (yC ok {use:=u} K) (I6 te ok {use:=u} K)->BJ P tm h nx o K:=by
  intro u es ac hm O;obtain⟨av,aw⟩:=O;cases hl:lk es kd with
  |some y=>
   refine⟨_,_,B5.pure (u:=u) ?_,av y hl⟩;intro C S a hW ab G;obtain⟨b,aa,Q,hv,hb,ak⟩:=hm C S a hW ab G;rcases Qqm hu ag af (am S a G) hb ac ak ok with ⟨y',v,Z,h2,h3⟩|⟨Z,_⟩
   .rw[hl] at Z;obtain rfl:=AE Z;refine⟨_,?_,Qx8 ok true h2⟩;simp only[execOp,ho,hv];simp[h3]
   .rw[hl] at Z;cases Z
  |none=>
   obtain⟨aq,ax,au,O⟩:=aw hl;obtain⟨z,an,_,_,ao⟩:=Qrg hE aq au;refine⟨_,_,B5.pure (u:=u) ?_,O⟩;intro C S a hW ab G;obtain⟨b,aa,Q,hv,hb,ak⟩:=hm C S a hW ab G;rcases Qqm hu ag af (am S a G) hb ac ak ok with ⟨y',v,Z,h2,h3⟩|⟨Z,h2⟩
   .rw[hl] at Z;cases Z
   .refine⟨_,?_,Qx8 ok false (ao S.ok S.hp)⟩;simp only[execOp,ho,hv];simp[h2 z (an _)]
 cases hm:Aw tm m<;>rw[hm] at O<;>try exact O.elim
 case im d=>
  cases d<;>try exact O.elim
  case nilm=>
   simp only[cV] at O;obtain⟨aq,ax,au,O⟩:=O;obtain⟨z,an,_,_,ao⟩:=Qrg hE aq au;refine⟨_,_,B5.pure (u:=[]) ?_,O⟩;intro C S a hW ab G;have Z:=G m (by rw[ho];simp[Op.operands]);rw[hm] at Z;simp only[Aa,rd] at Z;refine⟨_,?_,Qx8 ok false (ao S.ok S.hp)⟩;simp only[execOp,ho,Z];simp[Qabs hu ag af (am S a G) ok (an S.w)]
  case mp ah es=>
   simp only[cV] at O;obtain⟨rfl,O⟩:=O;by_cases ac: ∀e∈es,ah.fit e.1=true
   .refine ai (u:=[]) ac ?_ O;intro C S a hW _ G;have Z:=G m (by rw[ho];simp[Op.operands]);rw[hm] at Z;simp only[Aa,rd] at Z;obtain⟨b,aa,Q,h2,_,_,h3,h4,_⟩:=Z;exact⟨b,aa,Q,h2,h3,h4⟩
   .cases hl:lk es kd with
    |some y=>
     refine⟨_,_,B5.pure (u:=[]) ?_,O.1 y hl⟩;intro C S a hW _ G;have Z:=G m (by rw[ho];simp[Op.operands]);rw[hm] at Z;simp only[Aa,rd] at Z;obtain⟨_,_,_,_,h2,_⟩:=Z;exact absurd h2 ac
    |none=>
     obtain⟨_,_,_,O⟩:=O.2 hl;refine⟨_,_,B5.pure (u:=[]) ?_,O⟩;intro C S a hW _ G;have Z:=G m (by rw[ho];simp[Op.operands]);rw[hm] at Z;simp only[Aa,rd] at Z;obtain⟨_,_,_,_,h2,_⟩:=Z;exact absurd h2 ac
 case mp n=>
  simp only[cV] at O;cases hn:h n with
  |none=>rw[hn] at O;exact O.elim
  |some aj=>
  rw[hn] at O;obtain⟨mu,aj⟩:=aj;cases aj<;>try exact O.elim
  rename_i ah es;simp only[Sl] at O;obtain⟨rfl,O⟩:=O;have ad: ∀(C:AX) (S:Ay),Wf C S->(∀n'∈[n],S.h n'=h n')->S.h n=some (mu,.map ah es)/\Au S (S.ρ n) (.map ah es):=λC S hW ab=>by
   have hS:=(ab n (by simp)).trans hn;exact⟨hS,hW.obj _ _ hS⟩
  by_cases ac: ∀e∈es,ah.fit e.1=true
  .refine ai (u:=[n]) ac ?_ O;intro C S a hW ab G;have Z:=G m (by rw[ho];simp[Op.operands]);rw[hm] at Z;obtain⟨hS,ad⟩:=ad C S hW ab;simp only[Aa] at Z;obtain⟨l,hl,hv⟩:=Z.2 _ hS;simp only[Au] at ad;obtain⟨lc,aa,Q,h2,_,h3,h4,_⟩:=ad;rw[hl] at h2;obtain rfl:=AE h2;exact⟨l.b,aa,Q,hv,h3,h4⟩
  .cases hl:lk es kd with
   |some y=>
    refine⟨_,_,B5.pure (u:=[n]) ?_,O.1 y hl⟩;intro C S a hW ab _
    have:=(ad C S hW ab).2
    simp only[Au] at this;obtain⟨_,_,_,_,h2,_⟩:=this;exact absurd h2 ac
   |none=>
    obtain⟨_,_,_,O⟩:=O.2 hl;refine⟨_,_,B5.pure (u:=[n]) ?_,O⟩;intro C S a hW ab _
    have:=(ad C S hW ab).2
    simp only[Au] at this;obtain⟨_,_,_,_,h2,_⟩:=this;exact absurd h2 ac
end
def Mc{ok:Nat->Prop}{hp:Nat->Option Obj}{kd y:D}{kv v:Value}(Q:rd ok hp kd kv)(Z:rd ok hp y v):
 ∀(p:Nat) (ds:List (D×D)) (es:List MapEntry),rde ok hp ds es->rde ok hp (ds.set p (kd,y)) (es.modify p λe=>{e with key:=kv,val:=v})
 |_,[],es,h=>by
  simp only[rde] at h;subst h;simp[rde]
 |0,(a,b)::ds,es,h=>by
  simp only[rde] at h;obtain⟨e,r,rfl,G,O,z⟩:=h;simp only[Za,List.modify_zero_cons,rde];exact⟨_,r,rfl,Q,Z,z⟩
 |p+1,(a,b)::ds,es,h=>by
  simp only[rde] at h;obtain⟨e,r,rfl,G,O,z⟩:=h;simp only[jC,List.modify_succ_cons,rde];exact⟨e,_,rfl,G,O,Mc Q Z p ds r z⟩
def kQ{ok:Nat->Prop}{hp:Nat->Option Obj}{kd y:D}{e:MapEntry}(z:rd ok hp kd e.key)(G:rd ok hp y e.val):
 ∀(ds:List (D×D)) (es:List MapEntry),rde ok hp ds es->rde ok hp (ds++[(kd,y)]) (es++[e])
 |[],es,h=>by
  simp only[rde] at h;subst h;simp only[GM,rde];exact⟨e,[],rfl,z,G,rfl⟩
 |(a,b)::ds,es,h=>by
  simp only[rde] at h;obtain⟨e',r,rfl,O,Q,Z⟩:=h;simp only[CX,rde];exact⟨e',_,rfl,O,Q,kQ z G ds r Z⟩
def Qpa{ok:Nat->Prop}{hp:Nat->Option Obj}:
 ∀(p:Nat) (ds:List (D×D)) (es:List MapEntry),rde ok hp ds es->rde ok hp (ds.eraseIdx p) (es.eraseIdx p)
 |_,[],es,h=>by
  simp only[rde] at h;subst h;simp[rde]
 |0,(a,b)::ds,es,h=>by
  simp only[rde] at h;obtain⟨e,r,rfl,G,O,z⟩:=h;simpa only[ZeC] using z
 |p+1,(a,b)::ds,es,h=>by
  simp only[rde] at h;obtain⟨e,r,rfl,G,O,z⟩:=h;simp only[iX,rde];exact⟨e,_,rfl,G,O,Qpa p ds r z⟩
def Qpy(p:Nat)(z v:Value): ∀(es:List MapEntry),(es.modify p λe=>{e with key:=z,val:=v}).map (·.born)=es.map (·.born):=by
 induction p with
 |zero=>intro es;cases es<;>simp
 |succ p ih=>intro es;cases es with
  |nil=>simp
  |cons e es=>simp[ih]
def Qpj(a b:ByteArray):(a==b)=decide (a=b):=by rw[beq_toListBytes,Qry]
def Qoy{ok ok':Nat->Prop}{hp hp':Nat->Option Obj}: ∀(ks:List KK) (a b:List D) (x y:List Value),Bw ks a=true->Bw ks b=true->rdl ok hp a x->rdl ok' hp' b y->D.beql a b=true->x=y
 |[],[],[],x,y,_,_,z,G,_=>by simp only[rdl] at z G;rw[z,G]
 |[],_::_,_,_,_,h,_,_,_,_=>by simp[Bw] at h
 |[],[],_::_,_,_,_,h,_,_,_=>by simp[Bw] at h
 |_::_,[],_,_,_,h,_,_,_,_=>by simp[Bw] at h
 |_::_,_::_,[],_,_,_,h,_,_,_=>by simp[Bw] at h
 |k::ks,d::a,d'::b,x,y,hf,Z,z,G,hb=>by
  simp only[Bw,AS] at hf Z;simp only[rdl] at z G;simp only[D.beql,AS] at hb;obtain⟨v,r,rfl,h3,h4⟩:=z;obtain⟨v',r',rfl,h5,h6⟩:=G;rw[Qoy ks a b r r' hf.2 Z.2 h4 h6 hb.2];congr 1;rcases cG hf.1 h3 with ⟨j,n,Q,rfl,rfl⟩|⟨n,Q,rfl,rfl⟩|⟨n,Q,rfl,rfl⟩<;>
   rcases cG Z.1 h5 with ⟨j2,n2,O,rfl,rfl⟩|⟨n2,O,rfl,rfl⟩|⟨n2,O,rfl,rfl⟩<;>rw[Q] at O<;>cases O<;>simp_all [D.beq,Qpj]
def KN{ok:Nat->Prop}{hp:Nat->Option Obj}{n:Nat}{k:KK}{d:D}{v:Value}(hf:k.fit d=true)(h:rd ok hp d v):Instr.sameBits n v v=true:=by
 rcases cG hf h with ⟨j,m,z,rfl,rfl⟩|⟨m,z,rfl,rfl⟩|⟨m,z,rfl,rfl⟩<;>simp[Instr.sameBits,Qpj]
def QJ{ok:Nat->Prop}{hp:Nat->Option Obj}{n:Nat}: ∀(ks:List KK) (a:List D) (x:List Value),Bw ks a=true->rdl ok hp a x->(x.zip x).all (λ(x,y)=>Instr.sameBits n x y)=true
 |[],[],x,_,h=>by simp only[rdl] at h;subst h;rfl
 |[],_::_,_,h,_=>by simp[Bw] at h
 |_::_,[],_,h,_=>by simp[Bw] at h
 |k::ks,d::a,x,hf,h=>by
  simp only[Bw,AS] at hf;simp only[rdl] at h;obtain⟨v,r,rfl,z,G⟩:=h;simp only[List.zip_cons_cons,Je,AS];exact⟨KN hf.1 z,QJ ks a r hf.2 G⟩
def NZ{P:Program}{w:World}{ok ok':Nat->Prop}{hp hp':Nat->Option Obj}{Z:KT}{a b:D}{x y:Value}(z:Z.fit a=true)(Q:Z.fit b=true)(G:rd ok hp a x)(O:rd ok' hp' b y)(hb:D.beq a b=true):
 (Instr.keyThatStays y x).run P w= .ok x w:=by
 have aa:x=y/\Instr.sameBits 10000 x x=true:=by
  cases ha:Z.agg with
  |true=>
   cases a<;>simp only[KT.fit,ha,CE] at z;cases b<;>simp only[KT.fit,ha,CE] at Q;simp only[rd] at G O;obtain⟨u,rfl,G⟩:=G;obtain⟨v,rfl,O⟩:=O;simp only[D.beq] at hb
   have:=Qoy _ _ _ _ _ z Q G O hb
   refine⟨by rw[Zd] at this;rw[this],?_⟩;show (u.size==u.size && (u.toList.zip u.toList).all λ(x,y)=>Instr.sameBits 9999 x y)=true;rw[QJ _ _ _ z G];simp
  |false=>
   simp only[KT.fit,ha] at z Q;have hx:rdl ok hp [a] [x]:=by simp only[rdl];exact⟨x,[],rfl,G,rfl⟩
   have hy:rdl ok' hp' [b] [y]:=by simp only[rdl];exact⟨y,[],rfl,O,rfl⟩
   have:=Qoy _ _ _ _ _ z Q hx hy (by simp[D.beql,hb])
   refine⟨by simpa using this,?_⟩;cases hks:Z.ks with
   |nil=>rw[hks] at z;simp[Bw] at z
   |cons k r=>
    rw[hks] at z;simp only[Bw,AS] at z;exact KN z.1 G
 obtain⟨rfl,h5⟩:=aa;simp[Instr.keyThatStays,h5]
def Lb{O:KT}{kd y:D}(G:O.fit kd=true): ∀(ds:List (D×D)),(∀e∈ds,O.fit e.1=true)-> ∀e∈FY ds kd y,O.fit e.1=true
 |[],_=>by simp[FY,G]
 |(a,b)::ds,h=>by
  have ih:=Lb (y:=y) G ds (λe z=>h e (by simp[z]));simp only[FY];cases D.beq kd a with
  |true=>
   simp only[Ca,Bi];rintro e (rfl|z)
   .exact G
   .exact h e (by simp[z])
  |false=>
   simp only[B8,Bi];rintro e (rfl|z)
   .exact h _ (by simp)
   .exact ih e z
def La{G:KT}{kd:D}: ∀(ds:List (D×D)),(∀e∈ds,G.fit e.1=true)-> ∀e∈I0 ds kd,G.fit e.1=true
 |[],_=>by simp[I0]
 |(a,b)::ds,h=>by
  have ih:=La (kd:=kd) ds (λe z=>h e (by simp[z]));simp only[I0];cases D.beq kd a with
  |true=>
   simp only[Ca];intro e z;exact h e (by simp[z])
  |false=>
   simp only[B8,Bi];rintro e (rfl|z)
   .exact h _ (by simp)
   .exact ih e z
section
variable {P:Program}{tm:List (Nat×AV)}{h:Nat->Option Aq}{nx:Nat}{o:Oper}{K:Ai}
def Sp{n:Nat}{Q:KT}{es es':List (D×D)}(hn:h n=some (true,.map Q es))(ab:(∀e∈es,Q.fit e.1=true)-> ∀e∈es',Q.fit e.1=true)
 (ah: ∀(S:Ay) (a:Act) (b:Nat) (O:Array MapEntry) (clock:Nat),(∀x∈o.op.operands,Aa S (Aw tm x) (a.eval x))->(∀v,Aa S (.mp n) v->v= .map (some b))->
  (∀e∈es,Q.fit e.1=true)->S.w.heap[b]? =some (.map O clock)->rde S.ok S.hp es O.toList->(O.toList.map (·.born)).Nodup->(∀e∈O.toList,e.born<clock)->
  ∃z G w',((execOp a.eval o).run P S.w= .ok .skip w'\/ ∃v,(execOp a.eval o).run P S.w= .ok (.value v) w')/\w'.heap=S.w.heap.setIfInBounds b (.map z G)/\w'.os=S.w.os/\w'.tape=S.w.tape/\w'.output=S.w.output/\
   rde S.ok S.hp es' z.toList/\(z.toList.map (·.born)).Nodup/\(∀e∈z.toList,e.born<G))
 (hk:K .any {use:=[n],kill:=[n],new:=[(n,(true,.map Q es'))]}):BJ P tm h nx o K:=by
 refine⟨_,_,B5.one (u:=[n]) (ks:=[n]) (m:=n) (cnt:=0) (.inr ⟨rfl,by simp,by rw[hn];simp⟩) ?_,hk⟩;intro C S a hW hu _ _ ag;have hS:S.h n=some (true,.map Q es):=(hu n (by simp)).trans hn;have af:=hW.obj _ _ hS;simp only[Au] at af;obtain⟨l,O,clock,hl,ac,hb,ai,aj,hcl⟩:=af;obtain⟨z,G,w',h1,h2,h3,h4,h5,h6,h7,h8⟩:=ah S a l.b O clock ag (by
  intro v hv;simp only[Aa] at hv;obtain⟨l',ad,ak⟩:=hv.2 _ hS;rw[hl] at ad;obtain rfl:=AE ad;exact ak) ac hb ai aj hcl
 have aa:IZ S n (.map Q es') (some l) [n] w':=cD hW hS hl h2 h3 h4 h5 rfl rfl;have Z:Bx (λn'=>S.h n≠none\/n'≠n) S (S.one n (.map Q es') (some l) [n] w')->Au (S.one n (.map Q es') (some l) [n] w') (some l) (.map Q es'):=by
  intro hp;simp only[Au];exact⟨l,z,G,rfl,ab ac,cL (hW.loc n _ l hS hl).1 h2,Kw hp.ok _ _ h6,h7,h8⟩
 rcases h1 with h1|⟨v,h1⟩
 .exact⟨undef,w',some l,.inr ⟨h1,rfl⟩,aa,λhp=>⟨Z hp,by simp only[Aa]⟩⟩
 .exact⟨v,w',some l,.inl h1,aa,λhp=>⟨Z hp,by simp only[Aa]⟩⟩
def Qjd{T:TypeId}{m k v:Operand}{ti:TI}{n:Nat}{kd vd:D}(ho:o.op= .mapUpdate T m k v)(hT:tI P T=some ti)(hm:Aw tm m= .mp n)(ak:Aw tm k= .im kd)(ao:Aw tm v= .im vd)(Q:JY P h n kd vd K ti.kind):BJ P tm h nx o K:=by
 cases hf:ti.kind<;>rw[hf] at Q<;>try exact Q.elim
 rename_i kT e;have hu:=iR hT hf;simp only[JY] at Q;cases hkt:Bp P kT with
 |none=>rw[hkt] at Q;exact Q.elim
 |some kt=>
 rw[hkt] at Q;simp only[Sx] at Q;cases hn:h n with
 |none=>rw[hn] at Q;exact Q.elim
 |some ad=>
 rw[hn] at Q;obtain⟨mu,ad⟩:=ad;cases mu<;>cases ad<;>try exact Q.elim
 rename_i av es;simp only[Sy] at Q;obtain⟨rfl,Z,Q⟩:=Q;refine Sp hn (Lb Z es) ?_ Q;intro S a b G clock aa aq ag hb ac ah hcl;have h1:=aq _ (by have:=aa m (by rw[ho];simp[Op.operands]);rwa [hm] at this);have h2:=aa k (by rw[ho];simp[Op.operands]);have h3:=aa v (by rw[ho];simp[Op.operands]);rw[ak] at h2;rw[ao] at h3;simp only[Aa] at h2 h3;obtain⟨r,h4,h5⟩:=uR (w:=S.w) hkt Z h2 es G.toList ag ac;have af:=vC (P:=P) (w:=S.w) (em:=false) 5 10000 (by omega) kT av hkt kd _ Z h2;cases r with
 |none=>
  obtain⟨w',h6,h7⟩:=vH (P:=P) (w:=S.w) (b:=b) (es:=G) (es':=G.push {key:=a.eval k,val:=a.eval v,born:=clock}) (clock:=clock) (c':=clock+1) hb;refine⟨_,_,w',.inl ?_,h7.1,h7.2.1,h7.2.2.1,h7.2.2.2,?_,?_,?_⟩
  .simp only[execOp,ho,h1];simp[Instr.mapUpdate,run_underlying hu,Pq (w:=S.w) hb,af,h4,h6]
  .rw[h5.2.1,yR];exact kQ h2 h3 _ _ ac
  .rw[yR,F9,US];refine⟨ah,by simp,?_⟩;intro x hx y hy;simp only[Bd,GR,BE] at hy;subst hy;simp only[Bm] at hx;obtain⟨e',O,rfl⟩:=hx
   have:=hcl e' O
   omega
  .intro e' O;rw[yR,Br,BE] at O;rcases O with O|rfl
   .have:=hcl e' O;omega
   .simp
 |some r=>
  obtain⟨j,v0⟩:=r;obtain⟨p,k',y,h6,h7,h8,h9,aw,ai,ax⟩:=h5;rw[Fh] at h6;subst h6;have hj: ∃e',G[j]? =some e'/\rd S.ok S.hp k' e'.key:=by
   have key: ∀(ds:List (D×D)) (es:List MapEntry) (p:Nat),rde S.ok S.hp ds es->ds[p]? =some (k',y)-> ∃e',es[p]? =some e'/\rd S.ok S.hp k' e'.key:=by
    intro ds;induction ds with
    |nil=>intro es p _ h;simp at h
    |cons d ds ih=>
     intro es p h hp;obtain⟨d1,d2⟩:=d;simp only[rde] at h;obtain⟨e',r,rfl,g1,g2,g3⟩:=h;cases p with
     |zero=>simp at hp;obtain⟨rfl,rfl⟩:=hp;exact⟨e',rfl,g1⟩
     |succ p=>simpa using ih r p g3 (by simpa using hp)
   obtain⟨e',g1,g2⟩:=key es G.toList j ac h7;exact⟨e',by simpa using g1,g2⟩
  obtain⟨e',O,am⟩:=hj;have an:=NZ (P:=P) (w:=S.w) Z (ag (k',y) (AY h7)) h2 am h8;obtain⟨w',aj,ab⟩:=vH (P:=P) (w:=S.w) (b:=b) (es:=G) (es':=G.modify j λe=>{e with key:=a.eval k,val:=a.eval v}) (clock:=clock) (c':=clock) hb;refine⟨_,_,w',.inl ?_,ab.1,ab.2.1,ab.2.2.1,ab.2.2.2,?_,?_,?_⟩
  .simp only[execOp,ho,h1];simp[Instr.mapUpdate,run_underlying hu,Pq (w:=S.w) hb,af,h4,O,an,aj]
  .rw[ai,Zed];exact Mc h2 h3 j _ _ ac
  .rw[Zed,Qpy];exact ah
  .intro x hx
   have:x.born∈(G.modify j λe=>{e with key:=a.eval k,val:=a.eval v}).toList.map (·.born):=rR hx
   rw[Zed,Qpy,Bm] at this;obtain⟨z,hz,au⟩:=this;rw[<-au];exact hcl z hz
def Qabh{T:TypeId}{m k:Operand}{c:Call}{rest:List TypeId}(ho:o.op= .call c)(Q:c.callee= .builtin .delete)(O:c.args= #[m,k])(an:c.argTypes.toList=T::rest)
 (G:Bc (wK P h K (Aw tm m) (Aw tm k)) (tI P T)):BJ P tm h nx o K:=by
 cases hT:tI P T with
 |none=>rw[hT] at G;exact G.elim
 |some ti=>
 rw[hT] at G;simp only[Bc,wK] at G;cases hm:Aw tm m<;>rw[hm] at G<;>try exact G.elim
 rename_i n;cases hkd:Aw tm k<;>rw[hkd] at G<;>try exact G.elim
 rename_i kd;simp only at G;cases hf:ti.kind<;>rw[hf] at G<;>try exact G.elim
 rename_i kT e;have hu:=iR hT hf;simp only[Rf] at G;cases hkt:Bp P kT with
 |none=>rw[hkt] at G;exact G.elim
 |some kt=>
 rw[hkt] at G;simp only[WJ] at G;cases hn:h n with
 |none=>rw[hn] at G;exact G.elim
 |some ac=>
 rw[hn] at G;obtain⟨mu,ac⟩:=ac;cases mu<;>cases ac<;>try exact G.elim
 rename_i aq es;simp only[Rg] at G;obtain⟨rfl,aa,G⟩:=G;have ai:c.argTypes[0]? =some T:=by
  have:c.argTypes.toList[0]? =some T:=by rw[an];rfl
  simpa using this
 refine Sp hn (La es) ?_ G;intro S a b z clock ab ao am hb ad ah hcl;have h1:=ao _ (by have:=ab m (by rw[ho];simp[Op.operands,Call.operands,O,Q]);rwa [hm] at this);have h2:=ab k (by rw[ho];simp[Op.operands,Call.operands,O,Q]);rw[hkd] at h2;simp only[Aa] at h2;obtain⟨r,h4,h5⟩:=uR (w:=S.w) hkt aa h2 es z.toList am ad;have ag:=vC (P:=P) (w:=S.w) (em:=z.isEmpty) 5 10000 (by omega) kT aq hkt kd _ aa h2;cases r with
 |none=>
  obtain⟨w',h6,h7⟩:=vH (P:=P) (w:=S.w) (b:=b) (es:=z) (es':=z) (clock:=clock) (c':=clock) hb;refine⟨_,_,w',.inr ⟨.tuple #[],?_⟩,h7.1,h7.2.1,h7.2.2.1,h7.2.2.2,by rw[h5.2.2];exact ad,ah,hcl⟩;simp only[execOp,ho,resolve,Q,O,Sem.run_bind,Sem.run_pure,Result.andThen_ok,invoke,builtin];simp[Builtin.delete_,ai,h1,run_underlying hu,Pq (w:=S.w) hb,ag,h4,h6]
 |some r=>
  obtain⟨j,v0⟩:=r;obtain⟨p,k',y,h6,h7,h8,h9,au,av,aj⟩:=h5;rw[Fh] at h6;subst h6;obtain⟨w',ak,Z⟩:=vH (P:=P) (w:=S.w) (b:=b) (es:=z) (es':=z.eraseIdxIfInBounds j) (clock:=clock) (c':=clock) hb;have af:(z.eraseIdxIfInBounds j).toList=z.toList.eraseIdx j:=by simp
  refine⟨_,_,w',.inr ⟨.tuple #[],?_⟩,Z.1,Z.2.1,Z.2.2.1,Z.2.2.2,?_,?_,?_⟩
  .simp only[execOp,ho,resolve,Q,O,Sem.run_bind,Sem.run_pure,Result.andThen_ok,invoke,builtin];simp[Builtin.delete_,ai,h1,run_underlying hu,Pq (w:=S.w) hb,ag,h4,ak]
  .rw[aj,af];exact Qpa j _ _ ad
  .rw[af];exact ah.sublist ((ZeM _ _).map _)
  .intro x hx;rw[af] at hx;exact hcl x ((ZeM _ _).mem hx)
end
def oM{ok:Nat->Prop}{hp:Nat->Option Obj}{k:Nat}: ∀(l:Nat) (rows:List (List D)) (vs:List Value),rdr ok hp k rows vs->rdr ok hp k (rows.drop l) (vs.drop (l*k))
 |0,rows,vs,h=>by simpa using h
 |l+1,[],vs,_=>by simp only[Zfe,rdr]
 |l+1,r::z,vs,h=>by
  simp only[rdr] at h
  have:=oM l z _ h.2.2
  rw[Ey] at this;simp only[P8];rwa [show (l+1)*k=k+l*k by rw[yY];omega]
def gU{ok:Nat->Prop}{hp:Nat->Option Obj}{k:Nat}: ∀(n:Nat) (rows:List (List D)) (vs:List Value),rdr ok hp k rows vs->rdr ok hp k (rows.take n) vs
 |0,rows,vs,_=>by simp only[UQ,rdr]
 |n+1,[],vs,_=>by simp only[Zfg,rdr]
 |n+1,r::z,vs,h=>by
  simp only[rdr] at h;simp only[P9,rdr];exact⟨h.1,h.2.1,gU n z _ h.2.2⟩
section
variable {P:Program}{tm:List (Nat×AV)}{h:Nat->Option Aq}{nx:Nat}{o:Oper}{K:Ai}
def QG{S:Ay}{a:Act}{x:Option Operand}{d:Nat}{l:Int}(hb:G7 d (Dv tm x)=some l)(z: ∀y,x=some y->Aa S (Aw tm y) (a.eval y)):
 (x=none/\l=d)\/ ∃y k,x=some y/\a.eval y= .int k l:=by
 cases x with
 |none=>simp only[Dv,G7,AI] at hb;exact .inl ⟨rfl,hb.symm⟩
 |some y=>
  right;have hc:=z y rfl;simp only[Dv] at hb;cases hx:Aw tm y<;>rw[hx] at hb<;>simp only[G7,reduceCtorEq] at hb;rename_i d;cases d<;>simp only[reduceCtorEq,AI] at hb;rename_i k n;subst hb;rw[hx] at hc;simp only[Aa,rd] at hc;exact⟨y,k,rfl,hc⟩
def Qq1{S:Ay}{a:Act}{lo hi:Option Operand}{l m:Int}{len cap:Nat}{isS:Bool}(ab:G7 0 (Dv tm lo)=some l)(Z:G7 len (Dv tm hi)=some m)
 (h0:0<=l)(aa:l<=m)(hm:m<=(len:Int))(ac:len<=cap)(G: ∀y,lo=some y\/hi=some y->Aa S (Aw tm y) (a.eval y))(w:World):
 (Instr.sliceBounds isS len cap (lo.map a.eval) (hi.map a.eval) none).run P w= .ok (l.toNat,m.toNat,cap) w:=by
 have h1:=QG ab (λy O=>G y (.inl O));have h2:=QG Z (λy O=>G y (.inr O));have Q:m<=(cap:Int):=by omega
 unfold Instr.sliceBounds;rcases h1 with ⟨rfl,rfl⟩|⟨y,k,rfl,O⟩<;>rcases h2 with ⟨rfl,rfl⟩|⟨z,k',rfl,hz⟩
 .simp
 .simp[Instr.sliceBound,hz,asIntOf,Q,show (0:Int)<=m by omega]
 .simp[Instr.sliceBound,O,asIntOf,h0,aa]
 .simp only[Ds,Sem.run_bind,Sem.run_pure,Result.andThen_ok];have ad:((m.toNat:Nat):Int)=m:=by omega
  simp[Instr.sliceBound,O,hz,asIntOf,h0,Q,show (0:Int)<=m by omega,show ¬(max m 0<l) by omega]
def bP{T e:TypeId}{te:TI}(hu:P.underlying T=some (.slice e))(hE:tI P e=some te){S:Ay}{a:Act}{x:Operand}{lo hi:Option Operand}{l m:Int}{len cap:Nat}{base:Option Addr}
 (ho:o.op= .slice T x lo hi none)(hx:a.eval x= .slice base len cap)(Z:G7 0 (Dv tm lo)=some l)(O:G7 len (Dv tm hi)=some m)
 (h0:0<=l)(Q:l<=m)(hm:m<=(len:Int))(z:len<=cap)(G: ∀y∈o.op.operands,Aa S (Aw tm y) (a.eval y))(w:World):
 (execOp a.eval o).run P w= .ok (.value (.slice (if cap=l.toNat then base else base.map (·.add (l.toNat*te.size))) (m.toNat - l.toNat) (cap - l.toNat))) w:=by
 have hb:=Qq1 (P:=P) (isS:=true) Z O h0 Q hm z (λy hy=>G y (by rw[ho];rcases hy with rfl|rfl<;>simp[Op.operands])) w;have aa:(underlying T).run P w= .ok (.slice e) w:=by simp[underlying,hu]
 simp only[execOp,ho,hx,Instr.sliceAt,Instr.slice,Sem.run_bind,aa,Result.andThen_ok,Option.map_none,hb,IV hE,Sem.run_pure]
def OR{T:TypeId}{x:Operand}{lo hi:Option Operand}(ho:o.op= .slice T x lo hi none)(z:Bc (xL P h nx (Aw tm x) (Dv tm lo) (Dv tm hi) K) (tI P T)):BJ P tm h nx o K:=by
 have ag:x∈o.op.operands:=by rw[ho];simp[Op.operands]
 cases hT:tI P T with
 |none=>rw[hT] at z;exact z.elim
 |some ti=>
 rw[hT] at z;simp only[Bc,xL] at z;cases hf:ti.kind<;>rw[hf] at z<;>try exact z.elim
 case str=>
  have hu:=V0 hT hf;simp only[PH] at z;cases hx:Aw tm x<;>rw[hx] at z<;>try exact z.elim
  rename_i d;cases d<;>try exact z.elim
  rename_i s;simp only[fX] at z;cases O:G7 0 (Dv tm lo) with
  |none=>rw[O] at z;exact z.elim
  |some l=>
  cases hhi:G7 s.size (Dv tm hi) with
  |none=>rw[O,hhi] at z;exact z.elim
  |some m=>
  rw[O,hhi] at z;simp only[IN] at z;obtain⟨h0,ac,hm,z⟩:=z;refine⟨_,_,B5.pure (u:=[]) ?_,z⟩;intro C S a hW _ G;have Z:=G x ag;rw[hx] at Z;simp only[Aa,rd] at Z;refine⟨.string (s.extract l.toNat m.toNat),?_,by simp only[Aa,rd]⟩;have hb:=Qq1 (P:=P) (isS:=false) O hhi h0 ac hm (AN _) (λy hy=>G y (by rw[ho];rcases hy with rfl|rfl<;>simp[Op.operands])) S.w;have ai:(underlying T).run P S.w= .ok .string S.w:=by simp[underlying,hu]
  simp only[execOp,ho,Z,Instr.sliceAt,Instr.slice,Sem.run_bind,ai,Result.andThen_ok,Option.map_none,Zb,CE,Cy,hb,Sem.run_pure]
 case slice e=>
 have hu:=Pt hT hf;simp only[PH] at z;cases hE:tI P e with
 |none=>rw[hE] at z;exact z.elim
 |some te=>
 rw[hE] at z;simp only[Bc] at z;cases hx:Aw tm x<;>rw[hx] at z<;>try exact z.elim
 case im d=>
  cases d<;>try exact z.elim
  rename_i nz k rows;simp only[tY] at z;obtain⟨af,z⟩:=z;cases O:G7 0 (Dv tm lo) with
  |none=>rw[O] at z;exact z.elim
  |some l=>
  cases hhi:G7 rows.length (Dv tm hi) with
  |none=>rw[O,hhi] at z;exact z.elim
  |some m=>
  rw[O,hhi] at z;simp only[TM] at z;obtain⟨h0,ac,hm,z⟩:=z;refine⟨_,_,B5.pure (u:=[]) ?_,z⟩;intro C S a hW _ G;have Z:=G x ag;rw[hx] at Z;simp only[Aa,rd] at Z;have Q:((rows.drop l.toNat).take (m - l).toNat).length=m.toNat - l.toNat:=by
   rw[Ci,Cx];omega
  rcases Z with ⟨au,rfl⟩|⟨b,p,cap,vs,U,fr,Z,h2,h3,h4,h5,h6,h7⟩
  .simp only[G5] at hm hhi;obtain⟨ao,Z⟩:=pT au;refine⟨_,bP hu hE ho Z O hhi h0 ac hm (AN 0) G S.w,?_⟩;have e1:l.toNat=0:=by omega
   have e2:m.toNat=0:=by omega
   simp only[Aa,rd,e1,e2];refine .inl ⟨?_,by simp⟩;cases ao with
   |none=>exact .inl (by simp)
   |some ad=>exact .inr ⟨rfl,ad,by simp⟩
  .refine⟨_,bP hu hE ho Z O hhi h0 ac hm h3 G S.w,?_⟩;simp only[Aa,rd];right;by_cases hc:cap=l.toNat
   .refine⟨b,p,cap - l.toNat,vs,U,fr,by rw[Ao hc,Q],by simp,by rw[Q];omega,by rw[Q];exact Dt (by omega) h4,h5,h6,?_⟩
    have:(rows.drop l.toNat).take (m - l).toNat=[]:=rM (by rw[Q];omega)
    rw[this];simp only[rdr]
   .refine⟨b,p+l.toNat*te.size,cap - l.toNat,vs,U,fr,by rw[Ag hc,Q];simp[Addr.add],by simp,by rw[Q];omega,by rw[Q];omega,h5,h6,?_⟩;rcases af with af|af
    .subst af
     have:=gU (m - l).toNat _ _ (oM l.toNat _ _ h7)
     rwa [Ey] at this
    .subst af;simp only[Zfe,Zfg,rdr]
 case own n=>
  simp only[tY] at z;cases hn:h n with
  |none=>rw[hn] at z;exact z.elim
  |some am=>
  rw[hn] at z;obtain⟨mu,am⟩:=am;cases am<;>try exact z.elim
  rename_i U k rows;simp only[TN] at z;obtain⟨af,z⟩:=z;cases O:G7 0 (Dv tm lo) with
  |none=>rw[O] at z;exact z.elim
  |some l=>
  cases hhi:G7 rows.length (Dv tm hi) with
  |none=>rw[O,hhi] at z;exact z.elim
  |some m=>
  rw[O,hhi] at z;simp only[IP] at z;obtain⟨h0,ac,hm,mv,z⟩:=z;have Q:((rows.drop l.toNat).take (m - l).toNat).length=m.toNat - l.toNat:=by
   rw[Ci,Cx];omega
  cases mv with
  |false=>
   simp only[qO] at z;refine⟨_,_,B5.pure (u:=[n]) ?_,z⟩;intro C S a hW ai G;have Z:=G x ag;rw[hx] at Z;simp only[Aa] at Z;have hS:=(ai n (by simp)).trans hn;have Z:=Z.2 _ hS;have aa:=hW.obj _ _ hS;simp only[Au] at aa;cases hl0:S.ρ n with
   |none=>
    rw[hl0] at Z aa;obtain⟨_,aa⟩:=aa;subst aa;simp only[G5] at hm hhi;refine⟨_,bP hu hE ho Z O hhi h0 ac hm (AN 0) G S.w,?_⟩;simp only[Aa];refine⟨rfl,λe' ab=> ?_⟩;rw[hl0];unfold Pn;have e1:l.toNat=0:=by omega
    have e2:m.toNat=0:=by omega
    have e3:(m - l).toNat=0:=by omega
    simp[e1,e2,e3]
   |some lc=>
    rw[hl0] at Z aa;obtain⟨g0,g1,vs,g2,g3,g4⟩:=aa;simp only[Ad.len] at Z;refine⟨_,bP hu hE ho Z O hhi h0 ac hm g1 G S.w,?_⟩;simp only[Aa];refine⟨rfl,λe' ab=> ?_⟩;rw[hS] at ab;obtain rfl:=AE ab;rw[hl0];unfold Pn;simp only[Ad.esz,Ad.len];by_cases hc:lc.cap=l.toNat
    .rw[Ao hc];exact⟨lc.p,lc.cap - l.toNat,by congr 1;omega,by omega,λaw=>absurd (show (m - l).toNat=0 by omega) aw,by omega⟩
    .rw[Ag hc];exact⟨lc.p+l.toNat*te.size,lc.cap - l.toNat,by rw[show m.toNat - l.toNat=(m - l).toNat by omega];simp[Addr.add],by omega,λ_=>by rw[af],by omega⟩
  |true=>
   simp only[qO] at z;obtain⟨rfl,z⟩:=z;refine⟨_,_,B5.one (u:=[n]) (ks:=[n]) (.inl ⟨rfl,rfl⟩) ?_,z⟩;intro C S a hW ai av aj G;have Z:=G x ag;rw[hx] at Z;simp only[Aa] at Z;have hS:=(ai n (by simp)).trans hn;have Z:=Z.2 _ hS;have aa:=hW.obj _ _ hS;simp only[Au] at aa;have ah:=av rfl;have ax:nx≠n:=λh'=>by subst h';rw[hS] at ah;cases ah
   cases hl0:S.ρ n with
   |none=>
    rw[hl0] at Z aa;obtain⟨_,aa⟩:=aa;subst aa;simp only[G5] at hm hhi;refine⟨_,S.w,none,.inl (bP hu hE ho Z O hhi h0 ac hm (AN 0) G S.w),Ql6 ah (λn f hf=>aj n f hf rfl),?_⟩;intro hp;have e1:l.toNat=0:=by omega
    have e2:m.toNat=0:=by omega
    refine⟨by simp[Au],?_⟩;simp only[Aa];refine⟨rfl,λe' ab=> ?_⟩;simp[Ay.one,e1,e2]
   |some lc=>
    rw[hl0] at Z aa;obtain⟨g0,g1,vs,g2,g3,g4⟩:=aa;simp only[Ad.len] at Z;obtain⟨q1,q2⟩:=hW.loc n _ lc hS hl0;have ak: ∀(p cap:Nat),IZ S nx (.arr U k ((rows.drop l.toNat).take (m - l).toNat)) (some ⟨lc.b,p,cap⟩) [n] S.w:=by
     intro p cap;refine⟨rfl,rfl,rfl,AN _,λ_ _ _=>rfl,.inr ah,?_,?_,λn f hf _=>aj n f hf rfl⟩
     .intro lo O;obtain rfl:=AE O;exact⟨q1,.inr ⟨n,_,lc,by simp,hS,hl0,rfl⟩⟩
     .intro f hf;rw[ah] at hf;cases hf
    have an: ∀(e:Ad) (l:Option Fj),(S.one nx e l [n] S.w).hp=S.hp:=λ_ _=>rfl
    by_cases hc:lc.cap=l.toNat
    .refine⟨_,S.w,some ⟨lc.b,lc.p,lc.cap - l.toNat⟩,.inl (bP hu hE ho Z O hhi h0 ac hm g1 G S.w),ak _ _,?_⟩;intro hp;have aq:(rows.drop l.toNat).take (m - l).toNat=[]:=rM (by rw[Q];omega);constructor
     .simp only[Au,an];rw[aq];refine⟨by simp,by simp,vs,g2,?_,by simp only[rdr]⟩
      have:lc.cap - l.toNat=0:=by omega
      rw[this];omega
     .simp only[Aa];refine⟨rfl,λe' ab=> ?_⟩;simp only[Ay.one,BI,AI] at ab⊢;subst ab;simp only[Ad.len,Q];rw[Ao hc]
    .refine⟨_,S.w,some ⟨lc.b,lc.p+l.toNat*te.size,lc.cap - l.toNat⟩,.inl (bP hu hE ho Z O hhi h0 ac hm g1 G S.w),ak _ _,?_⟩;intro hp;constructor
     .simp only[Au,an];rw[Q];refine⟨by omega,by omega,vs,g2,?_,?_⟩
      .subst af;have e1:l.toNat*te.size+(lc.cap - l.toNat)*te.size=lc.cap*te.size:=by rw[<-Fi];congr 1;omega
       omega
      .subst af
       have:=gU (m - l).toNat _ _ (oM l.toNat _ _ g4)
       rw[Ey] at this;exact this
     .simp only[Aa];refine⟨rfl,λe' ab=> ?_⟩;simp only[Ay.one,BI,AI] at ab⊢;subst ab;simp only[Ad.len,Q];rw[Ag hc];simp[Addr.add]
end
def Qta{ok:Nat->Prop}{hp:Nat->Option Obj}{k:Nat}: ∀(Q r2:List (List D)) (L M:List Value),rdr ok hp k Q L->L.length=Q.length*k->rdr ok hp k r2 M->rdr ok hp k (Q++r2) (L++M)
 |[],r2,L,M,_,G,O=>by
  simp only[G5,dK,Qv] at G;subst G;simpa using O
 |r::Z,r2,L,M,z,G,O=>by
  simp only[rdr] at z;simp only[CY,yY] at G;simp only[CX,rdr];refine⟨z.1,pU _ _ _ z.2.1,?_⟩;rw[Zdq (by omega)];exact Qta Z r2 _ _ z.2.2 (by rw[Cx];omega) O
def Tg{ok:Nat->Prop}{hp:Nat->Option Obj}{k a:Nat}{rows src:List (List D)}{B L:List Value}(h:rdr ok hp k rows B)(Z:rows.length*k<=B.length)(O:rdr ok hp k src L)(z:L.length=src.length*k)
 (ha:a+src.length<=rows.length):rdr ok hp k (rows.take a++src++rows.drop (a+src.length)) (BP B (a*k) L):=by
 unfold BP;have Q:a*k<=rows.length*k:=Hq _ (by omega);have G:rdr ok hp k (rows.take a) (B.take (a*k)):=by
  have:=Qrl (rows.take a) B (gU a _ _ h) (by rw[Ci];have:=Hq k (dL a rows.length);omega)
  rwa [Ci,show min a rows.length=a by omega] at this
 refine Qta _ _ _ _ (Qta _ _ _ _ G (by rw[Ci,Ci,show min a rows.length=a by omega];omega) O) ?_ ?_
 .simp only[Dn,Ci];rw[show min a rows.length=a by omega,show min (a*k) B.length=a*k by omega,z,Fi]
 .have:=oM (a+src.length) _ _ h
  rwa [Fi,<-z] at this
def WK(S:Ay)(o a n k:Nat)(rows:List (List D))(v:Value):Prop:=
 (v= .slice none 0 0/\rows=[]/\n=0/\S.ρ o=none)\/ ∃l p z,S.ρ o=some l/\v= .slice (some ⟨l.b,p,none⟩) n z/\(n≠0->p=l.p+a*k)/\a+n<=rows.length
section
variable {P:Program}{tm:List (Nat×AV)}{h:Nat->Option Aq}{nx:Nat}{o:Oper}{K:Ai}
def ZQ{S:Ay}{m:Nat}{f e:Ad}(Q:S.h m=some (true,f))(O: ∀l,S.ρ m=some l->l.b<S.w.heap.size)(hz:e.esz=f.esz)(hl:e.len=f.len):IZ S m e (S.ρ m) [m] S.w:=by
 refine⟨rfl,rfl,rfl,AN _,λ_ _ _=>rfl,.inl (by simp),?_,?_,?_⟩
 .intro lo G;exact⟨O lo G,.inr ⟨m,f,lo,by simp,Q,G,rfl⟩⟩
 .intro g Z;rw[Q] at Z;obtain rfl:=AE Z;exact⟨rfl,hz,hl⟩
 .intro n g _ z;rw[Q] at z;cases z
def MK{C:AX}{S:Ay}(hW:Wf C S){m T k a n:Nat}{rows:List (List D)}(Q:S.h m=some (true,.arr T k rows)){base:Option Addr}{dl dc:Nat}(hd:WK S m a n k rows (.slice base dl dc)){src:List (List D)}{L:List Value}
 (hm:src.length<=n)(hL:L.length=src.length*k)(hr:rdr S.ok S.hp k src L)(h1: ∀v∈L,v.oneCell'=true):
 ∃w',((match base with|some a=>storeCells a L|none=>pure ()):Sem Unit).run P S.w= .ok () w'/\IZ S m (.arr T k (rows.take a++src++rows.drop (a+src.length))) (S.ρ m) [m] w'/\
  (Bx (λn'=>S.h m≠none\/n'≠m) S (S.one m (.arr T k (rows.take a++src++rows.drop (a+src.length))) (S.ρ m) [m] w')->Au (S.one m (.arr T k (rows.take a++src++rows.drop (a+src.length))) (S.ρ m) [m] w') (S.ρ m) (.arr T k (rows.take a++src++rows.drop (a+src.length)))):=by
 have z:=hW.obj _ _ Q;by_cases hs:src=[]
 .subst hs;simp only[G5,dK,Qv] at hL;subst hL;have e:rows.take a++([]:List (List D))++rows.drop (a+([]:List (List D)).length)=rows:=by simp
  rw[e];refine⟨S.w,by cases base<;>simp[storeCells],ZQ Q (λl O=>(hW.loc m _ l Q O).1) rfl rfl,λhp=> ?_⟩;exact H8 hp (λ_ _=>rfl) _ (by simp[Ad.nms]) z
 .have ad:0<src.length:=jA.2 hs;rcases hd with ⟨_,_,rfl,_⟩|⟨l,p,cp,O,hv,hp,ha⟩
  .omega
  .simp only[Value.slice.injEq] at hv;obtain⟨rfl,rfl,rfl⟩:=hv;have hp:=hp (by omega);subst hp;rw[O] at z;simp only[Au] at z;obtain⟨g0,g1,vs,g2,g3,g4⟩:=z;have ac:rows.length*k<=l.cap*k:=Hq _ g1;have aa:(a+src.length)*k<=rows.length*k:=Hq _ (by omega);rw[Fi] at aa;have Z:vs.toList.length=vs.size:=E8;obtain⟨w',r1,r2,r3,r4,r5⟩:=Qf9 (P:=P) (w:=S.w) (b:=l.b) (p:=l.p+a*k) (T:=T) L 0 vs h1 (by omega) g2;have G:(rows.take a++src++rows.drop (a+src.length)).length=rows.length:=by simp;omega
   rw[O];refine⟨w',r1,cD hW Q O r2 r3 r4 r5 rfl G,λab=> ?_⟩;simp only[Au];rw[G];refine⟨g0,g1,_,cL (hW.loc m _ l Q O).1 r2,?_,?_⟩
   .simp only[N0,BP,Dn,Ci,Cx];omega
   .have h9:=Tg g4 (by rw[Cx,Z];omega) hr hL (by omega:a+src.length<=rows.length)
    have:=YC ab.ok k _ _ h9
    simp only[N2];rw[uU _ _ _ _ (by rw[Z];omega)];exact this
def Qqv{C:AX}{S:Ay}(hW:Wf C S){X:AV}{v:Value}{m a n T k:Nat}{rows:List (List D)}(G:UO h X=some (m,a,n,T,k,rows))(Z:S.h m=h m)(hc:Aa S X v):
 S.h m=some (true,.arr T k rows)/\WK S m a n k rows v/\X.nms=[m]:=by
 cases X<;>simp only[UO,reduceCtorEq] at G
 case own q=>
  cases hq:h q with
  |none=>rw[hq] at G;cases G
  |some e=>
   obtain⟨Q,e⟩:=e;rw[hq] at G;cases Q<;>cases e<;>simp only[Rb,reduceCtorEq,AI,Ej] at G;obtain⟨rfl,rfl,rfl,rfl,rfl,rfl⟩:=G;have O:=Z.trans hq;refine⟨O,?_,rfl⟩;simp only[Aa] at hc;have hc:=hc.2 _ O;have z:=hW.obj _ _ O;simp only[Au] at z;unfold WK;cases hl:S.ρ q with
   |none=>
    rw[hl] at hc z;exact .inl ⟨hc,z.2,by rw[z.2];rfl,rfl⟩
   |some l=>
    rw[hl] at hc;exact .inr ⟨l,l.p,l.cap,rfl,hc,λ_=>by omega,by omega⟩
 case osl q wa wn=>
  cases hq:h q with
  |none=>rw[hq] at G;cases G
  |some e=>
   obtain⟨Q,e⟩:=e;rw[hq] at G;cases Q<;>cases e<;>simp only[Rc,reduceCtorEq,AI,Ej] at G;obtain⟨rfl,rfl,rfl,rfl,rfl,rfl⟩:=G;have O:=Z.trans hq;refine⟨O,?_,rfl⟩;simp only[Aa] at hc;have hc:=hc.2 _ O;have z:=hW.obj _ _ O;simp only[Au] at z;unfold Pn at hc;unfold WK;cases hl:S.ρ q with
   |none=>
    rw[hl] at hc z;exact .inl ⟨hc.1,z.2,hc.2,rfl⟩
   |some l=>
    rw[hl] at hc;obtain⟨p,cp,h1,h2,h3,h4⟩:=hc;exact .inr ⟨l,p,cp,rfl,h1,h3,h4⟩
def Q7{S:Ay}: ∀(ds:List D) (vs:List Value),BC ds=true->rdl S.ok S.hp ds vs-> ∀v∈vs,v.oneCell'=true:=by
 intro ds vs h z;exact gJ (S:=S) _ _ (Qsa ds h) ((Ia _ _).2 z)
def Qaby{C:AX}{S:Ay}(hW:Wf C S){X:AV}{v:Value}{u:List Nat}{ks z:Nat}{src:List (List D)}(O:cR h X=some (u,ks,src))(hu: ∀n∈u,S.h n=h n)(hc:Aa S X v)(hz:z≠0)(hk:ks=z\/src=[])(ad:BL BC src):
 (Builtin.lenOf v).run P S.w= .ok src.length S.w/\ ∀n,n<=src.length-> ∃L,(Builtin.firstCells z n v).run P S.w= .ok L.toArray S.w/\L.length=(src.take n).length*z/\rdr S.ok S.hp z (src.take n) L/\ ∀v∈L,v.oneCell'=true:=by
 have ac: ∀(b p cp:Nat) (vs:Array Value) (T:TypeId) (fr:Nat×Nat),v= .slice (some ⟨b,p,none⟩) src.length cp->(src≠[]->S.hp b=some (.cells vs T fr)/\p+src.length*z<=vs.size/\rdr S.ok S.hp z src (vs.toList.drop p))->
  (Builtin.lenOf v).run P S.w= .ok src.length S.w/\ ∀n,n<=src.length-> ∃L,(Builtin.firstCells z n v).run P S.w= .ok L.toArray S.w/\L.length=(src.take n).length*z/\rdr S.ok S.hp z (src.take n) L/\ ∀v∈L,v.oneCell'=true:=by
  rintro b p cp vs T fr rfl h1;refine⟨by simp[Builtin.lenOf],λn hn=> ?_⟩;by_cases hs:src=[]
  .subst hs;simp only[G5,Nat.le_zero_eq] at hn;subst hn;exact⟨[],by simp[Builtin.firstCells,loadCells,loadCellsFrom],by simp,by simp[rdr],by simp⟩
  .obtain⟨g1,g2,g3⟩:=h1 hs;have aj:n*z<=src.length*z:=Hq _ hn;have aa:vs.toList.length=vs.size:=E8;have Z:(src.take n).length=n:=by rw[Ci];omega
   have hr:=Qrl (src.take n) _ (gU n _ _ g3) (by rw[Z,Cx,aa];omega);rw[Z] at hr;refine⟨(vs.toList.drop p).take (n*z),gK (w:=S.w) g1 (by omega),by rw[Z,Ci,Cx,aa];omega,hr,?_⟩;have af:=gW _ _ hr
   have:=pI _ _ (Qyt (λx O=>ad x (yN O))) af (by rw[show (Bl (src.take n)).length=(src.take n).length by simp[Bl],Z,Ci,Cx,aa];omega)
   rw[show (Bl (src.take n)).length=(src.take n).length by simp[Bl],Z,DB (by rw[Ci];omega)] at this;exact this
 have nil:(∃ao,v= .slice ao 0 0)->src=[]->(Builtin.lenOf v).run P S.w= .ok src.length S.w/\ ∀n,n<=src.length-> ∃L,(Builtin.firstCells z n v).run P S.w= .ok L.toArray S.w/\L.length=(src.take n).length*z/\rdr S.ok S.hp z (src.take n) L/\ ∀v∈L,v.oneCell'=true:=by
  rintro⟨ao,rfl⟩ rfl;refine⟨by simp[Builtin.lenOf],λn hn=>⟨[],?_,by simp,by simp[rdr],by simp⟩⟩;have ag:n=0:=by simpa using hn
  subst ag;cases ao<;>simp[Builtin.firstCells,loadCells,loadCellsFrom]
 cases X<;>simp only[cR,reduceCtorEq] at O
 case im d=>
  cases d<;>simp only[reduceCtorEq,AI,Ej] at O;obtain⟨rfl,rfl,rfl⟩:=O;simp only[Aa,rd] at hc;rcases hc with ⟨h1,h2⟩|⟨b,p,cap,vs,T,fr,h1,_,h2,h3,_,h5,h6⟩
  .exact nil (pT h1) h2
  .refine ac b p cap vs T fr h1 λhs=> ?_
   have Q:=hk.resolve_right hs;subst Q;have hl:=Qxq _ _ h6 hz;have aa:vs.toList.length=vs.size:=E8;rw[Cx,aa] at hl;have ai:0<_:=Nat.mul_pos (jA.2 hs) (Nat.pos_of_ne_zero hz);exact⟨h5,by omega,h6⟩
 case own q=>
  cases hq:h q with
  |none=>rw[hq] at O;cases O
  |some e=>
   obtain⟨mu,e⟩:=e;rw[hq] at O;cases e<;>simp only[dZ,reduceCtorEq,AI,Ej] at O;rename_i T k rows;obtain⟨rfl,rfl,rfl⟩:=O;have hS:=(hu q (by simp)).trans hq;simp only[Aa] at hc;have hc:=hc.2 _ hS;have G:=hW.obj _ _ hS;simp only[Au] at G;cases hl:S.ρ q with
   |none=>rw[hl] at hc G;exact nil ⟨_,hc⟩ G.2
   |some l=>
    rw[hl] at hc G;obtain⟨g0,g1,vs,g2,g3,g4⟩:=G;refine ac l.b l.p l.cap vs T (0,0) hc λhs=> ?_
    have Q:=hk.resolve_right hs;subst Q
    have:=Hq k g1
    exact⟨g2,by omega,g4⟩
 case osl q wa wn=>
  cases hq:h q with
  |none=>rw[hq] at O;cases O
  |some e=>
   obtain⟨mu,e⟩:=e;rw[hq] at O;cases e<;>simp only[eA,reduceCtorEq,AI,Ej] at O;rename_i T k rows;obtain⟨rfl,rfl,rfl⟩:=O;have hS:=(hu q (by simp)).trans hq;simp only[Aa] at hc;have hc:=hc.2 _ hS;have G:=hW.obj _ _ hS;simp only[Au] at G;unfold Pn at hc;cases hl:S.ρ q with
   |none=>rw[hl] at hc G;exact nil ⟨_,hc.1⟩ (by rw[G.2];simp)
   |some l=>
    rw[hl] at hc G;obtain⟨g0,g1,vs,g2,g3,g4⟩:=G;obtain⟨p,cp,q1,q2,q3,q4⟩:=hc;simp only[Ad.esz,Ad.len] at q3 q4;have ab:((rows.drop wa).take wn).length=wn:=by rw[Ci,Cx];omega
    refine ac l.b p cp vs T (0,0) (by rw[ab];exact q1) λhs=> ?_
    have ah:wn≠0:=λh0=>hs (by rw[h0];simp)
    have Q:=hk.resolve_right hs;subst Q;have hp:=q3 ah;subst hp;have h9:=Hq k (show wa+wn<=l.cap by omega);rw[Fi] at h9;refine⟨g2,by rw[ab];omega,?_⟩
    have:=gU wn _ _ (oM wa _ _ g4)
    rwa [Ey] at this
def NM(rows src:List (List D))(a m:Nat)(z:m<=src.length):cJ rows a m src=rows.take a++src.take m++rows.drop (a+(src.take m).length):=by
 unfold cJ;rw[Ci,show min m src.length=m by omega]
def TS{T U:TypeId}{d s:Operand}{c:Call}(ho:o.op= .call c)(O:c.callee= .builtin .copy)(G:c.args= #[d,s])(ao:c.argTypes= #[T,U])
 (z:Bc (yJ P h (Aw tm d) (Aw tm s) K) (tI P T)):BJ P tm h nx o K:=by
 have af:d∈o.op.operands:=by rw[ho];simp[Op.operands,Call.operands,G,O]
 have aa:s∈o.op.operands:=by rw[ho];simp[Op.operands,Call.operands,G,O]
 cases hT:tI P T with
 |none=>rw[hT] at z;exact z.elim
 |some ti=>
 rw[hT] at z;simp only[Bc,yJ] at z;cases hf:ti.kind<;>rw[hf] at z<;>try exact z.elim
 rename_i e;have hu:=Pt hT hf;simp only[Re] at z;cases hE:tI P e with
 |none=>rw[hE] at z;exact z.elim
 |some te=>
 rw[hE] at z;simp only[Bc] at z;cases hs:cR h (Aw tm s) with
 |none=>rw[hs] at z;exact z.elim
 |some q=>
 cases hd:UO h (Aw tm d) with
 |none=>rw[hs,hd] at z;exact z.elim
 |some q'=>
 obtain⟨u,ks,src⟩:=q;obtain⟨m,a,n,T',k,rows⟩:=q';rw[hs,hd] at z;simp only[Rd] at z;obtain⟨am,ak,hz,ab,z⟩:=z;subst am;have aj:h m≠none:=by
  intro h0;cases hX:Aw tm d<;>rw[hX] at hd<;>simp only[UO,reduceCtorEq] at hd
  .rename_i q;cases hq:h q with
   |none=>rw[hq] at hd;cases hd
   |some e=>
    obtain⟨mu,e⟩:=e;rw[hq] at hd;cases mu<;>cases e<;>simp only[Rb,reduceCtorEq,AI,Ej] at hd;rw[hd.1,h0] at hq;cases hq
  .rename_i q _ _;cases hq:h q with
   |none=>rw[hq] at hd;cases hd
   |some e=>
    obtain⟨mu,e⟩:=e;rw[hq] at hd;cases mu<;>cases e<;>simp only[Rc,reduceCtorEq,AI,Ej] at hd;rw[hd.1,h0] at hq;cases hq
 refine⟨_,_,B5.one (u:=m::u) (ks:=[m]) (m:=m) (cnt:=0) (.inr ⟨rfl,by simp,aj⟩) ?_,z⟩;intro C S ac hW ag _ _ Z;have h1:=Z d af;have h2:=Z s aa;obtain⟨d1,d2,_⟩:=Qqv hW hd (ag m (by simp)) h1;obtain⟨s1,s2⟩:=Qaby (P:=P) hW hs (λx hx=>ag x (by simp[hx])) h2 hz ak ab;have Q:min src.length n<=src.length:=Nat.min_le_left _ _;obtain⟨L,l1,l2,l3,l4⟩:=s2 _ Q;have an:(src.take (min src.length n)).length=min src.length n:=by rw[Ci];omega
 have ai: ∃base dl dc,ac.eval d= .slice base dl dc/\dl=n:=by
  rcases d2 with ⟨e1,_,e2,_⟩|⟨l,p,cp,_,e1,_⟩
  .exact⟨none,0,0,e1,e2.symm⟩
  .exact⟨_,_,_,e1,rfl⟩
 obtain⟨base,dl,dc,hv,rfl⟩:=ai;rw[hv] at d2;obtain⟨w',w1,w2,w3⟩:=MK (P:=P) hW d1 d2 (src:=src.take (min src.length dl)) (by rw[an];exact dL _ _) l2 l3 l4;rw[<-NM _ _ _ _ Q] at w2 w3;have ah:(underlying T).run P S.w= .ok (.slice e) S.w:=by simp[underlying,hu]
 refine⟨.int .i64 (min src.length dl:Nat),w',S.ρ m,.inl ?_,w2,λhp=>⟨w3 hp,by simp only[Aa,rd]⟩⟩;simp only[execOp,ho,resolve,O,G,ao,Sem.run_bind,Sem.run_pure,Result.andThen_ok,invoke,builtin];cases base with
 |none=>
  simp only[Sem.run_pure,Result.ok.injEq,rX] at w1;subst w1;simp[Builtin.copy_,hv,ah,s1,IV hE,l1,goInt]
 |some ad=>
  simp only at w1;simp[Builtin.copy_,hv,ah,s1,IV hE,l1,goInt,w1]
def OK{T:TypeId}{d:Operand}{c:Call}(ho:o.op= .call c)(aa:c.callee= .builtin .clear)(Q:c.args= #[d])(aq:c.argTypes= #[T])
 (G:Bc (xD P h (Aw tm d) K) (tI P T)):BJ P tm h nx o K:=by
 have ag:d∈o.op.operands:=by rw[ho];simp[Op.operands,Call.operands,Q,aa]
 cases hT:tI P T with
 |none=>rw[hT] at G;exact G.elim
 |some ti=>
 rw[hT] at G;simp only[Bc,xD] at G;cases hf:ti.kind<;>rw[hf] at G<;>try exact G.elim
 rename_i e;have hu:=Pt hT hf;simp only[QS] at G;cases hE:tI P e with
 |none=>rw[hE] at G;exact G.elim
 |some te=>
 rw[hE] at G;simp only[Bc] at G;cases hd:UO h (Aw tm d) with
 |none=>rw[hd] at G;exact G.elim
 |some q'=>
 obtain⟨m,a,n,T',k,rows⟩:=q';rw[hd] at G;simp only[WD] at G;obtain⟨an,hz,aj,aw,G⟩:=G;subst an;obtain⟨z,az,a0,ai⟩:=bG hE aj hz;have am:h m≠none:=by
  intro h0;cases hX:Aw tm d<;>rw[hX] at hd<;>simp only[UO,reduceCtorEq] at hd
  .rename_i q;cases hq:h q with
   |none=>rw[hq] at hd;cases hd
   |some e=>
    obtain⟨mu,e⟩:=e;rw[hq] at hd;cases mu<;>cases e<;>simp only[Rb,reduceCtorEq,AI,Ej] at hd;rw[hd.1,h0] at hq;cases hq
  .rename_i q _ _;cases hq:h q with
   |none=>rw[hq] at hd;cases hd
   |some e=>
    obtain⟨mu,e⟩:=e;rw[hq] at hd;cases mu<;>cases e<;>simp only[Rc,reduceCtorEq,AI,Ej] at hd;rw[hd.1,h0] at hq;cases hq
 refine⟨_,_,B5.one (u:=[m]) (ks:=[m]) (m:=m) (cnt:=0) (.inr ⟨rfl,by simp,am⟩) ?_,G⟩;intro C S ac hW au _ _ ah;have h1:=ah d ag;obtain⟨d1,d2,_⟩:=Qqv hW hd (au m (by simp)) h1;have av:z.cells.toList≠[]:=by
  intro hh
  have:z.cells.size=0:=by rw[<-E8,hh];rfl
  omega
 have a8:(Builtin.zeroCells z.cells n).toList=BS n z.cells.toList:=by
  unfold Builtin.zeroCells;rw[<-xE _ av n,UT,Zep,E8];apply Nx;intro i _;exact Qxx _ _
 have ak: ∃base O dc,ac.eval d= .slice base O dc/\O=n:=by
  rcases d2 with ⟨e1,_,e2,_⟩|⟨l,p,cp,_,e1,_⟩
  .exact⟨none,0,0,e1,e2.symm⟩
  .exact⟨_,_,_,e1,rfl⟩
 obtain⟨base,O,dc,Z,rfl⟩:=ak;rw[Z] at d2;have ao: ∀(n:Nat) (x:List Value),(BS n x).length=n*x.length:=by
  intro n x;induction n with
  |zero=>simp[BS]
  |succ n ih=>simp[BS,ih,yY];omega
 have ax:z.cells.toList.length=te.size:=by rw[E8];exact a0
 have af: ∀(n:Nat) (x:List Value),(∀v∈x,v.oneCell'=true)-> ∀v∈BS n x,v.oneCell'=true:=by
  intro n x hx;induction n with
  |zero=>simp[BS]
  |succ n ih=>
   intro v Z;simp only[BS,Br] at Z;rcases Z with Z|Z
   .exact hx v Z
   .exact ih v Z
 have ay: ∀v∈z.cells.toList,v.oneCell'=true:=Q7 (S:=S) _ _ aw (ai _ _);obtain⟨w',w1,w2,w3⟩:=MK (P:=P) hW d1 d2 (src:=List.replicate O te.zero) (L:=BS O z.cells.toList) (by simp) (by rw[ao,ax,Nw]) (by rw[<-aj];exact Qx7 (ai _ _) O O (AN _)) (af _ _ ay);have he:rows.take a++List.replicate O te.zero++rows.drop (a+(List.replicate O te.zero).length)=cJ rows a O (List.replicate O te.zero):=by
  unfold cJ;rw[Nw,DB (l:=List.replicate O te.zero) (by simp)]
 rw[he] at w2 w3;have ab:(underlying T).run P S.w= .ok (.slice e) S.w:=by simp[underlying,hu]
 refine⟨.tuple #[],w',S.ρ m,.inl ?_,w2,λhp=>⟨w3 hp,by simp only[Aa]⟩⟩;simp only[execOp,ho,resolve,aa,Q,aq,Sem.run_bind,Sem.run_pure,Result.andThen_ok,invoke,builtin];cases base with
 |none=>
  simp only[Sem.run_pure,Result.ok.injEq,rX] at w1;subst w1;simp[Builtin.clear_,Z,ab]
 |some ad=>
  simp only at w1;cases O with
  |zero=>
   simp only[BS] at w1
   have:w'=S.w:=by
    simp[storeCells] at w1;exact w1.symm
   subst this;simp[Builtin.clear_,Z,ab]
  |succ n=>
   simp[Builtin.clear_,Z,ab,az,a8,w1]
end
section
variable {P:Program}{tm:List (Nat×AV)}{h:Nat->Option Aq}{nx:Nat}{o:Oper}{K:Ai}
def TT{op:BinOp}{T U:TypeId}{x y:Operand}(ho:o.op= .binOp op T x y U)(hy:EX y=1)(Z:Bc (xN P h T op (Aw tm x) K) (tI P T)):JD P tm h nx o K:=by
 cases hT:tI P T with
 |none=>rw[hT] at Z;exact Z.elim
 |some ti=>
 rw[hT] at Z;simp only[Bc,xN] at Z;cases hf:ti.kind<;>rw[hf] at Z<;>try exact Z.elim
 rename_i e;have hu:=Pt hT hf;have ac:op= .eql\/op= .neq:=by cases op<;>first|exact .inl rfl|exact .inr rfl|exact Z.elim
 have z:MR h (decide (op= .neq)) K (Aw tm x):=by rcases ac with rfl|rfl<;>exact Z
 have ai:y= .const (.slice none 0 0):=by
  cases y with
  |const v=>
   simp only[EX] at hy;unfold Fu at hy;split at hy<;>first|rfl|cases hy
  |_=>cases hy
 intro C S a next Q hW hh ak hnm af hn
 have G:=af x (by rw[ho];simp[Op.operands]);have aj: ∃base l c E,a.eval x= .slice base l c/\(∀f:Nat->Option Aq,E.appf f=f)/\E.cnt=0/\K (.im (.bool (decide (op= .neq) !=base.isNone))) E:=by
  cases hx:Aw tm x<;>rw[hx] at z G<;>simp only[MR] at z
  case im d=>
   cases d<;>try exact z.elim
   rename_i nz k rows;simp only[Aa,rd] at G;rcases G with ⟨G,h2⟩|⟨b,p,cap,vs,T,fr,G,_⟩
   .rcases G with G|⟨_,ad,G⟩
    .exact⟨none,0,0,{},G,λf=>by funext m;simp[Bk.appf,hget],rfl,z true (λ_=>h2)⟩
    .exact⟨some ad,0,0,{},G,λf=>by funext m;simp[Bk.appf,hget],rfl,z false (λh=>by cases h)⟩
   .exact⟨_,_,_,{},G,λf=>by funext m;simp[Bk.appf,hget],rfl,z false (λh=>by cases h)⟩
  case own n=>
   cases hq:h n with
   |none=>rw[hq] at z;exact z.elim
   |some ab=>
    obtain⟨mu,ab⟩:=ab;rw[hq] at z;have hS:=(hh n).trans hq;simp only[Aa] at G;have G:=G.2 _ hS;have O:=hW.obj _ _ hS;have aa: ∀{α:Type} (rows:List α),(S.ρ n=none->rows=[])->Ru (decide (op= .neq)) K {use:=[n]} rows-> ∃base l c E,a.eval x= .slice base l c/\(∀f:Nat->Option Aq,E.appf f=f)/\E.cnt=0/\K (.im (.bool (decide (op= .neq) !=base.isNone))) E:=by
     intro α rows hr Z;cases hl:S.ρ n with
     |none=>
      rw[hl] at G;exact⟨none,0,0,{use:=[n]},G,wG [n],rfl,Z true (λ_=>hr hl)⟩
     |some l=>
      rw[hl] at G;exact⟨_,_,_,{use:=[n]},G,wG [n],rfl,Z false (λh=>by cases h)⟩
    cases ab<;>try exact z.elim
    .rename_i T k rows;refine aa rows (λhl=> ?_) z;simp only[Au] at O;rw[hl] at O;exact O.2
    .rename_i T k rows;refine aa rows (λhl=> ?_) z;simp only[Au] at O;rw[hl] at O;exact O.2
 obtain⟨base,l,c,E,hv,hE,hc,hK⟩:=aj;have ah:a.eval y= .slice none 0 0:=by rw[ai];rfl
 have hq:(Op.equal T (.slice base l c) (.slice none 0 0)).run P S.w= .ok base.isNone S.w:=by rw[VP];exact JN hu _ _ _ _
 have hg:(eqGuard op T x y (.slice base l c) (.slice none 0 0)).run P S.w= .ok () S.w:=by rcases ac with rfl|rfl<;>simp[eqGuard]
 have hb:(binOp op T (.slice base l c) (.slice none 0 0)).run P S.w= .ok (.bool (decide (op= .neq) !=base.isNone)) S.w:=by
  rcases ac with rfl|rfl
  .have:binOp .eql T (.slice base l c) (.slice none 0 0)=(do pure (.bool (<-Op.equal T (.slice base l c) (.slice none 0 0)))):=rfl
   rw[this];simp[hq]
  .have:binOp .neq T (.slice base l c) (.slice none 0 0)=(do pure (.bool (!(<-Op.equal T (.slice base l c) (.slice none 0 0))))):=rfl
   rw[this];simp[hq]
 have ag:(execOp a.eval o).run P S.w= .ok (.value (.bool (decide (op= .neq) !=base.isNone))) S.w:=by
  simp only[execOp,ho,hv,ah,Sem.run_bind,hg,Result.andThen_ok,hb,Sem.run_pure]
 unfold Oper.wp;rw[ag,Oper.upon_value];exact hn _ E _ S hK hW (hE S.h).symm (Bx.refl _ _) (by simp only[Aa,rd])
def Qpi{T e:TypeId}(hc:UN P T=some e): ∃d,P.underlying T=some (.chan d e):=by
 unfold UN at hc;split at hc
 .rename_i d e' z;cases hc;exact⟨d,z⟩
 .cases hc
def Qvf{T:TypeId}{x:Operand}(ho:o.op= .makeChan T x)(z:vB P nx (Aw tm x) K T):BJ P tm h nx o K:=by
 unfold vB at z;cases hc:UN P T with
 |none=>rw[hc] at z;exact z.elim
 |some e=>
 rw[hc] at z;simp only[zQ] at z;obtain⟨dr,hu⟩:=Qpi hc;have ag: ∃n,Aw tm x= .im (.int .i64 n)/\Bc (zP nx n K) (tI P e):=by
  revert z;generalize Aw tm x=X;intro z;cases X<;>try exact z.elim
  rename_i d;cases d<;>try exact z.elim
  rename_i k n;cases k<;>try exact z.elim
  exact⟨n,rfl,z⟩
 obtain⟨n,hx,z⟩:=ag;cases hE:tI P e with
 |none=>rw[hE] at z;exact z.elim
 |some te=>
 rw[hE] at z;simp only[Bc,zP] at z;obtain⟨h0,hn,ai,z⟩:=z;obtain⟨i,u,hi,am,ak,ab,_⟩:=Pv hE;refine⟨_,_,B5.one (u:=[]) (ks:=[]) (.inl ⟨rfl,rfl⟩) ?_,z⟩;intro C S a hW _ aa G O;have Z:=O x (by rw[ho];simp[Op.operands]);rw[hx] at Z;simp only[Aa,rd] at Z;have Q:(execOp a.eval o).run P S.w= .ok (.value (.chan (some S.w.heap.size))) {S.w with heap:=S.w.heap.push (.chan n.toNat #[] false 0 0 false)}:=by
  have ad: ∀w,(typeInfo e).run P w= .ok i w:=λw=>by simp[typeInfo,hi]
  have ah:(i.bytes:Int)*n<=2^48 - 112:=by
   rw[<-ab];have h3:(te.bytes:Int)*n<=65536*n:=ZdW (by omega) h0;omega
  have af:(underlying T).run P S.w= .ok (.chan dr e) S.w:=by simp[underlying,hu]
  have ac: ¬(n<0\/n>IntKind.i64.max\/(i.bytes:Int)*n>2^48 - 112):=by
   have:IntKind.i64.max=9223372036854775807:=by decide
   omega
  simp only[execOp,ho,Z,Instr.makeChan,Sem.run_bind,asInt,asIntOf,Sem.run_pure,Result.andThen_ok,af,ad];simp[ac];intro h9;exfalso;omega
 refine⟨_,_,some ⟨S.w.heap.size,0,0⟩,.inl Q,UH (w':={S.w with heap:=S.w.heap.push (.chan n.toNat #[] false 0 0 false)}) rfl rfl rfl rfl (aa rfl) (λn f hf=>G n f hf rfl),?_⟩;intro hp;constructor
 .simp only[Au];exact⟨_,#[],0,0,rfl,YO rfl,by simp[rdl]⟩
 .simp only[Aa];exact⟨rfl,λe' aj=>⟨⟨S.w.heap.size,0,0⟩,by simp[Ay.one],rfl⟩⟩
def OO{T:TypeId}{x:Operand}{c:Call}{q:Nat}(ho:o.op= .call c)(ab:c.callee= .builtin .len)(Q:c.args= #[x])(ah:c.argTypes= #[T])(hx:Aw tm x= .ch q)
 (z:Si q h K (UN P T)):BJ P tm h nx o K:=by
 cases hc:UN P T with
 |none=>rw[hc] at z;exact z.elim
 |some e=>
 rw[hc] at z;simp only[Si] at z;obtain⟨dr,hu⟩:=Qpi hc;cases hq:h q with
 |none=>rw[hq] at z;exact z.elim
 |some O=>
 obtain⟨mu,O⟩:=O;rw[hq] at z;cases O<;>try exact z.elim
 refine YL (u:=[q]) ho ab Q ah ?_ z;intro C S v hW ai Z;rw[hx] at Z;simp only[Aa] at Z;have hS:=(ai q (by simp)).trans hq;obtain⟨l,hl,rfl⟩:=Z.2 _ hS;have ac:=hW.obj _ _ hS;simp only[Au] at ac;obtain⟨lc,ag,af,ad,h1,h2,h3⟩:=ac;rw[hl] at h1;obtain rfl:=AE h1;have G:=cC _ _ h3;simp only[E8] at G;rename_i q0 aa;have hg:(getObj l.b).run P S.w= .ok (.chan aa ag false af ad false) S.w:=by simp[getObj,Sem.run,show S.w.heap[l.b]? =_ from h2]
 have aj:(underlying T).run P S.w= .ok (.chan dr e) S.w:=by simp[underlying,hu]
 simp[Builtin.len_,aj,hg,goInt,G]
def OQ{T:TypeId}{x:Operand}(hD: ∀(tk te:TypeId) (kt:KT) (es:List (D×D)),P.underlying T=some (.map tk te)->Aw tm x= .im (.mp kt es)->K (.it nx) {new:=[(nx,(true,.iter none es))],cnt:=1}->BJ P tm h nx o K)(ho:o.op= .range T x)(G:Bc (xJ h nx (Aw tm x) K) (tI P T)):BJ P tm h nx o K:=by
 cases hT:tI P T with
 |none=>rw[hT] at G;exact G.elim
 |some ti=>
 rw[hT] at G;simp only[Bc,xJ] at G;cases hf:ti.kind<;>rw[hf] at G<;>try exact G.elim
 rename_i tk te;have hu:=iR hT hf;simp only[Tw] at G;cases hx:Aw tm x<;>rw[hx] at G<;>try exact G.elim
 case im d=>
  cases d<;>try exact G.elim
  exact hD _ _ _ _ hu hx G
 rename_i q;simp only[zU] at G;cases hq:h q with
 |none=>rw[hq] at G;exact G.elim
 |some ab=>
 obtain⟨mu,ab⟩:=ab;rw[hq] at G;cases ab<;>try exact G.elim
 rename_i kt es;simp only[Tx] at G;refine⟨_,_,?_,G⟩;intro C S a next Q hW ax av hnm ao hn
 have h1:=ao x (by rw[ho];simp[Op.operands]);rw[hx] at h1;simp only[Aa] at h1;have hS:=(ax q (by simp)).trans hq;obtain⟨l,hl,hv⟩:=h1.2 _ hS;have ak:=hW.obj _ _ hS;simp only[Au] at ak;obtain⟨lc,O,z,g1,g2,g3,g4,g5,g6⟩:=ak;rw[hl] at g1;obtain rfl:=AE g1;have ad:=av nx ⟨AN _,by show nx<nx+1;omega⟩;have a0:q≠nx:=λh'=>by subst h';rw[hS] at ad;cases ad
 let X:Nat->Bool:=λn=> !(n==q)
 have ah:X q=false:=by simp[X]
 have ag:Wf C (S.ice X):=UI hW;have af:(S.ice X).h q=some (false,.map kt es):=by simp[Ay.ice,hS,ah]
 have an:(S.ice X).ok l.b:=iN hW ah af rfl hl;have aj:(S.ice X).h nx=none:=by simp[Ay.ice,ad]
 let w':World:={S.w with heap:=S.w.heap.push (.mapIter (some l.b) z #[] z)}
 have hg:(getObj l.b).run P S.w= .ok (.map O z) S.w:=Pq (w:=S.w) g3;have ay:(underlying T).run P S.w= .ok (.map tk te) S.w:=by simp[underlying,hu]
 have aq:(execOp a.eval o).run P S.w= .ok (.value (.pointer (some ⟨S.w.heap.size,0,none⟩))) w':=by
  simp only[execOp,ho,hv,Instr.range,Sem.run_bind,ay,Result.andThen_ok,hg,Sem.run_pure];simp[w']
 have aa:IZ (S.ice X) nx (.iter none es) (some ⟨S.w.heap.size,0,0⟩) [] w':=UH (S:=S.ice X) (w':=w') rfl rfl rfl rfl aj (by
  intro n f hf aw;obtain⟨e,he,rfl⟩:=UD hf;exact hnm n e he nx aw ⟨AN _,by show nx<nx+1;omega⟩)
 have hp:=bQ ag aa;have hb:=hW.oks;have az:l.b<S.w.heap.size:=(hW.loc q _ l hS hl).1;have am:Au ((S.ice X).one nx (.iter none es) (some ⟨S.w.heap.size,0,0⟩) [] w') (some ⟨S.w.heap.size,0,0⟩) (.iter none es):=by
  simp only[Au];obtain⟨p1,p2⟩:=hp.ok l.b an;refine⟨_,l.b,O,z,#[],rfl,p1,trivial,p2.trans g3,?_,g5,g6,?_⟩
  .have:=YO (S:=S.ice X) (nx:=nx) (e:= .iter none es) (l:=some ⟨S.w.heap.size,0,0⟩) (ks:=[]) (w':=w') (ob:= .mapIter (some l.b) z #[] z) rfl
   exact this
  .have h9:O.toList.filter (λe=> !(#[]:Array Nat).contains e.born)=O.toList:=by
    rw[Ze];intro e _;simp
   rw[h9];exact Kw hp.ok _ _ (Kw (He S X).ok _ _ g4)
 have au:=iQ ag aa am;unfold Oper.wp;rw[aq,Oper.upon_value];refine hn _ _ au ?_ ?_ ?_
 .funext n;simp only[Ay.one,Bk.appf,hget];by_cases ac:n=nx
  .subst ac;simp
  .have e1:(nx==n)=false:=by rw[HL];exact λh=>ac h.symm
   rw[Ag ac,e1];by_cases Z:n=q
   .subst Z;simp[af]
   .have e2:(q==n)=false:=by rw[HL];exact λh=>Z h.symm
    have e3:X n=true:=by simp[X,Z]
    simp only[e2,jF,Cy,B8]
    have:([q]:List Nat).contains n=false:=by simp[Z]
    rw[this];simp only[Ay.ice,e3,ET,B8];cases S.h n<;>rfl
 .have q1:=He S X;refine⟨λb hb=> ?_,λn hX e' ai=> ?_⟩
  .obtain⟨r1,r2⟩:=q1.ok b hb;obtain⟨r3,r4⟩:=hp.ok b r1;exact⟨r3,r4.trans r2⟩
  .obtain⟨e,r1,r2,r3,r4⟩:=hp.nm n (.inr (λh'=>hX ⟨by omega,by show n<nx+1;omega⟩)) e' ai;obtain⟨e0,s1,s2,s3,s4⟩:=q1.nm n trivial e r1;exact⟨e0,s1,r2.trans s2,r3.trans s3,r4.trans s4⟩
 .simp only[Aa];exact⟨rfl,λe' ai=>⟨⟨S.w.heap.size,0,0⟩,by simp[Ay.one],rfl⟩⟩
def OM{x:Operand}(ho:o.op= .entry x)(G:xR h K (Aw tm x)):BJ P tm h nx o K:=by
 cases hx:Aw tm x<;>rw[hx] at G<;>try exact G.elim
 rename_i q;simp only[xR] at G;cases hq:h q with
 |none=>rw[hq] at G;exact G.elim
 |some O=>
 obtain⟨mu,O⟩:=O;rw[hq] at G;cases mu<;>cases O<;>try exact G.elim
 rename_i ab left;cases ab with
 |none=>exact G.elim
 |some p=>
 simp only[Rr] at G;refine⟨_,_,B5.pure (u:=[q]) ?_,G⟩;intro C S a hW ag aa;have h1:=aa x (by rw[ho];simp[Op.operands]);rw[hx] at h1;simp only[Aa] at h1;have hS:=(ag q (by simp)).trans hq;obtain⟨l,hl,hv⟩:=h1.2 _ hS;have Z:=hW.obj _ _ hS;simp only[Au] at Z;obtain⟨lc,mb,Q,z,ac,g1,g2,⟨st,e,k1,k2,k3,k4⟩,g3,g4,g5,g6,g7⟩:=Z;rw[hl] at g1;obtain rfl:=AE g1;refine⟨.tuple #[e.key,e.val],?_,by simp only[Aa,rd];exact⟨_,rfl,by simp only[rdl];exact⟨_,_,rfl,k3,_,_,rfl,k4,rfl⟩⟩⟩;have ad:(getObj l.b).run P S.w= .ok (.mapIter (some mb) z ac z) S.w:=by simp[getObj,Sem.run,show S.w.heap[l.b]? =_ from g4]
 have af:(getObj mb).run P S.w= .ok (.map Q z) S.w:=Pq (w:=S.w) g3;simp only[execOp,ho,hv,Instr.entry,Sem.run_bind,ad,Result.andThen_ok,k1,af];simp[k2]
def Te{ok:Nat->Prop}{hp:Nat->Option Obj}: ∀(ds:List (D×D)) (es:List MapEntry) (i:Nat) (e:MapEntry),rde ok hp ds es->es[i]? =some e-> ∃p,ds[i]? =some p/\rd ok hp p.1 e.key/\rd ok hp p.2 e.val
 |[],es,i,e,h,z=>by simp only[rde] at h;subst h;simp at z
 |(x,y)::ds,es,i,e,h,z=>by
  simp only[rde] at h;obtain⟨e',r,rfl,G,O,Q⟩:=h;cases i with
  |zero=>
   simp only[GL,AI] at z;subst z;exact⟨(x,y),rfl,G,O⟩
  |succ i=>
   simp only[Jd] at z⊢;exact Te ds r i e Q z
def Qjl{z:Array Nat}{b:Nat}: ∀(l:List MapEntry) (i:Nat) (e:MapEntry),(l.map (·.born)).Nodup->(l.filter λe=> !z.contains e.born)[i]? =some e->e.born=b->
 (l.filter λe=> !(z.push b).contains e.born)=(l.filter λe=> !z.contains e.born).eraseIdx i
 |[],i,e,_,h,_=>by simp at h
 |x::r,i,e,O,h,hb=>by
  simp only[Bd,Ip] at O;have G: ∀n,(z.push b).contains n=(z.contains n||n==b):=by
   intro n;rw[Q5];simp only[Array.contains_iff_mem,Array.mem_push,Hp,N5]
  cases hx:z.contains x.born with
  |true=>
   have Z:(!z.contains x.born)=false:=by rw[hx];rfl
   have Q:(!(z.push b).contains x.born)=false:=by rw[G,hx];rfl
   rw[rK (p:=λ(e:MapEntry)=> !(z.push b).contains e.born) (by rw[Q];simp),rK (p:=λ(e:MapEntry)=> !z.contains e.born) (by rw[Z];simp)];rw[rK (p:=λ(e:MapEntry)=> !z.contains e.born) (by rw[Z];simp)] at h;exact Qjl r i e O.2 h hb
  |false=>
   have Z:(!z.contains x.born)=true:=by rw[hx];rfl
   rw[ZeD (p:=λ(e:MapEntry)=> !z.contains e.born) (by exact Z)] at h⊢;cases i with
   |zero=>
    simp only[GL,AI] at h;subst h;have Q:(!(z.push b).contains x.born)=false:=by rw[G,hb];simp
    rw[rK (by rw[Q];simp),ZeC];apply List.filter_congr;intro y hy
    have:(y.born==b)=false:=by
     rw[HL,<-hb];intro h9;exact O.1 (Bm.2 ⟨y,hy,h9⟩)
    rw[G,this,Qz]
   |succ i=>
    simp only[Jd] at h;have aa:(x.born==b)=false:=by
     rw[HL];intro h9;have hm:e∈r.filter λe=> !z.contains e.born:=AY h
     exact O.1 (Bm.2 ⟨e,(KD.1 hm).1,by rw[hb,h9]⟩)
    have Q:(!(z.push b).contains x.born)=true:=by rw[G,hx,aa];rfl
    rw[ZeD (p:=λ(e:MapEntry)=> !(z.push b).contains e.born) (by exact Q),iX,Qjl r i e O.2 h hb]
def Qvh: ∀(l:List MapEntry) (e:MapEntry),(l.map (·.born)).Nodup->e∈l->l.find? (λx=>x.born==e.born)=some e
 |[],e,_,h=>by cases h
 |x::r,e,z,h=>by
  simp only[Bd,Ip] at z;rcases Bi.1 h with rfl|h
  .simp
  .have G:(x.born==e.born)=false:=by
    rw[HL];intro O;exact z.1 (Bm.2 ⟨e,h,O.symm⟩)
   rw[zB,G];exact Qvh r e z.2 h
def TW{x:Operand}(ho:o.op= .next x false)(hk:Vl h K (Aw tm x)):JD P tm h nx o K:=by
 cases hx:Aw tm x<;>rw[hx] at hk<;>try exact hk.elim
 rename_i q;simp only[Vl] at hk;cases hq:h q with
 |none=>rw[hq] at hk;exact hk.elim
 |some ad=>
 obtain⟨mu,ad⟩:=ad;rw[hq] at hk;cases mu<;>cases ad<;>try exact hk.elim
 rename_i bm left;simp only[SE] at hk;obtain⟨bd,be⟩:=hk;intro C S a next Q hW hh bn hnm aw hn
 have h1:=aw x (by rw[ho];simp[Op.operands]);rw[hx] at h1;simp only[Aa] at h1;have hS:=(hh q).trans hq;obtain⟨l,hl,hv⟩:=h1.2 _ hS;have aq:=hW.obj _ _ hS;simp only[Au] at aq;obtain⟨lc,mb,G,z,O,g1,g2,g0,g3,g4,g5,g6,g7⟩:=aq;rw[hl] at g1;obtain rfl:=AE g1;have bb:(getObj l.b).run P S.w= .ok (.mapIter (some mb) z O z) S.w:=by simp[getObj,Sem.run,show S.w.heap[l.b]? =_ from g4]
 have bc:(getObj mb).run P S.w= .ok (.map G z) S.w:=Pq (w:=S.w) g3;have ak:(!O.isEmpty && !G.isEmpty && G.all λe=>decide (e.born≥z))=false:=by
  cases he:G.isEmpty with
  |true=>simp
  |false=>
   have bg:G.toList≠[]:=by
    intro h9
    have:G= #[]:=Zd.1 (by simpa using h9)
    rw[this] at he;simp at he
   obtain⟨e,r,hc⟩:=Zek bg;have hm:e∈G:=by rw[<-Array.mem_toList_iff,hc];simp
   have bo:=g6 e (by rw[hc];simp)
   have:(G.all λe=>decide (e.born≥z))=false:=by
    rw[Ny];intro h9;rw[Array.all_eq_true'] at h9
    have:=h9 e hm
    simp only[Ch] at this;omega
   rw[this];simp
 let F:Array MapEntry:=G.filter λe=> !O.contains e.born
 have hF:F.toList=G.toList.filter λe=> !O.contains e.born:=by simp[F]
 have av:(F.filter λe=>decide (e.born<z))=F:=by
  apply Array.filter_eq_self.2;intro e he
  have:e∈G.toList:=by
   have:e∈F.toList:=by simpa using he
   rw[hF] at this;exact (KD.1 this).1
  simpa using g6 e this
 have ao:(F.filter λe=>decide (e.born≥z))= #[]:=by
  apply Array.filter_eq_empty_iff.2;intro e he
  have:e∈G.toList:=by
   have:e∈F.toList:=by simpa using he
   rw[hF] at this;exact (KD.1 this).1
  have:=g6 e this
  simp;omega
 unfold Oper.wp;have ag:(execOp a.eval o).run P S.w=((Instr.next (.pointer (some ⟨l.b,0,none⟩)) false o.type).run P S.w).andThen λv w=> .ok (.value v) w:=by
  simp only[execOp,ho,hv,Sem.run_bind,Sem.run_pure]
 obtain⟨ms,hnx⟩: ∃ms,(Instr.next (.pointer (some ⟨l.b,0,none⟩)) false o.type).run P S.w=
  ((choose (.mapNext ((if F.isEmpty then #[none] else #[])++F.map some).size)).run P S.w).andThen λi w1=>
    (match ((if F.isEmpty then #[none] else #[])++F.map some)[i]? with
     |some (some e)=>(do setObj l.b (.mapIter (some mb) z (O.push e.born) z);pure (.tuple #[.bool true,e.key,e.val]):Sem Value)
     |some none=>pure (.tuple #[.bool false])
     |none=>stuck ms).run P w1:=by
  apply Exists.intro;have e1:(G.filter λe=> !O.contains e.born)=F:=rfl;simp only[Instr.next,Sem.run_bind,bb,Result.andThen_ok,bc,ak,CE,Cy,e1,av,ao,Array.append_empty];congr 1
 rw[ag,hnx];by_cases af:F.isEmpty=true
 .have aj:F= #[]:=by simpa using af
  have bf:left=[]:=by
   rw[<-hF,aj] at g7;cases left with
   |nil=>rfl
   |cons p r=>
    obtain⟨x0,y0⟩:=p;simp only[rde] at g7;obtain⟨e,r',h9,_⟩:=g7;simp at h9
  rw[aj];simp only[Array.isEmpty_empty,BI,Array.map_empty,Array.append_empty,run_choose,Question.forced];simp only[N0,CY,G5,Fh,AN,zG,BI,Result.andThen_ok];simp only[yU,GL,Sem.run_pure,Result.andThen_ok,Oper.upon_value];exact hn _ _ _ S (bd bf) hW (wG [q] S.h).symm (Bx.refl _ _) (by simp only[Aa,AM,rd];exact⟨_,rfl,_,_,rfl,rfl,rfl⟩)
 .have a0:F.isEmpty=false:=by simpa using af
  rw[a0];simp only[CE,Cy,Array.empty_append,Array.size_map];have ac:0<F.size:=by
   rcases jD F.size with h9|h9
   .exact absurd (by simpa using Array.eq_empty_of_size_eq_zero h9) af
   .exact h9
  have ba: ∃i w1,(choose (.mapNext F.size)).run P S.w= .ok i w1/\i<F.size/\w1.heap=S.w.heap/\w1.os=S.w.os/\w1.tape=S.w.tape/\w1.output=S.w.output:=by
   rw[run_choose];split
   .exact⟨0,S.w,rfl,ac,rfl,rfl,rfl,rfl⟩
   .exact⟨_,_,rfl,Nat.mod_lt _ ac,rfl,rfl,rfl,rfl⟩
  obtain⟨i,w1,a9,hi,ai,bi,bj,bl⟩:=ba;rw[a9];simp only[Result.andThen_ok];have hget:(F.map some)[i]? =some (some F[i]):=by simp[hi]
  rw[hget];simp only[Sem.run_bind,Sem.run_pure];have am:w1.heap[l.b]? =some (.mapIter (some mb) z O z):=by rw[ai];exact g4
  have az:(setObj l.b (.mapIter (some mb) z (O.push F[i].born) z)).run P w1= .ok () {w1 with heap:=w1.heap.setIfInBounds l.b (.mapIter (some mb) z (O.push F[i].born) z)}:=by
   simp[setObj,Sem.run,am]
  rw[az];simp only[Result.andThen_ok,Oper.upon_value];have aa:F.toList[i]? =some F[i]:=by simp[hi]
  rw[hF] at aa;obtain⟨p,bh,ax,ay⟩:=Te left _ i F[i] g7 aa
  let w':World:={w1 with heap:=w1.heap.setIfInBounds l.b (.mapIter (some mb) z (O.push F[i].born) z)}
  have ab:IZ S q (.iter (some p) (left.eraseIdx i)) (some l) [q] w':=cD hW hS hl (w':=w') (ob:= .mapIter (some mb) z (O.push F[i].born) z) (by simp[w',ai]) bi bj bl rfl rfl;have Z:=bQ hW ab;have au:Au (S.one q (.iter (some p) (left.eraseIdx i)) (some l) [q] w') (some l) (.iter (some p) (left.eraseIdx i)):=by
   simp only[Au];obtain⟨p1,p2⟩:=Z.ok mb g2;have an:F[i]∈G.toList:=(KD.1 (AY aa)).1;refine⟨l,mb,G,z,O.push F[i].born,rfl,p1,⟨F[i].born,F[i],by simp,?_,Gs Z.ok _ _ ax,Gs Z.ok _ _ ay⟩,p2.trans g3,?_,g5,g6,?_⟩
   .have:=Qvh G.toList F[i] g5 an
    rw[<-Array.find?_toList];exact this
   .exact cL (hW.loc q _ l hS hl).1 (by simp[w',ai])
   .rw[Qjl G.toList i F[i] g5 aa rfl];exact Kw Z.ok _ _ (Qpa i left _ g7)
  have a8:=iQ hW ab au;refine hn _ _ _ _ (be i p bh) a8 ?_ ?_ ?_
  .funext n;simp only[Ay.one,Bk.appf,Go.Ae.hget];by_cases ah:n=q
   .subst ah;simp
   .have:(q==n)=false:=by rw[HL];exact λh=>ah h.symm
    simp[this,ah]
  .exact⟨Z.ok,λn hX=>Z.nm n (.inl (by rw[hS];simp))⟩
  .simp only[Aa,AM,rd];refine⟨_,rfl,_,_,rfl,rfl,_,_,rfl,Gs Z.ok _ _ ax,_,_,rfl,Gs Z.ok _ _ ay,rfl⟩
end
section
variable {P:Program}{tm:List (Nat×AV)}{h:Nat->Option Aq}{nx:Nat}{o:Oper}{K:Ai}
def Qr9{T:TypeId}{m k v:Operand}(ho:o.op= .mapUpdate T m k v)(z:Bc (nW P h K (Aw tm m) (Aw tm k) (Aw tm v)) (tI P T)):BJ P tm h nx o K:=by
 cases hT:tI P T with
 |none=>rw[hT] at z;exact z.elim
 |some ti=>
 rw[hT] at z;simp only[Bc,nW] at z;cases hm:Aw tm m<;>rw[hm] at z<;>try exact z.elim
 rename_i q;cases hkd:Aw tm k<;>rw[hkd] at z<;>try exact z.elim
 rename_i kd;cases hvd:Aw tm v<;>rw[hvd] at z<;>try exact z.elim
 .exact Qjd ho hT hm hkd hvd z
 rename_i n;simp only at z;cases hn:h n with
 |none=>rw[hn] at z;exact z.elim
 |some af=>
 obtain⟨mu,af⟩:=af;rw[hn] at z;cases af<;>try exact z.elim
 rename_i U w rows;simp only[Sz] at z;obtain⟨ah,z⟩:=z;have ah:q≠n:=by simpa using ah
 cases v with
 |tmp t=>
  let d:D:= .sl false w rows
  let O:List (Nat×AV):=(t,.im d)::tm
  let h':Nat->Option Aq:=λi=>if i=n then some (false,.arr U w rows) else h i
  have ag: ∀x:Operand,(∀y,Aw tm x=y->y≠ .own n)->Aw O x=Aw tm x:=by
   intro x hx;cases x with
   |tmp u=>
    simp only[Aw,O,AD];by_cases hu:t=u
    .subst hu;simp only[Aw] at hvd hx;exact absurd rfl (hx _ hvd)
    .have:(t==u)=false:=by simpa using hu
     rw[this];rfl
   |_=>rfl
  have a9:Aw O m= .mp q:=by rw[ag m (λy hy=>by rw[<-hy,hm];simp)];exact hm
  have a0:Aw O k= .im kd:=by rw[ag k (λy hy=>by rw[<-hy,hkd];simp)];exact hkd
  have aq:Aw O (.tmp t)= .im d:=by simp[Aw,O,AD]
  have ba:JY P h' q kd d (zS n (.arr U w rows) K) ti.kind:=by
   cases hf:ti.kind<;>rw[hf] at z<;>try exact z.elim
   rename_i a1 a2;simp only[JY] at z⊢;have hq:h' q=h q:=by simp[h',ah]
   cases hkt:Bp P a1 with
   |none=>rw[hkt] at z;exact z.elim
   |some kt=>
    rw[hkt] at z;simp only[Sx] at z⊢;rw[hq];exact z
  obtain⟨r,E,bc,hK⟩:=Qjd (P:=P) (tm:=O) (h:=h') (nx:=nx) (K:=zS n (.arr U w rows) K) ho hT a9 a0 aq ba;obtain⟨a8,hK⟩:=hK;refine⟨r,_,?_,hK⟩;intro C S a next Q hW hu az hnm an bb
  let X:Nat->Bool:=λi=> !(i==n)
  have aj:X n=false:=by simp[X]
  have ax: ∀i,i≠n->X i=true:=λi Z=>by simp[X,Z]
  have av:S.h n=some (mu,.arr U w rows):=(hu n (by simp)).trans hn;have am: ∀i,i≠n->(S.ice X).h i=S.h i:=by
   intro i Z;simp only[Ay.ice,ax i Z,ET];cases S.h i<;>rfl
  have aa:(S.ice X).h n=some (false,.arr U w rows):=by simp[Ay.ice,av,aj]
  have ai:Wf C (S.ice X):=UI hW;refine bc C (S.ice X) a next Q ai ?_ ?_ ?_ ?_ ?_
  .intro i Z;by_cases G:i=n
   .subst G;simp[h',aa]
   .rw[am i G,hu i (by simp only[Br,Bi] at Z⊢;rcases Z with Z|Z;exact .inl (.inr Z);exact .inr (.inr Z))];simp[h',G]
  .intro i Z
   have:=az i Z
   simp[Ay.ice,this]
  .intro i e he x hx hf;obtain⟨e0,G,rfl⟩:=UD he;exact hnm i e0 G x hx hf
  .intro x hx;rw[ho] at hx;simp only[Op.operands,Array.mem_def] at hx;have ao:=He S X;have ac:=an x (by rw[ho];simpa[Op.operands] using hx);by_cases au:x= .tmp t
   .subst au;rw[aq];rw[hvd] at ac;have G:=H9 ao _ _ (λ_ _=>trivial) ac;simp only[Aa] at G⊢;have h2:=G.2 _ aa;have ab:=ai.obj n _ aa;have hρ:(S.ice X).ρ n=S.ρ n:=rfl;simp only[Au] at ab;simp only[d,rd];cases hl:S.ρ n with
    |none=>
     rw[hρ,hl] at h2 ab;exact .inl ⟨.inl h2,ab.2⟩
    |some l=>
     rw[hρ,hl] at h2 ab;obtain⟨g0,g1,vs,g2,g3,g4⟩:=ab;refine .inr ⟨l.b,l.p,l.cap,vs,U,(0,0),h2,by simp,g1,g0,iN hW aj aa rfl (by rw[hρ];exact hl),g2,g4⟩
   .rw[ag x ?_]
    .exact H9 ao _ _ (λ_ _=>trivial) ac
    .intro y hy ad;have bd:x=m\/x=k\/x= .tmp t:=by simpa using hx
     rcases bd with rfl|rfl|rfl
     .rw[hm] at hy;rw[<-hy] at ad;cases ad
     .rw[hkd] at hy;rw[<-hy] at ad;cases ad
     .exact au rfl
  .intro v S' aw hh hp hc;refine bb v S' aw ?_ ?_ hc
   .rw[hh];funext i;simp only[Bk.appf];have ak:hget (E.new++[(n,(false,Ad.arr U w rows))]) i=match hget E.new i with|some e=>some e|none=>if n=i then some (false,Ad.arr U w rows) else none:=by
     generalize E.new=L;induction L with
     |nil=>
      simp only[GM,hget];by_cases G:n=i
      .subst G;simp
      .have:(n==i)=false:=by simpa using G
       simp[this,G]
     |cons p L ih=>
      obtain⟨j,e⟩:=p;simp only[CX,hget];cases hj:j==i
      .simpa using ih
      .simp
    rw[ak];cases hg:hget E.new i with
    |some e=>rfl
    |none=>
     simp only;by_cases G:n=i
     .subst G;rw[Ao rfl,a8,aa];rfl
     .have h2:i≠n:=λh=>G h.symm
      rw[Ag G,am i h2];have h3:(n::E.kill).contains i=E.kill.contains i:=by simp[h2]
      rw[h3]
   .have q1:=He S X;refine⟨λb hb=> ?_,λi hX e' ay=> ?_⟩
    .obtain⟨r1,r2⟩:=q1.ok b hb;obtain⟨r3,r4⟩:=hp.ok b r1;exact⟨r3,r4.trans r2⟩
    .obtain⟨e,r1,r2,r3,r4⟩:=hp.nm i hX e' ay;obtain⟨e0,s1,s2,s3,s4⟩:=q1.nm i trivial e r1;exact⟨e0,s1,r2.trans s2,r3.trans s3,r4.trans s4⟩
 |const c=>exfalso;simp only[Aw] at hvd;unfold kD at hvd;split at hvd<;>cases hvd
 |global g=>simp only[Aw] at hvd;cases hvd
 |func f=>exfalso;simp only[Aw] at hvd;cases hb:Nat.blt f 1000000000<;>rw[hb] at hvd<;>cases hvd
end
end Go.Ae
