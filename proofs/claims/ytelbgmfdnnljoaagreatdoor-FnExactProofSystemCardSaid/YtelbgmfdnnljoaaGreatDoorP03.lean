/- Lemmas. Conditions: none. -/
import Derived.Test.YtelbgmfdnnljoaaGreatDoorP02
import Derived.Laws.StructEq
import Derived.WideKeyRuns
set_option linter.all false
set_option maxHeartbeats 8000000
set_option maxRecDepth 100000
namespace Go.Ae
def wK: ∀(a b:List KK) (l:List D),B3 (a++b) l=true->B3 a (l.take a.length)=true/\B3 b (l.drop a.length)=true/\a.length<=l.length
 |[],b,l,h=>by simpa[B3] using h
 |k::a,b,[],h=>by simp[B3] at h
 |k::a,b,d::l,h=>by
  simp only[BG,B3,AW] at h;obtain⟨z,G,O⟩:=wK a b l h.2;simp only[Dd,EG,Lg,B3,AW];exact⟨⟨h.1,z⟩,G,by omega⟩
def vV: ∀(a:List KK) (l:List D),B3 a l=true->l.length=a.length
 |[],[],_=>rfl
 |[],_::_,h=>by simp[B3] at h
 |_::_,[],h=>by simp[B3] at h
 |k::a,d::l,h=>by
  simp only[B3,AW] at h;simp[vV a l h.2]
def Qq6: ∀(n:Nat) (a b:List D),n<=a.length->n<=b.length->D.beql a b=(D.beql (a.take n) (b.take n) && D.beql (a.drop n) (b.drop n))
 |0,a,b,_,_=>by simp[D.beql]
 |n+1,[],_,h,_=>by simp at h
 |n+1,_::_,[],_,h=>by simp at h
 |n+1,x::a,y::b,z,G=>by
  simp only[EG,Lg,D.beql,jM];rw[Qq6 n a b (by simpa using z) (by simpa using G)]
def cR{ok:Nat->Prop}{hp:Nat->Option Obj}{k:KK}{d:D}{v:Value}(hf:k.fit d=true)(h:rd ok hp d v):
 (∃j n,k= .int j/\d= .int j n/\v= .int j n)\/(∃s,k= .str/\d= .str s/\v= .string s)\/(∃b,k= .bool/\d= .bool b/\v= .bool b):=by
 cases k<;>cases d<;>simp only[KK.fit,CQ,PO] at hf<;>simp only[rd] at h
 .subst hf;exact .inl ⟨_,_,rfl,rfl,h⟩
 .exact .inr (.inl ⟨_,rfl,rfl,h⟩)
 .exact .inr (.inr ⟨_,rfl,rfl,h⟩)
section
variable {P:Program}
def pP: ∀{n:Nat} {t:TypeId} {O:KT},DF P n t=some O->O.agg=false-> ∃k,O.ks=[k]/\((∃j,k= .int j/\P.underlying t=some (.int j))\/(k= .str/\P.underlying t=some .string)\/(k= .bool/\P.underlying t=some .bool)):=by
 intro n t O h Q;cases n with
 |zero=>simp[DF] at h
 |succ n=>
  simp only[DF] at h;split at h
  .rename_i k z;obtain rfl:=AB h;exact⟨_,rfl,.inl ⟨k,rfl,z⟩⟩
  .rename_i z;obtain rfl:=AB h;exact⟨_,rfl,.inr (.inl ⟨rfl,z⟩)⟩
  .rename_i z;obtain rfl:=AB h;exact⟨_,rfl,.inr (.inr ⟨rfl,z⟩)⟩
  .rename_i G z;cases hst:P.stoodInHeld t<;>rw[hst] at h
   .simp only[Bs,Dl] at h;obtain⟨ks,_,rfl⟩:=h;cases Q
   .simp at h
  .cases h
def vZ: ∀{n:Nat} {t:TypeId} {G:KT},DF P n t=some G->G.agg=true-> ∃m z,n=m+1/\P.underlying t=some (.struct z)/\P.stoodInHeld t=false/\YY P (DF P m) z.toList 0=some G.ks:=by
 intro n t G h O;cases n with
 |zero=>simp[DF] at h
 |succ n=>
  simp only[DF] at h;split at h
  .obtain rfl:=AB h;cases O
  .obtain rfl:=AB h;cases O
  .obtain rfl:=AB h;cases O
  .rename_i z Z;cases hst:P.stoodInHeld t<;>rw[hst] at h
   .simp only[Bs,Dl] at h;obtain⟨ks,Q,rfl⟩:=h;exact⟨n,z,rfl,Z,rfl,Q⟩
   .simp at h
  .cases h
def Qsw{n:Nat}{f:Field}{z:KT}{i:TypeInfo}(hk:DF P n f.type=some z)(hi:P.info? f.type=some i)(hz:i.size=z.ks.length){ok:Nat->Prop}{hp:Nat->Option Obj}{w:World}
 {ds:List D}{xs:Array Value}{off:Nat}(ab:off+z.ks.length<=ds.length)(h:rdl ok hp ds xs.toList)(hf:B3 z.ks ((ds.drop off).take z.ks.length)=true):
 ∃d v,(part f.type xs off).run P w= .ok v w/\z.fit d=true/\rd ok hp d v/\((z.agg=true/\d= .agg ((ds.drop off).take z.ks.length))\/(z.agg=false/\[d]=(ds.drop off).take z.ks.length)):=by
 have Z:z.ks.length<=(ds.drop off).length:=by rw[C6];omega
 have h1:=P4 off ds _ (Wk _ _ h) (by omega);obtain⟨h2,O⟩:=UT z.ks.length _ _ h1 Z;cases ha:z.agg with
 |false=>
  obtain⟨k,Q,G⟩:=pP hk ha;rw[Q] at Z O hf⊢;simp only[ZeW] at Z O hf⊢;cases hd:ds.drop off with
  |nil=>rw[hd] at Z;simp at Z
  |cons d r=>
   rw[hd] at O hf;simp only[EG,Eo,rdl] at O hf;obtain⟨v,r',hv,h4,h5⟩:=O;refine⟨d,v,?_,by simpa[KT.fit,ha,Q] using hf,h4,.inr ⟨trivial,by simp⟩⟩;have hx:xs[off]? =some v:=by
    have:(xs.toList.drop off)[0]? =some v:=by
     cases hq:xs.toList.drop off with
     |nil=>rw[hq] at hv;simp at hv
     |cons a b=>rw[hq] at hv;simp at hv;simp[hv.1]
    simpa using this
   unfold part;rcases G with ⟨j,_,G⟩|⟨_,G⟩|⟨_,G⟩<;>simp[isAgg,run_underlying G,hx]
 |true=>
  obtain⟨m,aa,_,G,_⟩:=vZ hk ha;refine⟨_,.agg (xs.extract off (off+z.ks.length)),?_,by simpa[KT.fit,ha] using hf,?_,.inl ⟨rfl,rfl⟩⟩
  .unfold part;simp[isAgg,run_underlying G,sizeOf,typeInfo,hi,hz]
  .simp only[rd];refine⟨_,rfl,?_⟩;rw[Zfc];simpa[List.extract] using O
def Qr5(d:Nat)(xs z:Array Value)(f:Field)(G:List Field)(hn:f.name≠ "_"){w:World}{a b:Value}{r:Bool}(O:(part f.type xs f.offset).run P w= .ok a w)
 (Q:(part f.type z f.offset).run P w= .ok b w)(Z:(Op.equalIn d f.type a b).run P w= .ok r w):
 (Op.eqFields d xs z (f::G)).run P w=if r=true then (Op.eqFields d xs z G).run P w else .ok false w:=by
 simp only[Op.eqFields,ne_eq,hn,yY,B5,Sem.run_bind,O,Q,Z,Result.andThen_ok];cases r<;>simp
section
variable {ok:Nat->Prop}{hp:Nat->Option Obj}{w:World}
def Sm{n m:Nat}(ih: ∀(t:TypeId) (Q:KT),DF P n t=some Q-> ∀(d1 d2:D) (v1 v2:Value),Q.fit d1=true->Q.fit d2=true->rd ok hp d1 v1->rd ok hp d2 v2->(Op.equalIn m t v1 v2).run P w= .ok (D.beq d1 d2) w):
 ∀(fs:List Field) (off:Nat) (ks:List KK),YY P (DF P n) fs off=some ks-> ∀(z G:List D) (xs ys:Array Value),off+ks.length=z.length->off+ks.length=G.length->
  B3 ks (z.drop off)=true->B3 ks (G.drop off)=true->rdl ok hp z xs.toList->rdl ok hp G ys.toList->(Op.eqFields m xs ys fs).run P w= .ok (D.beql (z.drop off) (G.drop off)) w:=by
 intro fs;induction fs with
 |nil=>
  intro off ks O z G xs ys aa ab _ _ _ _;simp only[YY,AM] at O;subst O;rw[DB (by simpa using zG aa.symm),DB (by simpa using zG ab.symm)];simp[Op.eqFields,D.beql]
 |cons f fs an=>
  intro off ks O z G xs ys aa ab ak am ag ah;simp only[YY] at O;split at O
  .rename_i Q i Z hi;cases hb:(f.offset==off && (f.name != "_" && i.size==Q.ks.length))<;>rw[hb] at O
   .simp at O
   .simp only[BV,Dl] at O;obtain⟨ao,af,rfl⟩:=O;simp only[AW,PO,bne_iff_ne,ne_eq] at hb;obtain⟨rfl,ac,ai⟩:=hb;obtain⟨g1,g2,g3⟩:=wK _ _ _ ak;obtain⟨g4,g5,g6⟩:=wK _ _ _ am;rw[DZ] at aa ab;obtain⟨d1,v1,p1,q1,r1,s1⟩:=Qsw (w:=w) Z hi ai (by omega) ag g1;obtain⟨d2,v2,p2,q2,r2,s2⟩:=Qsw (w:=w) Z hi ai (by omega) ah g4;have he:=ih _ _ Z d1 d2 v1 v2 q1 q2 r1 r2;rw[Qr5 m xs ys f fs ac p1 p2 he];rw[DS] at g2 g5;have ad:=an _ _ af z G xs ys (by omega) (by omega) g2 g5 ag ah;have aj:D.beq d1 d2=D.beql ((z.drop f.offset).take Q.ks.length) ((G.drop f.offset).take Q.ks.length):=by
     rcases s1 with ⟨_,rfl⟩|⟨ha,e1⟩<;>rcases s2 with ⟨hb,rfl⟩|⟨hb,e2⟩
     .simp[D.beq]
     .simp_all
     .simp_all
     .rw[<-e1,<-e2];simp[D.beql]
    rw[Qq6 Q.ks.length (z.drop f.offset) (G.drop f.offset) g3 g6,ad,aj,DS,DS];cases D.beql ((z.drop f.offset).take Q.ks.length) ((G.drop f.offset).take Q.ks.length)<;>simp
  .cases O
def LS: ∀(n m:Nat),n<=m-> ∀(t:TypeId) (kt:KT),DF P n t=some kt-> ∀(d1 d2:D) (v1 v2:Value),kt.fit d1=true->kt.fit d2=true->rd ok hp d1 v1->rd ok hp d2 v2->
 (Op.equalIn m t v1 v2).run P w= .ok (D.beq d1 d2) w:=by
 intro n;induction n with
 |zero=>intro m _ t kt h;simp[DF] at h
 |succ n ih=>
  intro m hm t kt h d1 d2 v1 v2 G O Q Z;obtain⟨m,rfl⟩: ∃m',m=m'+1:=⟨m - 1,by omega⟩;cases ha:kt.agg with
  |false=>
   obtain⟨k,hk,hu⟩:=pP h ha;simp only[KT.fit,ha,hk,B3,Ep] at G O;rcases cR G Q with ⟨j,a,e1,rfl,rfl⟩|⟨a,e1,rfl,rfl⟩|⟨a,e1,rfl,rfl⟩<;>
    rcases cR O Z with ⟨j2,b,e2,rfl,rfl⟩|⟨b,e2,rfl,rfl⟩|⟨b,e2,rfl,rfl⟩<;>rw[e1] at e2<;>cases e2<;>
    rcases hu with ⟨_,e3,hu⟩|⟨e3,hu⟩|⟨e3,hu⟩<;>rw[e1] at e3<;>cases e3
   .simp[Op.equalIn,run_underlying hu,D.beq]
   .simp[Op.equalIn,run_underlying hu,D.beq]
   .simp[Op.equalIn,run_underlying hu,D.beq]
  |true=>
   obtain⟨m0,z,ag,hu,af,ad⟩:=vZ h ha;obtain rfl:n=m0:=by omega
   cases d1<;>simp only[KT.fit,ha,CQ] at G;cases d2<;>simp only[KT.fit,ha,CQ] at O;rename_i ab ac;simp only[rd] at Q Z;obtain⟨xs,rfl,Q⟩:=Q;obtain⟨ys,rfl,Z⟩:=Z;have aa:P.fieldsOf t=z:=by simp[Program.fieldsOf,hu]
   rw[run_equalIn_struct w m t xs ys (by rw[aa];exact hu) af,aa]
   have:=Sm (w:=w) (λt kt h=>ih m (by omega) t kt h) z.toList 0 kt.ks ad ab ac xs ys (by simp[vV _ _ G]) (by simp[vV _ _ O]) (by simpa using G) (by simpa using O) Q Z
   rw[this];simp[D.beq]
def YM(em:Bool)(n:Nat)(cs:Array Value):List Field->Sem Unit
 |[]=>pure ()
 |f::z=>if f.name≠ "_" then do
   let a <-part f.type cs f.offset
   Instr.checkKey em n f.type a
   YM em n cs z
  else YM em n cs z
def Qvk(em:Bool)(n:Nat)(t:TypeId)(cs:Array Value){z:Array Field}(O:P.underlying t=some (.struct z)):
 (Instr.checkKey em (n+1) t (.agg cs)).run P w=(YM em n cs z.toList).run P w:=by
 simp only[Instr.checkKey,Sem.run_bind,run_underlying O,Result.andThen_ok];rw[<-Array.forIn_toList];generalize z.toList=G;clear O;induction G generalizing w with
 |nil=>simp[YM]
 |cons f G ih=>
  simp only[List.forIn_cons,YM,Sem.run_bind,Sem.run_ite];split
  .generalize (part f.type cs f.offset).run P w=r1;cases r1 with
   |ok a Q=>
    simp only[Result.andThen_ok];generalize (Instr.checkKey em n f.type a).run P Q=r2;cases r2 with
    |ok b Z=>
     simp only[Result.andThen_ok,Sem.run_pure];exact ih
    |halt x Z=>simp[Result.andThen]
   |halt x Q=>simp[Result.andThen]
  .simp only[Sem.run_pure,Result.andThen_ok];exact ih
def Qw3{n m:Nat}{em:Bool}(ih: ∀(t:TypeId) (kt:KT),DF P n t=some kt-> ∀(d1:D) (v1:Value),kt.fit d1=true->rd ok hp d1 v1->(Instr.checkKey em m t v1).run P w= .ok () w):
 ∀(Q:List Field) (off:Nat) (ks:List KK),YY P (DF P n) Q off=some ks-> ∀(G:List D) (xs:Array Value),off+ks.length=G.length->
  B3 ks (G.drop off)=true->rdl ok hp G xs.toList->(YM em m xs Q).run P w= .ok () w:=by
 intro Q;induction Q with
 |nil=>intro off ks _ G xs _ _ _;simp[YM]
 |cons f Q ag=>
  intro off ks z G xs ad ac ab;simp only[YY] at z;split at z
  .rename_i kt i aa hi;cases hb:(f.offset==off && (f.name != "_" && i.size==kt.ks.length))<;>rw[hb] at z
   .simp at z
   .simp only[BV,Dl] at z;obtain⟨ah,Z,rfl⟩:=z;simp only[AW,PO,bne_iff_ne,ne_eq] at hb;obtain⟨rfl,O,af⟩:=hb;obtain⟨g1,g2,g3⟩:=wK _ _ _ ac;rw[DZ] at ad;obtain⟨d1,v1,p1,q1,r1,s1⟩:=Qsw (w:=w) aa hi af (by omega) ab g1;rw[DS] at g2;simp only[YM,ne_eq,O,yY,B5,Sem.run_bind,p1,ih _ _ aa d1 v1 q1 r1,Result.andThen_ok];exact ag _ _ Z G xs (by omega) g2 ab
  .cases z
def uU{em:Bool}: ∀(n m:Nat),n<=m-> ∀(t:TypeId) (O:KT),DF P n t=some O-> ∀(d1:D) (v1:Value),O.fit d1=true->rd ok hp d1 v1->
 (Instr.checkKey em m t v1).run P w= .ok () w:=by
 intro n;induction n with
 |zero=>intro m _ t O h;simp[DF] at h
 |succ n ih=>
  intro m hm t O h d1 v1 Q G;obtain⟨m,rfl⟩: ∃m',m=m'+1:=⟨m - 1,by omega⟩;cases ha:O.agg with
  |false=>
   obtain⟨k,hk,Z⟩:=pP h ha;rcases Z with ⟨_,_,Z⟩|⟨_,Z⟩|⟨_,Z⟩<;>simp[Instr.checkKey,run_underlying Z]
  |true=>
   obtain⟨m0,z,ac,Z,ad,ab⟩:=vZ h ha;obtain rfl:n=m0:=by omega
   cases d1<;>simp only[KT.fit,ha,CQ] at Q;rename_i aa;simp only[rd] at G;obtain⟨xs,rfl,G⟩:=G;rw[Qvk em m t xs Z];exact Qw3 (w:=w) (λt O h=>ih m (by omega) t O h) z.toList 0 O.ks ab aa xs (by simp[vV _ _ Q]) (by simpa using Q) G
def Vd(kd:D)(ds:List (D×D))(i:Nat)(ok:Nat->Prop)(hp:Nat->Option Obj):Option (Nat×Value)->Prop
 |none=>lk ds kd=none/\(∀y,Ek ds kd y=ds++[(kd,y)])/\L2 ds kd=ds
 |some (j,v)=> ∃p k y,j=i+p/\ds[p]? =some (k,y)/\D.beq kd k=true/\lk ds kd=some y/\rd ok hp y v/\(∀y',Ek ds kd y'=ds.set p (kd,y'))/\L2 ds kd=ds.eraseIdx p
def Qq2{kd k y:D}{ds:List (D×D)}{i:Nat}{r:Option (Nat×Value)}(z:D.beq kd k=false)(h:Vd kd ds (i+1) ok hp r):Vd kd ((k,y)::ds) i ok hp r:=by
 cases r with
 |none=>
  simp only[Vd] at h⊢;exact⟨by simp[lk,z,h.1],λy=>by simp[Ek,z,h.2.1],by simp[L2,z,h.2.2]⟩
 |some r=>
  obtain⟨j,v⟩:=r;simp only[Vd] at h⊢;obtain⟨p,k',y',h1,G,O,Q,Z,h6,h7⟩:=h;exact⟨p+1,k',y',by omega,by simpa using G,O,by simp[lk,z,Q],Z,λy=>by simp[Ek,z,h6],by simp[L2,z,h7]⟩
def Qz7{kd k y:D}{ds:List (D×D)}{i:Nat}{v:Value}(z:D.beq kd k=true)(G:rd ok hp y v):Vd kd ((k,y)::ds) i ok hp (some (i,v)):=
 ⟨0,k,y,rfl,rfl,z,by simp[lk,z],G,λy'=>by simp[Ek,z],by simp[L2,z]⟩
def Qh4{t:TypeId}{G:KT}(Z:BI P t=some G){kd:D}{Q:Value}(hf:G.fit kd=true)(hr:rd ok hp kd Q):
 ∀(ds:List (D×D)) (es:List MapEntry) (i:Nat),(∀e∈ds,G.fit e.1=true)->Cw ok hp ds es-> ∃r,(Instr.findAsking t Q es i).run P w= .ok r w/\Vd kd ds i ok hp r
 |[],es,i,_,h=>by
  simp only[Cw] at h;subst h;exact⟨none,by simp[Instr.findAsking],by simp[Vd,lk,Ek,L2]⟩
 |(k,y)::ds,es,i,z,h=>by
  simp only[Cw] at h;obtain⟨e,es,rfl,h1,h2,h3⟩:=h;have O:(Op.equal t Q e.key).run P w= .ok (D.beq kd k) w:=LS 5 10000 (by omega) t G Z kd k _ _ hf (z (k,y) (by simp)) hr h1;simp only[Instr.findAsking,Sem.run_bind,O,Result.andThen_ok];cases hb:D.beq kd k with
  |true=>exact⟨_,by simp,Qz7 hb h2⟩
  |false=>
   obtain⟨r,h4,h5⟩:=Qh4 Z hf hr ds es (i+1) (λe O=>z e (by simp[O])) h3;exact⟨r,by simpa using h4,Qq2 hb h5⟩
def Qmm{t:TypeId}{u:TypeDesc}{kt:KT}(hk:BI P t=some kt)(ha:kt.agg=false)(hu:P.underlying t=some u){kd:D}{kv:Value}(hf:kt.fit kd=true)(hr:rd ok hp kd kv):
 ∀(ds:List (D×D)) (es:List MapEntry) (i:Nat),(∀e∈ds,kt.fit e.1=true)->Cw ok hp ds es-> ∃r,Instr.findNow u kv es i=some r/\Vd kd ds i ok hp r
 |[],es,i,_,h=>by
  simp only[Cw] at h;subst h;exact⟨none,by simp[Instr.findNow],by simp[Vd,lk,Ek,L2]⟩
 |(k,y)::ds,es,i,O,h=>by
  simp only[Cw] at h;obtain⟨e,es,rfl,h1,h2,h3⟩:=h;have he:Instr.sameNow u kv e.key=some (D.beq kd k):=by
   obtain⟨q,hq,z⟩:=pP hk ha;have G:=O _ (BQ);simp only[KT.fit,ha,hq,B3,Ep] at hf G;generalize e.key=ek at h1⊢;rcases cR hf hr with ⟨j,a,Q,rfl,rfl⟩|⟨a,Q,rfl,rfl⟩|⟨a,Q,rfl,rfl⟩<;>
    rcases cR G h1 with ⟨j2,b,Z,rfl,rfl⟩|⟨b,Z,rfl,rfl⟩|⟨b,Z,rfl,rfl⟩<;>rw[Q] at Z<;>cases Z<;>
    rcases z with ⟨_,e3,z⟩|⟨e3,z⟩|⟨e3,z⟩<;>rw[Q] at e3<;>cases e3<;>rw[hu] at z<;>obtain rfl:=AB z<;>simp[Instr.sameNow,D.beq]
  simp only[Instr.findNow,he];cases hb:D.beq kd k with
  |true=>exact⟨_,rfl,Qz7 hb h2⟩
  |false=>
   obtain⟨r,h4,h5⟩:=Qmm hk ha hu hf hr ds es (i+1) (λe he=>O e (by simp[he])) h3;exact⟨r,h4,Qq2 hb h5⟩
def uI{t:TypeId}{Z:KT}(Q:BI P t=some Z){kd:D}{kv:Value}(hf:Z.fit kd=true)(hr:rd ok hp kd kv)(ds:List (D×D))(es:List MapEntry)(G: ∀e∈ds,Z.fit e.1=true)
 (h:Cw ok hp ds es): ∃r,(Instr.findKey t kv es).run P w= .ok r w/\Vd kd ds 0 ok hp r:=by
 cases ha:Z.agg with
 |true=>
  obtain⟨m0,O,ac,z,ad,ab⟩:=vZ Q ha;rw[run_findKey_eq w (by simp[z])];exact Qh4 Q hf hr ds es 0 G h
 |false=>
  obtain⟨k,aa,z⟩:=pP Q ha;obtain⟨u,z⟩: ∃u,P.underlying t=some u:=by rcases z with ⟨j,_,z⟩|⟨_,z⟩|⟨_,z⟩<;>exact⟨_,z⟩
  obtain⟨r,h1,h2⟩:=Qmm Q ha z hf hr ds es 0 G h;exact⟨r,by simp[Instr.findKey,run_underlying z,h1],h2⟩
end
end
def uX{P:Program}{w:World}{b:Nat}{es es':Array MapEntry}{clock c':Nat}(h:w.heap[b]? =some (.map es clock)):
 ∃w',(setObj b (.map es' c')).run P w= .ok () w'/\w'.heap=w.heap.setIfInBounds b (.map es' c')/\w'.os=w.os/\w'.tape=w.tape/\w'.output=w.output/\w.drawn<=w'.drawn:=by
 refine⟨{w with heap:=w.heap.setIfInBounds b (.map es' c')},?_,rfl,rfl,rfl,rfl,AP _⟩;exact MapKept.run_setObj_map _ h
section
variable {P:Program}{tm:List (Nat×AV)}{h:Nat->Option Am}{nx:Nat}{o:Oper}{K:Ah}
def OW{op:BinOp}{T U:TypeId}{x y:Operand}{a b:List D}(ho:o.op= .binOp op T x y U)(hx:Ap tm x= .im (.agg a))(hy:Ap tm y= .im (.agg b))
 (z:pG P T op a b K (BI P T)):BM P tm h nx o K:=by
 cases hkt:BI P T with
 |none=>rw[hkt] at z;exact z.elim
 |some kt=>
 rw[hkt] at z;simp only[pG] at z;obtain⟨ad,af,hg,z⟩:=z;have Z:op= .eql\/op= .neq:=by cases op<;>first|exact .inl rfl|exact .inr rfl|exact z.elim
 have ag:K (.im (.bool (decide (op= .neq) !=D.beql a b))) {}:=by
  rcases Z with rfl|rfl
  .simpa[pJ] using z
  .simpa[pJ] using z
 refine⟨_,_,B6.pure (u:=[]) ?_,ag⟩;intro C S ac hW _ G;have O:=G x (by rw[ho];simp[Op.operands]);have Q:=G y (by rw[ho];simp[Op.operands]);rw[hx] at O;rw[hy] at Q;simp only[Aa] at O Q;refine⟨.bool (decide (op= .neq) !=D.beql a b),?_,by simp only[Aa,rd]⟩;have he:=LS (P:=P) (w:=S.w) 5 10000 (by omega) T kt hkt _ _ _ _ ad af O Q;simp only[rd] at O Q;obtain⟨xs,aa,_⟩:=O;obtain⟨ys,ab,_⟩:=Q;rw[aa,ab] at he;simp only[execOp,ho,aa,ab,Sem.run_bind,run_eqGuard_agg S.w op T x y xs ys hg,Result.andThen_ok];rcases Z with rfl|rfl
 .simp[run_eql_struct,he,D.beq]
 .simp[run_neq_struct,he,D.beq]
def Qqm{T k e:TypeId}{kt:KT}(hu:P.underlying T=some (.map k e))(aa:BI P k=some kt){kd:D}{kv:Value}(O:kt.fit kd=true)
 {Q:Nat->Prop}{hp:Nat->Option Obj}(hr:rd Q hp kd kv){w:World}{b:Nat}{G:Array MapEntry}{clock:Nat}(hb:w.heap[b]? =some (.map G clock)){es:List (D×D)}(ac: ∀e∈es,kt.fit e.1=true)
 (ab:Cw Q hp es G.toList)(ok:Bool):
 (∃y v,lk es kd=some y/\rd Q hp y v/\(Instr.lookup T (.map (some b)) kv ok).run P w= .ok (if ok then .tuple #[v,.bool true] else v) w)\/
 (lk es kd=none/\ ∀z,(zeroValue e).run P w= .ok z w->(Instr.lookup T (.map (some b)) kv ok).run P w= .ok (if ok then .tuple #[z,.bool false] else z) w):=by
 obtain⟨r,h1,h2⟩:=uI (w:=w) aa O hr es G.toList ac ab;have Z:=uU (P:=P) (w:=w) (em:=G.isEmpty) 5 10000 (by omega) k kt aa kd kv O hr;cases r with
 |none=>
  refine .inr ⟨h2.1,λz hz=> ?_⟩;simp[Instr.lookup,run_underlying hu,P2 (w:=w) hb,Z,h1,hz]
 |some r=>
  obtain⟨j,v⟩:=r;obtain⟨p,k',y,_,_,_,h4,h5,_⟩:=h2;refine .inl ⟨y,v,h4,h5,?_⟩;simp[Instr.lookup,run_underlying hu,P2 (w:=w) hb,Z,h1]
def Qabs{T k e:TypeId}{Z:KT}(hu:P.underlying T=some (.map k e))(O:BI P k=some Z){kd:D}{kv:Value}(G:Z.fit kd=true)
 {aa:Nat->Prop}{hp:Nat->Option Obj}(hr:rd aa hp kd kv){w:World}(ok:Bool){z:Value}(hz:(zeroValue e).run P w= .ok z w):
 (Instr.lookup T (.map none) kv ok).run P w= .ok (if ok then .tuple #[z,.bool false] else z) w:=by
 obtain⟨r,h1,h2⟩:=uI (w:=w) O G hr [] [] (by simp) (by simp only[Cw]);have Q:=uU (P:=P) (w:=w) (em:=true) 5 10000 (by omega) k Z O kd kv G hr;cases r with
 |none=>simp[Instr.lookup,run_underlying hu,Q,h1,hz]
 |some r=>
  obtain⟨j,v⟩:=r;obtain⟨p,k',y,_,h3,_⟩:=h2;simp at h3
def Qx8{S:Ay}{d:D}{v:Value}(ok b:Bool)(h:rd S.ok S.hp d v):Aa S (bif ok then .tup [.im d,.im (.bool b)] else .im d) (if ok then .tuple #[v,.bool b] else v):=by
 cases ok with
 |false=>simpa only[Bs,CQ,CA,Aa] using h
 |true=>
  simp only[BV,B5,Aa];exact⟨_,rfl,by simp[AN,Aa,rd,h]⟩
def Qabg{T:TypeId}{m k:Operand}{ok:Bool}(ho:o.op= .lookup T m k ok)(O:Bh (wI P h (Ap tm m) (Ap tm k) ok K) (tI P T)):BM P tm h nx o K:=by
 cases hT:tI P T with
 |none=>rw[hT] at O;exact O.elim
 |some ti=>
 rw[hT] at O;simp only[Bh,wI] at O;cases hf:ti.kind<;>rw[hf] at O<;>try exact O.elim
 rename_i kT e;have hu:=iW hT hf;cases hkv:Ap tm k<;>rw[hkv] at O<;>try exact O.elim
 rename_i kd;simp only[luK] at O;cases hE:tI P e with
 |none=>rw[hE] at O;exact O.elim
 |some te=>
 rw[hE] at O;simp only[Bh,luE] at O;cases ag:BI P kT with
 |none=>rw[ag] at O;exact O.elim
 |some kt=>
 rw[ag] at O;simp only[Xy] at O;obtain⟨af,O⟩:=O;have am: ∀(S:Ay) (a:Act),(∀x∈o.op.operands,Aa S (Ap tm x) (a.eval x))->rd S.ok S.hp kd (a.eval k):=by
  intro S a G
  have:=G k (by rw[ho];simp[Op.operands])
  rw[hkv] at this;simpa only[Aa] using this
 have ai: ∀{u:List Nat} {es:List (D×D)},(∀e∈es,kt.fit e.1=true)->
  (∀(C:AZ) (S:Ay) (a:Act),Wf C S->(∀n∈u,S.h n=h n)->(∀x∈o.op.operands,Aa S (Ap tm x) (a.eval x))-> ∃b aa Q,a.eval m= .map (some b)/\S.hp b=some (.map aa Q)/\Cw S.ok S.hp es aa.toList)->
  Ip es kd (xW ok {use:=u} K) (IP te ok {use:=u} K)->BM P tm h nx o K:=by
  intro u es ac hm O;obtain⟨av,aw⟩:=O;cases hl:lk es kd with
  |some y=>
   refine⟨_,_,B6.pure (u:=u) ?_,av y hl⟩;intro C S a hW ab G;obtain⟨b,aa,Q,hv,hb,ak⟩:=hm C S a hW ab G;rcases Qqm hu ag af (am S a G) hb ac ak ok with ⟨y',v,Z,h2,h3⟩|⟨Z,_⟩
   .rw[hl] at Z;obtain rfl:=AB Z;refine⟨_,?_,Qx8 ok true h2⟩;simp only[execOp,ho,hv];simp[h3]
   .rw[hl] at Z;cases Z
  |none=>
   obtain⟨aq,ax,au,O⟩:=aw hl;obtain⟨z,an,_,_,ao⟩:=Qrg hE aq au;refine⟨_,_,B6.pure (u:=u) ?_,O⟩;intro C S a hW ab G;obtain⟨b,aa,Q,hv,hb,ak⟩:=hm C S a hW ab G;rcases Qqm hu ag af (am S a G) hb ac ak ok with ⟨y',v,Z,h2,h3⟩|⟨Z,h2⟩
   .rw[hl] at Z;cases Z
   .refine⟨_,?_,Qx8 ok false (ao S.ok S.hp)⟩;simp only[execOp,ho,hv];simp[h2 z (an _)]
 cases hm:Ap tm m<;>rw[hm] at O<;>try exact O.elim
 case im d=>
  cases d<;>try exact O.elim
  case nilm=>
   simp only[dD] at O;obtain⟨aq,ax,au,O⟩:=O;obtain⟨z,an,_,_,ao⟩:=Qrg hE aq au;refine⟨_,_,B6.pure (u:=[]) ?_,O⟩;intro C S a hW ab G;have Z:=G m (by rw[ho];simp[Op.operands]);rw[hm] at Z;simp only[Aa,rd] at Z;refine⟨_,?_,Qx8 ok false (ao S.ok S.hp)⟩;simp only[execOp,ho,Z];simp[Qabs hu ag af (am S a G) ok (an S.w)]
  case mp ah es=>
   simp only[dD] at O;obtain⟨rfl,O⟩:=O;by_cases ac: ∀e∈es,ah.fit e.1=true
   .refine ai (u:=[]) ac ?_ O;intro C S a hW _ G;have Z:=G m (by rw[ho];simp[Op.operands]);rw[hm] at Z;simp only[Aa,rd] at Z;obtain⟨b,aa,Q,h2,_,_,h3,h4,_⟩:=Z;exact⟨b,aa,Q,h2,h3,h4⟩
   .cases hl:lk es kd with
    |some y=>
     refine⟨_,_,B6.pure (u:=[]) ?_,O.1 y hl⟩;intro C S a hW _ G;have Z:=G m (by rw[ho];simp[Op.operands]);rw[hm] at Z;simp only[Aa,rd] at Z;obtain⟨_,_,_,_,h2,_⟩:=Z;exact absurd h2 ac
    |none=>
     obtain⟨_,_,_,O⟩:=O.2 hl;refine⟨_,_,B6.pure (u:=[]) ?_,O⟩;intro C S a hW _ G;have Z:=G m (by rw[ho];simp[Op.operands]);rw[hm] at Z;simp only[Aa,rd] at Z;obtain⟨_,_,_,_,h2,_⟩:=Z;exact absurd h2 ac
 case mp n=>
  simp only[dD] at O;cases hn:h n with
  |none=>rw[hn] at O;exact O.elim
  |some aj=>
  rw[hn] at O;obtain⟨mu,aj⟩:=aj;cases aj<;>try exact O.elim
  rename_i ah es;simp only[Sx] at O;obtain⟨rfl,O⟩:=O;have ad: ∀(C:AZ) (S:Ay),Wf C S->(∀n'∈[n],S.h n'=h n')->S.h n=some (mu,.map ah es)/\An S (S.ρ n) (.map ah es):=λC S hW ab=>by
   have hS:=(ab n (by simp)).trans hn;exact⟨hS,hW.obj _ _ hS⟩
  by_cases ac: ∀e∈es,ah.fit e.1=true
  .refine ai (u:=[n]) ac ?_ O;intro C S a hW ab G;have Z:=G m (by rw[ho];simp[Op.operands]);rw[hm] at Z;obtain⟨hS,ad⟩:=ad C S hW ab;simp only[Aa] at Z;obtain⟨l,hl,hv⟩:=Z.2 _ hS;simp only[An] at ad;obtain⟨lc,aa,Q,h2,_,h3,h4,_⟩:=ad;rw[hl] at h2;obtain rfl:=AB h2;exact⟨l.b,aa,Q,hv,h3,h4⟩
  .cases hl:lk es kd with
   |some y=>
    refine⟨_,_,B6.pure (u:=[n]) ?_,O.1 y hl⟩;intro C S a hW ab _
    have:=(ad C S hW ab).2
    simp only[An] at this;obtain⟨_,_,_,_,h2,_⟩:=this;exact absurd h2 ac
   |none=>
    obtain⟨_,_,_,O⟩:=O.2 hl;refine⟨_,_,B6.pure (u:=[n]) ?_,O⟩;intro C S a hW ab _
    have:=(ad C S hW ab).2
    simp only[An] at this;obtain⟨_,_,_,_,h2,_⟩:=this;exact absurd h2 ac
end
def My{ok:Nat->Prop}{hp:Nat->Option Obj}{kd y:D}{kv v:Value}(Q:rd ok hp kd kv)(Z:rd ok hp y v):
 ∀(p:Nat) (ds:List (D×D)) (es:List MapEntry),Cw ok hp ds es->Cw ok hp (ds.set p (kd,y)) (es.modify p λe=>{e with key:=kv,val:=v})
 |_,[],es,h=>by
  simp only[Cw] at h;subst h;simp[Cw]
 |0,(a,b)::ds,es,h=>by
  simp only[Cw] at h;obtain⟨e,r,rfl,G,O,z⟩:=h;simp only[dL,List.modify_zero_cons,Cw];exact⟨_,r,rfl,Q,Z,z⟩
 |p+1,(a,b)::ds,es,h=>by
  simp only[Cw] at h;obtain⟨e,r,rfl,G,O,z⟩:=h;simp only[jH,List.modify_succ_cons,Cw];exact⟨e,_,rfl,G,O,My Q Z p ds r z⟩
def lG{ok:Nat->Prop}{hp:Nat->Option Obj}{kd y:D}{e:MapEntry}(z:rd ok hp kd e.key)(G:rd ok hp y e.val):
 ∀(ds:List (D×D)) (es:List MapEntry),Cw ok hp ds es->Cw ok hp (ds++[(kd,y)]) (es++[e])
 |[],es,h=>by
  simp only[Cw] at h;subst h;simp only[Dj,Cw];exact⟨e,[],rfl,z,G,rfl⟩
 |(a,b)::ds,es,h=>by
  simp only[Cw] at h;obtain⟨e',r,rfl,O,Q,Z⟩:=h;simp only[BG,Cw];exact⟨e',_,rfl,O,Q,lG z G ds r Z⟩
def Qpa{ok:Nat->Prop}{hp:Nat->Option Obj}:
 ∀(p:Nat) (ds:List (D×D)) (es:List MapEntry),Cw ok hp ds es->Cw ok hp (ds.eraseIdx p) (es.eraseIdx p)
 |_,[],es,h=>by
  simp only[Cw] at h;subst h;simp[Cw]
 |0,(a,b)::ds,es,h=>by
  simp only[Cw] at h;obtain⟨e,r,rfl,G,O,z⟩:=h;simpa only[ZeH] using z
 |p+1,(a,b)::ds,es,h=>by
  simp only[Cw] at h;obtain⟨e,r,rfl,G,O,z⟩:=h;simp only[ZeG,Cw];exact⟨e,_,rfl,G,O,Qpa p ds r z⟩
def Qpy(p:Nat)(z v:Value): ∀(es:List MapEntry),(es.modify p λe=>{e with key:=z,val:=v}).map (·.born)=es.map (·.born):=by
 induction p with
 |zero=>intro es;cases es<;>simp
 |succ p ih=>intro es;cases es with
  |nil=>simp
  |cons e es=>simp[ih]
def YV(a b:ByteArray):(a==b)=decide (a=b):=by rw[beq_toListBytes,Qry]
def Qoy{ok ok':Nat->Prop}{hp hp':Nat->Option Obj}: ∀(ks:List KK) (a b:List D) (x y:List Value),B3 ks a=true->B3 ks b=true->rdl ok hp a x->rdl ok' hp' b y->D.beql a b=true->x=y
 |[],[],[],x,y,_,_,z,G,_=>by simp only[rdl] at z G;rw[z,G]
 |[],_::_,_,_,_,h,_,_,_,_=>by simp[B3] at h
 |[],[],_::_,_,_,_,h,_,_,_=>by simp[B3] at h
 |_::_,[],_,_,_,h,_,_,_,_=>by simp[B3] at h
 |_::_,_::_,[],_,_,_,h,_,_,_=>by simp[B3] at h
 |k::ks,d::a,d'::b,x,y,hf,Z,z,G,hb=>by
  simp only[B3,AW] at hf Z;simp only[rdl] at z G;simp only[D.beql,AW] at hb;obtain⟨v,r,rfl,h3,h4⟩:=z;obtain⟨v',r',rfl,h5,h6⟩:=G;rw[Qoy ks a b r r' hf.2 Z.2 h4 h6 hb.2];congr 1;rcases cR hf.1 h3 with ⟨j,n,Q,rfl,rfl⟩|⟨n,Q,rfl,rfl⟩|⟨n,Q,rfl,rfl⟩<;>
   rcases cR Z.1 h5 with ⟨j2,n2,O,rfl,rfl⟩|⟨n2,O,rfl,rfl⟩|⟨n2,O,rfl,rfl⟩<;>rw[Q] at O<;>cases O<;>simp_all [D.beq,YV]
def Lo{ok:Nat->Prop}{hp:Nat->Option Obj}{n:Nat}{k:KK}{d:D}{v:Value}(hf:k.fit d=true)(h:rd ok hp d v):Instr.sameBits n v v=true:=by
 rcases cR hf h with ⟨j,m,z,rfl,rfl⟩|⟨m,z,rfl,rfl⟩|⟨m,z,rfl,rfl⟩<;>simp[Instr.sameBits,YV]
def Ra{ok:Nat->Prop}{hp:Nat->Option Obj}{n:Nat}: ∀(ks:List KK) (a:List D) (x:List Value),B3 ks a=true->rdl ok hp a x->(x.zip x).all (λ(x,y)=>Instr.sameBits n x y)=true
 |[],[],x,_,h=>by simp only[rdl] at h;subst h;rfl
 |[],_::_,_,h,_=>by simp[B3] at h
 |_::_,[],_,h,_=>by simp[B3] at h
 |k::ks,d::a,x,hf,h=>by
  simp only[B3,AW] at hf;simp only[rdl] at h;obtain⟨v,r,rfl,z,G⟩:=h;simp only[List.zip_cons_cons,ET,AW];exact⟨Lo hf.1 z,Ra ks a r hf.2 G⟩
def Oz{P:Program}{w:World}{ok ok':Nat->Prop}{hp hp':Nat->Option Obj}{Z:KT}{a b:D}{x y:Value}(z:Z.fit a=true)(Q:Z.fit b=true)(G:rd ok hp a x)(O:rd ok' hp' b y)(hb:D.beq a b=true):
 (Instr.keyThatStays y x).run P w= .ok x w:=by
 have aa:x=y/\Instr.sameBits 10000 x x=true:=by
  cases ha:Z.agg with
  |true=>
   cases a<;>simp only[KT.fit,ha,CQ] at z;cases b<;>simp only[KT.fit,ha,CQ] at Q;simp only[rd] at G O;obtain⟨u,rfl,G⟩:=G;obtain⟨v,rfl,O⟩:=O;simp only[D.beq] at hb
   have:=Qoy _ _ _ _ _ z Q G O hb
   refine⟨by rw[Zg] at this;rw[this],?_⟩;show (u.size==u.size && (u.toList.zip u.toList).all λ(x,y)=>Instr.sameBits 9999 x y)=true;rw[Ra _ _ _ z G];simp
  |false=>
   simp only[KT.fit,ha] at z Q;have hx:rdl ok hp [a] [x]:=by simp only[rdl];exact⟨x,[],rfl,G,rfl⟩
   have hy:rdl ok' hp' [b] [y]:=by simp only[rdl];exact⟨y,[],rfl,O,rfl⟩
   have:=Qoy _ _ _ _ _ z Q hx hy (by simp[D.beql,hb])
   refine⟨by simpa using this,?_⟩;cases hks:Z.ks with
   |nil=>rw[hks] at z;simp[B3] at z
   |cons k r=>
    rw[hks] at z;simp only[B3,AW] at z;exact Lo z.1 G
 obtain⟨rfl,h5⟩:=aa;simp[Instr.keyThatStays,h5]
def L6{O:KT}{kd y:D}(G:O.fit kd=true): ∀(ds:List (D×D)),(∀e∈ds,O.fit e.1=true)-> ∀e∈Ek ds kd y,O.fit e.1=true
 |[],_=>by simp[Ek,G]
 |(a,b)::ds,h=>by
  have ih:=L6 (y:=y) G ds (λe z=>h e (by simp[z]));simp only[Ek];cases D.beq kd a with
  |true=>
   simp only[BV,Bt];rintro e (rfl|z)
   .exact G
   .exact h e (by simp[z])
  |false=>
   simp only[Bs,Bt];rintro e (rfl|z)
   .exact h _ (by simp)
   .exact ih e z
def L5{G:KT}{kd:D}: ∀(ds:List (D×D)),(∀e∈ds,G.fit e.1=true)-> ∀e∈L2 ds kd,G.fit e.1=true
 |[],_=>by simp[L2]
 |(a,b)::ds,h=>by
  have ih:=L5 (kd:=kd) ds (λe z=>h e (by simp[z]));simp only[L2];cases D.beq kd a with
  |true=>
   simp only[BV];intro e z;exact h e (by simp[z])
  |false=>
   simp only[Bs,Bt];rintro e (rfl|z)
   .exact h _ (by simp)
   .exact ih e z
section
variable {P:Program}{tm:List (Nat×AV)}{h:Nat->Option Am}{nx:Nat}{o:Oper}{K:Ah}
def S4{n:Nat}{Q:KT}{es es':List (D×D)}(hn:h n=some (true,.map Q es))(ab:(∀e∈es,Q.fit e.1=true)-> ∀e∈es',Q.fit e.1=true)
 (ah: ∀(S:Ay) (a:Act) (b:Nat) (O:Array MapEntry) (clock:Nat),(∀x∈o.op.operands,Aa S (Ap tm x) (a.eval x))->(∀v,Aa S (.mp n) v->v= .map (some b))->
  (∀e∈es,Q.fit e.1=true)->S.w.heap[b]? =some (.map O clock)->Cw S.ok S.hp es O.toList->(O.toList.map (·.born)).Nodup->(∀e∈O.toList,e.born<clock)->
  ∃z G w',((execOp a.eval o).run P S.w= .ok .skip w'\/ ∃v,(execOp a.eval o).run P S.w= .ok (.value v) w')/\w'.heap=S.w.heap.setIfInBounds b (.map z G)/\w'.os=S.w.os/\w'.tape=S.w.tape/\(w'.output=S.w.output/\S.w.drawn<=w'.drawn)/\
   Cw S.ok S.hp es' z.toList/\(z.toList.map (·.born)).Nodup/\(∀e∈z.toList,e.born<G))
 (hk:K .any {use:=[n],kill:=[n],new:=[(n,(true,.map Q es'))]}):BM P tm h nx o K:=by
 refine⟨_,_,B6.one (u:=[n]) (ks:=[n]) (m:=n) (cnt:=0) (.inr ⟨rfl,by simp,by rw[hn];simp⟩) ?_,hk⟩;intro C S a hW hu _ _ ag;have hS:S.h n=some (true,.map Q es):=(hu n (by simp)).trans hn;have af:=hW.obj _ _ hS;simp only[An] at af;obtain⟨l,O,clock,hl,ac,hb,ai,aj,hcl⟩:=af;obtain⟨z,G,w',h1,h2,h3,h4,h5,h6,h7,h8⟩:=ah S a l.b O clock ag (by
  intro v hv;simp only[Aa] at hv;obtain⟨l',ad,ak⟩:=hv.2 _ hS;rw[hl] at ad;obtain rfl:=AB ad;exact ak) ac hb ai aj hcl
 have aa:Kb S n (.map Q es') (some l) [n] w':=cN hW hS hl h2 h3 h4 h5.1 rfl rfl h5.2;have Z:BE (λn'=>S.h n≠none\/n'≠n) S (S.one n (.map Q es') (some l) [n] w')->An (S.one n (.map Q es') (some l) [n] w') (some l) (.map Q es'):=by
  intro hp;simp only[An];exact⟨l,z,G,rfl,ab ac,cV (hW.loc n _ l hS hl).1 h2,KS hp.ok _ _ h6,h7,h8⟩
 rcases h1 with h1|⟨v,h1⟩
 .exact⟨undef,w',some l,.inr ⟨h1,rfl⟩,aa,λhp=>⟨Z hp,by simp only[Aa]⟩⟩
 .exact⟨v,w',some l,.inl h1,aa,λhp=>⟨Z hp,by simp only[Aa]⟩⟩
def Qjd{T:TypeId}{m k v:Operand}{ti:TI}{n:Nat}{kd vd:D}(O:o.op= .mapUpdate T m k v\/o.op= .insert T m k v)(hT:tI P T=some ti)(hm:Ap tm m= .mp n)(am:Ap tm k= .im kd)(aq:Ap tm v= .im vd)(Z:K6 P h n kd vd K ti.kind):BM P tm h nx o K:=by
 cases hf:ti.kind<;>rw[hf] at Z<;>try exact Z.elim
 rename_i kT e;have hu:=iW hT hf;simp only[K6] at Z;cases hkt:BI P kT with
 |none=>rw[hkt] at Z;exact Z.elim
 |some kt=>
 rw[hkt] at Z;simp only[SB] at Z;cases hn:h n with
 |none=>rw[hn] at Z;exact Z.elim
 |some af=>
 rw[hn] at Z;obtain⟨mu,af⟩:=af;cases mu<;>cases af<;>try exact Z.elim
 rename_i aw es;simp only[SC] at Z;obtain⟨rfl,aa,Z⟩:=Z;refine S4 hn (L6 aa es) ?_ Z;intro S a b G clock ab au ah hb ad ai hcl;have h1:=au _ (by have:=ab m (by rcases O with O|O<;>rw[O]<;>simp[Op.operands]);rwa [hm] at this);have h2:=ab k (by rcases O with O|O<;>rw[O]<;>simp[Op.operands]);have h3:=ab v (by rcases O with O|O<;>rw[O]<;>simp[Op.operands]);rw[am] at h2;rw[aq] at h3;simp only[Aa] at h2 h3;obtain⟨r,h4,h5⟩:=uI (w:=S.w) hkt aa h2 es G.toList ah ad;have ag:=uU (P:=P) (w:=S.w) (em:=false) 5 10000 (by omega) kT aw hkt kd _ aa h2;cases r with
 |none=>
  obtain⟨w',h6,h7⟩:=uX (P:=P) (w:=S.w) (b:=b) (es:=G) (es':=G.push {key:=a.eval k,val:=a.eval v,born:=clock}) (clock:=clock) (c':=clock+1) hb;refine⟨_,_,w',.inl ?_,h7.1,h7.2.1,h7.2.2.1,h7.2.2.2,?_,?_,?_⟩
  .rcases O with O|O<;>simp only[execOp,O,h1]<;>
   simp[Instr.mapUpdate,run_underlying hu,P2 (w:=S.w) hb,ag,h4,h6]
  .rw[h5.2.1,yW];exact lG h2 h3 _ _ ad
  .rw[yW,En,Vp];refine⟨ai,by simp,?_⟩;intro x hx y hy;simp only[Bb,BD,BL] at hy;subst hy;simp only[Bn] at hx;obtain⟨e',Q,rfl⟩:=hx
   have:=hcl e' Q
   omega
  .intro e' Q;rw[yW,Bz,BL] at Q;rcases Q with Q|rfl
   .have:=hcl e' Q;omega
   .simp
 |some r=>
  obtain⟨j,v0⟩:=r;obtain⟨p,k',y,h6,h7,h8,h9,ax,aj,ay⟩:=h5;rw[FC] at h6;subst h6;have hj: ∃e',G[j]? =some e'/\rd S.ok S.hp k' e'.key:=by
   have key: ∀(ds:List (D×D)) (es:List MapEntry) (p:Nat),Cw S.ok S.hp ds es->ds[p]? =some (k',y)-> ∃e',es[p]? =some e'/\rd S.ok S.hp k' e'.key:=by
    intro ds;induction ds with
    |nil=>intro es p _ h;simp at h
    |cons d ds ih=>
     intro es p h hp;obtain⟨d1,d2⟩:=d;simp only[Cw] at h;obtain⟨e',r,rfl,g1,g2,g3⟩:=h;cases p with
     |zero=>simp at hp;obtain⟨rfl,rfl⟩:=hp;exact⟨e',rfl,g1⟩
     |succ p=>simpa using ih r p g3 (by simpa using hp)
   obtain⟨e',g1,g2⟩:=key es G.toList j ad h7;exact⟨e',by simpa using g1,g2⟩
  obtain⟨e',Q,an⟩:=hj;have ao:=Oz (P:=P) (w:=S.w) aa (ah (k',y) (Bf h7)) h2 an h8;obtain⟨w',ak,ac⟩:=uX (P:=P) (w:=S.w) (b:=b) (es:=G) (es':=G.modify j λe=>{e with key:=a.eval k,val:=a.eval v}) (clock:=clock) (c':=clock) hb;refine⟨_,_,w',.inl ?_,ac.1,ac.2.1,ac.2.2.1,ac.2.2.2,?_,?_,?_⟩
  .rcases O with O|O<;>simp only[execOp,O,h1]<;>
   simp[Instr.mapUpdate,run_underlying hu,P2 (w:=S.w) hb,ag,h4,Q,ao,ak]
  .rw[aj,Zej];exact My h2 h3 j _ _ ad
  .rw[Zej,Qpy];exact ai
  .intro x hx
   have:x.born∈(G.modify j λe=>{e with key:=a.eval k,val:=a.eval v}).toList.map (·.born):=Zem hx
   rw[Zej,Qpy,Bn] at this;obtain⟨z,hz,av⟩:=this;rw[<-av];exact hcl z hz
def Qabh{T:TypeId}{m k:Operand}{c:Call}{rest:List TypeId}(ho:o.op= .call c)(Q:c.callee= .builtin .delete)(O:c.args= #[m,k])(an:c.argTypes.toList=T::rest)
 (G:Bh (wF P h K (Ap tm m) (Ap tm k)) (tI P T)):BM P tm h nx o K:=by
 cases hT:tI P T with
 |none=>rw[hT] at G;exact G.elim
 |some ti=>
 rw[hT] at G;simp only[Bh,wF] at G;cases hm:Ap tm m<;>rw[hm] at G<;>try exact G.elim
 rename_i n;cases hkd:Ap tm k<;>rw[hkd] at G<;>try exact G.elim
 rename_i kd;simp only at G;cases hf:ti.kind<;>rw[hf] at G<;>try exact G.elim
 rename_i kT e;have hu:=iW hT hf;simp only[Rx] at G;cases hkt:BI P kT with
 |none=>rw[hkt] at G;exact G.elim
 |some kt=>
 rw[hkt] at G;simp only[WM] at G;cases hn:h n with
 |none=>rw[hn] at G;exact G.elim
 |some ac=>
 rw[hn] at G;obtain⟨mu,ac⟩:=ac;cases mu<;>cases ac<;>try exact G.elim
 rename_i aq es;simp only[Ry] at G;obtain⟨rfl,aa,G⟩:=G;have ai:c.argTypes[0]? =some T:=by
  have:c.argTypes.toList[0]? =some T:=by rw[an];rfl
  simpa using this
 refine S4 hn (L5 es) ?_ G;intro S a b z clock ab ao am hb ad ah hcl;have h1:=ao _ (by have:=ab m (by rw[ho];simp[Op.operands,Call.operands,O,Q]);rwa [hm] at this);have h2:=ab k (by rw[ho];simp[Op.operands,Call.operands,O,Q]);rw[hkd] at h2;simp only[Aa] at h2;obtain⟨r,h4,h5⟩:=uI (w:=S.w) hkt aa h2 es z.toList am ad;have ag:=uU (P:=P) (w:=S.w) (em:=z.isEmpty) 5 10000 (by omega) kT aq hkt kd _ aa h2;cases r with
 |none=>
  obtain⟨w',h6,h7⟩:=uX (P:=P) (w:=S.w) (b:=b) (es:=z) (es':=z) (clock:=clock) (c':=clock) hb;refine⟨_,_,w',.inr ⟨.tuple #[],?_⟩,h7.1,h7.2.1,h7.2.2.1,h7.2.2.2,by rw[h5.2.2];exact ad,ah,hcl⟩;simp only[execOp,ho,resolve,Q,O,Sem.run_bind,Sem.run_pure,Result.andThen_ok,invoke,builtin];simp[Builtin.delete_,ai,h1,run_underlying hu,P2 (w:=S.w) hb,ag,h4,h6]
 |some r=>
  obtain⟨j,v0⟩:=r;obtain⟨p,k',y,h6,h7,h8,h9,au,av,aj⟩:=h5;rw[FC] at h6;subst h6;obtain⟨w',ak,Z⟩:=uX (P:=P) (w:=S.w) (b:=b) (es:=z) (es':=z.eraseIdxIfInBounds j) (clock:=clock) (c':=clock) hb;have af:(z.eraseIdxIfInBounds j).toList=z.toList.eraseIdx j:=by simp
  refine⟨_,_,w',.inr ⟨.tuple #[],?_⟩,Z.1,Z.2.1,Z.2.2.1,Z.2.2.2,?_,?_,?_⟩
  .simp only[execOp,ho,resolve,Q,O,Sem.run_bind,Sem.run_pure,Result.andThen_ok,invoke,builtin];simp[Builtin.delete_,ai,h1,run_underlying hu,P2 (w:=S.w) hb,ag,h4,ak]
  .rw[aj,af];exact Qpa j _ _ ad
  .rw[af];exact ah.sublist ((ZeS _ _).map _)
  .intro x hx;rw[af] at hx;exact hcl x ((ZeS _ _).mem hx)
end
def nZ{ok:Nat->Prop}{hp:Nat->Option Obj}{k:Nat}: ∀(l:Nat) (rows:List (List D)) (vs:List Value),rdr ok hp k rows vs->rdr ok hp k (rows.drop l) (vs.drop (l*k))
 |0,rows,vs,h=>by simpa using h
 |l+1,[],vs,_=>by simp only[Zfh,rdr]
 |l+1,r::z,vs,h=>by
  simp only[rdr] at h
  have:=nZ l z _ h.2.2
  rw[DS] at this;simp only[Lg];rwa [show (l+1)*k=k+l*k by rw[rO];omega]
def hC{ok:Nat->Prop}{hp:Nat->Option Obj}{k:Nat}: ∀(n:Nat) (rows:List (List D)) (vs:List Value),rdr ok hp k rows vs->rdr ok hp k (rows.take n) vs
 |0,rows,vs,_=>by simp only[Eo,rdr]
 |n+1,[],vs,_=>by simp only[Zfi,rdr]
 |n+1,r::z,vs,h=>by
  simp only[rdr] at h;simp only[EG,rdr];exact⟨h.1,h.2.1,hC n z _ h.2.2⟩
section
variable {P:Program}{tm:List (Nat×AV)}{h:Nat->Option Am}{nx:Nat}{o:Oper}{K:Ah}
def QW{S:Ay}{a:Act}{x:Option Operand}{d:Nat}{l:Int}(z:GR d (Dx tm x)=some l)(G: ∀y,x=some y->Aa S (Ap tm y) (a.eval y)):
 (x=none/\l=d)\/ ∃y k,x=some y/\a.eval y= .int k l:=by
 cases x with
 |none=>simp only[Dx,GR,AM] at z;exact .inl ⟨rfl,z.symm⟩
 |some y=>
  right;have O:=G y rfl;simp only[Dx] at z;cases hx:Ap tm y<;>rw[hx] at z<;>simp only[GR,reduceCtorEq] at z;rename_i d;cases d<;>simp only[reduceCtorEq,AM] at z;rename_i k n;subst z;rw[hx] at O;simp only[Aa,rd] at O;exact⟨y,k,rfl,O⟩
def Qq1{S:Ay}{a:Act}{lo hi:Option Operand}{l m:Int}{len cap:Nat}{isS:Bool}(ab:GR 0 (Dx tm lo)=some l)(aa:GR len (Dx tm hi)=some m)
 (h0:0<=l)(Q:l<=m)(hm:m<=(len:Int))(ac:len<=cap)(G: ∀y,lo=some y\/hi=some y->Aa S (Ap tm y) (a.eval y))(w:World):
 (Instr.sliceBounds isS len cap (lo.map a.eval) (hi.map a.eval) none).run P w= .ok (l.toNat,m.toNat,cap) w:=by
 have h1:=QW ab (λy O=>G y (.inl O));have h2:=QW aa (λy O=>G y (.inr O));have Z:m<=(cap:Int):=by omega
 unfold Instr.sliceBounds;rcases h1 with ⟨rfl,rfl⟩|⟨y,k,rfl,O⟩<;>rcases h2 with ⟨rfl,rfl⟩|⟨z,k',rfl,hz⟩
 .simp
 .simp[Instr.sliceBound,hz,asIntOf,Z,show (0:Int)<=m by omega]
 .simp[Instr.sliceBound,O,asIntOf,h0,Q]
 .simp only[D7,Sem.run_bind,Sem.run_pure,Result.andThen_ok];have ad:((m.toNat:Nat):Int)=m:=by omega
  simp[Instr.sliceBound,O,hz,asIntOf,h0,Q,Z,show (0:Int)<=m by omega,show ¬(max m 0<l) by omega]
def bZ{T e:TypeId}{te:TI}(hu:P.underlying T=some (.slice e))(hE:tI P e=some te){S:Ay}{a:Act}{x:Operand}{lo hi:Option Operand}{l m:Int}{len cap:Nat}{base:Option Addr}
 (ho:o.op= .slice T x lo hi none)(hx:a.eval x= .slice base len cap)(Z:GR 0 (Dx tm lo)=some l)(O:GR len (Dx tm hi)=some m)
 (h0:0<=l)(Q:l<=m)(hm:m<=(len:Int))(z:len<=cap)(G: ∀y∈o.op.operands,Aa S (Ap tm y) (a.eval y))(w:World):
 (execOp a.eval o).run P w= .ok (.value (.slice (if cap=l.toNat then base else base.map (·.add (l.toNat*te.size))) (m.toNat - l.toNat) (cap - l.toNat))) w:=by
 have hb:=Qq1 (P:=P) (isS:=true) Z O h0 Q hm z (λy hy=>G y (by rw[ho];rcases hy with rfl|rfl<;>simp[Op.operands])) w;have aa:(underlying T).run P w= .ok (.slice e) w:=by simp[underlying,hu]
 simp only[execOp,ho,hx,Instr.sliceAt,Instr.slice,Sem.run_bind,aa,Result.andThen_ok,Option.map_none,hb,I2 hE,Sem.run_pure]
def Pi{T:TypeId}{x:Operand}{lo hi:Option Operand}(ho:o.op= .slice T x lo hi none)(z:Bh (xL P h nx (Ap tm x) (Dx tm lo) (Dx tm hi) K) (tI P T)):BM P tm h nx o K:=by
 have ag:x∈o.op.operands:=by rw[ho];simp[Op.operands]
 cases hT:tI P T with
 |none=>rw[hT] at z;exact z.elim
 |some ti=>
 rw[hT] at z;simp only[Bh,xL] at z;cases hf:ti.kind<;>rw[hf] at z<;>try exact z.elim
 case str=>
  have hu:=Qh hT hf;simp only[PV] at z;cases hx:Ap tm x<;>rw[hx] at z<;>try exact z.elim
  rename_i d;cases d<;>try exact z.elim
  rename_i s;simp only[fY] at z;cases O:GR 0 (Dx tm lo) with
  |none=>rw[O] at z;exact z.elim
  |some l=>
  cases hhi:GR s.size (Dx tm hi) with
  |none=>rw[O,hhi] at z;exact z.elim
  |some m=>
  rw[O,hhi] at z;simp only[Jh] at z;obtain⟨h0,ac,hm,z⟩:=z;refine⟨_,_,B6.pure (u:=[]) ?_,z⟩;intro C S a hW _ G;have Z:=G x ag;rw[hx] at Z;simp only[Aa,rd] at Z;refine⟨.string (s.extract l.toNat m.toNat),?_,by simp only[Aa,rd]⟩;have hb:=Qq1 (P:=P) (isS:=false) O hhi h0 ac hm (AP _) (λy hy=>G y (by rw[ho];rcases hy with rfl|rfl<;>simp[Op.operands])) S.w;have ai:(underlying T).run P S.w= .ok .string S.w:=by simp[underlying,hu]
  simp only[execOp,ho,Z,Instr.sliceAt,Instr.slice,Sem.run_bind,ai,Result.andThen_ok,Option.map_none,dM,CQ,CA,hb,Sem.run_pure]
 case slice e=>
 have hu:=P3 hT hf;simp only[PV] at z;cases hE:tI P e with
 |none=>rw[hE] at z;exact z.elim
 |some te=>
 rw[hE] at z;simp only[Bh] at z;cases hx:Ap tm x<;>rw[hx] at z<;>try exact z.elim
 case im d=>
  cases d<;>try exact z.elim
  rename_i nz k rows;simp only[tT] at z;obtain⟨af,z⟩:=z;cases O:GR 0 (Dx tm lo) with
  |none=>rw[O] at z;exact z.elim
  |some l=>
  cases hhi:GR rows.length (Dx tm hi) with
  |none=>rw[O,hhi] at z;exact z.elim
  |some m=>
  rw[O,hhi] at z;simp only[Uc] at z;obtain⟨h0,ac,hm,z⟩:=z;refine⟨_,_,B6.pure (u:=[]) ?_,z⟩;intro C S a hW _ G;have Z:=G x ag;rw[hx] at Z;simp only[Aa,rd] at Z;have Q:((rows.drop l.toNat).take (m - l).toNat).length=m.toNat - l.toNat:=by
   rw[Ck,C6];omega
  rcases Z with ⟨au,rfl⟩|⟨b,p,cap,vs,U,fr,Z,h2,h3,h4,h5,h6,h7⟩
  .simp only[H9] at hm hhi;obtain⟨ao,Z⟩:=pH au;refine⟨_,bZ hu hE ho Z O hhi h0 ac hm (AP 0) G S.w,?_⟩;have e1:l.toNat=0:=by omega
   have e2:m.toNat=0:=by omega
   simp only[Aa,rd,e1,e2];refine .inl ⟨?_,by simp⟩;cases ao with
   |none=>exact .inl (by simp)
   |some ad=>exact .inr ⟨rfl,ad,by simp⟩
  .refine⟨_,bZ hu hE ho Z O hhi h0 ac hm h3 G S.w,?_⟩;simp only[Aa,rd];right;by_cases hc:cap=l.toNat
   .refine⟨b,p,cap - l.toNat,vs,U,fr,by rw[Ai hc,Q],by simp,by rw[Q];omega,by rw[Q];exact CD (by omega) h4,h5,h6,?_⟩
    have:(rows.drop l.toNat).take (m - l).toNat=[]:=rD (by rw[Q];omega)
    rw[this];simp only[rdr]
   .refine⟨b,p+l.toNat*te.size,cap - l.toNat,vs,U,fr,by rw[Af hc,Q];simp[Addr.add],by simp,by rw[Q];omega,by rw[Q];omega,h5,h6,?_⟩;rcases af with af|af
    .subst af
     have:=hC (m - l).toNat _ _ (nZ l.toNat _ _ h7)
     rwa [DS] at this
    .subst af;simp only[Zfh,Zfi,rdr]
 case own n=>
  simp only[tT] at z;cases hn:h n with
  |none=>rw[hn] at z;exact z.elim
  |some am=>
  rw[hn] at z;obtain⟨mu,am⟩:=am;cases am<;>try exact z.elim
  rename_i U k rows;simp only[Ud] at z;obtain⟨af,z⟩:=z;cases O:GR 0 (Dx tm lo) with
  |none=>rw[O] at z;exact z.elim
  |some l=>
  cases hhi:GR rows.length (Dx tm hi) with
  |none=>rw[O,hhi] at z;exact z.elim
  |some m=>
  rw[O,hhi] at z;simp only[Ji] at z;obtain⟨h0,ac,hm,mv,z⟩:=z;have Q:((rows.drop l.toNat).take (m - l).toNat).length=m.toNat - l.toNat:=by
   rw[Ck,C6];omega
  cases mv with
  |false=>
   simp only[pZ] at z;refine⟨_,_,B6.pure (u:=[n]) ?_,z⟩;intro C S a hW ai G;have Z:=G x ag;rw[hx] at Z;simp only[Aa] at Z;have hS:=(ai n (by simp)).trans hn;have Z:=Z.2 _ hS;have aa:=hW.obj _ _ hS;simp only[An] at aa;cases hl0:S.ρ n with
   |none=>
    rw[hl0] at Z aa;obtain⟨_,aa⟩:=aa;subst aa;simp only[H9] at hm hhi;refine⟨_,bZ hu hE ho Z O hhi h0 ac hm (AP 0) G S.w,?_⟩;simp only[Aa];refine⟨rfl,λe' ab=> ?_⟩;rw[hl0];unfold P1;have e1:l.toNat=0:=by omega
    have e2:m.toNat=0:=by omega
    have e3:(m - l).toNat=0:=by omega
    simp[e1,e2,e3]
   |some lc=>
    rw[hl0] at Z aa;obtain⟨g0,g1,vs,g2,g3,g4⟩:=aa;simp only[Ac.len] at Z;refine⟨_,bZ hu hE ho Z O hhi h0 ac hm g1 G S.w,?_⟩;simp only[Aa];refine⟨rfl,λe' ab=> ?_⟩;rw[hS] at ab;obtain rfl:=AB ab;rw[hl0];unfold P1;simp only[Ac.esz,Ac.len];by_cases hc:lc.cap=l.toNat
    .rw[Ai hc];exact⟨lc.p,lc.cap - l.toNat,by congr 1;omega,by omega,λaw=>absurd (show (m - l).toNat=0 by omega) aw,by omega⟩
    .rw[Af hc];exact⟨lc.p+l.toNat*te.size,lc.cap - l.toNat,by rw[show m.toNat - l.toNat=(m - l).toNat by omega];simp[Addr.add],by omega,λ_=>by rw[af],by omega⟩
  |true=>
   simp only[pZ] at z;obtain⟨rfl,z⟩:=z;refine⟨_,_,B6.one (u:=[n]) (ks:=[n]) (.inl ⟨rfl,rfl⟩) ?_,z⟩;intro C S a hW ai av aj G;have Z:=G x ag;rw[hx] at Z;simp only[Aa] at Z;have hS:=(ai n (by simp)).trans hn;have Z:=Z.2 _ hS;have aa:=hW.obj _ _ hS;simp only[An] at aa;have ah:=av rfl;have ax:nx≠n:=λh'=>by subst h';rw[hS] at ah;cases ah
   cases hl0:S.ρ n with
   |none=>
    rw[hl0] at Z aa;obtain⟨_,aa⟩:=aa;subst aa;simp only[H9] at hm hhi;refine⟨_,S.w,none,.inl (bZ hu hE ho Z O hhi h0 ac hm (AP 0) G S.w),Ql6 ah (λn f hf=>aj n f hf rfl),?_⟩;intro hp;have e1:l.toNat=0:=by omega
    have e2:m.toNat=0:=by omega
    refine⟨by simp[An],?_⟩;simp only[Aa];refine⟨rfl,λe' ab=> ?_⟩;simp[Ay.one,e1,e2]
   |some lc=>
    rw[hl0] at Z aa;obtain⟨g0,g1,vs,g2,g3,g4⟩:=aa;simp only[Ac.len] at Z;obtain⟨q1,q2⟩:=hW.loc n _ lc hS hl0;have ak: ∀(p cap:Nat),Kb S nx (.arr U k ((rows.drop l.toNat).take (m - l).toNat)) (some ⟨lc.b,p,cap⟩) [n] S.w:=by
     intro p cap;refine⟨rfl,rfl,rfl,AP _,AP _,λ_ _ _=>rfl,.inr ah,?_,?_,λn f hf _=>aj n f hf rfl⟩
     .intro lo O;obtain rfl:=AB O;exact⟨q1,.inr ⟨n,_,lc,by simp,hS,hl0,rfl⟩⟩
     .intro f hf;rw[ah] at hf;cases hf
    have an: ∀(e:Ac) (l:Option F2),(S.one nx e l [n] S.w).hp=S.hp:=λ_ _=>rfl
    by_cases hc:lc.cap=l.toNat
    .refine⟨_,S.w,some ⟨lc.b,lc.p,lc.cap - l.toNat⟩,.inl (bZ hu hE ho Z O hhi h0 ac hm g1 G S.w),ak _ _,?_⟩;intro hp;have aq:(rows.drop l.toNat).take (m - l).toNat=[]:=rD (by rw[Q];omega);constructor
     .simp only[An,an];rw[aq];refine⟨by simp,by simp,vs,g2,?_,by simp only[rdr]⟩
      have:lc.cap - l.toNat=0:=by omega
      rw[this];omega
     .simp only[Aa];refine⟨rfl,λe' ab=> ?_⟩;simp only[Ay.one,B5,AM] at ab⊢;subst ab;simp only[Ac.len,Q];rw[Ai hc]
    .refine⟨_,S.w,some ⟨lc.b,lc.p+l.toNat*te.size,lc.cap - l.toNat⟩,.inl (bZ hu hE ho Z O hhi h0 ac hm g1 G S.w),ak _ _,?_⟩;intro hp;constructor
     .simp only[An,an];rw[Q];refine⟨by omega,by omega,vs,g2,?_,?_⟩
      .subst af;have e1:l.toNat*te.size+(lc.cap - l.toNat)*te.size=lc.cap*te.size:=by rw[<-Du];congr 1;omega
       omega
      .subst af
       have:=hC (m - l).toNat _ _ (nZ l.toNat _ _ g4)
       rw[DS] at this;exact this
     .simp only[Aa];refine⟨rfl,λe' ab=> ?_⟩;simp only[Ay.one,B5,AM] at ab⊢;subst ab;simp only[Ac.len,Q];rw[Af hc];simp[Addr.add]
end
def Qta{ok:Nat->Prop}{hp:Nat->Option Obj}{k:Nat}: ∀(Q r2:List (List D)) (L M:List Value),rdr ok hp k Q L->L.length=Q.length*k->rdr ok hp k r2 M->rdr ok hp k (Q++r2) (L++M)
 |[],r2,L,M,_,G,O=>by
  simp only[H9,J5,Vi] at G;subst G;simpa using O
 |r::Z,r2,L,M,z,G,O=>by
  simp only[rdr] at z;simp only[Dd,rO] at G;simp only[BG,rdr];refine⟨z.1,pI _ _ _ z.2.1,?_⟩;rw[Zdl (by omega)];exact Qta Z r2 _ _ z.2.2 (by rw[C6];omega) O
def Tx{ok:Nat->Prop}{hp:Nat->Option Obj}{k a:Nat}{rows src:List (List D)}{B L:List Value}(h:rdr ok hp k rows B)(Z:rows.length*k<=B.length)(O:rdr ok hp k src L)(z:L.length=src.length*k)
 (ha:a+src.length<=rows.length):rdr ok hp k (rows.take a++src++rows.drop (a+src.length)) (BW B (a*k) L):=by
 unfold BW;have Q:a*k<=rows.length*k:=HC _ (by omega);have G:rdr ok hp k (rows.take a) (B.take (a*k)):=by
  have:=Qrl (rows.take a) B (hC a _ _ h) (by rw[Ck];have:=HC k (Zh a rows.length);omega)
  rwa [Ck,show min a rows.length=a by omega] at this
 refine Qta _ _ _ _ (Qta _ _ _ _ G (by rw[Ck,Ck,show min a rows.length=a by omega];omega) O) ?_ ?_
 .simp only[DZ,Ck];rw[show min a rows.length=a by omega,show min (a*k) B.length=a*k by omega,z,Du]
 .have:=nZ (a+src.length) _ _ h
  rwa [Du,<-z] at this
def WN(S:Ay)(o a n k:Nat)(rows:List (List D))(v:Value):Prop:=
 (v= .slice none 0 0/\rows=[]/\n=0/\S.ρ o=none)\/ ∃l p z,S.ρ o=some l/\v= .slice (some ⟨l.b,p,none⟩) n z/\(n≠0->p=l.p+a*k)/\a+n<=rows.length
section
variable {P:Program}{tm:List (Nat×AV)}{h:Nat->Option Am}{nx:Nat}{o:Oper}{K:Ah}
def Mq{S:Ay}{m:Nat}{f e:Ac}(Q:S.h m=some (true,f))(O: ∀l,S.ρ m=some l->l.b<S.w.heap.size)(hz:e.esz=f.esz)(hl:e.len=f.len):Kb S m e (S.ρ m) [m] S.w:=by
 refine⟨rfl,rfl,rfl,AP _,AP _,λ_ _ _=>rfl,.inl (by simp),?_,?_,?_⟩
 .intro lo G;exact⟨O lo G,.inr ⟨m,f,lo,by simp,Q,G,rfl⟩⟩
 .intro g Z;rw[Q] at Z;obtain rfl:=AB Z;exact⟨rfl,hz,hl⟩
 .intro n g _ z;rw[Q] at z;cases z
def Ng{C:AZ}{S:Ay}(hW:Wf C S){m T k a n:Nat}{rows:List (List D)}(Q:S.h m=some (true,.arr T k rows)){base:Option Addr}{dl dc:Nat}(hd:WN S m a n k rows (.slice base dl dc)){src:List (List D)}{L:List Value}
 (hm:src.length<=n)(hL:L.length=src.length*k)(hr:rdr S.ok S.hp k src L)(h1: ∀v∈L,v.oneCell'=true):
 ∃w',((match base with|some a=>storeCells a L|none=>pure ()):Sem Unit).run P S.w= .ok () w'/\Kb S m (.arr T k (rows.take a++src++rows.drop (a+src.length))) (S.ρ m) [m] w'/\
  (BE (λn'=>S.h m≠none\/n'≠m) S (S.one m (.arr T k (rows.take a++src++rows.drop (a+src.length))) (S.ρ m) [m] w')->An (S.one m (.arr T k (rows.take a++src++rows.drop (a+src.length))) (S.ρ m) [m] w') (S.ρ m) (.arr T k (rows.take a++src++rows.drop (a+src.length)))):=by
 have z:=hW.obj _ _ Q;by_cases hs:src=[]
 .subst hs;simp only[H9,J5,Vi] at hL;subst hL;have e:rows.take a++([]:List (List D))++rows.drop (a+([]:List (List D)).length)=rows:=by simp
  rw[e];refine⟨S.w,by cases base<;>simp[storeCells],Mq Q (λl O=>(hW.loc m _ l Q O).1) rfl rfl,λhp=> ?_⟩;exact Hd hp (λ_ _=>rfl) _ (by simp[Ac.nms]) z
 .have ad:0<src.length:=rL.2 hs;rcases hd with ⟨_,_,rfl,_⟩|⟨l,p,cp,O,hv,hp,ha⟩
  .omega
  .simp only[Value.slice.injEq] at hv;obtain⟨rfl,rfl,rfl⟩:=hv;have hp:=hp (by omega);subst hp;rw[O] at z;simp only[An] at z;obtain⟨g0,g1,vs,g2,g3,g4⟩:=z;have ac:rows.length*k<=l.cap*k:=HC _ g1;have aa:(a+src.length)*k<=rows.length*k:=HC _ (by omega);rw[Du] at aa;have Z:vs.toList.length=vs.size:=EE;obtain⟨w',r1,r2,r3,r4,r5⟩:=Qf9 (P:=P) (w:=S.w) (b:=l.b) (p:=l.p+a*k) (T:=T) L 0 vs h1 (by omega) g2;have G:(rows.take a++src++rows.drop (a+src.length)).length=rows.length:=by simp;omega
   rw[O];refine⟨w',r1,cN hW Q O r2 r3 r4 r5.1 rfl G r5.2,λab=> ?_⟩;simp only[An];rw[G];refine⟨g0,g1,_,cV (hW.loc m _ l Q O).1 r2,?_,?_⟩
   .simp only[Zf,BW,DZ,Ck,C6];omega
   .have h9:=Tx g4 (by rw[C6,Z];omega) hr hL (by omega:a+src.length<=rows.length)
    have:=YD ab.ok k _ _ h9
    simp only[FO];rw[uK _ _ _ _ (by rw[Z];omega)];exact this
def Qqv{C:AZ}{S:Ay}(hW:Wf C S){X:AV}{v:Value}{m a n T k:Nat}{rows:List (List D)}(O:Vg h X=some (m,a,n,T,k,rows))(hu:S.h m=h m)(G:Aa S X v):
 S.h m=some (true,.arr T k rows)/\WN S m a n k rows v/\X.nms=[m]:=by
 cases X<;>simp only[Vg,reduceCtorEq] at O
 case own q=>
  cases hq:h q with
  |none=>rw[hq] at O;cases O
  |some e=>
   obtain⟨Z,e⟩:=e;rw[hq] at O;cases Z<;>cases e<;>simp only[Rt,reduceCtorEq,AM,Ea] at O;obtain⟨rfl,rfl,rfl,rfl,rfl,rfl⟩:=O;have Q:=hu.trans hq;refine⟨Q,?_,rfl⟩;simp only[Aa] at G;have G:=G.2 _ Q;have z:=hW.obj _ _ Q;simp only[An] at z;unfold WN;cases hl:S.ρ q with
   |none=>
    rw[hl] at G z;exact .inl ⟨G,z.2,by rw[z.2];rfl,rfl⟩
   |some l=>
    rw[hl] at G;exact .inr ⟨l,l.p,l.cap,rfl,G,λ_=>by omega,by omega⟩
 case osl q wa wn=>
  cases hq:h q with
  |none=>rw[hq] at O;cases O
  |some e=>
   obtain⟨Z,e⟩:=e;rw[hq] at O;cases Z<;>cases e<;>simp only[Ru,reduceCtorEq,AM,Ea] at O;obtain⟨rfl,rfl,rfl,rfl,rfl,rfl⟩:=O;have Q:=hu.trans hq;refine⟨Q,?_,rfl⟩;simp only[Aa] at G;have G:=G.2 _ Q;have z:=hW.obj _ _ Q;simp only[An] at z;unfold P1 at G;unfold WN;cases hl:S.ρ q with
   |none=>
    rw[hl] at G z;exact .inl ⟨G.1,z.2,G.2,rfl⟩
   |some l=>
    rw[hl] at G;obtain⟨p,cp,h1,h2,h3,h4⟩:=G;exact .inr ⟨l,p,cp,rfl,h1,h3,h4⟩
def QO{S:Ay}: ∀(ds:List D) (vs:List Value),Bo ds=true->rdl S.ok S.hp ds vs-> ∀v∈vs,v.oneCell'=true:=by
 intro ds vs h z;exact gO (S:=S) _ _ (Qsa ds h) ((Ir _ _).2 z)
def Qaby{C:AZ}{S:Ay}(hW:Wf C S){X:AV}{v:Value}{u:List Nat}{ks z:Nat}{src:List (List D)}(Q:dA h X=some (u,ks,src))(hu: ∀n∈u,S.h n=h n)(O:Aa S X v)(hz:z≠0)(hk:ks=z\/src=[])(af:Bl Bo src):
 (Builtin.lenOf v).run P S.w= .ok src.length S.w/\ ∀n,n<=src.length-> ∃L,(Builtin.firstCells z n v).run P S.w= .ok L.toArray S.w/\L.length=(src.take n).length*z/\rdr S.ok S.hp z (src.take n) L/\ ∀v∈L,v.oneCell'=true:=by
 have ad: ∀(b p cp:Nat) (vs:Array Value) (T:TypeId) (fr:Nat×Nat),v= .slice (some ⟨b,p,none⟩) src.length cp->(src≠[]->S.hp b=some (.cells vs T fr)/\p+src.length*z<=vs.size/\rdr S.ok S.hp z src (vs.toList.drop p))->
  (Builtin.lenOf v).run P S.w= .ok src.length S.w/\ ∀n,n<=src.length-> ∃L,(Builtin.firstCells z n v).run P S.w= .ok L.toArray S.w/\L.length=(src.take n).length*z/\rdr S.ok S.hp z (src.take n) L/\ ∀v∈L,v.oneCell'=true:=by
  rintro b p cp vs T fr rfl h1;refine⟨by simp[Builtin.lenOf],λn hn=> ?_⟩;by_cases hs:src=[]
  .subst hs;simp only[H9,Nat.le_zero_eq] at hn;subst hn;exact⟨[],by simp[Builtin.firstCells,loadCells,loadCellsFrom],by simp,by simp[rdr],by simp⟩
  .obtain⟨g1,g2,g3⟩:=h1 hs;have ak:n*z<=src.length*z:=HC _ hn;have ab:vs.toList.length=vs.size:=EE;have aa:(src.take n).length=n:=by rw[Ck];omega
   have hr:=Qrl (src.take n) _ (hC n _ _ g3) (by rw[aa,C6,ab];omega);rw[aa] at hr;refine⟨(vs.toList.drop p).take (n*z),gQ (w:=S.w) g1 (by omega),by rw[aa,Ck,C6,ab];omega,hr,?_⟩;have ag:=iA _ _ hr
   have:=oW _ _ (Qyt (λx Q=>af x (zB Q))) ag (by rw[show (Bi (src.take n)).length=(src.take n).length by simp[Bi],aa,Ck,C6,ab];omega)
   rw[show (Bi (src.take n)).length=(src.take n).length by simp[Bi],aa,F9 (by rw[Ck];omega)] at this;exact this
 have nil:(∃ao,v= .slice ao 0 0)->src=[]->(Builtin.lenOf v).run P S.w= .ok src.length S.w/\ ∀n,n<=src.length-> ∃L,(Builtin.firstCells z n v).run P S.w= .ok L.toArray S.w/\L.length=(src.take n).length*z/\rdr S.ok S.hp z (src.take n) L/\ ∀v∈L,v.oneCell'=true:=by
  rintro⟨ao,rfl⟩ rfl;refine⟨by simp[Builtin.lenOf],λn hn=>⟨[],?_,by simp,by simp[rdr],by simp⟩⟩;have ah:n=0:=by simpa using hn
  subst ah;cases ao<;>simp[Builtin.firstCells,loadCells,loadCellsFrom]
 cases X<;>simp only[dA,reduceCtorEq] at Q
 case im d=>
  cases d<;>simp only[reduceCtorEq,AM,Ea] at Q;obtain⟨rfl,rfl,rfl⟩:=Q;simp only[Aa,rd] at O;rcases O with ⟨h1,h2⟩|⟨b,p,cap,vs,T,fr,h1,_,h2,h3,_,h5,h6⟩
  .exact nil (pH h1) h2
  .refine ad b p cap vs T fr h1 λhs=> ?_
   have Z:=hk.resolve_right hs;subst Z;have hl:=Qxq _ _ h6 hz;have ab:vs.toList.length=vs.size:=EE;rw[C6,ab] at hl;have aj:0<_:=Nat.mul_pos (rL.2 hs) (Nat.pos_of_ne_zero hz);exact⟨h5,by omega,h6⟩
 case own q=>
  cases hq:h q with
  |none=>rw[hq] at Q;cases Q
  |some e=>
   obtain⟨mu,e⟩:=e;rw[hq] at Q;cases e<;>simp only[eC,reduceCtorEq,AM,Ea] at Q;rename_i T k rows;obtain⟨rfl,rfl,rfl⟩:=Q;have hS:=(hu q (by simp)).trans hq;simp only[Aa] at O;have O:=O.2 _ hS;have G:=hW.obj _ _ hS;simp only[An] at G;cases hl:S.ρ q with
   |none=>rw[hl] at O G;exact nil ⟨_,O⟩ G.2
   |some l=>
    rw[hl] at O G;obtain⟨g0,g1,vs,g2,g3,g4⟩:=G;refine ad l.b l.p l.cap vs T (0,0) O λhs=> ?_
    have Z:=hk.resolve_right hs;subst Z
    have:=HC k g1
    exact⟨g2,by omega,g4⟩
 case osl q wa wn=>
  cases hq:h q with
  |none=>rw[hq] at Q;cases Q
  |some e=>
   obtain⟨mu,e⟩:=e;rw[hq] at Q;cases e<;>simp only[eD,reduceCtorEq,AM,Ea] at Q;rename_i T k rows;obtain⟨rfl,rfl,rfl⟩:=Q;have hS:=(hu q (by simp)).trans hq;simp only[Aa] at O;have O:=O.2 _ hS;have G:=hW.obj _ _ hS;simp only[An] at G;unfold P1 at O;cases hl:S.ρ q with
   |none=>rw[hl] at O G;exact nil ⟨_,O.1⟩ (by rw[G.2];simp)
   |some l=>
    rw[hl] at O G;obtain⟨g0,g1,vs,g2,g3,g4⟩:=G;obtain⟨p,cp,q1,q2,q3,q4⟩:=O;simp only[Ac.esz,Ac.len] at q3 q4;have ac:((rows.drop wa).take wn).length=wn:=by rw[Ck,C6];omega
    refine ad l.b p cp vs T (0,0) (by rw[ac];exact q1) λhs=> ?_
    have ai:wn≠0:=λh0=>hs (by rw[h0];simp)
    have Z:=hk.resolve_right hs;subst Z;have hp:=q3 ai;subst hp;have h9:=HC k (show wa+wn<=l.cap by omega);rw[Du] at h9;refine⟨g2,by rw[ac];omega,?_⟩
    have:=hC wn _ _ (nZ wa _ _ g4)
    rwa [DS] at this
def Oh(rows src:List (List D))(a m:Nat)(z:m<=src.length):cU rows a m src=rows.take a++src.take m++rows.drop (a+(src.take m).length):=by
 unfold cU;rw[Ck,show min m src.length=m by omega]
def Ui{T U:TypeId}{d s:Operand}{c:Call}(ho:o.op= .call c)(O:c.callee= .builtin .copy)(G:c.args= #[d,s])(ao:c.argTypes= #[T,U])
 (z:Bh (yF P h (Ap tm d) (Ap tm s) K) (tI P T)):BM P tm h nx o K:=by
 have af:d∈o.op.operands:=by rw[ho];simp[Op.operands,Call.operands,G,O]
 have aa:s∈o.op.operands:=by rw[ho];simp[Op.operands,Call.operands,G,O]
 cases hT:tI P T with
 |none=>rw[hT] at z;exact z.elim
 |some ti=>
 rw[hT] at z;simp only[Bh,yF] at z;cases hf:ti.kind<;>rw[hf] at z<;>try exact z.elim
 rename_i e;have hu:=P3 hT hf;simp only[Rw] at z;cases hE:tI P e with
 |none=>rw[hE] at z;exact z.elim
 |some te=>
 rw[hE] at z;simp only[Bh] at z;cases hs:dA h (Ap tm s) with
 |none=>rw[hs] at z;exact z.elim
 |some q=>
 cases hd:Vg h (Ap tm d) with
 |none=>rw[hs,hd] at z;exact z.elim
 |some q'=>
 obtain⟨u,ks,src⟩:=q;obtain⟨m,a,n,T',k,rows⟩:=q';rw[hs,hd] at z;simp only[Rv] at z;obtain⟨am,ak,hz,ab,z⟩:=z;subst am;have aj:h m≠none:=by
  intro h0;cases hX:Ap tm d<;>rw[hX] at hd<;>simp only[Vg,reduceCtorEq] at hd
  .rename_i q;cases hq:h q with
   |none=>rw[hq] at hd;cases hd
   |some e=>
    obtain⟨mu,e⟩:=e;rw[hq] at hd;cases mu<;>cases e<;>simp only[Rt,reduceCtorEq,AM,Ea] at hd;rw[hd.1,h0] at hq;cases hq
  .rename_i q _ _;cases hq:h q with
   |none=>rw[hq] at hd;cases hd
   |some e=>
    obtain⟨mu,e⟩:=e;rw[hq] at hd;cases mu<;>cases e<;>simp only[Ru,reduceCtorEq,AM,Ea] at hd;rw[hd.1,h0] at hq;cases hq
 refine⟨_,_,B6.one (u:=m::u) (ks:=[m]) (m:=m) (cnt:=0) (.inr ⟨rfl,by simp,aj⟩) ?_,z⟩;intro C S ac hW ag _ _ Z;have h1:=Z d af;have h2:=Z s aa;obtain⟨d1,d2,_⟩:=Qqv hW hd (ag m (by simp)) h1;obtain⟨s1,s2⟩:=Qaby (P:=P) hW hs (λx hx=>ag x (by simp[hx])) h2 hz ak ab;have Q:min src.length n<=src.length:=Nat.min_le_left _ _;obtain⟨L,l1,l2,l3,l4⟩:=s2 _ Q;have an:(src.take (min src.length n)).length=min src.length n:=by rw[Ck];omega
 have ai: ∃base dl dc,ac.eval d= .slice base dl dc/\dl=n:=by
  rcases d2 with ⟨e1,_,e2,_⟩|⟨l,p,cp,_,e1,_⟩
  .exact⟨none,0,0,e1,e2.symm⟩
  .exact⟨_,_,_,e1,rfl⟩
 obtain⟨base,dl,dc,hv,rfl⟩:=ai;rw[hv] at d2;obtain⟨w',w1,w2,w3⟩:=Ng (P:=P) hW d1 d2 (src:=src.take (min src.length dl)) (by rw[an];exact Zh _ _) l2 l3 l4;rw[<-Oh _ _ _ _ Q] at w2 w3;have ah:(underlying T).run P S.w= .ok (.slice e) S.w:=by simp[underlying,hu]
 refine⟨.int .i64 (min src.length dl:Nat),w',S.ρ m,.inl ?_,w2,λhp=>⟨w3 hp,by simp only[Aa,rd]⟩⟩;simp only[execOp,ho,resolve,O,G,ao,Sem.run_bind,Sem.run_pure,Result.andThen_ok,invoke,builtin];cases base with
 |none=>
  simp only[Sem.run_pure,Result.ok.injEq,NL] at w1;subst w1;simp[Builtin.copy_,hv,ah,s1,I2 hE,l1,goInt]
 |some ad=>
  simp only at w1;simp[Builtin.copy_,hv,ah,s1,I2 hE,l1,goInt,w1]
def Pa{T:TypeId}{d:Operand}{c:Call}(ho:o.op= .call c)(aa:c.callee= .builtin .clear)(Q:c.args= #[d])(aq:c.argTypes= #[T])
 (G:Bh (xB P h (Ap tm d) K) (tI P T)):BM P tm h nx o K:=by
 have ag:d∈o.op.operands:=by rw[ho];simp[Op.operands,Call.operands,Q,aa]
 cases hT:tI P T with
 |none=>rw[hT] at G;exact G.elim
 |some ti=>
 rw[hT] at G;simp only[Bh,xB] at G;cases hf:ti.kind<;>rw[hf] at G<;>try exact G.elim
 rename_i e;have hu:=P3 hT hf;simp only[Rl] at G;cases hE:tI P e with
 |none=>rw[hE] at G;exact G.elim
 |some te=>
 rw[hE] at G;simp only[Bh] at G;cases hd:Vg h (Ap tm d) with
 |none=>rw[hd] at G;exact G.elim
 |some q'=>
 obtain⟨m,a,n,T',k,rows⟩:=q';rw[hd] at G;simp only[WI] at G;obtain⟨an,hz,aj,aw,G⟩:=G;subst an;obtain⟨z,az,a0,ai⟩:=bR hE aj hz;have am:h m≠none:=by
  intro h0;cases hX:Ap tm d<;>rw[hX] at hd<;>simp only[Vg,reduceCtorEq] at hd
  .rename_i q;cases hq:h q with
   |none=>rw[hq] at hd;cases hd
   |some e=>
    obtain⟨mu,e⟩:=e;rw[hq] at hd;cases mu<;>cases e<;>simp only[Rt,reduceCtorEq,AM,Ea] at hd;rw[hd.1,h0] at hq;cases hq
  .rename_i q _ _;cases hq:h q with
   |none=>rw[hq] at hd;cases hd
   |some e=>
    obtain⟨mu,e⟩:=e;rw[hq] at hd;cases mu<;>cases e<;>simp only[Ru,reduceCtorEq,AM,Ea] at hd;rw[hd.1,h0] at hq;cases hq
 refine⟨_,_,B6.one (u:=[m]) (ks:=[m]) (m:=m) (cnt:=0) (.inr ⟨rfl,by simp,am⟩) ?_,G⟩;intro C S ac hW au _ _ ah;have h1:=ah d ag;obtain⟨d1,d2,_⟩:=Qqv hW hd (au m (by simp)) h1;have av:z.cells.toList≠[]:=by
  intro hh
  have:z.cells.size=0:=by rw[<-EE,hh];rfl
  omega
 have a8:(Builtin.zeroCells z.cells n).toList=BY n z.cells.toList:=by
  unfold Builtin.zeroCells;rw[<-xC _ av n,Vq,Zex,EE];apply Ii;intro i _;exact Qxx _ _
 have ak: ∃base O dc,ac.eval d= .slice base O dc/\O=n:=by
  rcases d2 with ⟨e1,_,e2,_⟩|⟨l,p,cp,_,e1,_⟩
  .exact⟨none,0,0,e1,e2.symm⟩
  .exact⟨_,_,_,e1,rfl⟩
 obtain⟨base,O,dc,Z,rfl⟩:=ak;rw[Z] at d2;have ao: ∀(n:Nat) (x:List Value),(BY n x).length=n*x.length:=by
  intro n x;induction n with
  |zero=>simp[BY]
  |succ n ih=>simp[BY,ih,rO];omega
 have ax:z.cells.toList.length=te.size:=by rw[EE];exact a0
 have af: ∀(n:Nat) (x:List Value),(∀v∈x,v.oneCell'=true)-> ∀v∈BY n x,v.oneCell'=true:=by
  intro n x hx;induction n with
  |zero=>simp[BY]
  |succ n ih=>
   intro v Z;simp only[BY,Bz] at Z;rcases Z with Z|Z
   .exact hx v Z
   .exact ih v Z
 have ay: ∀v∈z.cells.toList,v.oneCell'=true:=QO (S:=S) _ _ aw (ai _ _);obtain⟨w',w1,w2,w3⟩:=Ng (P:=P) hW d1 d2 (src:=List.replicate O te.zero) (L:=BY O z.cells.toList) (by simp) (by rw[ao,ax,NI]) (by rw[<-aj];exact Qx7 (ai _ _) O O (AP _)) (af _ _ ay);have he:rows.take a++List.replicate O te.zero++rows.drop (a+(List.replicate O te.zero).length)=cU rows a O (List.replicate O te.zero):=by
  unfold cU;rw[NI,F9 (l:=List.replicate O te.zero) (by simp)]
 rw[he] at w2 w3;have ab:(underlying T).run P S.w= .ok (.slice e) S.w:=by simp[underlying,hu]
 refine⟨.tuple #[],w',S.ρ m,.inl ?_,w2,λhp=>⟨w3 hp,by simp only[Aa]⟩⟩;simp only[execOp,ho,resolve,aa,Q,aq,Sem.run_bind,Sem.run_pure,Result.andThen_ok,invoke,builtin];cases base with
 |none=>
  simp only[Sem.run_pure,Result.ok.injEq,NL] at w1;subst w1;simp[Builtin.clear_,Z,ab]
 |some ad=>
  simp only at w1;cases O with
  |zero=>
   simp only[BY] at w1
   have:w'=S.w:=by
    simp[storeCells] at w1;exact w1.symm
   subst this;simp[Builtin.clear_,Z,ab]
  |succ n=>
   simp[Builtin.clear_,Z,ab,az,a8,w1]
end
section
variable {P:Program}{tm:List (Nat×AV)}{h:Nat->Option Am}{nx:Nat}{o:Oper}{K:Ah}
def Uj{op:BinOp}{T U:TypeId}{x y:Operand}(ho:o.op= .binOp op T x y U)(hy:Fl y=1)(Z:Bh (xM P h T op (Ap tm x) K) (tI P T)):Kh P tm h nx o K:=by
 cases hT:tI P T with
 |none=>rw[hT] at Z;exact Z.elim
 |some ti=>
 rw[hT] at Z;simp only[Bh,xM] at Z;cases hf:ti.kind<;>rw[hf] at Z<;>try exact Z.elim
 rename_i e;have hu:=P3 hT hf;have ac:op= .eql\/op= .neq:=by cases op<;>first|exact .inl rfl|exact .inr rfl|exact Z.elim
 have z:Nl h (decide (op= .neq)) K (Ap tm x):=by rcases ac with rfl|rfl<;>exact Z
 have ai:y= .const (.slice none 0 0):=by
  cases y with
  |const v=>
   simp only[Fl] at hy;unfold FH at hy;split at hy<;>first|rfl|cases hy
  |_=>cases hy
 intro C S a next Q hW hh ak hnm af hn
 have G:=af x (by rw[ho];simp[Op.operands]);have aj: ∃base l c E,a.eval x= .slice base l c/\(∀f:Nat->Option Am,E.appf f=f)/\E.cnt=0/\K (.im (.bool (decide (op= .neq) !=base.isNone))) E:=by
  cases hx:Ap tm x<;>rw[hx] at z G<;>simp only[Nl] at z
  case im d=>
   cases d<;>try exact z.elim
   rename_i nz k rows;simp only[Aa,rd] at G;rcases G with ⟨G,h2⟩|⟨b,p,cap,vs,T,fr,G,_⟩
   .rcases G with G|⟨_,ad,G⟩
    .exact⟨none,0,0,{},G,λf=>by funext m;simp[Bv.appf,hget],rfl,z true (λ_=>h2)⟩
    .exact⟨some ad,0,0,{},G,λf=>by funext m;simp[Bv.appf,hget],rfl,z false (λh=>by cases h)⟩
   .exact⟨_,_,_,{},G,λf=>by funext m;simp[Bv.appf,hget],rfl,z false (λh=>by cases h)⟩
  case own n=>
   cases hq:h n with
   |none=>rw[hq] at z;exact z.elim
   |some ab=>
    obtain⟨mu,ab⟩:=ab;rw[hq] at z;have hS:=(hh n).trans hq;simp only[Aa] at G;have G:=G.2 _ hS;have O:=hW.obj _ _ hS;have aa: ∀{α:Type} (rows:List α),(S.ρ n=none->rows=[])->R9 (decide (op= .neq)) K {use:=[n]} rows-> ∃base l c E,a.eval x= .slice base l c/\(∀f:Nat->Option Am,E.appf f=f)/\E.cnt=0/\K (.im (.bool (decide (op= .neq) !=base.isNone))) E:=by
     intro α rows hr Z;cases hl:S.ρ n with
     |none=>
      rw[hl] at G;exact⟨none,0,0,{use:=[n]},G,wB [n],rfl,Z true (λ_=>hr hl)⟩
     |some l=>
      rw[hl] at G;exact⟨_,_,_,{use:=[n]},G,wB [n],rfl,Z false (λh=>by cases h)⟩
    cases ab<;>try exact z.elim
    .rename_i T k rows;refine aa rows (λhl=> ?_) z;simp only[An] at O;rw[hl] at O;exact O.2
    .rename_i T k rows;refine aa rows (λhl=> ?_) z;simp only[An] at O;rw[hl] at O;exact O.2
 obtain⟨base,l,c,E,hv,hE,hc,hK⟩:=aj;have ah:a.eval y= .slice none 0 0:=by rw[ai];rfl
 have hq:(Op.equal T (.slice base l c) (.slice none 0 0)).run P S.w= .ok base.isNone S.w:=by rw[VY];exact Kx hu _ _ _ _
 have hg:(eqGuard op T x y (.slice base l c) (.slice none 0 0)).run P S.w= .ok () S.w:=by rcases ac with rfl|rfl<;>simp[eqGuard]
 have hb:(binOp op T (.slice base l c) (.slice none 0 0)).run P S.w= .ok (.bool (decide (op= .neq) !=base.isNone)) S.w:=by
  rcases ac with rfl|rfl
  .have:binOp .eql T (.slice base l c) (.slice none 0 0)=(do pure (.bool (<-Op.equal T (.slice base l c) (.slice none 0 0)))):=rfl
   rw[this];simp[hq]
  .have:binOp .neq T (.slice base l c) (.slice none 0 0)=(do pure (.bool (!(<-Op.equal T (.slice base l c) (.slice none 0 0))))):=rfl
   rw[this];simp[hq]
 have ag:(execOp a.eval o).run P S.w= .ok (.value (.bool (decide (op= .neq) !=base.isNone))) S.w:=by
  simp only[execOp,ho,hv,ah,Sem.run_bind,hg,Result.andThen_ok,hb,Sem.run_pure]
 unfold Oper.wp;rw[ag,Oper.upon_value];exact hn _ E _ S hK hW (hE S.h).symm (BE.refl _ _) (by simp only[Aa,rd])
def Qpi{T e:TypeId}(z:Ve P T=some e): ∃d,P.underlying T=some (.chan d e):=by
 unfold Ve at z;split at z
 .rename_i d e' G;cases z;exact⟨d,G⟩
 .cases z
def Qvf{T:TypeId}{x:Operand}(ho:o.op= .makeChan T x)(z:uR P nx (Ap tm x) K T):BM P tm h nx o K:=by
 unfold uR at z;cases hc:Ve P T with
 |none=>rw[hc] at z;exact z.elim
 |some e=>
 rw[hc] at z;simp only[zU] at z;obtain⟨dr,hu⟩:=Qpi hc;have ag: ∃n,Ap tm x= .im (.int .i64 n)/\Bh (zT nx n K) (tI P e):=by
  revert z;generalize Ap tm x=X;intro z;cases X<;>try exact z.elim
  rename_i d;cases d<;>try exact z.elim
  rename_i k n;cases k<;>try exact z.elim
  exact⟨n,rfl,z⟩
 obtain⟨n,hx,z⟩:=ag;cases hE:tI P e with
 |none=>rw[hE] at z;exact z.elim
 |some te=>
 rw[hE] at z;simp only[Bh,zT] at z;obtain⟨h0,hn,ai,z⟩:=z;obtain⟨i,u,hi,am,ak,ab,_⟩:=N8 hE;refine⟨_,_,B6.one (u:=[]) (ks:=[]) (.inl ⟨rfl,rfl⟩) ?_,z⟩;intro C S a hW _ aa G O;have Z:=O x (by rw[ho];simp[Op.operands]);rw[hx] at Z;simp only[Aa,rd] at Z;have Q:(execOp a.eval o).run P S.w= .ok (.value (.chan (some S.w.heap.size))) {S.w with heap:=S.w.heap.push (.chan n.toNat #[] false 0 0 false)}:=by
  have ad: ∀w,(typeInfo e).run P w= .ok i w:=λw=>by simp[typeInfo,hi]
  have ah:(i.bytes:Int)*n<=2^48 - 112:=by
   rw[<-ab];have h3:(te.bytes:Int)*n<=65536*n:=ZdY (by omega) h0;omega
  have af:(underlying T).run P S.w= .ok (.chan dr e) S.w:=by simp[underlying,hu]
  have ac: ¬(n<0\/n>IntKind.i64.max\/(i.bytes:Int)*n>2^48 - 112):=by
   have:IntKind.i64.max=9223372036854775807:=by decide
   omega
  simp only[execOp,ho,Z,Instr.makeChan,Sem.run_bind,asInt,asIntOf,Sem.run_pure,Result.andThen_ok,af,ad];simp[ac];intro h9;exfalso;omega
 refine⟨_,_,some ⟨S.w.heap.size,0,0⟩,.inl Q,UY (w':={S.w with heap:=S.w.heap.push (.chan n.toNat #[] false 0 0 false)}) rfl rfl rfl rfl (aa rfl) (λn f hf=>G n f hf rfl),?_⟩;intro hp;constructor
 .simp only[An];exact⟨_,#[],0,0,rfl,YU rfl,by simp[rdl]⟩
 .simp only[Aa];exact⟨rfl,λe' aj=>⟨⟨S.w.heap.size,0,0⟩,by simp[Ay.one],rfl⟩⟩
def Pf{T:TypeId}{x:Operand}{c:Call}{q:Nat}(ho:o.op= .call c)(ab:c.callee= .builtin .len)(Q:c.args= #[x])(ah:c.argTypes= #[T])(hx:Ap tm x= .ch q)
 (z:Sw q h K (Ve P T)):BM P tm h nx o K:=by
 cases hc:Ve P T with
 |none=>rw[hc] at z;exact z.elim
 |some e=>
 rw[hc] at z;simp only[Sw] at z;obtain⟨dr,hu⟩:=Qpi hc;cases hq:h q with
 |none=>rw[hq] at z;exact z.elim
 |some O=>
 obtain⟨mu,O⟩:=O;rw[hq] at z;cases O<;>try exact z.elim
 refine YR (u:=[q]) ho ab Q ah ?_ z;intro C S v hW ai Z;rw[hx] at Z;simp only[Aa] at Z;have hS:=(ai q (by simp)).trans hq;obtain⟨l,hl,rfl⟩:=Z.2 _ hS;have ac:=hW.obj _ _ hS;simp only[An] at ac;obtain⟨lc,ag,af,ad,h1,h2,h3⟩:=ac;rw[hl] at h1;obtain rfl:=AB h1;have G:=cM _ _ h3;simp only[EE] at G;rename_i q0 aa;have hg:(getObj l.b).run P S.w= .ok (.chan aa ag false af ad false) S.w:=by simp[getObj,Sem.run,show S.w.heap[l.b]? =_ from h2]
 have aj:(underlying T).run P S.w= .ok (.chan dr e) S.w:=by simp[underlying,hu]
 simp[Builtin.len_,aj,hg,goInt,G]
def Ph{T:TypeId}{x:Operand}(hD: ∀(tk te:TypeId) (kt:KT) (es:List (D×D)),P.underlying T=some (.map tk te)->Ap tm x= .im (.mp kt es)->K (.it nx) {new:=[(nx,(true,.iter none es))],cnt:=1}->BM P tm h nx o K)(ho:o.op= .range T x)(G:Bh (xJ h nx (Ap tm x) K) (tI P T)):BM P tm h nx o K:=by
 cases hT:tI P T with
 |none=>rw[hT] at G;exact G.elim
 |some ti=>
 rw[hT] at G;simp only[Bh,xJ] at G;cases hf:ti.kind<;>rw[hf] at G<;>try exact G.elim
 rename_i tk te;have hu:=iW hT hf;simp only[TC] at G;cases hx:Ap tm x<;>rw[hx] at G<;>try exact G.elim
 case im d=>
  cases d<;>try exact G.elim
  exact hD _ _ _ _ hu hx G
 rename_i q;simp only[zZ] at G;cases hq:h q with
 |none=>rw[hq] at G;exact G.elim
 |some ab=>
 obtain⟨mu,ab⟩:=ab;rw[hq] at G;cases ab<;>try exact G.elim
 rename_i kt es;simp only[TE] at G;refine⟨_,_,?_,G⟩;intro C S a next Q hW ax av hnm ao hn
 have h1:=ao x (by rw[ho];simp[Op.operands]);rw[hx] at h1;simp only[Aa] at h1;have hS:=(ax q (by simp)).trans hq;obtain⟨l,hl,hv⟩:=h1.2 _ hS;have ak:=hW.obj _ _ hS;simp only[An] at ak;obtain⟨lc,O,z,g1,g2,g3,g4,g5,g6⟩:=ak;rw[hl] at g1;obtain rfl:=AB g1;have ad:=av nx ⟨AP _,by show nx<nx+1;omega⟩;have a0:q≠nx:=λh'=>by subst h';rw[hS] at ad;cases ad
 let X:Nat->Bool:=λn=> !(n==q)
 have ah:X q=false:=by simp[X]
 have ag:Wf C (S.ice X):=UZ hW;have af:(S.ice X).h q=some (false,.map kt es):=by simp[Ay.ice,hS,ah]
 have an:(S.ice X).ok l.b:=iT hW ah af rfl hl;have aj:(S.ice X).h nx=none:=by simp[Ay.ice,ad]
 let w':World:={S.w with heap:=S.w.heap.push (.mapIter (some l.b) z #[] z)}
 have hg:(getObj l.b).run P S.w= .ok (.map O z) S.w:=P2 (w:=S.w) g3;have ay:(underlying T).run P S.w= .ok (.map tk te) S.w:=by simp[underlying,hu]
 have aq:(execOp a.eval o).run P S.w= .ok (.value (.pointer (some ⟨S.w.heap.size,0,none⟩))) w':=by
  simp only[execOp,ho,hv,Instr.range,Sem.run_bind,ay,Result.andThen_ok,hg,Sem.run_pure];simp[w']
 have aa:Kb (S.ice X) nx (.iter none es) (some ⟨S.w.heap.size,0,0⟩) [] w':=UY (S:=S.ice X) (w':=w') rfl rfl rfl rfl aj (by
  intro n f hf aw;obtain⟨e,he,rfl⟩:=US hf;exact hnm n e he nx aw ⟨AP _,by show nx<nx+1;omega⟩)
 have hp:=gW ag aa;have hb:=hW.oks;have az:l.b<S.w.heap.size:=(hW.loc q _ l hS hl).1;have am:An ((S.ice X).one nx (.iter none es) (some ⟨S.w.heap.size,0,0⟩) [] w') (some ⟨S.w.heap.size,0,0⟩) (.iter none es):=by
  simp only[An];obtain⟨p1,p2⟩:=hp.ok l.b an;refine⟨_,l.b,O,z,#[],rfl,p1,trivial,p2.trans g3,?_,g5,g6,?_⟩
  .have:=YU (S:=S.ice X) (nx:=nx) (e:= .iter none es) (l:=some ⟨S.w.heap.size,0,0⟩) (ks:=[]) (w':=w') (ob:= .mapIter (some l.b) z #[] z) rfl
   exact this
  .have h9:O.toList.filter (λe=> !(#[]:Array Nat).contains e.born)=O.toList:=by
    rw[yQ];intro e _;simp
   rw[h9];exact KS hp.ok _ _ (KS (Hc S X).ok _ _ g4)
 have au:=pU ag aa am;unfold Oper.wp;rw[aq,Oper.upon_value];refine hn _ _ au ?_ ?_ ?_
 .funext n;simp only[Ay.one,Bv.appf,hget];by_cases ac:n=nx
  .subst ac;simp
  .have e1:(nx==n)=false:=by rw[HE];exact λh=>ac h.symm
   rw[Af ac,e1];by_cases Z:n=q
   .subst Z;simp[af]
   .have e2:(q==n)=false:=by rw[HE];exact λh=>Z h.symm
    have e3:X n=true:=by simp[X,Z]
    simp only[e2,PM,CA,Bs]
    have:([q]:List Nat).contains n=false:=by simp[Z]
    rw[this];simp only[Ay.ice,e3,Ep,Bs];cases S.h n<;>rfl
 .have q1:=Hc S X;refine⟨λb hb=> ?_,λn hX e' ai=> ?_⟩
  .obtain⟨r1,r2⟩:=q1.ok b hb;obtain⟨r3,r4⟩:=hp.ok b r1;exact⟨r3,r4.trans r2⟩
  .obtain⟨e,r1,r2,r3,r4⟩:=hp.nm n (.inr (λh'=>hX ⟨by omega,by show n<nx+1;omega⟩)) e' ai;obtain⟨e0,s1,s2,s3,s4⟩:=q1.nm n trivial e r1;exact⟨e0,s1,r2.trans s2,r3.trans s3,r4.trans s4⟩
 .simp only[Aa];exact⟨rfl,λe' ai=>⟨⟨S.w.heap.size,0,0⟩,by simp[Ay.one],rfl⟩⟩
def Pc{x:Operand}(ho:o.op= .entry x)(G:xQ h K (Ap tm x)):BM P tm h nx o K:=by
 cases hx:Ap tm x<;>rw[hx] at G<;>try exact G.elim
 rename_i q;simp only[xQ] at G;cases hq:h q with
 |none=>rw[hq] at G;exact G.elim
 |some O=>
 obtain⟨mu,O⟩:=O;rw[hq] at G;cases mu<;>cases O<;>try exact G.elim
 rename_i ab left;cases ab with
 |none=>exact G.elim
 |some p=>
 simp only[R6] at G;refine⟨_,_,B6.pure (u:=[q]) ?_,G⟩;intro C S a hW ag aa;have h1:=aa x (by rw[ho];simp[Op.operands]);rw[hx] at h1;simp only[Aa] at h1;have hS:=(ag q (by simp)).trans hq;obtain⟨l,hl,hv⟩:=h1.2 _ hS;have Z:=hW.obj _ _ hS;simp only[An] at Z;obtain⟨lc,mb,Q,z,ac,g1,g2,⟨st,e,k1,k2,k3,k4⟩,g3,g4,g5,g6,g7⟩:=Z;rw[hl] at g1;obtain rfl:=AB g1;refine⟨.tuple #[e.key,e.val],?_,by simp only[Aa,rd];exact⟨_,rfl,by simp only[rdl];exact⟨_,_,rfl,k3,_,_,rfl,k4,rfl⟩⟩⟩;have ad:(getObj l.b).run P S.w= .ok (.mapIter (some mb) z ac z) S.w:=by simp[getObj,Sem.run,show S.w.heap[l.b]? =_ from g4]
 have af:(getObj mb).run P S.w= .ok (.map Q z) S.w:=P2 (w:=S.w) g3;simp only[execOp,ho,hv,Instr.entry,Sem.run_bind,ad,Result.andThen_ok,k1,af];simp[k2]
def Tv{ok:Nat->Prop}{hp:Nat->Option Obj}: ∀(ds:List (D×D)) (es:List MapEntry) (i:Nat) (e:MapEntry),Cw ok hp ds es->es[i]? =some e-> ∃p,ds[i]? =some p/\rd ok hp p.1 e.key/\rd ok hp p.2 e.val
 |[],es,i,e,h,z=>by simp only[Cw] at h;subst h;simp at z
 |(x,y)::ds,es,i,e,h,z=>by
  simp only[Cw] at h;obtain⟨e',r,rfl,G,O,Q⟩:=h;cases i with
  |zero=>
   simp only[HA,AM] at z;subst z;exact⟨(x,y),rfl,G,O⟩
  |succ i=>
   simp only[PG] at z⊢;exact Tv ds r i e Q z
def Qjl{z:Array Nat}{b:Nat}: ∀(l:List MapEntry) (i:Nat) (e:MapEntry),(l.map (·.born)).Nodup->(l.filter λe=> !z.contains e.born)[i]? =some e->e.born=b->
 (l.filter λe=> !(z.push b).contains e.born)=(l.filter λe=> !z.contains e.born).eraseIdx i
 |[],i,e,_,h,_=>by simp at h
 |x::r,i,e,O,h,Z=>by
  simp only[Bb,Zj] at O;have G: ∀n,(z.push b).contains n=(z.contains n||n==b):=by
   intro n;rw[jK];simp only[Array.contains_iff_mem,Array.mem_push,H8,PO]
  cases hx:z.contains x.born with
  |true=>
   have e1:(!z.contains x.born)=false:=by rw[hx];rfl
   have Q:(!(z.push b).contains x.born)=false:=by rw[G,hx];rfl
   rw[qZ (p:=λ(e:MapEntry)=> !(z.push b).contains e.born) (by rw[Q];simp),qZ (p:=λ(e:MapEntry)=> !z.contains e.born) (by rw[e1];simp)];rw[qZ (p:=λ(e:MapEntry)=> !z.contains e.born) (by rw[e1];simp)] at h;exact Qjl r i e O.2 h Z
  |false=>
   have e1:(!z.contains x.born)=true:=by rw[hx];rfl
   rw[ZeI (p:=λ(e:MapEntry)=> !z.contains e.born) (by exact e1)] at h⊢;cases i with
   |zero=>
    simp only[HA,AM] at h;subst h;have Q:(!(z.push b).contains x.born)=false:=by rw[G,Z];simp
    rw[qZ (by rw[Q];simp),ZeH];apply List.filter_congr;intro y hy
    have:(y.born==b)=false:=by
     rw[HE,<-Z];intro h9;exact O.1 (Bn.2 ⟨y,hy,h9⟩)
    rw[G,this,PI]
   |succ i=>
    simp only[PG] at h;have aa:(x.born==b)=false:=by
     rw[HE];intro h9;have hm:e∈r.filter λe=> !z.contains e.born:=Bf h
     exact O.1 (Bn.2 ⟨e,(jL.1 hm).1,by rw[Z,h9]⟩)
    have Q:(!(z.push b).contains x.born)=true:=by rw[G,hx,aa];rfl
    rw[ZeI (p:=λ(e:MapEntry)=> !(z.push b).contains e.born) (by exact Q),ZeG,Qjl r i e O.2 h Z]
def Qvh: ∀(l:List MapEntry) (e:MapEntry),(l.map (·.born)).Nodup->e∈l->l.find? (λx=>x.born==e.born)=some e
 |[],e,_,h=>by cases h
 |x::r,e,z,h=>by
  simp only[Bb,Zj] at z;rcases Bt.1 h with rfl|h
  .simp
  .have G:(x.born==e.born)=false:=by
    rw[HE];intro O;exact z.1 (Bn.2 ⟨e,h,O.symm⟩)
   rw[zM,G];exact Qvh r e z.2 h
def Um{x:Operand}(ho:o.op= .next x false)(hk:V4 h K (Ap tm x)):Kh P tm h nx o K:=by
 cases hx:Ap tm x<;>rw[hx] at hk<;>try exact hk.elim
 rename_i q;simp only[V4] at hk;cases hq:h q with
 |none=>rw[hq] at hk;exact hk.elim
 |some ad=>
 obtain⟨mu,ad⟩:=ad;rw[hq] at hk;cases mu<;>cases ad<;>try exact hk.elim
 rename_i bm left;simp only[SQ] at hk;obtain⟨be,bf⟩:=hk;intro C S a next Q hW hh bn hnm aw hn
 have h1:=aw x (by rw[ho];simp[Op.operands]);rw[hx] at h1;simp only[Aa] at h1;have hS:=(hh q).trans hq;obtain⟨l,hl,hv⟩:=h1.2 _ hS;have aq:=hW.obj _ _ hS;simp only[An] at aq;obtain⟨lc,mb,G,z,O,g1,g2,g0,g3,g4,g5,g6,g7⟩:=aq;rw[hl] at g1;obtain rfl:=AB g1;have bc:(getObj l.b).run P S.w= .ok (.mapIter (some mb) z O z) S.w:=by simp[getObj,Sem.run,show S.w.heap[l.b]? =_ from g4]
 have bd:(getObj mb).run P S.w= .ok (.map G z) S.w:=P2 (w:=S.w) g3;have ak:(!O.isEmpty && !G.isEmpty && G.all λe=>decide (e.born≥z))=false:=by
  cases he:G.isEmpty with
  |true=>simp
  |false=>
   have bh:G.toList≠[]:=by
    intro h9
    have:G= #[]:=Zg.1 (by simpa using h9)
    rw[this] at he;simp at he
   obtain⟨e,r,hc⟩:=Zes bh;have hm:e∈G:=by rw[<-Array.mem_toList_iff,hc];simp
   have bo:=g6 e (by rw[hc];simp)
   have:(G.all λe=>decide (e.born≥z))=false:=by
    rw[PJ];intro h9;rw[Array.all_eq_true'] at h9
    have:=h9 e hm
    simp only[Cy] at this;omega
   rw[this];simp
 let F:Array MapEntry:=G.filter λe=> !O.contains e.born
 have hF:F.toList=G.toList.filter λe=> !O.contains e.born:=by simp[F]
 have av:(F.filter λe=>decide (e.born<z))=F:=by
  apply Array.filter_eq_self.2;intro e he
  have:e∈G.toList:=by
   have:e∈F.toList:=by simpa using he
   rw[hF] at this;exact (jL.1 this).1
  simpa using g6 e this
 have ao:(F.filter λe=>decide (e.born≥z))= #[]:=by
  apply Array.filter_eq_empty_iff.2;intro e he
  have:e∈G.toList:=by
   have:e∈F.toList:=by simpa using he
   rw[hF] at this;exact (jL.1 this).1
  have:=g6 e this
  simp;omega
 unfold Oper.wp;have ag:(execOp a.eval o).run P S.w=((Instr.next (.pointer (some ⟨l.b,0,none⟩)) false o.type).run P S.w).andThen λv w=> .ok (.value v) w:=by
  simp only[execOp,ho,hv,Sem.run_bind,Sem.run_pure]
 obtain⟨ms,hnx⟩: ∃ms,(Instr.next (.pointer (some ⟨l.b,0,none⟩)) false o.type).run P S.w=
  ((choose (.mapNext ((if F.isEmpty then #[none] else #[])++F.map some).size)).run P S.w).andThen λi w1=>
    (match ((if F.isEmpty then #[none] else #[])++F.map some)[i]? with
     |some (some e)=>(do setObj l.b (.mapIter (some mb) z (O.push e.born) z);pure (.tuple #[.bool true,e.key,e.val]):Sem Value)
     |some none=>pure (.tuple #[.bool false])
     |none=>stuck ms).run P w1:=by
  apply Exists.intro;have e1:(G.filter λe=> !O.contains e.born)=F:=rfl;simp only[Instr.next,Sem.run_bind,bc,Result.andThen_ok,bd,ak,CQ,CA,e1,av,ao,Array.append_empty];congr 1
 rw[ag,hnx];by_cases af:F.isEmpty=true
 .have aj:F= #[]:=by simpa using af
  have bg:left=[]:=by
   rw[<-hF,aj] at g7;cases left with
   |nil=>rfl
   |cons p r=>
    obtain⟨x0,y0⟩:=p;simp only[Cw] at g7;obtain⟨e,r',h9,_⟩:=g7;simp at h9
  rw[aj];simp only[Array.isEmpty_empty,B5,Array.map_empty,Array.append_empty,run_choose,Question.forced];simp only[Zf,Dd,H9,FC,AP,QM,B5,Result.andThen_ok];simp only[zA,HA,Sem.run_pure,Result.andThen_ok,Oper.upon_value];exact hn _ _ _ S (be bg) hW (wB [q] S.h).symm (BE.refl _ _) (by simp only[Aa,AN,rd];exact⟨_,rfl,_,_,rfl,rfl,rfl⟩)
 .have a8:F.isEmpty=false:=by simpa using af
  rw[a8];simp only[CQ,CA,Array.empty_append,Array.size_map];have ac:0<F.size:=by
   rcases jI F.size with h9|h9
   .exact absurd (by simpa using Array.eq_empty_of_size_eq_zero h9) af
   .exact h9
  have bb: ∃i w1,(choose (.mapNext F.size)).run P S.w= .ok i w1/\i<F.size/\w1.heap=S.w.heap/\w1.os=S.w.os/\w1.tape=S.w.tape/\w1.output=S.w.output/\S.w.drawn<=w1.drawn:=by
   rw[run_choose];split
   .exact⟨0,S.w,rfl,ac,rfl,rfl,rfl,rfl,AP _⟩
   .exact⟨_,_,rfl,Zm _ ac,rfl,rfl,rfl,rfl,jP _⟩
  obtain⟨i,w1,ba,hi,ai,bj,bl,a0⟩:=bb;rw[ba];simp only[Result.andThen_ok];have hget:(F.map some)[i]? =some (some F[i]):=by simp[hi]
  rw[hget];simp only[Sem.run_bind,Sem.run_pure];have am:w1.heap[l.b]? =some (.mapIter (some mb) z O z):=by rw[ai];exact g4
  have az:(setObj l.b (.mapIter (some mb) z (O.push F[i].born) z)).run P w1= .ok () {w1 with heap:=w1.heap.setIfInBounds l.b (.mapIter (some mb) z (O.push F[i].born) z)}:=by
   simp[setObj,Sem.run,am]
  rw[az];simp only[Result.andThen_ok,Oper.upon_value];have aa:F.toList[i]? =some F[i]:=by simp[hi]
  rw[hF] at aa;obtain⟨p,bi,ax,ay⟩:=Tv left _ i F[i] g7 aa
  let w':World:={w1 with heap:=w1.heap.setIfInBounds l.b (.mapIter (some mb) z (O.push F[i].born) z)}
  have ab:Kb S q (.iter (some p) (left.eraseIdx i)) (some l) [q] w':=cN hW hS hl (w':=w') (ob:= .mapIter (some mb) z (O.push F[i].born) z) (by simp[w',ai]) bj bl a0.1 rfl rfl a0.2;have Z:=gW hW ab;have au:An (S.one q (.iter (some p) (left.eraseIdx i)) (some l) [q] w') (some l) (.iter (some p) (left.eraseIdx i)):=by
   simp only[An];obtain⟨p1,p2⟩:=Z.ok mb g2;have an:F[i]∈G.toList:=(jL.1 (Bf aa)).1;refine⟨l,mb,G,z,O.push F[i].born,rfl,p1,⟨F[i].born,F[i],by simp,?_,GI Z.ok _ _ ax,GI Z.ok _ _ ay⟩,p2.trans g3,?_,g5,g6,?_⟩
   .have:=Qvh G.toList F[i] g5 an
    rw[<-Array.find?_toList];exact this
   .exact cV (hW.loc q _ l hS hl).1 (by simp[w',ai])
   .rw[Qjl G.toList i F[i] g5 aa rfl];exact KS Z.ok _ _ (Qpa i left _ g7)
  have a9:=pU hW ab au;refine hn _ _ _ _ (bf i p bi) a9 ?_ ?_ ?_
  .funext n;simp only[Ay.one,Bv.appf,Go.Ae.hget];by_cases ah:n=q
   .subst ah;simp
   .have:(q==n)=false:=by rw[HE];exact λh=>ah h.symm
    simp[this,ah]
  .exact⟨Z.ok,λn hX=>Z.nm n (.inl (by rw[hS];simp))⟩
  .simp only[Aa,AN,rd];refine⟨_,rfl,_,_,rfl,rfl,_,_,rfl,GI Z.ok _ _ ax,_,_,rfl,GI Z.ok _ _ ay,rfl⟩
end
section
variable {P:Program}{tm:List (Nat×AV)}{h:Nat->Option Am}{nx:Nat}{o:Oper}{K:Ah}
def Qr9{T:TypeId}{m k v:Operand}(ho:o.op= .mapUpdate T m k v\/o.op= .insert T m k v)(z:Bh (gV P h K (Ap tm m) (Ap tm k) (Ap tm v)) (tI P T)):BM P tm h nx o K:=by
 cases hT:tI P T with
 |none=>rw[hT] at z;exact z.elim
 |some ti=>
 rw[hT] at z;simp only[Bh,gV] at z;cases hm:Ap tm m<;>rw[hm] at z<;>try exact z.elim
 rename_i q;cases hkd:Ap tm k<;>rw[hkd] at z<;>try exact z.elim
 rename_i kd;cases hvd:Ap tm v<;>rw[hvd] at z<;>try exact z.elim
 .exact Qjd ho hT hm hkd hvd z
 rename_i n;simp only at z;cases hn:h n with
 |none=>rw[hn] at z;exact z.elim
 |some af=>
 obtain⟨mu,af⟩:=af;rw[hn] at z;cases af<;>try exact z.elim
 rename_i U w rows;simp only[SD] at z;obtain⟨ah,z⟩:=z;have ah:q≠n:=by simpa using ah
 cases v with
 |tmp t=>
  let d:D:= .sl false w rows
  let O:List (Nat×AV):=(t,.im d)::tm
  let h':Nat->Option Am:=λi=>if i=n then some (false,.arr U w rows) else h i
  have ag: ∀x:Operand,(∀y,Ap tm x=y->y≠ .own n)->Ap O x=Ap tm x:=by
   intro x hx;cases x with
   |tmp u=>
    simp only[Ap,O,A8];by_cases hu:t=u
    .subst hu;simp only[Ap] at hvd hx;exact absurd rfl (hx _ hvd)
    .have:(t==u)=false:=by simpa using hu
     rw[this];rfl
   |_=>rfl
  have ba:Ap O m= .mp q:=by rw[ag m (λy hy=>by rw[<-hy,hm];simp)];exact hm
  have a8:Ap O k= .im kd:=by rw[ag k (λy hy=>by rw[<-hy,hkd];simp)];exact hkd
  have aq:Ap O (.tmp t)= .im d:=by simp[Ap,O,A8]
  have bb:K6 P h' q kd d (zW n (.arr U w rows) K) ti.kind:=by
   cases hf:ti.kind<;>rw[hf] at z<;>try exact z.elim
   rename_i a1 a2;simp only[K6] at z⊢;have hq:h' q=h q:=by simp[h',ah]
   cases hkt:BI P a1 with
   |none=>rw[hkt] at z;exact z.elim
   |some kt=>
    rw[hkt] at z;simp only[SB] at z⊢;rw[hq];exact z
  obtain⟨r,E,bd,hK⟩:=Qjd (P:=P) (tm:=O) (h:=h') (nx:=nx) (K:=zW n (.arr U w rows) K) ho hT ba a8 aq bb;obtain⟨a9,hK⟩:=hK;refine⟨r,_,?_,hK⟩;intro C S a next Q hW hu a0 hnm an bc
  let X:Nat->Bool:=λi=> !(i==n)
  have aj:X n=false:=by simp[X]
  have ay: ∀i,i≠n->X i=true:=λi Z=>by simp[X,Z]
  have aw:S.h n=some (mu,.arr U w rows):=(hu n (by simp)).trans hn;have am: ∀i,i≠n->(S.ice X).h i=S.h i:=by
   intro i Z;simp only[Ay.ice,ay i Z,Ep];cases S.h i<;>rfl
  have aa:(S.ice X).h n=some (false,.arr U w rows):=by simp[Ay.ice,aw,aj]
  have ai:Wf C (S.ice X):=UZ hW;refine bd C (S.ice X) a next Q ai ?_ ?_ ?_ ?_ ?_
  .intro i Z;by_cases G:i=n
   .subst G;simp[h',aa]
   .rw[am i G,hu i (by simp only[Bz,Bt] at Z⊢;rcases Z with Z|Z;exact .inl (.inr Z);exact .inr (.inr Z))];simp[h',G]
  .intro i Z
   have:=a0 i Z
   simp[Ay.ice,this]
  .intro i e he x hx hf;obtain⟨e0,G,rfl⟩:=US he;exact hnm i e0 G x hx hf
  .intro x hx;have au:x=m\/x=k\/x= .tmp t:=by rcases ho with ho|ho<;>rw[ho] at hx<;>simpa[Op.operands] using hx
   have ao:=Hc S X;have ac:=an x (by rcases ho with ho|ho<;>rw[ho]<;>simpa[Op.operands] using au);by_cases av:x= .tmp t
   .subst av;rw[aq];rw[hvd] at ac;have G:=I1 ao _ _ (λ_ _=>trivial) ac;simp only[Aa] at G⊢;have h2:=G.2 _ aa;have ab:=ai.obj n _ aa;have hρ:(S.ice X).ρ n=S.ρ n:=rfl;simp only[An] at ab;simp only[d,rd];cases hl:S.ρ n with
    |none=>
     rw[hρ,hl] at h2 ab;exact .inl ⟨.inl h2,ab.2⟩
    |some l=>
     rw[hρ,hl] at h2 ab;obtain⟨g0,g1,vs,g2,g3,g4⟩:=ab;refine .inr ⟨l.b,l.p,l.cap,vs,U,(0,0),h2,by simp,g1,g0,iT hW aj aa rfl (by rw[hρ];exact hl),g2,g4⟩
   .rw[ag x ?_]
    .exact I1 ao _ _ (λ_ _=>trivial) ac
    .intro y hy ad;rcases au with rfl|rfl|rfl
     .rw[hm] at hy;rw[<-hy] at ad;cases ad
     .rw[hkd] at hy;rw[<-hy] at ad;cases ad
     .exact av rfl
  .intro v S' ax hh hp hc;refine bc v S' ax ?_ ?_ hc
   .rw[hh];funext i;simp only[Bv.appf];have ak:hget (E.new++[(n,(false,Ac.arr U w rows))]) i=match hget E.new i with|some e=>some e|none=>if n=i then some (false,Ac.arr U w rows) else none:=by
     generalize E.new=L;induction L with
     |nil=>
      simp only[Dj,hget];by_cases G:n=i
      .subst G;simp
      .have:(n==i)=false:=by simpa using G
       simp[this,G]
     |cons p L ih=>
      obtain⟨j,e⟩:=p;simp only[BG,hget];cases hj:j==i
      .simpa using ih
      .simp
    rw[ak];cases hg:hget E.new i with
    |some e=>rfl
    |none=>
     simp only;by_cases G:n=i
     .subst G;rw[Ai rfl,a9,aa];rfl
     .have h2:i≠n:=λh=>G h.symm
      rw[Af G,am i h2];have h3:(n::E.kill).contains i=E.kill.contains i:=by simp[h2]
      rw[h3]
   .have q1:=Hc S X;refine⟨λb hb=> ?_,λi hX e' az=> ?_⟩
    .obtain⟨r1,r2⟩:=q1.ok b hb;obtain⟨r3,r4⟩:=hp.ok b r1;exact⟨r3,r4.trans r2⟩
    .obtain⟨e,r1,r2,r3,r4⟩:=hp.nm i hX e' az;obtain⟨e0,s1,s2,s3,s4⟩:=q1.nm i trivial e r1;exact⟨e0,s1,r2.trans s2,r3.trans s3,r4.trans s4⟩
 |const c=>exfalso;simp only[Ap] at hvd;unfold kD at hvd;split at hvd<;>cases hvd
 |global g=>simp only[Ap] at hvd;cases hvd
 |func f=>exfalso;simp only[Ap] at hvd;cases hb:Nat.blt f 1000000000<;>rw[hb] at hvd<;>cases hvd
end
end Go.Ae
