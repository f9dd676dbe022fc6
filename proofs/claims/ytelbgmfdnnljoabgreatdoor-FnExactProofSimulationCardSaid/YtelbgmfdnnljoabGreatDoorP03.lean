/- Lemmas. Conditions: none. -/
import Derived.Test.YtelbgmfdnnljoabGreatDoorP02
import Derived.Laws.StructEq
import Derived.WideKeyRuns
set_option linter.all false
set_option maxHeartbeats 8000000
set_option maxRecDepth 100000
namespace Go.Ae
def Qnp: ∀(a b:List KK) (l:List D),BB (a++b) l=true->BB a (l.take a.length)=true/\BB b (l.drop a.length)=true/\a.length<=l.length
 |[],b,l,h=>by simpa[BB] using h
 |k::a,b,[],h=>by simp[BB] at h
 |k::a,b,d::l,h=>by
  simp only[BO,BB,AY] at h;obtain⟨z,O,Q⟩:=Qnp a b l h.2;simp only[Dx,Fj,LO,BB,AY];exact⟨⟨h.1,z⟩,O,by omega⟩
def zT: ∀(a:List KK) (l:List D),BB a l=true->l.length=a.length
 |[],[],_=>rfl
 |[],_::_,h=>by simp[BB] at h
 |_::_,[],h=>by simp[BB] at h
 |k::a,d::l,h=>by
  simp only[BB,AY] at h;simp[zT a l h.2]
def Qq6: ∀(n:Nat) (a b:List D),n<=a.length->n<=b.length->D.beql a b=(D.beql (a.take n) (b.take n) && D.beql (a.drop n) (b.drop n))
 |0,a,b,_,_=>by simp[D.beql]
 |n+1,[],_,h,_=>by simp at h
 |n+1,_::_,[],_,h=>by simp at h
 |n+1,x::a,y::b,z,O=>by
  simp only[Fj,LO,D.beql,mQ];rw[Qq6 n a b (by simpa using z) (by simpa using O)]
def fV{ok:Nat->Prop}{hp:Nat->Option Obj}{k:KK}{d:D}{v:Value}(hf:k.fit d=true)(h:rd ok hp d v):
 (∃j n,k= .int j/\d= .int j n/\v= .int j n)\/(∃s,k= .str/\d= .str s/\v= .string s)\/(∃b,k= .bool/\d= .bool b/\v= .bool b):=by
 cases k<;>cases d<;>simp only[KK.fit,Df,OH] at hf<;>simp only[rd] at h
 .subst hf;exact .inl ⟨_,_,rfl,rfl,h⟩
 .exact .inr (.inl ⟨_,rfl,rfl,h⟩)
 .exact .inr (.inr ⟨_,rfl,rfl,h⟩)
section
variable {P:Program}
def tW: ∀{n:Nat} {t:TypeId} {Q:KT},Ea P n t=some Q->Q.agg=false-> ∃k,Q.ks=[k]/\((∃j,k= .int j/\P.underlying t=some (.int j))\/(k= .str/\P.underlying t=some .string)\/(k= .bool/\P.underlying t=some .bool)):=by
 intro n t Q h Z;cases n with
 |zero=>simp[Ea] at h
 |succ n=>
  simp only[Ea] at h;split at h
  .rename_i k z;obtain rfl:=AJ h;exact⟨_,rfl,.inl ⟨k,rfl,z⟩⟩
  .rename_i z;obtain rfl:=AJ h;exact⟨_,rfl,.inr (.inl ⟨rfl,z⟩)⟩
  .rename_i z;obtain rfl:=AJ h;exact⟨_,rfl,.inr (.inr ⟨rfl,z⟩)⟩
  .rename_i O z;cases hst:P.stoodInHeld t<;>rw[hst] at h
   .simp only[Bk,D4] at h;obtain⟨ks,_,rfl⟩:=h;cases Z
   .simp at h
  .cases h
def zX: ∀{n:Nat} {t:TypeId} {O:KT},Ea P n t=some O->O.agg=true-> ∃m z,n=m+1/\P.underlying t=some (.struct z)/\P.stoodInHeld t=false/\aT P (Ea P m) z.toList 0=some O.ks:=by
 intro n t O h Q;cases n with
 |zero=>simp[Ea] at h
 |succ n=>
  simp only[Ea] at h;split at h
  .obtain rfl:=AJ h;cases Q
  .obtain rfl:=AJ h;cases Q
  .obtain rfl:=AJ h;cases Q
  .rename_i z hu;cases hst:P.stoodInHeld t<;>rw[hst] at h
   .simp only[Bk,D4] at h;obtain⟨ks,Z,rfl⟩:=h;exact⟨n,z,rfl,hu,rfl,Z⟩
   .simp at h
  .cases h
def Qsw{n:Nat}{f:Field}{z:KT}{i:TypeInfo}(hk:Ea P n f.type=some z)(hi:P.info? f.type=some i)(hz:i.size=z.ks.length){ok:Nat->Prop}{hp:Nat->Option Obj}{w:World}
 {ds:List D}{xs:Array Value}{off:Nat}(ab:off+z.ks.length<=ds.length)(h:rdl ok hp ds xs.toList)(hf:BB z.ks ((ds.drop off).take z.ks.length)=true):
 ∃d v,(part f.type xs off).run P w= .ok v w/\z.fit d=true/\rd ok hp d v/\((z.agg=true/\d= .agg ((ds.drop off).take z.ks.length))\/(z.agg=false/\[d]=(ds.drop off).take z.ks.length)):=by
 have hl:z.ks.length<=(ds.drop off).length:=by rw[CI];omega
 have h1:=Q6 off ds _ (Xr _ _ h) (by omega);obtain⟨h2,Q⟩:=VS z.ks.length _ _ h1 hl;cases ha:z.agg with
 |false=>
  obtain⟨k,Z,O⟩:=tW hk ha;rw[Z] at hl Q hf⊢;simp only[ZeX] at hl Q hf⊢;cases hd:ds.drop off with
  |nil=>rw[hd] at hl;simp at hl
  |cons d r=>
   rw[hd] at Q hf;simp only[Fj,E5,rdl] at Q hf;obtain⟨v,r',hv,h4,h5⟩:=Q;refine⟨d,v,?_,by simpa[KT.fit,ha,Z] using hf,h4,.inr ⟨trivial,by simp⟩⟩;have hx:xs[off]? =some v:=by
    have:(xs.toList.drop off)[0]? =some v:=by
     cases hq:xs.toList.drop off with
     |nil=>rw[hq] at hv;simp at hv
     |cons a b=>rw[hq] at hv;simp at hv;simp[hv.1]
    simpa using this
   unfold part;rcases O with ⟨j,_,O⟩|⟨_,O⟩|⟨_,O⟩<;>simp[isAgg,run_underlying O,hx]
 |true=>
  obtain⟨m,aa,_,O,_⟩:=zX hk ha;refine⟨_,.agg (xs.extract off (off+z.ks.length)),?_,by simpa[KT.fit,ha] using hf,?_,.inl ⟨rfl,rfl⟩⟩
  .unfold part;simp[isAgg,run_underlying O,sizeOf,typeInfo,hi,hz]
  .simp only[rd];refine⟨_,rfl,?_⟩;rw[Zfd];simpa[List.extract] using Q
def Qr5(d:Nat)(xs z:Array Value)(f:Field)(O:List Field)(hn:f.name≠ "_"){w:World}{a b:Value}{r:Bool}(Q:(part f.type xs f.offset).run P w= .ok a w)
 (Z:(part f.type z f.offset).run P w= .ok b w)(h3:(Op.equalIn d f.type a b).run P w= .ok r w):
 (Op.eqFields d xs z (f::O)).run P w=if r=true then (Op.eqFields d xs z O).run P w else .ok false w:=by
 simp only[Op.eqFields,ne_eq,hn,ZdW,BD,Sem.run_bind,Q,Z,h3,Result.andThen_ok];cases r<;>simp
section
variable {ok:Nat->Prop}{hp:Nat->Option Obj}{w:World}
def Tu{n m:Nat}(ih: ∀(t:TypeId) (Z:KT),Ea P n t=some Z-> ∀(d1 d2:D) (v1 v2:Value),Z.fit d1=true->Z.fit d2=true->rd ok hp d1 v1->rd ok hp d2 v2->(Op.equalIn m t v1 v2).run P w= .ok (D.beq d1 d2) w):
 ∀(fs:List Field) (off:Nat) (ks:List KK),aT P (Ea P n) fs off=some ks-> ∀(z O:List D) (xs ys:Array Value),off+ks.length=z.length->off+ks.length=O.length->
  BB ks (z.drop off)=true->BB ks (O.drop off)=true->rdl ok hp z xs.toList->rdl ok hp O ys.toList->(Op.eqFields m xs ys fs).run P w= .ok (D.beql (z.drop off) (O.drop off)) w:=by
 intro fs;induction fs with
 |nil=>
  intro off ks Q z O xs ys ab ac _ _ _ _;simp only[aT,AN] at Q;subst Q;rw[DY (by simpa using ZeZ ab.symm),DY (by simpa using ZeZ ac.symm)];simp[Op.eqFields,D.beql]
 |cons f fs ao=>
  intro off ks Q z O xs ys ab ac am an ah ai;simp only[aT] at Q;split at Q
  .rename_i Z i aa hi;cases hb:(f.offset==off && (f.name != "_" && i.size==Z.ks.length))<;>rw[hb] at Q
   .simp at Q
   .simp only[Cg,D4] at Q;obtain⟨aq,ag,rfl⟩:=Q;simp only[AY,OH,bne_iff_ne,ne_eq] at hb;obtain⟨rfl,ad,aj⟩:=hb;obtain⟨g1,g2,g3⟩:=Qnp _ _ _ am;obtain⟨g4,g5,g6⟩:=Qnp _ _ _ an;rw[Ez] at ab ac;obtain⟨d1,v1,p1,q1,r1,s1⟩:=Qsw (w:=w) aa hi aj (by omega) ah g1;obtain⟨d2,v2,p2,q2,r2,s2⟩:=Qsw (w:=w) aa hi aj (by omega) ai g4;have he:=ih _ _ aa d1 d2 v1 v2 q1 q2 r1 r2;rw[Qr5 m xs ys f fs ad p1 p2 he];rw[Es] at g2 g5;have af:=ao _ _ ag z O xs ys (by omega) (by omega) g2 g5 ah ai;have ak:D.beq d1 d2=D.beql ((z.drop f.offset).take Z.ks.length) ((O.drop f.offset).take Z.ks.length):=by
     rcases s1 with ⟨_,rfl⟩|⟨ha,e1⟩<;>rcases s2 with ⟨hb,rfl⟩|⟨hb,e2⟩
     .simp[D.beq]
     .simp_all
     .simp_all
     .rw[<-e1,<-e2];simp[D.beql]
    rw[Qq6 Z.ks.length (z.drop f.offset) (O.drop f.offset) g3 g6,af,ak,Es,Es];cases D.beql ((z.drop f.offset).take Z.ks.length) ((O.drop f.offset).take Z.ks.length)<;>simp
  .cases Q
def MD: ∀(n m:Nat),n<=m-> ∀(t:TypeId) (kt:KT),Ea P n t=some kt-> ∀(d1 d2:D) (v1 v2:Value),kt.fit d1=true->kt.fit d2=true->rd ok hp d1 v1->rd ok hp d2 v2->
 (Op.equalIn m t v1 v2).run P w= .ok (D.beq d1 d2) w:=by
 intro n;induction n with
 |zero=>intro m _ t kt h;simp[Ea] at h
 |succ n ih=>
  intro m hm t kt h d1 d2 v1 v2 O Q Z aa;obtain⟨m,rfl⟩: ∃m',m=m'+1:=⟨m - 1,by omega⟩;cases ha:kt.agg with
  |false=>
   obtain⟨k,hk,hu⟩:=tW h ha;simp only[KT.fit,ha,hk,BB,Et] at O Q;rcases fV O Z with ⟨j,a,e1,rfl,rfl⟩|⟨a,e1,rfl,rfl⟩|⟨a,e1,rfl,rfl⟩<;>
    rcases fV Q aa with ⟨j2,b,e2,rfl,rfl⟩|⟨b,e2,rfl,rfl⟩|⟨b,e2,rfl,rfl⟩<;>rw[e1] at e2<;>cases e2<;>
    rcases hu with ⟨_,e3,hu⟩|⟨e3,hu⟩|⟨e3,hu⟩<;>rw[e1] at e3<;>cases e3
   .simp[Op.equalIn,run_underlying hu,D.beq]
   .simp[Op.equalIn,run_underlying hu,D.beq]
   .simp[Op.equalIn,run_underlying hu,D.beq]
  |true=>
   obtain⟨m0,z,ah,hu,ag,af⟩:=zX h ha;obtain rfl:n=m0:=by omega
   cases d1<;>simp only[KT.fit,ha,Df] at O;cases d2<;>simp only[KT.fit,ha,Df] at Q;rename_i ac ad;simp only[rd] at Z aa;obtain⟨xs,rfl,Z⟩:=Z;obtain⟨ys,rfl,aa⟩:=aa;have ab:P.fieldsOf t=z:=by simp[Program.fieldsOf,hu]
   rw[run_equalIn_struct w m t xs ys (by rw[ab];exact hu) ag,ab]
   have:=Tu (w:=w) (λt kt h=>ih m (by omega) t kt h) z.toList 0 kt.ks af ac ad xs ys (by simp[zT _ _ O]) (by simp[zT _ _ Q]) (by simpa using O) (by simpa using Q) Z aa
   rw[this];simp[D.beq]
def aG(em:Bool)(n:Nat)(cs:Array Value):List Field->Sem Unit
 |[]=>pure ()
 |f::z=>if f.name≠ "_" then do
   let a <-part f.type cs f.offset
   Instr.checkKey em n f.type a
   aG em n cs z
  else aG em n cs z
def Qvk(em:Bool)(n:Nat)(t:TypeId)(cs:Array Value){z:Array Field}(Q:P.underlying t=some (.struct z)):
 (Instr.checkKey em (n+1) t (.agg cs)).run P w=(aG em n cs z.toList).run P w:=by
 simp only[Instr.checkKey,Sem.run_bind,run_underlying Q,Result.andThen_ok];rw[<-Array.forIn_toList];generalize z.toList=O;clear Q;induction O generalizing w with
 |nil=>simp[aG]
 |cons f O ih=>
  simp only[List.forIn_cons,aG,Sem.run_bind,Sem.run_ite];split
  .generalize (part f.type cs f.offset).run P w=r1;cases r1 with
   |ok a Z=>
    simp only[Result.andThen_ok];generalize (Instr.checkKey em n f.type a).run P Z=r2;cases r2 with
    |ok b w2=>
     simp only[Result.andThen_ok,Sem.run_pure];exact ih
    |halt x w2=>simp[Result.andThen]
   |halt x Z=>simp[Result.andThen]
  .simp only[Sem.run_pure,Result.andThen_ok];exact ih
def Qw3{n m:Nat}{em:Bool}(ih: ∀(t:TypeId) (kt:KT),Ea P n t=some kt-> ∀(d1:D) (v1:Value),kt.fit d1=true->rd ok hp d1 v1->(Instr.checkKey em m t v1).run P w= .ok () w):
 ∀(Z:List Field) (off:Nat) (ks:List KK),aT P (Ea P n) Z off=some ks-> ∀(O:List D) (xs:Array Value),off+ks.length=O.length->
  BB ks (O.drop off)=true->rdl ok hp O xs.toList->(aG em m xs Z).run P w= .ok () w:=by
 intro Z;induction Z with
 |nil=>intro off ks _ O xs _ _ _;simp[aG]
 |cons f Z ah=>
  intro off ks z O xs af ad ac;simp only[aT] at z;split at z
  .rename_i kt i ab hi;cases hb:(f.offset==off && (f.name != "_" && i.size==kt.ks.length))<;>rw[hb] at z
   .simp at z
   .simp only[Cg,D4] at z;obtain⟨ai,aa,rfl⟩:=z;simp only[AY,OH,bne_iff_ne,ne_eq] at hb;obtain⟨rfl,Q,ag⟩:=hb;obtain⟨g1,g2,g3⟩:=Qnp _ _ _ ad;rw[Ez] at af;obtain⟨d1,v1,p1,q1,r1,s1⟩:=Qsw (w:=w) ab hi ag (by omega) ac g1;rw[Es] at g2;simp only[aG,ne_eq,Q,ZdW,BD,Sem.run_bind,p1,ih _ _ ab d1 v1 q1 r1,Result.andThen_ok];exact ah _ _ aa O xs (by omega) g2 ac
  .cases z
def yU{em:Bool}: ∀(n m:Nat),n<=m-> ∀(t:TypeId) (Q:KT),Ea P n t=some Q-> ∀(d1:D) (v1:Value),Q.fit d1=true->rd ok hp d1 v1->
 (Instr.checkKey em m t v1).run P w= .ok () w:=by
 intro n;induction n with
 |zero=>intro m _ t Q h;simp[Ea] at h
 |succ n ih=>
  intro m hm t Q h d1 v1 Z O;obtain⟨m,rfl⟩: ∃m',m=m'+1:=⟨m - 1,by omega⟩;cases ha:Q.agg with
  |false=>
   obtain⟨k,hk,hu⟩:=tW h ha;rcases hu with ⟨_,_,hu⟩|⟨_,hu⟩|⟨_,hu⟩<;>simp[Instr.checkKey,run_underlying hu]
  |true=>
   obtain⟨m0,z,ac,hu,ad,ab⟩:=zX h ha;obtain rfl:n=m0:=by omega
   cases d1<;>simp only[KT.fit,ha,Df] at Z;rename_i aa;simp only[rd] at O;obtain⟨xs,rfl,O⟩:=O;rw[Qvk em m t xs hu];exact Qw3 (w:=w) (λt Q h=>ih m (by omega) t Q h) z.toList 0 Q.ks ab aa xs (by simp[zT _ _ Z]) (by simpa using Z) O
def Wc(kd:D)(ds:List (D×D))(i:Nat)(ok:Nat->Prop)(hp:Nat->Option Obj):Option (Nat×Value)->Prop
 |none=>lk ds kd=none/\(∀y,EF ds kd y=ds++[(kd,y)])/\Mm ds kd=ds
 |some (j,v)=> ∃p k y,j=i+p/\ds[p]? =some (k,y)/\D.beq kd k=true/\lk ds kd=some y/\rd ok hp y v/\(∀y',EF ds kd y'=ds.set p (kd,y'))/\Mm ds kd=ds.eraseIdx p
def Qq2{kd k y:D}{ds:List (D×D)}{i:Nat}{r:Option (Nat×Value)}(z:D.beq kd k=false)(h:Wc kd ds (i+1) ok hp r):Wc kd ((k,y)::ds) i ok hp r:=by
 cases r with
 |none=>
  simp only[Wc] at h⊢;exact⟨by simp[lk,z,h.1],λy=>by simp[EF,z,h.2.1],by simp[Mm,z,h.2.2]⟩
 |some r=>
  obtain⟨j,v⟩:=r;simp only[Wc] at h⊢;obtain⟨p,k',y',h1,O,Q,Z,h5,h6,h7⟩:=h;exact⟨p+1,k',y',by omega,by simpa using O,Q,by simp[lk,z,Z],h5,λy=>by simp[EF,z,h6],by simp[Mm,z,h7]⟩
def Qz7{kd k y:D}{ds:List (D×D)}{i:Nat}{v:Value}(z:D.beq kd k=true)(O:rd ok hp y v):Wc kd ((k,y)::ds) i ok hp (some (i,v)):=
 ⟨0,k,y,rfl,rfl,z,by simp[lk,z],O,λy'=>by simp[EF,z],by simp[Mm,z]⟩
def Qh4{t:TypeId}{O:KT}(hk:BW P t=some O){kd:D}{Z:Value}(hf:O.fit kd=true)(hr:rd ok hp kd Z):
 ∀(ds:List (D×D)) (es:List MapEntry) (i:Nat),(∀e∈ds,O.fit e.1=true)->CD ok hp ds es-> ∃r,(Instr.findAsking t Z es i).run P w= .ok r w/\Wc kd ds i ok hp r
 |[],es,i,_,h=>by
  simp only[CD] at h;subst h;exact⟨none,by simp[Instr.findAsking],by simp[Wc,lk,EF,Mm]⟩
 |(k,y)::ds,es,i,z,h=>by
  simp only[CD] at h;obtain⟨e,es,rfl,h1,h2,h3⟩:=h;have Q:(Op.equal t Z e.key).run P w= .ok (D.beq kd k) w:=MD 5 10000 (by omega) t O hk kd k _ _ hf (z (k,y) (by simp)) hr h1;simp only[Instr.findAsking,Sem.run_bind,Q,Result.andThen_ok];cases hb:D.beq kd k with
  |true=>exact⟨_,by simp,Qz7 hb h2⟩
  |false=>
   obtain⟨r,h4,h5⟩:=Qh4 hk hf hr ds es (i+1) (λe Q=>z e (by simp[Q])) h3;exact⟨r,by simpa using h4,Qq2 hb h5⟩
def Qmm{t:TypeId}{u:TypeDesc}{kt:KT}(hk:BW P t=some kt)(ha:kt.agg=false)(hu:P.underlying t=some u){kd:D}{kv:Value}(hf:kt.fit kd=true)(hr:rd ok hp kd kv):
 ∀(ds:List (D×D)) (es:List MapEntry) (i:Nat),(∀e∈ds,kt.fit e.1=true)->CD ok hp ds es-> ∃r,Instr.findNow u kv es i=some r/\Wc kd ds i ok hp r
 |[],es,i,_,h=>by
  simp only[CD] at h;subst h;exact⟨none,by simp[Instr.findNow],by simp[Wc,lk,EF,Mm]⟩
 |(k,y)::ds,es,i,Q,h=>by
  simp only[CD] at h;obtain⟨e,es,rfl,h1,h2,h3⟩:=h;have he:Instr.sameNow u kv e.key=some (D.beq kd k):=by
   obtain⟨q,hq,z⟩:=tW hk ha;have O:=Q _ (BU);simp only[KT.fit,ha,hq,BB,Et] at hf O;generalize e.key=ek at h1⊢;rcases fV hf hr with ⟨j,a,Z,rfl,rfl⟩|⟨a,Z,rfl,rfl⟩|⟨a,Z,rfl,rfl⟩<;>
    rcases fV O h1 with ⟨j2,b,e2,rfl,rfl⟩|⟨b,e2,rfl,rfl⟩|⟨b,e2,rfl,rfl⟩<;>rw[Z] at e2<;>cases e2<;>
    rcases z with ⟨_,e3,z⟩|⟨e3,z⟩|⟨e3,z⟩<;>rw[Z] at e3<;>cases e3<;>rw[hu] at z<;>obtain rfl:=AJ z<;>simp[Instr.sameNow,D.beq]
  simp only[Instr.findNow,he];cases hb:D.beq kd k with
  |true=>exact⟨_,rfl,Qz7 hb h2⟩
  |false=>
   obtain⟨r,h4,h5⟩:=Qmm hk ha hu hf hr ds es (i+1) (λe he=>Q e (by simp[he])) h3;exact⟨r,h4,Qq2 hb h5⟩
def yJ{t:TypeId}{kt:KT}(Z:BW P t=some kt){kd:D}{kv:Value}(hf:kt.fit kd=true)(hr:rd ok hp kd kv)(ds:List (D×D))(es:List MapEntry)(O: ∀e∈ds,kt.fit e.1=true)
 (h:CD ok hp ds es): ∃r,(Instr.findKey t kv es).run P w= .ok r w/\Wc kd ds 0 ok hp r:=by
 cases ha:kt.agg with
 |true=>
  obtain⟨m0,Q,ac,z,ad,ab⟩:=zX Z ha;rw[run_findKey_eq w (by simp[z])];exact Qh4 Z hf hr ds es 0 O h
 |false=>
  obtain⟨k,aa,z⟩:=tW Z ha;obtain⟨u,z⟩: ∃u,P.underlying t=some u:=by rcases z with ⟨j,_,z⟩|⟨_,z⟩|⟨_,z⟩<;>exact⟨_,z⟩
  obtain⟨r,h1,h2⟩:=Qmm Z ha z hf hr ds es 0 O h;exact⟨r,by simp[Instr.findKey,run_underlying z,h1],h2⟩
end
end
def yX{P:Program}{w:World}{b:Nat}{es es':Array MapEntry}{clock c':Nat}(h:w.heap[b]? =some (.map es clock)):
 ∃w',(setObj b (.map es' c')).run P w= .ok () w'/\w'.heap=w.heap.setIfInBounds b (.map es' c')/\w'.os=w.os/\w'.tape=w.tape/\w'.output=w.output/\w.drawn<=w'.drawn:=by
 refine⟨{w with heap:=w.heap.setIfInBounds b (.map es' c')},?_,rfl,rfl,rfl,rfl,AU _⟩;exact MapKept.run_setObj_map _ h
section
variable {P:Program}{tm:List (Nat×AV)}{h:Nat->Option Am}{nx:Nat}{o:Oper}{K:Ah}
def PV{op:BinOp}{T U:TypeId}{x y:Operand}{a b:List D}(ho:o.op= .binOp op T x y U)(hx:Ay tm x= .im (.agg a))(hy:Ay tm y= .im (.agg b))
 (z:tM P T op a b K (BW P T)):BY P tm h nx o K:=by
 cases hkt:BW P T with
 |none=>rw[hkt] at z;exact z.elim
 |some kt=>
 rw[hkt] at z;simp only[tM] at z;obtain⟨af,ag,hg,z⟩:=z;have aa:op= .eql\/op= .neq:=by cases op<;>first|exact .inl rfl|exact .inr rfl|exact z.elim
 have ah:K (.im (.bool (decide (op= .neq) !=D.beql a b))) {}:=by
  rcases aa with rfl|rfl
  .simpa[tQ] using z
  .simpa[tQ] using z
 refine⟨_,_,BE.pure (u:=[]) ?_,ah⟩;intro C S ac hW _ O;have Q:=O x (by rw[ho];simp[Op.operands]);have Z:=O y (by rw[ho];simp[Op.operands]);rw[hx] at Q;rw[hy] at Z;simp only[Aa] at Q Z;refine⟨.bool (decide (op= .neq) !=D.beql a b),?_,by simp only[Aa,rd]⟩;have he:=MD (P:=P) (w:=S.w) 5 10000 (by omega) T kt hkt _ _ _ _ af ag Q Z;simp only[rd] at Q Z;obtain⟨xs,ab,_⟩:=Q;obtain⟨ys,ad,_⟩:=Z;rw[ab,ad] at he;simp only[execOp,ho,ab,ad,Sem.run_bind,run_eqGuard_agg S.w op T x y xs ys hg,Result.andThen_ok];rcases aa with rfl|rfl
 .simp[run_eql_struct,he,D.beq]
 .simp[run_neq_struct,he,D.beq]
def Qqm{T k e:TypeId}{kt:KT}(hu:P.underlying T=some (.map k e))(ab:BW P k=some kt){kd:D}{kv:Value}(Q:kt.fit kd=true)
 {Z:Nat->Prop}{hp:Nat->Option Obj}(hr:rd Z hp kd kv){w:World}{b:Nat}{O:Array MapEntry}{clock:Nat}(hb:w.heap[b]? =some (.map O clock)){es:List (D×D)}(ad: ∀e∈es,kt.fit e.1=true)
 (ac:CD Z hp es O.toList)(ok:Bool):
 (∃y v,lk es kd=some y/\rd Z hp y v/\(Instr.lookup T (.map (some b)) kv ok).run P w= .ok (if ok then .tuple #[v,.bool true] else v) w)\/
 (lk es kd=none/\ ∀z,(zeroValue e).run P w= .ok z w->(Instr.lookup T (.map (some b)) kv ok).run P w= .ok (if ok then .tuple #[z,.bool false] else z) w):=by
 obtain⟨r,h1,h2⟩:=yJ (w:=w) ab Q hr es O.toList ad ac;have aa:=yU (P:=P) (w:=w) (em:=O.isEmpty) 5 10000 (by omega) k kt ab kd kv Q hr;cases r with
 |none=>
  refine .inr ⟨h2.1,λz hz=> ?_⟩;simp[Instr.lookup,run_underlying hu,Q4 (w:=w) hb,aa,h1,hz]
 |some r=>
  obtain⟨j,v⟩:=r;obtain⟨p,k',y,_,_,_,h4,h5,_⟩:=h2;refine .inl ⟨y,v,h4,h5,?_⟩;simp[Instr.lookup,run_underlying hu,Q4 (w:=w) hb,aa,h1]
def Qabs{T k e:TypeId}{kt:KT}(hu:P.underlying T=some (.map k e))(Q:BW P k=some kt){kd:D}{kv:Value}(O:kt.fit kd=true)
 {aa:Nat->Prop}{hp:Nat->Option Obj}(hr:rd aa hp kd kv){w:World}(ok:Bool){z:Value}(hz:(zeroValue e).run P w= .ok z w):
 (Instr.lookup T (.map none) kv ok).run P w= .ok (if ok then .tuple #[z,.bool false] else z) w:=by
 obtain⟨r,h1,h2⟩:=yJ (w:=w) Q O hr [] [] (by simp) (by simp only[CD]);have Z:=yU (P:=P) (w:=w) (em:=true) 5 10000 (by omega) k kt Q kd kv O hr;cases r with
 |none=>simp[Instr.lookup,run_underlying hu,Z,h1,hz]
 |some r=>
  obtain⟨j,v⟩:=r;obtain⟨p,k',y,_,h3,_⟩:=h2;simp at h3
def Qx8{S:A7}{d:D}{v:Value}(ok b:Bool)(h:rd S.ok S.hp d v):Aa S (bif ok then .tup [.im d,.im (.bool b)] else .im d) (if ok then .tuple #[v,.bool b] else v):=by
 cases ok with
 |false=>simpa only[Bk,Df,CO,Aa] using h
 |true=>
  simp only[Cg,BD,Aa];exact⟨_,rfl,by simp[AO,Aa,rd,h]⟩
def Qabg{T:TypeId}{m k:Operand}{ok:Bool}(ho:o.op= .lookup T m k ok)(Q:Bn (Qnn P h (Ay tm m) (Ay tm k) ok K) (tI P T)):BY P tm h nx o K:=by
 cases hT:tI P T with
 |none=>rw[hT] at Q;exact Q.elim
 |some ti=>
 rw[hT] at Q;simp only[Bn,Qnn] at Q;cases hf:ti.kind<;>rw[hf] at Q<;>try exact Q.elim
 rename_i kT e;have hu:=mH hT hf;cases hkv:Ay tm k<;>rw[hkv] at Q<;>try exact Q.elim
 rename_i kd;simp only[luK] at Q;cases hE:tI P e with
 |none=>rw[hE] at Q;exact Q.elim
 |some te=>
 rw[hE] at Q;simp only[Bn,luE] at Q;cases ag:BW P kT with
 |none=>rw[ag] at Q;exact Q.elim
 |some kt=>
 rw[ag] at Q;simp only[Y3] at Q;obtain⟨af,Q⟩:=Q;have am: ∀(S:A7) (a:Act),(∀x∈o.op.operands,Aa S (Ay tm x) (a.eval x))->rd S.ok S.hp kd (a.eval k):=by
  intro S a O
  have:=O k (by rw[ho];simp[Op.operands])
  rw[hkv] at this;simpa only[Aa] using this
 have ai: ∀{u:List Nat} {es:List (D×D)},(∀e∈es,kt.fit e.1=true)->
  (∀(C:Bb) (S:A7) (a:Act),Wf C S->(∀n∈u,S.h n=h n)->(∀x∈o.op.operands,Aa S (Ay tm x) (a.eval x))-> ∃b aa Z,a.eval m= .map (some b)/\S.hp b=some (.map aa Z)/\CD S.ok S.hp es aa.toList)->
  IU es kd (Qy3 ok {use:=u} K) (J3 te ok {use:=u} K)->BY P tm h nx o K:=by
  intro u es ac hm Q;obtain⟨av,aw⟩:=Q;cases hl:lk es kd with
  |some y=>
   refine⟨_,_,BE.pure (u:=u) ?_,av y hl⟩;intro C S a hW ab O;obtain⟨b,aa,Z,hv,hb,ak⟩:=hm C S a hW ab O;rcases Qqm hu ag af (am S a O) hb ac ak ok with ⟨y',v,h1,h2,h3⟩|⟨h1,_⟩
   .rw[hl] at h1;obtain rfl:=AJ h1;refine⟨_,?_,Qx8 ok true h2⟩;simp only[execOp,ho,hv];simp[h3]
   .rw[hl] at h1;cases h1
  |none=>
   obtain⟨aq,ax,au,Q⟩:=aw hl;obtain⟨z,an,_,_,ao⟩:=Qrg hE aq au;refine⟨_,_,BE.pure (u:=u) ?_,Q⟩;intro C S a hW ab O;obtain⟨b,aa,Z,hv,hb,ak⟩:=hm C S a hW ab O;rcases Qqm hu ag af (am S a O) hb ac ak ok with ⟨y',v,h1,h2,h3⟩|⟨h1,h2⟩
   .rw[hl] at h1;cases h1
   .refine⟨_,?_,Qx8 ok false (ao S.ok S.hp)⟩;simp only[execOp,ho,hv];simp[h2 z (an _)]
 cases hm:Ay tm m<;>rw[hm] at Q<;>try exact Q.elim
 case im d=>
  cases d<;>try exact Q.elim
  case nilm=>
   simp only[gJ] at Q;obtain⟨aq,ax,au,Q⟩:=Q;obtain⟨z,an,_,_,ao⟩:=Qrg hE aq au;refine⟨_,_,BE.pure (u:=[]) ?_,Q⟩;intro C S a hW ab O;have h1:=O m (by rw[ho];simp[Op.operands]);rw[hm] at h1;simp only[Aa,rd] at h1;refine⟨_,?_,Qx8 ok false (ao S.ok S.hp)⟩;simp only[execOp,ho,h1];simp[Qabs hu ag af (am S a O) ok (an S.w)]
  case mp ah es=>
   simp only[gJ] at Q;obtain⟨rfl,Q⟩:=Q;by_cases ac: ∀e∈es,ah.fit e.1=true
   .refine ai (u:=[]) ac ?_ Q;intro C S a hW _ O;have h1:=O m (by rw[ho];simp[Op.operands]);rw[hm] at h1;simp only[Aa,rd] at h1;obtain⟨b,aa,Z,h2,_,_,h3,h4,_⟩:=h1;exact⟨b,aa,Z,h2,h3,h4⟩
   .cases hl:lk es kd with
    |some y=>
     refine⟨_,_,BE.pure (u:=[]) ?_,Q.1 y hl⟩;intro C S a hW _ O;have h1:=O m (by rw[ho];simp[Op.operands]);rw[hm] at h1;simp only[Aa,rd] at h1;obtain⟨_,_,_,_,h2,_⟩:=h1;exact absurd h2 ac
    |none=>
     obtain⟨_,_,_,Q⟩:=Q.2 hl;refine⟨_,_,BE.pure (u:=[]) ?_,Q⟩;intro C S a hW _ O;have h1:=O m (by rw[ho];simp[Op.operands]);rw[hm] at h1;simp only[Aa,rd] at h1;obtain⟨_,_,_,_,h2,_⟩:=h1;exact absurd h2 ac
 case mp n=>
  simp only[gJ] at Q;cases hn:h n with
  |none=>rw[hn] at Q;exact Q.elim
  |some aj=>
  rw[hn] at Q;obtain⟨mu,aj⟩:=aj;cases aj<;>try exact Q.elim
  rename_i ah es;simp only[T6] at Q;obtain⟨rfl,Q⟩:=Q;have ad: ∀(C:Bb) (S:A7),Wf C S->(∀n'∈[n],S.h n'=h n')->S.h n=some (mu,.map ah es)/\Ao S (S.ρ n) (.map ah es):=λC S hW ab=>by
   have hS:=(ab n (by simp)).trans hn;exact⟨hS,hW.obj _ _ hS⟩
  by_cases ac: ∀e∈es,ah.fit e.1=true
  .refine ai (u:=[n]) ac ?_ Q;intro C S a hW ab O;have h1:=O m (by rw[ho];simp[Op.operands]);rw[hm] at h1;obtain⟨hS,ad⟩:=ad C S hW ab;simp only[Aa] at h1;obtain⟨l,hl,hv⟩:=h1.2 _ hS;simp only[Ao] at ad;obtain⟨lc,aa,Z,h2,_,h3,h4,_⟩:=ad;rw[hl] at h2;obtain rfl:=AJ h2;exact⟨l.b,aa,Z,hv,h3,h4⟩
  .cases hl:lk es kd with
   |some y=>
    refine⟨_,_,BE.pure (u:=[n]) ?_,Q.1 y hl⟩;intro C S a hW ab _
    have:=(ad C S hW ab).2
    simp only[Ao] at this;obtain⟨_,_,_,_,h2,_⟩:=this;exact absurd h2 ac
   |none=>
    obtain⟨_,_,_,Q⟩:=Q.2 hl;refine⟨_,_,BE.pure (u:=[n]) ?_,Q⟩;intro C S a hW ab _
    have:=(ad C S hW ab).2
    simp only[Ao] at this;obtain⟨_,_,_,_,h2,_⟩:=this;exact absurd h2 ac
end
def Ni{ok:Nat->Prop}{hp:Nat->Option Obj}{kd y:D}{kv v:Value}(Z:rd ok hp kd kv)(hy:rd ok hp y v):
 ∀(p:Nat) (ds:List (D×D)) (es:List MapEntry),CD ok hp ds es->CD ok hp (ds.set p (kd,y)) (es.modify p λe=>{e with key:=kv,val:=v})
 |_,[],es,h=>by
  simp only[CD] at h;subst h;simp[CD]
 |0,(a,b)::ds,es,h=>by
  simp only[CD] at h;obtain⟨e,r,rfl,O,Q,z⟩:=h;simp only[gO,List.modify_zero_cons,CD];exact⟨_,r,rfl,Z,hy,z⟩
 |p+1,(a,b)::ds,es,h=>by
  simp only[CD] at h;obtain⟨e,r,rfl,O,Q,z⟩:=h;simp only[mU,List.modify_succ_cons,CD];exact⟨e,_,rfl,O,Q,Ni Z hy p ds r z⟩
def oO{ok:Nat->Prop}{hp:Nat->Option Obj}{kd y:D}{e:MapEntry}(z:rd ok hp kd e.key)(O:rd ok hp y e.val):
 ∀(ds:List (D×D)) (es:List MapEntry),CD ok hp ds es->CD ok hp (ds++[(kd,y)]) (es++[e])
 |[],es,h=>by
  simp only[CD] at h;subst h;simp only[Dg,CD];exact⟨e,[],rfl,z,O,rfl⟩
 |(a,b)::ds,es,h=>by
  simp only[CD] at h;obtain⟨e',r,rfl,Q,Z,h3⟩:=h;simp only[BO,CD];exact⟨e',_,rfl,Q,Z,oO z O ds r h3⟩
def Qpa{ok:Nat->Prop}{hp:Nat->Option Obj}:
 ∀(p:Nat) (ds:List (D×D)) (es:List MapEntry),CD ok hp ds es->CD ok hp (ds.eraseIdx p) (es.eraseIdx p)
 |_,[],es,h=>by
  simp only[CD] at h;subst h;simp[CD]
 |0,(a,b)::ds,es,h=>by
  simp only[CD] at h;obtain⟨e,r,rfl,O,Q,z⟩:=h;simpa only[ZeI] using z
 |p+1,(a,b)::ds,es,h=>by
  simp only[CD] at h;obtain⟨e,r,rfl,O,Q,z⟩:=h;simp only[ZeH,CD];exact⟨e,_,rfl,O,Q,Qpa p ds r z⟩
def Qpy(p:Nat)(z v:Value): ∀(es:List MapEntry),(es.modify p λe=>{e with key:=z,val:=v}).map (·.born)=es.map (·.born):=by
 induction p with
 |zero=>intro es;cases es<;>simp
 |succ p ih=>intro es;cases es with
  |nil=>simp
  |cons e es=>simp[ih]
def aP(a b:ByteArray):(a==b)=decide (a=b):=by rw[beq_toListBytes,Qry]
def Qoy{ok ok':Nat->Prop}{hp hp':Nat->Option Obj}: ∀(ks:List KK) (a b:List D) (x y:List Value),BB ks a=true->BB ks b=true->rdl ok hp a x->rdl ok' hp' b y->D.beql a b=true->x=y
 |[],[],[],x,y,_,_,z,O,_=>by simp only[rdl] at z O;rw[z,O]
 |[],_::_,_,_,_,h,_,_,_,_=>by simp[BB] at h
 |[],[],_::_,_,_,_,h,_,_,_=>by simp[BB] at h
 |_::_,[],_,_,_,h,_,_,_,_=>by simp[BB] at h
 |_::_,_::_,[],_,_,_,h,_,_,_=>by simp[BB] at h
 |k::ks,d::a,d'::b,x,y,hf,hg,z,O,hb=>by
  simp only[BB,AY] at hf hg;simp only[rdl] at z O;simp only[D.beql,AY] at hb;obtain⟨v,r,rfl,h3,h4⟩:=z;obtain⟨v',r',rfl,h5,h6⟩:=O;rw[Qoy ks a b r r' hf.2 hg.2 h4 h6 hb.2];congr 1;rcases fV hf.1 h3 with ⟨j,n,Z,rfl,rfl⟩|⟨n,Z,rfl,rfl⟩|⟨n,Z,rfl,rfl⟩<;>
   rcases fV hg.1 h5 with ⟨j2,n2,Q,rfl,rfl⟩|⟨n2,Q,rfl,rfl⟩|⟨n2,Q,rfl,rfl⟩<;>rw[Z] at Q<;>cases Q<;>simp_all [D.beq,aP]
def LZ{ok:Nat->Prop}{hp:Nat->Option Obj}{n:Nat}{k:KK}{d:D}{v:Value}(hf:k.fit d=true)(h:rd ok hp d v):Instr.sameBits n v v=true:=by
 rcases fV hf h with ⟨j,m,z,rfl,rfl⟩|⟨m,z,rfl,rfl⟩|⟨m,z,rfl,rfl⟩<;>simp[Instr.sameBits,aP]
def Sa{ok:Nat->Prop}{hp:Nat->Option Obj}{n:Nat}: ∀(ks:List KK) (a:List D) (x:List Value),BB ks a=true->rdl ok hp a x->(x.zip x).all (λ(x,y)=>Instr.sameBits n x y)=true
 |[],[],x,_,h=>by simp only[rdl] at h;subst h;rfl
 |[],_::_,_,h,_=>by simp[BB] at h
 |_::_,[],_,h,_=>by simp[BB] at h
 |k::ks,d::a,x,hf,h=>by
  simp only[BB,AY] at hf;simp only[rdl] at h;obtain⟨v,r,rfl,z,O⟩:=h;simp only[List.zip_cons_cons,EZ,AY];exact⟨LZ hf.1 z,Sa ks a r hf.2 O⟩
def Pt{P:Program}{w:World}{ok ok':Nat->Prop}{hp hp':Nat->Option Obj}{kt:KT}{a b:D}{x y:Value}(z:kt.fit a=true)(Z:kt.fit b=true)(O:rd ok hp a x)(Q:rd ok' hp' b y)(hb:D.beq a b=true):
 (Instr.keyThatStays y x).run P w= .ok x w:=by
 have aa:x=y/\Instr.sameBits 10000 x x=true:=by
  cases ha:kt.agg with
  |true=>
   cases a<;>simp only[KT.fit,ha,Df] at z;cases b<;>simp only[KT.fit,ha,Df] at Z;simp only[rd] at O Q;obtain⟨u,rfl,O⟩:=O;obtain⟨v,rfl,Q⟩:=Q;simp only[D.beq] at hb
   have:=Qoy _ _ _ _ _ z Z O Q hb
   refine⟨by rw[bC] at this;rw[this],?_⟩;show (u.size==u.size && (u.toList.zip u.toList).all λ(x,y)=>Instr.sameBits 9999 x y)=true;rw[Sa _ _ _ z O];simp
  |false=>
   simp only[KT.fit,ha] at z Z;have hx:rdl ok hp [a] [x]:=by simp only[rdl];exact⟨x,[],rfl,O,rfl⟩
   have hy:rdl ok' hp' [b] [y]:=by simp only[rdl];exact⟨y,[],rfl,Q,rfl⟩
   have:=Qoy _ _ _ _ _ z Z hx hy (by simp[D.beql,hb])
   refine⟨by simpa using this,?_⟩;cases hks:kt.ks with
   |nil=>rw[hks] at z;simp[BB] at z
   |cons k r=>
    rw[hks] at z;simp only[BB,AY] at z;exact LZ z.1 O
 obtain⟨rfl,h5⟩:=aa;simp[Instr.keyThatStays,h5]
def Mq{Q:KT}{kd y:D}(O:Q.fit kd=true): ∀(ds:List (D×D)),(∀e∈ds,Q.fit e.1=true)-> ∀e∈EF ds kd y,Q.fit e.1=true
 |[],_=>by simp[EF,O]
 |(a,b)::ds,h=>by
  have ih:=Mq (y:=y) O ds (λe z=>h e (by simp[z]));simp only[EF];cases D.beq kd a with
  |true=>
   simp only[Cg,Br];rintro e (rfl|z)
   .exact O
   .exact h e (by simp[z])
  |false=>
   simp only[Bk,Br];rintro e (rfl|z)
   .exact h _ (by simp)
   .exact ih e z
def Mp{O:KT}{kd:D}: ∀(ds:List (D×D)),(∀e∈ds,O.fit e.1=true)-> ∀e∈Mm ds kd,O.fit e.1=true
 |[],_=>by simp[Mm]
 |(a,b)::ds,h=>by
  have ih:=Mp (kd:=kd) ds (λe z=>h e (by simp[z]));simp only[Mm];cases D.beq kd a with
  |true=>
   simp only[Cg];intro e z;exact h e (by simp[z])
  |false=>
   simp only[Bk,Br];rintro e (rfl|z)
   .exact h _ (by simp)
   .exact ih e z
section
variable {P:Program}{tm:List (Nat×AV)}{h:Nat->Option Am}{nx:Nat}{o:Oper}{K:Ah}
def T9{n:Nat}{Z:KT}{es es':List (D×D)}(hn:h n=some (true,.map Z es))(ac:(∀e∈es,Z.fit e.1=true)-> ∀e∈es',Z.fit e.1=true)
 (ai: ∀(S:A7) (a:Act) (b:Nat) (Q:Array MapEntry) (clock:Nat),(∀x∈o.op.operands,Aa S (Ay tm x) (a.eval x))->(∀v,Aa S (.mp n) v->v= .map (some b))->
  (∀e∈es,Z.fit e.1=true)->S.w.heap[b]? =some (.map Q clock)->CD S.ok S.hp es Q.toList->(Q.toList.map (·.born)).Nodup->(∀e∈Q.toList,e.born<clock)->
  ∃z O w',((execOp a.eval o).run P S.w= .ok .skip w'\/ ∃v,(execOp a.eval o).run P S.w= .ok (.value v) w')/\w'.heap=S.w.heap.setIfInBounds b (.map z O)/\w'.os=S.w.os/\w'.tape=S.w.tape/\(w'.output=S.w.output/\S.w.drawn<=w'.drawn)/\
   CD S.ok S.hp es' z.toList/\(z.toList.map (·.born)).Nodup/\(∀e∈z.toList,e.born<O))
 (hk:K .any {use:=[n],kill:=[n],new:=[(n,(true,.map Z es'))]}):BY P tm h nx o K:=by
 refine⟨_,_,BE.one (u:=[n]) (ks:=[n]) (m:=n) (cnt:=0) (.inr ⟨rfl,by simp,by rw[hn];simp⟩) ?_,hk⟩;intro C S a hW hu _ _ ah;have hS:S.h n=some (true,.map Z es):=(hu n (by simp)).trans hn;have ag:=hW.obj _ _ hS;simp only[Ao] at ag;obtain⟨l,Q,clock,hl,ad,hb,aj,ak,hcl⟩:=ag;obtain⟨z,O,w',h1,h2,h3,h4,h5,h6,h7,h8⟩:=ai S a l.b Q clock ah (by
  intro v hv;simp only[Aa] at hv;obtain⟨l',af,am⟩:=hv.2 _ hS;rw[hl] at af;obtain rfl:=AJ af;exact am) ad hb aj ak hcl
 have ab:KF S n (.map Z es') (some l) [n] w':=fP hW hS hl h2 h3 h4 h5.1 rfl rfl h5.2;have aa:BP (λn'=>S.h n≠none\/n'≠n) S (S.one n (.map Z es') (some l) [n] w')->Ao (S.one n (.map Z es') (some l) [n] w') (some l) (.map Z es'):=by
  intro hp;simp only[Ao];exact⟨l,z,O,rfl,ac ad,fZ (hW.loc n _ l hS hl).1 h2,LD hp.ok _ _ h6,h7,h8⟩
 rcases h1 with h1|⟨v,h1⟩
 .exact⟨undef,w',some l,.inr ⟨h1,rfl⟩,ab,λhp=>⟨aa hp,by simp only[Aa]⟩⟩
 .exact⟨v,w',some l,.inl h1,ab,λhp=>⟨aa hp,by simp only[Aa]⟩⟩
def Qjd{T:TypeId}{m k v:Operand}{ti:TI}{n:Nat}{kd vd:D}(Q:o.op= .mapUpdate T m k v\/o.op= .insert T m k v)(hT:tI P T=some ti)(hm:Ay tm m= .mp n)(am:Ay tm k= .im kd)(aq:Ay tm v= .im vd)(hk:Lo P h n kd vd K ti.kind):BY P tm h nx o K:=by
 cases hf:ti.kind<;>rw[hf] at hk<;>try exact hk.elim
 rename_i kT e;have hu:=mH hT hf;simp only[Lo] at hk;cases hkt:BW P kT with
 |none=>rw[hkt] at hk;exact hk.elim
 |some kt=>
 rw[hkt] at hk;simp only[TH] at hk;cases hn:h n with
 |none=>rw[hn] at hk;exact hk.elim
 |some af=>
 rw[hn] at hk;obtain⟨mu,af⟩:=af;cases mu<;>cases af<;>try exact hk.elim
 rename_i aw es;simp only[TJ] at hk;obtain⟨rfl,aa,hk⟩:=hk;refine T9 hn (Mq aa es) ?_ hk;intro S a b O clock ab au ah hb ad ai hcl;have h1:=au _ (by have:=ab m (by rcases Q with Q|Q<;>rw[Q]<;>simp[Op.operands]);rwa [hm] at this);have h2:=ab k (by rcases Q with Q|Q<;>rw[Q]<;>simp[Op.operands]);have h3:=ab v (by rcases Q with Q|Q<;>rw[Q]<;>simp[Op.operands]);rw[am] at h2;rw[aq] at h3;simp only[Aa] at h2 h3;obtain⟨r,h4,h5⟩:=yJ (w:=S.w) hkt aa h2 es O.toList ah ad;have ag:=yU (P:=P) (w:=S.w) (em:=false) 5 10000 (by omega) kT aw hkt kd _ aa h2;cases r with
 |none=>
  obtain⟨w',h6,h7⟩:=yX (P:=P) (w:=S.w) (b:=b) (es:=O) (es':=O.push {key:=a.eval k,val:=a.eval v,born:=clock}) (clock:=clock) (c':=clock+1) hb;refine⟨_,_,w',.inl ?_,h7.1,h7.2.1,h7.2.2.1,h7.2.2.2,?_,?_,?_⟩
  .rcases Q with Q|Q<;>simp only[execOp,Q,h1]<;>
   simp[Instr.mapUpdate,run_underlying hu,Q4 (w:=S.w) hb,ag,h4,h6]
  .rw[h5.2.1,ZdT];exact oO h2 h3 _ _ ad
  .rw[ZdT,DX,Wq];refine⟨ai,by simp,?_⟩;intro x hx y hy;simp only[Be,BF,BS] at hy;subst hy;simp only[Bl] at hx;obtain⟨e',Z,rfl⟩:=hx
   have:=hcl e' Z
   omega
  .intro e' Z;rw[ZdT,B7,BS] at Z;rcases Z with Z|rfl
   .have:=hcl e' Z;omega
   .simp
 |some r=>
  obtain⟨j,v0⟩:=r;obtain⟨p,k',y,h6,h7,h8,h9,ax,aj,ay⟩:=h5;rw[FN] at h6;subst h6;have hj: ∃e',O[j]? =some e'/\rd S.ok S.hp k' e'.key:=by
   have key: ∀(ds:List (D×D)) (es:List MapEntry) (p:Nat),CD S.ok S.hp ds es->ds[p]? =some (k',y)-> ∃e',es[p]? =some e'/\rd S.ok S.hp k' e'.key:=by
    intro ds;induction ds with
    |nil=>intro es p _ h;simp at h
    |cons d ds ih=>
     intro es p h hp;obtain⟨d1,d2⟩:=d;simp only[CD] at h;obtain⟨e',r,rfl,g1,g2,g3⟩:=h;cases p with
     |zero=>simp at hp;obtain⟨rfl,rfl⟩:=hp;exact⟨e',rfl,g1⟩
     |succ p=>simpa using ih r p g3 (by simpa using hp)
   obtain⟨e',g1,g2⟩:=key es O.toList j ad h7;exact⟨e',by simpa using g1,g2⟩
  obtain⟨e',Z,an⟩:=hj;have ao:=Pt (P:=P) (w:=S.w) aa (ah (k',y) (Bg h7)) h2 an h8;obtain⟨w',ak,ac⟩:=yX (P:=P) (w:=S.w) (b:=b) (es:=O) (es':=O.modify j λe=>{e with key:=a.eval k,val:=a.eval v}) (clock:=clock) (c':=clock) hb;refine⟨_,_,w',.inl ?_,ac.1,ac.2.1,ac.2.2.1,ac.2.2.2,?_,?_,?_⟩
  .rcases Q with Q|Q<;>simp only[execOp,Q,h1]<;>
   simp[Instr.mapUpdate,run_underlying hu,Q4 (w:=S.w) hb,ag,h4,Z,ao,ak]
  .rw[aj,Zel];exact Ni h2 h3 j _ _ ad
  .rw[Zel,Qpy];exact ai
  .intro x hx
   have:x.born∈(O.modify j λe=>{e with key:=a.eval k,val:=a.eval v}).toList.map (·.born):=Zeo hx
   rw[Zel,Qpy,Bl] at this;obtain⟨z,hz,av⟩:=this;rw[<-av];exact hcl z hz
def Qabh{T:TypeId}{m k:Operand}{c:Call}{rest:List TypeId}(ho:o.op= .call c)(Z:c.callee= .builtin .delete)(Q:c.args= #[m,k])(ao:c.argTypes.toList=T::rest)
 (O:Bn (Qni P h K (Ay tm m) (Ay tm k)) (tI P T)):BY P tm h nx o K:=by
 cases hT:tI P T with
 |none=>rw[hT] at O;exact O.elim
 |some ti=>
 rw[hT] at O;simp only[Bn,Qni] at O;cases hm:Ay tm m<;>rw[hm] at O<;>try exact O.elim
 rename_i n;cases hkd:Ay tm k<;>rw[hkd] at O<;>try exact O.elim
 rename_i kd;simp only at O;cases hf:ti.kind<;>rw[hf] at O<;>try exact O.elim
 rename_i kT e;have hu:=mH hT hf;simp only[Sy] at O;cases hkt:BW P kT with
 |none=>rw[hkt] at O;exact O.elim
 |some kt=>
 rw[hkt] at O;simp only[XR] at O;cases hn:h n with
 |none=>rw[hn] at O;exact O.elim
 |some ad=>
 rw[hn] at O;obtain⟨mu,ad⟩:=ad;cases mu<;>cases ad<;>try exact O.elim
 rename_i au es;simp only[Sz] at O;obtain⟨rfl,ab,O⟩:=O;have aj:c.argTypes[0]? =some T:=by
  have:c.argTypes.toList[0]? =some T:=by rw[ao];rfl
  simpa using this
 refine T9 hn (Mp es) ?_ O;intro S a b z clock ac aq an hb af ai hcl;have h1:=aq _ (by have:=ac m (by rw[ho];simp[Op.operands,Call.operands,Q,Z]);rwa [hm] at this);have h2:=ac k (by rw[ho];simp[Op.operands,Call.operands,Q,Z]);rw[hkd] at h2;simp only[Aa] at h2;obtain⟨r,h4,h5⟩:=yJ (w:=S.w) hkt ab h2 es z.toList an af;have ah:=yU (P:=P) (w:=S.w) (em:=z.isEmpty) 5 10000 (by omega) kT au hkt kd _ ab h2;cases r with
 |none=>
  obtain⟨w',h6,h7⟩:=yX (P:=P) (w:=S.w) (b:=b) (es:=z) (es':=z) (clock:=clock) (c':=clock) hb;refine⟨_,_,w',.inr ⟨.tuple #[],?_⟩,h7.1,h7.2.1,h7.2.2.1,h7.2.2.2,by rw[h5.2.2];exact af,ai,hcl⟩;simp only[execOp,ho,resolve,Z,Q,Sem.run_bind,Sem.run_pure,Result.andThen_ok,invoke,builtin];simp[Builtin.delete_,aj,h1,run_underlying hu,Q4 (w:=S.w) hb,ah,h4,h6]
 |some r=>
  obtain⟨j,v0⟩:=r;obtain⟨p,k',y,h6,h7,h8,h9,av,aw,ak⟩:=h5;rw[FN] at h6;subst h6;obtain⟨w',am,aa⟩:=yX (P:=P) (w:=S.w) (b:=b) (es:=z) (es':=z.eraseIdxIfInBounds j) (clock:=clock) (c':=clock) hb;have ag:(z.eraseIdxIfInBounds j).toList=z.toList.eraseIdx j:=by simp
  refine⟨_,_,w',.inr ⟨.tuple #[],?_⟩,aa.1,aa.2.1,aa.2.2.1,aa.2.2.2,?_,?_,?_⟩
  .simp only[execOp,ho,resolve,Z,Q,Sem.run_bind,Sem.run_pure,Result.andThen_ok,invoke,builtin];simp[Builtin.delete_,aj,h1,run_underlying hu,Q4 (w:=S.w) hb,ah,h4,am]
  .rw[ak,ag];exact Qpa j _ _ af
  .rw[ag];exact ai.sublist ((ZeT _ _).map _)
  .intro x hx;rw[ag] at hx;exact hcl x ((ZeT _ _).mem hx)
end
def sG{ok:Nat->Prop}{hp:Nat->Option Obj}{k:Nat}: ∀(l:Nat) (rows:List (List D)) (vs:List Value),rdr ok hp k rows vs->rdr ok hp k (rows.drop l) (vs.drop (l*k))
 |0,rows,vs,h=>by simpa using h
 |l+1,[],vs,_=>by simp only[Zfi,rdr]
 |l+1,r::z,vs,h=>by
  simp only[rdr] at h
  have:=sG l z _ h.2.2
  rw[Es] at this;simp only[LO];rwa [show (l+1)*k=k+l*k by rw[vO];omega]
def lL{ok:Nat->Prop}{hp:Nat->Option Obj}{k:Nat}: ∀(n:Nat) (rows:List (List D)) (vs:List Value),rdr ok hp k rows vs->rdr ok hp k (rows.take n) vs
 |0,rows,vs,_=>by simp only[E5,rdr]
 |n+1,[],vs,_=>by simp only[Zfj,rdr]
 |n+1,r::z,vs,h=>by
  simp only[rdr] at h;simp only[Fj,rdr];exact⟨h.1,h.2.1,lL n z _ h.2.2⟩
section
variable {P:Program}{tm:List (Nat×AV)}{h:Nat->Option Am}{nx:Nat}{o:Oper}{K:Ah}
def RW{S:A7}{a:Act}{x:Option Operand}{d:Nat}{l:Int}(z:Hv d (DK tm x)=some l)(O: ∀y,x=some y->Aa S (Ay tm y) (a.eval y)):
 (x=none/\l=d)\/ ∃y k,x=some y/\a.eval y= .int k l:=by
 cases x with
 |none=>simp only[DK,Hv,AN] at z;exact .inl ⟨rfl,z.symm⟩
 |some y=>
  right;have Q:=O y rfl;simp only[DK] at z;cases hx:Ay tm y<;>rw[hx] at z<;>simp only[Hv,reduceCtorEq] at z;rename_i d;cases d<;>simp only[reduceCtorEq,AN] at z;rename_i k n;subst z;rw[hx] at Q;simp only[Aa,rd] at Q;exact⟨y,k,rfl,Q⟩
def Qq1{S:A7}{a:Act}{lo hi:Option Operand}{l m:Int}{len cap:Nat}{isS:Bool}(ac:Hv 0 (DK tm lo)=some l)(ab:Hv len (DK tm hi)=some m)
 (h0:0<=l)(Z:l<=m)(hm:m<=(len:Int))(ad:len<=cap)(O: ∀y,lo=some y\/hi=some y->Aa S (Ay tm y) (a.eval y))(w:World):
 (Instr.sliceBounds isS len cap (lo.map a.eval) (hi.map a.eval) none).run P w= .ok (l.toNat,m.toNat,cap) w:=by
 have h1:=RW ac (λy Q=>O y (.inl Q));have h2:=RW ab (λy Q=>O y (.inr Q));have aa:m<=(cap:Int):=by omega
 unfold Instr.sliceBounds;rcases h1 with ⟨rfl,rfl⟩|⟨y,k,rfl,Q⟩<;>rcases h2 with ⟨rfl,rfl⟩|⟨z,k',rfl,hz⟩
 .simp
 .simp[Instr.sliceBound,hz,asIntOf,aa,show (0:Int)<=m by omega]
 .simp[Instr.sliceBound,Q,asIntOf,h0,Z]
 .simp only[Dh,Sem.run_bind,Sem.run_pure,Result.andThen_ok];have af:((m.toNat:Nat):Int)=m:=by omega
  simp[Instr.sliceBound,Q,hz,asIntOf,h0,Z,aa,show (0:Int)<=m by omega,show ¬(max m 0<l) by omega]
def fB{T e:TypeId}{te:TI}(hu:P.underlying T=some (.slice e))(hE:tI P e=some te){S:A7}{a:Act}{x:Operand}{lo hi:Option Operand}{l m:Int}{len cap:Nat}{base:Option Addr}
 (ho:o.op= .slice T x lo hi none)(hx:a.eval x= .slice base len cap)(aa:Hv 0 (DK tm lo)=some l)(Q:Hv len (DK tm hi)=some m)
 (h0:0<=l)(Z:l<=m)(hm:m<=(len:Int))(z:len<=cap)(O: ∀y∈o.op.operands,Aa S (Ay tm y) (a.eval y))(w:World):
 (execOp a.eval o).run P w= .ok (.value (.slice (if cap=l.toNat then base else base.map (·.add (l.toNat*te.size))) (m.toNat - l.toNat) (cap - l.toNat))) w:=by
 have hb:=Qq1 (P:=P) (isS:=true) aa Q h0 Z hm z (λy hy=>O y (by rw[ho];rcases hy with rfl|rfl<;>simp[Op.operands])) w;have ab:(underlying T).run P w= .ok (.slice e) w:=by simp[underlying,hu]
 simp only[execOp,ho,hx,Instr.sliceAt,Instr.slice,Sem.run_bind,ab,Result.andThen_ok,Option.map_none,hb,Jh hE,Sem.run_pure]
def Qh{T:TypeId}{x:Operand}{lo hi:Option Operand}(ho:o.op= .slice T x lo hi none)(z:Bn (Qsm P h nx (Ay tm x) (DK tm lo) (DK tm hi) K) (tI P T)):BY P tm h nx o K:=by
 have ag:x∈o.op.operands:=by rw[ho];simp[Op.operands]
 cases hT:tI P T with
 |none=>rw[hT] at z;exact z.elim
 |some ti=>
 rw[hT] at z;simp only[Bn,Qsm] at z;cases hf:ti.kind<;>rw[hf] at z<;>try exact z.elim
 case str=>
  have hu:=Rf hT hf;simp only[QU] at z;cases hx:Ay tm x<;>rw[hx] at z<;>try exact z.elim
  rename_i d;cases d<;>try exact z.elim
  rename_i s;simp only[kE] at z;cases Q:Hv 0 (DK tm lo) with
  |none=>rw[Q] at z;exact z.elim
  |some l=>
  cases hhi:Hv s.size (DK tm hi) with
  |none=>rw[Q,hhi] at z;exact z.elim
  |some m=>
  rw[Q,hhi] at z;simp only[JK] at z;obtain⟨h0,ac,hm,z⟩:=z;refine⟨_,_,BE.pure (u:=[]) ?_,z⟩;intro C S a hW _ O;have h1:=O x ag;rw[hx] at h1;simp only[Aa,rd] at h1;refine⟨.string (s.extract l.toNat m.toNat),?_,by simp only[Aa,rd]⟩;have hb:=Qq1 (P:=P) (isS:=false) Q hhi h0 ac hm (AU _) (λy hy=>O y (by rw[ho];rcases hy with rfl|rfl<;>simp[Op.operands])) S.w;have ai:(underlying T).run P S.w= .ok .string S.w:=by simp[underlying,hu]
  simp only[execOp,ho,h1,Instr.sliceAt,Instr.slice,Sem.run_bind,ai,Result.andThen_ok,Option.map_none,gQ,Df,CO,hb,Sem.run_pure]
 case slice e=>
 have hu:=Q5 hT hf;simp only[QU] at z;cases hE:tI P e with
 |none=>rw[hE] at z;exact z.elim
 |some te=>
 rw[hE] at z;simp only[Bn] at z;cases hx:Ay tm x<;>rw[hx] at z<;>try exact z.elim
 case im d=>
  cases d<;>try exact z.elim
  rename_i nz k rows;simp only[xQ] at z;obtain⟨af,z⟩:=z;cases Q:Hv 0 (DK tm lo) with
  |none=>rw[Q] at z;exact z.elim
  |some l=>
  cases hhi:Hv rows.length (DK tm hi) with
  |none=>rw[Q,hhi] at z;exact z.elim
  |some m=>
  rw[Q,hhi] at z;simp only[Vf] at z;obtain⟨h0,ac,hm,z⟩:=z;refine⟨_,_,BE.pure (u:=[]) ?_,z⟩;intro C S a hW _ O;have h1:=O x ag;rw[hx] at h1;simp only[Aa,rd] at h1;have Z:((rows.drop l.toNat).take (m - l).toNat).length=m.toNat - l.toNat:=by
   rw[Cu,CI];omega
  rcases h1 with ⟨au,rfl⟩|⟨b,p,cap,vs,U,fr,h1,h2,h3,h4,h5,h6,h7⟩
  .simp only[Ip] at hm hhi;obtain⟨ao,h1⟩:=tO au;refine⟨_,fB hu hE ho h1 Q hhi h0 ac hm (AU 0) O S.w,?_⟩;have e1:l.toNat=0:=by omega
   have e2:m.toNat=0:=by omega
   simp only[Aa,rd,e1,e2];refine .inl ⟨?_,by simp⟩;cases ao with
   |none=>exact .inl (by simp)
   |some ad=>exact .inr ⟨rfl,ad,by simp⟩
  .refine⟨_,fB hu hE ho h1 Q hhi h0 ac hm h3 O S.w,?_⟩;simp only[Aa,rd];right;by_cases hc:cap=l.toNat
   .refine⟨b,p,cap - l.toNat,vs,U,fr,by rw[Ai hc,Z],by simp,by rw[Z];omega,by rw[Z];exact CS (by omega) h4,h5,h6,?_⟩
    have:(rows.drop l.toNat).take (m - l).toNat=[]:=uZ (by rw[Z];omega)
    rw[this];simp only[rdr]
   .refine⟨b,p+l.toNat*te.size,cap - l.toNat,vs,U,fr,by rw[Af hc,Z];simp[Addr.add],by simp,by rw[Z];omega,by rw[Z];omega,h5,h6,?_⟩;rcases af with af|af
    .subst af
     have:=lL (m - l).toNat _ _ (sG l.toNat _ _ h7)
     rwa [Es] at this
    .subst af;simp only[Zfi,Zfj,rdr]
 case own n=>
  simp only[xQ] at z;cases hn:h n with
  |none=>rw[hn] at z;exact z.elim
  |some am=>
  rw[hn] at z;obtain⟨mu,am⟩:=am;cases am<;>try exact z.elim
  rename_i U k rows;simp only[Vg] at z;obtain⟨af,z⟩:=z;cases Q:Hv 0 (DK tm lo) with
  |none=>rw[Q] at z;exact z.elim
  |some l=>
  cases hhi:Hv rows.length (DK tm hi) with
  |none=>rw[Q,hhi] at z;exact z.elim
  |some m=>
  rw[Q,hhi] at z;simp only[JL] at z;obtain⟨h0,ac,hm,mv,z⟩:=z;have Z:((rows.drop l.toNat).take (m - l).toNat).length=m.toNat - l.toNat:=by
   rw[Cu,CI];omega
  cases mv with
  |false=>
   simp only[uG] at z;refine⟨_,_,BE.pure (u:=[n]) ?_,z⟩;intro C S a hW ai O;have h1:=O x ag;rw[hx] at h1;simp only[Aa] at h1;have hS:=(ai n (by simp)).trans hn;have h1:=h1.2 _ hS;have aa:=hW.obj _ _ hS;simp only[Ao] at aa;cases hl0:S.ρ n with
   |none=>
    rw[hl0] at h1 aa;obtain⟨_,aa⟩:=aa;subst aa;simp only[Ip] at hm hhi;refine⟨_,fB hu hE ho h1 Q hhi h0 ac hm (AU 0) O S.w,?_⟩;simp only[Aa];refine⟨rfl,λe' ab=> ?_⟩;rw[hl0];unfold Qz;have e1:l.toNat=0:=by omega
    have e2:m.toNat=0:=by omega
    have e3:(m - l).toNat=0:=by omega
    simp[e1,e2,e3]
   |some lc=>
    rw[hl0] at h1 aa;obtain⟨g0,g1,vs,g2,g3,g4⟩:=aa;simp only[Ac.len] at h1;refine⟨_,fB hu hE ho h1 Q hhi h0 ac hm g1 O S.w,?_⟩;simp only[Aa];refine⟨rfl,λe' ab=> ?_⟩;rw[hS] at ab;obtain rfl:=AJ ab;rw[hl0];unfold Qz;simp only[Ac.esz,Ac.len];by_cases hc:lc.cap=l.toNat
    .rw[Ai hc];exact⟨lc.p,lc.cap - l.toNat,by congr 1;omega,by omega,λaw=>absurd (show (m - l).toNat=0 by omega) aw,by omega⟩
    .rw[Af hc];exact⟨lc.p+l.toNat*te.size,lc.cap - l.toNat,by rw[show m.toNat - l.toNat=(m - l).toNat by omega];simp[Addr.add],by omega,λ_=>by rw[af],by omega⟩
  |true=>
   simp only[uG] at z;obtain⟨rfl,z⟩:=z;refine⟨_,_,BE.one (u:=[n]) (ks:=[n]) (.inl ⟨rfl,rfl⟩) ?_,z⟩;intro C S a hW ai av aj O;have h1:=O x ag;rw[hx] at h1;simp only[Aa] at h1;have hS:=(ai n (by simp)).trans hn;have h1:=h1.2 _ hS;have aa:=hW.obj _ _ hS;simp only[Ao] at aa;have ah:=av rfl;have ax:nx≠n:=λh'=>by subst h';rw[hS] at ah;cases ah
   cases hl0:S.ρ n with
   |none=>
    rw[hl0] at h1 aa;obtain⟨_,aa⟩:=aa;subst aa;simp only[Ip] at hm hhi;refine⟨_,S.w,none,.inl (fB hu hE ho h1 Q hhi h0 ac hm (AU 0) O S.w),Ql6 ah (λn f hf=>aj n f hf rfl),?_⟩;intro hp;have e1:l.toNat=0:=by omega
    have e2:m.toNat=0:=by omega
    refine⟨by simp[Ao],?_⟩;simp only[Aa];refine⟨rfl,λe' ab=> ?_⟩;simp[A7.one,e1,e2]
   |some lc=>
    rw[hl0] at h1 aa;obtain⟨g0,g1,vs,g2,g3,g4⟩:=aa;simp only[Ac.len] at h1;obtain⟨q1,q2⟩:=hW.loc n _ lc hS hl0;have ak: ∀(p cap:Nat),KF S nx (.arr U k ((rows.drop l.toNat).take (m - l).toNat)) (some ⟨lc.b,p,cap⟩) [n] S.w:=by
     intro p cap;refine⟨rfl,rfl,rfl,AU _,AU _,λ_ _ _=>rfl,.inr ah,?_,?_,λn f hf _=>aj n f hf rfl⟩
     .intro lo Q;obtain rfl:=AJ Q;exact⟨q1,.inr ⟨n,_,lc,by simp,hS,hl0,rfl⟩⟩
     .intro f hf;rw[ah] at hf;cases hf
    have an: ∀(e:Ac) (l:Option FS),(S.one nx e l [n] S.w).hp=S.hp:=λ_ _=>rfl
    by_cases hc:lc.cap=l.toNat
    .refine⟨_,S.w,some ⟨lc.b,lc.p,lc.cap - l.toNat⟩,.inl (fB hu hE ho h1 Q hhi h0 ac hm g1 O S.w),ak _ _,?_⟩;intro hp;have aq:(rows.drop l.toNat).take (m - l).toNat=[]:=uZ (by rw[Z];omega);constructor
     .simp only[Ao,an];rw[aq];refine⟨by simp,by simp,vs,g2,?_,by simp only[rdr]⟩
      have:lc.cap - l.toNat=0:=by omega
      rw[this];omega
     .simp only[Aa];refine⟨rfl,λe' ab=> ?_⟩;simp only[A7.one,BD,AN] at ab⊢;subst ab;simp only[Ac.len,Z];rw[Ai hc]
    .refine⟨_,S.w,some ⟨lc.b,lc.p+l.toNat*te.size,lc.cap - l.toNat⟩,.inl (fB hu hE ho h1 Q hhi h0 ac hm g1 O S.w),ak _ _,?_⟩;intro hp;constructor
     .simp only[Ao,an];rw[Z];refine⟨by omega,by omega,vs,g2,?_,?_⟩
      .subst af;have e1:l.toNat*te.size+(lc.cap - l.toNat)*te.size=lc.cap*te.size:=by rw[<-DB];congr 1;omega
       omega
      .subst af
       have:=lL (m - l).toNat _ _ (sG l.toNat _ _ g4)
       rw[Es] at this;exact this
     .simp only[Aa];refine⟨rfl,λe' ab=> ?_⟩;simp only[A7.one,BD,AN] at ab⊢;subst ab;simp only[Ac.len,Z];rw[Af hc];simp[Addr.add]
end
def Qta{ok:Nat->Prop}{hp:Nat->Option Obj}{k:Nat}: ∀(Z r2:List (List D)) (L M:List Value),rdr ok hp k Z L->L.length=Z.length*k->rdr ok hp k r2 M->rdr ok hp k (Z++r2) (L++M)
 |[],r2,L,M,_,O,Q=>by
  simp only[Ip,Kf,Wj] at O;subst O;simpa using Q
 |r::rs,r2,L,M,z,O,Q=>by
  simp only[rdr] at z;simp only[Dx,vO] at O;simp only[BO,rdr];refine⟨z.1,tP _ _ _ z.2.1,?_⟩;rw[Zdm (by omega)];exact Qta rs r2 _ _ z.2.2 (by rw[CI];omega) Q
def U6{ok:Nat->Prop}{hp:Nat->Option Obj}{k a:Nat}{rows src:List (List D)}{B L:List Value}(h:rdr ok hp k rows B)(hB:rows.length*k<=B.length)(Q:rdr ok hp k src L)(z:L.length=src.length*k)
 (ha:a+src.length<=rows.length):rdr ok hp k (rows.take a++src++rows.drop (a+src.length)) (Ch B (a*k) L):=by
 unfold Ch;have Z:a*k<=rows.length*k:=Iu _ (by omega);have O:rdr ok hp k (rows.take a) (B.take (a*k)):=by
  have:=Qrl (rows.take a) B (lL a _ _ h) (by rw[Cu];have:=Iu k (LS a rows.length);omega)
  rwa [Cu,show min a rows.length=a by omega] at this
 refine Qta _ _ _ _ (Qta _ _ _ _ O (by rw[Cu,Cu,show min a rows.length=a by omega];omega) Q) ?_ ?_
 .simp only[Ez,Cu];rw[show min a rows.length=a by omega,show min (a*k) B.length=a*k by omega,z,DB]
 .have:=sG (a+src.length) _ _ h
  rwa [DB,<-z] at this
def XS(S:A7)(o a n k:Nat)(rows:List (List D))(v:Value):Prop:=
 (v= .slice none 0 0/\rows=[]/\n=0/\S.ρ o=none)\/ ∃l p z,S.ρ o=some l/\v= .slice (some ⟨l.b,p,none⟩) n z/\(n≠0->p=l.p+a*k)/\a+n<=rows.length
section
variable {P:Program}{tm:List (Nat×AV)}{h:Nat->Option Am}{nx:Nat}{o:Oper}{K:Ah}
def MY{S:A7}{m:Nat}{f e:Ac}(Z:S.h m=some (true,f))(Q: ∀l,S.ρ m=some l->l.b<S.w.heap.size)(hz:e.esz=f.esz)(hl:e.len=f.len):KF S m e (S.ρ m) [m] S.w:=by
 refine⟨rfl,rfl,rfl,AU _,AU _,λ_ _ _=>rfl,.inl (by simp),?_,?_,?_⟩
 .intro lo O;exact⟨Q lo O,.inr ⟨m,f,lo,by simp,Z,O,rfl⟩⟩
 .intro g hg;rw[Z] at hg;obtain rfl:=AJ hg;exact⟨rfl,hz,hl⟩
 .intro n g _ z;rw[Z] at z;cases z
def NY{C:Bb}{S:A7}(hW:Wf C S){m T k a n:Nat}{rows:List (List D)}(Z:S.h m=some (true,.arr T k rows)){base:Option Addr}{dl dc:Nat}(hd:XS S m a n k rows (.slice base dl dc)){src:List (List D)}{L:List Value}
 (hm:src.length<=n)(hL:L.length=src.length*k)(hr:rdr S.ok S.hp k src L)(h1: ∀v∈L,v.oneCell'=true):
 ∃w',((match base with|some a=>storeCells a L|none=>pure ()):Sem Unit).run P S.w= .ok () w'/\KF S m (.arr T k (rows.take a++src++rows.drop (a+src.length))) (S.ρ m) [m] w'/\
  (BP (λn'=>S.h m≠none\/n'≠m) S (S.one m (.arr T k (rows.take a++src++rows.drop (a+src.length))) (S.ρ m) [m] w')->Ao (S.one m (.arr T k (rows.take a++src++rows.drop (a+src.length))) (S.ρ m) [m] w') (S.ρ m) (.arr T k (rows.take a++src++rows.drop (a+src.length)))):=by
 have z:=hW.obj _ _ Z;by_cases hs:src=[]
 .subst hs;simp only[Ip,Kf,Wj] at hL;subst hL;have e:rows.take a++([]:List (List D))++rows.drop (a+([]:List (List D)).length)=rows:=by simp
  rw[e];refine⟨S.w,by cases base<;>simp[storeCells],MY Z (λl Q=>(hW.loc m _ l Z Q).1) rfl rfl,λhp=> ?_⟩;exact HF hp (λ_ _=>rfl) _ (by simp[Ac.nms]) z
 .have af:0<src.length:=vJ.2 hs;rcases hd with ⟨_,_,rfl,_⟩|⟨l,p,cp,Q,hv,hp,ha⟩
  .omega
  .simp only[Value.slice.injEq] at hv;obtain⟨rfl,rfl,rfl⟩:=hv;have hp:=hp (by omega);subst hp;rw[Q] at z;simp only[Ao] at z;obtain⟨g0,g1,vs,g2,g3,g4⟩:=z;have ad:rows.length*k<=l.cap*k:=Iu _ g1;have ab:(a+src.length)*k<=rows.length*k:=Iu _ (by omega);rw[DB] at ab;have aa:vs.toList.length=vs.size:=Fi;obtain⟨w',r1,r2,r3,r4,r5⟩:=Qf9 (P:=P) (w:=S.w) (b:=l.b) (p:=l.p+a*k) (T:=T) L 0 vs h1 (by omega) g2;have O:(rows.take a++src++rows.drop (a+src.length)).length=rows.length:=by simp;omega
   rw[Q];refine⟨w',r1,fP hW Z Q r2 r3 r4 r5.1 rfl O r5.2,λac=> ?_⟩;simp only[Ao];rw[O];refine⟨g0,g1,_,fZ (hW.loc m _ l Z Q).1 r2,?_,?_⟩
   .simp only[bB,Ch,Ez,Cu,CI];omega
   .have h9:=U6 g4 (by rw[CI,aa];omega) hr hL (by omega:a+src.length<=rows.length)
    have:=ZV ac.ok k _ _ h9
    simp only[Gc];rw[yL _ _ _ _ (by rw[aa];omega)];exact this
def Qqv{C:Bb}{S:A7}(hW:Wf C S){X:AV}{v:Value}{m a n T k:Nat}{rows:List (List D)}(Q:Wh h X=some (m,a,n,T,k,rows))(hu:S.h m=h m)(O:Aa S X v):
 S.h m=some (true,.arr T k rows)/\XS S m a n k rows v/\X.nms=[m]:=by
 cases X<;>simp only[Wh,reduceCtorEq] at Q
 case own q=>
  cases hq:h q with
  |none=>rw[hq] at Q;cases Q
  |some e=>
   obtain⟨mu,e⟩:=e;rw[hq] at Q;cases mu<;>cases e<;>simp only[Su,reduceCtorEq,AN,E0] at Q;obtain⟨rfl,rfl,rfl,rfl,rfl,rfl⟩:=Q;have Z:=hu.trans hq;refine⟨Z,?_,rfl⟩;simp only[Aa] at O;have O:=O.2 _ Z;have z:=hW.obj _ _ Z;simp only[Ao] at z;unfold XS;cases hl:S.ρ q with
   |none=>
    rw[hl] at O z;exact .inl ⟨O,z.2,by rw[z.2];rfl,rfl⟩
   |some l=>
    rw[hl] at O;exact .inr ⟨l,l.p,l.cap,rfl,O,λ_=>by omega,by omega⟩
 case osl q wa wn=>
  cases hq:h q with
  |none=>rw[hq] at Q;cases Q
  |some e=>
   obtain⟨mu,e⟩:=e;rw[hq] at Q;cases mu<;>cases e<;>simp only[Sv,reduceCtorEq,AN,E0] at Q;obtain⟨rfl,rfl,rfl,rfl,rfl,rfl⟩:=Q;have Z:=hu.trans hq;refine⟨Z,?_,rfl⟩;simp only[Aa] at O;have O:=O.2 _ Z;have z:=hW.obj _ _ Z;simp only[Ao] at z;unfold Qz at O;unfold XS;cases hl:S.ρ q with
   |none=>
    rw[hl] at O z;exact .inl ⟨O.1,z.2,O.2,rfl⟩
   |some l=>
    rw[hl] at O;obtain⟨p,cp,h1,h2,h3,h4⟩:=O;exact .inr ⟨l,p,cp,rfl,h1,h3,h4⟩
def RN{S:A7}: ∀(ds:List D) (vs:List Value),Bm ds=true->rdl S.ok S.hp ds vs-> ∀v∈vs,v.oneCell'=true:=by
 intro ds vs h z;exact lA (S:=S) _ _ (Qsa ds h) ((IW _ _).2 z)
def Qaby{C:Bb}{S:A7}(hW:Wf C S){X:AV}{v:Value}{u:List Nat}{ks z:Nat}{src:List (List D)}(Z:gE h X=some (u,ks,src))(hu: ∀n∈u,S.h n=h n)(Q:Aa S X v)(hz:z≠0)(hk:ks=z\/src=[])(ag:Bj Bm src):
 (Builtin.lenOf v).run P S.w= .ok src.length S.w/\ ∀n,n<=src.length-> ∃L,(Builtin.firstCells z n v).run P S.w= .ok L.toArray S.w/\L.length=(src.take n).length*z/\rdr S.ok S.hp z (src.take n) L/\ ∀v∈L,v.oneCell'=true:=by
 have af: ∀(b p cp:Nat) (vs:Array Value) (T:TypeId) (fr:Nat×Nat),v= .slice (some ⟨b,p,none⟩) src.length cp->(src≠[]->S.hp b=some (.cells vs T fr)/\p+src.length*z<=vs.size/\rdr S.ok S.hp z src (vs.toList.drop p))->
  (Builtin.lenOf v).run P S.w= .ok src.length S.w/\ ∀n,n<=src.length-> ∃L,(Builtin.firstCells z n v).run P S.w= .ok L.toArray S.w/\L.length=(src.take n).length*z/\rdr S.ok S.hp z (src.take n) L/\ ∀v∈L,v.oneCell'=true:=by
  rintro b p cp vs T fr rfl h1;refine⟨by simp[Builtin.lenOf],λn hn=> ?_⟩;by_cases hs:src=[]
  .subst hs;simp only[Ip,Nat.le_zero_eq] at hn;subst hn;exact⟨[],by simp[Builtin.firstCells,loadCells,loadCellsFrom],by simp,by simp[rdr],by simp⟩
  .obtain⟨g1,g2,g3⟩:=h1 hs;have am:n*z<=src.length*z:=Iu _ hn;have ac:vs.toList.length=vs.size:=Fi;have ab:(src.take n).length=n:=by rw[Cu];omega
   have hr:=Qrl (src.take n) _ (lL n _ _ g3) (by rw[ab,CI,ac];omega);rw[ab] at hr;refine⟨(vs.toList.drop p).take (n*z),lB (w:=S.w) g1 (by omega),by rw[ab,Cu,CI,ac];omega,hr,?_⟩;have ah:=lN _ _ hr
   have:=tB _ _ (Qyt (λx Z=>ag x (Zdz Z))) ah (by rw[show (Bo (src.take n)).length=(src.take n).length by simp[Bo],ab,Cu,CI,ac];omega)
   rw[show (Bo (src.take n)).length=(src.take n).length by simp[Bo],ab,F9 (by rw[Cu];omega)] at this;exact this
 have nil:(∃ao,v= .slice ao 0 0)->src=[]->(Builtin.lenOf v).run P S.w= .ok src.length S.w/\ ∀n,n<=src.length-> ∃L,(Builtin.firstCells z n v).run P S.w= .ok L.toArray S.w/\L.length=(src.take n).length*z/\rdr S.ok S.hp z (src.take n) L/\ ∀v∈L,v.oneCell'=true:=by
  rintro⟨ao,rfl⟩ rfl;refine⟨by simp[Builtin.lenOf],λn hn=>⟨[],?_,by simp,by simp[rdr],by simp⟩⟩;have ai:n=0:=by simpa using hn
  subst ai;cases ao<;>simp[Builtin.firstCells,loadCells,loadCellsFrom]
 cases X<;>simp only[gE,reduceCtorEq] at Z
 case im d=>
  cases d<;>simp only[reduceCtorEq,AN,E0] at Z;obtain⟨rfl,rfl,rfl⟩:=Z;simp only[Aa,rd] at Q;rcases Q with ⟨h1,h2⟩|⟨b,p,cap,vs,T,fr,h1,_,h2,h3,_,h5,h6⟩
  .exact nil (tO h1) h2
  .refine af b p cap vs T fr h1 λhs=> ?_
   have aa:=hk.resolve_right hs;subst aa;have hl:=Qxq _ _ h6 hz;have ac:vs.toList.length=vs.size:=Fi;rw[CI,ac] at hl;have ak:0<_:=Nat.mul_pos (vJ.2 hs) (Nat.pos_of_ne_zero hz);exact⟨h5,by omega,h6⟩
 case own q=>
  cases hq:h q with
  |none=>rw[hq] at Z;cases Z
  |some e=>
   obtain⟨mu,e⟩:=e;rw[hq] at Z;cases e<;>simp only[iD,reduceCtorEq,AN,E0] at Z;rename_i T k rows;obtain⟨rfl,rfl,rfl⟩:=Z;have hS:=(hu q (by simp)).trans hq;simp only[Aa] at Q;have Q:=Q.2 _ hS;have O:=hW.obj _ _ hS;simp only[Ao] at O;cases hl:S.ρ q with
   |none=>rw[hl] at Q O;exact nil ⟨_,Q⟩ O.2
   |some l=>
    rw[hl] at Q O;obtain⟨g0,g1,vs,g2,g3,g4⟩:=O;refine af l.b l.p l.cap vs T (0,0) Q λhs=> ?_
    have aa:=hk.resolve_right hs;subst aa
    have:=Iu k g1
    exact⟨g2,by omega,g4⟩
 case osl q wa wn=>
  cases hq:h q with
  |none=>rw[hq] at Z;cases Z
  |some e=>
   obtain⟨mu,e⟩:=e;rw[hq] at Z;cases e<;>simp only[iE,reduceCtorEq,AN,E0] at Z;rename_i T k rows;obtain⟨rfl,rfl,rfl⟩:=Z;have hS:=(hu q (by simp)).trans hq;simp only[Aa] at Q;have Q:=Q.2 _ hS;have O:=hW.obj _ _ hS;simp only[Ao] at O;unfold Qz at Q;cases hl:S.ρ q with
   |none=>rw[hl] at Q O;exact nil ⟨_,Q.1⟩ (by rw[O.2];simp)
   |some l=>
    rw[hl] at Q O;obtain⟨g0,g1,vs,g2,g3,g4⟩:=O;obtain⟨p,cp,q1,q2,q3,q4⟩:=Q;simp only[Ac.esz,Ac.len] at q3 q4;have ad:((rows.drop wa).take wn).length=wn:=by rw[Cu,CI];omega
    refine af l.b p cp vs T (0,0) (by rw[ad];exact q1) λhs=> ?_
    have aj:wn≠0:=λh0=>hs (by rw[h0];simp)
    have aa:=hk.resolve_right hs;subst aa;have hp:=q3 aj;subst hp;have h9:=Iu k (show wa+wn<=l.cap by omega);rw[DB] at h9;refine⟨g2,by rw[ad];omega,?_⟩
    have:=lL wn _ _ (sG wa _ _ g4)
    rwa [Es] at this
def Pg(rows src:List (List D))(a m:Nat)(z:m<=src.length):fY rows a m src=rows.take a++src.take m++rows.drop (a+(src.take m).length):=by
 unfold fY;rw[Cu,show min m src.length=m by omega]
def Vl{T U:TypeId}{d s:Operand}{c:Call}(ho:o.op= .call c)(Q:c.callee= .builtin .copy)(O:c.args= #[d,s])(aq:c.argTypes= #[T,U])
 (z:Bn (Qzd P h (Ay tm d) (Ay tm s) K) (tI P T)):BY P tm h nx o K:=by
 have ag:d∈o.op.operands:=by rw[ho];simp[Op.operands,Call.operands,O,Q]
 have ab:s∈o.op.operands:=by rw[ho];simp[Op.operands,Call.operands,O,Q]
 cases hT:tI P T with
 |none=>rw[hT] at z;exact z.elim
 |some ti=>
 rw[hT] at z;simp only[Bn,Qzd] at z;cases hf:ti.kind<;>rw[hf] at z<;>try exact z.elim
 rename_i e;have hu:=Q5 hT hf;simp only[Sx] at z;cases hE:tI P e with
 |none=>rw[hE] at z;exact z.elim
 |some te=>
 rw[hE] at z;simp only[Bn] at z;cases hs:gE h (Ay tm s) with
 |none=>rw[hs] at z;exact z.elim
 |some q=>
 cases hd:Wh h (Ay tm d) with
 |none=>rw[hs,hd] at z;exact z.elim
 |some q'=>
 obtain⟨u,ks,src⟩:=q;obtain⟨m,a,n,T',k,rows⟩:=q';rw[hs,hd] at z;simp only[Sw] at z;obtain⟨an,am,hz,af,z⟩:=z;subst an;have ak:h m≠none:=by
  intro h0;cases hX:Ay tm d<;>rw[hX] at hd<;>simp only[Wh,reduceCtorEq] at hd
  .rename_i q;cases hq:h q with
   |none=>rw[hq] at hd;cases hd
   |some e=>
    obtain⟨mu,e⟩:=e;rw[hq] at hd;cases mu<;>cases e<;>simp only[Su,reduceCtorEq,AN,E0] at hd;rw[hd.1,h0] at hq;cases hq
  .rename_i q _ _;cases hq:h q with
   |none=>rw[hq] at hd;cases hd
   |some e=>
    obtain⟨mu,e⟩:=e;rw[hq] at hd;cases mu<;>cases e<;>simp only[Sv,reduceCtorEq,AN,E0] at hd;rw[hd.1,h0] at hq;cases hq
 refine⟨_,_,BE.one (u:=m::u) (ks:=[m]) (m:=m) (cnt:=0) (.inr ⟨rfl,by simp,ak⟩) ?_,z⟩;intro C S ac hW ah _ _ aa;have h1:=aa d ag;have h2:=aa s ab;obtain⟨d1,d2,_⟩:=Qqv hW hd (ah m (by simp)) h1;obtain⟨s1,s2⟩:=Qaby (P:=P) hW hs (λx hx=>ah x (by simp[hx])) h2 hz am af;have Z:min src.length n<=src.length:=Nat.min_le_left _ _;obtain⟨L,l1,l2,l3,l4⟩:=s2 _ Z;have ao:(src.take (min src.length n)).length=min src.length n:=by rw[Cu];omega
 have aj: ∃base dl dc,ac.eval d= .slice base dl dc/\dl=n:=by
  rcases d2 with ⟨e1,_,e2,_⟩|⟨l,p,cp,_,e1,_⟩
  .exact⟨none,0,0,e1,e2.symm⟩
  .exact⟨_,_,_,e1,rfl⟩
 obtain⟨base,dl,dc,hv,rfl⟩:=aj;rw[hv] at d2;obtain⟨w',w1,w2,w3⟩:=NY (P:=P) hW d1 d2 (src:=src.take (min src.length dl)) (by rw[ao];exact LS _ _) l2 l3 l4;rw[<-Pg _ _ _ _ Z] at w2 w3;have ai:(underlying T).run P S.w= .ok (.slice e) S.w:=by simp[underlying,hu]
 refine⟨.int .i64 (min src.length dl:Nat),w',S.ρ m,.inl ?_,w2,λhp=>⟨w3 hp,by simp only[Aa,rd]⟩⟩;simp only[execOp,ho,resolve,Q,O,aq,Sem.run_bind,Sem.run_pure,Result.andThen_ok,invoke,builtin];cases base with
 |none=>
  simp only[Sem.run_pure,Result.ok.injEq,OK] at w1;subst w1;simp[Builtin.copy_,hv,ai,s1,Jh hE,l1,goInt]
 |some ad=>
  simp only at w1;simp[Builtin.copy_,hv,ai,s1,Jh hE,l1,goInt,w1]
def PZ{T:TypeId}{d:Operand}{c:Call}(ho:o.op= .call c)(aa:c.callee= .builtin .clear)(Z:c.args= #[d])(aq:c.argTypes= #[T])
 (O:Bn (Qrt P h (Ay tm d) K) (tI P T)):BY P tm h nx o K:=by
 have ag:d∈o.op.operands:=by rw[ho];simp[Op.operands,Call.operands,Z,aa]
 cases hT:tI P T with
 |none=>rw[hT] at O;exact O.elim
 |some ti=>
 rw[hT] at O;simp only[Bn,Qrt] at O;cases hf:ti.kind<;>rw[hf] at O<;>try exact O.elim
 rename_i e;have hu:=Q5 hT hf;simp only[Sl] at O;cases hE:tI P e with
 |none=>rw[hE] at O;exact O.elim
 |some te=>
 rw[hE] at O;simp only[Bn] at O;cases hd:Wh h (Ay tm d) with
 |none=>rw[hd] at O;exact O.elim
 |some q'=>
 obtain⟨m,a,n,T',k,rows⟩:=q';rw[hd] at O;simp only[XN] at O;obtain⟨an,hz,aj,aw,O⟩:=O;subst an;obtain⟨z,az,a0,ai⟩:=eU hE aj hz;have am:h m≠none:=by
  intro h0;cases hX:Ay tm d<;>rw[hX] at hd<;>simp only[Wh,reduceCtorEq] at hd
  .rename_i q;cases hq:h q with
   |none=>rw[hq] at hd;cases hd
   |some e=>
    obtain⟨mu,e⟩:=e;rw[hq] at hd;cases mu<;>cases e<;>simp only[Su,reduceCtorEq,AN,E0] at hd;rw[hd.1,h0] at hq;cases hq
  .rename_i q _ _;cases hq:h q with
   |none=>rw[hq] at hd;cases hd
   |some e=>
    obtain⟨mu,e⟩:=e;rw[hq] at hd;cases mu<;>cases e<;>simp only[Sv,reduceCtorEq,AN,E0] at hd;rw[hd.1,h0] at hq;cases hq
 refine⟨_,_,BE.one (u:=[m]) (ks:=[m]) (m:=m) (cnt:=0) (.inr ⟨rfl,by simp,am⟩) ?_,O⟩;intro C S ac hW au _ _ ah;have h1:=ah d ag;obtain⟨d1,d2,_⟩:=Qqv hW hd (au m (by simp)) h1;have av:z.cells.toList≠[]:=by
  intro hh
  have:z.cells.size=0:=by rw[<-Fi,hh];rfl
  omega
 have a8:(Builtin.zeroCells z.cells n).toList=Cl n z.cells.toList:=by
  unfold Builtin.zeroCells;rw[<-Qrv _ av n,Wr,Zez,Fi];apply Gb;intro i _;exact Qxx _ _
 have ak: ∃base Q dc,ac.eval d= .slice base Q dc/\Q=n:=by
  rcases d2 with ⟨e1,_,e2,_⟩|⟨l,p,cp,_,e1,_⟩
  .exact⟨none,0,0,e1,e2.symm⟩
  .exact⟨_,_,_,e1,rfl⟩
 obtain⟨base,Q,dc,hv,rfl⟩:=ak;rw[hv] at d2;have ao: ∀(n:Nat) (x:List Value),(Cl n x).length=n*x.length:=by
  intro n x;induction n with
  |zero=>simp[Cl]
  |succ n ih=>simp[Cl,ih,vO];omega
 have ax:z.cells.toList.length=te.size:=by rw[Fi];exact a0
 have af: ∀(n:Nat) (x:List Value),(∀v∈x,v.oneCell'=true)-> ∀v∈Cl n x,v.oneCell'=true:=by
  intro n x hx;induction n with
  |zero=>simp[Cl]
  |succ n ih=>
   intro v hv;simp only[Cl,B7] at hv;rcases hv with hv|hv
   .exact hx v hv
   .exact ih v hv
 have ay: ∀v∈z.cells.toList,v.oneCell'=true:=RN (S:=S) _ _ aw (ai _ _);obtain⟨w',w1,w2,w3⟩:=NY (P:=P) hW d1 d2 (src:=List.replicate Q te.zero) (L:=Cl Q z.cells.toList) (by simp) (by rw[ao,ax,OE]) (by rw[<-aj];exact Qx7 (ai _ _) Q Q (AU _)) (af _ _ ay);have he:rows.take a++List.replicate Q te.zero++rows.drop (a+(List.replicate Q te.zero).length)=fY rows a Q (List.replicate Q te.zero):=by
  unfold fY;rw[OE,F9 (l:=List.replicate Q te.zero) (by simp)]
 rw[he] at w2 w3;have ab:(underlying T).run P S.w= .ok (.slice e) S.w:=by simp[underlying,hu]
 refine⟨.tuple #[],w',S.ρ m,.inl ?_,w2,λhp=>⟨w3 hp,by simp only[Aa]⟩⟩;simp only[execOp,ho,resolve,aa,Z,aq,Sem.run_bind,Sem.run_pure,Result.andThen_ok,invoke,builtin];cases base with
 |none=>
  simp only[Sem.run_pure,Result.ok.injEq,OK] at w1;subst w1;simp[Builtin.clear_,hv,ab]
 |some ad=>
  simp only at w1;cases Q with
  |zero=>
   simp only[Cl] at w1
   have:w'=S.w:=by
    simp[storeCells] at w1;exact w1.symm
   subst this;simp[Builtin.clear_,hv,ab]
  |succ n=>
   simp[Builtin.clear_,hv,ab,az,a8,w1]
end
section
variable {P:Program}{tm:List (Nat×AV)}{h:Nat->Option Am}{nx:Nat}{o:Oper}{K:Ah}
def Vm{op:BinOp}{T U:TypeId}{x y:Operand}(ho:o.op= .binOp op T x y U)(hy:FG y=1)(hk:Bn (Qst P h T op (Ay tm x) K) (tI P T)):KO P tm h nx o K:=by
 cases hT:tI P T with
 |none=>rw[hT] at hk;exact hk.elim
 |some ti=>
 rw[hT] at hk;simp only[Bn,Qst] at hk;cases hf:ti.kind<;>rw[hf] at hk<;>try exact hk.elim
 rename_i e;have hu:=Q5 hT hf;have ac:op= .eql\/op= .neq:=by cases op<;>first|exact .inl rfl|exact .inr rfl|exact hk.elim
 have z:Od h (decide (op= .neq)) K (Ay tm x):=by rcases ac with rfl|rfl<;>exact hk
 have ai:y= .const (.slice none 0 0):=by
  cases y with
  |const v=>
   simp only[FG] at hy;unfold Gj at hy;split at hy<;>first|rfl|cases hy
  |_=>cases hy
 intro C S a next Q hW hh ak hnm af hn
 have O:=af x (by rw[ho];simp[Op.operands]);have aj: ∃base l c E,a.eval x= .slice base l c/\(∀f:Nat->Option Am,E.appf f=f)/\E.cnt=0/\K (.im (.bool (decide (op= .neq) !=base.isNone))) E:=by
  cases hx:Ay tm x<;>rw[hx] at z O<;>simp only[Od] at z
  case im d=>
   cases d<;>try exact z.elim
   rename_i nz k rows;simp only[Aa,rd] at O;rcases O with ⟨O,h2⟩|⟨b,p,cap,vs,T,fr,O,_⟩
   .rcases O with O|⟨_,ad,O⟩
    .exact⟨none,0,0,{},O,λf=>by funext m;simp[B5.appf,hget],rfl,z true (λ_=>h2)⟩
    .exact⟨some ad,0,0,{},O,λf=>by funext m;simp[B5.appf,hget],rfl,z false (λh=>by cases h)⟩
   .exact⟨_,_,_,{},O,λf=>by funext m;simp[B5.appf,hget],rfl,z false (λh=>by cases h)⟩
  case own n=>
   cases hq:h n with
   |none=>rw[hq] at z;exact z.elim
   |some ab=>
    obtain⟨mu,ab⟩:=ab;rw[hq] at z;have hS:=(hh n).trans hq;simp only[Aa] at O;have O:=O.2 _ hS;have Z:=hW.obj _ _ hS;have aa: ∀{α:Type} (rows:List α),(S.ρ n=none->rows=[])->SF (decide (op= .neq)) K {use:=[n]} rows-> ∃base l c E,a.eval x= .slice base l c/\(∀f:Nat->Option Am,E.appf f=f)/\E.cnt=0/\K (.im (.bool (decide (op= .neq) !=base.isNone))) E:=by
     intro α rows hr hk;cases hl:S.ρ n with
     |none=>
      rw[hl] at O;exact⟨none,0,0,{use:=[n]},O,zZ [n],rfl,hk true (λ_=>hr hl)⟩
     |some l=>
      rw[hl] at O;exact⟨_,_,_,{use:=[n]},O,zZ [n],rfl,hk false (λh=>by cases h)⟩
    cases ab<;>try exact z.elim
    .rename_i T k rows;refine aa rows (λhl=> ?_) z;simp only[Ao] at Z;rw[hl] at Z;exact Z.2
    .rename_i T k rows;refine aa rows (λhl=> ?_) z;simp only[Ao] at Z;rw[hl] at Z;exact Z.2
 obtain⟨base,l,c,E,hv,hE,hc,hK⟩:=aj;have ah:a.eval y= .slice none 0 0:=by rw[ai];rfl
 have hq:(Op.equal T (.slice base l c) (.slice none 0 0)).run P S.w= .ok base.isNone S.w:=by rw[Xg];exact Ld hu _ _ _ _
 have hg:(eqGuard op T x y (.slice base l c) (.slice none 0 0)).run P S.w= .ok () S.w:=by rcases ac with rfl|rfl<;>simp[eqGuard]
 have hb:(binOp op T (.slice base l c) (.slice none 0 0)).run P S.w= .ok (.bool (decide (op= .neq) !=base.isNone)) S.w:=by
  rcases ac with rfl|rfl
  .have:binOp .eql T (.slice base l c) (.slice none 0 0)=(do pure (.bool (<-Op.equal T (.slice base l c) (.slice none 0 0)))):=rfl
   rw[this];simp[hq]
  .have:binOp .neq T (.slice base l c) (.slice none 0 0)=(do pure (.bool (!(<-Op.equal T (.slice base l c) (.slice none 0 0))))):=rfl
   rw[this];simp[hq]
 have ag:(execOp a.eval o).run P S.w= .ok (.value (.bool (decide (op= .neq) !=base.isNone))) S.w:=by
  simp only[execOp,ho,hv,ah,Sem.run_bind,hg,Result.andThen_ok,hb,Sem.run_pure]
 unfold Oper.wp;rw[ag,Oper.upon_value];exact hn _ E _ S hK hW (hE S.h).symm (BP.refl _ _) (by simp only[Aa,rd])
def Qpi{T e:TypeId}(z:Wd P T=some e): ∃d,P.underlying T=some (.chan d e):=by
 unfold Wd at z;split at z
 .rename_i d e' O;cases z;exact⟨d,O⟩
 .cases z
def Qvf{T:TypeId}{x:Operand}(ho:o.op= .makeChan T x)(z:yS P nx (Ay tm x) K T):BY P tm h nx o K:=by
 unfold yS at z;cases hc:Wd P T with
 |none=>rw[hc] at z;exact z.elim
 |some e=>
 rw[hc] at z;simp only[mcK] at z;obtain⟨dr,hu⟩:=Qpi hc;have ag: ∃n,Ay tm x= .im (.int .i64 n)/\Bn (mcE nx n K) (tI P e):=by
  revert z;generalize Ay tm x=X;intro z;cases X<;>try exact z.elim
  rename_i d;cases d<;>try exact z.elim
  rename_i k n;cases k<;>try exact z.elim
  exact⟨n,rfl,z⟩
 obtain⟨n,hx,z⟩:=ag;cases hE:tI P e with
 |none=>rw[hE] at z;exact z.elim
 |some te=>
 rw[hE] at z;simp only[Bn,mcE] at z;obtain⟨h0,hn,ai,z⟩:=z;obtain⟨i,u,hi,am,ak,ab,_⟩:=O4 hE;refine⟨_,_,BE.one (u:=[]) (ks:=[]) (.inl ⟨rfl,rfl⟩) ?_,z⟩;intro C S a hW _ aa O Q;have h1:=Q x (by rw[ho];simp[Op.operands]);rw[hx] at h1;simp only[Aa,rd] at h1;have Z:(execOp a.eval o).run P S.w= .ok (.value (.chan (some S.w.heap.size))) {S.w with heap:=S.w.heap.push (.chan n.toNat #[] false 0 0 false)}:=by
  have ad: ∀w,(typeInfo e).run P w= .ok i w:=λw=>by simp[typeInfo,hi]
  have ah:(i.bytes:Int)*n<=2^48 - 112:=by
   rw[<-ab];have h3:(te.bytes:Int)*n<=65536*n:=ZdZ (by omega) h0;omega
  have af:(underlying T).run P S.w= .ok (.chan dr e) S.w:=by simp[underlying,hu]
  have ac: ¬(n<0\/n>IntKind.i64.max\/(i.bytes:Int)*n>2^48 - 112):=by
   have:IntKind.i64.max=9223372036854775807:=by decide
   omega
  simp only[execOp,ho,h1,Instr.makeChan,Sem.run_bind,asInt,asIntOf,Sem.run_pure,Result.andThen_ok,af,ad];simp[ac];intro h9;exfalso;omega
 refine⟨_,_,some ⟨S.w.heap.size,0,0⟩,.inl Z,VX (w':={S.w with heap:=S.w.heap.push (.chan n.toNat #[] false 0 0 false)}) rfl rfl rfl rfl (aa rfl) (λn f hf=>O n f hf rfl),?_⟩;intro hp;constructor
 .simp only[Ao];exact⟨_,#[],0,0,rfl,aO rfl,by simp[rdl]⟩
 .simp only[Aa];exact⟨rfl,λe' aj=>⟨⟨S.w.heap.size,0,0⟩,by simp[A7.one],rfl⟩⟩
def Qe{T:TypeId}{x:Operand}{c:Call}{q:Nat}(ho:o.op= .call c)(ac:c.callee= .builtin .len)(Z:c.args= #[x])(ai:c.argTypes= #[T])(hx:Ay tm x= .ch q)
 (z:T5 q h K (Wd P T)):BY P tm h nx o K:=by
 cases hc:Wd P T with
 |none=>rw[hc] at z;exact z.elim
 |some e=>
 rw[hc] at z;simp only[T5] at z;obtain⟨dr,hu⟩:=Qpi hc;cases hq:h q with
 |none=>rw[hq] at z;exact z.elim
 |some Q=>
 obtain⟨mu,Q⟩:=Q;rw[hq] at z;cases Q<;>try exact z.elim
 refine aL (u:=[q]) ho ac Z ai ?_ z;intro C S v hW aj aa;rw[hx] at aa;simp only[Aa] at aa;have hS:=(aj q (by simp)).trans hq;obtain⟨l,hl,rfl⟩:=aa.2 _ hS;have ad:=hW.obj _ _ hS;simp only[Ao] at ad;obtain⟨lc,ah,ag,af,h1,h2,h3⟩:=ad;rw[hl] at h1;obtain rfl:=AJ h1;have O:=fO _ _ h3;simp only[Fi] at O;rename_i q0 ab;have hg:(getObj l.b).run P S.w= .ok (.chan ab ah false ag af false) S.w:=by simp[getObj,Sem.run,show S.w.heap[l.b]? =_ from h2]
 have ak:(underlying T).run P S.w= .ok (.chan dr e) S.w:=by simp[underlying,hu]
 simp[Builtin.len_,ak,hg,goInt,O]
def Qg{T:TypeId}{x:Operand}(hD: ∀(tk te:TypeId) (kt:KT) (es:List (D×D)),P.underlying T=some (.map tk te)->Ay tm x= .im (.mp kt es)->K (.it nx) {new:=[(nx,(true,.iter none es))],cnt:=1}->BY P tm h nx o K)(ho:o.op= .range T x)(O:Bn (Qsh h nx (Ay tm x) K) (tI P T)):BY P tm h nx o K:=by
 cases hT:tI P T with
 |none=>rw[hT] at O;exact O.elim
 |some ti=>
 rw[hT] at O;simp only[Bn,Qsh] at O;cases hf:ti.kind<;>rw[hf] at O<;>try exact O.elim
 rename_i tk te;have hu:=mH hT hf;simp only[UJ] at O;cases hx:Ay tm x<;>rw[hx] at O<;>try exact O.elim
 case im d=>
  cases d<;>try exact O.elim
  exact hD _ _ _ _ hu hx O
 rename_i q;simp only[rgM] at O;cases hq:h q with
 |none=>rw[hq] at O;exact O.elim
 |some ac=>
 obtain⟨mu,ac⟩:=ac;rw[hq] at O;cases ac<;>try exact O.elim
 rename_i kt es;simp only[UK] at O;refine⟨_,_,?_,O⟩;intro C S a next Q hW ay aw hnm aq hn
 have h1:=aq x (by rw[ho];simp[Op.operands]);rw[hx] at h1;simp only[Aa] at h1;have hS:=(ay q (by simp)).trans hq;obtain⟨l,hl,hv⟩:=h1.2 _ hS;have am:=hW.obj _ _ hS;simp only[Ao] at am;obtain⟨lc,Z,z,g1,g2,g3,g4,g5,g6⟩:=am;rw[hl] at g1;obtain rfl:=AJ g1;have af:=aw nx ⟨AU _,by show nx<nx+1;omega⟩;have a8:q≠nx:=λh'=>by subst h';rw[hS] at af;cases af
 let X:Nat->Bool:=λn=> !(n==q)
 have ai:X q=false:=by simp[X]
 have ah:Wf C (S.ice X):=VY hW;have ag:(S.ice X).h q=some (false,.map kt es):=by simp[A7.ice,hS,ai]
 have ao:(S.ice X).ok l.b:=mE hW ai ag rfl hl;have ak:(S.ice X).h nx=none:=by simp[A7.ice,af]
 let w':World:={S.w with heap:=S.w.heap.push (.mapIter (some l.b) z #[] z)}
 have hg:(getObj l.b).run P S.w= .ok (.map Z z) S.w:=Q4 (w:=S.w) g3;have az:(underlying T).run P S.w= .ok (.map tk te) S.w:=by simp[underlying,hu]
 have au:(execOp a.eval o).run P S.w= .ok (.value (.pointer (some ⟨S.w.heap.size,0,none⟩))) w':=by
  simp only[execOp,ho,hv,Instr.range,Sem.run_bind,az,Result.andThen_ok,hg,Sem.run_pure];simp[w']
 have ab:KF (S.ice X) nx (.iter none es) (some ⟨S.w.heap.size,0,0⟩) [] w':=VX (S:=S.ice X) (w':=w') rfl rfl rfl rfl ak (by
  intro n f hf ax;obtain⟨e,he,rfl⟩:=VR hf;exact hnm n e he nx ax ⟨AU _,by show nx<nx+1;omega⟩)
 have hp:=lH ah ab;have hb:=hW.oks;have a0:l.b<S.w.heap.size:=(hW.loc q _ l hS hl).1;have an:Ao ((S.ice X).one nx (.iter none es) (some ⟨S.w.heap.size,0,0⟩) [] w') (some ⟨S.w.heap.size,0,0⟩) (.iter none es):=by
  simp only[Ao];obtain⟨p1,p2⟩:=hp.ok l.b ao;refine⟨_,l.b,Z,z,#[],rfl,p1,trivial,p2.trans g3,?_,g5,g6,?_⟩
  .have:=aO (S:=S.ice X) (nx:=nx) (e:= .iter none es) (l:=some ⟨S.w.heap.size,0,0⟩) (ks:=[]) (w':=w') (ob:= .mapIter (some l.b) z #[] z) rfl
   exact this
  .have h9:Z.toList.filter (λe=> !(#[]:Array Nat).contains e.born)=Z.toList:=by
    rw[ZdF];intro e _;simp
   rw[h9];exact LD hp.ok _ _ (LD (HE S X).ok _ _ g4)
 have av:=uB ah ab an;unfold Oper.wp;rw[au,Oper.upon_value];refine hn _ _ av ?_ ?_ ?_
 .funext n;simp only[A7.one,B5.appf,hget];by_cases ad:n=nx
  .subst ad;simp
  .have e1:(nx==n)=false:=by rw[HO];exact λh=>ad h.symm
   rw[Af ad,e1];by_cases aa:n=q
   .subst aa;simp[ag]
   .have e2:(q==n)=false:=by rw[HO];exact λh=>aa h.symm
    have e3:X n=true:=by simp[X,aa]
    simp only[e2,OI,CO,Bk]
    have:([q]:List Nat).contains n=false:=by simp[aa]
    rw[this];simp only[A7.ice,e3,Et,Bk];cases S.h n<;>rfl
 .have q1:=HE S X;refine⟨λb hb=> ?_,λn hX e' aj=> ?_⟩
  .obtain⟨r1,r2⟩:=q1.ok b hb;obtain⟨r3,r4⟩:=hp.ok b r1;exact⟨r3,r4.trans r2⟩
  .obtain⟨e,r1,r2,r3,r4⟩:=hp.nm n (.inr (λh'=>hX ⟨by omega,by show n<nx+1;omega⟩)) e' aj;obtain⟨e0,s1,s2,s3,s4⟩:=q1.nm n trivial e r1;exact⟨e0,s1,r2.trans s2,r3.trans s3,r4.trans s4⟩
 .simp only[Aa];exact⟨rfl,λe' aj=>⟨⟨S.w.heap.size,0,0⟩,by simp[A7.one],rfl⟩⟩
def Qb{x:Operand}(ho:o.op= .entry x)(O:Qsz h K (Ay tm x)):BY P tm h nx o K:=by
 cases hx:Ay tm x<;>rw[hx] at O<;>try exact O.elim
 rename_i q;simp only[Qsz] at O;cases hq:h q with
 |none=>rw[hq] at O;exact O.elim
 |some Q=>
 obtain⟨mu,Q⟩:=Q;rw[hq] at O;cases mu<;>cases Q<;>try exact O.elim
 rename_i ac left;cases ac with
 |none=>exact O.elim
 |some p=>
 simp only[SC] at O;refine⟨_,_,BE.pure (u:=[q]) ?_,O⟩;intro C S a hW ah ab;have h1:=ab x (by rw[ho];simp[Op.operands]);rw[hx] at h1;simp only[Aa] at h1;have hS:=(ah q (by simp)).trans hq;obtain⟨l,hl,hv⟩:=h1.2 _ hS;have aa:=hW.obj _ _ hS;simp only[Ao] at aa;obtain⟨lc,mb,Z,z,ad,g1,g2,⟨st,e,k1,k2,k3,k4⟩,g3,g4,g5,g6,g7⟩:=aa;rw[hl] at g1;obtain rfl:=AJ g1;refine⟨.tuple #[e.key,e.val],?_,by simp only[Aa,rd];exact⟨_,rfl,by simp only[rdl];exact⟨_,_,rfl,k3,_,_,rfl,k4,rfl⟩⟩⟩;have af:(getObj l.b).run P S.w= .ok (.mapIter (some mb) z ad z) S.w:=by simp[getObj,Sem.run,show S.w.heap[l.b]? =_ from g4]
 have ag:(getObj mb).run P S.w= .ok (.map Z z) S.w:=Q4 (w:=S.w) g3;simp only[execOp,ho,hv,Instr.entry,Sem.run_bind,af,Result.andThen_ok,k1,ag];simp[k2]
def U4{ok:Nat->Prop}{hp:Nat->Option Obj}: ∀(ds:List (D×D)) (es:List MapEntry) (i:Nat) (e:MapEntry),CD ok hp ds es->es[i]? =some e-> ∃p,ds[i]? =some p/\rd ok hp p.1 e.key/\rd ok hp p.2 e.val
 |[],es,i,e,h,z=>by simp only[CD] at h;subst h;simp at z
 |(x,y)::ds,es,i,e,h,z=>by
  simp only[CD] at h;obtain⟨e',r,rfl,O,Q,Z⟩:=h;cases i with
  |zero=>
   simp only[Iq,AN] at z;subst z;exact⟨(x,y),rfl,O,Q⟩
  |succ i=>
   simp only[QH] at z⊢;exact U4 ds r i e Z z
def Qjl{z:Array Nat}{b:Nat}: ∀(l:List MapEntry) (i:Nat) (e:MapEntry),(l.map (·.born)).Nodup->(l.filter λe=> !z.contains e.born)[i]? =some e->e.born=b->
 (l.filter λe=> !(z.push b).contains e.born)=(l.filter λe=> !z.contains e.born).eraseIdx i
 |[],i,e,_,h,_=>by simp at h
 |x::r,i,e,Q,h,hb=>by
  simp only[Be,bE] at Q;have O: ∀n,(z.push b).contains n=(z.contains n||n==b):=by
   intro n;rw[mX];simp only[Array.contains_iff_mem,Array.mem_push,HN,OH]
  cases hx:z.contains x.born with
  |true=>
   have e1:(!z.contains x.born)=false:=by rw[hx];rfl
   have Z:(!(z.push b).contains x.born)=false:=by rw[O,hx];rfl
   rw[vA (p:=λ(e:MapEntry)=> !(z.push b).contains e.born) (by rw[Z];simp),vA (p:=λ(e:MapEntry)=> !z.contains e.born) (by rw[e1];simp)];rw[vA (p:=λ(e:MapEntry)=> !z.contains e.born) (by rw[e1];simp)] at h;exact Qjl r i e Q.2 h hb
  |false=>
   have e1:(!z.contains x.born)=true:=by rw[hx];rfl
   rw[ZeJ (p:=λ(e:MapEntry)=> !z.contains e.born) (by exact e1)] at h⊢;cases i with
   |zero=>
    simp only[Iq,AN] at h;subst h;have Z:(!(z.push b).contains x.born)=false:=by rw[O,hb];simp
    rw[vA (by rw[Z];simp),ZeI];apply List.filter_congr;intro y hy
    have:(y.born==b)=false:=by
     rw[HO,<-hb];intro h9;exact Q.1 (Bl.2 ⟨y,hy,h9⟩)
    rw[O,this,OJ]
   |succ i=>
    simp only[QH] at h;have aa:(x.born==b)=false:=by
     rw[HO];intro h9;have hm:e∈r.filter λe=> !z.contains e.born:=Bg h
     exact Q.1 (Bl.2 ⟨e,(mY.1 hm).1,by rw[hb,h9]⟩)
    have Z:(!(z.push b).contains x.born)=true:=by rw[O,hx,aa];rfl
    rw[ZeJ (p:=λ(e:MapEntry)=> !(z.push b).contains e.born) (by exact Z),ZeH,Qjl r i e Q.2 h hb]
def Qvh: ∀(l:List MapEntry) (e:MapEntry),(l.map (·.born)).Nodup->e∈l->l.find? (λx=>x.born==e.born)=some e
 |[],e,_,h=>by cases h
 |x::r,e,z,h=>by
  simp only[Be,bE] at z;rcases Br.1 h with rfl|h
  .simp
  .have O:(x.born==e.born)=false:=by
    rw[HO];intro Q;exact z.1 (Bl.2 ⟨e,h,Q.symm⟩)
   rw[Zem,O];exact Qvh r e z.2 h
def Vp{x:Operand}(ho:o.op= .next x false)(hk:W6 h K (Ay tm x)):KO P tm h nx o K:=by
 cases hx:Ay tm x<;>rw[hx] at hk<;>try exact hk.elim
 rename_i q;simp only[W6] at hk;cases hq:h q with
 |none=>rw[hq] at hk;exact hk.elim
 |some af=>
 obtain⟨mu,af⟩:=af;rw[hq] at hk;cases mu<;>cases af<;>try exact hk.elim
 rename_i bn left;simp only[Ub] at hk;obtain⟨bf,bg⟩:=hk;intro C S a next Q hW hh bo hnm ax hn
 have h1:=ax x (by rw[ho];simp[Op.operands]);rw[hx] at h1;simp only[Aa] at h1;have hS:=(hh q).trans hq;obtain⟨l,hl,hv⟩:=h1.2 _ hS;have au:=hW.obj _ _ hS;simp only[Ao] at au;obtain⟨lc,mb,O,z,Z,g1,g2,g0,g3,g4,g5,g6,g7⟩:=au;rw[hl] at g1;obtain rfl:=AJ g1;have bd:(getObj l.b).run P S.w= .ok (.mapIter (some mb) z Z z) S.w:=by simp[getObj,Sem.run,show S.w.heap[l.b]? =_ from g4]
 have be:(getObj mb).run P S.w= .ok (.map O z) S.w:=Q4 (w:=S.w) g3;have am:(!Z.isEmpty && !O.isEmpty && O.all λe=>decide (e.born≥z))=false:=by
  cases he:O.isEmpty with
  |true=>simp
  |false=>
   have bi:O.toList≠[]:=by
    intro h9
    have:O= #[]:=bC.1 (by simpa using h9)
    rw[this] at he;simp at he
   obtain⟨e,r,hc⟩:=Zeu bi;have hm:e∈O:=by rw[<-Array.mem_toList_iff,hc];simp
   have bp:=g6 e (by rw[hc];simp)
   have:(O.all λe=>decide (e.born≥z))=false:=by
    rw[LR];intro h9;rw[Array.all_eq_true'] at h9
    have:=h9 e hm
    simp only[CF] at this;omega
   rw[this];simp
 let F:Array MapEntry:=O.filter λe=> !Z.contains e.born
 have hF:F.toList=O.toList.filter λe=> !Z.contains e.born:=by simp[F]
 have aw:(F.filter λe=>decide (e.born<z))=F:=by
  apply Array.filter_eq_self.2;intro e he
  have:e∈O.toList:=by
   have:e∈F.toList:=by simpa using he
   rw[hF] at this;exact (mY.1 this).1
  simpa using g6 e this
 have aq:(F.filter λe=>decide (e.born≥z))= #[]:=by
  apply Array.filter_eq_empty_iff.2;intro e he
  have:e∈O.toList:=by
   have:e∈F.toList:=by simpa using he
   rw[hF] at this;exact (mY.1 this).1
  have:=g6 e this
  simp;omega
 unfold Oper.wp;have ah:(execOp a.eval o).run P S.w=((Instr.next (.pointer (some ⟨l.b,0,none⟩)) false o.type).run P S.w).andThen λv w=> .ok (.value v) w:=by
  simp only[execOp,ho,hv,Sem.run_bind,Sem.run_pure]
 obtain⟨ms,hnx⟩: ∃ms,(Instr.next (.pointer (some ⟨l.b,0,none⟩)) false o.type).run P S.w=
  ((choose (.mapNext ((if F.isEmpty then #[none] else #[])++F.map some).size)).run P S.w).andThen λi w1=>
    (match ((if F.isEmpty then #[none] else #[])++F.map some)[i]? with
     |some (some e)=>(do setObj l.b (.mapIter (some mb) z (Z.push e.born) z);pure (.tuple #[.bool true,e.key,e.val]):Sem Value)
     |some none=>pure (.tuple #[.bool false])
     |none=>stuck ms).run P w1:=by
  apply Exists.intro;have e1:(O.filter λe=> !Z.contains e.born)=F:=rfl;simp only[Instr.next,Sem.run_bind,bd,Result.andThen_ok,be,am,Df,CO,e1,aw,aq,Array.append_empty];congr 1
 rw[ah,hnx];by_cases ag:F.isEmpty=true
 .have ak:F= #[]:=by simpa using ag
  have bh:left=[]:=by
   rw[<-hF,ak] at g7;cases left with
   |nil=>rfl
   |cons p r=>
    obtain⟨x0,y0⟩:=p;simp only[CD] at g7;obtain⟨e,r',h9,_⟩:=g7;simp at h9
  rw[ak];simp only[Array.isEmpty_empty,BD,Array.map_empty,Array.append_empty,run_choose,Question.forced];simp only[bB,Dx,Ip,FN,AU,RJ,BD,Result.andThen_ok];simp only[Zdq,Iq,Sem.run_pure,Result.andThen_ok,Oper.upon_value];exact hn _ _ _ S (bf bh) hW (zZ [q] S.h).symm (BP.refl _ _) (by simp only[Aa,AO,rd];exact⟨_,rfl,_,_,rfl,rfl,rfl⟩)
 .have a9:F.isEmpty=false:=by simpa using ag
  rw[a9];simp only[Df,CO,Array.empty_append,Array.size_map];have ad:0<F.size:=by
   rcases mV F.size with h9|h9
   .exact absurd (by simpa using Array.eq_empty_of_size_eq_zero h9) ag
   .exact h9
  have bc: ∃i w1,(choose (.mapNext F.size)).run P S.w= .ok i w1/\i<F.size/\w1.heap=S.w.heap/\w1.os=S.w.os/\w1.tape=S.w.tape/\w1.output=S.w.output/\S.w.drawn<=w1.drawn:=by
   rw[run_choose];split
   .exact⟨0,S.w,rfl,ad,rfl,rfl,rfl,rfl,AU _⟩
   .exact⟨_,_,rfl,bH _ ad,rfl,rfl,rfl,rfl,nB _⟩
  obtain⟨i,w1,bb,hi,aj,bl,bm,a8⟩:=bc;rw[bb];simp only[Result.andThen_ok];have hget:(F.map some)[i]? =some (some F[i]):=by simp[hi]
  rw[hget];simp only[Sem.run_bind,Sem.run_pure];have an:w1.heap[l.b]? =some (.mapIter (some mb) z Z z):=by rw[aj];exact g4
  have a0:(setObj l.b (.mapIter (some mb) z (Z.push F[i].born) z)).run P w1= .ok () {w1 with heap:=w1.heap.setIfInBounds l.b (.mapIter (some mb) z (Z.push F[i].born) z)}:=by
   simp[setObj,Sem.run,an]
  rw[a0];simp only[Result.andThen_ok,Oper.upon_value];have ab:F.toList[i]? =some F[i]:=by simp[hi]
  rw[hF] at ab;obtain⟨p,bj,ay,az⟩:=U4 left _ i F[i] g7 ab
  let w':World:={w1 with heap:=w1.heap.setIfInBounds l.b (.mapIter (some mb) z (Z.push F[i].born) z)}
  have ac:KF S q (.iter (some p) (left.eraseIdx i)) (some l) [q] w':=fP hW hS hl (w':=w') (ob:= .mapIter (some mb) z (Z.push F[i].born) z) (by simp[w',aj]) bl bm a8.1 rfl rfl a8.2;have aa:=lH hW ac;have av:Ao (S.one q (.iter (some p) (left.eraseIdx i)) (some l) [q] w') (some l) (.iter (some p) (left.eraseIdx i)):=by
   simp only[Ao];obtain⟨p1,p2⟩:=aa.ok mb g2;have ao:F[i]∈O.toList:=(mY.1 (Bg ab)).1;refine⟨l,mb,O,z,Z.push F[i].born,rfl,p1,⟨F[i].born,F[i],by simp,?_,Hm aa.ok _ _ ay,Hm aa.ok _ _ az⟩,p2.trans g3,?_,g5,g6,?_⟩
   .have:=Qvh O.toList F[i] g5 ao
    rw[<-Array.find?_toList];exact this
   .exact fZ (hW.loc q _ l hS hl).1 (by simp[w',aj])
   .rw[Qjl O.toList i F[i] g5 ab rfl];exact LD aa.ok _ _ (Qpa i left _ g7)
  have ba:=uB hW ac av;refine hn _ _ _ _ (bg i p bj) ba ?_ ?_ ?_
  .funext n;simp only[A7.one,B5.appf,Go.Ae.hget];by_cases ai:n=q
   .subst ai;simp
   .have:(q==n)=false:=by rw[HO];exact λh=>ai h.symm
    simp[this,ai]
  .exact⟨aa.ok,λn hX=>aa.nm n (.inl (by rw[hS];simp))⟩
  .simp only[Aa,AO,rd];refine⟨_,rfl,_,_,rfl,rfl,_,_,rfl,Hm aa.ok _ _ ay,_,_,rfl,Hm aa.ok _ _ az,rfl⟩
end
section
variable {P:Program}{tm:List (Nat×AV)}{h:Nat->Option Am}{nx:Nat}{o:Oper}{K:Ah}
def Qr9{T:TypeId}{m k v:Operand}(ho:o.op= .mapUpdate T m k v\/o.op= .insert T m k v)(z:Bn (lG P h K (Ay tm m) (Ay tm k) (Ay tm v)) (tI P T)):BY P tm h nx o K:=by
 cases hT:tI P T with
 |none=>rw[hT] at z;exact z.elim
 |some ti=>
 rw[hT] at z;simp only[Bn,lG] at z;cases hm:Ay tm m<;>rw[hm] at z<;>try exact z.elim
 rename_i q;cases hkd:Ay tm k<;>rw[hkd] at z<;>try exact z.elim
 rename_i kd;cases hvd:Ay tm v<;>rw[hvd] at z<;>try exact z.elim
 .exact Qjd ho hT hm hkd hvd z
 rename_i n;simp only at z;cases hn:h n with
 |none=>rw[hn] at z;exact z.elim
 |some af=>
 obtain⟨mu,af⟩:=af;rw[hn] at z;cases af<;>try exact z.elim
 rename_i U w rows;simp only[TL] at z;obtain⟨ah,z⟩:=z;have ah:q≠n:=by simpa using ah
 cases v with
 |tmp t=>
  let d:D:= .sl false w rows
  let Z:List (Nat×AV):=(t,.im d)::tm
  let h':Nat->Option Am:=λi=>if i=n then some (false,.arr U w rows) else h i
  have ag: ∀x:Operand,(∀y,Ay tm x=y->y≠ .own n)->Ay Z x=Ay tm x:=by
   intro x hx;cases x with
   |tmp u=>
    simp only[Ay,Z,AE];by_cases hu:t=u
    .subst hu;simp only[Ay] at hvd hx;exact absurd rfl (hx _ hvd)
    .have:(t==u)=false:=by simpa using hu
     rw[this];rfl
   |_=>rfl
  have ba:Ay Z m= .mp q:=by rw[ag m (λy hy=>by rw[<-hy,hm];simp)];exact hm
  have a8:Ay Z k= .im kd:=by rw[ag k (λy hy=>by rw[<-hy,hkd];simp)];exact hkd
  have aq:Ay Z (.tmp t)= .im d:=by simp[Ay,Z,AE]
  have bb:Lo P h' q kd d (muF n (.arr U w rows) K) ti.kind:=by
   cases hf:ti.kind<;>rw[hf] at z<;>try exact z.elim
   rename_i a1 a2;simp only[Lo] at z⊢;have hq:h' q=h q:=by simp[h',ah]
   cases hkt:BW P a1 with
   |none=>rw[hkt] at z;exact z.elim
   |some kt=>
    rw[hkt] at z;simp only[TH] at z⊢;rw[hq];exact z
  obtain⟨r,E,bd,hK⟩:=Qjd (P:=P) (tm:=Z) (h:=h') (nx:=nx) (K:=muF n (.arr U w rows) K) ho hT ba a8 aq bb;obtain⟨a9,hK⟩:=hK;refine⟨r,_,?_,hK⟩;intro C S a next Q hW hu a0 hnm an bc
  let X:Nat->Bool:=λi=> !(i==n)
  have aj:X n=false:=by simp[X]
  have ay: ∀i,i≠n->X i=true:=λi hi=>by simp[X,hi]
  have aw:S.h n=some (mu,.arr U w rows):=(hu n (by simp)).trans hn;have am: ∀i,i≠n->(S.ice X).h i=S.h i:=by
   intro i hi;simp only[A7.ice,ay i hi,Et];cases S.h i<;>rfl
  have aa:(S.ice X).h n=some (false,.arr U w rows):=by simp[A7.ice,aw,aj]
  have ai:Wf C (S.ice X):=VY hW;refine bd C (S.ice X) a next Q ai ?_ ?_ ?_ ?_ ?_
  .intro i hi;by_cases O:i=n
   .subst O;simp[h',aa]
   .rw[am i O,hu i (by simp only[B7,Br] at hi⊢;rcases hi with hi|hi;exact .inl (.inr hi);exact .inr (.inr hi))];simp[h',O]
  .intro i hi
   have:=a0 i hi
   simp[A7.ice,this]
  .intro i e he x hx hf;obtain⟨e0,O,rfl⟩:=VR he;exact hnm i e0 O x hx hf
  .intro x hx;have au:x=m\/x=k\/x= .tmp t:=by rcases ho with ho|ho<;>rw[ho] at hx<;>simpa[Op.operands] using hx
   have ao:=HE S X;have ac:=an x (by rcases ho with ho|ho<;>rw[ho]<;>simpa[Op.operands] using au);by_cases av:x= .tmp t
   .subst av;rw[aq];rw[hvd] at ac;have O:=Jg ao _ _ (λ_ _=>trivial) ac;simp only[Aa] at O⊢;have h2:=O.2 _ aa;have ab:=ai.obj n _ aa;have hρ:(S.ice X).ρ n=S.ρ n:=rfl;simp only[Ao] at ab;simp only[d,rd];cases hl:S.ρ n with
    |none=>
     rw[hρ,hl] at h2 ab;exact .inl ⟨.inl h2,ab.2⟩
    |some l=>
     rw[hρ,hl] at h2 ab;obtain⟨g0,g1,vs,g2,g3,g4⟩:=ab;refine .inr ⟨l.b,l.p,l.cap,vs,U,(0,0),h2,by simp,g1,g0,mE hW aj aa rfl (by rw[hρ];exact hl),g2,g4⟩
   .rw[ag x ?_]
    .exact Jg ao _ _ (λ_ _=>trivial) ac
    .intro y hy ad;rcases au with rfl|rfl|rfl
     .rw[hm] at hy;rw[<-hy] at ad;cases ad
     .rw[hkd] at hy;rw[<-hy] at ad;cases ad
     .exact av rfl
  .intro v S' ax hh hp hc;refine bc v S' ax ?_ ?_ hc
   .rw[hh];funext i;simp only[B5.appf];have ak:hget (E.new++[(n,(false,Ac.arr U w rows))]) i=match hget E.new i with|some e=>some e|none=>if n=i then some (false,Ac.arr U w rows) else none:=by
     generalize E.new=L;induction L with
     |nil=>
      simp only[Dg,hget];by_cases O:n=i
      .subst O;simp
      .have:(n==i)=false:=by simpa using O
       simp[this,O]
     |cons p L ih=>
      obtain⟨j,e⟩:=p;simp only[BO,hget];cases hj:j==i
      .simpa using ih
      .simp
    rw[ak];cases hg:hget E.new i with
    |some e=>rfl
    |none=>
     simp only;by_cases O:n=i
     .subst O;rw[Ai rfl,a9,aa];rfl
     .have h2:i≠n:=λh=>O h.symm
      rw[Af O,am i h2];have h3:(n::E.kill).contains i=E.kill.contains i:=by simp[h2]
      rw[h3]
   .have q1:=HE S X;refine⟨λb hb=> ?_,λi hX e' az=> ?_⟩
    .obtain⟨r1,r2⟩:=q1.ok b hb;obtain⟨r3,r4⟩:=hp.ok b r1;exact⟨r3,r4.trans r2⟩
    .obtain⟨e,r1,r2,r3,r4⟩:=hp.nm i hX e' az;obtain⟨e0,s1,s2,s3,s4⟩:=q1.nm i trivial e r1;exact⟨e0,s1,r2.trans s2,r3.trans s3,r4.trans s4⟩
 |const c=>exfalso;simp only[Ay] at hvd;unfold kD at hvd;split at hvd<;>cases hvd
 |global g=>simp only[Ay] at hvd;cases hvd
 |func f=>exfalso;simp only[Ay] at hvd;cases hb:Nat.blt f 1000000000<;>rw[hb] at hvd<;>cases hvd
end
end Go.Ae
