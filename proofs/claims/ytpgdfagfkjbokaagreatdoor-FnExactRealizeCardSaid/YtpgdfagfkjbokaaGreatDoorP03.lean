/- Lemmas. Conditions: none. -/
import Derived.Test.YtpgdfagfkjbokaaGreatDoorP02
import Derived.Laws.StructEq
import Derived.WideKeyRuns
set_option linter.all false
set_option maxHeartbeats 8000000
set_option maxRecDepth 100000
namespace Go.Ae
def Qnp: ∀(a b:List KK) (l:List D),Bw (a++b) l=true->Bw a (l.take a.length)=true/\Bw b (l.drop a.length)=true/\a.length<=l.length
 |[],b,l,h=>by simpa[Bw] using h
 |k::a,b,[],h=>by simp[Bw] at h
 |k::a,b,d::l,h=>by
  simp only[CO,Bw,AN] at h;obtain⟨z,O,Q⟩:=Qnp a b l h.2;simp only[Cv,Qp,Lu,Bw,AN];exact⟨⟨h.1,z⟩,O,by omega⟩
def Qm8: ∀(a:List KK) (l:List D),Bw a l=true->l.length=a.length
 |[],[],_=>rfl
 |[],_::_,h=>by simp[Bw] at h
 |_::_,[],h=>by simp[Bw] at h
 |k::a,d::l,h=>by
  simp only[Bw,AN] at h;simp[Qm8 a l h.2]
def Qq6: ∀(n:Nat) (a b:List D),n<=a.length->n<=b.length->D.beql a b=(D.beql (a.take n) (b.take n) && D.beql (a.drop n) (b.drop n))
 |0,a,b,_,_=>by simp[D.beql]
 |n+1,[],_,h,_=>by simp at h
 |n+1,_::_,[],_,h=>by simp at h
 |n+1,x::a,y::b,z,O=>by
  simp only[Qp,Lu,D.beql,ZeK];rw[Qq6 n a b (by simpa using z) (by simpa using O)]
def fP{ok:Nat->Prop}{hp:Nat->Option Obj}{k:KK}{d:D}{v:Value}(hf:k.fit d=true)(h:rd ok hp d v):
 (∃j n,k= .int j/\d= .int j n/\v= .int j n)\/(∃s,k= .str/\d= .str s/\v= .string s)\/(∃b,k= .bool/\d= .bool b/\v= .bool b):=by
 cases k<;>cases d<;>simp only[KK.fit,CE,Qs] at hf<;>simp only[rd] at h
 .subst hf;exact .inl ⟨_,_,rfl,rfl,h⟩
 .exact .inr (.inl ⟨_,rfl,rfl,h⟩)
 .exact .inr (.inr ⟨_,rfl,rfl,h⟩)
section
variable {P:Program}
def vC: ∀{n:Nat} {t:TypeId} {Q:KT},Bp P n t=some Q->Q.agg=false-> ∃k,Q.ks=[k]/\((∃j,k= .int j/\P.underlying t=some (.int j))\/(k= .str/\P.underlying t=some .string)\/(k= .bool/\P.underlying t=some .bool)):=by
 intro n t Q h Z;cases n with
 |zero=>simp[Bp] at h
 |succ n=>
  simp only[Bp] at h;split at h
  .rename_i k z;obtain rfl:=Ay h;exact⟨_,rfl,.inl ⟨k,rfl,z⟩⟩
  .rename_i z;obtain rfl:=Ay h;exact⟨_,rfl,.inr (.inl ⟨rfl,z⟩)⟩
  .rename_i z;obtain rfl:=Ay h;exact⟨_,rfl,.inr (.inr ⟨rfl,z⟩)⟩
  .rename_i O z;cases hst:P.stoodInHeld t<;>rw[hst] at h
   .simp only[Bm,CT] at h;obtain⟨ks,_,rfl⟩:=h;cases Z
   .simp at h
  .cases h
def Qna: ∀{n:Nat} {t:TypeId} {O:KT},Bp P n t=some O->O.agg=true-> ∃m z,n=m+1/\P.underlying t=some (.struct z)/\P.stoodInHeld t=false/\aD P (Bp P m) z.toList 0=some O.ks:=by
 intro n t O h Q;cases n with
 |zero=>simp[Bp] at h
 |succ n=>
  simp only[Bp] at h;split at h
  .obtain rfl:=Ay h;cases Q
  .obtain rfl:=Ay h;cases Q
  .obtain rfl:=Ay h;cases Q
  .rename_i z hu;cases hst:P.stoodInHeld t<;>rw[hst] at h
   .simp only[Bm,CT] at h;obtain⟨ks,Z,rfl⟩:=h;exact⟨n,z,rfl,hu,rfl,Z⟩
   .simp at h
  .cases h
def Qsw{n:Nat}{f:Field}{z:KT}{i:TypeInfo}(hk:Bp P n f.type=some z)(hi:P.info? f.type=some i)(hz:i.size=z.ks.length){ok:Nat->Prop}{hp:Nat->Option Obj}{w:World}
 {ds:List D}{xs:Array Value}{off:Nat}(ab:off+z.ks.length<=ds.length)(h:rdl ok hp ds xs.toList)(hf:Bw z.ks ((ds.drop off).take z.ks.length)=true):
 ∃d v,(part f.type xs off).run P w= .ok v w/\z.fit d=true/\rd ok hp d v/\((z.agg=true/\d= .agg ((ds.drop off).take z.ks.length))\/(z.agg=false/\[d]=(ds.drop off).take z.ks.length)):=by
 have hl:z.ks.length<=(ds.drop off).length:=by rw[Ce];omega
 have h1:=Qc off ds _ (WI _ _ h) (by omega);obtain⟨h2,Q⟩:=V1 z.ks.length _ _ h1 hl;cases ha:z.agg with
 |false=>
  obtain⟨k,Z,O⟩:=vC hk ha;rw[Z] at hl Q hf⊢;simp only[nC] at hl Q hf⊢;cases hd:ds.drop off with
  |nil=>rw[hd] at hl;simp at hl
  |cons d r=>
   rw[hd] at Q hf;simp only[Qp,Xo,rdl] at Q hf;obtain⟨v,r',hv,h4,h5⟩:=Q;refine⟨d,v,?_,by simpa[KT.fit,ha,Z] using hf,h4,.inr ⟨trivial,by simp⟩⟩;have hx:xs[off]? =some v:=by
    have:(xs.toList.drop off)[0]? =some v:=by
     cases hq:xs.toList.drop off with
     |nil=>rw[hq] at hv;simp at hv
     |cons a b=>rw[hq] at hv;simp at hv;simp[hv.1]
    simpa using this
   unfold part;rcases O with ⟨j,_,O⟩|⟨_,O⟩|⟨_,O⟩<;>simp[isAgg,run_underlying O,hx]
 |true=>
  obtain⟨m,aa,_,O,_⟩:=Qna hk ha;refine⟨_,.agg (xs.extract off (off+z.ks.length)),?_,by simpa[KT.fit,ha] using hf,?_,.inl ⟨rfl,rfl⟩⟩
  .unfold part;simp[isAgg,run_underlying O,sizeOf,typeInfo,hi,hz]
  .simp only[rd];refine⟨_,rfl,?_⟩;rw[Zfn];simpa[List.extract] using Q
def Qr5(d:Nat)(xs z:Array Value)(f:Field)(O:List Field)(hn:f.name≠ "_"){w:World}{a b:Value}{r:Bool}(Q:(part f.type xs f.offset).run P w= .ok a w)
 (Z:(part f.type z f.offset).run P w= .ok b w)(h3:(Op.equalIn d f.type a b).run P w= .ok r w):
 (Op.eqFields d xs z (f::O)).run P w=if r=true then (Op.eqFields d xs z O).run P w else .ok false w:=by
 simp only[Op.eqFields,ne_eq,hn,gT,BI,Sem.run_bind,Q,Z,h3,Result.andThen_ok];cases r<;>simp
section
variable {ok:Nat->Prop}{hp:Nat->Option Obj}{w:World}
def SL{n m:Nat}(ih: ∀(t:TypeId) (Z:KT),Bp P n t=some Z-> ∀(d1 d2:D) (v1 v2:Value),Z.fit d1=true->Z.fit d2=true->rd ok hp d1 v1->rd ok hp d2 v2->(Op.equalIn m t v1 v2).run P w= .ok (D.beq d1 d2) w):
 ∀(fs:List Field) (off:Nat) (ks:List KK),aD P (Bp P n) fs off=some ks-> ∀(z O:List D) (xs ys:Array Value),off+ks.length=z.length->off+ks.length=O.length->
  Bw ks (z.drop off)=true->Bw ks (O.drop off)=true->rdl ok hp z xs.toList->rdl ok hp O ys.toList->(Op.eqFields m xs ys fs).run P w= .ok (D.beql (z.drop off) (O.drop off)) w:=by
 intro fs;induction fs with
 |nil=>
  intro off ks Q z O xs ys ab ac _ _ _ _;simp only[aD,AI] at Q;subst Q;rw[CS (by simpa using ZfA ab.symm),CS (by simpa using ZfA ac.symm)];simp[Op.eqFields,D.beql]
 |cons f fs ao=>
  intro off ks Q z O xs ys ab ac am an ah ai;simp only[aD] at Q;split at Q
  .rename_i Z i aa hi;cases hb:(f.offset==off && (f.name != "_" && i.size==Z.ks.length))<;>rw[hb] at Q
   .simp at Q
   .simp only[BX,CT] at Q;obtain⟨aq,ag,rfl⟩:=Q;simp only[AN,Qs,bne_iff_ne,ne_eq] at hb;obtain⟨rfl,ad,aj⟩:=hb;obtain⟨g1,g2,g3⟩:=Qnp _ _ _ am;obtain⟨g4,g5,g6⟩:=Qnp _ _ _ an;rw[C9] at ab ac;obtain⟨d1,v1,p1,q1,r1,s1⟩:=Qsw (w:=w) aa hi aj (by omega) ah g1;obtain⟨d2,v2,p2,q2,r2,s2⟩:=Qsw (w:=w) aa hi aj (by omega) ai g4;have he:=ih _ _ aa d1 d2 v1 v2 q1 q2 r1 r2;rw[Qr5 m xs ys f fs ad p1 p2 he];rw[DU] at g2 g5;have af:=ao _ _ ag z O xs ys (by omega) (by omega) g2 g5 ah ai;have ak:D.beq d1 d2=D.beql ((z.drop f.offset).take Z.ks.length) ((O.drop f.offset).take Z.ks.length):=by
     rcases s1 with ⟨_,rfl⟩|⟨ha,e1⟩<;>rcases s2 with ⟨hb,rfl⟩|⟨hb,e2⟩
     .simp[D.beq]
     .simp_all
     .simp_all
     .rw[<-e1,<-e2];simp[D.beql]
    rw[Qq6 Z.ks.length (z.drop f.offset) (O.drop f.offset) g3 g6,af,ak,DU,DU];cases D.beql ((z.drop f.offset).take Z.ks.length) ((O.drop f.offset).take Z.ks.length)<;>simp
  .cases Q
def Mc: ∀(n m:Nat),n<=m-> ∀(t:TypeId) (kt:KT),Bp P n t=some kt-> ∀(d1 d2:D) (v1 v2:Value),kt.fit d1=true->kt.fit d2=true->rd ok hp d1 v1->rd ok hp d2 v2->
 (Op.equalIn m t v1 v2).run P w= .ok (D.beq d1 d2) w:=by
 intro n;induction n with
 |zero=>intro m _ t kt h;simp[Bp] at h
 |succ n ih=>
  intro m hm t kt h d1 d2 v1 v2 O Q Z aa;obtain⟨m,rfl⟩: ∃m',m=m'+1:=⟨m - 1,by omega⟩;cases ha:kt.agg with
  |false=>
   obtain⟨k,hk,hu⟩:=vC h ha;simp only[KT.fit,ha,hk,Bw,Fo] at O Q;rcases fP O Z with ⟨j,a,e1,rfl,rfl⟩|⟨a,e1,rfl,rfl⟩|⟨a,e1,rfl,rfl⟩<;>
    rcases fP Q aa with ⟨j2,b,e2,rfl,rfl⟩|⟨b,e2,rfl,rfl⟩|⟨b,e2,rfl,rfl⟩<;>rw[e1] at e2<;>cases e2<;>
    rcases hu with ⟨_,e3,hu⟩|⟨e3,hu⟩|⟨e3,hu⟩<;>rw[e1] at e3<;>cases e3
   .simp[Op.equalIn,run_underlying hu,D.beq]
   .simp[Op.equalIn,run_underlying hu,D.beq]
   .simp[Op.equalIn,run_underlying hu,D.beq]
  |true=>
   obtain⟨m0,z,ah,hu,ag,af⟩:=Qna h ha;obtain rfl:n=m0:=by omega
   cases d1<;>simp only[KT.fit,ha,CE] at O;cases d2<;>simp only[KT.fit,ha,CE] at Q;rename_i ac ad;simp only[rd] at Z aa;obtain⟨xs,rfl,Z⟩:=Z;obtain⟨ys,rfl,aa⟩:=aa;have ab:P.fieldsOf t=z:=by simp[Program.fieldsOf,hu]
   rw[run_equalIn_struct w m t xs ys (by rw[ab];exact hu) ag,ab]
   have:=SL (w:=w) (λt kt h=>ih m (by omega) t kt h) z.toList 0 kt.ks af ac ad xs ys (by simp[Qm8 _ _ O]) (by simp[Qm8 _ _ Q]) (by simpa using O) (by simpa using Q) Z aa
   rw[this];simp[D.beq]
def ZO(em:Bool)(n:Nat)(cs:Array Value):List Field->Sem Unit
 |[]=>pure ()
 |f::z=>if f.name≠ "_" then do
   let a <-part f.type cs f.offset
   Instr.checkKey em n f.type a
   ZO em n cs z
  else ZO em n cs z
def Qvk(em:Bool)(n:Nat)(t:TypeId)(cs:Array Value){z:Array Field}(Q:P.underlying t=some (.struct z)):
 (Instr.checkKey em (n+1) t (.agg cs)).run P w=(ZO em n cs z.toList).run P w:=by
 simp only[Instr.checkKey,Sem.run_bind,run_underlying Q,Result.andThen_ok];rw[<-Array.forIn_toList];generalize z.toList=O;clear Q;induction O generalizing w with
 |nil=>simp[ZO]
 |cons f O ih=>
  simp only[List.forIn_cons,ZO,Sem.run_bind,Sem.run_ite];split
  .generalize (part f.type cs f.offset).run P w=r1;cases r1 with
   |ok a Z=>
    simp only[Result.andThen_ok];generalize (Instr.checkKey em n f.type a).run P Z=r2;cases r2 with
    |ok b w2=>
     simp only[Result.andThen_ok,Sem.run_pure];exact ih
    |halt x w2=>simp[Result.andThen]
   |halt x Z=>simp[Result.andThen]
  .simp only[Sem.run_pure,Result.andThen_ok];exact ih
def Qw3{n m:Nat}{em:Bool}(ih: ∀(t:TypeId) (kt:KT),Bp P n t=some kt-> ∀(d1:D) (v1:Value),kt.fit d1=true->rd ok hp d1 v1->(Instr.checkKey em m t v1).run P w= .ok () w):
 ∀(Z:List Field) (off:Nat) (ks:List KK),aD P (Bp P n) Z off=some ks-> ∀(O:List D) (xs:Array Value),off+ks.length=O.length->
  Bw ks (O.drop off)=true->rdl ok hp O xs.toList->(ZO em m xs Z).run P w= .ok () w:=by
 intro Z;induction Z with
 |nil=>intro off ks _ O xs _ _ _;simp[ZO]
 |cons f Z ah=>
  intro off ks z O xs af ad ac;simp only[aD] at z;split at z
  .rename_i kt i ab hi;cases hb:(f.offset==off && (f.name != "_" && i.size==kt.ks.length))<;>rw[hb] at z
   .simp at z
   .simp only[BX,CT] at z;obtain⟨ai,aa,rfl⟩:=z;simp only[AN,Qs,bne_iff_ne,ne_eq] at hb;obtain⟨rfl,Q,ag⟩:=hb;obtain⟨g1,g2,g3⟩:=Qnp _ _ _ ad;rw[C9] at af;obtain⟨d1,v1,p1,q1,r1,s1⟩:=Qsw (w:=w) ab hi ag (by omega) ac g1;rw[DU] at g2;simp only[ZO,ne_eq,Q,gT,BI,Sem.run_bind,p1,ih _ _ ab d1 v1 q1 r1,Result.andThen_ok];exact ah _ _ aa O xs (by omega) g2 ac
  .cases z
def Qit{em:Bool}: ∀(n m:Nat),n<=m-> ∀(t:TypeId) (Q:KT),Bp P n t=some Q-> ∀(d1:D) (v1:Value),Q.fit d1=true->rd ok hp d1 v1->
 (Instr.checkKey em m t v1).run P w= .ok () w:=by
 intro n;induction n with
 |zero=>intro m _ t Q h;simp[Bp] at h
 |succ n ih=>
  intro m hm t Q h d1 v1 Z O;obtain⟨m,rfl⟩: ∃m',m=m'+1:=⟨m - 1,by omega⟩;cases ha:Q.agg with
  |false=>
   obtain⟨k,hk,hu⟩:=vC h ha;rcases hu with ⟨_,_,hu⟩|⟨_,hu⟩|⟨_,hu⟩<;>simp[Instr.checkKey,run_underlying hu]
  |true=>
   obtain⟨m0,z,ac,hu,ad,ab⟩:=Qna h ha;obtain rfl:n=m0:=by omega
   cases d1<;>simp only[KT.fit,ha,CE] at Z;rename_i aa;simp only[rd] at O;obtain⟨xs,rfl,O⟩:=O;rw[Qvk em m t xs hu];exact Qw3 (w:=w) (λt Q h=>ih m (by omega) t Q h) z.toList 0 Q.ks ab aa xs (by simp[Qm8 _ _ Z]) (by simpa using Z) O
def V9(kd:D)(ds:List (D×D))(i:Nat)(ok:Nat->Prop)(hp:Nat->Option Obj):Option (Nat×Value)->Prop
 |none=>lk ds kd=none/\(∀y,Gy ds kd y=ds++[(kd,y)])/\Ja ds kd=ds
 |some (j,v)=> ∃p k y,j=i+p/\ds[p]? =some (k,y)/\D.beq kd k=true/\lk ds kd=some y/\rd ok hp y v/\(∀y',Gy ds kd y'=ds.set p (kd,y'))/\Ja ds kd=ds.eraseIdx p
def Qq2{kd k y:D}{ds:List (D×D)}{i:Nat}{r:Option (Nat×Value)}(z:D.beq kd k=false)(h:V9 kd ds (i+1) ok hp r):V9 kd ((k,y)::ds) i ok hp r:=by
 cases r with
 |none=>
  simp only[V9] at h⊢;exact⟨by simp[lk,z,h.1],λy=>by simp[Gy,z,h.2.1],by simp[Ja,z,h.2.2]⟩
 |some r=>
  obtain⟨j,v⟩:=r;simp only[V9] at h⊢;obtain⟨p,k',y',h1,O,Q,Z,h5,h6,h7⟩:=h;exact⟨p+1,k',y',by omega,by simpa using O,Q,by simp[lk,z,Z],h5,λy=>by simp[Gy,z,h6],by simp[Ja,z,h7]⟩
def Qz7{kd k y:D}{ds:List (D×D)}{i:Nat}{v:Value}(z:D.beq kd k=true)(O:rd ok hp y v):V9 kd ((k,y)::ds) i ok hp (some (i,v)):=
 ⟨0,k,y,rfl,rfl,z,by simp[lk,z],O,λy'=>by simp[Gy,z],by simp[Ja,z]⟩
def Qh4{t:TypeId}{O:KT}(hk:BN P t=some O){kd:D}{Z:Value}(hf:O.fit kd=true)(hr:rd ok hp kd Z):
 ∀(ds:List (D×D)) (es:List MapEntry) (i:Nat),(∀e∈ds,O.fit e.1=true)->rde ok hp ds es-> ∃r,(Instr.findAsking t Z es i).run P w= .ok r w/\V9 kd ds i ok hp r
 |[],es,i,_,h=>by
  simp only[rde] at h;subst h;exact⟨none,by simp[Instr.findAsking],by simp[V9,lk,Gy,Ja]⟩
 |(k,y)::ds,es,i,z,h=>by
  simp only[rde] at h;obtain⟨e,es,rfl,h1,h2,h3⟩:=h;have Q:(Op.equal t Z e.key).run P w= .ok (D.beq kd k) w:=Mc 5 10000 (by omega) t O hk kd k _ _ hf (z (k,y) (by simp)) hr h1;simp only[Instr.findAsking,Sem.run_bind,Q,Result.andThen_ok];cases hb:D.beq kd k with
  |true=>exact⟨_,by simp,Qz7 hb h2⟩
  |false=>
   obtain⟨r,h4,h5⟩:=Qh4 hk hf hr ds es (i+1) (λe Q=>z e (by simp[Q])) h3;exact⟨r,by simpa using h4,Qq2 hb h5⟩
def Qmm{t:TypeId}{u:TypeDesc}{kt:KT}(hk:BN P t=some kt)(ha:kt.agg=false)(hu:P.underlying t=some u){kd:D}{kv:Value}(hf:kt.fit kd=true)(hr:rd ok hp kd kv):
 ∀(ds:List (D×D)) (es:List MapEntry) (i:Nat),(∀e∈ds,kt.fit e.1=true)->rde ok hp ds es-> ∃r,Instr.findNow u kv es i=some r/\V9 kd ds i ok hp r
 |[],es,i,_,h=>by
  simp only[rde] at h;subst h;exact⟨none,by simp[Instr.findNow],by simp[V9,lk,Gy,Ja]⟩
 |(k,y)::ds,es,i,Q,h=>by
  simp only[rde] at h;obtain⟨e,es,rfl,h1,h2,h3⟩:=h;have he:Instr.sameNow u kv e.key=some (D.beq kd k):=by
   obtain⟨q,hq,z⟩:=vC hk ha;have O:=Q _ (BM);simp only[KT.fit,ha,hq,Bw,Fo] at hf O;generalize e.key=ek at h1⊢;rcases fP hf hr with ⟨j,a,Z,rfl,rfl⟩|⟨a,Z,rfl,rfl⟩|⟨a,Z,rfl,rfl⟩<;>
    rcases fP O h1 with ⟨j2,b,e2,rfl,rfl⟩|⟨b,e2,rfl,rfl⟩|⟨b,e2,rfl,rfl⟩<;>rw[Z] at e2<;>cases e2<;>
    rcases z with ⟨_,e3,z⟩|⟨e3,z⟩|⟨e3,z⟩<;>rw[Z] at e3<;>cases e3<;>rw[hu] at z<;>obtain rfl:=Ay z<;>simp[Instr.sameNow,D.beq]
  simp only[Instr.findNow,he];cases hb:D.beq kd k with
  |true=>exact⟨_,rfl,Qz7 hb h2⟩
  |false=>
   obtain⟨r,h4,h5⟩:=Qmm hk ha hu hf hr ds es (i+1) (λe he=>Q e (by simp[he])) h3;exact⟨r,h4,Qq2 hb h5⟩
def zW{t:TypeId}{kt:KT}(Z:BN P t=some kt){kd:D}{kv:Value}(hf:kt.fit kd=true)(hr:rd ok hp kd kv)(ds:List (D×D))(es:List MapEntry)(O: ∀e∈ds,kt.fit e.1=true)
 (h:rde ok hp ds es): ∃r,(Instr.findKey t kv es).run P w= .ok r w/\V9 kd ds 0 ok hp r:=by
 cases ha:kt.agg with
 |true=>
  obtain⟨m0,Q,ac,z,ad,ab⟩:=Qna Z ha;rw[run_findKey_eq w (by simp[z])];exact Qh4 Z hf hr ds es 0 O h
 |false=>
  obtain⟨k,aa,z⟩:=vC Z ha;obtain⟨u,z⟩: ∃u,P.underlying t=some u:=by rcases z with ⟨j,_,z⟩|⟨_,z⟩|⟨_,z⟩<;>exact⟨_,z⟩
  obtain⟨r,h1,h2⟩:=Qmm Z ha z hf hr ds es 0 O h;exact⟨r,by simp[Instr.findKey,run_underlying z,h1],h2⟩
end
end
def Qiy{P:Program}{w:World}{b:Nat}{es es':Array MapEntry}{clock c':Nat}(h:w.heap[b]? =some (.map es clock)):
 ∃w',(setObj b (.map es' c')).run P w= .ok () w'/\w'.heap=w.heap.setIfInBounds b (.map es' c')/\w'.os=w.os/\w'.tape=w.tape/\w'.output=w.output:=by
 refine⟨{w with heap:=w.heap.setIfInBounds b (.map es' c')},?_,rfl,rfl,rfl,rfl⟩;exact MapKept.run_setObj_map _ h
section
variable {P:Program}{tm:List (Nat×AV)}{h:Nat->Option Ao}{nx:Nat}{o:Oper}{K:Ah}
def Pw{op:BinOp}{T U:TypeId}{x y:Operand}{a b:List D}(ho:o.op= .binOp op T x y U)(hx:Ax tm x= .im (.agg a))(hy:Ax tm y= .im (.agg b))
 (z:uS P T op a b K (BN P T)):Cj P tm h nx o K:=by
 cases hkt:BN P T with
 |none=>rw[hkt] at z;exact z.elim
 |some kt=>
 rw[hkt] at z;simp only[uS] at z;obtain⟨af,ag,hg,z⟩:=z;have aa:op= .eql\/op= .neq:=by cases op<;>first|exact .inl rfl|exact .inr rfl|exact z.elim
 have ah:K (.im (.bool (decide (op= .neq) !=D.beql a b))) {}:=by
  rcases aa with rfl|rfl
  .simpa[uW] using z
  .simpa[uW] using z
 refine⟨_,_,BH.pure (u:=[]) ?_,ah⟩;intro C S ac hW _ O;have Q:=O x (by rw[ho];simp[Op.operands]);have Z:=O y (by rw[ho];simp[Op.operands]);rw[hx] at Q;rw[hy] at Z;simp only[Aa] at Q Z;refine⟨.bool (decide (op= .neq) !=D.beql a b),?_,by simp only[Aa,rd]⟩;have he:=Mc (P:=P) (w:=S.w) 5 10000 (by omega) T kt hkt _ _ _ _ af ag Q Z;simp only[rd] at Q Z;obtain⟨xs,ab,_⟩:=Q;obtain⟨ys,ad,_⟩:=Z;rw[ab,ad] at he;simp only[execOp,ho,ab,ad,Sem.run_bind,run_eqGuard_agg S.w op T x y xs ys hg,Result.andThen_ok];rcases aa with rfl|rfl
 .simp[run_eql_struct,he,D.beq]
 .simp[run_neq_struct,he,D.beq]
def Qqm{T k e:TypeId}{kt:KT}(hu:P.underlying T=some (.map k e))(ab:BN P k=some kt){kd:D}{kv:Value}(Q:kt.fit kd=true)
 {Z:Nat->Prop}{hp:Nat->Option Obj}(hr:rd Z hp kd kv){w:World}{b:Nat}{O:Array MapEntry}{clock:Nat}(hb:w.heap[b]? =some (.map O clock)){es:List (D×D)}(ad: ∀e∈es,kt.fit e.1=true)
 (ac:rde Z hp es O.toList)(ok:Bool):
 (∃y v,lk es kd=some y/\rd Z hp y v/\(Instr.lookup T (.map (some b)) kv ok).run P w= .ok (if ok then .tuple #[v,.bool true] else v) w)\/
 (lk es kd=none/\ ∀z,(zeroValue e).run P w= .ok z w->(Instr.lookup T (.map (some b)) kv ok).run P w= .ok (if ok then .tuple #[z,.bool false] else z) w):=by
 obtain⟨r,h1,h2⟩:=zW (w:=w) ab Q hr es O.toList ad ac;have aa:=Qit (P:=P) (w:=w) (em:=O.isEmpty) 5 10000 (by omega) k kt ab kd kv Q hr;cases r with
 |none=>
  refine .inr ⟨h2.1,λz hz=> ?_⟩;simp[Instr.lookup,run_underlying hu,PY (w:=w) hb,aa,h1,hz]
 |some r=>
  obtain⟨j,v⟩:=r;obtain⟨p,k',y,_,_,_,h4,h5,_⟩:=h2;refine .inl ⟨y,v,h4,h5,?_⟩;simp[Instr.lookup,run_underlying hu,PY (w:=w) hb,aa,h1]
def Qabs{T k e:TypeId}{kt:KT}(hu:P.underlying T=some (.map k e))(Q:BN P k=some kt){kd:D}{kv:Value}(O:kt.fit kd=true)
 {aa:Nat->Prop}{hp:Nat->Option Obj}(hr:rd aa hp kd kv){w:World}(ok:Bool){z:Value}(hz:(zeroValue e).run P w= .ok z w):
 (Instr.lookup T (.map none) kv ok).run P w= .ok (if ok then .tuple #[z,.bool false] else z) w:=by
 obtain⟨r,h1,h2⟩:=zW (w:=w) Q O hr [] [] (by simp) (by simp only[rde]);have Z:=Qit (P:=P) (w:=w) (em:=true) 5 10000 (by omega) k kt Q kd kv O hr;cases r with
 |none=>simp[Instr.lookup,run_underlying hu,Z,h1,hz]
 |some r=>
  obtain⟨j,v⟩:=r;obtain⟨p,k',y,_,h3,_⟩:=h2;simp at h3
def Qx8{S:Au}{d:D}{v:Value}(ok b:Bool)(h:rd S.ok S.hp d v):Aa S (bif ok then .tup [.im d,.im (.bool b)] else .im d) (if ok then .tuple #[v,.bool b] else v):=by
 cases ok with
 |false=>simpa only[Bm,CE,Cr,Aa] using h
 |true=>
  simp only[BX,BI,Aa];exact⟨_,rfl,by simp[AJ,Aa,rd,h]⟩
def Qabg{T:TypeId}{m k:Operand}{ok:Bool}(ho:o.op= .lookup T m k ok)(Q:Bg (Qnn P h (Ax tm m) (Ax tm k) ok K) (tI P T)):Cj P tm h nx o K:=by
 cases hT:tI P T with
 |none=>rw[hT] at Q;exact Q.elim
 |some ti=>
 rw[hT] at Q;simp only[Bg,Qnn] at Q;cases hf:ti.kind<;>rw[hf] at Q<;>try exact Q.elim
 rename_i kT e;have hu:=mU hT hf;cases hkv:Ax tm k<;>rw[hkv] at Q<;>try exact Q.elim
 rename_i kd;simp only[luK] at Q;cases hE:tI P e with
 |none=>rw[hE] at Q;exact Q.elim
 |some te=>
 rw[hE] at Q;simp only[Bg,luE] at Q;cases ag:BN P kT with
 |none=>rw[ag] at Q;exact Q.elim
 |some kt=>
 rw[ag] at Q;simp only[Ym] at Q;obtain⟨af,Q⟩:=Q;have am: ∀(S:Au) (a:Act),(∀x∈o.op.operands,Aa S (Ax tm x) (a.eval x))->rd S.ok S.hp kd (a.eval k):=by
  intro S a O
  have:=O k (by rw[ho];simp[Op.operands])
  rw[hkv] at this;simpa only[Aa] using this
 have ai: ∀{u:List Nat} {es:List (D×D)},(∀e∈es,kt.fit e.1=true)->
  (∀(C:AU) (S:Au) (a:Act),Wf C S->(∀n∈u,S.h n=h n)->(∀x∈o.op.operands,Aa S (Ax tm x) (a.eval x))-> ∃b aa Z,a.eval m= .map (some b)/\S.hp b=some (.map aa Z)/\rde S.ok S.hp es aa.toList)->
  FS es kd (Qy3 ok {use:=u} K) (Jg te ok {use:=u} K)->Cj P tm h nx o K:=by
  intro u es ac hm Q;obtain⟨av,aw⟩:=Q;cases hl:lk es kd with
  |some y=>
   refine⟨_,_,BH.pure (u:=u) ?_,av y hl⟩;intro C S a hW ab O;obtain⟨b,aa,Z,hv,hb,ak⟩:=hm C S a hW ab O;rcases Qqm hu ag af (am S a O) hb ac ak ok with ⟨y',v,h1,h2,h3⟩|⟨h1,_⟩
   .rw[hl] at h1;obtain rfl:=Ay h1;refine⟨_,?_,Qx8 ok true h2⟩;simp only[execOp,ho,hv];simp[h3]
   .rw[hl] at h1;cases h1
  |none=>
   obtain⟨aq,ax,au,Q⟩:=aw hl;obtain⟨z,an,_,_,ao⟩:=Qrg hE aq au;refine⟨_,_,BH.pure (u:=u) ?_,Q⟩;intro C S a hW ab O;obtain⟨b,aa,Z,hv,hb,ak⟩:=hm C S a hW ab O;rcases Qqm hu ag af (am S a O) hb ac ak ok with ⟨y',v,h1,h2,h3⟩|⟨h1,h2⟩
   .rw[hl] at h1;cases h1
   .refine⟨_,?_,Qx8 ok false (ao S.ok S.hp)⟩;simp only[execOp,ho,hv];simp[h2 z (an _)]
 cases hm:Ax tm m<;>rw[hm] at Q<;>try exact Q.elim
 case im d=>
  cases d<;>try exact Q.elim
  case nilm=>
   simp only[gB] at Q;obtain⟨aq,ax,au,Q⟩:=Q;obtain⟨z,an,_,_,ao⟩:=Qrg hE aq au;refine⟨_,_,BH.pure (u:=[]) ?_,Q⟩;intro C S a hW ab O;have h1:=O m (by rw[ho];simp[Op.operands]);rw[hm] at h1;simp only[Aa,rd] at h1;refine⟨_,?_,Qx8 ok false (ao S.ok S.hp)⟩;simp only[execOp,ho,h1];simp[Qabs hu ag af (am S a O) ok (an S.w)]
  case mp ah es=>
   simp only[gB] at Q;obtain⟨rfl,Q⟩:=Q;by_cases ac: ∀e∈es,ah.fit e.1=true
   .refine ai (u:=[]) ac ?_ Q;intro C S a hW _ O;have h1:=O m (by rw[ho];simp[Op.operands]);rw[hm] at h1;simp only[Aa,rd] at h1;obtain⟨b,aa,Z,h2,_,_,h3,h4,_⟩:=h1;exact⟨b,aa,Z,h2,h3,h4⟩
   .cases hl:lk es kd with
    |some y=>
     refine⟨_,_,BH.pure (u:=[]) ?_,Q.1 y hl⟩;intro C S a hW _ O;have h1:=O m (by rw[ho];simp[Op.operands]);rw[hm] at h1;simp only[Aa,rd] at h1;obtain⟨_,_,_,_,h2,_⟩:=h1;exact absurd h2 ac
    |none=>
     obtain⟨_,_,_,Q⟩:=Q.2 hl;refine⟨_,_,BH.pure (u:=[]) ?_,Q⟩;intro C S a hW _ O;have h1:=O m (by rw[ho];simp[Op.operands]);rw[hm] at h1;simp only[Aa,rd] at h1;obtain⟨_,_,_,_,h2,_⟩:=h1;exact absurd h2 ac
 case mp n=>
  simp only[gB] at Q;cases hn:h n with
  |none=>rw[hn] at Q;exact Q.elim
  |some aj=>
  rw[hn] at Q;obtain⟨mu,aj⟩:=aj;cases aj<;>try exact Q.elim
  rename_i ah es;simp only[Ta] at Q;obtain⟨rfl,Q⟩:=Q;have ad: ∀(C:AU) (S:Au),Wf C S->(∀n'∈[n],S.h n'=h n')->S.h n=some (mu,.map ah es)/\An S (S.ρ n) (.map ah es):=λC S hW ab=>by
   have hS:=(ab n (by simp)).trans hn;exact⟨hS,hW.obj _ _ hS⟩
  by_cases ac: ∀e∈es,ah.fit e.1=true
  .refine ai (u:=[n]) ac ?_ Q;intro C S a hW ab O;have h1:=O m (by rw[ho];simp[Op.operands]);rw[hm] at h1;obtain⟨hS,ad⟩:=ad C S hW ab;simp only[Aa] at h1;obtain⟨l,hl,hv⟩:=h1.2 _ hS;simp only[An] at ad;obtain⟨lc,aa,Z,h2,_,h3,h4,_⟩:=ad;rw[hl] at h2;obtain rfl:=Ay h2;exact⟨l.b,aa,Z,hv,h3,h4⟩
  .cases hl:lk es kd with
   |some y=>
    refine⟨_,_,BH.pure (u:=[n]) ?_,Q.1 y hl⟩;intro C S a hW ab _
    have:=(ad C S hW ab).2
    simp only[An] at this;obtain⟨_,_,_,_,h2,_⟩:=this;exact absurd h2 ac
   |none=>
    obtain⟨_,_,_,Q⟩:=Q.2 hl;refine⟨_,_,BH.pure (u:=[n]) ?_,Q⟩;intro C S a hW ab _
    have:=(ad C S hW ab).2
    simp only[An] at this;obtain⟨_,_,_,_,h2,_⟩:=this;exact absurd h2 ac
end
def M8{ok:Nat->Prop}{hp:Nat->Option Obj}{kd y:D}{kv v:Value}(Z:rd ok hp kd kv)(hy:rd ok hp y v):
 ∀(p:Nat) (ds:List (D×D)) (es:List MapEntry),rde ok hp ds es->rde ok hp (ds.set p (kd,y)) (es.modify p λe=>{e with key:=kv,val:=v})
 |_,[],es,h=>by
  simp only[rde] at h;subst h;simp[rde]
 |0,(a,b)::ds,es,h=>by
  simp only[rde] at h;obtain⟨e,r,rfl,O,Q,z⟩:=h;simp only[gH,List.modify_zero_cons,rde];exact⟨_,r,rfl,Z,hy,z⟩
 |p+1,(a,b)::ds,es,h=>by
  simp only[rde] at h;obtain⟨e,r,rfl,O,Q,z⟩:=h;simp only[nO,List.modify_succ_cons,rde];exact⟨e,_,rfl,O,Q,M8 Z hy p ds r z⟩
def pH{ok:Nat->Prop}{hp:Nat->Option Obj}{kd y:D}{e:MapEntry}(z:rd ok hp kd e.key)(O:rd ok hp y e.val):
 ∀(ds:List (D×D)) (es:List MapEntry),rde ok hp ds es->rde ok hp (ds++[(kd,y)]) (es++[e])
 |[],es,h=>by
  simp only[rde] at h;subst h;simp only[Fq,rde];exact⟨e,[],rfl,z,O,rfl⟩
 |(a,b)::ds,es,h=>by
  simp only[rde] at h;obtain⟨e',r,rfl,Q,Z,h3⟩:=h;simp only[CO,rde];exact⟨e',_,rfl,Q,Z,pH z O ds r h3⟩
def Qpa{ok:Nat->Prop}{hp:Nat->Option Obj}:
 ∀(p:Nat) (ds:List (D×D)) (es:List MapEntry),rde ok hp ds es->rde ok hp (ds.eraseIdx p) (es.eraseIdx p)
 |_,[],es,h=>by
  simp only[rde] at h;subst h;simp[rde]
 |0,(a,b)::ds,es,h=>by
  simp only[rde] at h;obtain⟨e,r,rfl,O,Q,z⟩:=h;simpa only[ZeT] using z
 |p+1,(a,b)::ds,es,h=>by
  simp only[rde] at h;obtain⟨e,r,rfl,O,Q,z⟩:=h;simp only[wL,rde];exact⟨e,_,rfl,O,Q,Qpa p ds r z⟩
def Qpy(p:Nat)(z v:Value): ∀(es:List MapEntry),(es.modify p λe=>{e with key:=z,val:=v}).map (·.born)=es.map (·.born):=by
 induction p with
 |zero=>intro es;cases es<;>simp
 |succ p ih=>intro es;cases es with
  |nil=>simp
  |cons e es=>simp[ih]
def Qpj(a b:ByteArray):(a==b)=decide (a=b):=by rw[beq_toListBytes,Qry]
def Qoy{ok ok':Nat->Prop}{hp hp':Nat->Option Obj}: ∀(ks:List KK) (a b:List D) (x y:List Value),Bw ks a=true->Bw ks b=true->rdl ok hp a x->rdl ok' hp' b y->D.beql a b=true->x=y
 |[],[],[],x,y,_,_,z,O,_=>by simp only[rdl] at z O;rw[z,O]
 |[],_::_,_,_,_,h,_,_,_,_=>by simp[Bw] at h
 |[],[],_::_,_,_,_,h,_,_,_=>by simp[Bw] at h
 |_::_,[],_,_,_,h,_,_,_,_=>by simp[Bw] at h
 |_::_,_::_,[],_,_,_,h,_,_,_=>by simp[Bw] at h
 |k::ks,d::a,d'::b,x,y,hf,hg,z,O,hb=>by
  simp only[Bw,AN] at hf hg;simp only[rdl] at z O;simp only[D.beql,AN] at hb;obtain⟨v,r,rfl,h3,h4⟩:=z;obtain⟨v',r',rfl,h5,h6⟩:=O;rw[Qoy ks a b r r' hf.2 hg.2 h4 h6 hb.2];congr 1;rcases fP hf.1 h3 with ⟨j,n,Z,rfl,rfl⟩|⟨n,Z,rfl,rfl⟩|⟨n,Z,rfl,rfl⟩<;>
   rcases fP hg.1 h5 with ⟨j2,n2,Q,rfl,rfl⟩|⟨n2,Q,rfl,rfl⟩|⟨n2,Q,rfl,rfl⟩<;>rw[Z] at Q<;>cases Q<;>simp_all [D.beq,Qpj]
def L7{ok:Nat->Prop}{hp:Nat->Option Obj}{n:Nat}{k:KK}{d:D}{v:Value}(hf:k.fit d=true)(h:rd ok hp d v):Instr.sameBits n v v=true:=by
 rcases fP hf h with ⟨j,m,z,rfl,rfl⟩|⟨m,z,rfl,rfl⟩|⟨m,z,rfl,rfl⟩<;>simp[Instr.sameBits,Qpj]
def R4{ok:Nat->Prop}{hp:Nat->Option Obj}{n:Nat}: ∀(ks:List KK) (a:List D) (x:List Value),Bw ks a=true->rdl ok hp a x->(x.zip x).all (λ(x,y)=>Instr.sameBits n x y)=true
 |[],[],x,_,h=>by simp only[rdl] at h;subst h;rfl
 |[],_::_,_,h,_=>by simp[Bw] at h
 |_::_,[],_,h,_=>by simp[Bw] at h
 |k::ks,d::a,x,hf,h=>by
  simp only[Bw,AN] at hf;simp only[rdl] at h;obtain⟨v,r,rfl,z,O⟩:=h;simp only[List.zip_cons_cons,JL,AN];exact⟨L7 hf.1 z,R4 ks a r hf.2 O⟩
def OE{P:Program}{w:World}{ok ok':Nat->Prop}{hp hp':Nat->Option Obj}{kt:KT}{a b:D}{x y:Value}(z:kt.fit a=true)(Z:kt.fit b=true)(O:rd ok hp a x)(Q:rd ok' hp' b y)(hb:D.beq a b=true):
 (Instr.keyThatStays y x).run P w= .ok x w:=by
 have aa:x=y/\Instr.sameBits 10000 x x=true:=by
  cases ha:kt.agg with
  |true=>
   cases a<;>simp only[KT.fit,ha,CE] at z;cases b<;>simp only[KT.fit,ha,CE] at Z;simp only[rd] at O Q;obtain⟨u,rfl,O⟩:=O;obtain⟨v,rfl,Q⟩:=Q;simp only[D.beq] at hb
   have:=Qoy _ _ _ _ _ z Z O Q hb
   refine⟨by rw[aN] at this;rw[this],?_⟩;show (u.size==u.size && (u.toList.zip u.toList).all λ(x,y)=>Instr.sameBits 9999 x y)=true;rw[R4 _ _ _ z O];simp
  |false=>
   simp only[KT.fit,ha] at z Z;have hx:rdl ok hp [a] [x]:=by simp only[rdl];exact⟨x,[],rfl,O,rfl⟩
   have hy:rdl ok' hp' [b] [y]:=by simp only[rdl];exact⟨y,[],rfl,Q,rfl⟩
   have:=Qoy _ _ _ _ _ z Z hx hy (by simp[D.beql,hb])
   refine⟨by simpa using this,?_⟩;cases hks:kt.ks with
   |nil=>rw[hks] at z;simp[Bw] at z
   |cons k r=>
    rw[hks] at z;simp only[Bw,AN] at z;exact L7 z.1 O
 obtain⟨rfl,h5⟩:=aa;simp[Instr.keyThatStays,h5]
def LL{Q:KT}{kd y:D}(O:Q.fit kd=true): ∀(ds:List (D×D)),(∀e∈ds,Q.fit e.1=true)-> ∀e∈Gy ds kd y,Q.fit e.1=true
 |[],_=>by simp[Gy,O]
 |(a,b)::ds,h=>by
  have ih:=LL (y:=y) O ds (λe z=>h e (by simp[z]));simp only[Gy];cases D.beq kd a with
  |true=>
   simp only[BX,Bh];rintro e (rfl|z)
   .exact O
   .exact h e (by simp[z])
  |false=>
   simp only[Bm,Bh];rintro e (rfl|z)
   .exact h _ (by simp)
   .exact ih e z
def LK{O:KT}{kd:D}: ∀(ds:List (D×D)),(∀e∈ds,O.fit e.1=true)-> ∀e∈Ja ds kd,O.fit e.1=true
 |[],_=>by simp[Ja]
 |(a,b)::ds,h=>by
  have ih:=LK (kd:=kd) ds (λe z=>h e (by simp[z]));simp only[Ja];cases D.beq kd a with
  |true=>
   simp only[BX];intro e z;exact h e (by simp[z])
  |false=>
   simp only[Bm,Bh];rintro e (rfl|z)
   .exact h _ (by simp)
   .exact ih e z
section
variable {P:Program}{tm:List (Nat×AV)}{h:Nat->Option Ao}{nx:Nat}{o:Oper}{K:Ah}
def Td{n:Nat}{Z:KT}{es es':List (D×D)}(hn:h n=some (true,.map Z es))(ac:(∀e∈es,Z.fit e.1=true)-> ∀e∈es',Z.fit e.1=true)
 (ai: ∀(S:Au) (a:Act) (b:Nat) (Q:Array MapEntry) (clock:Nat),(∀x∈o.op.operands,Aa S (Ax tm x) (a.eval x))->(∀v,Aa S (.mp n) v->v= .map (some b))->
  (∀e∈es,Z.fit e.1=true)->S.w.heap[b]? =some (.map Q clock)->rde S.ok S.hp es Q.toList->(Q.toList.map (·.born)).Nodup->(∀e∈Q.toList,e.born<clock)->
  ∃z O w',((execOp a.eval o).run P S.w= .ok .skip w'\/ ∃v,(execOp a.eval o).run P S.w= .ok (.value v) w')/\w'.heap=S.w.heap.setIfInBounds b (.map z O)/\w'.os=S.w.os/\w'.tape=S.w.tape/\w'.output=S.w.output/\
   rde S.ok S.hp es' z.toList/\(z.toList.map (·.born)).Nodup/\(∀e∈z.toList,e.born<O))
 (hk:K .any {use:=[n],kill:=[n],new:=[(n,(true,.map Z es'))]}):Cj P tm h nx o K:=by
 refine⟨_,_,BH.one (u:=[n]) (ks:=[n]) (m:=n) (cnt:=0) (.inr ⟨rfl,by simp,by rw[hn];simp⟩) ?_,hk⟩;intro C S a hW hu _ _ ah;have hS:S.h n=some (true,.map Z es):=(hu n (by simp)).trans hn;have ag:=hW.obj _ _ hS;simp only[An] at ag;obtain⟨l,Q,clock,hl,ad,hb,aj,ak,hcl⟩:=ag;obtain⟨z,O,w',h1,h2,h3,h4,h5,h6,h7,h8⟩:=ai S a l.b Q clock ah (by
  intro v hv;simp only[Aa] at hv;obtain⟨l',af,am⟩:=hv.2 _ hS;rw[hl] at af;obtain rfl:=Ay af;exact am) ad hb aj ak hcl
 have ab:Ij S n (.map Z es') (some l) [n] w':=ZQ hW hS hl h2 h3 h4 h5 rfl rfl;have aa:Bv (λn'=>S.h n≠none\/n'≠n) S (S.one n (.map Z es') (some l) [n] w')->An (S.one n (.map Z es') (some l) [n] w') (some l) (.map Z es'):=by
  intro hp;simp only[An];exact⟨l,z,O,rfl,ac ad,fT (hW.loc n _ l hS hl).1 h2,Li hp.ok _ _ h6,h7,h8⟩
 rcases h1 with h1|⟨v,h1⟩
 .exact⟨undef,w',some l,.inr ⟨h1,rfl⟩,ab,λhp=>⟨aa hp,by simp only[Aa]⟩⟩
 .exact⟨v,w',some l,.inl h1,ab,λhp=>⟨aa hp,by simp only[Aa]⟩⟩
def Qjd{T:TypeId}{m k v:Operand}{ti:TI}{n:Nat}{kd vd:D}(Q:o.op= .mapUpdate T m k v\/o.op= .insert T m k v)(hT:tI P T=some ti)(hm:Ax tm m= .mp n)(am:Ax tm k= .im kd)(aq:Ax tm v= .im vd)(hk:KG P h n kd vd K ti.kind):Cj P tm h nx o K:=by
 cases hf:ti.kind<;>rw[hf] at hk<;>try exact hk.elim
 rename_i kT e;have hu:=mU hT hf;simp only[KG] at hk;cases hkt:BN P kT with
 |none=>rw[hkt] at hk;exact hk.elim
 |some kt=>
 rw[hkt] at hk;simp only[Tm] at hk;cases hn:h n with
 |none=>rw[hn] at hk;exact hk.elim
 |some af=>
 rw[hn] at hk;obtain⟨mu,af⟩:=af;cases mu<;>cases af<;>try exact hk.elim
 rename_i aw es;simp only[Tn] at hk;obtain⟨rfl,aa,hk⟩:=hk;refine Td hn (LL aa es) ?_ hk;intro S a b O clock ab au ah hb ad ai hcl;have h1:=au _ (by have:=ab m (by rcases Q with Q|Q<;>rw[Q]<;>simp[Op.operands]);rwa [hm] at this);have h2:=ab k (by rcases Q with Q|Q<;>rw[Q]<;>simp[Op.operands]);have h3:=ab v (by rcases Q with Q|Q<;>rw[Q]<;>simp[Op.operands]);rw[am] at h2;rw[aq] at h3;simp only[Aa] at h2 h3;obtain⟨r,h4,h5⟩:=zW (w:=S.w) hkt aa h2 es O.toList ah ad;have ag:=Qit (P:=P) (w:=S.w) (em:=false) 5 10000 (by omega) kT aw hkt kd _ aa h2;cases r with
 |none=>
  obtain⟨w',h6,h7⟩:=Qiy (P:=P) (w:=S.w) (b:=b) (es:=O) (es':=O.push {key:=a.eval k,val:=a.eval v,born:=clock}) (clock:=clock) (c':=clock+1) hb;refine⟨_,_,w',.inl ?_,h7.1,h7.2.1,h7.2.2.1,h7.2.2.2,?_,?_,?_⟩
  .rcases Q with Q|Q<;>simp only[execOp,Q,h1]<;>
   simp[Instr.mapUpdate,run_underlying hu,PY (w:=S.w) hb,ag,h4,h6]
  .rw[h5.2.1,Zeb];exact pH h2 h3 _ _ ad
  .rw[Zeb,ES,Xg];refine⟨ai,by simp,?_⟩;intro x hx y hy;simp only[Bf,F9,Bz] at hy;subst hy;simp only[Bo] at hx;obtain⟨e',Z,rfl⟩:=hx
   have:=hcl e' Z
   omega
  .intro e' Z;rw[Zeb,Bn,Bz] at Z;rcases Z with Z|rfl
   .have:=hcl e' Z;omega
   .simp
 |some r=>
  obtain⟨j,v0⟩:=r;obtain⟨p,k',y,h6,h7,h8,h9,ax,aj,ay⟩:=h5;rw[FP] at h6;subst h6;have hj: ∃e',O[j]? =some e'/\rd S.ok S.hp k' e'.key:=by
   have key: ∀(ds:List (D×D)) (es:List MapEntry) (p:Nat),rde S.ok S.hp ds es->ds[p]? =some (k',y)-> ∃e',es[p]? =some e'/\rd S.ok S.hp k' e'.key:=by
    intro ds;induction ds with
    |nil=>intro es p _ h;simp at h
    |cons d ds ih=>
     intro es p h hp;obtain⟨d1,d2⟩:=d;simp only[rde] at h;obtain⟨e',r,rfl,g1,g2,g3⟩:=h;cases p with
     |zero=>simp at hp;obtain⟨rfl,rfl⟩:=hp;exact⟨e',rfl,g1⟩
     |succ p=>simpa using ih r p g3 (by simpa using hp)
   obtain⟨e',g1,g2⟩:=key es O.toList j ad h7;exact⟨e',by simpa using g1,g2⟩
  obtain⟨e',Z,an⟩:=hj;have ao:=OE (P:=P) (w:=S.w) aa (ah (k',y) (AZ h7)) h2 an h8;obtain⟨w',ak,ac⟩:=Qiy (P:=P) (w:=S.w) (b:=b) (es:=O) (es':=O.modify j λe=>{e with key:=a.eval k,val:=a.eval v}) (clock:=clock) (c':=clock) hb;refine⟨_,_,w',.inl ?_,ac.1,ac.2.1,ac.2.2.1,ac.2.2.2,?_,?_,?_⟩
  .rcases Q with Q|Q<;>simp only[execOp,Q,h1]<;>
   simp[Instr.mapUpdate,run_underlying hu,PY (w:=S.w) hb,ag,h4,Z,ao,ak]
  .rw[aj,Zeq];exact M8 h2 h3 j _ _ ad
  .rw[Zeq,Qpy];exact ai
  .intro x hx
   have:x.born∈(O.modify j λe=>{e with key:=a.eval k,val:=a.eval v}).toList.map (·.born):=wV hx
   rw[Zeq,Qpy,Bo] at this;obtain⟨z,hz,av⟩:=this;rw[<-av];exact hcl z hz
def Qabh{T:TypeId}{m k:Operand}{c:Call}{rest:List TypeId}(ho:o.op= .call c)(Z:c.callee= .builtin .delete)(Q:c.args= #[m,k])(ao:c.argTypes.toList=T::rest)
 (O:Bg (Qni P h K (Ax tm m) (Ax tm k)) (tI P T)):Cj P tm h nx o K:=by
 cases hT:tI P T with
 |none=>rw[hT] at O;exact O.elim
 |some ti=>
 rw[hT] at O;simp only[Bg,Qni] at O;cases hm:Ax tm m<;>rw[hm] at O<;>try exact O.elim
 rename_i n;cases hkd:Ax tm k<;>rw[hkd] at O<;>try exact O.elim
 rename_i kd;simp only at O;cases hf:ti.kind<;>rw[hf] at O<;>try exact O.elim
 rename_i kT e;have hu:=mU hT hf;simp only[RT] at O;cases hkt:BN P kT with
 |none=>rw[hkt] at O;exact O.elim
 |some kt=>
 rw[hkt] at O;simp only[X9] at O;cases hn:h n with
 |none=>rw[hn] at O;exact O.elim
 |some ad=>
 rw[hn] at O;obtain⟨mu,ad⟩:=ad;cases mu<;>cases ad<;>try exact O.elim
 rename_i au es;simp only[RU] at O;obtain⟨rfl,ab,O⟩:=O;have aj:c.argTypes[0]? =some T:=by
  have:c.argTypes.toList[0]? =some T:=by rw[ao];rfl
  simpa using this
 refine Td hn (LK es) ?_ O;intro S a b z clock ac aq an hb af ai hcl;have h1:=aq _ (by have:=ac m (by rw[ho];simp[Op.operands,Call.operands,Q,Z]);rwa [hm] at this);have h2:=ac k (by rw[ho];simp[Op.operands,Call.operands,Q,Z]);rw[hkd] at h2;simp only[Aa] at h2;obtain⟨r,h4,h5⟩:=zW (w:=S.w) hkt ab h2 es z.toList an af;have ah:=Qit (P:=P) (w:=S.w) (em:=z.isEmpty) 5 10000 (by omega) kT au hkt kd _ ab h2;cases r with
 |none=>
  obtain⟨w',h6,h7⟩:=Qiy (P:=P) (w:=S.w) (b:=b) (es:=z) (es':=z) (clock:=clock) (c':=clock) hb;refine⟨_,_,w',.inr ⟨.tuple #[],?_⟩,h7.1,h7.2.1,h7.2.2.1,h7.2.2.2,by rw[h5.2.2];exact af,ai,hcl⟩;simp only[execOp,ho,resolve,Z,Q,Sem.run_bind,Sem.run_pure,Result.andThen_ok,invoke,builtin];simp[Builtin.delete_,aj,h1,run_underlying hu,PY (w:=S.w) hb,ah,h4,h6]
 |some r=>
  obtain⟨j,v0⟩:=r;obtain⟨p,k',y,h6,h7,h8,h9,av,aw,ak⟩:=h5;rw[FP] at h6;subst h6;obtain⟨w',am,aa⟩:=Qiy (P:=P) (w:=S.w) (b:=b) (es:=z) (es':=z.eraseIdxIfInBounds j) (clock:=clock) (c':=clock) hb;have ag:(z.eraseIdxIfInBounds j).toList=z.toList.eraseIdx j:=by simp
  refine⟨_,_,w',.inr ⟨.tuple #[],?_⟩,aa.1,aa.2.1,aa.2.2.1,aa.2.2.2,?_,?_,?_⟩
  .simp only[execOp,ho,resolve,Z,Q,Sem.run_bind,Sem.run_pure,Result.andThen_ok,invoke,builtin];simp[Builtin.delete_,aj,h1,run_underlying hu,PY (w:=S.w) hb,ah,h4,am]
  .rw[ak,ag];exact Qpa j _ _ af
  .rw[ag];exact ai.sublist ((Zfc _ _).map _)
  .intro x hx;rw[ag] at hx;exact hcl x ((Zfc _ _).mem hx)
end
def tM{ok:Nat->Prop}{hp:Nat->Option Obj}{k:Nat}: ∀(l:Nat) (rows:List (List D)) (vs:List Value),rdr ok hp k rows vs->rdr ok hp k (rows.drop l) (vs.drop (l*k))
 |0,rows,vs,h=>by simpa using h
 |l+1,[],vs,_=>by simp only[Zfx,rdr]
 |l+1,r::z,vs,h=>by
  simp only[rdr] at h
  have:=tM l z _ h.2.2
  rw[DU] at this;simp only[Lu];rwa [show (l+1)*k=k+l*k by rw[wY];omega]
def lV{ok:Nat->Prop}{hp:Nat->Option Obj}{k:Nat}: ∀(n:Nat) (rows:List (List D)) (vs:List Value),rdr ok hp k rows vs->rdr ok hp k (rows.take n) vs
 |0,rows,vs,_=>by simp only[Xo,rdr]
 |n+1,[],vs,_=>by simp only[Zfy,rdr]
 |n+1,r::z,vs,h=>by
  simp only[rdr] at h;simp only[Qp,rdr];exact⟨h.1,h.2.1,lV n z _ h.2.2⟩
section
variable {P:Program}{tm:List (Nat×AV)}{h:Nat->Option Ao}{nx:Nat}{o:Oper}{K:Ah}
def Ry{S:Au}{a:Act}{x:Option Operand}{d:Nat}{l:Int}(z:Hc d (DI tm x)=some l)(O: ∀y,x=some y->Aa S (Ax tm y) (a.eval y)):
 (x=none/\l=d)\/ ∃y k,x=some y/\a.eval y= .int k l:=by
 cases x with
 |none=>simp only[DI,Hc,AI] at z;exact .inl ⟨rfl,z.symm⟩
 |some y=>
  right;have Q:=O y rfl;simp only[DI] at z;cases hx:Ax tm y<;>rw[hx] at z<;>simp only[Hc,reduceCtorEq] at z;rename_i d;cases d<;>simp only[reduceCtorEq,AI] at z;rename_i k n;subst z;rw[hx] at Q;simp only[Aa,rd] at Q;exact⟨y,k,rfl,Q⟩
def Qq1{S:Au}{a:Act}{lo hi:Option Operand}{l m:Int}{len cap:Nat}{isS:Bool}(ac:Hc 0 (DI tm lo)=some l)(aa:Hc len (DI tm hi)=some m)
 (h0:0<=l)(ab:l<=m)(hm:m<=(len:Int))(ad:len<=cap)(O: ∀y,lo=some y\/hi=some y->Aa S (Ax tm y) (a.eval y))(w:World):
 (Instr.sliceBounds isS len cap (lo.map a.eval) (hi.map a.eval) none).run P w= .ok (l.toNat,m.toNat,cap) w:=by
 have h1:=Ry ac (λy Q=>O y (.inl Q));have h2:=Ry aa (λy Q=>O y (.inr Q));have Z:m<=(cap:Int):=by omega
 unfold Instr.sliceBounds;rcases h1 with ⟨rfl,rfl⟩|⟨y,k,rfl,Q⟩<;>rcases h2 with ⟨rfl,rfl⟩|⟨z,k',rfl,hz⟩
 .simp
 .simp[Instr.sliceBound,hz,asIntOf,Z,show (0:Int)<=m by omega]
 .simp[Instr.sliceBound,Q,asIntOf,h0,ab]
 .simp only[D3,Sem.run_bind,Sem.run_pure,Result.andThen_ok];have af:((m.toNat:Nat):Int)=m:=by omega
  simp[Instr.sliceBound,Q,hz,asIntOf,h0,Z,show (0:Int)<=m by omega,show ¬(max m 0<l) by omega]
def eU{T e:TypeId}{te:TI}(hu:P.underlying T=some (.slice e))(hE:tI P e=some te){S:Au}{a:Act}{x:Operand}{lo hi:Option Operand}{l m:Int}{len cap:Nat}{base:Option Addr}
 (ho:o.op= .slice T x lo hi none)(hx:a.eval x= .slice base len cap)(aa:Hc 0 (DI tm lo)=some l)(Q:Hc len (DI tm hi)=some m)
 (h0:0<=l)(Z:l<=m)(hm:m<=(len:Int))(z:len<=cap)(O: ∀y∈o.op.operands,Aa S (Ax tm y) (a.eval y))(w:World):
 (execOp a.eval o).run P w= .ok (.value (.slice (if cap=l.toNat then base else base.map (·.add (l.toNat*te.size))) (m.toNat - l.toNat) (cap - l.toNat))) w:=by
 have hb:=Qq1 (P:=P) (isS:=true) aa Q h0 Z hm z (λy hy=>O y (by rw[ho];rcases hy with rfl|rfl<;>simp[Op.operands])) w;have ab:(underlying T).run P w= .ok (.slice e) w:=by simp[underlying,hu]
 simp only[execOp,ho,hx,Instr.sliceAt,Instr.slice,Sem.run_bind,ab,Result.andThen_ok,Zfk,hb,JA hE,Sem.run_pure]
def P7{T:TypeId}{x:Operand}{lo hi:Option Operand}(ho:o.op= .slice T x lo hi none)(z:Bg (Qsm P h nx (Ax tm x) (DI tm lo) (DI tm hi) K) (tI P T)):Cj P tm h nx o K:=by
 have ag:x∈o.op.operands:=by rw[ho];simp[Op.operands]
 cases hT:tI P T with
 |none=>rw[hT] at z;exact z.elim
 |some ti=>
 rw[hT] at z;simp only[Bg,Qsm] at z;cases hf:ti.kind<;>rw[hf] at z<;>try exact z.elim
 case str=>
  have hu:=QF hT hf;simp only[Qz] at z;cases hx:Ax tm x<;>rw[hx] at z<;>try exact z.elim
  rename_i d;cases d<;>try exact z.elim
  rename_i s;simp only[kK] at z;cases Q:Hc 0 (DI tm lo) with
  |none=>rw[Q] at z;exact z.elim
  |some l=>
  cases hhi:Hc s.size (DI tm hi) with
  |none=>rw[Q,hhi] at z;exact z.elim
  |some m=>
  rw[Q,hhi] at z;simp only[Jz] at z;obtain⟨h0,ac,hm,z⟩:=z;refine⟨_,_,BH.pure (u:=[]) ?_,z⟩;intro C S a hW _ O;have h1:=O x ag;rw[hx] at h1;simp only[Aa,rd] at h1;refine⟨.string (s.extract l.toNat m.toNat),?_,by simp only[Aa,rd]⟩;have hb:=Qq1 (P:=P) (isS:=false) Q hhi h0 ac hm (AL _) (λy hy=>O y (by rw[ho];rcases hy with rfl|rfl<;>simp[Op.operands])) S.w;have ai:(underlying T).run P S.w= .ok .string S.w:=by simp[underlying,hu]
  simp only[execOp,ho,h1,Instr.sliceAt,Instr.slice,Sem.run_bind,ai,Result.andThen_ok,Zfk,Rk,CE,Cr,hb,Sem.run_pure]
 case slice e=>
 have hu:=Qa hT hf;simp only[Qz] at z;cases hE:tI P e with
 |none=>rw[hE] at z;exact z.elim
 |some te=>
 rw[hE] at z;simp only[Bg] at z;cases hx:Ax tm x<;>rw[hx] at z<;>try exact z.elim
 case im d=>
  cases d<;>try exact z.elim
  rename_i nz k rows;simp only[zG] at z;obtain⟨af,z⟩:=z;cases Q:Hc 0 (DI tm lo) with
  |none=>rw[Q] at z;exact z.elim
  |some l=>
  cases hhi:Hc rows.length (DI tm hi) with
  |none=>rw[Q,hhi] at z;exact z.elim
  |some m=>
  rw[Q,hhi] at z;simp only[UC] at z;obtain⟨h0,ac,hm,z⟩:=z;refine⟨_,_,BH.pure (u:=[]) ?_,z⟩;intro C S a hW _ O;have h1:=O x ag;rw[hx] at h1;simp only[Aa,rd] at h1;have Z:((rows.drop l.toNat).take (m - l).toNat).length=m.toNat - l.toNat:=by
   rw[BB,Ce];omega
  rcases h1 with ⟨au,rfl⟩|⟨b,p,cap,vs,U,fr,h1,h2,h3,h4,h5,h6,h7⟩
  .simp only[FA] at hm hhi;obtain⟨ao,h1⟩:=uU au;refine⟨_,eU hu hE ho h1 Q hhi h0 ac hm (AL 0) O S.w,?_⟩;have e1:l.toNat=0:=by omega
   have e2:m.toNat=0:=by omega
   simp only[Aa,rd,e1,e2];refine .inl ⟨?_,by simp⟩;cases ao with
   |none=>exact .inl (by simp)
   |some ad=>exact .inr ⟨rfl,ad,by simp⟩
  .refine⟨_,eU hu hE ho h1 Q hhi h0 ac hm h3 O S.w,?_⟩;simp only[Aa,rd];right;by_cases hc:cap=l.toNat
   .refine⟨b,p,cap - l.toNat,vs,U,fr,by rw[Ai hc,Z],by simp,by rw[Z];omega,by rw[Z];exact DH (by omega) h4,h5,h6,?_⟩
    have:(rows.drop l.toNat).take (m - l).toNat=[]:=wC (by rw[Z];omega)
    rw[this];simp only[rdr]
   .refine⟨b,p+l.toNat*te.size,cap - l.toNat,vs,U,fr,by rw[Af hc,Z];simp[Addr.add],by simp,by rw[Z];omega,by rw[Z];omega,h5,h6,?_⟩;rcases af with af|af
    .subst af
     have:=lV (m - l).toNat _ _ (tM l.toNat _ _ h7)
     rwa [DU] at this
    .subst af;simp only[Zfx,Zfy,rdr]
 case own n=>
  simp only[zG] at z;cases hn:h n with
  |none=>rw[hn] at z;exact z.elim
  |some am=>
  rw[hn] at z;obtain⟨mu,am⟩:=am;cases am<;>try exact z.elim
  rename_i U k rows;simp only[UD] at z;obtain⟨af,z⟩:=z;cases Q:Hc 0 (DI tm lo) with
  |none=>rw[Q] at z;exact z.elim
  |some l=>
  cases hhi:Hc rows.length (DI tm hi) with
  |none=>rw[Q,hhi] at z;exact z.elim
  |some m=>
  rw[Q,hhi] at z;simp only[J0] at z;obtain⟨h0,ac,hm,mv,z⟩:=z;have Z:((rows.drop l.toNat).take (m - l).toNat).length=m.toNat - l.toNat:=by
   rw[BB,Ce];omega
  cases mv with
  |false=>
   simp only[vO] at z;refine⟨_,_,BH.pure (u:=[n]) ?_,z⟩;intro C S a hW ai O;have h1:=O x ag;rw[hx] at h1;simp only[Aa] at h1;have hS:=(ai n (by simp)).trans hn;have h1:=h1.2 _ hS;have aa:=hW.obj _ _ hS;simp only[An] at aa;cases hl0:S.ρ n with
   |none=>
    rw[hl0] at h1 aa;obtain⟨_,aa⟩:=aa;subst aa;simp only[FA] at hm hhi;refine⟨_,eU hu hE ho h1 Q hhi h0 ac hm (AL 0) O S.w,?_⟩;simp only[Aa];refine⟨rfl,λe' ab=> ?_⟩;rw[hl0];unfold PW;have e1:l.toNat=0:=by omega
    have e2:m.toNat=0:=by omega
    have e3:(m - l).toNat=0:=by omega
    simp[e1,e2,e3]
   |some lc=>
    rw[hl0] at h1 aa;obtain⟨g0,g1,vs,g2,g3,g4⟩:=aa;simp only[Ab.len] at h1;refine⟨_,eU hu hE ho h1 Q hhi h0 ac hm g1 O S.w,?_⟩;simp only[Aa];refine⟨rfl,λe' ab=> ?_⟩;rw[hS] at ab;obtain rfl:=Ay ab;rw[hl0];unfold PW;simp only[Ab.esz,Ab.len];by_cases hc:lc.cap=l.toNat
    .rw[Ai hc];exact⟨lc.p,lc.cap - l.toNat,by congr 1;omega,by omega,λaw=>absurd (show (m - l).toNat=0 by omega) aw,by omega⟩
    .rw[Af hc];exact⟨lc.p+l.toNat*te.size,lc.cap - l.toNat,by rw[show m.toNat - l.toNat=(m - l).toNat by omega];simp[Addr.add],by omega,λ_=>by rw[af],by omega⟩
  |true=>
   simp only[vO] at z;obtain⟨rfl,z⟩:=z;refine⟨_,_,BH.one (u:=[n]) (ks:=[n]) (.inl ⟨rfl,rfl⟩) ?_,z⟩;intro C S a hW ai av aj O;have h1:=O x ag;rw[hx] at h1;simp only[Aa] at h1;have hS:=(ai n (by simp)).trans hn;have h1:=h1.2 _ hS;have aa:=hW.obj _ _ hS;simp only[An] at aa;have ah:=av rfl;have ax:nx≠n:=λh'=>by subst h';rw[hS] at ah;cases ah
   cases hl0:S.ρ n with
   |none=>
    rw[hl0] at h1 aa;obtain⟨_,aa⟩:=aa;subst aa;simp only[FA] at hm hhi;refine⟨_,S.w,none,.inl (eU hu hE ho h1 Q hhi h0 ac hm (AL 0) O S.w),Ql6 ah (λn f hf=>aj n f hf rfl),?_⟩;intro hp;have e1:l.toNat=0:=by omega
    have e2:m.toNat=0:=by omega
    refine⟨by simp[An],?_⟩;simp only[Aa];refine⟨rfl,λe' ab=> ?_⟩;simp[Au.one,e1,e2]
   |some lc=>
    rw[hl0] at h1 aa;obtain⟨g0,g1,vs,g2,g3,g4⟩:=aa;simp only[Ab.len] at h1;obtain⟨q1,q2⟩:=hW.loc n _ lc hS hl0;have ak: ∀(p cap:Nat),Ij S nx (.arr U k ((rows.drop l.toNat).take (m - l).toNat)) (some ⟨lc.b,p,cap⟩) [n] S.w:=by
     intro p cap;refine⟨rfl,rfl,rfl,AL _,λ_ _ _=>rfl,.inr ah,?_,?_,λn f hf _=>aj n f hf rfl⟩
     .intro lo Q;obtain rfl:=Ay Q;exact⟨q1,.inr ⟨n,_,lc,by simp,hS,hl0,rfl⟩⟩
     .intro f hf;rw[ah] at hf;cases hf
    have an: ∀(e:Ab) (l:Option Ff),(S.one nx e l [n] S.w).hp=S.hp:=λ_ _=>rfl
    by_cases hc:lc.cap=l.toNat
    .refine⟨_,S.w,some ⟨lc.b,lc.p,lc.cap - l.toNat⟩,.inl (eU hu hE ho h1 Q hhi h0 ac hm g1 O S.w),ak _ _,?_⟩;intro hp;have aq:(rows.drop l.toNat).take (m - l).toNat=[]:=wC (by rw[Z];omega);constructor
     .simp only[An,an];rw[aq];refine⟨by simp,by simp,vs,g2,?_,by simp only[rdr]⟩
      have:lc.cap - l.toNat=0:=by omega
      rw[this];omega
     .simp only[Aa];refine⟨rfl,λe' ab=> ?_⟩;simp only[Au.one,BI,AI] at ab⊢;subst ab;simp only[Ab.len,Z];rw[Ai hc]
    .refine⟨_,S.w,some ⟨lc.b,lc.p+l.toNat*te.size,lc.cap - l.toNat⟩,.inl (eU hu hE ho h1 Q hhi h0 ac hm g1 O S.w),ak _ _,?_⟩;intro hp;constructor
     .simp only[An,an];rw[Z];refine⟨by omega,by omega,vs,g2,?_,?_⟩
      .subst af;have e1:l.toNat*te.size+(lc.cap - l.toNat)*te.size=lc.cap*te.size:=by rw[<-F2];congr 1;omega
       omega
      .subst af
       have:=lV (m - l).toNat _ _ (tM l.toNat _ _ g4)
       rw[DU] at this;exact this
     .simp only[Aa];refine⟨rfl,λe' ab=> ?_⟩;simp only[Au.one,BI,AI] at ab⊢;subst ab;simp only[Ab.len,Z];rw[Af hc];simp[Addr.add]
end
def Qta{ok:Nat->Prop}{hp:Nat->Option Obj}{k:Nat}: ∀(Z r2:List (List D)) (L M:List Value),rdr ok hp k Z L->L.length=Z.length*k->rdr ok hp k r2 M->rdr ok hp k (Z++r2) (L++M)
 |[],r2,L,M,_,O,Q=>by
  simp only[FA,gR,Xl] at O;subst O;simpa using Q
 |r::rs,r2,L,M,z,O,Q=>by
  simp only[rdr] at z;simp only[Cv,wY] at O;simp only[CO,rdr];refine⟨z.1,uV _ _ _ z.2.1,?_⟩;rw[nH (by omega)];exact Qta rs r2 _ _ z.2.2 (by rw[Ce];omega) Q
def TX{ok:Nat->Prop}{hp:Nat->Option Obj}{k a:Nat}{rows src:List (List D)}{B L:List Value}(h:rdr ok hp k rows B)(hB:rows.length*k<=B.length)(Q:rdr ok hp k src L)(z:L.length=src.length*k)
 (ha:a+src.length<=rows.length):rdr ok hp k (rows.take a++src++rows.drop (a+src.length)) (Cb B (a*k) L):=by
 unfold Cb;have Z:a*k<=rows.length*k:=HI _ (by omega);have O:rdr ok hp k (rows.take a) (B.take (a*k)):=by
  have:=Qrl (rows.take a) B (lV a _ _ h) (by rw[BB];have:=HI k (gU a rows.length);omega)
  rwa [BB,show min a rows.length=a by omega] at this
 refine Qta _ _ _ _ (Qta _ _ _ _ O (by rw[BB,BB,show min a rows.length=a by omega];omega) Q) ?_ ?_
 .simp only[C9,BB];rw[show min a rows.length=a by omega,show min (a*k) B.length=a*k by omega,z,F2]
 .have:=tM (a+src.length) _ _ h
  rwa [F2,<-z] at this
def XA(S:Au)(o a n k:Nat)(rows:List (List D))(v:Value):Prop:=
 (v= .slice none 0 0/\rows=[]/\n=0/\S.ρ o=none)\/ ∃l p z,S.ρ o=some l/\v= .slice (some ⟨l.b,p,none⟩) n z/\(n≠0->p=l.p+a*k)/\a+n<=rows.length
section
variable {P:Program}{tm:List (Nat×AV)}{h:Nat->Option Ao}{nx:Nat}{o:Oper}{K:Ah}
def cG{S:Au}{m:Nat}{f e:Ab}(Z:S.h m=some (true,f))(Q: ∀l,S.ρ m=some l->l.b<S.w.heap.size)(hz:e.esz=f.esz)(hl:e.len=f.len):Ij S m e (S.ρ m) [m] S.w:=by
 refine⟨rfl,rfl,rfl,AL _,λ_ _ _=>rfl,.inl (by simp),?_,?_,?_⟩
 .intro lo O;exact⟨Q lo O,.inr ⟨m,f,lo,by simp,Z,O,rfl⟩⟩
 .intro g hg;rw[Z] at hg;obtain rfl:=Ay hg;exact⟨rfl,hz,hl⟩
 .intro n g _ z;rw[Z] at z;cases z
def Nz{C:AU}{S:Au}(hW:Wf C S){m T k a n:Nat}{rows:List (List D)}(Z:S.h m=some (true,.arr T k rows)){base:Option Addr}{dl dc:Nat}(hd:XA S m a n k rows (.slice base dl dc)){src:List (List D)}{L:List Value}
 (hm:src.length<=n)(hL:L.length=src.length*k)(hr:rdr S.ok S.hp k src L)(h1: ∀v∈L,v.oneCell'=true):
 ∃w',((match base with|some a=>storeCells a L|none=>pure ()):Sem Unit).run P S.w= .ok () w'/\Ij S m (.arr T k (rows.take a++src++rows.drop (a+src.length))) (S.ρ m) [m] w'/\
  (Bv (λn'=>S.h m≠none\/n'≠m) S (S.one m (.arr T k (rows.take a++src++rows.drop (a+src.length))) (S.ρ m) [m] w')->An (S.one m (.arr T k (rows.take a++src++rows.drop (a+src.length))) (S.ρ m) [m] w') (S.ρ m) (.arr T k (rows.take a++src++rows.drop (a+src.length)))):=by
 have z:=hW.obj _ _ Z;by_cases hs:src=[]
 .subst hs;simp only[FA,gR,Xl] at hL;subst hL;have e:rows.take a++([]:List (List D))++rows.drop (a+([]:List (List D)).length)=rows:=by simp
  rw[e];refine⟨S.w,by cases base<;>simp[storeCells],cG Z (λl Q=>(hW.loc m _ l Z Q).1) rfl rfl,λhp=> ?_⟩;exact Ho hp (λ_ _=>rfl) _ (by simp[Ab.nms]) z
 .have ad:0<src.length:=gD.2 hs;rcases hd with ⟨_,_,rfl,_⟩|⟨l,p,cp,Q,hv,hp,ha⟩
  .omega
  .simp only[Value.slice.injEq] at hv;obtain⟨rfl,rfl,rfl⟩:=hv;have hp:=hp (by omega);subst hp;rw[Q] at z;simp only[An] at z;obtain⟨g0,g1,vs,g2,g3,g4⟩:=z;have ac:rows.length*k<=l.cap*k:=HI _ g1;have aa:(a+src.length)*k<=rows.length*k:=HI _ (by omega);rw[F2] at aa;have hvs:vs.toList.length=vs.size:=Dg;obtain⟨w',r1,r2,r3,r4,r5⟩:=Qf9 (P:=P) (w:=S.w) (b:=l.b) (p:=l.p+a*k) (T:=T) L 0 vs h1 (by omega) g2;have O:(rows.take a++src++rows.drop (a+src.length)).length=rows.length:=by simp;omega
   rw[Q];refine⟨w',r1,ZQ hW Z Q r2 r3 r4 r5 rfl O,λab=> ?_⟩;simp only[An];rw[O];refine⟨g0,g1,_,fT (hW.loc m _ l Z Q).1 r2,?_,?_⟩
   .simp only[Ky,Cb,C9,BB,Ce];omega
   .have h9:=TX g4 (by rw[Ce,hvs];omega) hr hL (by omega:a+src.length<=rows.length)
    have:=ZI ab.ok k _ _ h9
    simp only[Lx];rw[zY _ _ _ _ (by rw[hvs];omega)];exact this
def Qqv{C:AU}{S:Au}(hW:Wf C S){X:AV}{v:Value}{m a n T k:Nat}{rows:List (List D)}(Q:VC h X=some (m,a,n,T,k,rows))(hu:S.h m=h m)(O:Aa S X v):
 S.h m=some (true,.arr T k rows)/\XA S m a n k rows v/\X.nms=[m]:=by
 cases X<;>simp only[VC,reduceCtorEq] at Q
 case own q=>
  cases hq:h q with
  |none=>rw[hq] at Q;cases Q
  |some e=>
   obtain⟨mu,e⟩:=e;rw[hq] at Q;cases mu<;>cases e<;>simp only[RO,reduceCtorEq,AI,En] at Q;obtain⟨rfl,rfl,rfl,rfl,rfl,rfl⟩:=Q;have Z:=hu.trans hq;refine⟨Z,?_,rfl⟩;simp only[Aa] at O;have O:=O.2 _ Z;have z:=hW.obj _ _ Z;simp only[An] at z;unfold XA;cases hl:S.ρ q with
   |none=>
    rw[hl] at O z;exact .inl ⟨O,z.2,by rw[z.2];rfl,rfl⟩
   |some l=>
    rw[hl] at O;exact .inr ⟨l,l.p,l.cap,rfl,O,λ_=>by omega,by omega⟩
 case osl q wa wn=>
  cases hq:h q with
  |none=>rw[hq] at Q;cases Q
  |some e=>
   obtain⟨mu,e⟩:=e;rw[hq] at Q;cases mu<;>cases e<;>simp only[RP,reduceCtorEq,AI,En] at Q;obtain⟨rfl,rfl,rfl,rfl,rfl,rfl⟩:=Q;have Z:=hu.trans hq;refine⟨Z,?_,rfl⟩;simp only[Aa] at O;have O:=O.2 _ Z;have z:=hW.obj _ _ Z;simp only[An] at z;unfold PW at O;unfold XA;cases hl:S.ρ q with
   |none=>
    rw[hl] at O z;exact .inl ⟨O.1,z.2,O.2,rfl⟩
   |some l=>
    rw[hl] at O;obtain⟨p,cp,h1,h2,h3,h4⟩:=O;exact .inr ⟨l,p,cp,rfl,h1,h3,h4⟩
def Rn{S:Au}: ∀(ds:List D) (vs:List Value),BT ds=true->rdl S.ok S.hp ds vs-> ∀v∈vs,v.oneCell'=true:=by
 intro ds vs h z;exact lI (S:=S) _ _ (Qsa ds h) ((IB _ _).2 z)
def Qaby{C:AU}{S:Au}(hW:Wf C S){X:AV}{v:Value}{u:List Nat}{ks z:Nat}{src:List (List D)}(Z:fZ h X=some (u,ks,src))(hu: ∀n∈u,S.h n=h n)(Q:Aa S X v)(hz:z≠0)(hk:ks=z\/src=[])(af:Ck BT src):
 (Builtin.lenOf v).run P S.w= .ok src.length S.w/\ ∀n,n<=src.length-> ∃L,(Builtin.firstCells z n v).run P S.w= .ok L.toArray S.w/\L.length=(src.take n).length*z/\rdr S.ok S.hp z (src.take n) L/\ ∀v∈L,v.oneCell'=true:=by
 have ad: ∀(b p cp:Nat) (vs:Array Value) (T:TypeId) (fr:Nat×Nat),v= .slice (some ⟨b,p,none⟩) src.length cp->(src≠[]->S.hp b=some (.cells vs T fr)/\p+src.length*z<=vs.size/\rdr S.ok S.hp z src (vs.toList.drop p))->
  (Builtin.lenOf v).run P S.w= .ok src.length S.w/\ ∀n,n<=src.length-> ∃L,(Builtin.firstCells z n v).run P S.w= .ok L.toArray S.w/\L.length=(src.take n).length*z/\rdr S.ok S.hp z (src.take n) L/\ ∀v∈L,v.oneCell'=true:=by
  rintro b p cp vs T fr rfl h1;refine⟨by simp[Builtin.lenOf],λn hn=> ?_⟩;by_cases hs:src=[]
  .subst hs;simp only[FA,Nat.le_zero_eq] at hn;subst hn;exact⟨[],by simp[Builtin.firstCells,loadCells,loadCellsFrom],by simp,by simp[rdr],by simp⟩
  .obtain⟨g1,g2,g3⟩:=h1 hs;have ak:n*z<=src.length*z:=HI _ hn;have hvs:vs.toList.length=vs.size:=Dg;have ab:(src.take n).length=n:=by rw[BB];omega
   have hr:=Qrl (src.take n) _ (lV n _ _ g3) (by rw[ab,Ce,hvs];omega);rw[ab] at hr;refine⟨(vs.toList.drop p).take (n*z),lK (w:=S.w) g1 (by omega),by rw[ab,BB,Ce,hvs];omega,hr,?_⟩;have ag:=lX _ _ hr
   have:=uI _ _ (Qyt (λx Z=>af x (wP Z))) ag (by rw[show (Be (src.take n)).length=(src.take n).length by simp[Be],ab,BB,Ce,hvs];omega)
   rw[show (Be (src.take n)).length=(src.take n).length by simp[Be],ab,DE (by rw[BB];omega)] at this;exact this
 have nil:(∃ao,v= .slice ao 0 0)->src=[]->(Builtin.lenOf v).run P S.w= .ok src.length S.w/\ ∀n,n<=src.length-> ∃L,(Builtin.firstCells z n v).run P S.w= .ok L.toArray S.w/\L.length=(src.take n).length*z/\rdr S.ok S.hp z (src.take n) L/\ ∀v∈L,v.oneCell'=true:=by
  rintro⟨ao,rfl⟩ rfl;refine⟨by simp[Builtin.lenOf],λn hn=>⟨[],?_,by simp,by simp[rdr],by simp⟩⟩;have ah:n=0:=by simpa using hn
  subst ah;cases ao<;>simp[Builtin.firstCells,loadCells,loadCellsFrom]
 cases X<;>simp only[fZ,reduceCtorEq] at Z
 case im d=>
  cases d<;>simp only[reduceCtorEq,AI,En] at Z;obtain⟨rfl,rfl,rfl⟩:=Z;simp only[Aa,rd] at Q;rcases Q with ⟨h1,h2⟩|⟨b,p,cap,vs,T,fr,h1,_,h2,h3,_,h5,h6⟩
  .exact nil (uU h1) h2
  .refine ad b p cap vs T fr h1 λhs=> ?_
   have aa:=hk.resolve_right hs;subst aa;have hl:=Qxq _ _ h6 hz;have hvs:vs.toList.length=vs.size:=Dg;rw[Ce,hvs] at hl;have aj:0<_:=Nat.mul_pos (gD.2 hs) (Nat.pos_of_ne_zero hz);exact⟨h5,by omega,h6⟩
 case own q=>
  cases hq:h q with
  |none=>rw[hq] at Z;cases Z
  |some e=>
   obtain⟨mu,e⟩:=e;rw[hq] at Z;cases e<;>simp only[iJ,reduceCtorEq,AI,En] at Z;rename_i T k rows;obtain⟨rfl,rfl,rfl⟩:=Z;have hS:=(hu q (by simp)).trans hq;simp only[Aa] at Q;have Q:=Q.2 _ hS;have O:=hW.obj _ _ hS;simp only[An] at O;cases hl:S.ρ q with
   |none=>rw[hl] at Q O;exact nil ⟨_,Q⟩ O.2
   |some l=>
    rw[hl] at Q O;obtain⟨g0,g1,vs,g2,g3,g4⟩:=O;refine ad l.b l.p l.cap vs T (0,0) Q λhs=> ?_
    have aa:=hk.resolve_right hs;subst aa
    have:=HI k g1
    exact⟨g2,by omega,g4⟩
 case osl q wa wn=>
  cases hq:h q with
  |none=>rw[hq] at Z;cases Z
  |some e=>
   obtain⟨mu,e⟩:=e;rw[hq] at Z;cases e<;>simp only[iK,reduceCtorEq,AI,En] at Z;rename_i T k rows;obtain⟨rfl,rfl,rfl⟩:=Z;have hS:=(hu q (by simp)).trans hq;simp only[Aa] at Q;have Q:=Q.2 _ hS;have O:=hW.obj _ _ hS;simp only[An] at O;unfold PW at Q;cases hl:S.ρ q with
   |none=>rw[hl] at Q O;exact nil ⟨_,Q.1⟩ (by rw[O.2];simp)
   |some l=>
    rw[hl] at Q O;obtain⟨g0,g1,vs,g2,g3,g4⟩:=O;obtain⟨p,cp,q1,q2,q3,q4⟩:=Q;simp only[Ab.esz,Ab.len] at q3 q4;have ac:((rows.drop wa).take wn).length=wn:=by rw[BB,Ce];omega
    refine ad l.b p cp vs T (0,0) (by rw[ac];exact q1) λhs=> ?_
    have ai:wn≠0:=λh0=>hs (by rw[h0];simp)
    have aa:=hk.resolve_right hs;subst aa;have hp:=q3 ai;subst hp;have h9:=HI k (show wa+wn<=l.cap by omega);rw[F2] at h9;refine⟨g2,by rw[ac];omega,?_⟩
    have:=lV wn _ _ (tM wa _ _ g4)
    rwa [DU] at this
def O2(rows src:List (List D))(a m:Nat)(z:m<=src.length):fR rows a m src=rows.take a++src.take m++rows.drop (a+(src.take m).length):=by
 unfold fR;rw[BB,show min m src.length=m by omega]
def UH{T U:TypeId}{d s:Operand}{c:Call}(ho:o.op= .call c)(Q:c.callee= .builtin .copy)(O:c.args= #[d,s])(aq:c.argTypes= #[T,U])
 (z:Bg (Qzd P h (Ax tm d) (Ax tm s) K) (tI P T)):Cj P tm h nx o K:=by
 have ag:d∈o.op.operands:=by rw[ho];simp[Op.operands,Call.operands,O,Q]
 have ab:s∈o.op.operands:=by rw[ho];simp[Op.operands,Call.operands,O,Q]
 cases hT:tI P T with
 |none=>rw[hT] at z;exact z.elim
 |some ti=>
 rw[hT] at z;simp only[Bg,Qzd] at z;cases hf:ti.kind<;>rw[hf] at z<;>try exact z.elim
 rename_i e;have hu:=Qa hT hf;simp only[RS] at z;cases hE:tI P e with
 |none=>rw[hE] at z;exact z.elim
 |some te=>
 rw[hE] at z;simp only[Bg] at z;cases hs:fZ h (Ax tm s) with
 |none=>rw[hs] at z;exact z.elim
 |some q=>
 cases hd:VC h (Ax tm d) with
 |none=>rw[hs,hd] at z;exact z.elim
 |some q'=>
 obtain⟨u,ks,src⟩:=q;obtain⟨m,a,n,T',k,rows⟩:=q';rw[hs,hd] at z;simp only[RQ] at z;obtain⟨an,am,hz,af,z⟩:=z;subst an;have ak:h m≠none:=by
  intro h0;cases hX:Ax tm d<;>rw[hX] at hd<;>simp only[VC,reduceCtorEq] at hd
  .rename_i q;cases hq:h q with
   |none=>rw[hq] at hd;cases hd
   |some e=>
    obtain⟨mu,e⟩:=e;rw[hq] at hd;cases mu<;>cases e<;>simp only[RO,reduceCtorEq,AI,En] at hd;rw[hd.1,h0] at hq;cases hq
  .rename_i q _ _;cases hq:h q with
   |none=>rw[hq] at hd;cases hd
   |some e=>
    obtain⟨mu,e⟩:=e;rw[hq] at hd;cases mu<;>cases e<;>simp only[RP,reduceCtorEq,AI,En] at hd;rw[hd.1,h0] at hq;cases hq
 refine⟨_,_,BH.one (u:=m::u) (ks:=[m]) (m:=m) (cnt:=0) (.inr ⟨rfl,by simp,ak⟩) ?_,z⟩;intro C S ac hW ah _ _ aa;have h1:=aa d ag;have h2:=aa s ab;obtain⟨d1,d2,_⟩:=Qqv hW hd (ah m (by simp)) h1;obtain⟨s1,s2⟩:=Qaby (P:=P) hW hs (λx hx=>ah x (by simp[hx])) h2 hz am af;have Z:min src.length n<=src.length:=Nat.min_le_left _ _;obtain⟨L,l1,l2,l3,l4⟩:=s2 _ Z;have ao:(src.take (min src.length n)).length=min src.length n:=by rw[BB];omega
 have aj: ∃base dl dc,ac.eval d= .slice base dl dc/\dl=n:=by
  rcases d2 with ⟨e1,_,e2,_⟩|⟨l,p,cp,_,e1,_⟩
  .exact⟨none,0,0,e1,e2.symm⟩
  .exact⟨_,_,_,e1,rfl⟩
 obtain⟨base,dl,dc,hv,rfl⟩:=aj;rw[hv] at d2;obtain⟨w',w1,w2,w3⟩:=Nz (P:=P) hW d1 d2 (src:=src.take (min src.length dl)) (by rw[ao];exact gU _ _) l2 l3 l4;rw[<-O2 _ _ _ _ Z] at w2 w3;have ai:(underlying T).run P S.w= .ok (.slice e) S.w:=by simp[underlying,hu]
 refine⟨.int .i64 (min src.length dl:Nat),w',S.ρ m,.inl ?_,w2,λhp=>⟨w3 hp,by simp only[Aa,rd]⟩⟩;simp only[execOp,ho,resolve,Q,O,aq,Sem.run_bind,Sem.run_pure,Result.andThen_ok,invoke,builtin];cases base with
 |none=>
  simp only[Sem.run_pure,Result.ok.injEq,Xp] at w1;subst w1;simp[Builtin.copy_,hv,ai,s1,JA hE,l1,goInt]
 |some ad=>
  simp only at w1;simp[Builtin.copy_,hv,ai,s1,JA hE,l1,goInt,w1]
def P0{T:TypeId}{d:Operand}{c:Call}(ho:o.op= .call c)(aa:c.callee= .builtin .clear)(Z:c.args= #[d])(aq:c.argTypes= #[T])
 (O:Bg (Qrt P h (Ax tm d) K) (tI P T)):Cj P tm h nx o K:=by
 have ag:d∈o.op.operands:=by rw[ho];simp[Op.operands,Call.operands,Z,aa]
 cases hT:tI P T with
 |none=>rw[hT] at O;exact O.elim
 |some ti=>
 rw[hT] at O;simp only[Bg,Qrt] at O;cases hf:ti.kind<;>rw[hf] at O<;>try exact O.elim
 rename_i e;have hu:=Qa hT hf;simp only[RC] at O;cases hE:tI P e with
 |none=>rw[hE] at O;exact O.elim
 |some te=>
 rw[hE] at O;simp only[Bg] at O;cases hd:VC h (Ax tm d) with
 |none=>rw[hd] at O;exact O.elim
 |some q'=>
 obtain⟨m,a,n,T',k,rows⟩:=q';rw[hd] at O;simp only[X2] at O;obtain⟨an,hz,aj,aw,O⟩:=O;subst an;obtain⟨z,az,a0,ai⟩:=eL hE aj hz;have am:h m≠none:=by
  intro h0;cases hX:Ax tm d<;>rw[hX] at hd<;>simp only[VC,reduceCtorEq] at hd
  .rename_i q;cases hq:h q with
   |none=>rw[hq] at hd;cases hd
   |some e=>
    obtain⟨mu,e⟩:=e;rw[hq] at hd;cases mu<;>cases e<;>simp only[RO,reduceCtorEq,AI,En] at hd;rw[hd.1,h0] at hq;cases hq
  .rename_i q _ _;cases hq:h q with
   |none=>rw[hq] at hd;cases hd
   |some e=>
    obtain⟨mu,e⟩:=e;rw[hq] at hd;cases mu<;>cases e<;>simp only[RP,reduceCtorEq,AI,En] at hd;rw[hd.1,h0] at hq;cases hq
 refine⟨_,_,BH.one (u:=[m]) (ks:=[m]) (m:=m) (cnt:=0) (.inr ⟨rfl,by simp,am⟩) ?_,O⟩;intro C S ac hW au _ _ ah;have h1:=ah d ag;obtain⟨d1,d2,_⟩:=Qqv hW hd (au m (by simp)) h1;have av:z.cells.toList≠[]:=by
  intro hh
  have:z.cells.size=0:=by rw[<-Dg,hh];rfl
  omega
 have a8:(Builtin.zeroCells z.cells n).toList=Ch n z.cells.toList:=by
  unfold Builtin.zeroCells;rw[<-Qrv _ av n,Xh,ZeB,Dg];apply JJ;intro i _;exact Qxx _ _
 have ak: ∃base Q dc,ac.eval d= .slice base Q dc/\Q=n:=by
  rcases d2 with ⟨e1,_,e2,_⟩|⟨l,p,cp,_,e1,_⟩
  .exact⟨none,0,0,e1,e2.symm⟩
  .exact⟨_,_,_,e1,rfl⟩
 obtain⟨base,Q,dc,hv,rfl⟩:=ak;rw[hv] at d2;have ao: ∀(n:Nat) (x:List Value),(Ch n x).length=n*x.length:=by
  intro n x;induction n with
  |zero=>simp[Ch]
  |succ n ih=>simp[Ch,ih,wY];omega
 have ax:z.cells.toList.length=te.size:=by rw[Dg];exact a0
 have af: ∀(n:Nat) (x:List Value),(∀v∈x,v.oneCell'=true)-> ∀v∈Ch n x,v.oneCell'=true:=by
  intro n x hx;induction n with
  |zero=>simp[Ch]
  |succ n ih=>
   intro v hv;simp only[Ch,Bn] at hv;rcases hv with hv|hv
   .exact hx v hv
   .exact ih v hv
 have ay: ∀v∈z.cells.toList,v.oneCell'=true:=Rn (S:=S) _ _ aw (ai _ _);obtain⟨w',w1,w2,w3⟩:=Nz (P:=P) hW d1 d2 (src:=List.replicate Q te.zero) (L:=Ch Q z.cells.toList) (by simp) (by rw[ao,ax,Oc]) (by rw[<-aj];exact Qx7 (ai _ _) Q Q (AL _)) (af _ _ ay);have he:rows.take a++List.replicate Q te.zero++rows.drop (a+(List.replicate Q te.zero).length)=fR rows a Q (List.replicate Q te.zero):=by
  unfold fR;rw[Oc,DE (l:=List.replicate Q te.zero) (by simp)]
 rw[he] at w2 w3;have ab:(underlying T).run P S.w= .ok (.slice e) S.w:=by simp[underlying,hu]
 refine⟨.tuple #[],w',S.ρ m,.inl ?_,w2,λhp=>⟨w3 hp,by simp only[Aa]⟩⟩;simp only[execOp,ho,resolve,aa,Z,aq,Sem.run_bind,Sem.run_pure,Result.andThen_ok,invoke,builtin];cases base with
 |none=>
  simp only[Sem.run_pure,Result.ok.injEq,Xp] at w1;subst w1;simp[Builtin.clear_,hv,ab]
 |some ad=>
  simp only at w1;cases Q with
  |zero=>
   simp only[Ch] at w1
   have:w'=S.w:=by
    simp[storeCells] at w1;exact w1.symm
   subst this;simp[Builtin.clear_,hv,ab]
  |succ n=>
   simp[Builtin.clear_,hv,ab,az,a8,w1]
end
section
variable {P:Program}{tm:List (Nat×AV)}{h:Nat->Option Ao}{nx:Nat}{o:Oper}{K:Ah}
def UI{op:BinOp}{T U:TypeId}{x y:Operand}(ho:o.op= .binOp op T x y U)(hy:Gs y=1)(hk:Bg (Qst P h T op (Ax tm x) K) (tI P T)):Kx P tm h nx o K:=by
 cases hT:tI P T with
 |none=>rw[hT] at hk;exact hk.elim
 |some ti=>
 rw[hT] at hk;simp only[Bg,Qst] at hk;cases hf:ti.kind<;>rw[hf] at hk<;>try exact hk.elim
 rename_i e;have hu:=Qa hT hf;have ac:op= .eql\/op= .neq:=by cases op<;>first|exact .inl rfl|exact .inr rfl|exact hk.elim
 have z:N6 h (decide (op= .neq)) K (Ax tm x):=by rcases ac with rfl|rfl<;>exact hk
 have ai:y= .const (.slice none 0 0):=by
  cases y with
  |const v=>
   simp only[Gs] at hy;unfold Gu at hy;split at hy<;>first|rfl|cases hy
  |_=>cases hy
 intro C S a next Q hW hh ak hnm af hn
 have O:=af x (by rw[ho];simp[Op.operands]);have aj: ∃base l c E,a.eval x= .slice base l c/\(∀f:Nat->Option Ao,E.appf f=f)/\E.cnt=0/\K (.im (.bool (decide (op= .neq) !=base.isNone))) E:=by
  cases hx:Ax tm x<;>rw[hx] at z O<;>simp only[N6] at z
  case im d=>
   cases d<;>try exact z.elim
   rename_i nz k rows;simp only[Aa,rd] at O;rcases O with ⟨O,h2⟩|⟨b,p,cap,vs,T,fr,O,_⟩
   .rcases O with O|⟨_,ad,O⟩
    .exact⟨none,0,0,{},O,λf=>by funext m;simp[Bk.appf,hget],rfl,z true (λ_=>h2)⟩
    .exact⟨some ad,0,0,{},O,λf=>by funext m;simp[Bk.appf,hget],rfl,z false (λh=>by cases h)⟩
   .exact⟨_,_,_,{},O,λf=>by funext m;simp[Bk.appf,hget],rfl,z false (λh=>by cases h)⟩
  case own n=>
   cases hq:h n with
   |none=>rw[hq] at z;exact z.elim
   |some ab=>
    obtain⟨mu,ab⟩:=ab;rw[hq] at z;have hS:=(hh n).trans hq;simp only[Aa] at O;have O:=O.2 _ hS;have Z:=hW.obj _ _ hS;have aa: ∀{α:Type} (rows:List α),(S.ρ n=none->rows=[])->Sg (decide (op= .neq)) K {use:=[n]} rows-> ∃base l c E,a.eval x= .slice base l c/\(∀f:Nat->Option Ao,E.appf f=f)/\E.cnt=0/\K (.im (.bool (decide (op= .neq) !=base.isNone))) E:=by
     intro α rows hr hk;cases hl:S.ρ n with
     |none=>
      rw[hl] at O;exact⟨none,0,0,{use:=[n]},O,Qnd [n],rfl,hk true (λ_=>hr hl)⟩
     |some l=>
      rw[hl] at O;exact⟨_,_,_,{use:=[n]},O,Qnd [n],rfl,hk false (λh=>by cases h)⟩
    cases ab<;>try exact z.elim
    .rename_i T k rows;refine aa rows (λhl=> ?_) z;simp only[An] at Z;rw[hl] at Z;exact Z.2
    .rename_i T k rows;refine aa rows (λhl=> ?_) z;simp only[An] at Z;rw[hl] at Z;exact Z.2
 obtain⟨base,l,c,E,hv,hE,hc,hK⟩:=aj;have ah:a.eval y= .slice none 0 0:=by rw[ai];rfl
 have hq:(Op.equal T (.slice base l c) (.slice none 0 0)).run P S.w= .ok base.isNone S.w:=by rw[W9];exact K6 hu _ _ _ _
 have hg:(eqGuard op T x y (.slice base l c) (.slice none 0 0)).run P S.w= .ok () S.w:=by rcases ac with rfl|rfl<;>simp[eqGuard]
 have hb:(binOp op T (.slice base l c) (.slice none 0 0)).run P S.w= .ok (.bool (decide (op= .neq) !=base.isNone)) S.w:=by
  rcases ac with rfl|rfl
  .have:binOp .eql T (.slice base l c) (.slice none 0 0)=(do pure (.bool (<-Op.equal T (.slice base l c) (.slice none 0 0)))):=rfl
   rw[this];simp[hq]
  .have:binOp .neq T (.slice base l c) (.slice none 0 0)=(do pure (.bool (!(<-Op.equal T (.slice base l c) (.slice none 0 0))))):=rfl
   rw[this];simp[hq]
 have ag:(execOp a.eval o).run P S.w= .ok (.value (.bool (decide (op= .neq) !=base.isNone))) S.w:=by
  simp only[execOp,ho,hv,ah,Sem.run_bind,hg,Result.andThen_ok,hb,Sem.run_pure]
 unfold Oper.wp;rw[ag,Oper.upon_value];exact hn _ E _ S hK hW (hE S.h).symm (Bv.refl _ _) (by simp only[Aa,rd])
def Qpi{T e:TypeId}(z:VA P T=some e): ∃d,P.underlying T=some (.chan d e):=by
 unfold VA at z;split at z
 .rename_i d e' O;cases z;exact⟨d,O⟩
 .cases z
def Qvf{T:TypeId}{x:Operand}(ho:o.op= .makeChan T x)(z:Qi6 P nx (Ax tm x) K T):Cj P tm h nx o K:=by
 unfold Qi6 at z;cases hc:VA P T with
 |none=>rw[hc] at z;exact z.elim
 |some e=>
 rw[hc] at z;simp only[mcK] at z;obtain⟨dr,hu⟩:=Qpi hc;have ag: ∃n,Ax tm x= .im (.int .i64 n)/\Bg (mcE nx n K) (tI P e):=by
  revert z;generalize Ax tm x=X;intro z;cases X<;>try exact z.elim
  rename_i d;cases d<;>try exact z.elim
  rename_i k n;cases k<;>try exact z.elim
  exact⟨n,rfl,z⟩
 obtain⟨n,hx,z⟩:=ag;cases hE:tI P e with
 |none=>rw[hE] at z;exact z.elim
 |some te=>
 rw[hE] at z;simp only[Bg,mcE] at z;obtain⟨h0,hn,ai,z⟩:=z;obtain⟨i,u,hi,am,ak,ab,_⟩:=Qd hE;refine⟨_,_,BH.one (u:=[]) (ks:=[]) (.inl ⟨rfl,rfl⟩) ?_,z⟩;intro C S a hW _ aa O Q;have h1:=Q x (by rw[ho];simp[Op.operands]);rw[hx] at h1;simp only[Aa,rd] at h1;have Z:(execOp a.eval o).run P S.w= .ok (.value (.chan (some S.w.heap.size))) {S.w with heap:=S.w.heap.push (.chan n.toNat #[] false 0 0 false)}:=by
  have ad: ∀w,(typeInfo e).run P w= .ok i w:=λw=>by simp[typeInfo,hi]
  have ah:(i.bytes:Int)*n<=2^48 - 112:=by
   rw[<-ab];have h3:(te.bytes:Int)*n<=65536*n:=Zef (by omega) h0;omega
  have af:(underlying T).run P S.w= .ok (.chan dr e) S.w:=by simp[underlying,hu]
  have ac: ¬(n<0\/n>IntKind.i64.max\/(i.bytes:Int)*n>2^48 - 112):=by
   have:IntKind.i64.max=9223372036854775807:=by decide
   omega
  simp only[execOp,ho,h1,Instr.makeChan,Sem.run_bind,asInt,asIntOf,Sem.run_pure,Result.andThen_ok,af,ad];simp[ac];intro h9;exfalso;omega
 refine⟨_,_,some ⟨S.w.heap.size,0,0⟩,.inl Z,V4 (w':={S.w with heap:=S.w.heap.push (.chan n.toNat #[] false 0 0 false)}) rfl rfl rfl rfl (aa rfl) (λn f hf=>O n f hf rfl),?_⟩;intro hp;constructor
 .simp only[An];exact⟨_,#[],0,0,rfl,ZX rfl,by simp[rdl]⟩
 .simp only[Aa];exact⟨rfl,λe' aj=>⟨⟨S.w.heap.size,0,0⟩,by simp[Au.one],rfl⟩⟩
def P4{T:TypeId}{x:Operand}{c:Call}{q:Nat}(ho:o.op= .call c)(ac:c.callee= .builtin .len)(Z:c.args= #[x])(ai:c.argTypes= #[T])(hx:Ax tm x= .ch q)
 (z:SV q h K (VA P T)):Cj P tm h nx o K:=by
 cases hc:VA P T with
 |none=>rw[hc] at z;exact z.elim
 |some e=>
 rw[hc] at z;simp only[SV] at z;obtain⟨dr,hu⟩:=Qpi hc;cases hq:h q with
 |none=>rw[hq] at z;exact z.elim
 |some Q=>
 obtain⟨mu,Q⟩:=Q;rw[hq] at z;cases Q<;>try exact z.elim
 refine ZU (u:=[q]) ho ac Z ai ?_ z;intro C S v hW aj aa;rw[hx] at aa;simp only[Aa] at aa;have hS:=(aj q (by simp)).trans hq;obtain⟨l,hl,rfl⟩:=aa.2 _ hS;have ad:=hW.obj _ _ hS;simp only[An] at ad;obtain⟨lc,ah,ag,af,h1,h2,h3⟩:=ad;rw[hl] at h1;obtain rfl:=Ay h1;have O:=fF _ _ h3;simp only[Dg] at O;rename_i q0 ab;have hg:(getObj l.b).run P S.w= .ok (.chan ab ah false ag af false) S.w:=by simp[getObj,Sem.run,show S.w.heap[l.b]? =_ from h2]
 have ak:(underlying T).run P S.w= .ok (.chan dr e) S.w:=by simp[underlying,hu]
 simp[Builtin.len_,ak,hg,goInt,O]
def P6{T:TypeId}{x:Operand}(hD: ∀(tk te:TypeId) (kt:KT) (es:List (D×D)),P.underlying T=some (.map tk te)->Ax tm x= .im (.mp kt es)->K (.it nx) {new:=[(nx,(true,.iter none es))],cnt:=1}->Cj P tm h nx o K)(ho:o.op= .range T x)(O:Bg (Qsh h nx (Ax tm x) K) (tI P T)):Cj P tm h nx o K:=by
 cases hT:tI P T with
 |none=>rw[hT] at O;exact O.elim
 |some ti=>
 rw[hT] at O;simp only[Bg,Qsh] at O;cases hf:ti.kind<;>rw[hf] at O<;>try exact O.elim
 rename_i tk te;have hu:=mU hT hf;simp only[Ui] at O;cases hx:Ax tm x<;>rw[hx] at O<;>try exact O.elim
 case im d=>
  cases d<;>try exact O.elim
  exact hD _ _ _ _ hu hx O
 rename_i q;simp only[rgM] at O;cases hq:h q with
 |none=>rw[hq] at O;exact O.elim
 |some ac=>
 obtain⟨mu,ac⟩:=ac;rw[hq] at O;cases ac<;>try exact O.elim
 rename_i kt es;simp only[Uj] at O;refine⟨_,_,?_,O⟩;intro C S a next Q hW ay aw hnm aq hn
 have h1:=aq x (by rw[ho];simp[Op.operands]);rw[hx] at h1;simp only[Aa] at h1;have hS:=(ay q (by simp)).trans hq;obtain⟨l,hl,hv⟩:=h1.2 _ hS;have am:=hW.obj _ _ hS;simp only[An] at am;obtain⟨lc,Z,z,g1,g2,g3,g4,g5,g6⟩:=am;rw[hl] at g1;obtain rfl:=Ay g1;have af:=aw nx ⟨AL _,by show nx<nx+1;omega⟩;have a8:q≠nx:=λh'=>by subst h';rw[hS] at af;cases af
 let X:Nat->Bool:=λn=> !(n==q)
 have ai:X q=false:=by simp[X]
 have ah:Wf C (S.ice X):=V6 hW;have ag:(S.ice X).h q=some (false,.map kt es):=by simp[Au.ice,hS,ai]
 have ao:(S.ice X).ok l.b:=mQ hW ai ag rfl hl;have ak:(S.ice X).h nx=none:=by simp[Au.ice,af]
 let w':World:={S.w with heap:=S.w.heap.push (.mapIter (some l.b) z #[] z)}
 have hg:(getObj l.b).run P S.w= .ok (.map Z z) S.w:=PY (w:=S.w) g3;have az:(underlying T).run P S.w= .ok (.map tk te) S.w:=by simp[underlying,hu]
 have au:(execOp a.eval o).run P S.w= .ok (.value (.pointer (some ⟨S.w.heap.size,0,none⟩))) w':=by
  simp only[execOp,ho,hv,Instr.range,Sem.run_bind,az,Result.andThen_ok,hg,Sem.run_pure];simp[w']
 have ab:Ij (S.ice X) nx (.iter none es) (some ⟨S.w.heap.size,0,0⟩) [] w':=V4 (S:=S.ice X) (w':=w') rfl rfl rfl rfl ak (by
  intro n f hf ax;obtain⟨e,he,rfl⟩:=V0 hf;exact hnm n e he nx ax ⟨AL _,by show nx<nx+1;omega⟩)
 have hp:=WC ah ab;have hb:=hW.oks;have a0:l.b<S.w.heap.size:=(hW.loc q _ l hS hl).1;have an:An ((S.ice X).one nx (.iter none es) (some ⟨S.w.heap.size,0,0⟩) [] w') (some ⟨S.w.heap.size,0,0⟩) (.iter none es):=by
  simp only[An];obtain⟨p1,p2⟩:=hp.ok l.b ao;refine⟨_,l.b,Z,z,#[],rfl,p1,trivial,p2.trans g3,?_,g5,g6,?_⟩
  .have:=ZX (S:=S.ice X) (nx:=nx) (e:= .iter none es) (l:=some ⟨S.w.heap.size,0,0⟩) (ks:=[]) (w':=w') (ob:= .mapIter (some l.b) z #[] z) rfl
   exact this
  .have h9:Z.toList.filter (λe=> !(#[]:Array Nat).contains e.born)=Z.toList:=by
    rw[wT];intro e _;simp
   rw[h9];exact Li hp.ok _ _ (Li (Hn S X).ok _ _ g4)
 have av:=ZY ah ab an;unfold Oper.wp;rw[au,Oper.upon_value];refine hn _ _ av ?_ ?_ ?_
 .funext n;simp only[Au.one,Bk.appf,hget];by_cases ad:n=nx
  .subst ad;simp
  .have e1:(nx==n)=false:=by rw[HJ];exact λh=>ad h.symm
   rw[Af ad,e1];by_cases aa:n=q
   .subst aa;simp[ag]
   .have e2:(q==n)=false:=by rw[HJ];exact λh=>aa h.symm
    have e3:X n=true:=by simp[X,aa]
    simp only[e2,aO,Cr,Bm]
    have:([q]:List Nat).contains n=false:=by simp[aa]
    rw[this];simp only[Au.ice,e3,Fo,Bm];cases S.h n<;>rfl
 .have q1:=Hn S X;refine⟨λb hb=> ?_,λn hX e' aj=> ?_⟩
  .obtain⟨r1,r2⟩:=q1.ok b hb;obtain⟨r3,r4⟩:=hp.ok b r1;exact⟨r3,r4.trans r2⟩
  .obtain⟨e,r1,r2,r3,r4⟩:=hp.nm n (.inr (λh'=>hX ⟨by omega,by show n<nx+1;omega⟩)) e' aj;obtain⟨e0,s1,s2,s3,s4⟩:=q1.nm n trivial e r1;exact⟨e0,s1,r2.trans s2,r3.trans s3,r4.trans s4⟩
 .simp only[Aa];exact⟨rfl,λe' aj=>⟨⟨S.w.heap.size,0,0⟩,by simp[Au.one],rfl⟩⟩
def P2{x:Operand}(ho:o.op= .entry x)(O:Qsz h K (Ax tm x)):Cj P tm h nx o K:=by
 cases hx:Ax tm x<;>rw[hx] at O<;>try exact O.elim
 rename_i q;simp only[Qsz] at O;cases hq:h q with
 |none=>rw[hq] at O;exact O.elim
 |some Q=>
 obtain⟨mu,Q⟩:=Q;rw[hq] at O;cases mu<;>cases Q<;>try exact O.elim
 rename_i ac left;cases ac with
 |none=>exact O.elim
 |some p=>
 simp only[Sd] at O;refine⟨_,_,BH.pure (u:=[q]) ?_,O⟩;intro C S a hW ah ab;have h1:=ab x (by rw[ho];simp[Op.operands]);rw[hx] at h1;simp only[Aa] at h1;have hS:=(ah q (by simp)).trans hq;obtain⟨l,hl,hv⟩:=h1.2 _ hS;have aa:=hW.obj _ _ hS;simp only[An] at aa;obtain⟨lc,mb,Z,z,ad,g1,g2,⟨st,e,k1,k2,k3,k4⟩,g3,g4,g5,g6,g7⟩:=aa;rw[hl] at g1;obtain rfl:=Ay g1;refine⟨.tuple #[e.key,e.val],?_,by simp only[Aa,rd];exact⟨_,rfl,by simp only[rdl];exact⟨_,_,rfl,k3,_,_,rfl,k4,rfl⟩⟩⟩;have af:(getObj l.b).run P S.w= .ok (.mapIter (some mb) z ad z) S.w:=by simp[getObj,Sem.run,show S.w.heap[l.b]? =_ from g4]
 have ag:(getObj mb).run P S.w= .ok (.map Z z) S.w:=PY (w:=S.w) g3;simp only[execOp,ho,hv,Instr.entry,Sem.run_bind,af,Result.andThen_ok,k1,ag];simp[k2]
def TV{ok:Nat->Prop}{hp:Nat->Option Obj}: ∀(ds:List (D×D)) (es:List MapEntry) (i:Nat) (e:MapEntry),rde ok hp ds es->es[i]? =some e-> ∃p,ds[i]? =some p/\rd ok hp p.1 e.key/\rd ok hp p.2 e.val
 |[],es,i,e,h,z=>by simp only[rde] at h;subst h;simp at z
 |(x,y)::ds,es,i,e,h,z=>by
  simp only[rde] at h;obtain⟨e',r,rfl,O,Q,Z⟩:=h;cases i with
  |zero=>
   simp only[G6,AI] at z;subst z;exact⟨(x,y),rfl,O,Q⟩
  |succ i=>
   simp only[Ir] at z⊢;exact TV ds r i e Z z
def Qjl{z:Array Nat}{b:Nat}: ∀(l:List MapEntry) (i:Nat) (e:MapEntry),(l.map (·.born)).Nodup->(l.filter λe=> !z.contains e.born)[i]? =some e->e.born=b->
 (l.filter λe=> !(z.push b).contains e.born)=(l.filter λe=> !z.contains e.born).eraseIdx i
 |[],i,e,_,h,_=>by simp at h
 |x::r,i,e,Q,h,hb=>by
  simp only[Bf,Ly] at Q;have O: ∀n,(z.push b).contains n=(z.contains n||n==b):=by
   intro n;rw[Xi];simp only[Array.contains_iff_mem,Array.mem_push,Iq,Qs]
  cases hx:z.contains x.born with
  |true=>
   have e1:(!z.contains x.born)=false:=by rw[hx];rfl
   have Z:(!(z.push b).contains x.born)=false:=by rw[O,hx];rfl
   rw[wM (p:=λ(e:MapEntry)=> !(z.push b).contains e.born) (by rw[Z];simp),wM (p:=λ(e:MapEntry)=> !z.contains e.born) (by rw[e1];simp)];rw[wM (p:=λ(e:MapEntry)=> !z.contains e.born) (by rw[e1];simp)] at h;exact Qjl r i e Q.2 h hb
  |false=>
   have e1:(!z.contains x.born)=true:=by rw[hx];rfl
   rw[ZeU (p:=λ(e:MapEntry)=> !z.contains e.born) (by exact e1)] at h⊢;cases i with
   |zero=>
    simp only[G6,AI] at h;subst h;have Z:(!(z.push b).contains x.born)=false:=by rw[O,hb];simp
    rw[wM (by rw[Z];simp),ZeT];apply List.filter_congr;intro y hy
    have:(y.born==b)=false:=by
     rw[HJ,<-hb];intro h9;exact Q.1 (Bo.2 ⟨y,hy,h9⟩)
    rw[O,this,Qo]
   |succ i=>
    simp only[Ir] at h;have aa:(x.born==b)=false:=by
     rw[HJ];intro h9;have hm:e∈r.filter λe=> !z.contains e.born:=AZ h
     exact Q.1 (Bo.2 ⟨e,(gW.1 hm).1,by rw[hb,h9]⟩)
    have Z:(!(z.push b).contains x.born)=true:=by rw[O,hx,aa];rfl
    rw[ZeU (p:=λ(e:MapEntry)=> !(z.push b).contains e.born) (by exact Z),wL,Qjl r i e Q.2 h hb]
def Qvh: ∀(l:List MapEntry) (e:MapEntry),(l.map (·.born)).Nodup->e∈l->l.find? (λx=>x.born==e.born)=some e
 |[],e,_,h=>by cases h
 |x::r,e,z,h=>by
  simp only[Bf,Ly] at z;rcases Bh.1 h with rfl|h
  .simp
  .have O:(x.born==e.born)=false:=by
    rw[HJ];intro Q;exact z.1 (Bo.2 ⟨e,h,Q.symm⟩)
   rw[Zer,O];exact Qvh r e z.2 h
def UL{x:Operand}(ho:o.op= .next x false)(hk:VW h K (Ax tm x)):Kx P tm h nx o K:=by
 cases hx:Ax tm x<;>rw[hx] at hk<;>try exact hk.elim
 rename_i q;simp only[VW] at hk;cases hq:h q with
 |none=>rw[hq] at hk;exact hk.elim
 |some af=>
 obtain⟨mu,af⟩:=af;rw[hq] at hk;cases mu<;>cases af<;>try exact hk.elim
 rename_i bn left;simp only[T1] at hk;obtain⟨be,bf⟩:=hk;intro C S a next Q hW hh bo hnm ax hn
 have h1:=ax x (by rw[ho];simp[Op.operands]);rw[hx] at h1;simp only[Aa] at h1;have hS:=(hh q).trans hq;obtain⟨l,hl,hv⟩:=h1.2 _ hS;have au:=hW.obj _ _ hS;simp only[An] at au;obtain⟨lc,mb,O,z,Z,g1,g2,g0,g3,g4,g5,g6,g7⟩:=au;rw[hl] at g1;obtain rfl:=Ay g1;have bc:(getObj l.b).run P S.w= .ok (.mapIter (some mb) z Z z) S.w:=by simp[getObj,Sem.run,show S.w.heap[l.b]? =_ from g4]
 have bd:(getObj mb).run P S.w= .ok (.map O z) S.w:=PY (w:=S.w) g3;have am:(!Z.isEmpty && !O.isEmpty && O.all λe=>decide (e.born≥z))=false:=by
  cases he:O.isEmpty with
  |true=>simp
  |false=>
   have bh:O.toList≠[]:=by
    intro h9
    have:O= #[]:=aN.1 (by simpa using h9)
    rw[this] at he;simp at he
   obtain⟨e,r,hc⟩:=Zex bh;have hm:e∈O:=by rw[<-Array.mem_toList_iff,hc];simp
   have bp:=g6 e (by rw[hc];simp)
   have:(O.all λe=>decide (e.born≥z))=false:=by
    rw[Qr];intro h9;rw[Array.all_eq_true'] at h9
    have:=h9 e hm
    simp only[Bq] at this;omega
   rw[this];simp
 let F:Array MapEntry:=O.filter λe=> !Z.contains e.born
 have hF:F.toList=O.toList.filter λe=> !Z.contains e.born:=by simp[F]
 have aw:(F.filter λe=>decide (e.born<z))=F:=by
  apply Array.filter_eq_self.2;intro e he
  have:e∈O.toList:=by
   have:e∈F.toList:=by simpa using he
   rw[hF] at this;exact (gW.1 this).1
  simpa using g6 e this
 have aq:(F.filter λe=>decide (e.born≥z))= #[]:=by
  apply Array.filter_eq_empty_iff.2;intro e he
  have:e∈O.toList:=by
   have:e∈F.toList:=by simpa using he
   rw[hF] at this;exact (gW.1 this).1
  have:=g6 e this
  simp;omega
 unfold Oper.wp;have ah:(execOp a.eval o).run P S.w=((Instr.next (.pointer (some ⟨l.b,0,none⟩)) false o.type).run P S.w).andThen λv w=> .ok (.value v) w:=by
  simp only[execOp,ho,hv,Sem.run_bind,Sem.run_pure]
 obtain⟨ms,hnx⟩: ∃ms,(Instr.next (.pointer (some ⟨l.b,0,none⟩)) false o.type).run P S.w=
  ((choose (.mapNext ((if F.isEmpty then #[none] else #[])++F.map some).size)).run P S.w).andThen λi w1=>
    (match ((if F.isEmpty then #[none] else #[])++F.map some)[i]? with
     |some (some e)=>(do setObj l.b (.mapIter (some mb) z (Z.push e.born) z);pure (.tuple #[.bool true,e.key,e.val]):Sem Value)
     |some none=>pure (.tuple #[.bool false])
     |none=>stuck ms).run P w1:=by
  apply Exists.intro;have e1:(O.filter λe=> !Z.contains e.born)=F:=rfl;simp only[Instr.next,Sem.run_bind,bc,Result.andThen_ok,bd,am,CE,Cr,e1,aw,aq,Array.append_empty];congr 1
 rw[ah,hnx];by_cases ag:F.isEmpty=true
 .have ak:F= #[]:=by simpa using ag
  have bg:left=[]:=by
   rw[<-hF,ak] at g7;cases left with
   |nil=>rfl
   |cons p r=>
    obtain⟨x0,y0⟩:=p;simp only[rde] at g7;obtain⟨e,r',h9,_⟩:=g7;simp at h9
  rw[ak];simp only[Array.isEmpty_empty,BI,Array.map_empty,Array.append_empty,run_choose,Question.forced];simp only[Ky,Cv,FA,FP,AL,Zfu,BI,Result.andThen_ok];simp only[ZdE,G6,Sem.run_pure,Result.andThen_ok,Oper.upon_value];exact hn _ _ _ S (be bg) hW (Qnd [q] S.h).symm (Bv.refl _ _) (by simp only[Aa,AJ,rd];exact⟨_,rfl,_,_,rfl,rfl,rfl⟩)
 .have a8:F.isEmpty=false:=by simpa using ag
  rw[a8];simp only[CE,Cr,Array.empty_append,Array.size_map];have ad:0<F.size:=by
   rcases gJ F.size with h9|h9
   .exact absurd (by simpa using Array.eq_empty_of_size_eq_zero h9) ag
   .exact h9
  have bb: ∃i w1,(choose (.mapNext F.size)).run P S.w= .ok i w1/\i<F.size/\w1.heap=S.w.heap/\w1.os=S.w.os/\w1.tape=S.w.tape/\w1.output=S.w.output:=by
   rw[run_choose];split
   .exact⟨0,S.w,rfl,ad,rfl,rfl,rfl,rfl⟩
   .exact⟨_,_,rfl,Nat.mod_lt _ ad,rfl,rfl,rfl,rfl⟩
  obtain⟨i,w1,ba,hi,aj,bj,bl,bm⟩:=bb;rw[ba];simp only[Result.andThen_ok];have hget:(F.map some)[i]? =some (some F[i]):=by simp[hi]
  rw[hget];simp only[Sem.run_bind,Sem.run_pure];have an:w1.heap[l.b]? =some (.mapIter (some mb) z Z z):=by rw[aj];exact g4
  have a0:(setObj l.b (.mapIter (some mb) z (Z.push F[i].born) z)).run P w1= .ok () {w1 with heap:=w1.heap.setIfInBounds l.b (.mapIter (some mb) z (Z.push F[i].born) z)}:=by
   simp[setObj,Sem.run,an]
  rw[a0];simp only[Result.andThen_ok,Oper.upon_value];have ab:F.toList[i]? =some F[i]:=by simp[hi]
  rw[hF] at ab;obtain⟨p,bi,ay,az⟩:=TV left _ i F[i] g7 ab
  let w':World:={w1 with heap:=w1.heap.setIfInBounds l.b (.mapIter (some mb) z (Z.push F[i].born) z)}
  have ac:Ij S q (.iter (some p) (left.eraseIdx i)) (some l) [q] w':=ZQ hW hS hl (w':=w') (ob:= .mapIter (some mb) z (Z.push F[i].born) z) (by simp[w',aj]) bj bl bm rfl rfl;have aa:=WC hW ac;have av:An (S.one q (.iter (some p) (left.eraseIdx i)) (some l) [q] w') (some l) (.iter (some p) (left.eraseIdx i)):=by
   simp only[An];obtain⟨p1,p2⟩:=aa.ok mb g2;have ao:F[i]∈O.toList:=(gW.1 (AZ ab)).1;refine⟨l,mb,O,z,Z.push F[i].born,rfl,p1,⟨F[i].born,F[i],by simp,?_,GJ aa.ok _ _ ay,GJ aa.ok _ _ az⟩,p2.trans g3,?_,g5,g6,?_⟩
   .have:=Qvh O.toList F[i] g5 ao
    rw[<-Array.find?_toList];exact this
   .exact fT (hW.loc q _ l hS hl).1 (by simp[w',aj])
   .rw[Qjl O.toList i F[i] g5 ab rfl];exact Li aa.ok _ _ (Qpa i left _ g7)
  have a9:=ZY hW ac av;refine hn _ _ _ _ (bf i p bi) a9 ?_ ?_ ?_
  .funext n;simp only[Au.one,Bk.appf,Go.Ae.hget];by_cases ai:n=q
   .subst ai;simp
   .have:(q==n)=false:=by rw[HJ];exact λh=>ai h.symm
    simp[this,ai]
  .exact⟨aa.ok,λn hX=>aa.nm n (.inl (by rw[hS];simp))⟩
  .simp only[Aa,AJ,rd];refine⟨_,rfl,_,_,rfl,rfl,_,_,rfl,GJ aa.ok _ _ ay,_,_,rfl,GJ aa.ok _ _ az,rfl⟩
end
section
variable {P:Program}{tm:List (Nat×AV)}{h:Nat->Option Ao}{nx:Nat}{o:Oper}{K:Ah}
def Qr9{T:TypeId}{m k v:Operand}(ho:o.op= .mapUpdate T m k v\/o.op= .insert T m k v)(z:Bg (lP P h K (Ax tm m) (Ax tm k) (Ax tm v)) (tI P T)):Cj P tm h nx o K:=by
 cases hT:tI P T with
 |none=>rw[hT] at z;exact z.elim
 |some ti=>
 rw[hT] at z;simp only[Bg,lP] at z;cases hm:Ax tm m<;>rw[hm] at z<;>try exact z.elim
 rename_i q;cases hkd:Ax tm k<;>rw[hkd] at z<;>try exact z.elim
 rename_i kd;cases hvd:Ax tm v<;>rw[hvd] at z<;>try exact z.elim
 .exact Qjd ho hT hm hkd hvd z
 rename_i n;simp only at z;cases hn:h n with
 |none=>rw[hn] at z;exact z.elim
 |some af=>
 obtain⟨mu,af⟩:=af;rw[hn] at z;cases af<;>try exact z.elim
 rename_i U w rows;simp only[Tp] at z;obtain⟨ah,z⟩:=z;have ah:q≠n:=by simpa using ah
 cases v with
 |tmp t=>
  let d:D:= .sl false w rows
  let Z:List (Nat×AV):=(t,.im d)::tm
  let h':Nat->Option Ao:=λi=>if i=n then some (false,.arr U w rows) else h i
  have ag: ∀x:Operand,(∀y,Ax tm x=y->y≠ .own n)->Ax Z x=Ax tm x:=by
   intro x hx;cases x with
   |tmp u=>
    simp only[Ax,Z,A8];by_cases hu:t=u
    .subst hu;simp only[Ax] at hvd hx;exact absurd rfl (hx _ hvd)
    .have:(t==u)=false:=by simpa using hu
     rw[this];rfl
   |_=>rfl
  have ba:Ax Z m= .mp q:=by rw[ag m (λy hy=>by rw[<-hy,hm];simp)];exact hm
  have a8:Ax Z k= .im kd:=by rw[ag k (λy hy=>by rw[<-hy,hkd];simp)];exact hkd
  have aq:Ax Z (.tmp t)= .im d:=by simp[Ax,Z,A8]
  have bb:KG P h' q kd d (muF n (.arr U w rows) K) ti.kind:=by
   cases hf:ti.kind<;>rw[hf] at z<;>try exact z.elim
   rename_i a1 a2;simp only[KG] at z⊢;have hq:h' q=h q:=by simp[h',ah]
   cases hkt:BN P a1 with
   |none=>rw[hkt] at z;exact z.elim
   |some kt=>
    rw[hkt] at z;simp only[Tm] at z⊢;rw[hq];exact z
  obtain⟨r,E,bd,hK⟩:=Qjd (P:=P) (tm:=Z) (h:=h') (nx:=nx) (K:=muF n (.arr U w rows) K) ho hT ba a8 aq bb;obtain⟨a9,hK⟩:=hK;refine⟨r,_,?_,hK⟩;intro C S a next Q hW hu a0 hnm an bc
  let X:Nat->Bool:=λi=> !(i==n)
  have aj:X n=false:=by simp[X]
  have ay: ∀i,i≠n->X i=true:=λi hi=>by simp[X,hi]
  have aw:S.h n=some (mu,.arr U w rows):=(hu n (by simp)).trans hn;have am: ∀i,i≠n->(S.ice X).h i=S.h i:=by
   intro i hi;simp only[Au.ice,ay i hi,Fo];cases S.h i<;>rfl
  have aa:(S.ice X).h n=some (false,.arr U w rows):=by simp[Au.ice,aw,aj]
  have ai:Wf C (S.ice X):=V6 hW;refine bd C (S.ice X) a next Q ai ?_ ?_ ?_ ?_ ?_
  .intro i hi;by_cases O:i=n
   .subst O;simp[h',aa]
   .rw[am i O,hu i (by simp only[Bn,Bh] at hi⊢;rcases hi with hi|hi;exact .inl (.inr hi);exact .inr (.inr hi))];simp[h',O]
  .intro i hi
   have:=a0 i hi
   simp[Au.ice,this]
  .intro i e he x hx hf;obtain⟨e0,O,rfl⟩:=V0 he;exact hnm i e0 O x hx hf
  .intro x hx;have au:x=m\/x=k\/x= .tmp t:=by rcases ho with ho|ho<;>rw[ho] at hx<;>simpa[Op.operands] using hx
   have ao:=Hn S X;have ac:=an x (by rcases ho with ho|ho<;>rw[ho]<;>simpa[Op.operands] using au);by_cases av:x= .tmp t
   .subst av;rw[aq];rw[hvd] at ac;have O:=HA ao _ _ (λ_ _=>trivial) ac;simp only[Aa] at O⊢;have h2:=O.2 _ aa;have ab:=ai.obj n _ aa;have hρ:(S.ice X).ρ n=S.ρ n:=rfl;simp only[An] at ab;simp only[d,rd];cases hl:S.ρ n with
    |none=>
     rw[hρ,hl] at h2 ab;exact .inl ⟨.inl h2,ab.2⟩
    |some l=>
     rw[hρ,hl] at h2 ab;obtain⟨g0,g1,vs,g2,g3,g4⟩:=ab;refine .inr ⟨l.b,l.p,l.cap,vs,U,(0,0),h2,by simp,g1,g0,mQ hW aj aa rfl (by rw[hρ];exact hl),g2,g4⟩
   .rw[ag x ?_]
    .exact HA ao _ _ (λ_ _=>trivial) ac
    .intro y hy ad;rcases au with rfl|rfl|rfl
     .rw[hm] at hy;rw[<-hy] at ad;cases ad
     .rw[hkd] at hy;rw[<-hy] at ad;cases ad
     .exact av rfl
  .intro v S' ax hh hp hc;refine bc v S' ax ?_ ?_ hc
   .rw[hh];funext i;simp only[Bk.appf];have ak:hget (E.new++[(n,(false,Ab.arr U w rows))]) i=match hget E.new i with|some e=>some e|none=>if n=i then some (false,Ab.arr U w rows) else none:=by
     generalize E.new=L;induction L with
     |nil=>
      simp only[Fq,hget];by_cases O:n=i
      .subst O;simp
      .have:(n==i)=false:=by simpa using O
       simp[this,O]
     |cons p L ih=>
      obtain⟨j,e⟩:=p;simp only[CO,hget];cases hj:j==i
      .simpa using ih
      .simp
    rw[ak];cases hg:hget E.new i with
    |some e=>rfl
    |none=>
     simp only;by_cases O:n=i
     .subst O;rw[Ai rfl,a9,aa];rfl
     .have h2:i≠n:=λh=>O h.symm
      rw[Af O,am i h2];have h3:(n::E.kill).contains i=E.kill.contains i:=by simp[h2]
      rw[h3]
   .have q1:=Hn S X;refine⟨λb hb=> ?_,λi hX e' az=> ?_⟩
    .obtain⟨r1,r2⟩:=q1.ok b hb;obtain⟨r3,r4⟩:=hp.ok b r1;exact⟨r3,r4.trans r2⟩
    .obtain⟨e,r1,r2,r3,r4⟩:=hp.nm i hX e' az;obtain⟨e0,s1,s2,s3,s4⟩:=q1.nm i trivial e r1;exact⟨e0,s1,r2.trans s2,r3.trans s3,r4.trans s4⟩
 |const c=>exfalso;simp only[Ax] at hvd;unfold kD at hvd;split at hvd<;>cases hvd
 |global g=>simp only[Ax] at hvd;cases hvd
 |func f=>exfalso;simp only[Ax] at hvd;cases hb:Nat.blt f 1000000000<;>rw[hb] at hvd<;>cases hvd
end
end Go.Ae
