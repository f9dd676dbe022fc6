/- Lemmas. Conditions: none. -/
import Derived.Test.YtldneeclgjaehabGreatDoorP02
import Derived.Laws.StructEq
import Derived.WideKeyRuns
set_option linter.all false
set_option maxHeartbeats 8000000
set_option maxRecDepth 100000
namespace Go.Ae
def Qnp: ∀(a b:List KK) (l:List D),BH (a++b) l=true->BH a (l.take a.length)=true/\BH b (l.drop a.length)=true/\a.length<=l.length
 |[],b,l,h=>by simpa[BH] using h
 |k::a,b,[],h=>by simp[BH] at h
 |k::a,b,d::l,h=>by
  simp only[BZ,BH,B1] at h;obtain⟨z,O,Q⟩:=Qnp a b l h.2;simp only[Em,Mx,Sv,BH,B1];exact⟨⟨h.1,z⟩,O,auOm⟩
def Qm8: ∀(a:List KK) (l:List D),BH a l=true->l.length=a.length
 |[],[],_=>rfl
 |[],_::_,h=>by simp[BH] at h
 |_::_,[],h=>by simp[BH] at h
 |k::a,d::l,h=>by
  simp only[BH,B1] at h;simp[Qm8 a l h.2]
def Qq6: ∀(n:Nat) (a b:List D),n<=a.length->n<=b.length->D.beql a b=(D.beql (a.take n) (b.take n) && D.beql (a.drop n) (b.drop n))
 |0,a,b,_,_=>by simp[D.beql]
 |n+1,[],_,h,_=>by simp at h
 |n+1,_::_,[],_,h=>by simp at h
 |n+1,x::a,y::b,z,O=>by
  simp only[Mx,Sv,D.beql,Zet];rw[Qq6 n a b (by simpa using z) (by simpa using O)]
def jW{ok:Nat->Prop}{hp:Nat->Option Obj}{k:KK}{d:D}{v:Value}(hf:k.fit d=true)(h:rd ok hp d v):
 (∃j n,k= .int j/\d= .int j n/\v= .int j n)\/(∃s,k= .str/\d= .str s/\v= .string s)\/(∃b,k= .bool/\d= .bool b/\v= .bool b):=by
 cases k<;>cases d<;>simp only[KK.fit,BL,YI] at hf<;>simp only[rd] at h
 .subst hf;exact .inl ⟨_,_,rfl,rfl,h⟩
 .exact .inr (.inl ⟨_,rfl,rfl,h⟩)
 .exact .inr (.inr ⟨_,rfl,rfl,h⟩)
section
variable {P:Program}
def yG: ∀{n:Nat} {t:TypeId} {Q:KT},EC P n t=some Q->Q.agg=false-> ∃k,Q.ks=[k]/\((∃j,k= .int j/\P.underlying t=some (.int j))\/(k= .str/\P.underlying t=some .string)\/(k= .bool/\P.underlying t=some .bool)):=by
 intro n t Q h Z;cases n with
 |zero=>simp[EC] at h
 |succ n=>
  simp only[EC] at h;split at h
  .rename_i k z;obtain rfl:=AJ h;exact⟨_,rfl,.inl ⟨k,rfl,z⟩⟩
  .rename_i z;obtain rfl:=AJ h;exact⟨_,rfl,.inr (.inl ⟨rfl,z⟩)⟩
  .rename_i z;obtain rfl:=AJ h;exact⟨_,rfl,.inr (.inr ⟨rfl,z⟩)⟩
  .rename_i O z;cases hst:P.stoodInHeld t<;>rw[hst] at h
   .simp only[Dw,Dx] at h;obtain⟨ks,_,rfl⟩:=h;cases Z
   .simp at h
  .cases h
def Qna: ∀{n:Nat} {t:TypeId} {O:KT},EC P n t=some O->O.agg=true-> ∃m z,n=m+1/\P.underlying t=some (.struct z)/\P.stoodInHeld t=false/\dW P (EC P m) z.toList 0=some O.ks:=by
 intro n t O h Q;cases n with
 |zero=>simp[EC] at h
 |succ n=>
  simp only[EC] at h;split at h
  .obtain rfl:=AJ h;cases Q
  .obtain rfl:=AJ h;cases Q
  .obtain rfl:=AJ h;cases Q
  .rename_i z hu;cases hst:P.stoodInHeld t<;>rw[hst] at h
   .simp only[Dw,Dx] at h;obtain⟨ks,Z,rfl⟩:=h;exact⟨n,z,rfl,hu,rfl,Z⟩
   .simp at h
  .cases h
def Qsw{n:Nat}{f:Field}{z:KT}{i:TypeInfo}(hk:EC P n f.type=some z)(hi:P.info? f.type=some i)(hz:i.size=z.ks.length){ok:Nat->Prop}{hp:Nat->Option Obj}{w:World}
 {ds:List D}{xs:Array Value}{off:Nat}(ab:off+z.ks.length<=ds.length)(h:rdl ok hp ds xs.toList)(hf:BH z.ks ((ds.drop off).take z.ks.length)=true):
 ∃d v,(part f.type xs off).run P w= .ok v w/\z.fit d=true/\rd ok hp d v/\((z.agg=true/\d= .agg ((ds.drop off).take z.ks.length))\/(z.agg=false/\[d]=(ds.drop off).take z.ks.length)):=by
 have hl:z.ks.length<=(ds.drop off).length:=by rw[CM];omega
 have h1:=QY off ds _ (Yv _ _ h) auOm;obtain⟨h2,Q⟩:=WN z.ks.length _ _ h1 hl;cases ha:z.agg with
 |false=>
  obtain⟨k,Z,O⟩:=yG hk ha;rw[Z] at hl Q hf⊢;simp only[zK] at hl Q hf⊢;cases hd:ds.drop off with
  |nil=>rw[hd] at hl;simp at hl
  |cons d r=>
   rw[hd] at Q hf;simp only[Mx,eF,rdl] at Q hf;obtain⟨v,r',hv,h4,h5⟩:=Q;refine⟨d,v,?_,by simpa[KT.fit,ha,Z] using hf,h4,.inr ⟨trivial,auSi⟩⟩;have hx:xs[off]? =some v:=by
    have:(xs.toList.drop off)[0]? =some v:=by
     cases hq:xs.toList.drop off with
     |nil=>rw[hq] at hv;simp at hv
     |cons a b=>rw[hq] at hv;simp at hv;simp[hv.1]
    simpa using this
   unfold part;rcases O with ⟨j,_,O⟩|⟨_,O⟩|⟨_,O⟩<;>simp[isAgg,run_underlying O,hx]
 |true=>
  obtain⟨m,aa,_,O,_⟩:=Qna hk ha;refine⟨_,.agg (xs.extract off (off+z.ks.length)),?_,by simpa[KT.fit,ha] using hf,?_,.inl ⟨rfl,rfl⟩⟩
  .unfold part;simp[isAgg,run_underlying O,sizeOf,typeInfo,hi,hz]
  .simp only[rd];refine⟨_,rfl,?_⟩;rw[ZeT];simpa[List.extract] using Q
def Qr5(d:Nat)(xs z:Array Value)(f:Field)(O:List Field)(hn:f.name≠ "_"){w:World}{a b:Value}{r:Bool}(Q:(part f.type xs f.offset).run P w= .ok a w)
 (Z:(part f.type z f.offset).run P w= .ok b w)(h3:(Op.equalIn d f.type a b).run P w= .ok r w):
 (Op.eqFields d xs z (f::O)).run P w=if r=true then (Op.eqFields d xs z O).run P w else .ok false w:=by
 simp only[Op.eqFields,ne_eq,hn,ZdT,Ff,Sem.run_bind,Q,Z,h3,Result.andThen_ok];cases r<;>simp
section
variable {ok:Nat->Prop}{hp:Nat->Option Obj}{w:World}
def Ug{n m:Nat}(ih: ∀(t:TypeId) (Z:KT),EC P n t=some Z-> ∀(d1 d2:D) (v1 v2:Value),Z.fit d1=true->Z.fit d2=true->rd ok hp d1 v1->rd ok hp d2 v2->(Op.equalIn m t v1 v2).run P w= .ok (D.beq d1 d2) w):
 ∀(fs:List Field) (off:Nat) (ks:List KK),dW P (EC P n) fs off=some ks-> ∀(z O:List D) (xs ys:Array Value),off+ks.length=z.length->off+ks.length=O.length->
  BH ks (z.drop off)=true->BH ks (O.drop off)=true->rdl ok hp z xs.toList->rdl ok hp O ys.toList->(Op.eqFields m xs ys fs).run P w= .ok (D.beql (z.drop off) (O.drop off)) w:=by
 intro fs;induction fs with
 |nil=>
  intro off ks Q z O xs ys ab ac _ _ _ _;simp only[dW,AS] at Q;subst Q;rw[Bm (by simpa using ZeO ab.symm),Bm (by simpa using ZeO ac.symm)];simp[Op.eqFields,D.beql]
 |cons f fs ao=>
  intro off ks Q z O xs ys ab ac am an ah ai;simp only[dW] at Q;split at Q
  .rename_i Z i aa hi;cases hb:(f.offset==off && (f.name != "_" && i.size==Z.ks.length))<;>rw[hb] at Q
   .simp at Q
   .simp only[IJ,Dx] at Q;obtain⟨aq,ag,rfl⟩:=Q;simp only[B1,YI,bne_iff_ne,ne_eq] at hb;obtain⟨rfl,ad,aj⟩:=hb;obtain⟨g1,g2,g3⟩:=Qnp _ _ _ am;obtain⟨g4,g5,g6⟩:=Qnp _ _ _ an;rw[BR] at ab ac;obtain⟨d1,v1,p1,q1,r1,s1⟩:=Qsw (w:=w) aa hi aj auOm ah g1;obtain⟨d2,v2,p2,q2,r2,s2⟩:=Qsw (w:=w) aa hi aj auOm ai g4;have he:=ih _ _ aa d1 d2 v1 v2 q1 q2 r1 r2;rw[Qr5 m xs ys f fs ad p1 p2 he];rw[FW] at g2 g5;have af:=ao _ _ ag z O xs ys auOm auOm g2 g5 ah ai;have ak:D.beq d1 d2=D.beql ((z.drop f.offset).take Z.ks.length) ((O.drop f.offset).take Z.ks.length):=by
     rcases s1 with ⟨_,rfl⟩|⟨ha,e1⟩<;>rcases s2 with ⟨hb,rfl⟩|⟨hb,e2⟩
     .simp[D.beq]
     .simp_all
     .simp_all
     .rw[<-e1,<-e2];simp[D.beql]
    rw[Qq6 Z.ks.length (z.drop f.offset) (O.drop f.offset) g3 g6,af,ak,FW,FW];cases D.beql ((z.drop f.offset).take Z.ks.length) ((O.drop f.offset).take Z.ks.length)<;>simp
  .cases Q
def Nk: ∀(n m:Nat),n<=m-> ∀(t:TypeId) (kt:KT),EC P n t=some kt-> ∀(d1 d2:D) (v1 v2:Value),kt.fit d1=true->kt.fit d2=true->rd ok hp d1 v1->rd ok hp d2 v2->
 (Op.equalIn m t v1 v2).run P w= .ok (D.beq d1 d2) w:=by
 intro n;induction n with
 |zero=>intro m _ t kt h;simp[EC] at h
 |succ n ih=>
  intro m hm t kt h d1 d2 v1 v2 O Q Z aa;obtain⟨m,rfl⟩: ∃m',m=m'+1:=⟨m - 1,auOm⟩;cases ha:kt.agg with
  |false=>
   obtain⟨k,hk,hu⟩:=yG h ha;simp only[KT.fit,ha,hk,BH,Jg] at O Q;rcases jW O Z with ⟨j,a,e1,rfl,rfl⟩|⟨a,e1,rfl,rfl⟩|⟨a,e1,rfl,rfl⟩<;>
    rcases jW Q aa with ⟨j2,b,e2,rfl,rfl⟩|⟨b,e2,rfl,rfl⟩|⟨b,e2,rfl,rfl⟩<;>rw[e1] at e2<;>cases e2<;>
    rcases hu with ⟨_,e3,hu⟩|⟨e3,hu⟩|⟨e3,hu⟩<;>rw[e1] at e3<;>cases e3
   .simp[Op.equalIn,run_underlying hu,D.beq]
   .simp[Op.equalIn,run_underlying hu,D.beq]
   .simp[Op.equalIn,run_underlying hu,D.beq]
  |true=>
   obtain⟨m0,z,ah,hu,ag,af⟩:=Qna h ha;obtain rfl:n=m0:=auOm;cases d1<;>simp only[KT.fit,ha,BL] at O;cases d2<;>simp only[KT.fit,ha,BL] at Q;rename_i ac ad;simp only[rd] at Z aa;obtain⟨xs,rfl,Z⟩:=Z;obtain⟨ys,rfl,aa⟩:=aa;have ab:P.fieldsOf t=z:=by simp[Program.fieldsOf,hu]
   rw[run_equalIn_struct w m t xs ys (by rw[ab];exact hu) ag,ab]
   have:=Ug (w:=w) (λt kt h=>ih m auOm t kt h) z.toList 0 kt.ks af ac ad xs ys (by simp[Qm8 _ _ O]) (by simp[Qm8 _ _ Q]) (by simpa using O) (by simpa using Q) Z aa
   rw[this];simp[D.beq]
def dL(em:Bool)(n:Nat)(cs:Array Value):List Field->Sem Unit
 |[]=>pure ()
 |f::z=>if f.name≠ "_" then do
   let a <-part f.type cs f.offset
   Instr.checkKey em n f.type a
   dL em n cs z
  else dL em n cs z
def Qvk(em:Bool)(n:Nat)(t:TypeId)(cs:Array Value){z:Array Field}(Q:P.underlying t=some (.struct z)):
 (Instr.checkKey em (n+1) t (.agg cs)).run P w=(dL em n cs z.toList).run P w:=by
 simp only[Instr.checkKey,Sem.run_bind,run_underlying Q,Result.andThen_ok];rw[<-Array.forIn_toList];generalize z.toList=O;clear Q;induction O generalizing w with
 |nil=>simp[dL]
 |cons f O ih=>
  simp only[List.forIn_cons,dL,Sem.run_bind,Sem.run_ite];split
  .generalize (part f.type cs f.offset).run P w=r1;cases r1 with
   |ok a Z=>
    simp only[Result.andThen_ok];generalize (Instr.checkKey em n f.type a).run P Z=r2;cases r2 with
    |ok b w2=>
     simp only[Result.andThen_ok,Sem.run_pure];exact ih
    |halt x w2=>simp[Result.andThen]
   |halt x Z=>simp[Result.andThen]
  .simp only[Sem.run_pure,Result.andThen_ok];exact ih
def Qw3{n m:Nat}{em:Bool}(ih: ∀(t:TypeId) (kt:KT),EC P n t=some kt-> ∀(d1:D) (v1:Value),kt.fit d1=true->rd ok hp d1 v1->(Instr.checkKey em m t v1).run P w= .ok () w):
 ∀(Z:List Field) (off:Nat) (ks:List KK),dW P (EC P n) Z off=some ks-> ∀(O:List D) (xs:Array Value),off+ks.length=O.length->
  BH ks (O.drop off)=true->rdl ok hp O xs.toList->(dL em m xs Z).run P w= .ok () w:=by
 intro Z;induction Z with
 |nil=>intro off ks _ O xs _ _ _;simp[dL]
 |cons f Z ah=>
  intro off ks z O xs af ad ac;simp only[dW] at z;split at z
  .rename_i kt i ab hi;cases hb:(f.offset==off && (f.name != "_" && i.size==kt.ks.length))<;>rw[hb] at z
   .simp at z
   .simp only[IJ,Dx] at z;obtain⟨ai,aa,rfl⟩:=z;simp only[B1,YI,bne_iff_ne,ne_eq] at hb;obtain⟨rfl,Q,ag⟩:=hb;obtain⟨g1,g2,g3⟩:=Qnp _ _ _ ad;rw[BR] at af;obtain⟨d1,v1,p1,q1,r1,s1⟩:=Qsw (w:=w) ab hi ag auOm ac g1;rw[FW] at g2;simp only[dL,ne_eq,Q,ZdT,Ff,Sem.run_bind,p1,ih _ _ ab d1 v1 q1 r1,Result.andThen_ok];exact ah _ _ aa O xs auOm g2 ac
  .cases z
def Qit{em:Bool}: ∀(n m:Nat),n<=m-> ∀(t:TypeId) (Q:KT),EC P n t=some Q-> ∀(d1:D) (v1:Value),Q.fit d1=true->rd ok hp d1 v1->
 (Instr.checkKey em m t v1).run P w= .ok () w:=by
 intro n;induction n with
 |zero=>intro m _ t Q h;simp[EC] at h
 |succ n ih=>
  intro m hm t Q h d1 v1 Z O;obtain⟨m,rfl⟩: ∃m',m=m'+1:=⟨m - 1,auOm⟩;cases ha:Q.agg with
  |false=>
   obtain⟨k,hk,hu⟩:=yG h ha;rcases hu with ⟨_,_,hu⟩|⟨_,hu⟩|⟨_,hu⟩<;>simp[Instr.checkKey,run_underlying hu]
  |true=>
   obtain⟨m0,z,ac,hu,ad,ab⟩:=Qna h ha;obtain rfl:n=m0:=auOm;cases d1<;>simp only[KT.fit,ha,BL] at Z;rename_i aa;simp only[rd] at O;obtain⟨xs,rfl,O⟩:=O;rw[Qvk em m t xs hu];exact Qw3 (w:=w) (λt Q h=>ih m auOm t Q h) z.toList 0 Q.ks ab aa xs (by simp[Qm8 _ _ Z]) (by simpa using Z) O
def Xe(kd:D)(ds:List (D×D))(i:Nat)(ok:Nat->Prop)(hp:Nat->Option Obj):Option (Nat×Value)->Prop
 |none=>lk ds kd=none/\(∀y,Fq ds kd y=ds++[(kd,y)])/\MH ds kd=ds
 |some (j,v)=> ∃p k y,j=i+p/\ds[p]? =some (k,y)/\D.beq kd k=true/\lk ds kd=some y/\rd ok hp y v/\(∀y',Fq ds kd y'=ds.set p (kd,y'))/\MH ds kd=ds.eraseIdx p
def Qq2{kd k y:D}{ds:List (D×D)}{i:Nat}{r:Option (Nat×Value)}(z:D.beq kd k=false)(h:Xe kd ds (i+1) ok hp r):Xe kd ((k,y)::ds) i ok hp r:=by
 cases r with
 |none=>
  simp only[Xe] at h⊢;exact⟨by simp[lk,z,h.1],λy=>by simp[Fq,z,h.2.1],by simp[MH,z,h.2.2]⟩
 |some r=>
  obtain⟨j,v⟩:=r;simp only[Xe] at h⊢;obtain⟨p,k',y',h1,O,Q,Z,h5,h6,h7⟩:=h;exact⟨p+1,k',y',auOm,by simpa using O,Q,by simp[lk,z,Z],h5,λy=>by simp[Fq,z,h6],by simp[MH,z,h7]⟩
def Qz7{kd k y:D}{ds:List (D×D)}{i:Nat}{v:Value}(z:D.beq kd k=true)(O:rd ok hp y v):Xe kd ((k,y)::ds) i ok hp (some (i,v)):=
 ⟨0,k,y,rfl,rfl,z,by simp[lk,z],O,λy'=>by simp[Fq,z],by simp[MH,z]⟩
def Qh4{t:TypeId}{O:KT}(hk:Cn P t=some O){kd:D}{Z:Value}(hf:O.fit kd=true)(hr:rd ok hp kd Z):
 ∀(ds:List (D×D)) (es:List MapEntry) (i:Nat),(∀e∈ds,O.fit e.1=true)->Dh ok hp ds es-> ∃r,(Instr.findAsking t Z es i).run P w= .ok r w/\Xe kd ds i ok hp r
 |[],es,i,_,h=>by
  simp only[Dh] at h;subst h;exact⟨none,by simp[Instr.findAsking],by simp[Xe,lk,Fq,MH]⟩
 |(k,y)::ds,es,i,z,h=>by
  simp only[Dh] at h;obtain⟨e,es,rfl,h1,h2,h3⟩:=h;have Q:(Op.equal t Z e.key).run P w= .ok (D.beq kd k) w:=Nk 5 10000 auOm t O hk kd k _ _ hf (z (k,y) auSi) hr h1;simp only[Instr.findAsking,Sem.run_bind,Q,Result.andThen_ok];cases hb:D.beq kd k with
  |true=>exact⟨_,auSi,Qz7 hb h2⟩
  |false=>
   obtain⟨r,h4,h5⟩:=Qh4 hk hf hr ds es (i+1) (λe Q=>z e (by simp[Q])) h3;exact⟨r,by simpa using h4,Qq2 hb h5⟩
def Qmm{t:TypeId}{u:TypeDesc}{kt:KT}(hk:Cn P t=some kt)(ha:kt.agg=false)(hu:P.underlying t=some u){kd:D}{kv:Value}(hf:kt.fit kd=true)(hr:rd ok hp kd kv):
 ∀(ds:List (D×D)) (es:List MapEntry) (i:Nat),(∀e∈ds,kt.fit e.1=true)->Dh ok hp ds es-> ∃r,Instr.findNow u kv es i=some r/\Xe kd ds i ok hp r
 |[],es,i,_,h=>by
  simp only[Dh] at h;subst h;exact⟨none,by simp[Instr.findNow],by simp[Xe,lk,Fq,MH]⟩
 |(k,y)::ds,es,i,Q,h=>by
  simp only[Dh] at h;obtain⟨e,es,rfl,h1,h2,h3⟩:=h;have he:Instr.sameNow u kv e.key=some (D.beq kd k):=by
   obtain⟨q,hq,z⟩:=yG hk ha;have O:=Q _ (CP);simp only[KT.fit,ha,hq,BH,Jg] at hf O;generalize e.key=ek at h1⊢;rcases jW hf hr with ⟨j,a,Z,rfl,rfl⟩|⟨a,Z,rfl,rfl⟩|⟨a,Z,rfl,rfl⟩<;>
    rcases jW O h1 with ⟨j2,b,e2,rfl,rfl⟩|⟨b,e2,rfl,rfl⟩|⟨b,e2,rfl,rfl⟩<;>rw[Z] at e2<;>cases e2<;>
    rcases z with ⟨_,e3,z⟩|⟨e3,z⟩|⟨e3,z⟩<;>rw[Z] at e3<;>cases e3<;>rw[hu] at z<;>obtain rfl:=AJ z<;>simp[Instr.sameNow,D.beq]
  simp only[Instr.findNow,he];cases hb:D.beq kd k with
  |true=>exact⟨_,rfl,Qz7 hb h2⟩
  |false=>
   obtain⟨r,h4,h5⟩:=Qmm hk ha hu hf hr ds es (i+1) (λe he=>Q e (by simp[he])) h3;exact⟨r,h4,Qq2 hb h5⟩
def Qfw{t:TypeId}{kt:KT}(Z:Cn P t=some kt){kd:D}{kv:Value}(hf:kt.fit kd=true)(hr:rd ok hp kd kv)(ds:List (D×D))(es:List MapEntry)(O: ∀e∈ds,kt.fit e.1=true)
 (h:Dh ok hp ds es): ∃r,(Instr.findKey t kv es).run P w= .ok r w/\Xe kd ds 0 ok hp r:=by
 cases ha:kt.agg with
 |true=>
  obtain⟨m0,Q,ac,z,ad,ab⟩:=Qna Z ha;rw[run_findKey_eq w (by simp[z])];exact Qh4 Z hf hr ds es 0 O h
 |false=>
  obtain⟨k,aa,z⟩:=yG Z ha;obtain⟨u,z⟩: ∃u,P.underlying t=some u:=by rcases z with ⟨j,_,z⟩|⟨_,z⟩|⟨_,z⟩<;>exact⟨_,z⟩
  obtain⟨r,h1,h2⟩:=Qmm Z ha z hf hr ds es 0 O h;exact⟨r,by simp[Instr.findKey,run_underlying z,h1],h2⟩
end
end
def Qiy{P:Program}{w:World}{b:Nat}{es es':Array MapEntry}{clock c':Nat}(h:w.heap[b]? =some (.map es clock)):
 ∃w',(setObj b (.map es' c')).run P w= .ok () w'/\w'.heap=w.heap.setIfInBounds b (.map es' c')/\w'.os=w.os/\w'.tape=w.tape/\w'.output=w.output/\w.drawn<=w'.drawn:=by
 refine⟨{w with heap:=w.heap.setIfInBounds b (.map es' c')},?_,rfl,rfl,rfl,rfl,BN _⟩;exact MapKept.run_setObj_map _ h
section
variable {P:Program}{tm:TmT}{h:HpT}{nx:Nat}{o:Oper}{K:Al}
def Qu{op:BinOp}{T U:TypeId}{x y:Operand}{a b:List D}(ho:o.op= .binOp op T x y U)(hx:Ay tm x= .im (.agg a))(hy:Ay tm y= .im (.agg b))
 (z:xU P T op a b K (Cn P T)):Cr P tm h nx o K:=by
 cases hkt:Cn P T with
 |none=>rw[hkt] at z;exact z.elim
 |some kt=>
 rw[hkt] at z;simp only[xU] at z;obtain⟨af,ag,hg,z⟩:=z;have aa:op= .eql\/op= .neq:=by cases op<;>first|exact .inl rfl|exact .inr rfl|exact z.elim
 have ah:K (.im (.bool (decide (op= .neq) !=D.beql a b))) {}:=by
  rcases aa with rfl|rfl
  .simpa[xY] using z
  .simpa[xY] using z
 refine⟨_,_,BP.pure (u:=[]) ?_,ah⟩;intro C S ac hW _ O;have Q:=O x (by rw[ho];simp[Op.operands]);have Z:=O y (by rw[ho];simp[Op.operands]);rw[hx] at Q;rw[hy] at Z;simp only[Ab] at Q Z;refine⟨.bool (decide (op= .neq) !=D.beql a b),?_,by simp only[Ab,rd]⟩;have he:=Nk (P:=P) (w:=S.w) 5 10000 auOm T kt hkt _ _ _ _ af ag Q Z;simp only[rd] at Q Z;obtain⟨xs,ab,_⟩:=Q;obtain⟨ys,ad,_⟩:=Z;rw[ab,ad] at he;simp only[execOp,ho,ab,ad,Sem.run_bind,run_eqGuard_agg S.w op T x y xs ys hg,Result.andThen_ok];rcases aa with rfl|rfl
 .simp[run_eql_struct,he,D.beq]
 .simp[run_neq_struct,he,D.beq]
def Qqm{T k e:TypeId}{kt:KT}(hu:P.underlying T=some (.map k e))(ab:Cn P k=some kt){kd:D}{kv:Value}(Q:kt.fit kd=true)
 {Z:Nat->Prop}{hp:Nat->Option Obj}(hr:rd Z hp kd kv){w:World}{b:Nat}{O:Array MapEntry}{clock:Nat}(hb:w.heap[b]? =some (.map O clock)){es:List (D×D)}(ad: ∀e∈es,kt.fit e.1=true)
 (ac:Dh Z hp es O.toList)(ok:Bool):
 (∃y v,lk es kd=some y/\rd Z hp y v/\(Instr.lookup T (.map (some b)) kv ok).run P w= .ok (if ok then .tuple #[v,.bool true] else v) w)\/
 (lk es kd=none/\ ∀z,(zeroValue e).run P w= .ok z w->(Instr.lookup T (.map (some b)) kv ok).run P w= .ok (if ok then .tuple #[z,.bool false] else z) w):=by
 obtain⟨r,h1,h2⟩:=Qfw (w:=w) ab Q hr es O.toList ad ac;have aa:=Qit (P:=P) (w:=w) (em:=O.isEmpty) 5 10000 auOm k kt ab kd kv Q hr;cases r with
 |none=>
  refine .inr ⟨h2.1,λz hz=> ?_⟩;simp[Instr.lookup,run_underlying hu,QW (w:=w) hb,aa,h1,hz]
 |some r=>
  obtain⟨j,v⟩:=r;obtain⟨p,k',y,_,_,_,h4,h5,_⟩:=h2;refine .inl ⟨y,v,h4,h5,?_⟩;simp[Instr.lookup,run_underlying hu,QW (w:=w) hb,aa,h1]
def Qabs{T k e:TypeId}{kt:KT}(hu:P.underlying T=some (.map k e))(Q:Cn P k=some kt){kd:D}{kv:Value}(O:kt.fit kd=true)
 {aa:Nat->Prop}{hp:Nat->Option Obj}(hr:rd aa hp kd kv){w:World}(ok:Bool){z:Value}(hz:(zeroValue e).run P w= .ok z w):
 (Instr.lookup T (.map none) kv ok).run P w= .ok (if ok then .tuple #[z,.bool false] else z) w:=by
 obtain⟨r,h1,h2⟩:=Qfw (w:=w) Q O hr [] [] auSi (by simp only[Dh]);have Z:=Qit (P:=P) (w:=w) (em:=true) 5 10000 auOm k kt Q kd kv O hr;cases r with
 |none=>simp[Instr.lookup,run_underlying hu,Z,h1,hz]
 |some r=>
  obtain⟨j,v⟩:=r;obtain⟨p,k',y,_,h3,_⟩:=h2;simp at h3
def Qx8{S:AD}{d:D}{v:Value}(ok b:Bool)(h:rd S.ok S.hp d v):Ab S (bif ok then .tup [.im d,.im (.bool b)] else .im d) (if ok then .tuple #[v,.bool b] else v):=by
 cases ok with
 |false=>simpa only[Dw,BL,HS,Ab] using h
 |true=>
  simp only[IJ,Ff,Ab];exact⟨_,rfl,by simp[AX,Ab,rd,h]⟩
def Qabg{T:TypeId}{m k:Operand}{ok:Bool}(ho:o.op= .lookup T m k ok)(Q:Bz (Qnn P h (Ay tm m) (Ay tm k) ok K) (tI P T)):Cr P tm h nx o K:=by
 cases hT:tI P T with
 |none=>rw[hT] at Q;exact Q.elim
 |some ti=>
 rw[hT] at Q;simp only[Bz,Qnn] at Q;cases hf:ti.kind<;>rw[hf] at Q<;>try exact Q.elim
 rename_i kT e;have hu:=qO hT hf;cases hkv:Ay tm k<;>rw[hkv] at Q<;>try exact Q.elim
 rename_i kd;simp only[luK] at Q;cases hE:tI P e with
 |none=>rw[hE] at Q;exact Q.elim
 |some te=>
 rw[hE] at Q;simp only[Bz,luE] at Q;cases ag:Cn P kT with
 |none=>rw[ag] at Q;exact Q.elim
 |some kt=>
 rw[ag] at Q;simp only[ZK] at Q;obtain⟨af,Q⟩:=Q;have am: ∀(S:AD) (a:Act),(∀x∈o.op.operands,Ab S (Ay tm x) (a.eval x))->rd S.ok S.hp kd (a.eval k):=by
  intro S a O
  have:=O k (by rw[ho];simp[Op.operands])
  rw[hkv] at this;simpa only[Ab] using this
 have ai: ∀{u:List Nat} {es:List (D×D)},(∀e∈es,kt.fit e.1=true)->
  (∀(C:Bn) (S:AD) (a:Act),Wf C S->(∀n∈u,S.h n=h n)->(∀x∈o.op.operands,Ab S (Ay tm x) (a.eval x))-> ∃b aa Z,a.eval m= .map (some b)/\S.hp b=some (.map aa Z)/\Dh S.ok S.hp es aa.toList)->
  Jq es kd (Qy3 ok {use:=u} K) (JR te ok {use:=u} K)->Cr P tm h nx o K:=by
  intro u es ac hm Q;obtain⟨av,aw⟩:=Q;cases hl:lk es kd with
  |some y=>
   refine⟨_,_,BP.pure (u:=u) ?_,av y hl⟩;intro C S a hW ab O;obtain⟨b,aa,Z,hv,hb,ak⟩:=hm C S a hW ab O;rcases Qqm hu ag af (am S a O) hb ac ak ok with ⟨y',v,h1,h2,h3⟩|⟨h1,_⟩
   .rw[hl] at h1;obtain rfl:=AJ h1;refine⟨_,?_,Qx8 ok true h2⟩;simp only[execOp,ho,hv];simp[h3]
   .rw[hl] at h1;cases h1
  |none=>
   obtain⟨aq,ax,au,Q⟩:=aw hl;obtain⟨z,an,_,_,ao⟩:=Qrg hE aq au;refine⟨_,_,BP.pure (u:=u) ?_,Q⟩;intro C S a hW ab O;obtain⟨b,aa,Z,hv,hb,ak⟩:=hm C S a hW ab O;rcases Qqm hu ag af (am S a O) hb ac ak ok with ⟨y',v,h1,h2,h3⟩|⟨h1,h2⟩
   .rw[hl] at h1;cases h1
   .refine⟨_,?_,Qx8 ok false (ao S.ok S.hp)⟩;simp only[execOp,ho,hv];simp[h2 z (an _)]
 cases hm:Ay tm m<;>rw[hm] at Q<;>try exact Q.elim
 case im d=>
  cases d<;>try exact Q.elim
  case nilm=>
   simp only[kL] at Q;obtain⟨aq,ax,au,Q⟩:=Q;obtain⟨z,an,_,_,ao⟩:=Qrg hE aq au;refine⟨_,_,BP.pure (u:=[]) ?_,Q⟩;intro C S a hW ab O;have h1:=O m (by rw[ho];simp[Op.operands]);rw[hm] at h1;simp only[Ab,rd] at h1;refine⟨_,?_,Qx8 ok false (ao S.ok S.hp)⟩;simp only[execOp,ho,h1];simp[Qabs hu ag af (am S a O) ok (an S.w)]
  case mp ah es=>
   simp only[kL] at Q;obtain⟨rfl,Q⟩:=Q;by_cases ac: ∀e∈es,ah.fit e.1=true
   .refine ai (u:=[]) ac ?_ Q;intro C S a hW _ O;have h1:=O m (by rw[ho];simp[Op.operands]);rw[hm] at h1;simp only[Ab,rd] at h1;obtain⟨b,aa,Z,h2,_,_,h3,h4,_⟩:=h1;exact⟨b,aa,Z,h2,h3,h4⟩
   .cases hl:lk es kd with
    |some y=>
     refine⟨_,_,BP.pure (u:=[]) ?_,Q.1 y hl⟩;intro C S a hW _ O;have h1:=O m (by rw[ho];simp[Op.operands]);rw[hm] at h1;simp only[Ab,rd] at h1;obtain⟨_,_,_,_,h2,_⟩:=h1;exact absurd h2 ac
    |none=>
     obtain⟨_,_,_,Q⟩:=Q.2 hl;refine⟨_,_,BP.pure (u:=[]) ?_,Q⟩;intro C S a hW _ O;have h1:=O m (by rw[ho];simp[Op.operands]);rw[hm] at h1;simp only[Ab,rd] at h1;obtain⟨_,_,_,_,h2,_⟩:=h1;exact absurd h2 ac
 case mp n=>
  simp only[kL] at Q;cases hn:h n with
  |none=>rw[hn] at Q;exact Q.elim
  |some aj=>
  rw[hn] at Q;obtain⟨mu,aj⟩:=aj;cases aj<;>try exact Q.elim
  rename_i ah es;simp only[Uq] at Q;obtain⟨rfl,Q⟩:=Q;have ad: ∀(C:Bn) (S:AD),Wf C S->(∀n'∈[n],S.h n'=h n')->S.h n=some (mu,.map ah es)/\Au S (S.ρ n) (.map ah es):=λC S hW ab=>by
   have hS:=(ab n auSi).trans hn;exact⟨hS,hW.obj _ _ hS⟩
  by_cases ac: ∀e∈es,ah.fit e.1=true
  .refine ai (u:=[n]) ac ?_ Q;intro C S a hW ab O;have h1:=O m (by rw[ho];simp[Op.operands]);rw[hm] at h1;obtain⟨hS,ad⟩:=ad C S hW ab;simp only[Ab] at h1;obtain⟨l,hl,hv⟩:=h1.2 _ hS;simp only[Au] at ad;obtain⟨lc,aa,Z,h2,_,h3,h4,_⟩:=ad;rw[hl] at h2;obtain rfl:=AJ h2;exact⟨l.b,aa,Z,hv,h3,h4⟩
  .cases hl:lk es kd with
   |some y=>
    refine⟨_,_,BP.pure (u:=[n]) ?_,Q.1 y hl⟩;intro C S a hW ab _
    have:=(ad C S hW ab).2
    simp only[Au] at this;obtain⟨_,_,_,_,h2,_⟩:=this;exact absurd h2 ac
   |none=>
    obtain⟨_,_,_,Q⟩:=Q.2 hl;refine⟨_,_,BP.pure (u:=[n]) ?_,Q⟩;intro C S a hW ab _
    have:=(ad C S hW ab).2
    simp only[Au] at this;obtain⟨_,_,_,_,h2,_⟩:=this;exact absurd h2 ac
end
def NJ{ok:Nat->Prop}{hp:Nat->Option Obj}{kd y:D}{kv v:Value}(Z:rd ok hp kd kv)(hy:rd ok hp y v):
 ∀(p:Nat) (ds:List (D×D)) (es:List MapEntry),Dh ok hp ds es->Dh ok hp (ds.set p (kd,y)) (es.modify p λe=>{e with key:=kv,val:=v})
 |_,[],es,h=>by
  simp only[Dh] at h;subst h;simp[Dh]
 |0,(a,b)::ds,es,h=>by
  simp only[Dh] at h;obtain⟨e,r,rfl,O,Q,z⟩:=h;simp only[YH,List.modify_zero_cons,Dh];exact⟨_,r,rfl,Z,hy,z⟩
 |p+1,(a,b)::ds,es,h=>by
  simp only[Dh] at h;obtain⟨e,r,rfl,O,Q,z⟩:=h;simp only[YN,List.modify_succ_cons,Dh];exact⟨e,_,rfl,O,Q,NJ Z hy p ds r z⟩
def tL{ok:Nat->Prop}{hp:Nat->Option Obj}{kd y:D}{e:MapEntry}(z:rd ok hp kd e.key)(O:rd ok hp y e.val):
 ∀(ds:List (D×D)) (es:List MapEntry),Dh ok hp ds es->Dh ok hp (ds++[(kd,y)]) (es++[e])
 |[],es,h=>by
  simp only[Dh] at h;subst h;simp only[E5,Dh];exact⟨e,[],rfl,z,O,rfl⟩
 |(a,b)::ds,es,h=>by
  simp only[Dh] at h;obtain⟨e',r,rfl,Q,Z,h3⟩:=h;simp only[BZ,Dh];exact⟨e',_,rfl,Q,Z,tL z O ds r h3⟩
def Qpa{ok:Nat->Prop}{hp:Nat->Option Obj}:
 ∀(p:Nat) (ds:List (D×D)) (es:List MapEntry),Dh ok hp ds es->Dh ok hp (ds.eraseIdx p) (es.eraseIdx p)
 |_,[],es,h=>by
  simp only[Dh] at h;subst h;simp[Dh]
 |0,(a,b)::ds,es,h=>by
  simp only[Dh] at h;obtain⟨e,r,rfl,O,Q,z⟩:=h;simpa only[ZeB] using z
 |p+1,(a,b)::ds,es,h=>by
  simp only[Dh] at h;obtain⟨e,r,rfl,O,Q,z⟩:=h;simp only[ZeA,Dh];exact⟨e,_,rfl,O,Q,Qpa p ds r z⟩
def Qpy(p:Nat)(z v:Value): ∀(es:List MapEntry),(es.modify p λe=>{e with key:=z,val:=v}).map (·.born)=es.map (·.born):=by
 induction p with
 |zero=>intro es;cases es<;>simp
 |succ p ih=>intro es;cases es with
  |nil=>simp
  |cons e es=>simp[ih]
def dT(a b:MM):(a==b)=decide (a=b):=by rw[beq_toListBytes,Qry]
def Qoy{ok ok':Nat->Prop}{hp hp':Nat->Option Obj}: ∀(ks:List KK) (a b:List D) (x y:LVa),BH ks a=true->BH ks b=true->rdl ok hp a x->rdl ok' hp' b y->D.beql a b=true->x=y
 |[],[],[],x,y,_,_,z,O,_=>by simp only[rdl] at z O;rw[z,O]
 |[],_::_,_,_,_,h,_,_,_,_=>by simp[BH] at h
 |[],[],_::_,_,_,_,h,_,_,_=>by simp[BH] at h
 |_::_,[],_,_,_,h,_,_,_,_=>by simp[BH] at h
 |_::_,_::_,[],_,_,_,h,_,_,_=>by simp[BH] at h
 |k::ks,d::a,d'::b,x,y,hf,hg,z,O,hb=>by
  simp only[BH,B1] at hf hg;simp only[rdl] at z O;simp only[D.beql,B1] at hb;obtain⟨v,r,rfl,h3,h4⟩:=z;obtain⟨v',r',rfl,h5,h6⟩:=O;rw[Qoy ks a b r r' hf.2 hg.2 h4 h6 hb.2];congr 1;rcases jW hf.1 h3 with ⟨j,n,Z,rfl,rfl⟩|⟨n,Z,rfl,rfl⟩|⟨n,Z,rfl,rfl⟩<;>
   rcases jW hg.1 h5 with ⟨j2,n2,Q,rfl,rfl⟩|⟨n2,Q,rfl,rfl⟩|⟨n2,Q,rfl,rfl⟩<;>rw[Z] at Q<;>cases Q<;>simp_all [D.beq,dT]
def M6{ok:Nat->Prop}{hp:Nat->Option Obj}{n:Nat}{k:KK}{d:D}{v:Value}(hf:k.fit d=true)(h:rd ok hp d v):Instr.sameBits n v v=true:=by
 rcases jW hf h with ⟨j,m,z,rfl,rfl⟩|⟨m,z,rfl,rfl⟩|⟨m,z,rfl,rfl⟩<;>simp[Instr.sameBits,dT]
def SL{ok:Nat->Prop}{hp:Nat->Option Obj}{n:Nat}: ∀(ks:List KK) (a:List D) (x:LVa),BH ks a=true->rdl ok hp a x->(x.zip x).all (λ(x,y)=>Instr.sameBits n x y)=true
 |[],[],x,_,h=>by simp only[rdl] at h;subst h;rfl
 |[],_::_,_,h,_=>by simp[BH] at h
 |_::_,[],_,h,_=>by simp[BH] at h
 |k::ks,d::a,x,hf,h=>by
  simp only[BH,B1] at hf;simp only[rdl] at h;obtain⟨v,r,rfl,z,O⟩:=h;simp only[List.zip_cons_cons,E6,B1];exact⟨M6 hf.1 z,SL ks a r hf.2 O⟩
def PN{P:Program}{w:World}{ok ok':Nat->Prop}{hp hp':Nat->Option Obj}{kt:KT}{a b:D}{x y:Value}(z:kt.fit a=true)(Z:kt.fit b=true)(O:rd ok hp a x)(Q:rd ok' hp' b y)(hb:D.beq a b=true):
 (Instr.keyThatStays y x).run P w= .ok x w:=by
 have aa:x=y/\Instr.sameBits 10000 x x=true:=by
  cases ha:kt.agg with
  |true=>
   cases a<;>simp only[KT.fit,ha,BL] at z;cases b<;>simp only[KT.fit,ha,BL] at Z;simp only[rd] at O Q;obtain⟨u,rfl,O⟩:=O;obtain⟨v,rfl,Q⟩:=Q;simp only[D.beq] at hb
   have:=Qoy _ _ _ _ _ z Z O Q hb
   refine⟨by rw[rE] at this;rw[this],?_⟩;show (u.size==u.size && (u.toList.zip u.toList).all λ(x,y)=>Instr.sameBits 9999 x y)=true;rw[SL _ _ _ z O];simp
  |false=>
   simp only[KT.fit,ha] at z Z;have hx:rdl ok hp [a] [x]:=by simp only[rdl];exact⟨x,[],rfl,O,rfl⟩
   have hy:rdl ok' hp' [b] [y]:=by simp only[rdl];exact⟨y,[],rfl,Q,rfl⟩
   have:=Qoy _ _ _ _ _ z Z hx hy (by simp[D.beql,hb])
   refine⟨by simpa using this,?_⟩;cases hks:kt.ks with
   |nil=>rw[hks] at z;simp[BH] at z
   |cons k r=>
    rw[hks] at z;simp only[BH,B1] at z;exact M6 z.1 O
 obtain⟨rfl,h5⟩:=aa;simp[Instr.keyThatStays,h5]
def MO{Q:KT}{kd y:D}(O:Q.fit kd=true): ∀(ds:List (D×D)),(∀e∈ds,Q.fit e.1=true)-> ∀e∈Fq ds kd y,Q.fit e.1=true
 |[],_=>by simp[Fq,O]
 |(a,b)::ds,h=>by
  have ih:=MO (y:=y) O ds (λe z=>h e (by simp[z]));simp only[Fq];cases D.beq kd a with
  |true=>
   simp only[IJ,B0];rintro e (rfl|z)
   .exact O
   .exact h e (by simp[z])
  |false=>
   simp only[Dw,B0];rintro e (rfl|z)
   .exact h _ auSi
   .exact ih e z
def MN{O:KT}{kd:D}: ∀(ds:List (D×D)),(∀e∈ds,O.fit e.1=true)-> ∀e∈MH ds kd,O.fit e.1=true
 |[],_=>by simp[MH]
 |(a,b)::ds,h=>by
  have ih:=MN (kd:=kd) ds (λe z=>h e (by simp[z]));simp only[MH];cases D.beq kd a with
  |true=>
   simp only[IJ];intro e z;exact h e (by simp[z])
  |false=>
   simp only[Dw,B0];rintro e (rfl|z)
   .exact h _ auSi
   .exact ih e z
section
variable {P:Program}{tm:TmT}{h:HpT}{nx:Nat}{o:Oper}{K:Al}
def Uu{n:Nat}{Z:KT}{es es':List (D×D)}(hn:h n=some (true,.map Z es))(ac:(∀e∈es,Z.fit e.1=true)-> ∀e∈es',Z.fit e.1=true)
 (ai: ∀(S:AD) (a:Act) (b:Nat) (Q:Array MapEntry) (clock:Nat),(∀x∈o.op.operands,Ab S (Ay tm x) (a.eval x))->(∀v,Ab S (.mp n) v->v= .map (some b))->
  (∀e∈es,Z.fit e.1=true)->S.w.heap[b]? =some (.map Q clock)->Dh S.ok S.hp es Q.toList->(Q.toList.map (·.born)).Nodup->(∀e∈Q.toList,e.born<clock)->
  ∃z O w',((execOp a.eval o).run P S.w= .ok .skip w'\/ ∃v,(execOp a.eval o).run P S.w= .ok (.value v) w')/\w'.heap=S.w.heap.setIfInBounds b (.map z O)/\w'.os=S.w.os/\w'.tape=S.w.tape/\(w'.output=S.w.output/\S.w.drawn<=w'.drawn)/\
   Dh S.ok S.hp es' z.toList/\(z.toList.map (·.born)).Nodup/\(∀e∈z.toList,e.born<O))
 (hk:K .any {use:=[n],kill:=[n],new:=[(n,(true,.map Z es'))]}):Cr P tm h nx o K:=by
 refine⟨_,_,BP.one (u:=[n]) (ks:=[n]) (m:=n) (cnt:=0) (.inr ⟨rfl,auSi,by rw[hn];simp⟩) ?_,hk⟩;intro C S a hW hu _ _ ah;have hS:S.h n=some (true,.map Z es):=(hu n auSi).trans hn;have ag:=hW.obj _ _ hS;simp only[Au] at ag;obtain⟨l,Q,clock,hl,ad,hb,aj,ak,hcl⟩:=ag;obtain⟨z,O,w',h1,h2,h3,h4,h5,h6,h7,h8⟩:=ai S a l.b Q clock ah (by
  intro v hv;simp only[Ab] at hv;obtain⟨l',af,am⟩:=hv.2 _ hS;rw[hl] at af;obtain rfl:=AJ af;exact am) ad hb aj ak hcl
 have ab:Mq S n (.map Z es') (some l) [n] w':=jU hW hS hl h2 h3 h4 h5.1 rfl rfl h5.2;have aa:Ck (λn'=>S.h n≠none\/n'≠n) S (S.one n (.map Z es') (some l) [n] w')->Au (S.one n (.map Z es') (some l) [n] w') (some l) (.map Z es'):=by
  intro hp;simp only[Au];exact⟨l,z,O,rfl,ac ad,jZ (hW.loc n _ l hS hl).1 h2,Mj hp.ok _ _ h6,h7,h8⟩
 rcases h1 with h1|⟨v,h1⟩
 .exact⟨undef,w',some l,.inr ⟨h1,rfl⟩,ab,λhp=>⟨aa hp,by simp only[Ab]⟩⟩
 .exact⟨v,w',some l,.inl h1,ab,λhp=>⟨aa hp,by simp only[Ab]⟩⟩
def Qjd{T:TypeId}{m k v:Operand}{ti:TI}{n:Nat}{kd vd:D}(Q:o.op= .mapUpdate T m k v\/o.op= .insert T m k v)(hT:tI P T=some ti)(hm:Ay tm m= .mp n)(am:Ay tm k= .im kd)(aq:Ay tm v= .im vd)(hk:LL P h n kd vd K ti.kind):Cr P tm h nx o K:=by
 cases hf:ti.kind<;>rw[hf] at hk<;>try exact hk.elim
 rename_i kT e;have hu:=qO hT hf;simp only[LL] at hk;cases hkt:Cn P kT with
 |none=>rw[hkt] at hk;exact hk.elim
 |some kt=>
 rw[hkt] at hk;simp only[U3] at hk;cases hn:h n with
 |none=>rw[hn] at hk;exact hk.elim
 |some af=>
 rw[hn] at hk;obtain⟨mu,af⟩:=af;cases mu<;>cases af<;>try exact hk.elim
 rename_i aw es;simp only[U4] at hk;obtain⟨rfl,aa,hk⟩:=hk;refine Uu hn (MO aa es) ?_ hk;intro S a b O clock ab au ah hb ad ai hcl;have h1:=au _ (by have:=ab m (by rcases Q with Q|Q<;>rw[Q]<;>simp[Op.operands]);rwa [hm] at this);have h2:=ab k (by rcases Q with Q|Q<;>rw[Q]<;>simp[Op.operands]);have h3:=ab v (by rcases Q with Q|Q<;>rw[Q]<;>simp[Op.operands]);rw[am] at h2;rw[aq] at h3;simp only[Ab] at h2 h3;obtain⟨r,h4,h5⟩:=Qfw (w:=S.w) hkt aa h2 es O.toList ah ad;have ag:=Qit (P:=P) (w:=S.w) (em:=false) 5 10000 auOm kT aw hkt kd _ aa h2;cases r with
 |none=>
  obtain⟨w',h6,h7⟩:=Qiy (P:=P) (w:=S.w) (b:=b) (es:=O) (es':=O.push {key:=a.eval k,val:=a.eval v,born:=clock}) (clock:=clock) (c':=clock+1) hb;refine⟨_,_,w',.inl ?_,h7.1,h7.2.1,h7.2.2.1,h7.2.2.2,?_,?_,?_⟩
  .rcases Q with Q|Q<;>simp only[execOp,Q,h1]<;>
   simp[Instr.mapUpdate,run_underlying hu,QW (w:=S.w) hb,ag,h4,h6]
  .rw[h5.2.1,zO];exact tL h2 h3 _ _ ad
  .rw[zO,Dj,Hj];refine⟨ai,auSi,?_⟩;intro x hx y hy;simp only[Br,Gl,Am] at hy;subst hy;simp only[BY] at hx;obtain⟨e',Z,rfl⟩:=hx
   have:=hcl e' Z
   omega
  .intro e' Z;rw[zO,BO,Am] at Z;rcases Z with Z|rfl
   .have:=hcl e' Z;omega
   .simp
 |some r=>
  obtain⟨j,v0⟩:=r;obtain⟨p,k',y,h6,h7,h8,h9,ax,aj,ay⟩:=h5;rw[Je] at h6;subst h6;have hj: ∃e',O[j]? =some e'/\rd S.ok S.hp k' e'.key:=by
   have key: ∀(ds:List (D×D)) (es:List MapEntry) (p:Nat),Dh S.ok S.hp ds es->ds[p]? =some (k',y)-> ∃e',es[p]? =some e'/\rd S.ok S.hp k' e'.key:=by
    intro ds;induction ds with
    |nil=>intro es p _ h;simp at h
    |cons d ds ih=>
     intro es p h hp;obtain⟨d1,d2⟩:=d;simp only[Dh] at h;obtain⟨e',r,rfl,g1,g2,g3⟩:=h;cases p with
     |zero=>simp at hp;obtain⟨rfl,rfl⟩:=hp;exact⟨e',rfl,g1⟩
     |succ p=>simpa using ih r p g3 (by simpa using hp)
   obtain⟨e',g1,g2⟩:=key es O.toList j ad h7;exact⟨e',by simpa using g1,g2⟩
  obtain⟨e',Z,an⟩:=hj;have ao:=PN (P:=P) (w:=S.w) aa (ah (k',y) (Bj h7)) h2 an h8;obtain⟨w',ak,ac⟩:=Qiy (P:=P) (w:=S.w) (b:=b) (es:=O) (es':=O.modify j λe=>{e with key:=a.eval k,val:=a.eval v}) (clock:=clock) (c':=clock) hb;refine⟨_,_,w',.inl ?_,ac.1,ac.2.1,ac.2.2.1,ac.2.2.2,?_,?_,?_⟩
  .rcases Q with Q|Q<;>simp only[execOp,Q,h1]<;>
   simp[Instr.mapUpdate,run_underlying hu,QW (w:=S.w) hb,ag,h4,Z,ao,ak]
  .rw[aj,rP];exact NJ h2 h3 j _ _ ad
  .rw[rP,Qpy];exact ai
  .intro x hx
   have:x.born∈(O.modify j λe=>{e with key:=a.eval k,val:=a.eval v}).toList.map (·.born):=Zed hx
   rw[rP,Qpy,BY] at this;obtain⟨z,hz,av⟩:=this;rw[<-av];exact hcl z hz
def Qabh{T:TypeId}{m k:Operand}{c:Call}{rest:List TypeId}(ho:o.op= .call c)(Z:c.callee= .builtin .delete)(Q:c.args= #[m,k])(ao:c.argTypes.toList=T::rest)
 (O:Bz (Qni P h K (Ay tm m) (Ay tm k)) (tI P T)):Cr P tm h nx o K:=by
 cases hT:tI P T with
 |none=>rw[hT] at O;exact O.elim
 |some ti=>
 rw[hT] at O;simp only[Bz,Qni] at O;cases hm:Ay tm m<;>rw[hm] at O<;>try exact O.elim
 rename_i n;cases hkd:Ay tm k<;>rw[hkd] at O<;>try exact O.elim
 rename_i kd;simp only at O;cases hf:ti.kind<;>rw[hf] at O<;>try exact O.elim
 rename_i kT e;have hu:=qO hT hf;simp only[Tf] at O;cases hkt:Cn P kT with
 |none=>rw[hkt] at O;exact O.elim
 |some kt=>
 rw[hkt] at O;simp only[Zg] at O;cases hn:h n with
 |none=>rw[hn] at O;exact O.elim
 |some ad=>
 rw[hn] at O;obtain⟨mu,ad⟩:=ad;cases mu<;>cases ad<;>try exact O.elim
 rename_i au es;simp only[Tg] at O;obtain⟨rfl,ab,O⟩:=O;have aj:c.argTypes[0]? =some T:=by
  have:c.argTypes.toList[0]? =some T:=by rw[ao];rfl
  simpa using this
 refine Uu hn (MN es) ?_ O;intro S a b z clock ac aq an hb af ai hcl;have h1:=aq _ (by have:=ac m (by rw[ho];simp[Op.operands,Call.operands,Q,Z]);rwa [hm] at this);have h2:=ac k (by rw[ho];simp[Op.operands,Call.operands,Q,Z]);rw[hkd] at h2;simp only[Ab] at h2;obtain⟨r,h4,h5⟩:=Qfw (w:=S.w) hkt ab h2 es z.toList an af;have ah:=Qit (P:=P) (w:=S.w) (em:=z.isEmpty) 5 10000 auOm kT au hkt kd _ ab h2;cases r with
 |none=>
  obtain⟨w',h6,h7⟩:=Qiy (P:=P) (w:=S.w) (b:=b) (es:=z) (es':=z) (clock:=clock) (c':=clock) hb;refine⟨_,_,w',.inr ⟨.tuple #[],?_⟩,h7.1,h7.2.1,h7.2.2.1,h7.2.2.2,by rw[h5.2.2];exact af,ai,hcl⟩;simp only[execOp,ho,resolve,Z,Q,Sem.run_bind,Sem.run_pure,Result.andThen_ok,invoke,builtin];simp[Builtin.delete_,aj,h1,run_underlying hu,QW (w:=S.w) hb,ah,h4,h6]
 |some r=>
  obtain⟨j,v0⟩:=r;obtain⟨p,k',y,h6,h7,h8,h9,av,aw,ak⟩:=h5;rw[Je] at h6;subst h6;obtain⟨w',am,aa⟩:=Qiy (P:=P) (w:=S.w) (b:=b) (es:=z) (es':=z.eraseIdxIfInBounds j) (clock:=clock) (c':=clock) hb;have ag:(z.eraseIdxIfInBounds j).toList=z.toList.eraseIdx j:=auSi;refine⟨_,_,w',.inr ⟨.tuple #[],?_⟩,aa.1,aa.2.1,aa.2.2.1,aa.2.2.2,?_,?_,?_⟩
  .simp only[execOp,ho,resolve,Z,Q,Sem.run_bind,Sem.run_pure,Result.andThen_ok,invoke,builtin];simp[Builtin.delete_,aj,h1,run_underlying hu,QW (w:=S.w) hb,ah,h4,am]
  .rw[ak,ag];exact Qpa j _ _ af
  .rw[ag];exact ai.sublist ((ZeI _ _).map _)
  .intro x hx;rw[ag] at hx;exact hcl x ((ZeI _ _).mem hx)
end
def wV{ok:Nat->Prop}{hp:Nat->Option Obj}{k:Nat}: ∀(l:Nat) (rows:List (List D)) (vs:LVa),rdr ok hp k rows vs->rdr ok hp k (rows.drop l) (vs.drop (l*k))
 |0,rows,vs,h=>by simpa using h
 |l+1,[],vs,_=>by simp only[ZeZ,rdr]
 |l+1,r::z,vs,h=>by
  simp only[rdr] at h
  have:=wV l z _ h.2.2
  rw[FW] at this;simp only[Sv];rwa [show (l+1)*k=k+l*k by rw[lJ];omega]
def pM{ok:Nat->Prop}{hp:Nat->Option Obj}{k:Nat}: ∀(n:Nat) (rows:List (List D)) (vs:LVa),rdr ok hp k rows vs->rdr ok hp k (rows.take n) vs
 |0,rows,vs,_=>by simp only[eF,rdr]
 |n+1,[],vs,_=>by simp only[Zfa,rdr]
 |n+1,r::z,vs,h=>by
  simp only[rdr] at h;simp only[Mx,rdr];exact⟨h.1,h.2.1,pM n z _ h.2.2⟩
section
variable {P:Program}{tm:TmT}{h:HpT}{nx:Nat}{o:Oper}{K:Al}
def SH{S:AD}{a:Act}{x:Option Operand}{d:Nat}{l:Int}(z:HU d (Eo tm x)=some l)(O: ∀y,x=some y->Ab S (Ay tm y) (a.eval y)):
 (x=none/\l=d)\/ ∃y k,x=some y/\a.eval y= .int k l:=by
 cases x with
 |none=>simp only[Eo,HU,AS] at z;exact .inl ⟨rfl,z.symm⟩
 |some y=>
  right;have Q:=O y rfl;simp only[Eo] at z;cases hx:Ay tm y<;>rw[hx] at z<;>simp only[HU,reduceCtorEq] at z;rename_i d;cases d<;>simp only[reduceCtorEq,AS] at z;rename_i k n;subst z;rw[hx] at Q;simp only[Ab,rd] at Q;exact⟨y,k,rfl,Q⟩
def Qq1{S:AD}{a:Act}{lo hi:Option Operand}{l m:Int}{len cap:Nat}{isS:Bool}(ac:HU 0 (Eo tm lo)=some l)(aa:HU len (Eo tm hi)=some m)
 (h0:0<=l)(ab:l<=m)(hm:m<=(len:Int))(ad:len<=cap)(O: ∀y,lo=some y\/hi=some y->Ab S (Ay tm y) (a.eval y))(w:World):
 (Instr.sliceBounds isS len cap (lo.map a.eval) (hi.map a.eval) none).run P w= .ok (l.toNat,m.toNat,cap) w:=by
 have h1:=SH ac (λy Q=>O y (.inl Q));have h2:=SH aa (λy Q=>O y (.inr Q));have Z:m<=(cap:Int):=auOm;unfold Instr.sliceBounds;rcases h1 with ⟨rfl,rfl⟩|⟨y,k,rfl,Q⟩<;>rcases h2 with ⟨rfl,rfl⟩|⟨z,k',rfl,hz⟩
 .simp
 .simp[Instr.sliceBound,hz,asIntOf,Z,show (0:Int)<=m by omega]
 .simp[Instr.sliceBound,Q,asIntOf,h0,ab]
 .simp only[CT,Sem.run_bind,Sem.run_pure,Result.andThen_ok];have af:((m.toNat:Nat):Int)=m:=auOm;simp[Instr.sliceBound,Q,hz,asIntOf,h0,Z,show (0:Int)<=m by omega,show ¬(max m 0<l) by omega]
def jG{T e:TypeId}{te:TI}(hu:P.underlying T=some (.slice e))(hE:tI P e=some te){S:AD}{a:Act}{x:Operand}{lo hi:Option Operand}{l m:Int}{len cap:Nat}{base:Option Addr}
 (ho:o.op= .slice T x lo hi none)(hx:a.eval x= .slice base len cap)(aa:HU 0 (Eo tm lo)=some l)(Q:HU len (Eo tm hi)=some m)
 (h0:0<=l)(Z:l<=m)(hm:m<=(len:Int))(z:len<=cap)(O: ∀y∈o.op.operands,Ab S (Ay tm y) (a.eval y))(w:World):
 (execOp a.eval o).run P w= .ok (.value (.slice (if cap=l.toNat then base else base.map (·.add (l.toNat*te.size))) (m.toNat - l.toNat) (cap - l.toNat))) w:=by
 have hb:=Qq1 (P:=P) (isS:=true) aa Q h0 Z hm z (λy hy=>O y (by rw[ho];rcases hy with rfl|rfl<;>simp[Op.operands])) w;have ab:(underlying T).run P w= .ok (.slice e) w:=by simp[underlying,hu]
 simp only[execOp,ho,hx,Instr.sliceAt,Instr.slice,Sem.run_bind,ab,Result.andThen_ok,Option.map_none,hb,J1 hE,Sem.run_pure]
def QA{T:TypeId}{x:Operand}{lo hi:Option Operand}(ho:o.op= .slice T x lo hi none)(z:Bz (Qsm P h nx (Ay tm x) (Eo tm lo) (Eo tm hi) K) (tI P T)):Cr P tm h nx o K:=by
 have ag:x∈o.op.operands:=by rw[ho];simp[Op.operands]
 cases hT:tI P T with
 |none=>rw[hT] at z;exact z.elim
 |some ti=>
 rw[hT] at z;simp only[Bz,Qsm] at z;cases hf:ti.kind<;>rw[hf] at z<;>try exact z.elim
 case str=>
  have hu:=RC hT hf;simp only[Rv] at z;cases hx:Ay tm x<;>rw[hx] at z<;>try exact z.elim
  rename_i d;cases d<;>try exact z.elim
  rename_i s;simp only[oD] at z;cases Q:HU 0 (Eo tm lo) with
  |none=>rw[Q] at z;exact z.elim
  |some l=>
  cases hhi:HU s.size (Eo tm hi) with
  |none=>rw[Q,hhi] at z;exact z.elim
  |some m=>
  rw[Q,hhi] at z;simp only[Kk] at z;obtain⟨h0,ac,hm,z⟩:=z;refine⟨_,_,BP.pure (u:=[]) ?_,z⟩;intro C S a hW _ O;have h1:=O x ag;rw[hx] at h1;simp only[Ab,rd] at h1;refine⟨.string (s.extract l.toNat m.toNat),?_,by simp only[Ab,rd]⟩;have hb:=Qq1 (P:=P) (isS:=false) Q hhi h0 ac hm (BN _) (λy hy=>O y (by rw[ho];rcases hy with rfl|rfl<;>simp[Op.operands])) S.w;have ai:(underlying T).run P S.w= .ok .string S.w:=by simp[underlying,hu]
  simp only[execOp,ho,h1,Instr.sliceAt,Instr.slice,Sem.run_bind,ai,Result.andThen_ok,Option.map_none,rD,BL,HS,hb,Sem.run_pure]
 case slice e=>
 have hu:=QX hT hf;simp only[Rv] at z;cases hE:tI P e with
 |none=>rw[hE] at z;exact z.elim
 |some te=>
 rw[hE] at z;simp only[Bz] at z;cases hx:Ay tm x<;>rw[hx] at z<;>try exact z.elim
 case im d=>
  cases d<;>try exact z.elim
  rename_i nz k rows;simp only[slE] at z;obtain⟨af,z⟩:=z;cases Q:HU 0 (Eo tm lo) with
  |none=>rw[Q] at z;exact z.elim
  |some l=>
  cases hhi:HU rows.length (Eo tm hi) with
  |none=>rw[Q,hhi] at z;exact z.elim
  |some m=>
  rw[Q,hhi] at z;simp only[VQ] at z;obtain⟨h0,ac,hm,z⟩:=z;refine⟨_,_,BP.pure (u:=[]) ?_,z⟩;intro C S a hW _ O;have h1:=O x ag;rw[hx] at h1;simp only[Ab,rd] at h1;have Z:((rows.drop l.toNat).take (m - l).toNat).length=m.toNat - l.toNat:=by
   rw[Eb,CM];omega
  rcases h1 with ⟨au,rfl⟩|⟨b,p,cap,vs,U,fr,h1,h2,h3,h4,h5,h6,h7⟩
  .simp only[Ed] at hm hhi;obtain⟨ao,h1⟩:=xV au;refine⟨_,jG hu hE ho h1 Q hhi h0 ac hm (BN 0) O S.w,?_⟩;have e1:l.toNat=0:=auOm;have e2:m.toNat=0:=auOm;simp only[Ab,rd,e1,e2];refine .inl ⟨?_,auSi⟩;cases ao with
   |none=>exact .inl auSi
   |some ad=>exact .inr ⟨rfl,ad,auSi⟩
  .refine⟨_,jG hu hE ho h1 Q hhi h0 ac hm h3 O S.w,?_⟩;simp only[Ab,rd];right;by_cases hc:cap=l.toNat
   .refine⟨b,p,cap - l.toNat,vs,U,fr,by rw[Bt hc,Z],auSi,by rw[Z];omega,by rw[Z];exact Gu auOm h4,h5,h6,?_⟩
    have:(rows.drop l.toNat).take (m - l).toNat=[]:=Sw (by rw[Z];omega)
    rw[this];simp only[rdr]
   .refine⟨b,p+l.toNat*te.size,cap - l.toNat,vs,U,fr,by rw[Be hc,Z];simp[Addr.add],auSi,by rw[Z];omega,by rw[Z];omega,h5,h6,?_⟩;rcases af with af|af
    .subst af
     have:=pM (m - l).toNat _ _ (wV l.toNat _ _ h7)
     rwa [FW] at this
    .subst af;simp only[ZeZ,Zfa,rdr]
 case own n=>
  simp only[slE] at z;cases hn:h n with
  |none=>rw[hn] at z;exact z.elim
  |some am=>
  rw[hn] at z;obtain⟨mu,am⟩:=am;cases am<;>try exact z.elim
  rename_i U k rows;simp only[VR] at z;obtain⟨af,z⟩:=z;cases Q:HU 0 (Eo tm lo) with
  |none=>rw[Q] at z;exact z.elim
  |some l=>
  cases hhi:HU rows.length (Eo tm hi) with
  |none=>rw[Q,hhi] at z;exact z.elim
  |some m=>
  rw[Q,hhi] at z;simp only[Kl] at z;obtain⟨h0,ac,hm,mv,z⟩:=z;have Z:((rows.drop l.toNat).take (m - l).toNat).length=m.toNat - l.toNat:=by
   rw[Eb,CM];omega
  cases mv with
  |false=>
   simp only[yN] at z;refine⟨_,_,BP.pure (u:=[n]) ?_,z⟩;intro C S a hW ai O;have h1:=O x ag;rw[hx] at h1;simp only[Ab] at h1;have hS:=(ai n auSi).trans hn;have h1:=h1.2 _ hS;have aa:=hW.obj _ _ hS;simp only[Au] at aa;cases hl0:S.ρ n with
   |none=>
    rw[hl0] at h1 aa;obtain⟨_,aa⟩:=aa;subst aa;simp only[Ed] at hm hhi;refine⟨_,jG hu hE ho h1 Q hhi h0 ac hm (BN 0) O S.w,?_⟩;simp only[Ab];refine⟨rfl,λe' ab=> ?_⟩;rw[hl0];unfold QU;have e1:l.toNat=0:=auOm;have e2:m.toNat=0:=auOm;have e3:(m - l).toNat=0:=auOm;simp[e1,e2,e3]
   |some lc=>
    rw[hl0] at h1 aa;obtain⟨g0,g1,vs,g2,g3,g4⟩:=aa;simp only[Ad.len] at h1;refine⟨_,jG hu hE ho h1 Q hhi h0 ac hm g1 O S.w,?_⟩;simp only[Ab];refine⟨rfl,λe' ab=> ?_⟩;rw[hS] at ab;obtain rfl:=AJ ab;rw[hl0];unfold QU;simp only[Ad.esz,Ad.len];by_cases hc:lc.cap=l.toNat
    .rw[Bt hc];exact⟨lc.p,lc.cap - l.toNat,by congr 1;omega,auOm,λaw=>absurd (show (m - l).toNat=0 by omega) aw,auOm⟩
    .rw[Be hc];exact⟨lc.p+l.toNat*te.size,lc.cap - l.toNat,by rw[show m.toNat - l.toNat=(m - l).toNat by omega];simp[Addr.add],auOm,λ_=>by rw[af],auOm⟩
  |true=>
   simp only[yN] at z;obtain⟨rfl,z⟩:=z;refine⟨_,_,BP.one (u:=[n]) (ks:=[n]) (.inl ⟨rfl,rfl⟩) ?_,z⟩;intro C S a hW ai av aj O;have h1:=O x ag;rw[hx] at h1;simp only[Ab] at h1;have hS:=(ai n auSi).trans hn;have h1:=h1.2 _ hS;have aa:=hW.obj _ _ hS;simp only[Au] at aa;have ah:=av rfl;have ax:nx≠n:=λh'=>by subst h';rw[hS] at ah;cases ah
   cases hl0:S.ρ n with
   |none=>
    rw[hl0] at h1 aa;obtain⟨_,aa⟩:=aa;subst aa;simp only[Ed] at hm hhi;refine⟨_,S.w,none,.inl (jG hu hE ho h1 Q hhi h0 ac hm (BN 0) O S.w),Ql6 ah (λn f hf=>aj n f hf rfl),?_⟩;intro hp;have e1:l.toNat=0:=auOm;have e2:m.toNat=0:=auOm;refine⟨by simp[Au],?_⟩;simp only[Ab];refine⟨rfl,λe' ab=> ?_⟩;simp[AD.one,e1,e2]
   |some lc=>
    rw[hl0] at h1 aa;obtain⟨g0,g1,vs,g2,g3,g4⟩:=aa;simp only[Ad.len] at h1;obtain⟨q1,q2⟩:=hW.loc n _ lc hS hl0;have ak: ∀(p cap:Nat),Mq S nx (.arr U k ((rows.drop l.toNat).take (m - l).toNat)) (some ⟨lc.b,p,cap⟩) [n] S.w:=by
     intro p cap;refine⟨rfl,rfl,rfl,BN _,BN _,λ_ _ _=>rfl,.inr ah,?_,?_,λn f hf _=>aj n f hf rfl⟩
     .intro lo Q;obtain rfl:=AJ Q;exact⟨q1,.inr ⟨n,_,lc,auSi,hS,hl0,rfl⟩⟩
     .intro f hf;rw[ah] at hf;cases hf
    have an: ∀(e:Ad) (l:Option GI),(S.one nx e l [n] S.w).hp=S.hp:=λ_ _=>rfl
    by_cases hc:lc.cap=l.toNat
    .refine⟨_,S.w,some ⟨lc.b,lc.p,lc.cap - l.toNat⟩,.inl (jG hu hE ho h1 Q hhi h0 ac hm g1 O S.w),ak _ _,?_⟩;intro hp;have aq:(rows.drop l.toNat).take (m - l).toNat=[]:=Sw (by rw[Z];omega);constructor
     .simp only[Au,an];rw[aq];refine⟨auSi,auSi,vs,g2,?_,by simp only[rdr]⟩
      have:lc.cap - l.toNat=0:=auOm
      rw[this];omega
     .simp only[Ab];refine⟨rfl,λe' ab=> ?_⟩;simp only[AD.one,Ff,AS] at ab⊢;subst ab;simp only[Ad.len,Z];rw[Bt hc]
    .refine⟨_,S.w,some ⟨lc.b,lc.p+l.toNat*te.size,lc.cap - l.toNat⟩,.inl (jG hu hE ho h1 Q hhi h0 ac hm g1 O S.w),ak _ _,?_⟩;intro hp;constructor
     .simp only[Au,an];rw[Z];refine⟨auOm,auOm,vs,g2,?_,?_⟩
      .subst af;have e1:l.toNat*te.size+(lc.cap - l.toNat)*te.size=lc.cap*te.size:=by rw[<-HQ];congr 1;omega
       omega
      .subst af
       have:=pM (m - l).toNat _ _ (wV l.toNat _ _ g4)
       rw[FW] at this;exact this
     .simp only[Ab];refine⟨rfl,λe' ab=> ?_⟩;simp only[AD.one,Ff,AS] at ab⊢;subst ab;simp only[Ad.len,Z];rw[Be hc];simp[Addr.add]
end
def Qta{ok:Nat->Prop}{hp:Nat->Option Obj}{k:Nat}: ∀(Z r2:List (List D)) (L M:LVa),rdr ok hp k Z L->L.length=Z.length*k->rdr ok hp k r2 M->rdr ok hp k (Z++r2) (L++M)
 |[],r2,L,M,_,O,Q=>by
  simp only[Ed,Mu,Rk] at O;subst O;simpa using Q
 |r::rs,r2,L,M,z,O,Q=>by
  simp only[rdr] at z;simp only[Em,lJ] at O;simp only[BZ,rdr];refine⟨z.1,xW _ _ _ z.2.1,?_⟩;rw[eI auOm];exact Qta rs r2 _ _ z.2.2 (by rw[CM];omega) Q
def Vn{ok:Nat->Prop}{hp:Nat->Option Obj}{k a:Nat}{rows src:List (List D)}{B L:LVa}(h:rdr ok hp k rows B)(hB:rows.length*k<=B.length)(Q:rdr ok hp k src L)(z:L.length=src.length*k)
 (ha:a+src.length<=rows.length):rdr ok hp k (rows.take a++src++rows.drop (a+src.length)) (C6 B (a*k) L):=by
 unfold C6;have Z:a*k<=rows.length*k:=Iv _ auOm;have O:rdr ok hp k (rows.take a) (B.take (a*k)):=by
  have:=Qrl (rows.take a) B (pM a _ _ h) (by rw[Eb];have:=Iv k (L4 a rows.length);omega)
  rwa [Eb,show min a rows.length=a by omega] at this
 refine Qta _ _ _ _ (Qta _ _ _ _ O (by rw[Eb,Eb,show min a rows.length=a by omega];omega) Q) ?_ ?_
 .simp only[BR,Eb];rw[show min a rows.length=a by omega,show min (a*k) B.length=a*k by omega,z,HQ]
 .have:=wV (a+src.length) _ _ h
  rwa [HQ,<-z] at this
def Zh(S:AD)(o a n k:Nat)(rows:List (List D))(v:Value):Prop:=
 (v= .slice none 0 0/\rows=[]/\n=0/\S.ρ o=none)\/ ∃l p z,S.ρ o=some l/\v= .slice (some ⟨l.b,p,none⟩) n z/\(n≠0->p=l.p+a*k)/\a+n<=rows.length
section
variable {P:Program}{tm:TmT}{h:HpT}{nx:Nat}{o:Oper}{K:Al}
def aH{S:AD}{m:Nat}{f e:Ad}(hm:S.h m=some (true,f))(Q: ∀l,S.ρ m=some l->l.b<S.w.heap.size)(hz:e.esz=f.esz)(Z:e.len=f.len):Mq S m e (S.ρ m) [m] S.w:=by
 refine⟨rfl,rfl,rfl,BN _,BN _,λ_ _ _=>rfl,.inl auSi,?_,?_,?_⟩
 .intro lo O;exact⟨Q lo O,.inr ⟨m,f,lo,auSi,hm,O,rfl⟩⟩
 .intro g hg;rw[hm] at hg;obtain rfl:=AJ hg;exact⟨rfl,hz,Z⟩
 .intro n g _ z;rw[hm] at z;cases z
def Ox{C:Bn}{S:AD}(hW:Wf C S){m T k a n:Nat}{rows:List (List D)}(Z:S.h m=some (true,.arr T k rows)){base:Option Addr}{dl dc:Nat}(hd:Zh S m a n k rows (.slice base dl dc)){src:List (List D)}{L:LVa}
 (hm:src.length<=n)(hL:L.length=src.length*k)(hr:rdr S.ok S.hp k src L)(h1: ∀v∈L,v.oneCell'=true):
 ∃w',((match base with|some a=>storeCells a L|none=>pure ()):Sem Unit).run P S.w= .ok () w'/\Mq S m (.arr T k (rows.take a++src++rows.drop (a+src.length))) (S.ρ m) [m] w'/\
  (Ck (λn'=>S.h m≠none\/n'≠m) S (S.one m (.arr T k (rows.take a++src++rows.drop (a+src.length))) (S.ρ m) [m] w')->Au (S.one m (.arr T k (rows.take a++src++rows.drop (a+src.length))) (S.ρ m) [m] w') (S.ρ m) (.arr T k (rows.take a++src++rows.drop (a+src.length)))):=by
 have z:=hW.obj _ _ Z;by_cases hs:src=[]
 .subst hs;simp only[Ed,Mu,Rk] at hL;subst hL;have e:rows.take a++([]:List (List D))++rows.drop (a+([]:List (List D)).length)=rows:=auSi;rw[e];refine⟨S.w,by cases base<;>simp[storeCells],aH Z (λl Q=>(hW.loc m _ l Z Q).1) rfl rfl,λhp=> ?_⟩;exact Im hp (λ_ _=>rfl) _ (by simp[Ad.nms]) z
 .have af:0<src.length:=rF.2 hs;rcases hd with ⟨_,_,rfl,_⟩|⟨l,p,cp,Q,hv,hp,ha⟩
  .omega
  .simp only[Value.slice.injEq] at hv;obtain⟨rfl,rfl,rfl⟩:=hv;have hp:=hp auOm;subst hp;rw[Q] at z;simp only[Au] at z;obtain⟨g0,g1,vs,g2,g3,g4⟩:=z;have ad:rows.length*k<=l.cap*k:=Iv _ g1;have ab:(a+src.length)*k<=rows.length*k:=Iv _ auOm;rw[HQ] at ab;have aa:vs.toList.length=vs.size:=HA;obtain⟨w',r1,r2,r3,r4,r5⟩:=Qf9 (P:=P) (w:=S.w) (b:=l.b) (p:=l.p+a*k) (T:=T) L 0 vs h1 auOm g2;have O:(rows.take a++src++rows.drop (a+src.length)).length=rows.length:=by simp;omega
   rw[Q];refine⟨w',r1,jU hW Z Q r2 r3 r4 r5.1 rfl O r5.2,λac=> ?_⟩;simp only[Au];rw[O];refine⟨g0,g1,_,jZ (hW.loc m _ l Z Q).1 r2,?_,?_⟩
   .simp only[Zew,C6,BR,Eb,CM];omega
   .have h9:=Vn g4 (by rw[CM,aa];omega) hr hL (by omega:a+src.length<=rows.length)
    have:=dD ac.ok k _ _ h9
    simp only[lC];rw[Qg9 _ _ _ _ (by rw[aa];omega)];exact this
def Qqv{C:Bn}{S:AD}(hW:Wf C S){X:AV}{v:Value}{m a n T k:Nat}{rows:List (List D)}(Q:Xg h X=some (m,a,n,T,k,rows))(hu:S.h m=h m)(O:Ab S X v):
 S.h m=some (true,.arr T k rows)/\Zh S m a n k rows v/\X.nms=[m]:=by
 cases X<;>simp only[Xg,reduceCtorEq] at Q
 case own q=>
  cases hq:h q with
  |none=>rw[hq] at Q;cases Q
  |some e=>
   obtain⟨mu,e⟩:=e;rw[hq] at Q;cases mu<;>cases e<;>simp only[Tb,reduceCtorEq,AS,B6] at Q;obtain⟨rfl,rfl,rfl,rfl,rfl,rfl⟩:=Q;have Z:=hu.trans hq;refine⟨Z,?_,rfl⟩;simp only[Ab] at O;have O:=O.2 _ Z;have z:=hW.obj _ _ Z;simp only[Au] at z;unfold Zh;cases hl:S.ρ q with
   |none=>
    rw[hl] at O z;exact .inl ⟨O,z.2,by rw[z.2];rfl,rfl⟩
   |some l=>
    rw[hl] at O;exact .inr ⟨l,l.p,l.cap,rfl,O,λ_=>auOm,auOm⟩
 case osl q wa wn=>
  cases hq:h q with
  |none=>rw[hq] at Q;cases Q
  |some e=>
   obtain⟨mu,e⟩:=e;rw[hq] at Q;cases mu<;>cases e<;>simp only[Tc,reduceCtorEq,AS,B6] at Q;obtain⟨rfl,rfl,rfl,rfl,rfl,rfl⟩:=Q;have Z:=hu.trans hq;refine⟨Z,?_,rfl⟩;simp only[Ab] at O;have O:=O.2 _ Z;have z:=hW.obj _ _ Z;simp only[Au] at z;unfold QU at O;unfold Zh;cases hl:S.ρ q with
   |none=>
    rw[hl] at O z;exact .inl ⟨O.1,z.2,O.2,rfl⟩
   |some l=>
    rw[hl] at O;obtain⟨p,cp,h1,h2,h3,h4⟩:=O;exact .inr ⟨l,p,cp,rfl,h1,h3,h4⟩
def S6{S:AD}: ∀(ds:List D) (vs:LVa),Ee ds=true->rdl S.ok S.hp ds vs-> ∀v∈vs,v.oneCell'=true:=by
 intro ds vs h z;exact pA (S:=S) _ _ (Qsa ds h) ((Js _ _).2 z)
def Qaby{C:Bn}{S:AD}(hW:Wf C S){X:AV}{v:Value}{u:List Nat}{ks z:Nat}{src:List (List D)}(Z:kH h X=some (u,ks,src))(hu: ∀n∈u,S.h n=h n)(Q:Ab S X v)(hz:z≠0)(hk:ks=z\/src=[])(ag:DI Ee src):
 (Builtin.lenOf v).run P S.w= .ok src.length S.w/\ ∀n,n<=src.length-> ∃L,(Builtin.firstCells z n v).run P S.w= .ok L.toArray S.w/\L.length=(src.take n).length*z/\rdr S.ok S.hp z (src.take n) L/\ ∀v∈L,v.oneCell'=true:=by
 have af: ∀(b p cp:Nat) (vs:Array Value) (T:TypeId) (fr:Nat×Nat),v= .slice (some ⟨b,p,none⟩) src.length cp->(src≠[]->S.hp b=some (.cells vs T fr)/\p+src.length*z<=vs.size/\rdr S.ok S.hp z src (vs.toList.drop p))->
  (Builtin.lenOf v).run P S.w= .ok src.length S.w/\ ∀n,n<=src.length-> ∃L,(Builtin.firstCells z n v).run P S.w= .ok L.toArray S.w/\L.length=(src.take n).length*z/\rdr S.ok S.hp z (src.take n) L/\ ∀v∈L,v.oneCell'=true:=by
  rintro b p cp vs T fr rfl h1;refine⟨by simp[Builtin.lenOf],λn hn=> ?_⟩;by_cases hs:src=[]
  .subst hs;simp only[Ed,Nat.le_zero_eq] at hn;subst hn;exact⟨[],by simp[Builtin.firstCells,loadCells,loadCellsFrom],auSi,by simp[rdr],auSi⟩
  .obtain⟨g1,g2,g3⟩:=h1 hs;have am:n*z<=src.length*z:=Iv _ hn;have ac:vs.toList.length=vs.size:=HA;have ab:(src.take n).length=n:=by rw[Eb];omega
   have hr:=Qrl (src.take n) _ (pM n _ _ g3) (by rw[ab,CM,ac];omega);rw[ab] at hr;refine⟨(vs.toList.drop p).take (n*z),pB (w:=S.w) g1 auOm,by rw[ab,Eb,CM,ac];omega,hr,?_⟩;have ah:=pP _ _ hr
   have:=xM _ _ (Qyt (λx Z=>ag x (zT Z))) ah (by rw[show (Bw (src.take n)).length=(src.take n).length by simp[Bw],ab,Eb,CM,ac];omega)
   rw[show (Bw (src.take n)).length=(src.take n).length by simp[Bw],ab,BE (by rw[Eb];omega)] at this;exact this
 have nil:(∃ao,v= .slice ao 0 0)->src=[]->(Builtin.lenOf v).run P S.w= .ok src.length S.w/\ ∀n,n<=src.length-> ∃L,(Builtin.firstCells z n v).run P S.w= .ok L.toArray S.w/\L.length=(src.take n).length*z/\rdr S.ok S.hp z (src.take n) L/\ ∀v∈L,v.oneCell'=true:=by
  rintro⟨ao,rfl⟩ rfl;refine⟨by simp[Builtin.lenOf],λn hn=>⟨[],?_,auSi,by simp[rdr],auSi⟩⟩;have ai:n=0:=by simpa using hn
  subst ai;cases ao<;>simp[Builtin.firstCells,loadCells,loadCellsFrom]
 cases X<;>simp only[kH,reduceCtorEq] at Z
 case im d=>
  cases d<;>simp only[reduceCtorEq,AS,B6] at Z;obtain⟨rfl,rfl,rfl⟩:=Z;simp only[Ab,rd] at Q;rcases Q with ⟨h1,h2⟩|⟨b,p,cap,vs,T,fr,h1,_,h2,h3,_,h5,h6⟩
  .exact nil (xV h1) h2
  .refine af b p cap vs T fr h1 λhs=> ?_
   have aa:=hk.resolve_right hs;subst aa;have hl:=Qxq _ _ h6 hz;have ac:vs.toList.length=vs.size:=HA;rw[CM,ac] at hl;have ak:0<_:=Nat.mul_pos (rF.2 hs) (Nat.pos_of_ne_zero hz);exact⟨h5,auOm,h6⟩
 case own q=>
  cases hq:h q with
  |none=>rw[hq] at Z;cases Z
  |some e=>
   obtain⟨mu,e⟩:=e;rw[hq] at Z;cases e<;>simp only[lY,reduceCtorEq,AS,B6] at Z;rename_i T k rows;obtain⟨rfl,rfl,rfl⟩:=Z;have hS:=(hu q auSi).trans hq;simp only[Ab] at Q;have Q:=Q.2 _ hS;have O:=hW.obj _ _ hS;simp only[Au] at O;cases hl:S.ρ q with
   |none=>rw[hl] at Q O;exact nil ⟨_,Q⟩ O.2
   |some l=>
    rw[hl] at Q O;obtain⟨g0,g1,vs,g2,g3,g4⟩:=O;refine af l.b l.p l.cap vs T (0,0) Q λhs=> ?_
    have aa:=hk.resolve_right hs;subst aa
    have:=Iv k g1
    exact⟨g2,auOm,g4⟩
 case osl q wa wn=>
  cases hq:h q with
  |none=>rw[hq] at Z;cases Z
  |some e=>
   obtain⟨mu,e⟩:=e;rw[hq] at Z;cases e<;>simp only[lZ,reduceCtorEq,AS,B6] at Z;rename_i T k rows;obtain⟨rfl,rfl,rfl⟩:=Z;have hS:=(hu q auSi).trans hq;simp only[Ab] at Q;have Q:=Q.2 _ hS;have O:=hW.obj _ _ hS;simp only[Au] at O;unfold QU at Q;cases hl:S.ρ q with
   |none=>rw[hl] at Q O;exact nil ⟨_,Q.1⟩ (by rw[O.2];simp)
   |some l=>
    rw[hl] at Q O;obtain⟨g0,g1,vs,g2,g3,g4⟩:=O;obtain⟨p,cp,q1,q2,q3,q4⟩:=Q;simp only[Ad.esz,Ad.len] at q3 q4;have ad:((rows.drop wa).take wn).length=wn:=by rw[Eb,CM];omega
    refine af l.b p cp vs T (0,0) (by rw[ad];exact q1) λhs=> ?_
    have aj:wn≠0:=λh0=>hs (by rw[h0];simp)
    have aa:=hk.resolve_right hs;subst aa;have hp:=q3 aj;subst hp;have h9:=Iv k (show wa+wn<=l.cap by omega);rw[HQ] at h9;refine⟨g2,by rw[ad];omega,?_⟩
    have:=pM wn _ _ (wV wa _ _ g4)
    rwa [FW] at this
def P7(rows src:List (List D))(a m:Nat)(hm:m<=src.length):jY rows a m src=rows.take a++src.take m++rows.drop (a+(src.take m).length):=by
 unfold jY;rw[Eb,show min m src.length=m by omega]
def VW{T U:TypeId}{d s:Operand}{c:Call}(ho:o.op= .call c)(Q:c.callee= .builtin .copy)(O:c.args= #[d,s])(aq:c.argTypes= #[T,U])
 (z:Bz (Qzd P h (Ay tm d) (Ay tm s) K) (tI P T)):Cr P tm h nx o K:=by
 have ag:d∈o.op.operands:=by rw[ho];simp[Op.operands,Call.operands,O,Q]
 have ab:s∈o.op.operands:=by rw[ho];simp[Op.operands,Call.operands,O,Q]
 cases hT:tI P T with
 |none=>rw[hT] at z;exact z.elim
 |some ti=>
 rw[hT] at z;simp only[Bz,Qzd] at z;cases hf:ti.kind<;>rw[hf] at z<;>try exact z.elim
 rename_i e;have hu:=QX hT hf;simp only[Te] at z;cases hE:tI P e with
 |none=>rw[hE] at z;exact z.elim
 |some te=>
 rw[hE] at z;simp only[Bz] at z;cases hs:kH h (Ay tm s) with
 |none=>rw[hs] at z;exact z.elim
 |some q=>
 cases hd:Xg h (Ay tm d) with
 |none=>rw[hs,hd] at z;exact z.elim
 |some q'=>
 obtain⟨u,ks,src⟩:=q;obtain⟨m,a,n,T',k,rows⟩:=q';rw[hs,hd] at z;simp only[Td] at z;obtain⟨an,am,hz,af,z⟩:=z;subst an;have ak:h m≠none:=by
  intro h0;cases hX:Ay tm d<;>rw[hX] at hd<;>simp only[Xg,reduceCtorEq] at hd
  .rename_i q;cases hq:h q with
   |none=>rw[hq] at hd;cases hd
   |some e=>
    obtain⟨mu,e⟩:=e;rw[hq] at hd;cases mu<;>cases e<;>simp only[Tb,reduceCtorEq,AS,B6] at hd;rw[hd.1,h0] at hq;cases hq
  .rename_i q _ _;cases hq:h q with
   |none=>rw[hq] at hd;cases hd
   |some e=>
    obtain⟨mu,e⟩:=e;rw[hq] at hd;cases mu<;>cases e<;>simp only[Tc,reduceCtorEq,AS,B6] at hd;rw[hd.1,h0] at hq;cases hq
 refine⟨_,_,BP.one (u:=m::u) (ks:=[m]) (m:=m) (cnt:=0) (.inr ⟨rfl,auSi,ak⟩) ?_,z⟩;intro C S ac hW ah _ _ aa;have h1:=aa d ag;have h2:=aa s ab;obtain⟨d1,d2,_⟩:=Qqv hW hd (ah m auSi) h1;obtain⟨s1,s2⟩:=Qaby (P:=P) hW hs (λx hx=>ah x (by simp[hx])) h2 hz am af;have Z:min src.length n<=src.length:=Nat.min_le_left _ _;obtain⟨L,l1,l2,l3,l4⟩:=s2 _ Z;have ao:(src.take (min src.length n)).length=min src.length n:=by rw[Eb];omega
 have aj: ∃base dl dc,ac.eval d= .slice base dl dc/\dl=n:=by
  rcases d2 with ⟨e1,_,e2,_⟩|⟨l,p,cp,_,e1,_⟩
  .exact⟨none,0,0,e1,e2.symm⟩
  .exact⟨_,_,_,e1,rfl⟩
 obtain⟨base,dl,dc,hv,rfl⟩:=aj;rw[hv] at d2;obtain⟨w',w1,w2,w3⟩:=Ox (P:=P) hW d1 d2 (src:=src.take (min src.length dl)) (by rw[ao];exact L4 _ _) l2 l3 l4;rw[<-P7 _ _ _ _ Z] at w2 w3;have ai:(underlying T).run P S.w= .ok (.slice e) S.w:=by simp[underlying,hu]
 refine⟨.int .i64 (min src.length dl:Nat),w',S.ρ m,.inl ?_,w2,λhp=>⟨w3 hp,by simp only[Ab,rd]⟩⟩;simp only[execOp,ho,resolve,Q,O,aq,Sem.run_bind,Sem.run_pure,Result.andThen_ok,invoke,builtin];cases base with
 |none=>
  simp only[Sem.run_pure,Result.ok.injEq,eE] at w1;subst w1;simp[Builtin.copy_,hv,ai,s1,J1 hE,l1,goInt]
 |some ad=>
  simp only at w1;simp[Builtin.copy_,hv,ai,s1,J1 hE,l1,goInt,w1]
def Qz{T:TypeId}{d:Operand}{c:Call}(ho:o.op= .call c)(aa:c.callee= .builtin .clear)(Z:c.args= #[d])(aq:c.argTypes= #[T])
 (O:Bz (Qrt P h (Ay tm d) K) (tI P T)):Cr P tm h nx o K:=by
 have ag:d∈o.op.operands:=by rw[ho];simp[Op.operands,Call.operands,Z,aa]
 cases hT:tI P T with
 |none=>rw[hT] at O;exact O.elim
 |some ti=>
 rw[hT] at O;simp only[Bz,Qrt] at O;cases hf:ti.kind<;>rw[hf] at O<;>try exact O.elim
 rename_i e;have hu:=QX hT hf;simp only[SR] at O;cases hE:tI P e with
 |none=>rw[hE] at O;exact O.elim
 |some te=>
 rw[hE] at O;simp only[Bz] at O;cases hd:Xg h (Ay tm d) with
 |none=>rw[hd] at O;exact O.elim
 |some q'=>
 obtain⟨m,a,n,T',k,rows⟩:=q';rw[hd] at O;simp only[Za] at O;obtain⟨an,hz,aj,aw,O⟩:=O;subst an;obtain⟨z,az,a0,ai⟩:=jA hE aj hz;have am:h m≠none:=by
  intro h0;cases hX:Ay tm d<;>rw[hX] at hd<;>simp only[Xg,reduceCtorEq] at hd
  .rename_i q;cases hq:h q with
   |none=>rw[hq] at hd;cases hd
   |some e=>
    obtain⟨mu,e⟩:=e;rw[hq] at hd;cases mu<;>cases e<;>simp only[Tb,reduceCtorEq,AS,B6] at hd;rw[hd.1,h0] at hq;cases hq
  .rename_i q _ _;cases hq:h q with
   |none=>rw[hq] at hd;cases hd
   |some e=>
    obtain⟨mu,e⟩:=e;rw[hq] at hd;cases mu<;>cases e<;>simp only[Tc,reduceCtorEq,AS,B6] at hd;rw[hd.1,h0] at hq;cases hq
 refine⟨_,_,BP.one (u:=[m]) (ks:=[m]) (m:=m) (cnt:=0) (.inr ⟨rfl,auSi,am⟩) ?_,O⟩;intro C S ac hW au _ _ ah;have h1:=ah d ag;obtain⟨d1,d2,_⟩:=Qqv hW hd (au m auSi) h1;have av:z.cells.toList≠[]:=by
  intro hh
  have:z.cells.size=0:=by rw[<-HA,hh];rfl
  omega
 have a8:(Builtin.zeroCells z.cells n).toList=C9 n z.cells.toList:=by
  unfold Builtin.zeroCells;rw[<-Qrv _ av n,Xj,Zeo,HA];apply Iu;intro i _;exact Qxx _ _
 have ak: ∃base Q dc,ac.eval d= .slice base Q dc/\Q=n:=by
  rcases d2 with ⟨e1,_,e2,_⟩|⟨l,p,cp,_,e1,_⟩
  .exact⟨none,0,0,e1,e2.symm⟩
  .exact⟨_,_,_,e1,rfl⟩
 obtain⟨base,Q,dc,hv,rfl⟩:=ak;rw[hv] at d2;have ao: ∀(n:Nat) (x:LVa),(C9 n x).length=n*x.length:=by
  intro n x;induction n with
  |zero=>simp[C9]
  |succ n ih=>simp[C9,ih,lJ];omega
 have ax:z.cells.toList.length=te.size:=by rw[HA];exact a0
 have af: ∀(n:Nat) (x:LVa),(∀v∈x,v.oneCell'=true)-> ∀v∈C9 n x,v.oneCell'=true:=by
  intro n x hx;induction n with
  |zero=>simp[C9]
  |succ n ih=>
   intro v hv;simp only[C9,BO] at hv;rcases hv with hv|hv
   .exact hx v hv
   .exact ih v hv
 have ay: ∀v∈z.cells.toList,v.oneCell'=true:=S6 (S:=S) _ _ aw (ai _ _);obtain⟨w',w1,w2,w3⟩:=Ox (P:=P) hW d1 d2 (src:=List.replicate Q te.zero) (L:=C9 Q z.cells.toList) auSi (by rw[ao,ax,Ri]) (by rw[<-aj];exact Qx7 (ai _ _) Q Q (BN _)) (af _ _ ay);have he:rows.take a++List.replicate Q te.zero++rows.drop (a+(List.replicate Q te.zero).length)=jY rows a Q (List.replicate Q te.zero):=by
  unfold jY;rw[Ri,BE (l:=List.replicate Q te.zero) auSi]
 rw[he] at w2 w3;have ab:(underlying T).run P S.w= .ok (.slice e) S.w:=by simp[underlying,hu]
 refine⟨.tuple #[],w',S.ρ m,.inl ?_,w2,λhp=>⟨w3 hp,by simp only[Ab]⟩⟩;simp only[execOp,ho,resolve,aa,Z,aq,Sem.run_bind,Sem.run_pure,Result.andThen_ok,invoke,builtin];cases base with
 |none=>
  simp only[Sem.run_pure,Result.ok.injEq,eE] at w1;subst w1;simp[Builtin.clear_,hv,ab]
 |some ad=>
  simp only at w1;cases Q with
  |zero=>
   simp only[C9] at w1
   have:w'=S.w:=by
    simp[storeCells] at w1;exact w1.symm
   subst this;simp[Builtin.clear_,hv,ab]
  |succ n=>
   simp[Builtin.clear_,hv,ab,az,a8,w1]
end
section
variable {P:Program}{tm:TmT}{h:HpT}{nx:Nat}{o:Oper}{K:Al}
def VX{op:BinOp}{T U:TypeId}{x y:Operand}(ho:o.op= .binOp op T x y U)(hy:Gy y=1)(hk:Bz (Qst P h T op (Ay tm x) K) (tI P T)):Lx P tm h nx o K:=by
 cases hT:tI P T with
 |none=>rw[hT] at hk;exact hk.elim
 |some ti=>
 rw[hT] at hk;simp only[Bz,Qst] at hk;cases hf:ti.kind<;>rw[hf] at hk<;>try exact hk.elim
 rename_i e;have hu:=QX hT hf;have ac:op= .eql\/op= .neq:=by cases op<;>first|exact .inl rfl|exact .inr rfl|exact hk.elim
 have z:O6 h (decide (op= .neq)) K (Ay tm x):=by rcases ac with rfl|rfl<;>exact hk
 have ai:y= .const (.slice none 0 0):=by
  cases y with
  |const v=>
   simp only[Gy] at hy;unfold Ha at hy;split at hy<;>first|rfl|cases hy
  |_=>cases hy
 intro C S a next Q hW hh ak hnm af hn
 have O:=af x (by rw[ho];simp[Op.operands]);have aj: ∃base l c E,a.eval x= .slice base l c/\(∀f:HpT,E.appf f=f)/\E.cnt=0/\K (.im (.bool (decide (op= .neq) !=base.isNone))) E:=by
  cases hx:Ay tm x<;>rw[hx] at z O<;>simp only[O6] at z
  case im d=>
   cases d<;>try exact z.elim
   rename_i nz k rows;simp only[Ab,rd] at O;rcases O with ⟨O,h2⟩|⟨b,p,cap,vs,T,fr,O,_⟩
   .rcases O with O|⟨_,ad,O⟩
    .exact⟨none,0,0,{},O,λf=>by funext m;simp[BA.appf,hget],rfl,z true (λ_=>h2)⟩
    .exact⟨some ad,0,0,{},O,λf=>by funext m;simp[BA.appf,hget],rfl,z false (λh=>by cases h)⟩
   .exact⟨_,_,_,{},O,λf=>by funext m;simp[BA.appf,hget],rfl,z false (λh=>by cases h)⟩
  case own n=>
   cases hq:h n with
   |none=>rw[hq] at z;exact z.elim
   |some ab=>
    obtain⟨mu,ab⟩:=ab;rw[hq] at z;have hS:=(hh n).trans hq;simp only[Ab] at O;have O:=O.2 _ hS;have Z:=hW.obj _ _ hS;have aa: ∀{α:Type} (rows:List α),(S.ρ n=none->rows=[])->Tv (decide (op= .neq)) K {use:=[n]} rows-> ∃base l c E,a.eval x= .slice base l c/\(∀f:HpT,E.appf f=f)/\E.cnt=0/\K (.im (.bool (decide (op= .neq) !=base.isNone))) E:=by
     intro α rows hr hk;cases hl:S.ρ n with
     |none=>
      rw[hl] at O;exact⟨none,0,0,{use:=[n]},O,Qnd [n],rfl,hk true (λ_=>hr hl)⟩
     |some l=>
      rw[hl] at O;exact⟨_,_,_,{use:=[n]},O,Qnd [n],rfl,hk false (λh=>by cases h)⟩
    cases ab<;>try exact z.elim
    .rename_i T k rows;refine aa rows (λhl=> ?_) z;simp only[Au] at Z;rw[hl] at Z;exact Z.2
    .rename_i T k rows;refine aa rows (λhl=> ?_) z;simp only[Au] at Z;rw[hl] at Z;exact Z.2
 obtain⟨base,l,c,E,hv,hE,hc,hK⟩:=aj;have ah:a.eval y= .slice none 0 0:=by rw[ai];rfl
 have hq:(Op.equal T (.slice base l c) (.slice none 0 0)).run P S.w= .ok base.isNone S.w:=by rw[Yl];exact LA hu _ _ _ _
 have hg:(eqGuard op T x y (.slice base l c) (.slice none 0 0)).run P S.w= .ok () S.w:=by rcases ac with rfl|rfl<;>simp[eqGuard]
 have hb:(binOp op T (.slice base l c) (.slice none 0 0)).run P S.w= .ok (.bool (decide (op= .neq) !=base.isNone)) S.w:=by
  rcases ac with rfl|rfl
  .have:binOp .eql T (.slice base l c) (.slice none 0 0)=(do pure (.bool (<-Op.equal T (.slice base l c) (.slice none 0 0)))):=rfl
   rw[this];simp[hq]
  .have:binOp .neq T (.slice base l c) (.slice none 0 0)=(do pure (.bool (!(<-Op.equal T (.slice base l c) (.slice none 0 0))))):=rfl
   rw[this];simp[hq]
 have ag:(execOp a.eval o).run P S.w= .ok (.value (.bool (decide (op= .neq) !=base.isNone))) S.w:=by
  simp only[execOp,ho,hv,ah,Sem.run_bind,hg,Result.andThen_ok,hb,Sem.run_pure]
 unfold Oper.wp;rw[ag,Oper.upon_value];exact hn _ E _ S hK hW (hE S.h).symm (Ck.refl _ _) (by simp only[Ab,rd])
def Qpi{T e:TypeId}(z:Xf P T=some e): ∃d,P.underlying T=some (.chan d e):=by
 unfold Xf at z;split at z
 .rename_i d e' O;cases z;exact⟨d,O⟩
 .cases z
def Qvf{T:TypeId}{x:Operand}(ho:o.op= .makeChan T x)(z:Qi6 P nx (Ay tm x) K T):Cr P tm h nx o K:=by
 unfold Qi6 at z;cases hc:Xf P T with
 |none=>rw[hc] at z;exact z.elim
 |some e=>
 rw[hc] at z;simp only[mcK] at z;obtain⟨dr,hu⟩:=Qpi hc;have ag: ∃n,Ay tm x= .im (.int .i64 n)/\Bz (mcE nx n K) (tI P e):=by
  revert z;generalize Ay tm x=X;intro z;cases X<;>try exact z.elim
  rename_i d;cases d<;>try exact z.elim
  rename_i k n;cases k<;>try exact z.elim
  exact⟨n,rfl,z⟩
 obtain⟨n,hx,z⟩:=ag;cases hE:tI P e with
 |none=>rw[hE] at z;exact z.elim
 |some te=>
 rw[hE] at z;simp only[Bz,mcE] at z;obtain⟨h0,hn,ai,z⟩:=z;obtain⟨i,u,hi,am,ak,ab,_⟩:=OY hE;refine⟨_,_,BP.one (u:=[]) (ks:=[]) (.inl ⟨rfl,rfl⟩) ?_,z⟩;intro C S a hW _ aa O Q;have h1:=Q x (by rw[ho];simp[Op.operands]);rw[hx] at h1;simp only[Ab,rd] at h1;have Z:(execOp a.eval o).run P S.w= .ok (.value (.chan (some S.w.heap.size))) {S.w with heap:=S.w.heap.push (.chan n.toNat #[] false 0 0 false)}:=by
  have ad: ∀w,(typeInfo e).run P w= .ok i w:=λw=>by simp[typeInfo,hi]
  have ah:(i.bytes:Int)*n<=2^48 - 112:=by
   rw[<-ab];have h3:(te.bytes:Int)*n<=65536*n:=ZdV auOm h0;omega
  have af:(underlying T).run P S.w= .ok (.chan dr e) S.w:=by simp[underlying,hu]
  have ac: ¬(n<0\/n>IntKind.i64.max\/(i.bytes:Int)*n>2^48 - 112):=by
   have:IntKind.i64.max=9223372036854775807:=auDe
   omega
  simp only[execOp,ho,h1,Instr.makeChan,Sem.run_bind,asInt,asIntOf,Sem.run_pure,Result.andThen_ok,af,ad];simp[ac];intro h9;exfalso;omega
 refine⟨_,_,some ⟨S.w.heap.size,0,0⟩,.inl Z,WS (w':={S.w with heap:=S.w.heap.push (.chan n.toNat #[] false 0 0 false)}) rfl rfl rfl rfl (aa rfl) (λn f hf=>O n f hf rfl),?_⟩;intro hp;constructor
 .simp only[Au];exact⟨_,#[],0,0,rfl,dS rfl,by simp[rdl]⟩
 .simp only[Ab];exact⟨rfl,λe' aj=>⟨⟨S.w.heap.size,0,0⟩,by simp[AD.one],rfl⟩⟩
def Q7{T:TypeId}{x:Operand}{c:Call}{q:Nat}(ho:o.op= .call c)(ac:c.callee= .builtin .len)(Z:c.args= #[x])(ai:c.argTypes= #[T])(hx:Ay tm x= .ch q)
 (z:Uo q h K (Xf P T)):Cr P tm h nx o K:=by
 cases hc:Xf P T with
 |none=>rw[hc] at z;exact z.elim
 |some e=>
 rw[hc] at z;simp only[Uo] at z;obtain⟨dr,hu⟩:=Qpi hc;cases hq:h q with
 |none=>rw[hq] at z;exact z.elim
 |some Q=>
 obtain⟨mu,Q⟩:=Q;rw[hq] at z;cases Q<;>try exact z.elim
 refine dP (u:=[q]) ho ac Z ai ?_ z;intro C S v hW aj aa;rw[hx] at aa;simp only[Ab] at aa;have hS:=(aj q auSi).trans hq;obtain⟨l,hl,rfl⟩:=aa.2 _ hS;have ad:=hW.obj _ _ hS;simp only[Au] at ad;obtain⟨lc,ah,ag,af,h1,h2,h3⟩:=ad;rw[hl] at h1;obtain rfl:=AJ h1;have O:=jT _ _ h3;simp only[HA] at O;rename_i q0 ab;have hg:(getObj l.b).run P S.w= .ok (.chan ab ah false ag af false) S.w:=by simp[getObj,Sem.run,show S.w.heap[l.b]? =_ from h2]
 have ak:(underlying T).run P S.w= .ok (.chan dr e) S.w:=by simp[underlying,hu]
 simp[Builtin.len_,ak,hg,goInt,O]
def Q9{T:TypeId}{x:Operand}(hD: ∀(tk te:TypeId) (kt:KT) (es:List (D×D)),P.underlying T=some (.map tk te)->Ay tm x= .im (.mp kt es)->K (.it nx) {new:=[(nx,(true,.iter none es))],cnt:=1}->Cr P tm h nx o K)(ho:o.op= .range T x)(O:Bz (Qsh h nx (Ay tm x) K) (tI P T)):Cr P tm h nx o K:=by
 cases hT:tI P T with
 |none=>rw[hT] at O;exact O.elim
 |some ti=>
 rw[hT] at O;simp only[Bz,Qsh] at O;cases hf:ti.kind<;>rw[hf] at O<;>try exact O.elim
 rename_i tk te;have hu:=qO hT hf;simp only[V2] at O;cases hx:Ay tm x<;>rw[hx] at O<;>try exact O.elim
 case im d=>
  cases d<;>try exact O.elim
  exact hD _ _ _ _ hu hx O
 rename_i q;simp only[rgM] at O;cases hq:h q with
 |none=>rw[hq] at O;exact O.elim
 |some ac=>
 obtain⟨mu,ac⟩:=ac;rw[hq] at O;cases ac<;>try exact O.elim
 rename_i kt es;simp only[V3] at O;refine⟨_,_,?_,O⟩;intro C S a next Q hW ay aw hnm aq hn
 have h1:=aq x (by rw[ho];simp[Op.operands]);rw[hx] at h1;simp only[Ab] at h1;have hS:=(ay q auSi).trans hq;obtain⟨l,hl,hv⟩:=h1.2 _ hS;have am:=hW.obj _ _ hS;simp only[Au] at am;obtain⟨lc,Z,z,g1,g2,g3,g4,g5,g6⟩:=am;rw[hl] at g1;obtain rfl:=AJ g1;have af:=aw nx ⟨BN _,by show nx<nx+1;omega⟩;have a8:q≠nx:=λh'=>by subst h';rw[hS] at af;cases af
 let X:Nat->Bool:=λn=> !(n==q)
 have ai:X q=false:=by simp[X]
 have ah:Wf C (S.ice X):=WV hW;have ag:(S.ice X).h q=some (false,.map kt es):=by simp[AD.ice,hS,ai]
 have ao:(S.ice X).ok l.b:=qJ hW ai ag rfl hl;have ak:(S.ice X).h nx=none:=by simp[AD.ice,af]
 let w':World:={S.w with heap:=S.w.heap.push (.mapIter (some l.b) z #[] z)}
 have hg:(getObj l.b).run P S.w= .ok (.map Z z) S.w:=QW (w:=S.w) g3;have az:(underlying T).run P S.w= .ok (.map tk te) S.w:=by simp[underlying,hu]
 have au:(execOp a.eval o).run P S.w= .ok (.value (.pointer (some ⟨S.w.heap.size,0,none⟩))) w':=by
  simp only[execOp,ho,hv,Instr.range,Sem.run_bind,az,Result.andThen_ok,hg,Sem.run_pure];simp[w']
 have ab:Mq (S.ice X) nx (.iter none es) (some ⟨S.w.heap.size,0,0⟩) [] w':=WS (S:=S.ice X) (w':=w') rfl rfl rfl rfl ak (by
  intro n f hf ax;obtain⟨e,he,rfl⟩:=WM hf;exact hnm n e he nx ax ⟨BN _,by show nx<nx+1;omega⟩)
 have hp:=wF ah ab;have hb:=hW.oks;have a0:l.b<S.w.heap.size:=(hW.loc q _ l hS hl).1;have an:Au ((S.ice X).one nx (.iter none es) (some ⟨S.w.heap.size,0,0⟩) [] w') (some ⟨S.w.heap.size,0,0⟩) (.iter none es):=by
  simp only[Au];obtain⟨p1,p2⟩:=hp.ok l.b ao;refine⟨_,l.b,Z,z,#[],rfl,p1,trivial,p2.trans g3,?_,g5,g6,?_⟩
  .have:=dS (S:=S.ice X) (nx:=nx) (e:= .iter none es) (l:=some ⟨S.w.heap.size,0,0⟩) (ks:=[]) (w':=w') (ob:= .mapIter (some l.b) z #[] z) rfl
   exact this
  .have h9:Z.toList.filter (λe=> !(#[]:Array Nat).contains e.born)=Z.toList:=by
    rw[ZdA];intro e _;simp
   rw[h9];exact Mj hp.ok _ _ (Mj (Ik S X).ok _ _ g4)
 have av:=Qqp ah ab an;unfold Oper.wp;rw[au,Oper.upon_value];refine hn _ _ av ?_ ?_ ?_
 .funext n;simp only[AD.one,BA.appf,hget];by_cases ad:n=nx
  .subst ad;simp
  .have e1:(nx==n)=false:=by rw[FX];exact λh=>ad h.symm
   rw[Be ad,e1];by_cases aa:n=q
   .subst aa;simp[ag]
   .have e2:(q==n)=false:=by rw[FX];exact λh=>aa h.symm
    have e3:X n=true:=by simp[X,aa]
    simp only[e2,D2,HS,Dw]
    have:([q]:List Nat).contains n=false:=by simp[aa]
    rw[this];simp only[AD.ice,e3,Jg,Dw];cases S.h n<;>rfl
 .have q1:=Ik S X;refine⟨λb hb=> ?_,λn hX e' aj=> ?_⟩
  .obtain⟨r1,r2⟩:=q1.ok b hb;obtain⟨r3,r4⟩:=hp.ok b r1;exact⟨r3,r4.trans r2⟩
  .obtain⟨e,r1,r2,r3,r4⟩:=hp.nm n (.inr (λh'=>hX ⟨auOm,by show n<nx+1;omega⟩)) e' aj;obtain⟨e0,s1,s2,s3,s4⟩:=q1.nm n trivial e r1;exact⟨e0,s1,r2.trans s2,r3.trans s3,r4.trans s4⟩
 .simp only[Ab];exact⟨rfl,λe' aj=>⟨⟨S.w.heap.size,0,0⟩,by simp[AD.one],rfl⟩⟩
def Q4{x:Operand}(ho:o.op= .entry x)(O:Qsz h K (Ay tm x)):Cr P tm h nx o K:=by
 cases hx:Ay tm x<;>rw[hx] at O<;>try exact O.elim
 rename_i q;simp only[Qsz] at O;cases hq:h q with
 |none=>rw[hq] at O;exact O.elim
 |some Q=>
 obtain⟨mu,Q⟩:=Q;rw[hq] at O;cases mu<;>cases Q<;>try exact O.elim
 rename_i ac left;cases ac with
 |none=>exact O.elim
 |some p=>
 simp only[Ts] at O;refine⟨_,_,BP.pure (u:=[q]) ?_,O⟩;intro C S a hW ah ab;have h1:=ab x (by rw[ho];simp[Op.operands]);rw[hx] at h1;simp only[Ab] at h1;have hS:=(ah q auSi).trans hq;obtain⟨l,hl,hv⟩:=h1.2 _ hS;have aa:=hW.obj _ _ hS;simp only[Au] at aa;obtain⟨lc,mb,Z,z,ad,g1,g2,⟨st,e,k1,k2,k3,k4⟩,g3,g4,g5,g6,g7⟩:=aa;rw[hl] at g1;obtain rfl:=AJ g1;refine⟨.tuple #[e.key,e.val],?_,by simp only[Ab,rd];exact⟨_,rfl,by simp only[rdl];exact⟨_,_,rfl,k3,_,_,rfl,k4,rfl⟩⟩⟩;have af:(getObj l.b).run P S.w= .ok (.mapIter (some mb) z ad z) S.w:=by simp[getObj,Sem.run,show S.w.heap[l.b]? =_ from g4]
 have ag:(getObj mb).run P S.w= .ok (.map Z z) S.w:=QW (w:=S.w) g3;simp only[execOp,ho,hv,Instr.entry,Sem.run_bind,af,Result.andThen_ok,k1,ag];simp[k2]
def Vl{ok:Nat->Prop}{hp:Nat->Option Obj}: ∀(ds:List (D×D)) (es:List MapEntry) (i:Nat) (e:MapEntry),Dh ok hp ds es->es[i]? =some e-> ∃p,ds[i]? =some p/\rd ok hp p.1 e.key/\rd ok hp p.2 e.val
 |[],es,i,e,h,z=>by simp only[Dh] at h;subst h;simp at z
 |(x,y)::ds,es,i,e,h,z=>by
  simp only[Dh] at h;obtain⟨e',r,rfl,O,Q,Z⟩:=h;cases i with
  |zero=>
   simp only[ES,AS] at z;subst z;exact⟨(x,y),rfl,O,Q⟩
  |succ i=>
   simp only[Su] at z⊢;exact Vl ds r i e Z z
def Qjl{z:Array Nat}{b:Nat}: ∀(l:List MapEntry) (i:Nat) (e:MapEntry),(l.map (·.born)).Nodup->(l.filter λe=> !z.contains e.born)[i]? =some e->e.born=b->
 (l.filter λe=> !(z.push b).contains e.born)=(l.filter λe=> !z.contains e.born).eraseIdx i
 |[],i,e,_,h,_=>by simp at h
 |x::r,i,e,Q,h,hb=>by
  simp only[Br,Xo] at Q;have O: ∀n,(z.push b).contains n=(z.contains n||n==b):=by
   intro n;rw[Iw];simp only[Array.contains_iff_mem,Array.mem_push,IK,YI]
  cases hx:z.contains x.born with
  |true=>
   have e1:(!z.contains x.born)=false:=by rw[hx];rfl
   have Z:(!(z.push b).contains x.born)=false:=by rw[O,hx];rfl
   rw[L3 (p:=λ(e:MapEntry)=> !(z.push b).contains e.born) (by rw[Z];simp),L3 (p:=λ(e:MapEntry)=> !z.contains e.born) (by rw[e1];simp)];rw[L3 (p:=λ(e:MapEntry)=> !z.contains e.born) (by rw[e1];simp)] at h;exact Qjl r i e Q.2 h hb
  |false=>
   have e1:(!z.contains x.born)=true:=by rw[hx];rfl
   rw[ZeC (p:=λ(e:MapEntry)=> !z.contains e.born) (by exact e1)] at h⊢;cases i with
   |zero=>
    simp only[ES,AS] at h;subst h;have Z:(!(z.push b).contains x.born)=false:=by rw[O,hb];simp
    rw[L3 (by rw[Z];simp),ZeB];apply List.filter_congr;intro y hy
    have:(y.born==b)=false:=by
     rw[FX,<-hb];intro h9;exact Q.1 (BY.2 ⟨y,hy,h9⟩)
    rw[O,this,YF]
   |succ i=>
    simp only[Su] at h;have aa:(x.born==b)=false:=by
     rw[FX];intro h9;have hm:e∈r.filter λe=> !z.contains e.born:=Bj h
     exact Q.1 (BY.2 ⟨e,(rM.1 hm).1,by rw[hb,h9]⟩)
    have Z:(!(z.push b).contains x.born)=true:=by rw[O,hx,aa];rfl
    rw[ZeC (p:=λ(e:MapEntry)=> !(z.push b).contains e.born) (by exact Z),ZeA,Qjl r i e Q.2 h hb]
def Qvh: ∀(l:List MapEntry) (e:MapEntry),(l.map (·.born)).Nodup->e∈l->l.find? (λx=>x.born==e.born)=some e
 |[],e,_,h=>by cases h
 |x::r,e,z,h=>by
  simp only[Br,Xo] at z;rcases B0.1 h with rfl|h
  .simp
  .have O:(x.born==e.born)=false:=by
    rw[FX];intro Q;exact z.1 (BY.2 ⟨e,h,Q.symm⟩)
   rw[Zec,O];exact Qvh r e z.2 h
def Wa{x:Operand}(ho:o.op= .next x false)(hk:X0 h K (Ay tm x)):Lx P tm h nx o K:=by
 cases hx:Ay tm x<;>rw[hx] at hk<;>try exact hk.elim
 rename_i q;simp only[X0] at hk;cases hq:h q with
 |none=>rw[hq] at hk;exact hk.elim
 |some af=>
 obtain⟨mu,af⟩:=af;rw[hq] at hk;cases mu<;>cases af<;>try exact hk.elim
 rename_i bn left;simp only[UL] at hk;obtain⟨bf,bg⟩:=hk;intro C S a next Q hW hh bo hnm ax hn
 have h1:=ax x (by rw[ho];simp[Op.operands]);rw[hx] at h1;simp only[Ab] at h1;have hS:=(hh q).trans hq;obtain⟨l,hl,hv⟩:=h1.2 _ hS;have au:=hW.obj _ _ hS;simp only[Au] at au;obtain⟨lc,mb,O,z,Z,g1,g2,g0,g3,g4,g5,g6,g7⟩:=au;rw[hl] at g1;obtain rfl:=AJ g1;have bd:(getObj l.b).run P S.w= .ok (.mapIter (some mb) z Z z) S.w:=by simp[getObj,Sem.run,show S.w.heap[l.b]? =_ from g4]
 have be:(getObj mb).run P S.w= .ok (.map O z) S.w:=QW (w:=S.w) g3;have am:(!Z.isEmpty && !O.isEmpty && O.all λe=>decide (e.born≥z))=false:=by
  cases he:O.isEmpty with
  |true=>simp
  |false=>
   have bi:O.toList≠[]:=by
    intro h9
    have:O= #[]:=rE.1 (by simpa using h9)
    rw[this] at he;simp at he
   obtain⟨e,r,hc⟩:=Zek bi;have hm:e∈O:=by rw[<-Array.mem_toList_iff,hc];simp
   have bp:=g6 e (by rw[hc];simp)
   have:(O.all λe=>decide (e.born≥z))=false:=by
    rw[Hk];intro h9;rw[Array.all_eq_true'] at h9
    have:=h9 e hm
    simp only[CK] at this;omega
   rw[this];simp
 let F:Array MapEntry:=O.filter λe=> !Z.contains e.born
 have hF:F.toList=O.toList.filter λe=> !Z.contains e.born:=by simp[F]
 have aw:(F.filter λe=>decide (e.born<z))=F:=by
  apply Array.filter_eq_self.2;intro e he
  have:e∈O.toList:=by
   have:e∈F.toList:=by simpa using he
   rw[hF] at this;exact (rM.1 this).1
  simpa using g6 e this
 have aq:(F.filter λe=>decide (e.born≥z))= #[]:=by
  apply Array.filter_eq_empty_iff.2;intro e he
  have:e∈O.toList:=by
   have:e∈F.toList:=by simpa using he
   rw[hF] at this;exact (rM.1 this).1
  have:=g6 e this
  simp;omega
 unfold Oper.wp;have ah:(execOp a.eval o).run P S.w=((Instr.next (.pointer (some ⟨l.b,0,none⟩)) false o.type).run P S.w).andThen λv w=> .ok (.value v) w:=by
  simp only[execOp,ho,hv,Sem.run_bind,Sem.run_pure]
 obtain⟨ms,hnx⟩: ∃ms,(Instr.next (.pointer (some ⟨l.b,0,none⟩)) false o.type).run P S.w=
  ((choose (.mapNext ((if F.isEmpty then #[none] else #[])++F.map some).size)).run P S.w).andThen λi w1=>
    (match ((if F.isEmpty then #[none] else #[])++F.map some)[i]? with
     |some (some e)=>(do setObj l.b (.mapIter (some mb) z (Z.push e.born) z);pure (.tuple #[.bool true,e.key,e.val]):Sem Value)
     |some none=>pure (.tuple #[.bool false])
     |none=>stuck ms).run P w1:=by
  apply Exists.intro;have e1:(O.filter λe=> !Z.contains e.born)=F:=rfl;simp only[Instr.next,Sem.run_bind,bd,Result.andThen_ok,be,am,BL,HS,e1,aw,aq,Array.append_empty];congr 1
 rw[ah,hnx];by_cases ag:F.isEmpty=true
 .have ak:F= #[]:=by simpa using ag
  have bh:left=[]:=by
   rw[<-hF,ak] at g7;cases left with
   |nil=>rfl
   |cons p r=>
    obtain⟨x0,y0⟩:=p;simp only[Dh] at g7;obtain⟨e,r',h9,_⟩:=g7;simp at h9
  rw[ak];simp only[Array.isEmpty_empty,Ff,Array.map_empty,Array.append_empty,run_choose,Question.forced];simp only[Zew,Em,Ed,Je,BN,decide_true,Ff,Result.andThen_ok];simp only[Mz,ES,Sem.run_pure,Result.andThen_ok,Oper.upon_value];exact hn _ _ _ S (bf bh) hW (Qnd [q] S.h).symm (Ck.refl _ _) (by simp only[Ab,AX,rd];exact⟨_,rfl,_,_,rfl,rfl,rfl⟩)
 .have a9:F.isEmpty=false:=by simpa using ag
  rw[a9];simp only[BL,HS,Array.empty_append,Array.size_map];have ad:0<F.size:=by
   rcases rL F.size with h9|h9
   .exact absurd (by simpa using Array.eq_empty_of_size_eq_zero h9) ag
   .exact h9
  have bc: ∃i w1,(choose (.mapNext F.size)).run P S.w= .ok i w1/\i<F.size/\w1.heap=S.w.heap/\w1.os=S.w.os/\w1.tape=S.w.tape/\w1.output=S.w.output/\S.w.drawn<=w1.drawn:=by
   rw[run_choose];split
   .exact⟨0,S.w,rfl,ad,rfl,rfl,rfl,rfl,BN _⟩
   .exact⟨_,_,rfl,Nat.mod_lt _ ad,rfl,rfl,rfl,rfl,kO _⟩
  obtain⟨i,w1,bb,hi,aj,bl,bm,a8⟩:=bc;rw[bb];simp only[Result.andThen_ok];have hget:(F.map some)[i]? =some (some F[i]):=by simp[hi]
  rw[hget];simp only[Sem.run_bind,Sem.run_pure];have an:w1.heap[l.b]? =some (.mapIter (some mb) z Z z):=by rw[aj];exact g4
  have a0:(setObj l.b (.mapIter (some mb) z (Z.push F[i].born) z)).run P w1= .ok () {w1 with heap:=w1.heap.setIfInBounds l.b (.mapIter (some mb) z (Z.push F[i].born) z)}:=by
   simp[setObj,Sem.run,an]
  rw[a0];simp only[Result.andThen_ok,Oper.upon_value];have ab:F.toList[i]? =some F[i]:=by simp[hi]
  rw[hF] at ab;obtain⟨p,bj,ay,az⟩:=Vl left _ i F[i] g7 ab
  let w':World:={w1 with heap:=w1.heap.setIfInBounds l.b (.mapIter (some mb) z (Z.push F[i].born) z)}
  have ac:Mq S q (.iter (some p) (left.eraseIdx i)) (some l) [q] w':=jU hW hS hl (w':=w') (ob:= .mapIter (some mb) z (Z.push F[i].born) z) (by simp[w',aj]) bl bm a8.1 rfl rfl a8.2;have aa:=wF hW ac;have av:Au (S.one q (.iter (some p) (left.eraseIdx i)) (some l) [q] w') (some l) (.iter (some p) (left.eraseIdx i)):=by
   simp only[Au];obtain⟨p1,p2⟩:=aa.ok mb g2;have ao:F[i]∈O.toList:=(rM.1 (Bj ab)).1;refine⟨l,mb,O,z,Z.push F[i].born,rfl,p1,⟨F[i].born,F[i],auSi,?_,HK aa.ok _ _ ay,HK aa.ok _ _ az⟩,p2.trans g3,?_,g5,g6,?_⟩
   .have:=Qvh O.toList F[i] g5 ao
    rw[<-Array.find?_toList];exact this
   .exact jZ (hW.loc q _ l hS hl).1 (by simp[w',aj])
   .rw[Qjl O.toList i F[i] g5 ab rfl];exact Mj aa.ok _ _ (Qpa i left _ g7)
  have ba:=Qqp hW ac av;refine hn _ _ _ _ (bg i p bj) ba ?_ ?_ ?_
  .funext n;simp only[AD.one,BA.appf,Go.Ae.hget];by_cases ai:n=q
   .subst ai;simp
   .have:(q==n)=false:=by rw[FX];exact λh=>ai h.symm
    simp[this,ai]
  .exact⟨aa.ok,λn hX=>aa.nm n (.inl (by rw[hS];simp))⟩
  .simp only[Ab,AX,rd];refine⟨_,rfl,_,_,rfl,rfl,_,_,rfl,HK aa.ok _ _ ay,_,_,rfl,HK aa.ok _ _ az,rfl⟩
end
section
variable {P:Program}{tm:TmT}{h:HpT}{nx:Nat}{o:Oper}{K:Al}
def Qr9{T:TypeId}{m k v:Operand}(ho:o.op= .mapUpdate T m k v\/o.op= .insert T m k v)(z:Bz (pI P h K (Ay tm m) (Ay tm k) (Ay tm v)) (tI P T)):Cr P tm h nx o K:=by
 cases hT:tI P T with
 |none=>rw[hT] at z;exact z.elim
 |some ti=>
 rw[hT] at z;simp only[Bz,pI] at z;cases hm:Ay tm m<;>rw[hm] at z<;>try exact z.elim
 rename_i q;cases hkd:Ay tm k<;>rw[hkd] at z<;>try exact z.elim
 rename_i kd;cases hvd:Ay tm v<;>rw[hvd] at z<;>try exact z.elim
 .exact Qjd ho hT hm hkd hvd z
 rename_i n;simp only at z;cases hn:h n with
 |none=>rw[hn] at z;exact z.elim
 |some af=>
 obtain⟨mu,af⟩:=af;rw[hn] at z;cases af<;>try exact z.elim
 rename_i U w rows;simp only[U5] at z;obtain⟨ah,z⟩:=z;have ah:q≠n:=by simpa using ah
 cases v with
 |tmp t=>
  let d:D:= .sl false w rows
  let Z:TmT:=(t,.im d)::tm
  let h':HpT:=λi=>if i=n then some (false,.arr U w rows) else h i
  have ag: ∀x:Operand,(∀y,Ay tm x=y->y≠ .own n)->Ay Z x=Ay tm x:=by
   intro x hx;cases x with
   |tmp u=>
    simp only[Ay,Z,AF];by_cases hu:t=u
    .subst hu;simp only[Ay] at hvd hx;exact absurd rfl (hx _ hvd)
    .have:(t==u)=false:=by simpa using hu
     rw[this];rfl
   |_=>rfl
  have ba:Ay Z m= .mp q:=by rw[ag m (λy hy=>by rw[<-hy,hm];simp)];exact hm
  have a8:Ay Z k= .im kd:=by rw[ag k (λy hy=>by rw[<-hy,hkd];simp)];exact hkd
  have aq:Ay Z (.tmp t)= .im d:=by simp[Ay,Z,AF]
  have bb:LL P h' q kd d (muF n (.arr U w rows) K) ti.kind:=by
   cases hf:ti.kind<;>rw[hf] at z<;>try exact z.elim
   rename_i a1 a2;simp only[LL] at z⊢;have hq:h' q=h q:=by simp[h',ah]
   cases hkt:Cn P a1 with
   |none=>rw[hkt] at z;exact z.elim
   |some kt=>
    rw[hkt] at z;simp only[U3] at z⊢;rw[hq];exact z
  obtain⟨r,E,bd,hK⟩:=Qjd (P:=P) (tm:=Z) (h:=h') (nx:=nx) (K:=muF n (.arr U w rows) K) ho hT ba a8 aq bb;obtain⟨a9,hK⟩:=hK;refine⟨r,_,?_,hK⟩;intro C S a next Q hW hu a0 hnm an bc
  let X:Nat->Bool:=λi=> !(i==n)
  have aj:X n=false:=by simp[X]
  have ay: ∀i,i≠n->X i=true:=λi hi=>by simp[X,hi]
  have aw:S.h n=some (mu,.arr U w rows):=(hu n auSi).trans hn;have am: ∀i,i≠n->(S.ice X).h i=S.h i:=by
   intro i hi;simp only[AD.ice,ay i hi,Jg];cases S.h i<;>rfl
  have aa:(S.ice X).h n=some (false,.arr U w rows):=by simp[AD.ice,aw,aj]
  have ai:Wf C (S.ice X):=WV hW;refine bd C (S.ice X) a next Q ai ?_ ?_ ?_ ?_ ?_
  .intro i hi;by_cases O:i=n
   .subst O;simp[h',aa]
   .rw[am i O,hu i (by simp only[BO,B0] at hi⊢;rcases hi with hi|hi;exact .inl (.inr hi);exact .inr (.inr hi))];simp[h',O]
  .intro i hi
   have:=a0 i hi
   simp[AD.ice,this]
  .intro i e he x hx hf;obtain⟨e0,O,rfl⟩:=WM he;exact hnm i e0 O x hx hf
  .intro x hx;have au:x=m\/x=k\/x= .tmp t:=by rcases ho with ho|ho<;>rw[ho] at hx<;>simpa[Op.operands] using hx
   have ao:=Ik S X;have ac:=an x (by rcases ho with ho|ho<;>rw[ho]<;>simpa[Op.operands] using au);by_cases av:x= .tmp t
   .subst av;rw[aq];rw[hvd] at ac;have O:=J0 ao _ _ (λ_ _=>trivial) ac;simp only[Ab] at O⊢;have h2:=O.2 _ aa;have ab:=ai.obj n _ aa;have hρ:(S.ice X).ρ n=S.ρ n:=rfl;simp only[Au] at ab;simp only[d,rd];cases hl:S.ρ n with
    |none=>
     rw[hρ,hl] at h2 ab;exact .inl ⟨.inl h2,ab.2⟩
    |some l=>
     rw[hρ,hl] at h2 ab;obtain⟨g0,g1,vs,g2,g3,g4⟩:=ab;refine .inr ⟨l.b,l.p,l.cap,vs,U,(0,0),h2,auSi,g1,g0,qJ hW aj aa rfl (by rw[hρ];exact hl),g2,g4⟩
   .rw[ag x ?_]
    .exact J0 ao _ _ (λ_ _=>trivial) ac
    .intro y hy ad;rcases au with rfl|rfl|rfl
     .rw[hm] at hy;rw[<-hy] at ad;cases ad
     .rw[hkd] at hy;rw[<-hy] at ad;cases ad
     .exact av rfl
  .intro v S' ax hh hp hc;refine bc v S' ax ?_ ?_ hc
   .rw[hh];funext i;simp only[BA.appf];have ak:hget (E.new++[(n,(false,Ad.arr U w rows))]) i=match hget E.new i with|some e=>some e|none=>if n=i then some (false,Ad.arr U w rows) else none:=by
     generalize E.new=L;induction L with
     |nil=>
      simp only[E5,hget];by_cases O:n=i
      .subst O;simp
      .have:(n==i)=false:=by simpa using O
       simp[this,O]
     |cons p L ih=>
      obtain⟨j,e⟩:=p;simp only[BZ,hget];cases hj:j==i
      .simpa using ih
      .simp
    rw[ak];cases hg:hget E.new i with
    |some e=>rfl
    |none=>
     simp only;by_cases O:n=i
     .subst O;rw[Bt rfl,a9,aa];rfl
     .have h2:i≠n:=λh=>O h.symm
      rw[Be O,am i h2];have h3:(n::E.kill).contains i=E.kill.contains i:=by simp[h2]
      rw[h3]
   .have q1:=Ik S X;refine⟨λb hb=> ?_,λi hX e' az=> ?_⟩
    .obtain⟨r1,r2⟩:=q1.ok b hb;obtain⟨r3,r4⟩:=hp.ok b r1;exact⟨r3,r4.trans r2⟩
    .obtain⟨e,r1,r2,r3,r4⟩:=hp.nm i hX e' az;obtain⟨e0,s1,s2,s3,s4⟩:=q1.nm i trivial e r1;exact⟨e0,s1,r2.trans s2,r3.trans s3,r4.trans s4⟩
 |const c=>exfalso;simp only[Ay] at hvd;unfold kD at hvd;split at hvd<;>cases hvd
 |global g=>simp only[Ay] at hvd;cases hvd
 |func f=>exfalso;simp only[Ay] at hvd;cases hb:Nat.blt f 1000000000<;>rw[hb] at hvd<;>cases hvd
end
end Go.Ae
