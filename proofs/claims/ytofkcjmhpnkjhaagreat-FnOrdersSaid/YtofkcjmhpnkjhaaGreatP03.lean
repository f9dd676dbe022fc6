/- Lemmas. Conditions: none. -/
import Derived.Test.YtofkcjmhpnkjhaaGreatP02
import Derived.Laws.StructEq
import Derived.WideKeyRuns
set_option linter.all false
set_option maxHeartbeats 8000000
set_option maxRecDepth 100000
namespace Go.Ae
theorem Qnp: ∀(a b:List KK) (l:List D),fitL (a++b) l=true->fitL a (l.take a.length)=true/\fitL b (l.drop a.length)=true/\a.length<=l.length
 |[],b,l,h=>by simpa[fitL] using h
 |k::a,b,[],h=>by simp[fitL] at h
 |k::a,b,d::l,h=>by
  simp only[ZaA,fitL,Zah] at h;obtain⟨h1,h2,h3⟩:=Qnp a b l h.2;simp only[ZaE,ZbI,Zcb,fitL,Zah];exact⟨⟨h.1,h1⟩,h2,by omega⟩
theorem Qm8: ∀(a:List KK) (l:List D),fitL a l=true->l.length=a.length
 |[],[],_=>rfl
 |[],_::_,h=>by simp[fitL] at h
 |_::_,[],h=>by simp[fitL] at h
 |k::a,d::l,h=>by
  simp only[fitL,Zah] at h;simp[Qm8 a l h.2]
theorem Qq6: ∀(n:Nat) (a b:List D),n<=a.length->n<=b.length->D.beql a b=(D.beql (a.take n) (b.take n) && D.beql (a.drop n) (b.drop n))
 |0,a,b,_,_=>by simp[D.beql]
 |n+1,[],_,h,_=>by simp at h
 |n+1,_::_,[],_,h=>by simp at h
 |n+1,x::a,y::b,h1,h2=>by
  simp only[ZbI,Zcb,D.beql,ZeD];rw[Qq6 n a b (by simpa using h1) (by simpa using h2)]
theorem Qnu{ok:Nat->Prop}{hp:Nat->Option Obj}{k:KK}{d:D}{v:Value}(hf:k.fit d=true)(h:rd ok hp d v):
 (∃j n,k= .int j/\d= .int j n/\v= .int j n)\/(∃s,k= .str/\d= .str s/\v= .string s)\/(∃b,k= .bool/\d= .bool b/\v= .bool b):=by
 cases k<;>cases d<;>simp only[KK.fit,ZaB,Zdv] at hf<;>simp only[rd] at h
 .subst hf;exact .inl ⟨_,_,rfl,rfl,h⟩
 .exact .inr (.inl ⟨_,rfl,rfl,h⟩)
 .exact .inr (.inr ⟨_,rfl,rfl,h⟩)
section
variable {P:Program}
theorem Qpm: ∀{n:Nat} {t:TypeId} {kt:KT},keyC P n t=some kt->kt.agg=false-> ∃k,kt.ks=[k]/\((∃j,k= .int j/\P.underlying t=some (.int j))\/(k= .str/\P.underlying t=some .string)\/(k= .bool/\P.underlying t=some .bool)):=by
 intro n t kt h ha;cases n with
 |zero=>simp[keyC] at h
 |succ n=>
  simp only[keyC] at h;split at h
  .rename_i k hu;obtain rfl:=Zac h;exact⟨_,rfl,.inl ⟨k,rfl,hu⟩⟩
  .rename_i hu;obtain rfl:=Zac h;exact⟨_,rfl,.inr (.inl ⟨rfl,hu⟩)⟩
  .rename_i hu;obtain rfl:=Zac h;exact⟨_,rfl,.inr (.inr ⟨rfl,hu⟩)⟩
  .rename_i fields hu;cases hst:P.stoodInHeld t<;>rw[hst] at h
   .simp only[ZaS,Zay] at h;obtain⟨ks,_,rfl⟩:=h;cases ha
   .simp at h
  .cases h
theorem Qna: ∀{n:Nat} {t:TypeId} {kt:KT},keyC P n t=some kt->kt.agg=true-> ∃m fields,n=m+1/\P.underlying t=some (.struct fields)/\P.stoodInHeld t=false/\Quj P (keyC P m) fields.toList 0=some kt.ks:=by
 intro n t kt h ha;cases n with
 |zero=>simp[keyC] at h
 |succ n=>
  simp only[keyC] at h;split at h
  .obtain rfl:=Zac h;cases ha
  .obtain rfl:=Zac h;cases ha
  .obtain rfl:=Zac h;cases ha
  .rename_i fields hu;cases hst:P.stoodInHeld t<;>rw[hst] at h
   .simp only[ZaS,Zay] at h;obtain⟨ks,hks,rfl⟩:=h;exact⟨n,fields,rfl,hu,rfl,hks⟩
   .simp at h
  .cases h
theorem Qsw{n:Nat}{f:Field}{kt:KT}{i:TypeInfo}(hk:keyC P n f.type=some kt)(hi:P.info? f.type=some i)(hz:i.size=kt.ks.length){ok:Nat->Prop}{hp:Nat->Option Obj}{w:World}
 {ds:List D}{xs:Array Value}{off:Nat}(hl0:off+kt.ks.length<=ds.length)(h:rdl ok hp ds xs.toList)(hf:fitL kt.ks ((ds.drop off).take kt.ks.length)=true):
 ∃d v,(part f.type xs off).run P w= .ok v w/\kt.fit d=true/\rd ok hp d v/\((kt.agg=true/\d= .agg ((ds.drop off).take kt.ks.length))\/(kt.agg=false/\[d]=(ds.drop off).take kt.ks.length)):=by
 have hl:kt.ks.length<=(ds.drop off).length:=by rw[ZaH];omega
 have h1:=Qea off ds _ (Qhe _ _ h) (by omega);obtain⟨h2,h3⟩:=Qed kt.ks.length _ _ h1 hl;cases ha:kt.agg with
 |false=>
  obtain⟨k,hk2,hu⟩:=Qpm hk ha;rw[hk2] at hl h3 hf⊢;simp only[ZbT] at hl h3 hf⊢;cases hd:ds.drop off with
  |nil=>rw[hd] at hl;simp at hl
  |cons d r=>
   rw[hd] at h3 hf;simp only[ZbI,Zbk,rdl] at h3 hf;obtain⟨v,r',hv,h4,h5⟩:=h3;refine⟨d,v,?_,by simpa[KT.fit,ha,hk2] using hf,h4,.inr ⟨trivial,by simp⟩⟩;have hx:xs[off]? =some v:=by
    have:(xs.toList.drop off)[0]? =some v:=by
     cases hq:xs.toList.drop off with
     |nil=>rw[hq] at hv;simp at hv
     |cons a b=>rw[hq] at hv;simp at hv;simp[hv.1]
    simpa using this
   unfold part;rcases hu with ⟨j,_,hu⟩|⟨_,hu⟩|⟨_,hu⟩<;>simp[isAgg,run_underlying hu,hx]
 |true=>
  obtain⟨m,fields,_,hu,_⟩:=Qna hk ha;refine⟨_,.agg (xs.extract off (off+kt.ks.length)),?_,by simpa[KT.fit,ha] using hf,?_,.inl ⟨rfl,rfl⟩⟩
  .unfold part;simp[isAgg,run_underlying hu,sizeOf,typeInfo,hi,hz]
  .simp only[rd];refine⟨_,rfl,?_⟩;rw[Zfc];simpa[List.extract] using h3
theorem Qr5(d:Nat)(xs ys:Array Value)(f:Field)(fs:List Field)(hn:f.name≠ "_"){w:World}{a b:Value}{r:Bool}(h1:(part f.type xs f.offset).run P w= .ok a w)
 (h2:(part f.type ys f.offset).run P w= .ok b w)(h3:(Op.equalIn d f.type a b).run P w= .ok r w):
 (Op.eqFields d xs ys (f::fs)).run P w=if r=true then (Op.eqFields d xs ys fs).run P w else .ok false w:=by
 simp only[Op.eqFields,ne_eq,hn,ZdW,ZaQ,Sem.run_bind,h1,h2,h3,Result.andThen_ok];cases r<;>simp
section
variable {ok:Nat->Prop}{hp:Nat->Option Obj}{w:World}
theorem keyFs_eq{n m:Nat}(ih: ∀(t:TypeId) (kt:KT),keyC P n t=some kt-> ∀(d1 d2:D) (v1 v2:Value),kt.fit d1=true->kt.fit d2=true->rd ok hp d1 v1->rd ok hp d2 v2->(Op.equalIn m t v1 v2).run P w= .ok (D.beq d1 d2) w):
 ∀(fs:List Field) (off:Nat) (ks:List KK),Quj P (keyC P n) fs off=some ks-> ∀(ds1 ds2:List D) (xs ys:Array Value),off+ks.length=ds1.length->off+ks.length=ds2.length->
  fitL ks (ds1.drop off)=true->fitL ks (ds2.drop off)=true->rdl ok hp ds1 xs.toList->rdl ok hp ds2 ys.toList->(Op.eqFields m xs ys fs).run P w= .ok (D.beql (ds1.drop off) (ds2.drop off)) w:=by
 intro fs;induction fs with
 |nil=>
  intro off ks hks ds1 ds2 xs ys hl1 hl2 _ _ _ _;simp only[Quj,Zae] at hks;subst hks;rw[Zax (by simpa using Zfm hl1.symm),Zax (by simpa using Zfm hl2.symm)];simp[Op.eqFields,D.beql]
 |cons f fs ihf=>
  intro off ks hks ds1 ds2 xs ys hl1 hl2 hf1 hf2 hr1 hr2;simp only[Quj] at hks;split at hks
  .rename_i kt i hkt hi;cases hb:(f.offset==off && (f.name != "_" && i.size==kt.ks.length))<;>rw[hb] at hks
   .simp at hks
   .simp only[Zbf,Zay] at hks;obtain⟨ks2,hks2,rfl⟩:=hks;simp only[Zah,Zdv,bne_iff_ne,ne_eq] at hb;obtain⟨rfl,hname,hsz⟩:=hb;obtain⟨g1,g2,g3⟩:=Qnp _ _ _ hf1;obtain⟨g4,g5,g6⟩:=Qnp _ _ _ hf2;rw[Zaz] at hl1 hl2;obtain⟨d1,v1,p1,q1,r1,s1⟩:=Qsw (w:=w) hkt hi hsz (by omega) hr1 g1;obtain⟨d2,v2,p2,q2,r2,s2⟩:=Qsw (w:=w) hkt hi hsz (by omega) hr2 g4;have he:=ih _ _ hkt d1 d2 v1 v2 q1 q2 r1 r2;rw[Qr5 m xs ys f fs hname p1 p2 he];rw[Zbh] at g2 g5;have hrest:=ihf _ _ hks2 ds1 ds2 xs ys (by omega) (by omega) g2 g5 hr1 hr2;have hbe:D.beq d1 d2=D.beql ((ds1.drop f.offset).take kt.ks.length) ((ds2.drop f.offset).take kt.ks.length):=by
     rcases s1 with ⟨_,rfl⟩|⟨ha,e1⟩<;>rcases s2 with ⟨hb,rfl⟩|⟨hb,e2⟩
     .simp[D.beq]
     .simp_all
     .simp_all
     .rw[<-e1,<-e2];simp[D.beql]
    rw[Qq6 kt.ks.length (ds1.drop f.offset) (ds2.drop f.offset) g3 g6,hrest,hbe,Zbh,Zbh];cases D.beql ((ds1.drop f.offset).take kt.ks.length) ((ds2.drop f.offset).take kt.ks.length)<;>simp
  .cases hks
theorem keyC_eq: ∀(n m:Nat),n<=m-> ∀(t:TypeId) (kt:KT),keyC P n t=some kt-> ∀(d1 d2:D) (v1 v2:Value),kt.fit d1=true->kt.fit d2=true->rd ok hp d1 v1->rd ok hp d2 v2->
 (Op.equalIn m t v1 v2).run P w= .ok (D.beq d1 d2) w:=by
 intro n;induction n with
 |zero=>intro m _ t kt h;simp[keyC] at h
 |succ n ih=>
  intro m hm t kt h d1 d2 v1 v2 hf1 hf2 hr1 hr2;obtain⟨m,rfl⟩: ∃m',m=m'+1:=⟨m - 1,by omega⟩;cases ha:kt.agg with
  |false=>
   obtain⟨k,hk,hu⟩:=Qpm h ha;simp only[KT.fit,ha,hk,fitL,ZaX] at hf1 hf2;rcases Qnu hf1 hr1 with ⟨j,a,e1,rfl,rfl⟩|⟨a,e1,rfl,rfl⟩|⟨a,e1,rfl,rfl⟩<;>
    rcases Qnu hf2 hr2 with ⟨j2,b,e2,rfl,rfl⟩|⟨b,e2,rfl,rfl⟩|⟨b,e2,rfl,rfl⟩<;>rw[e1] at e2<;>cases e2<;>
    rcases hu with ⟨_,e3,hu⟩|⟨e3,hu⟩|⟨e3,hu⟩<;>rw[e1] at e3<;>cases e3
   .simp[Op.equalIn,run_underlying hu,D.beq]
   .simp[Op.equalIn,run_underlying hu,D.beq]
   .simp[Op.equalIn,run_underlying hu,D.beq]
  |true=>
   obtain⟨m0,fields,hm0,hu,hst,hks⟩:=Qna h ha;obtain rfl:n=m0:=by omega
   cases d1<;>simp only[KT.fit,ha,ZaB] at hf1;cases d2<;>simp only[KT.fit,ha,ZaB] at hf2;rename_i ds1 ds2;simp only[rd] at hr1 hr2;obtain⟨xs,rfl,hr1⟩:=hr1;obtain⟨ys,rfl,hr2⟩:=hr2;have hfo:P.fieldsOf t=fields:=by simp[Program.fieldsOf,hu]
   rw[run_equalIn_struct w m t xs ys (by rw[hfo];exact hu) hst,hfo]
   have:=keyFs_eq (w:=w) (fun t kt h=>ih m (by omega) t kt h) fields.toList 0 kt.ks hks ds1 ds2 xs ys (by simp[Qm8 _ _ hf1]) (by simp[Qm8 _ _ hf2]) (by simpa using hf1) (by simpa using hf2) hr1 hr2
   rw[this];simp[D.beq]
def Qie(em:Bool)(n:Nat)(cs:Array Value):List Field->Sem Unit
 |[]=>pure ()
 |f::fs=>if f.name≠ "_" then do
   let a <-part f.type cs f.offset
   Instr.checkKey em n f.type a
   Qie em n cs fs
  else Qie em n cs fs
theorem Qvk(em:Bool)(n:Nat)(t:TypeId)(cs:Array Value){fields:Array Field}(hu:P.underlying t=some (.struct fields)):
 (Instr.checkKey em (n+1) t (.agg cs)).run P w=(Qie em n cs fields.toList).run P w:=by
 simp only[Instr.checkKey,Sem.run_bind,run_underlying hu,Result.andThen_ok];rw[<-Array.forIn_toList];generalize fields.toList=fs;clear hu;induction fs generalizing w with
 |nil=>simp[Qie]
 |cons f fs ih=>
  simp only[List.forIn_cons,Qie,Sem.run_bind,Sem.run_ite];split
  .generalize (part f.type cs f.offset).run P w=r1;cases r1 with
   |ok a w1=>
    simp only[Result.andThen_ok];generalize (Instr.checkKey em n f.type a).run P w1=r2;cases r2 with
    |ok b w2=>
     simp only[Result.andThen_ok,Sem.run_pure];exact ih
    |halt x w2=>simp[Result.andThen]
   |halt x w1=>simp[Result.andThen]
  .simp only[Sem.run_pure,Result.andThen_ok];exact ih
theorem Qw3{n m:Nat}{em:Bool}(ih: ∀(t:TypeId) (kt:KT),keyC P n t=some kt-> ∀(d1:D) (v1:Value),kt.fit d1=true->rd ok hp d1 v1->(Instr.checkKey em m t v1).run P w= .ok () w):
 ∀(fs:List Field) (off:Nat) (ks:List KK),Quj P (keyC P n) fs off=some ks-> ∀(ds1:List D) (xs:Array Value),off+ks.length=ds1.length->
  fitL ks (ds1.drop off)=true->rdl ok hp ds1 xs.toList->(Qie em m xs fs).run P w= .ok () w:=by
 intro fs;induction fs with
 |nil=>intro off ks _ ds1 xs _ _ _;simp[Qie]
 |cons f fs ihf=>
  intro off ks hks ds1 xs hl1 hf1 hr1;simp only[Quj] at hks;split at hks
  .rename_i kt i hkt hi;cases hb:(f.offset==off && (f.name != "_" && i.size==kt.ks.length))<;>rw[hb] at hks
   .simp at hks
   .simp only[Zbf,Zay] at hks;obtain⟨ks2,hks2,rfl⟩:=hks;simp only[Zah,Zdv,bne_iff_ne,ne_eq] at hb;obtain⟨rfl,hname,hsz⟩:=hb;obtain⟨g1,g2,g3⟩:=Qnp _ _ _ hf1;rw[Zaz] at hl1;obtain⟨d1,v1,p1,q1,r1,s1⟩:=Qsw (w:=w) hkt hi hsz (by omega) hr1 g1;rw[Zbh] at g2;simp only[Qie,ne_eq,hname,ZdW,ZaQ,Sem.run_bind,p1,ih _ _ hkt d1 v1 q1 r1,Result.andThen_ok];exact ihf _ _ hks2 ds1 xs (by omega) g2 hr1
  .cases hks
theorem Qit{em:Bool}: ∀(n m:Nat),n<=m-> ∀(t:TypeId) (kt:KT),keyC P n t=some kt-> ∀(d1:D) (v1:Value),kt.fit d1=true->rd ok hp d1 v1->
 (Instr.checkKey em m t v1).run P w= .ok () w:=by
 intro n;induction n with
 |zero=>intro m _ t kt h;simp[keyC] at h
 |succ n ih=>
  intro m hm t kt h d1 v1 hf1 hr1;obtain⟨m,rfl⟩: ∃m',m=m'+1:=⟨m - 1,by omega⟩;cases ha:kt.agg with
  |false=>
   obtain⟨k,hk,hu⟩:=Qpm h ha;rcases hu with ⟨_,_,hu⟩|⟨_,hu⟩|⟨_,hu⟩<;>simp[Instr.checkKey,run_underlying hu]
  |true=>
   obtain⟨m0,fields,hm0,hu,hst,hks⟩:=Qna h ha;obtain rfl:n=m0:=by omega
   cases d1<;>simp only[KT.fit,ha,ZaB] at hf1;rename_i ds1;simp only[rd] at hr1;obtain⟨xs,rfl,hr1⟩:=hr1;rw[Qvk em m t xs hu];exact Qw3 (w:=w) (fun t kt h=>ih m (by omega) t kt h) fields.toList 0 kt.ks hks ds1 xs (by simp[Qm8 _ _ hf1]) (by simpa using hf1) hr1
def Qp6(kd:D)(ds:List (D×D))(i:Nat)(ok:Nat->Prop)(hp:Nat->Option Obj):Option (Nat×Value)->Prop
 |none=>lk ds kd=none/\(∀y,upd ds kd y=ds++[(kd,y)])/\del ds kd=ds
 |some (j,v)=> ∃p k y,j=i+p/\ds[p]? =some (k,y)/\D.beq kd k=true/\lk ds kd=some y/\rd ok hp y v/\(∀y',upd ds kd y'=ds.set p (kd,y'))/\del ds kd=ds.eraseIdx p
theorem Qq2{kd k y:D}{ds:List (D×D)}{i:Nat}{r:Option (Nat×Value)}(hne:D.beq kd k=false)(h:Qp6 kd ds (i+1) ok hp r):Qp6 kd ((k,y)::ds) i ok hp r:=by
 cases r with
 |none=>
  simp only[Qp6] at h⊢;exact⟨by simp[lk,hne,h.1],fun y=>by simp[upd,hne,h.2.1],by simp[del,hne,h.2.2]⟩
 |some r=>
  obtain⟨j,v⟩:=r;simp only[Qp6] at h⊢;obtain⟨p,k',y',h1,h2,h3,h4,h5,h6,h7⟩:=h;exact⟨p+1,k',y',by omega,by simpa using h2,h3,by simp[lk,hne,h4],h5,fun y=>by simp[upd,hne,h6],by simp[del,hne,h7]⟩
theorem Qz7{kd k y:D}{ds:List (D×D)}{i:Nat}{v:Value}(he:D.beq kd k=true)(hy:rd ok hp y v):Qp6 kd ((k,y)::ds) i ok hp (some (i,v)):=
 ⟨0,k,y,rfl,rfl,he,by simp[lk,he],hy,fun y'=>by simp[upd,he],by simp[del,he]⟩
theorem Qh4{t:TypeId}{kt:KT}(hk:keyT P t=some kt){kd:D}{kv:Value}(hf:kt.fit kd=true)(hr:rd ok hp kd kv):
 ∀(ds:List (D×D)) (es:List MapEntry) (i:Nat),(∀e∈ds,kt.fit e.1=true)->rde ok hp ds es-> ∃r,(Instr.findAsking t kv es i).run P w= .ok r w/\Qp6 kd ds i ok hp r
 |[],es,i,_,h=>by
  simp only[rde] at h;subst h;exact⟨none,by simp[Instr.findAsking],by simp[Qp6,lk,upd,del]⟩
 |(k,y)::ds,es,i,hfs,h=>by
  simp only[rde] at h;obtain⟨e,es,rfl,h1,h2,h3⟩:=h;have he:(Op.equal t kv e.key).run P w= .ok (D.beq kd k) w:=keyC_eq 5 10000 (by omega) t kt hk kd k _ _ hf (hfs (k,y) (by simp)) hr h1;simp only[Instr.findAsking,Sem.run_bind,he,Result.andThen_ok];cases hb:D.beq kd k with
  |true=>exact⟨_,by simp,Qz7 hb h2⟩
  |false=>
   obtain⟨r,h4,h5⟩:=Qh4 hk hf hr ds es (i+1) (fun e he=>hfs e (by simp[he])) h3;exact⟨r,by simpa using h4,Qq2 hb h5⟩
theorem Qmm{t:TypeId}{u:TypeDesc}{kt:KT}(hk:keyT P t=some kt)(ha:kt.agg=false)(hu:P.underlying t=some u){kd:D}{kv:Value}(hf:kt.fit kd=true)(hr:rd ok hp kd kv):
 ∀(ds:List (D×D)) (es:List MapEntry) (i:Nat),(∀e∈ds,kt.fit e.1=true)->rde ok hp ds es-> ∃r,Instr.findNow u kv es i=some r/\Qp6 kd ds i ok hp r
 |[],es,i,_,h=>by
  simp only[rde] at h;subst h;exact⟨none,by simp[Instr.findNow],by simp[Qp6,lk,upd,del]⟩
 |(k,y)::ds,es,i,hfs,h=>by
  simp only[rde] at h;obtain⟨e,es,rfl,h1,h2,h3⟩:=h;have he:Instr.sameNow u kv e.key=some (D.beq kd k):=by
   obtain⟨q,hq,hu'⟩:=Qpm hk ha;have hf2:=hfs _ (Zat);simp only[KT.fit,ha,hq,fitL,ZaX] at hf hf2;generalize e.key=ek at h1⊢;rcases Qnu hf hr with ⟨j,a,e1,rfl,rfl⟩|⟨a,e1,rfl,rfl⟩|⟨a,e1,rfl,rfl⟩<;>
    rcases Qnu hf2 h1 with ⟨j2,b,e2,rfl,rfl⟩|⟨b,e2,rfl,rfl⟩|⟨b,e2,rfl,rfl⟩<;>rw[e1] at e2<;>cases e2<;>
    rcases hu' with ⟨_,e3,hu'⟩|⟨e3,hu'⟩|⟨e3,hu'⟩<;>rw[e1] at e3<;>cases e3<;>rw[hu] at hu'<;>obtain rfl:=Zac hu'<;>simp[Instr.sameNow,D.beq]
  simp only[Instr.findNow,he];cases hb:D.beq kd k with
  |true=>exact⟨_,rfl,Qz7 hb h2⟩
  |false=>
   obtain⟨r,h4,h5⟩:=Qmm hk ha hu hf hr ds es (i+1) (fun e he=>hfs e (by simp[he])) h3;exact⟨r,h4,Qq2 hb h5⟩
theorem Qfw{t:TypeId}{kt:KT}(hk:keyT P t=some kt){kd:D}{kv:Value}(hf:kt.fit kd=true)(hr:rd ok hp kd kv)(ds:List (D×D))(es:List MapEntry)(hfs: ∀e∈ds,kt.fit e.1=true)
 (h:rde ok hp ds es): ∃r,(Instr.findKey t kv es).run P w= .ok r w/\Qp6 kd ds 0 ok hp r:=by
 cases ha:kt.agg with
 |true=>
  obtain⟨m0,fields,hm0,hu,hst,hks⟩:=Qna hk ha;rw[run_findKey_eq w (by simp[hu])];exact Qh4 hk hf hr ds es 0 hfs h
 |false=>
  obtain⟨k,hk2,hu⟩:=Qpm hk ha;obtain⟨u,hu⟩: ∃u,P.underlying t=some u:=by rcases hu with ⟨j,_,hu⟩|⟨_,hu⟩|⟨_,hu⟩<;>exact⟨_,hu⟩
  obtain⟨r,h1,h2⟩:=Qmm hk ha hu hf hr ds es 0 hfs h;exact⟨r,by simp[Instr.findKey,run_underlying hu,h1],h2⟩
end
end
theorem Qiy{P:Program}{w:World}{b:Nat}{es es':Array MapEntry}{clock c':Nat}(h:w.heap[b]? =some (.map es clock)):
 ∃w',(setObj b (.map es' c')).run P w= .ok () w'/\w'.heap=w.heap.setIfInBounds b (.map es' c')/\w'.os=w.os/\w'.tape=w.tape/\w'.output=w.output:=by
 refine⟨{w with heap:=w.heap.setIfInBounds b (.map es' c')},?_,rfl,rfl,rfl,rfl⟩;exact MapKept.run_setObj_map _ h
section
variable {P:Program}{tm:List (Nat×AV)}{h:Nat->Option Ent}{nx:Nat}{o:Oper}{K:Kont}
theorem snd_aggEq{op:BinOp}{T U:TypeId}{x y:Operand}{a b:List D}(ho:o.op= .binOp op T x y U)(hx:evO tm x= .im (.agg a))(hy:evO tm y= .im (.agg b))
 (hk:Qoa P T op a b K (keyT P T)):Qbp P tm h nx o K:=by
 cases hkt:keyT P T with
 |none=>rw[hkt] at hk;exact hk.elim
 |some kt=>
 rw[hkt] at hk;simp only[Qoa] at hk;obtain⟨hf1,hf2,hg,hk⟩:=hk;have hop:op= .eql\/op= .neq:=by cases op<;>first|exact .inl rfl|exact .inr rfl|exact hk.elim
 have hk':K (.im (.bool (decide (op= .neq) !=D.beql a b))) {}:=by
  rcases hop with rfl|rfl
  .simpa[Qok] using hk
  .simpa[Qok] using hk
 refine⟨_,_,OpT.pure (u:=[]) ?_,hk'⟩;intro C S ac hW _ hops;have h1:=hops x (by rw[ho];simp[Op.operands]);have h2:=hops y (by rw[ho];simp[Op.operands]);rw[hx] at h1;rw[hy] at h2;simp only[conc] at h1 h2;refine⟨.bool (decide (op= .neq) !=D.beql a b),?_,by simp only[conc,rd]⟩;have he:=keyC_eq (P:=P) (w:=S.w) 5 10000 (by omega) T kt hkt _ _ _ _ hf1 hf2 h1 h2;simp only[rd] at h1 h2;obtain⟨xs,hxs,_⟩:=h1;obtain⟨ys,hys,_⟩:=h2;rw[hxs,hys] at he;simp only[execOp,ho,hxs,hys,Sem.run_bind,run_eqGuard_agg S.w op T x y xs ys hg,Result.andThen_ok];rcases hop with rfl|rfl
 .simp[run_eql_struct,he,D.beq]
 .simp[run_neq_struct,he,D.beq]
theorem Qqm{T k e:TypeId}{kt:KT}(hu:P.underlying T=some (.map k e))(hkt:keyT P k=some kt){kd:D}{kv:Value}(hfit:kt.fit kd=true)
 {okk:Nat->Prop}{hp:Nat->Option Obj}(hr:rd okk hp kd kv){w:World}{b:Nat}{ents:Array MapEntry}{clock:Nat}(hb:w.heap[b]? =some (.map ents clock)){es:List (D×D)}(hfs: ∀e∈es,kt.fit e.1=true)
 (hes:rde okk hp es ents.toList)(ok:Bool):
 (∃y v,lk es kd=some y/\rd okk hp y v/\(Instr.lookup T (.map (some b)) kv ok).run P w= .ok (if ok then .tuple #[v,.bool true] else v) w)\/
 (lk es kd=none/\ ∀z,(zeroValue e).run P w= .ok z w->(Instr.lookup T (.map (some b)) kv ok).run P w= .ok (if ok then .tuple #[z,.bool false] else z) w):=by
 obtain⟨r,h1,h2⟩:=Qfw (w:=w) hkt hfit hr es ents.toList hfs hes;have hck:=Qit (P:=P) (w:=w) (em:=ents.isEmpty) 5 10000 (by omega) k kt hkt kd kv hfit hr;cases r with
 |none=>
  refine .inr ⟨h2.1,fun z hz=> ?_⟩;simp[Instr.lookup,run_underlying hu,Qcc (w:=w) hb,hck,h1,hz]
 |some r=>
  obtain⟨j,v⟩:=r;obtain⟨p,k',y,_,_,_,h4,h5,_⟩:=h2;refine .inl ⟨y,v,h4,h5,?_⟩;simp[Instr.lookup,run_underlying hu,Qcc (w:=w) hb,hck,h1]
theorem Qabs{T k e:TypeId}{kt:KT}(hu:P.underlying T=some (.map k e))(hkt:keyT P k=some kt){kd:D}{kv:Value}(hfit:kt.fit kd=true)
 {okk:Nat->Prop}{hp:Nat->Option Obj}(hr:rd okk hp kd kv){w:World}(ok:Bool){z:Value}(hz:(zeroValue e).run P w= .ok z w):
 (Instr.lookup T (.map none) kv ok).run P w= .ok (if ok then .tuple #[z,.bool false] else z) w:=by
 obtain⟨r,h1,h2⟩:=Qfw (w:=w) hkt hfit hr [] [] (by simp) (by simp only[rde]);have hck:=Qit (P:=P) (w:=w) (em:=true) 5 10000 (by omega) k kt hkt kd kv hfit hr;cases r with
 |none=>simp[Instr.lookup,run_underlying hu,hck,h1,hz]
 |some r=>
  obtain⟨j,v⟩:=r;obtain⟨p,k',y,_,h3,_⟩:=h2;simp at h3
theorem Qx8{S:Env}{d:D}{v:Value}(ok b:Bool)(h:rd S.ok S.hp d v):conc S (bif ok then .tup [.im d,.im (.bool b)] else .im d) (if ok then .tuple #[v,.bool b] else v):=by
 cases ok with
 |false=>simpa only[ZaS,ZaB,Zby,conc] using h
 |true=>
  simp only[Zbf,ZaQ,conc];exact⟨_,rfl,by simp[Qa0,conc,rd,h]⟩
theorem Qabg{T:TypeId}{m k:Operand}{ok:Bool}(ho:o.op= .lookup T m k ok)(hk:Qax (Qnn P h (evO tm m) (evO tm k) ok K) (tI P T)):Qbp P tm h nx o K:=by
 cases hT:tI P T with
 |none=>rw[hT] at hk;exact hk.elim
 |some ti=>
 rw[hT] at hk;simp only[Qax,Qnn] at hk;cases hf:ti.kind<;>rw[hf] at hk<;>try exact hk.elim
 rename_i kT e;have hu:=Qqw hT hf;cases hkv:evO tm k<;>rw[hkv] at hk<;>try exact hk.elim
 rename_i kd;simp only[luK] at hk;cases hE:tI P e with
 |none=>rw[hE] at hk;exact hk.elim
 |some te=>
 rw[hE] at hk;simp only[Qax,luE] at hk;cases hkt:keyT P kT with
 |none=>rw[hkt] at hk;exact hk.elim
 |some kt=>
 rw[hkt] at hk;simp only[luKt] at hk;obtain⟨hfit,hk⟩:=hk;have hrd: ∀(S:Env) (a:Act),(∀x∈o.op.operands,conc S (evO tm x) (a.eval x))->rd S.ok S.hp kd (a.eval k):=by
  intro S a hops
  have:=hops k (by rw[ho];simp[Op.operands])
  rw[hkv] at this;simpa only[conc] using this
 have main: ∀{u:List Nat} {es:List (D×D)},(∀e∈es,kt.fit e.1=true)->
  (∀(C:Ctx) (S:Env) (a:Act),Wf C S->(∀n∈u,S.h n=h n)->(∀x∈o.op.operands,conc S (evO tm x) (a.eval x))-> ∃b ents clock,a.eval m= .map (some b)/\S.hp b=some (.map ents clock)/\rde S.ok S.hp es ents.toList)->
  LkVC es kd (Qy3 ok {use:=u} K) (kMiss te ok {use:=u} K)->Qbp P tm h nx o K:=by
  intro u es hfs hm hk;obtain⟨hk1,hk2⟩:=hk;cases hl:lk es kd with
  |some y=>
   refine⟨_,_,OpT.pure (u:=u) ?_,hk1 y hl⟩;intro C S a hW hu' hops;obtain⟨b,ents,clock,hv,hb,hes⟩:=hm C S a hW hu' hops;rcases Qqm hu hkt hfit (hrd S a hops) hb hfs hes ok with ⟨y',v,h1,h2,h3⟩|⟨h1,_⟩
   .rw[hl] at h1;obtain rfl:=Zac h1;refine⟨_,?_,Qx8 ok true h2⟩;simp only[execOp,ho,hv];simp[h3]
   .rw[hl] at h1;cases h1
  |none=>
   obtain⟨hzl,hza,hzs,hk⟩:=hk2 hl;obtain⟨z,hz1,_,_,hz2⟩:=Qrg hE hzl hzs;refine⟨_,_,OpT.pure (u:=u) ?_,hk⟩;intro C S a hW hu' hops;obtain⟨b,ents,clock,hv,hb,hes⟩:=hm C S a hW hu' hops;rcases Qqm hu hkt hfit (hrd S a hops) hb hfs hes ok with ⟨y',v,h1,h2,h3⟩|⟨h1,h2⟩
   .rw[hl] at h1;cases h1
   .refine⟨_,?_,Qx8 ok false (hz2 S.ok S.hp)⟩;simp only[execOp,ho,hv];simp[h2 z (hz1 _)]
 cases hm:evO tm m<;>rw[hm] at hk<;>try exact hk.elim
 case im d=>
  cases d<;>try exact hk.elim
  case nilm=>
   simp only[Qyc] at hk;obtain⟨hzl,hza,hzs,hk⟩:=hk;obtain⟨z,hz1,_,_,hz2⟩:=Qrg hE hzl hzs;refine⟨_,_,OpT.pure (u:=[]) ?_,hk⟩;intro C S a hW hu' hops;have h1:=hops m (by rw[ho];simp[Op.operands]);rw[hm] at h1;simp only[conc,rd] at h1;refine⟨_,?_,Qx8 ok false (hz2 S.ok S.hp)⟩;simp only[execOp,ho,h1];simp[Qabs hu hkt hfit (hrd S a hops) ok (hz1 S.w)]
  case mp kt' es=>
   simp only[Qyc] at hk;obtain⟨rfl,hk⟩:=hk;by_cases hfs: ∀e∈es,kt'.fit e.1=true
   .refine main (u:=[]) hfs ?_ hk;intro C S a hW _ hops;have h1:=hops m (by rw[ho];simp[Op.operands]);rw[hm] at h1;simp only[conc,rd] at h1;obtain⟨b,ents,clock,h2,_,_,h3,h4,_⟩:=h1;exact⟨b,ents,clock,h2,h3,h4⟩
   .cases hl:lk es kd with
    |some y=>
     refine⟨_,_,OpT.pure (u:=[]) ?_,hk.1 y hl⟩;intro C S a hW _ hops;have h1:=hops m (by rw[ho];simp[Op.operands]);rw[hm] at h1;simp only[conc,rd] at h1;obtain⟨_,_,_,_,h2,_⟩:=h1;exact absurd h2 hfs
    |none=>
     obtain⟨_,_,_,hk⟩:=hk.2 hl;refine⟨_,_,OpT.pure (u:=[]) ?_,hk⟩;intro C S a hW _ hops;have h1:=hops m (by rw[ho];simp[Op.operands]);rw[hm] at h1;simp only[conc,rd] at h1;obtain⟨_,_,_,_,h2,_⟩:=h1;exact absurd h2 hfs
 case mp n=>
  simp only[Qyc] at hk;cases hn:h n with
  |none=>rw[hn] at hk;exact hk.elim
  |some ent=>
  rw[hn] at hk;obtain⟨mu,ent⟩:=ent;cases ent<;>try exact hk.elim
  rename_i kt' es;simp only[luObj] at hk;obtain⟨rfl,hk⟩:=hk;have hob: ∀(C:Ctx) (S:Env),Wf C S->(∀n'∈[n],S.h n'=h n')->S.h n=some (mu,.map kt' es)/\objc S (S.ρ n) (.map kt' es):=fun C S hW hu'=>by
   have hS:=(hu' n (by simp)).trans hn;exact⟨hS,hW.obj _ _ hS⟩
  by_cases hfs: ∀e∈es,kt'.fit e.1=true
  .refine main (u:=[n]) hfs ?_ hk;intro C S a hW hu' hops;have h1:=hops m (by rw[ho];simp[Op.operands]);rw[hm] at h1;obtain⟨hS,hob⟩:=hob C S hW hu';simp only[conc] at h1;obtain⟨l,hl,hv⟩:=h1.2 _ hS;simp only[objc] at hob;obtain⟨lc,ents,clock,h2,_,h3,h4,_⟩:=hob;rw[hl] at h2;obtain rfl:=Zac h2;exact⟨l.b,ents,clock,hv,h3,h4⟩
  .cases hl:lk es kd with
   |some y=>
    refine⟨_,_,OpT.pure (u:=[n]) ?_,hk.1 y hl⟩;intro C S a hW hu' _
    have:=(hob C S hW hu').2
    simp only[objc] at this;obtain⟨_,_,_,_,h2,_⟩:=this;exact absurd h2 hfs
   |none=>
    obtain⟨_,_,_,hk⟩:=hk.2 hl;refine⟨_,_,OpT.pure (u:=[n]) ?_,hk⟩;intro C S a hW hu' _
    have:=(hob C S hW hu').2
    simp only[objc] at this;obtain⟨_,_,_,_,h2,_⟩:=this;exact absurd h2 hfs
end
theorem rde_set{ok:Nat->Prop}{hp:Nat->Option Obj}{kd y:D}{kv v:Value}(hk:rd ok hp kd kv)(hy:rd ok hp y v):
 ∀(p:Nat) (ds:List (D×D)) (es:List MapEntry),rde ok hp ds es->rde ok hp (ds.set p (kd,y)) (es.modify p fun e=>{e with key:=kv,val:=v})
 |_,[],es,h=>by
  simp only[rde] at h;subst h;simp[rde]
 |0,(a,b)::ds,es,h=>by
  simp only[rde] at h;obtain⟨e,r,rfl,h1,h2,h3⟩:=h;simp only[Zde,List.modify_zero_cons,rde];exact⟨_,r,rfl,hk,hy,h3⟩
 |p+1,(a,b)::ds,es,h=>by
  simp only[rde] at h;obtain⟨e,r,rfl,h1,h2,h3⟩:=h;simp only[Zdd,ZeZ,rde];exact⟨e,_,rfl,h1,h2,rde_set hk hy p ds r h3⟩
theorem Qaao{ok:Nat->Prop}{hp:Nat->Option Obj}{kd y:D}{e:MapEntry}(hk:rd ok hp kd e.key)(hy:rd ok hp y e.val):
 ∀(ds:List (D×D)) (es:List MapEntry),rde ok hp ds es->rde ok hp (ds++[(kd,y)]) (es++[e])
 |[],es,h=>by
  simp only[rde] at h;subst h;simp only[Zbi,rde];exact⟨e,[],rfl,hk,hy,rfl⟩
 |(a,b)::ds,es,h=>by
  simp only[rde] at h;obtain⟨e',r,rfl,h1,h2,h3⟩:=h;simp only[ZaA,rde];exact⟨e',_,rfl,h1,h2,Qaao hk hy ds r h3⟩
theorem Qpa{ok:Nat->Prop}{hp:Nat->Option Obj}:
 ∀(p:Nat) (ds:List (D×D)) (es:List MapEntry),rde ok hp ds es->rde ok hp (ds.eraseIdx p) (es.eraseIdx p)
 |_,[],es,h=>by
  simp only[rde] at h;subst h;simp[rde]
 |0,(a,b)::ds,es,h=>by
  simp only[rde] at h;obtain⟨e,r,rfl,h1,h2,h3⟩:=h;simpa only[ZeJ] using h3
 |p+1,(a,b)::ds,es,h=>by
  simp only[rde] at h;obtain⟨e,r,rfl,h1,h2,h3⟩:=h;simp only[Zdm,rde];exact⟨e,_,rfl,h1,h2,Qpa p ds r h3⟩
theorem Qpy(p:Nat)(kv v:Value): ∀(es:List MapEntry),(es.modify p fun e=>{e with key:=kv,val:=v}).map (·.born)=es.map (·.born):=by
 induction p with
 |zero=>intro es;cases es<;>simp
 |succ p ih=>intro es;cases es with
  |nil=>simp
  |cons e es=>simp[ih]
theorem Qpj(a b:ByteArray):(a==b)=decide (a=b):=by rw[beq_toListBytes,Qry]
theorem Qoy{ok ok':Nat->Prop}{hp hp':Nat->Option Obj}: ∀(ks:List KK) (a b:List D) (x y:List Value),fitL ks a=true->fitL ks b=true->rdl ok hp a x->rdl ok' hp' b y->D.beql a b=true->x=y
 |[],[],[],x,y,_,_,h1,h2,_=>by simp only[rdl] at h1 h2;rw[h1,h2]
 |[],_::_,_,_,_,h,_,_,_,_=>by simp[fitL] at h
 |[],[],_::_,_,_,_,h,_,_,_=>by simp[fitL] at h
 |_::_,[],_,_,_,h,_,_,_,_=>by simp[fitL] at h
 |_::_,_::_,[],_,_,_,h,_,_,_=>by simp[fitL] at h
 |k::ks,d::a,d'::b,x,y,hf,hg,h1,h2,hb=>by
  simp only[fitL,Zah] at hf hg;simp only[rdl] at h1 h2;simp only[D.beql,Zah] at hb;obtain⟨v,r,rfl,h3,h4⟩:=h1;obtain⟨v',r',rfl,h5,h6⟩:=h2;rw[Qoy ks a b r r' hf.2 hg.2 h4 h6 hb.2];congr 1;rcases Qnu hf.1 h3 with ⟨j,n,e1,rfl,rfl⟩|⟨n,e1,rfl,rfl⟩|⟨n,e1,rfl,rfl⟩<;>
   rcases Qnu hg.1 h5 with ⟨j2,n2,e2,rfl,rfl⟩|⟨n2,e2,rfl,rfl⟩|⟨n2,e2,rfl,rfl⟩<;>rw[e1] at e2<;>cases e2<;>simp_all [D.beq,Qpj]
theorem bits_sc{ok:Nat->Prop}{hp:Nat->Option Obj}{n:Nat}{k:KK}{d:D}{v:Value}(hf:k.fit d=true)(h:rd ok hp d v):Instr.sameBits n v v=true:=by
 rcases Qnu hf h with ⟨j,m,e1,rfl,rfl⟩|⟨m,e1,rfl,rfl⟩|⟨m,e1,rfl,rfl⟩<;>simp[Instr.sameBits,Qpj]
theorem bits_l{ok:Nat->Prop}{hp:Nat->Option Obj}{n:Nat}: ∀(ks:List KK) (a:List D) (x:List Value),fitL ks a=true->rdl ok hp a x->(x.zip x).all (fun (x,y)=>Instr.sameBits n x y)=true
 |[],[],x,_,h=>by simp only[rdl] at h;subst h;rfl
 |[],_::_,_,h,_=>by simp[fitL] at h
 |_::_,[],_,h,_=>by simp[fitL] at h
 |k::ks,d::a,x,hf,h=>by
  simp only[fitL,Zah] at hf;simp only[rdl] at h;obtain⟨v,r,rfl,h3,h4⟩:=h;simp only[List.zip_cons_cons,ZcA,Zah];exact⟨bits_sc hf.1 h3,bits_l ks a r hf.2 h4⟩
theorem key_stays{P:Program}{w:World}{ok ok':Nat->Prop}{hp hp':Nat->Option Obj}{kt:KT}{a b:D}{x y:Value}(h1:kt.fit a=true)(h2:kt.fit b=true)(h3:rd ok hp a x)(h4:rd ok' hp' b y)(hb:D.beq a b=true):
 (Instr.keyThatStays y x).run P w= .ok x w:=by
 have key:x=y/\Instr.sameBits 10000 x x=true:=by
  cases ha:kt.agg with
  |true=>
   cases a<;>simp only[KT.fit,ha,ZaB] at h1;cases b<;>simp only[KT.fit,ha,ZaB] at h2;simp only[rd] at h3 h4;obtain⟨u,rfl,h3⟩:=h3;obtain⟨v,rfl,h4⟩:=h4;simp only[D.beq] at hb
   have:=Qoy _ _ _ _ _ h1 h2 h3 h4 hb
   refine⟨by rw[ZcU] at this;rw[this],?_⟩;show (u.size==u.size && (u.toList.zip u.toList).all fun (x,y)=>Instr.sameBits 9999 x y)=true;rw[bits_l _ _ _ h1 h3];simp
  |false=>
   simp only[KT.fit,ha] at h1 h2;have hx:rdl ok hp [a] [x]:=by simp only[rdl];exact⟨x,[],rfl,h3,rfl⟩
   have hy:rdl ok' hp' [b] [y]:=by simp only[rdl];exact⟨y,[],rfl,h4,rfl⟩
   have:=Qoy _ _ _ _ _ h1 h2 hx hy (by simp[D.beql,hb])
   refine⟨by simpa using this,?_⟩;cases hks:kt.ks with
   |nil=>rw[hks] at h1;simp[fitL] at h1
   |cons k r=>
    rw[hks] at h1;simp only[fitL,Zah] at h1;exact bits_sc h1.1 h3
 obtain⟨rfl,h5⟩:=key;simp[Instr.keyThatStays,h5]
theorem fit_upd{kt:KT}{kd y:D}(hk:kt.fit kd=true): ∀(ds:List (D×D)),(∀e∈ds,kt.fit e.1=true)-> ∀e∈upd ds kd y,kt.fit e.1=true
 |[],_=>by simp[upd,hk]
 |(a,b)::ds,h=>by
  have ih:=fit_upd (y:=y) hk ds (fun e he=>h e (by simp[he]));simp only[upd];cases D.beq kd a with
  |true=>
   simp only[Zbf,Zaw];rintro e (rfl|he)
   .exact hk
   .exact h e (by simp[he])
  |false=>
   simp only[ZaS,Zaw];rintro e (rfl|he)
   .exact h _ (by simp)
   .exact ih e he
theorem fit_del{kt:KT}{kd:D}: ∀(ds:List (D×D)),(∀e∈ds,kt.fit e.1=true)-> ∀e∈del ds kd,kt.fit e.1=true
 |[],_=>by simp[del]
 |(a,b)::ds,h=>by
  have ih:=fit_del (kd:=kd) ds (fun e he=>h e (by simp[he]));simp only[del];cases D.beq kd a with
  |true=>
   simp only[Zbf];intro e he;exact h e (by simp[he])
  |false=>
   simp only[ZaS,Zaw];rintro e (rfl|he)
   .exact h _ (by simp)
   .exact ih e he
section
variable {P:Program}{tm:List (Nat×AV)}{h:Nat->Option Ent}{nx:Nat}{o:Oper}{K:Kont}
theorem map_op{n:Nat}{kt:KT}{es es':List (D×D)}(hn:h n=some (true,.map kt es))(hfit:(∀e∈es,kt.fit e.1=true)-> ∀e∈es',kt.fit e.1=true)
 (hrun: ∀(S:Env) (a:Act) (b:Nat) (ents:Array MapEntry) (clock:Nat),(∀x∈o.op.operands,conc S (evO tm x) (a.eval x))->(∀v,conc S (.mp n) v->v= .map (some b))->
  (∀e∈es,kt.fit e.1=true)->S.w.heap[b]? =some (.map ents clock)->rde S.ok S.hp es ents.toList->(ents.toList.map (·.born)).Nodup->(∀e∈ents.toList,e.born<clock)->
  ∃ents' clock' w',((execOp a.eval o).run P S.w= .ok .skip w'\/ ∃v,(execOp a.eval o).run P S.w= .ok (.value v) w')/\w'.heap=S.w.heap.setIfInBounds b (.map ents' clock')/\w'.os=S.w.os/\w'.tape=S.w.tape/\w'.output=S.w.output/\
   rde S.ok S.hp es' ents'.toList/\(ents'.toList.map (·.born)).Nodup/\(∀e∈ents'.toList,e.born<clock'))
 (hk:K .any {use:=[n],kill:=[n],new:=[(n,(true,.map kt es'))]}):Qbp P tm h nx o K:=by
 refine⟨_,_,OpT.one (u:=[n]) (ks:=[n]) (m:=n) (cnt:=0) (.inr ⟨rfl,by simp,by rw[hn];simp⟩) ?_,hk⟩;intro C S a hW hu _ _ hops;have hS:S.h n=some (true,.map kt es):=(hu n (by simp)).trans hn;have ho1:=hW.obj _ _ hS;simp only[objc] at ho1;obtain⟨l,ents,clock,hl,hfs,hb,hes,hnd,hcl⟩:=ho1;obtain⟨ents',clock',w',h1,h2,h3,h4,h5,h6,h7,h8⟩:=hrun S a l.b ents clock hops (by
  intro v hv;simp only[conc] at hv;obtain⟨l',hl',hv'⟩:=hv.2 _ hS;rw[hl] at hl';obtain rfl:=Zac hl';exact hv') hfs hb hes hnd hcl
 have hone:Qjb S n (.map kt es') (some l) [n] w':=Qjw hW hS hl h2 h3 h4 h5 rfl rfl;have hfin:Pres (fun n'=>S.h n≠none\/n'≠n) S (S.one n (.map kt es') (some l) [n] w')->objc (S.one n (.map kt es') (some l) [n] w') (some l) (.map kt es'):=by
  intro hp;simp only[objc];exact⟨l,ents',clock',rfl,hfit hfs,Qpq (hW.loc n _ l hS hl).1 h2,Qc6 hp.ok _ _ h6,h7,h8⟩
 rcases h1 with h1|⟨v,h1⟩
 .exact⟨undef,w',some l,.inr ⟨h1,rfl⟩,hone,fun hp=>⟨hfin hp,by simp only[conc]⟩⟩
 .exact⟨v,w',some l,.inl h1,hone,fun hp=>⟨hfin hp,by simp only[conc]⟩⟩
theorem Qjd{T:TypeId}{m k v:Operand}{ti:TI}{n:Nat}{kd vd:D}(ho:o.op= .mapUpdate T m k v\/o.op= .insert T m k v)(hT:tI P T=some ti)(hm:evO tm m= .mp n)(hkd:evO tm k= .im kd)(hvd:evO tm v= .im vd)(hk:muK P h n kd vd K ti.kind):Qbp P tm h nx o K:=by
 cases hf:ti.kind<;>rw[hf] at hk<;>try exact hk.elim
 rename_i kT e;have hu:=Qqw hT hf;simp only[muK] at hk;cases hkt:keyT P kT with
 |none=>rw[hkt] at hk;exact hk.elim
 |some kt=>
 rw[hkt] at hk;simp only[muKt] at hk;cases hn:h n with
 |none=>rw[hn] at hk;exact hk.elim
 |some ent=>
 rw[hn] at hk;obtain⟨mu,ent⟩:=ent;cases mu<;>cases ent<;>try exact hk.elim
 rename_i kt' es;simp only[muObj] at hk;obtain⟨rfl,hfit,hk⟩:=hk;refine map_op hn (fit_upd hfit es) ?_ hk;intro S a b ents clock hops hvm hfs hb hes hnd hcl;have h1:=hvm _ (by have:=hops m (by rcases ho with ho|ho<;>rw[ho]<;>simp[Op.operands]);rwa [hm] at this);have h2:=hops k (by rcases ho with ho|ho<;>rw[ho]<;>simp[Op.operands]);have h3:=hops v (by rcases ho with ho|ho<;>rw[ho]<;>simp[Op.operands]);rw[hkd] at h2;rw[hvd] at h3;simp only[conc] at h2 h3;obtain⟨r,h4,h5⟩:=Qfw (w:=S.w) hkt hfit h2 es ents.toList hfs hes;have hck:=Qit (P:=P) (w:=S.w) (em:=false) 5 10000 (by omega) kT kt' hkt kd _ hfit h2;cases r with
 |none=>
  obtain⟨w',h6,h7⟩:=Qiy (P:=P) (w:=S.w) (b:=b) (es:=ents) (es':=ents.push {key:=a.eval k,val:=a.eval v,born:=clock}) (clock:=clock) (c':=clock+1) hb;refine⟨_,_,w',.inl ?_,h7.1,h7.2.1,h7.2.2.1,h7.2.2.2,?_,?_,?_⟩
  .rcases ho with ho|ho<;>simp only[execOp,ho,h1]<;>
   simp[Instr.mapUpdate,run_underlying hu,Qcc (w:=S.w) hb,hck,h4,h6]
  .rw[h5.2.1,ZdT];exact Qaao h2 h3 _ _ hes
  .rw[ZdT,ZaT,ZbV];refine⟨hnd,by simp,?_⟩;intro x hx y hy;simp only[Zaq,ZaG,Zal] at hy;subst hy;simp only[ZaJ] at hx;obtain⟨e',he',rfl⟩:=hx
   have:=hcl e' he'
   omega
  .intro e' he';rw[ZdT,Zan,Zal] at he';rcases he' with he'|rfl
   .have:=hcl e' he';omega
   .simp
 |some r=>
  obtain⟨j,v0⟩:=r;obtain⟨p,k',y,h6,h7,h8,h9,h10,h11,h12⟩:=h5;rw[ZbR] at h6;subst h6;have hj: ∃e',ents[j]? =some e'/\rd S.ok S.hp k' e'.key:=by
   have key: ∀(ds:List (D×D)) (es:List MapEntry) (p:Nat),rde S.ok S.hp ds es->ds[p]? =some (k',y)-> ∃e',es[p]? =some e'/\rd S.ok S.hp k' e'.key:=by
    intro ds;induction ds with
    |nil=>intro es p _ h;simp at h
    |cons d ds ih=>
     intro es p h hp;obtain⟨d1,d2⟩:=d;simp only[rde] at h;obtain⟨e',r,rfl,g1,g2,g3⟩:=h;cases p with
     |zero=>simp at hp;obtain⟨rfl,rfl⟩:=hp;exact⟨e',rfl,g1⟩
     |succ p=>simpa using ih r p g3 (by simpa using hp)
   obtain⟨e',g1,g2⟩:=key es ents.toList j hes h7;exact⟨e',by simpa using g1,g2⟩
  obtain⟨e',he',hke⟩:=hj;have hst:=key_stays (P:=P) (w:=S.w) hfit (hfs (k',y) (Zaf h7)) h2 hke h8;obtain⟨w',h13,h14⟩:=Qiy (P:=P) (w:=S.w) (b:=b) (es:=ents) (es':=ents.modify j fun e=>{e with key:=a.eval k,val:=a.eval v}) (clock:=clock) (c':=clock) hb;refine⟨_,_,w',.inl ?_,h14.1,h14.2.1,h14.2.2.1,h14.2.2.2,?_,?_,?_⟩
  .rcases ho with ho|ho<;>simp only[execOp,ho,h1]<;>
   simp[Instr.mapUpdate,run_underlying hu,Qcc (w:=S.w) hb,hck,h4,he',hst,h13]
  .rw[h11,Zel];exact rde_set h2 h3 j _ _ hes
  .rw[Zel,Qpy];exact hnd
  .intro x hx
   have:x.born∈(ents.modify j fun e=>{e with key:=a.eval k,val:=a.eval v}).toList.map (·.born):=Zdn hx
   rw[Zel,Qpy,ZaJ] at this;obtain⟨z,hz,hzx⟩:=this;rw[<-hzx];exact hcl z hz
theorem Qabh{T:TypeId}{m k:Operand}{c:Call}{rest:List TypeId}(ho:o.op= .call c)(hcal:c.callee= .builtin .delete)(hargs:c.args= #[m,k])(hty:c.argTypes.toList=T::rest)
 (hk:Qax (Qni P h K (evO tm m) (evO tm k)) (tI P T)):Qbp P tm h nx o K:=by
 cases hT:tI P T with
 |none=>rw[hT] at hk;exact hk.elim
 |some ti=>
 rw[hT] at hk;simp only[Qax,Qni] at hk;cases hm:evO tm m<;>rw[hm] at hk<;>try exact hk.elim
 rename_i n;cases hkd:evO tm k<;>rw[hkd] at hk<;>try exact hk.elim
 rename_i kd;simp only at hk;cases hf:ti.kind<;>rw[hf] at hk<;>try exact hk.elim
 rename_i kT e;have hu:=Qqw hT hf;simp only[deK] at hk;cases hkt:keyT P kT with
 |none=>rw[hkt] at hk;exact hk.elim
 |some kt=>
 rw[hkt] at hk;simp only[deKt] at hk;cases hn:h n with
 |none=>rw[hn] at hk;exact hk.elim
 |some ent=>
 rw[hn] at hk;obtain⟨mu,ent⟩:=ent;cases mu<;>cases ent<;>try exact hk.elim
 rename_i kt' es;simp only[deObj] at hk;obtain⟨rfl,hfit,hk⟩:=hk;have ht0:c.argTypes[0]? =some T:=by
  have:c.argTypes.toList[0]? =some T:=by rw[hty];rfl
  simpa using this
 refine map_op hn (fit_del es) ?_ hk;intro S a b ents clock hops hvm hfs hb hes hnd hcl;have h1:=hvm _ (by have:=hops m (by rw[ho];simp[Op.operands,Call.operands,hargs,hcal]);rwa [hm] at this);have h2:=hops k (by rw[ho];simp[Op.operands,Call.operands,hargs,hcal]);rw[hkd] at h2;simp only[conc] at h2;obtain⟨r,h4,h5⟩:=Qfw (w:=S.w) hkt hfit h2 es ents.toList hfs hes;have hck:=Qit (P:=P) (w:=S.w) (em:=ents.isEmpty) 5 10000 (by omega) kT kt' hkt kd _ hfit h2;cases r with
 |none=>
  obtain⟨w',h6,h7⟩:=Qiy (P:=P) (w:=S.w) (b:=b) (es:=ents) (es':=ents) (clock:=clock) (c':=clock) hb;refine⟨_,_,w',.inr ⟨.tuple #[],?_⟩,h7.1,h7.2.1,h7.2.2.1,h7.2.2.2,by rw[h5.2.2];exact hes,hnd,hcl⟩;simp only[execOp,ho,resolve,hcal,hargs,Sem.run_bind,Sem.run_pure,Result.andThen_ok,invoke,builtin];simp[Builtin.delete_,ht0,h1,run_underlying hu,Qcc (w:=S.w) hb,hck,h4,h6]
 |some r=>
  obtain⟨j,v0⟩:=r;obtain⟨p,k',y,h6,h7,h8,h9,h10,h11,h12⟩:=h5;rw[ZbR] at h6;subst h6;obtain⟨w',h13,h14⟩:=Qiy (P:=P) (w:=S.w) (b:=b) (es:=ents) (es':=ents.eraseIdxIfInBounds j) (clock:=clock) (c':=clock) hb;have htl:(ents.eraseIdxIfInBounds j).toList=ents.toList.eraseIdx j:=by simp
  refine⟨_,_,w',.inr ⟨.tuple #[],?_⟩,h14.1,h14.2.1,h14.2.2.1,h14.2.2.2,?_,?_,?_⟩
  .simp only[execOp,ho,resolve,hcal,hargs,Sem.run_bind,Sem.run_pure,Result.andThen_ok,invoke,builtin];simp[Builtin.delete_,ht0,h1,run_underlying hu,Qcc (w:=S.w) hb,hck,h4,h13]
  .rw[h12,htl];exact Qpa j _ _ hes
  .rw[htl];exact hnd.sublist ((ZeV _ _).map _)
  .intro x hx;rw[htl] at hx;exact hcl x ((ZeV _ _).mem hx)
end
theorem Qih{ok:Nat->Prop}{hp:Nat->Option Obj}{k:Nat}: ∀(l:Nat) (rows:List (List D)) (vs:List Value),rdr ok hp k rows vs->rdr ok hp k (rows.drop l) (vs.drop (l*k))
 |0,rows,vs,h=>by simpa using h
 |l+1,[],vs,_=>by simp only[Zfk,rdr]
 |l+1,r::rs,vs,h=>by
  simp only[rdr] at h
  have:=Qih l rs _ h.2.2
  rw[Zbh] at this;simp only[Zcb];rwa [show (l+1)*k=k+l*k by rw[Zfb];omega]
theorem Qgj{ok:Nat->Prop}{hp:Nat->Option Obj}{k:Nat}: ∀(n:Nat) (rows:List (List D)) (vs:List Value),rdr ok hp k rows vs->rdr ok hp k (rows.take n) vs
 |0,rows,vs,_=>by simp only[Zbk,rdr]
 |n+1,[],vs,_=>by simp only[Zfl,rdr]
 |n+1,r::rs,vs,h=>by
  simp only[rdr] at h;simp only[ZbI,rdr];exact⟨h.1,h.2.1,Qgj n rs _ h.2.2⟩
section
variable {P:Program}{tm:List (Nat×AV)}{h:Nat->Option Ent}{nx:Nat}{o:Oper}{K:Kont}
theorem bdV_eq{S:Env}{a:Act}{x:Option Operand}{d:Nat}{l:Int}(hb:bdV d (evOo tm x)=some l)(hops: ∀y,x=some y->conc S (evO tm y) (a.eval y)):
 (x=none/\l=d)\/ ∃y k,x=some y/\a.eval y= .int k l:=by
 cases x with
 |none=>simp only[evOo,bdV,Zae] at hb;exact .inl ⟨rfl,hb.symm⟩
 |some y=>
  right;have hc:=hops y rfl;simp only[evOo] at hb;cases hx:evO tm y<;>rw[hx] at hb<;>simp only[bdV,reduceCtorEq] at hb;rename_i d;cases d<;>simp only[reduceCtorEq,Zae] at hb;rename_i k n;subst hb;rw[hx] at hc;simp only[conc,rd] at hc;exact⟨y,k,rfl,hc⟩
theorem Qq1{S:Env}{a:Act}{lo hi:Option Operand}{l m:Int}{len cap:Nat}{isS:Bool}(hlo:bdV 0 (evOo tm lo)=some l)(hhi:bdV len (evOo tm hi)=some m)
 (h0:0<=l)(hlm:l<=m)(hm:m<=(len:Int))(hcap:len<=cap)(hops: ∀y,lo=some y\/hi=some y->conc S (evO tm y) (a.eval y))(w:World):
 (Instr.sliceBounds isS len cap (lo.map a.eval) (hi.map a.eval) none).run P w= .ok (l.toNat,m.toNat,cap) w:=by
 have h1:=bdV_eq hlo (fun y hy=>hops y (.inl hy));have h2:=bdV_eq hhi (fun y hy=>hops y (.inr hy));have hmc:m<=(cap:Int):=by omega
 unfold Instr.sliceBounds;rcases h1 with ⟨rfl,rfl⟩|⟨y,k,rfl,hy⟩<;>rcases h2 with ⟨rfl,rfl⟩|⟨z,k',rfl,hz⟩
 .simp
 .simp[Instr.sliceBound,hz,asIntOf,hmc,show (0:Int)<=m by omega]
 .simp[Instr.sliceBound,hy,asIntOf,h0,hlm]
 .simp only[ZaO,Sem.run_bind,Sem.run_pure,Result.andThen_ok];have hmx:((m.toNat:Nat):Int)=m:=by omega
  simp[Instr.sliceBound,hy,hz,asIntOf,h0,hlm,hmc,show (0:Int)<=m by omega,show ¬(max m 0<l) by omega]
theorem Qfg{T e:TypeId}{te:TI}(hu:P.underlying T=some (.slice e))(hE:tI P e=some te){S:Env}{a:Act}{x:Operand}{lo hi:Option Operand}{l m:Int}{len cap:Nat}{base:Option Addr}
 (ho:o.op= .slice T x lo hi none)(hx:a.eval x= .slice base len cap)(hlo:bdV 0 (evOo tm lo)=some l)(hhi:bdV len (evOo tm hi)=some m)
 (h0:0<=l)(hlm:l<=m)(hm:m<=(len:Int))(hcap:len<=cap)(hops: ∀y∈o.op.operands,conc S (evO tm y) (a.eval y))(w:World):
 (execOp a.eval o).run P w= .ok (.value (.slice (if cap=l.toNat then base else base.map (·.add (l.toNat*te.size))) (m.toNat - l.toNat) (cap - l.toNat))) w:=by
 have hb:=Qq1 (P:=P) (isS:=true) hlo hhi h0 hlm hm hcap (fun y hy=>hops y (by rw[ho];rcases hy with rfl|rfl<;>simp[Op.operands])) w;have hu':(underlying T).run P w= .ok (.slice e) w:=by simp[underlying,hu]
 simp only[execOp,ho,hx,Instr.sliceAt,Instr.slice,Sem.run_bind,hu',Result.andThen_ok,Option.map_none,hb,Qca hE,Sem.run_pure]
theorem snd_slice{T:TypeId}{x:Operand}{lo hi:Option Operand}(ho:o.op= .slice T x lo hi none)(hk:Qax (Qsm P h nx (evO tm x) (evOo tm lo) (evOo tm hi) K) (tI P T)):Qbp P tm h nx o K:=by
 have hopx:x∈o.op.operands:=by rw[ho];simp[Op.operands]
 cases hT:tI P T with
 |none=>rw[hT] at hk;exact hk.elim
 |some ti=>
 rw[hT] at hk;simp only[Qax,Qsm] at hk;cases hf:ti.kind<;>rw[hf] at hk<;>try exact hk.elim
 case str=>
  have hu:=Qafr hT hf;simp only[slK] at hk;cases hx:evO tm x<;>rw[hx] at hk<;>try exact hk.elim
  rename_i d;cases d<;>try exact hk.elim
  rename_i s;simp only[slKs] at hk;cases hlo:bdV 0 (evOo tm lo) with
  |none=>rw[hlo] at hk;exact hk.elim
  |some l=>
  cases hhi:bdV s.size (evOo tm hi) with
  |none=>rw[hlo,hhi] at hk;exact hk.elim
  |some m=>
  rw[hlo,hhi] at hk;simp only[slStr] at hk;obtain⟨h0,hlm,hm,hk⟩:=hk;refine⟨_,_,OpT.pure (u:=[]) ?_,hk⟩;intro C S a hW _ hops;have h1:=hops x hopx;rw[hx] at h1;simp only[conc,rd] at h1;refine⟨.string (s.extract l.toNat m.toNat),?_,by simp only[conc,rd]⟩;have hb:=Qq1 (P:=P) (isS:=false) hlo hhi h0 hlm hm (Zap _) (fun y hy=>hops y (by rw[ho];rcases hy with rfl|rfl<;>simp[Op.operands])) S.w;have hu':(underlying T).run P S.w= .ok .string S.w:=by simp[underlying,hu]
  simp only[execOp,ho,h1,Instr.sliceAt,Instr.slice,Sem.run_bind,hu',Result.andThen_ok,Option.map_none,ZcT,ZaB,Zby,hb,Sem.run_pure]
 case slice e=>
 have hu:=Qdq hT hf;simp only[slK] at hk;cases hE:tI P e with
 |none=>rw[hE] at hk;exact hk.elim
 |some te=>
 rw[hE] at hk;simp only[Qax] at hk;cases hx:evO tm x<;>rw[hx] at hk<;>try exact hk.elim
 case im d=>
  cases d<;>try exact hk.elim
  rename_i nz k rows;simp only[slE] at hk;obtain⟨hks,hk⟩:=hk;cases hlo:bdV 0 (evOo tm lo) with
  |none=>rw[hlo] at hk;exact hk.elim
  |some l=>
  cases hhi:bdV rows.length (evOo tm hi) with
  |none=>rw[hlo,hhi] at hk;exact hk.elim
  |some m=>
  rw[hlo,hhi] at hk;simp only[slIm] at hk;obtain⟨h0,hlm,hm,hk⟩:=hk;refine⟨_,_,OpT.pure (u:=[]) ?_,hk⟩;intro C S a hW _ hops;have h1:=hops x hopx;rw[hx] at h1;simp only[conc,rd] at h1;have hlen:((rows.drop l.toNat).take (m - l).toNat).length=m.toNat - l.toNat:=by
   rw[Zau,ZaH];omega
  rcases h1 with ⟨h0',rfl⟩|⟨b,p,cap,vs,U,fr,h1,h2,h3,h4,h5,h6,h7⟩
  .simp only[ZbB] at hm hhi;obtain⟨ao,h1⟩:=Qoc h0';refine⟨_,Qfg hu hE ho h1 hlo hhi h0 hlm hm (Zap 0) hops S.w,?_⟩;have e1:l.toNat=0:=by omega
   have e2:m.toNat=0:=by omega
   simp only[conc,rd,e1,e2];refine .inl ⟨?_,by simp⟩;cases ao with
   |none=>exact .inl (by simp)
   |some ad=>exact .inr ⟨rfl,ad,by simp⟩
  .refine⟨_,Qfg hu hE ho h1 hlo hhi h0 hlm hm h3 hops S.w,?_⟩;simp only[conc,rd];right;by_cases hc:cap=l.toNat
   .refine⟨b,p,cap - l.toNat,vs,U,fr,by rw[Zao hc,hlen],by simp,by rw[hlen];omega,by rw[hlen];exact Zbd (by omega) h4,h5,h6,?_⟩
    have:(rows.drop l.toNat).take (m - l).toNat=[]:=Zcy (by rw[hlen];omega)
    rw[this];simp only[rdr]
   .refine⟨b,p+l.toNat*te.size,cap - l.toNat,vs,U,fr,by rw[Zaj hc,hlen];simp[Addr.add],by simp,by rw[hlen];omega,by rw[hlen];omega,h5,h6,?_⟩;rcases hks with hks|hks
    .subst hks
     have:=Qgj (m - l).toNat _ _ (Qih l.toNat _ _ h7)
     rwa [Zbh] at this
    .subst hks;simp only[Zfk,Zfl,rdr]
 case own n=>
  simp only[slE] at hk;cases hn:h n with
  |none=>rw[hn] at hk;exact hk.elim
  |some ent=>
  rw[hn] at hk;obtain⟨mu,ent⟩:=ent;cases ent<;>try exact hk.elim
  rename_i U k rows;simp only[slOwn] at hk;obtain⟨hks,hk⟩:=hk;cases hlo:bdV 0 (evOo tm lo) with
  |none=>rw[hlo] at hk;exact hk.elim
  |some l=>
  cases hhi:bdV rows.length (evOo tm hi) with
  |none=>rw[hlo,hhi] at hk;exact hk.elim
  |some m=>
  rw[hlo,hhi] at hk;simp only[slWin] at hk;obtain⟨h0,hlm,hm,mv,hk⟩:=hk;have hlen:((rows.drop l.toNat).take (m - l).toNat).length=m.toNat - l.toNat:=by
   rw[Zau,ZaH];omega
  cases mv with
  |false=>
   simp only[Qub] at hk;refine⟨_,_,OpT.pure (u:=[n]) ?_,hk⟩;intro C S a hW hu' hops;have h1:=hops x hopx;rw[hx] at h1;simp only[conc] at h1;have hS:=(hu' n (by simp)).trans hn;have h1:=h1.2 _ hS;have hob:=hW.obj _ _ hS;simp only[objc] at hob;cases hl0:S.ρ n with
   |none=>
    rw[hl0] at h1 hob;obtain⟨_,hob⟩:=hob;subst hob;simp only[ZbB] at hm hhi;refine⟨_,Qfg hu hE ho h1 hlo hhi h0 hlm hm (Zap 0) hops S.w,?_⟩;simp only[conc];refine⟨rfl,fun e' he'=> ?_⟩;rw[hl0];unfold winV;have e1:l.toNat=0:=by omega
    have e2:m.toNat=0:=by omega
    have e3:(m - l).toNat=0:=by omega
    simp[e1,e2,e3]
   |some lc=>
    rw[hl0] at h1 hob;obtain⟨g0,g1,vs,g2,g3,g4⟩:=hob;simp only[AObj.len] at h1;refine⟨_,Qfg hu hE ho h1 hlo hhi h0 hlm hm g1 hops S.w,?_⟩;simp only[conc];refine⟨rfl,fun e' he'=> ?_⟩;rw[hS] at he';obtain rfl:=Zac he';rw[hl0];unfold winV;simp only[AObj.esz,AObj.len];by_cases hc:lc.cap=l.toNat
    .rw[Zao hc];exact⟨lc.p,lc.cap - l.toNat,by congr 1;omega,by omega,fun hne=>absurd (show (m - l).toNat=0 by omega) hne,by omega⟩
    .rw[Zaj hc];exact⟨lc.p+l.toNat*te.size,lc.cap - l.toNat,by rw[show m.toNat - l.toNat=(m - l).toNat by omega];simp[Addr.add],by omega,fun _=>by rw[hks],by omega⟩
  |true=>
   simp only[Qub] at hk;obtain⟨rfl,hk⟩:=hk;refine⟨_,_,OpT.one (u:=[n]) (ks:=[n]) (.inl ⟨rfl,rfl⟩) ?_,hk⟩;intro C S a hW hu' hfr hnms hops;have h1:=hops x hopx;rw[hx] at h1;simp only[conc] at h1;have hS:=(hu' n (by simp)).trans hn;have h1:=h1.2 _ hS;have hob:=hW.obj _ _ hS;simp only[objc] at hob;have hnx:=hfr rfl;have hnn:nx≠n:=fun h'=>by subst h';rw[hS] at hnx;cases hnx
   cases hl0:S.ρ n with
   |none=>
    rw[hl0] at h1 hob;obtain⟨_,hob⟩:=hob;subst hob;simp only[ZbB] at hm hhi;refine⟨_,S.w,none,.inl (Qfg hu hE ho h1 hlo hhi h0 hlm hm (Zap 0) hops S.w),Ql6 hnx (fun n f hf=>hnms n f hf rfl),?_⟩;intro hp;have e1:l.toNat=0:=by omega
    have e2:m.toNat=0:=by omega
    refine⟨by simp[objc],?_⟩;simp only[conc];refine⟨rfl,fun e' he'=> ?_⟩;simp[Env.one,e1,e2]
   |some lc=>
    rw[hl0] at h1 hob;obtain⟨g0,g1,vs,g2,g3,g4⟩:=hob;simp only[AObj.len] at h1;obtain⟨q1,q2⟩:=hW.loc n _ lc hS hl0;have hone: ∀(p cap:Nat),Qjb S nx (.arr U k ((rows.drop l.toNat).take (m - l).toNat)) (some ⟨lc.b,p,cap⟩) [n] S.w:=by
     intro p cap;refine⟨rfl,rfl,rfl,Zap _,fun _ _ _=>rfl,.inr hnx,?_,?_,fun n f hf _=>hnms n f hf rfl⟩
     .intro lo hlo;obtain rfl:=Zac hlo;exact⟨q1,.inr ⟨n,_,lc,by simp,hS,hl0,rfl⟩⟩
     .intro f hf;rw[hnx] at hf;cases hf
    have hhp: ∀(e:AObj) (l:Option Loc),(S.one nx e l [n] S.w).hp=S.hp:=fun _ _=>rfl
    by_cases hc:lc.cap=l.toNat
    .refine⟨_,S.w,some ⟨lc.b,lc.p,lc.cap - l.toNat⟩,.inl (Qfg hu hE ho h1 hlo hhi h0 hlm hm g1 hops S.w),hone _ _,?_⟩;intro hp;have hnil:(rows.drop l.toNat).take (m - l).toNat=[]:=Zcy (by rw[hlen];omega);constructor
     .simp only[objc,hhp];rw[hnil];refine⟨by simp,by simp,vs,g2,?_,by simp only[rdr]⟩
      have:lc.cap - l.toNat=0:=by omega
      rw[this];omega
     .simp only[conc];refine⟨rfl,fun e' he'=> ?_⟩;simp only[Env.one,ZaQ,Zae] at he'⊢;subst he';simp only[AObj.len,hlen];rw[Zao hc]
    .refine⟨_,S.w,some ⟨lc.b,lc.p+l.toNat*te.size,lc.cap - l.toNat⟩,.inl (Qfg hu hE ho h1 hlo hhi h0 hlm hm g1 hops S.w),hone _ _,?_⟩;intro hp;constructor
     .simp only[objc,hhp];rw[hlen];refine⟨by omega,by omega,vs,g2,?_,?_⟩
      .subst hks;have e1:l.toNat*te.size+(lc.cap - l.toNat)*te.size=lc.cap*te.size:=by rw[<-ZbQ];congr 1;omega
       omega
      .subst hks
       have:=Qgj (m - l).toNat _ _ (Qih l.toNat _ _ g4)
       rw[Zbh] at this;exact this
     .simp only[conc];refine⟨rfl,fun e' he'=> ?_⟩;simp only[Env.one,ZaQ,Zae] at he'⊢;subst he';simp only[AObj.len,hlen];rw[Zaj hc];simp[Addr.add]
end
theorem Qta{ok:Nat->Prop}{hp:Nat->Option Obj}{k:Nat}: ∀(r1 r2:List (List D)) (L M:List Value),rdr ok hp k r1 L->L.length=r1.length*k->rdr ok hp k r2 M->rdr ok hp k (r1++r2) (L++M)
 |[],r2,L,M,_,hl,h2=>by
  simp only[ZbB,ZdK,ZbS] at hl;subst hl;simpa using h2
 |r::rs,r2,L,M,h1,hl,h2=>by
  simp only[rdr] at h1;simp only[ZaE,Zfb] at hl;simp only[ZaA,rdr];refine⟨h1.1,Qoe _ _ _ h1.2.1,?_⟩;rw[Zdo (by omega)];exact Qta rs r2 _ _ h1.2.2 (by rw[ZaH];omega) h2
theorem rdr_rows{ok:Nat->Prop}{hp:Nat->Option Obj}{k a:Nat}{rows src:List (List D)}{B L:List Value}(h:rdr ok hp k rows B)(hB:rows.length*k<=B.length)(h2:rdr ok hp k src L)(hL:L.length=src.length*k)
 (ha:a+src.length<=rows.length):rdr ok hp k (rows.take a++src++rows.drop (a+src.length)) (Qa5 B (a*k) L):=by
 unfold Qa5;have hak:a*k<=rows.length*k:=Zbm _ (by omega);have h1:rdr ok hp k (rows.take a) (B.take (a*k)):=by
  have:=Qrl (rows.take a) B (Qgj a _ _ h) (by rw[Zau];have:=Zbm k (ZcE a rows.length);omega)
  rwa [Zau,show min a rows.length=a by omega] at this
 refine Qta _ _ _ _ (Qta _ _ _ _ h1 (by rw[Zau,Zau,show min a rows.length=a by omega];omega) h2) ?_ ?_
 .simp only[Zaz,Zau];rw[show min a rows.length=a by omega,show min (a*k) B.length=a*k by omega,hL,ZbQ]
 .have:=Qih (a+src.length) _ _ h
  rwa [ZbQ,<-hL] at this
def dstV(S:Env)(o a n k:Nat)(rows:List (List D))(v:Value):Prop:=
 (v= .slice none 0 0/\rows=[]/\n=0/\S.ρ o=none)\/ ∃l p cp,S.ρ o=some l/\v= .slice (some ⟨l.b,p,none⟩) n cp/\(n≠0->p=l.p+a*k)/\a+n<=rows.length
section
variable {P:Program}{tm:List (Nat×AV)}{h:Nat->Option Ent}{nx:Nat}{o:Oper}{K:Kont}
theorem Qacz{S:Env}{m:Nat}{f e:AObj}(hm:S.h m=some (true,f))(hlo: ∀l,S.ρ m=some l->l.b<S.w.heap.size)(hz:e.esz=f.esz)(hl:e.len=f.len):Qjb S m e (S.ρ m) [m] S.w:=by
 refine⟨rfl,rfl,rfl,Zap _,fun _ _ _=>rfl,.inl (by simp),?_,?_,?_⟩
 .intro lo hlo';exact⟨hlo lo hlo',.inr ⟨m,f,lo,by simp,hm,hlo',rfl⟩⟩
 .intro g hg;rw[hm] at hg;obtain rfl:=Zac hg;exact⟨rfl,hz,hl⟩
 .intro n g _ hnone;rw[hm] at hnone;cases hnone
theorem wr_rows{C:Ctx}{S:Env}(hW:Wf C S){m T k a n:Nat}{rows:List (List D)}(hS:S.h m=some (true,.arr T k rows)){base:Option Addr}{dl dc:Nat}(hd:dstV S m a n k rows (.slice base dl dc)){src:List (List D)}{L:List Value}
 (hm:src.length<=n)(hL:L.length=src.length*k)(hr:rdr S.ok S.hp k src L)(h1: ∀v∈L,v.oneCell'=true):
 ∃w',((match base with|some a=>storeCells a L|none=>pure ()):Sem Unit).run P S.w= .ok () w'/\Qjb S m (.arr T k (rows.take a++src++rows.drop (a+src.length))) (S.ρ m) [m] w'/\
  (Pres (fun n'=>S.h m≠none\/n'≠m) S (S.one m (.arr T k (rows.take a++src++rows.drop (a+src.length))) (S.ρ m) [m] w')->objc (S.one m (.arr T k (rows.take a++src++rows.drop (a+src.length))) (S.ρ m) [m] w') (S.ρ m) (.arr T k (rows.take a++src++rows.drop (a+src.length)))):=by
 have hob:=hW.obj _ _ hS;by_cases hs:src=[]
 .subst hs;simp only[ZbB,ZdK,ZbS] at hL;subst hL;have e:rows.take a++([]:List (List D))++rows.drop (a+([]:List (List D)).length)=rows:=by simp
  rw[e];refine⟨S.w,by cases base<;>simp[storeCells],Qacz hS (fun l hl=>(hW.loc m _ l hS hl).1) rfl rfl,fun hp=> ?_⟩;exact Qbr hp (fun _ _=>rfl) _ (by simp[AObj.nms]) hob
 .have hsl:0<src.length:=ZcH.2 hs;rcases hd with ⟨_,_,rfl,_⟩|⟨l,p,cp,hl,hv,hp,ha⟩
  .omega
  .simp only[Value.slice.injEq] at hv;obtain⟨rfl,rfl,rfl⟩:=hv;have hp:=hp (by omega);subst hp;rw[hl] at hob;simp only[objc] at hob;obtain⟨g0,g1,vs,g2,g3,g4⟩:=hob;have hcap:rows.length*k<=l.cap*k:=Zbm _ g1;have hak:(a+src.length)*k<=rows.length*k:=Zbm _ (by omega);rw[ZbQ] at hak;have hvs:vs.toList.length=vs.size:=ZaW;obtain⟨w',r1,r2,r3,r4,r5⟩:=Qf9 (P:=P) (w:=S.w) (b:=l.b) (p:=l.p+a*k) (T:=T) L 0 vs h1 (by omega) g2;have hlen:(rows.take a++src++rows.drop (a+src.length)).length=rows.length:=by simp;omega
   rw[hl];refine⟨w',r1,Qjw hW hS hl r2 r3 r4 r5 rfl hlen,fun hpr=> ?_⟩;simp only[objc];rw[hlen];refine⟨g0,g1,_,Qpq (hW.loc m _ l hS hl).1 r2,?_,?_⟩
   .simp only[ZcI,Qa5,Zaz,Zau,ZaH];omega
   .have h9:=rdr_rows g4 (by rw[ZaH,hvs];omega) hr hL (by omega:a+src.length<=rows.length)
    have:=Qfu hpr.ok k _ _ h9
    simp only[Zds];rw[Qg9 _ _ _ _ (by rw[hvs];omega)];exact this
theorem Qqv{C:Ctx}{S:Env}(hW:Wf C S){X:AV}{v:Value}{m a n T k:Nat}{rows:List (List D)}(hx:Qqa h X=some (m,a,n,T,k,rows))(hu:S.h m=h m)(hc:conc S X v):
 S.h m=some (true,.arr T k rows)/\dstV S m a n k rows v/\X.nms=[m]:=by
 cases X<;>simp only[Qqa,reduceCtorEq] at hx
 case own q=>
  cases hq:h q with
  |none=>rw[hq] at hx;cases hx
  |some e=>
   obtain⟨mu,e⟩:=e;rw[hq] at hx;cases mu<;>cases e<;>simp only[cyDO,reduceCtorEq,Zae,Zbg] at hx;obtain⟨rfl,rfl,rfl,rfl,rfl,rfl⟩:=hx;have hS:=hu.trans hq;refine⟨hS,?_,rfl⟩;simp only[conc] at hc;have hc:=hc.2 _ hS;have hob:=hW.obj _ _ hS;simp only[objc] at hob;unfold dstV;cases hl:S.ρ q with
   |none=>
    rw[hl] at hc hob;exact .inl ⟨hc,hob.2,by rw[hob.2];rfl,rfl⟩
   |some l=>
    rw[hl] at hc;exact .inr ⟨l,l.p,l.cap,rfl,hc,fun _=>by omega,by omega⟩
 case osl q wa wn=>
  cases hq:h q with
  |none=>rw[hq] at hx;cases hx
  |some e=>
   obtain⟨mu,e⟩:=e;rw[hq] at hx;cases mu<;>cases e<;>simp only[cyDW,reduceCtorEq,Zae,Zbg] at hx;obtain⟨rfl,rfl,rfl,rfl,rfl,rfl⟩:=hx;have hS:=hu.trans hq;refine⟨hS,?_,rfl⟩;simp only[conc] at hc;have hc:=hc.2 _ hS;have hob:=hW.obj _ _ hS;simp only[objc] at hob;unfold winV at hc;unfold dstV;cases hl:S.ρ q with
   |none=>
    rw[hl] at hc hob;exact .inl ⟨hc.1,hob.2,hc.2,rfl⟩
   |some l=>
    rw[hl] at hc;obtain⟨p,cp,h1,h2,h3,h4⟩:=hc;exact .inr ⟨l,p,cp,rfl,h1,h3,h4⟩
theorem allD_one{S:Env}: ∀(ds:List D) (vs:List Value),allD ds=true->rdl S.ok S.hp ds vs-> ∀v∈vs,v.oneCell'=true:=by
 intro ds vs h h2;exact Qd9 (S:=S) _ _ (Qsa ds h) ((Qa6 _ _).2 h2)
theorem Qaby{C:Ctx}{S:Env}(hW:Wf C S){X:AV}{v:Value}{u:List Nat}{ks z:Nat}{src:List (List D)}(hx:Qx5 h X=some (u,ks,src))(hu: ∀n∈u,S.h n=h n)(hc:conc S X v)(hz:z≠0)(hk:ks=z\/src=[])(hone:OneR allD src):
 (Builtin.lenOf v).run P S.w= .ok src.length S.w/\ ∀n,n<=src.length-> ∃L,(Builtin.firstCells z n v).run P S.w= .ok L.toArray S.w/\L.length=(src.take n).length*z/\rdr S.ok S.hp z (src.take n) L/\ ∀v∈L,v.oneCell'=true:=by
 have key: ∀(b p cp:Nat) (vs:Array Value) (T:TypeId) (fr:Nat×Nat),v= .slice (some ⟨b,p,none⟩) src.length cp->(src≠[]->S.hp b=some (.cells vs T fr)/\p+src.length*z<=vs.size/\rdr S.ok S.hp z src (vs.toList.drop p))->
  (Builtin.lenOf v).run P S.w= .ok src.length S.w/\ ∀n,n<=src.length-> ∃L,(Builtin.firstCells z n v).run P S.w= .ok L.toArray S.w/\L.length=(src.take n).length*z/\rdr S.ok S.hp z (src.take n) L/\ ∀v∈L,v.oneCell'=true:=by
  rintro b p cp vs T fr rfl h1;refine⟨by simp[Builtin.lenOf],fun n hn=> ?_⟩;by_cases hs:src=[]
  .subst hs;simp only[ZbB,Nat.le_zero_eq] at hn;subst hn;exact⟨[],by simp[Builtin.firstCells,loadCells,loadCellsFrom],by simp,by simp[rdr],by simp⟩
  .obtain⟨g1,g2,g3⟩:=h1 hs;have hnz:n*z<=src.length*z:=Zbm _ hn;have hvs:vs.toList.length=vs.size:=ZaW;have hlt:(src.take n).length=n:=by rw[Zau];omega
   have hr:=Qrl (src.take n) _ (Qgj n _ _ g3) (by rw[hlt,ZaH,hvs];omega);rw[hlt] at hr;refine⟨(vs.toList.drop p).take (n*z),Qef (w:=S.w) g1 (by omega),by rw[hlt,Zau,ZaH,hvs];omega,hr,?_⟩;have hcr:=Qgt _ _ hr
   have:=Qlh _ _ (Qyt (fun x hx=>hone x (Zdh hx))) hcr (by rw[show (imR (src.take n)).length=(src.take n).length by simp[imR],hlt,Zau,ZaH,hvs];omega)
   rw[show (imR (src.take n)).length=(src.take n).length by simp[imR],hlt,ZaL (by rw[Zau];omega)] at this;exact this
 have nil:(∃ao,v= .slice ao 0 0)->src=[]->(Builtin.lenOf v).run P S.w= .ok src.length S.w/\ ∀n,n<=src.length-> ∃L,(Builtin.firstCells z n v).run P S.w= .ok L.toArray S.w/\L.length=(src.take n).length*z/\rdr S.ok S.hp z (src.take n) L/\ ∀v∈L,v.oneCell'=true:=by
  rintro⟨ao,rfl⟩ rfl;refine⟨by simp[Builtin.lenOf],fun n hn=>⟨[],?_,by simp,by simp[rdr],by simp⟩⟩;have hn0:n=0:=by simpa using hn
  subst hn0;cases ao<;>simp[Builtin.firstCells,loadCells,loadCellsFrom]
 cases X<;>simp only[Qx5,reduceCtorEq] at hx
 case im d=>
  cases d<;>simp only[reduceCtorEq,Zae,Zbg] at hx;obtain⟨rfl,rfl,rfl⟩:=hx;simp only[conc,rd] at hc;rcases hc with ⟨h1,h2⟩|⟨b,p,cap,vs,T,fr,h1,_,h2,h3,_,h5,h6⟩
  .exact nil (Qoc h1) h2
  .refine key b p cap vs T fr h1 fun hs=> ?_
   have hkz:=hk.resolve_right hs;subst hkz;have hl:=Qxq _ _ h6 hz;have hvs:vs.toList.length=vs.size:=ZaW;rw[ZaH,hvs] at hl;have hpos:0<_:=Nat.mul_pos (ZcH.2 hs) (Nat.pos_of_ne_zero hz);exact⟨h5,by omega,h6⟩
 case own q=>
  cases hq:h q with
  |none=>rw[hq] at hx;cases hx
  |some e=>
   obtain⟨mu,e⟩:=e;rw[hq] at hx;cases e<;>simp only[cySO,reduceCtorEq,Zae,Zbg] at hx;rename_i T k rows;obtain⟨rfl,rfl,rfl⟩:=hx;have hS:=(hu q (by simp)).trans hq;simp only[conc] at hc;have hc:=hc.2 _ hS;have hob:=hW.obj _ _ hS;simp only[objc] at hob;cases hl:S.ρ q with
   |none=>rw[hl] at hc hob;exact nil ⟨_,hc⟩ hob.2
   |some l=>
    rw[hl] at hc hob;obtain⟨g0,g1,vs,g2,g3,g4⟩:=hob;refine key l.b l.p l.cap vs T (0,0) hc fun hs=> ?_
    have hkz:=hk.resolve_right hs;subst hkz
    have:=Zbm k g1
    exact⟨g2,by omega,g4⟩
 case osl q wa wn=>
  cases hq:h q with
  |none=>rw[hq] at hx;cases hx
  |some e=>
   obtain⟨mu,e⟩:=e;rw[hq] at hx;cases e<;>simp only[cySW,reduceCtorEq,Zae,Zbg] at hx;rename_i T k rows;obtain⟨rfl,rfl,rfl⟩:=hx;have hS:=(hu q (by simp)).trans hq;simp only[conc] at hc;have hc:=hc.2 _ hS;have hob:=hW.obj _ _ hS;simp only[objc] at hob;unfold winV at hc;cases hl:S.ρ q with
   |none=>rw[hl] at hc hob;exact nil ⟨_,hc.1⟩ (by rw[hob.2];simp)
   |some l=>
    rw[hl] at hc hob;obtain⟨g0,g1,vs,g2,g3,g4⟩:=hob;obtain⟨p,cp,q1,q2,q3,q4⟩:=hc;simp only[AObj.esz,AObj.len] at q3 q4;have hlen:((rows.drop wa).take wn).length=wn:=by rw[Zau,ZaH];omega
    refine key l.b p cp vs T (0,0) (by rw[hlen];exact q1) fun hs=> ?_
    have hne:wn≠0:=fun h0=>hs (by rw[h0];simp)
    have hkz:=hk.resolve_right hs;subst hkz;have hp:=q3 hne;subst hp;have h9:=Zbm k (show wa+wn<=l.cap by omega);rw[ZbQ] at h9;refine⟨g2,by rw[hlen];omega,?_⟩
    have:=Qgj wn _ _ (Qih wa _ _ g4)
    rwa [Zbh] at this
theorem cyRows_eq(rows src:List (List D))(a m:Nat)(hm:m<=src.length):Qp0 rows a m src=rows.take a++src.take m++rows.drop (a+(src.take m).length):=by
 unfold Qp0;rw[Zau,show min m src.length=m by omega]
theorem snd_copy{T U:TypeId}{d s:Operand}{c:Call}(ho:o.op= .call c)(hcal:c.callee= .builtin .copy)(hargs:c.args= #[d,s])(hty:c.argTypes= #[T,U])
 (hk:Qax (Qzd P h (evO tm d) (evO tm s) K) (tI P T)):Qbp P tm h nx o K:=by
 have hopd:d∈o.op.operands:=by rw[ho];simp[Op.operands,Call.operands,hargs,hcal]
 have hops':s∈o.op.operands:=by rw[ho];simp[Op.operands,Call.operands,hargs,hcal]
 cases hT:tI P T with
 |none=>rw[hT] at hk;exact hk.elim
 |some ti=>
 rw[hT] at hk;simp only[Qax,Qzd] at hk;cases hf:ti.kind<;>rw[hf] at hk<;>try exact hk.elim
 rename_i e;have hu:=Qdq hT hf;simp only[cyK] at hk;cases hE:tI P e with
 |none=>rw[hE] at hk;exact hk.elim
 |some te=>
 rw[hE] at hk;simp only[Qax] at hk;cases hs:Qx5 h (evO tm s) with
 |none=>rw[hs] at hk;exact hk.elim
 |some q=>
 cases hd:Qqa h (evO tm d) with
 |none=>rw[hs,hd] at hk;exact hk.elim
 |some q'=>
 obtain⟨u,ks,src⟩:=q;obtain⟨m,a,n,T',k,rows⟩:=q';rw[hs,hd] at hk;simp only[cyGo] at hk;obtain⟨hkz,hks,hz,hone,hk⟩:=hk;subst hkz;have hhm:h m≠none:=by
  intro h0;cases hX:evO tm d<;>rw[hX] at hd<;>simp only[Qqa,reduceCtorEq] at hd
  .rename_i q;cases hq:h q with
   |none=>rw[hq] at hd;cases hd
   |some e=>
    obtain⟨mu,e⟩:=e;rw[hq] at hd;cases mu<;>cases e<;>simp only[cyDO,reduceCtorEq,Zae,Zbg] at hd;rw[hd.1,h0] at hq;cases hq
  .rename_i q _ _;cases hq:h q with
   |none=>rw[hq] at hd;cases hd
   |some e=>
    obtain⟨mu,e⟩:=e;rw[hq] at hd;cases mu<;>cases e<;>simp only[cyDW,reduceCtorEq,Zae,Zbg] at hd;rw[hd.1,h0] at hq;cases hq
 refine⟨_,_,OpT.one (u:=m::u) (ks:=[m]) (m:=m) (cnt:=0) (.inr ⟨rfl,by simp,hhm⟩) ?_,hk⟩;intro C S ac hW hu' _ _ hops;have h1:=hops d hopd;have h2:=hops s hops';obtain⟨d1,d2,_⟩:=Qqv hW hd (hu' m (by simp)) h1;obtain⟨s1,s2⟩:=Qaby (P:=P) hW hs (fun x hx=>hu' x (by simp[hx])) h2 hz hks hone;have hmin:min src.length n<=src.length:=Nat.min_le_left _ _;obtain⟨L,l1,l2,l3,l4⟩:=s2 _ hmin;have hlt:(src.take (min src.length n)).length=min src.length n:=by rw[Zau];omega
 have hdv: ∃base dl dc,ac.eval d= .slice base dl dc/\dl=n:=by
  rcases d2 with ⟨e1,_,e2,_⟩|⟨l,p,cp,_,e1,_⟩
  .exact⟨none,0,0,e1,e2.symm⟩
  .exact⟨_,_,_,e1,rfl⟩
 obtain⟨base,dl,dc,hv,rfl⟩:=hdv;rw[hv] at d2;obtain⟨w',w1,w2,w3⟩:=wr_rows (P:=P) hW d1 d2 (src:=src.take (min src.length dl)) (by rw[hlt];exact ZcE _ _) l2 l3 l4;rw[<-cyRows_eq _ _ _ _ hmin] at w2 w3;have hu2:(underlying T).run P S.w= .ok (.slice e) S.w:=by simp[underlying,hu]
 refine⟨.int .i64 (min src.length dl:Nat),w',S.ρ m,.inl ?_,w2,fun hp=>⟨w3 hp,by simp only[conc,rd]⟩⟩;simp only[execOp,ho,resolve,hcal,hargs,hty,Sem.run_bind,Sem.run_pure,Result.andThen_ok,invoke,builtin];cases base with
 |none=>
  simp only[Sem.run_pure,Result.ok.injEq,Zdi] at w1;subst w1;simp[Builtin.copy_,hv,hu2,s1,Qca hE,l1,goInt]
 |some ad=>
  simp only at w1;simp[Builtin.copy_,hv,hu2,s1,Qca hE,l1,goInt,w1]
theorem snd_clear{T:TypeId}{d:Operand}{c:Call}(ho:o.op= .call c)(hcal:c.callee= .builtin .clear)(hargs:c.args= #[d])(hty:c.argTypes= #[T])
 (hk:Qax (Qrt P h (evO tm d) K) (tI P T)):Qbp P tm h nx o K:=by
 have hopd:d∈o.op.operands:=by rw[ho];simp[Op.operands,Call.operands,hargs,hcal]
 cases hT:tI P T with
 |none=>rw[hT] at hk;exact hk.elim
 |some ti=>
 rw[hT] at hk;simp only[Qax,Qrt] at hk;cases hf:ti.kind<;>rw[hf] at hk<;>try exact hk.elim
 rename_i e;have hu:=Qdq hT hf;simp only[clK] at hk;cases hE:tI P e with
 |none=>rw[hE] at hk;exact hk.elim
 |some te=>
 rw[hE] at hk;simp only[Qax] at hk;cases hd:Qqa h (evO tm d) with
 |none=>rw[hd] at hk;exact hk.elim
 |some q'=>
 obtain⟨m,a,n,T',k,rows⟩:=q';rw[hd] at hk;simp only[clGo] at hk;obtain⟨hkz,hz,hzl,hzA,hk⟩:=hk;subst hkz;obtain⟨z,hzr,hzs,hzd⟩:=Qe5 hE hzl hz;have hhm:h m≠none:=by
  intro h0;cases hX:evO tm d<;>rw[hX] at hd<;>simp only[Qqa,reduceCtorEq] at hd
  .rename_i q;cases hq:h q with
   |none=>rw[hq] at hd;cases hd
   |some e=>
    obtain⟨mu,e⟩:=e;rw[hq] at hd;cases mu<;>cases e<;>simp only[cyDO,reduceCtorEq,Zae,Zbg] at hd;rw[hd.1,h0] at hq;cases hq
  .rename_i q _ _;cases hq:h q with
   |none=>rw[hq] at hd;cases hd
   |some e=>
    obtain⟨mu,e⟩:=e;rw[hq] at hd;cases mu<;>cases e<;>simp only[cyDW,reduceCtorEq,Zae,Zbg] at hd;rw[hd.1,h0] at hq;cases hq
 refine⟨_,_,OpT.one (u:=[m]) (ks:=[m]) (m:=m) (cnt:=0) (.inr ⟨rfl,by simp,hhm⟩) ?_,hk⟩;intro C S ac hW hu' _ _ hops;have h1:=hops d hopd;obtain⟨d1,d2,_⟩:=Qqv hW hd (hu' m (by simp)) h1;have hz0:z.cells.toList≠[]:=by
  intro hh
  have:z.cells.size=0:=by rw[<-ZaW,hh];rfl
  omega
 have hzz:(Builtin.zeroCells z.cells n).toList=repZ n z.cells.toList:=by
  unfold Builtin.zeroCells;rw[<-Qrv _ hz0 n,Zcw,Zex,ZaW];apply Zcp;intro i _;exact Qxx _ _
 have hdv: ∃base dl dc,ac.eval d= .slice base dl dc/\dl=n:=by
  rcases d2 with ⟨e1,_,e2,_⟩|⟨l,p,cp,_,e1,_⟩
  .exact⟨none,0,0,e1,e2.symm⟩
  .exact⟨_,_,_,e1,rfl⟩
 obtain⟨base,dl,dc,hv,rfl⟩:=hdv;rw[hv] at d2;have hrl: ∀(n:Nat) (x:List Value),(repZ n x).length=n*x.length:=by
  intro n x;induction n with
  |zero=>simp[repZ]
  |succ n ih=>simp[repZ,ih,Zfb];omega
 have hzc:z.cells.toList.length=te.size:=by rw[ZaW];exact hzs
 have hone: ∀(n:Nat) (x:List Value),(∀v∈x,v.oneCell'=true)-> ∀v∈repZ n x,v.oneCell'=true:=by
  intro n x hx;induction n with
  |zero=>simp[repZ]
  |succ n ih=>
   intro v hv;simp only[repZ,Zan] at hv;rcases hv with hv|hv
   .exact hx v hv
   .exact ih v hv
 have hzo: ∀v∈z.cells.toList,v.oneCell'=true:=allD_one (S:=S) _ _ hzA (hzd _ _);obtain⟨w',w1,w2,w3⟩:=wr_rows (P:=P) hW d1 d2 (src:=List.replicate dl te.zero) (L:=repZ dl z.cells.toList) (by simp) (by rw[hrl,hzc,ZbC]) (by rw[<-hzl];exact Qx7 (hzd _ _) dl dl (Zap _)) (hone _ _ hzo);have he:rows.take a++List.replicate dl te.zero++rows.drop (a+(List.replicate dl te.zero).length)=Qp0 rows a dl (List.replicate dl te.zero):=by
  unfold Qp0;rw[ZbC,ZaL (l:=List.replicate dl te.zero) (by simp)]
 rw[he] at w2 w3;have hu2:(underlying T).run P S.w= .ok (.slice e) S.w:=by simp[underlying,hu]
 refine⟨.tuple #[],w',S.ρ m,.inl ?_,w2,fun hp=>⟨w3 hp,by simp only[conc]⟩⟩;simp only[execOp,ho,resolve,hcal,hargs,hty,Sem.run_bind,Sem.run_pure,Result.andThen_ok,invoke,builtin];cases base with
 |none=>
  simp only[Sem.run_pure,Result.ok.injEq,Zdi] at w1;subst w1;simp[Builtin.clear_,hv,hu2]
 |some ad=>
  simp only at w1;cases dl with
  |zero=>
   simp only[repZ] at w1
   have:w'=S.w:=by
    simp[storeCells] at w1;exact w1.symm
   subst this;simp[Builtin.clear_,hv,hu2]
  |succ n=>
   simp[Builtin.clear_,hv,hu2,hzr,hzz,w1]
end
section
variable {P:Program}{tm:List (Nat×AV)}{h:Nat->Option Ent}{nx:Nat}{o:Oper}{K:Kont}
theorem snd_eqUn{op:BinOp}{T U:TypeId}{x y:Operand}(ho:o.op= .binOp op T x y U)(hy:nilC y=1)(hk:Qax (Qst P h T op (evO tm x) K) (tI P T)):SndOpS P tm h nx o K:=by
 cases hT:tI P T with
 |none=>rw[hT] at hk;exact hk.elim
 |some ti=>
 rw[hT] at hk;simp only[Qax,Qst] at hk;cases hf:ti.kind<;>rw[hf] at hk<;>try exact hk.elim
 rename_i e;have hu:=Qdq hT hf;have hop:op= .eql\/op= .neq:=by cases op<;>first|exact .inl rfl|exact .inr rfl|exact hk.elim
 have hk':Qab2 h (decide (op= .neq)) K (evO tm x):=by rcases hop with rfl|rfl<;>exact hk
 have hyc:y= .const (.slice none 0 0):=by
  cases y with
  |const v=>
   simp only[nilC] at hy;unfold nilV at hy;split at hy<;>first|rfl|cases hy
  |_=>cases hy
 intro C S a next Q hW hh hfr hnm hops hn
 have h1:=hops x (by rw[ho];simp[Op.operands]);have key: ∃base l c E,a.eval x= .slice base l c/\(∀f:Nat->Option Ent,E.appf f=f)/\E.cnt=0/\K (.im (.bool (decide (op= .neq) !=base.isNone))) E:=by
  cases hx:evO tm x<;>rw[hx] at hk' h1<;>simp only[Qab2] at hk'
  case im d=>
   cases d<;>try exact hk'.elim
   rename_i nz k rows;simp only[conc,rd] at h1;rcases h1 with ⟨h1,h2⟩|⟨b,p,cap,vs,T,fr,h1,_⟩
   .rcases h1 with h1|⟨_,ad,h1⟩
    .exact⟨none,0,0,{},h1,fun f=>by funext m;simp[Eff.appf,hget],rfl,hk' true (fun _=>h2)⟩
    .exact⟨some ad,0,0,{},h1,fun f=>by funext m;simp[Eff.appf,hget],rfl,hk' false (fun h=>by cases h)⟩
   .exact⟨_,_,_,{},h1,fun f=>by funext m;simp[Eff.appf,hget],rfl,hk' false (fun h=>by cases h)⟩
  case own n=>
   cases hq:h n with
   |none=>rw[hq] at hk';exact hk'.elim
   |some ent=>
    obtain⟨mu,ent⟩:=ent;rw[hq] at hk';have hS:=(hh n).trans hq;simp only[conc] at h1;have h1:=h1.2 _ hS;have hob:=hW.obj _ _ hS;have main: ∀{α:Type} (rows:List α),(S.ρ n=none->rows=[])->eqUn (decide (op= .neq)) K {use:=[n]} rows-> ∃base l c E,a.eval x= .slice base l c/\(∀f:Nat->Option Ent,E.appf f=f)/\E.cnt=0/\K (.im (.bool (decide (op= .neq) !=base.isNone))) E:=by
     intro α rows hr hk;cases hl:S.ρ n with
     |none=>
      rw[hl] at h1;exact⟨none,0,0,{use:=[n]},h1,Qnd [n],rfl,hk true (fun _=>hr hl)⟩
     |some l=>
      rw[hl] at h1;exact⟨_,_,_,{use:=[n]},h1,Qnd [n],rfl,hk false (fun h=>by cases h)⟩
    cases ent<;>try exact hk'.elim
    .rename_i T k rows;refine main rows (fun hl=> ?_) hk';simp only[objc] at hob;rw[hl] at hob;exact hob.2
    .rename_i T k rows;refine main rows (fun hl=> ?_) hk';simp only[objc] at hob;rw[hl] at hob;exact hob.2
 obtain⟨base,l,c,E,hv,hE,hc,hK⟩:=key;have hey:a.eval y= .slice none 0 0:=by rw[hyc];rfl
 have hq:(Op.equal T (.slice base l c) (.slice none 0 0)).run P S.w= .ok base.isNone S.w:=by rw[Qdw];exact eqn_sl hu _ _ _ _
 have hg:(eqGuard op T x y (.slice base l c) (.slice none 0 0)).run P S.w= .ok () S.w:=by rcases hop with rfl|rfl<;>simp[eqGuard]
 have hb:(binOp op T (.slice base l c) (.slice none 0 0)).run P S.w= .ok (.bool (decide (op= .neq) !=base.isNone)) S.w:=by
  rcases hop with rfl|rfl
  .have:binOp .eql T (.slice base l c) (.slice none 0 0)=(do pure (.bool (<-Op.equal T (.slice base l c) (.slice none 0 0)))):=rfl
   rw[this];simp[hq]
  .have:binOp .neq T (.slice base l c) (.slice none 0 0)=(do pure (.bool (!(<-Op.equal T (.slice base l c) (.slice none 0 0))))):=rfl
   rw[this];simp[hq]
 have hrun:(execOp a.eval o).run P S.w= .ok (.value (.bool (decide (op= .neq) !=base.isNone))) S.w:=by
  simp only[execOp,ho,hv,hey,Sem.run_bind,hg,Result.andThen_ok,hb,Sem.run_pure]
 unfold Oper.wp;rw[hrun,Oper.upon_value];exact hn _ E _ S hK hW (hE S.h).symm (Pres.refl _ _) (by simp only[conc,rd])
theorem Qpi{T e:TypeId}(hc:Qp9 P T=some e): ∃d,P.underlying T=some (.chan d e):=by
 unfold Qp9 at hc;split at hc
 .rename_i d e' hu;cases hc;exact⟨d,hu⟩
 .cases hc
theorem Qvf{T:TypeId}{x:Operand}(ho:o.op= .makeChan T x)(hk:Qi6 P nx (evO tm x) K T):Qbp P tm h nx o K:=by
 unfold Qi6 at hk;cases hc:Qp9 P T with
 |none=>rw[hc] at hk;exact hk.elim
 |some e=>
 rw[hc] at hk;simp only[mcK] at hk;obtain⟨dr,hu⟩:=Qpi hc;have key: ∃n,evO tm x= .im (.int .i64 n)/\Qax (mcE nx n K) (tI P e):=by
  revert hk;generalize evO tm x=X;intro hk;cases X<;>try exact hk.elim
  rename_i d;cases d<;>try exact hk.elim
  rename_i k n;cases k<;>try exact hk.elim
  exact⟨n,rfl,hk⟩
 obtain⟨n,hx,hk⟩:=key;cases hE:tI P e with
 |none=>rw[hE] at hk;exact hk.elim
 |some te=>
 rw[hE] at hk;simp only[Qax,mcE] at hk;obtain⟨h0,hn,hby,hk⟩:=hk;obtain⟨i,u,hi,hu',hi1,hi2,_⟩:=Qej hE;refine⟨_,_,OpT.one (u:=[]) (ks:=[]) (.inl ⟨rfl,rfl⟩) ?_,hk⟩;intro C S a hW _ hfr hnms hops;have h1:=hops x (by rw[ho];simp[Op.operands]);rw[hx] at h1;simp only[conc,rd] at h1;have hrun:(execOp a.eval o).run P S.w= .ok (.value (.chan (some S.w.heap.size))) {S.w with heap:=S.w.heap.push (.chan n.toNat #[] false 0 0 false)}:=by
  have hti: ∀w,(typeInfo e).run P w= .ok i w:=fun w=>by simp[typeInfo,hi]
  have hbm:(i.bytes:Int)*n<=2^48 - 112:=by
   rw[<-hi2];have h3:(te.bytes:Int)*n<=65536*n:=ZdZ (by omega) h0;omega
  have hu2:(underlying T).run P S.w= .ok (.chan dr e) S.w:=by simp[underlying,hu]
  have hno: ¬(n<0\/n>IntKind.i64.max\/(i.bytes:Int)*n>2^48 - 112):=by
   have:IntKind.i64.max=9223372036854775807:=by decide
   omega
  simp only[execOp,ho,h1,Instr.makeChan,Sem.run_bind,asInt,asIntOf,Sem.run_pure,Result.andThen_ok,hu2,hti];simp[hno];intro h9;exfalso;omega
 refine⟨_,_,some ⟨S.w.heap.size,0,0⟩,.inl hrun,Qg3 (w':={S.w with heap:=S.w.heap.push (.chan n.toNat #[] false 0 0 false)}) rfl rfl rfl rfl (hfr rfl) (fun n f hf=>hnms n f hf rfl),?_⟩;intro hp;constructor
 .simp only[objc];exact⟨_,#[],0,0,rfl,Qny rfl,by simp[rdl]⟩
 .simp only[conc];exact⟨rfl,fun e' he'=>⟨⟨S.w.heap.size,0,0⟩,by simp[Env.one],rfl⟩⟩
theorem snd_lenCh{T:TypeId}{x:Operand}{c:Call}{q:Nat}(ho:o.op= .call c)(hcal:c.callee= .builtin .len)(hargs:c.args= #[x])(hty:c.argTypes= #[T])(hx:evO tm x= .ch q)
 (hk:lnCh q h K (Qp9 P T)):Qbp P tm h nx o K:=by
 cases hc:Qp9 P T with
 |none=>rw[hc] at hk;exact hk.elim
 |some e=>
 rw[hc] at hk;simp only[lnCh] at hk;obtain⟨dr,hu⟩:=Qpi hc;cases hq:h q with
 |none=>rw[hq] at hk;exact hk.elim
 |some ent=>
 obtain⟨mu,ent⟩:=ent;rw[hq] at hk;cases ent<;>try exact hk.elim
 refine Qmi (u:=[q]) ho hcal hargs hty ?_ hk;intro C S v hW hu' hcv;rw[hx] at hcv;simp only[conc] at hcv;have hS:=(hu' q (by simp)).trans hq;obtain⟨l,hl,rfl⟩:=hcv.2 _ hS;have hob:=hW.obj _ _ hS;simp only[objc] at hob;obtain⟨lc,buf,sent,rcvd,h1,h2,h3⟩:=hob;rw[hl] at h1;obtain rfl:=Zac h1;have hlen:=Qjo _ _ h3;simp only[ZaW] at hlen;rename_i q0 cap0;have hg:(getObj l.b).run P S.w= .ok (.chan cap0 buf false sent rcvd false) S.w:=by simp[getObj,Sem.run,show S.w.heap[l.b]? =_ from h2]
 have hu2:(underlying T).run P S.w= .ok (.chan dr e) S.w:=by simp[underlying,hu]
 simp[Builtin.len_,hu2,hg,goInt,hlen]
theorem snd_range{T:TypeId}{x:Operand}(hD: ∀(tk te:TypeId) (kt:KT) (es:List (D×D)),P.underlying T=some (.map tk te)->evO tm x= .im (.mp kt es)->K (.it nx) {new:=[(nx,(true,.iter none es))],cnt:=1}->Qbp P tm h nx o K)(ho:o.op= .range T x)(hk:Qax (Qsh h nx (evO tm x) K) (tI P T)):Qbp P tm h nx o K:=by
 cases hT:tI P T with
 |none=>rw[hT] at hk;exact hk.elim
 |some ti=>
 rw[hT] at hk;simp only[Qax,Qsh] at hk;cases hf:ti.kind<;>rw[hf] at hk<;>try exact hk.elim
 rename_i tk te;have hu:=Qqw hT hf;simp only[rgK] at hk;cases hx:evO tm x<;>rw[hx] at hk<;>try exact hk.elim
 case im d=>
  cases d<;>try exact hk.elim
  exact hD _ _ _ _ hu hx hk
 rename_i q;simp only[rgM] at hk;cases hq:h q with
 |none=>rw[hq] at hk;exact hk.elim
 |some ent=>
 obtain⟨mu,ent⟩:=ent;rw[hq] at hk;cases ent<;>try exact hk.elim
 rename_i kt es;simp only[rgObj] at hk;refine⟨_,_,?_,hk⟩;intro C S a next Q hW hu' hfr hnm hops hn
 have h1:=hops x (by rw[ho];simp[Op.operands]);rw[hx] at h1;simp only[conc] at h1;have hS:=(hu' q (by simp)).trans hq;obtain⟨l,hl,hv⟩:=h1.2 _ hS;have hob:=hW.obj _ _ hS;simp only[objc] at hob;obtain⟨lc,ents,clock,g1,g2,g3,g4,g5,g6⟩:=hob;rw[hl] at g1;obtain rfl:=Zac g1;have hnx:=hfr nx ⟨Zap _,by show nx<nx+1;omega⟩;have hqn:q≠nx:=fun h'=>by subst h';rw[hS] at hnx;cases hnx
 let X:Nat->Bool:=fun n=> !(n==q)
 have hXq:X q=false:=by simp[X]
 have hWi:Wf C (S.ice X):=Qje hW;have hSi:(S.ice X).h q=some (false,.map kt es):=by simp[Env.ice,hS,hXq]
 have hoki:(S.ice X).ok l.b:=Qqe hW hXq hSi rfl hl;have hnxi:(S.ice X).h nx=none:=by simp[Env.ice,hnx]
 let w':World:={S.w with heap:=S.w.heap.push (.mapIter (some l.b) clock #[] clock)}
 have hg:(getObj l.b).run P S.w= .ok (.map ents clock) S.w:=Qcc (w:=S.w) g3;have hu2:(underlying T).run P S.w= .ok (.map tk te) S.w:=by simp[underlying,hu]
 have hrun:(execOp a.eval o).run P S.w= .ok (.value (.pointer (some ⟨S.w.heap.size,0,none⟩))) w':=by
  simp only[execOp,ho,hv,Instr.range,Sem.run_bind,hu2,Result.andThen_ok,hg,Sem.run_pure];simp[w']
 have hone:Qjb (S.ice X) nx (.iter none es) (some ⟨S.w.heap.size,0,0⟩) [] w':=Qg3 (S:=S.ice X) (w':=w') rfl rfl rfl rfl hnxi (by
  intro n f hf hin;obtain⟨e,he,rfl⟩:=Qec hf;exact hnm n e he nx hin ⟨Zap _,by show nx<nx+1;omega⟩)
 have hp:=Qg2 hWi hone;have hb:=hW.oks;have hlb:l.b<S.w.heap.size:=(hW.loc q _ l hS hl).1;have hobj:objc ((S.ice X).one nx (.iter none es) (some ⟨S.w.heap.size,0,0⟩) [] w') (some ⟨S.w.heap.size,0,0⟩) (.iter none es):=by
  simp only[objc];obtain⟨p1,p2⟩:=hp.ok l.b hoki;refine⟨_,l.b,ents,clock,#[],rfl,p1,trivial,p2.trans g3,?_,g5,g6,?_⟩
  .have:=Qny (S:=S.ice X) (nx:=nx) (e:= .iter none es) (l:=some ⟨S.w.heap.size,0,0⟩) (ks:=[]) (w':=w') (ob:= .mapIter (some l.b) clock #[] clock) rfl
   exact this
  .have h9:ents.toList.filter (fun e=> !(#[]:Array Nat).contains e.born)=ents.toList:=by
    rw[ZdF];intro e _;simp
   rw[h9];exact Qc6 hp.ok _ _ (Qc6 (Qb0 S X).ok _ _ g4)
 have hW':=Qqp hWi hone hobj;unfold Oper.wp;rw[hrun,Oper.upon_value];refine hn _ _ hW' ?_ ?_ ?_
 .funext n;simp only[Env.one,Eff.appf,hget];by_cases hn1:n=nx
  .subst hn1;simp
  .have e1:(nx==n)=false:=by rw[Zbs];exact fun h=>hn1 h.symm
   rw[Zaj hn1,e1];by_cases hn2:n=q
   .subst hn2;simp[hSi]
   .have e2:(q==n)=false:=by rw[Zbs];exact fun h=>hn2 h.symm
    have e3:X n=true:=by simp[X,hn2]
    simp only[e2,Zca,Zby,ZaS]
    have:([q]:List Nat).contains n=false:=by simp[hn2]
    rw[this];simp only[Env.ice,e3,ZaX,ZaS];cases S.h n<;>rfl
 .have q1:=Qb0 S X;refine⟨fun b hb=> ?_,fun n hX e' he'=> ?_⟩
  .obtain⟨r1,r2⟩:=q1.ok b hb;obtain⟨r3,r4⟩:=hp.ok b r1;exact⟨r3,r4.trans r2⟩
  .obtain⟨e,r1,r2,r3,r4⟩:=hp.nm n (.inr (fun h'=>hX ⟨by omega,by show n<nx+1;omega⟩)) e' he';obtain⟨e0,s1,s2,s3,s4⟩:=q1.nm n trivial e r1;exact⟨e0,s1,r2.trans s2,r3.trans s3,r4.trans s4⟩
 .simp only[conc];exact⟨rfl,fun e' he'=>⟨⟨S.w.heap.size,0,0⟩,by simp[Env.one],rfl⟩⟩
theorem snd_entry{x:Operand}(ho:o.op= .entry x)(hk:Qsz h K (evO tm x)):Qbp P tm h nx o K:=by
 cases hx:evO tm x<;>rw[hx] at hk<;>try exact hk.elim
 rename_i q;simp only[Qsz] at hk;cases hq:h q with
 |none=>rw[hq] at hk;exact hk.elim
 |some ent=>
 obtain⟨mu,ent⟩:=ent;rw[hq] at hk;cases mu<;>cases ent<;>try exact hk.elim
 rename_i last left;cases last with
 |none=>exact hk.elim
 |some p=>
 simp only[enObj] at hk;refine⟨_,_,OpT.pure (u:=[q]) ?_,hk⟩;intro C S a hW hu' hops;have h1:=hops x (by rw[ho];simp[Op.operands]);rw[hx] at h1;simp only[conc] at h1;have hS:=(hu' q (by simp)).trans hq;obtain⟨l,hl,hv⟩:=h1.2 _ hS;have hob:=hW.obj _ _ hS;simp only[objc] at hob;obtain⟨lc,mb,ents,clock,seen,g1,g2,⟨st,e,k1,k2,k3,k4⟩,g3,g4,g5,g6,g7⟩:=hob;rw[hl] at g1;obtain rfl:=Zac g1;refine⟨.tuple #[e.key,e.val],?_,by simp only[conc,rd];exact⟨_,rfl,by simp only[rdl];exact⟨_,_,rfl,k3,_,_,rfl,k4,rfl⟩⟩⟩;have hgi:(getObj l.b).run P S.w= .ok (.mapIter (some mb) clock seen clock) S.w:=by simp[getObj,Sem.run,show S.w.heap[l.b]? =_ from g4]
 have hgm:(getObj mb).run P S.w= .ok (.map ents clock) S.w:=Qcc (w:=S.w) g3;simp only[execOp,ho,hv,Instr.entry,Sem.run_bind,hgi,Result.andThen_ok,k1,hgm];simp[k2]
theorem rde_at{ok:Nat->Prop}{hp:Nat->Option Obj}: ∀(ds:List (D×D)) (es:List MapEntry) (i:Nat) (e:MapEntry),rde ok hp ds es->es[i]? =some e-> ∃p,ds[i]? =some p/\rd ok hp p.1 e.key/\rd ok hp p.2 e.val
 |[],es,i,e,h,he=>by simp only[rde] at h;subst h;simp at he
 |(x,y)::ds,es,i,e,h,he=>by
  simp only[rde] at h;obtain⟨e',r,rfl,h1,h2,h3⟩:=h;cases i with
  |zero=>
   simp only[ZaV,Zae] at he;subst he;exact⟨(x,y),rfl,h1,h2⟩
  |succ i=>
   simp only[Zba] at he⊢;exact rde_at ds r i e h3 he
theorem Qjl{seen:Array Nat}{b:Nat}: ∀(l:List MapEntry) (i:Nat) (e:MapEntry),(l.map (·.born)).Nodup->(l.filter fun e=> !seen.contains e.born)[i]? =some e->e.born=b->
 (l.filter fun e=> !(seen.push b).contains e.born)=(l.filter fun e=> !seen.contains e.born).eraseIdx i
 |[],i,e,_,h,_=>by simp at h
 |x::r,i,e,hnd,h,hb=>by
  simp only[Zaq,Zcq] at hnd;have hpush: ∀n,(seen.push b).contains n=(seen.contains n||n==b):=by
   intro n;rw[ZcN];simp only[Array.contains_iff_mem,Array.mem_push,ZbX,Zdv]
  cases hx:seen.contains x.born with
  |true=>
   have e1:(!seen.contains x.born)=false:=by rw[hx];rfl
   have e2:(!(seen.push b).contains x.born)=false:=by rw[hpush,hx];rfl
   rw[ZcW (p:=fun (e:MapEntry)=> !(seen.push b).contains e.born) (by rw[e2];simp),ZcW (p:=fun (e:MapEntry)=> !seen.contains e.born) (by rw[e1];simp)];rw[ZcW (p:=fun (e:MapEntry)=> !seen.contains e.born) (by rw[e1];simp)] at h;exact Qjl r i e hnd.2 h hb
  |false=>
   have e1:(!seen.contains x.born)=true:=by rw[hx];rfl
   rw[ZeK (p:=fun (e:MapEntry)=> !seen.contains e.born) (by exact e1)] at h⊢;cases i with
   |zero=>
    simp only[ZaV,Zae] at h;subst h;have e2:(!(seen.push b).contains x.born)=false:=by rw[hpush,hb];simp
    rw[ZcW (by rw[e2];simp),ZeJ];apply List.filter_congr;intro y hy
    have:(y.born==b)=false:=by
     rw[Zbs,<-hb];intro h9;exact hnd.1 (ZaJ.2 ⟨y,hy,h9⟩)
    rw[hpush,this,ZcK]
   |succ i=>
    simp only[Zba] at h;have hne:(x.born==b)=false:=by
     rw[Zbs];intro h9;have hm:e∈r.filter fun e=> !seen.contains e.born:=Zaf h
     exact hnd.1 (ZaJ.2 ⟨e,(Zdr.1 hm).1,by rw[hb,h9]⟩)
    have e2:(!(seen.push b).contains x.born)=true:=by rw[hpush,hx,hne];rfl
    rw[ZeK (p:=fun (e:MapEntry)=> !(seen.push b).contains e.born) (by exact e2),Zdm,Qjl r i e hnd.2 h hb]
theorem Qvh: ∀(l:List MapEntry) (e:MapEntry),(l.map (·.born)).Nodup->e∈l->l.find? (fun x=>x.born==e.born)=some e
 |[],e,_,h=>by cases h
 |x::r,e,hnd,h=>by
  simp only[Zaq,Zcq] at hnd;rcases Zaw.1 h with rfl|h
  .simp
  .have hne:(x.born==e.born)=false:=by
    rw[Zbs];intro h9;exact hnd.1 (ZaJ.2 ⟨e,h,h9.symm⟩)
   rw[Zem,hne];exact Qvh r e hnd.2 h
theorem snd_next{x:Operand}(ho:o.op= .next x false)(hk:Qaab h K (evO tm x)):SndOpS P tm h nx o K:=by
 cases hx:evO tm x<;>rw[hx] at hk<;>try exact hk.elim
 rename_i q;simp only[Qaab] at hk;cases hq:h q with
 |none=>rw[hq] at hk;exact hk.elim
 |some ent=>
 obtain⟨mu,ent⟩:=ent;rw[hq] at hk;cases mu<;>cases ent<;>try exact hk.elim
 rename_i last left;simp only[nxObj] at hk;obtain⟨hk0,hk1⟩:=hk;intro C S a next Q hW hh hfr hnm hops hn
 have h1:=hops x (by rw[ho];simp[Op.operands]);rw[hx] at h1;simp only[conc] at h1;have hS:=(hh q).trans hq;obtain⟨l,hl,hv⟩:=h1.2 _ hS;have hob:=hW.obj _ _ hS;simp only[objc] at hob;obtain⟨lc,mb,ents,clock,seen,g1,g2,g0,g3,g4,g5,g6,g7⟩:=hob;rw[hl] at g1;obtain rfl:=Zac g1;have hgi:(getObj l.b).run P S.w= .ok (.mapIter (some mb) clock seen clock) S.w:=by simp[getObj,Sem.run,show S.w.heap[l.b]? =_ from g4]
 have hgm:(getObj mb).run P S.w= .ok (.map ents clock) S.w:=Qcc (w:=S.w) g3;have hbad:(!seen.isEmpty && !ents.isEmpty && ents.all fun e=>decide (e.born≥clock))=false:=by
  cases he:ents.isEmpty with
  |true=>simp
  |false=>
   have hne:ents.toList≠[]:=by
    intro h9
    have:ents= #[]:=ZcU.1 (by simpa using h9)
    rw[this] at he;simp at he
   obtain⟨e,r,hc⟩:=Zet hne;have hm:e∈ents:=by rw[<-Array.mem_toList_iff,hc];simp
   have hlt:=g6 e (by rw[hc];simp)
   have:(ents.all fun e=>decide (e.born≥clock))=false:=by
    rw[Zcg];intro h9;rw[Array.all_eq_true'] at h9
    have:=h9 e hm
    simp only[Zar] at this;omega
   rw[this];simp
 let F:Array MapEntry:=ents.filter fun e=> !seen.contains e.born
 have hF:F.toList=ents.toList.filter fun e=> !seen.contains e.born:=by simp[F]
 have hold:(F.filter fun e=>decide (e.born<clock))=F:=by
  apply Array.filter_eq_self.2;intro e he
  have:e∈ents.toList:=by
   have:e∈F.toList:=by simpa using he
   rw[hF] at this;exact (Zdr.1 this).1
  simpa using g6 e this
 have hnew:(F.filter fun e=>decide (e.born≥clock))= #[]:=by
  apply Array.filter_eq_empty_iff.2;intro e he
  have:e∈ents.toList:=by
   have:e∈F.toList:=by simpa using he
   rw[hF] at this;exact (Zdr.1 this).1
  have:=g6 e this
  simp;omega
 unfold Oper.wp;have hexec:(execOp a.eval o).run P S.w=((Instr.next (.pointer (some ⟨l.b,0,none⟩)) false o.type).run P S.w).andThen fun v w=> .ok (.value v) w:=by
  simp only[execOp,ho,hv,Sem.run_bind,Sem.run_pure]
 obtain⟨ms,hnx⟩: ∃ms,(Instr.next (.pointer (some ⟨l.b,0,none⟩)) false o.type).run P S.w=
  ((choose (.mapNext ((if F.isEmpty then #[none] else #[])++F.map some).size)).run P S.w).andThen fun i w1=>
    (match ((if F.isEmpty then #[none] else #[])++F.map some)[i]? with
     |some (some e)=>(do setObj l.b (.mapIter (some mb) clock (seen.push e.born) clock);pure (.tuple #[.bool true,e.key,e.val]):Sem Value)
     |some none=>pure (.tuple #[.bool false])
     |none=>stuck ms).run P w1:=by
  apply Exists.intro;have e1:(ents.filter fun e=> !seen.contains e.born)=F:=rfl;simp only[Instr.next,Sem.run_bind,hgi,Result.andThen_ok,hgm,hbad,ZaB,Zby,e1,hold,hnew,Array.append_empty];congr 1
 rw[hexec,hnx];by_cases hFe:F.isEmpty=true
 .have hF0:F= #[]:=by simpa using hFe
  have hl0:left=[]:=by
   rw[<-hF,hF0] at g7;cases left with
   |nil=>rfl
   |cons p r=>
    obtain⟨x0,y0⟩:=p;simp only[rde] at g7;obtain⟨e,r',h9,_⟩:=g7;simp at h9
  rw[hF0];simp only[Array.isEmpty_empty,ZaQ,Array.map_empty,Array.append_empty,run_choose,Question.forced];simp only[ZcI,ZaE,ZbB,ZbR,Zap,decide_true,ZaQ,Result.andThen_ok];simp only[Zdp,ZaV,Sem.run_pure,Result.andThen_ok,Oper.upon_value];exact hn _ _ _ S (hk0 hl0) hW (Qnd [q] S.h).symm (Pres.refl _ _) (by simp only[conc,Qa0,rd];exact⟨_,rfl,_,_,rfl,rfl,rfl⟩)
 .have hFf:F.isEmpty=false:=by simpa using hFe
  rw[hFf];simp only[ZaB,Zby,Array.empty_append,Array.size_map];have hpos:0<F.size:=by
   rcases Zdg F.size with h9|h9
   .exact absurd (by simpa using Array.eq_empty_of_size_eq_zero h9) hFe
   .exact h9
  have hch: ∃i w1,(choose (.mapNext F.size)).run P S.w= .ok i w1/\i<F.size/\w1.heap=S.w.heap/\w1.os=S.w.os/\w1.tape=S.w.tape/\w1.output=S.w.output:=by
   rw[run_choose];split
   .exact⟨0,S.w,rfl,hpos,rfl,rfl,rfl,rfl⟩
   .exact⟨_,_,rfl,Nat.mod_lt _ hpos,rfl,rfl,rfl,rfl⟩
  obtain⟨i,w1,hc1,hi,hw1,hw2,hw3,hw4⟩:=hch;rw[hc1];simp only[Result.andThen_ok];have hget:(F.map some)[i]? =some (some F[i]):=by simp[hi]
  rw[hget];simp only[Sem.run_bind,Sem.run_pure];have hgi1:w1.heap[l.b]? =some (.mapIter (some mb) clock seen clock):=by rw[hw1];exact g4
  have hset:(setObj l.b (.mapIter (some mb) clock (seen.push F[i].born) clock)).run P w1= .ok () {w1 with heap:=w1.heap.setIfInBounds l.b (.mapIter (some mb) clock (seen.push F[i].born) clock)}:=by
   simp[setObj,Sem.run,hgi1]
  rw[hset];simp only[Result.andThen_ok,Oper.upon_value];have hFi:F.toList[i]? =some F[i]:=by simp[hi]
  rw[hF] at hFi;obtain⟨p,hp1,hp2,hp3⟩:=rde_at left _ i F[i] g7 hFi
  let w':World:={w1 with heap:=w1.heap.setIfInBounds l.b (.mapIter (some mb) clock (seen.push F[i].born) clock)}
  have hone:Qjb S q (.iter (some p) (left.eraseIdx i)) (some l) [q] w':=Qjw hW hS hl (w':=w') (ob:= .mapIter (some mb) clock (seen.push F[i].born) clock) (by simp[w',hw1]) hw2 hw3 hw4 rfl rfl;have hpr:=Qg2 hW hone;have hobj:objc (S.one q (.iter (some p) (left.eraseIdx i)) (some l) [q] w') (some l) (.iter (some p) (left.eraseIdx i)):=by
   simp only[objc];obtain⟨p1,p2⟩:=hpr.ok mb g2;have hmem:F[i]∈ents.toList:=(Zdr.1 (Zaf hFi)).1;refine⟨l,mb,ents,clock,seen.push F[i].born,rfl,p1,⟨F[i].born,F[i],by simp,?_,Qb8 hpr.ok _ _ hp2,Qb8 hpr.ok _ _ hp3⟩,p2.trans g3,?_,g5,g6,?_⟩
   .have:=Qvh ents.toList F[i] g5 hmem
    rw[<-Array.find?_toList];exact this
   .exact Qpq (hW.loc q _ l hS hl).1 (by simp[w',hw1])
   .rw[Qjl ents.toList i F[i] g5 hFi rfl];exact Qc6 hpr.ok _ _ (Qpa i left _ g7)
  have hW':=Qqp hW hone hobj;refine hn _ _ _ _ (hk1 i p hp1) hW' ?_ ?_ ?_
  .funext n;simp only[Env.one,Eff.appf,Go.Ae.hget];by_cases hn1:n=q
   .subst hn1;simp
   .have:(q==n)=false:=by rw[Zbs];exact fun h=>hn1 h.symm
    simp[this,hn1]
  .exact⟨hpr.ok,fun n hX=>hpr.nm n (.inl (by rw[hS];simp))⟩
  .simp only[conc,Qa0,rd];refine⟨_,rfl,_,_,rfl,rfl,_,_,rfl,Qb8 hpr.ok _ _ hp2,_,_,rfl,Qb8 hpr.ok _ _ hp3,rfl⟩
end
section
variable {P:Program}{tm:List (Nat×AV)}{h:Nat->Option Ent}{nx:Nat}{o:Oper}{K:Kont}
theorem Qr9{T:TypeId}{m k v:Operand}(ho:o.op= .mapUpdate T m k v\/o.op= .insert T m k v)(hk:Qax (Qfc P h K (evO tm m) (evO tm k) (evO tm v)) (tI P T)):Qbp P tm h nx o K:=by
 cases hT:tI P T with
 |none=>rw[hT] at hk;exact hk.elim
 |some ti=>
 rw[hT] at hk;simp only[Qax,Qfc] at hk;cases hm:evO tm m<;>rw[hm] at hk<;>try exact hk.elim
 rename_i q;cases hkd:evO tm k<;>rw[hkd] at hk<;>try exact hk.elim
 rename_i kd;cases hvd:evO tm v<;>rw[hvd] at hk<;>try exact hk.elim
 .exact Qjd ho hT hm hkd hvd hk
 rename_i n;simp only at hk;cases hn:h n with
 |none=>rw[hn] at hk;exact hk.elim
 |some ent=>
 obtain⟨mu,ent⟩:=ent;rw[hn] at hk;cases ent<;>try exact hk.elim
 rename_i U w rows;simp only[muOwn] at hk;obtain⟨hqn,hk⟩:=hk;have hqn:q≠n:=by simpa using hqn
 cases v with
 |tmp t=>
  let d:D:= .sl false w rows
  let tm':List (Nat×AV):=(t,.im d)::tm
  let h':Nat->Option Ent:=fun i=>if i=n then some (false,.arr U w rows) else h i
  have hev: ∀x:Operand,(∀y,evO tm x=y->y≠ .own n)->evO tm' x=evO tm x:=by
   intro x hx;cases x with
   |tmp u=>
    simp only[evO,tm',tget];by_cases hu:t=u
    .subst hu;simp only[evO] at hvd hx;exact absurd rfl (hx _ hvd)
    .have:(t==u)=false:=by simpa using hu
     rw[this];rfl
   |_=>rfl
  have hm':evO tm' m= .mp q:=by rw[hev m (fun y hy=>by rw[<-hy,hm];simp)];exact hm
  have hk':evO tm' k= .im kd:=by rw[hev k (fun y hy=>by rw[<-hy,hkd];simp)];exact hkd
  have hv':evO tm' (.tmp t)= .im d:=by simp[evO,tm',tget]
  have hmk:muK P h' q kd d (muF n (.arr U w rows) K) ti.kind:=by
   cases hf:ti.kind<;>rw[hf] at hk<;>try exact hk.elim
   rename_i a1 a2;simp only[muK] at hk⊢;have hq:h' q=h q:=by simp[h',hqn]
   cases hkt:keyT P a1 with
   |none=>rw[hkt] at hk;exact hk.elim
   |some kt=>
    rw[hkt] at hk;simp only[muKt] at hk⊢;rw[hq];exact hk
  obtain⟨r,E,hop,hK⟩:=Qjd (P:=P) (tm:=tm') (h:=h') (nx:=nx) (K:=muF n (.arr U w rows) K) ho hT hm' hk' hv' hmk;obtain⟨hkl,hK⟩:=hK;refine⟨r,_,?_,hK⟩;intro C S a next Q hW hu hfr hnm hops hnx
  let X:Nat->Bool:=fun i=> !(i==n)
  have hXn:X n=false:=by simp[X]
  have hXo: ∀i,i≠n->X i=true:=fun i hi=>by simp[X,hi]
  have hSn:S.h n=some (mu,.arr U w rows):=(hu n (by simp)).trans hn;have hio: ∀i,i≠n->(S.ice X).h i=S.h i:=by
   intro i hi;simp only[Env.ice,hXo i hi,ZaX];cases S.h i<;>rfl
  have hin:(S.ice X).h n=some (false,.arr U w rows):=by simp[Env.ice,hSn,hXn]
  have hWi:Wf C (S.ice X):=Qje hW;refine hop C (S.ice X) a next Q hWi ?_ ?_ ?_ ?_ ?_
  .intro i hi;by_cases h1:i=n
   .subst h1;simp[h',hin]
   .rw[hio i h1,hu i (by simp only[Zan,Zaw] at hi⊢;rcases hi with hi|hi;exact .inl (.inr hi);exact .inr (.inr hi))];simp[h',h1]
  .intro i hi
   have:=hfr i hi
   simp[Env.ice,this]
  .intro i e he x hx hf;obtain⟨e0,h1,rfl⟩:=Qec he;exact hnm i e0 h1 x hx hf
  .intro x hx;have hx3:x=m\/x=k\/x= .tmp t:=by rcases ho with ho|ho<;>rw[ho] at hx<;>simpa[Op.operands] using hx
   have hpr:=Qb0 S X;have hold:=hops x (by rcases ho with ho|ho<;>rw[ho]<;>simpa[Op.operands] using hx3);by_cases hxt:x= .tmp t
   .subst hxt;rw[hv'];rw[hvd] at hold;have h1:=Qbt hpr _ _ (fun _ _=>trivial) hold;simp only[conc] at h1⊢;have h2:=h1.2 _ hin;have hob:=hWi.obj n _ hin;have hρ:(S.ice X).ρ n=S.ρ n:=rfl;simp only[objc] at hob;simp only[d,rd];cases hl:S.ρ n with
    |none=>
     rw[hρ,hl] at h2 hob;exact .inl ⟨.inl h2,hob.2⟩
    |some l=>
     rw[hρ,hl] at h2 hob;obtain⟨g0,g1,vs,g2,g3,g4⟩:=hob;refine .inr ⟨l.b,l.p,l.cap,vs,U,(0,0),h2,by simp,g1,g0,Qqe hW hXn hin rfl (by rw[hρ];exact hl),g2,g4⟩
   .rw[hev x ?_]
    .exact Qbt hpr _ _ (fun _ _=>trivial) hold
    .intro y hy hyn;rcases hx3 with rfl|rfl|rfl
     .rw[hm] at hy;rw[<-hy] at hyn;cases hyn
     .rw[hkd] at hy;rw[<-hy] at hyn;cases hyn
     .exact hxt rfl
  .intro v S' hW' hh hp hc;refine hnx v S' hW' ?_ ?_ hc
   .rw[hh];funext i;simp only[Eff.appf];have happ:hget (E.new++[(n,(false,AObj.arr U w rows))]) i=match hget E.new i with|some e=>some e|none=>if n=i then some (false,AObj.arr U w rows) else none:=by
     generalize E.new=L;induction L with
     |nil=>
      simp only[Zbi,hget];by_cases h1:n=i
      .subst h1;simp
      .have:(n==i)=false:=by simpa using h1
       simp[this,h1]
     |cons p L ih=>
      obtain⟨j,e⟩:=p;simp only[ZaA,hget];cases hj:j==i
      .simpa using ih
      .simp
    rw[happ];cases hg:hget E.new i with
    |some e=>rfl
    |none=>
     simp only;by_cases h1:n=i
     .subst h1;rw[Zao rfl,hkl,hin];rfl
     .have h2:i≠n:=fun h=>h1 h.symm
      rw[Zaj h1,hio i h2];have h3:(n::E.kill).contains i=E.kill.contains i:=by simp[h2]
      rw[h3]
   .have q1:=Qb0 S X;refine⟨fun b hb=> ?_,fun i hX e' he'=> ?_⟩
    .obtain⟨r1,r2⟩:=q1.ok b hb;obtain⟨r3,r4⟩:=hp.ok b r1;exact⟨r3,r4.trans r2⟩
    .obtain⟨e,r1,r2,r3,r4⟩:=hp.nm i hX e' he';obtain⟨e0,s1,s2,s3,s4⟩:=q1.nm i trivial e r1;exact⟨e0,s1,r2.trans s2,r3.trans s3,r4.trans s4⟩
 |const c=>exfalso;simp only[evO] at hvd;unfold kD at hvd;split at hvd<;>cases hvd
 |global g=>simp only[evO] at hvd;cases hvd
 |func f=>exfalso;simp only[evO] at hvd;cases hb:Nat.blt f 1000000000<;>rw[hb] at hvd<;>cases hvd
end
end Go.Ae
