/- What is proved: the law FnExactIsOrder returns true for every input, and each argument reads afterwards as it read before. Conditions: none. -/
import Derived.Test.YtndncbalahbmnaaGreatP02
import Derived.Laws.StructEq
import Derived.WideKeyRuns
set_option linter.all false
set_option maxHeartbeats 8000000
set_option maxRecDepth 100000
namespace Go.Ae
theorem Qnp: ∀(a b:List KK) (l:List D),fitL (a++b) l=true→fitL a (l.take a.length)=true∧fitL b (l.drop a.length)=true∧a.length≤l.length
 |[],b,l,h=>by simpa[fitL] using h
 |k::a,b,[],h=>by simp[fitL] at h
 |k::a,b,d::l,h=>by
  simp only[List.cons_append,fitL,Bool.and_eq_true] at h;obtain⟨h1,h2,h3⟩:=Qnp a b l h.2;simp only[List.length_cons,List.take_succ_cons,List.drop_succ_cons,fitL,Bool.and_eq_true];exact⟨⟨h.1,h1⟩,h2,by omega⟩
theorem Qm8: ∀(a:List KK) (l:List D),fitL a l=true→l.length=a.length
 |[],[],_=>rfl
 |[],_::_,h=>by simp[fitL] at h
 |_::_,[],h=>by simp[fitL] at h
 |k::a,d::l,h=>by
  simp only[fitL,Bool.and_eq_true] at h;simp[Qm8 a l h.2]
theorem Qq6: ∀(n:Nat) (a b:List D),n≤a.length→n≤b.length→D.beql a b=(D.beql (a.take n) (b.take n) && D.beql (a.drop n) (b.drop n))
 |0,a,b,_,_=>by simp[D.beql]
 |n+1,[],_,h,_=>by simp at h
 |n+1,_::_,[],_,h=>by simp at h
 |n+1,x::a,y::b,h1,h2=>by
  simp only[List.take_succ_cons,List.drop_succ_cons,D.beql,Bool.and_assoc];rw[Qq6 n a b (by simpa using h1) (by simpa using h2)]
theorem Qnu{ok:Nat→Prop}{hp:Nat→Option Obj}{k:KK}{d:D}{v:Value}(hf:k.fit d=true)(h:rd ok hp d v):
 (∃j n,k= .int j∧d= .int j n∧v= .int j n)∨(∃s,k= .str∧d= .str s∧v= .string s)∨(∃b,k= .bool∧d= .bool b∧v= .bool b):=by
 cases k<;>cases d<;>simp only[KK.fit,Bool.false_eq_true,beq_iff_eq] at hf<;>simp only[rd] at h
 ·subst hf;exact .inl ⟨_,_,rfl,rfl,h⟩
 ·exact .inr (.inl ⟨_,rfl,rfl,h⟩)
 ·exact .inr (.inr ⟨_,rfl,rfl,h⟩)
section
variable {P:Program}
theorem Qpm: ∀{n:Nat} {t:TypeId} {kt:KT},keyC P n t=some kt→kt.agg=false→ ∃k,kt.ks=[k]∧((∃j,k= .int j∧P.underlying t=some (.int j))∨(k= .str∧P.underlying t=some .string)∨(k= .bool∧P.underlying t=some .bool)):=by
 intro n t kt h ha;cases n with
 |zero=>simp[keyC] at h
 |succ n=>
  simp only[keyC] at h;split at h
  ·rename_i k hu;obtain rfl:=Option.some.inj h;exact⟨_,rfl,.inl ⟨k,rfl,hu⟩⟩
  ·rename_i hu;obtain rfl:=Option.some.inj h;exact⟨_,rfl,.inr (.inl ⟨rfl,hu⟩)⟩
  ·rename_i hu;obtain rfl:=Option.some.inj h;exact⟨_,rfl,.inr (.inr ⟨rfl,hu⟩)⟩
  ·rename_i fields hu;cases hst:P.stoodInHeld t<;>rw[hst] at h
   ·simp only[cond_false,Option.map_eq_some_iff] at h;obtain⟨ks,_,rfl⟩:=h;cases ha
   ·simp at h
  ·cases h
theorem Qna: ∀{n:Nat} {t:TypeId} {kt:KT},keyC P n t=some kt→kt.agg=true→ ∃m fields,n=m+1∧P.underlying t=some (.struct fields)∧P.stoodInHeld t=false∧Quj P (keyC P m) fields.toList 0=some kt.ks:=by
 intro n t kt h ha;cases n with
 |zero=>simp[keyC] at h
 |succ n=>
  simp only[keyC] at h;split at h
  ·obtain rfl:=Option.some.inj h;cases ha
  ·obtain rfl:=Option.some.inj h;cases ha
  ·obtain rfl:=Option.some.inj h;cases ha
  ·rename_i fields hu;cases hst:P.stoodInHeld t<;>rw[hst] at h
   ·simp only[cond_false,Option.map_eq_some_iff] at h;obtain⟨ks,hks,rfl⟩:=h;exact⟨n,fields,rfl,hu,rfl,hks⟩
   ·simp at h
  ·cases h
theorem Qsw{n:Nat}{f:Field}{kt:KT}{i:TypeInfo}(hk:keyC P n f.type=some kt)(hi:P.info? f.type=some i)(hz:i.size=kt.ks.length){ok:Nat→Prop}{hp:Nat→Option Obj}{w:World}
 {ds:List D}{xs:Array Value}{off:Nat}(hl0:off+kt.ks.length≤ds.length)(h:rdl ok hp ds xs.toList)(hf:fitL kt.ks ((ds.drop off).take kt.ks.length)=true):
 ∃d v,(part f.type xs off).run P w= .ok v w∧kt.fit d=true∧rd ok hp d v∧((kt.agg=true∧d= .agg ((ds.drop off).take kt.ks.length))∨(kt.agg=false∧[d]=(ds.drop off).take kt.ks.length)):=by
 have hl:kt.ks.length≤(ds.drop off).length:=by rw[List.length_drop];omega
 have h1:=Qea off ds _ (Qhe _ _ h) (by omega);obtain⟨h2,h3⟩:=Qed kt.ks.length _ _ h1 hl;cases ha:kt.agg with
 |false=>
  obtain⟨k,hk2,hu⟩:=Qpm hk ha;rw[hk2] at hl h3 hf⊢;simp only[List.length_singleton] at hl h3 hf⊢;cases hd:ds.drop off with
  |nil=>rw[hd] at hl;simp at hl
  |cons d r=>
   rw[hd] at h3 hf;simp only[List.take_succ_cons,List.take_zero,rdl] at h3 hf;obtain⟨v,r',hv,h4,h5⟩:=h3;refine⟨d,v,?_,by simpa[KT.fit,ha,hk2] using hf,h4,.inr ⟨trivial,by simp⟩⟩;have hx:xs[off]? =some v:=by
    have:(xs.toList.drop off)[0]? =some v:=by
     cases hq:xs.toList.drop off with
     |nil=>rw[hq] at hv;simp at hv
     |cons a b=>rw[hq] at hv;simp at hv;simp[hv.1]
    simpa using this
   unfold part;rcases hu with ⟨j,_,hu⟩|⟨_,hu⟩|⟨_,hu⟩<;>simp[isAgg,run_underlying hu,hx]
 |true=>
  obtain⟨m,fields,_,hu,_⟩:=Qna hk ha;refine⟨_,.agg (xs.extract off (off+kt.ks.length)),?_,by simpa[KT.fit,ha] using hf,?_,.inl ⟨rfl,rfl⟩⟩
  ·unfold part;simp[isAgg,run_underlying hu,sizeOf,typeInfo,hi,hz]
  ·simp only[rd];refine⟨_,rfl,?_⟩;rw[Array.toList_extract];simpa[List.extract] using h3
theorem Qr5(d:Nat)(xs ys:Array Value)(f:Field)(fs:List Field)(hn:f.name≠ "_"){w:World}{a b:Value}{r:Bool}(h1:(part f.type xs f.offset).run P w= .ok a w)
 (h2:(part f.type ys f.offset).run P w= .ok b w)(h3:(Op.equalIn d f.type a b).run P w= .ok r w):
 (Op.eqFields d xs ys (f::fs)).run P w=if r=true then (Op.eqFields d xs ys fs).run P w else .ok false w:=by
 simp only[Op.eqFields,ne_eq,hn,not_false_eq_true,if_true,Sem.run_bind,h1,h2,h3,Result.andThen_ok];cases r<;>simp
section
variable {ok:Nat→Prop}{hp:Nat→Option Obj}{w:World}
theorem keyFs_eq{n m:Nat}(ih: ∀(t:TypeId) (kt:KT),keyC P n t=some kt→ ∀(d1 d2:D) (v1 v2:Value),kt.fit d1=true→kt.fit d2=true→rd ok hp d1 v1→rd ok hp d2 v2→(Op.equalIn m t v1 v2).run P w= .ok (D.beq d1 d2) w):
 ∀(fs:List Field) (off:Nat) (ks:List KK),Quj P (keyC P n) fs off=some ks→ ∀(ds1 ds2:List D) (xs ys:Array Value),off+ks.length=ds1.length→off+ks.length=ds2.length→
  fitL ks (ds1.drop off)=true→fitL ks (ds2.drop off)=true→rdl ok hp ds1 xs.toList→rdl ok hp ds2 ys.toList→(Op.eqFields m xs ys fs).run P w= .ok (D.beql (ds1.drop off) (ds2.drop off)) w:=by
 intro fs;induction fs with
 |nil=>
  intro off ks hks ds1 ds2 xs ys hl1 hl2 _ _ _ _;simp only[Quj,Option.some.injEq] at hks;subst hks;rw[List.drop_eq_nil_of_le (by simpa using Nat.le_of_eq hl1.symm),List.drop_eq_nil_of_le (by simpa using Nat.le_of_eq hl2.symm)];simp[Op.eqFields,D.beql]
 |cons f fs ihf=>
  intro off ks hks ds1 ds2 xs ys hl1 hl2 hf1 hf2 hr1 hr2;simp only[Quj] at hks;split at hks
  ·rename_i kt i hkt hi;cases hb:(f.offset==off && (f.name != "_" && i.size==kt.ks.length))<;>rw[hb] at hks
   ·simp at hks
   ·simp only[cond_true,Option.map_eq_some_iff] at hks;obtain⟨ks2,hks2,rfl⟩:=hks;simp only[Bool.and_eq_true,beq_iff_eq,bne_iff_ne,ne_eq] at hb;obtain⟨rfl,hname,hsz⟩:=hb;obtain⟨g1,g2,g3⟩:=Qnp _ _ _ hf1;obtain⟨g4,g5,g6⟩:=Qnp _ _ _ hf2;rw[List.length_append] at hl1 hl2;obtain⟨d1,v1,p1,q1,r1,s1⟩:=Qsw (w:=w) hkt hi hsz (by omega) hr1 g1;obtain⟨d2,v2,p2,q2,r2,s2⟩:=Qsw (w:=w) hkt hi hsz (by omega) hr2 g4;have he:=ih _ _ hkt d1 d2 v1 v2 q1 q2 r1 r2;rw[Qr5 m xs ys f fs hname p1 p2 he];rw[List.drop_drop] at g2 g5;have hrest:=ihf _ _ hks2 ds1 ds2 xs ys (by omega) (by omega) g2 g5 hr1 hr2;have hbe:D.beq d1 d2=D.beql ((ds1.drop f.offset).take kt.ks.length) ((ds2.drop f.offset).take kt.ks.length):=by
     rcases s1 with ⟨_,rfl⟩|⟨ha,e1⟩<;>rcases s2 with ⟨hb,rfl⟩|⟨hb,e2⟩
     ·simp[D.beq]
     ·simp_all
     ·simp_all
     ·rw[←e1,←e2];simp[D.beql]
    rw[Qq6 kt.ks.length (ds1.drop f.offset) (ds2.drop f.offset) g3 g6,hrest,hbe,List.drop_drop,List.drop_drop];cases D.beql ((ds1.drop f.offset).take kt.ks.length) ((ds2.drop f.offset).take kt.ks.length)<;>simp
  ·cases hks
theorem keyC_eq: ∀(n m:Nat),n≤m→ ∀(t:TypeId) (kt:KT),keyC P n t=some kt→ ∀(d1 d2:D) (v1 v2:Value),kt.fit d1=true→kt.fit d2=true→rd ok hp d1 v1→rd ok hp d2 v2→
 (Op.equalIn m t v1 v2).run P w= .ok (D.beq d1 d2) w:=by
 intro n;induction n with
 |zero=>intro m _ t kt h;simp[keyC] at h
 |succ n ih=>
  intro m hm t kt h d1 d2 v1 v2 hf1 hf2 hr1 hr2;obtain⟨m,rfl⟩: ∃m',m=m'+1:=⟨m - 1,by omega⟩;cases ha:kt.agg with
  |false=>
   obtain⟨k,hk,hu⟩:=Qpm h ha;simp only[KT.fit,ha,hk,fitL,Bool.and_true] at hf1 hf2;rcases Qnu hf1 hr1 with ⟨j,a,e1,rfl,rfl⟩|⟨a,e1,rfl,rfl⟩|⟨a,e1,rfl,rfl⟩<;>
    rcases Qnu hf2 hr2 with ⟨j2,b,e2,rfl,rfl⟩|⟨b,e2,rfl,rfl⟩|⟨b,e2,rfl,rfl⟩<;>rw[e1] at e2<;>cases e2<;>
    rcases hu with ⟨_,e3,hu⟩|⟨e3,hu⟩|⟨e3,hu⟩<;>rw[e1] at e3<;>cases e3
   ·simp[Op.equalIn,run_underlying hu,D.beq]
   ·simp[Op.equalIn,run_underlying hu,D.beq]
   ·simp[Op.equalIn,run_underlying hu,D.beq]
  |true=>
   obtain⟨m0,fields,hm0,hu,hst,hks⟩:=Qna h ha;obtain rfl:n=m0:=by omega
   cases d1<;>simp only[KT.fit,ha,Bool.false_eq_true] at hf1;cases d2<;>simp only[KT.fit,ha,Bool.false_eq_true] at hf2;rename_i ds1 ds2;simp only[rd] at hr1 hr2;obtain⟨xs,rfl,hr1⟩:=hr1;obtain⟨ys,rfl,hr2⟩:=hr2;have hfo:P.fieldsOf t=fields:=by simp[Program.fieldsOf,hu]
   rw[run_equalIn_struct w m t xs ys (by rw[hfo];exact hu) hst,hfo]
   have:=keyFs_eq (w:=w) (fun t kt h=>ih m (by omega) t kt h) fields.toList 0 kt.ks hks ds1 ds2 xs ys (by simp[Qm8 _ _ hf1]) (by simp[Qm8 _ _ hf2]) (by simpa using hf1) (by simpa using hf2) hr1 hr2
   rw[this];simp[D.beq]
def Qie(em:Bool)(n:Nat)(cs:Array Value):List Field→Sem Unit
 |[]=>pure ()
 |f::fs=>if f.name≠ "_" then do
   let a ←part f.type cs f.offset
   Instr.checkKey em n f.type a
   Qie em n cs fs
  else Qie em n cs fs
theorem Qvk(em:Bool)(n:Nat)(t:TypeId)(cs:Array Value){fields:Array Field}(hu:P.underlying t=some (.struct fields)):
 (Instr.checkKey em (n+1) t (.agg cs)).run P w=(Qie em n cs fields.toList).run P w:=by
 simp only[Instr.checkKey,Sem.run_bind,run_underlying hu,Result.andThen_ok];rw[←Array.forIn_toList];generalize fields.toList=fs;clear hu;induction fs generalizing w with
 |nil=>simp[Qie]
 |cons f fs ih=>
  simp only[List.forIn_cons,Qie,Sem.run_bind,Sem.run_ite];split
  ·generalize (part f.type cs f.offset).run P w=r1;cases r1 with
   |ok a w1=>
    simp only[Result.andThen_ok];generalize (Instr.checkKey em n f.type a).run P w1=r2;cases r2 with
    |ok b w2=>
     simp only[Result.andThen_ok,Sem.run_pure];exact ih
    |halt x w2=>simp[Result.andThen]
   |halt x w1=>simp[Result.andThen]
  ·simp only[Sem.run_pure,Result.andThen_ok];exact ih
theorem Qw3{n m:Nat}{em:Bool}(ih: ∀(t:TypeId) (kt:KT),keyC P n t=some kt→ ∀(d1:D) (v1:Value),kt.fit d1=true→rd ok hp d1 v1→(Instr.checkKey em m t v1).run P w= .ok () w):
 ∀(fs:List Field) (off:Nat) (ks:List KK),Quj P (keyC P n) fs off=some ks→ ∀(ds1:List D) (xs:Array Value),off+ks.length=ds1.length→
  fitL ks (ds1.drop off)=true→rdl ok hp ds1 xs.toList→(Qie em m xs fs).run P w= .ok () w:=by
 intro fs;induction fs with
 |nil=>intro off ks _ ds1 xs _ _ _;simp[Qie]
 |cons f fs ihf=>
  intro off ks hks ds1 xs hl1 hf1 hr1;simp only[Quj] at hks;split at hks
  ·rename_i kt i hkt hi;cases hb:(f.offset==off && (f.name != "_" && i.size==kt.ks.length))<;>rw[hb] at hks
   ·simp at hks
   ·simp only[cond_true,Option.map_eq_some_iff] at hks;obtain⟨ks2,hks2,rfl⟩:=hks;simp only[Bool.and_eq_true,beq_iff_eq,bne_iff_ne,ne_eq] at hb;obtain⟨rfl,hname,hsz⟩:=hb;obtain⟨g1,g2,g3⟩:=Qnp _ _ _ hf1;rw[List.length_append] at hl1;obtain⟨d1,v1,p1,q1,r1,s1⟩:=Qsw (w:=w) hkt hi hsz (by omega) hr1 g1;rw[List.drop_drop] at g2;simp only[Qie,ne_eq,hname,not_false_eq_true,if_true,Sem.run_bind,p1,ih _ _ hkt d1 v1 q1 r1,Result.andThen_ok];exact ihf _ _ hks2 ds1 xs (by omega) g2 hr1
  ·cases hks
theorem Qit{em:Bool}: ∀(n m:Nat),n≤m→ ∀(t:TypeId) (kt:KT),keyC P n t=some kt→ ∀(d1:D) (v1:Value),kt.fit d1=true→rd ok hp d1 v1→
 (Instr.checkKey em m t v1).run P w= .ok () w:=by
 intro n;induction n with
 |zero=>intro m _ t kt h;simp[keyC] at h
 |succ n ih=>
  intro m hm t kt h d1 v1 hf1 hr1;obtain⟨m,rfl⟩: ∃m',m=m'+1:=⟨m - 1,by omega⟩;cases ha:kt.agg with
  |false=>
   obtain⟨k,hk,hu⟩:=Qpm h ha;rcases hu with ⟨_,_,hu⟩|⟨_,hu⟩|⟨_,hu⟩<;>simp[Instr.checkKey,run_underlying hu]
  |true=>
   obtain⟨m0,fields,hm0,hu,hst,hks⟩:=Qna h ha;obtain rfl:n=m0:=by omega
   cases d1<;>simp only[KT.fit,ha,Bool.false_eq_true] at hf1;rename_i ds1;simp only[rd] at hr1;obtain⟨xs,rfl,hr1⟩:=hr1;rw[Qvk em m t xs hu];exact Qw3 (w:=w) (fun t kt h=>ih m (by omega) t kt h) fields.toList 0 kt.ks hks ds1 xs (by simp[Qm8 _ _ hf1]) (by simpa using hf1) hr1
def Qp6(kd:D)(ds:List (D×D))(i:Nat)(ok:Nat→Prop)(hp:Nat→Option Obj):Option (Nat×Value)→Prop
 |none=>lk ds kd=none∧(∀y,upd ds kd y=ds++[(kd,y)])∧del ds kd=ds
 |some (j,v)=> ∃p k y,j=i+p∧ds[p]? =some (k,y)∧D.beq kd k=true∧lk ds kd=some y∧rd ok hp y v∧(∀y',upd ds kd y'=ds.set p (kd,y'))∧del ds kd=ds.eraseIdx p
theorem Qq2{kd k y:D}{ds:List (D×D)}{i:Nat}{r:Option (Nat×Value)}(hne:D.beq kd k=false)(h:Qp6 kd ds (i+1) ok hp r):Qp6 kd ((k,y)::ds) i ok hp r:=by
 cases r with
 |none=>
  simp only[Qp6] at h⊢;exact⟨by simp[lk,hne,h.1],fun y=>by simp[upd,hne,h.2.1],by simp[del,hne,h.2.2]⟩
 |some r=>
  obtain⟨j,v⟩:=r;simp only[Qp6] at h⊢;obtain⟨p,k',y',h1,h2,h3,h4,h5,h6,h7⟩:=h;exact⟨p+1,k',y',by omega,by simpa using h2,h3,by simp[lk,hne,h4],h5,fun y=>by simp[upd,hne,h6],by simp[del,hne,h7]⟩
theorem Qz7{kd k y:D}{ds:List (D×D)}{i:Nat}{v:Value}(he:D.beq kd k=true)(hy:rd ok hp y v):Qp6 kd ((k,y)::ds) i ok hp (some (i,v)):=
 ⟨0,k,y,rfl,rfl,he,by simp[lk,he],hy,fun y'=>by simp[upd,he],by simp[del,he]⟩
theorem Qh4{t:TypeId}{kt:KT}(hk:keyT P t=some kt){kd:D}{kv:Value}(hf:kt.fit kd=true)(hr:rd ok hp kd kv):
 ∀(ds:List (D×D)) (es:List MapEntry) (i:Nat),(∀e∈ds,kt.fit e.1=true)→rde ok hp ds es→ ∃r,(Instr.findAsking t kv es i).run P w= .ok r w∧Qp6 kd ds i ok hp r
 |[],es,i,_,h=>by
  simp only[rde] at h;subst h;exact⟨none,by simp[Instr.findAsking],by simp[Qp6,lk,upd,del]⟩
 |(k,y)::ds,es,i,hfs,h=>by
  simp only[rde] at h;obtain⟨e,es,rfl,h1,h2,h3⟩:=h;have he:(Op.equal t kv e.key).run P w= .ok (D.beq kd k) w:=keyC_eq 5 10000 (by omega) t kt hk kd k _ _ hf (hfs (k,y) (by simp)) hr h1;simp only[Instr.findAsking,Sem.run_bind,he,Result.andThen_ok];cases hb:D.beq kd k with
  |true=>exact⟨_,by simp,Qz7 hb h2⟩
  |false=>
   obtain⟨r,h4,h5⟩:=Qh4 hk hf hr ds es (i+1) (fun e he=>hfs e (by simp[he])) h3;exact⟨r,by simpa using h4,Qq2 hb h5⟩
theorem Qmm{t:TypeId}{u:TypeDesc}{kt:KT}(hk:keyT P t=some kt)(ha:kt.agg=false)(hu:P.underlying t=some u){kd:D}{kv:Value}(hf:kt.fit kd=true)(hr:rd ok hp kd kv):
 ∀(ds:List (D×D)) (es:List MapEntry) (i:Nat),(∀e∈ds,kt.fit e.1=true)→rde ok hp ds es→ ∃r,Instr.findNow u kv es i=some r∧Qp6 kd ds i ok hp r
 |[],es,i,_,h=>by
  simp only[rde] at h;subst h;exact⟨none,by simp[Instr.findNow],by simp[Qp6,lk,upd,del]⟩
 |(k,y)::ds,es,i,hfs,h=>by
  simp only[rde] at h;obtain⟨e,es,rfl,h1,h2,h3⟩:=h;have he:Instr.sameNow u kv e.key=some (D.beq kd k):=by
   obtain⟨q,hq,hu'⟩:=Qpm hk ha;have hf2:=hfs _ (List.mem_cons_self);simp only[KT.fit,ha,hq,fitL,Bool.and_true] at hf hf2;generalize e.key=ek at h1⊢;rcases Qnu hf hr with ⟨j,a,e1,rfl,rfl⟩|⟨a,e1,rfl,rfl⟩|⟨a,e1,rfl,rfl⟩<;>
    rcases Qnu hf2 h1 with ⟨j2,b,e2,rfl,rfl⟩|⟨b,e2,rfl,rfl⟩|⟨b,e2,rfl,rfl⟩<;>rw[e1] at e2<;>cases e2<;>
    rcases hu' with ⟨_,e3,hu'⟩|⟨e3,hu'⟩|⟨e3,hu'⟩<;>rw[e1] at e3<;>cases e3<;>rw[hu] at hu'<;>obtain rfl:=Option.some.inj hu'<;>simp[Instr.sameNow,D.beq]
  simp only[Instr.findNow,he];cases hb:D.beq kd k with
  |true=>exact⟨_,rfl,Qz7 hb h2⟩
  |false=>
   obtain⟨r,h4,h5⟩:=Qmm hk ha hu hf hr ds es (i+1) (fun e he=>hfs e (by simp[he])) h3;exact⟨r,h4,Qq2 hb h5⟩
theorem Qfw{t:TypeId}{kt:KT}(hk:keyT P t=some kt){kd:D}{kv:Value}(hf:kt.fit kd=true)(hr:rd ok hp kd kv)(ds:List (D×D))(es:List MapEntry)(hfs: ∀e∈ds,kt.fit e.1=true)
 (h:rde ok hp ds es): ∃r,(Instr.findKey t kv es).run P w= .ok r w∧Qp6 kd ds 0 ok hp r:=by
 cases ha:kt.agg with
 |true=>
  obtain⟨m0,fields,hm0,hu,hst,hks⟩:=Qna hk ha;rw[run_findKey_eq w (by simp[hu])];exact Qh4 hk hf hr ds es 0 hfs h
 |false=>
  obtain⟨k,hk2,hu⟩:=Qpm hk ha;obtain⟨u,hu⟩: ∃u,P.underlying t=some u:=by rcases hu with ⟨j,_,hu⟩|⟨_,hu⟩|⟨_,hu⟩<;>exact⟨_,hu⟩
  obtain⟨r,h1,h2⟩:=Qmm hk ha hu hf hr ds es 0 hfs h;exact⟨r,by simp[Instr.findKey,run_underlying hu,h1],h2⟩
end
end
end Go.Ae
namespace Go.Ae
theorem Qiy{P:Program}{w:World}{b:Nat}{es es':Array MapEntry}{clock c':Nat}(h:w.heap[b]? =some (.map es clock)):
 ∃w',(setObj b (.map es' c')).run P w= .ok () w'∧w'.heap=w.heap.setIfInBounds b (.map es' c')∧w'.os=w.os∧w'.tape=w.tape∧w'.output=w.output:=by
 refine⟨{w with heap:=w.heap.setIfInBounds b (.map es' c')},?_,rfl,rfl,rfl,rfl⟩;exact MapKept.run_setObj_map _ h
section
variable {P:Program}{tm:List (Nat×AV)}{h:Nat→Option Ent}{nx:Nat}{o:Oper}{K:Kont}
theorem snd_aggEq{op:BinOp}{T U:TypeId}{x y:Operand}{a b:List D}(ho:o.op= .binOp op T x y U)(hx:evO tm x= .im (.agg a))(hy:evO tm y= .im (.agg b))
 (hk:Qoa P T op a b K (keyT P T)):Qbp P tm h nx o K:=by
 cases hkt:keyT P T with
 |none=>rw[hkt] at hk;exact hk.elim
 |some kt=>
 rw[hkt] at hk;simp only[Qoa] at hk;obtain⟨hf1,hf2,hg,hk⟩:=hk;have hop:op= .eql∨op= .neq:=by cases op<;>first|exact .inl rfl|exact .inr rfl|exact hk.elim
 have hk':K (.im (.bool (decide (op= .neq) !=D.beql a b))) {}:=by
  rcases hop with rfl|rfl
  ·simpa[Qok] using hk
  ·simpa[Qok] using hk
 refine⟨_,_,OpT.pure (u:=[]) ?_,hk'⟩;intro C S ac hW _ hops;have h1:=hops x (by rw[ho];simp[Op.operands]);have h2:=hops y (by rw[ho];simp[Op.operands]);rw[hx] at h1;rw[hy] at h2;simp only[conc] at h1 h2;refine⟨.bool (decide (op= .neq) !=D.beql a b),?_,by simp only[conc,rd]⟩;have he:=keyC_eq (P:=P) (w:=S.w) 5 10000 (by omega) T kt hkt _ _ _ _ hf1 hf2 h1 h2;simp only[rd] at h1 h2;obtain⟨xs,hxs,_⟩:=h1;obtain⟨ys,hys,_⟩:=h2;rw[hxs,hys] at he;simp only[execOp,ho,hxs,hys,Sem.run_bind,run_eqGuard_agg S.w op T x y xs ys hg,Result.andThen_ok];rcases hop with rfl|rfl
 ·simp[run_eql_struct,he,D.beq]
 ·simp[run_neq_struct,he,D.beq]
theorem Qqm{T k e:TypeId}{kt:KT}(hu:P.underlying T=some (.map k e))(hkt:keyT P k=some kt){kd:D}{kv:Value}(hfit:kt.fit kd=true)
 {okk:Nat→Prop}{hp:Nat→Option Obj}(hr:rd okk hp kd kv){w:World}{b:Nat}{ents:Array MapEntry}{clock:Nat}(hb:w.heap[b]? =some (.map ents clock)){es:List (D×D)}(hfs: ∀e∈es,kt.fit e.1=true)
 (hes:rde okk hp es ents.toList)(ok:Bool):
 (∃y v,lk es kd=some y∧rd okk hp y v∧(Instr.lookup T (.map (some b)) kv ok).run P w= .ok (if ok then .tuple #[v,.bool true] else v) w)∨
 (lk es kd=none∧ ∀z,(zeroValue e).run P w= .ok z w→(Instr.lookup T (.map (some b)) kv ok).run P w= .ok (if ok then .tuple #[z,.bool false] else z) w):=by
 obtain⟨r,h1,h2⟩:=Qfw (w:=w) hkt hfit hr es ents.toList hfs hes;have hck:=Qit (P:=P) (w:=w) (em:=ents.isEmpty) 5 10000 (by omega) k kt hkt kd kv hfit hr;cases r with
 |none=>
  refine .inr ⟨h2.1,fun z hz=> ?_⟩;simp[Instr.lookup,run_underlying hu,Qcc (w:=w) hb,hck,h1,hz]
 |some r=>
  obtain⟨j,v⟩:=r;obtain⟨p,k',y,_,_,_,h4,h5,_⟩:=h2;refine .inl ⟨y,v,h4,h5,?_⟩;simp[Instr.lookup,run_underlying hu,Qcc (w:=w) hb,hck,h1]
theorem Qabs{T k e:TypeId}{kt:KT}(hu:P.underlying T=some (.map k e))(hkt:keyT P k=some kt){kd:D}{kv:Value}(hfit:kt.fit kd=true)
 {okk:Nat→Prop}{hp:Nat→Option Obj}(hr:rd okk hp kd kv){w:World}(ok:Bool){z:Value}(hz:(zeroValue e).run P w= .ok z w):
 (Instr.lookup T (.map none) kv ok).run P w= .ok (if ok then .tuple #[z,.bool false] else z) w:=by
 obtain⟨r,h1,h2⟩:=Qfw (w:=w) hkt hfit hr [] [] (by simp) (by simp only[rde]);have hck:=Qit (P:=P) (w:=w) (em:=true) 5 10000 (by omega) k kt hkt kd kv hfit hr;cases r with
 |none=>simp[Instr.lookup,run_underlying hu,hck,h1,hz]
 |some r=>
  obtain⟨j,v⟩:=r;obtain⟨p,k',y,_,h3,_⟩:=h2;simp at h3
theorem Qx8{S:Env}{d:D}{v:Value}(ok b:Bool)(h:rd S.ok S.hp d v):conc S (bif ok then .tup [.im d,.im (.bool b)] else .im d) (if ok then .tuple #[v,.bool b] else v):=by
 cases ok with
 |false=>simpa only[cond_false,Bool.false_eq_true,if_false,conc] using h
 |true=>
  simp only[cond_true,if_true,conc];exact⟨_,rfl,by simp[Qa0,conc,rd,h]⟩
theorem Qabg{T:TypeId}{m k:Operand}{ok:Bool}(ho:o.op= .lookup T m k ok)(hk:Qax (Qnn P h (evO tm m) (evO tm k) ok K) (tI P T)):Qbp P tm h nx o K:=by
 cases hT:tI P T with
 |none=>rw[hT] at hk;exact hk.elim
 |some ti=>
 rw[hT] at hk;simp only[Qax,Qnn] at hk;cases hf:ti.kind<;>rw[hf] at hk<;>try exact hk.elim
 rename_i kT e;have hu:=Qqw hT hf;cases hkv:evO tm k<;>rw[hkv] at hk<;>try exact hk.elim
 rename_i kd;simp only[luK] at hk;cases hE:tI P e with
 |none=>rw[hE] at hk;exact hk.elim
 |some te=>
 rw[hE] at hk;simp only[Qax,luE] at hk;cases hkt:keyT P kT with
 |none=>rw[hkt] at hk;exact hk.elim
 |some kt=>
 rw[hkt] at hk;simp only[luKt] at hk;obtain⟨hfit,hk⟩:=hk;have hrd: ∀(S:Env) (a:Act),(∀x∈o.op.operands,conc S (evO tm x) (a.eval x))→rd S.ok S.hp kd (a.eval k):=by
  intro S a hops
  have:=hops k (by rw[ho];simp[Op.operands])
  rw[hkv] at this;simpa only[conc] using this
 have main: ∀{u:List Nat} {es:List (D×D)},(∀e∈es,kt.fit e.1=true)→
  (∀(C:Ctx) (S:Env) (a:Act),Wf C S→(∀n∈u,S.h n=h n)→(∀x∈o.op.operands,conc S (evO tm x) (a.eval x))→ ∃b ents clock,a.eval m= .map (some b)∧S.hp b=some (.map ents clock)∧rde S.ok S.hp es ents.toList)→
  LkVC es kd (Qy3 ok {use:=u} K) (kMiss te ok {use:=u} K)→Qbp P tm h nx o K:=by
  intro u es hfs hm hk;obtain⟨hk1,hk2⟩:=hk;cases hl:lk es kd with
  |some y=>
   refine⟨_,_,OpT.pure (u:=u) ?_,hk1 y hl⟩;intro C S a hW hu' hops;obtain⟨b,ents,clock,hv,hb,hes⟩:=hm C S a hW hu' hops;rcases Qqm hu hkt hfit (hrd S a hops) hb hfs hes ok with ⟨y',v,h1,h2,h3⟩|⟨h1,_⟩
   ·rw[hl] at h1;obtain rfl:=Option.some.inj h1;refine⟨_,?_,Qx8 ok true h2⟩;simp only[execOp,ho,hv];simp[h3]
   ·rw[hl] at h1;cases h1
  |none=>
   obtain⟨hzl,hza,hzs,hk⟩:=hk2 hl;obtain⟨z,hz1,_,_,hz2⟩:=Qrg hE hzl hzs;refine⟨_,_,OpT.pure (u:=u) ?_,hk⟩;intro C S a hW hu' hops;obtain⟨b,ents,clock,hv,hb,hes⟩:=hm C S a hW hu' hops;rcases Qqm hu hkt hfit (hrd S a hops) hb hfs hes ok with ⟨y',v,h1,h2,h3⟩|⟨h1,h2⟩
   ·rw[hl] at h1;cases h1
   ·refine⟨_,?_,Qx8 ok false (hz2 S.ok S.hp)⟩;simp only[execOp,ho,hv];simp[h2 z (hz1 _)]
 cases hm:evO tm m<;>rw[hm] at hk<;>try exact hk.elim
 case im d=>
  cases d<;>try exact hk.elim
  case nilm=>
   simp only[Qyc] at hk;obtain⟨hzl,hza,hzs,hk⟩:=hk;obtain⟨z,hz1,_,_,hz2⟩:=Qrg hE hzl hzs;refine⟨_,_,OpT.pure (u:=[]) ?_,hk⟩;intro C S a hW hu' hops;have h1:=hops m (by rw[ho];simp[Op.operands]);rw[hm] at h1;simp only[conc,rd] at h1;refine⟨_,?_,Qx8 ok false (hz2 S.ok S.hp)⟩;simp only[execOp,ho,h1];simp[Qabs hu hkt hfit (hrd S a hops) ok (hz1 S.w)]
  case mp kt' es=>
   simp only[Qyc] at hk;obtain⟨rfl,hk⟩:=hk;by_cases hfs: ∀e∈es,kt'.fit e.1=true
   ·refine main (u:=[]) hfs ?_ hk;intro C S a hW _ hops;have h1:=hops m (by rw[ho];simp[Op.operands]);rw[hm] at h1;simp only[conc,rd] at h1;obtain⟨b,ents,clock,h2,_,_,h3,h4,_⟩:=h1;exact⟨b,ents,clock,h2,h3,h4⟩
   ·cases hl:lk es kd with
    |some y=>
     refine⟨_,_,OpT.pure (u:=[]) ?_,hk.1 y hl⟩;intro C S a hW _ hops;have h1:=hops m (by rw[ho];simp[Op.operands]);rw[hm] at h1;simp only[conc,rd] at h1;obtain⟨_,_,_,_,h2,_⟩:=h1;exact absurd h2 hfs
    |none=>
     obtain⟨_,_,_,hk⟩:=hk.2 hl;refine⟨_,_,OpT.pure (u:=[]) ?_,hk⟩;intro C S a hW _ hops;have h1:=hops m (by rw[ho];simp[Op.operands]);rw[hm] at h1;simp only[conc,rd] at h1;obtain⟨_,_,_,_,h2,_⟩:=h1;exact absurd h2 hfs
 case mp n=>
  simp only[Qyc] at hk;cases hn:h n with
  |none=>rw[hn] at hk;exact hk.elim
  |some ent=>
  rw[hn] at hk;obtain⟨mu,ent⟩:=ent;cases ent<;>try exact hk.elim
  rename_i kt' es;simp only[luObj] at hk;obtain⟨rfl,hk⟩:=hk;have hob: ∀(C:Ctx) (S:Env),Wf C S→(∀n'∈[n],S.h n'=h n')→S.h n=some (mu,.map kt' es)∧objc S (S.ρ n) (.map kt' es):=fun C S hW hu'=>by
   have hS:=(hu' n (by simp)).trans hn;exact⟨hS,hW.obj _ _ hS⟩
  by_cases hfs: ∀e∈es,kt'.fit e.1=true
  ·refine main (u:=[n]) hfs ?_ hk;intro C S a hW hu' hops;have h1:=hops m (by rw[ho];simp[Op.operands]);rw[hm] at h1;obtain⟨hS,hob⟩:=hob C S hW hu';simp only[conc] at h1;obtain⟨l,hl,hv⟩:=h1.2 _ hS;simp only[objc] at hob;obtain⟨lc,ents,clock,h2,_,h3,h4,_⟩:=hob;rw[hl] at h2;obtain rfl:=Option.some.inj h2;exact⟨l.b,ents,clock,hv,h3,h4⟩
  ·cases hl:lk es kd with
   |some y=>
    refine⟨_,_,OpT.pure (u:=[n]) ?_,hk.1 y hl⟩;intro C S a hW hu' _
    have:=(hob C S hW hu').2
    simp only[objc] at this;obtain⟨_,_,_,_,h2,_⟩:=this;exact absurd h2 hfs
   |none=>
    obtain⟨_,_,_,hk⟩:=hk.2 hl;refine⟨_,_,OpT.pure (u:=[n]) ?_,hk⟩;intro C S a hW hu' _
    have:=(hob C S hW hu').2
    simp only[objc] at this;obtain⟨_,_,_,_,h2,_⟩:=this;exact absurd h2 hfs
end
end Go.Ae
namespace Go.Ae
theorem rde_set{ok:Nat→Prop}{hp:Nat→Option Obj}{kd y:D}{kv v:Value}(hk:rd ok hp kd kv)(hy:rd ok hp y v):
 ∀(p:Nat) (ds:List (D×D)) (es:List MapEntry),rde ok hp ds es→rde ok hp (ds.set p (kd,y)) (es.modify p fun e=>{e with key:=kv,val:=v})
 |_,[],es,h=>by
  simp only[rde] at h;subst h;simp[rde]
 |0,(a,b)::ds,es,h=>by
  simp only[rde] at h;obtain⟨e,r,rfl,h1,h2,h3⟩:=h;simp only[List.set_cons_zero,List.modify_zero_cons,rde];exact⟨_,r,rfl,hk,hy,h3⟩
 |p+1,(a,b)::ds,es,h=>by
  simp only[rde] at h;obtain⟨e,r,rfl,h1,h2,h3⟩:=h;simp only[List.set_cons_succ,List.modify_succ_cons,rde];exact⟨e,_,rfl,h1,h2,rde_set hk hy p ds r h3⟩
theorem Qaao{ok:Nat→Prop}{hp:Nat→Option Obj}{kd y:D}{e:MapEntry}(hk:rd ok hp kd e.key)(hy:rd ok hp y e.val):
 ∀(ds:List (D×D)) (es:List MapEntry),rde ok hp ds es→rde ok hp (ds++[(kd,y)]) (es++[e])
 |[],es,h=>by
  simp only[rde] at h;subst h;simp only[List.nil_append,rde];exact⟨e,[],rfl,hk,hy,rfl⟩
 |(a,b)::ds,es,h=>by
  simp only[rde] at h;obtain⟨e',r,rfl,h1,h2,h3⟩:=h;simp only[List.cons_append,rde];exact⟨e',_,rfl,h1,h2,Qaao hk hy ds r h3⟩
theorem Qpa{ok:Nat→Prop}{hp:Nat→Option Obj}:
 ∀(p:Nat) (ds:List (D×D)) (es:List MapEntry),rde ok hp ds es→rde ok hp (ds.eraseIdx p) (es.eraseIdx p)
 |_,[],es,h=>by
  simp only[rde] at h;subst h;simp[rde]
 |0,(a,b)::ds,es,h=>by
  simp only[rde] at h;obtain⟨e,r,rfl,h1,h2,h3⟩:=h;simpa only[List.eraseIdx_cons_zero] using h3
 |p+1,(a,b)::ds,es,h=>by
  simp only[rde] at h;obtain⟨e,r,rfl,h1,h2,h3⟩:=h;simp only[List.eraseIdx_cons_succ,rde];exact⟨e,_,rfl,h1,h2,Qpa p ds r h3⟩
theorem Qpy(p:Nat)(kv v:Value): ∀(es:List MapEntry),(es.modify p fun e=>{e with key:=kv,val:=v}).map (·.born)=es.map (·.born):=by
 induction p with
 |zero=>intro es;cases es<;>simp
 |succ p ih=>intro es;cases es with
  |nil=>simp
  |cons e es=>simp[ih]
theorem Qpj(a b:ByteArray):(a==b)=decide (a=b):=by rw[beq_toListBytes,Qry]
theorem Qoy{ok ok':Nat→Prop}{hp hp':Nat→Option Obj}: ∀(ks:List KK) (a b:List D) (x y:List Value),fitL ks a=true→fitL ks b=true→rdl ok hp a x→rdl ok' hp' b y→D.beql a b=true→x=y
 |[],[],[],x,y,_,_,h1,h2,_=>by simp only[rdl] at h1 h2;rw[h1,h2]
 |[],_::_,_,_,_,h,_,_,_,_=>by simp[fitL] at h
 |[],[],_::_,_,_,_,h,_,_,_=>by simp[fitL] at h
 |_::_,[],_,_,_,h,_,_,_,_=>by simp[fitL] at h
 |_::_,_::_,[],_,_,_,h,_,_,_=>by simp[fitL] at h
 |k::ks,d::a,d'::b,x,y,hf,hg,h1,h2,hb=>by
  simp only[fitL,Bool.and_eq_true] at hf hg;simp only[rdl] at h1 h2;simp only[D.beql,Bool.and_eq_true] at hb;obtain⟨v,r,rfl,h3,h4⟩:=h1;obtain⟨v',r',rfl,h5,h6⟩:=h2;rw[Qoy ks a b r r' hf.2 hg.2 h4 h6 hb.2];congr 1;rcases Qnu hf.1 h3 with ⟨j,n,e1,rfl,rfl⟩|⟨n,e1,rfl,rfl⟩|⟨n,e1,rfl,rfl⟩<;>
   rcases Qnu hg.1 h5 with ⟨j2,n2,e2,rfl,rfl⟩|⟨n2,e2,rfl,rfl⟩|⟨n2,e2,rfl,rfl⟩<;>rw[e1] at e2<;>cases e2<;>simp_all [D.beq,Qpj]
theorem bits_sc{ok:Nat→Prop}{hp:Nat→Option Obj}{n:Nat}{k:KK}{d:D}{v:Value}(hf:k.fit d=true)(h:rd ok hp d v):Instr.sameBits n v v=true:=by
 rcases Qnu hf h with ⟨j,m,e1,rfl,rfl⟩|⟨m,e1,rfl,rfl⟩|⟨m,e1,rfl,rfl⟩<;>simp[Instr.sameBits,Qpj]
theorem bits_l{ok:Nat→Prop}{hp:Nat→Option Obj}{n:Nat}: ∀(ks:List KK) (a:List D) (x:List Value),fitL ks a=true→rdl ok hp a x→(x.zip x).all (fun (x,y)=>Instr.sameBits n x y)=true
 |[],[],x,_,h=>by simp only[rdl] at h;subst h;rfl
 |[],_::_,_,h,_=>by simp[fitL] at h
 |_::_,[],_,h,_=>by simp[fitL] at h
 |k::ks,d::a,x,hf,h=>by
  simp only[fitL,Bool.and_eq_true] at hf;simp only[rdl] at h;obtain⟨v,r,rfl,h3,h4⟩:=h;simp only[List.zip_cons_cons,List.all_cons,Bool.and_eq_true];exact⟨bits_sc hf.1 h3,bits_l ks a r hf.2 h4⟩
theorem key_stays{P:Program}{w:World}{ok ok':Nat→Prop}{hp hp':Nat→Option Obj}{kt:KT}{a b:D}{x y:Value}(h1:kt.fit a=true)(h2:kt.fit b=true)(h3:rd ok hp a x)(h4:rd ok' hp' b y)(hb:D.beq a b=true):
 (Instr.keyThatStays y x).run P w= .ok x w:=by
 have key:x=y∧Instr.sameBits 10000 x x=true:=by
  cases ha:kt.agg with
  |true=>
   cases a<;>simp only[KT.fit,ha,Bool.false_eq_true] at h1;cases b<;>simp only[KT.fit,ha,Bool.false_eq_true] at h2;simp only[rd] at h3 h4;obtain⟨u,rfl,h3⟩:=h3;obtain⟨v,rfl,h4⟩:=h4;simp only[D.beq] at hb
   have:=Qoy _ _ _ _ _ h1 h2 h3 h4 hb
   refine⟨by rw[Array.toList_inj] at this;rw[this],?_⟩;show (u.size==u.size && (u.toList.zip u.toList).all fun (x,y)=>Instr.sameBits 9999 x y)=true;rw[bits_l _ _ _ h1 h3];simp
  |false=>
   simp only[KT.fit,ha] at h1 h2;have hx:rdl ok hp [a] [x]:=by simp only[rdl];exact⟨x,[],rfl,h3,rfl⟩
   have hy:rdl ok' hp' [b] [y]:=by simp only[rdl];exact⟨y,[],rfl,h4,rfl⟩
   have:=Qoy _ _ _ _ _ h1 h2 hx hy (by simp[D.beql,hb])
   refine⟨by simpa using this,?_⟩;cases hks:kt.ks with
   |nil=>rw[hks] at h1;simp[fitL] at h1
   |cons k r=>
    rw[hks] at h1;simp only[fitL,Bool.and_eq_true] at h1;exact bits_sc h1.1 h3
 obtain⟨rfl,h5⟩:=key;simp[Instr.keyThatStays,h5]
theorem fit_upd{kt:KT}{kd y:D}(hk:kt.fit kd=true): ∀(ds:List (D×D)),(∀e∈ds,kt.fit e.1=true)→ ∀e∈upd ds kd y,kt.fit e.1=true
 |[],_=>by simp[upd,hk]
 |(a,b)::ds,h=>by
  have ih:=fit_upd (y:=y) hk ds (fun e he=>h e (by simp[he]));simp only[upd];cases D.beq kd a with
  |true=>
   simp only[cond_true,List.mem_cons];rintro e (rfl|he)
   ·exact hk
   ·exact h e (by simp[he])
  |false=>
   simp only[cond_false,List.mem_cons];rintro e (rfl|he)
   ·exact h _ (by simp)
   ·exact ih e he
theorem fit_del{kt:KT}{kd:D}: ∀(ds:List (D×D)),(∀e∈ds,kt.fit e.1=true)→ ∀e∈del ds kd,kt.fit e.1=true
 |[],_=>by simp[del]
 |(a,b)::ds,h=>by
  have ih:=fit_del (kd:=kd) ds (fun e he=>h e (by simp[he]));simp only[del];cases D.beq kd a with
  |true=>
   simp only[cond_true];intro e he;exact h e (by simp[he])
  |false=>
   simp only[cond_false,List.mem_cons];rintro e (rfl|he)
   ·exact h _ (by simp)
   ·exact ih e he
section
variable {P:Program}{tm:List (Nat×AV)}{h:Nat→Option Ent}{nx:Nat}{o:Oper}{K:Kont}
theorem map_op{n:Nat}{kt:KT}{es es':List (D×D)}(hn:h n=some (true,.map kt es))(hfit:(∀e∈es,kt.fit e.1=true)→ ∀e∈es',kt.fit e.1=true)
 (hrun: ∀(S:Env) (a:Act) (b:Nat) (ents:Array MapEntry) (clock:Nat),(∀x∈o.op.operands,conc S (evO tm x) (a.eval x))→(∀v,conc S (.mp n) v→v= .map (some b))→
  (∀e∈es,kt.fit e.1=true)→S.w.heap[b]? =some (.map ents clock)→rde S.ok S.hp es ents.toList→(ents.toList.map (·.born)).Nodup→(∀e∈ents.toList,e.born<clock)→
  ∃ents' clock' w',((execOp a.eval o).run P S.w= .ok .skip w'∨ ∃v,(execOp a.eval o).run P S.w= .ok (.value v) w')∧w'.heap=S.w.heap.setIfInBounds b (.map ents' clock')∧w'.os=S.w.os∧w'.tape=S.w.tape∧w'.output=S.w.output∧
   rde S.ok S.hp es' ents'.toList∧(ents'.toList.map (·.born)).Nodup∧(∀e∈ents'.toList,e.born<clock'))
 (hk:K .any {use:=[n],kill:=[n],new:=[(n,(true,.map kt es'))]}):Qbp P tm h nx o K:=by
 refine⟨_,_,OpT.one (u:=[n]) (ks:=[n]) (m:=n) (cnt:=0) (.inr ⟨rfl,by simp,by rw[hn];simp⟩) ?_,hk⟩;intro C S a hW hu _ _ hops;have hS:S.h n=some (true,.map kt es):=(hu n (by simp)).trans hn;have ho1:=hW.obj _ _ hS;simp only[objc] at ho1;obtain⟨l,ents,clock,hl,hfs,hb,hes,hnd,hcl⟩:=ho1;obtain⟨ents',clock',w',h1,h2,h3,h4,h5,h6,h7,h8⟩:=hrun S a l.b ents clock hops (by
  intro v hv;simp only[conc] at hv;obtain⟨l',hl',hv'⟩:=hv.2 _ hS;rw[hl] at hl';obtain rfl:=Option.some.inj hl';exact hv') hfs hb hes hnd hcl
 have hone:Qjb S n (.map kt es') (some l) [n] w':=Qjw hW hS hl h2 h3 h4 h5 rfl rfl;have hfin:Pres (fun n'=>S.h n≠none∨n'≠n) S (S.one n (.map kt es') (some l) [n] w')→objc (S.one n (.map kt es') (some l) [n] w') (some l) (.map kt es'):=by
  intro hp;simp only[objc];exact⟨l,ents',clock',rfl,hfit hfs,Qpq (hW.loc n _ l hS hl).1 h2,Qc6 hp.ok _ _ h6,h7,h8⟩
 rcases h1 with h1|⟨v,h1⟩
 ·exact⟨undef,w',some l,.inr ⟨h1,rfl⟩,hone,fun hp=>⟨hfin hp,by simp only[conc]⟩⟩
 ·exact⟨v,w',some l,.inl h1,hone,fun hp=>⟨hfin hp,by simp only[conc]⟩⟩
theorem Qjd{T:TypeId}{m k v:Operand}{ti:TI}{n:Nat}{kd vd:D}(ho:o.op= .mapUpdate T m k v)(hT:tI P T=some ti)(hm:evO tm m= .mp n)(hkd:evO tm k= .im kd)(hvd:evO tm v= .im vd)(hk:muK P h n kd vd K ti.kind):Qbp P tm h nx o K:=by
 cases hf:ti.kind<;>rw[hf] at hk<;>try exact hk.elim
 rename_i kT e;have hu:=Qqw hT hf;simp only[muK] at hk;cases hkt:keyT P kT with
 |none=>rw[hkt] at hk;exact hk.elim
 |some kt=>
 rw[hkt] at hk;simp only[muKt] at hk;cases hn:h n with
 |none=>rw[hn] at hk;exact hk.elim
 |some ent=>
 rw[hn] at hk;obtain⟨mu,ent⟩:=ent;cases mu<;>cases ent<;>try exact hk.elim
 rename_i kt' es;simp only[muObj] at hk;obtain⟨rfl,hfit,hk⟩:=hk;refine map_op hn (fit_upd hfit es) ?_ hk;intro S a b ents clock hops hvm hfs hb hes hnd hcl;have h1:=hvm _ (by have:=hops m (by rw[ho];simp[Op.operands]);rwa [hm] at this);have h2:=hops k (by rw[ho];simp[Op.operands]);have h3:=hops v (by rw[ho];simp[Op.operands]);rw[hkd] at h2;rw[hvd] at h3;simp only[conc] at h2 h3;obtain⟨r,h4,h5⟩:=Qfw (w:=S.w) hkt hfit h2 es ents.toList hfs hes;have hck:=Qit (P:=P) (w:=S.w) (em:=false) 5 10000 (by omega) kT kt' hkt kd _ hfit h2;cases r with
 |none=>
  obtain⟨w',h6,h7⟩:=Qiy (P:=P) (w:=S.w) (b:=b) (es:=ents) (es':=ents.push {key:=a.eval k,val:=a.eval v,born:=clock}) (clock:=clock) (c':=clock+1) hb;refine⟨_,_,w',.inl ?_,h7.1,h7.2.1,h7.2.2.1,h7.2.2.2,?_,?_,?_⟩
  ·simp only[execOp,ho,h1];simp[Instr.mapUpdate,run_underlying hu,Qcc (w:=S.w) hb,hck,h4,h6]
  ·rw[h5.2.1,Array.toList_push];exact Qaao h2 h3 _ _ hes
  ·rw[Array.toList_push,List.map_append,List.nodup_append];refine⟨hnd,by simp,?_⟩;intro x hx y hy;simp only[List.map_cons,List.map_nil,List.mem_singleton] at hy;subst hy;simp only[List.mem_map] at hx;obtain⟨e',he',rfl⟩:=hx
   have:=hcl e' he'
   omega
  ·intro e' he';rw[Array.toList_push,List.mem_append,List.mem_singleton] at he';rcases he' with he'|rfl
   ·have:=hcl e' he';omega
   ·simp
 |some r=>
  obtain⟨j,v0⟩:=r;obtain⟨p,k',y,h6,h7,h8,h9,h10,h11,h12⟩:=h5;rw[Nat.zero_add] at h6;subst h6;have hj: ∃e',ents[j]? =some e'∧rd S.ok S.hp k' e'.key:=by
   have key: ∀(ds:List (D×D)) (es:List MapEntry) (p:Nat),rde S.ok S.hp ds es→ds[p]? =some (k',y)→ ∃e',es[p]? =some e'∧rd S.ok S.hp k' e'.key:=by
    intro ds;induction ds with
    |nil=>intro es p _ h;simp at h
    |cons d ds ih=>
     intro es p h hp;obtain⟨d1,d2⟩:=d;simp only[rde] at h;obtain⟨e',r,rfl,g1,g2,g3⟩:=h;cases p with
     |zero=>simp at hp;obtain⟨rfl,rfl⟩:=hp;exact⟨e',rfl,g1⟩
     |succ p=>simpa using ih r p g3 (by simpa using hp)
   obtain⟨e',g1,g2⟩:=key es ents.toList j hes h7;exact⟨e',by simpa using g1,g2⟩
  obtain⟨e',he',hke⟩:=hj;have hst:=key_stays (P:=P) (w:=S.w) hfit (hfs (k',y) (List.mem_of_getElem? h7)) h2 hke h8;obtain⟨w',h13,h14⟩:=Qiy (P:=P) (w:=S.w) (b:=b) (es:=ents) (es':=ents.modify j fun e=>{e with key:=a.eval k,val:=a.eval v}) (clock:=clock) (c':=clock) hb;refine⟨_,_,w',.inl ?_,h14.1,h14.2.1,h14.2.2.1,h14.2.2.2,?_,?_,?_⟩
  ·simp only[execOp,ho,h1];simp[Instr.mapUpdate,run_underlying hu,Qcc (w:=S.w) hb,hck,h4,he',hst,h13]
  ·rw[h11,Array.toList_modify];exact rde_set h2 h3 j _ _ hes
  ·rw[Array.toList_modify,Qpy];exact hnd
  ·intro x hx
   have:x.born∈(ents.modify j fun e=>{e with key:=a.eval k,val:=a.eval v}).toList.map (·.born):=List.mem_map_of_mem hx
   rw[Array.toList_modify,Qpy,List.mem_map] at this;obtain⟨z,hz,hzx⟩:=this;rw[←hzx];exact hcl z hz
theorem Qabh{T:TypeId}{m k:Operand}{c:Call}{rest:List TypeId}(ho:o.op= .call c)(hcal:c.callee= .builtin .delete)(hargs:c.args= #[m,k])(hty:c.argTypes.toList=T::rest)
 (hk:Qax (Qni P h K (evO tm m) (evO tm k)) (tI P T)):Qbp P tm h nx o K:=by
 cases hT:tI P T with
 |none=>rw[hT] at hk;exact hk.elim
 |some ti=>
 rw[hT] at hk;simp only[Qax,Qni] at hk;cases hm:evO tm m<;>rw[hm] at hk<;>try exact hk.elim
 rename_i n;cases hkd:evO tm k<;>rw[hkd] at hk<;>try exact hk.elim
 rename_i kd;simp only at hk;cases hf:ti.kind<;>rw[hf] at hk<;>try exact hk.elim
 rename_i kT e;have hu:=Qqw hT hf;simp only[deK] at hk;cases hkt:keyT P kT with
 |none=>rw[hkt] at hk;exact hk.elim
 |some kt=>
 rw[hkt] at hk;simp only[deKt] at hk;cases hn:h n with
 |none=>rw[hn] at hk;exact hk.elim
 |some ent=>
 rw[hn] at hk;obtain⟨mu,ent⟩:=ent;cases mu<;>cases ent<;>try exact hk.elim
 rename_i kt' es;simp only[deObj] at hk;obtain⟨rfl,hfit,hk⟩:=hk;have ht0:c.argTypes[0]? =some T:=by
  have:c.argTypes.toList[0]? =some T:=by rw[hty];rfl
  simpa using this
 refine map_op hn (fit_del es) ?_ hk;intro S a b ents clock hops hvm hfs hb hes hnd hcl;have h1:=hvm _ (by have:=hops m (by rw[ho];simp[Op.operands,Call.operands,hargs,hcal]);rwa [hm] at this);have h2:=hops k (by rw[ho];simp[Op.operands,Call.operands,hargs,hcal]);rw[hkd] at h2;simp only[conc] at h2;obtain⟨r,h4,h5⟩:=Qfw (w:=S.w) hkt hfit h2 es ents.toList hfs hes;have hck:=Qit (P:=P) (w:=S.w) (em:=ents.isEmpty) 5 10000 (by omega) kT kt' hkt kd _ hfit h2;cases r with
 |none=>
  obtain⟨w',h6,h7⟩:=Qiy (P:=P) (w:=S.w) (b:=b) (es:=ents) (es':=ents) (clock:=clock) (c':=clock) hb;refine⟨_,_,w',.inr ⟨.tuple #[],?_⟩,h7.1,h7.2.1,h7.2.2.1,h7.2.2.2,by rw[h5.2.2];exact hes,hnd,hcl⟩;simp only[execOp,ho,resolve,hcal,hargs,Sem.run_bind,Sem.run_pure,Result.andThen_ok,invoke,builtin];simp[Builtin.delete_,ht0,h1,run_underlying hu,Qcc (w:=S.w) hb,hck,h4,h6]
 |some r=>
  obtain⟨j,v0⟩:=r;obtain⟨p,k',y,h6,h7,h8,h9,h10,h11,h12⟩:=h5;rw[Nat.zero_add] at h6;subst h6;obtain⟨w',h13,h14⟩:=Qiy (P:=P) (w:=S.w) (b:=b) (es:=ents) (es':=ents.eraseIdxIfInBounds j) (clock:=clock) (c':=clock) hb;have htl:(ents.eraseIdxIfInBounds j).toList=ents.toList.eraseIdx j:=by simp
  refine⟨_,_,w',.inr ⟨.tuple #[],?_⟩,h14.1,h14.2.1,h14.2.2.1,h14.2.2.2,?_,?_,?_⟩
  ·simp only[execOp,ho,resolve,hcal,hargs,Sem.run_bind,Sem.run_pure,Result.andThen_ok,invoke,builtin];simp[Builtin.delete_,ht0,h1,run_underlying hu,Qcc (w:=S.w) hb,hck,h4,h13]
  ·rw[h12,htl];exact Qpa j _ _ hes
  ·rw[htl];exact hnd.sublist ((List.eraseIdx_sublist _ _).map _)
  ·intro x hx;rw[htl] at hx;exact hcl x ((List.eraseIdx_sublist _ _).mem hx)
end
end Go.Ae
namespace Go.Ae
theorem Qih{ok:Nat→Prop}{hp:Nat→Option Obj}{k:Nat}: ∀(l:Nat) (rows:List (List D)) (vs:List Value),rdr ok hp k rows vs→rdr ok hp k (rows.drop l) (vs.drop (l*k))
 |0,rows,vs,h=>by simpa using h
 |l+1,[],vs,_=>by simp only[List.drop_nil,rdr]
 |l+1,r::rs,vs,h=>by
  simp only[rdr] at h
  have:=Qih l rs _ h.2.2
  rw[List.drop_drop] at this;simp only[List.drop_succ_cons];rwa [show (l+1)*k=k+l*k by rw[Nat.succ_mul];omega]
theorem Qgj{ok:Nat→Prop}{hp:Nat→Option Obj}{k:Nat}: ∀(n:Nat) (rows:List (List D)) (vs:List Value),rdr ok hp k rows vs→rdr ok hp k (rows.take n) vs
 |0,rows,vs,_=>by simp only[List.take_zero,rdr]
 |n+1,[],vs,_=>by simp only[List.take_nil,rdr]
 |n+1,r::rs,vs,h=>by
  simp only[rdr] at h;simp only[List.take_succ_cons,rdr];exact⟨h.1,h.2.1,Qgj n rs _ h.2.2⟩
section
variable {P:Program}{tm:List (Nat×AV)}{h:Nat→Option Ent}{nx:Nat}{o:Oper}{K:Kont}
theorem bdV_eq{S:Env}{a:Act}{x:Option Operand}{d:Nat}{l:Int}(hb:bdV d (evOo tm x)=some l)(hops: ∀y,x=some y→conc S (evO tm y) (a.eval y)):
 (x=none∧l=d)∨ ∃y k,x=some y∧a.eval y= .int k l:=by
 cases x with
 |none=>simp only[evOo,bdV,Option.some.injEq] at hb;exact .inl ⟨rfl,hb.symm⟩
 |some y=>
  right;have hc:=hops y rfl;simp only[evOo] at hb;cases hx:evO tm y<;>rw[hx] at hb<;>simp only[bdV,reduceCtorEq] at hb;rename_i d;cases d<;>simp only[reduceCtorEq,Option.some.injEq] at hb;rename_i k n;subst hb;rw[hx] at hc;simp only[conc,rd] at hc;exact⟨y,k,rfl,hc⟩
theorem Qq1{S:Env}{a:Act}{lo hi:Option Operand}{l m:Int}{len cap:Nat}{isS:Bool}(hlo:bdV 0 (evOo tm lo)=some l)(hhi:bdV len (evOo tm hi)=some m)
 (h0:0≤l)(hlm:l≤m)(hm:m≤(len:Int))(hcap:len≤cap)(hops: ∀y,lo=some y∨hi=some y→conc S (evO tm y) (a.eval y))(w:World):
 (Instr.sliceBounds isS len cap (lo.map a.eval) (hi.map a.eval) none).run P w= .ok (l.toNat,m.toNat,cap) w:=by
 have h1:=bdV_eq hlo (fun y hy=>hops y (.inl hy));have h2:=bdV_eq hhi (fun y hy=>hops y (.inr hy));have hmc:m≤(cap:Int):=by omega
 unfold Instr.sliceBounds;rcases h1 with ⟨rfl,rfl⟩|⟨y,k,rfl,hy⟩<;>rcases h2 with ⟨rfl,rfl⟩|⟨z,k',rfl,hz⟩
 ·simp
 ·simp[Instr.sliceBound,hz,asIntOf,hmc,show (0:Int)≤m by omega]
 ·simp[Instr.sliceBound,hy,asIntOf,h0,hlm]
 ·simp only[Option.map_some,Sem.run_bind,Sem.run_pure,Result.andThen_ok];have hmx:((m.toNat:Nat):Int)=m:=by omega
  simp[Instr.sliceBound,hy,hz,asIntOf,h0,hlm,hmc,show (0:Int)≤m by omega,show ¬(max m 0<l) by omega]
theorem Qfg{T e:TypeId}{te:TI}(hu:P.underlying T=some (.slice e))(hE:tI P e=some te){S:Env}{a:Act}{x:Operand}{lo hi:Option Operand}{l m:Int}{len cap:Nat}{base:Option Addr}
 (ho:o.op= .slice T x lo hi none)(hx:a.eval x= .slice base len cap)(hlo:bdV 0 (evOo tm lo)=some l)(hhi:bdV len (evOo tm hi)=some m)
 (h0:0≤l)(hlm:l≤m)(hm:m≤(len:Int))(hcap:len≤cap)(hops: ∀y∈o.op.operands,conc S (evO tm y) (a.eval y))(w:World):
 (execOp a.eval o).run P w= .ok (.value (.slice (if cap=l.toNat then base else base.map (·.add (l.toNat*te.size))) (m.toNat - l.toNat) (cap - l.toNat))) w:=by
 have hb:=Qq1 (P:=P) (isS:=true) hlo hhi h0 hlm hm hcap (fun y hy=>hops y (by rw[ho];rcases hy with rfl|rfl<;>simp[Op.operands])) w;have hu':(underlying T).run P w= .ok (.slice e) w:=by simp[underlying,hu]
 simp only[execOp,ho,hx,Instr.sliceAt,Instr.slice,Sem.run_bind,hu',Result.andThen_ok,Option.map_none,hb,Qca hE,Sem.run_pure]
theorem snd_slice{T:TypeId}{x:Operand}{lo hi:Option Operand}(ho:o.op= .slice T x lo hi none)(hk:Qax (Qsm P h nx (evO tm x) (evOo tm lo) (evOo tm hi) K) (tI P T)):Qbp P tm h nx o K:=by
 have hopx:x∈o.op.operands:=by rw[ho];simp[Op.operands]
 cases hT:tI P T with
 |none=>rw[hT] at hk;exact hk.elim
 |some ti=>
 rw[hT] at hk;simp only[Qax,Qsm] at hk;cases hf:ti.kind<;>rw[hf] at hk<;>try exact hk.elim
 case str=>
  have hu:=tk_str hT hf;simp only[slK] at hk;cases hx:evO tm x<;>rw[hx] at hk<;>try exact hk.elim
  rename_i d;cases d<;>try exact hk.elim
  rename_i s;simp only[slKs] at hk;cases hlo:bdV 0 (evOo tm lo) with
  |none=>rw[hlo] at hk;exact hk.elim
  |some l=>
  cases hhi:bdV s.size (evOo tm hi) with
  |none=>rw[hlo,hhi] at hk;exact hk.elim
  |some m=>
  rw[hlo,hhi] at hk;simp only[slStr] at hk;obtain⟨h0,hlm,hm,hk⟩:=hk;refine⟨_,_,OpT.pure (u:=[]) ?_,hk⟩;intro C S a hW _ hops;have h1:=hops x hopx;rw[hx] at h1;simp only[conc,rd] at h1;refine⟨.string (s.extract l.toNat m.toNat),?_,by simp only[conc,rd]⟩;have hb:=Qq1 (P:=P) (isS:=false) hlo hhi h0 hlm hm (Nat.le_refl _) (fun y hy=>hops y (by rw[ho];rcases hy with rfl|rfl<;>simp[Op.operands])) S.w;have hu':(underlying T).run P S.w= .ok .string S.w:=by simp[underlying,hu]
  simp only[execOp,ho,h1,Instr.sliceAt,Instr.slice,Sem.run_bind,hu',Result.andThen_ok,Option.map_none,Option.isSome_none,Bool.false_eq_true,if_false,hb,Sem.run_pure]
 case slice e=>
 have hu:=Qdq hT hf;simp only[slK] at hk;cases hE:tI P e with
 |none=>rw[hE] at hk;exact hk.elim
 |some te=>
 rw[hE] at hk;simp only[Qax] at hk;cases hx:evO tm x<;>rw[hx] at hk<;>try exact hk.elim
 case im d=>
  cases d<;>try exact hk.elim
  rename_i nz k rows;simp only[slE] at hk;obtain⟨hks,hk⟩:=hk;cases hlo:bdV 0 (evOo tm lo) with
  |none=>rw[hlo] at hk;exact hk.elim
  |some l=>
  cases hhi:bdV rows.length (evOo tm hi) with
  |none=>rw[hlo,hhi] at hk;exact hk.elim
  |some m=>
  rw[hlo,hhi] at hk;simp only[slIm] at hk;obtain⟨h0,hlm,hm,hk⟩:=hk;refine⟨_,_,OpT.pure (u:=[]) ?_,hk⟩;intro C S a hW _ hops;have h1:=hops x hopx;rw[hx] at h1;simp only[conc,rd] at h1;have hlen:((rows.drop l.toNat).take (m - l).toNat).length=m.toNat - l.toNat:=by
   rw[List.length_take,List.length_drop];omega
  rcases h1 with ⟨h0',rfl⟩|⟨b,p,cap,vs,U,fr,h1,h2,h3,h4,h5,h6,h7⟩
  ·simp only[List.length_nil] at hm hhi;obtain⟨ao,h1⟩:=Qoc h0';refine⟨_,Qfg hu hE ho h1 hlo hhi h0 hlm hm (Nat.le_refl 0) hops S.w,?_⟩;have e1:l.toNat=0:=by omega
   have e2:m.toNat=0:=by omega
   simp only[conc,rd,e1,e2];refine .inl ⟨?_,by simp⟩;cases ao with
   |none=>exact .inl (by simp)
   |some ad=>exact .inr ⟨rfl,ad,by simp⟩
  ·refine⟨_,Qfg hu hE ho h1 hlo hhi h0 hlm hm h3 hops S.w,?_⟩;simp only[conc,rd];right;by_cases hc:cap=l.toNat
   ·refine⟨b,p,cap - l.toNat,vs,U,fr,by rw[if_pos hc,hlen],by simp,by rw[hlen];omega,by rw[hlen];exact Nat.le_trans (by omega) h4,h5,h6,?_⟩
    have:(rows.drop l.toNat).take (m - l).toNat=[]:=List.eq_nil_of_length_eq_zero (by rw[hlen];omega)
    rw[this];simp only[rdr]
   ·refine⟨b,p+l.toNat*te.size,cap - l.toNat,vs,U,fr,by rw[if_neg hc,hlen];simp[Addr.add],by simp,by rw[hlen];omega,by rw[hlen];omega,h5,h6,?_⟩;rcases hks with hks|hks
    ·subst hks
     have:=Qgj (m - l).toNat _ _ (Qih l.toNat _ _ h7)
     rwa [List.drop_drop] at this
    ·subst hks;simp only[List.drop_nil,List.take_nil,rdr]
 case own n=>
  simp only[slE] at hk;cases hn:h n with
  |none=>rw[hn] at hk;exact hk.elim
  |some ent=>
  rw[hn] at hk;obtain⟨mu,ent⟩:=ent;cases ent<;>try exact hk.elim
  rename_i U k rows;simp only[slOwn] at hk;obtain⟨hks,hk⟩:=hk;cases hlo:bdV 0 (evOo tm lo) with
  |none=>rw[hlo] at hk;exact hk.elim
  |some l=>
  cases hhi:bdV rows.length (evOo tm hi) with
  |none=>rw[hlo,hhi] at hk;exact hk.elim
  |some m=>
  rw[hlo,hhi] at hk;simp only[slWin] at hk;obtain⟨h0,hlm,hm,mv,hk⟩:=hk;have hlen:((rows.drop l.toNat).take (m - l).toNat).length=m.toNat - l.toNat:=by
   rw[List.length_take,List.length_drop];omega
  cases mv with
  |false=>
   simp only[Qub] at hk;refine⟨_,_,OpT.pure (u:=[n]) ?_,hk⟩;intro C S a hW hu' hops;have h1:=hops x hopx;rw[hx] at h1;simp only[conc] at h1;have hS:=(hu' n (by simp)).trans hn;have h1:=h1.2 _ hS;have hob:=hW.obj _ _ hS;simp only[objc] at hob;cases hl0:S.ρ n with
   |none=>
    rw[hl0] at h1 hob;obtain⟨_,hob⟩:=hob;subst hob;simp only[List.length_nil] at hm hhi;refine⟨_,Qfg hu hE ho h1 hlo hhi h0 hlm hm (Nat.le_refl 0) hops S.w,?_⟩;simp only[conc];refine⟨rfl,fun e' he'=> ?_⟩;rw[hl0];unfold winV;have e1:l.toNat=0:=by omega
    have e2:m.toNat=0:=by omega
    have e3:(m - l).toNat=0:=by omega
    simp[e1,e2,e3]
   |some lc=>
    rw[hl0] at h1 hob;obtain⟨g0,g1,vs,g2,g3,g4⟩:=hob;simp only[AObj.len] at h1;refine⟨_,Qfg hu hE ho h1 hlo hhi h0 hlm hm g1 hops S.w,?_⟩;simp only[conc];refine⟨rfl,fun e' he'=> ?_⟩;rw[hS] at he';obtain rfl:=Option.some.inj he';rw[hl0];unfold winV;simp only[AObj.esz,AObj.len];by_cases hc:lc.cap=l.toNat
    ·rw[if_pos hc];exact⟨lc.p,lc.cap - l.toNat,by congr 1;omega,by omega,fun hne=>absurd (show (m - l).toNat=0 by omega) hne,by omega⟩
    ·rw[if_neg hc];exact⟨lc.p+l.toNat*te.size,lc.cap - l.toNat,by rw[show m.toNat - l.toNat=(m - l).toNat by omega];simp[Addr.add],by omega,fun _=>by rw[hks],by omega⟩
  |true=>
   simp only[Qub] at hk;obtain⟨rfl,hk⟩:=hk;refine⟨_,_,OpT.one (u:=[n]) (ks:=[n]) (.inl ⟨rfl,rfl⟩) ?_,hk⟩;intro C S a hW hu' hfr hnms hops;have h1:=hops x hopx;rw[hx] at h1;simp only[conc] at h1;have hS:=(hu' n (by simp)).trans hn;have h1:=h1.2 _ hS;have hob:=hW.obj _ _ hS;simp only[objc] at hob;have hnx:=hfr rfl;have hnn:nx≠n:=fun h'=>by subst h';rw[hS] at hnx;cases hnx
   cases hl0:S.ρ n with
   |none=>
    rw[hl0] at h1 hob;obtain⟨_,hob⟩:=hob;subst hob;simp only[List.length_nil] at hm hhi;refine⟨_,S.w,none,.inl (Qfg hu hE ho h1 hlo hhi h0 hlm hm (Nat.le_refl 0) hops S.w),Ql6 hnx (fun n f hf=>hnms n f hf rfl),?_⟩;intro hp;have e1:l.toNat=0:=by omega
    have e2:m.toNat=0:=by omega
    refine⟨by simp[objc],?_⟩;simp only[conc];refine⟨rfl,fun e' he'=> ?_⟩;simp[Env.one,e1,e2]
   |some lc=>
    rw[hl0] at h1 hob;obtain⟨g0,g1,vs,g2,g3,g4⟩:=hob;simp only[AObj.len] at h1;obtain⟨q1,q2⟩:=hW.loc n _ lc hS hl0;have hone: ∀(p cap:Nat),Qjb S nx (.arr U k ((rows.drop l.toNat).take (m - l).toNat)) (some ⟨lc.b,p,cap⟩) [n] S.w:=by
     intro p cap;refine⟨rfl,rfl,rfl,Nat.le_refl _,fun _ _ _=>rfl,.inr hnx,?_,?_,fun n f hf _=>hnms n f hf rfl⟩
     ·intro lo hlo;obtain rfl:=Option.some.inj hlo;exact⟨q1,.inr ⟨n,_,lc,by simp,hS,hl0,rfl⟩⟩
     ·intro f hf;rw[hnx] at hf;cases hf
    have hhp: ∀(e:AObj) (l:Option Loc),(S.one nx e l [n] S.w).hp=S.hp:=fun _ _=>rfl
    by_cases hc:lc.cap=l.toNat
    ·refine⟨_,S.w,some ⟨lc.b,lc.p,lc.cap - l.toNat⟩,.inl (Qfg hu hE ho h1 hlo hhi h0 hlm hm g1 hops S.w),hone _ _,?_⟩;intro hp;have hnil:(rows.drop l.toNat).take (m - l).toNat=[]:=List.eq_nil_of_length_eq_zero (by rw[hlen];omega);constructor
     ·simp only[objc,hhp];rw[hnil];refine⟨by simp,by simp,vs,g2,?_,by simp only[rdr]⟩
      have:lc.cap - l.toNat=0:=by omega
      rw[this];omega
     ·simp only[conc];refine⟨rfl,fun e' he'=> ?_⟩;simp only[Env.one,if_true,Option.some.injEq] at he'⊢;subst he';simp only[AObj.len,hlen];rw[if_pos hc]
    ·refine⟨_,S.w,some ⟨lc.b,lc.p+l.toNat*te.size,lc.cap - l.toNat⟩,.inl (Qfg hu hE ho h1 hlo hhi h0 hlm hm g1 hops S.w),hone _ _,?_⟩;intro hp;constructor
     ·simp only[objc,hhp];rw[hlen];refine⟨by omega,by omega,vs,g2,?_,?_⟩
      ·subst hks;have e1:l.toNat*te.size+(lc.cap - l.toNat)*te.size=lc.cap*te.size:=by rw[←Nat.add_mul];congr 1;omega
       omega
      ·subst hks
       have:=Qgj (m - l).toNat _ _ (Qih l.toNat _ _ g4)
       rw[List.drop_drop] at this;exact this
     ·simp only[conc];refine⟨rfl,fun e' he'=> ?_⟩;simp only[Env.one,if_true,Option.some.injEq] at he'⊢;subst he';simp only[AObj.len,hlen];rw[if_neg hc];simp[Addr.add]
end
end Go.Ae
namespace Go.Ae
theorem Qta{ok:Nat→Prop}{hp:Nat→Option Obj}{k:Nat}: ∀(r1 r2:List (List D)) (L M:List Value),rdr ok hp k r1 L→L.length=r1.length*k→rdr ok hp k r2 M→rdr ok hp k (r1++r2) (L++M)
 |[],r2,L,M,_,hl,h2=>by
  simp only[List.length_nil,Nat.zero_mul,List.length_eq_zero_iff] at hl;subst hl;simpa using h2
 |r::rs,r2,L,M,h1,hl,h2=>by
  simp only[rdr] at h1;simp only[List.length_cons,Nat.succ_mul] at hl;simp only[List.cons_append,rdr];refine⟨h1.1,Qoe _ _ _ h1.2.1,?_⟩;rw[List.drop_append_of_le_length (by omega)];exact Qta rs r2 _ _ h1.2.2 (by rw[List.length_drop];omega) h2
theorem rdr_rows{ok:Nat→Prop}{hp:Nat→Option Obj}{k a:Nat}{rows src:List (List D)}{B L:List Value}(h:rdr ok hp k rows B)(hB:rows.length*k≤B.length)(h2:rdr ok hp k src L)(hL:L.length=src.length*k)
 (ha:a+src.length≤rows.length):rdr ok hp k (rows.take a++src++rows.drop (a+src.length)) (Qa5 B (a*k) L):=by
 unfold Qa5;have hak:a*k≤rows.length*k:=Nat.mul_le_mul_right _ (by omega);have h1:rdr ok hp k (rows.take a) (B.take (a*k)):=by
  have:=Qrl (rows.take a) B (Qgj a _ _ h) (by rw[List.length_take];have:=Nat.mul_le_mul_right k (Nat.min_le_right a rows.length);omega)
  rwa [List.length_take,show min a rows.length=a by omega] at this
 refine Qta _ _ _ _ (Qta _ _ _ _ h1 (by rw[List.length_take,List.length_take,show min a rows.length=a by omega];omega) h2) ?_ ?_
 ·simp only[List.length_append,List.length_take];rw[show min a rows.length=a by omega,show min (a*k) B.length=a*k by omega,hL,Nat.add_mul]
 ·have:=Qih (a+src.length) _ _ h
  rwa [Nat.add_mul,←hL] at this
def dstV(S:Env)(o a n k:Nat)(rows:List (List D))(v:Value):Prop:=
 (v= .slice none 0 0∧rows=[]∧n=0∧S.ρ o=none)∨ ∃l p cp,S.ρ o=some l∧v= .slice (some ⟨l.b,p,none⟩) n cp∧(n≠0→p=l.p+a*k)∧a+n≤rows.length
section
variable {P:Program}{tm:List (Nat×AV)}{h:Nat→Option Ent}{nx:Nat}{o:Oper}{K:Kont}
theorem Qacz{S:Env}{m:Nat}{f e:AObj}(hm:S.h m=some (true,f))(hlo: ∀l,S.ρ m=some l→l.b<S.w.heap.size)(hz:e.esz=f.esz)(hl:e.len=f.len):Qjb S m e (S.ρ m) [m] S.w:=by
 refine⟨rfl,rfl,rfl,Nat.le_refl _,fun _ _ _=>rfl,.inl (by simp),?_,?_,?_⟩
 ·intro lo hlo';exact⟨hlo lo hlo',.inr ⟨m,f,lo,by simp,hm,hlo',rfl⟩⟩
 ·intro g hg;rw[hm] at hg;obtain rfl:=Option.some.inj hg;exact⟨rfl,hz,hl⟩
 ·intro n g _ hnone;rw[hm] at hnone;cases hnone
theorem wr_rows{C:Ctx}{S:Env}(hW:Wf C S){m T k a n:Nat}{rows:List (List D)}(hS:S.h m=some (true,.arr T k rows)){base:Option Addr}{dl dc:Nat}(hd:dstV S m a n k rows (.slice base dl dc)){src:List (List D)}{L:List Value}
 (hm:src.length≤n)(hL:L.length=src.length*k)(hr:rdr S.ok S.hp k src L)(h1: ∀v∈L,v.oneCell'=true):
 ∃w',((match base with|some a=>storeCells a L|none=>pure ()):Sem Unit).run P S.w= .ok () w'∧Qjb S m (.arr T k (rows.take a++src++rows.drop (a+src.length))) (S.ρ m) [m] w'∧
  (Pres (fun n'=>S.h m≠none∨n'≠m) S (S.one m (.arr T k (rows.take a++src++rows.drop (a+src.length))) (S.ρ m) [m] w')→objc (S.one m (.arr T k (rows.take a++src++rows.drop (a+src.length))) (S.ρ m) [m] w') (S.ρ m) (.arr T k (rows.take a++src++rows.drop (a+src.length)))):=by
 have hob:=hW.obj _ _ hS;by_cases hs:src=[]
 ·subst hs;simp only[List.length_nil,Nat.zero_mul,List.length_eq_zero_iff] at hL;subst hL;have e:rows.take a++([]:List (List D))++rows.drop (a+([]:List (List D)).length)=rows:=by simp
  rw[e];refine⟨S.w,by cases base<;>simp[storeCells],Qacz hS (fun l hl=>(hW.loc m _ l hS hl).1) rfl rfl,fun hp=> ?_⟩;exact Qbr hp (fun _ _=>rfl) _ (by simp[AObj.nms]) hob
 ·have hsl:0<src.length:=List.length_pos_iff.2 hs;rcases hd with ⟨_,_,rfl,_⟩|⟨l,p,cp,hl,hv,hp,ha⟩
  ·omega
  ·simp only[Value.slice.injEq] at hv;obtain⟨rfl,rfl,rfl⟩:=hv;have hp:=hp (by omega);subst hp;rw[hl] at hob;simp only[objc] at hob;obtain⟨g0,g1,vs,g2,g3,g4⟩:=hob;have hcap:rows.length*k≤l.cap*k:=Nat.mul_le_mul_right _ g1;have hak:(a+src.length)*k≤rows.length*k:=Nat.mul_le_mul_right _ (by omega);rw[Nat.add_mul] at hak;have hvs:vs.toList.length=vs.size:=Array.length_toList;obtain⟨w',r1,r2,r3,r4,r5⟩:=Qf9 (P:=P) (w:=S.w) (b:=l.b) (p:=l.p+a*k) (T:=T) L 0 vs h1 (by omega) g2;have hlen:(rows.take a++src++rows.drop (a+src.length)).length=rows.length:=by simp;omega
   rw[hl];refine⟨w',r1,Qjw hW hS hl r2 r3 r4 r5 rfl hlen,fun hpr=> ?_⟩;simp only[objc];rw[hlen];refine⟨g0,g1,_,Qpq (hW.loc m _ l hS hl).1 r2,?_,?_⟩
   ·simp only[List.size_toArray,Qa5,List.length_append,List.length_take,List.length_drop];omega
   ·have h9:=rdr_rows g4 (by rw[List.length_drop,hvs];omega) hr hL (by omega:a+src.length≤rows.length)
    have:=Qfu hpr.ok k _ _ h9
    simp only[Nat.add_zero];rw[Qg9 _ _ _ _ (by rw[hvs];omega)];exact this
theorem Qqv{C:Ctx}{S:Env}(hW:Wf C S){X:AV}{v:Value}{m a n T k:Nat}{rows:List (List D)}(hx:Qqa h X=some (m,a,n,T,k,rows))(hu:S.h m=h m)(hc:conc S X v):
 S.h m=some (true,.arr T k rows)∧dstV S m a n k rows v∧X.nms=[m]:=by
 cases X<;>simp only[Qqa,reduceCtorEq] at hx
 case own q=>
  cases hq:h q with
  |none=>rw[hq] at hx;cases hx
  |some e=>
   obtain⟨mu,e⟩:=e;rw[hq] at hx;cases mu<;>cases e<;>simp only[cyDO,reduceCtorEq,Option.some.injEq,Prod.mk.injEq] at hx;obtain⟨rfl,rfl,rfl,rfl,rfl,rfl⟩:=hx;have hS:=hu.trans hq;refine⟨hS,?_,rfl⟩;simp only[conc] at hc;have hc:=hc.2 _ hS;have hob:=hW.obj _ _ hS;simp only[objc] at hob;unfold dstV;cases hl:S.ρ q with
   |none=>
    rw[hl] at hc hob;exact .inl ⟨hc,hob.2,by rw[hob.2];rfl,rfl⟩
   |some l=>
    rw[hl] at hc;exact .inr ⟨l,l.p,l.cap,rfl,hc,fun _=>by omega,by omega⟩
 case osl q wa wn=>
  cases hq:h q with
  |none=>rw[hq] at hx;cases hx
  |some e=>
   obtain⟨mu,e⟩:=e;rw[hq] at hx;cases mu<;>cases e<;>simp only[cyDW,reduceCtorEq,Option.some.injEq,Prod.mk.injEq] at hx;obtain⟨rfl,rfl,rfl,rfl,rfl,rfl⟩:=hx;have hS:=hu.trans hq;refine⟨hS,?_,rfl⟩;simp only[conc] at hc;have hc:=hc.2 _ hS;have hob:=hW.obj _ _ hS;simp only[objc] at hob;unfold winV at hc;unfold dstV;cases hl:S.ρ q with
   |none=>
    rw[hl] at hc hob;exact .inl ⟨hc.1,hob.2,hc.2,rfl⟩
   |some l=>
    rw[hl] at hc;obtain⟨p,cp,h1,h2,h3,h4⟩:=hc;exact .inr ⟨l,p,cp,rfl,h1,h3,h4⟩
theorem allD_one{S:Env}: ∀(ds:List D) (vs:List Value),allD ds=true→rdl S.ok S.hp ds vs→ ∀v∈vs,v.oneCell'=true:=by
 intro ds vs h h2;exact Qd9 (S:=S) _ _ (Qsa ds h) ((Qa6 _ _).2 h2)
theorem Qaby{C:Ctx}{S:Env}(hW:Wf C S){X:AV}{v:Value}{u:List Nat}{ks z:Nat}{src:List (List D)}(hx:Qx5 h X=some (u,ks,src))(hu: ∀n∈u,S.h n=h n)(hc:conc S X v)(hz:z≠0)(hk:ks=z∨src=[])(hone:OneR allD src):
 (Builtin.lenOf v).run P S.w= .ok src.length S.w∧ ∀n,n≤src.length→ ∃L,(Builtin.firstCells z n v).run P S.w= .ok L.toArray S.w∧L.length=(src.take n).length*z∧rdr S.ok S.hp z (src.take n) L∧ ∀v∈L,v.oneCell'=true:=by
 have key: ∀(b p cp:Nat) (vs:Array Value) (T:TypeId) (fr:Nat×Nat),v= .slice (some ⟨b,p,none⟩) src.length cp→(src≠[]→S.hp b=some (.cells vs T fr)∧p+src.length*z≤vs.size∧rdr S.ok S.hp z src (vs.toList.drop p))→
  (Builtin.lenOf v).run P S.w= .ok src.length S.w∧ ∀n,n≤src.length→ ∃L,(Builtin.firstCells z n v).run P S.w= .ok L.toArray S.w∧L.length=(src.take n).length*z∧rdr S.ok S.hp z (src.take n) L∧ ∀v∈L,v.oneCell'=true:=by
  rintro b p cp vs T fr rfl h1;refine⟨by simp[Builtin.lenOf],fun n hn=> ?_⟩;by_cases hs:src=[]
  ·subst hs;simp only[List.length_nil,Nat.le_zero_eq] at hn;subst hn;exact⟨[],by simp[Builtin.firstCells,loadCells,loadCellsFrom],by simp,by simp[rdr],by simp⟩
  ·obtain⟨g1,g2,g3⟩:=h1 hs;have hnz:n*z≤src.length*z:=Nat.mul_le_mul_right _ hn;have hvs:vs.toList.length=vs.size:=Array.length_toList;have hlt:(src.take n).length=n:=by rw[List.length_take];omega
   have hr:=Qrl (src.take n) _ (Qgj n _ _ g3) (by rw[hlt,List.length_drop,hvs];omega);rw[hlt] at hr;refine⟨(vs.toList.drop p).take (n*z),Qef (w:=S.w) g1 (by omega),by rw[hlt,List.length_take,List.length_drop,hvs];omega,hr,?_⟩;have hcr:=Qgt _ _ hr
   have:=Qlh _ _ (Qyt (fun x hx=>hone x (List.mem_of_mem_take hx))) hcr (by rw[show (imR (src.take n)).length=(src.take n).length by simp[imR],hlt,List.length_take,List.length_drop,hvs];omega)
   rw[show (imR (src.take n)).length=(src.take n).length by simp[imR],hlt,List.take_of_length_le (by rw[List.length_take];omega)] at this;exact this
 have nil:(∃ao,v= .slice ao 0 0)→src=[]→(Builtin.lenOf v).run P S.w= .ok src.length S.w∧ ∀n,n≤src.length→ ∃L,(Builtin.firstCells z n v).run P S.w= .ok L.toArray S.w∧L.length=(src.take n).length*z∧rdr S.ok S.hp z (src.take n) L∧ ∀v∈L,v.oneCell'=true:=by
  rintro⟨ao,rfl⟩ rfl;refine⟨by simp[Builtin.lenOf],fun n hn=>⟨[],?_,by simp,by simp[rdr],by simp⟩⟩;have hn0:n=0:=by simpa using hn
  subst hn0;cases ao<;>simp[Builtin.firstCells,loadCells,loadCellsFrom]
 cases X<;>simp only[Qx5,reduceCtorEq] at hx
 case im d=>
  cases d<;>simp only[reduceCtorEq,Option.some.injEq,Prod.mk.injEq] at hx;obtain⟨rfl,rfl,rfl⟩:=hx;simp only[conc,rd] at hc;rcases hc with ⟨h1,h2⟩|⟨b,p,cap,vs,T,fr,h1,_,h2,h3,_,h5,h6⟩
  ·exact nil (Qoc h1) h2
  ·refine key b p cap vs T fr h1 fun hs=> ?_
   have hkz:=hk.resolve_right hs;subst hkz;have hl:=Qxq _ _ h6 hz;have hvs:vs.toList.length=vs.size:=Array.length_toList;rw[List.length_drop,hvs] at hl;have hpos:0<_:=Nat.mul_pos (List.length_pos_iff.2 hs) (Nat.pos_of_ne_zero hz);exact⟨h5,by omega,h6⟩
 case own q=>
  cases hq:h q with
  |none=>rw[hq] at hx;cases hx
  |some e=>
   obtain⟨mu,e⟩:=e;rw[hq] at hx;cases e<;>simp only[cySO,reduceCtorEq,Option.some.injEq,Prod.mk.injEq] at hx;rename_i T k rows;obtain⟨rfl,rfl,rfl⟩:=hx;have hS:=(hu q (by simp)).trans hq;simp only[conc] at hc;have hc:=hc.2 _ hS;have hob:=hW.obj _ _ hS;simp only[objc] at hob;cases hl:S.ρ q with
   |none=>rw[hl] at hc hob;exact nil ⟨_,hc⟩ hob.2
   |some l=>
    rw[hl] at hc hob;obtain⟨g0,g1,vs,g2,g3,g4⟩:=hob;refine key l.b l.p l.cap vs T (0,0) hc fun hs=> ?_
    have hkz:=hk.resolve_right hs;subst hkz
    have:=Nat.mul_le_mul_right k g1
    exact⟨g2,by omega,g4⟩
 case osl q wa wn=>
  cases hq:h q with
  |none=>rw[hq] at hx;cases hx
  |some e=>
   obtain⟨mu,e⟩:=e;rw[hq] at hx;cases e<;>simp only[cySW,reduceCtorEq,Option.some.injEq,Prod.mk.injEq] at hx;rename_i T k rows;obtain⟨rfl,rfl,rfl⟩:=hx;have hS:=(hu q (by simp)).trans hq;simp only[conc] at hc;have hc:=hc.2 _ hS;have hob:=hW.obj _ _ hS;simp only[objc] at hob;unfold winV at hc;cases hl:S.ρ q with
   |none=>rw[hl] at hc hob;exact nil ⟨_,hc.1⟩ (by rw[hob.2];simp)
   |some l=>
    rw[hl] at hc hob;obtain⟨g0,g1,vs,g2,g3,g4⟩:=hob;obtain⟨p,cp,q1,q2,q3,q4⟩:=hc;simp only[AObj.esz,AObj.len] at q3 q4;have hlen:((rows.drop wa).take wn).length=wn:=by rw[List.length_take,List.length_drop];omega
    refine key l.b p cp vs T (0,0) (by rw[hlen];exact q1) fun hs=> ?_
    have hne:wn≠0:=fun h0=>hs (by rw[h0];simp)
    have hkz:=hk.resolve_right hs;subst hkz;have hp:=q3 hne;subst hp;have h9:=Nat.mul_le_mul_right k (show wa+wn≤l.cap by omega);rw[Nat.add_mul] at h9;refine⟨g2,by rw[hlen];omega,?_⟩
    have:=Qgj wn _ _ (Qih wa _ _ g4)
    rwa [List.drop_drop] at this
theorem cyRows_eq(rows src:List (List D))(a m:Nat)(hm:m≤src.length):Qp0 rows a m src=rows.take a++src.take m++rows.drop (a+(src.take m).length):=by
 unfold Qp0;rw[List.length_take,show min m src.length=m by omega]
theorem snd_copy{T U:TypeId}{d s:Operand}{c:Call}(ho:o.op= .call c)(hcal:c.callee= .builtin .copy)(hargs:c.args= #[d,s])(hty:c.argTypes= #[T,U])
 (hk:Qax (Qzd P h (evO tm d) (evO tm s) K) (tI P T)):Qbp P tm h nx o K:=by
 have hopd:d∈o.op.operands:=by rw[ho];simp[Op.operands,Call.operands,hargs,hcal]
 have hops':s∈o.op.operands:=by rw[ho];simp[Op.operands,Call.operands,hargs,hcal]
 cases hT:tI P T with
 |none=>rw[hT] at hk;exact hk.elim
 |some ti=>
 rw[hT] at hk;simp only[Qax,Qzd] at hk;cases hf:ti.kind<;>rw[hf] at hk<;>try exact hk.elim
 rename_i e;have hu:=Qdq hT hf;simp only[cyK] at hk;cases hE:tI P e with
 |none=>rw[hE] at hk;exact hk.elim
 |some te=>
 rw[hE] at hk;simp only[Qax] at hk;cases hs:Qx5 h (evO tm s) with
 |none=>rw[hs] at hk;exact hk.elim
 |some q=>
 cases hd:Qqa h (evO tm d) with
 |none=>rw[hs,hd] at hk;exact hk.elim
 |some q'=>
 obtain⟨u,ks,src⟩:=q;obtain⟨m,a,n,T',k,rows⟩:=q';rw[hs,hd] at hk;simp only[cyGo] at hk;obtain⟨hkz,hks,hz,hone,hk⟩:=hk;subst hkz;have hhm:h m≠none:=by
  intro h0;cases hX:evO tm d<;>rw[hX] at hd<;>simp only[Qqa,reduceCtorEq] at hd
  ·rename_i q;cases hq:h q with
   |none=>rw[hq] at hd;cases hd
   |some e=>
    obtain⟨mu,e⟩:=e;rw[hq] at hd;cases mu<;>cases e<;>simp only[cyDO,reduceCtorEq,Option.some.injEq,Prod.mk.injEq] at hd;rw[hd.1,h0] at hq;cases hq
  ·rename_i q _ _;cases hq:h q with
   |none=>rw[hq] at hd;cases hd
   |some e=>
    obtain⟨mu,e⟩:=e;rw[hq] at hd;cases mu<;>cases e<;>simp only[cyDW,reduceCtorEq,Option.some.injEq,Prod.mk.injEq] at hd;rw[hd.1,h0] at hq;cases hq
 refine⟨_,_,OpT.one (u:=m::u) (ks:=[m]) (m:=m) (cnt:=0) (.inr ⟨rfl,by simp,hhm⟩) ?_,hk⟩;intro C S ac hW hu' _ _ hops;have h1:=hops d hopd;have h2:=hops s hops';obtain⟨d1,d2,_⟩:=Qqv hW hd (hu' m (by simp)) h1;obtain⟨s1,s2⟩:=Qaby (P:=P) hW hs (fun x hx=>hu' x (by simp[hx])) h2 hz hks hone;have hmin:min src.length n≤src.length:=Nat.min_le_left _ _;obtain⟨L,l1,l2,l3,l4⟩:=s2 _ hmin;have hlt:(src.take (min src.length n)).length=min src.length n:=by rw[List.length_take];omega
 have hdv: ∃base dl dc,ac.eval d= .slice base dl dc∧dl=n:=by
  rcases d2 with ⟨e1,_,e2,_⟩|⟨l,p,cp,_,e1,_⟩
  ·exact⟨none,0,0,e1,e2.symm⟩
  ·exact⟨_,_,_,e1,rfl⟩
 obtain⟨base,dl,dc,hv,rfl⟩:=hdv;rw[hv] at d2;obtain⟨w',w1,w2,w3⟩:=wr_rows (P:=P) hW d1 d2 (src:=src.take (min src.length dl)) (by rw[hlt];exact Nat.min_le_right _ _) l2 l3 l4;rw[←cyRows_eq _ _ _ _ hmin] at w2 w3;have hu2:(underlying T).run P S.w= .ok (.slice e) S.w:=by simp[underlying,hu]
 refine⟨.int .i64 (min src.length dl:Nat),w',S.ρ m,.inl ?_,w2,fun hp=>⟨w3 hp,by simp only[conc,rd]⟩⟩;simp only[execOp,ho,resolve,hcal,hargs,hty,Sem.run_bind,Sem.run_pure,Result.andThen_ok,invoke,builtin];cases base with
 |none=>
  simp only[Sem.run_pure,Result.ok.injEq,true_and] at w1;subst w1;simp[Builtin.copy_,hv,hu2,s1,Qca hE,l1,goInt]
 |some ad=>
  simp only at w1;simp[Builtin.copy_,hv,hu2,s1,Qca hE,l1,goInt,w1]
theorem snd_clear{T:TypeId}{d:Operand}{c:Call}(ho:o.op= .call c)(hcal:c.callee= .builtin .clear)(hargs:c.args= #[d])(hty:c.argTypes= #[T])
 (hk:Qax (Qrt P h (evO tm d) K) (tI P T)):Qbp P tm h nx o K:=by
 have hopd:d∈o.op.operands:=by rw[ho];simp[Op.operands,Call.operands,hargs,hcal]
 cases hT:tI P T with
 |none=>rw[hT] at hk;exact hk.elim
 |some ti=>
 rw[hT] at hk;simp only[Qax,Qrt] at hk;cases hf:ti.kind<;>rw[hf] at hk<;>try exact hk.elim
 rename_i e;have hu:=Qdq hT hf;simp only[clK] at hk;cases hE:tI P e with
 |none=>rw[hE] at hk;exact hk.elim
 |some te=>
 rw[hE] at hk;simp only[Qax] at hk;cases hd:Qqa h (evO tm d) with
 |none=>rw[hd] at hk;exact hk.elim
 |some q'=>
 obtain⟨m,a,n,T',k,rows⟩:=q';rw[hd] at hk;simp only[clGo] at hk;obtain⟨hkz,hz,hzl,hzA,hk⟩:=hk;subst hkz;obtain⟨z,hzr,hzs,hzd⟩:=Qe5 hE hzl hz;have hhm:h m≠none:=by
  intro h0;cases hX:evO tm d<;>rw[hX] at hd<;>simp only[Qqa,reduceCtorEq] at hd
  ·rename_i q;cases hq:h q with
   |none=>rw[hq] at hd;cases hd
   |some e=>
    obtain⟨mu,e⟩:=e;rw[hq] at hd;cases mu<;>cases e<;>simp only[cyDO,reduceCtorEq,Option.some.injEq,Prod.mk.injEq] at hd;rw[hd.1,h0] at hq;cases hq
  ·rename_i q _ _;cases hq:h q with
   |none=>rw[hq] at hd;cases hd
   |some e=>
    obtain⟨mu,e⟩:=e;rw[hq] at hd;cases mu<;>cases e<;>simp only[cyDW,reduceCtorEq,Option.some.injEq,Prod.mk.injEq] at hd;rw[hd.1,h0] at hq;cases hq
 refine⟨_,_,OpT.one (u:=[m]) (ks:=[m]) (m:=m) (cnt:=0) (.inr ⟨rfl,by simp,hhm⟩) ?_,hk⟩;intro C S ac hW hu' _ _ hops;have h1:=hops d hopd;obtain⟨d1,d2,_⟩:=Qqv hW hd (hu' m (by simp)) h1;have hz0:z.cells.toList≠[]:=by
  intro hh
  have:z.cells.size=0:=by rw[←Array.length_toList,hh];rfl
  omega
 have hzz:(Builtin.zeroCells z.cells n).toList=repZ n z.cells.toList:=by
  unfold Builtin.zeroCells;rw[←Qrv _ hz0 n,Array.toList_map,Array.toList_range,Array.length_toList];apply List.map_congr_left;intro i _;exact Qxx _ _
 have hdv: ∃base dl dc,ac.eval d= .slice base dl dc∧dl=n:=by
  rcases d2 with ⟨e1,_,e2,_⟩|⟨l,p,cp,_,e1,_⟩
  ·exact⟨none,0,0,e1,e2.symm⟩
  ·exact⟨_,_,_,e1,rfl⟩
 obtain⟨base,dl,dc,hv,rfl⟩:=hdv;rw[hv] at d2;have hrl: ∀(n:Nat) (x:List Value),(repZ n x).length=n*x.length:=by
  intro n x;induction n with
  |zero=>simp[repZ]
  |succ n ih=>simp[repZ,ih,Nat.succ_mul];omega
 have hzc:z.cells.toList.length=te.size:=by rw[Array.length_toList];exact hzs
 have hone: ∀(n:Nat) (x:List Value),(∀v∈x,v.oneCell'=true)→ ∀v∈repZ n x,v.oneCell'=true:=by
  intro n x hx;induction n with
  |zero=>simp[repZ]
  |succ n ih=>
   intro v hv;simp only[repZ,List.mem_append] at hv;rcases hv with hv|hv
   ·exact hx v hv
   ·exact ih v hv
 have hzo: ∀v∈z.cells.toList,v.oneCell'=true:=allD_one (S:=S) _ _ hzA (hzd _ _);obtain⟨w',w1,w2,w3⟩:=wr_rows (P:=P) hW d1 d2 (src:=List.replicate dl te.zero) (L:=repZ dl z.cells.toList) (by simp) (by rw[hrl,hzc,List.length_replicate]) (by rw[←hzl];exact Qx7 (hzd _ _) dl dl (Nat.le_refl _)) (hone _ _ hzo);have he:rows.take a++List.replicate dl te.zero++rows.drop (a+(List.replicate dl te.zero).length)=Qp0 rows a dl (List.replicate dl te.zero):=by
  unfold Qp0;rw[List.length_replicate,List.take_of_length_le (l:=List.replicate dl te.zero) (by simp)]
 rw[he] at w2 w3;have hu2:(underlying T).run P S.w= .ok (.slice e) S.w:=by simp[underlying,hu]
 refine⟨.tuple #[],w',S.ρ m,.inl ?_,w2,fun hp=>⟨w3 hp,by simp only[conc]⟩⟩;simp only[execOp,ho,resolve,hcal,hargs,hty,Sem.run_bind,Sem.run_pure,Result.andThen_ok,invoke,builtin];cases base with
 |none=>
  simp only[Sem.run_pure,Result.ok.injEq,true_and] at w1;subst w1;simp[Builtin.clear_,hv,hu2]
 |some ad=>
  simp only at w1;cases dl with
  |zero=>
   simp only[repZ] at w1
   have:w'=S.w:=by
    simp[storeCells] at w1;exact w1.symm
   subst this;simp[Builtin.clear_,hv,hu2]
  |succ n=>
   simp[Builtin.clear_,hv,hu2,hzr,hzz,w1]
end
end Go.Ae
namespace Go.Ae
section
variable {P:Program}{tm:List (Nat×AV)}{h:Nat→Option Ent}{nx:Nat}{o:Oper}{K:Kont}
theorem snd_eqUn{op:BinOp}{T U:TypeId}{x y:Operand}(ho:o.op= .binOp op T x y U)(hy:nilC y=1)(hk:Qax (Qst P h T op (evO tm x) K) (tI P T)):SndOpS P tm h nx o K:=by
 cases hT:tI P T with
 |none=>rw[hT] at hk;exact hk.elim
 |some ti=>
 rw[hT] at hk;simp only[Qax,Qst] at hk;cases hf:ti.kind<;>rw[hf] at hk<;>try exact hk.elim
 rename_i e;have hu:=Qdq hT hf;have hop:op= .eql∨op= .neq:=by cases op<;>first|exact .inl rfl|exact .inr rfl|exact hk.elim
 have hk':Qab2 h (decide (op= .neq)) K (evO tm x):=by rcases hop with rfl|rfl<;>exact hk
 have hyc:y= .const (.slice none 0 0):=by
  cases y with
  |const v=>
   simp only[nilC] at hy;unfold nilV at hy;split at hy<;>first|rfl|cases hy
  |_=>cases hy
 intro C S a next Q hW hh hfr hnm hops hn
 have h1:=hops x (by rw[ho];simp[Op.operands]);have key: ∃base l c E,a.eval x= .slice base l c∧(∀f:Nat→Option Ent,E.appf f=f)∧E.cnt=0∧K (.im (.bool (decide (op= .neq) !=base.isNone))) E:=by
  cases hx:evO tm x<;>rw[hx] at hk' h1<;>simp only[Qab2] at hk'
  case im d=>
   cases d<;>try exact hk'.elim
   rename_i nz k rows;simp only[conc,rd] at h1;rcases h1 with ⟨h1,h2⟩|⟨b,p,cap,vs,T,fr,h1,_⟩
   ·rcases h1 with h1|⟨_,ad,h1⟩
    ·exact⟨none,0,0,{},h1,fun f=>by funext m;simp[Eff.appf,hget],rfl,hk' true (fun _=>h2)⟩
    ·exact⟨some ad,0,0,{},h1,fun f=>by funext m;simp[Eff.appf,hget],rfl,hk' false (fun h=>by cases h)⟩
   ·exact⟨_,_,_,{},h1,fun f=>by funext m;simp[Eff.appf,hget],rfl,hk' false (fun h=>by cases h)⟩
  case own n=>
   cases hq:h n with
   |none=>rw[hq] at hk';exact hk'.elim
   |some ent=>
    obtain⟨mu,ent⟩:=ent;rw[hq] at hk';have hS:=(hh n).trans hq;simp only[conc] at h1;have h1:=h1.2 _ hS;have hob:=hW.obj _ _ hS;have main: ∀{α:Type} (rows:List α),(S.ρ n=none→rows=[])→eqUn (decide (op= .neq)) K {use:=[n]} rows→ ∃base l c E,a.eval x= .slice base l c∧(∀f:Nat→Option Ent,E.appf f=f)∧E.cnt=0∧K (.im (.bool (decide (op= .neq) !=base.isNone))) E:=by
     intro α rows hr hk;cases hl:S.ρ n with
     |none=>
      rw[hl] at h1;exact⟨none,0,0,{use:=[n]},h1,Qnd [n],rfl,hk true (fun _=>hr hl)⟩
     |some l=>
      rw[hl] at h1;exact⟨_,_,_,{use:=[n]},h1,Qnd [n],rfl,hk false (fun h=>by cases h)⟩
    cases ent<;>try exact hk'.elim
    ·rename_i T k rows;refine main rows (fun hl=> ?_) hk';simp only[objc] at hob;rw[hl] at hob;exact hob.2
    ·rename_i T k rows;refine main rows (fun hl=> ?_) hk';simp only[objc] at hob;rw[hl] at hob;exact hob.2
 obtain⟨base,l,c,E,hv,hE,hc,hK⟩:=key;have hey:a.eval y= .slice none 0 0:=by rw[hyc];rfl
 have hq:(Op.equal T (.slice base l c) (.slice none 0 0)).run P S.w= .ok base.isNone S.w:=by rw[Qdw];exact eqn_sl hu _ _ _ _
 have hg:(eqGuard op T x y (.slice base l c) (.slice none 0 0)).run P S.w= .ok () S.w:=by rcases hop with rfl|rfl<;>simp[eqGuard]
 have hb:(binOp op T (.slice base l c) (.slice none 0 0)).run P S.w= .ok (.bool (decide (op= .neq) !=base.isNone)) S.w:=by
  rcases hop with rfl|rfl
  ·have:binOp .eql T (.slice base l c) (.slice none 0 0)=(do pure (.bool (←Op.equal T (.slice base l c) (.slice none 0 0)))):=rfl
   rw[this];simp[hq]
  ·have:binOp .neq T (.slice base l c) (.slice none 0 0)=(do pure (.bool (!(←Op.equal T (.slice base l c) (.slice none 0 0))))):=rfl
   rw[this];simp[hq]
 have hrun:(execOp a.eval o).run P S.w= .ok (.value (.bool (decide (op= .neq) !=base.isNone))) S.w:=by
  simp only[execOp,ho,hv,hey,Sem.run_bind,hg,Result.andThen_ok,hb,Sem.run_pure]
 unfold Oper.wp;rw[hrun,Oper.upon_value];exact hn _ E _ S hK hW (hE S.h).symm (Pres.refl _ _) (by simp only[conc,rd])
theorem Qpi{T e:TypeId}(hc:Qp9 P T=some e): ∃d,P.underlying T=some (.chan d e):=by
 unfold Qp9 at hc;split at hc
 ·rename_i d e' hu;cases hc;exact⟨d,hu⟩
 ·cases hc
theorem Qvf{T:TypeId}{x:Operand}(ho:o.op= .makeChan T x)(hk:Qi6 P nx (evO tm x) K T):Qbp P tm h nx o K:=by
 unfold Qi6 at hk;cases hc:Qp9 P T with
 |none=>rw[hc] at hk;exact hk.elim
 |some e=>
 rw[hc] at hk;simp only[mcK] at hk;obtain⟨dr,hu⟩:=Qpi hc;have key: ∃n,evO tm x= .im (.int .i64 n)∧Qax (mcE nx n K) (tI P e):=by
  revert hk;generalize evO tm x=X;intro hk;cases X<;>try exact hk.elim
  rename_i d;cases d<;>try exact hk.elim
  rename_i k n;cases k<;>try exact hk.elim
  exact⟨n,rfl,hk⟩
 obtain⟨n,hx,hk⟩:=key;cases hE:tI P e with
 |none=>rw[hE] at hk;exact hk.elim
 |some te=>
 rw[hE] at hk;simp only[Qax,mcE] at hk;obtain⟨h0,hn,hby,hk⟩:=hk;obtain⟨i,u,hi,hu',hi1,hi2,_⟩:=Qej hE;refine⟨_,_,OpT.one (u:=[]) (ks:=[]) (.inl ⟨rfl,rfl⟩) ?_,hk⟩;intro C S a hW _ hfr hnms hops;have h1:=hops x (by rw[ho];simp[Op.operands]);rw[hx] at h1;simp only[conc,rd] at h1;have hrun:(execOp a.eval o).run P S.w= .ok (.value (.chan (some S.w.heap.size))) {S.w with heap:=S.w.heap.push (.chan n.toNat #[] false 0 0 false)}:=by
  have hti: ∀w,(typeInfo e).run P w= .ok i w:=fun w=>by simp[typeInfo,hi]
  have hbm:(i.bytes:Int)*n≤2^48 - 112:=by
   rw[←hi2];have h3:(te.bytes:Int)*n≤65536*n:=Int.mul_le_mul_of_nonneg_right (by omega) h0;omega
  have hu2:(underlying T).run P S.w= .ok (.chan dr e) S.w:=by simp[underlying,hu]
  have hno: ¬(n<0∨n>IntKind.i64.max∨(i.bytes:Int)*n>2^48 - 112):=by
   have:IntKind.i64.max=9223372036854775807:=by decide
   omega
  simp only[execOp,ho,h1,Instr.makeChan,Sem.run_bind,asInt,asIntOf,Sem.run_pure,Result.andThen_ok,hu2,hti];simp[hno];intro h9;exfalso;omega
 refine⟨_,_,some ⟨S.w.heap.size,0,0⟩,.inl hrun,Qg3 (w':={S.w with heap:=S.w.heap.push (.chan n.toNat #[] false 0 0 false)}) rfl rfl rfl rfl (hfr rfl) (fun n f hf=>hnms n f hf rfl),?_⟩;intro hp;constructor
 ·simp only[objc];exact⟨_,#[],0,0,rfl,Qny rfl,by simp[rdl]⟩
 ·simp only[conc];exact⟨rfl,fun e' he'=>⟨⟨S.w.heap.size,0,0⟩,by simp[Env.one],rfl⟩⟩
theorem snd_lenCh{T:TypeId}{x:Operand}{c:Call}{q:Nat}(ho:o.op= .call c)(hcal:c.callee= .builtin .len)(hargs:c.args= #[x])(hty:c.argTypes= #[T])(hx:evO tm x= .ch q)
 (hk:lnCh q h K (Qp9 P T)):Qbp P tm h nx o K:=by
 cases hc:Qp9 P T with
 |none=>rw[hc] at hk;exact hk.elim
 |some e=>
 rw[hc] at hk;simp only[lnCh] at hk;obtain⟨dr,hu⟩:=Qpi hc;cases hq:h q with
 |none=>rw[hq] at hk;exact hk.elim
 |some ent=>
 obtain⟨mu,ent⟩:=ent;rw[hq] at hk;cases ent<;>try exact hk.elim
 refine Qmi (u:=[q]) ho hcal hargs hty ?_ hk;intro C S v hW hu' hcv;rw[hx] at hcv;simp only[conc] at hcv;have hS:=(hu' q (by simp)).trans hq;obtain⟨l,hl,rfl⟩:=hcv.2 _ hS;have hob:=hW.obj _ _ hS;simp only[objc] at hob;obtain⟨lc,buf,sent,rcvd,h1,h2,h3⟩:=hob;rw[hl] at h1;obtain rfl:=Option.some.inj h1;have hlen:=Qjo _ _ h3;simp only[Array.length_toList] at hlen;rename_i q0 cap0;have hg:(getObj l.b).run P S.w= .ok (.chan cap0 buf false sent rcvd false) S.w:=by simp[getObj,Sem.run,show S.w.heap[l.b]? =_ from h2]
 have hu2:(underlying T).run P S.w= .ok (.chan dr e) S.w:=by simp[underlying,hu]
 simp[Builtin.len_,hu2,hg,goInt,hlen]
theorem snd_range{T:TypeId}{x:Operand}(ho:o.op= .range T x)(hk:Qax (Qsh h nx (evO tm x) K) (tI P T)):Qbp P tm h nx o K:=by
 cases hT:tI P T with
 |none=>rw[hT] at hk;exact hk.elim
 |some ti=>
 rw[hT] at hk;simp only[Qax,Qsh] at hk;cases hf:ti.kind<;>rw[hf] at hk<;>try exact hk.elim
 rename_i tk te;have hu:=Qqw hT hf;simp only[rgK] at hk;cases hx:evO tm x<;>rw[hx] at hk<;>try exact hk.elim
 rename_i q;simp only[rgM] at hk;cases hq:h q with
 |none=>rw[hq] at hk;exact hk.elim
 |some ent=>
 obtain⟨mu,ent⟩:=ent;rw[hq] at hk;cases ent<;>try exact hk.elim
 rename_i kt es;simp only[rgObj] at hk;refine⟨_,_,?_,hk⟩;intro C S a next Q hW hu' hfr hnm hops hn
 have h1:=hops x (by rw[ho];simp[Op.operands]);rw[hx] at h1;simp only[conc] at h1;have hS:=(hu' q (by simp)).trans hq;obtain⟨l,hl,hv⟩:=h1.2 _ hS;have hob:=hW.obj _ _ hS;simp only[objc] at hob;obtain⟨lc,ents,clock,g1,g2,g3,g4,g5,g6⟩:=hob;rw[hl] at g1;obtain rfl:=Option.some.inj g1;have hnx:=hfr nx ⟨Nat.le_refl _,by show nx<nx+1;omega⟩;have hqn:q≠nx:=fun h'=>by subst h';rw[hS] at hnx;cases hnx
 let X:Nat→Bool:=fun n=> !(n==q)
 have hXq:X q=false:=by simp[X]
 have hWi:Wf C (S.ice X):=Qje hW;have hSi:(S.ice X).h q=some (false,.map kt es):=by simp[Env.ice,hS,hXq]
 have hoki:(S.ice X).ok l.b:=Qqe hW hXq hSi rfl hl;have hnxi:(S.ice X).h nx=none:=by simp[Env.ice,hnx]
 let w':World:={S.w with heap:=S.w.heap.push (.mapIter (some l.b) clock #[] clock)}
 have hg:(getObj l.b).run P S.w= .ok (.map ents clock) S.w:=Qcc (w:=S.w) g3;have hu2:(underlying T).run P S.w= .ok (.map tk te) S.w:=by simp[underlying,hu]
 have hrun:(execOp a.eval o).run P S.w= .ok (.value (.pointer (some ⟨S.w.heap.size,0,none⟩))) w':=by
  simp only[execOp,ho,hv,Instr.range,Sem.run_bind,hu2,Result.andThen_ok,hg,Sem.run_pure];simp[w']
 have hone:Qjb (S.ice X) nx (.iter none es) (some ⟨S.w.heap.size,0,0⟩) [] w':=Qg3 (S:=S.ice X) (w':=w') rfl rfl rfl rfl hnxi (by
  intro n f hf hin;obtain⟨e,he,rfl⟩:=Qec hf;exact hnm n e he nx hin ⟨Nat.le_refl _,by show nx<nx+1;omega⟩)
 have hp:=Qg2 hWi hone;have hb:=hW.oks;have hlb:l.b<S.w.heap.size:=(hW.loc q _ l hS hl).1;have hobj:objc ((S.ice X).one nx (.iter none es) (some ⟨S.w.heap.size,0,0⟩) [] w') (some ⟨S.w.heap.size,0,0⟩) (.iter none es):=by
  simp only[objc];obtain⟨p1,p2⟩:=hp.ok l.b hoki;refine⟨_,l.b,ents,clock,#[],rfl,p1,trivial,p2.trans g3,?_,g5,g6,?_⟩
  ·have:=Qny (S:=S.ice X) (nx:=nx) (e:= .iter none es) (l:=some ⟨S.w.heap.size,0,0⟩) (ks:=[]) (w':=w') (ob:= .mapIter (some l.b) clock #[] clock) rfl
   exact this
  ·have h9:ents.toList.filter (fun e=> !(#[]:Array Nat).contains e.born)=ents.toList:=by
    rw[List.filter_eq_self];intro e _;simp
   rw[h9];exact Qc6 hp.ok _ _ (Qc6 (Qb0 S X).ok _ _ g4)
 have hW':=Qqp hWi hone hobj;unfold Oper.wp;rw[hrun,Oper.upon_value];refine hn _ _ hW' ?_ ?_ ?_
 ·funext n;simp only[Env.one,Eff.appf,hget];by_cases hn1:n=nx
  ·subst hn1;simp
  ·have e1:(nx==n)=false:=by rw[beq_eq_false_iff_ne];exact fun h=>hn1 h.symm
   rw[if_neg hn1,e1];by_cases hn2:n=q
   ·subst hn2;simp[hSi]
   ·have e2:(q==n)=false:=by rw[beq_eq_false_iff_ne];exact fun h=>hn2 h.symm
    have e3:X n=true:=by simp[X,hn2]
    simp only[e2,List.not_mem_nil,if_false,cond_false]
    have:([q]:List Nat).contains n=false:=by simp[hn2]
    rw[this];simp only[Env.ice,e3,Bool.and_true,cond_false];cases S.h n<;>rfl
 ·have q1:=Qb0 S X;refine⟨fun b hb=> ?_,fun n hX e' he'=> ?_⟩
  ·obtain⟨r1,r2⟩:=q1.ok b hb;obtain⟨r3,r4⟩:=hp.ok b r1;exact⟨r3,r4.trans r2⟩
  ·obtain⟨e,r1,r2,r3,r4⟩:=hp.nm n (.inr (fun h'=>hX ⟨by omega,by show n<nx+1;omega⟩)) e' he';obtain⟨e0,s1,s2,s3,s4⟩:=q1.nm n trivial e r1;exact⟨e0,s1,r2.trans s2,r3.trans s3,r4.trans s4⟩
 ·simp only[conc];exact⟨rfl,fun e' he'=>⟨⟨S.w.heap.size,0,0⟩,by simp[Env.one],rfl⟩⟩
theorem snd_entry{x:Operand}(ho:o.op= .entry x)(hk:Qsz h K (evO tm x)):Qbp P tm h nx o K:=by
 cases hx:evO tm x<;>rw[hx] at hk<;>try exact hk.elim
 rename_i q;simp only[Qsz] at hk;cases hq:h q with
 |none=>rw[hq] at hk;exact hk.elim
 |some ent=>
 obtain⟨mu,ent⟩:=ent;rw[hq] at hk;cases mu<;>cases ent<;>try exact hk.elim
 rename_i last left;cases last with
 |none=>exact hk.elim
 |some p=>
 simp only[enObj] at hk;refine⟨_,_,OpT.pure (u:=[q]) ?_,hk⟩;intro C S a hW hu' hops;have h1:=hops x (by rw[ho];simp[Op.operands]);rw[hx] at h1;simp only[conc] at h1;have hS:=(hu' q (by simp)).trans hq;obtain⟨l,hl,hv⟩:=h1.2 _ hS;have hob:=hW.obj _ _ hS;simp only[objc] at hob;obtain⟨lc,mb,ents,clock,seen,g1,g2,⟨st,e,k1,k2,k3,k4⟩,g3,g4,g5,g6,g7⟩:=hob;rw[hl] at g1;obtain rfl:=Option.some.inj g1;refine⟨.tuple #[e.key,e.val],?_,by simp only[conc,rd];exact⟨_,rfl,by simp only[rdl];exact⟨_,_,rfl,k3,_,_,rfl,k4,rfl⟩⟩⟩;have hgi:(getObj l.b).run P S.w= .ok (.mapIter (some mb) clock seen clock) S.w:=by simp[getObj,Sem.run,show S.w.heap[l.b]? =_ from g4]
 have hgm:(getObj mb).run P S.w= .ok (.map ents clock) S.w:=Qcc (w:=S.w) g3;simp only[execOp,ho,hv,Instr.entry,Sem.run_bind,hgi,Result.andThen_ok,k1,hgm];simp[k2]
theorem rde_at{ok:Nat→Prop}{hp:Nat→Option Obj}: ∀(ds:List (D×D)) (es:List MapEntry) (i:Nat) (e:MapEntry),rde ok hp ds es→es[i]? =some e→ ∃p,ds[i]? =some p∧rd ok hp p.1 e.key∧rd ok hp p.2 e.val
 |[],es,i,e,h,he=>by simp only[rde] at h;subst h;simp at he
 |(x,y)::ds,es,i,e,h,he=>by
  simp only[rde] at h;obtain⟨e',r,rfl,h1,h2,h3⟩:=h;cases i with
  |zero=>
   simp only[List.getElem?_cons_zero,Option.some.injEq] at he;subst he;exact⟨(x,y),rfl,h1,h2⟩
  |succ i=>
   simp only[List.getElem?_cons_succ] at he⊢;exact rde_at ds r i e h3 he
theorem Qjl{seen:Array Nat}{b:Nat}: ∀(l:List MapEntry) (i:Nat) (e:MapEntry),(l.map (·.born)).Nodup→(l.filter fun e=> !seen.contains e.born)[i]? =some e→e.born=b→
 (l.filter fun e=> !(seen.push b).contains e.born)=(l.filter fun e=> !seen.contains e.born).eraseIdx i
 |[],i,e,_,h,_=>by simp at h
 |x::r,i,e,hnd,h,hb=>by
  simp only[List.map_cons,List.nodup_cons] at hnd;have hpush: ∀n,(seen.push b).contains n=(seen.contains n||n==b):=by
   intro n;rw[Bool.eq_iff_iff];simp only[Array.contains_iff_mem,Array.mem_push,Bool.or_eq_true,beq_iff_eq]
  cases hx:seen.contains x.born with
  |true=>
   have e1:(!seen.contains x.born)=false:=by rw[hx];rfl
   have e2:(!(seen.push b).contains x.born)=false:=by rw[hpush,hx];rfl
   rw[List.filter_cons_of_neg (p:=fun (e:MapEntry)=> !(seen.push b).contains e.born) (by rw[e2];simp),List.filter_cons_of_neg (p:=fun (e:MapEntry)=> !seen.contains e.born) (by rw[e1];simp)];rw[List.filter_cons_of_neg (p:=fun (e:MapEntry)=> !seen.contains e.born) (by rw[e1];simp)] at h;exact Qjl r i e hnd.2 h hb
  |false=>
   have e1:(!seen.contains x.born)=true:=by rw[hx];rfl
   rw[List.filter_cons_of_pos (p:=fun (e:MapEntry)=> !seen.contains e.born) (by exact e1)] at h⊢;cases i with
   |zero=>
    simp only[List.getElem?_cons_zero,Option.some.injEq] at h;subst h;have e2:(!(seen.push b).contains x.born)=false:=by rw[hpush,hb];simp
    rw[List.filter_cons_of_neg (by rw[e2];simp),List.eraseIdx_cons_zero];apply List.filter_congr;intro y hy
    have:(y.born==b)=false:=by
     rw[beq_eq_false_iff_ne,←hb];intro h9;exact hnd.1 (List.mem_map.2 ⟨y,hy,h9⟩)
    rw[hpush,this,Bool.or_false]
   |succ i=>
    simp only[List.getElem?_cons_succ] at h;have hne:(x.born==b)=false:=by
     rw[beq_eq_false_iff_ne];intro h9;have hm:e∈r.filter fun e=> !seen.contains e.born:=List.mem_of_getElem? h
     exact hnd.1 (List.mem_map.2 ⟨e,(List.mem_filter.1 hm).1,by rw[hb,h9]⟩)
    have e2:(!(seen.push b).contains x.born)=true:=by rw[hpush,hx,hne];rfl
    rw[List.filter_cons_of_pos (p:=fun (e:MapEntry)=> !(seen.push b).contains e.born) (by exact e2),List.eraseIdx_cons_succ,Qjl r i e hnd.2 h hb]
theorem Qvh: ∀(l:List MapEntry) (e:MapEntry),(l.map (·.born)).Nodup→e∈l→l.find? (fun x=>x.born==e.born)=some e
 |[],e,_,h=>by cases h
 |x::r,e,hnd,h=>by
  simp only[List.map_cons,List.nodup_cons] at hnd;rcases List.mem_cons.1 h with rfl|h
  ·simp
  ·have hne:(x.born==e.born)=false:=by
    rw[beq_eq_false_iff_ne];intro h9;exact hnd.1 (List.mem_map.2 ⟨e,h,h9.symm⟩)
   rw[List.find?_cons,hne];exact Qvh r e hnd.2 h
theorem snd_next{x:Operand}(ho:o.op= .next x false)(hk:Qaab h K (evO tm x)):SndOpS P tm h nx o K:=by
 cases hx:evO tm x<;>rw[hx] at hk<;>try exact hk.elim
 rename_i q;simp only[Qaab] at hk;cases hq:h q with
 |none=>rw[hq] at hk;exact hk.elim
 |some ent=>
 obtain⟨mu,ent⟩:=ent;rw[hq] at hk;cases mu<;>cases ent<;>try exact hk.elim
 rename_i last left;simp only[nxObj] at hk;obtain⟨hk0,hk1⟩:=hk;intro C S a next Q hW hh hfr hnm hops hn
 have h1:=hops x (by rw[ho];simp[Op.operands]);rw[hx] at h1;simp only[conc] at h1;have hS:=(hh q).trans hq;obtain⟨l,hl,hv⟩:=h1.2 _ hS;have hob:=hW.obj _ _ hS;simp only[objc] at hob;obtain⟨lc,mb,ents,clock,seen,g1,g2,g0,g3,g4,g5,g6,g7⟩:=hob;rw[hl] at g1;obtain rfl:=Option.some.inj g1;have hgi:(getObj l.b).run P S.w= .ok (.mapIter (some mb) clock seen clock) S.w:=by simp[getObj,Sem.run,show S.w.heap[l.b]? =_ from g4]
 have hgm:(getObj mb).run P S.w= .ok (.map ents clock) S.w:=Qcc (w:=S.w) g3;have hbad:(!seen.isEmpty && !ents.isEmpty && ents.all fun e=>decide (e.born≥clock))=false:=by
  cases he:ents.isEmpty with
  |true=>simp
  |false=>
   have hne:ents.toList≠[]:=by
    intro h9
    have:ents= #[]:=Array.toList_inj.1 (by simpa using h9)
    rw[this] at he;simp at he
   obtain⟨e,r,hc⟩:=List.exists_cons_of_ne_nil hne;have hm:e∈ents:=by rw[←Array.mem_toList_iff,hc];simp
   have hlt:=g6 e (by rw[hc];simp)
   have:(ents.all fun e=>decide (e.born≥clock))=false:=by
    rw[Bool.eq_false_iff];intro h9;rw[Array.all_eq_true'] at h9
    have:=h9 e hm
    simp only[decide_eq_true_eq] at this;omega
   rw[this];simp
 let F:Array MapEntry:=ents.filter fun e=> !seen.contains e.born
 have hF:F.toList=ents.toList.filter fun e=> !seen.contains e.born:=by simp[F]
 have hold:(F.filter fun e=>decide (e.born<clock))=F:=by
  apply Array.filter_eq_self.2;intro e he
  have:e∈ents.toList:=by
   have:e∈F.toList:=by simpa using he
   rw[hF] at this;exact (List.mem_filter.1 this).1
  simpa using g6 e this
 have hnew:(F.filter fun e=>decide (e.born≥clock))= #[]:=by
  apply Array.filter_eq_empty_iff.2;intro e he
  have:e∈ents.toList:=by
   have:e∈F.toList:=by simpa using he
   rw[hF] at this;exact (List.mem_filter.1 this).1
  have:=g6 e this
  simp;omega
 unfold Oper.wp;have hexec:(execOp a.eval o).run P S.w=((Instr.next (.pointer (some ⟨l.b,0,none⟩)) false o.type).run P S.w).andThen fun v w=> .ok (.value v) w:=by
  simp only[execOp,ho,hv,Sem.run_bind,Sem.run_pure]
 obtain⟨ms,hnx⟩: ∃ms,(Instr.next (.pointer (some ⟨l.b,0,none⟩)) false o.type).run P S.w=
  ((choose (.mapNext ((if F.isEmpty then #[none] else #[])++F.map some).size)).run P S.w).andThen fun i w1=>
    (match ((if F.isEmpty then #[none] else #[])++F.map some)[i]? with
     |some (some e)=>(do setObj l.b (.mapIter (some mb) clock (seen.push e.born) clock);pure (.tuple #[.bool true,e.key,e.val]):Sem Value)
     |some none=>pure (.tuple #[.bool false])
     |none=>stuck ms).run P w1:=by
  apply Exists.intro;have e1:(ents.filter fun e=> !seen.contains e.born)=F:=rfl;simp only[Instr.next,Sem.run_bind,hgi,Result.andThen_ok,hgm,hbad,Bool.false_eq_true,if_false,e1,hold,hnew,Array.append_empty];congr 1
 rw[hexec,hnx];by_cases hFe:F.isEmpty=true
 ·have hF0:F= #[]:=by simpa using hFe
  have hl0:left=[]:=by
   rw[←hF,hF0] at g7;cases left with
   |nil=>rfl
   |cons p r=>
    obtain⟨x0,y0⟩:=p;simp only[rde] at g7;obtain⟨e,r',h9,_⟩:=g7;simp at h9
  rw[hF0];simp only[Array.isEmpty_empty,if_true,Array.map_empty,Array.append_empty,run_choose,Question.forced];simp only[List.size_toArray,List.length_cons,List.length_nil,Nat.zero_add,Nat.le_refl,decide_true,if_true,Result.andThen_ok];simp only[List.getElem?_toArray,List.getElem?_cons_zero,Sem.run_pure,Result.andThen_ok,Oper.upon_value];exact hn _ _ _ S (hk0 hl0) hW (Qnd [q] S.h).symm (Pres.refl _ _) (by simp only[conc,Qa0,rd];exact⟨_,rfl,_,_,rfl,rfl,rfl⟩)
 ·have hFf:F.isEmpty=false:=by simpa using hFe
  rw[hFf];simp only[Bool.false_eq_true,if_false,Array.empty_append,Array.size_map];have hpos:0<F.size:=by
   rcases Nat.eq_zero_or_pos F.size with h9|h9
   ·exact absurd (by simpa using Array.eq_empty_of_size_eq_zero h9) hFe
   ·exact h9
  have hch: ∃i w1,(choose (.mapNext F.size)).run P S.w= .ok i w1∧i<F.size∧w1.heap=S.w.heap∧w1.os=S.w.os∧w1.tape=S.w.tape∧w1.output=S.w.output:=by
   rw[run_choose];split
   ·exact⟨0,S.w,rfl,hpos,rfl,rfl,rfl,rfl⟩
   ·exact⟨_,_,rfl,Nat.mod_lt _ hpos,rfl,rfl,rfl,rfl⟩
  obtain⟨i,w1,hc1,hi,hw1,hw2,hw3,hw4⟩:=hch;rw[hc1];simp only[Result.andThen_ok];have hget:(F.map some)[i]? =some (some F[i]):=by simp[hi]
  rw[hget];simp only[Sem.run_bind,Sem.run_pure];have hgi1:w1.heap[l.b]? =some (.mapIter (some mb) clock seen clock):=by rw[hw1];exact g4
  have hset:(setObj l.b (.mapIter (some mb) clock (seen.push F[i].born) clock)).run P w1= .ok () {w1 with heap:=w1.heap.setIfInBounds l.b (.mapIter (some mb) clock (seen.push F[i].born) clock)}:=by
   simp[setObj,Sem.run,hgi1]
  rw[hset];simp only[Result.andThen_ok,Oper.upon_value];have hFi:F.toList[i]? =some F[i]:=by simp[hi]
  rw[hF] at hFi;obtain⟨p,hp1,hp2,hp3⟩:=rde_at left _ i F[i] g7 hFi
  let w':World:={w1 with heap:=w1.heap.setIfInBounds l.b (.mapIter (some mb) clock (seen.push F[i].born) clock)}
  have hone:Qjb S q (.iter (some p) (left.eraseIdx i)) (some l) [q] w':=Qjw hW hS hl (w':=w') (ob:= .mapIter (some mb) clock (seen.push F[i].born) clock) (by simp[w',hw1]) hw2 hw3 hw4 rfl rfl;have hpr:=Qg2 hW hone;have hobj:objc (S.one q (.iter (some p) (left.eraseIdx i)) (some l) [q] w') (some l) (.iter (some p) (left.eraseIdx i)):=by
   simp only[objc];obtain⟨p1,p2⟩:=hpr.ok mb g2;have hmem:F[i]∈ents.toList:=(List.mem_filter.1 (List.mem_of_getElem? hFi)).1;refine⟨l,mb,ents,clock,seen.push F[i].born,rfl,p1,⟨F[i].born,F[i],by simp,?_,Qb8 hpr.ok _ _ hp2,Qb8 hpr.ok _ _ hp3⟩,p2.trans g3,?_,g5,g6,?_⟩
   ·have:=Qvh ents.toList F[i] g5 hmem
    rw[←Array.find?_toList];exact this
   ·exact Qpq (hW.loc q _ l hS hl).1 (by simp[w',hw1])
   ·rw[Qjl ents.toList i F[i] g5 hFi rfl];exact Qc6 hpr.ok _ _ (Qpa i left _ g7)
  have hW':=Qqp hW hone hobj;refine hn _ _ _ _ (hk1 i p hp1) hW' ?_ ?_ ?_
  ·funext n;simp only[Env.one,Eff.appf,Go.Ae.hget];by_cases hn1:n=q
   ·subst hn1;simp
   ·have:(q==n)=false:=by rw[beq_eq_false_iff_ne];exact fun h=>hn1 h.symm
    simp[this,hn1]
  ·exact⟨hpr.ok,fun n hX=>hpr.nm n (.inl (by rw[hS];simp))⟩
  ·simp only[conc,Qa0,rd];refine⟨_,rfl,_,_,rfl,rfl,_,_,rfl,Qb8 hpr.ok _ _ hp2,_,_,rfl,Qb8 hpr.ok _ _ hp3,rfl⟩
end
end Go.Ae
namespace Go.Ae
section
variable {P:Program}{tm:List (Nat×AV)}{h:Nat→Option Ent}{nx:Nat}{o:Oper}{K:Kont}
theorem Qr9{T:TypeId}{m k v:Operand}(ho:o.op= .mapUpdate T m k v)(hk:Qax (Qfc P h K (evO tm m) (evO tm k) (evO tm v)) (tI P T)):Qbp P tm h nx o K:=by
 cases hT:tI P T with
 |none=>rw[hT] at hk;exact hk.elim
 |some ti=>
 rw[hT] at hk;simp only[Qax,Qfc] at hk;cases hm:evO tm m<;>rw[hm] at hk<;>try exact hk.elim
 rename_i q;cases hkd:evO tm k<;>rw[hkd] at hk<;>try exact hk.elim
 rename_i kd;cases hvd:evO tm v<;>rw[hvd] at hk<;>try exact hk.elim
 ·exact Qjd ho hT hm hkd hvd hk
 rename_i n;simp only at hk;cases hn:h n with
 |none=>rw[hn] at hk;exact hk.elim
 |some ent=>
 obtain⟨mu,ent⟩:=ent;rw[hn] at hk;cases ent<;>try exact hk.elim
 rename_i U w rows;simp only[muOwn] at hk;obtain⟨hqn,hk⟩:=hk;have hqn:q≠n:=by simpa using hqn
 cases v with
 |tmp t=>
  let d:D:= .sl false w rows
  let tm':List (Nat×AV):=(t,.im d)::tm
  let h':Nat→Option Ent:=fun i=>if i=n then some (false,.arr U w rows) else h i
  have hev: ∀x:Operand,(∀y,evO tm x=y→y≠ .own n)→evO tm' x=evO tm x:=by
   intro x hx;cases x with
   |tmp u=>
    simp only[evO,tm',tget];by_cases hu:t=u
    ·subst hu;simp only[evO] at hvd hx;exact absurd rfl (hx _ hvd)
    ·have:(t==u)=false:=by simpa using hu
     rw[this];rfl
   |_=>rfl
  have hm':evO tm' m= .mp q:=by rw[hev m (fun y hy=>by rw[←hy,hm];simp)];exact hm
  have hk':evO tm' k= .im kd:=by rw[hev k (fun y hy=>by rw[←hy,hkd];simp)];exact hkd
  have hv':evO tm' (.tmp t)= .im d:=by simp[evO,tm',tget]
  have hmk:muK P h' q kd d (muF n (.arr U w rows) K) ti.kind:=by
   cases hf:ti.kind<;>rw[hf] at hk<;>try exact hk.elim
   rename_i a1 a2;simp only[muK] at hk⊢;have hq:h' q=h q:=by simp[h',hqn]
   cases hkt:keyT P a1 with
   |none=>rw[hkt] at hk;exact hk.elim
   |some kt=>
    rw[hkt] at hk;simp only[muKt] at hk⊢;rw[hq];exact hk
  obtain⟨r,E,hop,hK⟩:=Qjd (P:=P) (tm:=tm') (h:=h') (nx:=nx) (K:=muF n (.arr U w rows) K) ho hT hm' hk' hv' hmk;obtain⟨hkl,hK⟩:=hK;refine⟨r,_,?_,hK⟩;intro C S a next Q hW hu hfr hnm hops hnx
  let X:Nat→Bool:=fun i=> !(i==n)
  have hXn:X n=false:=by simp[X]
  have hXo: ∀i,i≠n→X i=true:=fun i hi=>by simp[X,hi]
  have hSn:S.h n=some (mu,.arr U w rows):=(hu n (by simp)).trans hn;have hio: ∀i,i≠n→(S.ice X).h i=S.h i:=by
   intro i hi;simp only[Env.ice,hXo i hi,Bool.and_true];cases S.h i<;>rfl
  have hin:(S.ice X).h n=some (false,.arr U w rows):=by simp[Env.ice,hSn,hXn]
  have hWi:Wf C (S.ice X):=Qje hW;refine hop C (S.ice X) a next Q hWi ?_ ?_ ?_ ?_ ?_
  ·intro i hi;by_cases h1:i=n
   ·subst h1;simp[h',hin]
   ·rw[hio i h1,hu i (by simp only[List.mem_append,List.mem_cons] at hi⊢;rcases hi with hi|hi;exact .inl (.inr hi);exact .inr (.inr hi))];simp[h',h1]
  ·intro i hi
   have:=hfr i hi
   simp[Env.ice,this]
  ·intro i e he x hx hf;obtain⟨e0,h1,rfl⟩:=Qec he;exact hnm i e0 h1 x hx hf
  ·intro x hx;rw[ho] at hx;simp only[Op.operands,List.mem_toArray,Array.mem_def] at hx;have hpr:=Qb0 S X;have hold:=hops x (by rw[ho];simpa[Op.operands] using hx);by_cases hxt:x= .tmp t
   ·subst hxt;rw[hv'];rw[hvd] at hold;have h1:=Qbt hpr _ _ (fun _ _=>trivial) hold;simp only[conc] at h1⊢;have h2:=h1.2 _ hin;have hob:=hWi.obj n _ hin;have hρ:(S.ice X).ρ n=S.ρ n:=rfl;simp only[objc] at hob;simp only[d,rd];cases hl:S.ρ n with
    |none=>
     rw[hρ,hl] at h2 hob;exact .inl ⟨.inl h2,hob.2⟩
    |some l=>
     rw[hρ,hl] at h2 hob;obtain⟨g0,g1,vs,g2,g3,g4⟩:=hob;refine .inr ⟨l.b,l.p,l.cap,vs,U,(0,0),h2,by simp,g1,g0,Qqe hW hXn hin rfl (by rw[hρ];exact hl),g2,g4⟩
   ·rw[hev x ?_]
    ·exact Qbt hpr _ _ (fun _ _=>trivial) hold
    ·intro y hy hyn;have hx3:x=m∨x=k∨x= .tmp t:=by simpa using hx
     rcases hx3 with rfl|rfl|rfl
     ·rw[hm] at hy;rw[←hy] at hyn;cases hyn
     ·rw[hkd] at hy;rw[←hy] at hyn;cases hyn
     ·exact hxt rfl
  ·intro v S' hW' hh hp hc;refine hnx v S' hW' ?_ ?_ hc
   ·rw[hh];funext i;simp only[Eff.appf];have happ:hget (E.new++[(n,(false,AObj.arr U w rows))]) i=match hget E.new i with|some e=>some e|none=>if n=i then some (false,AObj.arr U w rows) else none:=by
     generalize E.new=L;induction L with
     |nil=>
      simp only[List.nil_append,hget];by_cases h1:n=i
      ·subst h1;simp
      ·have:(n==i)=false:=by simpa using h1
       simp[this,h1]
     |cons p L ih=>
      obtain⟨j,e⟩:=p;simp only[List.cons_append,hget];cases hj:j==i
      ·simpa using ih
      ·simp
    rw[happ];cases hg:hget E.new i with
    |some e=>rfl
    |none=>
     simp only;by_cases h1:n=i
     ·subst h1;rw[if_pos rfl,hkl,hin];rfl
     ·have h2:i≠n:=fun h=>h1 h.symm
      rw[if_neg h1,hio i h2];have h3:(n::E.kill).contains i=E.kill.contains i:=by simp[h2]
      rw[h3]
   ·have q1:=Qb0 S X;refine⟨fun b hb=> ?_,fun i hX e' he'=> ?_⟩
    ·obtain⟨r1,r2⟩:=q1.ok b hb;obtain⟨r3,r4⟩:=hp.ok b r1;exact⟨r3,r4.trans r2⟩
    ·obtain⟨e,r1,r2,r3,r4⟩:=hp.nm i hX e' he';obtain⟨e0,s1,s2,s3,s4⟩:=q1.nm i trivial e r1;exact⟨e0,s1,r2.trans s2,r3.trans s3,r4.trans s4⟩
 |const c=>exfalso;simp only[evO] at hvd;unfold kD at hvd;split at hvd<;>cases hvd
 |global g=>simp only[evO] at hvd;cases hvd
 |func f=>exfalso;simp only[evO] at hvd;cases hb:Nat.blt f 1000000000<;>rw[hb] at hvd<;>cases hvd
end
end Go.Ae
namespace Go.Ae
def Qd1(P:Program)(V:Qbh):Prop:=
 ∀(tm:List (Nat×AV)) (h:Nat→Option Ent) (nx:Nat) (o:Oper) (c:Call) (f:Operand) (K:Kont),o.op= .call c→c.callee= .value f→
  (∀x,∀m∈(evO tm x).nms,m<nx)→Qaar V (evL tm c.args.toList) h nx K (evO tm f)→Qbp P tm h nx o K
theorem evL1{tm:List (Nat×AV)}{c:Call}{x:AV}(h:evL tm c.args.toList=[x]): ∃a,c.args= #[a]∧evO tm a=x:=by
 cases hc:c.args.toList with
 |nil=>rw[hc] at h;cases h
 |cons a r=>
  rw[hc] at h;cases r with
  |nil=>
   simp only[evL,List.cons.injEq,and_true] at h;exact⟨a,Array.toList_inj.1 (by simpa using hc),h⟩
  |cons b r=>simp[evL] at h
theorem evL2{tm:List (Nat×AV)}{c:Call}{x y:AV}(h:evL tm c.args.toList=[x,y]): ∃a b,c.args= #[a,b]∧evO tm a=x∧evO tm b=y:=by
 cases hc:c.args.toList with
 |nil=>rw[hc] at h;cases h
 |cons a r=>
  rw[hc] at h;cases r with
  |nil=>simp[evL] at h
  |cons b r=>
   cases r with
   |nil=>
    simp only[evL,List.cons.injEq,and_true] at h;exact⟨a,b,Array.toList_inj.1 (by simpa using hc),h.1,h.2⟩
   |cons d r=>simp[evL] at h
section
variable {P:Program}{tm:List (Nat×AV)}{h:Nat→Option Ent}{nx:Nat}{o:Oper}{K:Kont}
theorem snd_bin{op:BinOp}{T U:TypeId}{x y:Operand}(ho:o.op= .binOp op T x y U)(hk:Qwb P T h op (evO tm x) (evO tm y) K (nilC y)):Qbp P tm h nx o K:=by
 cases hn:nilC y with
 |succ m=>
  rw[hn] at hk;exact Qabe ho hn hk
 |zero=>
  rw[hn] at hk;simp only[Qwb] at hk;cases hx:evO tm x<;>rw[hx] at hk<;>try exact hk.elim
  rename_i d;cases hy:evO tm y<;>rw[hy] at hk<;>try (cases d<;>exact hk.elim)
  rename_i d';cases d<;>cases d'<;>try exact hk.elim
  ·simp only[Qw4] at hk;exact snd_int2 ho hx hy hk
  ·simp only[Qw4] at hk;cases hT:tI P T with
   |none=>rw[hT] at hk;exact hk.elim
   |some ti=>
    rw[hT] at hk;simp only[stBoK] at hk;exact snd_boo ho (tk_bool hT hk.1) hx hy hk.2
  ·exact snd_str ho hx hy hk
  ·exact snd_aggEq ho hx hy hk
theorem Qrc{V:Qbh}(HV:Qd1 P V){sq:Bool}(htm: ∀x,∀m∈(evO tm x).nms,m<nx)(hk:step P V sq tm h nx o.type K o.op):SndO P sq tm h nx o K:=by
 have hne: ∀x,∀m∈(evO tm x).nms,m≠nx:=fun x m hm=>Nat.ne_of_lt (htm x m hm)
 cases ho:o.op<;>rw[ho] at hk<;>try exact hk.elim
 case move x=>exact .inl (Qaav (.inl ho) hk)
 case assign x=>exact .inl (Qabd ho hk)
 case pick c a b=>exact .inl (snd_pick ho hk)
 case alloc T=>exact .inl (snd_alloc ho hk)
 case box T x=>exact .inl (snd_box ho hk (fun m hm=>hne x m (Qvz _ m hm)))
 case build T ps=>exact .inl (snd_build ho hk)
 case buildSlice T n ps=>exact .inl (Qp8 ho hk hne)
 case load T x=>exact .inl (snd_load ho hk)
 case store T x v=>exact .inl (snd_store ho hk)
 case nilCheck x=>exact .inl (Qvi ho hk)
 case binOp op T x y U=>
  simp only[step,stBinS] at hk;split at hk
  ·rename_i hun;simp only[unS,Bool.and_eq_true,beq_iff_eq] at hun;exact .inr ⟨hun.1,.inr (snd_eqUn ho hun.2.1 hk)⟩
  ·exact .inl (snd_bin ho hk)
 case slice T x lo hi mx=>
  cases mx<;>try exact hk.elim
  exact .inl (snd_slice ho hk)
 case range T x=>exact .inl (snd_range ho hk)
 case next x b=>
  cases b<;>try exact hk.elim
  simp only[step] at hk;cases sq with
  |false=>exact hk.elim
  |true=>exact .inr ⟨rfl,.inr (snd_next ho hk)⟩
 case entry x=>exact .inl (snd_entry ho hk)
 case makeChan T x=>exact .inl (Qvf ho hk)
 case unOp op T x=>exact .inl (snd_unOp ho hk)
 case convert S T x=>exact .inl (Qwv ho hk)
 case makeFunc f first capt=>
  cases f<;>try exact hk.elim
  exact .inl (snd_clo (by simpa using hk.1) ho hk.2)
 case makeMap T r=>
  cases r<;>try exact hk.elim
  exact .inl (Qyk ho hk)
 case makeSlice T l c=>exact .inl (Qrx ho hk)
 case fieldAddr T x f=>exact .inl (Qsq ho hk)
 case indexAddr T x i=>exact .inl (Qsk ho hk)
 case index T x i=>exact .inl (snd_index ho hk)
 case lookup T m k ok=>exact .inl (Qabg ho hk)
 case mapUpdate T m k v=>exact .inl (Qr9 ho hk)
 case extract x i=>exact .inl (Qyh ho hk)
 case call c=>
  simp only[step] at hk;cases hc:c.callee<;>rw[hc] at hk<;>try exact hk.elim
  case value f=>exact .inl (HV tm h nx o c f K ho hc htm hk)
  case builtin b=>
   simp only[Qle] at hk;unfold Qe6 at hk;split at hk
   ·rename_i x T hx hT;obtain⟨a,ha,hax⟩:=evL1 hx;have hT':c.argTypes= #[T]:=Array.toList_inj.1 (by simpa using hT);cases x<;>simp only[Qfs] at hk
    case ch q=>exact .inl (snd_lenCh ho hc ha hT' hax hk)
    all_goals first
     |exact hk.elim
     |(rw[←hax] at hk;exact snd_len ho hc ha hT' hk)
   ·rename_i s x T U hx hT;obtain⟨a,b,ha,rfl,rfl⟩:=evL2 hx;exact .inl (Qab5 ho hc ha (Array.toList_inj.1 (by simpa using hT)) hk)
   ·rename_i m k T rest hx hT;obtain⟨a,b,ha,rfl,rfl⟩:=evL2 hx;exact .inl (Qabh ho hc ha hT hk)
   ·rename_i d s T U hx hT;obtain⟨a,b,ha,rfl,rfl⟩:=evL2 hx;exact .inl (snd_copy ho hc ha (Array.toList_inj.1 (by simpa using hT)) hk)
   ·rename_i d T hx hT;obtain⟨a,ha,rfl⟩:=evL1 hx;exact .inl (snd_clear ho hc ha (Array.toList_inj.1 (by simpa using hT)) hk)
   ·exact hk.elim
end
end Go.Ae
namespace Go.Ae
def OpGoS(P:Program)(ops:Array Oper)(i:Nat)(a:Act)(w:World)(next:Act→World→Prop):Prop:=
 ∀(b:Frame) (k:List Item) (cs:List Frame) (rest:List Nat),∃a' w',next a' w'∧Steps P (lone (b.at a (.inRegion ops (i::rest)::k)) cs w) (lone (b.at a' (.inRegion ops rest::k)) cs w')
def Op.comm:Op→Bool
 | .send _ _| .recv _ _ _=>true
 |_=>false
def OpGo(P:Program)(ops:Array Oper)(i:Nat)(a:Act)(w:World)(next:Act→World→Prop):Prop:=
 (∃o,ops[i]? =some o∧Region.wanted o (yielded ops a.tmps)=true∧o.wp P a w next (fun _ _ _=>False))∨((∀o,ops[i]? =some o→Go.Ae.Op.comm o.op=true)∧OpGoS P ops i a w next)
def Qkr(P:Program)(ops:Array Oper)(Q:Act→World→Prop):List Nat→Act→World→Prop
 |[],a,w=>Q a w
 |i::rest,a,w=>
  match ops[i]? with
  |none=>Qkr P ops Q rest a w
  |some o=>if Region.wanted o (yielded ops a.tmps) then OpGo P ops i a w (Qkr P ops Q rest) else Qkr P ops Q rest (a.put o.dst undef) w
section
variable {P:Program}{ops:Array Oper}{i:Nat}{o:Oper}{a:Act}{w:World}{next:Act→World→Prop}
theorem Qx0(ho:ops[i]? =some o)(hw:Region.wanted o (yielded ops a.tmps)=true)(h:o.wp P a w next (fun _ _ _=>False)):OpGoS P ops i a w next:=by
 intro b k cs rest;have hg:=stepG_op (P:=P) (b:=b) (a:=a) (k:=k) (cs:=cs) (w:=w) (rest:=rest) ho hw;have hfin: ∀v,(b.at a (.inRegion ops (i::rest)::k)).finish v=b.at (a.put o.dst v) (.inRegion ops rest::k):=fun v=>by
  rw[Frame.finish_at,ho];rfl
 unfold Oper.wp Oper.upon at h;split at h
 ·rename_i v w1 hr;refine⟨_,_,h,.one (step_lone_go ?_)⟩;rw[hg,←hfin];simp[stepG.apply,hr]
 ·rename_i w1 hr;refine⟨_,_,h,.one (step_lone_go ?_)⟩;rw[hg,←hfin];simp[stepG.apply,hr]
 ·rename_i d w1 hr;refine⟨_,_,h,.one (step_lone_go ?_)⟩;have h1:({b.at a (.inRegion ops (i::rest)::k) with defers:=d::a.defers}:Frame).finish undef=b.at ({a with defers:=d::a.defers}.put o.dst undef) (.inRegion ops rest::k):=by
   have h2:=Frame.finish_at b {a with defers:=d::a.defers} ops i rest k undef;rw[ho] at h2;exact h2
  rw[hg];simp only[stepG.apply,Sem.runT_eq,hr,GStep.bare_after];exact congrArg (fun fr=>GStep.go {frame:=fr,callers:=cs,status:= .running,dying:=none} w1) h1
 ·rename_i f args w1 hr;obtain⟨e,w2,fr,hR,hs,_,hl⟩:=h (b.at a (.inRegion ops (i::rest)::k)::cs);have hin:_root_.Go.step P (lone (b.at a (.inRegion ops (i::rest)::k)) cs w)= .next (lone (Frame.enter P f args .normal) (b.at a (.inRegion ops (i::rest)::k)::cs) w1):=
   step_lone_go (by rw[hg];simp[stepG.apply,hr,Frame.at])
  cases e with
  |returned v=>
   refine⟨_,_,hR,.head hin (hs.trans (.one ?_))⟩;rw[←hfin];exact step_leave_returned hl
  |panicked c=>exact hR.elim
  |outgrown=>obtain⟨_,_,hR⟩:=hR;exact hR.elim
 ·rename_i row args w1 hr;obtain⟨v,w2,hR,hs⟩:=h (b.at a (.inRegion ops (i::rest)::k)) cs;have hin:_root_.Go.step P (lone (b.at a (.inRegion ops (i::rest)::k)) cs w)= .next (lone (Frame.ofRow P row args .normal) (b.at a (.inRegion ops (i::rest)::k)::cs) w1):=
   step_lone_go (by rw[hg];simp[stepG.apply,hr,Frame.at])
  refine⟨_,_,hR,.head hin ?_⟩;rw[←hfin];exact hs
 ·exact h.elim
 ·exact h.elim
theorem Qab1(ho:ops[i]? =some o)(hw:Region.wanted o (yielded ops a.tmps)=true)(h:o.wp P a w next (fun _ _ _=>False)):OpGo P ops i a w next:= .inl ⟨o,ho,hw,h⟩
theorem opGoS_of(h:OpGo P ops i a w next):OpGoS P ops i a w next:=by
 rcases h with ⟨o,h1,h2,h3⟩|⟨_,h⟩
 ·exact Qx0 h1 h2 h3
 ·exact h
end
theorem Qnk{P:Program}{ops:Array Oper}{Q:Act→World→Prop}: ∀(l:List Nat) (a:Act) (w:World),Qkr P ops Q l a w→ ∀(b:Frame) (k:List Item) (cs:List Frame),
 ∃a' w',Q a' w'∧Steps P (lone (b.at a (.inRegion ops l::k)) cs w) (lone (b.at a' k) cs w')
 |[],a,w,h,b,k,cs=>⟨a,w,h,.one step_region_end⟩
 |i::rest,a,w,h,b,k,cs=>by
  simp only[Qkr] at h;cases ho:ops[i]? with
  |none=>
   rw[ho] at h;obtain⟨a',w',hq,hs⟩:=Qnk rest a w h b k cs;have h1:=step_op_skip (P:=P) (b:=b) (a:=a) (k:=k) (cs:=cs) (w:=w) (ops:=ops) (i:=i) (rest:=rest) (by simp[ho]);rw[ho] at h1;exact⟨a',w',hq,.head h1 hs⟩
  |some o=>
   rw[ho] at h;simp only at h;split at h
   ·obtain⟨a1,w1,h1,h2⟩:=opGoS_of h b k cs rest;obtain⟨a',w',hq,hs⟩:=Qnk rest a1 w1 h1 b k cs;exact⟨a',w',hq,h2.trans hs⟩
   ·rename_i hw;obtain⟨a',w',hq,hs⟩:=Qnk rest _ w h b k cs;have h1:=step_op_skip (P:=P) (b:=b) (a:=a) (k:=k) (cs:=cs) (w:=w) (ops:=ops) (i:=i) (rest:=rest) (by simp[ho,hw]);rw[ho] at h1;exact⟨a',w',hq,.head h1 hs⟩
theorem region_ch{P:Program}{id:Nat}{ops:Array Oper}{Q:Exit→Act→World→Prop}{a:Act}{w:World}(h:Qkr P ops (Q .normal) (List.range ops.size) a w):(Code.region id ops false).wp P Q a w:=by
 intro b k cs;obtain⟨a',w',hq,hs⟩:=Qnk _ a w h b k cs;exact⟨.normal,a',w',hq,.head step_region hs⟩
section
variable {P:Program}{ops:Array Oper}{i:Nat}{o:Oper}{a:Act}{w:World}{next:Act→World→Prop}
theorem Qjg{fr:Frame}{cs:List Frame}{w w1:World}{cases:Array CommCase}{bl:Bool}{sh:CommShape}{g:Goroutine}
 (h:(stepG P true {frame:=fr,callers:=cs,status:= .running,dying:=none} w).bare= .comm g cases bl sh w1):
 _root_.Go.step P (lone fr cs w)=(communicate P {timers:= #[],alone:=none,slice:=none} #[{(default:Goroutine) with status:= .finished}] 0 g cases bl sh w1).1:=by
 generalize hs:stepG P true {frame:=fr,callers:=cs,status:= .running,dying:=none} w=s at h;cases s<;>simp at h;obtain⟨rfl,rfl,rfl,rfl,rfl⟩:=h;rw[_root_.Go.step,stepT,move_lone];simp[runT,lone,Array.swapAt!,hs]
theorem Qon(c:Nat)(s:Bool):partners #[{(default:Goroutine) with status:= .finished}] c s=[]:=by
 simp[partners]
theorem Qp5{fr:Frame}{cs:List Frame}{w w1:World}{c cap s r:Nat}{buf:Array Value}{tm:Bool}{v z:Value}
 (h:(stepG P true {frame:=fr,callers:=cs,status:= .running,dying:=none} w).bare= .comm {frame:=fr,callers:=cs,status:= .running,dying:=none} #[{chan:= .chan (some c),send:=some v,zero:=z}] true .send w1)
 (hc:w1.heap[c]? =some (.chan cap buf false s r tm))(hroom:buf.size<cap):
 _root_.Go.step P (lone fr cs w)= .next (lone (fr.finish undef) cs {w1 with heap:=w1.heap.setIfInBounds c (.chan cap (buf.push v) false (s+1) r tm)}):=by
 rw[Qjg h];simp[communicate,ways,hc,Qon,hroom,choose,Sem.run,Question.forced,bind,Sem.bind,pure,Goroutine.finishComm,commResult,lone]
theorem Qp7{fr:Frame}{cs:List Frame}{w w1:World}{c cap s r:Nat}{buf:Array Value}{tm cl:Bool}{z:Value}
 (h:(stepG P true {frame:=fr,callers:=cs,status:= .running,dying:=none} w).bare= .comm {frame:=fr,callers:=cs,status:= .running,dying:=none} #[{chan:= .chan (some c),send:=none,zero:=z}] true (.recv false) w1)
 (hc:w1.heap[c]? =some (.chan cap buf cl s r tm))(hsome:0<buf.size):
 _root_.Go.step P (lone fr cs w)= .next (lone (fr.finish (buf.getD 0 undef)) cs {w1 with heap:=w1.heap.setIfInBounds c (.chan cap (buf.extract 1 buf.size) cl s (r+1) tm)}):=by
 rw[Qjg h];simp[communicate,ways,hc,Qon,hsome,choose,Sem.run,Question.forced,bind,Sem.bind,pure,Goroutine.finishComm,commResult,lone]
theorem opGo_send{ch x:Operand}(ho:ops[i]? =some o)(hw:Region.wanted o (yielded ops a.tmps)=true)(hop:o.op= .send ch x){c cap s r:Nat}{buf:Array Value}{tm:Bool}(hch:a.eval ch= .chan (some c))
 (hc:w.heap[c]? =some (.chan cap buf false s r tm))(hroom:buf.size<cap)(hn:next (a.put o.dst undef) {w with heap:=w.heap.setIfInBounds c (.chan cap (buf.push (a.eval x)) false (s+1) r tm)}):OpGo P ops i a w next:=by
 refine .inr ⟨fun o' ho'=>by rw[ho] at ho';obtain rfl:=Option.some.inj ho';rw[hop];rfl,?_⟩;intro b k cs rest;have hg:=stepG_op (P:=P) (b:=b) (a:=a) (k:=k) (cs:=cs) (w:=w) (rest:=rest) ho hw;have hfin: ∀v,(b.at a (.inRegion ops (i::rest)::k)).finish v=b.at (a.put o.dst v) (.inRegion ops rest::k):=fun v=>by
  rw[Frame.finish_at,ho];rfl
 refine⟨_,_,hn,.one ?_⟩;rw[←hfin];have hr:(execOp a.eval o).run P w= .ok (.comm #[{chan:= .chan (some c),send:=some (a.eval x),zero:= .tuple #[]}] true .send) w:=by
  simp[execOp,hop,hch]
 exact Qp5 (z:= .tuple #[]) (v:=a.eval x) (by rw[hg];simp[stepG.apply,hr,Frame.at]) hc hroom
theorem opGo_recv{ch:Operand}{T e:TypeId}{d:ChanDir}{z:Value}(ho:ops[i]? =some o)(hw:Region.wanted o (yielded ops a.tmps)=true)(hop:o.op= .recv T ch false)(hT:P.underlying T=some (.chan d e))(hz:(zeroValue e).run P w= .ok z w)
 {c cap s r:Nat}{buf:Array Value}{tm cl:Bool}(hch:a.eval ch= .chan (some c))
 (hc:w.heap[c]? =some (.chan cap buf cl s r tm))(hsome:0<buf.size)(hn:next (a.put o.dst (buf.getD 0 undef)) {w with heap:=w.heap.setIfInBounds c (.chan cap (buf.extract 1 buf.size) cl s (r+1) tm)}):OpGo P ops i a w next:=by
 refine .inr ⟨fun o' ho'=>by rw[ho] at ho';obtain rfl:=Option.some.inj ho';rw[hop];rfl,?_⟩;intro b k cs rest;have hg:=stepG_op (P:=P) (b:=b) (a:=a) (k:=k) (cs:=cs) (w:=w) (rest:=rest) ho hw;have hfin: ∀v,(b.at a (.inRegion ops (i::rest)::k)).finish v=b.at (a.put o.dst v) (.inRegion ops rest::k):=fun v=>by
  rw[Frame.finish_at,ho];rfl
 refine⟨_,_,hn,.one ?_⟩;rw[←hfin];have hu:(underlying T).run P w= .ok (.chan d e) w:=by simp[underlying,hT]
 have hr:(execOp a.eval o).run P w= .ok (.comm #[{chan:= .chan (some c),send:=none,zero:=z}] true (.recv false)) w:=by
  simp[execOp,hop,hch,hu,hz]
 exact Qp7 (z:=z) (by rw[hg];simp[stepG.apply,hr,Frame.at]) hc hsome
end
end Go.Ae
namespace Go.Ae
structure ConE(C:Ctx)(N:Nat)(s:Qad)(S:Env)(a:Act):Prop where
 wf:Wf C S
 h: ∀n,S.h n=hget s.h n
 tm: ∀t,conc S (tget s.tm t) (a.eval (.tmp t))
 nmT: ∀t,∀m∈(tget s.tm t).nms,m<s.nx
 nmH: ∀n e,hget s.h n=some e→n<s.nx∧ ∀m∈e.2.nms,m<s.nx
 size:a.tmps.size=N
 defers:a.defers=C.ds
 n0:C.n0≤s.nx
 pre:C.Pre S
theorem Qy2{C:Ctx}{S S':Env}{nx cnt:Nat}(h:C.Pre S)(hn:C.n0≤nx)(hp:Pres (fun m=> ¬Fr nx cnt m) S S'):C.Pre S':=by
 intro o ho e' he';obtain⟨e,h1,h2,h3,h4⟩:=hp.nm o (fun hf=>by have:=hf.1;omega) e' he';obtain⟨e0,g1,g2,g3,g4⟩:=h o ho e h1;exact⟨e0,g1,h2.trans g2,h3.trans g3,h4.trans g4⟩
def Con(C:Ctx)(N:Nat)(s:Qad)(a:Act)(w:World):Prop:= ∃S,S.w=w∧ConE C N s S a
theorem Qaad(S:Env)(tm:List (Nat×AV))(f:FuncId):conc S (evO tm (.func f)) (.func (.func f) #[] #[]):=by
 simp only[evO];cases hb:Nat.blt f 1000000000 with
 |true=>simp only[cond_true,conc,rd,rdl];exact⟨#[],#[],by rw[Qoi (by simpa using hb)],rfl,rfl⟩
 |false=>simp only[cond_false,conc]
theorem Qdn{C:Ctx}{N:Nat}{s:Qad}{S:Env}{a:Act}(h:ConE C N s S a)(x:Operand):conc S (evO s.tm x) (a.eval x):=by
 cases x with
 |tmp t=>exact h.tm t
 |const v=>exact kD_conc S v
 |global g=>simp only[evO,conc,rd,Act.eval]
 |func f=>exact Qaad S s.tm f
theorem evO_nms{tm:List (Nat×AV)}{nx:Nat}(h: ∀t,∀m∈(tget tm t).nms,m<nx)(x:Operand): ∀m∈(evO tm x).nms,m<nx:=by
 cases x with
 |tmp t=>exact h t
 |const v=>
  intro m hm;simp only[evO] at hm;unfold kD at hm;split at hm<;>simp[AV.nms] at hm
 |global g=>intro m hm;simp[evO,AV.nms] at hm
 |func f=>intro m hm;simp only[evO] at hm;cases hb:Nat.blt f 1000000000<;>rw[hb] at hm<;>simp[AV.nms] at hm
mutual
theorem Qp3{n:Nat}: ∀(x:AV),x.bel n=true→ ∀m∈x.nms,m<n
 | .any,_=>by simp[AV.nms]
 | .im _,_=>by simp[AV.nms]
 | .agg cs,h=>by simpa only[AV.nms] using Qfv cs (by simpa only[AV.bel] using h)
 | .tup cs,h=>by simpa only[AV.nms] using Qfv cs (by simpa only[AV.bel] using h)
 | .ptr o _,h=>by simpa[AV.nms,AV.bel] using h
 | .eptr o _ _,h=>by simpa[AV.nms,AV.bel] using h
 | .own o,h=>by simpa[AV.nms,AV.bel] using h
 | .mp o,h=>by simpa[AV.nms,AV.bel] using h
 | .ch o,h=>by simpa[AV.nms,AV.bel] using h
 | .it o,h=>by simpa[AV.nms,AV.bel] using h
 | .osl o _ _,h=>by simpa[AV.nms,AV.bel] using h
 | .clo _ a c,h=>by
   simp only[AV.bel,Bool.and_eq_true] at h;simp only[AV.nms,List.mem_append];rintro m (hm|hm)
   ·exact Qfv a h.1 m hm
   ·exact Qfv c h.2 m hm
theorem Qfv{n:Nat}: ∀(xs:List AV),belL n xs=true→ ∀m∈nmsL xs,m<n
 |[],_=>by simp[nmsL]
 |x::xs,h=>by
  simp only[belL,Bool.and_eq_true] at h;simp only[nmsL,List.mem_append];rintro m (hm|hm)
  ·exact Qp3 x h.1 m hm
  ·exact Qfv xs h.2 m hm
end
theorem Qaam{n:Nat}: ∀(rs:List (List AV)),rs.all (belL n)=true→ ∀m∈nmsR rs,m<n
 |[],_=>by simp[nmsR]
 |r::rs,h=>by
  simp only[List.all_cons,Bool.and_eq_true] at h;simp only[nmsR,List.mem_append];rintro m (hm|hm)
  ·exact Qfv r h.1 m hm
  ·exact Qaam rs h.2 m hm
theorem Qhn{n:Nat}: ∀(hs:Qan),belH n hs=true→ ∀o e,hget hs o=some e→ ∀m∈e.2.nms,m<n
 |[],_,o,e,h=>by simp[hget] at h
 |(q,mu,ob)::hs,hb,o,e,h=>by
  have key:(∀m∈ob.nms,m<n)∧belH n hs=true:=by
   cases ob<;>simp only[belH,Bool.and_eq_true] at hb
   ·exact⟨Qfv _ hb.1,hb.2⟩
   ·exact⟨by simp[AObj.nms],hb⟩
   ·exact⟨Qaam _ hb.1,hb.2⟩
   ·exact⟨by simp[AObj.nms],hb⟩
   ·exact⟨by simp[AObj.nms],hb⟩
   ·exact⟨by simp[AObj.nms],hb⟩
   ·exact⟨by simp[AObj.nms],hb⟩
  simp only[hget] at h;cases hq:q==o<;>rw[hq] at h
  ·exact Qhn hs key.2 o e (by simpa using h)
  ·simp only[cond_true,Option.some.injEq] at h;subst h;exact key.1
theorem Qlm{ks:List Nat}{nx cnt:Nat}: ∀(hs:Qan),Qpx ks nx cnt hs=true→ ∀o e,hget hs o=some e→(nx≤o∧o<nx+cnt)∨(o∈ks∧o<nx)
 |[],_,o,e,h=>by simp[hget] at h
 |(q,x)::hs,hb,o,e,h=>by
  simp only[Qpx,Bool.and_eq_true] at hb;simp only[hget] at h;cases hq:q==o<;>rw[hq] at h
  ·exact Qlm hs hb.2 o e (by simpa using h)
  ·have hqo:q=o:=by simpa using hq
   subst hqo
   have:=hb.1
   simp only[newIn,Bool.or_eq_true,Bool.and_eq_true,Nat.ble_eq,Nat.blt_eq,List.contains_iff_mem] at this;exact this
theorem Qm2(a b:Qan)(n:Nat):hget (a++b) n=match hget a n with|some e=>some e|none=>hget b n:=by
 induction a with
 |nil=>rfl
 |cons x a ih=>
  obtain⟨q,e⟩:=x;simp only[List.cons_append,hget];cases q==n<;>simp[ih]
theorem Qm7(ks:List Nat)(n:Nat): ∀(a:Qan),hget (hdel a ks) n=bif ks.contains n then none else hget a n
 |[]=>by simp[hdel,hget]
 |(q,e)::a=>by
  simp only[hdel];have ih:=Qm7 ks n a;cases hq:ks.contains q
  ·simp only[cond_false,hget,ih];cases hqn:q==n
   ·simp
   ·have:q=n:=by simpa using hqn
    subst this;have hq':q∉ks:=by simpa using hq
    simp[hq']
  ·simp only[cond_true,ih,hget];cases hqn:q==n
   ·simp
   ·have:q=n:=by simpa using hqn
    subst this;have hq':q∈ks:=by simpa using hq
    simp[hq']
theorem Qfo{a:Act}{dst:Option Nat}{v:Value}{t:Nat}(hd: ∀d,dst=some d→d<a.tmps.size):
 (a.put dst v).eval (.tmp t)=if dst=some t then v else a.eval (.tmp t):=by
 cases dst with
 |none=>simp[Act.put]
 |some d=>
  have:=hd d rfl
  simp only[Act.put,Act.eval,Array.getD_eq_getD_getElem?,Array.getElem?_setIfInBounds,Option.some.injEq];by_cases h:d=t
  ·subst h;simp[this]
  ·simp[h]
theorem Qeb{s:Qad}{dst:Option Nat}{x:AV}{t:Nat}:tget (s.put dst x).tm t=if dst=some t then x else tget s.tm t:=by
 cases dst with
 |none=>simp[Qad.put]
 |some d=>
  simp only[Qad.put,tget,Option.some.injEq];by_cases h:d=t
  ·subst h;simp
  ·have:(d==t)=false:=by simpa using h
   simp[this,h]
theorem Qxs{C:Ctx}{N:Nat}{s:Qad}{S S':Env}{a:Act}{dst:Option Nat}{r:AV}{E:Eff}{v:Value}(hc:ConE C N s S a)(hok:E.ok s.nx r=true)(hd: ∀d,dst=some d→d<N)
 (hW:Wf C S')(hh:S'.h=E.appf S.h)(hp:Pres (fun m=> ¬Fr s.nx E.cnt m) S S')(hv:conc S' r v):ConE C N (s.app dst r E) S' (a.put dst v):=by
 simp only[Eff.ok,Bool.and_eq_true] at hok;obtain⟨hb1,hb2,hb3⟩:=hok;have hget': ∀n,hget (E.new++hdel s.h E.kill) n=E.appf (hget s.h) n:=by
  intro n;rw[Qm2,Qm7];simp only[Eff.appf];cases hget E.new n<;>rfl
 have hSh:S.h=hget s.h:=funext hc.h;have hst:(s.app dst r E).nx=s.nx+E.cnt:=by cases dst<;>rfl
 have hsh:(s.app dst r E).h=E.new++hdel s.h E.kill:=by cases dst<;>rfl
 have htg: ∀t,tget (s.app dst r E).tm t=if dst=some t then r else tget s.tm t:=fun t=>Qeb
 refine⟨hW,?_,?_,?_,?_,?_,?_,?_,Qy2 hc.pre hc.n0 hp⟩
 ·intro n;rw[hsh,hget',hh,hSh]
 ·intro t;rw[htg,Qfo (fun d h=>by rw[hc.size];exact hd d h)];split
  ·exact hv
  ·refine Qbt hp _ _ ?_ (hc.tm t);intro m hm hfr
   have:=hc.nmT t m hm
   have:=hfr.1
   omega
 ·intro t;rw[htg,hst];split
  ·exact Qp3 r hb1
  ·intro m hm;have:=hc.nmT t m hm;omega
 ·intro n e he;rw[hsh,Qm2] at he;rw[hst];cases hn:hget E.new n with
  |some e'=>
   rw[hn] at he;obtain rfl:=Option.some.inj he;refine⟨?_,Qhn _ hb2 n _ hn⟩;rcases Qlm _ hb3 n _ hn with h|h<;>omega
  |none=>
   rw[hn] at he;simp only[Qm7] at he;cases hk:E.kill.contains n<;>rw[hk] at he
   ·obtain⟨h1,h2⟩:=hc.nmH n e (by simpa using he);exact⟨by omega,fun m hm=>by have:=h2 m hm;omega⟩
   ·simp at he
 ·cases dst<;>simp[Act.put,hc.size]
 ·cases dst<;>simp[Act.put,hc.defers]
 ·rw[hst];exact Nat.le_trans hc.n0 (Nat.le_add_right _ _)
theorem Qty{P:Program}{V:Qbh}(HV:Qd1 P V){C:Ctx}{N:Nat}{s:Qad}{a:Act}{w:World}{ops:Array Oper}{i:Nat}{o:Oper}{go:Qad→Prop}(hio:ops[i]? =some o)(hw:Region.wanted o (yielded ops a.tmps)=true)(hd: ∀d,o.dst=some d→d<N)
 (hk:stepS P V o.dst o.op o.type go s)(hc:Con C N s a w){next:Act→World→Prop}(hn: ∀s' a' w',go s'→Con C N s' a' w'→next a' w'):OpGo P ops i a w next:=by
 obtain⟨S,rfl,hc⟩:=hc;have hSh:S.h=hget s.h:=funext hc.h;unfold stepS at hk;have main:step P V true s.tm (hget s.h) s.nx o.type (kont go s o.dst) o.op→OpGo P ops i a S.w next:=by
  intro hk;refine Qab1 hio hw ?_;have hfr0: ∀n,s.nx≤n→S.h n=none:=by
   intro n hfr;cases hn:S.h n with
   |none=>rfl
   |some e=>
    have:=(hc.nmH n e (by rw[←hc.h n];exact hn)).1
    omega
  have hnm0: ∀n e,S.h n=some e→ ∀m∈e.2.nms,m<s.nx:=fun n e he m hm=>(hc.nmH n e (by rw[←hc.h n];exact he)).2 m hm
  rcases Qrc HV (evO_nms hc.nmT) hk with ⟨r,E,hop,hok,hgo⟩|⟨_,⟨u,habs⟩|hsq⟩
  ·refine hop C S a next _ hc.wf (fun n _=>hc.h n) (fun n hfr=>hfr0 n hfr.1) ?_ (fun x _=>Qdn hc x) ?_
   ·intro n e he m hm hfr
    have:=hnm0 n e he m hm
    have:=hfr.1
    omega
   ·intro v S' hW hh hp hv;exact hn _ _ _ hgo ⟨S',rfl,Qxs hc hok hd hW hh hp hv⟩
  ·exact absurd (habs C S a hc.wf (fun n _=>hc.h n) (fun x _=>Qdn hc x)) id
  ·refine hsq C S a next _ hc.wf hc.h hfr0 hnm0 (fun x _=>Qdn hc x) ?_
   intro r E v S' hK hW hh hp hv;obtain⟨hok,hgo⟩:=hK;exact hn _ _ _ hgo ⟨S',rfl,Qxs hc hok hd hW hh hp hv⟩
 have chan: ∀(q cap:Nat) (bu bu':List D) (l:Loc) (buf':Array Value) (sent rcvd:Nat) (r:AV) (v:Value),S.h q=some (true,.chan bu cap)→S.ρ q=some l→rdl S.ok S.hp bu' buf'.toList→
  (∀S':Env,(∀b,S.ok b→S'.ok b∧S'.hp b=S.hp b)→conc S' r v)→
  kont go s o.dst r {use:=[q],kill:=[q],new:=[(q,(true,.chan bu' cap))]}→next (a.put o.dst v) {S.w with heap:=S.w.heap.setIfInBounds l.b (.chan cap buf' false sent rcvd false)}:=by
  intro q cap bu bu' l buf' sent rcvd r v hS hl hb hv hK
  let w':World:={S.w with heap:=S.w.heap.setIfInBounds l.b (.chan cap buf' false sent rcvd false)}
  have hone:Qjb S q (.chan bu' cap) (some l) [q] w':=Qjw hc.wf hS hl (w':=w') (ob:= .chan cap buf' false sent rcvd false) rfl rfl rfl rfl rfl rfl;have hpr:=Qg2 hc.wf hone;have hobj:objc (S.one q (.chan bu' cap) (some l) [q] w') (some l) (.chan bu' cap):=by
   simp only[objc];exact⟨l,buf',sent,rcvd,rfl,Qpq (hc.wf.loc q _ l hS hl).1 rfl,Qcu hpr.ok _ _ hb⟩
  have hW':=Qqp hc.wf hone hobj;obtain⟨hok,hgo⟩:=hK;refine hn _ _ _ hgo ⟨_,rfl,Qxs hc hok hd hW' ?_ ⟨hpr.ok,fun n hX=>hpr.nm n (.inl (by rw[hS];simp))⟩ (hv _ hpr.ok)⟩;funext n;simp only[Env.one,Eff.appf,Go.Ae.hget];by_cases hn1:n=q
  ·subst hn1;simp
  ·have:(q==n)=false:=by rw[beq_eq_false_iff_ne];exact fun h=>hn1 h.symm
   simp[this,hn1]
 unfold Qc0 at hk;split at hk
 ·rename_i c x hop;unfold stSend at hk;split at hk
  ·rename_i q d hcv hxv;have h1:=Qdn hc c;have h2:=Qdn hc x;rw[hcv] at h1;rw[hxv] at h2;cases hq:hget s.h q with
   |none=>rw[hq] at hk;exact hk.elim
   |some ent=>
    obtain⟨mu,ent⟩:=ent;rw[hq] at hk;cases mu<;>cases ent<;>try exact hk.elim
    rename_i bu cap;simp only[sdGo] at hk;obtain⟨hroom,hk⟩:=hk;have hS:=(hc.h q).trans hq;simp only[conc] at h1 h2;obtain⟨l,hl,hv⟩:=h1.2 _ hS;have hob:=hc.wf.obj _ _ hS;simp only[objc] at hob;obtain⟨lc,buf,sent,rcvd,g1,g2,g3⟩:=hob;rw[hl] at g1;obtain rfl:=Option.some.inj g1;have hlen:=Qjo _ _ g3;simp only[Array.length_toList] at hlen;refine opGo_send hio hw hop hv g2 (by omega) ?_;refine chan q cap bu (bu++[d]) l (buf.push (a.eval x)) (sent+1) rcvd .any undef hS hl ?_ (fun _ _=>by simp only[conc]) hk;rw[Array.toList_push]
    have: ∀(ds:List D) (vs:List Value),rdl S.ok S.hp ds vs→rdl S.ok S.hp (ds++[d]) (vs++[a.eval x]):=by
     intro ds;induction ds with
     |nil=>intro vs h;simp only[rdl] at h;subst h;simp only[List.nil_append,rdl];exact⟨_,_,rfl,h2,rfl⟩
     |cons y ys ih=>
      intro vs h;simp only[rdl] at h;obtain⟨v,r,rfl,k1,k2⟩:=h;simp only[List.cons_append,rdl];exact⟨_,_,rfl,k1,ih r k2⟩
    exact this _ _ g3
  ·exact hk.elim
 ·rename_i T c hop;unfold stRecv at hk;cases hce:Qp9 P T with
  |none=>rw[hce] at hk;exact hk.elim
  |some e=>
  rw[hce] at hk;simp only[rvK] at hk;cases hE:tI P e with
  |none=>rw[hE] at hk;exact hk.elim
  |some te=>
  rw[hE] at hk;simp only[Qax,rvE] at hk;obtain⟨hzl,hz,hk⟩:=hk;obtain⟨z,hzr,_⟩:=Qe5 hE hzl hz;obtain⟨dr,hu⟩:=Qpi hce;have h1:=Qdn hc c;cases hcv:evO s.tm c<;>rw[hcv] at hk h1<;>try exact hk.elim
  rename_i q;simp only[rvC] at hk;cases hq:hget s.h q with
  |none=>rw[hq] at hk;exact hk.elim
  |some ent=>
   obtain⟨mu,ent⟩:=ent;rw[hq] at hk;cases mu<;>cases ent<;>try exact hk.elim
   rename_i bu cap;simp only[rvGo] at hk;obtain⟨hne,hk⟩:=hk;obtain⟨d,r,rfl⟩:=List.exists_cons_of_ne_nil hne;have hk:=hk d r rfl;have hS:=(hc.h q).trans hq;simp only[conc] at h1;obtain⟨l,hl,hv⟩:=h1.2 _ hS;have hob:=hc.wf.obj _ _ hS;simp only[objc] at hob;obtain⟨lc,buf,sent,rcvd,g1,g2,g3⟩:=hob;rw[hl] at g1;obtain rfl:=Option.some.inj g1;simp only[rdl] at g3;obtain⟨v0,vr,k1,k2,k3⟩:=g3;have hsz:0<buf.size:=by rw[←Array.length_toList,k1];simp
   have h0:buf.getD 0 undef=v0:=by
    have:buf.toList[0]? =some v0:=by rw[k1];rfl
    rw[Array.getD_eq_getD_getElem?,←Array.getElem?_toList,this];rfl
   have hx:(buf.extract 1 buf.size).toList=vr:=by
    rw[Array.toList_extract,k1];simp only[List.extract,List.drop_succ_cons,List.drop_zero];apply List.take_of_length_le;rw[←Array.length_toList,k1];simp
   refine opGo_recv hio hw hop hu (hzr _) hv g2 hsz ?_;rw[h0];refine chan q cap (d::r) r l _ sent (rcvd+1) (.im d) v0 hS hl (by rw[hx];exact k3) (fun S' hok=> ?_) hk;simp only[conc];exact Qb8 hok _ _ k2
 ·exact main hk
theorem con_put{C:Ctx}{N:Nat}{s:Qad}{a:Act}{w:World}(hc:Con C N s a w){dst:Option Nat}(hd: ∀d,dst=some d→d<N){x:AV}{v:Value}(hx:x.nms=[])(hv: ∀S,conc S x v):Con C N (s.put dst x) (a.put dst v) w:=by
 obtain⟨S,rfl,hc⟩:=hc;have hh:(s.put dst x).h=s.h:=by cases dst<;>rfl
 have hx':(s.put dst x).nx=s.nx:=by cases dst<;>rfl
 refine⟨S,rfl,hc.wf,fun n=>by rw[hh];exact hc.h n,?_,?_,?_,?_,?_,by rw[hx'];exact hc.n0,hc.pre⟩
 ·intro t;rw[Qeb,Qfo (fun d h=>by rw[hc.size];exact hd d h)];split
  ·exact hv S
  ·exact hc.tm t
 ·intro t;rw[Qeb,hx'];split
  ·rw[hx];intro m hm;cases hm
  ·exact hc.nmT t
 ·intro n e he;rw[hh] at he;rw[hx'];exact hc.nmH n e he
 ·cases dst<;>simp[Act.put,hc.size]
 ·cases dst<;>simp[Act.put,hc.defers]
def Qkq(N:Nat):List Oper→Bool
 |[]=>true
 |o::r=>(match o.dst with|some d=>Nat.blt d N|none=>true) && Qkq N r
theorem Qqk{C:Ctx}{N:Nat}{s:Qad}{S:Env}{a:Act}(hc:ConE C N s S a){ops:Array Oper}{j t:Nat}(ht:(ops[j]?).bind (·.dst)=some t){b:Bool}(hb:tget s.tm t= .im (.bool b)):
 yielded ops a.tmps j=some b:=by
 have h1:=hc.tm t;rw[hb] at h1;simp only[conc,rd,Act.eval] at h1;unfold yielded;rw[ht];simp only[Option.bind_some];rw[Array.getD_eq_getD_getElem?] at h1;cases hq:a.tmps[t]? with
 |none=>rw[hq] at h1;simp[undef] at h1
 |some v=>rw[hq] at h1;simp at h1;rw[h1]
theorem Qpr{P:Program}{V:Qbh}(HV:Qd1 P V){C:Ctx}{N:Nat}{ops:Array Oper}{K:Qad→Prop}{Q:Exit→Act→World→Prop}(hQ: ∀s a w,K s→Con C N s a w→Q .normal a w):
 ∀(rest more:List Oper) (i:Nat),ops.toList.drop i=rest++more→Qkq N rest=true→ ∀(s:Qad) (a:Act) (w:World),rgS P V (Qgy ops rest) K s→Con C N s a w→Qkr P ops (Q .normal) (List.range' i rest.length) a w:=by
 intro rest more;induction rest with
 |nil=>
  intro i _ _ s a w hk hc;simp only[Qgy,rgS] at hk;simpa[Qkr] using hQ s a w hk hc
 |cons o rest ih=>
  intro i hi hd s a w hk hc;simp only[Qkq,Bool.and_eq_true] at hd;have hio:ops[i]? =some o:=by
   have:(ops.toList.drop i)[0]? =some o:=by rw[hi];rfl
   simpa using this
  have hi':ops.toList.drop (i+1)=rest++more:=by
   have:(ops.toList.drop i).drop 1=rest++more:=by rw[hi];rfl
   rwa [List.drop_drop] at this
  have hdst: ∀d,o.dst=some d→d<N:=by
   intro d hd'
   have:=hd.1
   rw[hd'] at this;simpa using this
  have hnext: ∀s' a' w',rgS P V (Qgy ops rest) K s'→Con C N s' a' w'→Qkr P ops (Q .normal) (List.range' (i+1) rest.length) a' w':=fun s' a' w' h1 h2=>ih (i+1) hi' hd.2 s' a' w' h1 h2
  simp only[List.length_cons,List.range'_succ,Qkr,hio];simp only[Qgy,rgS] at hk;cases hg:o.guard with
  |none=>
   rw[hg] at hk;simp only[Qx6,opS] at hk;rw[if_pos (by simp[Region.wanted,hg])];exact Qty HV hio (by simp[Region.wanted,hg]) hdst hk hc hnext
  |some g=>
   obtain⟨j,want⟩:=g;rw[hg] at hk;simp only[Qx6,opS] at hk;cases ht:(ops[j]?).bind (·.dst) with
   |none=>rw[ht] at hk;exact hk.elim
   |some t=>
    rw[ht] at hk;simp only[grdS] at hk;cases hb:tget s.tm t<;>rw[hb] at hk<;>try exact hk.elim
    rename_i d;cases d<;>try exact hk.elim
    case tup cs=>
     cases cs with
     |cons _ _=>exact hk.elim
     |nil=>
      simp only[Qg4,skipS] at hk;have hy:yielded ops a.tmps j=none:=by
       obtain⟨S,_,hcE⟩:=hc;have h1:=hcE.tm t;rw[hb] at h1;simp only[conc,rd,rdl,Act.eval] at h1;obtain⟨vs,h1,h2⟩:=h1;unfold yielded;rw[ht];simp only[Option.bind_some];rw[Array.getD_eq_getD_getElem?] at h1;cases hq:a.tmps[t]? with
       |none=>rfl
       |some v=>rw[hq] at h1;simp at h1;rw[h1]
      rw[if_neg (by simp[Region.wanted,hg,hy])];exact hnext _ _ _ hk (con_put hc hdst rfl (fun S=>by simp only[conc,rd,rdl];exact⟨#[],rfl,rfl⟩))
    case bool b=>
    simp only[Qg4] at hk;obtain⟨S,hSw,hcE⟩:=hc;have hy:=Qqk hcE ht hb;have hput: ∀b':Bool,b=b'→Con C N (s.put (some t) (.im (.bool b'))) a w:=by
     intro b' hbb;subst hbb;refine⟨S,hSw,hcE.wf,hcE.h,?_,?_,hcE.nmH,hcE.size,hcE.defers,hcE.n0,hcE.pre⟩
     ·intro t';rw[Qeb];split
      ·rename_i h;cases h;have:=hcE.tm t;rwa [hb] at this
      ·exact hcE.tm t'
     ·intro t';rw[Qeb];split
      ·intro m hm;simp[AV.nms] at hm
      ·exact hcE.nmT t'
    by_cases hbw:b=want
    ·rw[if_pos (by simp[Region.wanted,hg,hy,hbw])];exact Qty HV hio (by simp[Region.wanted,hg,hy,hbw]) hdst (hk.1 hbw) (hput want hbw) hnext
    ·rw[if_neg (by simp[Region.wanted,hg,hy,hbw])];have hbn:b= !want:=by cases b<;>cases want<;>simp_all
     have h2:=hk.2 hbn;simp only[skipS] at h2;exact hnext _ _ _ h2 (con_put (hput _ hbn) hdst rfl (fun S=>by simp only[conc,rd,rdl];exact⟨#[],rfl,rfl⟩))
theorem Qt0{P:Program}{V:Qbh}(HV:Qd1 P V){C:Ctx}{N id:Nat}{ops:Array Oper}{K:Qad→Prop}{Q:Exit→Act→World→Prop}(hQ: ∀s a w,K s→Con C N s a w→Q .normal a w)
 (hd:Qkq N ops.toList=true){s:Qad}{a:Act}{w:World}(hk:rgS P V (Qgy ops ops.toList) K s)(hc:Con C N s a w):(Code.region id ops false).wp P Q a w:=by
 refine region_ch ?_
 have:=Qpr HV (ops:=ops) hQ ops.toList [] 0 (by simp) hd s a w hk hc
 rwa [Array.length_toList,←List.range_eq_range'] at this
end Go.Ae
namespace Go.Ae
structure Ev where
 i:Nat
 o:Oper
 s:Qad
 r:AV
 E:Eff
 skip:Bool
def HD(D:Nat→Bool):List Ev→(Nat→Option Ent)→(Nat→Option Ent)
 |[],h=>h
 |e::r,h=>HD D r (bif D e.i then e.E.appf h else h)
def TD(D:Nat→Bool):List Ev→(Nat→AV)→(Nat→AV)
 |[],f=>f
 |e::r,f=>TD D r (fun t=>bif D e.i && (e.o.dst==some t) then e.r else f t)
theorem Qwh{n:Nat}: ∀(hs:Qan),n∉Qcv hs→hget hs n=none
 |[],_=>rfl
 |(q,e)::hs,h=>by
  simp only[Qcv,List.mem_cons,not_or] at h
  have:(q==n)=false:=by rw[beq_eq_false_iff_ne];exact fun h'=>h.1 h'.symm
  simp only[hget,this,cond_false];exact Qwh hs h.2
theorem Qur{n:Nat}: ∀(hs:Qan),n∈Qcv hs→ ∃e,hget hs n=some e
 |[],h=>by simp[Qcv] at h
 |(q,e)::hs,h=>by
  simp only[Qcv,List.mem_cons] at h;simp only[hget];cases hq:q==n
  ·have hne:q≠n:=by simpa using hq
   rcases h with rfl|h
   ·exact absurd rfl hne
   ·simpa using Qur hs h
  ·exact⟨e,by simp⟩
theorem Qky{E:Eff}{h:Nat→Option Ent}{n:Nat}(hn:n∉E.touch):E.appf h n=h n:=by
 simp only[Eff.touch,List.mem_append,not_or] at hn;simp[Eff.appf,Qwh _ hn.2,hn.1]
theorem appf_in{E:Eff}{h h':Nat→Option Ent}{n:Nat}(hn:n∈E.touch):E.appf h n=E.appf h' n:=by
 simp only[Eff.appf];cases hg:hget E.new n with
 |some e=>rfl
 |none=>
  simp only[Eff.touch,List.mem_append] at hn;rcases hn with hn|hn
  ·simp[hn]
  ·obtain⟨e,he⟩:=Qur _ hn;rw[he] at hg;cases hg
theorem Qym{E:Eff}{h h':Nat→Option Ent}{n:Nat}(hh:h n=h' n):E.appf h n=E.appf h' n:=by
 simp only[Eff.appf,hh]
theorem Qi2{D D':Nat→Bool}{n:Nat}: ∀(evs:List Ev) (h h':Nat→Option Ent),h n=h' n→(∀e∈evs,D e.i≠D' e.i→n∉e.E.touch)→HD D evs h n=HD D' evs h' n
 |[],_,_,hh,_=>hh
 |e::r,h,h',hh,hd=>by
  simp only[HD];refine Qi2 r _ _ ?_ (fun x hx=>hd x (by simp[hx]));cases h1:D e.i<;>cases h2:D' e.i
  ·simpa using hh
  ·have:=hd e (by simp) (by rw[h1,h2];simp)
   simp only[cond_false,cond_true];rw[Qky this];exact hh
  ·have:=hd e (by simp) (by rw[h1,h2];simp)
   simp only[cond_false,cond_true];rw[Qky this];exact hh
  ·simp only[cond_true];exact Qym hh
theorem Qiv{D D':Nat→Bool}{t:Nat}: ∀(evs:List Ev) (f f':Nat→AV),f t=f' t→(∀e∈evs,D e.i≠D' e.i→e.o.dst≠some t)→TD D evs f t=TD D' evs f' t
 |[],_,_,hh,_=>hh
 |e::r,f,f',hh,hd=>by
  simp only[TD];refine Qiv r _ _ ?_ (fun x hx=>hd x (by simp[hx]));by_cases hq:e.o.dst=some t
  ·have:D e.i=D' e.i:=by
    rcases Decidable.em (D e.i=D' e.i) with h|h
    ·exact h
    ·exact absurd hq (hd e (by simp) h)
   rw[this,hh]
  ·have:(e.o.dst==some t)=false:=by rw[beq_eq_false_iff_ne];exact hq
   simp[this,hh]
theorem Qvg(D:Nat→Bool): ∀(a b:List Ev) (h:Nat→Option Ent),HD D (a++b) h=HD D b (HD D a h)
 |[],_,_=>rfl
 |e::a,b,h=>by simp only[List.cons_append,HD];exact Qvg D a b _
theorem Qwd(D:Nat→Bool): ∀(a b:List Ev) (f:Nat→AV),TD D (a++b) f=TD D b (TD D a f)
 |[],_,_=>rfl
 |e::a,b,f=>by simp only[List.cons_append,TD];exact Qwd D a b _
theorem Qw6{D:Nat→Bool}: ∀(evs:List Ev) (h:Nat→Option Ent) (n:Nat),(∀e∈evs,D e.i=true→n∉e.E.touch)→HD D evs h n=h n
 |[],_,_,_=>rfl
 |e::r,h,n,hd=>by
  simp only[HD];rw[Qw6 r _ n (fun x hx=>hd x (by simp[hx]))];cases h1:D e.i
  ·rfl
  ·exact Qky (hd e (by simp) h1)
theorem Qyr{D:Nat→Bool}: ∀(evs:List Ev) (f:Nat→AV) (t:Nat),(∀e∈evs,D e.i=true→e.o.dst≠some t)→TD D evs f t=f t
 |[],_,_,_=>rfl
 |e::r,f,t,hd=>by
  simp only[TD];rw[Qyr r _ t (fun x hx=>hd x (by simp[hx]))];cases h1:D e.i
  ·rfl
  ·have:(e.o.dst==some t)=false:=by rw[beq_eq_false_iff_ne];exact hd e (by simp) h1
   simp[this]
theorem Qtn{n:Nat}{x:Ent}: ∀(hs:Qan),hget hs n=some x→n∈Qcv hs∧ ∀m∈x.2.nms,m∈nmsH hs
 |[],h=>by simp[hget] at h
 |(q,mu,ob)::hs,h=>by
  simp only[hget] at h;simp only[Qcv,nmsH,List.mem_cons,List.mem_append];cases hq:q==n<;>rw[hq] at h
  ·obtain⟨h1,h2⟩:=Qtn hs (by simpa using h);exact⟨.inr h1,fun m hm=> .inr (h2 m hm)⟩
  ·have hqn:q=n:=by simpa using hq
   simp only[cond_true,Option.some.injEq] at h;subst h;exact⟨.inl hqn.symm,fun m hm=> .inl hm⟩
theorem HD_src{D:Nat→Bool}{n:Nat}{x:Ent}: ∀(evs:List Ev) (h:Nat→Option Ent),HD D evs h n=some x→h n=some x∨ ∃e∈evs,D e.i=true∧hget e.E.new n=some x
 |[],_,hx=> .inl hx
 |e::r,h,hx=>by
  simp only[HD] at hx;rcases HD_src r _ hx with h1|⟨f,hf,h2⟩
  ·cases hd:D e.i<;>rw[hd] at h1
   ·exact .inl h1
   ·simp only[cond_true,Eff.appf] at h1;cases hg:hget e.E.new n with
    |some y=>
     rw[hg] at h1;obtain rfl:=Option.some.inj h1;exact .inr ⟨e,by simp,hd,hg⟩
    |none=>
     rw[hg] at h1;cases hk:e.E.kill.contains n<;>rw[hk] at h1
     ·exact .inl h1
     ·cases h1
  ·exact .inr ⟨f,by simp[hf],h2⟩
theorem TD_src{D:Nat→Bool}{t:Nat}: ∀(evs:List Ev) (f:Nat→AV),TD D evs f t=f t∨ ∃e∈evs,D e.i=true∧TD D evs f t=e.r
 |[],_=> .inl rfl
 |e::r,f=>by
  simp only[TD];rcases TD_src r (fun t=>bif D e.i && (e.o.dst==some t) then e.r else f t) with h1|⟨x,hx,h2⟩
  ·rw[h1];cases hd:D e.i
   ·exact .inl rfl
   ·cases hq:e.o.dst==some t
    ·exact .inl rfl
    ·exact .inr ⟨e,by simp,hd,rfl⟩
  ·exact .inr ⟨x,by simp[hx],h2⟩
structure Sep(e f:Ev):Prop where
 a: ∀n,n∈f.E.use++f.E.kill→n∉e.E.touch
 b: ∀n,n∈f.E.touch→n∉e.E.touch
 c: ∀n,n∈f.E.touch→n∉e.E.use++e.E.kill
 d: ∀n,n∈f.E.touch++(f.r.nms++nmsH f.E.new)→ ¬Fr e.s.nx e.E.cnt n
theorem Qlq: ∀(l k:List Nat),Ql9 l k=true→ ∀n∈l,n∉k
 |[],_,_,n,hn=>by cases hn
 |x::l,k,h,n,hn=>by
  simp only[Ql9,Bool.and_eq_true,Bool.not_eq_true'] at h;rcases List.mem_cons.1 hn with rfl|hn
  ·intro hk
   have:=h.1
   rw[List.contains_iff_mem.2 hk] at this;cases this
  ·exact Qlq l k h.2 n hn
theorem Qtw{nx cnt:Nat}: ∀(l:List Nat),outN nx cnt l=true→ ∀n∈l,¬Fr nx cnt n
 |[],_,n,hn=>by cases hn
 |x::l,h,n,hn=>by
  simp only[outN,Bool.and_eq_true,Bool.or_eq_true,Nat.blt_eq,Nat.ble_eq] at h;rcases List.mem_cons.1 hn with rfl|hn
  ·intro hf
   have:=hf.1
   have:=hf.2
   omega
  ·exact Qtw l h.2 n hn
def GdOk(ops:Array Oper)(s:Qad)(skip:Bool):Option (Nat×Bool)→Prop
 |none=>skip=false
 |some (g,want)=> ∃t,(ops[g]?).bind (·.dst)=some t∧((∃b,tget s.tm t= .im (.bool b)∧skip=(b !=want))∨(tget s.tm t= .im (.tup [])∧skip=true))
structure EvOk(P:Program)(ops:Array Oper)(e:Ev):Prop where
 op:ops[e.i]? =some e.o
 gd:GdOk ops e.s e.skip e.o.guard
 doo:e.skip=false→OpT P e.s.tm (hget e.s.h) e.s.nx e.o e.r e.E∧e.E.ok e.s.nx e.r=true
 skp:e.skip=true→e.r= .im (.tup [])∧e.E={}
abbrev allB:Nat→Bool:=fun _=>true
def ltB(j:Nat):Nat→Bool:=fun i=>Nat.blt i j
theorem ltB_t{i j:Nat}(h:ltB j i=true):i<j:=by simpa[ltB] using h
structure GT(P:Program)(ops:Array Oper)(cl:List (List Nat))(s0:Qad)(evs:List Ev)(s:Qad)(acc:List Fp):Prop where
 idx: ∀(k:Nat) (e:Ev),evs[k]? =some e→e.i=k
 tm: ∀t,tget s.tm t=TD allB evs (tget s0.tm) t
 h: ∀n,hget s.h n=HD allB evs (hget s0.h) n
 nx:s0.nx≤s.nx
 ev: ∀e∈evs,EvOk P ops e∧s0.nx≤e.s.nx∧e.s.nx+e.E.cnt≤s.nx
 atT: ∀e∈evs,∀t,tget e.s.tm t=TD (ltB e.i) evs (tget s0.tm) t
 atH: ∀e∈evs,∀n,hget e.s.h n=HD (ltB e.i) evs (hget s0.h) n
 ord: ∀e∈evs,∀f∈evs,e.i<f.i→e.s.nx+e.E.cnt≤f.s.nx
 pair: ∀e∈evs,∀f∈evs,e.i<f.i→ordB cl e.i f.i=true∨Sep e f
 acc: ∀e∈evs,e.skip=true∨(⟨e.i,e.E.use++e.E.kill,e.E.touch,e.s.nx,e.E.cnt⟩:Fp)∈acc
 nmT: ∀t,∀m∈(tget s.tm t).nms,m<s.nx
section
variable {P:Program}{ops:Array Oper}{cl:List (List Nat)}{s0 s:Qad}{evs:List Ev}{acc:List Fp}
theorem GT.lt(g:GT P ops cl s0 evs s acc): ∀e∈evs,e.i<evs.length:=by
 intro e he;obtain⟨k,hk,hke⟩:=List.mem_iff_getElem.1 he
 have:=g.idx k e (by rw[List.getElem?_eq_getElem hk,hke])
 omega
theorem GT.nil(h: ∀t,∀m∈(tget s0.tm t).nms,m<s0.nx):GT P ops cl s0 [] s0 []:=by
 refine⟨by simp,fun t=>rfl,fun n=>rfl,Nat.le_refl _,by simp,by simp,by simp,by simp,by simp,by simp,h⟩
theorem GT.snoc(g:GT P ops cl s0 evs s acc)(e:Ev)(hi:e.i=evs.length)(hok:EvOk P ops e)(hs: ∀t,tget e.s.tm t=tget s.tm t)(hh: ∀n,hget e.s.h n=hget s.h n)(hnx:e.s.nx=s.nx)
 (hpair: ∀f∈evs,ordB cl f.i e.i=true∨Sep f e){s':Qad}{acc':List Fp}(ht': ∀t,tget s'.tm t=if e.o.dst=some t then e.r else tget s.tm t)
 (hh': ∀n,hget s'.h n=e.E.appf (hget s.h) n)(hnx':s'.nx=s.nx+e.E.cnt)(hacc: ∀f∈acc,f∈acc')(hacc':e.skip=true∨(⟨e.i,e.E.use++e.E.kill,e.E.touch,e.s.nx,e.E.cnt⟩:Fp)∈acc')
 (hr: ∀m∈e.r.nms,m<s'.nx):GT P ops cl s0 (evs++[e]) s' acc':=by
 have hlt: ∀f∈evs,f.i<e.i:=fun f hf=>by rw[hi];exact g.lt f hf
 have hTall: ∀t,TD (ltB e.i) evs (tget s0.tm) t=tget s.tm t:=by
  intro t;rw[g.tm t];refine Qiv evs _ _ rfl ?_;intro f hf hne;exact absurd (by simp[ltB,hlt f hf]) hne
 have hHall: ∀n,HD (ltB e.i) evs (hget s0.h) n=hget s.h n:=by
  intro n;rw[g.h n];refine Qi2 evs _ _ rfl ?_;intro f hf hne;exact absurd (by simp[ltB,hlt f hf]) hne
 have hold: ∀f∈evs,ltB f.i e.i=false:=by
  intro f hf
  have:=hlt f hf
  rw[Bool.eq_false_iff];intro h
  have:=ltB_t h
  omega
 have hself:ltB e.i e.i=false:=by
  rw[Bool.eq_false_iff];intro h
  have:=ltB_t h
  omega
 have hmem: ∀f,f∈evs++[e]→f∈evs∨f=e:=by intro f hf;simpa using hf
 refine⟨?_,?_,?_,?_,?_,?_,?_,?_,?_,?_,?_⟩
 ·intro k f hk;rcases Nat.lt_trichotomy k evs.length with h|h|h
  ·rw[List.getElem?_append_left h] at hk;exact g.idx k f hk
  ·subst h;rw[List.getElem?_append_right (Nat.le_refl _)] at hk;simp at hk;subst hk;exact hi
  ·rw[List.getElem?_append_right (by omega)] at hk
   have:(k - evs.length)≠0:=by omega
   cases hq:k - evs.length with
   |zero=>omega
   |succ q=>rw[hq] at hk;simp at hk
 ·intro t;rw[ht',Qwd];simp only[TD,allB,Bool.true_and];by_cases hq:e.o.dst=some t
  ·simp[hq]
  ·have:(e.o.dst==some t)=false:=by rw[beq_eq_false_iff_ne];exact hq
   rw[if_neg hq,this];exact g.tm t
 ·intro n;rw[hh',Qvg];simp only[HD,allB,cond_true];exact Qym (g.h n)
 ·have:=g.nx;omega
 ·intro f hf;have hnx0:=g.nx;rcases hmem f hf with hf|rfl
  ·obtain⟨h1,h2,h3⟩:=g.ev f hf;exact⟨h1,h2,by omega⟩
  ·exact⟨hok,by omega,by omega⟩
 ·intro f hf t;rw[Qwd];rcases hmem f hf with hf|rfl
  ·simp only[TD,hold f hf,Bool.false_and,cond_false];exact g.atT f hf t
  ·simp only[TD,hself,Bool.false_and,cond_false];rw[hTall,hs]
 ·intro f hf n;rw[Qvg];rcases hmem f hf with hf|rfl
  ·simp only[HD,hold f hf,cond_false];exact g.atH f hf n
  ·simp only[HD,hself,cond_false];rw[hHall,hh]
 ·intro x hx y hy hxy;rcases hmem x hx with hx'|rfl<;>rcases hmem y hy with hy'|rfl
  ·exact g.ord x hx' y hy' hxy
  ·have:=(g.ev x hx').2.2;omega
  ·have:=hlt y hy';omega
  ·omega
 ·intro x hx y hy hxy;rcases hmem x hx with hx'|rfl<;>rcases hmem y hy with hy'|rfl
  ·exact g.pair x hx' y hy' hxy
  ·exact hpair x hx'
  ·have:=hlt y hy';omega
  ·omega
 ·intro f hf;rcases hmem f hf with hf|rfl
  ·rcases g.acc f hf with h|h
   ·exact .inl h
   ·exact .inr (hacc _ h)
  ·exact hacc'
 ·intro t m hm;rw[ht'] at hm;split at hm
  ·exact hr m hm
  ·have:=g.nmT t m hm;omega
theorem Qrd{j:Nat}{use touch names:List Nat}: ∀(acc:List Fp),Qabz cl j use touch names acc=true→ ∀f∈acc,ckP cl j use touch names f=true
 |[],_,f,hf=>by cases hf
 |x::acc,h,f,hf=>by
  simp only[Qabz,Bool.and_eq_true] at h;rcases List.mem_cons.1 hf with rfl|hf
  ·exact h.1
  ·exact Qrd acc h.2 f hf
theorem tr_of_rgA{V:Qbh}(HV:Qd1 P V){K:Qad→Prop}: ∀(rest:List Oper) (i:Nat) (acc:List Fp) (s:Qad) (evs:List Ev),ops.toList.drop i=rest→evs.length=i→
 GT P ops cl s0 evs s acc→rgA P V cl (Qgy ops rest) i K acc s→ ∃evs' s' acc',evs'.length=i+rest.length∧GT P ops cl s0 evs' s' acc'∧K s':=by
 intro rest;induction rest with
 |nil=>intro i acc s evs _ hl g hk;exact⟨evs,s,acc,by simpa using hl,g,hk⟩
 |cons o rest ih=>
  intro i acc s evs hi hl g hk;have hio:ops[i]? =some o:=by
   have:(ops.toList.drop i)[0]? =some o:=by rw[hi];rfl
   simpa using this
  have hi':ops.toList.drop (i+1)=rest:=by
   have:(ops.toList.drop i).drop 1=rest:=by rw[hi];rfl
   rwa [List.drop_drop] at this
  have hdo: ∀s1:Qad,(∀t,tget s1.tm t=tget s.tm t)→s1.h=s.h→s1.nx=s.nx→GdOk ops s1 false o.guard→stepA P V cl i acc o.dst o.op o.type (rgA P V cl (Qgy ops rest) (i+1) K) s1→
   ∃evs' s' acc',evs'.length=i+(rest.length+1)∧GT P ops cl s0 evs' s' acc'∧K s':=by
   intro s1 ht hh hnx hgd hst;have hnm: ∀x,∀m∈(evO s1.tm x).nms,m<s1.nx:=evO_nms (fun t m hm=>by rw[ht] at hm;rw[hnx];exact g.nmT t m hm);rcases Qrc HV hnm hst with ⟨r,E,hop,hok,hck,hgo⟩|⟨h,_⟩
   ·have hck':=Qrd acc hck;have hst:(s1.app o.dst r E).nx=s1.nx+E.cnt:=by cases o.dst<;>rfl
    have hb:=hok;simp only[Eff.ok,Bool.and_eq_true] at hb;have g':GT P ops cl s0 (evs++[⟨i,o,s1,r,E,false⟩]) (s1.app o.dst r E) (⟨i,E.use++E.kill,E.touch,s1.nx,E.cnt⟩::acc):=by
     refine g.snoc ⟨i,o,s1,r,E,false⟩ hl.symm ⟨hio,hgd,fun _=>⟨hop,hok⟩,fun h=>by cases h⟩ ht (fun n=>by rw[hh]) hnx ?_ (fun t=> ?_) (fun n=> ?_) (by rw[hst,hnx]) (fun f hf=>by simp[hf]) (.inr (by simp)) ?_
     ·intro f hf;rcases g.acc f hf with hs|ha
      ·obtain⟨h1,h2⟩:=((g.ev f hf).1).skp hs;refine .inr ⟨?_,?_,?_,?_⟩<;>rw[h2]
       ·intro n _;simp[Eff.touch,Qcv]
       ·intro n _;simp[Eff.touch,Qcv]
       ·intro n _;simp
       ·intro n _ hfr
        have:=hfr.1
        have:=hfr.2
        simp only at this;omega
      ·have h:=hck' _ ha;unfold ckP at h;rw[Bool.cond_eq_ite] at h;split at h
       ·rename_i hx;simp only[Bool.and_eq_true] at hx;obtain⟨h1,h2,h3⟩:=hx;have h1':=Qlq _ _ h1;exact .inr ⟨fun n hn=>h1' n (by simp only[List.mem_append] at hn⊢;exact .inl hn),fun n hn=>h1' n (List.mem_append_right _ hn),Qlq _ _ h2,Qtw _ h3⟩
       ·exact .inl h
     ·have:tget (s1.app o.dst r E).tm t=if o.dst=some t then r else tget s1.tm t:=Qeb
      rw[this,ht]
     ·have:(s1.app o.dst r E).h=E.new++hdel s1.h E.kill:=by cases o.dst<;>rfl
      rw[this,Qm2,Qm7,hh];simp only[Eff.appf];cases hget E.new n<;>rfl
     ·rw[hst];exact Qp3 r hb.1
    obtain⟨evs',s',acc',h1,h2,h3⟩:=ih (i+1) _ _ _ hi' (by simp[hl]) g' hgo;exact⟨evs',s',acc',by omega,h2,h3⟩
   ·cases h
  simp only[Qgy,rgA] at hk;simp only[List.length_cons];cases hg:o.guard with
  |none=>
   rw[hg] at hk;simp only[Qx6,opA] at hk;exact hdo s (fun _=>rfl) rfl rfl (by rw[hg];rfl) hk
  |some gw=>
   obtain⟨j,want⟩:=gw;rw[hg] at hk;simp only[Qx6,opA] at hk;cases ht:(ops[j]?).bind (·.dst) with
   |none=>rw[ht] at hk;exact hk.elim
   |some t=>
    rw[ht] at hk;simp only[grdA] at hk;cases hb:tget s.tm t<;>rw[hb] at hk<;>try exact hk.elim
    rename_i d;have hskip: ∀s2:Qad,(∀t',tget s2.tm t'=tget s.tm t')→s2.h=s.h→s2.nx=s.nx→GdOk ops s true o.guard→rgA P V cl (Qgy ops rest) (i+1) K acc (s2.put o.dst (.im (.tup [])))→
     ∃evs' s' acc',evs'.length=i+(rest.length+1)∧GT P ops cl s0 evs' s' acc'∧K s':=by
     intro s2 hput hh hnx hgd h2;have g':GT P ops cl s0 (evs++[⟨i,o,s,.im (.tup []),{},true⟩]) (s2.put o.dst (.im (.tup []))) acc:=by
      refine g.snoc ⟨i,o,s,.im (.tup []),{},true⟩ hl.symm ⟨hio,hgd,(fun h=>by cases h),(fun _=>⟨rfl,rfl⟩)⟩ (fun _=>rfl) (fun _=>rfl) rfl ?_ (fun t'=> ?_) (fun n=> ?_) ?_ (fun f hf=>hf) (.inl rfl) ?_
      ·intro f hf;refine .inr ⟨?_,?_,?_,?_⟩<;>simp[Eff.touch,Qcv,AV.nms,nmsH]
      ·rw[Qeb,hput]
      ·have:(s2.put o.dst (.im (.tup []))).h=s2.h:=by cases o.dst<;>rfl
       rw[this,hh];simp[Eff.appf,hget]
      ·have:(s2.put o.dst (.im (.tup []))).nx=s2.nx:=by cases o.dst<;>rfl
       rw[this,hnx];rfl
      ·intro m hm;simp[AV.nms] at hm
     obtain⟨evs',s',acc',h1,h2,h3⟩:=ih (i+1) _ _ _ hi' (by simp[hl]) g' h2;exact⟨evs',s',acc',by omega,h2,h3⟩
    cases d<;>try exact hk.elim
    case tup cs=>
     cases cs with
     |cons _ _=>exact hk.elim
     |nil=>
      simp only[Qg4,skipA] at hk;exact hskip s (fun _=>rfl) rfl rfl (by rw[hg];exact⟨t,ht,.inr ⟨hb,rfl⟩⟩) hk
    case bool b=>
    simp only[Qg4] at hk;have hput: ∀b':Bool,b=b'→ ∀t',tget (s.put (some t) (.im (.bool b'))).tm t'=tget s.tm t':=by
     intro b' hbb t';subst hbb;rw[Qeb];split
     ·rename_i h;cases h;exact hb.symm
     ·rfl
    by_cases hbw:b=want
    ·refine hdo (s.put (some t) (.im (.bool want))) (hput want hbw) rfl rfl ?_ (hk.1 hbw);rw[hg];exact⟨t,ht,.inl ⟨b,by rw[hput want hbw,hb],by simp[hbw]⟩⟩
    ·have hbn:b= !want:=by cases b<;>cases want<;>simp_all
     have h2:=hk.2 hbn;simp only[skipA] at h2;refine hskip (s.put (some t) (.im (.bool (!want)))) (hput _ hbn) rfl rfl ?_ h2;rw[hg];exact⟨t,ht,.inl ⟨b,hb,by simp[hbn]⟩⟩
end
end Go.Ae
namespace Go.Ae
def stGo(ops:Array Oper)(cl:List (List Nat)):List Oper→Nat→List (Nat×Oper)→Bool
 |[],_,_=>true
 |o::r,j,acc=>(o.after.toList.all fun e=> !bnd e.ground||Nat.blt e.on j) && (acc.all (fun p=>ordB cl p.1 j||p.2.apart ops o) && stGo ops cl r (j+1) ((j,o)::acc))
def stOk(ops:Array Oper):Bool:=stGo ops (Qdr ops.toList []) ops.toList 0 []
theorem Qup(e:Edge):Region.binds .any e=bnd e.ground:=by
 unfold Region.binds;cases e.ground<;>rfl
structure StOk(ops:Array Oper)(cl:List (List Nat)):Prop where
 lo: ∀(j:Nat) (o:Oper),ops[j]? =some o→ ∀e∈o.after.toList,bnd e.ground=true→e.on<j
 ap: ∀(i j:Nat) (x y:Oper),i<j→ops[i]? =some x→ops[j]? =some y→ordB cl i j=true∨x.apart ops y=true
theorem stGo_spec{ops:Array Oper}{cl:List (List Nat)}: ∀(rest:List Oper) (j:Nat) (acc:List (Nat×Oper)),ops.toList.drop j=rest→(∀i x,i<j→ops[i]? =some x→(i,x)∈acc)→stGo ops cl rest j acc=true→
 (∀(k:Nat) (o:Oper),j≤k→ops[k]? =some o→ ∀e∈o.after.toList,bnd e.ground=true→e.on<k)∧
 (∀(i k:Nat) (x y:Oper),j≤k→i<k→ops[i]? =some x→ops[k]? =some y→ordB cl i k=true∨x.apart ops y=true):=by
 intro rest;induction rest with
 |nil=>
  intro j acc hd _ _;have hs:ops.size≤j:=by
   have:=congrArg List.length hd
   simp at this;omega
  refine⟨fun k o hk ho=> ?_,fun i k x y hk _ _ hy=> ?_⟩
  ·have:=(Array.getElem?_eq_some_iff.1 ho).1;omega
  ·have:=(Array.getElem?_eq_some_iff.1 hy).1;omega
 |cons o rest ih=>
  intro j acc hd hacc hs;have hjo:ops[j]? =some o:=by
   have:(ops.toList.drop j)[0]? =some o:=by rw[hd];rfl
   simpa using this
  have hd':ops.toList.drop (j+1)=rest:=by
   have:(ops.toList.drop j).drop 1=rest:=by rw[hd];rfl
   rwa [List.drop_drop] at this
  simp only[stGo,Bool.and_eq_true,List.all_eq_true,Bool.or_eq_true,Bool.not_eq_true',Nat.blt_eq] at hs;obtain⟨h1,h2,h3⟩:=hs;obtain⟨r1,r2⟩:=ih (j+1) ((j,o)::acc) hd' (by
   intro i x hi hx;rcases Nat.lt_or_ge i j with h|h
   ·exact List.mem_cons_of_mem _ (hacc i x h hx)
   ·have:i=j:=by omega
    subst this;rw[hjo] at hx;cases hx;exact List.mem_cons_self) h3
  refine⟨fun k p hk hp=> ?_,fun i k x y hk hik hx hy=> ?_⟩
  ·rcases Nat.lt_or_ge j k with h|h
   ·exact r1 k p h hp
   ·have:k=j:=by omega
    subst this;rw[hjo] at hp;cases hp;intro e he hb;rcases h1 e he with h|h
    ·rw[h] at hb;cases hb
    ·exact h
  ·rcases Nat.lt_or_ge j k with h|h
   ·exact r2 i k x y h hik hx hy
   ·have:k=j:=by omega
    subst this;rw[hjo] at hy;cases hy;exact h2 (i,x) (hacc i x hik hx)
theorem stOk_spec{ops:Array Oper}(h:stOk ops=true):StOk ops (Qdr ops.toList []):=by
 obtain⟨h1,h2⟩:=stGo_spec (cl:=Qdr ops.toList []) ops.toList 0 [] rfl (by intro i x hi;omega) h;exact⟨fun j o ho=>h1 j o (Nat.zero_le _) ho,fun i j x y hij hx hy=>h2 i j x y (Nat.zero_le _) hij hx hy⟩
theorem nthL_app(a b:List (List Nat)): ∀(k:Nat),k<a.length→nthL (a++b) k=nthL a k:=by
 induction a with
 |nil=>intro k hk;simp at hk
 |cons x a ih=>
  intro k hk;cases k with
  |zero=>rfl
  |succ k=>exact ih k (by simpa using hk)
theorem nthL_at(a:List (List Nat))(x:List Nat)(b:List (List Nat)):nthL (a++x::b) a.length=x:=by
 induction a with
 |nil=>rfl
 |cons y a ih=>exact ih
theorem Qaaw: ∀(a:List (List Nat)) (k:Nat),a.length≤k→nthL a k=[]
 |[],_,_=>rfl
 |_::a,0,h=>by simp at h
 |_::a,k+1,h=>Qaaw a k (by simpa using h)
theorem Qnq: ∀(rest:List Oper) (acc:List (List Nat)) (k:Nat),k<acc.length→nthL (Qdr rest acc) k=nthL acc k
 |[],_,_,_=>rfl
 |o::r,acc,k,h=>by
  simp only[Qdr];rw[Qnq r _ k (by simp;omega),nthL_app _ _ _ h]
theorem Qy4: ∀(rest:List Oper) (acc:List (List Nat)) (k:Nat) (o:Oper),rest[k]? =some o→ ∃acc':List (List Nat),acc'.length=acc.length+k∧(∀m,m<acc'.length→nthL acc' m=nthL (Qdr rest acc) m)∧
 nthL (Qdr rest acc) (acc.length+k)=cloE acc' o.after.toList
 |[],_,k,o,h=>by simp at h
 |x::r,acc,0,o,h=>by
  obtain rfl:x=o:=by simpa using h
  refine⟨acc,rfl,fun m hm=>(Qnq _ _ m hm).symm,?_⟩;simp only[Qdr,Nat.add_zero];rw[Qnq _ _ _ (by simp),nthL_at]
 |x::r,acc,k+1,o,h=>by
  obtain⟨acc',h1,h2,h3⟩:=Qy4 r (acc++[cloE acc x.after.toList]) k o (by simpa using h);simp only[List.length_append,List.length_cons,List.length_nil] at h1 h3;refine⟨acc',by omega,h2,?_⟩;simp only[Qdr];rw[←h3];congr 1;omega
theorem ins_mem{x y:Nat}{l:List Nat}(h:y∈ins x l):y=x∨y∈l:=by
 unfold ins at h;cases hc:l.contains x<;>rw[hc] at h
 ·simpa using h
 ·exact .inr (by simpa using h)
theorem Qzy{y:Nat}: ∀(a l:List Nat),y∈insL a l→y∈a∨y∈l
 |[],_,h=> .inr h
 |x::r,l,h=>by
  rcases ins_mem h with h|h
  ·exact .inl (by simp[h])
  ·rcases Qzy r l h with h|h
   ·exact .inl (by simp[h])
   ·exact .inr h
theorem Qsb{acc:List (List Nat)}{i:Nat}: ∀(es:List Edge),i∈cloE acc es→ ∃e∈es,bnd e.ground=true∧(i=e.on∨i∈nthL acc e.on)
 |[],h=>by simp[cloE] at h
 |e::r,h=>by
  simp only[cloE] at h;cases hb:bnd e.ground<;>rw[hb] at h
  ·obtain⟨x,hx,h2⟩:=Qsb r h;exact⟨x,by simp[hx],h2⟩
  ·simp only[cond_true] at h;have h:=Qzy _ _ h;simp only[List.mem_cons,or_assoc] at h;rcases h with h|h|h
   ·exact⟨e,by simp,hb,.inl h⟩
   ·exact⟨e,by simp,hb,.inr h⟩
   ·obtain⟨x,hx,h2⟩:=Qsb r h;exact⟨x,by simp[hx],h2⟩
theorem clo_mem{ops:Array Oper}{i j:Nat}{o:Oper}(ho:ops[j]? =some o)(h:i∈nthL (Qdr ops.toList []) j):
 ∃e∈o.after.toList,bnd e.ground=true∧(i=e.on∨(e.on<j∧i∈nthL (Qdr ops.toList []) e.on)):=by
 obtain⟨acc',h1,h2,h3⟩:=Qy4 ops.toList [] j o (by simpa using ho);simp only[List.length_nil,Nat.zero_add] at h1 h3;rw[h3] at h;obtain⟨e,he,hb,h4⟩:=Qsb _ h;refine⟨e,he,hb,?_⟩;rcases h4 with h4|h4
 ·exact .inl h4
 ·rcases Nat.lt_or_ge e.on acc'.length with h5|h5
  ·exact .inr ⟨by omega,by rw[←h2 _ h5];exact h4⟩
  ·rw[Qaaw _ _ h5] at h4;cases h4
def Closed(ops:Array Oper)(D:Nat→Bool):Prop:= ∀(j:Nat) (o:Oper),D j=true→ops[j]? =some o→ ∀e∈o.after.toList,bnd e.ground=true→D e.on=true
theorem Qqg{ops:Array Oper}{D:Nat→Bool}(hc:Closed ops D){i j:Nat}{o:Oper}(ho:ops[j]? =some o)(hr: ∀e∈o.after.toList,bnd e.ground=true→D e.on=true)
 (h:ordB (Qdr ops.toList []) i j=true):D i=true:=by
 have hi:i∈nthL (Qdr ops.toList []) j:=by simpa[ordB] using h
 clear h;induction j using Nat.strongRecOn generalizing o with
 |_ j ih=>
  obtain⟨e,he,hb,h|⟨h,h2⟩⟩:=clo_mem ho hi
  ·rw[h];exact hr e he hb
  ·have hlt:=(Array.getElem?_eq_some_iff.1 ho).1;have hoe:ops[e.on]? =some ops[e.on]:=Array.getElem?_eq_getElem (by omega);exact ih e.on h hoe (hc e.on _ (hr e he hb) hoe) h2
structure AtE(C:Ctx)(N:Nat)(evs:List Ev)(s0:Qad)(D:Nat→Bool)(S:Env)(a:Act):Prop where
 wf:Wf C S
 h: ∀n,S.h n=HD D evs (hget s0.h) n
 tm: ∀t,conc S (TD D evs (tget s0.tm) t) (a.eval (.tmp t))
 size:a.tmps.size=N
 defers:a.defers=C.ds
 n0:C.n0≤s0.nx
 pre:C.Pre S
section
variable {P:Program}{ops:Array Oper}{s0 s:Qad}{evs:List Ev}{acc:List Fp}{C:Ctx}{N:Nat}
theorem Qzx{E:Eff}{nx:Nat}{r:AV}(hok:E.ok nx r=true):(∀m∈r.nms,m<nx+E.cnt)∧(∀n x,hget E.new n=some x→(Fr nx E.cnt n∨(n∈E.kill∧n<nx))∧ ∀m∈x.2.nms,m<nx+E.cnt):=by
 simp only[Eff.ok,Bool.and_eq_true] at hok;obtain⟨h1,h2,h3⟩:=hok;exact⟨Qp3 r h1,fun n x hx=>⟨Qlm _ h3 n x hx,Qhn _ h2 n x hx⟩⟩
theorem at_step(g:GT P ops (Qdr ops.toList []) s0 evs s acc)(hn0: ∀n e,hget s0.h n=some e→n<s0.nx∧ ∀m∈e.2.nms,m<s0.nx)(hnt0: ∀t,∀m∈(tget s0.tm t).nms,m<s0.nx)
 (st:StOk ops (Qdr ops.toList []))(hN:Qkq N ops.toList=true){D:Nat→Bool}(hc:Closed ops D){e:Ev}(he:e∈evs)(hD:D e.i=false)
 (hr: ∀x∈e.o.after.toList,bnd x.ground=true→D x.on=true){S:Env}{a:Act}(hA:AtE C N evs s0 D S a){K:Act→World→Prop}{Q:Exit→Act→World→Prop}
 (hK: ∀a' S',AtE C N evs s0 (fun i=>D i||i==e.i) S' a'→K a' S'.w):wpOp P ops Q e.i K a S.w:=by
 have heo:=((g.ev e he).1).op;have hlo: ∀k,ordB (Qdr ops.toList []) k e.i=true→D k=true:=fun k hk=>Qqg hc heo hr hk
 have hdst: ∀d,e.o.dst=some d→d<N:=by
  have: ∀(l:List Oper),Qkq N l=true→ ∀o∈l,∀d,o.dst=some d→d<N:=by
   intro l;induction l with
   |nil=>intro _ o ho;cases ho
   |cons x l ih=>
    intro h o ho d hd;simp only[Qkq,Bool.and_eq_true] at h;rcases List.mem_cons.1 ho with rfl|ho
    ·have:=h.1
     rw[hd] at this;simpa using this
    ·exact ih h.2 o ho d hd
  exact this _ hN e.o (by
   have:=Array.mem_of_getElem? heo
   simpa using this)
 have huno: ∀f∈evs,D f.i≠ltB e.i f.i→(f.i<e.i∧D f.i=false∧Sep f e∧f.o.apart ops e.o=true)∨(e.i<f.i∧D f.i=true∧Sep e f∧e.o.apart ops f.o=true):=by
  intro f hf hne;have hfo:=((g.ev f hf).1).op;rcases Nat.lt_trichotomy f.i e.i with h|h|h
  ·have hl:ltB e.i f.i=true:=by simpa[ltB] using h
   have hDf:D f.i=false:=by
    cases hq:D f.i
    ·rfl
    ·rw[hq,hl] at hne;exact absurd rfl hne
   have hno:ordB (Qdr ops.toList []) f.i e.i=false:=by
    cases hq:ordB (Qdr ops.toList []) f.i e.i
    ·rfl
    ·have:=hlo _ hq;rw[hDf] at this;cases this
   refine .inl ⟨h,hDf,?_,?_⟩
   ·rcases g.pair f hf e he h with h1|h1
    ·rw[hno] at h1;cases h1
    ·exact h1
   ·rcases st.ap f.i e.i f.o e.o h hfo heo with h1|h1
    ·rw[hno] at h1;cases h1
    ·exact h1
  ·have hl:ltB e.i f.i=false:=by
    rw[h];rw[Bool.eq_false_iff];intro h';have:=ltB_t h';omega
   rw[hl,h,hD] at hne;exact absurd rfl hne
  ·have hl:ltB e.i f.i=false:=by
    rw[Bool.eq_false_iff];intro h';have:=ltB_t h';omega
   have hDf:D f.i=true:=by
    cases hq:D f.i
    ·rw[hq,hl] at hne;exact absurd rfl hne
    ·rfl
   have hno:ordB (Qdr ops.toList []) e.i f.i=false:=by
    cases hq:ordB (Qdr ops.toList []) e.i f.i
    ·rfl
    ·have:=Qqg hc hfo (hc f.i f.o hDf hfo) hq
     rw[hD] at this;cases this
   refine .inr ⟨h,hDf,?_,?_⟩
   ·rcases g.pair e he f hf h with h1|h1
    ·rw[hno] at h1;cases h1
    ·exact h1
   ·rcases st.ap e.i f.i e.o f.o h heo hfo with h1|h1
    ·rw[hno] at h1;cases h1
    ·exact h1
 have hdone: ∀f∈evs,D f.i=true→f.i<e.i∨(e.i<f.i∧Sep e f∧e.o.apart ops f.o=true):=by
  intro f hf hDf;rcases Nat.lt_or_ge f.i e.i with h|h
  ·exact .inl h
  ·have hl:ltB e.i f.i=false:=by
    rw[Bool.eq_false_iff];intro h';have:=ltB_t h';omega
   rcases huno f hf (by rw[hDf,hl];simp) with ⟨h1,_⟩|⟨h1,_,h2⟩
   ·omega
   ·exact .inr ⟨h1,h2⟩
 have htm: ∀t,t∈e.o.looksAt ops→TD D evs (tget s0.tm) t=tget e.s.tm t:=by
  intro t ht;rw[g.atT e he t];refine Qiv evs _ _ rfl ?_;intro f hf hne;rcases huno f hf hne with ⟨_,_,_,h⟩|⟨_,_,_,h⟩
  ·intro hd;exact (Oper.apart_spec h).1 t hd ht
  ·intro hd;exact (Oper.apart_spec h).2.2 t hd ht
 have hpart:evs=evs.take e.i++e::evs.drop (e.i+1):=by
  have hl:=g.lt e he;have hget:evs[e.i]? =some evs[e.i]:=List.getElem?_eq_getElem hl;obtain⟨k,hk,hke⟩:=List.mem_iff_getElem.1 he;have hki:=g.idx k e (by rw[List.getElem?_eq_getElem hk,hke]);subst hki
  conv=>lhs;rw[←List.take_append_drop e.i evs]
  rw[List.drop_eq_getElem_cons hl,hke]
 have hpre: ∀f∈evs.take e.i,f∈evs∧f.i<e.i:=by
  intro f hf;refine⟨List.mem_of_mem_take hf,?_⟩;obtain⟨k,hk,hkf⟩:=List.mem_iff_getElem.1 hf;have hk':k<e.i:=by simp at hk;omega
  have:=g.idx k f (by
   rw[←hkf,List.getElem_take];exact List.getElem?_eq_getElem _)
  omega
 have hpost: ∀f∈evs.drop (e.i+1),f∈evs∧e.i<f.i:=by
  intro f hf;refine⟨List.mem_of_mem_drop hf,?_⟩;obtain⟨k,hk,hkf⟩:=List.mem_iff_getElem.1 hf
  have:=g.idx (e.i+1+k) f (by
   rw[←hkf,List.getElem_drop];exact List.getElem?_eq_getElem _)
  omega
 let D':Nat→Bool:=fun i=>D i||i==e.i
 have hDe:D' e.i=true:=by simp[D']
 have hDn: ∀f∈evs,f.i≠e.i→D f.i=D' f.i:=by
  intro f _ hne
  have:(f.i==e.i)=false:=by rw[beq_eq_false_iff_ne];exact hne
  simp[D',this]
 have hHD: ∀n,HD D' evs (hget s0.h) n=e.E.appf (HD D evs (hget s0.h)) n:=by
  intro n;have e1:HD D' evs (hget s0.h)=HD D' (evs.drop (e.i+1)) (e.E.appf (HD D' (evs.take e.i) (hget s0.h))):=by
   conv=>lhs;rw[hpart]
   rw[Qvg];simp only[HD,hDe,cond_true]
  have e2:HD D evs (hget s0.h)=HD D (evs.drop (e.i+1)) (HD D (evs.take e.i) (hget s0.h)):=by
   conv=>lhs;rw[hpart]
   rw[Qvg];simp only[HD,hD,cond_false]
  have e3:HD D' (evs.take e.i) (hget s0.h)=HD D (evs.take e.i) (hget s0.h):=by
   funext m;refine Qi2 _ _ _ rfl ?_;intro f hf hne
   have:=hpre f hf
   exact absurd (hDn f this.1 (by omega)).symm hne
  rw[e1,e2,e3];by_cases hn:n∈e.E.touch
  ·rw[appf_in hn (h':=HD D (evs.take e.i) (hget s0.h))];refine Qw6 _ _ n ?_;intro f hf hDf;have h1:=hpost f hf;rw[←hDn f h1.1 (by omega)] at hDf;rcases hdone f h1.1 hDf with h2|⟨_,h2,_⟩
   ·omega
   ·intro hnf;exact h2.b n hnf hn
  ·rw[Qky hn];refine Qi2 _ _ _ (Qky hn) ?_;intro f hf hne
   have:=hpost f hf
   exact absurd (hDn f this.1 (by omega)).symm hne
 have hTD: ∀t,TD D' evs (tget s0.tm) t=if e.o.dst=some t then e.r else TD D evs (tget s0.tm) t:=by
  intro t;have e1:TD D' evs (tget s0.tm)=TD D' (evs.drop (e.i+1)) (fun t=>bif e.o.dst==some t then e.r else TD D' (evs.take e.i) (tget s0.tm) t):=by
   conv=>lhs;rw[hpart]
   rw[Qwd];simp only[TD,hDe,Bool.true_and]
  have e2:TD D evs (tget s0.tm)=TD D (evs.drop (e.i+1)) (TD D (evs.take e.i) (tget s0.tm)):=by
   conv=>lhs;rw[hpart]
   rw[Qwd];simp only[TD,hD,Bool.false_and,cond_false]
  have e3:TD D' (evs.take e.i) (tget s0.tm)=TD D (evs.take e.i) (tget s0.tm):=by
   funext m;refine Qiv _ _ _ rfl ?_;intro f hf hne
   have:=hpre f hf
   exact absurd (hDn f this.1 (by omega)).symm hne
  rw[e1,e2,e3];by_cases hn:e.o.dst=some t
  ·rw[if_pos hn];rw[Qyr]
   ·simp[hn]
   ·intro f hf hDf;have h1:=hpost f hf;rw[←hDn f h1.1 (by omega)] at hDf;rcases hdone f h1.1 hDf with h2|⟨_,_,h2⟩
    ·omega
    ·exact (Oper.apart_spec h2).2.1 t hn
  ·rw[if_neg hn];have hq:(e.o.dst==some t)=false:=by rw[beq_eq_false_iff_ne];exact hn
   refine Qiv _ _ _ (by simp[hq]) ?_;intro f hf hne
   have:=hpost f hf
   exact absurd (hDn f this.1 (by omega)).symm hne
 have hnx0:s0.nx≤e.s.nx:=(g.ev e he).2.1;have hsrc: ∀f∈evs,D f.i=true→(∀m∈f.r.nms,¬Fr e.s.nx e.E.cnt m)∧(∀n x,hget f.E.new n=some x→ ¬Fr e.s.nx e.E.cnt n∧ ∀m∈x.2.nms,¬Fr e.s.nx e.E.cnt m):=by
  intro f hf hDf;rcases hdone f hf hDf with h|⟨_,h,_⟩
  ·have hor:=g.ord f hf e he h;obtain⟨hok,_⟩:=g.ev f hf;cases hs:f.skip
   ·obtain⟨h1,h2⟩:=Qzx (hok.doo hs).2;refine⟨fun m hm hfr=> ?_,fun n x hx=>⟨fun hfr=> ?_,fun m hm hfr=> ?_⟩⟩
    ·have:=h1 m hm;have:=hfr.1;omega
    ·have:=hfr.1
     rcases (h2 n x hx).1 with h3|h3
     ·have:=h3.2;omega
     ·omega
    ·have:=(h2 n x hx).2 m hm;have:=hfr.1;omega
   ·obtain⟨h1,h2⟩:=hok.skp hs;rw[h1,h2];exact⟨by simp[AV.nms],by simp[hget]⟩
  ·refine⟨fun m hm=>h.d m (by simp[hm]),fun n x hx=>⟨h.d n ?_,fun m hm=>h.d m ?_⟩⟩
   ·have:=(Qtn _ hx).1
    simp[Eff.touch,this]
   ·have:=(Qtn _ hx).2 m hm
    simp[this]
 have hfrT: ∀t,∀m∈(TD D evs (tget s0.tm) t).nms,¬Fr e.s.nx e.E.cnt m:=by
  intro t m hm;rcases TD_src (D:=D) (t:=t) evs (tget s0.tm) with h|⟨f,hf,hDf,h⟩
  ·rw[h] at hm;intro hfr
   have:=hnt0 t m hm
   have:=hfr.1
   omega
  ·rw[h] at hm;exact (hsrc f hf hDf).1 m hm
 have hfrH: ∀n x,HD D evs (hget s0.h) n=some x→ ¬Fr e.s.nx e.E.cnt n∧ ∀m∈x.2.nms,¬Fr e.s.nx e.E.cnt m:=by
  intro n x hx;rcases HD_src evs (hget s0.h) hx with h|⟨f,hf,hDf,h⟩
  ·obtain⟨h1,h2⟩:=hn0 n x h;exact⟨fun hfr=>by have:=hfr.1;omega,fun m hm hfr=>by have:=hfr.1;have:=h2 m hm;omega⟩
  ·exact (hsrc f hf hDf).2 n x h
 have hnext: ∀v S',Wf C S'→S'.h=e.E.appf S.h→Pres (fun m=> ¬Fr e.s.nx e.E.cnt m) S S'→conc S' e.r v→K (a.put e.o.dst v) S'.w:=by
  intro v S' hW hh hp hv;refine hK _ S' ⟨hW,fun n=> ?_,fun t=> ?_,?_,?_,hA.n0,Qy2 hA.pre (Nat.le_trans hA.n0 hnx0) hp⟩
  ·rw[hh];exact (Qym (hA.h n)).trans (hHD n).symm
  ·have:=hTD t
   simp only[D'] at this;rw[this,Qfo (fun d h=>by rw[hA.size];exact hdst d h)];split
   ·exact hv
   ·exact Qbt hp _ _ (hfrT t) (hA.tm t)
  ·cases e.o.dst<;>simp[Act.put,hA.size]
  ·cases e.o.dst<;>simp[Act.put,hA.defers]
 have hEv:=(g.ev e he).1;have hwant:Region.wanted e.o (yielded ops a.tmps)= !e.skip:=by
  have hgd:=hEv.gd;unfold Region.wanted;cases hg:e.o.guard with
  |none=>
   rw[hg] at hgd;simp only[GdOk] at hgd;simp[hgd]
  |some gw=>
   obtain⟨q,want⟩:=gw;rw[hg] at hgd;obtain⟨t,ht,hgd⟩:=hgd;have hTt:TD D evs (tget s0.tm) t=tget e.s.tm t:=htm t (by simp[Oper.looksAt,hg,ht]);have h1:=hA.tm t;rw[hTt] at h1;rcases hgd with ⟨b,hb,hs⟩|⟨hb,hs⟩
   ·rw[hb] at h1;simp only[conc,rd,Act.eval] at h1;have hy:yielded ops a.tmps q=some b:=by
     unfold yielded;rw[ht];simp only[Option.bind_some];rw[Array.getD_eq_getD_getElem?] at h1;cases hq:a.tmps[t]? with
     |none=>rw[hq] at h1;simp[undef] at h1
     |some v=>rw[hq] at h1;simp at h1;rw[h1]
    simp only[hy,hs];cases b<;>cases want<;>rfl
   ·rw[hb] at h1;simp only[conc,rd,rdl,Act.eval] at h1;obtain⟨vs,h1,_⟩:=h1;have hy:yielded ops a.tmps q=none:=by
     unfold yielded;rw[ht];simp only[Option.bind_some];rw[Array.getD_eq_getD_getElem?] at h1;cases hq:a.tmps[t]? with
     |none=>rfl
     |some v=>rw[hq] at h1;simp at h1;rw[h1]
    simp only[hy,hs];rfl
 unfold wpOp;simp only[heo,hwant];cases hs:e.skip
 ·simp only[Bool.not_false,if_true];refine .inl ?_;obtain⟨hop,hok⟩:=hEv.doo hs;refine hop C S a K Q hA.wf ?_ ?_ ?_ ?_ hnext
  ·intro n hn;rw[hA.h n,g.atH e he n];refine Qi2 evs _ _ rfl ?_;intro f hf hne;rcases huno f hf hne with ⟨_,_,h,_⟩|⟨_,_,h,_⟩
   ·exact h.a n hn
   ·intro hnf;exact h.c n hnf hn
  ·intro n hfr;cases hn:S.h n with
   |none=>rfl
   |some x=>
    rw[hA.h n] at hn;exact absurd hfr (hfrH n x hn).1
  ·intro n x hx m hm;rw[hA.h n] at hx;exact (hfrH n x hx).2 m hm
  ·intro x hx;cases x with
   |tmp t=>
    simp only[evO];rw[←htm t (by
     simp only[Oper.looksAt,List.mem_append,List.mem_filterMap];exact .inl ⟨.tmp t,by simpa using hx,rfl⟩)]
    exact hA.tm t
   |const v=>exact kD_conc S v
   |global g=>simp only[evO,conc,rd,Act.eval]
   |func f=>exact Qaad _ _ f
 ·simp only[Bool.not_true,Bool.false_eq_true,if_false];obtain⟨h1,h2⟩:=hEv.skp hs;refine hnext undef S hA.wf ?_ (Pres.refl _ _) ?_
  ·rw[h2];funext n;simp[Eff.appf,hget]
  ·rw[h1];simp only[conc,rd,rdl];exact⟨#[],rfl,rfl⟩
abbrev dn(listed:Array Bool):Nat→Bool:=fun i=>listed.getD i false
def unl(listed:Array Bool):Nat:=listed.toList.countP (fun b=> !b)
theorem dn_set{listed:Array Bool}{j:Nat}(hj:j<listed.size):dn (listed.setIfInBounds j true)=fun i=>dn listed i||i==j:=by
 funext i;simp only[dn];by_cases h:j=i
 ·subst h;simp[hj]
 ·rw[getD_set_ne false h]
  have:(i==j)=false:=by rw[beq_eq_false_iff_ne];exact fun h'=>h h'.symm
  simp[this]
theorem unl_set{listed:Array Bool}{j:Nat}(hj:j<listed.size)(hl:listed.getD j true=false):unl (listed.setIfInBounds j true)+1=unl listed:=by
 unfold unl;rw[Array.toList_setIfInBounds];have hj':j<listed.toList.length:=by simpa using hj
 have hv:listed.toList[j]=false:=by
  rw[Array.getD_eq_getD_getElem?,Array.getElem?_eq_getElem hj] at hl;simpa using hl
 have hpos:0<listed.toList.countP (fun b=> !b):=by
  rw[List.countP_pos_iff];exact⟨false,by rw[←hv];exact List.getElem_mem _,rfl⟩
 rw[List.countP_set hj',hv];simp only[Bool.not_false,if_true,Bool.not_true,Bool.false_eq_true,if_false];omega
theorem Qabb{listed:Array Bool}(hs:listed.size=ops.size)(st:StOk ops (Qdr ops.toList []))(hr:Region.ready .any ops listed=[]): ∀i,i<ops.size→dn listed i=true:=by
 intro i;induction i using Nat.strongRecOn with
 |_ i ih=>
  intro hi;cases hq:dn listed i with
  |true=>rfl
  |false=>
   exfalso
   have:i∈Region.ready .any ops listed:=by
    rw[mem_ready];have hoi:ops[i]? =some ops[i]:=Array.getElem?_eq_getElem hi;refine⟨?_,ops[i],hoi,?_⟩
    ·simp only[dn] at hq;rw[Array.getD_eq_getD_getElem?,Array.getElem?_eq_getElem (by omega)] at hq⊢;simpa using hq
    ·intro e he hb;rw[Qup] at hb
     have:=st.lo i _ hoi e (by simpa using he) hb
     exact ih e.on this (by omega)
   rw[hr] at this;cases this
theorem any_go(g:GT P ops (Qdr ops.toList []) s0 evs s acc)(hlen:evs.length=ops.size)(hn0: ∀n e,hget s0.h n=some e→n<s0.nx∧ ∀m∈e.2.nms,m<s0.nx)(hnt0: ∀t,∀m∈(tget s0.tm t).nms,m<s0.nx)
 (st:StOk ops (Qdr ops.toList []))(hN:Qkq N ops.toList=true){Q:Exit→Act→World→Prop}(hQ: ∀a S,AtE C N evs s0 allB S a→Q .normal a S.w):
 ∀(fuel:Nat) (listed:Array Bool) (S:Env) (a:Act),unl listed≤fuel→listed.size=ops.size→Closed ops (dn listed)→AtE C N evs s0 (dn listed) S a→wpAny P .any ops Q fuel listed a S.w:=by
 have hfin: ∀(listed:Array Bool) (S:Env) (a:Act),listed.size=ops.size→(∀i,i<ops.size→dn listed i=true)→AtE C N evs s0 (dn listed) S a→Q .normal a S.w:=by
  intro listed S a hs hall hA;refine hQ a S ⟨hA.wf,fun n=> ?_,fun t=> ?_,hA.size,hA.defers,hA.n0,hA.pre⟩
  ·rw[hA.h n];refine Qi2 evs _ _ rfl ?_;intro f hf hne;exact absurd (hall f.i (by have:=g.lt f hf;omega)) hne
  ·have:TD allB evs (tget s0.tm) t=TD (dn listed) evs (tget s0.tm) t:=by
    refine Qiv evs _ _ rfl ?_;intro f hf hne;exact absurd (hall f.i (by have:=g.lt f hf;omega)).symm hne
   rw[this];exact hA.tm t
 intro fuel;induction fuel with
 |zero=>
  intro listed S a hu hs hcl hA;have hall: ∀i,i<ops.size→dn listed i=true:=by
   intro i hi;cases hq:dn listed i with
   |true=>rfl
   |false=>
    have:= @unl_set listed i (by omega) (by
     simp only[dn] at hq;rw[Array.getD_eq_getD_getElem?,Array.getElem?_eq_getElem (by omega)] at hq⊢;simpa using hq)
    omega
  refine⟨?_,hfin listed S a hs hall hA⟩;rw[List.eq_nil_iff_forall_not_mem];intro j hj;obtain⟨h0,o,ho,_⟩:=mem_ready.1 hj;have hj':=(Array.getElem?_eq_some_iff.1 ho).1
  have:=hall j hj'
  simp only[dn] at this;rw[Array.getD_eq_getD_getElem?,Array.getElem?_eq_getElem (by omega)] at this h0;simp at this h0;rw[h0] at this;cases this
 |succ fuel ih=>
  intro listed S a hu hs hcl hA;refine⟨fun hr=>hfin listed S a hs (Qabb hs st hr) hA,fun j hj=> ?_⟩;obtain⟨h0,o,ho,hall⟩:=mem_ready.1 hj;have hjs:=(Array.getElem?_eq_some_iff.1 ho).1;have hje:j<evs.length:=by omega
  have hidx:=g.idx j evs[j] (List.getElem?_eq_getElem hje);have hmem:evs[j]∈evs:=List.getElem_mem hje;have hop:=((g.ev _ hmem).1).op;rw[hidx,ho] at hop;have hDj:dn listed j=false:=by
   simp only[dn];rw[Array.getD_eq_getD_getElem?,Array.getElem?_eq_getElem (by omega)] at h0⊢;simpa using h0
  have hall': ∀e∈o.after.toList,bnd e.ground=true→dn listed e.on=true:=fun e he hb=>hall e (by simpa using he) (by rw[Qup];exact hb)
  have hoe:evs[j].o=o:=(Option.some.inj hop).symm;have key:=at_step g hn0 hnt0 st hN hcl hmem (by rw[hidx];exact hDj) (by rw[hoe];exact hall') hA (Q:=Q) (K:=wpAny P .any ops Q fuel (listed.setIfInBounds j true)) ?_
  ·rwa [hidx] at key
  ·intro a' S' hA';rw[hidx] at hA';have hds:=dn_set (listed:=listed) (j:=j) (by omega);refine ih (listed.setIfInBounds j true) S' a' ?_ (by simpa using hs) ?_ (by rw[hds];exact hA')
   ·have:= @unl_set listed j (by omega) h0
    omega
   ·rw[hds];intro k p hk hp e he hb;simp only[Bool.or_eq_true,beq_iff_eq] at hk⊢;rcases hk with hk|rfl
    ·exact .inl (hcl k p hk hp e he hb)
    ·rw[ho] at hp;cases hp;exact .inl (hall' e he hb)
end
theorem Qog{P:Program}{V:Qbh}(HV:Qd1 P V){C:Ctx}{N:Nat}{ops:Array Oper}{K:Qad→Prop}{Q:Exit→Act→World→Prop}(hQ: ∀s a w,K s→Con C N s a w→Q .normal a w)
 (hd:Qkq N ops.toList=true)(hst:stOk ops=true){s:Qad}{a:Act}{w:World}(hk:rgA P V (Qdr ops.toList []) (Qgy ops ops.toList) 0 K [] s)(hc:Con C N s a w):wpAny P .any ops Q ops.size (Array.replicate ops.size false) a {w with drawn:=w.drawn+1}:=by
 obtain⟨S,rfl,hc⟩:=hc;obtain⟨evs,s',acc,hlen,g,hK⟩:=tr_of_rgA HV ops.toList 0 [] s [] rfl rfl (GT.nil hc.nmT) hk;have hW:=hc.wf
 let S1:Env:={S with w:={S.w with drawn:=S.w.drawn+1}}
 have hp:Pres (fun _=>True) S S1:=⟨fun b hb=>⟨hb,rfl⟩,fun o _ e' he'=>⟨e',he',rfl,rfl,rfl⟩⟩;have hA:AtE C N evs s (dn (Array.replicate ops.size false)) S1 a:=by
  have hno: ∀i,dn (Array.replicate ops.size false) i=false:=by
   intro i;simp only[dn,Array.getD_eq_getD_getElem?,Array.getElem?_replicate]
   split<;>rfl
  refine⟨⟨hW.os,hW.tape,hW.output,hW.size,hW.keep,hW.ok0,hW.ok1,hW.oks,?_,hW.loc,hW.inj⟩,fun n=> ?_,fun t=> ?_,hc.size,hc.defers,hc.n0,hc.pre⟩
  ·intro o e he;exact Qbr hp (fun _ _=>rfl) _ (fun _ _=>trivial) (hW.obj o e he)
  ·rw[Qw6]
   ·exact hc.h n
   ·intro e _ h;rw[hno] at h;cases h
  ·rw[Qyr]
   ·exact Qbt hp _ _ (fun _ _=>trivial) (hc.tm t)
   ·intro e _ h;rw[hno] at h;cases h
 have key:=any_go (C:=C) (N:=N) (Q:=Q) g (by simpa using hlen) hc.nmH hc.nmT (stOk_spec hst) hd ?_ ops.size (Array.replicate ops.size false) S1 a (by unfold unl;exact Nat.le_trans List.countP_le_length (by simp)) (by simp) ?_ hA
 ·exact key
 ·intro a' S' hA';refine hQ s' a' S'.w hK ⟨S',rfl,hA'.wf,fun n=> ?_,fun t=> ?_,g.nmT,?_,hA'.size,hA'.defers,Nat.le_trans hc.n0 g.nx,hA'.pre⟩
  ·rw[hA'.h n,g.h n]
  ·rw[g.tm t];exact hA'.tm t
  ·intro n e he;rw[g.h n] at he;rcases HD_src evs _ he with h|⟨f,hf,_,h⟩
   ·obtain⟨h1,h2⟩:=hc.nmH n e h
    have:=g.nx
    exact⟨by omega,fun m hm=>by have:=h2 m hm;omega⟩
   ·obtain⟨hok,h2,h3⟩:=g.ev f hf;cases hs:f.skip
    ·obtain⟨_,h5⟩:=Qzx (hok.doo hs).2;obtain⟨h6,h7⟩:=h5 n e h;refine⟨?_,fun m hm=>by have:=h7 m hm;omega⟩;rcases h6 with h6|h6
     ·have:=h6.2;omega
     ·omega
    ·rw[(hok.skp hs).2] at h;simp[hget] at h
 ·intro j o hj _ e he hb
  have:dn (Array.replicate ops.size false) j=false:=by
   simp only[dn,Array.getD_eq_getD_getElem?,Array.getElem?_replicate]
   split<;>rfl
  rw[this] at hj;cases hj
theorem Qtk{P:Program}(HM:P.follows .mixedOrders=true){V:Qbh}(HV:Qd1 P V){C:Ctx}{N id:Nat}{ops:Array Oper}{K:Qad→Prop}{Q:Exit→Act→World→Prop}(hQ: ∀s a w,K s→Con C N s a w→Q .normal a w)
 (hd:Qkq N ops.toList=true)(hst:stOk ops=true){s:Qad}{a:Act}{w:World}(hk:rgA P V (Qdr ops.toList []) (Qgy ops ops.toList) 0 K [] s)(hc:Con C N s a w):(Code.region id ops true).wp P Q a w:=
 wp_region_any HM (Qog HV hQ hd hst hk hc)
end Go.Ae
namespace Go.Ae
def chk(N:Nat):Code→Bool
 | .skip=>true
 | .region _ ops draw=>Qkq N ops.toList && (!draw||stOk ops)
 | .seq a b=>chk N a && chk N b
 | .cond _ a b=>chk N a && chk N b
 | .block _ c=>chk N c
 | .loop c=>chk N c
 | .exit _=>true
 | .ret=>true
 |_=>false
def toQ(C:Ctx)(N:Nat)(Q:Qbl):Exit→Act→World→Prop
 | .normal,a,w=> ∃s,Q .normal s∧Con C N s a w
 | .exit i,a,w=> ∃s,Q (.exit i) s∧Con C N s a w
 | .ret,a,w=> ∃s,Q .ret s∧Con C N s a w
 |_,_,_=>False
theorem Qv7{s:Qad}: ∀(tm:List (Nat×AV)),subT s tm→ ∀t,tget tm t= .any∨tget tm t=tget s.tm t
 |[],_,t=> .inl rfl
 |(q,x)::tm,h,t=>by
  simp only[subT] at h;simp only[tget];cases hq:q==t
  ·simpa using Qv7 tm h.2 t
  ·have:q=t:=by simpa using hq
   subst this;exact .inr (by simpa using h.1.symm)
theorem Qtu{s:Qad}: ∀(hs:Qan),subH s hs→ ∀n e,hget hs n=some e→hget s.h n=some e
 |[],_,n,e,h=>by simp[hget] at h
 |(q,x)::hs,h,n,e,he=>by
  simp only[subH] at h;simp only[hget] at he;cases hq:q==n<;>rw[hq] at he
  ·exact Qtu hs h.2 n e (by simpa using he)
  ·have:q=n:=by simpa using hq
   subst this;simp only[cond_true,Option.some.injEq] at he;subst he;exact h.1
theorem Qif{n:Nat}: ∀(tm:List (Nat×AV)),belT n tm=true→ ∀t,∀m∈(tget tm t).nms,m<n
 |[],_,t,m,hm=>by simp[tget,AV.nms] at hm
 |(q,x)::tm,h,t,m,hm=>by
  simp only[belT,Bool.and_eq_true] at h;simp only[tget] at hm;cases hq:q==t<;>rw[hq] at hm
  ·exact Qif tm h.2 t m (by simpa using hm)
  ·exact Qp3 x h.1 m (by simpa using hm)
theorem Qhv{n:Nat}: ∀(hs:Qan),Qam n hs=true→ ∀m e,hget hs m=some e→m<n
 |[],_,m,e,h=>by simp[hget] at h
 |(q,x)::hs,h,m,e,he=>by
  simp only[Qam,Bool.and_eq_true,Nat.blt_eq] at h;simp only[hget] at he;cases hq:q==m<;>rw[hq] at he
  ·exact Qhv hs h.2 m e (by simpa using he)
  ·have:q=m:=by simpa using hq
   omega
theorem Qmb{C:Ctx}{N:Nat}{s s':Qad}{a:Act}{w:World}(hc:Con C N s a w)(hs:sub s s')(hg:s'.good=true)(hn0:C.n0≤s'.nx):Con C N s' a w:=by
 obtain⟨S,rfl,hc⟩:=hc;obtain⟨hT,hH⟩:=hs;simp only[Qad.good,Bool.and_eq_true] at hg;obtain⟨hg1,hg2,hg3⟩:=hg;have hsub: ∀n e,hget s'.h n=some e→S.h n=some e:=fun n e he=>(hc.h n).trans (Qtu _ hH n e he)
 have hp:Pres (fun _=>True) S {S with h:=hget s'.h}:=⟨fun b hb=>⟨hb,rfl⟩,fun o _ e' he'=>⟨e',hsub o e' he',rfl,rfl,rfl⟩⟩;have hW:=hc.wf;refine⟨{S with h:=hget s'.h},rfl,⟨hW.os,hW.tape,hW.output,hW.size,hW.keep,hW.ok0,hW.ok1,hW.oks,?_,?_,?_⟩,fun n=>rfl,?_,Qif _ hg1,?_,hc.size,hc.defers,hn0,?_⟩
 ·intro o e he;exact Qbr hp (fun _ _=>rfl) _ (fun _ _=>trivial) (hW.obj o e (hsub o e he))
 ·intro o e l he hl;exact hW.loc o e l (hsub o e he) hl
 ·intro o o' e e' l l' he he' hl hl' hb hfl;exact hW.inj o o' e e' l l' (hsub o e he) (hsub o' e' he') hl hl' hb hfl
 ·intro t;rcases Qv7 _ hT t with h|h
  ·rw[h];simp only[conc]
  ·rw[h];exact Qbt hp _ _ (fun _ _=>trivial) (hc.tm t)
 ·intro n e he;exact⟨Qhv _ hg3 n e he,Qhn _ hg2 n e he⟩
 ·intro o ho e' he';exact hc.pre o ho e' (hsub o e' he')
theorem pm_ge{lo:Nat}: ∀(π:List (Nat×Option Nat)),geP lo π→ ∀n,n<lo→pm π n=some n
 |[],_,n,_=>rfl
 |(a,b)::r,h,n,hn=>by
  simp only[geP] at h;simp only[pm];rw[if_neg (by omega)];exact pm_ge r h.2 n hn
section
variable {S S':Env}{π:List (Nat×Option Nat)}
mutual
theorem Qyf(hok:S'.ok=S.ok)(hhp:S'.hp=S.hp)(hρ: ∀n m,pm π n=some m→S'.ρ n=S.ρ m)(hρ0: ∀n,pm π n=none→S'.ρ n=none)
 (hh: ∀n m,pm π n=some m→ ∀e',S'.h n=some e'→ ∃e,S.h m=some e∧e.2.esz=e'.2.esz∧e.2.len=e'.2.len): ∀(x' x:AV) (v:Value),mt π x' x→conc S x v→conc S' x' v
 | .any,_,_,_,_=>by simp only[conc]
 | .im d,x,v,h,hc=>by
   simp only[mt] at h;subst h;simp only[conc,hok,hhp] at hc⊢;exact hc
 | .own n,x,v,h,hc=>by
   simp only[mt] at h;cases hp:pm π n with
   |some m=>
    rw[hp] at h;simp only[ownM] at h;subst h;simp only[conc] at hc⊢;refine⟨hc.1,fun e' he'=> ?_⟩;obtain⟨e,h1,h2,h3⟩:=hh n m hp e' he';rw[hρ n m hp,←h3];exact hc.2 e h1
   |none=>
    rw[hp] at h;simp only[ownM] at h;unfold nilA at h;split at h
    ·simp only[conc,rd] at hc;have hv:v= .slice none 0 0:=by
      rcases hc with hc|⟨_,_,_,_,_,_,_,h2,_⟩
      ·exact Qr7 hc.1
      ·exact absurd rfl (h2 trivial)
     subst hv;simp only[conc];refine⟨rfl,fun e' he'=> ?_⟩;rw[hρ0 n hp];trivial
    ·exact h.elim
 | .ptr n p,x,v,h,hc=>by
   simp only[mt] at h;cases hp:pm π n with
   |none=>rw[hp] at h;exact h.elim
   |some m=>
    rw[hp] at h;simp only[Qga] at h;subst h;simp only[conc] at hc⊢;refine⟨hc.1,fun e' he'=> ?_⟩;obtain⟨e,h1,h2,h3⟩:=hh n m hp e' he';rw[hρ n m hp];exact hc.2 e h1
 | .eptr n i p,x,v,h,hc=>by
   simp only[mt] at h;cases hp:pm π n with
   |none=>rw[hp] at h;exact h.elim
   |some m=>
    rw[hp] at h;simp only[Qga] at h;subst h;simp only[conc] at hc⊢;refine⟨hc.1,fun e' he'=> ?_⟩;obtain⟨e,h1,h2,h3⟩:=hh n m hp e' he';rw[hρ n m hp,←h2];exact hc.2 e h1
 | .mp n,x,v,h,hc=>by
   simp only[mt] at h;cases hp:pm π n with
   |none=>rw[hp] at h;exact h.elim
   |some m=>
    rw[hp] at h;simp only[Qga] at h;subst h;simp only[conc] at hc⊢;refine⟨hc.1,fun e' he'=> ?_⟩;obtain⟨e,h1,h2,h3⟩:=hh n m hp e' he';rw[hρ n m hp];exact hc.2 e h1
 | .ch n,x,v,h,hc=>by
   simp only[mt] at h;cases hp:pm π n with
   |none=>rw[hp] at h;exact h.elim
   |some m=>
    rw[hp] at h;simp only[Qga] at h;subst h;simp only[conc] at hc⊢;refine⟨hc.1,fun e' he'=> ?_⟩;obtain⟨e,h1,h2,h3⟩:=hh n m hp e' he';rw[hρ n m hp];exact hc.2 e h1
 | .it n,x,v,h,hc=>by
   simp only[mt] at h;cases hp:pm π n with
   |none=>rw[hp] at h;exact h.elim
   |some m=>
    rw[hp] at h;simp only[Qga] at h;subst h;simp only[conc] at hc⊢;refine⟨hc.1,fun e' he'=> ?_⟩;obtain⟨e,h1,h2,h3⟩:=hh n m hp e' he';rw[hρ n m hp];exact hc.2 e h1
 | .osl n a k,x,v,h,hc=>by
   simp only[mt] at h;cases hp:pm π n with
   |none=>rw[hp] at h;exact h.elim
   |some m=>
    rw[hp] at h;simp only[Qga] at h;subst h;simp only[conc] at hc⊢;refine⟨hc.1,fun e' he'=> ?_⟩;obtain⟨e,h1,h2,h3⟩:=hh n m hp e' he';rw[hρ n m hp,←h2,←h3];exact hc.2 e h1
 | .agg cs,x,v,h,hc=>by
   have key: ∀ds,mtL π cs ds→conc S (.agg ds) v→conc S' (.agg cs) v:=by
    intro ds h hc;simp only[conc] at hc⊢;obtain⟨vs,rfl,h1⟩:=hc;exact⟨vs,rfl,Qts hok hhp hρ hρ0 hh cs ds _ h h1⟩
   cases x<;>try (simp only[mt] at h;done)
   case agg ds=>
    simp only[mt] at h;exact key ds h hc
   case im d=>
    cases d<;>try (simp only[mt] at h;done)
    rename_i ds;simp only[mt] at h;refine key _ h ?_;simp only[conc,rd] at hc⊢;obtain⟨vs,rfl,h1⟩:=hc;exact⟨vs,rfl,(Qa6 _ _).2 h1⟩
 | .tup cs,x,v,h,hc=>by simp only[mt] at h
 | .clo f a c,x,v,h,hc=>by simp only[mt] at h
theorem Qts(hok:S'.ok=S.ok)(hhp:S'.hp=S.hp)(hρ: ∀n m,pm π n=some m→S'.ρ n=S.ρ m)(hρ0: ∀n,pm π n=none→S'.ρ n=none)
 (hh: ∀n m,pm π n=some m→ ∀e',S'.h n=some e'→ ∃e,S.h m=some e∧e.2.esz=e'.2.esz∧e.2.len=e'.2.len): ∀(xs' xs:List AV) (vs:List Value),mtL π xs' xs→Qa0 S xs vs→Qa0 S' xs' vs
 |[],[],vs,h,hc=>by simpa only[Qa0] using hc
 |x::r,y::s,vs,h,hc=>by
  simp only[mtL] at h;simp only[Qa0] at hc⊢;obtain⟨v,w,rfl,h1,h2⟩:=hc;exact⟨v,w,rfl,Qyf hok hhp hρ hρ0 hh x y v h.1 h1,Qts hok hhp hρ hρ0 hh r s w h.2 h2⟩
 |[],_::_,vs,h,_=>by simp only[mtL] at h
 |_::_,[],vs,h,_=>by simp only[mtL] at h
end
end
theorem Qya{π:List (Nat×Option Nat)}: ∀{a b:List (List AV)},mtR π a b→b.length=a.length
 |[],[],_=>rfl
 |_::_,_::_,h=>by simp[Qya h.2]
 |[],_::_,h=>h.elim
 |_::_,[],h=>h.elim
theorem mtL_len{π:List (Nat×Option Nat)}: ∀{a b:List AV},mtL π a b→b.length=a.length
 |[],[],_=>rfl
 |_::_,_::_,h=>by simp only[mtL] at h;simp[mtL_len h.2]
 |[],_::_,h=>by simp only[mtL] at h
 |_::_,[],h=>by simp only[mtL] at h
theorem Qxn{π:List (Nat×Option Nat)}{e' e:AObj}(h:mtE π e' e):e.esz=e'.esz∧e.len=e'.len∧e.isView=e'.isView:=by
 cases e'<;>cases e<;>simp only[mtE,reduceCtorEq,AObj.arr.injEq,AObj.map.injEq,AObj.chan.injEq,AObj.iter.injEq,AObj.view.injEq] at h
 all_goals first
  |exact⟨rfl,rfl,rfl⟩
  |(obtain⟨rfl,rfl,rfl⟩:=h;exact⟨rfl,rfl,rfl⟩)
  |(obtain⟨rfl,rfl,h⟩:=h;exact⟨rfl,by simpa[AObj.len,imR] using Qya h,rfl⟩)
  |(obtain⟨rfl,rfl⟩:=h;exact⟨rfl,rfl,rfl⟩)
theorem mtE_obj{S S':Env}{π:List (Nat×Option Nat)}(hok:S'.ok=S.ok)(hhp:S'.hp=S.hp)(hρ: ∀n m,pm π n=some m→S'.ρ n=S.ρ m)(hρ0: ∀n,pm π n=none→S'.ρ n=none)
 (hh: ∀n m,pm π n=some m→ ∀e',S'.h n=some e'→ ∃e,S.h m=some e∧e.2.esz=e'.2.esz∧e.2.len=e'.2.len){l:Option Loc}{e' e:AObj}(h:mtE π e' e)(ho:objc S l e):objc S' l e':=by
 have hp:Pres (fun _=>False) S S':=⟨fun b hb=>⟨by rw[hok];exact hb,by rw[hhp]⟩,fun o h=>h.elim⟩;cases e' with
 |cells T cs=>
  cases e<;>simp only[mtE] at h;obtain⟨rfl,h⟩:=h;simp only[objc] at ho⊢;obtain⟨lc,vs,h1,h2,h3,h4⟩:=ho;exact⟨lc,vs,h1,h2,by rw[hhp];exact h3,Qts hok hhp hρ hρ0 hh _ _ _ h h4⟩
 |arrA T k rows=>
  have hR: ∀(rs' rs:List (List AV)) (vs:List Value),mtR π rs' rs→Qbb S k rs vs→Qbb S' k rs' vs:=by
   intro rs';induction rs' with
   |nil=>intro rs vs _ _;simp only[Qbb]
   |cons x r ih=>
    intro rs vs h hc;cases rs with
    |nil=>exact h.elim
    |cons y s=>
     simp only[Qbb] at hc⊢;have hP: ∀(xs ys:List AV) (vs:List Value),mtL π xs ys→Qbv S ys vs→Qbv S' xs vs:=by
      intro xs;induction xs with
      |nil=>intro ys vs _ _;simp only[Qbv]
      |cons a l ih2=>
       intro ys vs h hc;cases ys with
       |nil=>simp only[mtL] at h
       |cons b t=>
        simp only[mtL] at h;simp only[Qbv] at hc⊢;obtain⟨v,w,rfl,h1,h2⟩:=hc;exact⟨v,w,rfl,Qyf hok hhp hρ hρ0 hh a b v h.1 h1,ih2 t w h.2 h2⟩
     exact⟨by rw[←hc.1];exact (mtL_len h.1).symm,hP _ _ _ h.1 hc.2.1,ih s _ h.2 hc.2.2⟩
  have main: ∀(rows':List (List AV)),mtR π rows rows'→objc S l (.arrA T k rows')→objc S' l (.arrA T k rows):=by
   intro rows' h ho;simp only[objc] at ho⊢;rw[←Qya h];refine⟨ho.1,?_⟩;cases l with
   |none=>
    have h2:=ho.2;simp only at h2;subst h2;cases rows with
    |nil=>rfl
    |cons x r=>exact h.elim
   |some lc=>
    obtain⟨h0,h1,vs,h2,h3,h4⟩:=ho;exact⟨h1,vs,by rw[hhp];exact h2,h3,hR _ _ _ h h4⟩
  cases e<;>simp only[mtE] at h
  case arrA U k' rows'=>
   obtain⟨rfl,rfl,h⟩:=h;exact main rows' h ho
  case arr U k' rows'=>
   obtain⟨rfl,rfl,h⟩:=h;refine main (imR rows') h ?_;simp only[objc] at ho⊢;rw[show (imR rows').length=rows'.length by simp[imR]];refine⟨ho.1,?_⟩;cases l with
   |none=>have h2:=ho.2;simp only at h2;subst h2;rfl
   |some lc=>
    obtain⟨h0,h1,vs,h2,h3,h4⟩:=ho;exact⟨h1,vs,h2,h3,Qgt _ _ h4⟩
 |arr T k rows=>
  simp only[mtE] at h;subst h;exact Qbr hp (fun lc _=>by rw[hhp]) _ (by simp[AObj.nms]) ho
 |map kt es=>
  simp only[mtE] at h;subst h;exact Qbr hp (fun lc _=>by rw[hhp]) _ (by simp[AObj.nms]) ho
 |chan q c=>
  simp only[mtE] at h;subst h;exact Qbr hp (fun lc _=>by rw[hhp]) _ (by simp[AObj.nms]) ho
 |iter q0 q=>
  simp only[mtE] at h;subst h;exact Qbr hp (fun lc _=>by rw[hhp]) _ (by simp[AObj.nms]) ho
 |view q=>
  simp only[mtE] at h;subst h;exact Qbr hp (fun lc _=>by rw[hhp]) _ (by simp[AObj.nms]) ho
theorem Qaa2{π:List (Nat×Option Nat)}: ∀(H:Qan),nodS (imP π H)=true→ ∀n n' e e' m,hget H n=some e→hget H n'=some e'→pm π n=some m→pm π n'=some m→n=n'
 |[],_,n,n',e,e',m,h,_,_,_=>by simp[hget] at h
 |(q,x)::H,hn,n,n',e,e',m,h,h',hp,hp'=>by
  have hmem: ∀n e,hget H n=some e→ ∀m,pm π n=some m→some m∈imP π H:=by
   intro n e;clear hn h h' hp hp';induction H with
   |nil=>intro h;simp[hget] at h
   |cons y H ih=>
    obtain⟨q',z⟩:=y;intro h m hm;simp only[hget] at h;simp only[imP,List.mem_cons];cases hq:q'==n<;>rw[hq] at h
    ·exact .inr (ih (by simpa using h) m hm)
    ·have:q'=n:=by simpa using hq
     subst this;exact .inl hm.symm
  have hrest:nodS (imP π H)=true:=by
   simp only[imP] at hn;cases hq:pm π q<;>rw[hq] at hn<;>simp only[nodS,Bool.and_eq_true] at hn
   ·exact hn
   ·exact hn.2
  simp only[hget] at h h';by_cases hqn:q=n<;>by_cases hqn':q=n'
  ·rw[←hqn,←hqn']
  ·subst hqn
   have:(q==n')=false:=by simpa using hqn'
   rw[this] at h';have hm:=hmem n' e' (by simpa using h') m hp';simp only[imP,hp,nodS,Bool.and_eq_true,Bool.not_eq_true'] at hn
   have:=hn.1
   rw[List.contains_iff_mem.2 hm] at this;cases this
  ·subst hqn'
   have:(q==n)=false:=by simpa using hqn
   rw[this] at h;have hm:=hmem n e (by simpa using h) m hp;simp only[imP,hp',nodS,Bool.and_eq_true,Bool.not_eq_true'] at hn
   have:=hn.1
   rw[List.contains_iff_mem.2 hm] at this;cases this
  ·have h1:(q==n)=false:=by simpa using hqn
   have h2:(q==n')=false:=by simpa using hqn'
   rw[h1] at h;rw[h2] at h';exact Qaa2 H hrest n n' e e' m (by simpa using h) (by simpa using h') hp hp'
theorem Qll{π:List (Nat×Option Nat)}{s:Qad}: ∀(H:Qan),Qgb π s H→ ∀n e',hget H n=some e'→entN s π e'.1 e'.2 (pm π n)
 |[],_,n,e',h=>by simp[hget] at h
 |(q,(mu,x))::H,hs,n,e',h=>by
  simp only[Qgb] at hs;simp only[hget] at h;cases hq:q==n<;>rw[hq] at h
  ·exact Qll H hs.2 n e' (by simpa using h)
  ·have:q=n:=by simpa using hq
   subst this;simp only[cond_true,Option.some.injEq] at h;subst h;exact hs.1
theorem Qqi{π:List (Nat×Option Nat)}{s:Qad}: ∀(T:List (Nat×AV)),Qpt π s T→ ∀t,tget T t= .any∨mt π (tget T t) (tget s.tm t)
 |[],_,t=> .inl rfl
 |(q,x)::T,hs,t=>by
  simp only[Qpt] at hs;simp only[tget];cases hq:q==t
  ·simpa using Qqi T hs.2 t
  ·have:q=t:=by simpa using hq
   subst this;exact .inr (by simpa using hs.1)
theorem Qdx{C:Ctx}{N lo:Nat}{π:List (Nat×Option Nat)}{s s':Qad}{a:Act}{w:World}(hc:Con C N s a w)(hs:subP lo π s s')(hg:s'.good=true)(hlo:C.n0≤lo)(hn0:C.n0≤s'.nx):Con C N s' a w:=by
 obtain⟨S,rfl,hc⟩:=hc;obtain⟨hge,hnod,hT,hH⟩:=hs;simp only[Qad.good,Bool.and_eq_true] at hg;obtain⟨hg1,hg2,hg3⟩:=hg
 let S':Env:=⟨fun n=>match pm π n with
  |some m=>S.ρ m
  |none=>none,S.ok,hget s'.h,S.w⟩
 have hρ: ∀n m,pm π n=some m→S'.ρ n=S.ρ m:=by intro n m h;simp only[S',h]
 have hρ0: ∀n,pm π n=none→S'.ρ n=none:=by intro n h;simp only[S',h]
 have hent: ∀n m,pm π n=some m→ ∀e',S'.h n=some e'→ ∃e,S.h m=some e∧e.1=e'.1∧mtE π e'.2 e.2:=by
  intro n m hp e' he';have h1:=Qll _ hH n e' he';rw[hp] at h1;simp only[entN] at h1;cases hx:hget s.h m with
  |none=>rw[hx] at h1;exact h1.elim
  |some e=>
   obtain⟨mu,e⟩:=e;rw[hx] at h1;exact⟨(mu,e),(hc.h m).trans hx,h1.1,h1.2⟩
 have hh: ∀n m,pm π n=some m→ ∀e',S'.h n=some e'→ ∃e,S.h m=some e∧e.2.esz=e'.2.esz∧e.2.len=e'.2.len:=by
  intro n m hp e' he';obtain⟨e,h1,_,h2⟩:=hent n m hp e' he';obtain⟨h3,h4,_⟩:=Qxn h2;exact⟨e,h1,h3,h4⟩
 have hW:=hc.wf;refine⟨S',rfl,⟨hW.os,hW.tape,hW.output,hW.size,hW.keep,hW.ok0,hW.ok1,hW.oks,?_,?_,?_⟩,fun n=>rfl,?_,Qif _ hg1,?_,hc.size,hc.defers,hn0,?_⟩
 ·intro n e' he';cases hp:pm π n with
  |some m=>
   obtain⟨e,h1,_,h2⟩:=hent n m hp e' he';rw[hρ n m hp];exact mtE_obj (S:=S) (S':=S') rfl rfl hρ hρ0 hh h2 (hW.obj m e h1)
  |none=>
   have h1:=Qll _ hH n e' he';rw[hp] at h1;simp only[entN] at h1;rw[hρ0 n hp];obtain⟨mu,e'⟩:=e';unfold nilE at h1;split at h1
   ·rename_i heq1 heq2;simp only at heq2;subst heq2;simp[objc]
   ·rename_i heq1 heq2;simp only at heq2;subst heq2;simp[objc]
   ·exact h1.elim
 ·intro n e' l he' hl;cases hp:pm π n with
  |none=>rw[hρ0 n hp] at hl;cases hl
  |some m=>
   obtain⟨e,h1,h2,h3⟩:=hent n m hp e' he';rw[hρ n m hp] at hl
   have:=hW.loc m e l h1 hl
   rw[←h2,←(Qxn h3).2.2];exact this
 ·intro n n' e e' l l' he he' hl hl' hb hfl;cases hp:pm π n with
  |none=>rw[hρ0 n hp] at hl;cases hl
  |some m=>
   cases hp':pm π n' with
   |none=>rw[hρ0 n' hp'] at hl';cases hl'
   |some m'=>
    obtain⟨x,h1,h2,h3⟩:=hent n m hp e he;obtain⟨x',h1',h2',h3'⟩:=hent n' m' hp' e' he';rw[hρ n m hp] at hl;rw[hρ n' m' hp'] at hl'
    have:=hW.inj m m' x x' l l' h1 h1' hl hl' hb (by rw[h2,h2'];exact hfl)
    subst this;exact Qaa2 _ hnod n n' e e' m he he' hp hp'
 ·intro t;rcases Qqi _ hT t with h|h
  ·rw[h];simp only[conc]
  ·exact Qyf (S:=S) (S':=S') rfl rfl hρ hρ0 hh _ _ _ h (hc.tm t)
 ·intro n e he;exact⟨Qhv _ hg3 n e he,Qhn _ hg2 n e he⟩
 ·intro o ho e' he';have hp:=pm_ge π hge o (by omega);obtain⟨e,h1,_,h2⟩:=hent o o hp e' he';obtain⟨e0,g1,g2,g3,g4⟩:=hc.pre o ho e h1;obtain⟨h3,h4,_⟩:=Qxn h2;exact⟨e0,g1,(hρ o o hp).trans g2,h3.symm.trans g3,h4.symm.trans g4⟩
theorem Qkl(F:List Nat): ∀(H:Qan) (n:Nat),hget (frzH F H) n=(hget H n).map fun e=>(e.1 && !F.contains n,e.2)
 |[],n=>rfl
 |(q,(mu,e))::H,n=>by
  simp only[frzH,hget];cases hq:q==n
  ·simpa using Qkl F H n
  ·have:q=n:=by simpa using hq
   subst this;rfl
theorem Qxl{C:Ctx}{N:Nat}(F:List Nat){s:Qad}{a:Act}{w:World}(hc:Con C N s a w):Con C N (frzS F s) a w:=by
 obtain⟨S,rfl,hc⟩:=hc;have hp:=Qb0 S (fun n=> !F.contains n);refine⟨S.ice (fun n=> !F.contains n),rfl,Qje hc.wf,fun n=> ?_,fun t=>Qbt hp _ _ (fun _ _=>trivial) (hc.tm t),hc.nmT,?_,hc.size,hc.defers,hc.n0,?_⟩
 ·show (S.h n).map _=hget (frzH F s.h) n;rw[Qkl,hc.h n]
 ·intro n e he;have he:hget (frzH F s.h) n=some e:=he;rw[Qkl] at he;simp only[Option.map_eq_some_iff] at he;obtain⟨x,hx,rfl⟩:=he;exact hc.nmH n x hx
 ·intro o ho e' he';obtain⟨e,h1,rfl⟩:=Qec he';exact hc.pre o ho e h1
mutual
theorem fzA_nms(F:List Nat)(H:Qan): ∀(x:AV),∀m∈(x.fzA F H).nms,m∈x.nms
 | .own n,m,hm=>by
   simp only[AV.fzA] at hm;cases hF:F.contains n<;>rw[hF] at hm
   ·simpa using hm
   ·simp only[cond_true] at hm;cases hh:hget H n with
    |none=>rw[hh] at hm;simpa[ownD] using hm
    |some e=>
     obtain⟨mu,e⟩:=e;rw[hh] at hm;cases e<;>simp only[ownD,objD] at hm<;>first|exact hm|(simp[AV.nms] at hm)
 | .agg cs,m,hm=>by
   simp only[AV.fzA,AV.nms] at hm⊢;exact Qng F H cs m hm
 | .any,m,hm=>by simpa only[AV.fzA] using hm
 | .im d,m,hm=>by simpa only[AV.fzA] using hm
 | .tup cs,m,hm=>by simpa only[AV.fzA] using hm
 | .ptr o p,m,hm=>by simpa only[AV.fzA] using hm
 | .eptr o i p,m,hm=>by simpa only[AV.fzA] using hm
 | .mp o,m,hm=>by simpa only[AV.fzA] using hm
 | .ch o,m,hm=>by simpa only[AV.fzA] using hm
 | .it o,m,hm=>by simpa only[AV.fzA] using hm
 | .osl o a n,m,hm=>by simpa only[AV.fzA] using hm
 | .clo f a c,m,hm=>by simpa only[AV.fzA] using hm
theorem Qng(F:List Nat)(H:Qan): ∀(xs:List AV),∀m∈nmsL (fzAL F H xs),m∈nmsL xs
 |[],m,hm=>by simpa[fzAL] using hm
 |x::r,m,hm=>by
  simp only[fzAL,nmsL,List.mem_append] at hm⊢;exact hm.imp (fzA_nms F H x m) (Qng F H r m)
end
theorem Qaaf(F:List Nat)(H:Qan): ∀(xs:List (List AV)),∀m∈nmsR (fzAR F H xs),m∈nmsR xs
 |[],m,hm=>by simpa[fzAR] using hm
 |x::r,m,hm=>by
  simp only[fzAR,nmsR,List.mem_append] at hm⊢;exact hm.imp (Qng F H x m) (Qaaf F H r m)
theorem fzAO_nms(F:List Nat)(H:Qan)(e:AObj): ∀m∈(e.fzA F H).nms,m∈e.nms:=by
 intro m hm;cases e<;>simp only[AObj.fzA,AObj.nms] at hm⊢ <;>try exact hm
 ·exact Qng F H _ m hm
 ·exact Qaaf F H _ m hm
theorem Qrp(F:List Nat)(H:Qan): ∀(xs:List (List AV)),(fzAR F H xs).length=xs.length
 |[]=>rfl
 |x::r=>by simp only[fzAR,List.length_cons,Qrp F H r]
theorem Qzt(F:List Nat)(H:Qan): ∀(xs:List AV),(fzAL F H xs).length=xs.length
 |[]=>rfl
 |x::r=>by simp only[fzAL,List.length_cons,Qzt F H r]
theorem Qtj(F:List Nat)(H:Qan)(e:AObj):(e.fzA F H).esz=e.esz∧(e.fzA F H).len=e.len∧(e.fzA F H).isView=e.isView:=by
 cases e<;>simp[AObj.fzA,AObj.esz,AObj.len,AObj.isView,Qrp]
theorem Qrq(F:List Nat)(H:Qan): ∀(T:List (Nat×AV)) (t:Nat),tget (fzAT F H T) t=(tget T t).fzA F H
 |[],t=>by simp only[fzAT,tget,AV.fzA]
 |(q,x)::T,t=>by
  simp only[fzAT,tget];cases hq:q==t
  ·simpa using Qrq F H T t
  ·rfl
theorem Qss(F:List Nat)(H0:Qan): ∀(H:Qan) (n:Nat),hget (fzAH F H0 H) n=(hget H n).map fun e=>(e.1 && !F.contains n,e.2.fzA F H0)
 |[],n=>rfl
 |(q,(mu,e))::H,n=>by
  simp only[fzAH,hget];cases hq:q==n
  ·simpa using Qss F H0 H n
  ·have:q=n:=by simpa using hq
   subst this;rfl
section
variable {C:Ctx}{S:Env}{F:List Nat}{H:Qan}(hW:Wf C S)(hH: ∀n e,F.contains n=true→hget H n=some e→S.h n=some (false,e.2))
include hW hH
theorem ownD_conc{n:Nat}{v:Value}(hF:F.contains n=true)(h:conc S (.own n) v):conc S (ownD n (hget H n)) v:=by
 cases hh:hget H n with
 |none=>exact h
 |some e=>
  have hin:=hH n e hF hh;obtain⟨mu,e⟩:=e;cases e<;>simp only[ownD,objD]<;>try exact h
  rename_i U w rows;simp only[conc] at h⊢;have h2:=h.2 _ hin;have hob:=hW.obj n _ hin;have hlc:=fun l=>hW.loc n _ l hin
  simp only[objc] at hob;simp only[rd];cases hl:S.ρ n with
  |none=>
   rw[hl] at h2 hob;exact .inl ⟨.inl h2,hob.2⟩
  |some l=>
   rw[hl] at h2 hob;have hok:=(hlc l hl).2;simp only[AObj.isView,Bool.false_eq_true,or_false,if_false] at hok;obtain⟨g0,g1,vs,g2,g3,g4⟩:=hob;exact .inr ⟨l.b,l.p,l.cap,vs,U,(0,0),h2,by simp,g1,g0,hok,g2,g4⟩
mutual
theorem Qte: ∀(x:AV) (v:Value),conc S x v→conc S (x.fzA F H) v
 | .own n,v,h=>by
   simp only[AV.fzA];cases hF:F.contains n
   ·exact h
   ·exact ownD_conc hW hH hF h
 | .agg cs,v,h=>by
   simp only[AV.fzA,conc] at h⊢;obtain⟨vs,rfl,h⟩:=h;exact⟨vs,rfl,Qom _ _ h⟩
 | .any,v,h=>by simpa only[AV.fzA] using h
 | .im d,v,h=>by simpa only[AV.fzA] using h
 | .tup cs,v,h=>by simpa only[AV.fzA] using h
 | .ptr o p,v,h=>by simpa only[AV.fzA] using h
 | .eptr o i p,v,h=>by simpa only[AV.fzA] using h
 | .mp o,v,h=>by simpa only[AV.fzA] using h
 | .ch o,v,h=>by simpa only[AV.fzA] using h
 | .it o,v,h=>by simpa only[AV.fzA] using h
 | .osl o a n,v,h=>by simpa only[AV.fzA] using h
 | .clo f a c,v,h=>by simpa only[AV.fzA] using h
theorem Qom: ∀(xs:List AV) (vs:List Value),Qa0 S xs vs→Qa0 S (fzAL F H xs) vs
 |[],_,h=>by simpa only[fzAL] using h
 |x::l,vs,h=>by
  simp only[fzAL,Qa0] at h⊢;obtain⟨v,r,rfl,h3,h4⟩:=h;exact⟨v,r,rfl,Qte x v h3,Qom l r h4⟩
end
theorem Quw: ∀(xs:List AV) (vs:List Value),Qbv S xs vs→Qbv S (fzAL F H xs) vs
 |[],_,h=>by simp only[fzAL,Qbv]
 |x::l,vs,h=>by
  simp only[fzAL,Qbv] at h⊢;obtain⟨v,r,rfl,h3,h4⟩:=h;exact⟨v,r,rfl,Qte hW hH x v h3,Quw l r h4⟩
theorem Qu9(k:Nat): ∀(xs:List (List AV)) (vs:List Value),Qbb S k xs vs→Qbb S k (fzAR F H xs) vs
 |[],_,h=>by simp only[fzAR,Qbb]
 |x::l,vs,h=>by
  simp only[fzAR,Qbb] at h⊢;exact⟨by rw[Qzt];exact h.1,Quw hW hH x vs h.2.1,Qu9 k l _ h.2.2⟩
theorem fzAO_conc{l:Option Loc}(e:AObj)(h:objc S l e):objc S l (e.fzA F H):=by
 cases e<;>simp only[AObj.fzA]<;>try exact h
 ·simp only[objc] at h⊢;obtain⟨lc,vs,h1,h2,h3,h4⟩:=h;exact⟨lc,vs,h1,h2,h3,Qom hW hH _ _ h4⟩
 ·rename_i T k rows;simp only[objc,Qrp] at h⊢;refine⟨h.1,?_⟩;cases l with
  |none=>
   have h2:=h.2;simp only at h2;subst h2;rfl
  |some lc=>
   obtain⟨h0,h1,vs,h2,h3,h4⟩:=h;exact⟨h1,vs,h2,h3,Qu9 hW hH k _ _ h4⟩
end
theorem Qox{C:Ctx}{N:Nat}(F:List Nat){s:Qad}{a:Act}{w:World}(hc:Con C N s a w):Con C N (fzAS F s) a w:=by
 obtain⟨S,rfl,hcc⟩:=Qxl F hc;clear hc;have hc:=hcc;clear hcc
 let S':Env:=⟨S.ρ,S.ok,hget (fzAH F s.h s.h),S.w⟩
 have hget1: ∀n,S.h n=(hget s.h n).map fun e=>(e.1 && !F.contains n,e.2):=by
  intro n;rw[hc.h n];exact Qkl F s.h n
 have hH: ∀n e,F.contains n=true→hget s.h n=some e→S.h n=some (false,e.2):=by
  intro n e hF he;rw[hget1,he];simp only[Option.map_some,hF,Bool.not_true,Bool.and_false]
 have hent: ∀n e',S'.h n=some e'→ ∃e,S.h n=some e∧e'.1=e.1∧e'.2=e.2.fzA F s.h:=by
  intro n e' he';have he':hget (fzAH F s.h s.h) n=some e':=he';rw[Qss] at he';simp only[Option.map_eq_some_iff] at he';obtain⟨x,hx,rfl⟩:=he';exact⟨(x.1 && !F.contains n,x.2),by rw[hget1,hx];rfl,rfl,rfl⟩
 have hp:Pres (fun _=>True) S S':=⟨fun b hb=>⟨hb,rfl⟩,fun o _ e' he'=>by
  obtain⟨e,h1,h2,h3⟩:=hent o e' he';obtain⟨g1,g2,_⟩:=Qtj F s.h e.2;exact⟨e,h1,rfl,by rw[h3];exact g1,by rw[h3];exact g2⟩⟩
 have hW:=hc.wf;refine⟨S',rfl,⟨hW.os,hW.tape,hW.output,hW.size,hW.keep,hW.ok0,hW.ok1,hW.oks,?_,?_,?_⟩,fun n=>rfl,?_,?_,?_,hc.size,hc.defers,hc.n0,?_⟩
 ·intro o e' he';obtain⟨e,h1,h2,h3⟩:=hent o e' he';rw[h3];exact Qbr hp (fun lc _=>rfl) _ (fun _ _=>trivial) (fzAO_conc hW hH e.2 (hW.obj o e h1))
 ·intro o e' l he' hl;obtain⟨e,h1,h2,h3⟩:=hent o e' he'
  have:=hW.loc o e l h1 hl
  rw[h2,h3,(Qtj F s.h e.2).2.2];exact this
 ·intro o o' e e' l l' he he' hl hl' hb hfl;obtain⟨x,h1,h2,h3⟩:=hent o e he;obtain⟨x',h1',h2',h3'⟩:=hent o' e' he';exact hW.inj o o' x x' l l' h1 h1' hl hl' hb (by rw[←h2,←h2'];exact hfl)
 ·intro t;show conc S' (tget (fzAT F s.h s.tm) t) _;rw[Qrq];exact Qbt hp _ _ (fun _ _=>trivial) (Qte hW hH _ _ (hc.tm t))
 ·intro t m hm;have hm:m∈(tget (fzAT F s.h s.tm) t).nms:=hm;rw[Qrq] at hm;exact hc.nmT t m (fzA_nms F s.h _ m hm)
 ·intro n e he;have he:hget (fzAH F s.h s.h) n=some e:=he;rw[Qss] at he;simp only[Option.map_eq_some_iff] at he;obtain⟨x,hx,rfl⟩:=he;have h1:hget (frzS F s).h n=some (x.1 && !F.contains n,x.2):=by
   show hget (frzH F s.h) n=_;rw[Qkl,hx];rfl
  obtain⟨g1,g2⟩:=hc.nmH n _ h1;exact⟨g1,fun m hm=>g2 m (fzAO_nms F s.h x.2 m hm)⟩
 ·intro o ho e' he';obtain⟨e,h1,h2,h3⟩:=hent o e' he';obtain⟨e0,g1,g2,g3,g4⟩:=hc.pre o ho e h1;obtain⟨q1,q2,_⟩:=Qtj F s.h e.2;exact⟨e0,g1,g2,by rw[h3,q1];exact g3,by rw[h3,q2];exact g4⟩
theorem Qabk{p:Nat→Prop}: ∀n,p n→ ∃m,p m∧ ∀k,k<m→ ¬p k:=by
 intro n;induction n using Nat.strongRecOn with
 |_ n ih=>
  intro hn;by_cases h: ∃k,k<n∧p k
  ·obtain⟨k,hk,hpk⟩:=h;exact ih k hk hpk
  ·exact⟨n,hn,fun k hk hpk=>h ⟨k,hk,hpk⟩⟩
section
variable {P:Program}{V:Qbh}{C:Ctx}{N:Nat}
theorem Qfx{x:Qbl}{Q:Qbl}{next:Act→World→Prop}(h1: ∀s a w,x .normal s→Con C N s a w→next a w)(h2: ∀i s,x (.exit i) s→Q (.exit i) s)(h3: ∀s,x .ret s→Q .ret s):
 ∀e a w,toQ C N x e a w→Exit.then next (toQ C N Q) e a w:=by
 intro e a w h;cases e<;>simp only[toQ] at h<;>simp only[Exit.then,toQ]
 ·obtain⟨s,hs,hc⟩:=h;exact h1 s a w hs hc
 ·obtain⟨s,hs,hc⟩:=h;exact⟨s,h2 _ s hs,hc⟩
 ·obtain⟨s,hs,hc⟩:=h;exact⟨s,h3 s hs,hc⟩
theorem Qo4(HM:P.follows .mixedOrders=true)(HV:Qd1 P V): ∀(c:Code),chk N c=true→ ∀(Q:Qbl) (s:Qad) (a:Act) (w:World),awp P V c Q s→Con C N s a w→c.wp P (toQ C N Q) a w:=by
 intro c;induction c with
 |skip=>intro _ Q s a w h hc;exact wp_skip ⟨s,h,hc⟩
 |region id ops draw=>
  intro hk Q s a w h hc;simp only[chk,Bool.and_eq_true] at hk;cases draw with
  |true=>exact Qtk HM HV (fun s a w h1 h2=>⟨s,h1,h2⟩) hk.1 (by simpa using hk.2) h hc
  |false=>exact Qt0 HV (fun s a w h1 h2=>⟨s,h1,h2⟩) hk.1 h hc
 |seq x y ihx ihy=>
  intro hk Q s a w h hc;simp only[chk,Bool.and_eq_true] at hk;simp only[awp] at h;refine wp_seq (wp_mono (ihx hk.1 _ s a w h hc) (Qfx ?_ ?_ ?_))
  ·intro s a w hs hc;exact ihy hk.2 Q s a w hs hc
  ·intro i s hs;exact hs
  ·intro s hs;exact hs
 |cond c x y ihx ihy=>
  intro hk Q s a w h hc;simp only[chk,Bool.and_eq_true] at hk;simp only[awp] at h;obtain⟨S,hSw,hcE⟩:=hc;have h1:=Qdn hcE c;cases hv:evO s.tm c<;>rw[hv] at h<;>try exact h.elim
  rename_i d;cases d<;>try exact h.elim
  rename_i b;rw[hv] at h1;simp only[conc,rd] at h1;simp only[Quv] at h;refine wp_cond_split h1 (fun hb=>ihx hk.1 Q s a w (h.1 hb) ⟨S,hSw,hcE⟩) (fun hb=>ihy hk.2 Q s a w (h.2 hb) ⟨S,hSw,hcE⟩)
 |block id c ih=>
  intro hk Q s a w h hc;simp only[awp] at h;refine wp_block (wp_mono (ih hk _ s a w h hc) ?_);intro e a w he;cases e<;>simp only[toQ] at he<;>simp only[Exit.inBlock,toQ]
  ·exact he
  ·rename_i i;obtain⟨s,hs,hc⟩:=he;simp only[Qqo] at hs;by_cases hi:i=id
   ·subst hi;rw[if_pos rfl];exact⟨s,by simpa[exitQ] using hs,hc⟩
   ·rw[if_neg hi]
    have:(i==id)=false:=by simpa using hi
    rw[this] at hs;exact⟨s,hs,hc⟩
  ·exact he
 |loop c ih=>
  intro hk Q s a w h hc;have main0: ∀(s:Qad),Qin (awp P V c) Q s→Con C N s a w→(Code.loop c).wp P (toQ C N Q) a w:=by
   clear h hc;intro s h hc;simp only[Qin] at h;obtain⟨β,I,μ,hgood,⟨b0,hb0⟩,hbody⟩:=h
   let p:Act→World→Nat→Prop:=fun a w n=> ∃b,Con C N (I b) a w∧μ b=n
   let μ':Act→World→Nat:=fun a w=>Classical.epsilon fun n=>p a w n∧ ∀k,k<n→ ¬p a w k
   have hμ: ∀a w b,Con C N (I b) a w→p a w (μ' a w)∧ ∀k,k<μ' a w→ ¬p a w k:=by
    intro a w b hb;exact Classical.epsilon_spec (p:=fun n=>p a w n∧ ∀k,k<n→ ¬p a w k) (Qabk (μ b) ⟨b,hb,rfl⟩)
   have hn0: ∀b,C.n0≤(I b).nx:=by
    intro b;obtain⟨S,_,h⟩:=hc;exact Nat.le_trans h.n0 (hgood b).2
   refine wp_loop (fun a w=> ∃b,Con C N (I b) a w) μ' ⟨b0,Qmb hc hb0 (hgood b0).1 (hn0 b0)⟩ ?_;rintro a w ⟨b,hb⟩;obtain⟨⟨b1,hb1,hm1⟩,_⟩:=hμ a w b hb;refine wp_mono (ih hk _ _ a w (hbody b1) hb1) (Qfx ?_ ?_ ?_)
   ·rintro s' a' w' ⟨b',hlt,hsub⟩ hc';have hc2:=Qmb hc' hsub (hgood b').1 (hn0 b');refine⟨⟨b',hc2⟩,?_⟩;obtain⟨_,hmin⟩:=hμ a' w' b' hc2;rcases Nat.lt_or_ge (μ b') (μ' a' w') with h1|h1
    ·exact absurd ⟨b',hc2,rfl⟩ (hmin _ h1)
    ·omega
   ·intro i s hs;exact hs
   ·intro s hs;exact hs
  simp only[awp,Qay] at h;rcases h with h|h|⟨F,h⟩|h
  ·exact main0 s h hc
  ·simp only[Qsi] at h;obtain⟨β,I,μ,hgood,⟨b0,π0,hb0⟩,hbody⟩:=h
   let p:Act→World→Nat→Prop:=fun a w n=> ∃b,Con C N (I b) a w∧μ b=n
   let μ':Act→World→Nat:=fun a w=>Classical.epsilon fun n=>p a w n∧ ∀k,k<n→ ¬p a w k
   have hμ: ∀a w b,Con C N (I b) a w→p a w (μ' a w)∧ ∀k,k<μ' a w→ ¬p a w k:=by
    intro a w b hb;exact Classical.epsilon_spec (p:=fun n=>p a w n∧ ∀k,k<n→ ¬p a w k) (Qabk (μ b) ⟨b,hb,rfl⟩)
   have hlo:C.n0≤s.nx:=by
    obtain⟨S,_,h⟩:=hc;exact h.n0
   have hn0: ∀b,C.n0≤(I b).nx:=by
    intro b;obtain⟨S,_,h⟩:=hc;exact Nat.le_trans h.n0 (hgood b).2
   refine wp_loop (fun a w=> ∃b,Con C N (I b) a w) μ' ⟨b0,Qdx hc hb0 (hgood b0).1 hlo (hn0 b0)⟩ ?_;rintro a w ⟨b,hb⟩;obtain⟨⟨b1,hb1,hm1⟩,_⟩:=hμ a w b hb;refine wp_mono (ih hk _ _ a w (hbody b1) hb1) (Qfx ?_ ?_ ?_)
   ·rintro s' a' w' ⟨b',π,hlt,hsub⟩ hc';have hc2:=Qdx hc' hsub (hgood b').1 hlo (hn0 b');refine⟨⟨b',hc2⟩,?_⟩;obtain⟨_,hmin⟩:=hμ a' w' b' hc2;rcases Nat.lt_or_ge (μ b') (μ' a' w') with h1|h1
    ·exact absurd ⟨b',hc2,rfl⟩ (hmin _ h1)
    ·omega
   ·intro i s hs;exact hs
   ·intro s hs;exact hs
  ·exact main0 _ h (Qxl F hc)
  ·simp only[Qsf] at h;obtain⟨β,I,μ,hgood,⟨b0,F0,π0,hb0⟩,hbody⟩:=h
   let p:Act→World→Nat→Prop:=fun a w n=> ∃b,Con C N (I b) a w∧μ b=n
   let μ':Act→World→Nat:=fun a w=>Classical.epsilon fun n=>p a w n∧ ∀k,k<n→ ¬p a w k
   have hμ: ∀a w b,Con C N (I b) a w→p a w (μ' a w)∧ ∀k,k<μ' a w→ ¬p a w k:=by
    intro a w b hb;exact Classical.epsilon_spec (p:=fun n=>p a w n∧ ∀k,k<n→ ¬p a w k) (Qabk (μ b) ⟨b,hb,rfl⟩)
   have hlo:C.n0≤s.nx:=by
    obtain⟨S,_,h⟩:=hc;exact h.n0
   have hn0: ∀b,C.n0≤(I b).nx:=by
    intro b;obtain⟨S,_,h⟩:=hc;exact Nat.le_trans h.n0 (hgood b).2
   refine wp_loop (fun a w=> ∃b,Con C N (I b) a w) μ' ⟨b0,Qdx (Qox F0 hc) hb0 (hgood b0).1 hlo (hn0 b0)⟩ ?_;rintro a w ⟨b,hb⟩;obtain⟨⟨b1,hb1,hm1⟩,_⟩:=hμ a w b hb;refine wp_mono (ih hk _ _ a w (hbody b1) hb1) (Qfx ?_ ?_ ?_)
   ·rintro s' a' w' ⟨b',F,π,hlt,hsub⟩ hc';have hc2:=Qdx (Qox F hc') hsub (hgood b').1 hlo (hn0 b');refine⟨⟨b',hc2⟩,?_⟩;obtain⟨_,hmin⟩:=hμ a' w' b' hc2;rcases Nat.lt_or_ge (μ b') (μ' a' w') with h1|h1
    ·exact absurd ⟨b',hc2,rfl⟩ (hmin _ h1)
    ·omega
   ·intro i s hs;exact hs
   ·intro s hs;exact hs
 |exit id=>intro _ Q s a w h hc;exact wp_exit ⟨s,h,hc⟩
 |ret=>intro _ Q s a w h hc;exact wp_ret ⟨s,h,hc⟩
 |_=>intro hk;simp[chk] at hk
end
end Go.Ae
namespace Go.Ae
def Qkt(P:Program)(g:FuncId):Prop:=g<1000000000∧ ∃fn,P.funcs[g]? =some fn∧(fn.name== "runtime.NumGoroutine")=false∧fn.body.isNone=false
def Qaa5(P:Program)(g:FuncId)(args:List AV)(h:Nat→Option Ent)(nx:Nat)(r:AV)(E:Eff):Prop:=
 ∀(C:Ctx) (S:Env) (vs:Array Value) (R:Ending→World→Prop),
  Wf C S→(∀n∈E.use++E.kill,S.h n=h n)→(∀n,Fr nx E.cnt n→S.h n=none)→
  (∀n e,S.h n=some e→ ∀m∈e.2.nms,¬Fr nx E.cnt m)→
  Qa0 S args vs.toList→
  (∀v S',Wf C S'→S'.h=E.appf S.h→Pres (fun m=> ¬Fr nx E.cnt m) S S'→conc S' r v→R (.returned v) S'.w)→
  Calls P g vs S.w R
def Qkj(P:Program)(V:Qbh):Prop:= ∀g args h nx K,V g args h nx K→Qkt P g∧ ∃r E,Qaa5 P g args h nx r E∧K r E
theorem Qhx{P:Program}{g:FuncId}(h:Qkt P g)(args:Array Value)(w:World):(callFunc g args).run P w= .ok (.enter g args) w:=by
 obtain⟨_,fn,h1,h2,h3⟩:=h;have h2':fn.name≠ "runtime.NumGoroutine" :=by simpa using h2
 have h3':fn.body≠none:=by intro h;simp[h] at h3
 simp[callFunc,h1,h2',h3']
theorem Qpe{S:Env}{tm:List (Nat×AV)}{a:Act}: ∀(xs:List Operand),(∀x∈xs,conc S (evO tm x) (a.eval x))→Qa0 S (evL tm xs) (xs.map a.eval)
 |[],_=>by simp[evL,Qa0]
 |x::xs,h=>by
  simp only[evL,List.map_cons,Qa0];exact⟨_,_,rfl,h x (by simp),Qpe xs (fun y hy=>h y (by simp[hy]))⟩
theorem Qvp{P:Program}{V:Qbh}(hV:Qkj P V):Qd1 P V:=by
 intro tm h nx o c f K ho hcal hnm hk;have hopf:f∈o.op.operands:=by rw[ho];simp[Op.operands,Call.operands,hcal]
 have hopa: ∀x∈c.args.toList,x∈o.op.operands:=by
  intro x hx;rw[ho];simp only[Op.operands,Call.operands,hcal];simp;exact .inr (by simpa using hx)
 have main: ∀(g:FuncId) (fi ca:List AV),V g (fi++evL tm c.args.toList++ca) h nx K→(∀(S:Env) (v:Value),conc S (evO tm f) v→ ∃a b:Array Value,v= .func (fnV g) a b∧Qa0 S fi a.toList∧Qa0 S ca b.toList)→Qbp P tm h nx o K:=by
  intro g fi ca hv hf;obtain⟨hcall,r,E,hT,hK⟩:=hV _ _ _ _ _ hv;refine⟨r,E,?_,hK⟩;intro C S a next Q hW hu hfr hnms hops hn
  obtain⟨x,y,hfv,hx,hy⟩:=hf S _ (hops f hopf);rw[Qoi hcall.1] at hfv;have hargs:=Qpe c.args.toList (fun x hx=>hops x (hopa x hx));unfold Oper.wp;have hrun:(execOp a.eval o).run P S.w= .ok (.enter g (x++c.args.map a.eval++y)) S.w:=by
   simp only[execOp,ho,resolve,hcal,hfv,Sem.run_bind];simp[Deferred.ofValue,invoke,Qhx hcall]
  rw[hrun,Oper.upon_enter];refine hT C S _ _ hW hu hfr hnms ?_ ?_
  ·simp only[Array.toList_append,Array.toList_map];exact Qop _ _ _ _ (Qop _ _ _ _ hx hargs) hy
  ·intro v S' h1 h2 h3 h4;exact hn v S' h1 h2 h3 h4
 cases hf:evO tm f<;>rw[hf] at hk<;>try exact hk.elim
 case im d=>
  cases d<;>try exact hk.elim
  rename_i g first capt
  refine main g (first.map .im) (capt.map .im) hk ?_;intro S v hv;rw[hf] at hv;simp only[conc,rd] at hv;obtain⟨a,b,h1,h2,h3⟩:=hv;exact⟨a,b,h1,(Qa6 _ _).2 h2,(Qa6 _ _).2 h3⟩
 case clo g first capt=>
  refine main g first capt hk ?_
  intro S v hv;rw[hf] at hv;simpa only[conc] using hv
end Go.Ae
namespace Go.Ae
mutual
def AV.ren(σ:Nat→Nat):AV→AV
 | .any=> .any
 | .im d=> .im d
 | .agg cs=> .agg (renL σ cs)
 | .tup cs=> .tup (renL σ cs)
 | .ptr o p=> .ptr (σ o) p
 | .eptr o i p=> .eptr (σ o) i p
 | .own o=> .own (σ o)
 | .mp o=> .mp (σ o)
 | .ch o=> .ch (σ o)
 | .it o=> .it (σ o)
 | .osl o a n=> .osl (σ o) a n
 | .clo f a c=> .clo f (renL σ a) (renL σ c)
def renL(σ:Nat→Nat):List AV→List AV
 |[]=>[]
 |x::r=>x.ren σ::renL σ r
end
theorem Qze(σ:Nat→Nat): ∀(l:List AV),renL σ l=l.map (AV.ren σ)
 |[]=>rfl
 |x::r=>by simp only[renL,List.map_cons,Qze σ r]
def AObj.ren(σ:Nat→Nat):AObj→AObj
 | .cells T cs=> .cells T (renL σ cs)
 | .arr T k rows=> .arr T k rows
 | .arrA T k rows=> .arrA T k (rows.map (renL σ))
 | .map kt es=> .map kt es
 | .chan q cap=> .chan q cap
 | .iter a l=> .iter a l
 | .view cs=> .view cs
theorem Qr6(σ:Nat→Nat)(e:AObj):(e.ren σ).esz=e.esz:=by cases e<;>rfl
theorem Qs6(σ:Nat→Nat)(e:AObj):(e.ren σ).len=e.len:=by cases e<;>simp[AObj.ren,AObj.len]
section
variable {S S':Env}{σ τ:Nat→Nat}
structure RenP(S S':Env)(σ τ:Nat→Nat)(n:Nat):Prop where
 a: ∀e',S'.h (τ n)=some e'→ ∃e,S.h (σ n)=some e∧S'.ρ (τ n)=S.ρ (σ n)∧e'.2.esz=e.2.esz∧e'.2.len=e.2.len
mutual
theorem Qz8(hok: ∀b,S.ok b→S'.ok b∧S'.hp b=S.hp b): ∀(z:AV) (v:Value),(∀n∈z.nms,RenP S S' σ τ n)→conc S (z.ren σ) v→conc S' (z.ren τ) v
 | .any,_,_,_=>by simp only[AV.ren,conc]
 | .im d,v,_,h=>by
   simp only[AV.ren,conc] at h⊢;exact Qb8 hok d v h
 | .agg cs,v,hx,h=>by
   simp only[AV.ren,conc,AV.nms] at h hx⊢;obtain⟨vs,rfl,h1⟩:=h;exact⟨vs,rfl,Qfd hok cs _ hx h1⟩
 | .tup cs,v,hx,h=>by
   simp only[AV.ren,conc,AV.nms] at h hx⊢;obtain⟨vs,rfl,h1⟩:=h;exact⟨vs,rfl,Qfd hok cs _ hx h1⟩
 | .ptr o off,v,hx,h=>by
   simp only[AV.ren,conc,AV.nms,List.mem_singleton,forall_eq] at h hx⊢;obtain⟨hone,h⟩:=h;refine⟨hone,?_⟩;intro e' he';obtain⟨e,he,hr,_,_⟩:=hx.a e' he';rw[hr];exact h e he
 | .eptr o i off,v,hx,h=>by
   simp only[AV.ren,conc,AV.nms,List.mem_singleton,forall_eq] at h hx⊢;obtain⟨hone,h⟩:=h;refine⟨hone,?_⟩;intro e' he';obtain⟨e,he,hr,hz,_⟩:=hx.a e' he';rw[hr,hz];exact h e he
 | .own o,v,hx,h=>by
   simp only[AV.ren,conc,AV.nms,List.mem_singleton,forall_eq] at h hx⊢;obtain⟨hone,h⟩:=h;refine⟨hone,?_⟩;intro e' he';obtain⟨e,he,hr,_,hl⟩:=hx.a e' he';rw[hr,hl];exact h e he
 | .mp o,v,hx,h=>by
   simp only[AV.ren,conc,AV.nms,List.mem_singleton,forall_eq] at h hx⊢;obtain⟨hone,h⟩:=h;refine⟨hone,?_⟩;intro e' he';obtain⟨e,he,hr,_,_⟩:=hx.a e' he';rw[hr];exact h e he
 | .ch o,v,hx,h=>by
   simp only[AV.ren,conc,AV.nms,List.mem_singleton,forall_eq] at h hx⊢;obtain⟨hone,h⟩:=h;refine⟨hone,?_⟩;intro e' he';obtain⟨e,he,hr,_,_⟩:=hx.a e' he';rw[hr];exact h e he
 | .it o,v,hx,h=>by
   simp only[AV.ren,conc,AV.nms,List.mem_singleton,forall_eq] at h hx⊢;obtain⟨hone,h⟩:=h;refine⟨hone,?_⟩;intro e' he';obtain⟨e,he,hr,_,_⟩:=hx.a e' he';rw[hr];exact h e he
 | .osl o a n,v,hx,h=>by
   simp only[AV.ren,conc,AV.nms,List.mem_singleton,forall_eq] at h hx⊢;obtain⟨hone,h⟩:=h;refine⟨hone,?_⟩;intro e' he';obtain⟨e,he,hr,hz,hl⟩:=hx.a e' he';rw[hr,hz,hl];exact h e he
 | .clo f fi ca,v,hx,h=>by
   simp only[AV.ren,conc,AV.nms,List.mem_append] at h hx⊢;obtain⟨a,c,rfl,h1,h2⟩:=h;exact⟨a,c,rfl,Qfd hok fi _ (fun o ho=>hx o (.inl ho)) h1,Qfd hok ca _ (fun o ho=>hx o (.inr ho)) h2⟩
theorem Qfd(hok: ∀b,S.ok b→S'.ok b∧S'.hp b=S.hp b): ∀(zs:List AV) (vs:List Value),(∀n∈nmsL zs,RenP S S' σ τ n)→Qa0 S (renL σ zs) vs→Qa0 S' (renL τ zs) vs
 |[],_,_,h=>by simpa only[renL,Qa0] using h
 |x::xs,vs,hx,h=>by
  simp only[renL,Qa0,nmsL,List.mem_append] at h hx⊢;obtain⟨v,r,rfl,h1,h2⟩:=h;exact⟨v,r,rfl,Qz8 hok x v (fun o ho=>hx o (.inl ho)) h1,Qfd hok xs r (fun o ho=>hx o (.inr ho)) h2⟩
end
theorem Qt9(hok: ∀b,S.ok b→S'.ok b∧S'.hp b=S.hp b): ∀(zs:List AV) (vs:List Value),(∀n∈nmsL zs,RenP S S' σ τ n)→Qbv S (renL σ zs) vs→Qbv S' (renL τ zs) vs
 |[],_,_,h=>by simp only[renL,Qbv]
 |x::xs,vs,hx,h=>by
  simp only[renL,Qbv,nmsL,List.mem_append] at h hx⊢;obtain⟨v,r,rfl,h1,h2⟩:=h;exact⟨v,r,rfl,Qz8 hok x v (fun o ho=>hx o (.inl ho)) h1,Qt9 hok xs r (fun o ho=>hx o (.inr ho)) h2⟩
theorem Qsc(σ:Nat→Nat)(l:List AV):(renL σ l).length=l.length:=by rw[Qze];simp
theorem Qva(hok: ∀b,S.ok b→S'.ok b∧S'.hp b=S.hp b)(k:Nat): ∀(rs:List (List AV)) (vs:List Value),(∀n∈nmsR rs,RenP S S' σ τ n)→Qbb S k (rs.map (renL σ)) vs→Qbb S' k (rs.map (renL τ)) vs
 |[],_,_,h=>by simp only[List.map_nil,Qbb]
 |r::rs,vs,hx,h=>by
  simp only[List.map_cons,Qbb,nmsR,List.mem_append,Qsc] at h hx⊢;exact⟨h.1,Qt9 hok r vs (fun o ho=>hx o (.inl ho)) h.2.1,Qva hok k rs _ (fun o ho=>hx o (.inr ho)) h.2.2⟩
theorem Qzw(hok: ∀b,S.ok b→S'.ok b∧S'.hp b=S.hp b){l:Option Loc}(hl: ∀lc,l=some lc→S'.hp lc.b=S.hp lc.b): ∀(e:AObj),(∀n∈e.nms,RenP S S' σ τ n)→objc S l (e.ren σ)→objc S' l (e.ren τ)
 | .cells T cs,hx,h=>by
   simp only[AObj.ren,objc,AObj.nms] at h hx⊢;obtain⟨lc,vs,h1,h2,h3,h4⟩:=h;exact⟨lc,vs,h1,h2,(hl lc h1).trans h3,Qfd hok cs _ hx h4⟩
 | .arr T k rows,hx,h=>by
   simp only[AObj.ren,objc] at h⊢;refine⟨h.1,?_⟩;cases l with
   |none=>exact h.2
   |some lc=>
    obtain⟨h0,h1,vs,h2,h3,h4⟩:=h;exact⟨h1,vs,(hl lc rfl).trans h2,h3,Qfu hok k rows _ h4⟩
 | .arrA T k rows,hx,h=>by
   simp only[AObj.ren,objc,AObj.nms,List.length_map] at h hx⊢;refine⟨h.1,?_⟩;cases l with
   |none=>
    have:=h.2
    simp only[List.map_eq_nil_iff] at this⊢;exact this
   |some lc=>
    obtain⟨h0,h1,vs,h2,h3,h4⟩:=h;exact⟨h1,vs,(hl lc rfl).trans h2,h3,Qva hok k rows _ hx h4⟩
 | .map kt es,_,h=>by
   simp only[AObj.ren,objc] at h⊢;obtain⟨lc,ents,clock,h1,h0,h2,h3,h4⟩:=h;exact⟨lc,ents,clock,h1,h0,(hl lc h1).trans h2,Qc6 hok es _ h3,h4⟩
 | .chan q cap,_,h=>by
   simp only[AObj.ren,objc] at h⊢;obtain⟨lc,buf,sent,rcvd,h1,h2,h3⟩:=h;exact⟨lc,buf,sent,rcvd,h1,(hl lc h1).trans h2,Qcu hok q _ h3⟩
 | .iter last left,_,h=>by
   simp only[AObj.ren,objc] at h⊢;obtain⟨lc,mb,ents,clock,seen,h1,h2,h0,h3,h4,h5,h6,h7⟩:=h;exact⟨lc,mb,ents,clock,seen,h1,(hok mb h2).1,Qly hok last h0,(hok mb h2).2.trans h3,(hl lc h1).trans h4,h5,h6,Qc6 hok left _ h7⟩
 | .view cs,_,h=>by
   simp only[AObj.ren,objc] at h⊢;obtain⟨lc,vs,T,fr,h1,h2,h3⟩:=h;exact⟨lc,vs,T,fr,h1,(hl lc h1).trans h2,Qfm hok cs _ h3⟩
mutual
theorem ren_id: ∀(z:AV),z.ren (fun n=>n)=z
 | .any=>rfl
 | .im _=>rfl
 | .agg cs=>by simp only[AV.ren,Qia cs]
 | .tup cs=>by simp only[AV.ren,Qia cs]
 | .ptr _ _=>rfl
 | .eptr _ _ _=>rfl
 | .own _=>rfl
 | .mp _=>rfl
 | .ch _=>rfl
 | .it _=>rfl
 | .osl _ _ _=>rfl
 | .clo f a c=>by simp only[AV.ren,Qia a,Qia c]
theorem Qia: ∀(z:List AV),renL (fun n=>n) z=z
 |[]=>rfl
 |x::r=>by simp only[renL,ren_id x,Qia r]
end
theorem Qwc(e:AObj):e.ren (fun n=>n)=e:=by
 cases e<;>simp only[AObj.ren,Qia];rename_i T k rows
 have:(renL fun n=>n)=(id:List AV→List AV):=funext Qia
 rw[this];simp
end
def mapO{α β:Type}(f:α→Option β):List α→Option (List β)
 |[]=>some []
 |x::r=>match f x,mapO f r with
  |some y,some ys=>some (y::ys)
  |_,_=>none
def Qho(f:AV→Option D):Option Ent→Option D
 |some (_,.arr _ k rows)=>some (.sl false k rows)
 |some (_,.arrA _ k rows)=>(mapO (mapO f) rows).map (.sl false k)
 |_=>none
def Qsj:Option Ent→Option D
 |some (_,.map kt es)=>some (.mp kt es)
 |_=>none
def Qlb(f:AV→Option D):Option Ent→Option D
 |some (_,.cells _ cs)=>(mapO f cs).map .ref
 |_=>none
def mkT(ys:List AV):Option (List D)→AV
 |some ds=> .im (.tup ds)
 |none=> .tup ys
def mkC(g:FuncId)(a c:List AV):Option (List D)→Option (List D)→AV
 |some ds,some es=> .im (.fn g ds es)
 |some _,none=> .clo g a c
 |none,_=> .clo g a c
def mkCO(g:FuncId):Option (List AV)→Option (List AV)→Option AV
 |some a,some c=>some (mkC g a c (Qcr a) (Qcr c))
 |_,_=>none
def kp(x:Nat→AV)(d:Option D):Option Nat→Option AV
 |some j=>some (x j)
 |none=>d.map .im
def asDO:Option AV→Option D
 |some x=>x.asD
 |none=>none
def cvt(h:Nat→Option Ent)(kx:Nat→Option Nat):Nat→AV→Option AV
 |0,_=>none
 |_+1,.im d=>some (.im d)
 |_+1,.any=>some .any
 |n+1,.agg cs=>(mapO (cvt h kx n) cs).map fun ys=>mkO ys (Qcr ys)
 |n+1,.tup cs=>(mapO (cvt h kx n) cs).map fun ys=>mkT ys (Qcr ys)
 |n+1,.own o=>kp .own (Qho (fun x=>asDO (cvt h kx n x)) (h o)) (kx o)
 |_+1,.mp o=>kp .mp (Qsj (h o)) (kx o)
 |n+1,.ptr o 0=>kp (fun j=> .ptr j 0) (Qlb (fun x=>asDO (cvt h kx n x)) (h o)) (kx o)
 |_+1,.ptr o (p+1)=>kp (fun j=> .ptr j (p+1)) none (kx o)
 |_+1,.eptr o i p=>kp (fun j=> .eptr j i p) none (kx o)
 |_+1,.ch o=>kp .ch none (kx o)
 |_+1,.it o=>kp .it none (kx o)
 |_+1,.osl o a n=>kp (fun j=> .osl j a n) none (kx o)
 |n+1,.clo g a c=>mkCO g (mapO (cvt h kx n) a) (mapO (cvt h kx n) c)
section
variable {S:Env}{f:AV→Option D}
theorem Qq9(hf: ∀x d v,f x=some d→conc S x v→rd S.ok S.hp d v): ∀(cs:List AV) (ds:List D) (vs:List Value),mapO f cs=some ds→Qa0 S cs vs→rdl S.ok S.hp ds vs
 |[],ds,vs,h,hc=>by
  simp only[mapO,Option.some.injEq] at h;subst h;simp only[Qa0] at hc;simp only[rdl];exact hc
 |x::cs,ds,vs,h,hc=>by
  simp only[mapO] at h;simp only[Qa0] at hc;obtain⟨v,r,rfl,h1,h2⟩:=hc;split at h
  ·rename_i y ys hy hys;obtain rfl:=Option.some.inj h;simp only[rdl];exact⟨v,r,rfl,hf x y v hy h1,Qq9 hf cs ys r hys h2⟩
  ·cases h
theorem mapO_p(hf: ∀x d v,f x=some d→conc S x v→rd S.ok S.hp d v): ∀(cs:List AV) (ds:List D) (vs:List Value),mapO f cs=some ds→Qbv S cs vs→rdp S.ok S.hp ds vs
 |[],ds,vs,h,hc=>by
  simp only[mapO,Option.some.injEq] at h;subst h;simp only[rdp]
 |x::cs,ds,vs,h,hc=>by
  simp only[mapO] at h;simp only[Qbv] at hc;obtain⟨v,r,rfl,h1,h2⟩:=hc;split at h
  ·rename_i y ys hy hys;obtain rfl:=Option.some.inj h;simp only[rdp];exact⟨v,r,rfl,hf x y v hy h1,mapO_p hf cs ys r hys h2⟩
  ·cases h
theorem Qg7{α β:Type}{g:α→Option β}: ∀(cs:List α) (ds:List β),mapO g cs=some ds→ds.length=cs.length
 |[],ds,h=>by simp only[mapO,Option.some.injEq] at h;subst h;rfl
 |x::cs,ds,h=>by
  simp only[mapO] at h;split at h
  ·rename_i y ys hy hys;obtain rfl:=Option.some.inj h;simp[Qg7 cs ys hys]
  ·cases h
theorem mapO_r(hf: ∀x d v,f x=some d→conc S x v→rd S.ok S.hp d v){k:Nat}: ∀(rs:List (List AV)) (ds:List (List D)) (vs:List Value),mapO (mapO f) rs=some ds→Qbb S k rs vs→rdr S.ok S.hp k ds vs
 |[],ds,vs,h,hc=>by
  simp only[mapO,Option.some.injEq] at h;subst h;simp only[rdr]
 |x::cs,ds,vs,h,hc=>by
  simp only[mapO] at h;simp only[Qbb] at hc;split at h
  ·rename_i y ys hy hys;obtain rfl:=Option.some.inj h;simp only[rdr];exact⟨by rw[Qg7 x y hy];exact hc.1,mapO_p hf x y vs hy hc.2.1,mapO_r hf cs ys _ hys hc.2.2⟩
  ·cases h
theorem Qv8{o:Nat}{e:Ent}{k:Nat}{rows:List (List D)}{v:Value}(he:S.h o=some e)(hl:e.2.len=rows.length)(hok: ∀l,S.ρ o=some l→S.ok l.b)
 (hob:match S.ρ o with|none=>rows=[]|some lc=>rows.length≤LIM∧rows.length≤lc.cap∧ ∃vs T,S.hp lc.b=some (.cells vs T (0,0))∧rdr S.ok S.hp k rows (vs.toList.drop lc.p))(hc:conc S (.own o) v):rd S.ok S.hp (.sl false k rows) v:=by
 simp only[conc] at hc;have hc:=hc.2 e he;simp only[rd];cases hr:S.ρ o with
 |none=>rw[hr] at hc hob;exact .inl ⟨.inl hc,hob⟩
 |some l=>
  rw[hr] at hc hob;obtain⟨h0,h1,vs,T,h2,h3⟩:=hob;exact .inr ⟨l.b,l.p,l.cap,vs,T,(0,0),by rw[←hl];exact hc,by simp,h1,h0,hok l hr,h2,h3⟩
end
theorem frz_own{C:Ctx}{S:Env}(hW:Wf C S){f:AV→Option D}(hf: ∀x d v,f x=some d→conc S x v→rd S.ok S.hp d v){o:Nat}{d:D}{v:Value}(hok: ∀e l,S.h o=some e→e.2.isView=false→S.ρ o=some l→S.ok l.b)
 (h:Qho f (S.h o)=some d)(hc:conc S (.own o) v):rd S.ok S.hp d v:=by
 cases ho:S.h o with
 |none=>rw[ho] at h;simp[Qho] at h
 |some e=>
  rw[ho] at h;obtain⟨mu,e⟩:=e;have hob:=hW.obj o _ ho;cases e<;>simp only[Qho,reduceCtorEq] at h
  ·obtain rfl:=Option.some.inj h;simp only[objc] at hob;refine Qv8 ho rfl (fun l hl=>hok _ l ho rfl hl) ?_ hc;cases hr:S.ρ o with
   |none=>rw[hr] at hob;exact hob.2
   |some l=>
    rw[hr] at hob;obtain⟨h0,h1,vs,h2,_,h3⟩:=hob;exact⟨h0,h1,vs,_,h2,h3⟩
  ·simp only[Option.map_eq_some_iff] at h;obtain⟨rows,h1,rfl⟩:=h;have hlen:=Qg7 _ _ h1;simp only[objc] at hob;refine Qv8 ho (by simp[AObj.len,hlen]) (fun l hl=>hok _ l ho rfl hl) ?_ hc;cases hr:S.ρ o with
   |none=>rw[hr] at hob;rw[hob.2] at hlen;exact List.length_eq_zero_iff.1 (by simpa using hlen)
   |some l=>
    rw[hr] at hob;obtain⟨h0,h2,vs,h3,_,h4⟩:=hob;exact⟨by omega,by omega,vs,_,h3,mapO_r hf _ _ _ h1 h4⟩
theorem frz_mp{C:Ctx}{S:Env}(hW:Wf C S){o:Nat}{d:D}{v:Value}(hok: ∀e l,S.h o=some e→e.2.isView=false→S.ρ o=some l→S.ok l.b)
 (h:Qsj (S.h o)=some d)(hc:conc S (.mp o) v):rd S.ok S.hp d v:=by
 cases ho:S.h o with
 |none=>rw[ho] at h;simp[Qsj] at h
 |some e=>
  rw[ho] at h;obtain⟨mu,e⟩:=e;have hob:=hW.obj o _ ho;cases e<;>simp only[Qsj,reduceCtorEq] at h;obtain rfl:=Option.some.inj h;simp only[objc] at hob;obtain⟨lc,ents,clock,h1,h2,h3,h4⟩:=hob;simp only[conc] at hc;obtain⟨l,hl,hv⟩:=hc.2 _ ho;rw[h1] at hl;obtain rfl:=Option.some.inj hl;simp only[rd];exact⟨lc.b,ents,clock,hv,h2,hok _ lc ho rfl h1,h3,h4⟩
theorem frz_ptr{C:Ctx}{S:Env}(hW:Wf C S){f:AV→Option D}(hf: ∀x d v,f x=some d→conc S x v→rd S.ok S.hp d v){o:Nat}{d:D}{v:Value}(hok: ∀e l,S.h o=some e→e.2.isView=false→S.ρ o=some l→S.ok l.b)
 (h:Qlb f (S.h o)=some d)(hc:conc S (.ptr o 0) v):rd S.ok S.hp d v:=by
 cases ho:S.h o with
 |none=>rw[ho] at h;simp[Qlb] at h
 |some e=>
  rw[ho] at h;obtain⟨mu,e⟩:=e;have hob:=hW.obj o _ ho;cases e<;>simp only[Qlb,reduceCtorEq] at h;simp only[Option.map_eq_some_iff] at h;obtain⟨ds,h1,rfl⟩:=h;simp only[objc] at hob;obtain⟨lc,vs,h2,h3,h4,h5⟩:=hob;simp only[conc] at hc;obtain⟨l,hl,hv⟩:=hc.2 _ ho;rw[h2] at hl;obtain rfl:=Option.some.inj hl;simp only[rd];refine⟨lc.b,lc.p+0,vs,_,_,hv,hok _ lc ho rfl h2,h4,?_⟩;rw[h3];simpa using Qhe _ _ (Qq9 hf _ _ _ h1 h5)
theorem Qkn{g:AV→Option AV}: ∀(cs ys:List AV) (ds:List D),mapO g cs=some ys→Qcr ys=some ds→mapO (fun x=>asDO (g x)) cs=some ds
 |[],ys,ds,h,h2=>by
  simp only[mapO,Option.some.injEq] at h;subst h;simpa[Qcr,mapO] using h2
 |x::cs,ys,ds,h,h2=>by
  simp only[mapO] at h;split at h
  ·rename_i z zs hz hzs;obtain rfl:=Option.some.inj h;simp only[Qcr] at h2;cases hy:z.asD with
   |none=>rw[hy] at h2;simp[Qlx] at h2
   |some d=>
    cases hys:Qcr zs with
    |none=>rw[hy,hys] at h2;simp[Qlx] at h2
    |some es=>
     rw[hy,hys] at h2;simp only[Qlx,Option.some.injEq] at h2;subst h2;have h9:=Qkn cs zs es hzs hys;have h8:asDO (g x)=some d:=by rw[hz];exact hy
     simp only[mapO,h8,h9]
  ·cases h
theorem asDO_some{x:Option AV}{d:D}(h:asDO x=some d):x=some (.im d):=by
 cases x with
 |none=>cases h
 |some x=>
  simp only[asDO] at h;cases x<;>simp only[AV.asD,reduceCtorEq] at h;obtain rfl:=Option.some.inj h;rfl
theorem Quz{x:Nat→AV}{d:Option D}{k:Option Nat}{e:D}(hx: ∀j,x j≠ .im e)(h:kp x d k=some (.im e)):k=none∧d=some e:=by
 cases k with
 |some j=>
  simp only[kp,Option.some.injEq] at h;exact absurd h (hx j)
 |none=>
  simp only[kp,Option.map_eq_some_iff] at h;obtain⟨d',h1,h2⟩:=h;cases h2;exact⟨rfl,h1⟩
theorem cvt_rd{C:Ctx}{S:Env}(hW:Wf C S){kx:Nat→Option Nat}(hfr: ∀o e l,kx o=none→S.h o=some e→e.2.isView=false→S.ρ o=some l→S.ok l.b):
 ∀(n:Nat) (x:AV) (d:D) (v:Value),cvt S.h kx n x=some (.im d)→conc S x v→rd S.ok S.hp d v:=by
 intro n;induction n with
 |zero=>intro x d v h;simp[cvt] at h
 |succ n ih=>
  have hf: ∀x d v,asDO (cvt S.h kx n x)=some d→conc S x v→rd S.ok S.hp d v:=fun x d v h hc=>ih x d v (asDO_some h) hc
  intro x d v h hc;cases x with
  |im d'=>
   simp only[cvt,Option.some.injEq,AV.im.injEq] at h;subst h;simpa only[conc] using hc
  |any=>simp[cvt] at h
  |agg cs=>
   simp only[cvt,Option.map_eq_some_iff] at h;obtain⟨ys,h1,h2⟩:=h;simp only[conc] at hc;obtain⟨vs,rfl,h3⟩:=hc;cases ha:Qcr ys with
   |none=>rw[ha] at h2;simp[mkO] at h2
   |some ds=>
    rw[ha] at h2;simp only[mkO,AV.im.injEq] at h2;subst h2;simp only[rd];exact⟨vs,rfl,Qq9 hf cs ds _ (Qkn cs ys ds h1 ha) h3⟩
  |tup cs=>
   simp only[cvt,Option.map_eq_some_iff] at h;obtain⟨ys,h1,h2⟩:=h;simp only[conc] at hc;obtain⟨vs,rfl,h3⟩:=hc;cases ha:Qcr ys with
   |none=>rw[ha] at h2;simp[mkT] at h2
   |some ds=>
    rw[ha] at h2;simp only[mkT,AV.im.injEq] at h2;subst h2;simp only[rd];exact⟨vs,rfl,Qq9 hf cs ds _ (Qkn cs ys ds h1 ha) h3⟩
  |own o=>
   simp only[cvt] at h;obtain⟨h1,h2⟩:=Quz (by simp) h;exact frz_own hW hf (fun e l=>hfr o e l h1) h2 hc
  |mp o=>
   simp only[cvt] at h;obtain⟨h1,h2⟩:=Quz (by simp) h;exact frz_mp hW (fun e l=>hfr o e l h1) h2 hc
  |ptr o p=>
   cases p with
   |zero=>
    simp only[cvt] at h;obtain⟨h1,h2⟩:=Quz (by simp) h;exact frz_ptr hW hf (fun e l=>hfr o e l h1) h2 hc
   |succ p=>
    simp only[cvt] at h;obtain⟨h1,h2⟩:=Quz (by simp) h;cases h2
  |eptr o i p=>
   simp only[cvt] at h;obtain⟨h1,h2⟩:=Quz (by simp) h;cases h2
  |ch o=>
   simp only[cvt] at h;obtain⟨h1,h2⟩:=Quz (by simp) h;cases h2
  |it o=>
   simp only[cvt] at h;obtain⟨h1,h2⟩:=Quz (by simp) h;cases h2
  |osl o a k=>
   simp only[cvt] at h;obtain⟨h1,h2⟩:=Quz (by simp) h;cases h2
  |clo g a c=>
   simp only[cvt] at h;cases ha:mapO (cvt S.h kx n) a with
   |none=>rw[ha] at h;simp[mkCO] at h
   |some a'=>
    cases hcc:mapO (cvt S.h kx n) c with
    |none=>rw[ha,hcc] at h;simp[mkCO] at h
    |some c'=>
     rw[ha,hcc] at h;simp only[mkCO,Option.some.injEq] at h;cases h1:Qcr a' with
     |none=>rw[h1] at h;simp[mkC] at h
     |some ds=>
      cases h2:Qcr c' with
      |none=>rw[h1,h2] at h;simp[mkC] at h
      |some es=>
       rw[h1,h2] at h;simp only[mkC,AV.im.injEq] at h;subst h;simp only[conc] at hc;obtain⟨va,vc,rfl,h3,h4⟩:=hc;simp only[rd];exact⟨va,vc,rfl,Qq9 hf a ds _ (Qkn a a' ds ha h1) h3,Qq9 hf c es _ (Qkn c c' es hcc h2) h4⟩
theorem Qrr{C:Ctx}{S S':Env}(hW:Wf C S){kx:Nat→Option Nat}{τ:Nat→Nat}(hok: ∀b,S.ok b→S'.ok b∧S'.hp b=S.hp b)(hfr: ∀o e l,kx o=none→S.h o=some e→e.2.isView=false→S.ρ o=some l→S.ok l.b)
 (hren: ∀o j,kx o=some j→ ∀e',S'.h (τ j)=some e'→ ∃e,S.h o=some e∧S'.ρ (τ j)=S.ρ o∧e'.2.esz=e.2.esz∧e'.2.len=e.2.len):
 ∀(n:Nat) (x y:AV) (v:Value),cvt S.h kx n x=some y→conc S x v→conc S' (y.ren τ) v:=by
 intro n;induction n with
 |zero=>intro x y v h;simp[cvt] at h
 |succ n ih=>
  have hm: ∀(cs ys:List AV) (vs:List Value),mapO (cvt S.h kx n) cs=some ys→Qa0 S cs vs→Qa0 S' (renL τ ys) vs:=by
   intro cs;induction cs with
   |nil=>
    intro ys vs h hc;simp only[mapO,Option.some.injEq] at h;subst h;simpa only[renL,Qa0] using hc
   |cons x cs ih2=>
    intro ys vs h hc;simp only[mapO] at h;simp only[Qa0] at hc;obtain⟨v,r,rfl,h1,h2⟩:=hc;split at h
    ·rename_i z zs hz hzs;obtain rfl:=Option.some.inj h;simp only[renL,Qa0];exact⟨v,r,rfl,ih x z v hz h1,ih2 zs r hzs h2⟩
    ·cases h
  intro x y v h hc;have hB: ∀d,y= .im d→conc S' (y.ren τ) v:=by
   intro d hd;subst hd;simp only[AV.ren,conc];exact Qb8 hok d v (cvt_rd hW hfr (n+1) x d v h hc)
  have hK: ∀(f:Nat→AV) (g:Option D) (o:Nat),kp f g (kx o)=some y→(∀j,kx o=some j→conc S' ((f j).ren τ) v)→conc S' (y.ren τ) v:=by
   intro f g o h1 h2;cases hk:kx o with
   |none=>
    rw[hk] at h1;simp only[kp,Option.map_eq_some_iff] at h1;obtain⟨d,_,rfl⟩:=h1;exact hB d rfl
   |some j=>
    rw[hk] at h1;simp only[kp,Option.some.injEq] at h1;rw[←h1];exact h2 j hk
  cases x with
  |im d=>
   simp only[cvt,Option.some.injEq] at h;exact hB d h.symm
  |any=>
   simp only[cvt,Option.some.injEq] at h;subst h;simp only[AV.ren,conc]
  |agg cs=>
   have h0:=h;simp only[cvt,Option.map_eq_some_iff] at h0;obtain⟨ys,h1,h2⟩:=h0;cases ha:Qcr ys with
   |some ds=>rw[ha] at h2;exact hB _ h2.symm
   |none=>
    rw[ha] at h2;simp only[conc] at hc;obtain⟨vs,rfl,h3⟩:=hc;rw[←h2];simp only[mkO,AV.ren,conc];exact⟨vs,rfl,hm cs ys _ h1 h3⟩
  |tup cs=>
   have h0:=h;simp only[cvt,Option.map_eq_some_iff] at h0;obtain⟨ys,h1,h2⟩:=h0;cases ha:Qcr ys with
   |some ds=>rw[ha] at h2;exact hB _ h2.symm
   |none=>
    rw[ha] at h2;simp only[conc] at hc;obtain⟨vs,rfl,h3⟩:=hc;rw[←h2];simp only[mkT,AV.ren,conc];exact⟨vs,rfl,hm cs ys _ h1 h3⟩
  |own o=>
   have h0:=h;simp only[cvt] at h0;refine hK _ _ o h0 ?_;intro j hj;simp only[conc,AV.ren] at hc⊢;refine⟨hc.1,?_⟩;intro e' he';obtain⟨e,he,hr,_,hl⟩:=hren o j hj e' he';rw[hr,hl];exact hc.2 e he
  |mp o=>
   have h0:=h;simp only[cvt] at h0;refine hK _ _ o h0 ?_;intro j hj;simp only[conc,AV.ren] at hc⊢;refine⟨hc.1,?_⟩;intro e' he';obtain⟨e,he,hr,_,hl⟩:=hren o j hj e' he';rw[hr];exact hc.2 e he
  |ptr o p=>
   have hp: ∀j,kx o=some j→conc S' ((AV.ptr j p).ren τ) v:=by
    intro j hj;simp only[conc,AV.ren] at hc⊢;refine⟨hc.1,?_⟩;intro e' he';obtain⟨e,he,hr,_,hl⟩:=hren o j hj e' he';rw[hr];exact hc.2 e he
   cases p with
   |zero=>
    have h0:=h;simp only[cvt] at h0;exact hK _ _ o h0 hp
   |succ p=>
    have h0:=h;simp only[cvt] at h0;exact hK _ _ o h0 hp
  |eptr o i p=>
   have h0:=h;simp only[cvt] at h0;refine hK _ _ o h0 ?_;intro j hj;simp only[conc,AV.ren] at hc⊢;refine⟨hc.1,?_⟩;intro e' he';obtain⟨e,he,hr,hz,hl⟩:=hren o j hj e' he';rw[hr,hz];exact hc.2 e he
  |ch o=>
   have h0:=h;simp only[cvt] at h0;refine hK _ _ o h0 ?_;intro j hj;simp only[conc,AV.ren] at hc⊢;refine⟨hc.1,?_⟩;intro e' he';obtain⟨e,he,hr,_,hl⟩:=hren o j hj e' he';rw[hr];exact hc.2 e he
  |it o=>
   have h0:=h;simp only[cvt] at h0;refine hK _ _ o h0 ?_;intro j hj;simp only[conc,AV.ren] at hc⊢;refine⟨hc.1,?_⟩;intro e' he';obtain⟨e,he,hr,_,hl⟩:=hren o j hj e' he';rw[hr];exact hc.2 e he
  |osl o a k=>
   have h0:=h;simp only[cvt] at h0;refine hK _ _ o h0 ?_;intro j hj;simp only[conc,AV.ren] at hc⊢;refine⟨hc.1,?_⟩;intro e' he';obtain⟨e,he,hr,hz,hl⟩:=hren o j hj e' he';rw[hr,hz,hl];exact hc.2 e he
  |clo g a c=>
   have h0:=h;simp only[cvt] at h0;cases ha:mapO (cvt S.h kx n) a with
   |none=>rw[ha] at h0;simp[mkCO] at h0
   |some a'=>
    cases hcc:mapO (cvt S.h kx n) c with
    |none=>rw[ha,hcc] at h0;simp[mkCO] at h0
    |some c'=>
     rw[ha,hcc] at h0;simp only[mkCO,Option.some.injEq] at h0;have hgen:y= .clo g a' c'→conc S' (y.ren τ) v:=by
      intro hy;subst hy;simp only[conc] at hc;obtain⟨va,vc,rfl,h3,h4⟩:=hc;simp only[AV.ren,conc];exact⟨va,vc,rfl,hm a a' _ ha h3,hm c c' _ hcc h4⟩
     cases h1:Qcr a' with
     |none=>rw[h1] at h0;exact hgen (by rw[←h0];rfl)
     |some ds=>
      cases h2:Qcr c' with
      |none=>rw[h1,h2] at h0;exact hgen (by rw[←h0];rfl)
      |some es=>rw[h1,h2] at h0;exact hB _ h0.symm
end Go.Ae
namespace Go.Ae
def cellC(ti:TI):Option Ent→Option AV
 |some (_,.cells _ cs)=>bif (ti.agg||ti.size==1) && cs.length==ti.size then some (mkV ti.agg cs) else none
 |_=>none
def cellP(h:Qan)(x:AV):Option TI→Option AV
 |none=>none
 |some ti=>match x with
  | .ptr o 0=>cellC ti (hget h o)
  |_=>none
def Qj3(P:Program)(s:Qad):ResultVar→Option AV
 | .tmp t=>some (tget s.tm t)
 | .cell a T=>cellP s.h (tget s.tm a) (tI P T)
def resV:List AV→AV
 |[x]=>x
 |xs=> .tup xs
theorem cell_run{P:Program}{C:Ctx}{N:Nat}{s:Qad}{S:Env}{a:Act}(hc:ConE C N s S a){x:ResultVar}{r:AV}(hx:Qj3 P s x=some r):
 ∃v,(match x with| .tmp t=>pure (a.tmps.getD t undef)| .cell c t=>do loadVar t (←asAddr (a.tmps.getD c undef)):Sem Value).run P S.w= .ok v S.w∧conc S r v:=by
 cases x with
 |tmp t=>
  simp only[Qj3,Option.some.injEq] at hx;subst hx;exact⟨a.eval (.tmp t),by simp[Act.eval],hc.tm t⟩
 |cell c T=>
  simp only[Qj3] at hx;cases hT:tI P T with
  |none=>rw[hT] at hx;simp[cellP] at hx
  |some ti=>
   rw[hT] at hx;simp only[cellP] at hx;split at hx
   ·rename_i o ho;cases he:hget s.h o with
    |none=>rw[he] at hx;simp[cellC] at hx
    |some e=>
     rw[he] at hx;obtain⟨mu,e⟩:=e;cases e<;>simp only[cellC,reduceCtorEq] at hx;rename_i U cs;cases hb:(ti.agg||ti.size==1) && cs.length==ti.size<;>rw[hb] at hx
     ·simp at hx
     ·simp only[cond_true,Option.some.injEq] at hx;subst hx;simp only[Bool.and_eq_true,Bool.or_eq_true,beq_iff_eq] at hb;have hS:S.h o=_:=(hc.h o).trans he;have hob:=hc.wf.obj o _ hS;simp only[objc] at hob;obtain⟨lc,vs,hl,hp0,hbk,hcs⟩:=hob;have h1:=hc.tm c;rw[ho] at h1;simp only[conc] at h1;obtain⟨l,hl',hv⟩:=h1.2 _ hS;rw[hl] at hl';obtain rfl:=Option.some.inj hl';have hlen:=Qbs _ _ hcs;have hld:=Qey hT (w:=S.w) (b:=lc.b) (p:=0) hbk (by simp at hlen⊢;omega) hb.1;have hv':a.tmps.getD c undef= .pointer (some ⟨lc.b,0,none⟩):=by simpa[Act.eval,hp0] using hv
      rw[List.drop_zero,List.take_of_length_le (by rw[hlen,hb.2];exact Nat.le_refl _)] at hld;refine⟨if ti.agg then .agg vs.toList.toArray else vs.toList.headD undef,?_,Qj6 hcs hb.2 hb.1⟩;simp only[hv',asAddr,Sem.run_bind,Sem.run_pure,Result.andThen_ok];exact hld
   ·cases hx
theorem Qe7{P:Program}{C:Ctx}{N:Nat}{s:Qad}{S:Env}{a:Act}(hc:ConE C N s S a){fn:Func}{xs:List AV}(hx:mapO (Qj3 P s) fn.results.toList=some xs):
 ∃v,(results fn a.tmps).run P S.w= .ok v S.w∧conc S (resV xs) v:=by
 have key: ∀(rs:List ResultVar) (xs:List AV),mapO (Qj3 P s) rs=some xs→ ∃vs:List Value,(rs.mapM fun x=>(match x with
  | .tmp t=>pure (a.tmps.getD t undef)| .cell c t=>do loadVar t (←asAddr (a.tmps.getD c undef)):Sem Value)).run P S.w= .ok vs S.w∧Qa0 S xs vs:=by
  intro rs;induction rs with
  |nil=>
   intro xs h;simp only[mapO,Option.some.injEq] at h;subst h;exact⟨[],by simp,by simp only[Qa0]⟩
  |cons x rs ih=>
   intro xs h;simp only[mapO] at h;split at h
   ·rename_i y ys hy hys;obtain rfl:=Option.some.inj h;obtain⟨v,h1,h2⟩:=cell_run hc hy;obtain⟨vs,h3,h4⟩:=ih ys hys;refine⟨v::vs,?_,by simp only[Qa0];exact⟨v,vs,rfl,h2,h4⟩⟩;simp only[List.mapM_cons,Sem.run_bind,h1,h3,Result.andThen_ok,Sem.run_pure]
   ·cases h
 obtain⟨vs,h1,h2⟩:=key _ _ hx;have hl:=Qbs _ _ h2;have hm:(results fn a.tmps).run P S.w= .ok (if h:vs.toArray.size=1 then vs.toArray[0] else .tuple vs.toArray) S.w:=by
  unfold results;rw[Array.mapM_eq_mapM_toList]
  have: ∀(m:Sem (List Value)),m.run P S.w= .ok vs S.w→((Functor.map List.toArray m)>>=fun vs=>(pure (if h:vs.size=1 then vs[0] else .tuple vs):Sem Value)).run P S.w= .ok (if h:vs.toArray.size=1 then vs.toArray[0] else .tuple vs.toArray) S.w:=by
   intro m hm;rw[Sem.run_bind]
   have:(Functor.map List.toArray m).run P S.w= .ok vs.toArray S.w:=by
    rw[map_eq_pure_bind,Sem.run_bind,hm];rfl
   rw[this];rfl
  exact this _ h1
 refine⟨_,hm,?_⟩;cases xs with
 |nil=>
  simp only[Qa0] at h2;subst h2;simp only[resV,conc];exact⟨#[],by simp,by simp[Qa0]⟩
 |cons x xs=>
  cases xs with
  |nil=>
   simp only[Qa0] at h2;obtain⟨v,r,rfl,h3,rfl⟩:=h2;simpa[resV] using h3
  |cons y xs=>
   have: ¬vs.toArray.size=1:=by simp only[List.size_toArray];simp at hl;omega
   rw[dif_neg this];simp only[resV,conc];exact⟨_,rfl,h2⟩
def entry:Nat→List AV→List (Nat×AV)
 |_,[]=>[]
 |i,x::r=>(i,x)::entry (i+1) r
theorem Qev{S:Env}: ∀(args:List AV) (vs:List Value) (i t:Nat),Qa0 S args vs→conc S (tget (entry i args) t) (if i≤t then (vs[t - i]?).getD undef else undef)
 |[],vs,i,t,_=>by simp[entry,tget,conc]
 |x::args,vs,i,t,h=>by
  simp only[Qa0] at h;obtain⟨v,r,rfl,h1,h2⟩:=h;simp only[entry,tget];cases hq:i==t
  ·have hne:i≠t:=by simpa using hq
   have:=Qev args r (i+1) t h2
   simp only[cond_false];by_cases hit:i+1≤t
   ·rw[if_pos hit] at this;rw[if_pos (by omega)];have e:t - i=(t - (i+1))+1:=by omega
    rw[e];simpa using this
   ·rw[if_neg hit] at this;rw[if_neg (by omega)];exact this
  ·have:i=t:=by simpa using hq
   subst this;simpa using h1
theorem Qgh: ∀(args:List AV) (i t:Nat),∀m∈(tget (entry i args) t).nms,m∈nmsL args
 |[],i,t,m,h=>by simp[entry,tget,AV.nms] at h
 |x::args,i,t,m,h=>by
  simp only[entry,tget] at h;simp only[nmsL,List.mem_append];cases hq:i==t<;>rw[hq] at h
  ·exact .inr (Qgh args (i+1) t m (by simpa using h))
  ·exact .inl (by simpa using h)
def idxL:List Nat→Nat→Nat→Option Nat
 |[],_,_=>none
 |x::r,o,k=>bif x==o then some k else idxL r o (k+1)
def kxOf(k:Nat)(ex:List Nat)(o:Nat):Option Nat:=bif Nat.blt o k then some o else idxL ex o k
def cvtE(f:AV→Option AV):AObj→Option AObj
 | .cells T cs=>(mapO f cs).map (.cells T)
 | .arr T k rows=>some (.arr T k rows)
 | .arrA T k rows=>(mapO (mapO f) rows).map (.arrA T k)
 | .map kt es=>some (.map kt es)
 | .chan q cap=>some (.chan q cap)
 | .iter a l=>some (.iter a l)
 | .view cs=>some (.view cs)
def consE(j:Nat)(mu:Bool):Option AObj→Option Qan→Option Qan
 |some e,some r=>some ((j,(mu,e))::r)
 |some _,none=>none
 |none,_=>none
def klE(f:AV→Option AV)(j:Nat)(r:Option Qan):Option Ent→Option Qan
 |none=>r
 |some (mu,e)=>consE j mu (cvtE f e) r
def outKl(h:Nat→Option Ent)(f:AV→Option AV):List Nat→Option Qan
 |[]=>some []
 |j::r=>klE f j (outKl h f r) (h j)
def exE(f:AV→Option AV)(j:Nat)(r:Option Qan):Option Ent→Option Qan
 |none=>none
 |some (false,_)=>none
 |some (true,e)=>consE j true (cvtE f e) r
def outEx(h:Nat→Option Ent)(f:AV→Option AV):List Nat→Nat→Option Qan
 |[],_=>some []
 |x::r,j=>exE f j (outEx h f r (j+1)) (h x)
def appO:Option Qan→Option Qan→Option Qan
 |some a,some b=>some (a++b)
 |some _,none=>none
 |none,_=>none
def roOk(h:Nat→Option Ent)(kl:List Nat):Qan→Prop
 |[]=>True
 |(j,e)::r=>(bif kl.contains j then True else h j=some e)∧roOk h kl r
def exOk(k:Nat):List Nat→Bool
 |[]=>true
 |x::r=>Nat.ble k x && (!r.contains x && exOk k r)
abbrev RetR:=AV→Qan→Nat→Prop
def retO3(R:RetR)(cnt:Nat):Option AV→Option Qan→Prop
 |some r,some H=>R r H cnt
 |some _,none=>False
 |none,_=>False
def retO2(k:Nat)(kl:List Nat)(H0:Qan)(R:RetR)(s:Qad)(ex:List Nat)(x:AV):Prop:=
 exOk k ex=true∧roOk (hget s.h) kl H0∧retO3 R ex.length (cvt (hget s.h) (kxOf k ex) 9 x) (appO (outKl (hget s.h) (cvt (hget s.h) (kxOf k ex) 9) kl) (outEx (hget s.h) (cvt (hget s.h) (kxOf k ex) 9) ex k))
def retO1(k:Nat)(kl:List Nat)(exf:Qad→AV→List Nat)(H0:Qan)(R:RetR)(s:Qad):Option (List AV)→Prop
 |some xs=>retO2 k kl H0 R s (exf s (resV xs)) (resV xs)
 |none=>False
def retO(P:Program)(rs:List ResultVar)(k:Nat)(kl:List Nat)(exf:Qad→AV→List Nat)(H0:Qan)(R:RetR)(s:Qad):Prop:=retO1 k kl exf H0 R s (mapO (Qj3 P s) rs)
def retQ(P:Program)(rs:List ResultVar)(k:Nat)(kl:List Nat)(exf:Qad→AV→List Nat)(H0:Qan)(R:RetR):Qbl
 | .normal,s=>retO P rs k kl exf H0 R s
 | .ret,s=>retO P rs k kl exf H0 R s
 | .exit _,_=>False
def exNo(_:Qad)(_:AV):List Nat:=[]
def geK(k:Nat):List Nat→List Nat
 |[]=>[]
 |x::r=>bif Nat.ble k x then x::geK k r else geK k r
def exRes(k:Nat)(_:Qad)(x:AV):List Nat:=geK k x.nms
end Go.Ae
namespace Go.Ae
def LeV(r r':AV):Prop:= ∀(σ:Nat→Nat) (S:Env) (v:Value),conc S (r.ren σ) v→conc S (r'.ren σ) v
def LeE(e e':Ent):Prop:=e.1=e'.1∧e.2.esz=e'.2.esz∧e.2.len=e'.2.len∧e.2.isView=e'.2.isView∧ ∀(σ:Nat→Nat) (S:Env) (l:Option Loc),objc S l (e.2.ren σ)→objc S l (e'.2.ren σ)
def LeH:Qan→Qan→Prop
 |[],[]=>True
 |(j,e)::r,(j',e')::r'=>j=j'∧LeE e e'∧LeH r r'
 |[],_::_=>False
 |_::_,[]=>False
theorem LeV.refl(r:AV):LeV r r:=fun _ _ _ h=>h
theorem LeE.refl(e:Ent):LeE e e:=⟨rfl,rfl,rfl,rfl,fun _ _ _ h=>h⟩
theorem LeH.refl: ∀(H:Qan),LeH H H
 |[]=>trivial
 |(_,e)::r=>⟨rfl,LeE.refl e,LeH.refl r⟩
theorem LeH.get: ∀{H H':Qan},LeH H H'→ ∀n,(hget H' n=none∧hget H n=none)∨ ∃e e',hget H n=some e∧hget H' n=some e'∧LeE e e'
 |[],[],_,n=> .inl ⟨rfl,rfl⟩
 |(j,e)::r,(j',e')::r',h,n=>by
  obtain⟨rfl,h1,h2⟩:=h;simp only[hget];cases hq:j==n
  ·simpa using LeH.get h2 n
  ·exact .inr ⟨e,e',by simp,by simp,h1⟩
def sg(os:List Nat)(nx j:Nat):Nat:=match os[j]? with
 |some o=>o
 |none=>nx+(j - os.length)
def renH(σ:Nat→Nat):Qan→Qan
 |[]=>[]
 |(j,(mu,e))::r=>(σ j,(mu,e.ren σ))::renH σ r
theorem Qzm{σ:Nat→Nat}: ∀{H:Qan} {n:Nat} {e':Ent},hget (renH σ H) n=some e'→ ∃j e,(j,e)∈H∧σ j=n∧e'=(e.1,e.2.ren σ)
 |[],n,e',h=>by simp[renH,hget] at h
 |(j,(mu,e))::r,n,e',h=>by
  simp only[renH,hget] at h;cases hq:σ j==n<;>rw[hq] at h
  ·obtain⟨j',x,h1,h2,h3⟩:=Qzm (H:=r) (by simpa using h);exact⟨j',x,by simp[h1],h2,h3⟩
  ·simp only[cond_true,Option.some.injEq] at h;exact⟨j,(mu,e),by simp,by simpa using hq,h.symm⟩
theorem Qgz: ∀{H:Qan} {n:Nat} {e:Ent},hget H n=some e→(n,e)∈H
 |[],n,e,h=>by simp[hget] at h
 |(i,x)::r,n,e,h=>by
  simp only[hget] at h;cases hq:i==n<;>rw[hq] at h
  ·exact List.mem_cons_of_mem _ (Qgz (by simpa using h))
  ·have:i=n:=by simpa using hq
   subst this;simp only[cond_true,Option.some.injEq] at h;subst h;simp
end Go.Ae
