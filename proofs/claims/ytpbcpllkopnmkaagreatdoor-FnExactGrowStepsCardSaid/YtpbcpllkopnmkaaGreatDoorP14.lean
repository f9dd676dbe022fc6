/- Lemmas. Conditions: none. -/
import Derived.Test.YtpbcpllkopnmkaaGreatDoorP13
set_option linter.all false
set_option maxHeartbeats 8000000
set_option maxRecDepth 100000
namespace Go.Ae
open Go.Proofs
def Qaer(a:List Tile):Nat:=(a.map fun x=>x.Sides.length).sum
theorem Qaf2(y:Tile)(r:List Tile)(k:Int): ∀i,tlK (y::r) k (i+1)=tlK r (k+1+y.Sides.length) i
 |0=>rfl
 |i+1=>by
  rw[tlK,Qaf2 y r k i,tlK];rfl
theorem tlK_sum: ∀(a:List Tile) (k:Int),tlK a k a.length=k+a.length+Qaer a
 |[],k=>by simp[tlK,Qaer]
 |y::r,k=>by
  rw[ZaL,Qaf2,tlK_sum r];simp only[Qaer,Zap,Zcn];omega
theorem szC_eq{n:Nat}{l:Int}(h:0<=szC n l):szC n l=l - n:=by
 simp only[szC] at h⊢;split at h
 .omega
 .rename_i c;rw[Zai c]
theorem Qaeb: ∀(a:List Tile) (l:Int),0<=l->0<=Qdz Qcn a l->(Qaer a:Int)+Qdz Qcn a l<=l
 |[],l,h0,_=>by simp[Qaer,Qdz]
 |y::r,l,h0,h=>by
  simp only[Qdz] at h⊢;by_cases c:Qcn y l<0
  .rw[Zao c] at h;omega
  .rw[Zai c] at h⊢;have hy:0<=Qcn y l:=by omega
   have h1:0<=szC y.Name.size l:=by
    simp only[Qcn] at hy;split at hy<;>omega
   have e:Qcn y l=szC y.Sides.length (szC y.Name.size l):=by
    simp only[Qcn];rw[Zai (by omega)]
   rw[e] at hy h⊢;have q1:=Qn3 h1;have q2:=szC_eq hy;have ih:=Qaeb r _ hy h;simp only[Qaer,Zap,Zcn] at ih⊢;omega
structure SysB(s:Qar):Prop where
 g:s.Set.Glues.length<=1048576
 t:s.Set.Tiles.length<=1048576
 d:Qaer s.Set.Tiles<=1048576
 p:s.Seed.Tiles.length<=1048576
theorem szSys_B{s:Qar}{l:Int}(hl: -1<=l)(hl2:l<=1048576)(h:0<=Qlr s l):SysB s:=by
 have hb:=Qxk s.Set l hl;simp only[Qlr] at h;split at h
 .omega
 rename_i c;obtain⟨a1,_,_⟩:=Qn3 h;have hs:0<=Qqd s.Set l:=by omega
 have hg:=Qo1 s.Set.Glues l hl;simp only[Qqd] at hs;split at hs
 .omega
 have hg0:0<=Qcj s.Set.Glues l:=by omega
 have hgc:0<=szC s.Set.Glues.length l:=by
  simp only[Qcj] at hg0;split at hg0<;>omega
 have htc:0<=szC s.Set.Tiles.length (Qcj s.Set.Glues l):=by
  simp only[Qds] at hs;split at hs<;>omega
 have e:Qds s.Set.Tiles (Qcj s.Set.Glues l)=Qdz Qcn s.Set.Tiles (szC s.Set.Tiles.length (Qcj s.Set.Glues l)):=by
  simp only[Qds];rw[Zai (by omega)]
 rw[e] at hs;obtain⟨b1,_,_⟩:=Qn3 hgc;obtain⟨d1,d2,_⟩:=Qn3 htc
 have:=Qaeb s.Set.Tiles _ htc hs
 exact⟨by omega,by omega,by omega,by omega⟩
theorem sd_mem{a:List Tile}{x:Tile}(h:x∈a):x.Sides.length<=Qaer a:=by
 induction a with
 |nil=>cases h
 |cons y r ih=>
  simp only[Qaer,Zap,Zcn] at ih⊢;rcases Zas.1 h with rfl|h
  .omega
  .have:=ih h;omega
theorem SysB.yx{s:Qar}(h:SysB s):toYX.pre s:=⟨⟨by have:=h.g;omega,⟨h.t,fun x hx=>by have:=sd_mem hx;have:=h.d;omega⟩⟩,by have:=h.p;omega⟩
theorem SysB.syK{s:Qar}(h:SysB s){k:Int}(hk:0<=k)(hk2:k<=1048576):0<=syK (s,k)/\Go.Ae.syK (s,k)+3*s.Seed.Tiles.length<=9437184:=by
 simp only[Go.Ae.syK,tlK_sum,tsK]
 have:=h.g;have:=h.t;have:=h.d;have:=h.p
 omega
theorem SysB.mkp{s:Qar}(h:SysB s){k:Int}(hk:0<=k)(hk2:k<=1048576):mkSy.pre (s,k):=⟨hk,h.t,by have:=(h.syK hk hk2).2;simp only;omega⟩
structure Qad1(h:Nat->Option Ent)(g t p f:Nat)(s:Qar):Prop where
 g:h g=some (true,.arr 116 2 (s.Set.Glues.map Glue.c))
 t:h t=some (true,.arrA 119 2 (tlB f s.Set.Tiles))
 p:h p=some (true,.arr 105 3 (s.Seed.Tiles.map Qab.c))
 f: ∀i,i<s.Set.Tiles.length->h (f+i)=some (tlF s.Set.Tiles i)
theorem tiles_bk{h:Nat->Option Ent}{n f:Nat}{a:List Tile}(hf: ∀i,i<a.length->h (f+i)=some (tlF a i)):mapO (mapO (bk h (n+1))) (tlB f a)=some (a.map Tile.c):=by
 have e:a.map Tile.c=(List.range a.length).map fun i=>((a[i]?.map Tile.c).getD []):=by
  apply ZbO;intro i;rw[ZaN,ZaN];by_cases hi:i<a.length
  .rw[Zbo hi,Zad hi];simp[hi]
  .rw[ZaT (by omega),ZaT (by simp;omega)];rfl
 rw[e];refine Qnl _ fun i hi=> ?_
 have hi:=Zat.1 hi;have hx:a[i]? =some a[i]:=Zad hi;simp only[mapO,bk,hf i hi,tlF,Qwz,hx,ZaO,Zag,Tile.c]
theorem Qad1.bk{h:Nat->Option Ent}{g t p f n:Nat}{s:Qar}(hs:Qad1 h g t p f s):Go.Ae.bk h (n+3) (.agg [.own g,.own t,.own p,.im (.int .i64 s.Temperature)])=some (.agg (Qar.c s)):=by
 simp only[Go.Ae.bk,mapO,hs.g,hs.t,hs.p,Qwz,tiles_bk hs.f,ZaO,Qar.c]
theorem Qad1.pk{h:Nat->Option Ent}{g t p f:Nat}{s:Qar}(hs:Qad1 h g t p f s):pkF h (.agg [.own g,.own t,.own p,.im (.int .i64 s.Temperature)])=some (.val (.agg (Qar.c s))):=by
 simp only[pkF,hs.bk (n:=6),pkFV,ZaO]
theorem vN.call{A:Type}{ar:List PK->Option A}{pre:A->Prop}{re:A->D}{args:List AV}{tm:List (Nat×AV)}{h:Qan}{nx:Nat}{dst:Option Nat}{go:Qad->Prop}(ps:List PK)(hps:pkL (hget h) args=some (ps,[]))(a:A)(ha:ar ps=some a)(hpre:pre a)
 (hgo:go ((⟨tm,h,nx⟩:Qad).put dst (.im (re a)))):vrow ar pre re args (hget h) nx (kont go ⟨tm,h,nx⟩ dst):=by
 unfold vrow;rw[hps];simp only[Qa1,ha,decK,frE];refine⟨hpre,?_,?_⟩
 .rw[Eff.ok_nr];simp[AV.bel,belH,Qpx]
 .rw[Qad.app_nr,Qba,ZcE];exact hgo
theorem sysR1(s:Qar):a1 (kR Qar.d) [.val (.agg (Qar.c s))]=some s:=by simp only[a1,kR,Qar.d_c,Zbl]
theorem sys2R(s t:Qar):a2 (kR Qar.d) (kR Qar.d) [.val (.agg (Qar.c s)),.val (.agg (Qar.c t))]=some (s,t):=by simp only[a2,kR,Qar.d_c,Zbl]
theorem opt2R(l m:List Opt):a2 (kS Opt.d) (kS Opt.d) [.val (.sl false 3 (l.map Opt.c)),.val (.sl false 3 (m.map Opt.c))]=some (l,m):=by simp only[a2,kS,Opt.d_R,Zbl]
theorem int2R(l m:List Int):a2 (kS intD) (kS intD) [.val (.sl false 1 (l.map intC)),.val (.sl false 1 (m.map intC))]=some (l,m):=by simp only[a2,kS,Qb4 Qag4,Zbl]
def toYR.row:Row:=orR toSystem.row toYX.row
theorem toYR.ok:Qas Tryz.prog 7 toYR.row:=orR_ok toSystem.ok toYX.ok
theorem yx_cl{s:Qar}(hs:SysB s): ∀p∈toYX.H1 s,p.1<2000013/\ ∀m∈p.2.2.nms,m<2000013:=by
 have hm:min s.Set.Tiles.length 1048576<=1048576:=ZcV _ _;have ht:=hs.t;intro p hp;simp only[toYX.H1,Zas,famH,Zaw,Zat] at hp;rcases hp with rfl|rfl|rfl|⟨i,hi,rfl⟩
 .exact⟨by omega,by simp[AObj.nms]⟩
 .refine⟨by omega,fun m hm=> ?_⟩;simp only[AObj.nms] at hm;obtain⟨r,hr,hm⟩:=Qadc.1 hm;obtain⟨j,hj,rfl⟩:=Zaw.1 hr
  have:=Zat.1 hj
  simp[nmsL,AV.nms] at hm;omega
 .exact⟨by omega,by simp[AObj.nms]⟩
 .exact⟨by simp only;omega,by simp[tlF,AObj.nms]⟩
theorem Qad1.mono{h h':Nat->Option Ent}{g t p f:Nat}{s:Qar}(hs:Qad1 h g t p f s)(hh: ∀m,(m=g\/m=t\/m=p\/(f<=m/\m<f+s.Set.Tiles.length))->h' m=h m):Qad1 h' g t p f s:=
 ⟨by rw[hh g (.inl rfl)];exact hs.g,by rw[hh t (.inr (.inl rfl))];exact hs.t,by rw[hh p (.inr (.inr (.inl rfl)))];exact hs.p,fun i hi=>by rw[hh _ (.inr (.inr (.inr ⟨by omega,by omega⟩)))];exact hs.f i hi⟩
theorem yx_at{s:Qar}(hs:SysB s){nx:Nat}{HH:Qan}(h: ∀j e,hget (toYX.H1 s) j=some e->hget HH (nx+j)=some (e.1,e.2.ren fun j=>nx+j)):Qad1 (hget HH) (nx+7) (nx+9) (nx+2000012) (nx+10) s:=by
 have ht:=hs.t;have hm:min s.Set.Tiles.length 1048576=s.Set.Tiles.length:=by omega
 refine⟨h 7 _ rfl,?_,h 2000012 _ rfl,fun i hi=> ?_⟩
 .rw[h 9 _ rfl];simp only[AObj.ren];congr 3;simp only[tlB,ZcO];refine ZbQ fun i hi=> ?_
  simp only[Function.comp,renL,AV.ren];rw[Zcw]
 .have e:hget (toYX.H1 s) (10+i)=some (tlF s.Set.Tiles i):=by
   simp only[toYX.H1,hget,Qao _ _ (show 7≠10+i by omega),Qao _ _ (show 9≠10+i by omega),Qao _ _ (show 2000012≠10+i by omega),ZaM];rw[hm];exact Qcy _ _ _ _ hi
  rw[Zcw,h _ _ e];rfl
theorem Qafq{H:Qan}(e:Ent)(k m:Nat)(h:k≠m):hget ((k,e)::hdel H [k]) m=hget H m:=by
 simp only[hget,Qao _ _ h,ZaM];exact Qce _ _ _ h
theorem pk2{h:Nat->Option Ent}{x y:AV}{p q:PK}(hx:pkF h x=some p)(hy:pkF h y=some q):pkFL h [x,y]=some [p,q]:=by simp only[pkFL,hx,hy,Qabo]
theorem Qae3{h:Nat->Option Ent}{o T k:Nat}{mu:Bool}{rows:List (List D)}(g:h o=some (mu,.arr T k rows)):pkF h (.own o)=some (.val (.sl false k rows)):=by simp only[pkF,bk,g,Qwz,pkFV,ZaO]
theorem Qaes: ∀l:List Nat,Ql9 l []=true
 |[]=>rfl
 |x::r=>by simp[Ql9,Qaes r]
def Qaey:List Fp->Bool
 |[]=>true
 |f::r=>f.touch.isEmpty && Qaey r
theorem Qadq(cl:List (List Nat))(i:Nat)(use:List Nat): ∀acc:List Fp,Qaey acc=true->Qabz cl i use [] [] acc=true
 |[],_=>rfl
 |f::r,h=>by
  simp only[Qaey,Zah,List.isEmpty_iff] at h;simp only[Qabz,ckP,h.1,ZaP,Qaes,Ql9,outN,Zdw,Zba,Qadq cl i use r h.2]
theorem vN.callA{A:Type}{ar:List PK->Option A}{pre:A->Prop}{re:A->D}{args:List AV}{tm:List (Nat×AV)}{h:Qan}{nx:Nat}{dst:Option Nat}{go:AGo}{cl:List (List Nat)}{i:Nat}{acc:List Fp}(ps:List PK)(hps:pkL (hget h) args=some (ps,[]))(a:A)(ha:ar ps=some a)(hpre:pre a)(hq:Qaey acc=true)
 (hgo: ∀u,go (⟨i,u,[],nx,0⟩::acc) ((⟨tm,h,nx⟩:Qad).put dst (.im (re a)))):vrow ar pre re args (hget h) nx (Qak5 cl i acc go ⟨tm,h,nx⟩ dst):=by
 unfold vrow;rw[hps];simp only[Qa1,ha,decK,frE];refine⟨hpre,?_,?_,?_⟩
 .rw[Eff.ok_nr];simp[AV.bel,belH,Qpx]
 .exact Qadq _ _ _ _ hq
 .rw[Qad.app_nr,Qba,ZcE];exact hgo _
theorem vF.callA{A:Type}{ar:List PK->Option A}{pre:A->Prop}{re:A->D}{args:List AV}{tm:List (Nat×AV)}{h:Qan}{nx:Nat}{dst:Option Nat}{go:AGo}{cl:List (List Nat)}{i:Nat}{acc:List Fp}(ps:List PK)(hps:pkFL (hget h) args=some ps)(a:A)(ha:ar ps=some a)(hpre:pre a)(hq:Qaey acc=true)
 (hgo: ∀u,go (⟨i,u,[],nx,0⟩::acc) ((⟨tm,h,nx⟩:Qad).put dst (.im (re a)))):Qfi ar pre re args (hget h) nx (Qak5 cl i acc go ⟨tm,h,nx⟩ dst):=by
 unfold Qfi;rw[hps];simp only[Qct,ha,decK];refine⟨hpre,?_,?_,?_⟩
 .rw[Eff.ok_nr];simp[AV.bel,belH,Qpx]
 .exact Qadq _ _ _ _ hq
 .rw[Qad.app_nr,Qba,ZcE];exact hgo _
theorem mkSy_call{N nx:Nat}{tm:List (Nat×AV)}{h:Qan}{dst:Option Nat}{go:Qad->Prop}{s:Qar}{k:Int}(hB:SysB s)(hk:0<=k)(hk2:k<=1048576)(hS:Qad1 (hget h) (N+7) (N+9) (N+2000012) (N+10) s)(hnx:N+2000013<=nx)
 (hgo: ∀HH:Qan,(∀m,m<N+7\/N+2000013<=m->hget HH m=hget h m)->go ((⟨tm,HH,nx⟩:Qad).put dst (.im (.int .i64 (syK (s,k)+3*s.Seed.Tiles.length))))):
 mkSy.row [.agg [.own (N+7),.own (N+9),.own (N+2000012),.im (.int .i64 s.Temperature)],.im (.int .i64 k)] (hget h) nx (kont go ⟨tm,h,nx⟩ dst):=by
 have ht:=hB.t;have hn:=Qad0 s.Set.Tiles;have hnt:nT s.Set.Tiles=s.Set.Tiles.length:=by simp only[nT];omega
 obtain⟨τ,hτ⟩: ∃τ:Nat->Nat,τ=fun j=>if j=2000000 then N+2000012 else if j=0 then N+7 else N+8+j:=⟨_,rfl⟩
 have t0:τ 0=N+7:=by rw[hτ];rfl
 have t1:τ 1=N+9:=by rw[hτ];rfl
 have t2: ∀j,j<1048576->τ (2+j)=N+10+j:=fun j hj=>by rw[hτ];simp only;rw[Zai (by omega),Zai (by omega)];omega
 have tp:τ 2000000=N+2000012:=by rw[hτ];exact Zao rfl
 have hσ: ∀j,j<2000001->sgx τ 2000001 nx j=τ j:=fun j hj=>Zao hj
 have d0: ∀j,domB (mkSy.H0 (s,k)) j=true->j=2000000\/j<2+s.Set.Tiles.length:=fun j hj=>by
  have:=(mkSy.dom0 _ _).1 hj
  simp only[hnt] at this;exact this
 have rg: ∀j,domB (mkSy.H0 (s,k)) j=true->N+7<=τ j/\τ j<N+2000013:=fun j hj=>by
  rcases d0 j hj with rfl|hj
  .rw[tp];omega
  .rw[hτ];simp only;rw[Zai (by omega)]
   split<;>omega
 refine orow.tau (s,k) τ (hB.mkp hk hk2) (fun _ _=>rfl) (fun j hj=> ?_) (fun i j hi hj h=> ?_) (mkSy.hcl _) ⟨?_,?_⟩ (by simp[mkSy.r0,AV.nms]) (fun HH _ hH2=> ?_)
 .have h1:=d0 j hj;have h2:=rg j hj;omega
 .have h1:=d0 i hi;have h2:=d0 j hj;have tv: ∀j,(j=2000000/\τ j=N+2000012)\/(j=0/\τ j=N+7)\/(j≠2000000/\j≠0/\τ j=N+8+j):=fun j=>by
   rw[hτ];simp only;split
   .exact .inl ⟨by assumption,rfl⟩
   split
   .exact .inr (.inl ⟨by assumption,rfl⟩)
   .exact .inr (.inr ⟨by assumption,by assumption,rfl⟩)
  have v1:=tv i;have v2:=tv j;omega
 .simp only[mkSy.ca,renL,AV.ren,hσ 0 (by omega),hσ 1 (by omega),hσ 2000000 (by omega),t0,t1,tp]
 .simp only[mkSy.H0,mkTS.H0,syH,Qer,hσ 0 (by omega),hσ 1 (by omega),hσ 2000000 (by omega),t0,t1,tp,AObj.ren];refine⟨hS.p,hS.g,?_,Qadx fun i hi=> ?_⟩
  .rw[hS.t];congr 3;simp only[tlB,tlMR,ZcO,hnt];refine ZbQ fun i hi=> ?_
   have hi:=Zat.1 hi;simp only[Function.comp,tlM,Zdt,ZbA,tlA,renL,AV.ren];rw[hσ _ (by omega),t2 i (by omega)]
  .rw[hnt] at hi;rw[hσ _ (by omega),t2 i (by omega),hS.f i hi];rfl
 exact hgo HH fun m hm=>hH2 m fun j hj=>by have:=rg j hj;omega
theorem mkOC.d0(a:List Opt×Int)(j:Nat)(hj:domB (mkOC.H0 a) j=true):j=0:=by
 simp only[domB,mkOC.H0,hget] at hj;by_cases h:j=0
 .exact h
 .rw[Qao _ _ (fun q=>h q.symm)] at hj;cases hj
theorem mkOC_call{nx o:Nat}{tm:List (Nat×AV)}{h:Qan}{dst:Option Nat}{go:Qad->Prop}{l:List Opt}{k:Int}(hk:0<=k)(hk2:k+3*l.length<=1099511627776)(hS:hget h o=some (true,.arr 74 3 (l.map Opt.c)))(hnx:o<nx)
 (hgo: ∀HH:Qan,(∀j e,hget (mkOC.H1 (l,k)) j=some e->hget HH o=some (e.1,e.2.ren (sgx (fun _=>o) 1 nx)))->(∀m,m≠o->hget HH m=hget h m)->go ((⟨tm,HH,nx⟩:Qad).put dst (.im (.int .i64 (k+3*l.length))))):
 mkOC.row [.own o,.im (.int .i64 k)] (hget h) nx (kont go ⟨tm,h,nx⟩ dst):=by
 refine orow.tau (l,k) (fun _=>o) ⟨hk,hk2⟩ (fun j hj=>by rw[mkOC.d0 _ j hj];rfl) (fun j hj=>⟨by rw[mkOC.d0 _ j hj];omega,hnx⟩) (fun i j hi hj _=>by rw[mkOC.d0 _ i hi,mkOC.d0 _ j hj]) (fun p hp=> ?_) ⟨rfl,hS,trivial⟩ (by simp[AV.nms]) (fun HH hH1 hH2=>hgo HH hH1 fun m hm=>hH2 m fun j hj h=>hm h.symm);simp only[mkOC.H1,Zan] at hp;subst hp;exact⟨rfl,fun m hm=>by simp[AObj.nms] at hm⟩
theorem mkIC.d0(a:List Int×Int)(j:Nat)(hj:domB (mkIC.H0 a) j=true):j=0:=by
 simp only[domB,mkIC.H0,hget] at hj;by_cases h:j=0
 .exact h
 .rw[Qao _ _ (fun q=>h q.symm)] at hj;cases hj
theorem mkIC_call{nx o:Nat}{tm:List (Nat×AV)}{h:Qan}{dst:Option Nat}{go:Qad->Prop}{l:List Int}{k:Int}(hk:0<=k)(hk2:k+l.length<=1099511627776)(hS:hget h o=some (true,.arr 2 1 (l.map intC)))(hnx:o<nx)
 (hgo: ∀HH:Qan,(∀j e,hget (mkIC.H1 (l,k)) j=some e->hget HH o=some (e.1,e.2.ren (sgx (fun _=>o) 1 nx)))->(∀m,m≠o->hget HH m=hget h m)->go ((⟨tm,HH,nx⟩:Qad).put dst (.im (.int .i64 (k+l.length))))):
 mkIC.row [.own o,.im (.int .i64 k)] (hget h) nx (kont go ⟨tm,h,nx⟩ dst):=by
 refine orow.tau (l,k) (fun _=>o) ⟨hk,hk2⟩ (fun j hj=>by rw[mkIC.d0 _ j hj];rfl) (fun j hj=>⟨by rw[mkIC.d0 _ j hj];omega,hnx⟩) (fun i j hi hj _=>by rw[mkIC.d0 _ i hi,mkIC.d0 _ j hj]) (fun p hp=> ?_) ⟨rfl,hS,trivial⟩ (by simp[AV.nms]) (fun HH hH1 hH2=>hgo HH hH1 fun m hm=>hH2 m fun j hj h=>hm h.symm);simp only[mkIC.H1,Zan] at hp;subst hp;exact⟨rfl,fun m hm=>by simp[AObj.nms] at hm⟩
def needX.pre(a:Pld):Prop:=(∀o∈a.Seq,Qdy o.At)/\a.Inputs.length=a.Seq.length/\a.Seq.length<=500
def totI(M:List (List Int)):Nat:=(M.map List.length).sum
def mkSS.pre(a:List (List Int)×Int):Prop:=a.1.length<=1048576/\0<=a.2/\a.2+totI a.1<=1099511627776
structure NnAt(h:Nat->Option Ent)(o b:Nat)(M:List (List Int)):Prop where
 r:h o=some (true,.arrA 31 1 (Qch b M.length))
 f: ∀i,i<M.length->h (b+i)=some (true,.arr 2 1 ((M[i]?.getD []).map intC))
theorem NnAt.mono{h h':Nat->Option Ent}{o b:Nat}{M:List (List Int)}(hs:NnAt h o b M)(hh: ∀m,(m=o\/(b<=m/\m<b+M.length))->h' m=h m):NnAt h' o b M:=
 ⟨by rw[hh o (.inl rfl)];exact hs.r,fun i hi=>by rw[hh _ (.inr ⟨by omega,by omega⟩)];exact hs.f i hi⟩
theorem NnAt.pk{h:Nat->Option Ent}{o b:Nat}{M:List (List Int)}(hs:NnAt h o b M):pkF h (.own o)=some (.val (.sl false 1 (M.map Qcd))):=by
 have e:mapO (mapO (bk h 8)) (Qch b M.length)=some (M.map Qcd):=by
  have e2:M.map Qcd=(List.range M.length).map fun i=>Qcd (M[i]?.getD []):=by
   apply ZbO;intro i;rw[ZaN,ZaN];by_cases hi:i<M.length
   .rw[Zbo hi,Zad hi];simp[hi]
   .rw[ZaT (by omega),ZaT (by simp;omega)];rfl
  rw[e2];refine Qnl _ fun i hi=> ?_
  have hi:=Zat.1 hi;simp only[mapO,bk,hs.f i hi,Qwz,Qcd]
 simp only[pkF,bk,hs.r,Qwz,e,ZaO,pkFV]
theorem Qan1{A:Type}(f:Nat->A)(n:Nat):(wrE f n).length=n:=by simp[wrE]
def Qahw(l:List Opt)(k:Int):Int:=if l=wrE (oF k) l.length then k+3*l.length else -1
theorem heldO_mk(k:Int)(n:Nat):Qahw (wrE (oF k) n) k=k+3*n:=by
 simp only[Qahw,Qan1,Zbd]
theorem Qaod{A:Type}(f:Nat->A)(n:Nat):wrE f (n+1)=wrE f n++[f n]:=by simp[wrE,Zds]
theorem wrE_get{A:Type}{f:Nat->A}{n i:Nat}(h:i<n):(wrE f n)[i]? =some (f i):=by simp only[wrE,ZaN];rw[Zbo h];rfl
def heldO_.fv(a:(List Opt)×Int):Int:=(Qahw) (a.1) (a.2)
def heldO_.row:Row:=vKF (b2 (qS Opt.d_le Opt.c_n) qI) rI (fun a=>0<=a.2/\a.2+3*a.1.length<=1099511627776) heldO_.fv
theorem heldO_.ok:Qas Tryz.prog 18 heldO_.row:=by
 refine vwF tN Tryz.func18 rfl (by kernel_rfl) ?_;intro a hpre;simp only[Tryz.f18,Option.getD];simp(maxSteps:=9^9)(disch:=omega)only[ZZ,simprocAttr,rch,heldO_.fv,ORC,D.sc,D.scs,scL,decD];obtain⟨l,k⟩:=a;simp only at hpre⊢;obtain⟨h1,h2⟩:=hpre;refine Qay.old ⟨{i:Nat//i<=l.length/\l.take i=wrE (oF k) i},fun i=>⟨[(5,.im (.int .i64 i.1)),(4,.im (.int .i64 0)),(1,.im (.int .i64 (k+3*i.1))),(0,.im (.sl false 3 (l.map Opt.c)))],[],0⟩,fun i=>l.length - i.1,fun i=>⟨by simp[Qad.good,belT,belH,Qam,AV.bel,belL],by simp⟩,⟨⟨0,by simp[wrE]⟩,by simp(maxSteps:=9^9)(disch:=omega)only[ZZ,simprocAttr,rch,heldO_.fv,ORC,D.sc,D.scs,scL,decD,sub];simp⟩,fun i=> ?_⟩;obtain⟨i,hi1,hi2⟩:=i;simp(maxSteps:=9^9)(disch:=omega)only[ZZ,simprocAttr,rch,heldO_.fv,ORC,D.sc,D.scs,scL,decD,sub,Qal];intro _;have w1:IntKind.i64.wrap (k+3*(i:Int)+1)=k+3*(i:Int)+1\/ ¬i<l.length:=by
  by_cases c:i<l.length
  .exact .inl (Qak (by omega) (by omega))
  .exact .inr c
 refine⟨fun hi=>⟨hi,fun x hx=> ?_⟩,fun hi=> ?_⟩
 .have w1:IntKind.i64.wrap (k+3*(i:Int)+1)=k+3*(i:Int)+1:=Qak (by omega) (by omega);have w2:IntKind.i64.wrap (k+3*(i:Int)+1+1)=k+3*(i:Int)+2:=(Qak (by omega) (by omega)).trans (by omega);have w3:IntKind.i64.wrap (k+3*(i:Int)+2+1)=k+3*((i+1:Nat):Int):=(Qak (by omega) (by omega)).trans (by omega);simp only[w1,w2,w3];have hne:x≠oF k i-> -1=Qahw l k:=fun c=>by
   simp only[Qahw];rw[Zai fun h=> ?_];rw[h,wrE_get hi] at hx;exact c (Zaa hx).symm
  refine⟨fun c=>hne fun h=>c (by rw[h];rfl),fun c1=>⟨hi,fun y hy=> ?_⟩⟩;obtain rfl:x=y:=Zaa (hx.symm.trans hy);refine⟨fun c=>hne fun h=>c (by rw[h];rfl),fun c2=>⟨hi,fun y hy=> ?_⟩⟩;obtain rfl:x=y:=Zaa (hx.symm.trans hy);refine⟨fun c=>hne fun h=>c (by rw[h];rfl),fun c3=>⟨⟨i+1,by omega,?_⟩,by simp only;omega,by rw[Qak (by omega) (by omega)];simp only;omega,rfl⟩⟩;have e:x=oF k i:=by
   obtain⟨⟨u,v⟩,t⟩:=x;simp only[Zbm] at c1 c2 c3;simp only[oF,c1,c2,c3]
  rw[Qwe hx,hi2,Qaod,e]
 .have hil:i=l.length:=by omega
  subst hil;rw[ZbI] at hi2;simp only[Qahw];rw[Zao hi2]
def totO(M:List (List Opt)):Nat:=(M.map List.length).sum
def mkOO.pre(a:List (List Opt)×Int):Prop:=a.1.length<=1048576/\0<=a.2/\a.2+3*totO a.1<=1099511627776
def Qanz(l:List Qab)(k:Int):Int:=if l=wrE (pF k) l.length then k+3*l.length else -1
theorem heldP_mk(k:Int)(n:Nat):Qanz (wrE (pF k) n) k=k+3*n:=by
 simp only[Qanz,Qan1,Zbd]
def heldP_.fv(a:(List Qab)×Int):Int:=(Qanz) (a.1) (a.2)
def heldP_.row:Row:=vKF (b2 (qS Qab.d_le Qab.c_n) qI) rI (fun a=>0<=a.2/\a.2+3*a.1.length<=1099511627776) heldP_.fv
def heldP_.q:=vKFq (R:=heldP_.row) rfl
theorem heldP_.ok:Qas Tryz.prog 37 heldP_.row:=by
 refine vwF tN Tryz.func37 rfl (by kernel_rfl) ?_;intro a hpre;simp only[Tryz.f37,Option.getD];simp(maxSteps:=9^9)(disch:=omega)only[ZZ,simprocAttr,rch,heldP_.fv,ORC,D.sc,D.scs,scL,decD];obtain⟨l,k⟩:=a;simp only at hpre⊢;obtain⟨h1,h2⟩:=hpre;refine Qay.old ⟨{i:Nat//i<=l.length/\l.take i=wrE (pF k) i},fun i=>⟨[(5,.im (.int .i64 i.1)),(4,.im (.int .i64 0)),(1,.im (.int .i64 (k+3*i.1))),(0,.im (.sl false 3 (l.map Qab.c)))],[],0⟩,fun i=>l.length - i.1,fun i=>⟨by simp[Qad.good,belT,belH,Qam,AV.bel,belL],by simp⟩,⟨⟨0,by simp[wrE]⟩,by simp(maxSteps:=9^9)(disch:=omega)only[ZZ,simprocAttr,rch,heldP_.fv,ORC,D.sc,D.scs,scL,decD,sub];simp⟩,fun i=> ?_⟩;obtain⟨i,hi1,hi2⟩:=i;simp(maxSteps:=9^9)(disch:=omega)only[ZZ,simprocAttr,rch,heldP_.fv,ORC,D.sc,D.scs,scL,decD,sub,Qal];intro _;refine⟨fun hi=>⟨hi,fun x hx=> ?_⟩,fun hi=> ?_⟩
 .have w1:IntKind.i64.wrap (k+3*(i:Int)+1)=k+3*(i:Int)+1:=Qak (by omega) (by omega);have w2:IntKind.i64.wrap (k+3*(i:Int)+1+1)=k+3*(i:Int)+2:=(Qak (by omega) (by omega)).trans (by omega);have w3:IntKind.i64.wrap (k+3*(i:Int)+2+1)=k+3*((i+1:Nat):Int):=(Qak (by omega) (by omega)).trans (by omega);simp only[w1,w2,w3];have hne:x≠pF k i-> -1=Qanz l k:=fun c=>by
   simp only[Qanz];rw[Zai fun h=> ?_];rw[h,wrE_get hi] at hx;exact c (Zaa hx).symm
  refine⟨fun c=>hne fun h=>c (by rw[h];rfl),fun c1=>⟨hi,fun y hy=> ?_⟩⟩;obtain rfl:x=y:=Zaa (hx.symm.trans hy);refine⟨fun c=>hne fun h=>c (by rw[h];rfl),fun c2=>⟨hi,fun y hy=> ?_⟩⟩;obtain rfl:x=y:=Zaa (hx.symm.trans hy);refine⟨fun c=>hne fun h=>c (by rw[h];rfl),fun c3=>⟨⟨i+1,by omega,?_⟩,by simp only;omega,by rw[Qak (by omega) (by omega)];simp only;omega,rfl⟩⟩;have e:x=pF k i:=by
   obtain⟨⟨u,v⟩,t⟩:=x;simp only[Zbm] at c1 c2 c3;simp only[pF,c1,c2,c3]
  rw[Qwe hx,hi2,Qaod,e]
 .have hil:i=l.length:=by omega
  subst hil;rw[ZbI] at hi2;simp only[Qanz];rw[Zao hi2]
theorem heldP_val(x:List Qab)(k:Int):Qanz x k=k+3*x.length\/Qanz x k= -1:=by
 simp only[Qanz];split
 .exact .inl rfl
 .exact .inr rfl
def heldA_.fv(a:Asm×Int):Int:=(fun a k=>Qanz a.Tiles k) (a.1) (a.2)
def heldA_.row:Row:=vKF (b2 (qR Asm.d_le) qI) rI (fun a=>0<=a.2/\a.2+3*a.1.Tiles.length<=1099511627776) heldA_.fv
theorem heldA_.ok:Qas Tryz.prog 19 heldA_.row:=by
 refine vwF (tC heldP_.ok tN) Tryz.func19 rfl (by kernel_rfl) ?_;intro a hpre;simp only[Tryz.f19,Option.getD];simp(maxSteps:=9^9)(disch:=omega)only[ZZ,simprocAttr,rch,heldA_.fv,heldP_.q,heldP_.fv,ORC,D.sc,D.scs,scL,decD];obtain⟨⟨x⟩,k⟩:=a;obtain⟨h1,h2⟩:=hpre;simp only at h1 h2⊢;refine⟨⟨h1,h2⟩,?_⟩;rcases heldP_val x k with h|h
 .rw[Zai (by omega)];trivial
 .rw[Zao (by omega)];exact h.symm
def eqAsmF.fv(a:Asm×Asm):Bool:=(fun a b=>decide (a=b)) (a.1) (a.2)
def eqAsmF.row:Row:=vKF (b2 (qR Asm.d_le) (qR Asm.d_le)) rB (fun a=>True) eqAsmF.fv
theorem eqAsmF.ok:Qas Tryz.prog 11 eqAsmF.row:=by
 refine vwF (tC eqPlacedS.ok tN) Tryz.func11 rfl (by kernel_rfl) ?_;intro a hpre;simp only[Tryz.f11,Option.getD];simp(maxSteps:=9^9)(disch:=omega)only[ZZ,simprocAttr,rch,eqAsmF.fv,eqPlacedS.q,eqPlacedS.fv,ORC,D.sc,D.scs,scL,decD];obtain⟨⟨x⟩,⟨y⟩⟩:=a;simp only[Asm.mk.injEq]
 grind
theorem pkAsm{h:Nat->Option Ent}{n:Nat}{a:Asm}(hn:h n=some (true,.arr 105 3 (a.Tiles.map Qab.c))):pkF h (.agg [.own n])=some (.val (.agg (Asm.c a))):=by
 simp only[pkF,bk,mapO,hn,Qwz,ZaO,pkFV,Asm.c]
theorem asm2R(a b:Asm):a2 (kR Asm.d) (kR Asm.d) [.val (.agg (Asm.c a)),.val (.agg (Asm.c b))]=some (a,b):=by simp only[a2,kR,Asm.d_c,Zbl]
theorem mkAX_call{nx o:Nat}{tm:List (Nat×AV)}{h:Qan}{dst:Option Nat}{go:Qad->Prop}{a:Asm}{k:Int}(hk:0<=k)(hk2:k+3*a.Tiles.length<=1099511627776)(hS:hget h o=some (true,.arr 105 3 (a.Tiles.map Qab.c)))(hnx:o<nx)
 (hgo: ∀HH:Qan,hget HH o=some (true,.arr 105 3 ((wrE (pF k) a.Tiles.length).map Qab.c))->(∀m,m≠o->hget HH m=hget h m)->go ((⟨tm,HH,nx⟩:Qad).put dst (.im (.int .i64 (k+3*a.Tiles.length))))):
 mkAC.row [.agg [.own o],.im (.int .i64 k)] (hget h) nx (kont go ⟨tm,h,nx⟩ dst):=by
 have hd: ∀j,domB (mkAC.H0 (a,k)) j=true->j=0:=fun j hj=>by
  simp only[domB,mkAC.H0,hget] at hj;by_cases h:j=0
  .exact h
  .rw[Qao _ _ (fun q=>h q.symm)] at hj;cases hj
 refine orow.tau (a,k) (fun _=>o) ⟨hk,hk2⟩ (fun j hj=>by rw[hd j hj];rfl) (fun j hj=>⟨by rw[hd j hj];omega,hnx⟩) (fun i j hi hj _=>by rw[hd i hi,hd j hj]) (fun p hp=> ?_) ⟨rfl,hS,trivial⟩ (by simp[AV.nms]) (fun HH hH1 hH2=>hgo HH (hH1 0 _ rfl) fun m hm=>hH2 m fun j hj h=>hm h.symm);simp only[mkAC.H1,Zan] at hp;subst hp;exact⟨rfl,fun m hm=>by simp[AObj.nms] at hm⟩
theorem intR1(l:List Int):a1 (kS intD) [.val (.sl false 1 (l.map intC))]=some l:=by simp only[a1,kS,Qb4 Qag4,Zbl]
theorem optkR(l:List Opt)(k:Int):a2 (kS Opt.d) kI [.val (.sl false 3 (l.map Opt.c)),.val (.int .i64 k)]=some (l,k):=by simp only[a2,kS,kI,Opt.d_R,Zbl]
theorem asmkR(a:Asm)(k:Int):a2 (kR Asm.d) kI [.val (.agg (Asm.c a)),.val (.int .i64 k)]=some (a,k):=by simp only[a2,kR,kI,Asm.d_c,Zbl]
def toIR.row:Row:=orR toInt64S.row toIX.row
theorem toIR.ok:Qas Tryz.prog 8 toIR.row:=orR_ok toInt64S.ok toIX.ok
theorem ix_cl(l:List Int): ∀p∈toIX.H1 l,p.1<2/\ ∀m∈p.2.2.nms,m<2:=by
 intro p hp;simp only[toIX.H1,Zan] at hp;subst hp;exact⟨by omega,by simp[AObj.nms]⟩
theorem grX_cl(w:List Opt×Asm×Int): ∀p∈grX w,p.1<20/\ ∀m∈p.2.2.nms,m<20:=by
 intro p hp;simp only[grX,Zas,Zan,Zdl,ZeT] at hp;rcases hp with rfl|rfl
 .exact⟨by omega,by simp[AObj.nms]⟩
 .exact⟨by omega,by simp[AObj.nms]⟩
theorem grR_nm(w:List Opt×Asm×Int): ∀m∈(grR w).nms,m<20:=by simp[grR,AV.nms,nmsL]
theorem grX_sc(w:List Opt×Asm×Int): ∀p∈grX w,p.1<20/\p.2.1=true/\scO p.2.2=true/\ ∀m∈p.2.2.nms,m<20:=by
 intro p hp;simp only[grX,Zas,Zan,Zdl,ZeT] at hp;rcases hp with rfl|rfl
 .exact⟨by omega,rfl,by simp[scO,Opt.c,D.sc],by simp[AObj.nms]⟩
 .exact⟨by omega,rfl,by simp[scO,Qab.c,D.sc],by simp[AObj.nms]⟩
theorem grR_sc(w:List Opt×Asm×Int):scV (grR w)=true/\ ∀m∈(grR w).nms,m<20:=⟨by simp[grR,scV,scVL,D.sc],grR_nm w⟩
theorem pg{H H':Qan}{k m:Nat}{e:Ent}{x:Option Ent}(hG:(k,e)::hdel H [k]=H')(h:k≠m)(g:hget H m=x):hget H' m=x:=by subst hG;exact (Qafq _ _ _ h).trans g
section
variable {A B:Type}{k:AK A}{r:RK B}{pre:A->Prop}{f:A->B}{args:List AV}{tm:List (Nat×AV)}{h:Qan}{nx:Nat}{dst:Option Nat}
theorem vK.call{go:Qad->Prop}(ps:List PK)(hps:pkL (hget h) args=some (ps,[]))(a:A)(ha:k.r ps=some a)(hpre:pre a)(hgo:go ((⟨tm,h,nx⟩:Qad).put dst (.im (r.e (f a))))):vK k r pre f args (hget h) nx (kont go ⟨tm,h,nx⟩ dst):=vN.call ps hps a ha hpre hgo
theorem vKF.call{go:Qad->Prop}(ps:List PK)(hps:pkFL (hget h) args=some ps)(a:A)(ha:k.r ps=some a)(hpre:pre a)(hgo:go ((⟨tm,h,nx⟩:Qad).put dst (.im (r.e (f a))))):vKF k r pre f args (hget h) nx (kont go ⟨tm,h,nx⟩ dst):=vF.call ps hps a ha hpre hgo
theorem vK.callA{go:AGo}{cl:List (List Nat)}{i:Nat}{acc:List Fp}(ps:List PK)(hps:pkL (hget h) args=some (ps,[]))(a:A)(ha:k.r ps=some a)(hpre:pre a)(hq:Qaey acc=true)(hgo: ∀u,go (⟨i,u,[],nx,0⟩::acc) ((⟨tm,h,nx⟩:Qad).put dst (.im (r.e (f a))))):vK k r pre f args (hget h) nx (Qak5 cl i acc go ⟨tm,h,nx⟩ dst):=vN.callA ps hps a ha hpre hq hgo
theorem vKF.callA{go:AGo}{cl:List (List Nat)}{i:Nat}{acc:List Fp}(ps:List PK)(hps:pkFL (hget h) args=some ps)(a:A)(ha:k.r ps=some a)(hpre:pre a)(hq:Qaey acc=true)(hgo: ∀u,go (⟨i,u,[],nx,0⟩::acc) ((⟨tm,h,nx⟩:Qad).put dst (.im (r.e (f a))))):vKF k r pre f args (hget h) nx (Qak5 cl i acc go ⟨tm,h,nx⟩ dst):=vF.callA ps hps a ha hpre hq hgo
end
theorem pk3g{h:Nat->Option Ent}{x y z:AV}{p q r:PK}(hx:pkF h x=some p)(hy:pkF h y=some q)(hz:pkF h z=some r):pkFL h [x,y,z]=some [p,q,r]:=by simp only[pkFL,hx,hy,hz,Qabo]
theorem Qaof(s:Qar)(l:List Int)(n:Int):a3 (kR Qar.d) (kS intD) kI [.val (.agg (Qar.c s)),.val (.sl false 1 (l.map intC)),.val (.int .i64 n)]=some (s,l,n):=by simp only[a3,kR,kS,kI,Qar.d_c,Qb4 Qag4,Zbl]
def grsV.ar:List PK->Option (Qar×List Int×Int):=a3 (kR Qar.d) (kS intD) kI
def grsV.row:Row:=Qaex grsV.ar (fun a=>Qf6 a.1.Set) (fun a=>grR (gwN a.1 a.2.1 a.2.2)) grsI.H1 20
theorem grsV.ok:Qas Tryz.prog 21 grsV.row:=
 Qagv (A:=Qar×List Int×Int) (ca:=fun (a:Qar×List Int×Int)=>[D.agg (Qar.c a.1),D.sl false 1 (a.2.1.map intC),D.int .i64 a.2.2]) (by kernel_rfl) grsI.ok (fun _=>rfl) (a3_le (kR_le Qar.d_le) (kS_le 1 Qb3 (fun _=>rfl)) kI_le) (fun _=>grR_sc _) (fun _=>grX_sc _)
theorem gn_len(s:Qar)(l:List Int)(n:Int):(gwN s l n).1.length<=500/\(gwN s l n).2.1.Tiles.length<=500:=by
 simp only[gwN];split
 .simp
 rename_i c1;split
 .simp
 rename_i c2;have c3:0<=n/\n<=500:=by
  have: ¬Qau n 0 500=false:=fun h=>c2 (.inr h)
  simpa[Qau] using this
 have:=grw_len s l n.toNat s.Seed [] (sch_le (by simpa using c1))
 simp only[Zbz] at this;exact⟨by omega,this.2⟩
def lawGS.rc:D->Option (Bool):=Qa8
def lawGS.re:Bool->D:=D.bool
theorem lawGS.rle: ∀d b,lawGS.rc d=some b->Le d (lawGS.re b):=Qat
def lawGS.ar:List PK->Option (Qar×(List Int)×Int):=a3 (kR Qar.d) (kS intD) kI
def lawGS.fv(a:Qar×(List Int)×Int):Bool:=(fun _ _ _=>true) (a.1) (a.2.1) (a.2.2)
def lawGS.row:Row:=vK (b3 (qR Qar.d_le) (qS Qb3 Qant) qI) (RK.mk lawGS.rc lawGS.re lawGS.rle) (fun a=>nmOk a.1.Set) lawGS.fv
def lawGS.q:=vKq (R:=lawGS.row) rfl
def YaT:=J @lawGS.fv.eq_1<|J @lawGS.rc.eq_1<|J @szSystem.q<|J @szSystem.fv.eq_1<|J @GrwNS_.q @GrwNS_.fv.eq_1
theorem lawGS.ok:Qas Tryz.prog 4 lawGS.row:=by
 refine vw (tC szSystem.ok (tC toYR.ok (tC toIR.ok (tC GrwNS_.ok (tC grsV.ok (tC eqOptionSF.ok (tC eqAsmF.ok (tC eqSystemF.ok (tC eqInt64SF.ok (tC mkSy.ok (tC mkIC.ok (tC mkOC.ok (tC mkAC.ok (tC heldO_.ok (tC heldA_.ok tN))))))))))))))) Tryz.func4 rfl (by kernel_rfl) ?_;intro a hpre;simp only[Tryz.f4,Option.getD];simp(maxSteps:=9^9)(disch:=omega)only[ZZ,simprocAttr,rch,YaT];obtain⟨s,l,n⟩:=a;simp only at hpre⊢;intro _;split
 .trivial
 rename_i c2;refine⟨hpre,?_⟩;split
 .trivial
 rename_i c0;have hB:=szSys_B (s:=s) (l:=1048576) (by decide) (by decide) (by omega);have h1:=szSys_sm (s:=s) (l:=1048576) (by decide) (by decide) (by omega);have hl:l.length<=1048576:=by omega
 have hl2:l.length<=1073741824:=by omega
 refine .inl (vK.call [.val (.agg (Qar.c s))] rfl s (sysR1 s) h1 ?_);simp(maxSteps:=9^9)(disch:=omega)only[ZZ,simprocAttr,rch,YaT,sub,Qba,toSystem.fv];refine .inl (vK.call [.val (.sl false 1 (l.map intC))] rfl l (intR1 l) hl2 ?_);simp(maxSteps:=9^9)(disch:=omega)only[ZZ,simprocAttr,rch,YaT,sub,Qba,toInt64S.fv];obtain⟨w,hw⟩: ∃w,w=gwN s l n:=⟨_,rfl⟩;have hwl:=gn_len s l n;obtain⟨w0,w1,w2⟩:=w;simp only[<-hw] at hwl⊢;refine .inr (orow.nw s hB.yx rfl rfl (yx_cl hB) (by simp[toYX.r0,AV.nms,nmsL]) fun HH hH1 hH2=> ?_);have S0:Qad1 (hget HH) 9 11 2000014 12 s:=yx_at hB hH1;have k0:hget HH 0=some (true,.cells 30 [AV.im (D.sl false 2 (List.map Glue.c s.Set.Glues)),AV.im (D.sl false 2 (List.map Tile.c s.Set.Tiles)),AV.im (D.sl false 3 (List.map Qab.c s.Seed.Tiles)),AV.im (D.int IntKind.i64 s.Temperature)]):=hH2 0 (by omega);have k1:hget HH 1=some (true,.cells 36 [AV.im (D.sl false 3 (List.map Qab.c w1.Tiles))]):=hH2 1 (by omega);clear hH1 hH2;simp only[toYX.r0,AV.ren,renL];simp(maxSteps:=9^9)(disch:=omega)only[ZZ,simprocAttr,rch,YaT,sub,Qba,k0,k1];refine .inr (orow.nw l hl2 rfl rfl (ix_cl l) (by simp[AV.nms]) fun HH2 hH1 hH2=> ?_);have k0:hget HH2 0=_:=((hH2 0 (by omega)).trans (Qafq _ _ _ (by omega))).trans k0;have k1:hget HH2 1=_:=((hH2 1 (by omega)).trans (Qafq _ _ _ (by omega))).trans k1;have S1:Qad1 (hget HH2) 9 11 2000014 12 s:=S0.mono fun m hm=>by
  exact (hH2 m (by have:=hB.t;omega)).trans (Qafq _ _ _ (by have:=hB.t;omega))
 have g8:hget HH2 2000015=some (true,.cells 44 [.own 9,.own 11,.own 2000014,.im (.int .i64 s.Temperature)]):=hH2 _ (by omega);have g9:hget HH2 2000017=some (true,.arr 2 1 (l.map intC)):=hH1 1 _ rfl;clear hH1 hH2 S0;simp only[AV.ren];simp(maxSteps:=9^9)(disch:=omega)only[ZZ,simprocAttr,rch,YaT,sub,Qba,k0,k1,g8,g9];refine Qaex.nw [.val (.agg (Qar.c s)),.val (.sl false 1 (l.map intC)),.val (.int .i64 n)] (pk3g S1.pk (Qae3 g9) rfl) (s,l,n) (Qaof s l n) hpre (grX_cl _) (grR_nm _) fun HH3 hH1 hH2=> ?_
 simp only[<-hw,grsI.H1] at hH1⊢;have S2:Qad1 (hget HH3) 9 11 2000014 12 s:=S1.mono fun m hm=>hH2 m (by have:=hB.t;omega)
 have k0:hget HH3 0=_:=(hH2 0 (by omega)).trans k0;have k1:hget HH3 1=_:=(hH2 1 (by omega)).trans k1;have g8:hget HH3 2000015=_:=(hH2 _ (by omega)).trans g8;have g9:hget HH3 2000017=_:=(hH2 _ (by omega)).trans g9;have gg:hget HH3 2000018=some (true,.arr 74 3 (w0.map Opt.c)):=hH1 0 _ rfl;have gp:hget HH3 2000019=some (true,.arr 105 3 (w1.Tiles.map Qab.c)):=hH1 1 _ rfl;clear hH1 hH2 S1;simp only[grR,AV.ren,renL];simp(maxSteps:=9^9)(disch:=omega)only[ZZ,simprocAttr,rch,YaT,sub,Qba,k0,k1,g8,g9,gg,gp];generalize hG:((2000038,(true,AObj.cells 36 [AV.own 2000019]))::hdel HH3 [2000038]:Qan)=H3;have S2:Qad1 (hget H3) 9 11 2000014 12 s:=S2.mono fun m hm=>by rw[<-hG];exact Qafq _ _ _ (by have:=hB.t;omega)
 have k0:=pg hG (by omega) k0;have k1:=pg hG (by omega) k1;have g8:=pg hG (by omega) g8;have g9:=pg hG (by omega) g9;have gg:=pg hG (by omega) gg;have gp:=pg hG (by omega) gp;have ga:hget H3 2000038=some (true,.cells 36 [.own 2000019]):=by rw[<-hG];rfl
 clear hG;refine vKF.call [_,_] (pk2 (Qae3 gg) rfl) (w0,w0) (opt2R _ _) trivial ?_;simp(maxSteps:=9^9)(disch:=omega)only[ZZ,simprocAttr,rch,YaT,sub,Qba,k0,k1,g8,g9,gg,gp,ga,eqOptionSF.fv,Zdb];refine vKF.call [_,_] (pk2 (pkAsm gp) rfl) (w1,w1) (asm2R _ _) trivial ?_;simp(maxSteps:=9^9)(disch:=omega)only[ZZ,simprocAttr,rch,YaT,sub,Qba,k0,k1,g8,g9,gg,gp,ga,eqAsmF.fv,Zdb];refine .inl (vK.callA [.val (.agg (Qar.c s))] rfl s (sysR1 s) h1 rfl fun u=> ?_);simp(maxSteps:=9^9)(disch:=omega)only[ZZ,simprocAttr,rch,YaT,sub,Qba,k0,k1,g8,g9,gg,gp,ga,toSystem.fv];refine vKF.callA [_,_] (pk2 S2.pk rfl) (s,s) (sys2R _ _) trivial rfl fun u2=> ?_
 simp(maxSteps:=9^9)(disch:=omega)only[ZZ,simprocAttr,rch,YaT,sub,Qba,k0,k1,g8,g9,gg,gp,ga,eqSystemF.fv,Zdb];refine .inl (vK.call [.val (.sl false 1 (l.map intC))] rfl l (intR1 l) hl2 ?_);simp(maxSteps:=9^9)(disch:=omega)only[ZZ,simprocAttr,rch,YaT,sub,Qba,k0,k1,g8,g9,gg,gp,ga,toInt64S.fv];refine vKF.call [_,_] (pk2 (Qae3 g9) rfl) (l,l) (int2R _ _) trivial ?_;simp(maxSteps:=9^9)(disch:=omega)only[ZZ,simprocAttr,rch,YaT,sub,Qba,k0,k1,g8,g9,gg,gp,ga,eqInt64SF.fv,Zdb];refine mkSy_call (N:=2) hB (by decide) (by decide) S2 (by omega) fun HH4 hk4=> ?_
 have k0:hget HH4 0=_:=(hk4 0 (by omega)).trans k0;have k1:hget HH4 1=_:=(hk4 1 (by omega)).trans k1;have g9:hget HH4 2000017=_:=(hk4 _ (by omega)).trans g9;have gg:hget HH4 2000018=_:=(hk4 _ (by omega)).trans gg;have gp:hget HH4 2000019=_:=(hk4 _ (by omega)).trans gp;have ga:hget HH4 2000038=_:=(hk4 _ (by omega)).trans ga;obtain⟨y1,y2⟩:=hB.syK (k:=1) (by decide) (by decide);obtain⟨m1,hm1⟩: ∃m1,m1=syK (s,1)+3*s.Seed.Tiles.length:=⟨_,rfl⟩;rw[<-hm1] at y2;have y3:0<=m1:=by omega
 simp only[<-hm1];clear hk4 S2 g8 y1 hm1;simp(maxSteps:=9^9)(disch:=omega)only[ZZ,simprocAttr,rch,YaT,sub,Qba,k0,k1,g9,gg,gp,ga];refine mkIC_call y3 (by omega) g9 (by omega) fun HH5 _ hk5=> ?_
 have k0:hget HH5 0=_:=(hk5 0 (by omega)).trans k0;have k1:hget HH5 1=_:=(hk5 1 (by omega)).trans k1;have gg:hget HH5 2000018=_:=(hk5 _ (by omega)).trans gg;have gp:hget HH5 2000019=_:=(hk5 _ (by omega)).trans gp;have ga:hget HH5 2000038=_:=(hk5 _ (by omega)).trans ga;clear hk5 g9;simp(maxSteps:=9^9)(disch:=omega)only[ZZ,simprocAttr,rch,YaT,sub,Qba,k0,k1,gg,gp,ga];rw[Zao (by omega)];refine vKF.call [_,_] (pk2 (Qae3 gg) rfl) (w0,w0) (opt2R _ _) trivial ?_;simp(maxSteps:=9^9)(disch:=omega)only[ZZ,simprocAttr,rch,YaT,sub,Qba,k0,k1,gg,gp,ga,eqOptionSF.fv,Zdb];refine vKF.call [_,_] (pk2 (pkAsm gp) rfl) (w1,w1) (asm2R _ _) trivial ?_;simp(maxSteps:=9^9)(disch:=omega)only[ZZ,simprocAttr,rch,YaT,sub,Qba,k0,k1,gg,gp,ga,eqAsmF.fv,Zdb];refine mkOC_call (by decide) (by omega) gg (by omega) fun HH6 hj6 hk6=> ?_
 have k0:hget HH6 0=_:=(hk6 0 (by omega)).trans k0;have k1:hget HH6 1=_:=(hk6 1 (by omega)).trans k1;have gg:hget HH6 2000018=some (true,.arr 74 3 ((wrE (oF 1) w0.length).map Opt.c)):=hj6 0 _ rfl;have gp:hget HH6 2000019=_:=(hk6 _ (by omega)).trans gp;have ga:hget HH6 2000038=_:=(hk6 _ (by omega)).trans ga;clear hj6 hk6;simp(maxSteps:=9^9)(disch:=omega)only[ZZ,simprocAttr,rch,YaT,sub,Qba,k0,k1,gg,gp,ga];refine mkAX_call (by omega) (by omega) gp (by omega) fun HH7 gp hk7=> ?_
 have k0:hget HH7 0=_:=(hk7 0 (by omega)).trans k0;have k1:hget HH7 1=_:=(hk7 1 (by omega)).trans k1;have gg:hget HH7 2000018=_:=(hk7 _ (by omega)).trans gg;have ga:hget HH7 2000038=_:=(hk7 _ (by omega)).trans ga;clear hk7;simp(maxSteps:=9^9)(disch:=omega)only[ZZ,simprocAttr,rch,YaT,sub,Qba,k0,k1,gg,gp,ga];have hho:(0:Int)<=1/\(1:Int)+3*(wrE (oF 1) w0.length).length<=1099511627776:=by rw[Qan1];omega
 have hro:heldO_.fv (wrE (oF 1) w0.length,1)=1+3*w0.length:=heldO_mk 1 w0.length;have hha:(0:Int)<=1+3*w0.length/\(1:Int)+3*w0.length+3*(wrE (pF (1+3*w0.length)) w1.Tiles.length).length<=1099511627776:=by rw[Qan1];omega
 have hra:heldA_.fv (⟨wrE (pF (1+3*w0.length)) w1.Tiles.length⟩,1+3*w0.length)=1+3*w0.length+3*w1.Tiles.length:=heldP_mk _ _;refine vKF.call [_,_] (pk2 (Qae3 gg) rfl) (wrE (oF 1) w0.length,1) (optkR _ _) hho ?_;simp only[hro];simp(maxSteps:=9^9)(disch:=omega)only[ZZ,simprocAttr,rch,YaT,sub,Qba,k0,k1,gg,gp,ga];rw[Zai (by omega)];refine vKF.call [_,_] (pk2 (pkAsm (a:=⟨wrE (pF (1+3*w0.length)) w1.Tiles.length⟩) gp) rfl) (⟨wrE (pF (1+3*w0.length)) w1.Tiles.length⟩,1+3*w0.length) (asmkR _ _) hha ?_;simp only[hra];simp(maxSteps:=9^9)(disch:=omega)only[ZZ,simprocAttr,rch,YaT,sub,Qba,k0,k1,gg,gp,ga];rw[Zai (by omega)];refine .inl (vK.call [.val (.agg (Qar.c s))] rfl s (sysR1 s) h1 ?_);simp(maxSteps:=9^9)(disch:=omega)only[ZZ,simprocAttr,rch,YaT,sub,Qba,k0,k1,gg,gp,ga,toSystem.fv];refine .inl (vK.call [.val (.sl false 1 (l.map intC))] rfl l (intR1 l) hl2 ?_);simp(maxSteps:=9^9)(disch:=omega)only[ZZ,simprocAttr,rch,YaT,sub,Qba,k0,k1,gg,gp,ga,toInt64S.fv];refine Qaex.nw [.val (.agg (Qar.c s)),.val (.sl false 1 (l.map intC)),.val (.int .i64 n)] rfl (s,l,n) (Qaof s l n) hpre (grX_cl _) (grR_nm _) fun HH8 hH1 hH2=> ?_
 simp only[<-hw,grsI.H1] at hH1⊢;have k1:hget HH8 1=_:=(hH2 1 (by omega)).trans k1;have gg:hget HH8 2000018=_:=(hH2 _ (by omega)).trans gg;have gp:hget HH8 2000019=_:=(hH2 _ (by omega)).trans gp;have ga:hget HH8 2000038=_:=(hH2 _ (by omega)).trans ga;have gh:hget HH8 2000039=some (true,.arr 74 3 (w0.map Opt.c)):=hH1 0 _ rfl;have gq:hget HH8 2000040=some (true,.arr 105 3 (w1.Tiles.map Qab.c)):=hH1 1 _ rfl;clear hH1 hH2 k0;simp only[grR,AV.ren,renL];simp(maxSteps:=9^9)(disch:=omega)only[ZZ,simprocAttr,rch,YaT,sub,Qba,k1,gg,gp,ga,gh,gq];generalize hG:((2000059,(true,AObj.cells 36 [AV.own 2000040]))::hdel HH8 [2000059]:Qan)=H8;have k1:=pg hG (by omega) k1;have gg:=pg hG (by omega) gg;have gp:=pg hG (by omega) gp;have ga:=pg hG (by omega) ga;have gh:=pg hG (by omega) gh;have gq:=pg hG (by omega) gq;have gb:hget H8 2000059=some (true,.cells 36 [.own 2000040]):=by rw[<-hG];rfl
 clear hG;refine vKF.call [_,_] (pk2 (Qae3 gh) rfl) (w0,w0) (opt2R _ _) trivial ?_;simp(maxSteps:=9^9)(disch:=omega)only[ZZ,simprocAttr,rch,YaT,sub,Qba,k1,gg,gp,ga,gh,gq,gb,eqOptionSF.fv,Zdb];refine vKF.call [_,_] (pk2 (pkAsm gq) rfl) (w1,w1) (asm2R _ _) trivial ?_;simp(maxSteps:=9^9)(disch:=omega)only[ZZ,simprocAttr,rch,YaT,sub,Qba,k1,gg,gp,ga,eqAsmF.fv,Zdb];refine vKF.call [_,_] (pk2 (Qae3 gg) rfl) (wrE (oF 1) w0.length,1) (optkR _ _) hho ?_;simp only[hro];simp(maxSteps:=9^9)(disch:=omega)only[ZZ,simprocAttr,rch,YaT,sub,Qba,k1,gg,gp,ga];rw[Zai (by omega)];refine vKF.call [_,_] (pk2 (pkAsm (a:=⟨wrE (pF (1+3*w0.length)) w1.Tiles.length⟩) gp) rfl) (⟨wrE (pF (1+3*w0.length)) w1.Tiles.length⟩,1+3*w0.length) (asmkR _ _) hha ?_;simp only[hra];simp(maxSteps:=9^9)(disch:=omega)only[ZZ,simprocAttr,rch,YaT,sub,Qba,k1,gg,gp,ga];rw[Zai (by omega)];trivial
end Go.Ae
