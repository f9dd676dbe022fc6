/- Lemmas for fnExactLayersOf_holds. Conditions: none. -/
import Derived.Test.YtchhbpkkonklnaaGreatP16
set_option linter.all false
set_option maxHeartbeats 8000000
set_option maxRecDepth 100000
namespace Go.Ae
open Go.Proofs
structure OoAt(h:Nat->Option Ent)(o b:Nat)(M:List (List Opt)):Prop where
 r:h o=some (true,.arrA 46 1 (Qch b M.length))
 f: ∀i,i<M.length->h (b+i)=some (true,.arr 82 3 ((M[i]?.getD []).map Opt.c))
theorem OoAt.mono{h h':Nat->Option Ent}{o b:Nat}{M:List (List Opt)}(hs:OoAt h o b M)(hh: ∀m,(m=o\/(b<=m/\m<b+M.length))->h' m=h m):OoAt h' o b M:=
 ⟨by rw[hh o (.inl rfl)];exact hs.r,fun i hi=>by rw[hh _ (.inr ⟨by omega,by omega⟩)];exact hs.f i hi⟩
theorem OoAt.pk{h:Nat->Option Ent}{o b:Nat}{M:List (List Opt)}(hs:OoAt h o b M):pkF h (.own o)=some (.val (.sl false 1 (M.map Qahr))):=by
 have e:mapO (mapO (bk h 8)) (Qch b M.length)=some (M.map Qahr):=by
  have e2:M.map Qahr=(List.range M.length).map fun i=>Qahr (M[i]?.getD []):=by
   apply ZbU;intro i;rw[ZaG,ZaG];by_cases hi:i<M.length
   .rw[Zbc hi,Zac hi];simp[hi]
   .rw[ZaV (by omega),ZaV (by simp;omega)];rfl
  rw[e2];refine Qnl _ fun i hi=> ?_
  have hi:=Zar.1 hi;simp only[mapO,bk,hs.f i hi,Qwz,Qahr]
 simp only[pkF,bk,hs.r,Qwz,e,ZaM,pkFV]
theorem mkOO_call{nx o b:Nat}{tm:List (Nat×AV)}{h:Qan}{dst:Option Nat}{go:Qad->Prop}{M:List (List Opt)}{k:Int}(hM:M.length<=1048576)(hk:0<=k)(hk2:k+3*totO M<=1099511627776)(hS:OoAt (hget h) o b M)(ho:o<b)(hnx:b+M.length<=nx)
 (hgo: ∀HH:Qan,OoAt (hget HH) o b (mkN M k)->(∀m,m≠o->(m<b\/b+M.length<=m)->hget HH m=hget h m)->go ((⟨tm,HH,nx⟩:Qad).put dst (.im (.int .i64 (k+3*totO M))))):
 mkOO.row [.own o,.im (.int .i64 k)] (hget h) nx (kont go ⟨tm,h,nx⟩ dst):=by
 have hn:nO M=M.length:=by simp only[nO];omega
 obtain⟨τ,hτ⟩: ∃τ:Nat->Nat,τ=fun j=>if j=0 then o else b+(j - 2):=⟨_,rfl⟩
 have t0:τ 0=o:=by rw[hτ];rfl
 have t2: ∀j,τ (2+j)=b+j:=fun j=>by rw[hτ];simp only;rw[Zai (by omega)];omega
 have hσ: ∀j,j<2000000->sgx τ 2000000 nx j=τ j:=fun j hj=>Zaq hj
 have d0: ∀j,domB (mkOO.H0 (M,k)) j=true->j=0\/(2<=j/\j<2+M.length):=fun j hj=>by
  have:=(Qahv _ _ _ _).1 hj
  simpa only[hn] using this
 refine orow.tau (M,k) τ ⟨hM,hk,hk2⟩ (fun _ _=>rfl) (fun j hj=> ?_) (fun i j hi hj h=> ?_) (mkOO.hcl _) ⟨?_,?_⟩ (by simp[mkOO.r0,AV.nms]) (fun HH hH1 hH2=>hgo HH ⟨?_,fun i hi=> ?_⟩ fun m hm hm2=>hH2 m fun j hj=> ?_)
 .rcases d0 j hj with rfl|h1
  .rw[t0];omega
  .obtain⟨i,rfl⟩: ∃i,j=2+i:=⟨j - 2,by omega⟩;rw[t2];omega
 .rcases d0 i hi with rfl|h1<;>rcases d0 j hj with rfl|h2
  .rfl
  .obtain⟨q,rfl⟩: ∃q,j=2+q:=⟨j - 2,by omega⟩;rw[t0,t2] at h;omega
  .obtain⟨q,rfl⟩: ∃q,i=2+q:=⟨i - 2,by omega⟩;rw[t0,t2] at h;omega
  .obtain⟨q,rfl⟩: ∃q,i=2+q:=⟨i - 2,by omega⟩;obtain⟨p,rfl⟩: ∃p,j=2+p:=⟨j - 2,by omega⟩;rw[t2,t2] at h;omega
 .simp only[mkOO.ca,renL,AV.ren,hσ 0 (by omega),t0]
 .simp only[mkOO.H0,ooH,Zat,ZaU,Qer,hσ 0 (by omega),t0,AObj.ren];refine⟨?_,Qadx fun i hi=> ?_⟩
  .rw[hS.r,hn];congr 3;simp only[Qch,Zcq];refine Zbu fun i hi=> ?_
   have hi:=Zar.1 hi;simp only[Function.comp,renL,AV.ren];rw[hσ _ (by omega),t2]
  .rw[hn] at hi;rw[hσ _ (by omega),t2,hS.f i hi];simp[ooN,roO,AObj.ren]
 .have:=hH1 0 _ rfl
  rw[t0] at this;rw[this];simp only[AObj.ren,Qah8];congr 3;simp only[Qch,Zcq,hn];refine Zbu fun i hi=> ?_
  have hi:=Zar.1 hi;simp only[Function.comp,renL,AV.ren];rw[hσ _ (by omega),t2]
 .rw[Qah8] at hi
  have:=hH1 (2+i) _ (ooH_get M k (nO M) i (by omega))
  rw[t2] at this;rw[this];have e:(mkN M k)[i]?.getD []=wrE (oF (ooK M k i)) (roO M i).length:=by simp[mkN,Zbc hi]
  rw[e,hn];simp only[ooN,Zaq hi,AObj.ren]
 .rcases d0 j hj with rfl|h1
  .rw[t0];exact fun h=>hm h.symm
  .obtain⟨i,rfl⟩: ∃i,j=2+i:=⟨j - 2,by omega⟩;rw[t2];omega
theorem oo_at{M:List (List Opt)}(hM:M.length<=500){nx:Nat}{HH:Qan}(h: ∀j e,hget (lyH M) j=some e->hget HH (nx+j)=some (e.1,e.2.ren fun j=>nx+j)):OoAt (hget HH) (nx+5) (nx+1002) M:=by
 have hm:min M.length 500=M.length:=by omega
 refine⟨?_,fun i hi=> ?_⟩
 .rw[h 5 _ rfl];simp only[AObj.ren,hm];congr 3;simp only[Qch,Zcq];refine Zbu fun i hi=> ?_
  simp only[Function.comp,renL,AV.ren];rw[Zcl]
 .have e:hget (lyH M) (1002+i)=some (true,.arr 82 3 ((M[i]?.getD []).map Opt.c)):=by
   simp only[lyH,Zat,ZaU,hget,Qao _ _ (show 5≠1002+i by omega),ZaF,hm];exact Qcy _ _ _ _ hi
  rw[Zcl,h _ _ e];rfl
theorem ly_cl(s:Qar)(l:List Opt): ∀p∈lyI.H1 (s,l),p.1<2002/\ ∀m∈p.2.2.nms,m<2002:=by
 intro p hp;have hm:min (Qahs s l).1.length 500<=500:=Zcd _ _;simp only[lyI.H1,lyH,Zat,ZaU,Zau,famH,famH,Zay,Zar] at hp;rcases hp with rfl|⟨i,hi,rfl⟩
 .refine⟨by omega,fun m hm=> ?_⟩;obtain⟨i,hi,rfl⟩:=Qu6 _ _ m hm;omega
 .exact⟨by simp only;omega,by simp[AObj.nms,lyF]⟩
def lyX.ar:List PK->Option (Qar×List Opt):=a2 (kR Qar.d) (kS Opt.d)
def lyX.row:Row:=Qaex lyX.ar (fun a=>Qf6 a.1.Set) lyI.r0 lyI.H1 2002
theorem lyX.ok:Qas Tryz.prog 34 lyX.row:=
 vrowX_ok (A:=Qar×List Opt) (ca:=fun (a:Qar×List Opt)=>[D.agg (Qar.c a.1),D.sl false 3 (a.2.map Opt.c)]) (by kernel_rfl) lyI.ok (fun _=>rfl) (Qaca (Qab8 Qar.d_le) (Qacb 3 Opt.d_le (fun _=>rfl)))
  (fun a=>by simp[lyI.r0,scV,scVL,D.sc,AV.nms,nmsL])
  (fun a p hp=>by
   obtain⟨h1,h2⟩:=ly_cl a.1 a.2 p hp;obtain⟨_,_,_,h4⟩:=ly_mem hp;refine⟨h1,h4,?_,h2⟩;simp only[lyI.H1,lyH,Zat,ZaU,Zau,famH,famH,Zay,Zar] at hp;rcases hp with rfl|⟨i,hi,rfl⟩
   .simp only[scO,ZaI];intro r hr;obtain⟨j,_,rfl⟩:=Zay.1 hr;simp[scVL,scV]
   .simp[scO,lyF,Opt.c,D.sc])
theorem oo2R(l m:List (List Opt)):a2 (kS Qah0) (kS Qah0) [.val (.sl false 1 (l.map Qahr)),.val (.sl false 1 (m.map Qahr))]=some (l,m):=by simp only[a2,kS,Qah5,Zbt]
theorem ooR(l:List (List Opt))(k:Int):a2 (kS Qah0) kI [.val (.sl false 1 (l.map Qahr)),.val (.int .i64 k)]=some (l,k):=by simp only[a2,kS,kI,Qah5,Zbt]
theorem totO_few(B:Nat)(M:List (List Opt)):(∀x∈M,x.length<=B)->totO M<=M.length*B:=by
 induction M with
 |nil=>intro _;simp[totO]
 |cons y r ih=>
  intro h;have h1:=h y (Zas ..);have h2:=ih fun x hx=>h x (Zap _ hx)
  simp only[totO,Zal,Zcb,ZaJ] at h2⊢;rw[ZbM];omega
theorem laySp_tot(s:Qar)(l:List Opt):totO (Qahs s l).1<=250000:=by
 have h0:=Qaht s l;have h1:=totO_few 500 (Qahs s l).1 fun x hx=>by
  simp only[Qahs] at hx;split at hx
  .simp at hx
  .rename_i c0;obtain⟨_,hp,_⟩:=Qafm (ZaY.1 c0);have hl:=hp.2.2.2.2.2;obtain⟨q,_,rfl⟩:=Zay.1 hx
   have:=Qahy l (levK (Qadm s l) l.length) ((q:Int)+1) l.length
   omega
 have:(Qahs s l).1.length*500<=500*500:=Zbq 500 h0
 omega
def lawLay.ar:List PK->Option (Qar×(List Opt)):=a2 (kR Qar.d) (kS Opt.d)
def lawLay.ae(a:Qar×(List Opt)):List PK:=[.val (.agg (Qar.c a.1)),.val (.sl false 3 (a.2.map Opt.c))]
def lawLay.rc:D->Option (Bool):=Qa8
def lawLay.re:Bool->D:=D.bool
theorem lawLay.rle: ∀d b,lawLay.rc d=some b->Le d (lawLay.re b):=Qat
def lawLay.fv(a:Qar×(List Opt)):Bool:=(fun _ _=>true) (a.1) (a.2)
def lawLay.row:Row:=vrow lawLay.ar (fun a=>nmOk a.1.Set) (fun a=>lawLay.re (lawLay.fv a))
def lawLay.q:=vq lawLay.row rfl
def Ybj:=J @lawLay.ae.eq_1 (J @lawLay.fv.eq_1 (J @lawLay.rc.eq_1 (J @szSystem.q (J @szSystem.ar.eq_1 (J @szSystem.fv.eq_1 (J @szOptionS.q (J @szOptionS.ar.eq_1 (J @szOptionS.fv.eq_1 (J @layS_.q (J @layS_.ar.eq_1 @layS_.fv.eq_1))))))))))
theorem lawLay.ok:Qas Tryz.prog 8 lawLay.row:=by
 refine Qaj Qaq (tC szSystem.ok (tC szOptionS.ok (tC toYR.ok (tC toOR.ok (tC layS_.ok (tC lyX.ok (tC eqOOF.ok (tC eqSystemF.ok (tC eqOptionSF.ok (tC mkSy.ok (tC mkOC.ok (tC mkOO.ok (tC heldOOS.ok tN))))))))))))) Tryz.func8 rfl (by kernel_rfl) (by kernel_rfl) (ar:=lawLay.ar) (ae:=lawLay.ae) (Qaca (Qab8 Qar.d_le) (Qacb 3 Opt.d_le (fun _=>rfl))) (n:=2) (fun _=>rfl) (by decide) (rc:=lawLay.rc) (re:=lawLay.re) lawLay.rle (f:=lawLay.fv) ?_;intro a hpre;simp only[Tryz.f8,Option.getD];simp (maxSteps:=10^7) (disch:=omega) only[ZZ,simprocAttr,rch,Ybj];obtain⟨s,l⟩:=a;simp only at hpre⊢;refine⟨hpre,?_⟩;split
 .trivial
 rename_i c0;have hB:=szSys_B (s:=s) (l:=1048576) (by decide) (by decide) (by omega);have h1:=szSys_sm (s:=s) (l:=1048576) (by decide) (by decide) (by omega);have hb:=szSys_b s 1048576 (by decide);refine⟨⟨by omega,by omega⟩,?_⟩;split
 .trivial
 rename_i c2;obtain⟨b1,_,_⟩:=Qn3 (n:=l.length) (l:=Qlr s 1048576) (by omega);have hl:l.length<=1048576:=by omega
 have hl2:l.length<=1073741824:=by omega
 refine .inl (vN.call [.val (.agg (Qar.c s))] rfl s (sysR1 s) h1 ?_);simp (maxSteps:=10^7) (disch:=omega) only[ZZ,simprocAttr,rch,Ybj,sub,Qba,toSystem.fv];refine .inl (vN.call [.val (.sl false 3 (l.map Opt.c))] rfl l (optR1 l) hl2 ?_);simp (maxSteps:=10^7) (disch:=omega) only[ZZ,simprocAttr,rch,Ybj,sub,Qba,toOptionS.fv];refine .inr (orow.nw s hB.yx rfl rfl (yx_cl hB) (by simp[toYX.r0,AV.nms,nmsL]) fun HH hH1 hH2=> ?_);have S0:Qad1 (hget HH) 8 10 2000013 11 s:=yx_at hB hH1;have g0:hget HH 0=some (true,.cells 30 [AV.im (D.sl false 2 (List.map Glue.c s.Set.Glues)),AV.im (D.sl false 2 (List.map Tile.c s.Set.Tiles)),AV.im (D.sl false 3 (List.map Qab.c s.Seed.Tiles)),AV.im (D.int IntKind.i64 s.Temperature)]):=hH2 0 (by omega);clear hH1 hH2;simp only[toYX.r0,AV.ren,renL];simp (maxSteps:=10^7) (disch:=omega) only[ZZ,simprocAttr,rch,Ybj,sub,Qba,g0];refine .inr (orow.nw l hl2 rfl rfl (ox_cl l) (by simp[AV.nms]) fun HH2 hH1 hH2=> ?_);have k0:hget HH2 0=hget HH 0:=(hH2 0 (by omega)).trans (Qafq _ _ _ (by omega));have S1:Qad1 (hget HH2) 8 10 2000013 11 s:=S0.mono fun m hm=>by
  exact (hH2 m (by have:=hB.t;omega)).trans (Qafq _ _ _ (by have:=hB.t;omega))
 have g8:hget HH2 2000014=some (true,.cells 44 [.own 8,.own 10,.own 2000013,.im (.int .i64 s.Temperature)]):=hH2 _ (by omega);have g9:hget HH2 2000016=some (true,.arr 82 3 (l.map Opt.c)):=hH1 1 _ rfl;rw[g0] at k0;clear hH1 hH2 S0 g0;simp only[AV.ren];simp (maxSteps:=10^7) (disch:=omega) only[ZZ,simprocAttr,rch,Ybj,sub,Qba,k0,g8,g9];refine Qaex.nw [.val (.agg (Qar.c s)),.val (.sl false 3 (l.map Opt.c))] (pk2 S1.pk (pkArr g9)) (s,l) (sysoptR s l) hpre (ly_cl s l) (by simp[lyI.r0,AV.nms,nmsL]) fun HH3 hH1 hH2=> ?_
 have S2:Qad1 (hget HH3) 8 10 2000013 11 s:=S1.mono fun m hm=>hH2 m (by have:=hB.t;omega)
 have k0:hget HH3 0=_:=(hH2 0 (by omega)).trans k0;have g8:hget HH3 2000014=_:=(hH2 _ (by omega)).trans g8;have g9:hget HH3 2000016=_:=(hH2 _ (by omega)).trans g9;have gg:OoAt (hget HH3) 2000022 2001019 (Qahs s l).1:=oo_at (Qaht s l) hH1;clear hH1 hH2 S1;obtain⟨⟨w0,w1⟩,hw⟩: ∃w,w=Qahs s l:=⟨_,rfl⟩;simp only[lyI.r0,AV.ren,renL,<-hw] at gg⊢;simp (maxSteps:=10^7) (disch:=omega) only[ZZ,simprocAttr,rch,Ybj,sub,Qba,k0,g8,g9];refine vF.call [_,_] (pk2 gg.pk rfl) (w0,w0) (oo2R _ _) trivial ?_;simp (maxSteps:=10^7) (disch:=omega) only[ZZ,simprocAttr,rch,Ybj,sub,Qba,k0,g8,g9,eqOOF.fv,Zdu];refine .inl (vN.callA [.val (.agg (Qar.c s))] rfl s (sysR1 s) h1 rfl fun u=> ?_);simp (maxSteps:=10^7) (disch:=omega) only[ZZ,simprocAttr,rch,Ybj,sub,Qba,k0,g8,g9,toSystem.fv];refine vF.callA [_,_] (pk2 S2.pk rfl) (s,s) (sys2R _ _) trivial rfl fun u2=> ?_
 simp (maxSteps:=10^7) (disch:=omega) only[ZZ,simprocAttr,rch,Ybj,sub,Qba,k0,g8,g9,eqSystemF.fv,Zdu];refine .inl (vN.call [.val (.sl false 3 (l.map Opt.c))] rfl l (optR1 l) hl2 ?_);simp (maxSteps:=10^7) (disch:=omega) only[ZZ,simprocAttr,rch,Ybj,sub,Qba,k0,g8,g9,toOptionS.fv];refine vF.call [_,_] (pk2 (pkArr g9) rfl) (l,l) (opt2R _ _) trivial ?_;simp (maxSteps:=10^7) (disch:=omega) only[ZZ,simprocAttr,rch,Ybj,sub,Qba,k0,g8,g9,eqOptionSF.fv,Zdu];refine mkSy_call (N:=1) hB (by decide) (by decide) S2 (by omega) fun HH4 hk4=> ?_
 have k0:hget HH4 0=_:=(hk4 0 (by omega)).trans k0;have g9:hget HH4 2000016=_:=(hk4 _ (by omega)).trans g9;have gg:OoAt (hget HH4) 2000022 2001019 w0:=gg.mono fun m hm=>hk4 m (by have:=Qaht s l;rw[<-hw] at this;simp only at this;omega)
 obtain⟨y1,y2⟩:=hB.syK (k:=1) (by decide) (by decide);obtain⟨m1,hm1⟩: ∃m1,m1=syK (s,1)+3*s.Seed.Tiles.length:=⟨_,rfl⟩;rw[<-hm1] at y2;have y3:0<=m1:=by omega
 simp only[<-hm1];clear hk4 S2 g8 y1 hm1;simp (maxSteps:=10^7) (disch:=omega) only[ZZ,simprocAttr,rch,Ybj,sub,Qba,k0,g9];refine Qagm y3 (by omega) g9 (by omega) fun HH5 _ hk5=> ?_
 have k0:hget HH5 0=_:=(hk5 0 (by omega)).trans k0;have gg:OoAt (hget HH5) 2000022 2001019 w0:=gg.mono fun m hm=>hk5 m (by omega)
 clear hk5 g9;simp (maxSteps:=10^7) (disch:=omega) only[ZZ,simprocAttr,rch,Ybj,sub,Qba,k0];rw[Zaq (by omega)];have hwl:=Qaht s l;have hwt:=laySp_tot s l;rw[<-hw] at hwl hwt;simp only at hwl hwt;refine vF.call [_,_] (pk2 gg.pk rfl) (w0,w0) (oo2R _ _) trivial ?_;simp (maxSteps:=10^7) (disch:=omega) only[ZZ,simprocAttr,rch,Ybj,sub,Qba,k0,eqOOF.fv,Zdu];refine mkOO_call (by omega) (by decide) (by omega) gg (by omega) (by omega) fun HH6 hj6 hk6=> ?_
 have k0:hget HH6 0=_:=(hk6 0 (by omega) (by omega)).trans k0;have gg:=hj6;clear hk6 hj6;simp (maxSteps:=10^7) (disch:=omega) only[ZZ,simprocAttr,rch,Ybj,sub,Qba,k0];have hhp:(0:Int)<=1/\(1:Int)+3*totO (mkN w0 1)<=1099511627776:=by rw[mkN_tot];omega
 have hhr:heldOOS.fv (mkN w0 1,1)=1+3*totO w0:=Qaid w0 1 (by decide);refine vF.call [_,_] (pk2 gg.pk rfl) (mkN w0 1,1) (ooR _ _) hhp ?_;simp only[hhr];simp (maxSteps:=10^7) (disch:=omega) only[ZZ,simprocAttr,rch,Ybj,sub,Qba,k0];rw[Zai (by omega)];refine .inl (vN.call [.val (.agg (Qar.c s))] rfl s (sysR1 s) h1 ?_);simp (maxSteps:=10^7) (disch:=omega) only[ZZ,simprocAttr,rch,Ybj,sub,Qba,k0,toSystem.fv];refine .inl (vN.call [.val (.sl false 3 (l.map Opt.c))] rfl l (optR1 l) hl2 ?_);simp (maxSteps:=10^7) (disch:=omega) only[ZZ,simprocAttr,rch,Ybj,sub,Qba,k0,toOptionS.fv];refine Qaex.nw [.val (.agg (Qar.c s)),.val (.sl false 3 (l.map Opt.c))] rfl (s,l) (sysoptR s l) hpre (ly_cl s l) (by simp[lyI.r0,AV.nms,nmsL]) fun HH7 hj7 hk7=> ?_
 have gg:=gg.mono (h':=hget HH7) fun m hm=>hk7 m (by rw[Qah8] at hm;omega)
 have gh:OoAt (hget HH7) 2002024 2003021 (Qahs s l).1:=oo_at (Qaht s l) hj7;clear hj7 hk7;simp only[lyI.r0,AV.ren,renL,<-hw] at gh⊢;simp (maxSteps:=10^7) (disch:=omega) only[ZZ,simprocAttr,rch,Ybj,sub,Qba];refine vF.call [_,_] (pk2 gh.pk rfl) (w0,w0) (oo2R _ _) trivial ?_;simp (maxSteps:=10^7) (disch:=omega) only[ZZ,simprocAttr,rch,Ybj,sub,Qba,eqOOF.fv,Zdu];refine vF.call [_,_] (pk2 gg.pk rfl) (mkN w0 1,1) (ooR _ _) hhp ?_;simp only[hhr];simp (maxSteps:=10^7) (disch:=omega) only[ZZ,simprocAttr,rch,Ybj,sub,Qba];rw[Zai (by omega)];trivial
end Go.Ae
