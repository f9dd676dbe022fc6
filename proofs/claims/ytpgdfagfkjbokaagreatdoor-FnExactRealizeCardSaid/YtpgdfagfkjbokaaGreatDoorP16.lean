/- Lemmas. Conditions: none. -/
import Derived.Test.YtpgdfagfkjbokaaGreatDoorP15
set_option linter.all false
set_option maxHeartbeats 8000000
set_option maxRecDepth 100000
namespace Go.Ae
open Go.Proofs
def N1(W:List Bc): ∀(n i:Nat) (out:List A9),(PX W n i out).length<=n+out.length
 |0,_,out=>by simp[PX]
 |n+1,i,out=>by
  simp only[PX];split
  .split
   .rename_i f _ _
    have:=N1 W n f.From.toNat (f.By::out)
    simp only[Cv] at this;omega
   .omega
  .omega
def W0{m:AE}{x g:Ad}{most:Int}{j:Nat}{f:Bc}{K:List Bc->List A9×Int}{B:Nat}(z: ∀W,(K W).1.length<=B)(O:j+2<=B): ∀(l:List A9) (W:List Bc),(JT m x g most j f K l W).1.length<=B
 |[],W=>by simp only[JT];exact z W
 |o::r,W=>by
  simp only[JT];split
  .simp
  split
  .have:=N1 W ((j:Int).toNat+1) (j:Int).toNat [o]
   simp only[Zx,Cv,FA] at this⊢;omega
  split
  .exact W0 z O r W
  split
  .exact W0 z O r W
  split
  .simp
  exact W0 z O r _
def MX{m:AE}{x g:Ad}{most:Int}: ∀(n j:Nat) (W:List Bc),(Jy m x g most n j W).1.length<=j+n+2
 |0,_,_=>by simp[Jy]
 |n+1,j,W=>by
  simp only[Jy];split
  .simp
  .exact W0 (λV=>by have:=MX (m:=m) (x:=x) (g:=g) (most:=most) n (j+1) V;omega) (by omega) _ _
def Y4(m:AE)(a:Ad)(o:A9)(n:Int):(HS m a o n).1.length<=403:=by
 simp only[HS];split
 .split
  .simp
  .simp only[FI];split
   .simp
   split
   .simp
   exact MX _ _ _
 .simp
def zB(m:AE)(a:Ad)(o:A9)(n:Int):a4 (kR AE.d) (kR Ad.d) (kR A9.d) kI [.val (.agg (AE.c m)),.val (.agg (Ad.c a)),.val (.agg (A9.c o)),.val (.int .i64 n)]=some (m,a,o,n):=by simp only[a4,kR,kI,AE.d_c,Ad.d_c,A9.d_c,G7]
def ME(a:AE×Ad×A9×Int): ∀p∈reaI.H1 a,p.1<5000/\ ∀m∈p.2.2.nms,m<5000:=by
 intro p hp;simp only[reaI.H1,Bz] at hp;subst hp;exact⟨by omega,by simp[Ab.nms]⟩
def dY(a:AE×Ad×A9×Int): ∀m∈(reaI.r0 a).nms,m<5000:=by simp[reaI.r0,AV.nms,AA]
def reaV.row:A7:=FU (a4 (kR AE.d) (kR Ad.d) (kR A9.d) kI) (λa=>Qf a.1.Big.Set/\Qf a.1.Small.Set) reaI.r0 reaI.H1 5000
def reaV.ok:AC 10 reaV.row:=
 Vl (A:=AE×Ad×A9×Int) (ca:=λ(a:AE×Ad×A9×Int)=>[D.agg (AE.c a.1),D.agg (Ad.c a.2.1),D.agg (A9.c a.2.2.1),D.int .i64 a.2.2.2]) (by kernel_rfl) reaI.ok (λ_=>rfl) (aV (N8 AE.d_le) (N8 Ad.d_le) (N8 A9.d_le) bB)
  (λa=>⟨by simp[reaI.r0,JS,EG,D.sc],λm z=>by have:=dY a m z;omega⟩) (λa p hp=>by
   simp only[reaI.H1,Bz] at hp;subst hp;exact⟨by omega,rfl,by simp[Pp,A9.c,D.sc],by simp[Ab.nms]⟩)
def FU.nwU{A:Type}{ar:List PK->Option A}{pre:A->Prop}{r0:A->AV}{H1:A->Ap}{cnt:Nat}{args:List AV}{tm:List (Nat×AV)}{h:Ap}{nx:Nat}{dst:Option Nat}{Z:Ld}{cl:List (List Nat)}{i:Nat}{acc:List Fp}(ps:List PK)(ab:Cf (hget h) args=some ps)(a:A)(ha:ar ps=some a)(O:pre a)
 (z:(acc.all λf=>DX cl f.i i)=true)
 (hcl: ∀p∈H1 a,p.1<cnt/\ ∀m∈p.2.2.nms,m<cnt)(hb: ∀m∈(r0 a).nms,m<cnt)
 (aa: ∀(u:List Nat) (Q:Ap),(∀j e,hget (H1 a) j=some e->hget Q (nx+j)=some (e.1,e.2.ren λj=>nx+j))->(∀m,m<nx->hget Q m=hget h m)->Z (⟨i,u,Ia (AS (λj=>nx+j) (H1 a)),nx,cnt⟩::acc) ((⟨tm,Q,nx+cnt⟩:Av).put dst ((r0 a).ren λj=>nx+j))):
 FU ar pre r0 H1 cnt args (hget h) nx (GF cl i acc Z ⟨tm,h,nx⟩ dst):=by
 have e:BE (λj=>j) 0 nx=λj=>nx+j:=funext λj=>by simp[BE]
 unfold FU;rw[ab];simp only[Ws,ha,DV];rw[e];have hk:D6 (λs=>Z (⟨i,EE (hget h) args++[],Ia (AS (λj=>nx+j) (H1 a)),nx,cnt⟩::acc) s) ⟨tm,h,nx⟩ dst ((r0 a).ren λj=>nx+j) {use:=EE (hget h) args,new:=AS (λj=>nx+j) (H1 a),cnt:=cnt}:=cX (λ_=>rfl) rfl hcl hb (aa _);obtain⟨k1,k2⟩:=hk;exact⟨O,k1,dK _ _ _ _ _ _ z,k2⟩
def lawRe.rc:D->Option (Bool):=Vv
def lawRe.re:Bool->D:=D.bool
def lawRe.rle: ∀d b,lawRe.rc d=some b->Le d (lawRe.re b):=lE
def lawRe.fv(a:AE×Ad×A9×Int):Bool:=(λ_ _ _ _=>true) (a.1) (a.2.1) (a.2.2.1) (a.2.2.2)
def lawRe.row:A7:=vK (b4 (qR AE.d_le) (qR Ad.d_le) (qR A9.d_le) qI) (RK.mk lawRe.rc lawRe.re lawRe.rle) (λa=>FD a.1.Big.Set/\FD a.1.Small.Set) lawRe.fv
def lawRe.q:=AY (R:=lawRe.row) rfl
def VE:=J @toSimulation.fv.eq_1<|J @toOption.q<|J @toOption.fv.eq_1<|J @toAssembly.fv.eq_1 @eqOptionSF.fv.eq_1
def lawRe.ok:AC 3 lawRe.row:=by
 refine vw (tC szSimulation.ok (tC szAssembly.ok (tC toMR.ok (tC toAR.ok (tC toOption.ok (tC reaS_.ok (tC reaV.ok (tC eqOptionSF.ok (tC eqAsmF.ok (tC eqSimF.ok (tC BY.ok (tC mkAC.ok (tC mkOC.ok (tC heldO_.ok tN)))))))))))))) Tryz.func3 ?_;intro a ab;simp only[Tryz.f3];simp(maxSteps:=9^9)(disch:=omega)only[ZA,simprocAttr,Ad.d,lawRe.fv,lawRe.rc,szSimulation.q,szSimulation.fv,szAssembly.q,szAssembly.fv];obtain⟨m,b,o,n⟩:=a;simp only at ab⊢;refine⟨ab,?_⟩;split
 .trivial
 rename_i c0;have hB:=Zf (m:=m) (l:=1048576) (by decide) (by decide) (by omega);obtain⟨h1,hb⟩:=UY (s:=m) (l:=1048576) (by decide) (by decide) (by omega);refine⟨⟨by omega,hb⟩,?_⟩;split
 .trivial
 rename_i c1;have hA:N7 b (GC m 1048576)=Cx b.Tiles.length (GC m 1048576):=rfl;obtain⟨b1,_,_⟩:=Ql (n:=b.Tiles.length) (l:=GC m 1048576) (by omega);have ai:b.Tiles.length<=1073741824:=by omega
 refine .inl (vK.callU [.val (.agg (AE.c m))] rfl m (U9 m) h1 rfl (by simp[AA,AV.nms]) ?_);simp(disch:=omega)only[ZA,simprocAttr,VE,Br];refine .inl (vK.callU [.val (.agg (Ad.c b))] rfl b (Rt b) ai rfl (by simp[AA,AV.nms]) ?_);simp(disch:=omega)only[ZA,simprocAttr,Ad.d,VE,reaS_.q,reaS_.fv,Br];obtain⟨w,hw⟩: ∃w,w=HS m b o n:=⟨_,rfl⟩;have am:=Y4 m b o n;obtain⟨w0,w1⟩:=w;simp only[<-hw] at am⊢;refine .inr (AB.nw m hB rfl rfl (yN hB) (by simp[toMX.r0,AV.nms,AA]) λaf hH1 z=> ?_);have Z:hget af 0=some (true,.cells 33 [AV.im (D.sl false 2 (List.map Am.c m.Big.Set.Glues)),AV.im (D.sl false 2 (List.map Tile.c m.Big.Set.Tiles)),AV.im (D.sl false 3 (List.map Aj.c m.Big.Seed.Tiles)),AV.im (D.int IntKind.i64 m.Big.Temperature),AV.im (D.sl false 2 (List.map Am.c m.Small.Set.Glues)),AV.im (D.sl false 2 (List.map Tile.c m.Small.Set.Tiles)),AV.im (D.sl false 3 (List.map Aj.c m.Small.Seed.Tiles)),AV.im (D.int IntKind.i64 m.Small.Temperature),AV.im (D.int IntKind.i64 m.Scale),AV.im (D.sl false 1 (List.map Al m.Labels))]):=z 0 (by omega);have k1:hget af 1=some (true,.cells 28 [AV.im (D.sl false 3 (List.map Aj.c b.Tiles))]):=z 1 (by omega);have k2:hget af 2=some (true,.cells 37 [AV.im (D.int IntKind.i64 o.At.X),AV.im (D.int IntKind.i64 o.At.Y),AV.im (D.int IntKind.i64 o.Tile)]):=z 2 (by omega);have S1:FV (hget af) 6 m:=yM hB hH1;clear hH1 z;simp only[toMX.r0,AV.ren,AH];simp(disch:=omega)only[ZA,simprocAttr,Br,k1,IG];refine .inr (AB.nw b ai rfl rfl (xL b) (by simp[AV.nms,AA]) λaa hH1 z=> ?_);have Z:hget aa 0=_:=((z 0 (by omega)).trans (H7 _ _ _ (by omega))).trans Z;have k1:hget aa 1=_:=((z 1 (by omega)).trans (H7 _ _ _ (by omega))).trans k1;have k2:hget aa 2=_:=((z 2 (by omega)).trans (H7 _ _ _ (by omega))).trans k2;have S2:FV (hget aa) 6 m:=S1.mono hB λj _ hj=>(z j (by omega)).trans (H7 _ _ _ (by omega))
 have cm:hget aa 4000034=some (true,.cells 53 [.own 13,.own 15,.own 2000018,.im (.int .i64 m.Big.Temperature),.own 2000026,.own 2000028,.own 4000031,.im (.int .i64 m.Small.Temperature),.im (.int .i64 m.Scale),.own 4000033]):=z _ (by omega);have ob:hget aa 4000039=some (true,.arr 115 3 (b.Tiles.map Aj.c)):=hH1 4 _ rfl;clear hH1 z;simp only[AV.ren,AH];simp(disch:=omega)only[ZA,simprocAttr,VE,Br,k2,cm,IG];generalize hG:((4000040,(true,Ab.cells 49 [AV.own 4000039]))::Bj aa [4000040]:Ap)=HX2;have S2:FV (hget HX2) 6 m:=S2.mono hB λj _ hj=>pg hG (by omega) rfl
 have Z:=pg hG (by omega) Z;have k1:=pg hG (by omega) k1;have k2:=pg hG (by omega) k2;have cm:=pg hG (by omega) cm;have ob:=pg hG (by omega) ob;have cb:hget HX2 4000040=some (true,.cells 49 [.own 4000039]):=by rw[<-hG];rfl
 clear hG;refine FU.nwU [.val (.agg (AE.c m)),.val (.agg (Ad.c b)),.val (.agg (A9.c o)),.val (.int .i64 n)] (pk4 S2.pk (bM ob) rfl rfl) (m,b,o,n) (zB m b o n) ab rfl (ME _) (dY _) λu Q hH1 z=> ?_
 simp only[<-hw,reaI.H1,reaI.r0,reaI.F] at hH1⊢;have Z:hget Q 0=_:=(z 0 (by omega)).trans Z;have k1:hget Q 1=_:=(z 1 (by omega)).trans k1;have k2:hget Q 2=_:=(z 2 (by omega)).trans k2;have cm:hget Q 4000034=_:=(z 4000034 (by omega)).trans cm;have ob:hget Q 4000039=_:=(z 4000039 (by omega)).trans ob;have cb:hget Q 4000040=_:=(z 4000040 (by omega)).trans cb;have S3:FV (hget Q) 6 m:=S2.mono hB λj _ hj=>z j (by omega)
 have gg:hget Q 4000041=some (true,.arr 58 3 (w0.map A9.c)):=hH1 0 _ rfl;clear hH1 z;simp only[AV.ren,AH];simp(disch:=omega)only[ZA,simprocAttr,Br];refine Dy.call [_,_] (jR (Jq gg) rfl) (w0,w0) (T8 _ _) trivial ?_;simp(disch:=omega)only[ZA,simprocAttr,VE,Br,Z,cm];refine .inl (vK.callA [.val (.agg (AE.c m))] rfl m (U9 m) h1 rfl λu=> ?_);simp(disch:=omega)only[ZA,simprocAttr,VE];refine Dy.callA [_,_] (jR S3.pk rfl) (m,m) (zE _ _) trivial rfl λu2=> ?_
 simp(disch:=omega)only[ZA,simprocAttr,Br,k1,cb,eqSimF.fv];refine .inl (vK.callA [.val (.agg (Ad.c b))] rfl b (Rt b) ai rfl λu=> ?_);simp(disch:=omega)only[ZA,simprocAttr,VE];refine Dy.callA [_,_] (jR (bM ob) rfl) (b,b) (xK _ _) trivial rfl λu2=> ?_
 simp(disch:=omega)only[ZA,simprocAttr,Br,cm,eqAsmF.fv];refine Tf (N:=6) hB (by decide) (by decide) S3 (by omega) λac O=> ?_
 have Z:hget ac 0=_:=(O 0 (by omega)).trans Z;have k1:hget ac 1=_:=(O 1 (by omega)).trans k1;have k2:hget ac 2=_:=(O 2 (by omega)).trans k2;have ob:hget ac 4000039=_:=(O 4000039 (by omega)).trans ob;have cb:hget ac 4000040=_:=(O 4000040 (by omega)).trans cb;have gg:hget ac 4000041=_:=(O 4000041 (by omega)).trans gg;obtain⟨y3,y2⟩:=kJ hB;obtain⟨m1,hm1⟩: ∃m1,m1=YS (m,1)+m.Labels.length:=⟨_,rfl⟩;rw[<-hm1] at y2 y3;simp only[<-hm1];clear O S3 hm1;simp(disch:=omega)only[ZA,simprocAttr,Br,cb];refine OI (by omega) (by omega) ob (by omega) λag O=> ?_
 have Z:hget ag 0=_:=(O 0 (by omega)).trans Z;have k1:hget ag 1=_:=(O 1 (by omega)).trans k1;have k2:hget ag 2=_:=(O 2 (by omega)).trans k2;have gg:hget ag 4000041=_:=(O 4000041 (by omega)).trans gg;clear O;simp(disch:=omega)only[ZA,simprocAttr,Br];rw[Ai (by omega)];refine Dy.call [_,_] (jR (Jq gg) rfl) (w0,w0) (T8 _ _) trivial ?_;simp(disch:=omega)only[ZA,simprocAttr,VE,Br];refine OM (by decide) (by omega) gg (by omega) λah hj O=> ?_
 have Z:hget ah 0=_:=(O 0 (by omega)).trans Z;have k1:hget ah 1=_:=(O 1 (by omega)).trans k1;have k2:hget ah 2=_:=(O 2 (by omega)).trans k2;have gg:hget ah 4000041=some (true,.arr 58 3 ((EI (oF 1) w0.length).map A9.c)):=hj 0 _ rfl;clear hj O;simp(disch:=omega)only[ZA,simprocAttr,Br];have aj:(0:Int)<=1/\(1:Int)+3*(EI (oF 1) w0.length).length<=1099511627776:=by rw[Ny];omega
 have ak:heldO_.fv (EI (oF 1) w0.length,1)=1+3*w0.length:=SA 1 w0.length;refine Dy.call [_,_] (jR (Jq gg) rfl) (EI (oF 1) w0.length,1) (bL _ _) aj ?_;simp only[ak];simp(disch:=omega)only[ZA,simprocAttr,Br,Z];rw[Af (by omega)];refine .inl (vK.callU [.val (.agg (AE.c m))] rfl m (U9 m) h1 rfl (by simp[AA,AV.nms]) ?_);simp(disch:=omega)only[ZA,simprocAttr,VE,Br,k1];refine .inl (vK.callU [.val (.agg (Ad.c b))] rfl b (Rt b) ai rfl (by simp[AA,AV.nms]) ?_);simp(disch:=omega)only[ZA,simprocAttr,VE,Br,k2];refine FU.nwA [.val (.agg (AE.c m)),.val (.agg (Ad.c b)),.val (.agg (A9.c o)),.val (.int .i64 n)] rfl (m,b,o,n) (zB m b o n) ab rfl rfl (ME _) (dY _) λad hH1 z=> ?_
 simp only[<-hw,reaI.H1,reaI.r0,reaI.F] at hH1⊢;have Z:hget ad 0=_:=(z 0 (by omega)).trans Z;have k1:hget ad 1=_:=(z 1 (by omega)).trans k1;have k2:hget ad 2=_:=(z 2 (by omega)).trans k2;have gg:hget ad 4000041=_:=(z 4000041 (by omega)).trans gg;have gh:hget ad 4005041=some (true,.arr 58 3 (w0.map A9.c)):=hH1 0 _ rfl;clear hH1 z;simp only[AV.ren,AH];simp(disch:=omega)only[ZA,simprocAttr,Br];refine Dy.call [_,_] (jR (Jq gh) rfl) (w0,w0) (T8 _ _) trivial ?_;simp(disch:=omega)only[ZA,simprocAttr,VE,Br];refine Dy.call [_,_] (jR (Jq gg) rfl) (EI (oF 1) w0.length,1) (bL _ _) aj ?_;simp only[ak];simp(disch:=omega)only[ZA,simprocAttr,Br];rw[Af (by omega)];trivial
end Go.Ae
