/- Lemmas. Conditions: none. -/
import Derived.Test.YtkjfcnnfidnpcabGreatP12
set_option linter.all false
set_option maxHeartbeats 8000000
set_option maxRecDepth 100000
namespace Go.Ae
open Go.Proofs
def idxJ_.fv(a:(List Int)×Int):Int:=(fun l x=>Qaw (fun y=>decide (x=y)) 0 l) (a.1) (a.2)
def idxJ_.row:Row:=vKF (b2 (qS Qb3 Qant) qI) rI (fun a=>True) idxJ_.fv
def idxJ_.q:=vKFq (R:=idxJ_.row) rfl
theorem idxJ_.ok:Qas Tryz.prog 273 idxJ_.row:=by
 refine vwF tN Tryz.func273 rfl (by kernel_rfl) ?_;intro a hpre;simp only[Tryz.f273,Option.getD];simp(maxSteps:=9^9)(disch:=omega)only[ZZ,simprocAttr,rch,idxJ_.fv,ORC,D.sc,D.scs,scL,decD];intro hn;refine Qay.old ⟨{k:Nat//k<=a.1.length/\Qaw (fun y=>decide (a.2=y)) k (a.1.drop k)=Qaw (fun y=>decide (a.2=y)) 0 a.1},fun k=>⟨[(8,.im (.int .i64 k.1)),(7,.im (.int .i64 a.1.length)),(4,.im (.int .i64 0)),(0,.im (.sl false 1 (a.1.map intC))),(1,.im (.int .i64 a.2))],[],0⟩,fun k=>a.1.length - k.1,fun k=>⟨by simp[Qad.good,belT,belH,Qam,AV.bel,belL],Zal _⟩,⟨⟨0,by simp⟩,by simp(maxSteps:=9^9)(disch:=omega)only[ZZ,simprocAttr,rch,idxJ_.fv,ORC,D.sc,D.scs,scL,decD,sub]⟩,fun k=> ?_⟩;obtain⟨k,hk1,hk2⟩:=k;simp(maxSteps:=9^9)(disch:=omega)only[ZZ,simprocAttr,rch,idxJ_.fv,ORC,D.sc,D.scs,scL,decD,sub,Qal];refine⟨fun hk=>⟨hk,fun x hx=> ?_⟩,fun hk=> ?_⟩
 .rw[Qd3 hx,Qaw] at hk2;refine⟨fun h=> ?_,fun h=>Qb6 hk hn ⟨by omega,by rw[<-hk2,Zai (by simpa using h)]⟩⟩;rw[Zak (by simpa using h)] at hk2;exact hk2
 .rw[Zaq (by omega),Qaw] at hk2;exact hk2
def contJ_.fv(a:(List Int)×Int):Bool:=(fun l n=>decide (n∈l)) (a.1) (a.2)
def contJ_.row:Row:=vKF (b2 (qS Qb3 Qant) qI) rB (fun a=>True) contJ_.fv
def contJ_.q:=vKFq (R:=contJ_.row) rfl
theorem contJ_.ok:Qas Tryz.prog 272 contJ_.row:=by
 refine vwF (tC idxJ_.ok tN) Tryz.func272 rfl (by kernel_rfl) ?_;intro a hpre;simp only[Tryz.f272,Option.getD];simp(maxSteps:=9^9)(disch:=omega)only[ZZ,simprocAttr,rch,contJ_.fv,idxJ_.q,idxJ_.fv,ORC,D.sc,D.scs,scL,decD];rw[Zdb];rcases Qyg (fun y=>decide (a.2=y)) a.1 0 with ⟨h,_⟩|⟨h1,h2⟩
 .rw[h,Zeb];constructor
  .rintro⟨x,hx,he⟩
   have:a.2=x:=by simpa using he
   rw[this];exact hx
  .exact fun hx=>⟨_,hx,by simp⟩
 .rw[h2,h1];simp
def Qapr(l:List Int)(b:Bond):Bool:=decide (b.A∈l)==decide (b.B∈l)
theorem Qapk(l:List Int)(b:Bond):Qapn l b= !Qapr l b:=rfl
def Qapq(l:List Int)(bs:List Bond):List Bond:=bs.filter (Qapn l)
theorem keepX_len(t:List Int)(bs:List Bond):(Qapq t bs).length<=bs.length:=Zde _ _
theorem Qaqc(t:List Int){bs:List Bond}{k:Nat}{b:Bond}(h:bs[k]? =some b):Qapq t (bs.take (k+1))=Qapq t (bs.take k)++if Qapr t b=false then [b] else []:=by
 rw[Zbu,h];simp only[Qapq,ZcI,ZcT];congr 1;by_cases c:Qapr t b=true
 .rw[Zcj (by rw[Qapk,c];decide),Zai (by rw[c];decide)];rfl
 .rw[ZaO] at c;rw[Zdp (by rw[Qapk,c];rfl),Zak c];rfl
def cs1.fv(a:Bond×(List Int)):Bool:=(fun b l=>Qapr l b) (a.1) (a.2)
def cs1.row:Row:=vKF (b2 (qR Bond.d_le) (qP 1 Qj4)) rB (fun a=>True) cs1.fv
def cs1.q:=vKFq (R:=cs1.row) rfl
theorem cs1.ok:Qas Tryz.prog 271 cs1.row:=by
 refine vwF (tC contJ_.ok tN) Tryz.func271 rfl (by kernel_rfl) ?_;intro a hpre;simp only[Tryz.f271,Option.getD];simp(maxSteps:=9^9)(disch:=omega)only[ZZ,simprocAttr,rch,cs1.fv,contJ_.q,contJ_.fv,ORC,D.sc,D.scs,scL,decD];rfl
def IdxX_.ar:List PK->Option ((List Bond)×((List Int)))
 |[.val (.sl _ _ x0),.val (.fn 271 [] [.ref x1_0])]=>(decR Bond.d x0).bind fun y0=>(Qpb (x1_0.take 1)).bind fun y1_0=>some (y0,y1_0)
 |_=>none
def IdxX_.ae(a:(List Bond)×((List Int))):List PK:=[.val (.sl false 3 (a.1.map Bond.c)),.val (.fn 271 [] [.ref (Qcd a.2)])]
theorem IdxX_.le: ∀ps a,IdxX_.ar ps=some a->LeKL ps (IdxX_.ae a):=by
 intro ps a h;unfold IdxX_.ar at h;split at h
 .simp only[Zaw,Zab] at h;obtain⟨y0,h0,y1_0,h1_0,rfl⟩:=h;exact⟨Qbf (Qa2 Bond.d_le _ _ h0) (by simp only[ZaM];rintro r ⟨y,_,rfl⟩;rfl),Qos ⟨Qil (LeP.trans_take (Qj4 _ _ h1_0)),trivial⟩,trivial⟩
 .cases h
def IdxX_.fv(a:(List Bond)×((List Int))):Int:=(fun l t=>Qaw (Qapr t) 0 l) (a.1) (a.2)
def IdxX_.row:Row:=Qfi IdxX_.ar (fun a=>True) (fun a=>(D.int .i64) (IdxX_.fv a))
def IdxX_.q:=vqF IdxX_.row rfl
theorem IdxX_.ok:Qas Tryz.prog 154 IdxX_.row:=by
 refine Qbn Qaq (tC cs1.ok tN) Tryz.func154 rfl (by kernel_rfl) (by kernel_rfl) (ar:=IdxX_.ar) (ae:=IdxX_.ae) IdxX_.le (n:=2) (fun _=>rfl) (by decide) (rc:=(vInt)) (re:=(D.int .i64)) (Qa3) (f:=IdxX_.fv) ?_;intro a hpre;simp only[Tryz.f154,Option.getD];simp(maxSteps:=9^9)(disch:=omega)only[ZZ,simprocAttr,rch,IdxX_.ae,IdxX_.fv,cs1.q,cs1.fv,ORC,D.sc,D.scs,scL,decD];intro hn;refine Qay.old ⟨{k:Nat//k<=a.1.length/\Qaw (Qapr a.2) k (a.1.drop k)=Qaw (Qapr a.2) 0 a.1},fun k=>⟨[(8,.im (.int .i64 k.1)),(7,.im (.int .i64 a.1.length)),(6,.im (.sl false 3 (a.1.map Bond.c))),(4,.im (.int .i64 0)),(0,.im (.sl false 3 (a.1.map Bond.c))),(1,.im (.fn 271 [] [.ref (Qcd a.2)]))],[],0⟩,fun k=>a.1.length - k.1,fun k=>⟨by simp[Qad.good,belT,belH,Qam,AV.bel,belL],Zal _⟩,⟨⟨0,by simp⟩,by simp(maxSteps:=9^9)(disch:=omega)only[ZZ,simprocAttr,rch,IdxX_.ae,IdxX_.fv,cs1.q,cs1.fv,ORC,D.sc,D.scs,scL,decD,sub]⟩,fun k=> ?_⟩;obtain⟨k,hk1,hk2⟩:=k;simp(maxSteps:=9^9)(disch:=omega)only[ZZ,simprocAttr,rch,IdxX_.ae,IdxX_.fv,cs1.q,cs1.fv,ORC,D.sc,D.scs,scL,decD,sub,Qal];refine⟨fun hk=>⟨hk,fun x hx=> ?_⟩,fun hk=> ?_⟩
 .rw[Qd3 hx,Qaw] at hk2;refine⟨fun h=> ?_,fun h=>Qb6 hk hn ⟨by omega,by rw[<-hk2,Zai (by simpa using h)]⟩⟩;rw[Zak (by simpa using h)] at hk2;exact hk2
 .rw[Zaq (by omega),Qaw] at hk2;exact hk2
theorem Qap1{t:List Int}{l:List Bond}{i:Nat}{b:Bond}(h1:l.find? (Qapr t)=some b)(h2:Qaw (Qapr t) 0 l=(i:Int))(h3:l[i]? =some b):Qapq t (l.take (i+1))=l.take i:=by
 have hw:Qapr t b=true:=Zcp h1;have hall: ∀(l:List Bond) (o i:Nat),Qaw (Qapr t) o l=((o+i:Nat):Int)-> ∀x∈l.take i,Qapr t x=false:=by
  intro l;induction l with
  |nil=>intro o i _ x hx;simp at hx
  |cons y r ih=>
   intro o i h x hx;cases i with
   |zero=>simp at hx
   |succ i=>
    simp only[Qaw] at h;split at h
    .omega
    .rename_i hy;rw[ZbI] at hx;rcases Zax.1 hx with rfl|hx
     .simpa using hy
     .exact ih (o+1) i (by rw[h];congr 1;omega) x hx
 rw[Zbu,h3,ZcT,Qapq,ZcI];have e1:(l.take i).filter (Qapn t)=l.take i:=by
  rw[ZcC];intro x hx;rw[Qapk,hall l 0 i (by rw[h2];simp) x hx];rfl
 rw[e1,Zcj (by rw[Qapk,hw];decide),Zdz,ZaK]
def dlX.ca(a:List Bond×List Int):List AV:=[.own 0,.im (.fn 271 [] [.ref (Qcd a.2)])]
def dlX.H0(a:List Bond×List Int):Qan:=[(0,(true,.arr 193 3 (a.1.map Bond.c)))]
def dlX.H1(a:List Bond×List Int):Qan:=[(1,(true,.arr 193 3 ((Qapq a.2 a.1).map Bond.c)))]
def dlX.row:Row:=orow dlX.ca dlX.H0 1 (fun a=>a.1.length<=1000000) (fun j=>j==0) (fun _=> .own 1) dlX.H1 1000
def Yba:=J @IdxX_.q<|J @IdxX_.fv.eq_1<|J @cs1.q @cs1.fv.eq_1
theorem dlX.ok:Qas Tryz.prog 142 dlX.row:=by
 refine owN (tC IdxX_.ok (tC cs1.ok tN)) Tryz.func142 rfl (by kernel_rfl) (exB:=fun j=>j==1) (R:=fun _ r=>r= .own 1) (fun _=>rfl)
  (fun a=>by simp[dlX.ca,dlX.H0,dlX.H1,belL,AV.bel,belH,Qam,Qc2,AObj.nms,nmsL,AV.nms,domB,hget]) (fun a p hp=> ?_) (fun a r h=>by subst h;exact LeV.refl _) ?_
 rotate_left
 intro a hpre;simp only[Tryz.f142,Option.getD,dlX.ca,dlX.H0,dlX.H1];simp(maxSteps:=9^9)(disch:=omega)only[ZZ,simprocAttr,rch,Yba,IdxX_.ar,Qc7,ORB,dlX.ca,dlX.H0,dlX.H1];rcases Qep (Qapr a.2) a.1 0 with ⟨e1,e2⟩|⟨i0,b0,e1,e2,e3⟩
 .rw[e2,Zak rfl];refine⟨[],[(1,some 0)],⟨[(4,.own 1)],[(1,(true,.arr 193 3 (a.1.map Bond.c)))],2⟩,?_,by simp[Qad.good,belT,belH,Qam,AV.bel,belL],by simp,?_⟩
  .simp only[subP];simp(maxSteps:=9^9)(disch:=omega)only[ZZ,simprocAttr,rch,Yba,IdxX_.ar,Qc7,ORB,dlX.ca,dlX.H0,dlX.H1,Zah,Zag]
  .simp(maxSteps:=9^9)(disch:=omega)only[ZZ,simprocAttr,rch,Yba,IdxX_.ar,Qc7,ORB,dlX.ca,dlX.H0,dlX.H1]
   have:Qapq a.2 a.1=a.1:=by
    rw[Qapq,ZcC];intro b hb
    have:=Zcu.1 e1 b hb
    rw[ZaO] at this;rw[Qapk,this];rfl
   rw[this]
 .rw[ZbO] at e2;rw[e2,Zai (by omega)];have hil:=(Zaj.1 e3).1;rw[Qak (by omega) (by omega)];obtain⟨l,hl⟩: ∃l,l=a.1:=⟨_,rfl⟩;obtain⟨t,ht⟩: ∃t,t=a.2:=⟨_,rfl⟩;simp only[<-hl,<-ht] at e1 e2 e3 hil hpre⊢;refine Qay.old ⟨{j:Nat//j<=l.length},fun j=>⟨[(6,.im (.int .i64 j.1)),(5,.im (.int .i64 (Qapq t (l.take j.1)).length)),(0,.own 0),(1,.im (.fn 271 [] [.ref (Qcd t)]))],[(0,(true,.arr 193 3 ((Qapq t (l.take j.1)++l.drop (Qapq t (l.take j.1)).length).map Bond.c)))],2⟩,fun j=>l.length - j.1,fun j=>⟨by simp[Qad.good,belT,belH,Qam,AV.bel,belL],by simp⟩,⟨⟨i0+1,by omega⟩,?_⟩,fun j=> ?_⟩
  .have h1:=Qap1 e1 e2 e3;simp(maxSteps:=9^9)(disch:=omega)only[ZZ,simprocAttr,rch,Yba,IdxX_.ar,Qc7,ORB,dlX.ca,dlX.H0,dlX.H1,sub,h1,Zav];rw[show min i0 l.length=i0 by omega,Zbj];exact⟨⟨by omega,rfl⟩,rfl⟩
  obtain⟨j,hj⟩:=j;obtain⟨kp,hkp⟩: ∃kp,kp=Qapq t (l.take j):=⟨_,rfl⟩;have hkl:kp.length<=j:=by
   have:=keepX_len t (l.take j)
   rw[Zav] at this;rw[hkp];omega
  have hrl:(kp++l.drop kp.length).length=l.length:=by simp;omega
  simp only[<-hkp];simp(maxSteps:=9^9)(disch:=omega)only[ZZ,simprocAttr,rch,Yba,IdxX_.ar,Qc7,ORB,dlX.ca,dlX.H0,dlX.H1,sub,Qal,hrl];intro _;refine⟨fun hj2=>⟨hj2,hj2,fun b hb=> ?_⟩,fun hj2=> ?_⟩
  .have hlb:l[j]? =some b:=by
    rw[ZaI hkl,Zbs,show kp.length+(j - kp.length)=j by omega] at hb;exact hb
   have hsu:=Qaqc t hlb;rw[<-hkp] at hsu;refine⟨fun hw=>⟨by omega,by omega,fun c _=>⟨⟨j+1,by omega⟩,by simp only;omega,?_⟩⟩,fun hw=>⟨⟨j+1,by omega⟩,by simp only;omega,?_⟩⟩
   .rw[Zak hw] at hsu;simp only[hsu,ZaC,ZaF,ZbF];refine⟨⟨by rw[Qak (by omega) (by omega)];omega,by rw[Qak (by omega) (by omega)];omega⟩,?_⟩;have h1:(kp++l.drop kp.length).set kp.length b=kp++[b]++l.drop (kp.length+1):=by
     obtain⟨c,hc⟩: ∃c,l[kp.length]? =some c:=⟨_,Zac (by omega)⟩;rw[Qd3 hc,Zdf _ _ (Zal _),Zca,ZcS,Zbt];rfl
    rw[<-h1,ZcP];rfl
   .rw[Zai hw,ZaK] at hsu;simp only[hsu];exact⟨⟨by rw[Qak (by omega) (by omega)];omega,trivial⟩,trivial⟩
  .refine⟨by omega,false,?_⟩;have hjl:j=l.length:=by omega
   subst hjl;rw[Zbx] at hkp;simp(maxSteps:=9^9)(disch:=omega)only[ZZ,simprocAttr,rch,Yba,IdxX_.ar,Qc7,ORB,dlX.ca,dlX.H0,dlX.H1,hrl];have hA:List.take kp.length ((kp++l.drop kp.length).map Bond.c)=kp.map Bond.c:=by
    rw[<-Zfa,ZdI]
   rw[hA];refine⟨by simp only[ZaC,Zbv];omega,true,?_⟩;simp(maxSteps:=9^9)(disch:=omega)only[ZZ,simprocAttr,rch,Yba,IdxX_.ar,Qc7,ORB,dlX.ca,dlX.H0,dlX.H1,hrl];refine⟨[],[(1,some 2)],⟨[(4,.own 1)],[(1,(true,.arr 193 3 (kp.map Bond.c)))],2⟩,?_,by simp[Qad.good,belT,belH,Qam,AV.bel,belL],by simp,?_⟩
   .simp only[subP];simp(maxSteps:=9^9)(disch:=omega)only[ZZ,simprocAttr,rch,Yba,IdxX_.ar,Qc7,ORB,dlX.ca,dlX.H0,dlX.H1,Zah,Zag];rw[show ((kp.length:Int) - 0).toNat=(kp.map Bond.c).length by simp,Zbt,ZdI]
   .simp(maxSteps:=9^9)(disch:=omega)only[ZZ,simprocAttr,rch,Yba,IdxX_.ar,Qc7,ORB,dlX.ca,dlX.H0,dlX.H1,hkp]
 simp[dlX.H1] at hp;subst hp;exact .inr ⟨by omega,by omega,rfl,rfl⟩
def sumB_.fv(a:(List Bond)):Int:=(fun l=>sumW l 0) a
def sumB_.row:Row:=vKF (b1 (qS Bond.d_le Bond.c_n)) rI (fun a=>True) sumB_.fv
def sumB_.q:=vKFq (R:=sumB_.row) rfl
theorem sumB_.ok:Qas Tryz.prog 270 sumB_.row:=by
 refine vwF tN Tryz.func270 rfl (by kernel_rfl) ?_;intro a hpre;simp only[Tryz.f270,Option.getD];simp(maxSteps:=9^9)(disch:=omega)only[ZZ,simprocAttr,rch,sumB_.fv,ORC,D.sc,D.scs,scL,decD];intro _;refine Qay.old ⟨{k:Nat//k<=a.length},fun k=>⟨[(8,.im (.int .i64 k.1)),(7,.im (.int .i64 a.length)),(6,.im (.sl false 3 (a.map Bond.c))),(3,.im (.int .i64 (sumW (a.take k.1) 0)))],[],0⟩,fun k=>a.length - k.1,fun k=>⟨by simp[Qad.good,belT,belH,Qam,AV.bel,belL],by simp⟩,⟨⟨0,ZaU _⟩,by simp(maxSteps:=9^9)(disch:=omega)only[ZZ,simprocAttr,rch,sumB_.fv,ORC,D.sc,D.scs,scL,decD,sub,Zbq,sumW]⟩,fun k=> ?_⟩;obtain⟨k,hk1⟩:=k;simp(maxSteps:=9^9)(disch:=omega)only[ZZ,simprocAttr,rch,sumB_.fv,ORC,D.sc,D.scs,scL,decD,sub,Qal];refine⟨fun hk=>⟨hk,fun x hx=>⟨⟨k+1,by omega⟩,by simp only;omega,by rw[Qak (by omega) (by omega)];simp only;omega,by rw[Qwe hx,Qapx]⟩⟩,fun hk=> ?_⟩;rw[Zap (by omega)]
theorem dlX.H0_dom(a:List Bond×List Int)(j:Nat):domB (dlX.H0 a) j=true↔j<1:=by
 simp only[domB,dlX.H0,hget];by_cases hj:j=0
 .subst hj;simp
 .have:(0==j)=false:=by simpa using fun h=>hj h.symm
  rw[this];simp;omega
def cutB_.fv(a:(List Bond)×(List Int)):Int:=(cutI) (a.1) (a.2)
def cutB_.row:Row:=vKF (b2 (qS Bond.d_le Bond.c_n) (qS Qb3 Qant)) rI (fun a=>a.1.length<=1000000) cutB_.fv
def cutB_.q:=vKFq (R:=cutB_.row) rfl
def Ybb:=J @cutB_.fv.eq_1 (J @sumB_.q @sumB_.fv.eq_1)
theorem cutB_.ok:Qas Tryz.prog 269 cutB_.row:=by
 refine vwF (tC clobC.ok (tC dlX.ok (tC sumB_.ok tN))) Tryz.func269 rfl (by kernel_rfl) ?_;intro a hpre;simp only[Tryz.f269,Option.getD];simp(maxSteps:=9^9)(disch:=omega)only[ZZ,simprocAttr,rch,Ybb,ORC,D.sc,D.scs,scL,decD];obtain⟨bs,l⟩:=a;simp only at hpre⊢;refine orow.os bs [] hpre (fun j=>by simp[domB,hget]) rfl rfl ?_ ?_
 .simp(maxSteps:=9^9)(disch:=omega)only[ZZ,simprocAttr,rch,Ybb,ORC,D.sc,D.scs,scL,decD,clobC.ca,Qer]
 simp(maxSteps:=9^9)(disch:=omega)only[ZZ,simprocAttr,rch,Ybb,ORC,D.sc,D.scs,scL,decD,clobC.H1,sub];left;refine orow.os (bs,l) [1] hpre (fun j=>dlX.H0_dom _ j) rfl rfl ?_ ?_
 .simp(maxSteps:=9^9)(disch:=omega)only[ZZ,simprocAttr,rch,Ybb,ORC,D.sc,D.scs,scL,decD,dlX.ca,dlX.H0,Zbg,Zbi]
  skip
 simp(maxSteps:=9^9)(disch:=omega)only[ZZ,simprocAttr,rch,Ybb,ORC,D.sc,D.scs,scL,decD,dlX.H1,sub];rfl
def isPt_.fv(a:Asm×(List Int)):Bool:=(fun a l=>rise 0 (a.Tiles.length - 1) none l) (a.1) (a.2)
def isPt_.row:Row:=vKF (b2 (qR Asm.d_le) (qS Qb3 Qant)) rB (fun a=>True) isPt_.fv
def isPt_.q:=vKFq (R:=isPt_.row) rfl
def Ybc:=J @isPt_.fv.eq_1 (J @isIndex.q @isIndex.fv.eq_1)
theorem isPt_.ok:Qas Tryz.prog 268 isPt_.row:=by
 refine vwF (tC isIndex.ok tN) Tryz.func268 rfl (by kernel_rfl) ?_;intro a hpre;simp only[Tryz.f268,Option.getD];simp(maxSteps:=9^9)(disch:=omega)only[ZZ,simprocAttr,rch,Ybc,ORC,D.sc,D.scs,scL,decD];obtain⟨a,l⟩:=a;simp only;intro _;refine Qay.old ⟨{k:Nat//k<=l.length/\rise 0 (a.Tiles.length - 1) (Qapo l k) (l.drop k)=rise 0 (a.Tiles.length - 1) none l},fun k=>⟨[(9,.im (.int .i64 k.1)),(8,.im (.int .i64 l.length)),(7,.im (.sl false 1 (l.map intC))),(4,.im (.bool false)),(2,.ptr 0 0),(1,.im (.sl false 1 (l.map intC)))],[(0,(true,.cells 46 [.im (.sl false 3 (a.Tiles.map Qab.c))]))],1⟩,fun k=>l.length - k.1,fun k=>⟨by simp[Qad.good,belT,belH,Qam,AV.bel,belL],by simp⟩,⟨⟨0,by simp[Qapo]⟩,by simp(maxSteps:=9^9)(disch:=omega)only[ZZ,simprocAttr,rch,Ybc,ORC,D.sc,D.scs,scL,decD,sub]⟩,fun k=> ?_⟩;obtain⟨k,hk1,hk2⟩:=k;simp(maxSteps:=9^9)(disch:=omega)only[ZZ,simprocAttr,rch,Ybc,ORC,D.sc,D.scs,scL,decD,sub,Qal];refine⟨fun hk=>⟨hk,fun x hx hn=>⟨by simp[I64];omega,?_⟩⟩,fun hk=> ?_⟩
 .rw[Qd3 hx,Qapp] at hk2;have hw:IntKind.i64.wrap ((k:Int)+1)=((k+1:Nat):Int):=by rw[Qak (by omega) (by omega)];omega
  refine⟨fun h4=>⟨fun h5=> ?_,fun h5=> ?_⟩,fun h4=> ?_⟩
  .rw[Qak (x:=(k:Int) - 1) (by omega) (by omega)];refine⟨by omega,by omega,fun y hy=> ?_⟩;have hp:Qapo l k=some y:=by
    have e:((k:Int) - 1).toNat=k - 1:=by omega
    rw[e] at hy;simp only[Qapo,hy];rw[Zai (by omega)]
   rw[hp] at hk2;simp only at hk2;refine⟨fun h7=> ?_,fun h7=>⟨⟨k+1,by omega,?_⟩,by simp only;omega,hw⟩⟩
   .rw[Zbe (by omega),Zaz,ZbX] at hk2;exact hk2
   .rw[h4,Zbw (by omega),ZaD,ZaD] at hk2;rw[Qapm hx];exact hk2
  .have hp:Qapo l k=none:=by simp only[Qapo];rw[Zak (by omega)]
   rw[hp] at hk2;simp only at hk2;refine⟨⟨k+1,by omega,?_⟩,by simp only;omega,hw⟩;rw[h4,ZaD,ZaD] at hk2;rw[Qapm hx];exact hk2
  .rw[ZaO] at h4;rw[h4,Zaz] at hk2;exact hk2
 .rw[Zaq (by omega),Qap8] at hk2;exact hk2
def Qaqa(s:Qaa)(a:Asm)(l:List Int):Int×Int:=if (Qcl s && Qcp s a)=false then (0,1) else if rise 0 (a.Tiles.length - 1) none l=false then (0,2) else (cutI (Qel s a a.Tiles.length) l,0)
theorem Qap7{s:Qaa}{a:Asm}(h:(Qcl s && Qcp s a)=true):Qs0 s a/\(Qel s a a.Tiles.length).length<=1000000:=by
 simp only[Zaf] at h;obtain⟨h3,h4⟩:=Qdg h.2
 have:=Qh3 s a a.Tiles.length
 exact⟨⟨Qge h.1,h3,by omega,fun y hy=>Qkc (Qh6 _ none h3.1 y hy).1⟩,by omega⟩
def cutS_.fv(a:Qaa×Asm×(List Int)):Int×Int:=(Qaqa) (a.1) (a.2.1) (a.2.2)
def cutS_.row:Row:=vKF (b3 (qR Qaa.d_le) (qR Asm.d_le) (qS Qb3 Qant)) (r2 rI rI) (fun a=>Qf6 a.1) cutS_.fv
def cutS_.q:=vKFq (R:=cutS_.row) rfl
theorem cutS_.ok:Qas Tryz.prog 267 cutS_.row:=by
 refine vwF (tC ValidAssembly_.ok (tC isPt_.ok (tC bnds.ok (tC cutB_.ok tN)))) Tryz.func267 rfl (by kernel_rfl) ?_;intro a hpre;simp only[Tryz.f267,Option.getD];simp(maxSteps:=9^9)(disch:=omega)only[ZZ,simprocAttr,rch,cutS_.fv,ValidAssembly_.q,ValidAssembly_.fv,isPt_.q,isPt_.fv,bnds.q,bnds.fv,bnds.re,cutB_.q,cutB_.fv,ORC,D.sc,D.scs,scL,decD];obtain⟨s,a,l⟩:=a;simp only at hpre⊢;refine⟨hpre,?_⟩;simp only[Qaqa];by_cases c0:(Qcl s && Qcp s a)=true
 case neg=>rw[ZaO] at c0;rw[Zak c0,Zak c0]
 have hc: ¬(Qcl s && Qcp s a)=false:=by rw[c0];decide
 rw[Zai hc,Zai hc];by_cases c1:rise 0 ((a.Tiles.length:Int) - 1) none l=false
 .rw[Zak c1,Zak c1]
 rw[Zai c1,Zai c1];obtain⟨b1,b2⟩:=Qap7 c0;exact⟨b1,b2,rfl⟩
def Qapy(s:Qaa)(a:Asm)(x y:Int):Int:=if (Qcl s && Qcp s a)=false then 1 else if (Qau x 0 (a.Tiles.length - 1) && (Qau y 0 (a.Tiles.length - 1) && decide (x≠y)))=false then 2 else 0
def cutC_.fv(a:Qaa×Asm×Int×Int):Int:=(Qapy) (a.1) (a.2.1) (a.2.2.1) (a.2.2.2)
def cutC_.row:Row:=vKF (b4 (qR Qaa.d_le) (qR Asm.d_le) qI qI) rI (fun a=>Qf6 a.1) cutC_.fv
def cutC_.q:=vKFq (R:=cutC_.row) rfl
theorem cutC_.ok:Qas Tryz.prog 265 cutC_.row:=by
 refine vwF (tC ValidAssembly_.ok (tC isIndex.ok tN)) Tryz.func265 rfl (by kernel_rfl) ?_;intro a hpre;simp only[Tryz.f265,Option.getD];simp(maxSteps:=9^9)(disch:=omega)only[ZZ,simprocAttr,rch,cutC_.fv,ValidAssembly_.q,ValidAssembly_.fv,isIndex.q,isIndex.fv,ORC,D.sc,D.scs,scL,decD];obtain⟨s,a,x,y⟩:=a;simp only at hpre⊢;refine⟨hpre,?_⟩;simp only[Qapy];by_cases c0:(Qcl s && Qcp s a)=true
 case neg=>rw[ZaO] at c0;rw[Zak c0,Zak c0]
 have hc: ¬(Qcl s && Qcp s a)=false:=by rw[c0];decide
 rw[Zai hc,Zai hc];intro hl;refine⟨by simp[I64];omega,?_⟩;by_cases d1:Qau x 0 ((a.Tiles.length:Int) - 1)=true
 case neg=>rw[Zai d1,Zak (by rw[ZaO] at d1;rw[d1];rfl)]
 rw[Zak d1];intro _;refine⟨by simp[I64];omega,?_⟩;by_cases d2:Qau y 0 ((a.Tiles.length:Int) - 1)=true
 case neg=>rw[Zai d2,Zak (by rw[ZaO] at d2;rw[d2,Zaz,ZbX])]
 by_cases d3:x=y
 .rw[Zak d2,Zak d3,Zak (by rw[Zbe (fun h=>h d3),ZbX,ZbX])]
 rw[Zak d2,Zai d3,Zai (by rw[d1,d2,Zbw d3];decide)]
def chkI_.fv(a:Qaa×Asm×Int×Int×(List Int)):Int×Int:=(chkF) (a.1) (a.2.1) (a.2.2.1) (a.2.2.2.1) (a.2.2.2.2)
def chkI_.row:Row:=vKF (b5 (qR Qaa.d_le) (qR Asm.d_le) qI qI (qS Qb3 Qant)) (r2 rI rI) (fun a=>Qf6 a.1) chkI_.fv
def chkI_.q:=vKFq (R:=chkI_.row) rfl
def Ybd:=J @chkI_.fv.eq_1<|J @cutC_.q<|J @cutC_.fv.eq_1<|J @bnds.q<|J @bnds.fv.eq_1<|J @bnds.re.eq_1<|J @within_.q @within_.fv.eq_1
theorem chkI_.ok:Qas Tryz.prog 264 chkI_.row:=by
 refine vwF (tC cutC_.ok (tC bnds.ok (tC within_.ok tN))) Tryz.func264 rfl (by kernel_rfl) ?_;intro a hpre;simp only[Tryz.f264,Option.getD];simp(maxSteps:=9^9)(disch:=omega)only[ZZ,simprocAttr,rch,Ybd,ORC,D.sc,D.scs,scL,decD];obtain⟨s,a,x,y,fl⟩:=a;simp only at hpre⊢;refine⟨hpre,?_⟩;by_cases c0:(Qcl s && Qcp s a)=true
 case neg=>
  have e6:Qapy s a x y=1:=by simp only[Qapy];rw[Zak (by simpa using c0)]
  have eF:chkF s a x y fl=(0,1):=by simp only[chkF];rw[Zak (by simpa using c0)]
  rw[e6,Zak (by decide),eF]
 have hc: ¬(Qcl s && Qcp s a)=false:=by rw[c0];decide
 by_cases d0:(Qau x 0 (a.Tiles.length - 1) && (Qau y 0 (a.Tiles.length - 1) && decide (x≠y)))=false
 .have e6:Qapy s a x y=2:=by simp only[Qapy];rw[Zai hc,Zak d0]
  have eF:chkF s a x y fl=(0,2):=by simp only[chkF];rw[Zai hc,Zak d0]
  rw[e6,Zak (by decide),eF]
 have e6:Qapy s a x y=0:=by simp only[Qapy];rw[Zai hc,Zai d0]
 rw[e6,Zai (by simp)];obtain⟨h3,h4⟩:=Qap7 c0;have eF:chkF s a x y fl=if fl.length≠(Qel s a a.Tiles.length).length then (0,10) else chkM (Qel s a a.Tiles.length) fl a.Tiles.length x y:=by simp only[chkF];rw[Zai hc,Zai d0]
 rw[eF];have c0':=c0;simp only[Zaf] at c0';obtain⟨c1,c2⟩:=c0';have h5:=(Qdg c2).2;have hP:=Qro (Qge c1) a a.Tiles.length (Zal _);have hl:=Qh3 s a a.Tiles.length;rw[Zbb] at d0;simp only[Qau,Zaf,Zan] at d0;obtain⟨d1,d2,d3⟩:=d0;refine⟨h3,fun _ _=> ?_⟩;clear h3 h4 e6 eF;obtain⟨bs,hbs⟩: ∃bs,bs=Qel s a a.Tiles.length:=⟨_,rfl⟩;simp only[<-hbs] at hP hl⊢;by_cases d5:fl.length=bs.length
 case neg=>rw[Zak (by omega),Zak d5]
 rw[Zai (by omega),Zai (fun h=>h d5)];intro _;refine⟨by omega,fun _=> ?_⟩;refine Qay.old ⟨{q:Nat×List Int//q.1<=bs.length/\q.2.length=a.Tiles.length/\flR (bs.drop q.1) (fl.drop q.1) q.2=flR bs fl (List.replicate a.Tiles.length 0)},fun q=>⟨[(41,.im (.int .i64 q.1.1)),(40,.im (.int .i64 bs.length)),(39,.im (.sl false 3 (bs.map Bond.c))),(14,.own 2),(4,.im (.sl false 1 (fl.map intC))),(2,.im (.int .i64 x)),(3,.im (.int .i64 y)),(10,.im (.int .i64 0)),(11,.im (.int .i64 0))],[(2,(true,.arr 2 1 (q.1.2.map intC)))],3⟩,fun q=>bs.length - q.1.1,fun q=>⟨by simp[Qad.good,belT,belH,Qam,AV.bel,belL],by simp⟩,⟨⟨(0,List.replicate a.Tiles.length 0),by simp⟩,by simp(maxSteps:=9^9)(disch:=omega)only[ZZ,simprocAttr,rch,Ybd,ORC,D.sc,D.scs,scL,decD,sub,ZdQ]⟩,fun q=> ?_⟩;obtain⟨⟨k,lv⟩,hk1,hk2,hk3⟩:=q;simp only at hk1 hk2 hk3;simp(maxSteps:=9^9)(disch:=omega)only[ZZ,simprocAttr,rch,Ybd,ORC,D.sc,D.scs,scL,decD,sub,Qal,Qap6];have hw:k<bs.length->IntKind.i64.wrap ((k:Int)+1)=((k+1:Nat):Int):=fun h=>by rw[Qak (by omega) (by omega)];omega
 refine⟨fun hk=> ?_,fun hk=> ?_⟩
 .obtain⟨f,hf⟩: ∃f,fl[k]? =some f:=⟨_,Zac (by omega)⟩;obtain⟨b,hb⟩: ∃b,bs[k]? =some b:=⟨_,Zac hk⟩;obtain⟨⟨p1,p2,p3,p4⟩,_,p5,p6⟩:=hP b (Zae hb);rw[Qd3 hb,Qd3 hf,flR] at hk3;have hneg:IntKind.i64.wrap (-b.Strength)= -b.Strength:=Qak (by omega) (by omega);refine⟨by omega,fun b1 e1=>⟨by omega,fun f1 e2=> ?_⟩⟩;obtain rfl:f=f1:=Zaa (hf.symm.trans e2);obtain rfl:b=b1:=Zaa (hb.symm.trans e1);rw[hneg];refine⟨fun c=> ?_,fun c=> ?_⟩
  .rw[Zai (by rw[c];decide)] at hk3;exact (chkM_no hk3.symm).symm
  rw[Zak (by simpa using c)] at hk3;refine⟨by omega,by omega,by omega,fun v1 e5=>⟨by omega,fun f2 e6=> ?_⟩⟩;obtain rfl:f=f2:=Zaa (hf.symm.trans e6);refine⟨by omega,by omega,by omega,fun v2 e7=> ?_⟩;simp only[ZbN];refine⟨by omega,by omega,by omega,fun v3 e9=>⟨by omega,fun f3 e10=> ?_⟩⟩;obtain rfl:f=f3:=Zaa (hf.symm.trans e10);refine⟨by omega,by omega,by omega,fun v4 e11=>⟨⟨(k+1,flS lv b f),by simp only;exact⟨by omega,by rw[flS_len];exact hk2,hk3⟩⟩,by simp only;omega,hw hk,?_⟩⟩;simp only[flS,Zcs,e5,e9,Zad]
 .obtain rfl:k=bs.length:=by omega
  rw[Zaq (Zal _),flR] at hk3;rw[Qap5 hk3.symm];intro _;refine Qay.old ⟨{i:Nat//i<=a.Tiles.length/\ ∀(j:Nat) (v:Int),j<i->lv[j]? =some v->v=0\/(j:Int)=x\/(j:Int)=y},fun i=>⟨[(82,.im (.int .i64 i.1)),(81,.im (.int .i64 lv.length)),(80,.own 2),(14,.own 2),(2,.im (.int .i64 x)),(3,.im (.int .i64 y)),(10,.im (.int .i64 0)),(11,.im (.int .i64 0))],[(2,(true,.arr 2 1 (lv.map intC)))],3⟩,fun i=>a.Tiles.length - i.1,fun i=>⟨by simp[Qad.good,belT,belH,Qam,AV.bel,belL],by simp⟩,⟨⟨0,by simp⟩,by simp(maxSteps:=9^9)(disch:=omega)only[ZZ,simprocAttr,rch,Ybd,ORC,D.sc,D.scs,scL,decD,sub]⟩,fun i=> ?_⟩;obtain⟨i,hi1,hi2⟩:=i;simp(maxSteps:=9^9)(disch:=omega)only[ZZ,simprocAttr,rch,Ybd,ORC,D.sc,D.scs,scL,decD,sub,Qal];have hnx:i<a.Tiles.length->(∀v,lv[i]? =some v->v=0\/(i:Int)=x\/(i:Int)=y)-> ∃b':{i:Nat//i<=a.Tiles.length/\ ∀(j:Nat) (v:Int),j<i->lv[j]? =some v->v=0\/(j:Int)=x\/(j:Int)=y},a.Tiles.length - b'.1<a.Tiles.length - i/\IntKind.i64.wrap ((i:Int)+1)=(b'.1:Int):=fun h1 h2=>
   ⟨⟨i+1,by omega,fun j v hj hv=>by
     rcases ZbA j i with h|h
     .exact hi2 j v h hv
     .obtain rfl:j=i:=by omega
      exact h2 v hv⟩,by simp only;omega,by rw[Qak (by omega) (by omega)];simp only;omega⟩
  refine⟨fun hi=>⟨hi,hi,fun v hv=>⟨fun g3=>⟨fun g1=>⟨fun g2=> ?_,fun g2=>hnx (by omega) fun _ _=> .inr (.inr (ZaY.1 g2))⟩,fun g1=>hnx (by omega) fun _ _=> .inr (.inl (ZaY.1 g1))⟩,fun g3=>hnx (by omega) fun v' hv'=> .inl ?_⟩⟩,fun hi=>⟨d1.1,by omega,by omega,fun v hv=> ?_⟩⟩
  .rw[Zai (fun h=> ?_)];rcases Qaps.1 h i v hv with h|h|h
   .exact g3 h
   .exact g1 h
   .exact g2 h
  .rw[hv] at hv';rw[<-Zaa hv'];exact ZaY.1 g3
  .rw[Zak (Qaps.2 fun j w hw=>hi2 j w (by have:=(Zaj.1 hw).1;omega) hw),Zcs,hv,Zad]
structure GrP where
 Seq:List Opt
 deriving DecidableEq
def GrP.c(x:GrP):List D:=[.sl false 3 (x.Seq.map Opt.c)]
def GrP.d:List D->Option GrP
 |[.sl _ _ x0]=>(decR Opt.d x0).bind fun y0=>some ⟨y0⟩
 |_=>none
theorem GrP.d_le: ∀ds x,GrP.d ds=some x->LeS ds (GrP.c x):=by
 intro ds x h;unfold GrP.d at h;split at h
 .simp only[Zaw,Zab] at h;obtain⟨y0,h0,rfl⟩:=h;exact⟨Qbf (Qa2 Opt.d_le _ _ h0) (by simp[Opt.c]),trivial⟩
 .cases h
theorem GrP.len(x:GrP):(GrP.c x).length=1:=rfl
structure CfP where
 One:List Opt
 Two:List Opt
 deriving DecidableEq
def CfP.c(x:CfP):List D:=[.sl false 3 (x.One.map Opt.c),.sl false 3 (x.Two.map Opt.c)]
def CfP.d:List D->Option CfP
 |[.sl _ _ x0,.sl _ _ x1]=>(decR Opt.d x0).bind fun y0=>(decR Opt.d x1).bind fun y1=>some ⟨y0,y1⟩
 |_=>none
theorem CfP.d_le: ∀ds x,CfP.d ds=some x->LeS ds (CfP.c x):=by
 intro ds x h;unfold CfP.d at h;split at h
 .simp only[Zaw,Zab] at h;obtain⟨y0,h0,y1,h1,rfl⟩:=h;exact⟨Qbf (Qa2 Opt.d_le _ _ h0) (by simp[Opt.c]),Qbf (Qa2 Opt.d_le _ _ h1) (by simp[Opt.c]),trivial⟩
 .cases h
theorem CfP.len(x:CfP):(CfP.c x).length=2:=rfl
structure StP where
 Flows:List (List Int)
 deriving DecidableEq
def StP.c(x:StP):List D:=[.sl false 1 (x.Flows.map Qcd)]
def StP.d:List D->Option StP
 |[.sl _ _ x0]=>(decR Qpb x0).bind fun y0=>some ⟨y0⟩
 |_=>none
theorem StP.d_le: ∀ds x,StP.d ds=some x->LeS ds (StP.c x):=by
 intro ds x h;unfold StP.d at h;split at h
 .simp only[Zaw,Zab] at h;obtain⟨y0,h0,rfl⟩:=h;exact⟨Qbf (Qa2 Qj4 _ _ h0) (by simp[Qcd]),trivial⟩
 .cases h
theorem StP.len(x:StP):(StP.c x).length=1:=rfl
structure LoP where
 Part:List Int
 deriving DecidableEq
def LoP.c(x:LoP):List D:=[.sl false 1 (x.Part.map intC)]
def LoP.d:List D->Option LoP
 |[.sl _ _ x0]=>(decR intD x0).bind fun y0=>some ⟨y0⟩
 |_=>none
theorem LoP.d_le: ∀ds x,LoP.d ds=some x->LeS ds (LoP.c x):=by
 intro ds x h;unfold LoP.d at h;split at h
 .simp only[Zaw,Zab] at h;obtain⟨y0,h0,rfl⟩:=h;exact⟨Qbf (Qa2 Qb3 _ _ h0) (by simp[intC]),trivial⟩
 .cases h
theorem LoP.len(x:LoP):(LoP.c x).length=1:=rfl
def ckE:Option Qajo->D
 |none=> .nili
 |some p=>if p.Kind=1 then .ifc 114 (.agg (GrP.c ⟨p.Sequence⟩)) else if p.Kind=2 then .ifc 116 (.agg (GrP.c ⟨p.Sequence⟩)) else if p.Kind=3 then .ifc 117 (.agg (GrP.c ⟨p.Sequence⟩))
  else if p.Kind=4 then .ifc 120 (.agg (CfP.c ⟨p.Sequence,p.Other⟩)) else if p.Kind=5 then .ifc 122 (.agg (StP.c ⟨p.Flows⟩)) else .ifc 124 (.agg (LoP.c ⟨p.Part⟩))
def ckD:D->Option (Option Qajo)
 | .nili=>some none
 | .ifc t (.agg ds)=>if t=114 then (GrP.d ds).map fun g=>some ⟨1,g.Seq,[],[],[]⟩ else if t=116 then (GrP.d ds).map fun g=>some ⟨2,g.Seq,[],[],[]⟩ else if t=117 then (GrP.d ds).map fun g=>some ⟨3,g.Seq,[],[],[]⟩
   else if t=120 then (CfP.d ds).map fun g=>some ⟨4,g.One,g.Two,[],[]⟩ else if t=122 then (StP.d ds).map fun g=>some ⟨5,[],[],[],g.Flows⟩ else if t=124 then (LoP.d ds).map fun g=>some ⟨6,[],[],g.Part,[]⟩ else none
 |_=>none
theorem ckD_le: ∀d b,ckD d=some b->Le d (ckE b):=by
 intro d b h;unfold ckD at h;split at h
 .obtain rfl:=Zaa h;exact Le.refl _
 .repeat (first
   |(split at h
     .rename_i c;obtain⟨g,h1,rfl⟩:=Zay.1 h;rw[c]
      first
       |exact Qapt (Qav (GrP.d_le _ _ h1))
       |exact Qapt (Qav (CfP.d_le _ _ h1))
       |exact Qapt (Qav (StP.d_le _ _ h1))
       |exact Qapt (Qav (LoP.d_le _ _ h1)))
   |(cases h))
 .cases h
theorem ifcK:isIfc Tryz.prog 78=true:=by kernel_rfl
theorem cK1:Qapw Tryz.prog 114=true:=by kernel_rfl
theorem cK2:Qapw Tryz.prog 116=true:=by kernel_rfl
theorem cK3:Qapw Tryz.prog 117=true:=by kernel_rfl
theorem cK4:Qapw Tryz.prog 120=true:=by kernel_rfl
theorem cK5:Qapw Tryz.prog 122=true:=by kernel_rfl
theorem cK6:Qapw Tryz.prog 124=true:=by kernel_rfl
theorem mR1:Qak8 Tryz.prog 114 "loop.example/g01081/impl.right" =some 189:=by kernel_rfl
theorem mR2:Qak8 Tryz.prog 116 "loop.example/g01081/impl.right" =some 222:=by kernel_rfl
theorem mR3:Qak8 Tryz.prog 117 "loop.example/g01081/impl.right" =some 224:=by kernel_rfl
theorem mR4:Qak8 Tryz.prog 120 "loop.example/g01081/impl.right" =some 261:=by kernel_rfl
theorem mR5:Qak8 Tryz.prog 122 "loop.example/g01081/impl.right" =some 263:=by kernel_rfl
theorem mR6:Qak8 Tryz.prog 124 "loop.example/g01081/impl.right" =some 266:=by kernel_rfl
theorem opt_beq(x y:Opt):(x.At.X==y.At.X && (x.At.Y==y.At.Y && x.Tile==y.Tile))=decide (x=y):=by
 obtain⟨⟨a,b⟩,c⟩:=x;obtain⟨⟨d,e⟩,f⟩:=y;rw[Zco];simp[Zem]
def EqualO.fv(a:(List Opt)×(List Opt)):Bool:=(fun a b=>decide (a=b)) (a.1) (a.2)
def EqualO.row:Row:=vK (b2 (qS Opt.d_le Opt.c_n) (qS Opt.d_le Opt.c_n)) rB (fun a=>True) EqualO.fv
def EqualO.q:=vKq (R:=EqualO.row) rfl
theorem EqualO.ok:Qas Tryz.prog 87 EqualO.row:=by
 refine vw tN Tryz.func87 rfl (by kernel_rfl) ?_;intro a hpre;simp only[Tryz.f87,Option.getD];simp(maxSteps:=9^9)(disch:=omega)only[ZZ,simprocAttr,rch,EqualO.fv];intro h1 h2;simp only[Qal];refine⟨fun hl=> ?_,fun hl=> ?_⟩
 .have:a.1≠a.2:=fun h=>hl (by rw[h])
  simp[this]
 have hl:a.1.length=a.2.length:=by omega
 intro _;refine Qay.old ⟨{k:Nat//k<=a.1.length/\a.1.take k=a.2.take k},fun k=>⟨[(13,.im (.int .i64 k.1)),(12,.im (.int .i64 a.1.length)),(11,.im (.sl false 3 (a.1.map Opt.c))),(4,.im (.bool false)),(0,.im (.sl false 3 (a.1.map Opt.c))),(1,.im (.sl false 3 (a.2.map Opt.c)))],[],0⟩,fun k=>a.1.length - k.1,fun k=>⟨by simp[Qad.good,belT,belH,Qam,AV.bel,belL],Zal _⟩,⟨⟨0,by simp⟩,by simp(maxSteps:=9^9)(disch:=omega)only[ZZ,simprocAttr,rch,EqualO.fv,sub]⟩,fun k=> ?_⟩;obtain⟨k,hk1,hk2⟩:=k;simp(maxSteps:=9^9)(disch:=omega)only[ZZ,simprocAttr,rch,EqualO.fv,sub,Qal,opt_beq];refine⟨fun hk=>⟨hk,fun x hx=>⟨by omega,fun y hy=> ?_⟩⟩,fun hk=> ?_⟩
 .obtain⟨g1,g2⟩:=Qew hl hk1 hk2 hx hy;refine⟨fun h=> ?_,fun h=>Qb6 hk h1 ⟨by omega,g1 (by simpa using h)⟩⟩
  have:=g2 (by simpa using h)
  simp[this]
 .rw[Zap (by omega),Zap (by omega)] at hk2;simp[hk2]
def EqualI.fv(a:(List Int)×(List Int)):Bool:=(fun a b=>decide (a=b)) (a.1) (a.2)
def EqualI.row:Row:=vK (b2 (qS Qb3 Qant) (qS Qb3 Qant)) rB (fun a=>True) EqualI.fv
def EqualI.q:=vKq (R:=EqualI.row) rfl
theorem EqualI.ok:Qas Tryz.prog 88 EqualI.row:=by
 refine vw tN Tryz.func88 rfl (by kernel_rfl) ?_;intro a hpre;simp only[Tryz.f88,Option.getD];simp(maxSteps:=9^9)(disch:=omega)only[ZZ,simprocAttr,rch,EqualI.fv];intro h1 h2;simp only[Qal];refine⟨fun hl=> ?_,fun hl=> ?_⟩
 .have:a.1≠a.2:=fun h=>hl (by rw[h])
  simp[this]
 have hl:a.1.length=a.2.length:=by omega
 intro _;refine Qay.old ⟨{k:Nat//k<=a.1.length/\a.1.take k=a.2.take k},fun k=>⟨[(13,.im (.int .i64 k.1)),(12,.im (.int .i64 a.1.length)),(11,.im (.sl false 1 (a.1.map intC))),(4,.im (.bool false)),(0,.im (.sl false 1 (a.1.map intC))),(1,.im (.sl false 1 (a.2.map intC)))],[],0⟩,fun k=>a.1.length - k.1,fun k=>⟨by simp[Qad.good,belT,belH,Qam,AV.bel,belL],Zal _⟩,⟨⟨0,by simp⟩,by simp(maxSteps:=9^9)(disch:=omega)only[ZZ,simprocAttr,rch,EqualI.fv,sub]⟩,fun k=> ?_⟩;obtain⟨k,hk1,hk2⟩:=k;simp(maxSteps:=9^9)(disch:=omega)only[ZZ,simprocAttr,rch,EqualI.fv,sub,Qal];refine⟨fun hk=>⟨hk,fun x hx=>⟨by omega,fun y hy=> ?_⟩⟩,fun hk=> ?_⟩
 .obtain⟨g1,g2⟩:=Qew hl hk1 hk2 hx hy;refine⟨fun h=> ?_,fun h=>Qb6 hk h1 ⟨by omega,g1 (by simpa using h)⟩⟩
  have:=g2 (by simpa using h)
  simp[this]
 .rw[Zap (by omega),Zap (by omega)] at hk2;simp[hk2]
def EqFn.ar:List PK->Option ((List (List Int))×(List (List Int))×Unit)
 |[.val (.sl _ _ x0),.val (.sl _ _ x1),.val (.fn 88 [] [])]=>(decR Qpb x0).bind fun y0=>(decR Qpb x1).bind fun y1=>some (y0,y1,())
 |_=>none
def EqFn.ae(a:(List (List Int))×(List (List Int))×Unit):List PK:=[.val (.sl false 1 (a.1.map Qcd)),.val (.sl false 1 (a.2.1.map Qcd)),.val (.fn 88 [] [])]
theorem EqFn.le: ∀ps a,EqFn.ar ps=some a->LeKL ps (EqFn.ae a):=by
 intro ps a h;unfold EqFn.ar at h;split at h
 .simp only[Zaw,Zab] at h;obtain⟨y0,h0,y1,h1,rfl⟩:=h;exact⟨Qbf (Qa2 Qj4 _ _ h0) (by simp only[ZaM];rintro r ⟨y,_,rfl⟩;rfl),Qbf (Qa2 Qj4 _ _ h1) (by simp only[ZaM];rintro r ⟨y,_,rfl⟩;rfl),LeK.refl _,trivial⟩
 .cases h
def EqFn.fv(a:(List (List Int))×(List (List Int))×Unit):Bool:=(fun a b _=>decide (a=b)) (a.1) (a.2.1) (a.2.2)
def EqFn.row:Row:=vrow EqFn.ar (fun a=>True) (fun a=>(D.bool) (EqFn.fv a))
def EqFn.q:=vq EqFn.row rfl
def Ybe:=J @EqFn.ae.eq_1<|J @EqFn.fv.eq_1<|J @EqualI.q @EqualI.fv.eq_1
theorem EqFn.ok:Qas Tryz.prog 89 EqFn.row:=by
 refine Qaj Qaq (tC EqualI.ok tN) Tryz.func89 rfl (by kernel_rfl) (by kernel_rfl) (ar:=EqFn.ar) (ae:=EqFn.ae) EqFn.le (n:=3) (fun _=>rfl) (by decide) (rc:=(Qa8)) (re:=(D.bool)) (Qat) (f:=EqFn.fv) ?_;intro a hpre;simp only[Tryz.f89,Option.getD];simp(maxSteps:=9^9)(disch:=omega)only[ZZ,simprocAttr,rch,Ybe];intro h1 h2;simp only[Qal];refine⟨fun hl=> ?_,fun hl=> ?_⟩
 .have:a.1≠a.2.1:=fun h=>hl (by rw[h])
  simp[this]
 have hl:a.1.length=a.2.1.length:=by omega
 intro _;refine Qay.old ⟨{k:Nat//k<=a.1.length/\a.1.take k=a.2.1.take k},fun k=>⟨[(17,.im (.int .i64 k.1)),(16,.im (.int .i64 a.1.length)),(15,.im (.sl false 1 (a.1.map Qcd))),(6,.im (.bool false)),(1,.im (.sl false 1 (a.2.1.map Qcd))),(2,.im (.fn 88 [] []))],[],0⟩,fun k=>a.1.length - k.1,fun k=>⟨by simp[Qad.good,belT,belH,Qam,AV.bel,belL],Zal _⟩,⟨⟨0,by simp⟩,by simp(maxSteps:=9^9)(disch:=omega)only[ZZ,simprocAttr,rch,Ybe,sub]⟩,fun k=> ?_⟩;obtain⟨k,hk1,hk2⟩:=k;simp(maxSteps:=9^9)(disch:=omega)only[ZZ,simprocAttr,rch,Ybe,sub,Qal];refine⟨fun hk=>⟨hk,fun x hx=>⟨by omega,fun y hy=> ?_⟩⟩,fun hk=> ?_⟩
 .obtain⟨g1,g2⟩:=Qew hl hk1 hk2 hx hy;refine⟨fun h=> ?_,fun h=>Qb6 hk h1 ⟨by omega,g1 (by simpa using h)⟩⟩
  have:=g2 (by simpa using h)
  simp[this]
 .rw[Zap (by omega),Zap (by omega)] at hk2;simp[hk2]
def samePf.fv(a:Qajo×Qajo):Bool:=(fun a b=>decide (a=b)) (a.1) (a.2)
def samePf.row:Row:=vK (b2 (qR Qajo.d_le) (qR Qajo.d_le)) rB (fun a=>True) samePf.fv
def samePf.q:=vKq (R:=samePf.row) rfl
theorem samePf.ok:Qas Tryz.prog 53 samePf.row:=by
 refine vw (tC EqualO.ok (tC EqualI.ok (tC EqFn.ok tN))) Tryz.func53 rfl (by kernel_rfl) ?_;intro a hpre;simp only[Tryz.f53,Option.getD];simp(maxSteps:=9^9)(disch:=omega)only[ZZ,simprocAttr,rch,samePf.fv,EqualO.q,EqualO.fv,EqualI.q,EqualI.fv,EqFn.q,EqFn.ar,EqFn.fv];obtain⟨⟨k,x,y,z,w⟩,⟨k',x',y',z',w'⟩⟩:=a;simp only[Qajo.mk.injEq]
 grind
theorem lk31(a b c:D)(Ks:D->Prop)(Kn:Prop):LkVC [(.int .i64 1,a),(.int .i64 2,b),(.int .i64 3,c)] (.int .i64 1) Ks Kn=Ks a:=by
 have h:lk [(.int .i64 1,a),(.int .i64 2,b),(.int .i64 3,c)] (.int .i64 1)=some a:=rfl;unfold LkVC;rw[h];simp
theorem lk32(a b c:D)(Ks:D->Prop)(Kn:Prop):LkVC [(.int .i64 1,a),(.int .i64 2,b),(.int .i64 3,c)] (.int .i64 2) Ks Kn=Ks b:=by
 have h:lk [(.int .i64 1,a),(.int .i64 2,b),(.int .i64 3,c)] (.int .i64 2)=some b:=rfl;unfold LkVC;rw[h];simp
theorem lk33(a b c:D)(Ks:D->Prop)(Kn:Prop):LkVC [(.int .i64 1,a),(.int .i64 2,b),(.int .i64 3,c)] (.int .i64 3) Ks Kn=Ks c:=by
 have h:lk [(.int .i64 1,a),(.int .i64 2,b),(.int .i64 3,c)] (.int .i64 3)=some c:=rfl;unfold LkVC;rw[h];simp
def ckF(p:Qajo):Option Qajo:=if fldB p=true then some p else none
def chkr_.fv(a:Qajo):Option Qajo:=(ckF) a
def chkr_.row:Row:=vK (b1 (qR Qajo.d_le)) (RK.mk (ckD) (ckE) (ckD_le)) (fun a=>1<=a.Kind/\a.Kind<=6) chkr_.fv
def chkr_.q:=vKq (R:=chkr_.row) rfl
def Ybf:=J @chkr_.fv.eq_1 (J @samePf.q @samePf.fv.eq_1)
theorem chkr_.ok:Qas Tryz.prog 31 chkr_.row:=by
 refine vw (tC samePf.ok tN) Tryz.func31 rfl (by kernel_rfl) ?_;intro a hpre;simp only[Tryz.f31,Option.getD];obtain⟨k,s,o,p,f⟩:=a;simp only at hpre⊢;have h6:k=1\/k=2\/k=3\/k=4\/k=5\/k=6:=by omega
 rcases h6 with rfl|rfl|rfl|rfl|rfl|rfl
 .simp(maxSteps:=9^9)(disch:=omega)only[ZZ,simprocAttr,rch,Ybf,ifcK,cK1,cK2,cK3,cK4,cK5,cK6,GrP.c,GrP.d,CfP.c,CfP.d,StP.c,StP.d,LoP.c,LoP.d,lk31];by_cases u1:s=[]<;>by_cases u2:o=[]<;>by_cases u3:p=[]<;>by_cases u4:f=[]<;>simp_all [ckF,fldB,ckD,GrP.d,CfP.d,StP.d,LoP.d,Opt.d_R,Qxv,Qmp,decR]
 .simp(maxSteps:=9^9)(disch:=omega)only[ZZ,simprocAttr,rch,Ybf,ifcK,cK1,cK2,cK3,cK4,cK5,cK6,GrP.c,GrP.d,CfP.c,CfP.d,StP.c,StP.d,LoP.c,LoP.d,lk32];by_cases u1:s=[]<;>by_cases u2:o=[]<;>by_cases u3:p=[]<;>by_cases u4:f=[]<;>simp_all [ckF,fldB,ckD,GrP.d,CfP.d,StP.d,LoP.d,Opt.d_R,Qxv,Qmp,decR]
 .simp(maxSteps:=9^9)(disch:=omega)only[ZZ,simprocAttr,rch,Ybf,ifcK,cK1,cK2,cK3,cK4,cK5,cK6,GrP.c,GrP.d,CfP.c,CfP.d,StP.c,StP.d,LoP.c,LoP.d,lk33];by_cases u1:s=[]<;>by_cases u2:o=[]<;>by_cases u3:p=[]<;>by_cases u4:f=[]<;>simp_all [ckF,fldB,ckD,GrP.d,CfP.d,StP.d,LoP.d,Opt.d_R,Qxv,Qmp,decR]
 .simp(maxSteps:=9^9)(disch:=omega)only[ZZ,simprocAttr,rch,Ybf,ifcK,cK1,cK2,cK3,cK4,cK5,cK6,GrP.c,GrP.d,CfP.c,CfP.d,StP.c,StP.d,LoP.c,LoP.d];by_cases u1:s=[]<;>by_cases u2:o=[]<;>by_cases u3:p=[]<;>by_cases u4:f=[]<;>simp_all [ckF,fldB,ckD,GrP.d,CfP.d,StP.d,LoP.d,Opt.d_R,Qxv,Qmp,decR]
 .simp(maxSteps:=9^9)(disch:=omega)only[ZZ,simprocAttr,rch,Ybf,ifcK,cK1,cK2,cK3,cK4,cK5,cK6,GrP.c,GrP.d,CfP.c,CfP.d,StP.c,StP.d,LoP.c,LoP.d];by_cases u1:s=[]<;>by_cases u2:o=[]<;>by_cases u3:p=[]<;>by_cases u4:f=[]<;>simp_all [ckF,fldB,ckD,GrP.d,CfP.d,StP.d,LoP.d,Opt.d_R,Qxv,Qmp,decR]
 .simp(maxSteps:=9^9)(disch:=omega)only[ZZ,simprocAttr,rch,Ybf,ifcK,cK1,cK2,cK3,cK4,cK5,cK6,GrP.c,GrP.d,CfP.c,CfP.d,StP.c,StP.d,LoP.c,LoP.d];by_cases u1:s=[]<;>by_cases u2:o=[]<;>by_cases u3:p=[]<;>by_cases u4:f=[]<;>simp_all [ckF,fldB,ckD,GrP.d,CfP.d,StP.d,LoP.d,Opt.d_R,Qxv,Qmp,decR]
def gr_.fv(a:GrP×Qar×Asm):Bool:=(fun g s a=>ledB s g.Seq a) (a.1) (a.2.1) (a.2.2)
def gr_.row:Row:=vK (b3 (qR GrP.d_le) (qR Qar.d_le) (qR Asm.d_le)) rB (fun a=>Qf6 a.2.1.Set) gr_.fv
def gr_.q:=vKq (R:=gr_.row) rfl
theorem gr_.ok:Qas Tryz.prog 189 gr_.row:=by
 refine vw (tC PlayI_.ok (tC SameAsm.ok tN)) Tryz.func189 rfl (by kernel_rfl) ?_;intro a hpre;simp only[Tryz.f189,Option.getD];simp(maxSteps:=9^9)(disch:=omega)only[ZZ,simprocAttr,rch,gr_.fv,PlayI_.q,PlayI_.fv,SameAsm.q,SameAsm.fv,ifcK,cK1,cK2,cK3,cK4,cK5,cK6,GrP.c,GrP.d,CfP.c,CfP.d,StP.c,StP.d,LoP.c,LoP.d];obtain⟨g,s,a⟩:=a;simp only at hpre⊢;refine⟨hpre,?_⟩;rw[Qap0];simp only[ledB];split
 .rename_i c;rw[Zbw c,ZaD,Zdb];exact eq_comm
 .rename_i c;rw[Zbe c,Zaz]
def tm_.fv(a:GrP×Qar×Asm):Bool:=(fun g s a=>ledB s g.Seq a && decide (Qaj8 s a=[])) (a.1) (a.2.1) (a.2.2)
def tm_.row:Row:=vK (b3 (qR GrP.d_le) (qR Qar.d_le) (qR Asm.d_le)) rB (fun a=>Qf6 a.2.1.Set/\askC a.2.1 a.2.2=0) tm_.fv
def tm_.q:=vKq (R:=tm_.row) rfl
def Ybg:=J @tm_.fv.eq_1 (J @gr_.q @gr_.fv.eq_1)
theorem tm_.ok:Qas Tryz.prog 222 tm_.row:=by
 refine vw (tC gr_.ok (tC newC.ok (tC cntC.ok tN))) Tryz.func222 rfl (by kernel_rfl) ?_;intro a hpre;simp only[Tryz.f222,Option.getD];simp(maxSteps:=9^9)(disch:=omega)only[ZZ,simprocAttr,rch,Ybg,ifcK,cK1,cK2,cK3,cK4,cK5,cK6,GrP.c,GrP.d,CfP.c,CfP.d,StP.c,StP.d,LoP.c,LoP.d];obtain⟨g,s,a⟩:=a;obtain⟨h1,h2⟩:=hpre;simp only at h1 h2⊢;obtain⟨q1,q2⟩:=ask0 h2;obtain⟨g1,g2,g3,g4⟩:=ops_ok q1 q2;refine⟨h1,?_⟩;by_cases c:ledB s g.Seq a=true
 case neg=>rw[Zai c];rw[ZaO] at c;rw[c,Zaz]
 rw[Zak c,c,ZaD];refine orow.os (s,a) [] g1 (fun j=>by simp[domB,hget]) rfl rfl ?_ ?_
 .simp(maxSteps:=9^9)(disch:=omega)only[ZZ,simprocAttr,rch,Ybg,newC.ca,Qer,Qar.c,Asm.c]
 simp(maxSteps:=9^9)(disch:=omega)only[ZZ,simprocAttr,rch,Ybg,newC.H1,sub];refine orow.os (Qui s a) [7,5,6] ⟨g3,g2⟩ (fun j=>Qack _ j) rfl rfl ?_ ?_
 .simp(maxSteps:=9^9)(disch:=omega)only[ZZ,simprocAttr,rch,Ybg,asmC.ca,cryH,Qbk,Zbg,Zbi,ZbT]
  try exact⟨rfl,rfl,rfl,rfl⟩
 .simp(maxSteps:=9^9)(disch:=omega)only[ZZ,simprocAttr,rch,Ybg,cntC.H1,kl2',sub,Zbi,ZbT];rw[Zdb];constructor
  .intro h;exact Zcb fun hn=>by have:=g4.2 hn;omega
  .intro h
   have: ¬0<cntO (Qui s a).Op:=fun hn=>g4.1 hn h
   omega
def un_.fv(a:GrP×Qar×Asm):Bool:=(fun g s a=>ledB s g.Seq a && decide ((lfF s g.Seq).2.2=3)) (a.1) (a.2.1) (a.2.2)
def un_.row:Row:=vK (b3 (qR GrP.d_le) (qR Qar.d_le) (qR Asm.d_le)) rB (fun a=>Qf6 a.2.1.Set) un_.fv
def un_.q:=vKq (R:=un_.row) rfl
theorem un_.ok:Qas Tryz.prog 224 un_.row:=by
 refine vw (tC gr_.ok (tC islI_.ok tN)) Tryz.func224 rfl (by kernel_rfl) ?_;intro a hpre;simp only[Tryz.f224,Option.getD];simp(maxSteps:=9^9)(disch:=omega)only[ZZ,simprocAttr,rch,un_.fv,gr_.q,gr_.fv,islI_.q,islI_.fv,ifcK,cK1,cK2,cK3,cK4,cK5,cK6,GrP.c,GrP.d,CfP.c,CfP.d,StP.c,StP.d,LoP.c,LoP.d];obtain⟨g,s,a⟩:=a;simp only at hpre⊢;refine⟨hpre,?_⟩;split
 .rename_i c;rw[c,ZaD];exact⟨hpre,rfl⟩
 .rename_i c;rw[ZaO] at c;rw[c,Zaz]
def last_.fv(a:(List Opt)):Opt:=(Qapl) a
def last_.row:Row:=vK (b1 (qS Opt.d_le Opt.c_n)) (rA Opt.d_le) (fun a=>a≠[]) last_.fv
def last_.q:=vKq (R:=last_.row) rfl
theorem last_.ok:Qas Tryz.prog 262 last_.row:=by
 refine vw tN Tryz.func262 rfl (by kernel_rfl) ?_;intro a hpre;simp only[Tryz.f262,Option.getD];simp(maxSteps:=9^9)(disch:=omega)only[ZZ,simprocAttr,rch,last_.fv];intro _
 have:0<a.length:=ZbP.2 hpre
 rw[Qak (x:=(a.length:Int) - 1) (by omega) (by omega)];refine⟨by omega,by omega,fun x hx=> ?_⟩;rw[Qapu hpre (by rw[show ((a.length:Int) - 1).toNat=a.length - 1 by omega] at hx;exact hx)]
def cf_.fv(a:CfP×Qar×Asm):Bool:=(fun g s a=>cnfB s g.One g.Two a) (a.1) (a.2.1) (a.2.2)
def cf_.row:Row:=vK (b3 (qR CfP.d_le) (qR Qar.d_le) (qR Asm.d_le)) rB (fun a=>Qf6 a.2.1.Set) cf_.fv
def cf_.q:=vKq (R:=cf_.row) rfl
theorem cf_.ok:Qas Tryz.prog 261 cf_.row:=by
 refine vw (tC gr_.ok (tC PlayI_.ok (tC last_.ok tN))) Tryz.func261 rfl (by kernel_rfl) ?_;intro a hpre;simp only[Tryz.f261,Option.getD];simp(maxSteps:=9^9)(disch:=omega)only[ZZ,simprocAttr,rch,cf_.fv,gr_.q,gr_.fv,PlayI_.q,PlayI_.fv,last_.q,last_.fv,ifcK,cK1,cK2,cK3,cK4,cK5,cK6,GrP.c,GrP.d,CfP.c,CfP.d,StP.c,StP.d,LoP.c,LoP.d];obtain⟨g,s,a⟩:=a;simp only at hpre⊢;rw[Qap0];intro hl;by_cases c1:g.One=[]
 .rw[Zai (by simp[c1])];simp only[cnfB];rw[Zbe (fun h=>h c1),Zaz]
 have c1':0<g.One.length:=ZbP.2 c1;rw[Zak (by omega)];intro hm;by_cases c2:g.Two=[]
 .rw[Zai (by simp[c2])];simp only[cnfB];rw[Zbe (p:=g.Two≠[]) (fun h=>h c2),Zaz,ZbX]
 have c2':0<g.Two.length:=ZbP.2 c2;rw[Zak (by omega)];have e:cnfB s g.One g.Two a=(ledB s g.One a && (decide ((seqS s g.Two).2.2=0) && (decide ((Qapl g.One).At=(Qapl g.Two).At) && decide ((Qapl g.One).Tile≠(Qapl g.Two).Tile)))):=by
  simp only[cnfB];rw[Zbw c1,Zbw c2,ZaD,ZaD]
 rw[e];refine⟨hpre,?_⟩;by_cases c3:ledB s g.One a=true
 case neg=>rw[ZaO] at c3;rw[c3,Zak rfl,Zaz]
 rw[c3,Zai (by decide),ZaD];refine⟨hpre,c1,c2,?_⟩;by_cases c4:(seqS s g.Two).2.2=0
 case neg=>rw[Zai c4,Zbe c4,Zaz]
 rw[Zak c4,Zbw c4,ZaD];by_cases c5:(Qapl g.One).At=(Qapl g.Two).At
 .rw[Zak (Qanl.2 c5),Zbw c5,ZaD];simp
 .rw[Zai (fun h=>c5 (Qanl.1 h)),Zbe c5,Zaz]
def st_.fv(a:StP×Qar×Asm):Bool:=(fun g s a=>stbB s a g.Flows) (a.1) (a.2.1) (a.2.2)
def st_.row:Row:=vK (b3 (qR StP.d_le) (qR Qar.d_le) (qR Asm.d_le)) rB (fun a=>Qf6 a.2.1.Set/\askC a.2.1 a.2.2=0) st_.fv
def st_.q:=vKq (R:=st_.row) rfl
theorem st_.ok:Qas Tryz.prog 263 st_.row:=by
 refine vw (tC chkI_.ok tN) Tryz.func263 rfl (by kernel_rfl) ?_;intro a hpre;simp only[Tryz.f263,Option.getD];simp(maxSteps:=9^9)(disch:=omega)only[ZZ,simprocAttr,rch,st_.fv,chkI_.q,chkI_.fv,ifcK,cK1,cK2,cK3,cK4,cK5,cK6,GrP.c,GrP.d,CfP.c,CfP.d,StP.c,StP.d,LoP.c,LoP.d];obtain⟨g,s,a⟩:=a;obtain⟨h1,h2⟩:=hpre;simp only at h1 h2⊢;intro _ _;rw[Qak (x:=(a.Tiles.length:Int) - 1) (by omega) (by omega)];simp only[stbB];by_cases c:(g.Flows.length:Int)=max ((a.Tiles.length:Int) - 1) 0
 case neg=>rw[Zak c,Zbe c,Zaz]
 rw[Zai (fun h=>h c),Zbw c,ZaD];intro _;obtain⟨fl,hfl⟩: ∃fl,fl=g.Flows:=⟨_,rfl⟩;simp only[<-hfl] at c⊢;refine Qay.old ⟨{k:Nat//k<=fl.length/\flwA s.Set a s.Temperature k (fl.drop k)=flwA s.Set a s.Temperature 0 fl},fun k=>⟨[(23,.im (.int .i64 k.1)),(22,.im (.int .i64 fl.length)),(21,.im (.sl false 1 (fl.map Qcd))),(6,.im (.bool false)),(5,.ptr 2 0),(4,.ptr 1 0)],[(2,(true,.cells 46 ((Asm.c a).map .im))),(1,(true,.cells 48 ((Qar.c s).map .im)))],3⟩,fun k=>fl.length - k.1,fun k=>⟨by simp[Qad.good,belT,belH,Qam,AV.bel,belL,Qar.c,Asm.c],by simp⟩,⟨⟨0,by simp⟩,by simp(maxSteps:=9^9)(disch:=omega)only[ZZ,simprocAttr,rch,st_.fv,chkI_.q,chkI_.fv,sub]⟩,fun k=> ?_⟩;obtain⟨k,hk1,hk2⟩:=k;simp(maxSteps:=9^9)(disch:=omega)only[ZZ,simprocAttr,rch,st_.fv,chkI_.q,chkI_.fv,sub,Qal];refine⟨fun hk=>⟨hk,fun x hx=> ?_⟩,fun hk=> ?_⟩
 .have hw:IntKind.i64.wrap ((k:Int)+1)=((k+1:Nat):Int):=by rw[Qak (by omega) (by omega)];omega
  rw[hw];rw[Qd3 hx,flwA] at hk2;have eb:flwB s.Set a s.Temperature k x=decide ((chkF s.Set a 0 ((k+1:Nat):Int) x).2=0/\s.Temperature<=(chkF s.Set a 0 ((k+1:Nat):Int) x).1):=by simp only[flwB];rfl
  rw[eb] at hk2;refine⟨h1,fun c1=>⟨fun c2=> ?_,fun c2=>⟨⟨k+1,by omega,?_⟩,by simp only;omega,rfl⟩⟩,fun c1=> ?_⟩
  .rw[Zbe (fun h=>by omega),Zaz] at hk2;exact hk2
  .rw[Zbw ⟨c1,by omega⟩,ZaD] at hk2;exact hk2
  .rw[Zbe (fun h=>c1 h.1),Zaz] at hk2;exact hk2
 .rw[Zaq (by omega),flwA] at hk2;exact hk2
def lo_.fv(a:LoP×Qar×Asm):Bool:=(fun g s a=>losB s a g.Part) (a.1) (a.2.1) (a.2.2)
def lo_.row:Row:=vK (b3 (qR LoP.d_le) (qR Qar.d_le) (qR Asm.d_le)) rB (fun a=>Qf6 a.2.1.Set/\askC a.2.1 a.2.2=0) lo_.fv
def lo_.q:=vKq (R:=lo_.row) rfl
theorem lo_.ok:Qas Tryz.prog 266 lo_.row:=by
 refine vw (tC cutS_.ok tN) Tryz.func266 rfl (by kernel_rfl) ?_;intro a hpre;simp only[Tryz.f266,Option.getD];simp(maxSteps:=9^9)(disch:=omega)only[ZZ,simprocAttr,rch,lo_.fv,cutS_.q,cutS_.fv,ifcK,cK1,cK2,cK3,cK4,cK5,cK6,GrP.c,GrP.d,CfP.c,CfP.d,StP.c,StP.d,LoP.c,LoP.d];obtain⟨g,s,a⟩:=a;obtain⟨h1,h2⟩:=hpre;simp only at h1 h2⊢;obtain⟨q1,q2⟩:=ask0 h2;have hc: ¬(Qcl s.Set && Qcp s.Set a)=false:=by rw[(Qacj q1).2.1,q2];decide
 refine⟨h1,?_⟩;simp only[losB];by_cases c1:rise 0 ((a.Tiles.length:Int) - 1) none g.Part=true
 case neg=>
  rw[ZaO] at c1;have e:Qaqa s.Set a g.Part=(0,2):=by simp only[Qaqa];rw[Zai hc,Zak c1]
  rw[e,c1,Zaz];rfl
 have e:Qaqa s.Set a g.Part=(cutI (Qel s.Set a a.Tiles.length) g.Part,0):=by simp only[Qaqa];rw[Zai hc,Zai (by rw[c1];decide)]
 rw[e,c1,ZaD];rw[Zak rfl];intro _;by_cases c2:g.Part=[]
 .rw[Zai (by simp[c2]),Zbe (p:=g.Part≠[]) (fun h=>h c2),Zaz]
 have c2':0<g.Part.length:=ZbP.2 c2;rw[Zak (by omega),Zbw c2,ZaD];intro _ _;split
 .rename_i c;rw[Zbw c,ZaD]
 .rename_i c;rw[Zbe c,Zaz]
def cpI_.fv(a:Qar×Asm×Qajo):Int:=(chkPF) (a.1) (a.2.1) (a.2.2)
def cpI_.row:Row:=vK (b3 (qR Qar.d_le) (qR Asm.d_le) (qR Qajo.d_le)) rI (fun a=>Qf6 a.1.Set) cpI_.fv
def cpI_.q:=vKq (R:=cpI_.row) rfl
def Ybh:=J @cpI_.fv.eq_1<|J @growC_.q<|J @growC_.fv.eq_1<|J @within_.q<|J @within_.fv.eq_1<|J @chkr_.q<|J @chkr_.fv.eq_1<|J @gr_.q<|J @gr_.fv.eq_1<|J @tm_.q<|J @tm_.fv.eq_1<|J @un_.q<|J @un_.fv.eq_1<|J @cf_.q<|J @cf_.fv.eq_1<|J @st_.q<|J @st_.fv.eq_1<|J @lo_.q @lo_.fv.eq_1
theorem cpI_.ok:Qas Tryz.prog 11 cpI_.row:=by
 refine vw (tC growC_.ok (tC within_.ok (tC chkr_.ok (tC gr_.ok (tC tm_.ok (tC un_.ok (tC cf_.ok (tC st_.ok (tC lo_.ok tN))))))))) Tryz.func11 rfl (by kernel_rfl) ?_;intro a hpre;simp only[Tryz.f11,Option.getD];simp(maxSteps:=9^9)(disch:=omega)only[ZZ,simprocAttr,rch,Ybh,ifcK];obtain⟨s,a,p⟩:=a;simp only at hpre⊢;refine⟨hpre,?_⟩;simp only[chkPF];by_cases c0:askC s a=0
 case neg=>rw[Zak c0,Zak c0]
 have eF:(if askC s a≠0 then (1:Int) else if Qau p.Kind 1 6=false then 2 else if (fldB p && hldB s a p)=true then 0 else 10)=if Qau p.Kind 1 6=false then 2 else if (fldB p && hldB s a p)=true then 0 else 10:=Zai (fun h=>h c0)
 rw[Zai (fun h=>h c0),eF];by_cases c1:Qau p.Kind 1 6=false
 .rw[Zak c1,Zak c1]
 rw[Zai c1,Zai c1];have hk:1<=p.Kind/\p.Kind<=6:=by
  rw[Zbb] at c1;simpa only[Qau,Zaf,Zan] using c1
 refine⟨hk,?_⟩;by_cases c2:fldB p=true
 case neg=>
  have e:ckF p=none:=Zai c2;rw[ZaO] at c2;simp only[e,ckE,c2,Zaz];simp(maxSteps:=9^9)(disch:=omega)only[ZZ,simprocAttr,rch,Ybh,ifcK]
 have e:ckF p=some p:=Zak c2;obtain⟨k,sq,o,pt,f⟩:=p;simp only at hk;have h6:k=1\/k=2\/k=3\/k=4\/k=5\/k=6:=by omega
 simp only[e,c2,ZaD];clear e eF c1 c2;rcases h6 with rfl|rfl|rfl|rfl|rfl|rfl
 .have eh:hldB s a ⟨1,sq,o,pt,f⟩=ledB s sq a:=rfl;rw[eh];simp only[ckE];simp(maxSteps:=9^9)(disch:=omega)only[ZZ,simprocAttr,rch,Ybh,ifcK,mR1,GrP.c,GrP.d,CfP.c,CfP.d,StP.c,StP.d,LoP.c,LoP.d,Zbg];refine⟨hpre,?_⟩;cases ledB s sq a<;>rfl
 .have eh:hldB s a ⟨2,sq,o,pt,f⟩=(ledB s sq a && decide (Qaj8 s a=[])):=rfl;rw[eh];simp only[ckE];simp(maxSteps:=9^9)(disch:=omega)only[ZZ,simprocAttr,rch,Ybh,ifcK,mR2,GrP.c,GrP.d,CfP.c,CfP.d,StP.c,StP.d,LoP.c,LoP.d,Zbg];refine⟨⟨hpre,c0⟩,?_⟩;cases ledB s sq a<;>by_cases h:Qaj8 s a=[]<;>simp[h]
 .have eh:hldB s a ⟨3,sq,o,pt,f⟩=(ledB s sq a && decide ((lfF s sq).2.2=3)):=rfl;rw[eh];simp only[ckE];simp(maxSteps:=9^9)(disch:=omega)only[ZZ,simprocAttr,rch,Ybh,ifcK,mR3,GrP.c,GrP.d,CfP.c,CfP.d,StP.c,StP.d,LoP.c,LoP.d,Zbg];refine⟨hpre,?_⟩;cases ledB s sq a<;>by_cases h:(lfF s sq).2.2=3<;>simp[h]
 .have eh:hldB s a ⟨4,sq,o,pt,f⟩=cnfB s sq o a:=rfl;rw[eh];simp only[ckE];simp(maxSteps:=9^9)(disch:=omega)only[ZZ,simprocAttr,rch,Ybh,ifcK,mR4,GrP.c,GrP.d,CfP.c,CfP.d,StP.c,StP.d,LoP.c,LoP.d,Zbg];refine⟨hpre,?_⟩;cases cnfB s sq o a<;>rfl
 .have eh:hldB s a ⟨5,sq,o,pt,f⟩=stbB s a f:=rfl;rw[eh];simp only[ckE];simp(maxSteps:=9^9)(disch:=omega)only[ZZ,simprocAttr,rch,Ybh,ifcK,mR5,GrP.c,GrP.d,CfP.c,CfP.d,StP.c,StP.d,LoP.c,LoP.d,Zbg];refine⟨⟨hpre,c0⟩,?_⟩;cases stbB s a f<;>rfl
 .have eh:hldB s a ⟨6,sq,o,pt,f⟩=losB s a pt:=rfl;rw[eh];simp only[ckE];simp(maxSteps:=9^9)(disch:=omega)only[ZZ,simprocAttr,rch,Ybh,ifcK,mR6,GrP.c,GrP.d,CfP.c,CfP.d,StP.c,StP.d,LoP.c,LoP.d,Zbg];refine⟨⟨hpre,c0⟩,?_⟩;cases losB s a pt<;>rfl
def riseS_.fv(a:(List Int)×Int×Int):Bool:=(fun l lo hi=>rise lo hi none l) (a.1) (a.2.1) (a.2.2)
def riseS_.row:Row:=vK (b3 (qS Qb3 Qant) qI qI) rB (fun a=>True) riseS_.fv
def riseS_.q:=vKq (R:=riseS_.row) rfl
def Ybi:=J @riseS_.fv.eq_1 (J @l00In.q @l00In.fv.eq_1)
theorem riseS_.ok:Qas Tryz.prog 113 riseS_.row:=by
 refine vw (tC l00In.ok tN) Tryz.func113 rfl (by kernel_rfl) ?_;intro a hpre;simp only[Tryz.f113,Option.getD];simp(maxSteps:=9^9)(disch:=omega)only[ZZ,simprocAttr,rch,Ybi];obtain⟨l,lo,hi⟩:=a;simp only;refine Qay.old ⟨{k:Nat//k<=l.length/\rise lo hi (Qapo l k) (l.drop k)=rise lo hi none l},fun k=>⟨[(7,.im (.int .i64 k.1)),(6,.im (.bool false)),(0,.im (.sl false 1 (l.map intC))),(1,.im (.int .i64 lo)),(2,.im (.int .i64 hi))],[],0⟩,fun k=>l.length - k.1,fun k=>⟨by simp[Qad.good,belT,belH,Qam,AV.bel,belL],by simp⟩,⟨⟨0,by simp[Qapo]⟩,by simp(maxSteps:=9^9)(disch:=omega)only[ZZ,simprocAttr,rch,Ybi,sub]⟩,fun k=> ?_⟩;obtain⟨k,hk1,hk2⟩:=k;simp(maxSteps:=9^9)(disch:=omega)only[ZZ,simprocAttr,rch,Ybi,sub,Qal];refine fun _=>⟨fun hk=>⟨hk,fun x hx=> ?_⟩,fun hk=> ?_⟩
 .rw[Qd3 hx,Qapp] at hk2;have hw:IntKind.i64.wrap ((k:Int)+1)=((k+1:Nat):Int):=by rw[Qak (by omega) (by omega)];omega
  refine⟨fun h4=>⟨fun h5=> ?_,fun h5=> ?_⟩,fun h4=> ?_⟩
  .rw[Qak (x:=(k:Int) - 1) (by omega) (by omega)];refine⟨by omega,by omega,fun y hy=>⟨hk,fun x2 hx2=> ?_⟩⟩;obtain rfl:x=x2:=Zaa (hx.symm.trans hx2);have hp:Qapo l k=some y:=by
    have e:((k:Int) - 1).toNat=k - 1:=by omega
    rw[e] at hy;simp only[Qapo,hy];rw[Zai (by omega)]
   rw[hp] at hk2;simp only at hk2;refine⟨fun h7=> ?_,fun h7=>⟨⟨k+1,by omega,?_⟩,by simp only;omega,hw⟩⟩
   .rw[Zbe (by omega),Zaz,ZbX] at hk2;exact hk2
   .rw[h4,Zbw (by omega),ZaD,ZaD] at hk2;rw[Qapm hx];exact hk2
  .have hp:Qapo l k=none:=by simp only[Qapo];rw[Zak (by omega)]
   rw[hp] at hk2;simp only at hk2;refine⟨⟨k+1,by omega,?_⟩,by simp only;omega,hw⟩;rw[h4,ZaD,ZaD] at hk2;rw[Qapm hx];exact hk2
  .rw[ZaO] at h4;rw[h4,Zaz] at hk2;exact hk2
 .rw[Zaq (by omega),Qap8] at hk2;exact hk2
def partS_.fv(a:Asm×(List Int)):Bool:=(fun a l=>rise 0 (a.Tiles.length - 1) none l) (a.1) (a.2)
def partS_.row:Row:=vK (b2 (qP 1 Asm.d_le) (qS Qb3 Qant)) rB (fun a=>a.1.Tiles.length<=1000000) partS_.fv
def partS_.q:=vKq (R:=partS_.row) rfl
theorem partS_.ok:Qas Tryz.prog 75 partS_.row:=by
 refine vw (tC riseS_.ok tN) Tryz.func75 rfl (by kernel_rfl) ?_;intro a hpre;simp only[Tryz.f75,Option.getD];simp(maxSteps:=9^9)(disch:=omega)only[ZZ,simprocAttr,rch,partS_.fv,riseS_.q,riseS_.fv];intro _;rw[Qak (by omega) (by omega)]
def hasM_.fv(a:(List Int)×Int):Bool:=(fun l n=>decide (n∈l)) (a.1) (a.2)
def hasM_.row:Row:=vK (b2 (qS Qb3 Qant) qI) rB (fun a=>True) hasM_.fv
def hasM_.q:=vKq (R:=hasM_.row) rfl
theorem hasM_.ok:Qas Tryz.prog 114 hasM_.row:=by
 refine vw tN Tryz.func114 rfl (by kernel_rfl) ?_;intro a hpre;simp only[Tryz.f114,Option.getD];simp(maxSteps:=9^9)(disch:=omega)only[ZZ,simprocAttr,rch,hasM_.fv];refine Qay.old ⟨{k:Nat//k<=a.1.length/\a.2∉a.1.take k},fun k=>⟨[(5,.im (.int .i64 k.1)),(4,.im (.bool false)),(0,.im (.sl false 1 (a.1.map intC))),(1,.im (.int .i64 a.2))],[],0⟩,fun k=>a.1.length - k.1,fun k=>⟨by simp[Qad.good,belT,belH,Qam,AV.bel,belL],Zal _⟩,⟨⟨0,by simp⟩,by simp(maxSteps:=9^9)(disch:=omega)only[ZZ,simprocAttr,rch,hasM_.fv,sub]⟩,fun k=> ?_⟩;obtain⟨k,hk1,hk2⟩:=k;simp(maxSteps:=9^9)(disch:=omega)only[ZZ,simprocAttr,rch,hasM_.fv,sub,Qal];intro _;refine⟨fun hk=>⟨hk,fun x hx=>⟨fun h=> ?_,fun h=>⟨⟨k+1,by omega,?_⟩,by simp only;omega,by rw[Qak (by omega) (by omega)];simp only;omega⟩⟩⟩,fun hk=> ?_⟩
 .have:a.2∈a.1:=h▸Zae hx
  simp[this]
 .rw[Qwe hx,Zar,Zat];exact fun e=>e.elim hk2 fun e=>h e.symm
 .rw[Zap (by omega)] at hk2;simp[hk2]
def cutK_.fv(a:(List Bond)×(List Int)):Int:=(cutI) (a.1) (a.2)
def cutK_.row:Row:=vK (b2 (qS Bond.d_le Bond.c_n) (qS Qb3 Qant)) rI (fun a=>True) cutK_.fv
def cutK_.q:=vKq (R:=cutK_.row) rfl
theorem cutK_.ok:Qas Tryz.prog 76 cutK_.row:=by
 refine vw (tC hasM_.ok tN) Tryz.func76 rfl (by kernel_rfl) ?_;intro a hpre;simp only[Tryz.f76,Option.getD];simp(maxSteps:=9^9)(disch:=omega)only[ZZ,simprocAttr,rch,cutK_.fv,hasM_.q,hasM_.fv];obtain⟨bs,l⟩:=a;simp only;refine Qay.old ⟨{k:Nat//k<=bs.length},fun k=>⟨[(6,.im (.int .i64 k.1)),(5,.im (.int .i64 (sumW ((bs.take k.1).filter (Qapn l)) 0))),(4,.im (.int .i64 0)),(0,.im (.sl false 3 (bs.map Bond.c))),(1,.im (.sl false 1 (l.map intC)))],[],0⟩,fun k=>bs.length - k.1,fun k=>⟨by simp[Qad.good,belT,belH,Qam,AV.bel,belL],by simp⟩,⟨⟨0,ZaU _⟩,by simp(maxSteps:=9^9)(disch:=omega)only[ZZ,simprocAttr,rch,cutK_.fv,hasM_.q,hasM_.fv,sub,Zbq,Zdz,sumW]⟩,fun k=> ?_⟩;obtain⟨k,hk1⟩:=k;simp(maxSteps:=9^9)(disch:=omega)only[ZZ,simprocAttr,rch,cutK_.fv,hasM_.q,hasM_.fv,sub,Qal];refine fun _=>⟨fun hk=>⟨hk,fun x hx=> ?_⟩,fun hk=> ?_⟩
 .have hw:IntKind.i64.wrap ((k:Int)+1)=((k+1:Nat):Int):=by rw[Qak (by omega) (by omega)];omega
  refine⟨hk,fun y hy=> ?_⟩;obtain rfl:x=y:=Zaa (hx.symm.trans hy);have e:(bs.take (k+1)).filter (Qapn l)=(bs.take k).filter (Qapn l)++if Qapn l x=true then [x] else []:=by
   rw[Qwe hx,ZcI,Zds,Zdz]
  have hc:(decide (x.A∈l) !=decide (x.B∈l))=Qapn l x:=rfl;rw[hc];refine⟨fun c=>⟨hk,fun z hz=>⟨⟨k+1,by omega⟩,by simp only;omega,hw,?_⟩⟩,fun c=>⟨⟨k+1,by omega⟩,by simp only;omega,hw,?_⟩⟩
  .obtain rfl:x=z:=Zaa (hx.symm.trans hz);rw[e,Zak c,Qapx]
  .rw[e,Zai c,ZaK]
 .rw[Zap (by omega)];rfl
def Qaqb(s:Qaa)(a:Asm):Int:=if (Qcl s && Qcp s a)=true then 0 else 1
def ask06.fv(a:Qaa×Asm):Int:=(Qaqb) (a.1) (a.2)
def ask06.row:Row:=vK (b2 (qP 2 Qaa.d_le) (qP 1 Asm.d_le)) rI (fun a=>True) ask06.fv
def ask06.q:=vKq (R:=ask06.row) rfl
theorem ask06.ok:Qas Tryz.prog 112 ask06.row:=by
 refine vw (tC l02Ok.ok (tC l03Ok.ok tN)) Tryz.func112 rfl (by kernel_rfl) ?_;intro a hpre;simp only[Tryz.f112,Option.getD];simp(maxSteps:=9^9)(disch:=omega)only[ZZ,simprocAttr,rch,ask06.fv,l02Ok.q,l02Ok.fv,l03Ok.q,l03Ok.fv];obtain⟨s,a⟩:=a;simp only;have e:((Qaz none a.Tiles && decide (a.Tiles.length<=500)) && a.Tiles.all fun x=>Qau x.Tile 0 (s.Tiles.length - 1))=Qcp s a:=rfl;rw[e];simp only[Qaqb];cases Qcl s<;>cases Qcp s a<;>rfl
def chkS_.fv(a:Qaa×Asm×Int×Int×(List Int)):Int×Int:=(chkF) (a.1) (a.2.1) (a.2.2.1) (a.2.2.2.1) (a.2.2.2.2)
def chkS_.row:Row:=vK (b5 (qR Qaa.d_le) (qR Asm.d_le) qI qI (qS Qb3 Qant)) (r2 rI rI) (fun a=>True) chkS_.fv
def chkS_.q:=vKq (R:=chkS_.row) rfl
def Ybj:=J @chkS_.fv.eq_1<|J @ask06.q<|J @ask06.fv.eq_1<|J @l00In.q<|J @l00In.fv.eq_1<|J @l06Bonds.q @l06Bonds.fv.eq_1
theorem chkS_.ok:Qas Tryz.prog 74 chkS_.row:=by
 refine vw (tC ask06.ok (tC l00In.ok (tC l06Bonds.ok tN))) Tryz.func74 rfl (by kernel_rfl) ?_;intro a hpre;simp only[Tryz.f74,Option.getD];simp(maxSteps:=9^9)(disch:=omega)only[ZZ,simprocAttr,rch,Ybj];obtain⟨s,a,x,y,fl⟩:=a;simp only;by_cases c0:(Qcl s && Qcp s a)=true
 case neg=>
  have e6:Qaqb s a=1:=by simp only[Qaqb];rw[Zai c0]
  have eF:chkF s a x y fl=(0,1):=by simp only[chkF];rw[Zak (by simpa using c0)]
  rw[e6,Zak (by decide),eF]
 have e6:Qaqb s a=0:=by simp only[Qaqb];rw[Zak c0]
 rw[e6,Zai (by simp)];intro _;have c0':=c0;simp only[Zaf] at c0';obtain⟨c1,c2⟩:=c0';obtain⟨h3,h4⟩:=Qdg c2;have hP:=Qro (Qge c1) a a.Tiles.length (Zal _);have hl:=Qh3 s a a.Tiles.length;rw[Qak (x:=(a.Tiles.length:Int) - 1) (by omega) (by omega)];have eF:chkF s a x y fl=if (Qau x 0 (a.Tiles.length - 1) && (Qau y 0 (a.Tiles.length - 1) && decide (x≠y)))=false then ((0,2):Int×Int) else if fl.length≠(Qel s a a.Tiles.length).length then (0,10) else chkM (Qel s a a.Tiles.length) fl a.Tiles.length x y:=by simp only[chkF];rw[Zai (by rw[c0];decide)]
 rw[eF];by_cases d1:Qau x 0 ((a.Tiles.length:Int) - 1)=true
 case neg=>rw[Zai d1,Zak (by rw[ZaO] at d1;rw[d1];rfl)]
 by_cases d2:Qau y 0 ((a.Tiles.length:Int) - 1)=true
 case neg=>rw[Zak d1,Zai d2,Zak (by rw[ZaO] at d2;rw[d2,Zaz,ZbX])]
 by_cases d3:x=y
 .rw[Zak d1,Zak d2,Zak d3,Zak (by rw[Zbe (fun h=>h d3),ZbX,ZbX])]
 rw[Zak d1,Zak d2,Zai d3];have d4: ¬(Qau x 0 ((a.Tiles.length:Int) - 1) && (Qau y 0 ((a.Tiles.length:Int) - 1) && decide (x≠y)))=false:=by rw[d1,d2,Zbw d3];decide
 rw[Zai d4];refine⟨⟨Qge c1,h3,by omega⟩,fun _ _=> ?_⟩;obtain⟨bs,hbs⟩: ∃bs,bs=Qel s a a.Tiles.length:=⟨_,rfl⟩;simp only[<-hbs] at hP hl⊢;by_cases d5:fl.length=bs.length
 case neg=>rw[Zak (by omega),Zak d5]
 rw[Zai (by omega),Zai (fun h=>h d5)];intro _;refine⟨by omega,?_⟩;simp only[Qau,Zaf,Zan] at d1 d2;refine Qay.old ⟨{q:Nat×List Int//q.1<=bs.length/\q.2.length=a.Tiles.length/\flR (bs.drop q.1) (fl.drop q.1) q.2=flR bs fl (List.replicate a.Tiles.length 0)},fun q=>⟨[(16,.im (.int .i64 q.1.1)),(15,.own 2),(14,.im (.sl false 3 (bs.map Bond.c))),(13,.im (.int .i64 ((a.Tiles.length:Int) - 1))),(4,.im (.sl false 1 (fl.map intC))),(2,.im (.int .i64 x)),(3,.im (.int .i64 y)),(10,.im (.int .i64 0)),(11,.im (.int .i64 0))],[(2,(true,.arr 2 1 (q.1.2.map intC)))],3⟩,fun q=>bs.length - q.1.1,fun q=>⟨by simp[Qad.good,belT,belH,Qam,AV.bel,belL],by simp⟩,⟨⟨(0,List.replicate a.Tiles.length 0),by simp⟩,by simp(maxSteps:=9^9)(disch:=omega)only[ZZ,simprocAttr,rch,Ybj,sub,ZdQ]⟩,fun q=> ?_⟩;obtain⟨⟨k,lv⟩,hk1,hk2,hk3⟩:=q;simp only at hk1 hk2 hk3;simp(maxSteps:=9^9)(disch:=omega)only[ZZ,simprocAttr,rch,Ybj,sub,Qal,Qap6];have hw:k<bs.length->IntKind.i64.wrap ((k:Int)+1)=((k+1:Nat):Int):=fun h=>by rw[Qak (by omega) (by omega)];omega
 refine fun _=>⟨fun hk=> ?_,fun hk=> ?_⟩
 .obtain⟨f,hf⟩: ∃f,fl[k]? =some f:=⟨_,Zac (by omega)⟩;obtain⟨b,hb⟩: ∃b,bs[k]? =some b:=⟨_,Zac hk⟩;obtain⟨⟨p1,p2,p3,p4⟩,_,p5,p6⟩:=hP b (Zae hb);rw[Qd3 hb,Qd3 hf,flR] at hk3;have hneg:IntKind.i64.wrap (-b.Strength)= -b.Strength:=Qak (by omega) (by omega);refine⟨by omega,fun f1 e1=>⟨hk,fun b1 e2=>⟨hk,fun b2 e3=> ?_⟩⟩⟩;obtain rfl:f=f1:=Zaa (hf.symm.trans e1);obtain rfl:b=b1:=Zaa (hb.symm.trans e2);obtain rfl:b=b2:=Zaa (hb.symm.trans e3);rw[hneg];refine⟨fun c=> ?_,fun c=>⟨hk,fun b3 e4=> ?_⟩⟩
  .rw[Zai (by rw[c];decide)] at hk3;exact (chkM_no hk3.symm).symm
  obtain rfl:b=b3:=Zaa (hb.symm.trans e4);rw[Zak (by simpa using c)] at hk3;refine⟨by omega,by omega,by omega,fun v1 e5=>⟨by omega,fun f2 e6=> ?_⟩⟩;obtain rfl:f=f2:=Zaa (hf.symm.trans e6);refine⟨by omega,by omega,by omega,fun v2 e7=>⟨hk,fun b4 e8=> ?_⟩⟩;obtain rfl:b=b4:=Zaa (hb.symm.trans e8);simp only[ZbN];refine⟨by omega,by omega,by omega,fun v3 e9=>⟨by omega,fun f3 e10=> ?_⟩⟩;obtain rfl:f=f3:=Zaa (hf.symm.trans e10);refine⟨by omega,by omega,by omega,fun v4 e11=>⟨⟨(k+1,flS lv b f),by simp only;exact⟨by omega,by rw[flS_len];exact hk2,hk3⟩⟩,by simp only;omega,hw hk,?_⟩⟩;simp only[flS,Zcs,e5,e9,Zad]
 .obtain rfl:k=bs.length:=by omega
  rw[Zaq (Zal _),flR] at hk3;rw[Qap5 hk3.symm];refine Qay.old ⟨{i:Nat//i<=a.Tiles.length/\ ∀(j:Nat) (v:Int),j<i->lv[j]? =some v->v=0\/(j:Int)=x\/(j:Int)=y},fun i=>⟨[(17,.im (.int .i64 i.1)),(15,.own 2),(13,.im (.int .i64 ((a.Tiles.length:Int) - 1))),(2,.im (.int .i64 x)),(3,.im (.int .i64 y)),(10,.im (.int .i64 0)),(11,.im (.int .i64 0))],[(2,(true,.arr 2 1 (lv.map intC)))],3⟩,fun i=>a.Tiles.length - i.1,fun i=>⟨by simp[Qad.good,belT,belH,Qam,AV.bel,belL],by simp⟩,⟨⟨0,by simp⟩,by simp(maxSteps:=9^9)(disch:=omega)only[ZZ,simprocAttr,rch,Ybj,sub]⟩,fun i=> ?_⟩;obtain⟨i,hi1,hi2⟩:=i;simp(maxSteps:=9^9)(disch:=omega)only[ZZ,simprocAttr,rch,Ybj,sub,Qal];have hnx:i<a.Tiles.length->(∀v,lv[i]? =some v->v=0\/(i:Int)=x\/(i:Int)=y)-> ∃b':{i:Nat//i<=a.Tiles.length/\ ∀(j:Nat) (v:Int),j<i->lv[j]? =some v->v=0\/(j:Int)=x\/(j:Int)=y},a.Tiles.length - b'.1<a.Tiles.length - i/\IntKind.i64.wrap ((i:Int)+1)=(b'.1:Int):=fun h1 h2=>
   ⟨⟨i+1,by omega,fun j v hj hv=>by
     rcases ZbA j i with h|h
     .exact hi2 j v h hv
     .obtain rfl:j=i:=by omega
      exact h2 v hv⟩,by simp only;omega,by rw[Qak (by omega) (by omega)];simp only;omega⟩
  refine⟨fun hi=>⟨fun g1=>⟨fun g2=>⟨by omega,by omega,fun v hv=>⟨fun g3=> ?_,fun g3=>hnx (by omega) fun v' hv'=> .inl ?_⟩⟩,fun g2=>hnx (by omega) fun _ _=> .inr (.inr (ZaY.1 g2))⟩,fun g1=>hnx (by omega) fun _ _=> .inr (.inl (ZaY.1 g1))⟩,fun hi=>⟨d1.1,by omega,by omega,fun v hv=> ?_⟩⟩
  .rw[Zai (fun h=> ?_)];rcases Qaps.1 h i v hv with h|h|h
   .exact g3 h
   .exact g1 h
   .exact g2 h
  .rw[hv] at hv';rw[<-Zaa hv'];exact ZaY.1 g3
  .rw[Zak (Qaps.2 fun j w hw=>hi2 j w (by have:=(Zaj.1 hw).1;omega) hw),Zcs,hv,Zad]
def ledS_.fv(a:Qar×(List Opt)×Asm):Bool:=(ledB) (a.1) (a.2.1) (a.2.2)
def ledS_.row:Row:=vK (b3 (qP 4 Qar.d_le) (qS Opt.d_le Opt.c_n) (qP 1 Asm.d_le)) rB (fun a=>True) ledS_.fv
def ledS_.q:=vKq (R:=ledS_.row) rfl
theorem ledS_.ok:Qas Tryz.prog 41 ledS_.row:=by
 refine vw (tC PlayS_.ok (tC l03Same.ok tN)) Tryz.func41 rfl (by kernel_rfl) ?_;intro a hpre;simp only[Tryz.f41,Option.getD];simp(maxSteps:=9^9)(disch:=omega)only[ZZ,simprocAttr,rch,ledS_.fv,PlayS_.q,PlayS_.fv,l03Same.q,l03Same.fv];obtain⟨s,l,a⟩:=a;simp only[ledB];split
 .rename_i c;rw[Zbw c,ZaD]
 .rename_i c;rw[Zbe c,Zaz]
def cnfS_.fv(a:Qar×(List Opt)×(List Opt)×Asm):Bool:=(cnfB) (a.1) (a.2.1) (a.2.2.1) (a.2.2.2)
def cnfS_.row:Row:=vK (b4 (qP 4 Qar.d_le) (qS Opt.d_le Opt.c_n) (qS Opt.d_le Opt.c_n) (qP 1 Asm.d_le)) rB (fun a=>True) cnfS_.fv
def cnfS_.q:=vKq (R:=cnfS_.row) rfl
theorem cnfS_.ok:Qas Tryz.prog 44 cnfS_.row:=by
 refine vw (tC PlayS_.ok (tC ledS_.ok tN)) Tryz.func44 rfl (by kernel_rfl) ?_;intro a hpre;simp only[Tryz.f44,Option.getD];simp(maxSteps:=9^9)(disch:=omega)only[ZZ,simprocAttr,rch,cnfS_.fv,PlayS_.q,PlayS_.fv,ledS_.q,ledS_.fv];obtain⟨s,l,m,a⟩:=a;simp only;intro hl;by_cases c1:l=[]
 .rw[Zai (by simp[c1])];simp only[cnfB];rw[Zbe (fun h=>h c1),Zaz]
 have c1':0<l.length:=ZbP.2 c1;rw[Zak (by omega)];intro hm;by_cases c2:m=[]
 .rw[Zai (by simp[c2])];simp only[cnfB];rw[Zbe (p:=m≠[]) (fun h=>h c2),Zaz,ZbX]
 have c2':0<m.length:=ZbP.2 c2;rw[Zak (by omega)];have e:cnfB s l m a=(ledB s l a && (decide ((seqS s m).2.2=0) && (decide ((Qapl l).At=(Qapl m).At) && decide ((Qapl l).Tile≠(Qapl m).Tile)))):=by
  simp only[cnfB];rw[Zbw c1,Zbw c2,ZaD,ZaD]
 rw[e];by_cases c3:ledB s l a=true
 case neg=>rw[ZaO] at c3;rw[c3,Zak rfl,Zaz]
 rw[c3,Zai (by decide),ZaD];intro _;rw[Qak (x:=(l.length:Int) - 1) (by omega) (by omega)];refine⟨by omega,by omega,fun x hx _=> ?_⟩;rw[Qak (x:=(m.length:Int) - 1) (by omega) (by omega)];refine⟨by omega,by omega,fun y hy=> ?_⟩;rw[Qapu c1 (by rw[show ((l.length:Int) - 1).toNat=l.length - 1 by omega] at hx;exact hx),Qapu c2 (by rw[show ((m.length:Int) - 1).toNat=m.length - 1 by omega] at hy;exact hy)];by_cases c4:(seqS s m).2.2=0
 case neg=>rw[Zai c4,Zbe c4,Zaz]
 rw[Zak c4,Zbw c4,ZaD];by_cases c5:x.At=y.At
 .rw[Zak (Qanl.2 c5),Zbw c5,ZaD];simp
 .rw[Zai (fun h=>c5 (Qanl.1 h)),Zbe c5,Zaz]
def fwlS_.fv(a:Qar×Asm×(List (List Int))):Bool:=(stbB) (a.1) (a.2.1) (a.2.2)
def fwlS_.row:Row:=vK (b3 (qP 4 Qar.d_le) (qP 1 Asm.d_le) (qS Qj4 Qaoj)) rB (fun a=>a.2.1.Tiles.length<=1000000) fwlS_.fv
def fwlS_.q:=vKq (R:=fwlS_.row) rfl
def Ybk:=J @fwlS_.fv.eq_1<|J @chkS_.q<|J @chkS_.fv.eq_1<|J @l00Max.q @l00Max.fv.eq_1
theorem fwlS_.ok:Qas Tryz.prog 45 fwlS_.row:=by
 refine vw (tC chkS_.ok (tC l00Max.ok tN)) Tryz.func45 rfl (by kernel_rfl) ?_;intro a hpre;simp only[Tryz.f45,Option.getD];simp(maxSteps:=9^9)(disch:=omega)only[ZZ,simprocAttr,rch,Ybk];obtain⟨s,a,fl⟩:=a;simp only at hpre⊢;intro _ _;rw[Qak (x:=(a.Tiles.length:Int) - 1) (by omega) (by omega)];have em:maxI 0 ((a.Tiles.length:Int) - 1)=max ((a.Tiles.length:Int) - 1) 0:=by simp only[maxI];split<;>omega
 rw[em];simp only[stbB];by_cases c:(fl.length:Int)=max ((a.Tiles.length:Int) - 1) 0
 case neg=>rw[Zak c,Zbe c,Zaz]
 rw[Zai (fun h=>h c),Zbw c,ZaD];refine Qay.old ⟨{k:Nat//k<=fl.length/\flwA s.Set a s.Temperature k (fl.drop k)=flwA s.Set a s.Temperature 0 fl},fun k=>⟨[(7,.im (.int .i64 k.1)),(6,.im (.bool false)),(0,.ptr 0 0),(1,.ptr 1 0),(2,.im (.sl false 1 (fl.map Qcd)))],[(0,(false,.view (Qar.c s))),(1,(false,.view (Asm.c a)))],2⟩,fun k=>fl.length - k.1,fun k=>⟨by simp[Qad.good,belT,belH,Qam,AV.bel,belL],by simp⟩,⟨⟨0,by simp⟩,by simp(maxSteps:=9^9)(disch:=omega)only[ZZ,simprocAttr,rch,Ybk,sub]⟩,fun k=> ?_⟩;obtain⟨k,hk1,hk2⟩:=k;simp(maxSteps:=9^9)(disch:=omega)only[ZZ,simprocAttr,rch,Ybk,sub,Qal];refine fun _=>⟨fun hk=>⟨hk,fun x hx=> ?_⟩,fun hk=> ?_⟩
 .have hw:IntKind.i64.wrap ((k:Int)+1)=((k+1:Nat):Int):=by rw[Qak (by omega) (by omega)];omega
  rw[hw];rw[Qd3 hx,flwA] at hk2;have eb:flwB s.Set a s.Temperature k x=decide ((chkF s.Set a 0 ((k+1:Nat):Int) x).2=0/\s.Temperature<=(chkF s.Set a 0 ((k+1:Nat):Int) x).1):=by simp only[flwB];rfl
  rw[eb] at hk2;refine⟨fun c1=>⟨fun c2=> ?_,fun c2=>⟨⟨k+1,by omega,?_⟩,by simp only;omega,rfl⟩⟩,fun c1=> ?_⟩
  .rw[Zbe (fun h=>by omega),Zaz] at hk2;exact hk2
  .rw[Zbw ⟨c1,by omega⟩,ZaD] at hk2;exact hk2
  .rw[Zbe (fun h=>c1 h.1),Zaz] at hk2;exact hk2
 .rw[Zaq (by omega),flwA] at hk2;exact hk2
def losS_.fv(a:Qar×Asm×(List Int)):Bool:=(losB) (a.1) (a.2.1) (a.2.2)
def losS_.row:Row:=vK (b3 (qP 4 Qar.d_le) (qP 1 Asm.d_le) (qS Qb3 Qant)) rB (fun a=>a.2.1.Tiles.length<=1000000/\setP a.1.Set/\Qn7 a.1.Set a.2.1) losS_.fv
def losS_.q:=vKq (R:=losS_.row) rfl
theorem losS_.ok:Qas Tryz.prog 46 losS_.row:=by
 refine vw (tC partS_.ok (tC l06Bonds.ok (tC cutK_.ok tN))) Tryz.func46 rfl (by kernel_rfl) ?_;intro a hpre;simp only[Tryz.f46,Option.getD];simp(maxSteps:=9^9)(disch:=omega)only[ZZ,simprocAttr,rch,losS_.fv,partS_.q,partS_.fv,l06Bonds.q,l06Bonds.fv,cutK_.q,cutK_.fv];obtain⟨s,a,l⟩:=a;obtain⟨h1,h2,h3⟩:=hpre;simp only at h1 h2 h3⊢;refine⟨h1,?_⟩;simp only[losB];by_cases c1:rise 0 ((a.Tiles.length:Int) - 1) none l=true
 case neg=>rw[Zai c1];rw[ZaO] at c1;rw[c1,Zaz]
 have hle:=rise_le c1;rw[Zak c1,c1,ZaD];intro _;by_cases c2:l=[]
 .rw[Zai (by simp[c2]),Zbe (p:=l≠[]) (fun h=>h c2),Zaz]
 have c2':0<l.length:=ZbP.2 c2;rw[Zak (by omega),Zbw c2,ZaD];intro _ _;by_cases c3:l.length=a.Tiles.length
 .rw[Zak (by omega),Zbe (by omega),Zaz]
 rw[Zai (by omega),Zbw (p:=l.length<a.Tiles.length) (by omega),ZaD];exact⟨⟨h2,h3,h1⟩,rfl⟩
def fldS_.fv(a:Qajo):Bool:=(fldB) a
def fldS_.row:Row:=vK (b1 (qP 5 Qajo.d_le)) rB (fun a=>True) fldS_.fv
def fldS_.q:=vKq (R:=fldS_.row) rfl
theorem fldS_.ok:Qas Tryz.prog 22 fldS_.row:=by
 refine vw tN Tryz.func22 rfl (by kernel_rfl) ?_;intro a hpre;simp only[Tryz.f22,Option.getD];obtain⟨k,s,o,p,f⟩:=a;have lz: ∀{α:Type} (l:List α),((l.length:Int)=0)=(l=[]):=fun l=>by rw[<-ZbE];exact propext (by omega)
 by_cases c0:k<=4
 .by_cases c1:k=4
  .subst c1;simp(maxSteps:=9^9)(disch:=omega)only[ZZ,simprocAttr,rch,fldS_.fv,lz];by_cases u1:s=[]<;>by_cases u2:o=[]<;>by_cases u3:p=[]<;>by_cases u4:f=[]<;>simp_all [fldB]
  .have c2: ¬k=5:=by omega
   have c3: ¬k=6:=by omega
   simp(maxSteps:=9^9)(disch:=omega)only[ZZ,simprocAttr,rch,fldS_.fv,lz,c0,c1,c2,c3];by_cases u1:s=[]<;>by_cases u2:o=[]<;>by_cases u3:p=[]<;>by_cases u4:f=[]<;>simp_all [fldB]
 .have c1: ¬k=4:=by omega
  by_cases c2:k=5
  .subst c2;simp(maxSteps:=9^9)(disch:=omega)only[ZZ,simprocAttr,rch,fldS_.fv,lz];by_cases u1:s=[]<;>by_cases u2:o=[]<;>by_cases u3:p=[]<;>by_cases u4:f=[]<;>simp_all [fldB]
  .by_cases c3:k=6
   .subst c3;simp(maxSteps:=9^9)(disch:=omega)only[ZZ,simprocAttr,rch,fldS_.fv,lz];by_cases u1:s=[]<;>by_cases u2:o=[]<;>by_cases u3:p=[]<;>by_cases u4:f=[]<;>simp_all [fldB]
   .simp(maxSteps:=9^9)(disch:=omega)only[ZZ,simprocAttr,rch,fldS_.fv,lz,c0,c1,c2,c3];by_cases u1:s=[]<;>by_cases u2:o=[]<;>by_cases u3:p=[]<;>by_cases u4:f=[]<;>simp_all [fldB]
def hldS_.fv(a:Qar×Asm×Qajo):Bool:=(hldB) (a.1) (a.2.1) (a.2.2)
def hldS_.row:Row:=vK (b3 (qP 4 Qar.d_le) (qP 1 Asm.d_le) (qP 5 Qajo.d_le)) rB (fun a=>Qjc a.1=true/\Qcp a.1.Set a.2.1=true) hldS_.fv
def hldS_.q:=vKq (R:=hldS_.row) rfl
theorem hldS_.ok:Qas Tryz.prog 23 hldS_.row:=by
 refine vw (tC ledS_.ok (tC opsS_.ok (tC fltS_.ok (tC cnfS_.ok (tC fwlS_.ok (tC losS_.ok tN)))))) Tryz.func23 rfl (by kernel_rfl) ?_;intro a hpre;simp only[Tryz.f23,Option.getD];simp(maxSteps:=9^9)(disch:=omega)only[ZZ,simprocAttr,rch,hldS_.fv,ledS_.q,ledS_.fv,opsS_.q,opsS_.fv,fltS_.q,fltS_.fv,cnfS_.q,cnfS_.fv,fwlS_.q,fwlS_.fv,losS_.q,losS_.fv];obtain⟨s,a,p⟩:=a;obtain⟨g1,g2⟩:=hpre;simp only at g1 g2⊢;obtain⟨⟨q1,q2,q3,q4⟩,_⟩:=Qacj g1;obtain⟨h3,h4⟩:=Qdg g2;simp only[hldB]
 repeat' split
 .rfl
 .rename_i c;refine⟨⟨q1,h3,h4,by omega⟩,fun _=> ?_⟩;rw[c,ZaD,Zdb,<-ZbE];omega
 .rename_i c;rw[ZaO] at c;rw[c,Zaz]
 .rename_i c;rw[c,Zaz]
 .rename_i c;rw[Zbb] at c;have c':=c;simp only[ledB,Zaf,Zan] at c';obtain⟨_,hp,h5,_⟩:=pld_ok c'.1;refine⟨⟨hp,h5⟩,?_⟩;rw[c,ZaD,Zdb,lfF_ok c'.1];cases hf:fltS s p.Sequence with
  |none=>simp[fltK,fltR]
  |some q=>
   obtain⟨k,o⟩:=q
   have:=fltS_k hf
   simp only at this;simp only[fltK,fltR];omega
 .rfl
 .exact⟨by omega,rfl⟩
 .exact⟨⟨by omega,q1,h3⟩,rfl⟩
def cpS_.fv(a:Qar×Asm×Qajo):Int:=(chkPF) (a.1) (a.2.1) (a.2.2)
def cpS_.row:Row:=vK (b3 (qR Qar.d_le) (qR Asm.d_le) (qR Qajo.d_le)) rI (fun a=>True) cpS_.fv
def cpS_.q:=vKq (R:=cpS_.row) rfl
theorem cpS_.ok:Qas Tryz.prog 7 cpS_.row:=by
 refine vw (tC ask08.ok (tC l00In.ok (tC fldS_.ok (tC hldS_.ok tN)))) Tryz.func7 rfl (by kernel_rfl) ?_;intro a hpre;simp only[Tryz.f7,Option.getD];simp(maxSteps:=9^9)(disch:=omega)only[ZZ,simprocAttr,rch,cpS_.fv,ask08.q,ask08.fv,l00In.q,l00In.fv,fldS_.q,fldS_.fv,hldS_.q,hldS_.fv];obtain⟨s,a,p⟩:=a;simp only[chkPF];by_cases c0:askC s a=0
 case neg=>
  rw[Zak c0,Zak c0];simp only[askC] at c0⊢;split
  .rename_i h;rw[Zak h] at c0;exact absurd rfl c0
  .rfl
 rw[Zai (fun h=>h c0)];have eF:(if askC s a≠0 then (1:Int) else if Qau p.Kind 1 6=false then 2 else if (fldB p && hldB s a p)=true then 0 else 10)=if Qau p.Kind 1 6=false then 2 else if (fldB p && hldB s a p)=true then 0 else 10:=Zai (fun h=>h c0)
 rw[eF];obtain⟨g1,g2⟩:=ask0 c0;by_cases c1:Qau p.Kind 1 6=false
 .rw[Zak c1,Zak c1]
 rw[Zai c1,Zai c1];by_cases c2:fldB p=true
 .rw[Zak c2,c2,ZaD];refine⟨⟨g1,g2⟩,?_⟩;cases hldB s a p<;>rfl
 .rw[Zai c2];rw[ZaO] at c2;rw[c2,Zaz];rfl
def szI_(x:List Int)(l:Int):Int:=szC x.length l
def Qapv(a:List (List Int))(l:Int):Int:=if szC a.length l<0 then -1 else Qdz szI_ a (szC a.length l)
def szSSf.fv(a:(List (List Int))×Int):Int:=(Qapv) (a.1) (a.2)
def szSSf.row:Row:=vK (b2 (qS Qj4 Qaoj) qI) rI (fun a=> -1<=a.2/\a.2<=1048576) szSSf.fv
def szSSf.q:=vKq (R:=szSSf.row) rfl
def Ybl:=J @szSSf.fv.eq_1 (J @szInt64S.q @szInt64S.fv.eq_1)
theorem szSSf.ok:Qas Tryz.prog 19 szSSf.row:=by
 refine vw (tC szInt64S.ok tN) Tryz.func19 rfl (by kernel_rfl) ?_;intro a hpre;simp only[Tryz.f19,Option.getD];simp(maxSteps:=9^9)(disch:=omega)only[ZZ,simprocAttr,rch,Ybl];intro hn;rw[Qak (by omega) (by omega)];obtain⟨hp1,hp2⟩:=hpre;simp only[Qal];refine⟨fun hl=> ?_,fun hl=> ?_⟩
 .simp only[Qapv,szC];grind
 have h0:szC a.1.length a.2=a.2 - a.1.length:=by simp only[szC];rw[Zai hl]
 refine Qay.old ⟨{p:Nat×Int//p.1<=a.1.length/\0<=p.2/\p.2<=1048576/\Qdz szI_ (a.1.drop p.1) p.2=Qdz szI_ a.1 (a.2 - a.1.length)},fun p=>⟨[(5,.im (.int .i64 p.1.1)),(1,.im (.int .i64 p.1.2)),(4,.im (.int .i64 0)),(0,.im (.sl false 1 (a.1.map Qcd)))],[],0⟩,fun p=>a.1.length - p.1.1,fun p=>⟨by simp[Qad.good,belT,belH,Qam,AV.bel,belL],Zal _⟩,⟨⟨(0,a.2 - a.1.length),by simp,by simp only;omega,by simp only;omega,by simp⟩,by simp(maxSteps:=9^9)(disch:=omega)only[ZZ,simprocAttr,rch,Ybl,sub]⟩,fun p=> ?_⟩;obtain⟨⟨k,l⟩,hk1,hk2,hk3,hk4⟩:=p;simp only at hk1 hk2 hk3 hk4;simp(maxSteps:=9^9)(disch:=omega)only[ZZ,simprocAttr,rch,Ybl,sub,Qal];intro _;refine⟨fun hk=>⟨hk,fun x hx=>⟨⟨by omega,by omega⟩,?_⟩⟩,fun hk=> ?_⟩
 .rw[Qd3 hx,Qdz] at hk4;have hle:szC x.length l<=l:=by simp only[szC];grind
  have e:szI_ x l=szC x.length l:=rfl;rw[e] at hk4;refine⟨fun hb=> ?_,fun hb=>⟨⟨(k+1,szC x.length l),by simp only;omega,by simp only;omega,by simp only;omega,?_⟩,by simp only;omega,?_,?_⟩⟩
  .rw[Zak hb] at hk4;simp only[Qapv,h0]
   grind
  .rw[Zai hb] at hk4;exact hk4
  .rw[Qak (by omega) (by omega)];simp only;omega
  .rfl
 .rw[Zaq (by omega),Qdz] at hk4;simp only[Qapv,h0]
  grind
theorem szSS_b(a:List (List Int))(l:Int)(hl: -1<=l): -1<=Qapv a l/\Qapv a l<=max l (-1):=by
 simp only[Qapv];split
 .omega
 .rename_i h;have h1:=Qre (f:=szI_) (fun x l h=>by simp only[szI_,szC];grind) a (szC a.length l) (by omega);have h2:szC a.length l<=max l (-1):=by simp only[szC];grind
  omega
theorem Qap4: ∀(a:List (List Int)) (l:Int),0<=l->l<=1048576->0<=Qdz szI_ a l-> ∀x∈a,x.length<=1073741824
 |[],_,_,_,_=>by intro x hx;cases hx
 |y::r,l,h0,hl,h=>by
  simp only[Qdz] at h;split at h
  .omega
  .rename_i c;have hy:0<=szC y.length l:=by simp only[szI_] at c;omega
   obtain⟨b1,b2,b3⟩:=Qn3 hy;intro x hx;rcases Zax.1 hx with rfl|hx
   .omega
   .exact Qap4 r _ hy (by simp only[szI_] at*;omega) h x hx
def szPf(p:Qajo)(l:Int):Int:=
 if szC p.Sequence.length l<0 then -1 else if szC p.Other.length (szC p.Sequence.length l)<0 then -1 else if szC p.Part.length (szC p.Other.length (szC p.Sequence.length l))<0 then -1
 else if Qapv p.Flows (szC p.Part.length (szC p.Other.length (szC p.Sequence.length l)))<0 then -1 else Qapv p.Flows (szC p.Part.length (szC p.Other.length (szC p.Sequence.length l)))
def szPfS.fv(a:Qajo×Int):Int:=(szPf) (a.1) (a.2)
def szPfS.row:Row:=vK (b2 (qR Qajo.d_le) qI) rI (fun a=> -1<=a.2/\a.2<=1048576) szPfS.fv
def szPfS.q:=vKq (R:=szPfS.row) rfl
theorem szPfS.ok:Qas Tryz.prog 6 szPfS.row:=by
 refine vw (tC szOptionS.ok (tC szInt64S.ok (tC szSSf.ok tN))) Tryz.func6 rfl (by kernel_rfl) ?_;intro a hpre;simp only[Tryz.f6,Option.getD];simp(maxSteps:=9^9)(disch:=omega)only[ZZ,simprocAttr,rch,szPfS.fv,szOptionS.q,szOptionS.fv,szInt64S.q,szInt64S.fv,szSSf.q,szSSf.fv];obtain⟨p,l⟩:=a;obtain⟨h1,h2⟩:=hpre;simp only at h1 h2⊢;have b1:=szC_b p.Sequence.length l h1;have b2:=szC_b p.Other.length _ b1.1;have b3:=szC_b p.Part.length _ b2.1;have b4:=szSS_b p.Flows _ b3.1;simp only[szPf];refine⟨⟨h1,h2⟩,?_⟩;split
 .rfl
 refine⟨⟨by omega,by omega⟩,?_⟩;split
 .rfl
 refine⟨⟨by omega,by omega⟩,?_⟩;split
 .rfl
 refine⟨⟨by omega,by omega⟩,?_⟩;split
 .rfl
 .rfl
def smPf(p:Qajo):Prop:=p.Sequence.length<=1073741824/\p.Other.length<=1073741824/\p.Part.length<=1073741824/\p.Flows.length<=1073741824/\ ∀x∈p.Flows,x.length<=1073741824
theorem szPf_sm{p:Qajo}{l:Int}(hl: -1<=l)(hl2:l<=1048576)(h:0<=szPf p l):smPf p:=by
 simp only[szPf] at h;split at h
 .omega
 split at h
 .omega
 split at h
 .omega
 split at h
 .omega
 rename_i c1 c2 c3 c4;obtain⟨a1,a2,a3⟩:=Qn3 (n:=p.Sequence.length) (l:=l) (by omega);obtain⟨b1,b2,b3⟩:=Qn3 (n:=p.Other.length) (by omega) (l:=szC p.Sequence.length l);obtain⟨d1,d2,d3⟩:=Qn3 (n:=p.Part.length) (by omega) (l:=szC p.Other.length (szC p.Sequence.length l));have hf:0<=szC p.Flows.length (szC p.Part.length (szC p.Other.length (szC p.Sequence.length l))):=by
  simp only[Qapv] at h;split at h
  .omega
  .omega
 obtain⟨f1,f2,f3⟩:=Qn3 hf;refine⟨by omega,by omega,by omega,by omega,?_⟩;refine Qap4 _ _ hf (by omega) ?_;simp only[Qapv] at h;rw[Zai (by omega)] at h;exact h
def toSS_.fv(a:(List (List Int))):List (List Int):=(fun p=>p) a
def toSS_.row:Row:=vK (b1 (qS Qj4 Qaoj)) (rS Qj4 Qaoj) (fun a=>a.length<=1073741824/\ ∀x∈a,x.length<=1073741824) toSS_.fv
def toSS_.q:=vKq (R:=toSS_.row) rfl
def Ybm:=J @toSS_.fv.eq_1 (J @toInt64S.q @toInt64S.fv.eq_1)
theorem toSS_.ok:Qas Tryz.prog 28 toSS_.row:=by
 refine vw (tC toInt64S.ok tN) Tryz.func28 rfl (by kernel_rfl) ?_;intro a hpre;simp only[Tryz.f28,Option.getD];simp(maxSteps:=9^9)(disch:=omega)only[ZZ,simprocAttr,rch,Ybm];intro hlen;have hpl:a.length<=1073741824:=hpre.1;refine⟨by omega,?_⟩;refine Qay.old ⟨{k:Nat//k<=a.length},fun k=>⟨[(4,.im (.int .i64 k.1)),(3,.own 1),(0,.im (.sl false 1 (a.map Qcd)))],[(1,(true,.arr 32 1 ((a.take k.1).map Qcd++List.replicate (a.length - k.1) [.sl true 0 []])))],2⟩,fun k=>a.length - k.1,fun k=>⟨by simp[Qad.good,belT,belH,Qam,AV.bel,belL],Zal _⟩,⟨⟨0,by omega⟩,by simp(maxSteps:=9^9)(disch:=omega)only[ZZ,simprocAttr,rch,Ybm,sub];simp⟩,fun k=> ?_⟩;obtain⟨k,hk1⟩:=k;simp(maxSteps:=9^9)(disch:=omega)only[ZZ,simprocAttr,rch,Ybm,sub,Qal,Qk2 _ _ a k hk1];intro _;refine⟨fun hk=> ?_,fun hk=> ?_⟩
 .refine⟨hk,fun x hx=>⟨hpre.2 x (Zae hx),hk,hk,Qi3 (Qj5 Qcd _ a k x hx) ?_⟩⟩;simp(maxSteps:=9^9)(disch:=omega)only[ZZ,simprocAttr,rch,Ybm,sub];refine⟨⟨k+1,by omega⟩,by simp only;omega,?_,?_⟩
  .rw[Qak (by omega) (by omega)];simp only;omega
  .exact Qli Qcd _ a k x hx
 .rw[Qkp Qcd _ a k (by omega)];simp[Qxv]
def toPf_.fv(a:Qajo):Qajo:=(fun p=>p) a
def toPf_.row:Row:=vK (b1 (qR Qajo.d_le)) (rA Qajo.d_le) (fun a=>smPf a) toPf_.fv
def toPf_.q:=vKq (R:=toPf_.row) rfl
theorem toPf_.ok:Qas Tryz.prog 10 toPf_.row:=by
 refine vw (tC toOptionS.ok (tC toInt64S.ok (tC toSS_.ok tN))) Tryz.func10 rfl (by kernel_rfl) ?_;intro a hpre;simp only[Tryz.f10,Option.getD];simp(maxSteps:=9^9)(disch:=omega)only[ZZ,simprocAttr,rch,toPf_.fv,toOptionS.q,toOptionS.fv,toInt64S.q,toInt64S.fv,toSS_.q,toSS_.fv];obtain⟨h1,h2,h3,h4⟩:=hpre;exact⟨h1,h2,h3,h4⟩
def eqSSg.fv(a:(List (List Int))×(List (List Int))):Bool:=(fun a b=>decide (a=b)) (a.1) (a.2)
def eqSSg.row:Row:=vKF (b2 (qS Qj4 Qaoj) (qS Qj4 Qaoj)) rB (fun a=>True) eqSSg.fv
def eqSSg.q:=vKFq (R:=eqSSg.row) rfl
def Ybn:=J @eqSSg.fv.eq_1 (J @eqInt64S.q @eqInt64S.fv.eq_1)
theorem eqSSg.ok:Qas Tryz.prog 36 eqSSg.row:=by
 refine vwF (tC eqInt64S.ok tN) Tryz.func36 rfl (by kernel_rfl) ?_;intro a hpre;simp only[Tryz.f36,Option.getD];simp(maxSteps:=9^9)(disch:=omega)only[ZZ,simprocAttr,rch,Ybn,ORC,D.sc,D.scs,scL,decD];intro h1 h2;simp only[Qal];refine⟨fun hl=> ?_,fun hl=> ?_⟩
 .have:a.1≠a.2:=fun h=>hl (by rw[h])
  simp[this]
 have hl:a.1.length=a.2.length:=by omega
 refine Qay.old ⟨{k:Nat//k<=a.1.length/\a.1.take k=a.2.take k},fun k=>⟨[(5,.im (.int .i64 k.1)),(4,.im (.bool false)),(0,.im (.sl false 1 (a.1.map Qcd))),(1,.im (.sl false 1 (a.2.map Qcd)))],[],0⟩,fun k=>a.1.length - k.1,fun k=>⟨by simp[Qad.good,belT,belH,Qam,AV.bel,belL],Zal _⟩,⟨⟨0,by simp⟩,by simp(maxSteps:=9^9)(disch:=omega)only[ZZ,simprocAttr,rch,Ybn,ORC,D.sc,D.scs,scL,decD,sub]⟩,fun k=> ?_⟩;obtain⟨k,hk1,hk2⟩:=k;simp(maxSteps:=9^9)(disch:=omega)only[ZZ,simprocAttr,rch,Ybn,ORC,D.sc,D.scs,scL,decD,sub,Qal];intro _;refine⟨fun hk=>⟨hk,fun x hx=>⟨by omega,fun y hy=> ?_⟩⟩,fun hk=> ?_⟩
 .obtain⟨g1,g2⟩:=Qew hl hk1 hk2 hx hy;exact⟨fun h=>by simp[g2 (show x≠y from h)],fun h=>Qb6 hk h1 ⟨by omega,g1 (show x=y from ZaY.1 h)⟩⟩
 .rw[Zap (by omega),Zap (by omega)] at hk2;simp[hk2]
def eqPfG.fv(a:Qajo×Qajo):Bool:=(fun a b=>decide (a=b)) (a.1) (a.2)
def eqPfG.row:Row:=vKF (b2 (qR Qajo.d_le) (qR Qajo.d_le)) rB (fun a=>True) eqPfG.fv
def eqPfG.q:=vKFq (R:=eqPfG.row) rfl
theorem eqPfG.ok:Qas Tryz.prog 14 eqPfG.row:=by
 refine vwF (tC eqOptionS.ok (tC eqInt64S.ok (tC eqSSg.ok tN))) Tryz.func14 rfl (by kernel_rfl) ?_;intro a hpre;simp only[Tryz.f14,Option.getD];simp(maxSteps:=9^9)(disch:=omega)only[ZZ,simprocAttr,rch,eqPfG.fv,eqOptionS.q,eqOptionS.fv,eqInt64S.q,eqInt64S.fv,eqSSg.q,eqSSg.fv,ORC,D.sc,D.scs,scL,decD];obtain⟨⟨k,x,y,z,w⟩,⟨k',x',y',z',w'⟩⟩:=a;simp only[Qajo.mk.injEq]
 grind
def lawCP.rc:D->Option (Bool):=Qa8
def lawCP.re:Bool->D:=D.bool
theorem lawCP.rle: ∀d b,lawCP.rc d=some b->Le d (lawCP.re b):=Qat
def lawCP.ar:List PK->Option (Qar×Asm×Qajo):=a3 (kR Qar.d) (kR Asm.d) (kR Qajo.d)
def lawCP.fv(a:Qar×Asm×Qajo):Bool:=(fun _ _ _=>true) (a.1) (a.2.1) (a.2.2)
def lawCP.row:Row:=vK (b3 (qR Qar.d_le) (qR Asm.d_le) (qR Qajo.d_le)) (RK.mk lawCP.rc lawCP.re lawCP.rle) (fun a=>nmOk a.1.Set) lawCP.fv
def lawCP.q:=vKq (R:=lawCP.row) rfl
theorem lawCP.ok:Qas Tryz.prog 3 lawCP.row:=by
 refine vw (tC szSystem.ok (tC szAssembly.ok (tC szPfS.ok (tC toSystem.ok (tC toAssembly.ok (tC toPf_.ok (tC cpS_.ok (tC cpI_.ok (tC eqSystem.ok (tC eqAssembly.ok (tC eqPfG.ok tN))))))))))) Tryz.func3 rfl (by kernel_rfl) ?_;intro a hpre;simp only[Tryz.f3,Option.getD];simp(maxSteps:=9^9)(disch:=omega)only[ZZ,simprocAttr,rch,lawCP.fv,lawCP.rc,szSystem.q,szSystem.fv,szAssembly.q,szAssembly.fv,szPfS.q,szPfS.fv,toSystem.q,toSystem.fv,toAssembly.q,toAssembly.fv,toPf_.q,toPf_.fv,cpS_.q,cpS_.fv,cpI_.q,cpI_.fv,eqSystem.q,eqSystem.fv,eqAssembly.q,eqAssembly.fv,eqPfG.q,eqPfG.fv];obtain⟨s,a,p⟩:=a;simp only at hpre⊢;refine⟨hpre,?_⟩;split
 .trivial
 rename_i c1;have h1:=szSys_sm (s:=s) (l:=1048576) (by decide) (by decide) (by omega);have hb:=szSys_b s 1048576 (by decide);refine⟨⟨by omega,by omega⟩,?_⟩;split
 .trivial
 rename_i c2;obtain⟨b1,b2,_⟩:=Qn3 (n:=a.Tiles.length) (l:=Qlr s 1048576) (by simp only[Qab3] at c2;omega);have h3:a.Tiles.length<=1073741824:=by omega
 refine⟨⟨by simp only[Qab3] at c2⊢;omega,by simp only[Qab3] at c2⊢;omega⟩,?_⟩;split
 .trivial
 rename_i c3;have h5:=szPf_sm (p:=p) (l:=Qab3 a (Qlr s 1048576)) (by simp only[Qab3] at c2⊢;omega) (by simp only[Qab3] at c2⊢;omega) (by omega);refine⟨h1,h3,h5,h1,h3,h5,hpre,?_⟩;exact⟨h1,h3,h5⟩
end Go.Ae
