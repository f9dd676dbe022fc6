/- Lemmas. Conditions: none. -/
import Derived.Test.YtofkcjmhpnkjhaaGreatP08
set_option linter.all false
set_option maxHeartbeats 8000000
set_option maxRecDepth 100000
namespace Go.Ae
open Go.Proofs
theorem digS_size(k:Int):(digS k).size=1:=rfl
def nmS(c:UInt8)(k:Int):ByteArray:=⟨#[c]⟩++digS k
def dgR:Nat->Rnd->List Glue×Rnd
 |0,x=>([],x)
 |k+1,x=>((dgR k x).1++[⟨nmS 103 k,1+(Qaqd (dgR k x).2 2).1⟩],(Qaqd (dgR k x).2 2).2)
def sidR(g:Int)(x:Rnd):Int×Rnd:=if (Qaqd x 3).1=0 then (0,(Qaqd x 3).2) else (1+(Qaqd (Qaqd x 3).2 g).1,(Qaqd (Qaqd x 3).2 g).2)
def dsR(g:Int):Nat->Rnd->List Int×Rnd
 |0,x=>([],x)
 |d+1,x=>((dsR g d x).1++[(sidR g (dsR g d x).2).1],(sidR g (dsR g d x).2).2)
def dtR(g:Int):Nat->Rnd->List Tile×Rnd
 |0,x=>([],x)
 |k+1,x=>((dtR g k x).1++[⟨nmS 116 k,(dsR g 4 (dtR g k x).2).1⟩],(dsR g 4 (dtR g k x).2).2)
def drwR(x:Rnd)(n:Int):Qaa×Rnd:=
 let g:=1+(Qaqd x 5).1
 let a:=dgR g.toNat (Qaqd x 5).2
 let b:=dtR g n.toNat a.2
 (⟨a.1,b.1⟩,b.2)
def wldR(x:Rnd):Qar×Rnd:=
 let d:=drwR (Qaqd x 4).2 (2+(Qaqd x 4).1)
 let q:=Qaqd d.2 d.1.Tiles.length
 (⟨d.1,⟨[⟨⟨0,0⟩,q.1⟩]⟩,2+(Qaqd q.2 2).1⟩,(Qaqd q.2 2).2)
def optR(many:Int)(x:Rnd):Int×Rnd:=if (Qaqd x 4).1=0 then (1+(Qaqd (Qaqd x 4).2 many).1,(Qaqd (Qaqd x 4).2 many).2) else (0,(Qaqd x 4).2)
def lnR(t many:Int):Nat->Rnd->(List Glue×List Tile)×Rnd
 |0,x=>(([],[]),x)
 |k+1,x=>
  let r:=lnR t many k x
  let a:=optR many r.2
  let b:=optR many a.2
  ((r.1.1++[⟨nmS 103 k,t⟩],r.1.2++[⟨nmS 116 k,[a.1,k+1,b.1,k]⟩]),b.2)
def Qaqh(l:List Tile)(i d:Nat)(v:Int):List Tile:=l.modify i fun t=>{t with Sides:=t.Sides.set d v}
def linR(x:Rnd):Qar×Rnd:=
 let t:=1+(Qaqd x 2).1
 let q:=Qaqd (Qaqd x 2).2 6
 let many:=2+q.1
 let l:=lnR t many many.toNat q.2
 (⟨⟨l.1.1,if (Qaqd l.2 2).1=0 then Qaqh l.1.2 (many.toNat - 1) 1 0 else l.1.2⟩,⟨[⟨⟨0,0⟩,0⟩]⟩,t⟩,(Qaqd l.2 2).2)
def c1R:Nat->Rnd->(List Glue×List Tile)×Rnd
 |0,x=>(([⟨⟨#[122,101,114,111]⟩,1⟩,⟨⟨#[111,110,101]⟩,1⟩],[⟨⟨#[115,101,101,100]⟩,[0,0,0,0]⟩]),x)
 |k+1,x=>
  let r:=c1R k x
  let n:Int:=(k:Int)+3
  ((r.1.1++[⟨nmS 120 k,2⟩],Qaqh r.1.2 k 1 n++[⟨nmS 101 k,[1+(Qaqd r.2 2).1,0,0,n]⟩]),(Qaqd r.2 2).2)
def c2R(w:Nat)(s:(List Glue×List Tile)×Rnd):Nat->(List Glue×List Tile)×Rnd
 |0=>s
 |k+1=>
  let r:=c2R w s k
  let n:Int:=(w:Int)+k+3
  ((r.1.1++[⟨nmS 121 k,2⟩],Qaqh r.1.2 (if k=0 then 0 else w+k) 0 n++[⟨nmS 110 k,[0,1+(Qaqd r.2 2).1,n,0]⟩]),(Qaqd r.2 2).2)
def c3R(s:List Tile×Rnd):Nat->List Tile×Rnd
 |0=>s
 |k+1=>
  let r:=c3R s k
  let p:=Qaqd r.2 2
  (r.1++[⟨nmS 114 k,[1+p.1,1+(Qaqd p.2 2).1,1+(k:Int) % 2,1+(k:Int)/2]⟩],(Qaqd p.2 2).2)
def corR(x:Rnd):Qar×Rnd:=
 let p:=Qaqd x 4
 let q:=Qaqd p.2 4
 let a:=c1R (1+p.1).toNat q.2
 let b:=c2R (1+p.1).toNat a (1+q.1).toNat
 let c:=c3R (b.1.2,b.2) 4
 let z:=Qaqd c.2 3
 let u:=Qaqd z.2 2
 let v:=Qaqd u.2 2
 (⟨⟨b.1.1,if z.1=0 then c.1++[⟨⟨#[114,52]⟩,[1,2,1+u.1,1+v.1]⟩] else c.1⟩,⟨[⟨⟨0,0⟩,0⟩]⟩,2⟩,if z.1=0 then v.2 else z.2)
def sysR(x:Rnd):Qar×Rnd:=let p:=Qaqd x 7;if p.1=0 then wldR p.2 else if p.1=1\/p.1=2 then linR p.2 else corR p.2
def schR:Nat->Rnd->List Int×Rnd
 |0,x=>([],x)
 |k+1,x=>((schR k x).1++[(Qaqd (schR k x).2 20).1],(Qaqd (schR k x).2 20).2)
def lawSch(code:List Int):List Int:=let p:=Qaqd ⟨code,0,0⟩ 7;(schR p.1.toNat p.2).1
theorem schR_ok{m:Int}{x:Rnd}(h:okR m x): ∀k:Nat,okR (m+k) (schR k x).2
 |0=>by simpa[schR] using h
 |k+1=>by
  have:=Qaqf (schR_ok h k) 20
  exact this.mono (by omega)
theorem Qar7(x:Rnd): ∀k,(schR k x).1.length=k
 |0=>rfl
 |k+1=>by simp[schR,Qar7 x k]
def lsc_.fv(a:(List Int)):List Int:=(lawSch) a
def lsc_.row:Row:=vK (b1 (qS Qaq6 Qarj)) (rS Qb3 Qant) (fun a=>bytR a) lsc_.fv
def lsc_.q:=vKq (R:=lsc_.row) rfl
theorem lsc_.ok:Qas Tryz.prog 7 lsc_.row:=by
 refine vw (tC frm_.ok (tC pck_.ok tN)) Tryz.func7 rfl (by kernel_rfl) ?_;intro a hpre;simp only[Tryz.f7,Option.getD];simp(maxSteps:=9^9)(disch:=omega)only[ZZ,simprocAttr,rch,lsc_.fv];refine orow.os a [] trivial (fun j=>by simp[domB,hget]) rfl rfl ?_ ?_
 .simp(maxSteps:=9^9)(disch:=omega)only[ZZ,simprocAttr,rch,lsc_.fv,frm_.ca,Qer]
  try exact⟨rfl,rfl⟩
 have h0:okR 0 ⟨a,0,0⟩:=⟨hpre,Zch _,Zch _⟩;simp(maxSteps:=9^9)(disch:=omega)only[ZZ,simprocAttr,rch,lsc_.fv,frm_.H1,rndH,rndC,sub];refine orow.os (⟨a,0,0⟩,7) [1] ⟨h0.mono (by decide),by simp only;omega⟩ (fun j=>Qaqe _ j) rfl rfl ?_ ?_
 .simp(maxSteps:=9^9)(disch:=omega)only[ZZ,simprocAttr,rch,lsc_.fv,pck_.ca,pck_.H0,rndH,rndC,ZaQ,Zak]
  try exact⟨rfl,rfl⟩
 simp(maxSteps:=9^9)(disch:=omega)only[ZZ,simprocAttr,rch,lsc_.fv,pck_.H1,rndH,rndC,kn0,sub,Zak];obtain⟨p,hp⟩: ∃p,p=Qaqd ⟨a,0,0⟩ 7:=⟨_,rfl⟩;have hb:=Qaqg ⟨a,0,0⟩ 7;have hok:=Qaqf h0 7;simp only[lawSch,<-hp] at hb hok⊢;have hb1:=hb.1;have hb2:=hb.2 (by decide);refine Qay.ren ⟨{k:Nat//k<=p.1.toNat},fun k=>⟨[(5,.im (.int .i64 (p.1 - k.1))),(4,.own 7),(3,.ptr 1 0)],[(1,(true,.cells 94 [.im (.sl false 1 ((schR k.1 p.2).2.code.map bytC)),.im (.int .i64 (schR k.1 p.2).2.at'),.im (.int .u64 (schR k.1 p.2).2.seed)])),(7,(true,.arr 2 1 ((schR k.1 p.2).1.map intC)))],8⟩,fun k=>p.1.toNat - k.1,fun k=>⟨by simp[Qad.good,belT,belH,Qam,AV.bel,belL],by simp⟩,⟨⟨0,ZaU _⟩,[(7,some 6)],?_⟩,fun k=> ?_⟩
 .simp only[subP,schR];simp(maxSteps:=9^9)(disch:=omega)only[ZZ,simprocAttr,rch,lsc_.fv,Zab,Zaa,ZaG]
  try simp
 obtain⟨k,hk⟩:=k;have hl:=Qar7 p.2 k;have hok2:=schR_ok hok k;simp(maxSteps:=9^9)(disch:=omega)only[ZZ,simprocAttr,rch,lsc_.fv,sub,Qal];refine⟨fun hk2=> ?_,fun hk2=> ?_⟩
 .refine orow.os ((schR k p.2).2,20) [1] ⟨hok2.mono (by omega),by simp only;omega⟩ (fun j=>Qaqe _ j) rfl rfl ?_ ?_
  .simp(maxSteps:=9^9)(disch:=omega)only[ZZ,simprocAttr,rch,lsc_.fv,pck_.ca,pck_.H0,rndH,rndC,ZaQ,Zak]
   try exact⟨rfl,rfl⟩
  simp(maxSteps:=9^9)(disch:=omega)only[ZZ,simprocAttr,rch,lsc_.fv,pck_.H1,rndH,rndC,kn0,sub,Zak];refine⟨by simp[OneR,allD,D.one],by omega,⟨k+1,by omega⟩,[(7,some 9)],by simp only;omega,?_⟩;simp only[subP];simp(maxSteps:=9^9)(disch:=omega)only[ZZ,simprocAttr,rch,lsc_.fv,Zab,Zaa];refine⟨?_,?_,?_⟩
  .rw[Qak (by omega) (by omega)];omega
  .exact⟨rfl,rfl,rfl⟩
  .simp[schR,intC]
 .rw[show k=p.1.toNat by omega]
theorem dgR_ok{m:Int}{x:Rnd}(h:okR m x): ∀k:Nat,okR (m+k) (dgR k x).2/\(dgR k x).1.length=k
 |0=>⟨by simpa[dgR] using h,rfl⟩
 |k+1=>by
  obtain⟨h1,h2⟩:=dgR_ok h k
  have:=Qaqf h1 2
  exact⟨this.mono (by omega),by simp[dgR,h2]⟩
theorem sidR_ok{m:Int}{x:Rnd}(h:okR m x)(g:Int):okR (m+2) (sidR g x).2:=by
 have h1:=Qaqf h 3;simp only[sidR];split
 .exact h1.mono (by omega)
 .exact (Qaqf h1 g).mono (by omega)
theorem dsR_ok{m:Int}{x:Rnd}(h:okR m x)(g:Int): ∀k:Nat,okR (m+2*k) (dsR g k x).2/\(dsR g k x).1.length=k
 |0=>⟨by simpa[dsR] using h,rfl⟩
 |k+1=>by
  obtain⟨h1,h2⟩:=dsR_ok h g k;exact⟨(sidR_ok h1 g).mono (by omega),by simp[dsR,h2]⟩
theorem dtR_ok{m:Int}{x:Rnd}(h:okR m x)(g:Int): ∀k:Nat,okR (m+8*k) (dtR g k x).2/\(dtR g k x).1.length=k
 |0=>⟨by simpa[dtR] using h,rfl⟩
 |k+1=>by
  obtain⟨h1,h2⟩:=dtR_ok h g k
  have:=(dsR_ok h1 g 4).1
  exact⟨this.mono (by omega),by simp[dtR,h2]⟩
theorem Qaql(h:Nat->Option Ent)(kx:Nat->Option Nat)(n:Nat): ∀(rows:List (List D)),mapO (mapO (cvt h kx (n+1))) (rows.map fun r=>r.map AV.im)=some (rows.map fun r=>r.map AV.im)
 |[]=>rfl
 |r::rs=>by
  have h1: ∀l:List D,mapO (cvt h kx (n+1)) (l.map AV.im)=some (l.map AV.im):=by
   intro l;induction l with
   |nil=>rfl
   |cons d l ih=>simp only[Zaq,mapO,cvt,ih,kp]
  simp only[Zaq,mapO,h1,Qaql h kx n rs,kp]
def drw_.ca(a:Rnd×Int):List AV:=[.ptr 0 0,.im (.int .i64 a.2)]
def drw_.H0(a:Rnd×Int):Qan:=rndH a.1
def setH(s:Qaa):Qan:=[(1,(true,.arr 128 2 (s.Glues.map Glue.c))),(2,(true,.arrA 130 2 (imR (s.Tiles.map Tile.c))))]
def drw_.H1(a:Rnd×Int):Qan:=(0,(true,.cells 94 (rndC (drwR a.1 a.2).2)))::setH (drwR a.1 a.2).1
def drw_.r0(_:Rnd×Int):AV:= .agg [.own 1,.own 2]
def drw_.row:Row:=orow drw_.ca drw_.H0 1 (fun a=>okR 1000 a.1/\1<=a.2/\a.2<=9) kn0 drw_.r0 drw_.H1 10
def Yat:=J @dec_.q @dec_.fv.eq_1
theorem drw_.ok:Qas Tryz.prog 73 drw_.row:=by
 refine owN (tC pck_.ok (tC one_.ok (tC dec_.ok tN))) Tryz.func73 rfl (by kernel_rfl) (exB:=fun j=>Nat.ble 1 j) (R:=fun a r=>r=drw_.r0 a) (fun _=>rfl)
  (fun a=>by simp[drw_.ca,drw_.H0,rndH,rndC,drw_.H1,setH,kn0,belL,AV.bel,belH,Qam,Qc2,AObj.nms,nmsL,AV.nms,domB,hget]) (fun a p hp=> ?_) (fun a r h=>by subst h;exact LeV.refl _) ?_
 rotate_left
 intro a hpre;simp only[Tryz.f73,Option.getD,drw_.ca,drw_.H0,rndH,rndC,drw_.H1,setH,kn0];simp(maxSteps:=9^9)(disch:=omega)only[ZZ,simprocAttr,rch,Yat,Qc7,ORB,drw_.ca,drw_.H0,rndH,rndC,drw_.H1,setH,kn0]
 .obtain⟨x,n⟩:=a;obtain⟨h1,h2,h3⟩:=hpre;simp only at h1 h2 h3⊢;refine orow.os (x,5) [0] ⟨h1.mono (by omega),by simp only;omega⟩ (fun j=>Qaqe _ j) rfl rfl ?_ ?_
  .simp(maxSteps:=9^9)(disch:=omega)only[ZZ,simprocAttr,rch,Yat,Qc7,ORB,drw_.ca,drw_.H0,rndH,rndC,drw_.H1,setH,kn0,pck_.ca,pck_.H0,rndH,rndC,ZaQ,Zak]
   try exact⟨rfl,rfl⟩
  have hb:=Qaqg x 5;have hb2:=hb.2 (by decide);have hok:=Qaqf h1 5;have hg:IntKind.i64.wrap (1+(Qaqd x 5).1)=1+(Qaqd x 5).1:=Qak (by omega) (by omega);simp(maxSteps:=9^9)(disch:=omega)only[ZZ,simprocAttr,rch,Yat,Qc7,ORB,drw_.ca,drw_.H0,rndH,rndC,drw_.H1,setH,kn0,pck_.H1,rndH,rndC,kn0,sub,Zak,hg];obtain⟨g,hgd⟩: ∃g,g=1+(Qaqd x 5).1:=⟨_,rfl⟩;obtain⟨y,hy⟩: ∃y,y=(Qaqd x 5).2:=⟨_,rfl⟩;rw[<-hy] at hok;simp only[<-hgd,<-hy];refine Qay.ren ⟨{k:Nat//k<=g.toNat},fun k=>⟨[(7,.im (.int .i64 k.1)),(6,.im (.int .i64 g)),(5,.ptr 2 0),(4,.ptr 1 0),(0,.ptr 0 0),(1,.im (.int .i64 n))],[(0,(true,.cells 94 (rndC (dgR k.1 y).2))),(2,(true,.cells 27 [.own 3,.im (.sl true 0 [])])),(1,(true,.cells 27 [.im (.sl true 0 []),.im (.sl true 0 [])])),(3,(true,.arr 128 2 ((dgR k.1 y).1.map Glue.c)))],4⟩,fun k=>g.toNat - k.1,fun k=>⟨by simp[Qad.good,belT,belH,Qam,AV.bel,belL,rndC],by simp⟩,⟨⟨0,ZaU _⟩,[(3,none)],?_⟩,fun k=> ?_⟩
  .simp only[subP,dgR];simp(maxSteps:=9^9)(disch:=omega)only[ZZ,simprocAttr,rch,Yat,Qc7,ORB,drw_.ca,drw_.H0,rndH,rndC,drw_.H1,setH,kn0,rndC,Zab,Zaa,ZaG]
   try simp
  obtain⟨k,hk⟩:=k;obtain⟨hok2,hl⟩:=dgR_ok hok k;simp only[rndC];simp(maxSteps:=9^9)(disch:=omega)only[ZZ,simprocAttr,rch,Yat,Qc7,ORB,drw_.ca,drw_.H0,rndH,rndC,drw_.H1,setH,kn0,sub,Qal];refine⟨fun hk2=>⟨by omega,?_,?_⟩,fun hk2=> ?_⟩
  .show 1+1<=9223372036854775807;omega
  .refine orow.os ((dgR k y).2,2) [0] ⟨hok2.mono (by omega),by simp only;omega⟩ (fun j=>Qaqe _ j) rfl rfl ?_ ?_
   .simp(maxSteps:=9^9)(disch:=omega)only[ZZ,simprocAttr,rch,Yat,Qc7,ORB,drw_.ca,drw_.H0,rndH,rndC,drw_.H1,setH,kn0,pck_.ca,pck_.H0,rndH,rndC,ZaQ,Zak]
    try exact⟨rfl,rfl⟩
   have hw:IntKind.i64.wrap (1+(Qaqd (dgR k y).2 2).1)=1+(Qaqd (dgR k y).2 2).1:=by
    have:=Qaqg (dgR k y).2 2
    exact Qak (by omega) (by omega)
   simp(maxSteps:=9^9)(disch:=omega)only[ZZ,simprocAttr,rch,Yat,Qc7,ORB,drw_.ca,drw_.H0,rndH,rndC,drw_.H1,setH,kn0,pck_.H1,rndH,rndC,kn0,sub,Zak,hw];refine⟨by omega,⟨k+1,by omega⟩,[(3,some 5)],by simp only;omega,?_⟩;simp only[subP,rndC];simp(maxSteps:=9^9)(disch:=omega)only[ZZ,simprocAttr,rch,Yat,Qc7,ORB,drw_.ca,drw_.H0,rndH,rndC,drw_.H1,setH,kn0,Zab,Zaa];refine⟨?_,?_,?_⟩
   .rw[Qak (by omega) (by omega)];omega
   .exact⟨rfl,rfl,rfl⟩
   .simp[dgR,Glue.c,nmS]
  obtain rfl:k=g.toNat:=by omega
  obtain⟨gl,hgl⟩: ∃gl,gl=(dgR g.toNat y).1:=⟨_,rfl⟩;obtain⟨z,hz⟩: ∃z,z=(dgR g.toNat y).2:=⟨_,rfl⟩;rw[<-hz] at hok2;simp only[<-hgl,<-hz];refine Qay.frr ⟨{k:Nat//k<=n.toNat},fun k=>⟨[(8,.im (.int .i64 k.1)),(6,.im (.int .i64 g)),(5,.ptr 2 0),(4,.ptr 1 0),(0,.ptr 0 0),(1,.im (.int .i64 n))],[(0,(true,.cells 94 (rndC (dtR g k.1 z).2))),(2,(true,.cells 27 [.own 3,.own 4])),(1,(true,.cells 27 [.im (.sl true 0 []),.im (.sl true 0 [])])),(3,(true,.arr 128 2 (gl.map Glue.c))),(4,(true,.arrA 130 2 (imR ((dtR g k.1 z).1.map Tile.c))))],5⟩,fun k=>n.toNat - k.1,fun k=>⟨by simp[Qad.good,belT,belH,Qam,AV.bel,belL,rndC,Qxu],by simp⟩,⟨⟨0,ZaU _⟩,[],[(4,none)],?_⟩,fun k=> ?_⟩
  .simp only[subP,dtR,ZaG,Qafa];simp(maxSteps:=9^9)(disch:=omega)only[ZZ,simprocAttr,rch,Yat,Qc7,ORB,drw_.ca,drw_.H0,rndH,rndC,drw_.H1,setH,kn0,rndC,Zab,Zaa]
  obtain⟨k,hk⟩:=k;obtain⟨hok3,hl3⟩:=dtR_ok hok2 g k;simp only[rndC];simp(maxSteps:=9^9)(disch:=omega)only[ZZ,simprocAttr,rch,Yat,Qc7,ORB,drw_.ca,drw_.H0,rndH,rndC,drw_.H1,setH,kn0,sub,Qal];refine⟨fun hk2=>⟨by omega,?_,?_⟩,fun hk2=> ?_⟩
  .show 1+1<=9223372036854775807;omega
  .refine Qay.ren ⟨{d:Nat//d<=4},fun d=>⟨[(10,.im (.int .i64 d.1)),(9,.ptr 5 0),(8,.im (.int .i64 k)),(6,.im (.int .i64 g)),(5,.ptr 2 0),(4,.ptr 1 0),(0,.ptr 0 0),(1,.im (.int .i64 n))],[(0,(true,.cells 94 (rndC (dsR g d.1 (dtR g k z).2).2))),(2,(true,.cells 27 [.own 3,.own 4])),(1,(true,.cells 27 [.im (.sl true 0 []),.im (.sl true 0 [])])),(3,(true,.arr 128 2 (gl.map Glue.c))),(4,(true,.arrA 130 2 (imR ((dtR g k z).1.map Tile.c)))),(5,(true,.cells 130 [.im (.str (nmS 116 k)),.own 6])),(6,(true,.arr 2 1 ((dsR g d.1 (dtR g k z).2).1.map intC)))],7⟩,fun d=>4 - d.1,fun d=>⟨by simp[Qad.good,belT,belH,Qam,AV.bel,belL,rndC,Qxu],by simp⟩,⟨⟨0,ZaU _⟩,[(6,none)],?_⟩,fun d=> ?_⟩
   .simp only[subP,dsR];simp(maxSteps:=9^9)(disch:=omega)only[ZZ,simprocAttr,rch,Yat,Qc7,ORB,drw_.ca,drw_.H0,rndH,rndC,drw_.H1,setH,kn0,rndC,Zab,Zaa,ZaG,Qsg];rfl
   obtain⟨d,hd⟩:=d;obtain⟨hok4,hl4⟩:=dsR_ok hok3 g d;simp only[rndC];simp(maxSteps:=9^9)(disch:=omega)only[ZZ,simprocAttr,rch,Yat,Qc7,ORB,drw_.ca,drw_.H0,rndH,rndC,drw_.H1,setH,kn0,sub,Qal];refine⟨fun hd2=> ?_,fun hd2=> ?_⟩
   .refine orow.os ((dsR g d (dtR g k z).2).2,3) [0] ⟨hok4.mono (by omega),by simp only;omega⟩ (fun j=>Qaqe _ j) rfl rfl ?_ ?_
    .simp(maxSteps:=9^9)(disch:=omega)only[ZZ,simprocAttr,rch,Yat,Qc7,ORB,drw_.ca,drw_.H0,rndH,rndC,drw_.H1,setH,kn0,pck_.ca,pck_.H0,rndH,rndC,ZaQ,Zak]
     try exact⟨rfl,rfl⟩
    simp(maxSteps:=9^9)(disch:=omega)only[ZZ,simprocAttr,rch,Yat,Qc7,ORB,drw_.ca,drw_.H0,rndH,rndC,drw_.H1,setH,kn0,one_.H1,rndH,rndC,kn0,sub,Zak];have hw:IntKind.i64.wrap ((d:Int)+1)=((d+1:Nat):Int):=by rw[Qak (by omega) (by omega)];omega
    by_cases c:(Qaqd (dsR g d (dtR g k z).2).2 3).1=0
    .rw[Zao c];refine⟨by omega,⟨d+1,by omega⟩,[(6,some 8)],by simp only;omega,?_⟩;simp only[subP,rndC];simp(maxSteps:=9^9)(disch:=omega)only[ZZ,simprocAttr,rch,Yat,Qc7,ORB,drw_.ca,drw_.H0,rndH,rndC,drw_.H1,setH,kn0,Zab,Zaa,Qsg];refine⟨hw,?_,?_⟩
     .simp only[dsR,sidR];rw[Zao c];exact⟨rfl,rfl,rfl⟩
     .simp only[dsR,sidR];rw[Zao c];simp[intC]
    .rw[Zaj c];have hok5:=Qaqf hok4 3;refine orow.os ((Qaqd (dsR g d (dtR g k z).2).2 3).2,g) [0] ⟨hok5.mono (by omega),by simp only;omega⟩ (fun j=>Qaqe _ j) rfl rfl ?_ ?_
     .simp(maxSteps:=9^9)(disch:=omega)only[ZZ,simprocAttr,rch,Yat,Qc7,ORB,drw_.ca,drw_.H0,rndH,rndC,drw_.H1,setH,kn0,pck_.ca,pck_.H0,rndH,rndC,ZaQ,Zak]
      try exact⟨rfl,rfl⟩
     have hb3:=Qaqg (Qaqd (dsR g d (dtR g k z).2).2 3).2 g;have hw2:IntKind.i64.wrap (1+(Qaqd (Qaqd (dsR g d (dtR g k z).2).2 3).2 g).1)=1+(Qaqd (Qaqd (dsR g d (dtR g k z).2).2 3).2 g).1:=by
      have:=hb3.2 (by omega)
      exact Qak (by omega) (by omega)
     simp(maxSteps:=9^9)(disch:=omega)only[ZZ,simprocAttr,rch,Yat,Qc7,ORB,drw_.ca,drw_.H0,rndH,rndC,drw_.H1,setH,kn0,pck_.H1,rndH,rndC,kn0,sub,Zak,hw2];refine⟨by omega,⟨d+1,by omega⟩,[(6,some 8)],by simp only;omega,?_⟩;simp only[subP,rndC];simp(maxSteps:=9^9)(disch:=omega)only[ZZ,simprocAttr,rch,Yat,Qc7,ORB,drw_.ca,drw_.H0,rndH,rndC,drw_.H1,setH,kn0,Zab,Zaa,Qsg];refine⟨hw,?_,?_⟩
     .simp only[dsR,sidR];rw[Zaj c];exact⟨rfl,rfl,rfl⟩
     .simp only[dsR,sidR];rw[Zaj c];simp[intC]
   .obtain rfl:d=4:=by omega
    refine⟨by simp[belL,AV.bel],by omega,by rw[ZbY,Qaeq];simp[belL,AV.bel],⟨k+1,by omega⟩,[6],[(4,some 8)],by simp only;omega,?_⟩;simp only[subP,rndC,dtR];simp(maxSteps:=9^9)(disch:=omega)only[ZZ,simprocAttr,rch,Yat,Qc7,ORB,drw_.ca,drw_.H0,rndH,rndC,drw_.H1,setH,kn0,Zab,Zaa,Qzl,Qzb,ZaT,Zaq,ZaG];refine⟨by rw[Qak (by omega) (by omega)];omega,?_⟩
    have:=Qzo [(4,some 8)] ((dtR g k z).1.map Tile.c++[[.str (nmS 116 k),.sl false 1 ((dsR g 4 (dtR g k z).2).1.map intC)]])
    simpa only[imR,ZaT,Zaq,ZaG] using this
  .obtain rfl:k=n.toNat:=by omega
   refine⟨[],[(1,some 3),(2,some 4),(3,some 1)],⟨[(4,.ptr 3 0),(0,.ptr 0 0)],[(3,(true,.cells 27 [.own 1,.own 2])),(0,(true,.cells 94 (rndC (dtR g n.toNat z).2))),(1,(true,.arr 128 2 (gl.map Glue.c))),(2,(true,.arrA 130 2 (imR ((dtR g n.toNat z).1.map Tile.c))))],4⟩,?_,by simp[Qad.good,belT,belH,Qam,AV.bel,belL,rndC,Qxu],by simp,?_⟩
   .simp only[subP,rndC];simp(maxSteps:=9^9)(disch:=omega)only[ZZ,simprocAttr,rch,Yat,Qc7,ORB,drw_.ca,drw_.H0,rndH,rndC,drw_.H1,setH,kn0,Zab,Zaa,Qzb,Qsg]
   .simp only[rndC];simp(maxSteps:=9^9)(disch:=omega)only[ZZ,simprocAttr,rch,Yat,Qc7,ORB,drw_.ca,drw_.H0,rndH,rndC,drw_.H1,setH,kn0,drw_.r0,drwR,rndC,Qaql];subst hgl hz hy hgd;exact⟨⟨rfl,rfl,rfl⟩,rfl,rfl⟩
 simp only[drw_.H1,setH,Zaw,Zca,ZdQ] at hp;rcases hp with rfl|rfl|rfl
 .exact .inl ⟨by omega,rfl,rfl⟩
 .exact .inr ⟨by omega,by omega,rfl,rfl⟩
 .exact .inr ⟨by omega,by omega,rfl,rfl⟩
theorem drwR_ok{m:Int}{x:Rnd}(h:okR m x){n:Int}(h1:1<=n)(h2:n<=9):okR (m+100) (drwR x n).2/\(drwR x n).1.Tiles.length=n.toNat:=by
 have a1:=Qaqf h 5;have b1:=(Qaqg x 5).2 (by decide);obtain⟨a2,_⟩:=dgR_ok a1 (1+(Qaqd x 5).1).toNat;obtain⟨a3,a4⟩:=dtR_ok a2 (1+(Qaqd x 5).1) n.toNat;exact⟨a3.mono (by omega),a4⟩
theorem ren_im(σ:Nat->Nat)(r:List D):renL σ (r.map AV.im)=r.map AV.im:=by
 induction r with
 |nil=>rfl
 |cons d l ih=>simp only[Zaq,renL,AV.ren,ih]
theorem Qaqp(σ:Nat->Nat)(rows:List (List D)):(rows.map fun r=>r.map AV.im).map (renL σ)=rows.map fun r=>r.map AV.im:=by
 rw[Zdq];refine Zcp fun r _=>ren_im σ r
def sysH(s:Qar):Qan:=[(1,(true,.arr 128 2 (s.Set.Glues.map Glue.c))),(2,(true,.arrA 130 2 (imR (s.Set.Tiles.map Tile.c)))),(3,(true,.arr 116 3 (s.Seed.Tiles.map Qab.c)))]
def sysV(s:Qar):AV:= .agg [.own 1,.own 2,.own 3,.im (.int .i64 s.Temperature)]
def wld_.ca(_:Rnd):List AV:=[.ptr 0 0]
def wld_.H1(x:Rnd):Qan:=(0,(true,.cells 94 (rndC (wldR x).2)))::sysH (wldR x).1
def wld_.row:Row:=orow wld_.ca rndH 1 (fun x=>okR 900 x) kn0 (fun x=>sysV (wldR x).1) wld_.H1 40
theorem wld_.ok:Qas Tryz.prog 44 wld_.row:=by
 refine owN (tC pck_.ok (tC drw_.ok tN)) Tryz.func44 rfl (by kernel_rfl) (exB:=fun j=>Nat.ble 1 j) (R:=fun x r=>r=sysV (wldR x).1) (fun _=>rfl)
  (fun a=>by simp[wld_.ca,rndH,rndC,wld_.H1,sysH,sysV,kn0,belL,AV.bel,belH,Qam,Qc2,AObj.nms,nmsL,AV.nms,domB,hget]) (fun a p hp=> ?_) (fun a r h=>by subst h;exact LeV.refl _) ?_
 rotate_left
 intro a hpre;simp only[Tryz.f44,Option.getD,wld_.ca,rndH,rndC,wld_.H1,sysH,sysV,kn0];simp(maxSteps:=9^9)(disch:=omega)only[ZZ,simprocAttr,rch,Qc7,ORB,wld_.ca,rndH,rndC,wld_.H1,sysH,sysV,kn0]
 .obtain⟨x,rfl⟩: ∃x,x=a:=⟨_,rfl⟩;refine orow.os (x,4) [0] ⟨hpre.mono (by omega),by simp only;omega⟩ (fun j=>Qaqe _ j) rfl rfl ?_ ?_
  .simp(maxSteps:=9^9)(disch:=omega)only[ZZ,simprocAttr,rch,Qc7,ORB,wld_.ca,rndH,rndC,wld_.H1,sysH,sysV,kn0,pck_.ca,pck_.H0,rndH,rndC,ZaQ,Zak]
   try exact⟨rfl,rfl⟩
  have hb:=Qaqg x 4;have hb2:=hb.2 (by decide);have hok:=Qaqf hpre 4;have hw:IntKind.i64.wrap (2+(Qaqd x 4).1)=2+(Qaqd x 4).1:=Qak (by omega) (by omega);simp(maxSteps:=9^9)(disch:=omega)only[ZZ,simprocAttr,rch,Qc7,ORB,wld_.ca,rndH,rndC,wld_.H1,sysH,sysV,kn0,pck_.H1,rndH,rndC,kn0,sub,Zak,hw];obtain⟨y,hy⟩: ∃y,y=(Qaqd x 4).2:=⟨_,rfl⟩;obtain⟨n,hn⟩: ∃n,n=2+(Qaqd x 4).1:=⟨_,rfl⟩;rw[<-hy] at hok;simp only[<-hy,<-hn];obtain⟨hok2,hl⟩:=drwR_ok hok (n:=n) (by omega) (by omega);refine orow.os (y,n) [0] ⟨hok.mono (by omega),by simp only;omega,by simp only;omega⟩ (fun j=>Qaqe _ j) rfl rfl ?_ ?_
  .simp(maxSteps:=9^9)(disch:=omega)only[ZZ,simprocAttr,rch,Qc7,ORB,wld_.ca,rndH,rndC,wld_.H1,sysH,sysV,kn0,drw_.ca,drw_.H0,rndH,rndC,ZaQ,Zak]
   try exact⟨rfl,rfl⟩
  obtain⟨d,hd⟩: ∃d,d=drwR y n:=⟨_,rfl⟩;rw[<-hd] at hok2 hl;simp(maxSteps:=9^9)(disch:=omega)only[ZZ,simprocAttr,rch,Qc7,ORB,wld_.ca,rndH,rndC,wld_.H1,sysH,sysV,kn0,drw_.H1,drw_.r0,setH,rndH,rndC,kn0,sub,Zak,<-hd,Qaqp,Qaeq];refine orow.os (d.2,d.1.Tiles.length) [0] ⟨hok2.mono (by omega),by simp only;omega⟩ (fun j=>Qaqe _ j) rfl rfl ?_ ?_
  .simp(maxSteps:=9^9)(disch:=omega)only[ZZ,simprocAttr,rch,Qc7,ORB,wld_.ca,rndH,rndC,wld_.H1,sysH,sysV,kn0,pck_.ca,pck_.H0,rndH,rndC,ZaQ,Zak]
   try exact⟨rfl,rfl⟩
  obtain⟨q,hq⟩: ∃q,q=Qaqd d.2 d.1.Tiles.length:=⟨_,rfl⟩;have hok3:=Qaqf hok2 d.1.Tiles.length;rw[<-hq] at hok3;simp(maxSteps:=9^9)(disch:=omega)only[ZZ,simprocAttr,rch,Qc7,ORB,wld_.ca,rndH,rndC,wld_.H1,sysH,sysV,kn0,pck_.H1,rndH,rndC,kn0,sub,Zak,<-hq,Qaqp,Qaeq];refine orow.os (q.2,2) [0] ⟨hok3.mono (by omega),by simp only;omega⟩ (fun j=>Qaqe _ j) rfl rfl ?_ ?_
  .simp(maxSteps:=9^9)(disch:=omega)only[ZZ,simprocAttr,rch,Qc7,ORB,wld_.ca,rndH,rndC,wld_.H1,sysH,sysV,kn0,pck_.ca,pck_.H0,rndH,rndC,ZaQ,Zak]
   try exact⟨rfl,rfl⟩
  have hb3:=Qaqg q.2 2;have hb4:=hb3.2 (by decide);have hw3:IntKind.i64.wrap (2+(Qaqd q.2 2).1)=2+(Qaqd q.2 2).1:=Qak (by omega) (by omega);simp(maxSteps:=9^9)(disch:=omega)only[ZZ,simprocAttr,rch,Qc7,ORB,wld_.ca,rndH,rndC,wld_.H1,sysH,sysV,kn0,pck_.H1,rndH,rndC,kn0,sub,Zak,hw3,Qaqp,Qaeq];refine⟨[],[(1,some 2),(2,some 3),(3,some 13),(4,some 1)],⟨[(2,.ptr 4 0),(0,.ptr 0 0)],[(4,(true,.cells 32 [.own 1,.own 2,.own 3,.im (.int .i64 (2+(Qaqd q.2 2).1))])),(0,(true,.cells 94 (rndC (Qaqd q.2 2).2))),(1,(true,.arr 128 2 (d.1.Glues.map Glue.c))),(2,(true,.arrA 130 2 (imR (d.1.Tiles.map Tile.c)))),(3,(true,.arr 116 3 [[.int .i64 0,.int .i64 0,.int .i64 q.1]]))],5⟩,?_,by simp[Qad.good,belT,belH,Qam,AV.bel,belL,rndC,Qxu],by simp,?_⟩
  .simp only[subP,rndC];simp(maxSteps:=9^9)(disch:=omega)only[ZZ,simprocAttr,rch,Qc7,ORB,wld_.ca,rndH,rndC,wld_.H1,sysH,sysV,kn0,Zab,Zaa,Qzb,Qsg]
  .simp only[rndC];simp(maxSteps:=9^9)(disch:=omega)only[ZZ,simprocAttr,rch,Qc7,ORB,wld_.ca,rndH,rndC,wld_.H1,sysH,sysV,kn0,wldR,rndC,Qaql];subst hq hd hy hn
   repeat' (first|rfl|apply And.intro)
 simp only[wld_.H1,sysH,Zaw,Zca,ZdQ] at hp;rcases hp with rfl|rfl|rfl|rfl
 .exact .inl ⟨by omega,rfl,rfl⟩
 .exact .inr ⟨by omega,by omega,rfl,rfl⟩
 .exact .inr ⟨by omega,by omega,rfl,rfl⟩
 .exact .inr ⟨by omega,by omega,rfl,rfl⟩
theorem Qaq4(lv:List Int)(n:Nat)(v:Int):(lv.map intC).set n [D.int .i64 v]=(lv.set n v).map intC:=(ZcY (f:=intC)).symm
theorem Qarb{m:Int}{x:Rnd}(h:okR m x)(g:Int):okR (m+2) (optR g x).2/\0<=(optR g x).1/\(1<=g->(optR g x).1<=g):=by
 have h1:=Qaqf h 4;have h2:=Qaqg (Qaqd x 4).2 g;simp only[optR];split
 .refine⟨(Qaqf h1 g).mono (by omega),by simp only;omega,fun hg=> ?_⟩
  have:=h2.2 hg
  simp only;omega
 .exact⟨h1.mono (by omega),Zch _,fun hg=>by omega⟩
theorem optR_b(g:Int)(x:Rnd)(hg:1<=g):(optR g x).1<=g:=by
 have h2:=(Qaqg (Qaqd x 4).2 g).2 hg;simp only[optR];split
 .simp only;omega
 .simp only;omega
theorem lnR_ok{m:Int}{x:Rnd}(h:okR m x)(t g:Int): ∀k:Nat,okR (m+4*k) (lnR t g k x).2/\(lnR t g k x).1.1.length=k/\(lnR t g k x).1.2.length=k
 |0=>⟨by simpa[lnR] using h,rfl,rfl⟩
 |k+1=>by
  obtain⟨h1,h2,h3⟩:=lnR_ok h t g k;have a1:=(Qarb h1 g).1;have a2:=(Qarb a1 g).1;exact⟨a2.mono (by omega),by simp[lnR,h2],by simp[lnR,h3]⟩
def lstS(t g:Int)(x:Rnd):Nat->List Int
 |0=>[]
 |k+1=>let a:=optR g (lnR t g k x).2;let b:=optR g a.2;[a.1,k+1,b.1,k]
def lnA(t g:Int)(x:Rnd):Nat->List (List AV)
 |0=>[]
 |k+1=>imR ((lnR t g k x).1.2.map Tile.c)++[[.im (.str (nmS 116 k)),.own 5]]
theorem lnA_len(t g:Int)(x:Rnd): ∀k,(lnA t g x k).length=k
 |0=>rfl
 |k+1=>by
  have:(lnR t g k x).1.2.length=k:=by
   induction k with
   |zero=>rfl
   |succ k ih=>simp[lnR,ih]
  simp[lnA,imR,this]
theorem Qaru(t g:Int)(x:Rnd)(n:Nat): ∀k,6<=n->(lnA t g x k).all (belL n)=true
 |0,_=>rfl
 |k+1,h=>by rw[lnA,ZbY,Qxu];simp[belL,AV.bel];omega
theorem lnA_frz{H:Qan}{t g:Int}{x:Rnd}{k:Nat}(h5:hget H 5=some (true,.arr 2 1 ((lstS t g x k).map intC))):fzAR [5] H (lnA t g x k)=imR ((lnR t g k x).1.2.map Tile.c):=by
 cases k with
 |zero=>rfl
 |succ k=>
  rw[lnA,Qzl,Qaja];simp[fzAR,fzAL,AV.fzA,ownD,h5,objD,lnR,lstS,imR,Tile.c]
theorem Qarg{π:List (Nat×Option Nat)}{a b:List (List AV)}{x y:List AV}(h:mtR π a b)(h2:mtL π x y):mtR π (a++[x]) (b++[y]):=by
 induction a generalizing b with
 |nil=>cases b with
  |nil=>exact⟨h2,trivial⟩
  |cons=>exact h.elim
 |cons u a ih=>cases b with
  |nil=>exact h.elim
  |cons v b=>exact⟨h.1,ih h.2⟩
theorem Qark(t g:Int)(x:Rnd): ∀k:Nat,(k:Int)<=g-> ∀T∈(lnR t g k x).1.2,T.Sides.length=4/\ ∀v∈T.Sides,v<=g
 |0,_,T,h=>by simp[lnR] at h
 |k+1,hk,T,h=>by
  simp only[lnR,Zan,Zal] at h;rcases h with h|rfl
  .exact Qark t g x k (by omega) T h
  .refine⟨rfl,fun v hv=> ?_⟩;have ha:=(optR_b g (lnR t g k x).2) (by omega);have hb:=(optR_b g (optR g (lnR t g k x).2).2) (by omega);simp only[Zaw,Zca,ZdQ] at hv;rcases hv with rfl|rfl|rfl|rfl<;>omega
theorem rowFrz{H:Qan}{ts:List (List D)}{nm:ByteArray}{c:List (List D)}{T:TypeId}(h5:hget H 5=some (true,.arr T 1 c)):fzAR [5] H (imR ts++[[.im (.str nm),.own 5]])=imR (ts++[[.str nm,.sl false 1 c]]):=by
 rw[Qzl,Qaja];simp[fzAR,fzAL,AV.fzA,ownD,h5,objD,imR]
theorem Qaqz: ∀(ts:List Tile) (T:Tile) (d:Nat) (v:Int),Qaqh (ts++[T]) ts.length d v=ts++[{T with Sides:=T.Sides.set d v}]
 |[],T,d,v=>rfl
 |x::r,T,d,v=>by
  have:=Qaqz r T d v
  simp only[Qaqh,ZaA,ZaE,ZeZ] at this⊢;rw[this]
def lin_.H1(x:Rnd):Qan:=(0,(true,.cells 94 (rndC (linR x).2)))::sysH (linR x).1
def lin_.row:Row:=orow wld_.ca rndH 1 (fun x=>okR 900 x) kn0 (fun x=>sysV (linR x).1) lin_.H1 40
def Yau:=J @dec_.q @dec_.fv.eq_1
theorem lin_.ok:Qas Tryz.prog 45 lin_.row:=by
 refine owN (tC pck_.ok (tC one_.ok (tC dec_.ok tN))) Tryz.func45 rfl (by kernel_rfl) (exB:=fun j=>Nat.ble 1 j) (R:=fun x r=>r=sysV (linR x).1) (fun _=>rfl)
  (fun a=>by simp[wld_.ca,rndH,rndC,lin_.H1,sysH,sysV,kn0,belL,AV.bel,belH,Qam,Qc2,AObj.nms,nmsL,AV.nms,domB,hget]) (fun a p hp=> ?_) (fun a r h=>by subst h;exact LeV.refl _) ?_
 rotate_left
 intro a hpre;simp only[Tryz.f45,Option.getD,wld_.ca,rndH,rndC,lin_.H1,sysH,sysV,kn0];simp(maxSteps:=9^9)(disch:=omega)only[ZZ,simprocAttr,rch,Yau,Qc7,ORB,wld_.ca,rndH,rndC,lin_.H1,sysH,sysV,kn0]
 .obtain⟨x,rfl⟩: ∃x,x=a:=⟨_,rfl⟩;refine orow.os (x,2) [0] ⟨hpre.mono (by omega),by simp only;omega⟩ (fun j=>Qaqe _ j) rfl rfl ?_ ?_
  .simp(maxSteps:=9^9)(disch:=omega)only[ZZ,simprocAttr,rch,Yau,Qc7,ORB,wld_.ca,rndH,rndC,lin_.H1,sysH,sysV,kn0,pck_.ca,pck_.H0,rndH,rndC,ZaQ,Zak]
   try exact⟨rfl,rfl⟩
  have hb:=Qaqg x 2;have hb2:=hb.2 (by decide);have hok:=Qaqf hpre 2;have hw:IntKind.i64.wrap (1+(Qaqd x 2).1)=1+(Qaqd x 2).1:=Qak (by omega) (by omega);simp(maxSteps:=9^9)(disch:=omega)only[ZZ,simprocAttr,rch,Yau,Qc7,ORB,wld_.ca,rndH,rndC,lin_.H1,sysH,sysV,kn0,pck_.H1,rndH,rndC,kn0,sub,Zak,hw];obtain⟨y,hy⟩: ∃y,y=(Qaqd x 2).2:=⟨_,rfl⟩;obtain⟨t,ht⟩: ∃t,t=1+(Qaqd x 2).1:=⟨_,rfl⟩;rw[<-hy] at hok;simp only[<-hy,<-ht];refine orow.os (y,6) [0] ⟨hok.mono (by omega),by simp only;omega⟩ (fun j=>Qaqe _ j) rfl rfl ?_ ?_
  .simp(maxSteps:=9^9)(disch:=omega)only[ZZ,simprocAttr,rch,Yau,Qc7,ORB,wld_.ca,rndH,rndC,lin_.H1,sysH,sysV,kn0,pck_.ca,pck_.H0,rndH,rndC,ZaQ,Zak]
   try exact⟨rfl,rfl⟩
  have hb3:=(Qaqg y 6);have hb4:=hb3.2 (by decide);have hok2:=Qaqf hok 6;have hw2:IntKind.i64.wrap (2+(Qaqd y 6).1)=2+(Qaqd y 6).1:=Qak (by omega) (by omega);simp(maxSteps:=9^9)(disch:=omega)only[ZZ,simprocAttr,rch,Yau,Qc7,ORB,wld_.ca,rndH,rndC,lin_.H1,sysH,sysV,kn0,pck_.H1,rndH,rndC,kn0,sub,Zak,hw2];obtain⟨z,hz⟩: ∃z,z=(Qaqd y 6).2:=⟨_,rfl⟩;obtain⟨g,hg⟩: ∃g,g=2+(Qaqd y 6).1:=⟨_,rfl⟩;rw[<-hz] at hok2;simp only[<-hz,<-hg];refine Qay.frr ⟨{k:Nat//k<=g.toNat},fun k=>⟨[(6,.im (.int .i64 k.1)),(5,.im (.int .i64 g)),(4,.ptr 2 0),(3,.im (.int .i64 t)),(2,.ptr 1 0),(0,.ptr 0 0)],[(0,(true,.cells 94 (rndC (lnR t g k.1 z).2))),(2,(true,.cells 27 [.own 3,.own 4])),(1,(true,.cells 32 [.im (.sl true 0 []),.im (.sl true 0 []),.im (.sl true 0 []),.im (.int .i64 0)])),(3,(true,.arr 128 2 ((lnR t g k.1 z).1.1.map Glue.c))),(4,(true,.arrA 130 2 (lnA t g z k.1))),(5,(true,.arr 2 1 ((lstS t g z k.1).map intC)))],6⟩,fun k=>g.toNat - k.1,fun k=>⟨by simp[Qad.good,belT,belH,Qam,AV.bel,belL,rndC,Qaru _ _ _ _ _ (Zap 6)],by simp⟩,⟨⟨0,ZaU _⟩,[],[(3,none),(4,none),(5,none)],?_⟩,fun k=> ?_⟩
  .simp only[subP,lnR,lnA,lstS,ZaG];simp(maxSteps:=9^9)(disch:=omega)only[ZZ,simprocAttr,rch,Yau,Qc7,ORB,wld_.ca,rndH,rndC,lin_.H1,sysH,sysV,kn0,rndC,Zab,Zaa]
  obtain⟨k,hk⟩:=k;obtain⟨hok3,hl1,hl2⟩:=lnR_ok hok2 t g k;have hla:=lnA_len t g z k;simp only[rndC];simp(maxSteps:=9^9)(disch:=omega)only[ZZ,simprocAttr,rch,Yau,Qc7,ORB,wld_.ca,rndH,rndC,lin_.H1,sysH,sysV,kn0,sub,Qal];refine⟨fun hk2=>⟨by omega,?_,?_⟩,fun hk2=> ?_⟩
  .show 1+1<=9223372036854775807;omega
  .refine⟨by omega,by omega,?_,?_⟩
   .show 1+1<=9223372036854775807;omega
   obtain⟨r,hr⟩: ∃r,r=(lnR t g k z).2:=⟨_,rfl⟩;rw[<-hr] at hok3;simp only[<-hr];have hw6:IntKind.i64.wrap ((k:Int)+1)=(k:Int)+1:=Qak (by omega) (by omega);obtain⟨L,hL⟩: ∃L:List Int,L=[0,(k:Int)+1,0,(k:Int)]:=⟨_,rfl⟩;have hL4:L.length=4:=by rw[hL];rfl
   have eL:([[D.int .i64 0],[D.int .i64 ((k:Int)+1)],[D.int .i64 0],[D.int .i64 (k:Int)]]:List (List D))=L.map intC:=by rw[hL];rfl
   simp only[hw6,eL];refine orow.os (r,4) [0] ⟨hok3.mono (by omega),by simp only;omega⟩ (fun j=>Qaqe _ j) rfl rfl ?_ ?_
   .simp(maxSteps:=9^9)(disch:=omega)only[ZZ,simprocAttr,rch,Yau,Qc7,ORB,wld_.ca,rndH,rndC,lin_.H1,sysH,sysV,kn0,pck_.ca,pck_.H0,rndH,rndC,ZaQ,Zak]
    try exact⟨rfl,rfl⟩
   simp(maxSteps:=9^9)(disch:=omega)only[ZZ,simprocAttr,rch,Yau,Qc7,ORB,wld_.ca,rndH,rndC,lin_.H1,sysH,sysV,kn0,one_.H1,rndH,rndC,kn0,sub,Zak];have hokA:=(Qarb hok3 g).1;obtain⟨r1,hr1⟩: ∃r1,r1=(optR g r).2:=⟨_,rfl⟩;obtain⟨M,hM⟩: ∃M,M=L.set 0 (optR g r).1:=⟨_,rfl⟩;have hM4:M.length=4:=by rw[hM,ZbG];exact hL4
   rw[<-hr1] at hokA;by_cases c1:(Qaqd r 4).1=0
   case' pos=>
    rw[Zao c1];have hokP:=Qaqf hok3 4;have hbP:=Qaqg (Qaqd r 4).2 g;have hbQ:=hbP.2 (by omega);have hwA:IntKind.i64.wrap (1+(Qaqd (Qaqd r 4).2 g).1)=1+(Qaqd (Qaqd r 4).2 g).1:=Qak (by omega) (by omega);refine orow.os ((Qaqd r 4).2,g) [0] ⟨hokP.mono (by omega),by simp only;omega⟩ (fun j=>Qaqe _ j) rfl rfl ?_ ?_
    .simp(maxSteps:=9^9)(disch:=omega)only[ZZ,simprocAttr,rch,Yau,Qc7,ORB,wld_.ca,rndH,rndC,lin_.H1,sysH,sysV,kn0,pck_.ca,pck_.H0,rndH,rndC,ZaQ,Zak]
     try exact⟨rfl,rfl⟩
    simp(maxSteps:=9^9)(disch:=omega)only[ZZ,simprocAttr,rch,Yau,Qc7,ORB,wld_.ca,rndH,rndC,lin_.H1,sysH,sysV,kn0,pck_.H1,rndH,rndC,kn0,sub,Zak,hwA,Qaq4];have eA:optR g r=(1+(Qaqd (Qaqd r 4).2 g).1,(Qaqd (Qaqd r 4).2 g).2):=by simp only[optR];rw[Zao c1]
    have e1:L.set 0 (1+(Qaqd (Qaqd r 4).2 g).1)=M:=by rw[hM,eA]
    have e2:(Qaqd (Qaqd r 4).2 g).2=r1:=by rw[hr1,eA]
    simp only[e1,e2];refine⟨by omega,by omega,fun _ _=> ?_⟩
   case' neg=>
    rw[Zaj c1];have eA:optR g r=(0,(Qaqd r 4).2):=by simp only[optR];rw[Zaj c1]
    have e1:L=M:=by rw[hM,eA,hL];rfl
    have e2:(Qaqd r 4).2=r1:=by rw[hr1,eA]
    simp only[e1,e2]
   all_goals
    refine orow.os (r1,4) [0] ⟨hokA.mono (by omega),by simp only;omega⟩ (fun j=>Qaqe _ j) rfl rfl ?_ ?_
    .simp(maxSteps:=9^9)(disch:=omega)only[ZZ,simprocAttr,rch,Yau,Qc7,ORB,wld_.ca,rndH,rndC,lin_.H1,sysH,sysV,kn0,pck_.ca,pck_.H0,rndH,rndC,ZaQ,Zak]
     try exact⟨rfl,rfl⟩
    simp(maxSteps:=9^9)(disch:=omega)only[ZZ,simprocAttr,rch,Yau,Qc7,ORB,wld_.ca,rndH,rndC,lin_.H1,sysH,sysV,kn0,one_.H1,rndH,rndC,kn0,sub,Zak];have hokB:=(Qarb hokA g).1;obtain⟨r2,hr2⟩: ∃r2,r2=(optR g r1).2:=⟨_,rfl⟩;obtain⟨N,hN⟩: ∃N,N=M.set 2 (optR g r1).1:=⟨_,rfl⟩;have hN4:N.length=4:=by rw[hN,ZbG];exact hM4
    by_cases c2:(Qaqd r1 4).1=0
    case' pos=>
     rw[Zao c2];have hokP2:=Qaqf hokA 4;have hbP2:=Qaqg (Qaqd r1 4).2 g;have hbQ2:=hbP2.2 (by omega);have hwB:IntKind.i64.wrap (1+(Qaqd (Qaqd r1 4).2 g).1)=1+(Qaqd (Qaqd r1 4).2 g).1:=Qak (by omega) (by omega);refine orow.os ((Qaqd r1 4).2,g) [0] ⟨hokP2.mono (by omega),by simp only;omega⟩ (fun j=>Qaqe _ j) rfl rfl ?_ ?_
     .simp(maxSteps:=9^9)(disch:=omega)only[ZZ,simprocAttr,rch,Yau,Qc7,ORB,wld_.ca,rndH,rndC,lin_.H1,sysH,sysV,kn0,pck_.ca,pck_.H0,rndH,rndC,ZaQ,Zak]
      try exact⟨rfl,rfl⟩
     simp(maxSteps:=9^9)(disch:=omega)only[ZZ,simprocAttr,rch,Yau,Qc7,ORB,wld_.ca,rndH,rndC,lin_.H1,sysH,sysV,kn0,pck_.H1,rndH,rndC,kn0,sub,Zak,hwB,Qaq4];have eB:optR g r1=(1+(Qaqd (Qaqd r1 4).2 g).1,(Qaqd (Qaqd r1 4).2 g).2):=by simp only[optR];rw[Zao c2]
     have e3:M.set 2 (1+(Qaqd (Qaqd r1 4).2 g).1)=N:=by rw[hN,eB]
     have e4:(Qaqd (Qaqd r1 4).2 g).2=r2:=by rw[hr2,eB]
     simp only[e3,e4];refine⟨by omega,by omega,fun _ _=> ?_⟩
    case' neg=>
     rw[Zaj c2];have eB:optR g r1=(0,(Qaqd r1 4).2):=by simp only[optR];rw[Zaj c2]
     have e3:M=N:=by rw[hN,eB,hM,hL];rfl
     have e4:(Qaqd r1 4).2=r2:=by rw[hr2,eB]
     simp only[e3,e4]
    all_goals
     refine⟨by simp[belL,AV.bel],by omega,by rw[ZbY,Qaru _ _ _ _ _ (by omega)];simp[belL,AV.bel],⟨k+1,by omega⟩,[5],[(3,some 7),(4,some 11),(5,some 8)],by simp only;omega,?_⟩;have eS:lnA t g z (k+1)=imR ((lnR t g k z).1.2.map Tile.c)++[[.im (.str (nmS 116 k)),.own 5]]:=rfl;have eR:(lnR t g (k+1) z).2=r2:=by rw[hr2,hr1,hr];rfl
     simp only[subP,rndC,eS,eR];simp(maxSteps:=9^9)(disch:=omega)only[ZZ,simprocAttr,rch,Yau,Qc7,ORB,wld_.ca,rndH,rndC,lin_.H1,sysH,sysV,kn0,Zab,Zaa,Qzl];refine⟨by rw[Qak (by omega) (by omega)];omega,?_,?_,?_⟩
     .simp[lnR,Glue.c,nmS]
     .rw[lnA_frz (by rfl)];exact Qarg (Qzo _ _) (by simp(maxSteps:=9^9)(disch:=omega)only[ZZ,simprocAttr,rch,Yau,Qc7,ORB,wld_.ca,rndH,rndC,lin_.H1,sysH,sysV,kn0,Zab,Zaa];rfl)
     .rw[hN,hM,hL,hr1,hr];rfl
  obtain⟨m,hm⟩: ∃m,k=m+1:=⟨k - 1,by omega⟩;subst hm;have hgm:g=(m:Int)+1:=by omega
  obtain⟨q,hq⟩: ∃q,q=(lnR t g (m+1) z).2:=⟨_,rfl⟩;obtain⟨gl,hgl⟩: ∃gl,gl=(lnR t g (m+1) z).1.1:=⟨_,rfl⟩;obtain⟨ts,hts⟩: ∃ts,ts=(lnR t g m z).1.2:=⟨_,rfl⟩;obtain⟨ls,hls⟩: ∃ls,ls=lstS t g z (m+1):=⟨_,rfl⟩;have hall:=Qark t g z (m+1) (by omega);have htl:(lnR t g (m+1) z).1.2=ts++[⟨nmS 116 m,ls⟩]:=by rw[hts,hls];rfl
  rw[htl] at hall;have hlen:ts.length=m:=by rw[hts];exact (lnR_ok hok2 t g m).2.2
  have hR:lnA t g z (m+1)=imR (ts.map Tile.c)++[[.im (.str (nmS 116 m)),.own 5]]:=by rw[hts];rfl
  obtain⟨R,hRd⟩: ∃R,R=lnA t g z (m+1):=⟨_,rfl⟩;rw[<-hq] at hok3;simp only[<-hq,<-hgl,<-hls,<-hRd];have hRl:R.length=m+1:=by rw[hRd];exact hla
  have hRb:R.all (belL 6)=true:=by rw[hRd];exact Qaru _ _ _ _ _ (Zap 6)
  have hR1: ∀i x,i<m->ts[i]? =some x->R[i]? =some [.im (.str x.Name),.im (.sl false 1 (x.Sides.map intC))]:=by
   intro i x hi hx;rw[hRd,hR,Zav (by simp[imR];omega)];simp[imR,hx,Tile.c]
  have hR2:R[m]? =some [.im (.str (nmS 116 m)),.own 5]:=by
   rw[hRd,hR,ZaC (by simp[imR];omega)];simp[imR,hlen]
  refine Qay.old ⟨{i:Nat//i<=m+1},fun i=>⟨[(8,.im (.int .i64 i.1)),(5,.im (.int .i64 g)),(4,.ptr 2 0),(3,.im (.int .i64 t)),(2,.ptr 1 0),(0,.ptr 0 0)],[(0,(true,.cells 94 (rndC q))),(2,(true,.cells 27 [.own 3,.own 4])),(1,(true,.cells 32 [.im (.sl true 0 []),.im (.sl true 0 []),.im (.sl true 0 []),.im (.int .i64 0)])),(3,(true,.arr 128 2 (gl.map Glue.c))),(4,(true,.arrA 130 2 R)),(5,(true,.arr 2 1 (ls.map intC)))],6⟩,fun i=>m+1 - i.1,fun i=>⟨by simp[Qad.good,belT,belH,Qam,AV.bel,belL,rndC,hRb],by simp⟩,⟨⟨0,ZaU _⟩,by simp(maxSteps:=9^9)(disch:=omega)only[ZZ,simprocAttr,rch,Yau,Qc7,ORB,wld_.ca,rndH,rndC,lin_.H1,sysH,sysV,kn0,rndC,sub]⟩,fun i=> ?_⟩;obtain⟨i,hi⟩:=i;simp only[rndC];simp(maxSteps:=9^9)(disch:=omega)only[ZZ,simprocAttr,rch,Yau,Qc7,ORB,wld_.ca,rndH,rndC,lin_.H1,sysH,sysV,kn0,sub,Qal,hRl];refine fun _=>⟨fun hi2=> ?_,fun hi2=> ?_⟩
  .refine Qay.old ⟨{d:Nat//d<=4},fun d=>⟨[(9,.im (.int .i64 d.1)),(8,.im (.int .i64 i)),(5,.im (.int .i64 g)),(4,.ptr 2 0),(3,.im (.int .i64 t)),(2,.ptr 1 0),(0,.ptr 0 0)],[(0,(true,.cells 94 (rndC q))),(2,(true,.cells 27 [.own 3,.own 4])),(1,(true,.cells 32 [.im (.sl true 0 []),.im (.sl true 0 []),.im (.sl true 0 []),.im (.int .i64 0)])),(3,(true,.arr 128 2 (gl.map Glue.c))),(4,(true,.arrA 130 2 R)),(5,(true,.arr 2 1 (ls.map intC)))],6⟩,fun d=>4 - d.1,fun d=>⟨by simp[Qad.good,belT,belH,Qam,AV.bel,belL,rndC,hRb],by simp⟩,⟨⟨0,ZaU _⟩,by simp(maxSteps:=9^9)(disch:=omega)only[ZZ,simprocAttr,rch,Yau,Qc7,ORB,wld_.ca,rndH,rndC,lin_.H1,sysH,sysV,kn0,rndC,sub]⟩,fun d=> ?_⟩;obtain⟨d,hd⟩:=d;simp only[rndC];simp(maxSteps:=9^9)(disch:=omega)only[ZZ,simprocAttr,rch,Yau,Qc7,ORB,wld_.ca,rndH,rndC,lin_.H1,sysH,sysV,kn0,sub,Qal,hRl];refine⟨fun hd2=>⟨hi2,hi2,?_⟩,fun hd2=> ?_⟩
   .have hw9:IntKind.i64.wrap ((d:Int)+1)=((d+1:Nat):Int):=by rw[Qak (by omega) (by omega)];omega
    rcases Zbp i m with c|c
    .obtain⟨x',hx'⟩: ∃x',ts[i]? =some x':=⟨_,Zad (by omega)⟩;obtain⟨s1,s2⟩:=hall x' (Zbl _ (Zaf hx'));refine Qi3 (hR1 i x' c hx') ?_;simp(maxSteps:=9^9)(disch:=omega)only[ZZ,simprocAttr,rch,Yau,Qc7,ORB,wld_.ca,rndH,rndC,lin_.H1,sysH,sysV,kn0,sub,Qal,hRl];refine⟨by omega,fun v hv=>⟨fun hg2=> ?_,fun _=>⟨⟨d+1,by omega⟩,by simp only;omega,hw9⟩⟩⟩
     have:=s2 v (Zaf hv)
     omega
    .obtain rfl:i=m:=by omega
     obtain⟨s1,s2⟩:=hall ⟨nmS 116 i,ls⟩ (ZbD _ (Zal.2 rfl));simp only at s1 s2;refine Qi3 hR2 ?_;simp(maxSteps:=9^9)(disch:=omega)only[ZZ,simprocAttr,rch,Yau,Qc7,ORB,wld_.ca,rndH,rndC,lin_.H1,sysH,sysV,kn0,sub,Qal,hRl];refine⟨by omega,by omega,fun v hv=>⟨fun hg2=> ?_,fun _=>⟨⟨d+1,by omega⟩,by simp only;omega,hw9⟩⟩⟩
     have:=s2 v (Zaf hv)
     omega
   .refine⟨⟨i+1,by omega⟩,by simp only;omega,by rw[Qak (by omega) (by omega)];simp only;omega⟩
  .refine orow.os (q,2) [0] ⟨hok3.mono (by omega),by simp only;omega⟩ (fun j=>Qaqe _ j) rfl rfl ?_ ?_
   .simp(maxSteps:=9^9)(disch:=omega)only[ZZ,simprocAttr,rch,Yau,Qc7,ORB,wld_.ca,rndH,rndC,lin_.H1,sysH,sysV,kn0,pck_.ca,pck_.H0,rndH,rndC,ZaQ,Zak]
    try exact⟨rfl,rfl⟩
   simp(maxSteps:=9^9)(disch:=omega)only[ZZ,simprocAttr,rch,Yau,Qc7,ORB,wld_.ca,rndH,rndC,lin_.H1,sysH,sysV,kn0,one_.H1,rndH,rndC,kn0,sub,Zak];by_cases c:(Qaqd q 2).1=0
   .rw[Zao c];have hw9:IntKind.i64.wrap (g - 1)=(m:Int):=by rw[Qak (by omega) (by omega)];omega
    simp only[hw9,hRl,Zam];refine⟨by omega,by omega,by omega,Qi3 hR2 ?_⟩;obtain⟨s1,s2⟩:=hall ⟨nmS 116 m,ls⟩ (ZbD _ (Zal.2 rfl));simp only at s1 s2;have hlin:linR x=(⟨⟨gl,ts++[⟨nmS 116 m,ls.set 1 0⟩]⟩,⟨[⟨⟨0,0⟩,0⟩]⟩,t⟩,(Qaqd q 2).2):=by
     simp only[linR,<-hy,<-ht,<-hz,<-hg];rw[show g.toNat=m+1 by omega,<-hq,<-hgl,Zao c,htl,Nat.add_sub_cancel]
     have:=Qaqz ts ⟨nmS 116 m,ls⟩ 1 0
     rw[hlen] at this;rw[this]
    simp only[hlin];simp(maxSteps:=9^9)(disch:=omega)only[ZZ,simprocAttr,rch,Yau,Qc7,ORB,wld_.ca,rndH,rndC,lin_.H1,sysH,sysV,kn0,sub,Qal,hRl,Qaq4];refine⟨by omega,by omega,fun _ _=> ?_⟩;refine⟨[5],[(1,some 3),(2,some 4),(3,some 6),(4,some 1)],⟨[(2,.ptr 4 0),(0,.ptr 0 0)],[(4,(true,.cells 32 [.own 1,.own 2,.own 3,.im (.int .i64 t)])),(0,(true,.cells 94 (rndC (Qaqd q 2).2))),(1,(true,.arr 128 2 (gl.map Glue.c))),(2,(true,.arrA 130 2 (imR (ts.map Tile.c++[[.str (nmS 116 m),.sl false 1 ((ls.set 1 0).map intC)]])))),(3,(true,.arr 116 3 [[.int .i64 0,.int .i64 0,.int .i64 0]]))],5⟩,?_,by simp[Qad.good,belT,belH,Qam,AV.bel,belL,rndC,Qxu],by simp,?_⟩
    .simp only[subP,rndC];simp(maxSteps:=9^9)(disch:=omega)only[ZZ,simprocAttr,rch,Yau,Qc7,ORB,wld_.ca,rndH,rndC,lin_.H1,sysH,sysV,kn0,Zab,Zaa];rw[hRd,hR,rowFrz (by rfl)];exact Qzo _ _
    .simp only[rndC];simp(maxSteps:=9^9)(disch:=omega)only[ZZ,simprocAttr,rch,Yau,Qc7,ORB,wld_.ca,rndH,rndC,lin_.H1,sysH,sysV,kn0,rndC,Qaql];simp[Tile.c,Qab.c]
   .rw[Zaj c];have hlin:linR x=(⟨⟨gl,ts++[⟨nmS 116 m,ls⟩]⟩,⟨[⟨⟨0,0⟩,0⟩]⟩,t⟩,(Qaqd q 2).2):=by
     simp only[linR,<-hy,<-ht,<-hz,<-hg];rw[show g.toNat=m+1 by omega,<-hq,<-hgl,Zaj c,htl]
    simp only[hlin];refine⟨[5],[(1,some 3),(2,some 4),(3,some 6),(4,some 1)],⟨[(2,.ptr 4 0),(0,.ptr 0 0)],[(4,(true,.cells 32 [.own 1,.own 2,.own 3,.im (.int .i64 t)])),(0,(true,.cells 94 (rndC (Qaqd q 2).2))),(1,(true,.arr 128 2 (gl.map Glue.c))),(2,(true,.arrA 130 2 (imR (ts.map Tile.c++[[.str (nmS 116 m),.sl false 1 (ls.map intC)]])))),(3,(true,.arr 116 3 [[.int .i64 0,.int .i64 0,.int .i64 0]]))],5⟩,?_,by simp[Qad.good,belT,belH,Qam,AV.bel,belL,rndC,Qxu],by simp,?_⟩
    .simp only[subP,rndC];simp(maxSteps:=9^9)(disch:=omega)only[ZZ,simprocAttr,rch,Yau,Qc7,ORB,wld_.ca,rndH,rndC,lin_.H1,sysH,sysV,kn0,Zab,Zaa];rw[hRd,hR,rowFrz (by rfl)];exact Qzo _ _
    .simp only[rndC];simp(maxSteps:=9^9)(disch:=omega)only[ZZ,simprocAttr,rch,Yau,Qc7,ORB,wld_.ca,rndH,rndC,lin_.H1,sysH,sysV,kn0,rndC,Qaql];simp[Tile.c,Qab.c]
 simp only[lin_.H1,sysH,Zaw,Zca,ZdQ] at hp;rcases hp with rfl|rfl|rfl|rfl
 .exact .inl ⟨by omega,rfl,rfl⟩
 .exact .inr ⟨by omega,by omega,rfl,rfl⟩
 .exact .inr ⟨by omega,by omega,rfl,rfl⟩
 .exact .inr ⟨by omega,by omega,rfl,rfl⟩
def rwR(q n:Nat)(b:Bool)(i:Nat)(T:Tile):List AV:=[.im (.str T.Name),if i=0 then .own 4 else if b=true/\i+1=n then .own q else .im (.sl false 1 (T.Sides.map intC))]
def rwD(q:Nat)(l:List Tile)(b:Bool):List (List AV):=l.mapIdx (rwR q l.length b)
theorem Qaqo(q:Nat)(l:List Tile)(b:Bool):(rwD q l b).length=l.length:=by simp[rwD]
theorem rwD_get{q:Nat}{l:List Tile}{b:Bool}{i:Nat}{T:Tile}(h:l[i]? =some T):(rwD q l b)[i]? =some (rwR q l.length b i T):=by
 rw[rwD,Zce,h];rfl
theorem Qaqu(q:Nat)(l:List Tile)(b:Bool)(n:Nat)(h:5<=n)(h2:q<n):(rwD q l b).all (belL n)=true:=by
 rw[Zbv];intro r hr;obtain⟨i,hi⟩:=ZaP.1 hr;rw[rwD,Zce] at hi;obtain⟨T,hT,rfl⟩:=Zay.1 hi;simp only[rwR];split
 .simp[belL,AV.bel];omega
 .split
  .simp[belL,AV.bel];omega
  .simp[belL,AV.bel]
theorem Qaq2(F:List Nat)(H:Qan): ∀rows:List (List AV),fzAR F H rows=rows.map (fzAL F H)
 |[]=>rfl
 |r::rs=>by rw[fzAR,Qaq2 F H rs];rfl
theorem Qaq5{q:Nat}(hq:q≠4){H:Qan}{l:List Tile}{b:Bool}{L:List Int}{U:TypeId}(h6:b=true->hget H q=some (true,.arr U 1 (L.map intC))/\ ∀T,l[l.length - 1]? =some T->T.Sides=L):fzAR [q] H (rwD q l b)=rwD q l false:=by
 rw[Qaq2];apply ZbM;intro i;rw[ZaN,rwD,rwD,Zce,Zce];cases hT:l[i]? with
 |none=>rfl
 |some T=>
  simp only[ZaO,rwR];by_cases c:i=0
  .simp[c,fzAL,AV.fzA,hq,Zcz hq]
  .by_cases c2:b=true/\i+1=l.length
   .obtain⟨g1,g2⟩:=h6 c2.1
    have:=g2 T (by rw[show l.length - 1=i by omega];exact hT)
    simp[c,c2,fzAL,AV.fzA,ownD,g1,objD,this]
   .simp[c,c2,fzAL,AV.fzA]
theorem Qara{q:Nat}{l:List Tile}(T:Tile)(h:l≠[]):rwD q (l++[T]) true=rwD q l false++[[.im (.str T.Name),.own q]]:=by
 have hl:0<l.length:=ZcH.2 h;apply ZbM;intro i;rw[rwD,Zce];rcases Zbp i l.length with c|c
 .rw[Zav c,Zav (by rw[Qaqo];exact c),rwD,Zce];congr 1;funext T';simp only[rwR,Zaz,ZbT]
  have: ¬i=l.length:=by omega
  simp[this]
 .rw[ZaC c,ZaC (by rw[Qaqo];exact c),Qaqo];cases hi:i - l.length with
  |zero=>
   have:i=l.length:=by omega
   subst this;simp[rwR,h]
  |succ j=>simp
theorem Qari{q:Nat}{π:List (Nat×Option Nat)}(h5:pm π 4=some 4)(l:List Tile):mtR π (rwD q l false) (rwD q l false):=by
 rw[Ql2];refine⟨rfl,fun i x y hx hy=> ?_⟩;rw[hx] at hy;obtain rfl:=Zac hy;rw[rwD,Zce] at hx;obtain⟨T,hT,rfl⟩:=Zay.1 hx;simp only[rwR];split
 .simp[mtL,mt,h5,ownM,Qga]
 .simp[mtL,mt]
theorem Qaqi(l:List Tile)(i d:Nat)(v:Int):(Qaqh l i d v).length=l.length:=by simp[Qaqh]
theorem Qaqj(l:List Tile)(i d:Nat)(v:Int)(j:Nat):(Qaqh l i d v)[j]? =l[j]?.map fun T=>if i=j then {T with Sides:=T.Sides.set d v} else T:=by
 rw[Qaqh,List.getElem?_modify]
 split<;>simp
theorem Qaqm{l:List Tile}{i d:Nat}{v:Int}(h: ∀T∈l,T.Sides.length=4): ∀T∈Qaqh l i d v,T.Sides.length=4:=by
 intro T hT;obtain⟨j,hj⟩:=ZaP.1 hT;rw[Qaqj] at hj;obtain⟨U,hU,rfl⟩:=Zay.1 hj
 have:=h U (Zaf hU)
 split
 .simpa using this
 .exact this
theorem rwD_set{q:Nat}{l:List Tile}{b:Bool}{i d:Nat}{v:Int}(h:i=0\/(b=true/\i+1=l.length)):rwD q (Qaqh l i d v) b=rwD q l b:=by
 apply ZbM;intro j;rw[rwD,rwD,Zce,Zce,Qaqj,Qaqi];cases hT:l[j]? with
 |none=>rfl
 |some T=>
  simp only[ZaO,rwR];by_cases c:i=j
  .subst c;rw[Zao rfl];by_cases c2:i=0
   .simp[c2]
   .have:b=true/\i+1=l.length:=h.resolve_left c2
    simp[this]
  .rw[Zaj c]
theorem c1R_ok{m:Int}{x:Rnd}(h:okR m x): ∀k:Nat,okR (m+k) (c1R k x).2/\(c1R k x).1.1.length=k+2/\(c1R k x).1.2.length=k+1/\ ∀T∈(c1R k x).1.2,T.Sides.length=4
 |0=>⟨by simpa[c1R] using h,rfl,rfl,by simp[c1R]⟩
 |k+1=>by
  obtain⟨h1,h2,h3,h4⟩:=c1R_ok h k
  have:=Qaqf h1 2
  refine⟨this.mono (by omega),by simp[c1R,h2],by simp[c1R,Qaqi,h3],fun T hT=> ?_⟩;simp only[c1R,Zan,Zal] at hT;rcases hT with hT|rfl
  .exact Qaqm h4 T hT
  .rfl
theorem c2R_ok{m:Int}{w:Nat}{s:(List Glue×List Tile)×Rnd}(h:okR m s.2)(h2:s.1.1.length=w+2)(h3:s.1.2.length=w+1)(h4: ∀T∈s.1.2,T.Sides.length=4): ∀k:Nat,okR (m+k) (c2R w s k).2/\(c2R w s k).1.1.length=w+k+2/\(c2R w s k).1.2.length=w+k+1/\ ∀T∈(c2R w s k).1.2,T.Sides.length=4
 |0=>⟨by simpa[c2R] using h,by simpa[c2R] using h2,by simpa[c2R] using h3,by simpa[c2R] using h4⟩
 |k+1=>by
  obtain⟨h1,g2,g3,g4⟩:=c2R_ok h h2 h3 h4 k
  have:=Qaqf h1 2
  refine⟨this.mono (by omega),by simp[c2R,g2];omega,by simp[c2R,Qaqi,g3];omega,fun T hT=> ?_⟩;simp only[c2R,Zan,Zal] at hT;rcases hT with hT|rfl
  .exact Qaqm g4 T hT
  .rfl
theorem c3R_ok{m:Int}{s:List Tile×Rnd}(h:okR m s.2): ∀k:Nat,okR (m+2*k) (c3R s k).2/\(c3R s k).1.length=s.1.length+k
 |0=>⟨by simpa[c3R] using h,by simp[c3R]⟩
 |k+1=>by
  obtain⟨h1,g2⟩:=c3R_ok h k
  have:=Qaqf (Qaqf h1 2) 2
  exact⟨this.mono (by omega),by simp[c3R,g2];omega⟩
def bckS(l:List Tile)(b:Bool):List Int:=if b=true then ((l[l.length - 1]?).map Tile.Sides).getD [] else []
def frtS(l:List Tile):List Int:=((l[0]?).map Tile.Sides).getD []
theorem Qart{l:List Tile}{d:Nat}{v:Int}:frtS (Qaqh l 0 d v)=(frtS l).set d v:=by
 rw[frtS,frtS,Qaqj];cases l[0]? <;>simp
theorem Qar4{l:List Tile}{i d:Nat}{v:Int}(h:i≠0):frtS (Qaqh l i d v)=frtS l:=by
 rw[frtS,frtS,Qaqj];cases l[0]? <;>simp[h]
theorem Qarz{l:List Tile}{i d:Nat}{v:Int}{b:Bool}(h:b=true->i+1=l.length):bckS (Qaqh l i d v) b=(bckS l b).set d v:=by
 rw[bckS,bckS,Qaqj,Qaqi];cases b with
 |false=>rfl
 |true=>
  have:i=l.length - 1:=by have:=h rfl;omega
  subst this;cases l[l.length - 1]? <;>simp
theorem Qar3{l:List Tile}(h: ∀T∈l,T.Sides.length=4)(h2:l≠[]):(frtS l).length=4:=by
 cases l with
 |nil=>exact (h2 rfl).elim
 |cons T r=>exact h T (Zat ..)
theorem Qar0{l:List Tile}(h: ∀T∈l,T.Sides.length=4)(h2:l≠[]):(bckS l true).length=4:=by
 have hp:=ZcH.2 h2;have e:l[l.length - 1]? =some l[l.length - 1]:=Zad (by omega);simp only[bckS,ZaQ,e,ZaO,Zag];exact h _ (Zcf _)
theorem Qaq7{l:List Tile}{T:Tile}(h2:l≠[]):frtS (l++[T])=frtS l:=by
 cases l with
 |nil=>exact (h2 rfl).elim
 |cons U r=>rfl
theorem Qarq{l:List Tile}{T:Tile}:bckS (l++[T]) true=T.Sides:=by
 simp[bckS]
theorem Qaqv{l:List Tile}: ∀T,l[l.length - 1]? =some T->T.Sides=bckS l true:=by
 intro T hT;simp[bckS,hT]
theorem rwD_q(q q':Nat)(l:List Tile):rwD q l false=rwD q' l false:=by
 have:rwR q l.length false=rwR q' l.length false:=by funext i T;simp[rwR]
 rw[rwD,rwD,this]
def Qarf(k j:Nat):Nat:=if j=0 then 0 else k+j
theorem rwD_snocF{q q':Nat}{H:Qan}{l:List Tile}{nm:ByteArray}{S:List Int}{U:TypeId}(h4:q'≠4)(hq:hget H q'=some (true,.arr U 1 (S.map intC)))(h:l≠[]):fzAR [q'] H (rwD q l false++[[.im (.str nm),.own q']])=rwD q (l++[⟨nm,S⟩]) false:=by
 rw[rwD_q q q' l,rwD_q q q' (l++_),<-Qara ⟨nm,S⟩ h];exact Qaq5 h4 (fun _=>⟨hq,fun T hT=>by simp at hT;rw[<-hT]⟩)
theorem Qar2{F:List Nat}{q:Nat}{H:Qan}{l:List Tile}{U:TypeId}(h:F.contains 4=true)(h4:hget H 4=some (true,.arr U 1 ((frtS l).map intC))):fzAR F H (rwD q l false)=imR (l.map Tile.c):=by
 rw[Qaq2];apply ZbM;intro i;rw[ZaN,rwD,Zce,imR,ZaN,ZaN];cases hT:l[i]? with
 |none=>rfl
 |some T=>
  simp only[ZaO,rwR];by_cases c:i=0
  .subst c;have e:frtS l=T.Sides:=by simp[frtS,hT]
   rw[e] at h4;simp only[Zdz,Zar] at h;simp[fzAL,AV.fzA,h,ownD,h4,objD,Tile.c]
  .simp[c,fzAL,AV.fzA,Tile.c]
theorem c3R_frt{s:List Tile×Rnd}(h:s.1≠[]): ∀k:Nat,frtS (c3R s k).1=frtS s.1
 |0=>rfl
 |k+1=>by
  have hne:(c3R s k).1≠[]:=by
   cases k with
   |zero=>exact h
   |succ k=>simp[c3R]
  simp only[c3R];rw[Qaq7 hne,c3R_frt h k]
def cor_.H1(x:Rnd):Qan:=(0,(true,.cells 94 (rndC (corR x).2)))::sysH (corR x).1
def cor_.row:Row:=orow wld_.ca rndH 1 (fun x=>okR 900 x) kn0 (fun x=>sysV (corR x).1) cor_.H1 80
def Yav:=J @dec_.q @dec_.fv.eq_1
theorem cor_.ok:Qas Tryz.prog 46 cor_.row:=by
 refine owN (tC pck_.ok (tC one_.ok (tC dec_.ok tN))) Tryz.func46 rfl (by kernel_rfl) (exB:=fun j=>Nat.ble 1 j) (R:=fun x r=>r=sysV (corR x).1) (fun _=>rfl)
  (fun a=>by simp[wld_.ca,rndH,rndC,cor_.H1,sysH,sysV,kn0,belL,AV.bel,belH,Qam,Qc2,AObj.nms,nmsL,AV.nms,domB,hget]) (fun a p hp=> ?_) (fun a r h=>by subst h;exact LeV.refl _) ?_
 rotate_left
 intro a hpre;simp only[Tryz.f46,Option.getD,wld_.ca,rndH,rndC,cor_.H1,sysH,sysV,kn0];simp(maxSteps:=9^9)(disch:=omega)only[ZZ,simprocAttr,rch,Yav,Qc7,ORB,wld_.ca,rndH,rndC,cor_.H1,sysH,sysV,kn0]
 .obtain⟨x,rfl⟩: ∃x,x=a:=⟨_,rfl⟩;refine orow.os (x,4) [0] ⟨hpre.mono (by omega),by simp only;omega⟩ (fun j=>Qaqe _ j) rfl rfl ?_ ?_
  .simp(maxSteps:=9^9)(disch:=omega)only[ZZ,simprocAttr,rch,Yav,Qc7,ORB,wld_.ca,rndH,rndC,cor_.H1,sysH,sysV,kn0,pck_.ca,pck_.H0,rndH,rndC,ZaQ,Zak]
   try exact⟨rfl,rfl⟩
  have hb:=Qaqg x 4;have hb2:=hb.2 (by decide);have hok:=Qaqf hpre 4;have hw:IntKind.i64.wrap (1+(Qaqd x 4).1)=1+(Qaqd x 4).1:=Qak (by omega) (by omega);simp(maxSteps:=9^9)(disch:=omega)only[ZZ,simprocAttr,rch,Yav,Qc7,ORB,wld_.ca,rndH,rndC,cor_.H1,sysH,sysV,kn0,pck_.H1,rndH,rndC,kn0,sub,Zak,hw];obtain⟨y,hy⟩: ∃y,y=(Qaqd x 4).2:=⟨_,rfl⟩;obtain⟨w,hwd⟩: ∃w,w=1+(Qaqd x 4).1:=⟨_,rfl⟩;rw[<-hy] at hok;simp only[<-hy,<-hwd];refine orow.os (y,4) [0] ⟨hok.mono (by omega),by simp only;omega⟩ (fun j=>Qaqe _ j) rfl rfl ?_ ?_
  .simp(maxSteps:=9^9)(disch:=omega)only[ZZ,simprocAttr,rch,Yav,Qc7,ORB,wld_.ca,rndH,rndC,cor_.H1,sysH,sysV,kn0,pck_.ca,pck_.H0,rndH,rndC,ZaQ,Zak]
   try exact⟨rfl,rfl⟩
  have hb3:=(Qaqg y 4);have hb4:=hb3.2 (by decide);have hok2:=Qaqf hok 4;have hw2:IntKind.i64.wrap (1+(Qaqd y 4).1)=1+(Qaqd y 4).1:=Qak (by omega) (by omega);simp(maxSteps:=9^9)(disch:=omega)only[ZZ,simprocAttr,rch,Yav,Qc7,ORB,wld_.ca,rndH,rndC,cor_.H1,sysH,sysV,kn0,pck_.H1,rndH,rndC,kn0,sub,Zak,hw2];obtain⟨z,hz⟩: ∃z,z=(Qaqd y 4).2:=⟨_,rfl⟩;obtain⟨g,hg⟩: ∃g,g=1+(Qaqd y 4).1:=⟨_,rfl⟩;rw[<-hz] at hok2;simp only[<-hz,<-hg];refine⟨by simp[belL,AV.bel],?_⟩;have e0:bckS (c1R 0 z).1.2 false=[]:=rfl;have e4:(frtS (c1R 0 z).1.2).map intC=[[.int .i64 0],[.int .i64 0],[.int .i64 0],[.int .i64 0]]:=rfl;have eg:(c1R 0 z).1.1.map Glue.c=[[.str ⟨#[122,101,114,111]⟩,.int .i64 1],[.str ⟨#[111,110,101]⟩,.int .i64 1]]:=rfl;have et:rwD 7 (c1R 0 z).1.2 false=[[.im (.str ⟨#[115,101,101,100]⟩),.own 4]]:=rfl;refine Qay.frr ⟨{k:Nat//k<=w.toNat},fun k=>⟨[(8,.im (.int .i64 k.1)),(7,.im (.int .i64 k.1)),(5,.ptr 2 0),(4,.im (.int .i64 g)),(3,.im (.int .i64 w)),(2,.ptr 1 0),(0,.ptr 0 0)],[(0,(true,.cells 94 (rndC (c1R k.1 z).2))),(2,(true,.cells 27 [.own 8,.own 9])),(1,(true,.cells 32 [.im (.sl true 0 []),.im (.sl true 0 []),.im (.sl true 0 []),.im (.int .i64 0)])),(4,(true,.arr 2 1 ((frtS (c1R k.1 z).1.2).map intC))),(7,(true,.arr 2 1 ((bckS (c1R k.1 z).1.2 (decide (0<k.1))).map intC))),(8,(true,.arr 128 2 ((c1R k.1 z).1.1.map Glue.c))),(9,(true,.arrA 130 2 (rwD 7 (c1R k.1 z).1.2 (decide (0<k.1)))))],10⟩,fun k=>w.toNat - k.1,fun k=>⟨by simp[Qad.good,belT,belH,Qam,AV.bel,belL,rndC,Qaqu],by simp⟩,⟨⟨0,ZaU _⟩,[],[(7,none),(8,some 3),(9,some 6)],?_⟩,fun k=> ?_⟩
  .simp only[subP,Zeg,ZdL,e0,e4,eg,et];simp(maxSteps:=9^9)(disch:=omega)only[ZZ,simprocAttr,rch,Yav,Qc7,ORB,wld_.ca,rndH,rndC,cor_.H1,sysH,sysV,kn0,rndC,Zab,Zaa];exact⟨rfl,rfl,rfl⟩
  obtain⟨k,hk⟩:=k;obtain⟨hok3,hl1,hl2,hl3⟩:=c1R_ok hok2 k;have hrl:=Qaqo 7 (c1R k z).1.2 (decide (0<k));simp only[rndC];simp(maxSteps:=9^9)(disch:=omega)only[ZZ,simprocAttr,rch,Yav,Qc7,ORB,wld_.ca,rndH,rndC,cor_.H1,sysH,sysV,kn0,sub,Qal];refine⟨fun hk2=>⟨by omega,?_,by omega,by omega,by omega,?_⟩,fun hk2=> ?_⟩
  .show 1+1<=9223372036854775807;omega
  .obtain⟨l,hl⟩: ∃l,l=(c1R k z).1.2:=⟨_,rfl⟩;obtain⟨gl,hgl⟩: ∃gl,gl=(c1R k z).1.1:=⟨_,rfl⟩;obtain⟨r,hr⟩: ∃r,r=(c1R k z).2:=⟨_,rfl⟩;rw[<-hl] at hl2 hl3 hrl;rw[<-hgl] at hl1;rw[<-hr] at hok3;simp only[<-hl,<-hgl,<-hr];obtain⟨T,hT⟩: ∃T,l[k]? =some T:=⟨_,Zad (by omega)⟩;have hne:l≠[]:=fun h=>by rw[h] at hl2;simp at hl2
   have hF4:=Qar3 hl3 hne;have hgn:((gl.map Glue.c++[[D.str (⟨#[120]⟩++digS (k:Int)),D.int .i64 2]]).length:Int)=(k:Int)+3:=by simp[hl1];omega
   obtain⟨l',hl'⟩: ∃l',l'=Qaqh l k 1 ((k:Int)+3):=⟨_,rfl⟩;have hl2':l'.length=k+1:=by rw[hl',Qaqi,hl2]
   have hl3': ∀T∈l',T.Sides.length=4:=by rw[hl'];exact Qaqm hl3
   have hne':l'≠[]:=fun h=>by rw[h] at hl2';simp at hl2'
   have hrd:rwD 7 l (decide (0<k))=rwD 7 l' (decide (0<k)):=by
    rw[hl',rwD_set];by_cases c:k=0
    .exact .inl c
    .exact .inr ⟨by simp;omega,hl2.symm⟩
   have hrl':=Qaqo 7 l' (decide (0<k));refine Qi3 (rwD_get hT) ?_;by_cases c:k=0
   case' pos=>
    have e1:rwR 7 l.length (decide (0<k)) k T=[.im (.str T.Name),.own 4]:=by simp[rwR,c]
    have eF:(frtS l).set 1 ((k:Int)+3)=frtS l':=by rw[hl',c,Qart]
    have eB:bckS l (decide (0<k))=bckS l' (decide (0<k)):=by rw[c];rfl
    rw[e1];simp(maxSteps:=9^9)(disch:=omega)only[ZZ,simprocAttr,rch,Yav,Qc7,ORB,wld_.ca,rndH,rndC,cor_.H1,sysH,sysV,kn0,sub,Qal,Qaq4,hl1,hgn,eF,eB,hrd];refine⟨by omega,by omega,fun _ _=>⟨by omega,by show 1+1<=9223372036854775807;omega,?_⟩⟩
   case' neg=>
    have cd:decide (0<k)=true:=by simp;omega
    have e1:rwR 7 l.length (decide (0<k)) k T=[.im (.str T.Name),.own 7]:=by simp[rwR,c];omega
    have eF:frtS l=frtS l':=by rw[hl',Qar4 c]
    have eB:(bckS l (decide (0<k))).set 1 ((k:Int)+3)=bckS l' (decide (0<k)):=by rw[hl',Qarz (fun _=>hl2.symm)]
    have hB4:(bckS l (decide (0<k))).length=4:=by rw[cd];exact Qar0 hl3 hne
    rw[e1];simp(maxSteps:=9^9)(disch:=omega)only[ZZ,simprocAttr,rch,Yav,Qc7,ORB,wld_.ca,rndH,rndC,cor_.H1,sysH,sysV,kn0,sub,Qal,Qaq4,hl1,hgn,eF,eB,hrd];refine⟨by omega,by omega,fun _ _=>⟨by omega,by show 1+1<=9223372036854775807;omega,?_⟩⟩
   all_goals
    refine orow.os (r,2) [0] ⟨hok3.mono (by omega),by simp only;omega⟩ (fun j=>Qaqe _ j) rfl rfl ?_ ?_
    .simp(maxSteps:=9^9)(disch:=omega)only[ZZ,simprocAttr,rch,Yav,Qc7,ORB,wld_.ca,rndH,rndC,cor_.H1,sysH,sysV,kn0,pck_.ca,pck_.H0,rndH,rndC,ZaQ,Zak]
     try exact⟨rfl,rfl⟩
    have hbp:=Qaqg r 2;have hbq:=hbp.2 (by decide);have hokp:=Qaqf hok3 2;have hwp:IntKind.i64.wrap (1+(Qaqd r 2).1)=1+(Qaqd r 2).1:=Qak (by omega) (by omega);simp(maxSteps:=9^9)(disch:=omega)only[ZZ,simprocAttr,rch,Yav,Qc7,ORB,wld_.ca,rndH,rndC,cor_.H1,sysH,sysV,kn0,pck_.H1,rndH,rndC,kn0,sub,Zak,hwp,hrl',hgn];have hl4:(((rwD 7 l' (decide (0<k))++[[AV.im (D.str (⟨#[101]⟩++digS (k:Int))),AV.own 12]]).length:Nat):Int)=(k:Int)+2:=by simp[hrl',hl2'];omega
    refine⟨by simp[belL,AV.bel],by omega,by rw[ZbY,Qaqu _ _ _ _ (by omega) (by omega)];simp[belL,AV.bel],by simp,fun _=> ?_⟩;simp only[hl4];refine⟨⟨k+1,by omega⟩,[7],[(7,some 12),(8,some 11),(9,some 14)],by simp only;omega,?_⟩;have eD:decide (0<k+1)=true:=by simp
    have eN:(c1R (k+1) z).1.2=l'++[⟨nmS 101 k,[1+(Qaqd r 2).1,0,0,(k:Int)+3]⟩]:=by rw[hl',hl,hr];rfl
    have eG:(c1R (k+1) z).1.1=gl++[⟨nmS 120 k,2⟩]:=by rw[hgl];rfl
    have eR:(c1R (k+1) z).2=(Qaqd r 2).2:=by rw[hr];rfl
    simp only[subP,rndC,eD,eN,eG,eR,Qara _ hne',Qarq,Qaq7 hne'];simp(maxSteps:=9^9)(disch:=omega)only[ZZ,simprocAttr,rch,Yav,Qc7,ORB,wld_.ca,rndH,rndC,cor_.H1,sysH,sysV,kn0,Zab,Zaa,Qzl];refine⟨⟨by rw[Qak (by omega) (by omega)];omega,by rw[Qak (by omega) (by omega)];omega⟩,by simp[Glue.c,nmS],?_⟩;rw[Qaq5 (by decide) (L:=bckS l' (decide (0<k))) (U:=2) (fun hb=>⟨rfl,by rw[hb];exact Qaqv⟩)];exact Qarg (Qari rfl _) ⟨rfl,rfl,trivial⟩
  .obtain⟨l,hl⟩: ∃l,l=(c1R k z).1.2:=⟨_,rfl⟩;obtain⟨gl,hgl⟩: ∃gl,gl=(c1R k z).1.1:=⟨_,rfl⟩;obtain⟨r,hr⟩: ∃r,r=(c1R k z).2:=⟨_,rfl⟩;have hkw:k=w.toNat:=by omega
   have cd:decide (0<k)=true:=by simp;omega
   rw[<-hl] at hl2 hl3 hrl;rw[<-hgl] at hl1;rw[<-hr] at hok3;simp only[<-hl,<-hgl,<-hr,cd];obtain⟨s0,hs0⟩: ∃s0,s0=((gl,l),r):=⟨_,rfl⟩;refine Qay.frr ⟨{j:Nat//j<=g.toNat},fun j=>⟨[(9,.im (.int .i64 j.1)),(7,.im (.int .i64 (Qarf k j.1:Nat))),(5,.ptr 2 0),(4,.im (.int .i64 g)),(3,.im (.int .i64 w)),(2,.ptr 1 0),(0,.ptr 0 0)],[(0,(true,.cells 94 (rndC (c2R k s0 j.1).2))),(2,(true,.cells 27 [.own 11,.own 12])),(1,(true,.cells 32 [.im (.sl true 0 []),.im (.sl true 0 []),.im (.sl true 0 []),.im (.int .i64 0)])),(4,(true,.arr 2 1 ((frtS (c2R k s0 j.1).1.2).map intC))),(10,(true,.arr 2 1 ((bckS (c2R k s0 j.1).1.2 (decide (0<j.1))).map intC))),(11,(true,.arr 128 2 ((c2R k s0 j.1).1.1.map Glue.c))),(12,(true,.arrA 130 2 (rwD 10 (c2R k s0 j.1).1.2 (decide (0<j.1)))))],13⟩,fun j=>g.toNat - j.1,fun j=>⟨by simp[Qad.good,belT,belH,Qam,AV.bel,belL,rndC,Qaqu],by simp⟩,⟨⟨0,ZaU _⟩,[7],[(10,none),(11,some 8),(12,some 9)],?_⟩,fun j=> ?_⟩
   .have e00:c2R k s0 0=((gl,l),r):=hs0;have eb:bckS l false=[]:=rfl;simp only[subP,Zeg,ZdL,e00,eb,rndC];simp(maxSteps:=9^9)(disch:=omega)only[ZZ,simprocAttr,rch,Yav,Qc7,ORB,wld_.ca,rndH,rndC,cor_.H1,sysH,sysV,kn0,rndC,Zab,Zaa];rw[Qaq5 (by decide) (L:=bckS l true) (U:=2) (fun _=>⟨rfl,Qaqv⟩),rwD_q 7 10];refine⟨by simp[Qarf],Qari ?_ _⟩;rfl
   obtain⟨j,hj⟩:=j;obtain⟨hok3,hl1,hl2,hl3⟩:=c2R_ok (s:=s0) (m:=900+1+1+k) (w:=k) (by rw[hs0];exact hok3) (by rw[hs0];exact hl1) (by rw[hs0];exact hl2) (by rw[hs0];exact hl3) j;have hrl:=Qaqo 10 (c2R k s0 j).1.2 (decide (0<j));simp only[rndC];simp(maxSteps:=9^9)(disch:=omega)only[ZZ,simprocAttr,rch,Yav,Qc7,ORB,wld_.ca,rndH,rndC,cor_.H1,sysH,sysV,kn0,sub,Qal];have hp:Qarf k j<k+j+1/\(j=0/\Qarf k j=0\/0<j/\Qarf k j=k+j):=by unfold Qarf;split<;>omega
   refine⟨fun hj2=>⟨by omega,?_,?_⟩,fun hj2=> ?_⟩
   .show 1+1<=9223372036854775807;omega
   .refine⟨by omega,by omega,by omega,?_⟩;obtain⟨l2,hlq⟩: ∃l2,l2=(c2R k s0 j).1.2:=⟨_,rfl⟩;obtain⟨gl2,hgl2⟩: ∃gl2,gl2=(c2R k s0 j).1.1:=⟨_,rfl⟩;obtain⟨r2,hr2⟩: ∃r2,r2=(c2R k s0 j).2:=⟨_,rfl⟩;rw[<-hlq] at hl2 hl3 hrl;rw[<-hgl2] at hl1;rw[<-hr2] at hok3;simp only[<-hlq,<-hgl2,<-hr2];obtain⟨p,hpd⟩: ∃p,p=Qarf k j:=⟨_,rfl⟩;have hpe:(if j=0 then 0 else k+j)=p:=hpd.symm;rw[<-hpd] at hp;simp only[<-hpd];obtain⟨T,hT⟩: ∃T,l2[p]? =some T:=⟨_,Zad (by omega)⟩;have hne:l2≠[]:=fun h=>by rw[h] at hl2;simp at hl2
    have hF4:=Qar3 hl3 hne;have hgn:((gl2.map Glue.c++[[D.str (⟨#[121]⟩++digS (j:Int)),D.int .i64 2]]).length:Int)=(k:Int)+j+3:=by simp[hl1];omega
    obtain⟨l',hl'⟩: ∃l',l'=Qaqh l2 p 0 ((k:Int)+j+3):=⟨_,rfl⟩;have hl2':l'.length=k+j+1:=by rw[hl',Qaqi,hl2]
    have hl3': ∀T∈l',T.Sides.length=4:=by rw[hl'];exact Qaqm hl3
    have hne':l'≠[]:=fun h=>by rw[h] at hl2';simp at hl2'
    have hrd:rwD 10 l2 (decide (0<j))=rwD 10 l' (decide (0<j)):=by
     rw[hl',rwD_set];by_cases c:j=0
     .exact .inl (by omega)
     .exact .inr ⟨by simp;omega,by omega⟩
    have hrl':=Qaqo 10 l' (decide (0<j));refine Qi3 (rwD_get hT) ?_;by_cases c:j=0
    case' pos=>
     have hp0:p=0:=by omega
     have e1:rwR 10 l2.length (decide (0<j)) p T=[.im (.str T.Name),.own 4]:=by simp[rwR,hp0]
     have eF:(frtS l2).set 0 ((k:Int)+j+3)=frtS l':=by rw[hl',hp0,Qart]
     have eB:bckS l2 (decide (0<j))=bckS l' (decide (0<j)):=by rw[c];rfl
     rw[e1];simp(maxSteps:=9^9)(disch:=omega)only[ZZ,simprocAttr,rch,Yav,Qc7,ORB,wld_.ca,rndH,rndC,cor_.H1,sysH,sysV,kn0,sub,Qal,Qaq4,hl1,hgn,eF,eB,hrd];refine⟨by omega,by omega,fun _ _=>⟨by omega,by show 1+1<=9223372036854775807;omega,?_⟩⟩
    case' neg=>
     have cd:decide (0<j)=true:=by simp;omega
     have hp0:p≠0:=by omega
     have e1:rwR 10 l2.length (decide (0<j)) p T=[.im (.str T.Name),.own 10]:=by simp[rwR,hp0,cd];omega
     have eF:frtS l2=frtS l':=by rw[hl',Qar4 hp0]
     have eB:(bckS l2 (decide (0<j))).set 0 ((k:Int)+j+3)=bckS l' (decide (0<j)):=by rw[hl',Qarz (fun _=>by omega)]
     have hB4:(bckS l2 (decide (0<j))).length=4:=by rw[cd];exact Qar0 hl3 hne
     rw[e1];simp(maxSteps:=9^9)(disch:=omega)only[ZZ,simprocAttr,rch,Yav,Qc7,ORB,wld_.ca,rndH,rndC,cor_.H1,sysH,sysV,kn0,sub,Qal,Qaq4,hl1,hgn,eF,eB,hrd];refine⟨by omega,by omega,fun _ _=>⟨by omega,by show 1+1<=9223372036854775807;omega,?_⟩⟩
    all_goals
     refine orow.os (r2,2) [0] ⟨hok3.mono (by omega),by simp only;omega⟩ (fun j=>Qaqe _ j) rfl rfl ?_ ?_
     .simp(maxSteps:=9^9)(disch:=omega)only[ZZ,simprocAttr,rch,Yav,Qc7,ORB,wld_.ca,rndH,rndC,cor_.H1,sysH,sysV,kn0,pck_.ca,pck_.H0,rndH,rndC,ZaQ,Zak]
      try exact⟨rfl,rfl⟩
     have hbp:=Qaqg r2 2;have hbq:=hbp.2 (by decide);have hokp:=Qaqf hok3 2;have hwp:IntKind.i64.wrap (1+(Qaqd r2 2).1)=1+(Qaqd r2 2).1:=Qak (by omega) (by omega);simp(maxSteps:=9^9)(disch:=omega)only[ZZ,simprocAttr,rch,Yav,Qc7,ORB,wld_.ca,rndH,rndC,cor_.H1,sysH,sysV,kn0,pck_.H1,rndH,rndC,kn0,sub,Zak,hwp,hrl',hgn];have hl4:(((rwD 10 l' (decide (0<j))++[[AV.im (D.str (⟨#[110]⟩++digS (j:Int))),AV.own 15]]).length:Nat):Int)=(k:Int)+j+2:=by simp[hrl',hl2'];omega
     refine⟨by simp[belL,AV.bel],by omega,by rw[ZbY,Qaqu _ _ _ _ (by omega) (by omega)];simp[belL,AV.bel],by simp,fun _=> ?_⟩;simp only[hl4];refine⟨⟨j+1,by omega⟩,[10],[(10,some 15),(11,some 14),(12,some 17)],by simp only;omega,?_⟩;have eD:decide (0<j+1)=true:=by simp
     have eL:Qarf k (j+1)=k+j+1:=by simp[Qarf];omega
     have eN:(c2R k s0 (j+1)).1.2=l'++[⟨nmS 110 j,[0,1+(Qaqd r2 2).1,(k:Int)+j+3,0]⟩]:=by rw[hl',<-hpe,hr2];simp only[c2R];rw[<-hlq]
     have eG:(c2R k s0 (j+1)).1.1=gl2++[⟨nmS 121 j,2⟩]:=by rw[hgl2];rfl
     have eR:(c2R k s0 (j+1)).2=(Qaqd r2 2).2:=by rw[hr2];rfl
     simp only[subP,rndC,eD,eL,eN,eG,eR,Qara _ hne',Qarq,Qaq7 hne'];simp(maxSteps:=9^9)(disch:=omega)only[ZZ,simprocAttr,rch,Yav,Qc7,ORB,wld_.ca,rndH,rndC,cor_.H1,sysH,sysV,kn0,Zab,Zaa,Qzl];refine⟨⟨by rw[Qak (by omega) (by omega)];omega,by rw[Qak (by omega) (by omega)];omega⟩,by simp[Glue.c,nmS],?_⟩;rw[Qaq5 (by decide) (L:=bckS l' (decide (0<j))) (U:=2) (fun hb=>⟨rfl,by rw[hb];exact Qaqv⟩)];exact Qarg (Qari rfl _) ⟨rfl,rfl,trivial⟩
   .obtain⟨l2,hlq⟩: ∃l2,l2=(c2R k s0 j).1.2:=⟨_,rfl⟩;obtain⟨gl2,hgl2⟩: ∃gl2,gl2=(c2R k s0 j).1.1:=⟨_,rfl⟩;obtain⟨r2,hr2⟩: ∃r2,r2=(c2R k s0 j).2:=⟨_,rfl⟩;have hjg:j=g.toNat:=by omega
    have cj:decide (0<j)=true:=by simp;omega
    rw[<-hlq] at hl2 hl3 hrl;rw[<-hgl2] at hl1;rw[<-hr2] at hok3;simp only[<-hlq,<-hgl2,<-hr2,cj];have hne:l2≠[]:=fun h=>by rw[h] at hl2;simp at hl2
    have hok4:okR 920 r2:=hok3.mono (by omega);obtain⟨s1,hs1⟩: ∃s1,s1=(l2,r2):=⟨_,rfl⟩;refine Qay.frr ⟨{i:Nat//i<=4},fun i=>⟨[(10,.im (.int .i64 i.1)),(5,.ptr 2 0),(2,.ptr 1 0),(0,.ptr 0 0)],[(0,(true,.cells 94 (rndC (c3R s1 i.1).2))),(2,(true,.cells 27 [.own 11,.own 13])),(1,(true,.cells 32 [.im (.sl true 0 []),.im (.sl true 0 []),.im (.sl true 0 []),.im (.int .i64 0)])),(4,(true,.arr 2 1 ((frtS l2).map intC))),(11,(true,.arr 128 2 (gl2.map Glue.c))),(13,(true,.arrA 130 2 (rwD 10 (c3R s1 i.1).1 false)))],14⟩,fun i=>4 - i.1,fun i=>⟨by simp[Qad.good,belT,belH,Qam,AV.bel,belL,rndC,Qaqu],by simp⟩,⟨⟨0,ZaU _⟩,[10],[(13,some 12)],?_⟩,fun i=> ?_⟩
    .have e00:c3R s1 0=(l2,r2):=hs1;simp only[subP,e00,rndC];simp(maxSteps:=9^9)(disch:=omega)only[ZZ,simprocAttr,rch,Yav,Qc7,ORB,wld_.ca,rndH,rndC,cor_.H1,sysH,sysV,kn0,rndC,Zab,Zaa];rw[Qaq5 (by decide) (L:=bckS l2 true) (U:=2) (fun _=>⟨rfl,Qaqv⟩)];refine Qari ?_ _;rfl
    obtain⟨i,hi⟩:=i;obtain⟨hok5,hl4⟩:=c3R_ok (s:=s1) (m:=920) (by rw[hs1];exact hok4) i;have hl5:(c3R s1 i).1.length=k+j+1+i:=by rw[hl4,hs1];simp only;omega
    simp only[rndC];simp(maxSteps:=9^9)(disch:=omega)only[ZZ,simprocAttr,rch,Yav,Qc7,ORB,wld_.ca,rndH,rndC,cor_.H1,sysH,sysV,kn0,sub,Qal];refine⟨fun hi2=> ?_,fun hi2=> ?_⟩
    .obtain⟨l3,hl3d⟩: ∃l3,l3=(c3R s1 i).1:=⟨_,rfl⟩;obtain⟨r3,hr3⟩: ∃r3,r3=(c3R s1 i).2:=⟨_,rfl⟩;rw[<-hl3d] at hl5;rw[<-hr3] at hok5;simp only[<-hl3d,<-hr3];have hne3:l3≠[]:=fun h=>by rw[h] at hl5;simp only[ZbB] at hl5;omega
     have hrl3:=Qaqo 10 l3 false;refine orow.os (r3,2) [0] ⟨hok5.mono (by omega),by simp only;omega⟩ (fun j=>Qaqe _ j) rfl rfl ?_ ?_
     .simp(maxSteps:=9^9)(disch:=omega)only[ZZ,simprocAttr,rch,Yav,Qc7,ORB,wld_.ca,rndH,rndC,cor_.H1,sysH,sysV,kn0,pck_.ca,pck_.H0,rndH,rndC,ZaQ,Zak]
      try exact⟨rfl,rfl⟩
     have hbp:=Qaqg r3 2;have hbq:=hbp.2 (by decide);have hokp:=Qaqf hok5 2;have hwp:IntKind.i64.wrap (1+(Qaqd r3 2).1)=1+(Qaqd r3 2).1:=Qak (by omega) (by omega);simp(maxSteps:=9^9)(disch:=omega)only[ZZ,simprocAttr,rch,Yav,Qc7,ORB,wld_.ca,rndH,rndC,cor_.H1,sysH,sysV,kn0,pck_.H1,rndH,rndC,kn0,sub,Zak,hwp,hrl3];refine⟨by omega,by show 1+1<=9223372036854775807;omega,?_⟩;obtain⟨r4,hr4⟩: ∃r4,r4=(Qaqd r3 2).2:=⟨_,rfl⟩;rw[<-hr4] at hokp;simp only[<-hr4];refine orow.os (r4,2) [0] ⟨hokp.mono (by omega),by simp only;omega⟩ (fun j=>Qaqe _ j) rfl rfl ?_ ?_
     .simp(maxSteps:=9^9)(disch:=omega)only[ZZ,simprocAttr,rch,Yav,Qc7,ORB,wld_.ca,rndH,rndC,cor_.H1,sysH,sysV,kn0,pck_.ca,pck_.H0,rndH,rndC,ZaQ,Zak]
      try exact⟨rfl,rfl⟩
     have hbp4:=Qaqg r4 2;have hbq4:=hbp4.2 (by decide);have hokp4:=Qaqf hokp 2;have hwp4:IntKind.i64.wrap (1+(Qaqd r4 2).1)=1+(Qaqd r4 2).1:=Qak (by omega) (by omega);simp(maxSteps:=9^9)(disch:=omega)only[ZZ,simprocAttr,rch,Yav,Qc7,ORB,wld_.ca,rndH,rndC,cor_.H1,sysH,sysV,kn0,pck_.H1,rndH,rndC,kn0,sub,Zak,hwp4,hrl3];have hm:IntKind.i64.wrap (1+(i:Int).tmod 2)=1+(i:Int) % 2:=by
      rw[Zck (by omega)];exact Qak (by omega) (by omega)
     have hd:IntKind.i64.wrap (1+IntKind.i64.wrap ((i:Int).tdiv 2))=1+(i:Int)/2:=by
      rw[Zdy (by omega),Qak (x:=(i:Int)/2) (by omega) (by omega)];exact Qak (by omega) (by omega)
     simp only[hm,hd];refine⟨by simp[belL,AV.bel],by omega,by rw[ZbY,Qaqu _ _ _ _ (by omega) (by omega)];simp[belL,AV.bel],by simp,?_⟩;refine⟨⟨i+1,by omega⟩,[14],[(13,some 16)],by simp only;omega,?_⟩;have eN:(c3R s1 (i+1)).1=l3++[⟨nmS 114 i,[1+(Qaqd r3 2).1,1+(Qaqd r4 2).1,1+(i:Int) % 2,1+(i:Int)/2]⟩]:=by rw[hl3d,hr4,hr3];rfl
     have eR:(c3R s1 (i+1)).2=(Qaqd r4 2).2:=by rw[hr4,hr3];rfl
     simp only[subP,rndC,eN,eR];simp(maxSteps:=9^9)(disch:=omega)only[ZZ,simprocAttr,rch,Yav,Qc7,ORB,wld_.ca,rndH,rndC,cor_.H1,sysH,sysV,kn0,Zab,Zaa];refine⟨by rw[Qak (by omega) (by omega)];omega,?_⟩;refine (ZbJ (mtR _ _) (rwD_snocF (S:=[1+(Qaqd r3 2).1,1+(Qaqd r4 2).1,1+(i:Int) % 2,1+(i:Int)/2]) (U:=2) (by decide) rfl hne3)).mpr (Qari ?_ _);rfl
    .obtain rfl:i=4:=by omega
     obtain⟨l4,hl4d⟩: ∃l4,l4=(c3R s1 4).1:=⟨_,rfl⟩;obtain⟨r4,hr4⟩: ∃r4,r4=(c3R s1 4).2:=⟨_,rfl⟩;have hfr:frtS l2=frtS l4:=by rw[hl4d,c3R_frt (by rw[hs1];exact hne),hs1]
     rw[<-hl4d] at hl5;rw[<-hr4] at hok5;simp only[<-hl4d,<-hr4,hfr];have hrl4:=Qaqo 10 l4 false;have hcor:corR x=(⟨⟨gl2,if (Qaqd r4 3).1=0 then l4++[⟨⟨#[114,52]⟩,[1,2,1+(Qaqd (Qaqd r4 3).2 2).1,1+(Qaqd (Qaqd (Qaqd r4 3).2 2).2 2).1]⟩] else l4⟩,⟨[⟨⟨0,0⟩,0⟩]⟩,2⟩,if (Qaqd r4 3).1=0 then (Qaqd (Qaqd (Qaqd r4 3).2 2).2 2).2 else (Qaqd r4 3).2):=by
      have e0:c1R k z=s0:=by rw[hs0,hl,hgl,hr]
      simp only[corR,<-hy,<-hwd,<-hz,<-hg,<-hkw,<-hjg,e0,<-hlq,<-hgl2,<-hr2,<-hs1,<-hl4d,<-hr4]
     refine orow.os (r4,3) [0] ⟨hok5.mono (by omega),by simp only;omega⟩ (fun j=>Qaqe _ j) rfl rfl ?_ ?_
     .simp(maxSteps:=9^9)(disch:=omega)only[ZZ,simprocAttr,rch,Yav,Qc7,ORB,wld_.ca,rndH,rndC,cor_.H1,sysH,sysV,kn0,pck_.ca,pck_.H0,rndH,rndC,ZaQ,Zak]
      try exact⟨rfl,rfl⟩
     simp(maxSteps:=9^9)(disch:=omega)only[ZZ,simprocAttr,rch,Yav,Qc7,ORB,wld_.ca,rndH,rndC,cor_.H1,sysH,sysV,kn0,one_.H1,rndH,rndC,kn0,sub,Zak];have hok6:=Qaqf hok5 3;by_cases c:(Qaqd r4 3).1=0
     .rw[Zao c];simp only[Zao c] at hcor;obtain⟨r5,hr5⟩: ∃r5,r5=(Qaqd r4 3).2:=⟨_,rfl⟩;rw[<-hr5] at hok6;simp only[<-hr5] at hcor⊢;refine orow.os (r5,2) [0] ⟨hok6.mono (by omega),by simp only;omega⟩ (fun j=>Qaqe _ j) rfl rfl ?_ ?_
      .simp(maxSteps:=9^9)(disch:=omega)only[ZZ,simprocAttr,rch,Yav,Qc7,ORB,wld_.ca,rndH,rndC,cor_.H1,sysH,sysV,kn0,pck_.ca,pck_.H0,rndH,rndC,ZaQ,Zak]
       try exact⟨rfl,rfl⟩
      have hb5:=Qaqg r5 2;have hc5:=hb5.2 (by decide);have hok7:=Qaqf hok6 2;have hw5:IntKind.i64.wrap (1+(Qaqd r5 2).1)=1+(Qaqd r5 2).1:=Qak (by omega) (by omega);simp(maxSteps:=9^9)(disch:=omega)only[ZZ,simprocAttr,rch,Yav,Qc7,ORB,wld_.ca,rndH,rndC,cor_.H1,sysH,sysV,kn0,pck_.H1,rndH,rndC,kn0,sub,Zak,hw5,hrl4];obtain⟨r6,hr6⟩: ∃r6,r6=(Qaqd r5 2).2:=⟨_,rfl⟩;rw[<-hr6] at hok7;simp only[<-hr6] at hcor⊢;refine orow.os (r6,2) [0] ⟨hok7.mono (by omega),by simp only;omega⟩ (fun j=>Qaqe _ j) rfl rfl ?_ ?_
      .simp(maxSteps:=9^9)(disch:=omega)only[ZZ,simprocAttr,rch,Yav,Qc7,ORB,wld_.ca,rndH,rndC,cor_.H1,sysH,sysV,kn0,pck_.ca,pck_.H0,rndH,rndC,ZaQ,Zak]
       try exact⟨rfl,rfl⟩
      have hb6:=Qaqg r6 2;have hc6:=hb6.2 (by decide);have hw6:IntKind.i64.wrap (1+(Qaqd r6 2).1)=1+(Qaqd r6 2).1:=Qak (by omega) (by omega);simp(maxSteps:=9^9)(disch:=omega)only[ZZ,simprocAttr,rch,Yav,Qc7,ORB,wld_.ca,rndH,rndC,cor_.H1,sysH,sysV,kn0,pck_.H1,rndH,rndC,kn0,sub,Zak,hw6,hrl4];refine⟨by simp[belL,AV.bel],by omega,by rw[ZbY,Qaqu _ _ _ _ (by omega) (by omega)];simp[belL,AV.bel],by simp,?_⟩;refine⟨[4,14],[(1,some 11),(2,some 16),(3,some 17),(4,some 1)],⟨[(2,.ptr 4 0),(0,.ptr 0 0)],[(4,(true,.cells 32 [.own 1,.own 2,.own 3,.im (.int .i64 2)])),(0,(true,.cells 94 (rndC (Qaqd r6 2).2))),(1,(true,.arr 128 2 (gl2.map Glue.c))),(2,(true,.arrA 130 2 (imR ((l4++[(⟨⟨#[114,52]⟩,[1,2,1+(Qaqd r5 2).1,1+(Qaqd r6 2).1]⟩:Tile)]).map Tile.c)))),(3,(true,.arr 116 3 [[.int .i64 0,.int .i64 0,.int .i64 0]]))],5⟩,?_,by simp[Qad.good,belT,belH,Qam,AV.bel,belL,rndC,Qxu],by simp,?_⟩
      .simp only[subP,rndC];simp(maxSteps:=9^9)(disch:=omega)only[ZZ,simprocAttr,rch,Yav,Qc7,ORB,wld_.ca,rndH,rndC,cor_.H1,sysH,sysV,kn0,Zab,Zaa,Qzl];rw[Qar2 (by rfl) (U:=2) (by rfl)];refine (ZbJ (mtR _ _) ?_).mpr (Qzo _ (List.map Tile.c (l4++[(⟨⟨#[114,52]⟩,[1,2,1+(Qaqd r5 2).1,1+(Qaqd r6 2).1]⟩:Tile)])));simp[imR,Tile.c,intC]
      .simp only[hcor,rndC];simp(maxSteps:=9^9)(disch:=omega)only[ZZ,simprocAttr,rch,Yav,Qc7,ORB,wld_.ca,rndH,rndC,cor_.H1,sysH,sysV,kn0,rndC,Qaql]
     .rw[Zaj c];simp only[Zaj c] at hcor;refine⟨[4],[(1,some 11),(2,some 13),(3,some 14),(4,some 1)],⟨[(2,.ptr 4 0),(0,.ptr 0 0)],[(4,(true,.cells 32 [.own 1,.own 2,.own 3,.im (.int .i64 2)])),(0,(true,.cells 94 (rndC (Qaqd r4 3).2))),(1,(true,.arr 128 2 (gl2.map Glue.c))),(2,(true,.arrA 130 2 (imR (l4.map Tile.c)))),(3,(true,.arr 116 3 [[.int .i64 0,.int .i64 0,.int .i64 0]]))],5⟩,?_,by simp[Qad.good,belT,belH,Qam,AV.bel,belL,rndC,Qxu],by simp,?_⟩
      .simp only[subP,rndC];simp(maxSteps:=9^9)(disch:=omega)only[ZZ,simprocAttr,rch,Yav,Qc7,ORB,wld_.ca,rndH,rndC,cor_.H1,sysH,sysV,kn0,Zab,Zaa,Qzl];rw[Qar2 (by rfl) (U:=2) (by rfl)];exact Qzo _ _
      .simp only[hcor,rndC];simp(maxSteps:=9^9)(disch:=omega)only[ZZ,simprocAttr,rch,Yav,Qc7,ORB,wld_.ca,rndH,rndC,cor_.H1,sysH,sysV,kn0,rndC,Qaql]
 simp only[cor_.H1,sysH,Zaw,Zca,ZdQ] at hp;rcases hp with rfl|rfl|rfl|rfl
 .exact .inl ⟨by omega,rfl,rfl⟩
 .exact .inr ⟨by omega,by omega,rfl,rfl⟩
 .exact .inr ⟨by omega,by omega,rfl,rfl⟩
 .exact .inr ⟨by omega,by omega,rfl,rfl⟩
def sy8_.H1(x:Rnd):Qan:=(0,(true,.cells 94 (rndC (sysR x).2)))::sysH (sysR x).1
def sy8_.row:Row:=orow wld_.ca rndH 1 (fun x=>okR 890 x) kn0 (fun x=>sysV (sysR x).1) sy8_.H1 90
theorem sy8_.ok:Qas Tryz.prog 16 sy8_.row:=by
 refine owN (tC pck_.ok (tC wld_.ok (tC lin_.ok (tC cor_.ok tN)))) Tryz.func16 rfl (by kernel_rfl) (exB:=fun j=>Nat.ble 1 j) (R:=fun x r=>r=sysV (sysR x).1) (fun _=>rfl)
  (fun a=>by simp[wld_.ca,rndH,rndC,sy8_.H1,sysH,sysV,kn0,belL,AV.bel,belH,Qam,Qc2,AObj.nms,nmsL,AV.nms,domB,hget]) (fun a p hp=> ?_) (fun a r h=>by subst h;exact LeV.refl _) ?_
 rotate_left
 intro a hpre;simp only[Tryz.f16,Option.getD,wld_.ca,rndH,rndC,sy8_.H1,sysH,sysV,kn0];simp(maxSteps:=9^9)(disch:=omega)only[ZZ,simprocAttr,rch,Qc7,ORB,wld_.ca,rndH,rndC,sy8_.H1,sysH,sysV,kn0]
 .obtain⟨x,rfl⟩: ∃x,x=a:=⟨_,rfl⟩;refine orow.os (x,7) [0] ⟨hpre.mono (by omega),by simp only;omega⟩ (fun j=>Qaqe _ j) rfl rfl ?_ ?_
  .simp(maxSteps:=9^9)(disch:=omega)only[ZZ,simprocAttr,rch,Qc7,ORB,wld_.ca,rndH,rndC,sy8_.H1,sysH,sysV,kn0,pck_.ca,pck_.H0,rndH,rndC,ZaQ,Zak]
   try exact⟨rfl,rfl⟩
  have hok:=Qaqf hpre 7;simp(maxSteps:=9^9)(disch:=omega)only[ZZ,simprocAttr,rch,Qc7,ORB,wld_.ca,rndH,rndC,sy8_.H1,sysH,sysV,kn0,pck_.H1,rndH,rndC,kn0,sub,Zak,Qal];obtain⟨y,hy⟩: ∃y,y=(Qaqd x 7).2:=⟨_,rfl⟩;rw[<-hy] at hok;simp only[<-hy];refine⟨fun c=> ?_,fun c=>⟨fun c2=> ?_,fun c2=>⟨fun c3=> ?_,fun c3=> ?_⟩⟩⟩
  .refine orow.os y [0] (show okR 900 y from hok.mono (by omega)) (fun j=>Qaqe _ j) rfl rfl ?_ ?_
   .simp(maxSteps:=9^9)(disch:=omega)only[ZZ,simprocAttr,rch,Qc7,ORB,wld_.ca,rndH,rndC,sy8_.H1,sysH,sysV,kn0,wld_.ca,rndH,rndC,ZaQ,Zak]
    try exact⟨rfl,rfl⟩
   obtain⟨d,hd⟩: ∃d,d=wldR y:=⟨_,rfl⟩;have e:sysR x=d:=by rw[hd,hy];simp only[sysR];rw[Zao c]
   simp(maxSteps:=9^9)(disch:=omega)only[ZZ,simprocAttr,rch,Qc7,ORB,wld_.ca,rndH,rndC,sy8_.H1,sysH,sysV,kn0,wld_.H1,sysV,sysH,rndH,rndC,kn0,sub,Zak,<-hd,Qaqp,Qaeq];refine⟨[],[(1,some 2),(2,some 3),(3,some 4),(4,some 1)],⟨[(2,.ptr 4 0),(0,.ptr 0 0)],[(4,(true,.cells 32 [.own 1,.own 2,.own 3,.im (.int .i64 d.1.Temperature)])),(0,(true,.cells 94 (rndC d.2))),(1,(true,.arr 128 2 (d.1.Set.Glues.map Glue.c))),(2,(true,.arrA 130 2 (imR (d.1.Set.Tiles.map Tile.c)))),(3,(true,.arr 116 3 (d.1.Seed.Tiles.map Qab.c)))],5⟩,?_,by simp[Qad.good,belT,belH,Qam,AV.bel,belL,rndC,Qxu],by simp,?_⟩
   .simp only[subP,rndC];simp(maxSteps:=9^9)(disch:=omega)only[ZZ,simprocAttr,rch,Qc7,ORB,wld_.ca,rndH,rndC,sy8_.H1,sysH,sysV,kn0,Zab,Zaa,Qzb,Qsg]
   .simp only[e,rndC];simp(maxSteps:=9^9)(disch:=omega)only[ZZ,simprocAttr,rch,Qc7,ORB,wld_.ca,rndH,rndC,sy8_.H1,sysH,sysV,kn0,rndC,Qaql]
  .refine⟨fun _=> ?_,fun c3=>absurd c2 c3⟩;refine orow.os y [0] (show okR 900 y from hok.mono (by omega)) (fun j=>Qaqe _ j) rfl rfl ?_ ?_
   .simp(maxSteps:=9^9)(disch:=omega)only[ZZ,simprocAttr,rch,Qc7,ORB,wld_.ca,rndH,rndC,sy8_.H1,sysH,sysV,kn0,wld_.ca,rndH,rndC,ZaQ,Zak]
    try exact⟨rfl,rfl⟩
   obtain⟨d,hd⟩: ∃d,d=linR y:=⟨_,rfl⟩;have e:sysR x=d:=by rw[hd,hy];simp only[sysR];rw[Zaj c,Zao (.inl c2)]
   simp(maxSteps:=9^9)(disch:=omega)only[ZZ,simprocAttr,rch,Qc7,ORB,wld_.ca,rndH,rndC,sy8_.H1,sysH,sysV,kn0,lin_.H1,sysV,sysH,rndH,rndC,kn0,sub,Zak,<-hd,Qaqp,Qaeq];refine⟨[],[(1,some 2),(2,some 3),(3,some 4),(4,some 1)],⟨[(2,.ptr 4 0),(0,.ptr 0 0)],[(4,(true,.cells 32 [.own 1,.own 2,.own 3,.im (.int .i64 d.1.Temperature)])),(0,(true,.cells 94 (rndC d.2))),(1,(true,.arr 128 2 (d.1.Set.Glues.map Glue.c))),(2,(true,.arrA 130 2 (imR (d.1.Set.Tiles.map Tile.c)))),(3,(true,.arr 116 3 (d.1.Seed.Tiles.map Qab.c)))],5⟩,?_,by simp[Qad.good,belT,belH,Qam,AV.bel,belL,rndC,Qxu],by simp,?_⟩
   .simp only[subP,rndC];simp(maxSteps:=9^9)(disch:=omega)only[ZZ,simprocAttr,rch,Qc7,ORB,wld_.ca,rndH,rndC,sy8_.H1,sysH,sysV,kn0,Zab,Zaa,Qzb,Qsg]
   .simp only[e,rndC];simp(maxSteps:=9^9)(disch:=omega)only[ZZ,simprocAttr,rch,Qc7,ORB,wld_.ca,rndH,rndC,sy8_.H1,sysH,sysV,kn0,rndC,Qaql]
  .refine orow.os y [0] (show okR 900 y from hok.mono (by omega)) (fun j=>Qaqe _ j) rfl rfl ?_ ?_
   .simp(maxSteps:=9^9)(disch:=omega)only[ZZ,simprocAttr,rch,Qc7,ORB,wld_.ca,rndH,rndC,sy8_.H1,sysH,sysV,kn0,wld_.ca,rndH,rndC,ZaQ,Zak]
    try exact⟨rfl,rfl⟩
   obtain⟨d,hd⟩: ∃d,d=linR y:=⟨_,rfl⟩;have e:sysR x=d:=by rw[hd,hy];simp only[sysR];rw[Zaj c,Zao (.inr c3)]
   simp(maxSteps:=9^9)(disch:=omega)only[ZZ,simprocAttr,rch,Qc7,ORB,wld_.ca,rndH,rndC,sy8_.H1,sysH,sysV,kn0,lin_.H1,sysV,sysH,rndH,rndC,kn0,sub,Zak,<-hd,Qaqp,Qaeq];refine⟨[],[(1,some 2),(2,some 3),(3,some 4),(4,some 1)],⟨[(2,.ptr 4 0),(0,.ptr 0 0)],[(4,(true,.cells 32 [.own 1,.own 2,.own 3,.im (.int .i64 d.1.Temperature)])),(0,(true,.cells 94 (rndC d.2))),(1,(true,.arr 128 2 (d.1.Set.Glues.map Glue.c))),(2,(true,.arrA 130 2 (imR (d.1.Set.Tiles.map Tile.c)))),(3,(true,.arr 116 3 (d.1.Seed.Tiles.map Qab.c)))],5⟩,?_,by simp[Qad.good,belT,belH,Qam,AV.bel,belL,rndC,Qxu],by simp,?_⟩
   .simp only[subP,rndC];simp(maxSteps:=9^9)(disch:=omega)only[ZZ,simprocAttr,rch,Qc7,ORB,wld_.ca,rndH,rndC,sy8_.H1,sysH,sysV,kn0,Zab,Zaa,Qzb,Qsg]
   .simp only[e,rndC];simp(maxSteps:=9^9)(disch:=omega)only[ZZ,simprocAttr,rch,Qc7,ORB,wld_.ca,rndH,rndC,sy8_.H1,sysH,sysV,kn0,rndC,Qaql]
  .refine orow.os y [0] (show okR 900 y from hok.mono (by omega)) (fun j=>Qaqe _ j) rfl rfl ?_ ?_
   .simp(maxSteps:=9^9)(disch:=omega)only[ZZ,simprocAttr,rch,Qc7,ORB,wld_.ca,rndH,rndC,sy8_.H1,sysH,sysV,kn0,wld_.ca,rndH,rndC,ZaQ,Zak]
    try exact⟨rfl,rfl⟩
   obtain⟨d,hd⟩: ∃d,d=corR y:=⟨_,rfl⟩;have e:sysR x=d:=by rw[hd,hy];simp only[sysR];rw[Zaj c,Zaj (fun h=>h.elim c2 c3)]
   simp(maxSteps:=9^9)(disch:=omega)only[ZZ,simprocAttr,rch,Qc7,ORB,wld_.ca,rndH,rndC,sy8_.H1,sysH,sysV,kn0,cor_.H1,sysV,sysH,rndH,rndC,kn0,sub,Zak,<-hd,Qaqp,Qaeq];refine⟨[],[(1,some 2),(2,some 3),(3,some 4),(4,some 1)],⟨[(2,.ptr 4 0),(0,.ptr 0 0)],[(4,(true,.cells 32 [.own 1,.own 2,.own 3,.im (.int .i64 d.1.Temperature)])),(0,(true,.cells 94 (rndC d.2))),(1,(true,.arr 128 2 (d.1.Set.Glues.map Glue.c))),(2,(true,.arrA 130 2 (imR (d.1.Set.Tiles.map Tile.c)))),(3,(true,.arr 116 3 (d.1.Seed.Tiles.map Qab.c)))],5⟩,?_,by simp[Qad.good,belT,belH,Qam,AV.bel,belL,rndC,Qxu],by simp,?_⟩
   .simp only[subP,rndC];simp(maxSteps:=9^9)(disch:=omega)only[ZZ,simprocAttr,rch,Qc7,ORB,wld_.ca,rndH,rndC,sy8_.H1,sysH,sysV,kn0,Zab,Zaa,Qzb,Qsg]
   .simp only[e,rndC];simp(maxSteps:=9^9)(disch:=omega)only[ZZ,simprocAttr,rch,Qc7,ORB,wld_.ca,rndH,rndC,sy8_.H1,sysH,sysV,kn0,rndC,Qaql]
 simp only[sy8_.H1,sysH,Zaw,Zca,ZdQ] at hp;rcases hp with rfl|rfl|rfl|rfl
 .exact .inl ⟨by omega,rfl,rfl⟩
 .exact .inr ⟨by omega,by omega,rfl,rfl⟩
 .exact .inr ⟨by omega,by omega,rfl,rfl⟩
 .exact .inr ⟨by omega,by omega,rfl,rfl⟩
def Qarv(code:List Int):Qar:=(sysR ⟨code,0,0⟩).1
def lws_.fv(a:(List Int)):Qar:=(Qarv) a
def lws_.row:Row:=vK (b1 (qS Qaq6 Qarj)) (rA Qar.d_le) (fun a=>bytR a) lws_.fv
def lws_.q:=vKq (R:=lws_.row) rfl
theorem lws_.ok:Qas Tryz.prog 5 lws_.row:=by
 refine vw (tC frm_.ok (tC sy8_.ok tN)) Tryz.func5 rfl (by kernel_rfl) ?_;intro a hpre;simp only[Tryz.f5,Option.getD];simp(maxSteps:=9^9)(disch:=omega)only[ZZ,simprocAttr,rch,lws_.fv];refine orow.os a [] trivial (fun j=>by simp[domB,hget]) rfl rfl ?_ ?_
 .simp(maxSteps:=9^9)(disch:=omega)only[ZZ,simprocAttr,rch,lws_.fv,frm_.ca,Qer]
  try exact⟨rfl,rfl⟩
 have h0:okR 0 ⟨a,0,0⟩:=⟨hpre,Zch _,Zch _⟩;simp(maxSteps:=9^9)(disch:=omega)only[ZZ,simprocAttr,rch,lws_.fv,frm_.H1,rndH,rndC,sub];refine orow.os ⟨a,0,0⟩ [1] (show okR 890 _ from h0.mono (by decide)) (fun j=>Qaqe _ j) rfl rfl ?_ ?_
 .simp(maxSteps:=9^9)(disch:=omega)only[ZZ,simprocAttr,rch,lws_.fv,wld_.ca,rndH,rndC,ZaQ,Zak]
  try exact⟨rfl,rfl⟩
 simp(maxSteps:=9^9)(disch:=omega)only[ZZ,simprocAttr,rch,lws_.fv,sy8_.H1,sysV,sysH,rndH,rndC,kn0,sub,Zak,Qaqp,Qaeq,Qae4];rfl
def sumN(f:Nat->Int):Nat->Int
 |0=>0
 |n+1=>sumN f n+f n
theorem Qa4{f g:Nat->Int}: ∀{n:Nat},(∀i,i<n->f i=g i)->sumN f n=sumN g n
 |0,_=>rfl
 |n+1,h=>by simp only[sumN];rw[Qa4 (fun i hi=>h i (by omega)),h n (by omega)]
theorem Qdo(f g:Nat->Int): ∀n,sumN (fun i=>f i+g i) n=sumN f n+sumN g n
 |0=>rfl
 |n+1=>by simp only[sumN];rw[Qdo f g n];omega
theorem Qk3(f:Nat->Int): ∀n,sumN (fun i=> - f i) n= - sumN f n
 |0=>rfl
 |n+1=>by simp only[sumN];rw[Qk3 f n];omega
theorem Qc1: ∀n,sumN (fun _=>0) n=0
 |0=>rfl
 |n+1=>by simp only[sumN];rw[Qc1 n];rfl
theorem Qxf{f g:Nat->Int}: ∀{n:Nat},(∀i,i<n->f i<=g i)->sumN f n<=sumN g n
 |0,_=>Zch _
 |n+1,h=>by
  have h1:=Qxf (f:=f) (g:=g) (n:=n) (fun i hi=>h i (by omega));have h2:=h n (by omega);simp only[sumN];omega
theorem Qt3(f:Nat->Nat->Int)(m:Nat): ∀n,sumN (fun i=>sumN (fun j=>f i j) m) n=sumN (fun j=>sumN (fun i=>f i j) n) m
 |0=>by simp only[sumN];exact (Qc1 m).symm
 |n+1=>by simp only[sumN];rw[Qt3 f m n,<-Qdo]
theorem Qeo(k:Nat)(c:Int): ∀n,sumN (fun i=>if i=k then c else 0) n=if k<n then c else 0
 |0=>rfl
 |n+1=>by
  simp only[sumN];rw[Qeo k c n];by_cases h1:n=k
  .subst h1;rw[Zaj (by omega),Zao rfl,Zao (by omega)];omega
  .rw[Zaj h1];by_cases h2:k<n
   .rw[Zao h2,Zao (by omega)];omega
   .rw[Zaj h2,Zaj (by omega)];omega
theorem sumN_anti(a:Nat->Nat->Int)(n:Nat)(h: ∀u w,u<n->w<n->a u w= - a w u):sumN (fun u=>sumN (fun w=>a u w) n) n=0:=by
 have h1:sumN (fun u=>sumN (fun w=>a u w) n) n= - sumN (fun u=>sumN (fun w=>a u w) n) n:=by
  rw[<-Qk3]
  conv=>lhs;rw[Qt3]
  refine Qa4 fun u hu=> ?_
  rw[<-Qk3];exact Qa4 fun w hw=>h w u hw hu
 omega
structure Qh5(rm fl:Nat->Nat->Int)(n p q:Nat)(v:Int):Prop where
 anti: ∀u w,u<n->w<n->fl u w= - fl w u
 cap: ∀u w,u<n->w<n->fl u w<=rm u w
 cons: ∀u,u<n->u≠p->u≠q->sumN (fl u) n=0
 val:sumN (fl p) n=v
def cutF(rm:Nat->Nat->Int)(n:Nat)(S:Nat->Bool):Int:=sumN (fun u=>sumN (fun w=>if S u=true/\S w=false then rm u w else 0) n) n
theorem Qaac{rm fl:Nat->Nat->Int}{n p q:Nat}{v:Int}(h:Qh5 rm fl n p q v)(hp:p<n){S:Nat->Bool}(hS:S p=true)(hT:S q=false):cutF fl n S=v:=by
 have h1:sumN (fun u=>sumN (fun w=>if S u=true then fl u w else 0) n) n=v:=by
  have:sumN (fun u=>sumN (fun w=>if S u=true then fl u w else 0) n) n=sumN (fun u=>if u=p then v else 0) n:=by
   refine Qa4 fun u hu=> ?_
   by_cases hup:u=p
   .subst hup;rw[Zao rfl,<-h.val];exact Qa4 fun w _=>Zao hS
   .rw[Zaj hup];cases hSu:S u with
    |false=>exact (Qa4 fun w _=>Zaj (by simp)).trans (Qc1 n)
    |true=>
     have huq:u≠q:=fun he=>by rw[he,hT] at hSu;cases hSu
     exact (Qa4 fun w _=>Zao rfl).trans (h.cons u hu hup huq)
  rw[this,Qeo,Zao hp]
 have h2:sumN (fun u=>sumN (fun w=>if S u=true/\S w=true then fl u w else 0) n) n=0:=by
  refine sumN_anti _ n fun u w hu hw=> ?_
  by_cases hb:S u=true/\S w=true
  .rw[Zao hb,Zao ⟨hb.2,hb.1⟩];exact h.anti u w hu hw
  .rw[Zaj hb,Zaj (fun h=>hb ⟨h.2,h.1⟩)];rfl
 have h3:sumN (fun u=>sumN (fun w=>if S u=true then fl u w else 0) n) n=sumN (fun u=>sumN (fun w=>if S u=true/\S w=true then fl u w else 0) n) n+cutF fl n S:=by
  rw[cutF,<-Qdo];refine Qa4 fun u _=> ?_
  rw[<-Qdo];refine Qa4 fun w _=> ?_
  cases S u<;>cases S w<;>simp
 omega
theorem Qw8{rm fl:Nat->Nat->Int}{n p q:Nat}{v:Int}(h:Qh5 rm fl n p q v)(hp:p<n){S:Nat->Bool}(hS:S p=true)(hT:S q=false):v<=cutF rm n S:=by
 rw[<-Qaac h hp hS hT];refine Qxf fun u hu=>Qxf fun w hw=> ?_
 split
 .exact h.cap u w hu hw
 .exact Zch _
theorem Qxp{rm fl:Nat->Nat->Int}{n p q:Nat}{v:Int}(h:Qh5 rm fl n p q v)(hp:p<n){S:Nat->Bool}(hS:S p=true)(hT:S q=false)(hfull: ∀u w,u<n->w<n->S u=true->S w=false->rm u w<=fl u w):v=cutF rm n S:=by
 rw[<-Qaac h hp hS hT];refine Qa4 fun u hu=>Qa4 fun w hw=> ?_
 split
 .rename_i hb;have h1:=h.cap u w hu hw;have h2:=hfull u w hu hw hb.1 hb.2;omega
 .rfl
def Qgm(L:Nat->Nat)(a b j:Nat):Int:=if L j=a/\L (j+1)=b then 1 else 0
theorem Qfb(L:Nat->Nat)(a b:Nat): ∀i,0<=sumN (Qgm L a b) i
 |0=>Zch _
 |i+1=>by
  have:=Qfb L a b i
  simp only[sumN,Qgm]
  split<;>omega
theorem Qr1{L:Nat->Nat}{m:Nat}(hinj: ∀i j,i<=m->j<=m->L i=L j->i=j)(a b:Nat): ∀i,i<=m->sumN (Qgm L a b) i<=1/\(0<sumN (Qgm L a b) i-> ∃j,j<i/\L j=a/\L (j+1)=b)
 |0,_=>⟨by simp[sumN],fun h=>by simp[sumN] at h⟩
 |i+1,hi=>by
  obtain⟨h1,h2⟩:=Qr1 hinj a b i (by omega);have h0:=Qfb L a b i;simp only[sumN];by_cases hc:L i=a/\L (i+1)=b
  .have hz: ¬0<sumN (Qgm L a b) i:=by
    intro hpos;obtain⟨j,hj,e1,_⟩:=h2 hpos
    have:=hinj j i (by omega) (by omega) (e1.trans hc.1.symm)
    omega
   simp only[Qgm] at hz h0⊢;rw[Zao hc];exact⟨by omega,fun _=>⟨i,by omega,hc⟩⟩
  .have e:Qgm L a b i=0:=Zaj hc;rw[e];refine⟨by omega,fun hpos=> ?_⟩;obtain⟨j,hj,e1⟩:=h2 (by omega);exact⟨j,by omega,e1⟩
theorem Qaag{L:Nat->Nat}{n m:Nat}(hr: ∀i,i<=m->L i<n)(a:Nat): ∀i,i<=m->sumN (fun b=>sumN (Qgm L a b) i - sumN (Qgm L b a) i) n=(if L 0=a then 1 else 0) - (if L i=a then 1 else 0)
 |0,_=>by simp only[sumN,Int.sub_self];exact Qc1 n
 |i+1,hi=>by
  have ih:=Qaag hr a i (by omega);have e:sumN (fun b=>sumN (Qgm L a b) (i+1) - sumN (Qgm L b a) (i+1)) n=sumN (fun b=>sumN (Qgm L a b) i - sumN (Qgm L b a) i) n+(sumN (fun b=>if b=L (i+1) then (if L i=a then 1 else 0) else 0) n+ - sumN (fun b=>if b=L i then (if L (i+1)=a then 1 else 0) else 0) n):=by
   rw[<-Qk3,<-Qdo,<-Qdo];refine Qa4 fun b _=> ?_
   simp only[sumN,Qgm];by_cases c1:L i=a<;>by_cases c2:L (i+1)=a<;>by_cases c3:b=L i<;>by_cases c4:b=L (i+1)<;>simp[c1,c2,c3,c4,eq_comm]<;>omega
  rw[e,ih,Qeo,Qeo,Zao (hr _ hi),Zao (hr _ (by omega))];omega
theorem flow_push{rm fl fl':Nat->Nat->Int}{n p q:Nat}{v:Int}(h:Qh5 rm fl n p q v){L:Nat->Nat}{m:Nat}(hinj: ∀i j,i<=m->j<=m->L i=L j->i=j)(hr: ∀i,i<=m->L i<n)
 (h0:L 0=p)(hm:L m=q)(hpq:p≠q)(hp:p<n)(hfree: ∀i,i<m->fl (L i) (L (i+1))<rm (L i) (L (i+1)))
 (hfl: ∀a b,a<n->b<n->fl' a b=fl a b+(sumN (Qgm L a b) m - sumN (Qgm L b a) m)):Qh5 rm fl' n p q (v+1):=by
 have hrow: ∀a,a<n->sumN (fl' a) n=sumN (fl a) n+((if L 0=a then 1 else 0) - (if L m=a then 1 else 0)):=by
  intro a ha;rw[<-Qaag hr a m (Zap _),<-Qdo];exact Qa4 fun b hb=>hfl a b ha hb
 refine⟨fun u w hu hw=> ?_,fun u w hu hw=> ?_,fun u hu h1 h2=> ?_,?_⟩
 .rw[hfl u w hu hw,hfl w u hw hu]
  have:=h.anti u w hu hw
  omega
 .rw[hfl u w hu hw];obtain⟨e1,e2⟩:=Qr1 hinj u w m (Zap _);have e3:=Qfb L w u m;have e4:=h.cap u w hu hw;by_cases hpos:0<sumN (Qgm L u w) m
  .obtain⟨j,hj,g1,g2⟩:=e2 hpos
   have:=hfree j hj
   rw[g1,g2] at this;omega
  .omega
 .rw[hrow u hu,h.cons u hu h1 h2,h0,hm,Zaj (Zcz h1),Zaj (Zcz h2)];rfl
 .rw[hrow p hp,h.val,h0,hm,Zao rfl,Zaj (Zcz hpq)];omega
def Qft(l:List (List Int))(u v:Int)(d:Int):List (List Int):=l.set u.toNat ((l[u.toNat]?.getD []).set v.toNat ((l[u.toNat]?.getD [])[v.toNat]?.getD 0+d))
def Qf4(l:List (List Int))(a b:Nat):Int:=(l[a]?.getD [])[b]?.getD 0
theorem Qdl(l:List (List Int))(u v d:Int):(Qft l u v d).length=l.length:=by simp[Qft]
theorem Qcw{l:List (List Int)}{n:Nat}(h: ∀r∈l,r.length=n)(u v d:Int)(hu:u.toNat<l.length): ∀r∈Qft l u v d,r.length=n:=by
 intro r hr;rcases ZbU hr with hr|hr
 .exact h r hr
 .subst hr;rw[ZbG,Zad hu,Zag];exact h _ (Zcf hu)
theorem Qe2{l:List (List Int)}{n:Nat}(hl:l.length=n)(h: ∀r∈l,r.length=n){u v:Nat}(d:Int)(hu:u<n)(hv:v<n)(a b:Nat):Qf4 (Qft l u v d) a b=Qf4 l a b+if a=u/\b=v then d else 0:=by
 simp only[Qf4,Qft,Zam];by_cases ha:u=a
 .subst ha;rw[ZaD (by omega),Zag];have hrl:(l[u]?.getD []).length=n:=by
   rw[Zad (by omega),Zag];exact h _ (Zcf (by omega))
  by_cases hb:v=b
  .subst hb;rw[ZaD (by omega),Zag,Zao ⟨rfl,rfl⟩]
  .rw[ZaF hb,Zaj (fun h=>hb h.2.symm)];omega
 .rw[ZaF ha,Zaj (fun h=>ha h.1.symm)];omega
def Qaba(x:Nwk)(u v:Int):Nwk:=⟨x.Room,Qft (Qft x.Flow u v 1) v u (-1)⟩
def Qgo(x:Nwk)(L:List Int):Nat->Nwk
 |0=>x
 |i+1=>Qaba (Qgo x L i) (L[i]?.getD 0) (L[i+1]?.getD 0)
theorem Ql3(x:Nwk)(L:List Int): ∀i,(Qgo x L i).Room=x.Room
 |0=>rfl
 |i+1=>Ql3 x L i
theorem flowAt_eq(x:Nwk)(u v:Int):Qzr x u v=Qf4 x.Flow u.toNat v.toNat:=rfl
theorem roomAt_eq(x:Nwk)(u v:Int):Qyw x u v=Qf4 x.Room u.toNat v.toNat:=rfl
theorem pushE_ok{x:Nwk}{n:Nat}(h:Qjx x n){u v:Int}(hu:u.toNat<n)(hv:v.toNat<n):Qjx (Qaba x u v) n:=by
 refine⟨h.r,by simp only[Qaba,Qdl];exact h.f,h.rr,?_⟩;exact Qcw (Qcw h.ff u v 1 (by rw[h.f];exact hu)) v u (-1) (by rw[Qdl,h.f];exact hv)
theorem Qm6{x:Nwk}{n:Nat}(h:Qjx x n){L:List Int}(hL: ∀y∈L,0<=y/\y<n): ∀i,i<L.length->Qjx (Qgo x L i) n
 |0,_=>h
 |i+1,hi=>by
  have ih:=Qm6 h hL i (by omega);refine pushE_ok ih ?_ ?_
  .rw[Zad (by omega),Zag]
   have:=hL _ (Zcf (show i<L.length by omega))
   omega
  .rw[Zad hi,Zag]
   have:=hL _ (Zcf hi)
   omega
def Lf(L:List Int)(i:Nat):Nat:=(L[i]?.getD 0).toNat
theorem Qso{x:Nwk}{n:Nat}(h:Qjx x n){L:List Int}(hL: ∀y∈L,0<=y/\y<n)(a b:Nat): ∀i,i<L.length->Qf4 (Qgo x L i).Flow a b=Qf4 x.Flow a b+(sumN (Qgm (Lf L) a b) i - sumN (Qgm (Lf L) b a) i)
 |0,_=>by simp[Qgo,sumN]
 |i+1,hi=>by
  have ih:=Qso h hL a b i (by omega);have hok:=Qm6 h hL i (by omega);obtain⟨u,hu⟩: ∃u,L[i]? =some u:=⟨_,Zad (by omega)⟩;obtain⟨v,hv⟩: ∃v,L[i+1]? =some v:=⟨_,Zad hi⟩;have hub:=hL u (Zaf hu);have hvb:=hL v (Zaf hv);obtain⟨u',rfl⟩: ∃u':Nat,u=u':=⟨u.toNat,by omega⟩;obtain⟨v',rfl⟩: ∃v':Nat,v=v':=⟨v.toNat,by omega⟩;simp only[Qgo,Qaba,hu,hv,Zag];rw[Qe2 (n:=n) (by rw[Qdl];exact hok.f) (Qcw hok.ff _ _ _ (by rw[hok.f];simp;omega)) _ (by omega) (by omega),
   Qe2 hok.f hok.ff _ (by omega) (by omega),ih]
  have e1:Lf L i=u':=by simp[Lf,hu]
  have e2:Lf L (i+1)=v':=by simp[Lf,hv]
  simp only[sumN,Qgm,e1,e2];by_cases c1:a=u'<;>by_cases c2:b=v'<;>by_cases c3:a=v'<;>by_cases c4:b=u'<;>simp[c1,c2,c3,c4,eq_comm]<;>omega
structure isWay(x:Nwk)(n:Nat)(p q:Int)(L:List Int):Prop where
 pos:0<L.length
 inb: ∀y∈L,0<=y/\y<n
 hd:L[0]? =some p
 lst:L[L.length - 1]? =some q
 nd: ∀i j,i<L.length->j<L.length->Lf L i=Lf L j->i=j
 free: ∀i,i+1<L.length->Qp4 x (L[i]?.getD 0) (L[i+1]?.getD 0)=true
theorem way_is{x:Nwk}{n:Nat}{p q:Int}(hp0:0<=p)(hp1:p<n)(hq0:0<=q)(hq1:q<n)(hne:wayN x n p q≠[]):isWay x n p q (wayN x n p q):=by
 have hP:wayP x n p (wayE x n p):=Qnt hp0 hp1 n;have hlen:=hP.len;obtain⟨y,hy⟩: ∃y,(wayE x n p).1[q.toNat]? =some y:=⟨_,Zad (by omega)⟩;have hy0: ¬y<0:=by
  intro h;apply hne;simp only[wayN,hy,Zag];rw[Zao h]
 have hqm:q∈(wayE x n p).2:=by
  have:=(hP.mem q.toNat y hy).1 (by omega)
  rwa [show (q.toNat:Int)=q by omega] at this
 obtain⟨i,hi⟩:=ZaP.1 hqm;obtain⟨d,hd1,hd2,hd3⟩:=Qq3 hP hi;have hil:=(Zai.1 hi).1;have hle:=Qr3 hP;have hst:Qpv (wayE x n p).1 p q n=d:=Qqr (by omega) hd2 hd3;have hW:wayN x n p q=(Qhr (wayE x n p).1 q d).reverse:=by
  simp only[wayN,hy,Zag];rw[Zaj hy0,hst]
 rw[hW];have hbl:(Qhr (wayE x n p).1 q d).length=d+1:=by simp[Qhr]
 have hget: ∀k,k<=d->(Qhr (wayE x n p).1 q d).reverse[k]? =some (Qcg (wayE x n p).1 q (d - k)):=by
  intro k hk;rw[ZeW (by rw[hbl];omega),hbl,show d+1 - 1 - k=d - k by omega,Qhr,ZaN,ZbF (by omega)];rfl
 have hpos: ∀k,k<=d-> ∃j,j+k<=i/\(wayE x n p).2[j]? =some (Qcg (wayE x n p).1 q k):=fun k hk=>Qkm hP hi k (fun j hj=>hd3 j (by omega))
 have hinb: ∀k,k<=d->0<=Qcg (wayE x n p).1 q k/\Qcg (wayE x n p).1 q k<n:=by
  intro k hk;obtain⟨j,_,h2⟩:=hpos k hk;exact hP.q _ (Zaf h2)
 have hfall: ∀k,k<=d-> ∀e,e<=k-> ∀j j',(wayE x n p).2[j]? =some (Qcg (wayE x n p).1 q k)->(wayE x n p).2[j']? =some (Qcg (wayE x n p).1 q e)->j+(k - e)<=j':=by
  intro k hk e he j j' hj hj';have key: ∀m,e+m<=d-> ∃j2,j2+m<=j'/\(wayE x n p).2[j2]? =some (Qcg (wayE x n p).1 q (e+m)):=by
   intro m;induction m with
   |zero=>intro _;exact⟨j',by omega,hj'⟩
   |succ m ih=>
    intro hm;obtain⟨j2,g1,g2⟩:=ih (by omega);have h0:0<j2:=by
     rcases Zdg j2 with h0|h0
     .subst h0;rw[hP.hd] at g2;exact absurd (Zac g2).symm (hd3 _ (by omega))
     .exact h0
    obtain⟨j3,u,q1,q2,q3,q4⟩:=hP.prev j2 _ g2 h0;refine⟨j3,by omega,?_⟩;rw[show e+(m+1)=e+m+1 by omega,Qcg,q3,Zag];exact q2
  obtain⟨j2,g1,g2⟩:=key (k - e) (by omega);rw[show e+(k - e)=k by omega] at g2
  have:=(List.getElem?_inj (Zai.1 hj).1 hP.nd).1 (hj.trans g2.symm)
  omega
 have hsep: ∀k e,k<=d->e<k->Qcg (wayE x n p).1 q k≠Qcg (wayE x n p).1 q e:=by
  intro k e hk he heq;obtain⟨j,_,h2⟩:=hpos k hk
  have:=hfall k hk e (by omega) j j h2 (heq▸h2)
  omega
 have hbg: ∀k,k<=d->(Qhr (wayE x n p).1 q d).reverse[k]?.getD 0=Qcg (wayE x n p).1 q (d - k):=fun k hk=>by rw[hget k hk,Zag]
 refine⟨by rw[ZcZ,hbl];omega,fun z hz=> ?_,?_,?_,fun k e hk he hL=> ?_,fun k hk=> ?_⟩
 .obtain⟨k,hk⟩:=ZaP.1 hz;have hkl:=(Zai.1 hk).1;rw[ZcZ,hbl] at hkl;rw[hget k (by omega)] at hk;obtain rfl:=Zac hk;exact hinb _ (by omega)
 .rw[hget 0 (by omega),ZdJ,hd2]
 .rw[ZcZ,hbl,hget (d+1 - 1) (by omega),show d - (d+1 - 1)=0 by omega];rfl
 .rw[ZcZ,hbl] at hk he;simp only[Lf] at hL;rw[hbg k (by omega),hbg e (by omega)] at hL;have b1:=hinb (d - k) (by omega);have b2:=hinb (d - e) (by omega);have hL2:Qcg (wayE x n p).1 q (d - k)=Qcg (wayE x n p).1 q (d - e):=by omega
  rcases Zdu (d - k) (d - e) with h|h|h
  .exact absurd hL2.symm (hsep _ _ (by omega) h)
  .omega
  .exact absurd hL2 (hsep _ _ (by omega) h)
 .rw[ZcZ,hbl] at hk;rw[hbg k (by omega),hbg (k+1) (by omega),show d - k=d - (k+1)+1 by omega];exact (back_free hP hi (fun j hj=>hd3 j (by omega))).1
def Qeq(n:Nat)(p q:Int):Nat->Nwk->Int
 |0,_=>0
 |m+1,x=>if wayN x n p q=[] then 0 else Qeq n p q m (Qgo x (wayN x n p q) ((wayN x n p q).length - 1))+1
def rmF(x:Nwk)(a b:Nat):Int:=Qf4 x.Room a b
def flF(x:Nwk)(a b:Nat):Int:=Qf4 x.Flow a b
theorem Qun{x:Nwk}{n:Nat}(h:Qjx x n){p q:Int}(hp0:0<=p)(hp1:p<n)(hpq:p≠q)(hq0:0<=q){v:Int}(hf:Qh5 (rmF x) (flF x) n p.toNat q.toNat v){L:List Int}(hL:isWay x n p q L):
 Qjx (Qgo x L (L.length - 1)) n/\Qh5 (rmF x) (flF (Qgo x L (L.length - 1))) n p.toNat q.toNat (v+1):=by
 have hpos:=hL.pos;have hlf: ∀i,i<L.length->(L[i]?.getD 0).toNat=Lf L i/\Lf L i<n:=by
  intro i hi;refine⟨rfl,?_⟩;simp only[Lf];rw[Zad hi,Zag]
  have:=hL.inb _ (Zcf hi)
  omega
 refine⟨Qm6 h hL.inb _ (by omega),flow_push (m:=L.length - 1) (L:=Lf L) hf (fun i j hi hj=>hL.nd i j (by omega) (by omega)) (fun i hi=>(hlf i (by omega)).2) ?_ ?_ (by omega) (by omega) (fun i hi=> ?_) (fun a b _ _=>Qso h hL.inb a b _ (by omega))⟩
 .simp only[Lf,hL.hd,Zag]
 .simp only[Lf,hL.lst,Zag]
 .exact of_decide_eq_true (hL.free i (by omega))
theorem Qaa3{n:Nat}{p q:Int}(hp0:0<=p)(hp1:p<n)(hpq:p≠q)(hq0:0<=q)(hq1:q<n): ∀(m:Nat) (x:Nwk) (v:Int),Qjx x n->Qh5 (rmF x) (flF x) n p.toNat q.toNat v->
 (Qeq n p q m x=m/\ ∀S:Nat->Bool,S p.toNat=true->S q.toNat=false->v+m<=cutF (rmF x) n S)\/(Qeq n p q m x<m/\ ∃S:Nat->Bool,S p.toNat=true/\S q.toNat=false/\cutF (rmF x) n S=v+Qeq n p q m x)
 |0,x,v,h,hf=> .inl ⟨rfl,fun S h1 h2=>by have:=Qw8 hf (by omega) h1 h2;simpa using this⟩
 |m+1,x,v,h,hf=>by
  by_cases hw:wayN x n p q=[]
  .refine .inr ?_;have e:Qeq n p q (m+1) x=0:=by simp only[Qeq];rw[Zao hw]
   rw[e];refine⟨by omega,fun u=>decide (0<=(wayE x n p).1[u]?.getD (-1)),?_,?_,?_⟩
   .have:=(Qnt (x:=x) hp0 hp1 n).pp
    simp only[wayE,this,Zag,Zar];exact hp0
   .have hlen:=(Qnt (x:=x) hp0 hp1 n).len;obtain⟨y,hy⟩: ∃y,(wayE x n p).1[q.toNat]? =some y:=⟨_,Zad (by simp only[wayE];omega)⟩;simp only[hy,Zag,Zbb];intro h0;simp only[wayN,hy,Zag] at hw;rw[Zaj (by omega)] at hw;simp[Qhr] at hw
   .have:=Qxp (S:=fun u=>decide (0<=(wayE x n p).1[u]?.getD (-1))) hf (by omega) ?_ ?_ ?_
    .omega
    .have:=(Qnt (x:=x) hp0 hp1 n).pp
     simp only[wayE,this,Zag,Zar];exact hp0
    .have hlen:=(Qnt (x:=x) hp0 hp1 n).len;obtain⟨y,hy⟩: ∃y,(wayE x n p).1[q.toNat]? =some y:=⟨_,Zad (by simp only[wayE];omega)⟩;simp only[hy,Zag,Zbb];intro h0;simp only[wayN,hy,Zag] at hw;rw[Zaj (by omega)] at hw;simp[Qhr] at hw
    .intro u w hu hw' h1 h2;simp only[Zar,Zbb] at h1 h2;have hlen:=(Qnt (x:=x) hp0 hp1 n).len;obtain⟨y,hy⟩: ∃y,(wayE x n p).1[u]? =some y:=⟨_,Zad (by simp only[wayE];omega)⟩;rw[hy,Zag] at h1;by_cases hfr:Qp4 x u w=true
     .obtain⟨z,g1,g2⟩:=Qww x hp0 hp1 hy h1 hw' hfr;rw[g1,Zag] at h2;omega
     .have h3: ¬(Qzr x u w<Qyw x u w):=fun h=>hfr (ZeG h)
      rw[flowAt_eq,roomAt_eq,Zam,Zam] at h3;simp only[rmF,flF];omega
  .have hW:=way_is hp0 hp1 hq0 hq1 hw;obtain⟨g1,g2⟩:=Qun h hp0 hp1 hpq hq0 hf hW;have hrm:rmF (Qgo x (wayN x n p q) ((wayN x n p q).length - 1))=rmF x:=by funext a b;simp only[rmF,Ql3]
   rw[<-hrm] at g2;have ih:=Qaa3 hp0 hp1 hpq hq0 hq1 m _ _ g1 g2;rw[hrm] at ih;have e:Qeq n p q (m+1) x=Qeq n p q m (Qgo x (wayN x n p q) ((wayN x n p q).length - 1))+1:=by simp only[Qeq];rw[Zaj hw]
   rw[e];rcases ih with ⟨h1,h2⟩|⟨h1,S,h2,h3,h4⟩
   .exact .inl ⟨by omega,fun S hS hT=>by have:=h2 S hS hT;omega⟩
   .exact .inr ⟨by omega,S,h2,h3,by omega⟩
def netZ(n:Nat):Nwk:=⟨List.replicate n (List.replicate n 0),List.replicate n (List.replicate n 0)⟩
def addB(x:Nwk)(b:Bond):Nwk:=⟨Qft (Qft x.Room b.A b.B b.Strength) b.B b.A b.Strength,x.Flow⟩
def netK(n:Nat)(bs:List Bond):Nat->Nwk
 |0=>netZ n
 |k+1=>match bs[k]? with
  |some b=>addB (netK n bs k) b
  |none=>netK n bs k
def netF(n:Nat)(bs:List Bond):Nwk:=netK n bs bs.length
theorem Qhc{n:Nat}{bs:List Bond}(hb:Qdm n bs): ∀k,Qjx (netK n bs k) n/\(netK n bs k).Flow=List.replicate n (List.replicate n 0)
 |0=>⟨⟨by simp[netK,netZ],by simp[netK,netZ],fun l hl=>by rw[Zbw hl];simp,fun l hl=>by rw[Zbw hl];simp⟩,rfl⟩
 |k+1=>by
  obtain⟨ih,ih2⟩:=Qhc hb k;simp only[netK];split
  .rename_i b hbk;obtain⟨b1,b2,b3,b4⟩:=hb b (Zaf hbk);refine⟨⟨by simp only[addB,Qdl];exact ih.r,ih.f,?_,ih.ff⟩,ih2⟩;exact Qcw (Qcw ih.rr _ _ _ (by rw[ih.r];omega)) _ _ _ (by rw[Qdl,ih.r];omega)
  .exact⟨ih,ih2⟩
def cutW(S:Nat->Bool):List Bond->Int
 |[]=>0
 |b::r=>(if S b.A.toNat=S b.B.toNat then 0 else b.Strength)+cutW S r
theorem Qaat(S:Nat->Bool): ∀(a b:List Bond),cutW S (a++b)=cutW S a+cutW S b
 |[],b=>by simp[cutW]
 |x::r,b=>by simp only[ZaA,cutW,Qaat S r b];omega
theorem sum_two(n u v:Nat)(hu:u<n)(hv:v<n)(c:Int)(g:Nat->Nat->Bool):sumN (fun a=>sumN (fun b=>if g a b=true then (if a=u/\b=v then c else 0) else 0) n) n=if g u v=true then c else 0:=by
 have h1:sumN (fun a=>sumN (fun b=>if g a b=true then (if a=u/\b=v then c else 0) else 0) n) n=sumN (fun a=>if a=u then (if g u v=true then c else 0) else 0) n:=by
  refine Qa4 fun a _=> ?_
  by_cases ha:a=u
  .subst ha;rw[Zao rfl];have h2:sumN (fun b=>if g a b=true then (if a=a/\b=v then c else 0) else 0) n=sumN (fun b=>if b=v then (if g a v=true then c else 0) else 0) n:=by
    refine Qa4 fun b _=> ?_
    by_cases hb:b=v
    .subst hb;simp
    .simp[hb]
   rw[h2,Qeo,Zao hv]
  .rw[Zaj ha];refine (Qa4 fun b _=> ?_).trans (Qc1 n);simp[ha]
 rw[h1,Qeo,Zao hu]
theorem Qnz{l:List (List Int)}{n:Nat}(hl:l.length=n)(h: ∀r∈l,r.length=n){u v:Nat}(d:Int)(hu:u<n)(hv:v<n)(S:Nat->Bool):
 cutF (fun a b=>Qf4 (Qft l u v d) a b) n S=cutF (fun a b=>Qf4 l a b) n S+if S u=true/\S v=false then d else 0:=by
 have h1:sumN (fun a=>sumN (fun b=>if (S a && !S b)=true then (if a=u/\b=v then d else 0) else 0) n) n=if (S u && !S v)=true then d else 0:=sum_two n u v hu hv d (fun a b=>S a && !S b)
 have h2:(if (S u && !S v)=true then d else 0)=if S u=true/\S v=false then d else 0:=by
  cases S u<;>cases S v<;>simp
 rw[h2] at h1;rw[<-h1,cutF,cutF,<-Qdo];refine Qa4 fun a _=> ?_
 rw[<-Qdo];refine Qa4 fun b _=> ?_
 rw[Qe2 hl h d hu hv a b];cases S a<;>cases S b<;>simp
theorem cut_net{n:Nat}{bs:List Bond}(hb:Qdm n bs)(S:Nat->Bool): ∀k,k<=bs.length->cutF (rmF (netK n bs k)) n S=cutW S (bs.take k)
 |0,_=>by
  simp only[Zbk,cutW,cutF];refine (Qa4 fun u hu=> ?_).trans (Qc1 n);refine (Qa4 fun w hw=> ?_).trans (Qc1 n)
  have:rmF (netK n bs 0) u w=0:=by
   simp only[rmF,netK,netZ,Qf4];rw[Zbx,Zao hu,Zag,Zbx,Zao hw,Zag]
  rw[this];split<;>rfl
 |k+1,hk=>by
  obtain⟨b,hbk⟩: ∃b,bs[k]? =some b:=⟨_,Zad hk⟩;have ih:=cut_net hb S k (by omega);obtain⟨hok,_⟩:=Qhc hb k;obtain⟨b1,b2,b3,b4⟩:=hb b (Zaf hbk);have e:bs.take (k+1)=bs.take k++[b]:=by rw[ZbO,hbk];rfl
  rw[e,Qaat,<-ih];have e1:rmF (netK n bs (k+1))=fun x y=>Qf4 (Qft (Qft (netK n bs k).Room (b.A.toNat:Int) (b.B.toNat:Int) b.Strength) (b.B.toNat:Int) (b.A.toNat:Int) b.Strength) x y:=by
   funext x y;simp only[rmF,netK,hbk,addB];rw[show ((b.A.toNat:Nat):Int)=b.A by omega,show ((b.B.toNat:Nat):Int)=b.B by omega]
  rw[e1,Qnz (by rw[Qdl];exact hok.r) (Qcw hok.rr _ _ _ (by rw[hok.r];simp;omega)) _ (by omega) (by omega),Qnz hok.r hok.rr _ (by omega) (by omega)];simp only[cutW]
  have:cutF (fun a b=>Qf4 (netK n bs k).Room a b) n S=cutF (rmF (netK n bs k)) n S:=rfl
  rw[this];cases S b.A.toNat<;>cases S b.B.toNat<;>simp<;>omega
theorem cut_netF{n:Nat}{bs:List Bond}(hb:Qdm n bs)(S:Nat->Bool):cutF (rmF (netF n bs)) n S=cutW S bs:=by
 rw[netF,cut_net hb S _ (Zap _),ZbP]
theorem Qpz{n:Nat}{bs:List Bond}(hb:Qdm n bs)(hs:Qmw bs)(a b:Nat): ∀k,0<=rmF (netK n bs k) a b
 |0=>by
  simp only[rmF,netK,netZ,Qf4,Zbx];split
  .rw[Zag,Zbx];split<;>simp
  .simp
 |k+1=>by
  have ih:=Qpz hb hs a b k;obtain⟨hok,_⟩:=Qhc hb k;simp only[rmF,netK] at ih⊢;split
  .rename_i x hx;obtain⟨b1,b2,b3,b4⟩:=hb x (Zaf hx);have h0:=(hs x (Zaf hx)).1;simp only[addB];rw[show x.A=(x.A.toNat:Int) by omega,show x.B=(x.B.toNat:Int) by omega];rw[Qe2 (n:=n) (by rw[Qdl];exact hok.r) (Qcw hok.rr _ _ _ (by rw[hok.r];simp;omega)) _ (by omega) (by omega),Qe2 hok.r hok.rr _ (by omega) (by omega)]
   split<;>split<;>omega
  .exact ih
theorem Qaae{n:Nat}{bs:List Bond}(hb:Qdm n bs)(hs:Qmw bs)(p q:Nat):Qh5 (rmF (netF n bs)) (flF (netF n bs)) n p q 0:=by
 have hz: ∀a b,flF (netF n bs) a b=0:=by
  intro a b;simp only[flF,netF,(Qhc hb bs.length).2,Qf4,Zbx];split
  .rw[Zag,Zbx];split<;>simp
  .simp
 refine⟨fun u w _ _=>by rw[hz,hz];rfl,fun u w _ _=> ?_,fun u _ _ _=>(Qa4 fun i _=>hz u i).trans (Qc1 n),(Qa4 fun i _=>hz p i).trans (Qc1 n)⟩;rw[hz];exact Qpz hb hs u w bs.length
def Qka(n:Nat)(bs:List Bond)(t:Int)(k:Nat):Prop:= ∀S:Nat->Bool,S 0=true->(∃y,0<y/\y<=k/\y<n/\S y=false)->t<=cutW S bs
def Qid(n:Nat)(bs:List Bond)(t:Int):Nat->Bool
 |0=>true
 |k+1=>Qid n bs t k && decide (t<=Qeq n 0 ((k:Int)+1) t.toNat (netF n bs))
theorem Qtt{n:Nat}{bs:List Bond}(hb:Qdm n bs)(hs:Qmw bs){t:Int}(ht:0<=t): ∀k,k<n->(Qid n bs t k=true↔Qka n bs t k)
 |0,_=>by
  simp only[Qid,true_iff];rintro S _ ⟨y,h1,h2,_⟩;omega
 |k+1,hk=>by
  have ih:=Qtt hb hs ht k (by omega);have hl:=Qaa3 (n:=n) (p:=0) (q:=(k:Int)+1) (by omega) (by omega) (by omega) (by omega) (by omega) t.toNat (netF n bs) 0 (Qhc hb bs.length).1 (Qaae hb hs _ _);simp only[Zfg,show ((k:Int)+1).toNat=k+1 by omega,Int.zero_add,cut_netF hb] at hl;simp only[Qid,Zah,Zar,ih];rcases hl with ⟨h1,h2⟩|⟨h1,S,h2,h3,h4⟩
  .constructor
   .rintro⟨g1,g2⟩ S hS ⟨y,y1,y2,y3,y4⟩;by_cases hy:y<=k
    .exact g1 S hS ⟨y,y1,hy,y3,y4⟩
    .have:=h2 S hS (by rw[show k+1=y by omega];exact y4)
     omega
   .intro h;exact⟨fun S hS ⟨y,y1,y2,y3,y4⟩=>h S hS ⟨y,y1,by omega,y3,y4⟩,by omega⟩
  .constructor
   .rintro⟨_,g2⟩;omega
   .intro h
    have:=h S h2 ⟨k+1,by omega,by omega,hk,h3⟩
    omega
theorem Qt7{n:Net}(hn:Qcf n)(hc:Qib n){q:Int}{st qu:List Int}(hlen:st.length=n.Cnt.toNat)(hP:bfsP n q (st,qu)){p:Int}(hp0:0<=p)(hp1:p<n.Cnt){d:Nat}(hd:st[p.toNat]? =some (d:Int))(w:Int):
 ∀k,k<=d->outQ (Qbd n st p k).1 w=outQ n w+(if p=w then 1 else 0) - (if (Qbd n st p k).2=w then 1 else 0)
 |0,_=>by simp only[Qbd];omega
 |k+1,hk=>by
  have ih:=Qt7 hn hc hlen hP hp0 hp1 hd w k (by omega);have hI:=Qi4 hn hc hlen hP hp0 hp1 hd k (by omega);obtain⟨m,r,hm,hr,hg,hst,hwc⟩:=Qk0 hn hlen hP (by omega) hI;have hr':(Qbd n st p k).1.At[m]? =some r:=by rw[hI.at_];exact hr
  have e:(Qbd n st p (k+1)).1=Qhp (Qbd n st p k).1 m (Qf5 (Qbd n st p k).1 st m).2:=by simp only[Qbd,hm]
  have e2:(Qbd n st p (k+1)).2=(Qf5 (Qbd n st p k).1 st m).1:=by simp only[Qbd,hm]
  rw[e,e2,Qzc hI.ok hr' hg.1,hg.2.2.1,ih,hm];have hwl:=hg.2.2.2.1;rw[Zam,hst,Zag] at hwl;have hne:(m:Int)≠(Qf5 (Qbd n st p k).1 st m).1:=by
   intro he;rw[<-he,Zam,hst,Zag] at hwl;omega
  obtain⟨z,hz⟩: ∃z,z=(Qf5 (Qbd n st p k).1 st m).1:=⟨_,rfl⟩;rw[<-hz] at hne⊢;by_cases c1:p=w<;>by_cases c2:(m:Int)=w<;>by_cases c3:z=w<;>simp only[c1,c2,c3,ZaQ,Zby]<;>omega
def Qabr(n:Net)(p q:Int):Prop:= ∀w,w≠p->w≠q->outQ n w=0
theorem grow_cons{n:Net}(hn:Qcf n)(hc:Qib n){p q:Int}(hp0:0<=p)(hp1:p<n.Cnt)(hq0:0<=q)(hq1:q<n.Cnt)(hg:(Qd6 n p q).2=true)(hco:Qabr n p q):Qabr (Qd6 n p q).1 p q:=by
 have hlen:=Qgs hn hq0 hq1;have hP:bfsP n q (Qcb n q,(Qbu n q n.Cnt.toNat).2):=Qabw hn hq0 hq1 n.Cnt.toNat;obtain⟨x,hx⟩: ∃x,(Qcb n q)[p.toNat]? =some x:=⟨_,Zad (by omega)⟩;intro w h1 h2;simp only[Qd6,hx,Zag] at hg⊢;by_cases h:x<0
 .rw[Zao h] at hg;simp at hg
 .obtain⟨d,rfl⟩: ∃d:Nat,x=d:=⟨x.toNat,by omega⟩;rw[Zaj h,Zam];have hI:=Qi4 hn hc hlen hP hp0 hp1 hx d (Zap _);obtain⟨m,hm,hmc,hst⟩:=hI.v;have hmq:m=q.toNat:=hP.uniq m (by rw[hst];congr 1;omega);have ho:=Qt7 hn hc hlen hP hp0 hp1 hx w d (Zap _);rw[Zaj (Zcz h1),hm,Zaj (by omega),hco w h1 h2] at ho;simpa using ho
theorem Que{p q:Int}(hp0:0<=p)(hq0:0<=q)(hpq:p≠q): ∀(m:Nat) (n:Net),Qcf n->Qib n->p<n.Cnt->q<n.Cnt->Qabr n p q->Qcf (Qfj p q m n).1/\Qib (Qfj p q m n).1/\(Qfj p q m n).1.Cnt=n.Cnt/\(Qfj p q m n).1.Bonds=n.Bonds/\
 (Qfj p q m n).1.At=n.At/\Qabr (Qfj p q m n).1 p q/\outQ (Qfj p q m n).1 p=outQ n p+(Qfj p q m n).2/\0<=(Qfj p q m n).2/\((Qfj p q m n).2=m\/(Qd6 (Qfj p q m n).1 p q).2=false)
 |0,n,h1,h2,_,_,h5=>⟨h1,h2,rfl,rfl,rfl,h5,by simp[Qfj],by simp[Qfj],.inl (by simp[Qfj])⟩
 |m+1,n,h1,h2,h3,h4,h5=>by
  simp only[Qfj];by_cases hg:(Qd6 n p q).2=true
  .rw[Zao hg];obtain⟨g1,g2,g3,g4,g5,g6⟩:=grow_ok h1 h2 hp0 h3 hq0 h4 hpq hg;have g7:=grow_cons h1 h2 hp0 h3 hq0 h4 hg h5;obtain⟨k1,k2,k3,k4,k5,k6,k7,k8,k9⟩:=Que hp0 hq0 hpq m _ g1 g2 (by omega) (by omega) g7;refine⟨k1,k2,k3.trans g3,k4.trans g4,k5.trans g5,k6,by simp only;omega,by simp only;omega,?_⟩;rcases k9 with h|h
   .exact .inl (by simp only;omega)
   .exact .inr h
  .rw[Zaj hg];exact⟨h1,h2,rfl,rfl,rfl,h5,by simp,by simp,.inr (by simpa using hg)⟩
theorem Qu0{n:Int}{bs:List Bond}(h:Qhu (n,bs))(hs:Qmw bs){p q:Int}(hp0:0<=p)(hq0:0<=q)(hp1:p<n)(hq1:q<n)(hpq:p≠q):Qcf (Qcz n bs p q).1/\Qib (Qcz n bs p q).1/\(Qcz n bs p q).1.Cnt=n/\(Qcz n bs p q).1.Bonds=bs/\
 (Qcz n bs p q).1.At=(newN n bs).At/\Qabr (Qcz n bs p q).1 p q/\outQ (Qcz n bs p q).1 p=(Qcz n bs p q).2/\0<=(Qcz n bs p q).2/\(Qd6 (Qcz n bs p q).1 p q).2=false:=by
 obtain⟨h1,h2⟩:=newN_ok h hs;obtain⟨k1,k2,k3,k4,k5,k6,k7,k8,k9⟩:=Que hp0 hq0 hpq ((bs.map Bond.Strength).sum.toNat+1) (newN n bs) h1 h2 hp1 hq1 (fun w _ _=>Qtg w);rw[Qtg,Int.zero_add] at k7;refine⟨k1,k2,k3,k4,k5,k6,k7,k8,?_⟩;rcases k9 with h9|h9
 .exfalso;have h4:(Qfj p q ((bs.map Bond.Strength).sum.toNat+1) (newN n bs)).1.Bonds=bs:=k4
  have:=out_le k1 k2 p
  rw[h4] at this;omega
 .exact h9
theorem Qaau{n:Net}(hn:Qcf n){v:Nat}{r:List Int}(hr:n.At[v]? =some r){y:Int}(hy0:0<=y): ∀(l:List Int) (s:List Int×List Int),(∀i∈l,i∈r)->Qkd n s->s.1[v]? =some y-> ∀i∈l,0<(Qb9 n (Qbg n v i) i).1-> ∃z,(l.foldl (bfs1 n v) s).1[(Qbg n v i).toNat]? =some z/\0<=z
 |[],s,_,_,_,i,hi,_=>by cases hi
 |j::l,s,hl,hs,hv,i,hi,hro=>by
  have hj:=hl j (Zat ..);rcases Zaw.1 hi with rfl|hi
  .obtain⟨_,_,o1,o2⟩:=Qhm hn hr hj;obtain⟨z,hz⟩: ∃z,s.1[(Qbg n v i).toNat]? =some z:=⟨_,Zad (by rw[hs.len];omega)⟩;have key: ∃z,(bfs1 n v s i).1[(Qbg n v i).toNat]? =some z/\0<=z:=by
    by_cases h0:0<=z
    .exact⟨z,Qh0 n v s i _ z hz h0,h0⟩
    .refine⟨y+1,?_,by omega⟩;simp only[bfs1];rw[Zao ⟨by rw[hz,Zag];omega,hro⟩,Zam,hv,Zag];exact ZaD (by rw[hs.len];omega)
   obtain⟨z',g1,g2⟩:=key;exact⟨z',Qor n v _ z' g2 l _ g1,g2⟩
  .exact Qaau hn hr hy0 l _ (fun j hj=>hl j (Zas _ hj)) (Qtm hn hr hj hs) (Qh0 n v s j v y hv hy0) i hi hro
theorem Qzj(n:Net)(v:Int): ∀(l:List Int) (s:List Int×List Int),∃e,(l.foldl (bfs1 n v) s).2=s.2++e
 |[],s=>⟨[],by simp⟩
 |i::l,s=>by
  obtain⟨e,he⟩:=Qzj n v l (bfs1 n v s i);simp only[Zco,he];simp only[bfs1];split
  .exact⟨[Qbg n v i]++e,by simp⟩
  .exact⟨e,rfl⟩
theorem bfs_ext(n:Net)(q:Int)(k:Nat): ∃e,(Qbu n q (k+1)).2=(Qbu n q k).2++e:=by
 rw[Qbu];split
 .exact⟨[],by simp⟩
 .exact Qzj n _ _ _
theorem bfs_keep1(n:Net)(q:Int)(u:Nat)(y:Int)(h0:0<=y)(k:Nat)(h:(Qbu n q k).1[u]? =some y):(Qbu n q (k+1)).1[u]? =some y:=by
 rw[Qbu];split
 .exact h
 .exact Qor n _ u y h0 _ _ h
theorem Qzn{n:Net}(hn:Qcf n){q:Int}(h0:0<=q)(h1:q<n.Cnt): ∀(k j:Nat) (v:Int),j<k->(Qbu n q k).2[j]? =some v-> ∀(r:List Int),n.At[v.toNat]? =some r-> ∀i∈r,0<(Qb9 n (Qbg n v i) i).1-> ∃z,(Qbu n q k).1[(Qbg n v i).toNat]? =some z/\0<=z
 |0,j,v,hj,_,_,_,_,_,_=>by omega
 |k+1,j,v,hj,hv,r,hr,i,hi,hro=>by
  obtain⟨e,he⟩:=bfs_ext n q k;by_cases hjl:j<(Qbu n q k).2.length
  .rw[he,Zav hjl] at hv;by_cases hjk:j<k
   .obtain⟨z,g1,g2⟩:=Qzn hn h0 h1 k j v hjk hv r hr i hi hro;exact⟨z,bfs_keep1 n q _ z g2 k g1,g2⟩
   .have:j=k:=by omega
    subst this;have hI:=Qg5 hn h0 h1 j;have hPk:=Qabw hn h0 h1 j;have hvq:=hI.q v (Zaf hv);obtain⟨m,rfl⟩: ∃m:Nat,v=m:=⟨v.toNat,by omega⟩;obtain⟨y,hy,hy0⟩:=hPk.qs _ (Zaf hv);rw[Zam] at hy hr;rw[Qbu,hv];simp only[Zam,hr,Zag];exact Qaau hn hr hy0 r _ (fun _ h=>h) hI hy i hi hro
  .have e1:Qbu n q (k+1)=Qbu n q k:=by rw[Qbu,ZaY (by omega)]
   rw[e1] at hv
   have:=(Zai.1 hv).1
   omega
theorem bfs_in{n:Net}(hn:Qcf n){q:Int}(h0:0<=q)(h1:q<n.Cnt): ∀(k u:Nat) (y:Int),(Qbu n q k).1[u]? =some y->0<=y->(u:Int)∈(Qbu n q k).2
 |0,u,y,hu,hy=>by
  have hq:q.toNat<n.Cnt.toNat:=by omega
  simp only[Qbu] at hu⊢;by_cases h:q.toNat=u
  .rw[Zal];omega
  .rw[ZaF h] at hu
   have:=Zbw (Zaf hu)
   omega
 |k+1,u,y,hu,hy=>by
  have ih:=bfs_in hn h0 h1 k;have hI:=Qg5 hn h0 h1 k;have hone: ∀(v:Int) (l:List Int) (s:List Int×List Int),(∀i∈l,0<=Qbg n v i)->(∀(u:Nat) (y:Int),s.1[u]? =some y->0<=y->(u:Int)∈s.2)-> ∀(u:Nat) (y:Int),(l.foldl (bfs1 n v) s).1[u]? =some y->0<=y->(u:Int)∈(l.foldl (bfs1 n v) s).2:=by
   intro v l;induction l with
   |nil=>intro s _ hs;exact hs
   |cons i l ihl=>
    intro s hl hs;refine ihl _ (fun j hj=>hl j (Zas _ hj)) ?_;intro u y hu hy;have ho:=hl i (Zat ..);simp only[bfs1] at hu⊢;split at hu
    .rename_i hc;rw[Zao hc];simp only[Zan,Zal] at hu⊢;by_cases he:(Qbg n v i).toNat=u
     .right;omega
     .rw[ZaF he] at hu;exact .inl (hs u y hu hy)
    .rename_i hc;rw[Zaj hc];exact hs u y hu hy
  rw[Qbu] at hu⊢;split at hu
  .exact ih u y hu hy
  .rename_i v hv;have hvq:=hI.q v (Zaf hv);obtain⟨m,rfl⟩: ∃m:Nat,v=m:=⟨v.toNat,by omega⟩;obtain⟨r,hr⟩: ∃r,n.At[m]? =some r:=⟨_,Zad (by have:=hn.al;omega)⟩;simp only[Zam,hr,Zag] at hu⊢;exact hone m r _ (fun i hi=>(Qhm hn hr hi).2.2.1) ih u y hu hy
theorem Qmo{n:Net}(hn:Qcf n){q:Int}(h0:0<=q)(h1:q<n.Cnt){v:Nat}{y:Int}(hv:(Qcb n q)[v]? =some y)(hy:0<=y){r:List Int}(hr:n.At[v]? =some r){i:Int}(hi:i∈r)(hro:0<(Qb9 n (Qbg n v i) i).1):
 ∃z,(Qcb n q)[(Qbg n v i).toNat]? =some z/\0<=z:=by
 have hm:=bfs_in hn h0 h1 n.Cnt.toNat v y hv hy;obtain⟨j,hj⟩:=ZaP.1 hm;have hjl:=(Zai.1 hj).1;have hle:=Qkx hn.c0 (Qg5 hn h0 h1 n.Cnt.toNat);exact Qzn hn h0 h1 n.Cnt.toNat j v (by omega) hj r (by rwa [Zam]) i hi hro
def outS(n:Net)(S:Nat->Bool):Int:=(List.zipWith (fun b f=>(if S b.A.toNat=true then f else 0) - (if S b.B.toNat=true then f else 0)) n.Bonds n.Flow).sum
theorem Qaay(S:Nat->Bool)(m:Nat): ∀(bs:List Bond) (fs:List Int),(∀b∈bs,0<=b.A/\b.A<m/\0<=b.B/\b.B<m/\b.A≠b.B)->
 sumN (fun v=>if S v=true then (List.zipWith (ctr (v:Int)) bs fs).sum else 0) m=(List.zipWith (fun b f=>(if S b.A.toNat=true then f else 0) - (if S b.B.toNat=true then f else 0)) bs fs).sum
 |[],fs,_=>by
  simp only[List.zipWith_nil_left,Zfa];refine (Qa4 fun i _=> ?_).trans (Qc1 m)
  split<;>rfl
 |b::bs,[],_=>by
  simp only[ZdS,Zfa];refine (Qa4 fun i _=> ?_).trans (Qc1 m)
  split<;>rfl
 |b::bs,f::fs,h=>by
  have ih:=Qaay S m bs fs (fun x hx=>h x (Zas _ hx));obtain⟨b1,b2,b3,b4,b5⟩:=h b (Zat ..);simp only[Zcu,Zdf];rw[<-ih];have e:sumN (fun v=>if S v=true then ctr (v:Int) b f+(List.zipWith (ctr (v:Int)) bs fs).sum else 0) m=
   (sumN (fun v=>if v=b.A.toNat then (if S b.A.toNat=true then f else 0) else 0) m+ - sumN (fun v=>if v=b.B.toNat then (if S b.B.toNat=true then f else 0) else 0) m)+sumN (fun v=>if S v=true then (List.zipWith (ctr (v:Int)) bs fs).sum else 0) m:=by
   rw[<-Qk3,<-Qdo,<-Qdo];refine Qa4 fun v _=> ?_
   simp only[ctr];by_cases c1:v=b.A.toNat
   .have c2: ¬v=b.B.toNat:=by omega
    rw[Zao (show b.A=(v:Int) by omega),Zao c1,Zaj c2,<-c1];cases S v<;>simp
   .rw[Zaj (show ¬b.A=(v:Int) by omega),Zaj c1];by_cases c2:v=b.B.toNat
    .rw[Zao (show b.B=(v:Int) by omega),Zao c2,<-c2];cases S v<;>simp
    .rw[Zaj (show ¬b.B=(v:Int) by omega),Zaj c2];cases S v<;>simp
  rw[e,Qeo,Qeo,Zao (show b.A.toNat<m by omega),Zao (show b.B.toNat<m by omega)];omega
theorem out_val{n:Net}(hn:Qcf n){p q:Int}(hp0:0<=p)(hp1:p<n.Cnt)(hco:Qabr n p q){S:Nat->Bool}(hS:S p.toNat=true)(hT:S q.toNat=false)(hq0:0<=q):outS n S=outQ n p:=by
 have h1:=Qaay S n.Cnt.toNat n.Bonds n.Flow (fun b hb=>by
  have:=hn.bs b hb
  have:=hn.ne b hb
  omega)
 rw[outS,<-h1];have h2:sumN (fun v=>if S v=true then (List.zipWith (ctr (v:Int)) n.Bonds n.Flow).sum else 0) n.Cnt.toNat=sumN (fun v=>if v=p.toNat then outQ n p else 0) n.Cnt.toNat:=by
  refine Qa4 fun v hv=> ?_
  by_cases hvp:v=p.toNat
  .subst hvp;rw[Zao rfl,Zao hS,show ((p.toNat:Nat):Int)=p by omega];rfl
  .rw[Zaj hvp];cases hSv:S v with
   |false=>rw[Zaj (by simp)]
   |true=>
    rw[Zao rfl];have hvq:v≠q.toNat:=fun he=>by rw[he,hT] at hSv;cases hSv
    exact hco v (by omega) (by omega)
 rw[h2,Qeo,Zao (by omega)]
theorem Qw5(S:Nat->Bool): ∀(bs:List Bond) (fs:List Int),(∀(i:Nat) b f,bs[i]? =some b->fs[i]? =some f-> -b.Strength<=f/\f<=b.Strength)->(∀b∈bs,0<=b.Strength)->(List.zipWith (fun b f=>(if S b.A.toNat=true then f else 0) - (if S b.B.toNat=true then f else 0)) bs fs).sum<=cutW S bs
 |[],_,_,_=>by simp[cutW]
 |x::r,[],_,hs=>by
  have h1:=Qw5 S r [] (fun i b f _ h=>by simp at h) (fun b hb=>hs b (Zas _ hb));have h2:=hs x (Zat ..);simp only[ZdS,Zfa,cutW] at h1⊢
  split<;>omega
 |x::r,y::s,hc,hs=>by
  have h1:=Qw5 S r s (fun i b f h h'=>hc (i+1) b f (by simpa using h) (by simpa using h')) (fun b hb=>hs b (Zas _ hb));have h3:=hc 0 x y rfl rfl;simp only[Zcu,Zdf,cutW];cases S x.A.toNat<;>cases S x.B.toNat<;>simp<;>omega
theorem outS_eq(S:Nat->Bool): ∀(bs:List Bond) (fs:List Int),fs.length=bs.length->(∀(i:Nat) b f,bs[i]? =some b->fs[i]? =some f->(S b.A.toNat=true->S b.B.toNat=false->f=b.Strength)/\(S b.A.toNat=false->S b.B.toNat=true->f= -b.Strength))->(List.zipWith (fun b f=>(if S b.A.toNat=true then f else 0) - (if S b.B.toNat=true then f else 0)) bs fs).sum=cutW S bs
 |[],_,_,_=>by simp[cutW]
 |x::r,[],h,_=>by simp at h
 |x::r,y::s,h,hc=>by
  have h1:=outS_eq S r s (by simpa using h) (fun i b f h h'=>hc (i+1) b f (by simpa using h) (by simpa using h'));obtain⟨h2,h3⟩:=hc 0 x y rfl rfl;simp only[Zcu,Zdf,cutW,h1];cases hA:S x.A.toNat<;>cases hB:S x.B.toNat<;>simp
  .have:=h3 hA hB;omega
  .exact h2 hA hB
theorem flow_law{n:Int}{bs:List Bond}(h:Qhu (n,bs))(hs:Qmw bs){p q:Int}(hp0:0<=p)(hq0:0<=q)(hp1:p<n)(hq1:q<n)(hpq:p≠q):
 0<=(Qcz n bs p q).2/\(∀S:Nat->Bool,S p.toNat=true->S q.toNat=false->(Qcz n bs p q).2<=cutW S bs)/\ ∃S:Nat->Bool,S p.toNat=true/\S q.toNat=false/\cutW S bs=(Qcz n bs p q).2:=by
 obtain⟨k1,k2,k3,k4,k5,k6,k7,k8,k9⟩:=Qu0 h hs hp0 hq0 hp1 hq1 hpq;obtain⟨N,hN⟩: ∃N,N=(Qcz n bs p q).1:=⟨_,rfl⟩;obtain⟨val,hval⟩: ∃val,val=(Qcz n bs p q).2:=⟨_,rfl⟩;simp only[<-hN,<-hval] at k1 k2 k3 k4 k5 k6 k7 k8 k9⊢;refine⟨k8,fun S hS hT=> ?_,?_⟩
 .have h1:=out_val k1 hp0 (by omega) k6 hS hT hq0;have h2:=Qw5 S N.Bonds N.Flow k2 (fun b hb=>(k1.st b hb).1);rw[k4] at h2;simp only[outS,k4] at h1;omega
 .have hlen:=Qgs k1 hq0 (by omega);obtain⟨x,hx⟩: ∃x,(Qcb N q)[p.toNat]? =some x:=⟨_,Zad (by omega)⟩;have hx0:x<0:=by
   simp only[Qd6,hx,Zag] at k9;by_cases h0:x<0
   .exact h0
   .rw[Zaj h0] at k9;simp at k9
  have hPz:=(Qabw k1 hq0 (show q<N.Cnt by omega) N.Cnt.toNat).zero;have hPz:(Qcb N q)[q.toNat]? =some 0:=hPz;refine⟨fun v=>decide ((Qcb N q)[v]?.getD 0<0),by simp only[hx,Zag,Zar];exact hx0,by simp[hPz],?_⟩;have hS:decide ((Qcb N q)[p.toNat]?.getD 0<0)=true:=by simp only[hx,Zag,Zar];exact hx0
  have hT:decide ((Qcb N q)[q.toNat]?.getD 0<0)=false:=by simp[hPz]
  have h1:=out_val (S:=fun v=>decide ((Qcb N q)[v]?.getD 0<0)) k1 hp0 (by omega) k6 hS hT hq0;have h2:=outS_eq (fun v=>decide ((Qcb N q)[v]?.getD 0<0)) N.Bonds N.Flow k1.fl ?_
  .simp only[outS,k4] at h1;rw[k4] at h2;omega
  .intro i b f hb hf;have hbb:=k1.bs b (Zaf hb);have hbn:=k1.ne b (Zaf hb);obtain⟨⟨rA,a1,a2⟩,⟨rB,c1,c2⟩⟩:=k1.all i b hb;have hcap:=k2 i b f hb hf;obtain⟨yA,hA⟩: ∃y,(Qcb N q)[b.A.toNat]? =some y:=⟨_,Zad (by omega)⟩;obtain⟨yB,hB⟩: ∃y,(Qcb N q)[b.B.toNat]? =some y:=⟨_,Zad (by omega)⟩;simp only[hA,hB,Zag,Zar,Zbb];refine⟨fun e1 e2=> ?_,fun e1 e2=> ?_⟩
   ·
    have ho:Qbg N b.B i=b.A:=by simp only[Qbg,Zam,hb];omega
    have hr:(Qb9 N b.A i).1=b.Strength - f:=by simp only[Qb9,Zam,hb,hf,Zag,ZaQ]
    by_cases hro:0<b.Strength - f
    .have:=Qmo k1 hq0 (by omega) (v:=b.B.toNat) hB (by omega) c1 c2 (by rw[show ((b.B.toNat:Nat):Int)=b.B by omega,ho,hr];exact hro)
     rw[show ((b.B.toNat:Nat):Int)=b.B by omega,ho,hA] at this;obtain⟨z,g1,g2⟩:=this
     have:=Zac g1
     omega
    .omega
   .have ho:Qbg N b.A i=b.B:=by simp only[Qbg,Zam,hb];omega
    have hr:(Qb9 N b.B i).1=b.Strength+f:=by simp only[Qb9,Zam,hb,hf,Zag];rw[Zaj hbn]
    by_cases hro:0<b.Strength+f
    .have:=Qmo k1 hq0 (by omega) (v:=b.A.toNat) hA (by omega) a1 a2 (by rw[show ((b.A.toNat:Nat):Int)=b.A by omega,ho,hr];exact hro)
     rw[show ((b.A.toNat:Nat):Int)=b.A by omega,ho,hB] at this;obtain⟨z,g1,g2⟩:=this
     have:=Zac g1
     omega
    .omega
def Qem(n:Int)(bs:List Bond):Nat->Int×List Int
 |0=>(-1,[])
 |k+1=>if (Qem n bs k).1<0\/befW (Qcz n bs 0 (k+1)).2 (Qw9 (Qcz n bs 0 (k+1)).1 (k+1)) (Qem n bs k).1 (Qem n bs k).2=true then ((Qcz n bs 0 (k+1)).2,Qw9 (Qcz n bs 0 (k+1)).1 (k+1)) else Qem n bs k
def weakC.fv(a:Int×(List Bond)):Int×(List Int):=(fun n bs=>Qem n bs (n - 1).toNat) (a.1) (a.2)
def weakC.row:Row:=vK (b2 qI (qS Bond.d_le Bond.c_n)) (r2 rI (rS Qb3 Qant)) (fun a=>Qhu (a.1,a.2)/\Qmw a.2/\1<=a.1) weakC.fv
def weakC.q:=vKq (R:=weakC.row) rfl
def Yaw:=J @weakC.fv.eq_1<|J @l07Before.q<|J @l07Before.fv.eq_1<|J @sideC.q @sideC.fv.eq_1
theorem weakC.ok:Qas Tryz.prog 83 weakC.row:=by
 refine vw (tC l07Before.ok (tC flC.ok (tC sideC.ok tN))) Tryz.func83 rfl (by kernel_rfl) ?_;intro a hpre;simp only[Tryz.f83,Option.getD];simp(maxSteps:=9^9)(disch:=omega)only[ZZ,simprocAttr,rch,Yaw];obtain⟨hp1,hst,hn1⟩:=hpre;have hn2:=hp1.2.1;simp only at hn2;obtain⟨n,hn⟩: ∃n:Nat,a.1=n+1:=⟨(a.1 - 1).toNat,by omega⟩;rw[show (a.1 - 1).toNat=n by omega];refine Qay.frr ⟨{k:Nat//k<=n},fun k=>⟨[(8,.im (.int .i64 ((k.1:Int)+1))),(7,.im (.sl false 1 ((Qem a.1 a.2 k.1).2.map intC))),(6,.im (.int .i64 (Qem a.1 a.2 k.1).1)),(0,.im (.int .i64 a.1)),(1,.im (.sl false 3 (a.2.map Bond.c)))],[],2⟩,fun k=>n - k.1,fun k=>⟨by simp[Qad.good,belT,belH,Qam,AV.bel,belL],by simp⟩,⟨⟨0,by simp⟩,[1],[],?_⟩,fun k=> ?_⟩
 .simp only[subP];simp(maxSteps:=9^9)(disch:=omega)only[ZZ,simprocAttr,rch,Yaw,Zab,Zaa,Qem,ZaG]
  try simp
 obtain⟨k,hk1⟩:=k;simp(maxSteps:=9^9)(disch:=omega)only[ZZ,simprocAttr,rch,Yaw,sub,Qal];refine⟨fun hk=> ?_,fun hk=> ?_⟩
 .refine orow.os (a.1,a.2,0,(k:Int)+1) [] ⟨hp1,hst,by simp,by simp only;omega,by simp only;omega,by simp only;omega,by simp only;omega⟩ (fun j=>by simp[domB,hget]) rfl rfl ?_ ?_
  .simp(maxSteps:=9^9)(disch:=omega)only[ZZ,simprocAttr,rch,Yaw,flC.ca,ZaQ]
  .simp(maxSteps:=9^9)(disch:=omega)only[ZZ,simprocAttr,rch,Yaw,flC.H1,flC.r0,sub,Qal];obtain⟨k1,k2,k3,k4,k5,_⟩:=Qu0 (p:=0) (q:=(k:Int)+1) hp1 hst (by omega) (by omega) (by omega) (by omega) (by omega);have hfold:({Cnt:=a.1,Bonds:=a.2,At:=(newN a.1 a.2).At,Flow:=(flC.net (a.1,a.2,0,(k:Int)+1)).Flow}:Net)=(Qcz a.1 a.2 0 ((k:Int)+1)).1:=by
    rw[<-k5];simp only[flC.net]
    conv=>rhs;rw[show (Qcz a.1 a.2 0 ((k:Int)+1)).1=⟨(Qcz a.1 a.2 0 ((k:Int)+1)).1.Cnt,(Qcz a.1 a.2 0 ((k:Int)+1)).1.Bonds,(Qcz a.1 a.2 0 ((k:Int)+1)).1.At,(Qcz a.1 a.2 0 ((k:Int)+1)).1.Flow⟩ from rfl]
    rw[k3,k4]
   rw[hfold];have hw:IntKind.i64.wrap ((k:Int)+1+1)=(k:Int)+1+1:=Qak (by omega) (by omega);have hb':Qem a.1 a.2 (k+1)=if (Qem a.1 a.2 k).1<0\/befW (Qcz a.1 a.2 0 ((k:Int)+1)).2 (Qw9 (Qcz a.1 a.2 0 ((k:Int)+1)).1 ((k:Int)+1)) (Qem a.1 a.2 k).1 (Qem a.1 a.2 k).2=true then ((Qcz a.1 a.2 0 ((k:Int)+1)).2,Qw9 (Qcz a.1 a.2 0 ((k:Int)+1)).1 ((k:Int)+1)) else Qem a.1 a.2 k:=rfl
   refine⟨⟨k1,by omega,by omega⟩,fun h0=>⟨fun h1=>⟨⟨k+1,by omega⟩,[],[],by simp only;omega,?_⟩,fun h1=>⟨⟨k+1,by omega⟩,[],[],by simp only;omega,?_⟩⟩,fun h0=>⟨⟨k+1,by omega⟩,[],[],by simp only;omega,?_⟩⟩
   .rw[Zao (.inr h1)] at hb';simp only[subP];simp(maxSteps:=9^9)(disch:=omega)only[ZZ,simprocAttr,rch,Yaw,Zab,Zaa,hb',hw];omega
   .rw[Zaj (fun h=>h.elim h0 h1)] at hb';simp only[subP];simp(maxSteps:=9^9)(disch:=omega)only[ZZ,simprocAttr,rch,Yaw,Zab,Zaa,hb',hw];omega
   .rw[Zao (.inl (Zbc.1 h0))] at hb';simp only[subP];simp(maxSteps:=9^9)(disch:=omega)only[ZZ,simprocAttr,rch,Yaw,Zab,Zaa,hb',hw];omega
 .have:k=n:=by omega
  rw[this]
theorem Qzk{n:Int}{bs:List Bond}(h:Qhu (n,bs))(hs:Qmw bs){t:Int}(ht:0<=t): ∀k:Nat,(k:Int)<n->(0<k->0<=(Qem n bs k).1/\(t<=(Qem n bs k).1↔Qka n.toNat bs t k))
 |0,_=>fun h0=>by omega
 |k+1,hk=>fun _=>by
  obtain⟨f1,f2,S,f3,f4,f5⟩:=flow_law h hs (p:=0) (q:=(k:Int)+1) (by omega) (by omega) (by omega) (by omega) (by omega);simp only[Zfg,show ((k:Int)+1).toNat=k+1 by omega] at f2 f3 f4;obtain⟨v,hv⟩: ∃v,v=(Qcz n bs 0 ((k:Int)+1)).2:=⟨_,rfl⟩;obtain⟨sd,hsd⟩: ∃sd,sd=Qw9 (Qcz n bs 0 ((k:Int)+1)).1 ((k:Int)+1):=⟨_,rfl⟩;have hone:t<=v↔ ∀S:Nat->Bool,S 0=true->S (k+1)=false->t<=cutW S bs:=by
   constructor
   .intro h1 S hS hT
    have:=f2 S hS hT
    omega
   .intro h1
    have:=h1 S f3 f4
    omega
  have hcut:Qka n.toNat bs t (k+1)↔Qka n.toNat bs t k/\t<=v:=by
   rw[hone];constructor
   .intro h1;exact⟨fun S hS ⟨y,y1,y2,y3,y4⟩=>h1 S hS ⟨y,y1,by omega,y3,y4⟩,fun S hS hT=>h1 S hS ⟨k+1,by omega,by omega,by omega,hT⟩⟩
   .rintro⟨h1,h2⟩ S hS ⟨y,y1,y2,y3,y4⟩;by_cases hy:y<=k
    .exact h1 S hS ⟨y,y1,hy,y3,y4⟩
    .exact h2 S hS (by rw[show k+1=y by omega];exact y4)
  rw[hcut];simp only[Qem,<-hv,<-hsd];by_cases hk0:k=0
  .subst hk0;rw[Zao (.inl (by simp[Qem]))];refine⟨by simp only;omega,?_⟩;simp only;constructor
   .intro h1;exact⟨fun S _ ⟨y,y1,y2,_,_⟩=>by omega,h1⟩
   .exact fun h1=>h1.2
  .obtain⟨i1,i2⟩:=Qzk h hs ht k (by omega) (by omega);rw[<-i2];by_cases hc:(Qem n bs k).1<0\/befW v sd (Qem n bs k).1 (Qem n bs k).2=true
   .rw[Zao hc];have hle:v<=(Qem n bs k).1:=by
     rcases hc with hc|hc
     .omega
     .simp only[befW] at hc;split at hc
      .omega
      .simp only[Zar] at hc;omega
    simp only;exact⟨by omega,by omega,by omega⟩
   .rw[Zaj hc];have hle:(Qem n bs k).1<=v:=by
     have hc2: ¬befW v sd (Qem n bs k).1 (Qem n bs k).2=true:=fun h=>hc (.inr h)
     simp only[befW] at hc2;split at hc2
     .omega
     .simp only[Zar] at hc2;omega
    exact⟨i1,by omega,by omega⟩
def Qdc(t:Int)(bs:List Bond):List Bond:=bs.filter fun b=>decide (t<=b.Strength)
def Qmz(g:Int)(r:List Int)(l:List Int):Nat->List Int
 |0=>l
 |k+1=>(Qmz g r l k).set (r[k]?.getD 0).toNat g
def Qjt(gs:List (List Int))(l:List Int):Nat->List Int
 |0=>l
 |i+1=>Qmz i (gs[i]?.getD []) (Qjt gs l i) (gs[i]?.getD []).length
theorem Qkb(g:Int)(r l:List Int): ∀k,(Qmz g r l k).length=l.length
 |0=>rfl
 |k+1=>by simp only[Qmz,ZbG,Qkb g r l k]
theorem Qij(gs:List (List Int))(l:List Int): ∀i,(Qjt gs l i).length=l.length
 |0=>rfl
 |i+1=>by simp only[Qjt,Qkb,Qij gs l i]
def Qoz(n:Nat)(gs:List (List Int)):List Int:=Qjt gs (List.replicate n 0) gs.length
def nmOf(nm:List Int)(v:Int):Int:=nm[v.toNat]?.getD 0
def Qck(nm:List Int):List Bond->List Bond
 |[]=>[]
 |b::r=>if nmOf nm b.A=nmOf nm b.B then Qck nm r else ⟨minI (nmOf nm b.A) (nmOf nm b.B),maxI (nmOf nm b.A) (nmOf nm b.B),b.Strength⟩::Qck nm r
theorem Qp2(nm:List Int): ∀(a b:List Bond),Qck nm (a++b)=Qck nm a++Qck nm b
 |[],b=>rfl
 |x::r,b=>by simp only[ZaA,Qck,Qp2 nm r b];split<;>rfl
theorem Qjq(nm:List Int): ∀(a:List Bond),(Qck nm a).length<=a.length
 |[]=>Zap _
 |x::r=>by have:=Qjq nm r;simp only[Qck];split<;>simp only[ZaE]<;>omega
theorem Qln(t:Int)(bs:List Bond):(Qdc t bs).length<=bs.length:=ZeY _ _
theorem Qjs(t:Int){bs:List Bond}{k:Nat}{b:Bond}(h:bs[k]? =some b):Qdc t (bs.take (k+1))=Qdc t (bs.take k)++if t<=b.Strength then [b] else []:=by
 rw[ZbO,h];simp only[Qdc,List.filter_append,ZdP,ZeM,List.filter_nil,Zar]
theorem Qaaj(own:List Int)(i:Nat): ∀k,∀v∈grpK own i k,(i:Int)<=v/\v<i+k
 |0,v,h=>by simp[grpK] at h
 |k+1,v,h=>by
  simp only[grpK,Zan] at h;rcases h with h|h
  .have:=Qaaj own i k v h;omega
  .split at h
   .rw[Zal] at h;omega
   .simp at h
theorem Qvq(own:List Int)(n:Nat): ∀k,k<=n-> ∀r∈Qa7 own n k,∀v∈r,0<=v/\v<n
 |0,_,r,h,_,_=>by simp[Qa7] at h
 |k+1,hk,r,h,v,hv=>by
  simp only[Qa7,Zan] at h;rcases h with h|h
  .exact Qvq own n k (by omega) r h v hv
  .split at h
   .rw[Zal] at h;subst h
    have:=Qaaj own k (n - k) v hv
    omega
   .simp at h
theorem Qps(n:Nat)(bs:List Bond): ∀r∈Qf2 (n:Int) bs,∀v∈r,0<=v/\v<n:=by
 intro r hr v hv
 have:=Qvq (ownK n bs bs.length) n n (Zap _) r (by simpa[Qf2] using hr) v hv
 omega
theorem Qvc(nm:List Int){bs:List Bond}{k:Nat}{b:Bond}(h:bs[k]? =some b):Qck nm (bs.take (k+1))=Qck nm (bs.take k)++if nmOf nm b.A=nmOf nm b.B then [] else [⟨minI (nmOf nm b.A) (nmOf nm b.B),maxI (nmOf nm b.A) (nmOf nm b.B),b.Strength⟩]:=by
 rw[ZbO,h];simp only[ZdP,Qp2,Qck]
def Qd2(n:Int)(bs:List Bond)(t:Int):List (List Int):=Qf2 n (Qdc t bs)
def shrN(n:Int)(bs:List Bond)(t:Int):Int×List Bond:=((Qd2 n bs t).length,Qck (Qoz n.toNat (Qd2 n bs t)) bs)
def shrunk.fv(a:Int×(List Bond)×Int):Int×(List Bond):=(shrN) (a.1) (a.2.1) (a.2.2)
def shrunk.row:Row:=vK (b3 qI (qS Bond.d_le Bond.c_n) qI) (r2 rI (rS Bond.d_le Bond.c_n)) (fun a=>0<=a.1/\a.1<=1000000/\Qdm a.1 a.2.1/\a.2.1.length<=1000000) shrunk.fv
def shrunk.q:=vKq (R:=shrunk.row) rfl
def Yax:=J @shrunk.fv.eq_1<|J @l06Groups.q<|J @l06Groups.fv.eq_1<|J @l00Min.q<|J @l00Min.fv.eq_1<|J @l00Max.q @l00Max.fv.eq_1
theorem shrunk.ok:Qas Tryz.prog 81 shrunk.row:=by
 refine vw (tC l06Groups.ok (tC l00Min.ok (tC l00Max.ok tN))) Tryz.func81 rfl (by kernel_rfl) ?_;intro a hpre;simp only[Tryz.f81,Option.getD];simp(maxSteps:=9^9)(disch:=omega)only[ZZ,simprocAttr,rch,Yax];obtain⟨h0,h1,hbs,hbl⟩:=hpre;obtain⟨n,hn⟩: ∃n:Nat,a.1=n:=⟨a.1.toNat,by omega⟩;obtain⟨bs,hbsd⟩: ∃bs,bs=a.2.1:=⟨_,rfl⟩;obtain⟨t,ht⟩: ∃t,t=a.2.2:=⟨_,rfl⟩;simp only[hn,<-hbsd,<-ht] at h0 h1 hbs hbl⊢;refine Qay.ren ⟨{k:Nat//k<=bs.length},fun k=>⟨[(9,.im (.int .i64 k.1)),(8,.own 2),(0,.im (.int .i64 n)),(1,.im (.sl false 3 (bs.map Bond.c))),(2,.im (.int .i64 t))],[(2,(true,.arr 175 3 ((Qdc t (bs.take k.1)).map Bond.c)))],3⟩,fun k=>bs.length - k.1,fun k=>⟨by simp[Qad.good,belT,belH,Qam,AV.bel,belL],by simp⟩,⟨⟨0,by simp⟩,[(2,some 1)],?_⟩,fun k=> ?_⟩
 .simp only[subP];simp(maxSteps:=9^9)(disch:=omega)only[ZZ,simprocAttr,rch,Yax,Zab,Zaa];rfl
 obtain⟨k,hk1⟩:=k;have hsl:=Qln t (bs.take k);rw[Zau] at hsl;simp(maxSteps:=9^9)(disch:=omega)only[ZZ,simprocAttr,rch,Yax,sub,Qal,Qag,Qac,Qaf,allD,D.one,ZaX,Zcl,Zdi];intro _;refine⟨fun hk=>⟨hk,fun b hb=>⟨fun hs=>⟨hk,fun b' hb'=>⟨by omega,⟨k+1,by omega⟩,[(2,some 4)],by simp only;omega,?_⟩⟩,fun hs=>⟨⟨k+1,by omega⟩,[(2,some 2)],by simp only;omega,?_⟩⟩⟩,fun hk=> ?_⟩
 .rw[hb] at hb';obtain rfl:=Zac hb';simp only[subP];simp(maxSteps:=9^9)(disch:=omega)only[ZZ,simprocAttr,rch,Yax,Zab,Zaa,Qjs t hb];rw[Qak (by omega) (by omega),Zao hs];simp[Bond.c]
 .simp only[subP];simp(maxSteps:=9^9)(disch:=omega)only[ZZ,simprocAttr,rch,Yax,Zab,Zaa,Qjs t hb];rw[Qak (by omega) (by omega),Zaj hs,ZaK];simp
 have hkn:k=bs.length:=by omega
 subst hkn;rw[ZbP];refine⟨⟨h1,fun b hb=>hbs b (Zdr.1 hb).1⟩,by omega,?_⟩;obtain⟨gs,hgs⟩: ∃gs,gs=Qf2 (n:Int) (Qdc t bs):=⟨_,rfl⟩;have hgm: ∀r∈gs,∀v∈r,0<=v/\v<n:=by rw[hgs];exact Qps n _
 simp only[<-hgs];clear hk hsl hk1;refine Qay.old ⟨{i:Nat//i<=gs.length},fun i=>⟨[(12,.im (.int .i64 i.1)),(11,.own 3),(10,.im (.sl false 1 (gs.map Qcd))),(0,.im (.int .i64 n)),(1,.im (.sl false 3 (bs.map Bond.c))),(2,.im (.int .i64 t))],[(3,(true,.arr 2 1 ((Qjt gs (List.replicate n 0) i.1).map intC)))],4⟩,fun i=>gs.length - i.1,fun i=>⟨by simp[Qad.good,belT,belH,Qam,AV.bel,belL],by simp⟩,⟨⟨0,by simp⟩,?_⟩,fun i=> ?_⟩
 .simp(maxSteps:=9^9)(disch:=omega)only[ZZ,simprocAttr,rch,Yax,sub,Qjt,Qot]
 obtain⟨i,hi1⟩:=i;simp(maxSteps:=9^9)(disch:=omega)only[ZZ,simprocAttr,rch,Yax,sub,Qal];intro hgl;refine⟨fun hi=> ?_,fun hi=> ?_⟩
 .obtain⟨r,hr⟩: ∃r,gs[i]? =some r:=⟨_,Zad hi⟩;have hrm:=hgm r (Zaf hr);obtain⟨l,hl⟩: ∃l,l=Qjt gs (List.replicate n 0) i:=⟨_,rfl⟩;have hll:l.length=n:=by rw[hl,Qij,ZbC]
  simp only[<-hl];refine Qay.old ⟨{k:Nat//k<=r.length},fun k=>⟨[(13,.im (.int .i64 k.1)),(12,.im (.int .i64 i)),(11,.own 3),(10,.im (.sl false 1 (gs.map Qcd))),(0,.im (.int .i64 n)),(1,.im (.sl false 3 (bs.map Bond.c))),(2,.im (.int .i64 t))],[(3,(true,.arr 2 1 ((Qmz i r l k.1).map intC)))],4⟩,fun k=>r.length - k.1,fun k=>⟨by simp[Qad.good,belT,belH,Qam,AV.bel,belL],by simp⟩,⟨⟨0,by simp⟩,?_⟩,fun k=> ?_⟩
  .simp(maxSteps:=9^9)(disch:=omega)only[ZZ,simprocAttr,rch,Yax,sub,Qmz]
  obtain⟨k,hk1⟩:=k;have hnl:=Qkb (i:Int) r l k;simp(maxSteps:=9^9)(disch:=omega)only[ZZ,simprocAttr,rch,Yax,sub,Qal,hr,hnl,Qdj];refine⟨hi,fun r' hr' hr1=> ?_⟩;subst hr';refine⟨fun hk=>⟨hi,fun r' hr'=> ?_⟩,fun hk=>⟨⟨i+1,by omega⟩,by simp only;omega,by rw[Qak (by omega) (by omega)];simp only;omega,?_⟩⟩
  .subst hr';refine⟨hk,fun v hv=> ?_⟩;obtain⟨v1,v2⟩:=hrm v (Zaf hv);refine⟨v1,by omega,by omega,fun _ _=>⟨⟨k+1,by omega⟩,by simp only;omega,by rw[Qak (by omega) (by omega)];simp only;omega,?_⟩⟩;simp only[Qmz,hv,Zag]
  .have:k=r.length:=by omega
   simp only[Qjt,hr,Zag,<-hl,this]
 .have hie:i=gs.length:=by omega
  subst hie;obtain⟨nm,hnm⟩: ∃nm,nm=Qjt gs (List.replicate n 0) gs.length:=⟨_,rfl⟩;have hnl:nm.length=n:=by rw[hnm,Qij,ZbC]
  simp only[<-hnm];refine Qay.ren ⟨{k:Nat//k<=bs.length},fun k=>⟨[(15,.im (.int .i64 k.1)),(14,.own 5),(11,.own 3),(10,.im (.sl false 1 (gs.map Qcd))),(0,.im (.int .i64 n)),(1,.im (.sl false 3 (bs.map Bond.c))),(2,.im (.int .i64 t))],[(5,(true,.arr 175 3 ((Qck nm (bs.take k.1)).map Bond.c))),(3,(true,.arr 2 1 (nm.map intC)))],6⟩,fun k=>bs.length - k.1,fun k=>⟨by simp[Qad.good,belT,belH,Qam,AV.bel,belL],by simp⟩,⟨⟨0,by simp⟩,[(5,some 4)],?_⟩,fun k=> ?_⟩
  .simp only[subP];simp(maxSteps:=9^9)(disch:=omega)only[ZZ,simprocAttr,rch,Yax,Zab,Zaa];rfl
  obtain⟨k,hk1⟩:=k;have hsl:=Qjq nm (bs.take k);rw[Zau] at hsl;simp(maxSteps:=9^9)(disch:=omega)only[ZZ,simprocAttr,rch,Yax,sub,Qal,Qag,Qac,Qaf,allD,D.one,ZaX,Zcl,Zdi];intro _;refine⟨fun hk=>⟨hk,fun b hb=> ?_⟩,fun hk=> ?_⟩
  .obtain⟨b1,b2,b3,b4⟩:=hbs b (Zaf hb);refine⟨b1,by omega,by omega,fun x hx=>⟨hk,fun b' hb'=> ?_⟩⟩;rw[hb] at hb';obtain rfl:=Zac hb';refine⟨b3,by omega,by omega,fun y hy=> ?_⟩;have e1:nmOf nm b.A=x:=by simp only[nmOf,hx,Zag]
   have e2:nmOf nm b.B=y:=by simp only[nmOf,hy,Zag]
   have hsu:=Qvc nm hb;rw[e1,e2] at hsu;refine⟨fun hxy=>⟨hk,fun b' hb'=>⟨by omega,⟨k+1,by omega⟩,[(5,some 7)],by simp only;omega,?_⟩⟩,fun hxy=>⟨⟨k+1,by omega⟩,[(5,some 5)],by simp only;omega,?_⟩⟩
   .rw[hb] at hb';obtain rfl:=Zac hb';simp only[subP];simp(maxSteps:=9^9)(disch:=omega)only[ZZ,simprocAttr,rch,Yax,Zab,Zaa,hsu];rw[Qak (by omega) (by omega),Zaj hxy];simp[Bond.c]
   .simp only[subP];simp(maxSteps:=9^9)(disch:=omega)only[ZZ,simprocAttr,rch,Yax,Zab,Zaa,hsu];rw[Qak (by omega) (by omega),Zao (Zbc.1 hxy),ZaK];simp
  .have:k=bs.length:=by omega
   subst this;rw[ZbP];intro _;simp only[shrN,Qd2,Qoz,Zam,<-hgs,<-hnm]
theorem Qk5(s:Qaa): ∀(l:List Glue) (i:Nat),Qb7 s i l=true-> ∀g∈l,1<=g.Strength/\g.Strength<=4
 |[],_,_,_,h=>by cases h
 |x::r,i,h,g,hg=>by
  simp only[Qb7,Zah,Qau,Zar] at h;rcases Zaw.1 hg with rfl|hg
  .exact⟨h.1.2.1.1,h.1.2.1.2⟩
  .exact Qk5 s r _ h.2 g hg
theorem Qlf(s:Qaa): ∀(l:List Tile) (i:Nat),Qby s i l=true-> ∀t∈l,t.Sides.length=4/\ ∀g∈t.Sides,0<=g/\g<=s.Glues.length
 |[],_,_,_,h=>by cases h
 |x::r,i,h,t,ht=>by
  simp only[Qby,Zah,Zar,Zbv,Qau] at h;rcases Zaw.1 ht with rfl|ht
  .exact⟨h.1.2.1,fun g hg=>⟨(h.1.2.2.2 g hg).1,(h.1.2.2.2 g hg).2⟩⟩
  .exact Qlf s r _ h.2 t ht
theorem Qge{s:Qaa}(h:Qcl s=true):setP s:=by
 simp only[Qcl,Zah,Zar] at h;exact⟨by omega,Qlf s _ _ h.2.2,Qk5 s _ _ h.2.1⟩
theorem Qdg{s:Qaa}{a:Asm}(h:Qcp s a=true):Qn7 s a/\a.Tiles.length<=500:=by
 simp only[Qcp,Zah,Zar,Zbv,Qau] at h;exact⟨⟨h.1.1,fun x hx=>⟨(h.2 x hx).1,by have:=(h.2 x hx).2;omega⟩⟩,h.1.2⟩
theorem step_ne(p:Qae)(d:Int):Qf7 p d≠p:=by
 intro h;have hx:(Qf7 p d).X=p.X:=by rw[h]
 have hy:(Qf7 p d).Y=p.Y:=by rw[h]
 simp only[Qf7] at hx hy;split at hx
 .rename_i h0;rw[Zao h0] at hy;simp only at hy;omega
 .rename_i h0;rw[Zaj h0] at hy;split at hx
  .simp only at hx;omega
  .rename_i h1;rw[Zaj h1] at hy;split at hx
   .rename_i h2;rw[Zao h2] at hy;simp only at hy;omega
   .simp only at hx;omega
theorem nbA_ne(a:Asm)(i:Nat)(d:Int)(hi:i<a.Tiles.length):nbA a i d≠i:=by
 intro h;rcases Qep (fun x=>decide (x.At=Qf7 ((a.Tiles[(i:Int).toNat]?.map Qab.At).getD ⟨0,0⟩) d)) a.Tiles 0 with ⟨_,h2⟩|⟨j,x,h1,h2,h3⟩
 .simp only[nbA,h2] at h;omega
 .simp only[nbA,h2,ZbR] at h;have hji:j=i:=by omega
  subst hji
  have:=ZcO h1
  simp only[Zar,Zam,h3,ZaO,Zag] at this;exact step_ne _ _ this.symm
def bndP(n:Int)(b:Bond):Prop:=(0<=b.A/\b.A<n/\0<=b.B/\b.B<n)/\b.A≠b.B/\0<b.Strength/\b.Strength<=4
theorem bndOf_P{s:Qaa}(hs:setP s)(a:Asm)(i:Nat)(hi:i<a.Tiles.length)(d:Int): ∀b∈Qs7 s a i d,bndP a.Tiles.length b:=by
 intro b hb;simp only[Qs7] at hb;split at hb
 .rename_i h0;split at hb
  .rename_i h1;rw[Zal] at hb;subst hb;have h2:=nbA_lt a i d;have h3:=nbA_ne a i d hi;have h4:Qfn s (Qda a i) d (Qda a (nbA a i d))<=4:=by
    simp only[Qfn];split
    .exact (Qp1 hs _).2
    .omega
   exact⟨⟨by simp only;omega,by simp only;omega,h0,h2⟩,fun h=>h3 h.symm,h1,h4⟩
  .simp at hb
 .simp at hb
theorem Qzz{s:Qaa}(hs:setP s)(a:Asm)(i:Nat)(hi:i<a.Tiles.length): ∀k,∀b∈Qez s a i k,bndP a.Tiles.length b
 |0,b,h=>by simp[Qez] at h
 |k+1,b,h=>by
  simp only[Qez,Zan] at h;rcases h with h|h
  .exact Qzz hs a i hi k b h
  .exact bndOf_P hs a i hi _ b h
theorem Qro{s:Qaa}(hs:setP s)(a:Asm): ∀k,k<=a.Tiles.length-> ∀b∈Qel s a k,bndP a.Tiles.length b
 |0,_,b,h=>by simp[Qel] at h
 |k+1,hk,b,h=>by
  simp only[Qel,Zan] at h;rcases h with h|h
  .exact Qro hs a k (by omega) b h
  .exact Qzz hs a k (by omega) _ b h
theorem nmRow_b(g:Int)(r:List Int)(m:Int)(h0:0<=g)(hg:g<m)(l:List Int)(hl: ∀x∈l,0<=x/\x<m): ∀k,∀x∈Qmz g r l k,0<=x/\x<m
 |0=>hl
 |k+1=>by
  intro x hx;simp only[Qmz] at hx;rcases ZbU hx with hx|hx
  .exact nmRow_b g r m h0 hg l hl k x hx
  .omega
theorem nmAll_b(gs:List (List Int))(l:List Int)(hl: ∀x∈l,0<=x/\x<(gs.length:Int)): ∀i,i<=gs.length-> ∀x∈Qjt gs l i,0<=x/\x<(gs.length:Int)
 |0,_=>hl
 |i+1,hi=>nmRow_b _ _ _ (by omega) (by omega) _ (nmAll_b gs l hl i (by omega)) _
theorem Qy8{n:Nat}{gs:List (List Int)}(hg:0<gs.length)(v:Int):0<=nmOf (Qoz n gs) v/\nmOf (Qoz n gs) v<(gs.length:Int):=by
 simp only[nmOf];cases h:(Qoz n gs)[v.toNat]? with
 |none=>simp;omega
 |some x=>
  rw[Zag];exact nmAll_b gs _ (fun x hx=>by have:=Zbw hx;omega) _ (Zap _) x (Zaf h)
theorem Qvw{n:Nat}{gs:List (List Int)}(hg:0<gs.length): ∀(bs:List Bond),(∀b∈bs,0<b.Strength/\b.Strength<=4)-> ∀b∈Qck (Qoz n gs) bs,bndP gs.length b
 |[],_,b,h=>by simp[Qck] at h
 |x::r,hs,b,h=>by
  simp only[Qck] at h;have ih:=Qvw (n:=n) hg r (fun y hy=>hs y (Zas _ hy)) b;split at h
  .exact ih h
  .rename_i hne;rcases Zaw.1 h with rfl|h
   .have h1:=Qy8 (n:=n) hg x.A;have h2:=Qy8 (n:=n) hg x.B;have h3:=hs x (Zat ..);refine⟨?_,?_,h3.1,h3.2⟩
    .simp only[minI,maxI]
     split<;>split<;>omega
    .simp only[minI,maxI]
     split<;>split<;>omega
   .exact ih h
theorem shr_pre{n:Int}{bs:List Bond}{t:Int}(hb: ∀b∈bs,bndP n b)(hl:bs.length<=1000000)(h0:0<(shrN n bs t).1)(h1:(shrN n bs t).1<=64):Qhu (shrN n bs t)/\Qmw (shrN n bs t).2:=by
 have hP:=Qvw (n:=n.toNat) (gs:=Qd2 n bs t) (by simp only[shrN] at h0;omega) bs (fun b hb'=>⟨(hb b hb').2.2.1,(hb b hb').2.2.2⟩);have hl2:=Qjq (Qoz n.toNat (Qd2 n bs t)) bs;refine⟨⟨by omega,by omega,by simp only[shrN];omega,fun b hb'=>(hP b hb').1,fun b hb'=>(hP b hb').2.1⟩,fun b hb'=> ?_⟩
 have:=(hP b hb').2.2
 omega
def Qx2(s:Qaa)(a:Asm)(t:Int):Bool×Int:=
 if 64<(shrN a.Tiles.length (Qel s a a.Tiles.length) t).1 then (false,4)
 else if (shrN a.Tiles.length (Qel s a a.Tiles.length) t).1<2 then (true,0)
 else (decide (t<=(Qem (shrN a.Tiles.length (Qel s a a.Tiles.length) t).1 (shrN a.Tiles.length (Qel s a a.Tiles.length) t).2 ((shrN a.Tiles.length (Qel s a a.Tiles.length) t).1 - 1).toNat).1),0)
def l07Stable.fv(a:Qaa×Asm×Int):Bool×Int:=(Qx2) (a.1) (a.2.1) (a.2.2)
def l07Stable.row:Row:=vK (b3 (qP 2 Qaa.d_le) (qP 1 Asm.d_le) qI) (r2 rB rI) (fun a=>setP a.1/\Qn7 a.1 a.2.1/\a.2.1.Tiles.length<=500) l07Stable.fv
def l07Stable.q:=vKq (R:=l07Stable.row) rfl
theorem l07Stable.ok:Qas Tryz.prog 50 l07Stable.row:=by
 refine vw (tC l06Bonds.ok (tC shrunk.ok (tC weakC.ok tN))) Tryz.func50 rfl (by kernel_rfl) ?_;intro a hpre;simp only[Tryz.f50,Option.getD];simp(maxSteps:=9^9)(disch:=omega)only[ZZ,simprocAttr,rch,l07Stable.fv,l06Bonds.q,l06Bonds.fv,shrunk.q,shrunk.fv,weakC.q,weakC.fv];obtain⟨h1,h2,h3⟩:=hpre;have hP:=Qro h1 a.2.1 _ (Zap _);have hl:=Qh3 a.1 a.2.1 a.2.1.Tiles.length;refine⟨⟨h1,h2,by omega⟩,⟨by omega,fun b hb=>(hP b hb).1,by omega⟩,?_⟩;simp only[Qx2];split
 .rfl
 .rename_i c1;split
  .rfl
  .rename_i c2;obtain⟨p1,p2⟩:=shr_pre (t:=a.2.2) hP (by omega) (by omega) (by omega);exact⟨⟨p1,p2,by omega⟩,rfl⟩
def stabB(s:Qaa)(a:Asm)(t:Int):Bool:=(Qx2 s a t).1 && decide ((Qx2 s a t).2=0)
def Qjc(y:Qar):Bool:=Qcl y.Set && (Qcp y.Set y.Seed && (!y.Seed.Tiles.isEmpty && (Qau y.Temperature 1 16 && stabB y.Set y.Seed y.Temperature)))
def l08Ok.fv(a:Qar):Bool:=(Qjc) a
def l08Ok.row:Row:=vK (b1 (qP 4 Qar.d_le)) rB (fun a=>True) l08Ok.fv
def l08Ok.q:=vKq (R:=l08Ok.row) rfl
theorem l08Ok.ok:Qas Tryz.prog 18 l08Ok.row:=by
 refine vw (tC l02Ok.ok (tC l03Ok.ok (tC l07Temperature.ok (tC l07Stable.ok tN)))) Tryz.func18 rfl (by kernel_rfl) ?_;intro a hpre;simp only[Tryz.f18,Option.getD];simp(maxSteps:=9^9)(disch:=omega)only[ZZ,simprocAttr,rch,l08Ok.fv,l02Ok.q,l02Ok.fv,l03Ok.q,l03Ok.fv,l07Temperature.q,l07Temperature.fv,l07Stable.q,l07Stable.fv]
 split<;>rename_i c1
 .split<;>rename_i c2
  .have c3:Qcp a.Set a.Seed=true:=by
    simp only[Qcp,Zah,Zar];exact c2
   split<;>rename_i c4
   .have c5:a.Seed.Tiles.isEmpty=false:=by
     rw[ZeF];intro h;rw[h] at c4;simp at c4
    split<;>rename_i c6
    .simp only[Qjc,c6,Zbu,ZdA]
    .refine⟨⟨Qge c1,(Qdg c3).1,(Qdg c3).2⟩,?_⟩;rw[ZaZ] at c6;simp only[Qjc,c1,c3,c5,c6,Zbj,ZcJ,stabB]
     split<;>rename_i c7
     .rw[c7,Zbj]
     .rw[ZcV] at c7;rw[c7,Zbu]
   .have c5:a.Seed.Tiles=[]:=by
     have:=Zbc.1 c4
     exact Zcy (by omega)
    simp[Qjc,c5]
  .have c3:Qcp a.Set a.Seed=false:=by
    rw[Zcg];intro h;simp only[Qcp,Zah,Zar] at h;exact c2 h
   simp[Qjc,c3]
 .rw[ZcV] at c1;simp[Qjc,c1]
def Qch(b n:Nat):List (List AV):=(List.range n).map fun i=>[AV.own (b+i)]
def matH(b n:Nat)(M:List (List Int)):Qan:=famH b n (fun i=>(true,.arr 2 1 ((M[i]?.getD []).map intC)))
def exW(j:Nat):Bool:=Nat.blt j 3||((Nat.ble 100 j && Nat.blt j 164)||(Nat.ble 200 j && Nat.blt j 264))
def nwH(x:Nwk)(n:Nat):Qan:=(0,(true,.cells 242 [.own 1,.own 2]))::(1,(true,.arrA 37 1 (Qch 100 n)))::(2,(true,.arrA 37 1 (Qch 200 n)))::(matH 100 n x.Room++matH 200 n x.Flow)
def nwC.ca(a:Int×List Bond):List AV:=[.im (.int .i64 a.1),.im (.sl false 3 (a.2.map Bond.c))]
def nwC.H1(a:Int×List Bond):Qan:=nwH (netF a.1.toNat a.2) (min a.1.toNat 64)
def nwPre(a:Int×List Bond):Prop:=0<=a.1/\a.1<=64/\a.2.length<=1000000/\Qdm a.1 a.2/\Qmw a.2/\ ∀b∈a.2,b.A≠b.B
def nwC.row:Row:=orow nwC.ca (fun _=>[]) 0 nwPre (fun _=>false) (fun _=> .ptr 0 0) nwC.H1 320
theorem Qk6(m:Nat): ∀(a b:Qan),belH m (a++b)=(belH m a && belH m b)
 |[],b=>by simp[belH]
 |(i,(mu,e))::r,b=>by
  have ih:=Qk6 m r b;cases e<;>simp only[ZaA,belH,ih,ZeD]
theorem Qmd(m:Nat): ∀(a b:Qan),Qam m (a++b)=(Qam m a && Qam m b)
 |[],b=>by simp[Qam]
 |(i,(mu,e))::r,b=>by simp only[ZaA,Qam,Qmd m r b,ZeD]
theorem Qdv(b n N:Nat)(h:b+n<=N):(Qch b n).all (belL N)=true:=by
 rw[Zbv];intro r hr;obtain⟨i,hi,rfl⟩:=ZaJ.1 hr
 have:=ZaI.1 hi
 simp[belL,AV.bel];omega
theorem Qkf(nx:Nat): ∀(l:List Nat),outN nx 0 l=true
 |[]=>rfl
 |x::r=>by
  have:(Nat.blt x nx||Nat.ble (nx+0) x)=true:=by
   rw[ZbX,ZbW,ZcS];omega
  simp only[outN,this,Qkf nx r,Zee]
theorem Qbj(b n:Nat):(Qch b n).length=n:=by simp[Qch]
theorem Qo7(b n i:Nat)(h:i<n):(Qch b n)[i]? =some [.own (b+i)]:=by simp[Qch,ZbF h]
theorem Qpf(a b:Qan):Qg1 (a++b)=Qg1 a++Qg1 b:=by
 induction a with
 |nil=>rfl
 |cons x r ih=>obtain⟨i,e⟩:=x;simp only[ZaA,Qg1,ih]
theorem Qol(m:Nat): ∀(a b:Qan),hget (a++b) m=(hget a m).or (hget b m)
 |[],b=>by simp[hget]
 |(i,e)::r,b=>by
  have ih:=Qol m r b;simp only[ZaA,hget];cases i==m<;>simp[ih]
theorem Qpw(b n:Nat)(M:List (List Int))(i:Nat)(h:i<n):hget (matH b n M) (b+i)=some (true,.arr 2 1 ((M[i]?.getD []).map intC)):=Qcy _ _ _ _ h
theorem Qwa(b n:Nat)(M:List (List Int))(m:Nat)(h:m<b\/b+n<=m):hget (matH b n M) m=none:=Qmh _ _ _ _ h
theorem Qe9(k:Nat)(M N:List (List Int))(i:Nat)(h:i<k):hget (matH 100 k M++matH 200 k N) (100+i)=some (true,.arr 2 1 ((M[i]?.getD []).map intC)):=by
 rw[Qol,Qpw _ _ _ _ h];rfl
theorem Qfe(k:Nat)(M N:List (List Int))(i:Nat)(hk:k<=100)(h:i<k):hget (matH 100 k M++matH 200 k N) (200+i)=some (true,.arr 2 1 ((N[i]?.getD []).map intC)):=by
 rw[Qol,Qwa _ _ _ _ (by omega),Qpw _ _ _ _ h];rfl
theorem Qxa(b n i:Nat)(K:List AV->Prop)(h:i<n):Qi9 (Qch b n) i K=K [.own (b+i)]:=by
 apply propext;unfold Qi9;rw[Qo7 b n i h];exact⟨fun h=>h _ rfl,fun h row hr=>by obtain rfl:=Zac hr;exact h⟩
theorem Qg0(s:Qad): ∀(a b:Qan),subH s (a++b)=(subH s a/\subH s b)
 |[],b=>by simp[subH]
 |(i,e)::r,b=>by simp only[ZaA,subH,Qg0 s r b,ZeI]
theorem Qla(s:Qad)(b n:Nat)(M:List (List Int)):subH s (matH b n M)= ∀i,i<n->hget s.h (b+i)=some (true,.arr 2 1 ((M[i]?.getD []).map intC)):=by
 have: ∀(f:Nat->Ent) (l:List Nat),subH s (l.map fun i=>(b+i,f i))↔ ∀i∈l,hget s.h (b+i)=some (f i):=by
  intro f l;induction l with
  |nil=>simp[subH]
  |cons i r ih=>simp only[Zaq,subH,ih,Zaw,ZeP]
 apply propext;rw[matH,famH,this];simp only[ZaI]
theorem Qrm{n:Nat}{bs:List Bond}(hb:Qdm n bs)(hs:Qmw bs)(a b:Nat): ∀k,0<=rmF (netK n bs k) a b/\rmF (netK n bs k) a b<=2000000*(k:Int)
 |0=>by
  simp only[rmF,netK,netZ,Qf4,Zbx];split
  .rw[Zag,Zbx];split<;>simp
  .simp
 |k+1=>by
  have ih:=Qrm hb hs a b k;obtain⟨hok,_⟩:=Qhc hb k;simp only[rmF,netK] at ih⊢;split
  .rename_i x hx;obtain⟨b1,b2,b3,b4⟩:=hb x (Zaf hx);have h0:=hs x (Zaf hx);simp only[addB];rw[show x.A=(x.A.toNat:Int) by omega,show x.B=(x.B.toNat:Int) by omega];rw[Qe2 (n:=n) (by rw[Qdl];exact hok.r) (Qcw hok.rr _ _ _ (by rw[hok.r];simp;omega)) _ (by omega) (by omega),Qe2 hok.r hok.rr _ (by omega) (by omega)]
   split<;>split<;>omega
  .omega
theorem nw_nodup(k:Nat)(hk:k<=64):([0,1,2]++((List.range k).map (100+ ·)++(List.range k).map (200+ ·))).Nodup:=by
 rw[<-ZbA];refine Qet _ 200 k (Qet _ 100 k (by simp) (by simp)) ?_;intro x hx;rcases Zan.1 hx with hx|hx
 .simp at hx;omega
 .obtain⟨i,hi,rfl⟩:=ZaJ.1 hx
  have:=ZaI.1 hi
  show 100+i<200;omega
theorem nw_lt(k:Nat)(hk:k<=64): ∀x∈([0,1,2]++((List.range k).map (100+ ·)++(List.range k).map (200+ ·))),x<300:=by
 intro x hx;rcases Zan.1 hx with hx|hx
 .simp at hx;omega
 .rcases Zan.1 hx with hx|hx<;>obtain⟨i,hi,rfl⟩:=ZaJ.1 hx<;>have:=ZaI.1 hi
  .show 100+i<300;omega
  .show 200+i<300;omega
theorem Qyn{π:List (Nat×Option Nat)}{b:Nat}{g:Nat->Nat}{n:Nat}(h: ∀i,i<n->pm π (b+i)=some (g i)){R:List (List AV)}(hR:R=(List.range n).map fun i=>[AV.own (g i)]):mtR π (Qch b n) R:=by
 subst hR;rw[Ql2];refine⟨by simp[Qch],fun i x y hx hy=> ?_⟩;have hin:i<n:=by have:=(Zai.1 hx).1;rwa [Qbj] at this
 rw[Qo7 _ _ _ hin] at hx;rw[ZaN,ZbF hin] at hy;obtain rfl:=Zac hx;obtain rfl:=Zac hy;simp only[mtL,mt,h i hin,ownM,Zcl]
theorem Ql0(b k c:Nat):Qch b k++[[.own c]]=(List.range (k+1)).map fun i=>[AV.own (if i<k then b+i else c)]:=by
 rw[Zen,ZaT,Qch];congr 1
 .exact Zcp fun i hi=>by rw[Zao (ZaI.1 hi)]
 .simp
theorem Qow(k:Nat)(M N:List (List Int))(hk:k<=64)(tm:List (Nat×AV))(ht:belT 300 tm=true):Qad.good ⟨tm,(0,(true,.cells 242 [.own 1,.own 2]))::(1,(true,.arrA 37 1 (Qch 100 k)))::(2,(true,.arrA 37 1 (Qch 200 k)))::(matH 100 k M++matH 200 k N),300⟩=true:=by
 simp only[Qad.good,belH,Qam,ht,Zbj,Qk6,Qmd,matH];rw[Qi1 _ _ _ (fun i=>rfl),Qi1 _ _ _ (fun i=>rfl),Qd8 _ _ _ _ (by omega),Qd8 _ _ _ _ (by omega),Qdv _ _ _ (by omega),Qdv _ _ _ (by omega)];rfl
theorem exW_lt(o:Nat)(h:exW o=true):o<264:=by
 simp only[exW,ZbX,Zah,ZbW,ZcS] at h;omega
theorem exW_1(i:Nat)(h:i<64):exW (100+i)=true:=by
 simp only[exW,ZbX,Zah,ZbW,ZcS];omega
theorem exW_2(i:Nat)(h:i<64):exW (200+i)=true:=by
 simp only[exW,ZbX,Zah,ZbW,ZcS];omega
theorem Quc(h:Nat->Option Ent)(f:AV->Option AV): ∀(a b:Qan),Qhk h f (a++b)↔Qhk h f a/\Qhk h f b
 |[],b=>by simp[Qhk]
 |(i,e)::r,b=>by simp only[ZaA,Qhk,Quc h f r b,ZeI]
theorem Qoq(h:Nat->Option Ent)(f:AV->Option AV)(b n:Nat)(M:List (List Int))(H: ∀i,i<n->h (b+i)=some (true,.arr 2 1 ((M[i]?.getD []).map intC))):Qhk h f (matH b n M):=by
 have: ∀(l:List Nat),(∀i∈l,i<n)->Qhk h f (l.map fun i=>(b+i,(true,AObj.arr 2 1 ((M[i]?.getD []).map intC)))):=by
  intro l;induction l with
  |nil=>intro _;simp[Qhk]
  |cons i r ih=>
   intro hl;simp only[Zaq,Qhk];refine⟨?_,ih (fun j hj=>hl j (Zas _ hj))⟩;rw[H i (hl i (Zat ..))];exact⟨rfl,rfl⟩
 exact this _ (fun i hi=>ZaI.1 hi)
theorem Quf{h:Nat->Option Ent}{kx:Nat->Option Nat}{m b n:Nat}(hk: ∀i,i<n->kx (b+i)=some (b+i)):mapO (mapO (cvt h kx (m+1))) (Qch b n)=some (Qch b n):=by
 refine Qnl (g:=fun i=>[AV.own (b+i)]) (k:=fun i=>[AV.own (b+i)]) _ fun i hi=> ?_
 simp only[mapO,cvt,hk i (ZaI.1 hi),kp]
theorem outOk_nw{x:Nwk}{n:Nat}(hn:n<=64){kx:Nat->Option Nat}(hk: ∀o,exW o=true->kx o=some o):Qhk (hget (nwH x n)) (cvt (hget (nwH x n)) kx 9) (nwH x n):=by
 have k1:kx 1=some 1:=hk 1 rfl;have k2:kx 2=some 2:=hk 2 rfl;obtain⟨H,hH⟩: ∃H,H=hget (nwH x n):=⟨_,rfl⟩;have g0:H 0=some (true,.cells 242 [.own 1,.own 2]):=by rw[hH];rfl
 have g1:H 1=some (true,.arrA 37 1 (Qch 100 n)):=by rw[hH];rfl
 have g2:H 2=some (true,.arrA 37 1 (Qch 200 n)):=by rw[hH];rfl
 have ga: ∀i,i<n->H (100+i)=some (true,.arr 2 1 ((x.Room[i]?.getD []).map intC)):=by
  intro i hi;rw[hH];simp only[nwH,hget,Qao _ _ (show 0≠100+i by omega),Qao _ _ (show 1≠100+i by omega),Qao _ _ (show 2≠100+i by omega),ZaS];exact Qe9 _ _ _ _ hi
 have gb: ∀i,i<n->H (200+i)=some (true,.arr 2 1 ((x.Flow[i]?.getD []).map intC)):=by
  intro i hi;rw[hH];simp only[nwH,hget,Qao _ _ (show 0≠200+i by omega),Qao _ _ (show 1≠200+i by omega),Qao _ _ (show 2≠200+i by omega),ZaS];exact Qfe _ _ _ _ (by omega) hi
 rw[<-hH];simp only[nwH,Qhk,Quc];refine⟨?_,?_,?_,Qoq _ _ _ _ _ ga,Qoq _ _ _ _ _ gb⟩
 .rw[g0];exact⟨rfl,by simp only[cvtE,mapO,cvt,k1,k2,kp];rfl⟩
 .rw[g1];exact⟨rfl,by simp only[cvtE];rw[Quf (fun i hi=>hk _ (exW_1 i (by omega)))];rfl⟩
 .rw[g2];exact⟨rfl,by simp only[cvtE];rw[Quf (fun i hi=>hk _ (exW_2 i (by omega)))];rfl⟩
theorem nwH_mem{x:Nwk}{n:Nat}(hn:n<=64){p:Nat×Ent}(hp:p∈nwH x n):exW p.1=true/\p.2.1=true:=by
 simp only[nwH,Zaw,Zan,matH,famH,ZaJ,ZaI] at hp;rcases hp with rfl|rfl|rfl|⟨i,hi,rfl⟩|⟨i,hi,rfl⟩
 .exact⟨rfl,rfl⟩
 .exact⟨rfl,rfl⟩
 .exact⟨rfl,rfl⟩
 .exact⟨exW_1 i (by omega),rfl⟩
 .exact⟨exW_2 i (by omega),rfl⟩
theorem nw_mem{a:Int×List Bond}{p:Nat×Ent}(hp:p∈nwC.H1 a):exW p.1=true/\p.2.1=true:=nwH_mem (ZcE _ _) hp
theorem nwC.ok:Qas Tryz.prog 159 nwC.row:=by
 refine ow tN Tryz.func159 rfl (by kernel_rfl) (exB:=exW) (R:=fun _ r=>r= .ptr 0 0) (fun _=>rfl)
  (fun a=>by simp[nwC.ca,exW,belL,AV.bel,belH,Qam,Qc2,AObj.nms,nmsL,AV.nms,domB,hget]) (fun a p hp=> ?_) (fun a r h=>by subst h;exact LeV.refl _) ?_
 rotate_left
 intro a hpre;simp only[Tryz.f159,Option.getD,nwC.ca,exW];simp(maxSteps:=9^9)(disch:=omega)only[ZZ,simprocAttr,rch,ORB,nwC.ca,exW];obtain⟨h0,h1,hl,hbs,hst,hne⟩:=hpre;obtain⟨n,hn⟩: ∃n:Nat,a.1=n:=⟨a.1.toNat,by omega⟩;obtain⟨bs,hbsd⟩: ∃bs,bs=a.2:=⟨_,rfl⟩;simp only[<-hbsd] at hl hbs hst hne;rw[hn] at h0 h1 hbs;have hH1:nwC.H1 a=nwH (netF n bs) n:=by simp only[nwC.H1,hn,Zam,hbsd];rw[Zeq (by omega)]
 rw[hH1];clear hH1;simp only[hn,<-hbsd];refine Qay.ren ⟨{k:Nat//k<=n},fun k=>⟨[(11,.im (.int .i64 k.1)),(10,.im (.int .i64 n)),(5,.ptr 0 0),(0,.im (.int .i64 n)),(1,.im (.sl false 3 (bs.map Bond.c)))],(0,(true,.cells 242 [.own 1,.own 2]))::(1,(true,.arrA 37 1 (Qch 100 k.1)))::(2,(true,.arrA 37 1 (Qch 200 k.1)))::(matH 100 k.1 (List.replicate n (List.replicate n 0))++matH 200 k.1 (List.replicate n (List.replicate n 0))),300⟩,fun k=>n - k.1,fun k=>⟨?_,by simp⟩,⟨⟨0,by simp⟩,[(1,none),(2,none)],?_⟩,fun k=> ?_⟩
 .exact Qow _ _ _ (by omega) _ (by simp[belT,AV.bel])
 .simp only[subP,matH,famH,Qch,ZdN,ZaG,ZaK];simp(maxSteps:=9^9)(disch:=omega)only[ZZ,simprocAttr,rch,ORB,nwC.ca,exW,Zab,Zaa]
 obtain⟨k,hk1⟩:=k;simp(maxSteps:=9^9)(disch:=omega)only[ZZ,simprocAttr,rch,ORB,nwC.ca,exW,sub,Qal,Qba,Qkf,Zeh,ZbY,ZcA,List.all_nil,Qdv,Qbj];refine⟨fun hk=>⟨by omega,by omega,by omega,by omega,⟨k+1,by omega⟩,[(1,some 302),(2,some 305),(100+k,some 300),(200+k,some 303)],by simp only;omega,?_⟩,fun hk=> ?_⟩
 .have hg: ∀i,i<n->(List.replicate n (List.replicate n (0:Int)))[i]?.getD []=List.replicate n 0:=by
   intro i hi;rw[Zbx,Zao hi,Zag]
  have q100: ∀i,i<k->pm [(1,some 302),(2,some 305),(100+k,some 300),(200+k,some 303)] (100+i)=some (100+i):=by
   intro i hi;simp only[pm];rw[Zaj (by omega),Zaj (by omega),Zaj (by omega),Zaj (by omega)]
  have q200: ∀i,i<k->pm [(1,some 302),(2,some 305),(100+k,some 300),(200+k,some 303)] (200+i)=some (200+i):=by
   intro i hi;simp only[pm];rw[Zaj (by omega),Zaj (by omega),Zaj (by omega),Zaj (by omega)]
  have k100:pm [(1,some 302),(2,some 305),(100+k,some 300),(200+k,some 303)] (100+k)=some 300:=by
   simp only[pm];rw[Zaj (by omega),Zaj (by omega),Zao trivial]
  have k200:pm [(1,some 302),(2,some 305),(100+k,some 300),(200+k,some 303)] (200+k)=some 303:=by
   simp only[pm];rw[Zaj (by omega),Zaj (by omega),Zaj (by omega),Zao trivial]
  have q0:pm [(1,some 302),(2,some 305),(100+k,some 300),(200+k,some 303)] 0=some 0:=by
   simp only[pm];rw[Zaj (by omega),Zaj (by omega),Zaj (by omega),Zaj (by omega)]
  have q1:pm [(1,some 302),(2,some 305),(100+k,some 300),(200+k,some 303)] 1=some 302:=rfl;have q2:pm [(1,some 302),(2,some 305),(100+k,some 300),(200+k,some 303)] 2=some 305:=rfl;obtain⟨π,hπ⟩: ∃π,π=[(1,some 302),(2,some 305),(100+k,some 300),(200+k,some 303)]:=⟨_,rfl⟩;rw[<-hπ] at q100 q200 k100 k200 q0 q1 q2⊢;refine⟨by rw[hπ];exact⟨by omega,by omega,by omega,by omega,trivial⟩,?_,?_,?_⟩
  .rw[Qi7,hπ];simp only[Qg1,Qpf,matH,Qe0];refine Ql1 _ _ (nw_nodup (k+1) (by omega)) ?_;intro x hx y hy m hm1 hm2;have hx3:=nw_lt (k+1) (by omega) x hx;have hy3:=nw_lt (k+1) (by omega) y hy;simp only[pm] at hm1 hm2
   repeat' split at hm1
   all_goals repeat' split at hm2
   all_goals simp only[Zae] at hm1 hm2
   all_goals omega
  .simp only[Qpt,tget];simp(maxSteps:=9^9)(disch:=omega)only[ZZ,simprocAttr,rch,ORB,nwC.ca,exW,q0];rw[Qak (by omega) (by omega)];omega
  .simp only[Qgb,Qns,matH,Qgn];refine⟨?_,?_,?_,fun i hi=> ?_,fun i hi=> ?_⟩
   .simp(maxSteps:=9^9)(disch:=omega)only[ZZ,simprocAttr,rch,ORB,nwC.ca,exW,q0,q1,q2]
   .simp(maxSteps:=9^9)(disch:=omega)only[ZZ,simprocAttr,rch,ORB,nwC.ca,exW,q0,q1,q2];refine Qyn (g:=fun i=>if i<k then 100+i else 300) (fun i hi=> ?_) (Ql0 100 k 300);by_cases h:i<k
    .rw[Zao h,q100 i h]
    .rw[Zaj h,show i=k by omega,k100]
   .simp(maxSteps:=9^9)(disch:=omega)only[ZZ,simprocAttr,rch,ORB,nwC.ca,exW,q0,q1,q2];refine Qyn (g:=fun i=>if i<k then 200+i else 303) (fun i hi=> ?_) (Ql0 200 k 303);by_cases h:i<k
    .rw[Zao h,q200 i h]
    .rw[Zaj h,show i=k by omega,k200]
   .by_cases h:i<k
    .rw[q100 i h,hg i (by omega)];simp only[entN,hget,Qao _ _ (show 0≠100+i by omega),Qao _ _ (show 305≠100+i by omega),Qao _ _ (show 303≠100+i by omega),Qao _ _ (show 302≠100+i by omega),Qao _ _ (show 300≠100+i by omega),ZaS,Qeg];have h9:=Qe9 k (List.replicate n (List.replicate n 0)) (List.replicate n (List.replicate n 0)) i h;simp only[matH] at h9;simp (disch:=omega) only[ZcQ,ZcG,Qao,ZcK,ZaB,Zby,h9,hg,entM,mtE,Zcl]
    .rw[show i=k by omega,k100,hg k (by omega)];simp(maxSteps:=9^9)(disch:=omega)only[ZZ,simprocAttr,rch,ORB,nwC.ca,exW,Qot]
   .by_cases h:i<k
    .rw[q200 i h,hg i (by omega)];simp only[entN,hget,Qao _ _ (show 0≠200+i by omega),Qao _ _ (show 305≠200+i by omega),Qao _ _ (show 303≠200+i by omega),Qao _ _ (show 302≠200+i by omega),Qao _ _ (show 300≠200+i by omega),ZaS,Qeg];have h9:=Qfe k (List.replicate n (List.replicate n 0)) (List.replicate n (List.replicate n 0)) i (by omega) h;simp only[matH] at h9;simp (disch:=omega) only[ZcQ,ZcG,Qao,ZcK,ZaB,Zby,h9,hg,entM,mtE,Zcl]
    .rw[show i=k by omega,k200,hg k (by omega)];simp(maxSteps:=9^9)(disch:=omega)only[ZZ,simprocAttr,rch,ORB,nwC.ca,exW,Qot]
 .intro _;have hkn:k=n:=by omega
  subst hkn;clear hk hk1;refine Qay.old ⟨{j:Nat//j<=bs.length},fun j=>⟨[(38,.im (.int .i64 j.1)),(37,.im (.int .i64 bs.length)),(36,.im (.sl false 3 (bs.map Bond.c))),(5,.ptr 0 0)],(0,(true,.cells 242 [.own 1,.own 2]))::(1,(true,.arrA 37 1 (Qch 100 k)))::(2,(true,.arrA 37 1 (Qch 200 k)))::(matH 100 k (netK k bs j.1).Room++matH 200 k (netK k bs j.1).Flow),300⟩,fun j=>bs.length - j.1,fun j=>⟨?_,by simp⟩,⟨⟨0,by simp⟩,?_⟩,fun j=> ?_⟩
  .exact Qow _ _ _ (by omega) _ (by simp[belT,AV.bel])
  .simp only[sub,subT,subH,tget,hget,Qg0];simp(maxSteps:=9^9)(disch:=omega)only[ZZ,simprocAttr,rch,ORB,nwC.ca,exW,sub,Qg0,Qla,netK,netZ];refine⟨fun i hi=> ?_,fun i hi=> ?_⟩
   .rw[Zaj (by omega),Zaj (by omega),Zaj (by omega)];exact Qe9 _ _ _ _ hi
   .rw[Zaj (by omega),Zaj (by omega),Zaj (by omega)];exact Qfe _ _ _ _ (by omega) hi
  obtain⟨j,hj⟩:=j;obtain⟨hok,_⟩:=Qhc hbs j;obtain⟨x,hx⟩: ∃x,x=netK k bs j:=⟨_,rfl⟩;simp only[<-hx] at hok⊢;simp(maxSteps:=9^9)(disch:=omega)only[ZZ,simprocAttr,rch,ORB,nwC.ca,exW,sub,Qal,Qba,Qbj];refine⟨fun hj2=>⟨hj2,fun b hb=> ?_⟩,fun hj2=> ?_⟩
  .obtain⟨b1,b2,b3,b4⟩:=hbs b (Zaf hb);have hbne:=hne b (Zaf hb);have hbs2:=hst b (Zaf hb);obtain⟨u,hu⟩: ∃u:Nat,b.A=u:=⟨b.A.toNat,by omega⟩;obtain⟨v,hv⟩: ∃v:Nat,b.B=v:=⟨b.B.toNat,by omega⟩;have hux:u<k:=by omega
   have hvx:v<k:=by omega
   have huv:u≠v:=by omega
   simp only[hu,hv,Zam];refine⟨by omega,by omega,by omega,?_⟩;have hr: ∀i,i<k->(x.Room[i]?.getD []).length=k:=by
    intro i hi;rw[Zad (by rw[hok.r];exact hi),Zag];exact hok.rr _ (Zcf _)
   have hru:=hr u hux;have hrv:=hr v hvx;simp(maxSteps:=9^9)(disch:=omega)only[ZZ,simprocAttr,rch,ORB,nwC.ca,exW,sub,Qal,Qjf,Qba,Qbj,Qao,Qce,Qe9,hu,hv,Zam,hru,hrv,Qxa,Qdj,ZbG,Zeh,Qg0,Qla];have hb1:=Qrm hbs hst u v j;have hb2:=Qrm hbs hst v u j;rw[<-hx] at hb1 hb2;refine⟨by omega,hvx,by omega,hvx,fun x1 e1=>⟨hvx,by omega,hvx,fun x2 _=>⟨.inr (by omega),hvx,hvx,by omega,hux,by omega,hux,fun x3 e3=>⟨hux,by omega,hux,fun x4 _=>⟨.inr (by omega),⟨j+1,by omega⟩,by simp only;omega,by rw[Qak (by omega) (by omega)];simp only;omega,?_⟩⟩⟩⟩⟩;have r1:rmF x u v=x1:=by simp only[rmF,Qf4,e1,Zag]
   have r3:rmF x v u=x3:=by simp only[rmF,Qf4,e3,Zag]
   rw[r1] at hb1;rw[r3] at hb2;rw[Qak (by omega) (by omega),Qak (by omega) (by omega)];have hN:netK k bs (j+1)=addB x b:=by simp only[netK,hb,<-hx]
   have hR: ∀i,i<k->(netK k bs (j+1)).Room[i]?.getD []=if v=i then (x.Room[v]?.getD []).set u (x3+b.Strength) else if u=i then (x.Room[u]?.getD []).set v (x1+b.Strength) else x.Room[i]?.getD []:=by
    intro i hi;rw[hN];simp only[addB,Qft,hu,hv,Zam];by_cases h1:v=i
    .subst h1;rw[Zao rfl,ZaD (by rw[ZbG,hok.r];exact hvx),Zag,ZaF huv,e3,Zag]
    .rw[Zaj h1,ZaF h1];by_cases h2:u=i
     .subst h2;rw[Zao rfl,ZaD (by rw[hok.r];exact hux),Zag,e1,Zag]
     .rw[Zaj h2,ZaF h2]
   have hF:(netK k bs (j+1)).Flow=x.Flow:=by rw[hN];rfl
   refine⟨fun i hi=> ?_,fun i hi=> ?_⟩
   .rw[hR i hi];by_cases h1:v=i
    .subst h1;rw[Zao rfl,Zao rfl]
    .rw[Zaj (by omega),Zaj h1];by_cases h2:u=i
     .subst h2;rw[Zao rfl,Zao rfl]
     .rw[Zaj (by omega),Zaj h2,Zaj (by omega)];exact Qe9 _ _ _ _ hi
   .rw[Zaj (by omega),hF];exact Qfe _ _ _ _ (by omega) hi
  .have hje:j=bs.length:=by omega
   subst hje;rw[hx];exact outOk_nw (x:=netF k bs) (n:=k) (by omega) (fun o ho=>by
    have h1:(domB [] o||(exW o && (Nat.ble 0 o && Nat.blt o (0+320))))=true:=by
     have h2:=exW_lt o ho;simp[ho];omega
    simp only[kxB,h1,Zbf])
 rcases nw_mem hp with ⟨h1,h2⟩
 have hlt:=exW_lt p.1 h1;exact .inr ⟨by omega,by omega,h1,h2⟩
structure nwIn(H:Nat->Option Ent)(x:Nwk)(n:Nat):Prop where
 g0:H 0=some (true,.cells 242 [.own 1,.own 2])
 g1:H 1=some (true,.arrA 37 1 (Qch 100 n))
 g2:H 2=some (true,.arrA 37 1 (Qch 200 n))
 ga: ∀i,i<n->H (100+i)=some (true,.arr 2 1 ((x.Room[i]?.getD []).map intC))
 gb: ∀i,i<n->H (200+i)=some (true,.arr 2 1 ((x.Flow[i]?.getD []).map intC))
theorem rows_all{M:List (List Int)}{n:Nat}(h:M.length=n):(List.range n).map (fun i=>Qcd (M[i]?.getD []))=M.map Qcd:=by
 apply ZbM;intro i;rw[ZaN,ZaN];by_cases hi:i<n
 .rw[ZbF hi,Zad (by omega:i<M.length)];simp only[ZaO,Zad (show i<M.length by omega),Zag]
 .rw[ZaY (by simp;omega),ZaY (by omega)];rfl
theorem nw_rows{H:Nat->Option Ent}{m b o n:Nat}{M:List (List Int)}(hl:M.length=n)(h1:H o=some (true,.arrA 37 1 (Qch b n)))(h2: ∀i,i<n->H (b+i)=some (true,.arr 2 1 ((M[i]?.getD []).map intC))):
 bk H (m+2) (.own o)=some (.sl false 1 (M.map Qcd)):=by
 simp only[bk,h1,Qwz];rw[Qch,Qnl (f:=mapO (bk H (m+1))) (g:=fun i=>[AV.own (b+i)]) (k:=fun i=>Qcd (M[i]?.getD [])),rows_all hl]
 .rfl
 .intro i hi;simp only[mapO,bk,h2 i (ZaI.1 hi),Qwz];rfl
theorem nw_read{H:Nat->Option Ent}{x:Nwk}{n:Nat}(h:nwIn H x n)(hok:Qjx x n)(a b:D):pkFL H [.ptr 0 0,.im a,.im b]=some [.ptr (Nwk.c x),pkI a,pkI b]:=by
 have e1:=nw_rows (m:=6) hok.r h.g1 h.ga;have e2:=nw_rows (m:=6) hok.f h.g2 h.gb;simp only[pkFL,pkF,h.g0,Qu4,Zci,mapO,e1,e2,pkFP,ZaO,Qabo];rfl
theorem way_call{H:Nat->Option Ent}{x:Nwk}{n nx:Nat}{K:Kont}(h:nwIn H x n)(hok:Qjx x n)(hn:n<=1000){p q:Int}(hp0:0<=p)(hp1:p<n)(hq0:0<=q)(hq1:q<n)
 (hK: ∀U,K (.im (.sl true 1 ((wayN x n p q).map intC))) {use:=U}):wayC.row [.ptr 0 0,.im (.int .i64 p),.im (.int .i64 q)] H nx K:=by
 have hr:=hok.r;rw[wayC.q,nw_read h hok];have e:Nwk.d ((Nwk.c x).take 2)=some x:=Nwk.d_c x;simp only[Qct,b3,qP,qI,a3,kP,kI,pkI,e,ZbK,decK];refine⟨⟨hr▸hok,by omega,hp0,by omega,hq0,by omega⟩,?_⟩;have e2:wayC.re (wayC.fv (x,p,q))= .sl true 1 ((wayN x n p q).map intC):=by simp only[wayC.re,wayC.fv,hr]
 rw[e2];exact hK _
def sndC.n(a:Nwk×Int×Int×Int):Nat:=min a.1.Room.length 64
def Qpd(n:Nat)(p q:Int):Nat->Nwk->Nwk
 |0,x=>x
 |m+1,x=>if wayN x n p q=[] then x else Qpd n p q m (Qgo x (wayN x n p q) ((wayN x n p q).length - 1))
def sndC.ca(a:Nwk×Int×Int×Int):List AV:=[.ptr 0 0,.im (.int .i64 a.2.1),.im (.int .i64 a.2.2.1),.im (.int .i64 a.2.2.2)]
def sndC.H0(a:Nwk×Int×Int×Int):Qan:=nwH a.1 (sndC.n a)
def sndC.H1(a:Nwk×Int×Int×Int):Qan:=matH 200 (sndC.n a) (Qpd (sndC.n a) a.2.1 a.2.2.1 a.2.2.2.toNat a.1).Flow
def sndC.r0(a:Nwk×Int×Int×Int):AV:= .im (.int .i64 (Qeq (sndC.n a) a.2.1 a.2.2.1 a.2.2.2.toNat a.1))
structure sndPre(a:Nwk×Int×Int×Int):Prop where
 n:a.1.Room.length<=64
 ok:Qjx a.1 a.1.Room.length
 p0:0<=a.2.1
 p1:a.2.1<a.1.Room.length
 q0:0<=a.2.2.1
 q1:a.2.2.1<a.1.Room.length
 pq:a.2.1≠a.2.2.1
 m0:0<=a.2.2.2
 m1:a.2.2.2<=1000000
 fl: ∃v,Qh5 (rmF a.1) (flF a.1) a.1.Room.length a.2.1.toNat a.2.2.1.toNat v
 rm: ∀u v,rmF a.1 u v<=10000000000000
def klF(j:Nat):Bool:=Nat.ble 200 j && Nat.blt j 264
def sndC.row:Row:=orow sndC.ca sndC.H0 300 sndPre klF sndC.r0 sndC.H1 10
theorem sndC.hbel(a:Nwk×Int×Int×Int):belL 300 (sndC.ca a)=true:=rfl
theorem sndC.n_le(a:Nwk×Int×Int×Int):sndC.n a<=64:=ZcE _ _
theorem Qaak(x:Nwk)(n:Nat)(hn:n<=64):belH 300 (nwH x n)=true/\Qam 300 (nwH x n)=true:=by
 have:=Qow n x.Room x.Flow hn [] rfl
 simp only[Qad.good,Zah] at this;exact this.2
theorem sndC.hbH(a:Nwk×Int×Int×Int):belH 300 (sndC.H0 a)=true:=(Qaak _ _ (sndC.n_le a)).1
theorem sndC.hkH(a:Nwk×Int×Int×Int):Qam 300 (sndC.H0 a)=true:=(Qaak _ _ (sndC.n_le a)).2
theorem Qji(x:Nwk)(n:Nat)(hn:n<=64):nwIn (hget (nwH x n)) x n:=by
 refine⟨rfl,rfl,rfl,fun i hi=> ?_,fun i hi=> ?_⟩
 .simp only[nwH,hget,Qao _ _ (show 0≠100+i by omega),Qao _ _ (show 1≠100+i by omega),Qao _ _ (show 2≠100+i by omega),ZaS];exact Qe9 _ _ _ _ hi
 .simp only[nwH,hget,Qao _ _ (show 0≠200+i by omega),Qao _ _ (show 1≠200+i by omega),Qao _ _ (show 2≠200+i by omega),ZaS];exact Qfe _ _ _ _ (by omega) hi
theorem Qvt(H0:Qan): ∀(a b:Qan),Qc2 H0 (a++b)↔Qc2 H0 a/\Qc2 H0 b
 |[],b=>by simp[Qc2]
 |(i,(mu,e))::r,b=>by simp only[ZaA,Qc2,Qvt H0 r b,ZeI]
theorem Qud(H0:Qan)(b n:Nat)(M:List (List Int)):Qc2 H0 (matH b n M):=by
 have: ∀(l:List Nat),Qc2 H0 (l.map fun i=>(b+i,(true,AObj.arr 2 1 ((M[i]?.getD []).map intC)))):=by
  intro l;induction l with
  |nil=>simp[Qc2]
  |cons i r ih=>simp only[Zaq,Qc2];exact⟨fun m hm=>by simp[AObj.nms] at hm,ih⟩
 exact this _
theorem Qu6(b n:Nat): ∀m∈nmsR (Qch b n),∃i,i<n/\m=b+i:=by
 have: ∀(l:List Nat),(∀i∈l,i<n)-> ∀m∈nmsR (l.map fun i=>[AV.own (b+i)]),∃i,i<n/\m=b+i:=by
  intro l;induction l with
  |nil=>intro _ m hm;simp[nmsR] at hm
  |cons i r ih=>
   intro hl m hm;simp only[Zaq,nmsR,nmsL,AV.nms,ZaK,Zan,Zal] at hm;rcases hm with rfl|hm
   .exact⟨i,hl i (Zat ..),rfl⟩
   .exact ih (fun j hj=>hl j (Zas _ hj)) m hm
 exact this _ (fun i hi=>ZaI.1 hi)
theorem nwH_nms(x:Nwk)(n:Nat)(hn:n<=64):Qc2 (nwH x n) (nwH x n):=by
 have hI:=Qji x n hn;have hd: ∀o e,hget (nwH x n) o=some e->domB (nwH x n) o=true:=fun o e h=>by simp only[domB,h];rfl
 obtain⟨H,hH⟩: ∃H,H=nwH x n:=⟨_,rfl⟩;rw[<-hH] at hI hd;rw[show Qc2 (nwH x n) (nwH x n)=Qc2 H (nwH x n) by rw[hH]];simp only[nwH,Qc2,Qvt];refine⟨fun m hm=> ?_,fun m hm=> ?_,fun m hm=> ?_,Qud _ _ _ _,Qud _ _ _ _⟩
 .simp only[AObj.nms,nmsL,AV.nms,ZaK,Zan,Zal] at hm;rcases hm with rfl|rfl
  .exact hd _ _ hI.g1
  .exact hd _ _ hI.g2
 .obtain⟨i,hi,rfl⟩:=Qu6 100 n m hm;exact hd _ _ (hI.ga i hi)
 .obtain⟨i,hi,rfl⟩:=Qu6 200 n m hm;exact hd _ _ (hI.gb i hi)
theorem subH_nw{s:Qad}{x:Nwk}{n:Nat}(h:nwIn (hget s.h) x n):subH s (nwH x n):=by
 simp only[nwH,subH,Qg0,Qla];exact⟨h.g0,h.g1,h.g2,h.ga,h.gb⟩
theorem roB_app(h:Nat->Option Ent)(f:Nat->Bool): ∀(a b:Qan),roB h f (a++b)↔roB h f a/\roB h f b
 |[],b=>by simp[roB]
 |(i,e)::r,b=>by simp only[ZaA,roB,roB_app h f r b,ZeI]
theorem klF_2(i:Nat)(h:i<64):klF (200+i)=true:=by
 simp only[klF,Zah,ZcS,ZbW];omega
theorem Qxi(h:Nat->Option Ent)(f:Nat->Bool)(b:Nat)(g:Nat->Ent)(n:Nat)(H: ∀i,i<n->f (b+i)=true\/h (b+i)=some (g i)):roB h f (famH b n g):=by
 have: ∀(l:List Nat),(∀i∈l,i<n)->roB h f (l.map fun i=>(b+i,g i)):=by
  intro l;induction l with
  |nil=>intro _;trivial
  |cons i r ih=>
   intro hl;simp only[Zaq,roB];refine⟨?_,ih (fun j hj=>hl j (Zas _ hj))⟩;rcases H i (hl i (Zat ..)) with h1|h1
   .rw[h1];trivial
   .cases f (b+i)
    .exact h1
    .trivial
 exact this _ (fun i hi=>ZaI.1 hi)
theorem roB_mat1{h:Nat->Option Ent}{n:Nat}(hn:n<=64){M:List (List Int)}(H: ∀i,i<n->h (100+i)=some (true,.arr 2 1 ((M[i]?.getD []).map intC))):roB h klF (matH 100 n M):=Qxi _ _ _ _ _ (fun i hi=> .inr (H i hi))
theorem roB_mat2{h:Nat->Option Ent}{n:Nat}(hn:n<=64){M:List (List Int)}:roB h klF (matH 200 n M):=Qxi _ _ _ _ _ (fun i hi=> .inl (klF_2 i (by omega)))
theorem sndC.hnm(a:Nwk×Int×Int×Int):Qc2 (sndC.H0 a) (sndC.H0 a):=nwH_nms _ _ (sndC.n_le a)
theorem sndC.ok:Qas Tryz.prog 160 sndC.row:=by
 refine ow (tC wayC.ok tN) Tryz.func160 rfl (by kernel_rfl) (exB:=fun _=>false) (R:=fun a r=>r=sndC.r0 a) (fun _=>rfl)
  (fun a=>⟨sndC.hbel a,sndC.hbH a,sndC.hkH a,sndC.hnm a⟩) (fun a p hp=> ?_) (fun a r h=>by subst h;exact LeV.refl _) ?_
 rotate_left
 intro a hpre;simp only[Tryz.f160,Option.getD,sndC.ca];simp(maxSteps:=9^9)(disch:=omega)only[ZZ,simprocAttr,rch,ORB,sndC.ca];obtain⟨x,p,q,mo⟩:=a;obtain⟨hn,hok,hp0,hp1,hq0,hq1,hpq,hm0,hm1,hfl,hrm⟩:=hpre;simp only at hn hok hp0 hp1 hq0 hq1 hpq hm0 hm1 hfl hrm;obtain⟨n,hnn⟩: ∃n,n=x.Room.length:=⟨_,rfl⟩;obtain⟨M,hM⟩: ∃M:Nat,mo=M:=⟨mo.toNat,by omega⟩;subst hM;have hsn: ∀y:Int×Int×Int,sndC.n (x,y)=n:=fun y=>by simp only[sndC.n,<-hnn];omega
 simp only[sndC.H1,sndC.r0,sndC.H0,hsn,Zam,nwH,Qba];rw[<-hnn] at hn hok hp1 hq1 hfl;refine Qay.old ⟨{s:Nat×Nwk//s.1<=M/\Qjx s.2 n/\s.2.Room=x.Room/\(∃v,Qh5 (rmF x) (flF s.2) n p.toNat q.toNat v)/\Qeq n p q M x=Qeq n p q (M - s.1) s.2+s.1/\Qpd n p q M x=Qpd n p q (M - s.1) s.2},fun s=>⟨[(9,.im (.int .i64 s.1.1)),(0,.ptr 0 0),(1,.im (.int .i64 p)),(2,.im (.int .i64 q)),(3,.im (.int .i64 M))],nwH s.1.2 n,300⟩,fun s=>M - s.1.1,fun s=>⟨?_,by simp⟩,⟨⟨(0,x),by simp only;omega,hok,rfl,hfl,by simp,by simp⟩,?_⟩,fun s=> ?_⟩
 .simp only[nwH];exact Qow _ _ _ hn _ (by simp[belT,AV.bel])
 .simp only[sub,subT,tget];refine⟨?_,?_⟩
  .simp(maxSteps:=9^9)(disch:=omega)only[ZZ,simprocAttr,rch,ORB,sndC.ca]
  .exact subH_nw (Qji x n hn)
 obtain⟨⟨k,y⟩,i1,i2,i3,i4,i5,i6⟩:=s;simp only at i1 i2 i3 i4 i5 i6;simp only[nwH];simp(maxSteps:=9^9)(disch:=omega)only[ZZ,simprocAttr,rch,ORB,sndC.ca,Qba];refine way_call (Qji y n hn) i2 (by omega) hp0 hp1 hq0 hq1 (fun U=> ?_);obtain⟨L,hL⟩: ∃L,L=wayN y n p q:=⟨_,rfl⟩;rw[<-hL];simp(maxSteps:=9^9)(disch:=omega)only[ZZ,simprocAttr,rch,ORB,sndC.ca,Qba,sub,Qal];have hret:(Qeq n p q (M - k) y=0)->(Qpd n p q (M - k) y=y)->(((bif klF 0 then True else True)/\(bif klF 1 then True else True)/\(bif klF 2 then True else True)/\roB (hget (nwH y n)) klF (matH 100 n x.Room++matH 200 n x.Flow))/\(k:Int)=Qeq n p q M x/\ ∀kx,Qhk (hget (nwH y n)) (cvt (hget (nwH y n)) kx 9) (matH 200 n (Qpd n p q M x).Flow)):=by
  intro e1 e2;have hI:=Qji y n hn;refine⟨⟨trivial,trivial,trivial,(roB_app _ _ _ _).2 ⟨roB_mat1 hn (fun i hi=>by rw[hI.ga i hi,i3]),roB_mat2 hn⟩⟩,by omega,fun kx=> ?_⟩;rw[i6,e2];exact Qoq _ _ _ _ _ hI.gb
 have hLe:(L.map intC).isEmpty=L.isEmpty:=by cases L<;>rfl
 rw[hLe];refine⟨fun c1=>⟨fun c2=> ?_,fun c2=> ?_⟩,fun c1=> ?_⟩
 .obtain⟨g1,g2,g3⟩:=hret (by rw[show M - k=0 by omega];rfl) (by rw[show M - k=0 by omega];rfl);exact⟨g1,g2,g3 _⟩
 .have hLn:L≠[]:=by intro h;rw[h] at c1;cases c1
  have hW:isWay y n p q L:=by rw[hL];exact way_is hp0 hp1 hq0 hq1 (by rw[<-hL];exact hLn)
  have hpos:=hW.pos;obtain⟨v,hv⟩:=i4;have hLs: ∀i,i<L.length-> ∃w:Nat,L[i]? =some (w:Int)/\w<n:=by
   intro i hi
   have:=hW.inb _ (Zcf hi)
   refine⟨(L[i]).toNat,by rw[Zad hi];congr 1;omega,by omega⟩
  refine Qay.old ⟨{j:Nat//j+1<=L.length},fun j=>⟨[(11,.im (.int .i64 ((j.1:Int)+1))),(10,.im (.sl true 1 (L.map intC))),(9,.im (.int .i64 k)),(0,.ptr 0 0),(1,.im (.int .i64 p)),(2,.im (.int .i64 q)),(3,.im (.int .i64 M))],nwH (Qgo y L j.1) n,300⟩,fun j=>L.length - j.1,fun j=>⟨?_,by simp⟩,⟨⟨0,by omega⟩,?_⟩,fun j=> ?_⟩
  .simp only[nwH];exact Qow _ _ _ hn _ (by simp[belT,AV.bel])
  .simp only[sub,subT,tget];refine⟨?_,?_⟩
   .simp(maxSteps:=9^9)(disch:=omega)only[ZZ,simprocAttr,rch,ORB,sndC.ca]
   .exact subH_nw (Qji y n hn)
  obtain⟨j,hj⟩:=j;have hzok:=Qm6 i2 hW.inb j (by omega);obtain⟨z,hz⟩: ∃z,z=Qgo y L j:=⟨_,rfl⟩;simp only[<-hz] at hzok⊢;simp only[nwH];have ej:((j:Int)+1).toNat=j+1:=by omega
  simp(maxSteps:=9^9)(disch:=omega)only[ZZ,simprocAttr,rch,ORB,sndC.ca,Qba,sub,Qal,Qbj];intro hlim;have ew:IntKind.i64.wrap ((j:Int)+1 - 1)=j:=by rw[Qak (by omega) (by omega)];omega
  have ew2:IntKind.i64.wrap ((j:Int)+1+1)=(j:Int)+1+1:=Qak (by omega) (by omega);simp only[ew,Zam];refine⟨fun hj2=> ?_,fun hj2=> ?_⟩
  .obtain⟨u,hLu,hu⟩:=hLs j (by omega);obtain⟨w,hLw,hw⟩:=hLs (j+1) (by omega);have huw:u≠w:=by
    intro h
    have:=hW.nd j (j+1) (by omega) (by omega) (by simp only[Lf,hLu,hLw,h])
    omega
   have hr: ∀i,i<n->(z.Flow[i]?.getD []).length=n:=by
    intro i hi;rw[Zad (by rw[hzok.f];exact hi),Zag];exact hzok.ff _ (Zcf _)
   have hru:=hr u hu;have hrw:=hr w hw;simp only[hLu,Zae,forall_eq'];simp(maxSteps:=9^9)(disch:=omega)only[ZZ,simprocAttr,rch,ORB,sndC.ca,sub,Qal,Qjf,Qba,Qbj,Qao,Qce,Qfe,ew,ew2,ej,hLu,hLw,Zae,forall_eq',hru,hrw,Qxa,Qdj,ZbG,Zeh,Qg0,Qla];have hb: ∀a b,a<n->b<n-> -10000000000002<=flF z a b/\flF z a b<=10000000000002:=by
    intro a b ha hb;have h1:=Qso i2 hW.inb a b j (by omega);have h2:=Qr1 (L:=Lf L) (m:=L.length - 1) (fun i j hi hj=>hW.nd i j (by omega) (by omega)) a b j (by omega);have h3:=Qr1 (L:=Lf L) (m:=L.length - 1) (fun i j hi hj=>hW.nd i j (by omega) (by omega)) b a j (by omega);have h4:=Qfb (Lf L) a b j;have h5:=Qfb (Lf L) b a j;have h6:=hv.cap a b ha hb;have h7:=hv.cap b a hb ha;have h8:=hv.anti a b ha hb;have h9:=hrm a b;have h10:=hrm b a;rw[<-hz] at h1;simp only[flF] at*;omega
   have hb1:=hb u w hu hw;have hb2:=hb w u hw hu;refine⟨by omega,hu,hu,by omega,by omega,by omega,hw,by omega,hw,fun x1 e1=>⟨hw,by omega,hw,fun _ _=>⟨.inr (by omega),by omega,by omega,hw,hw,by omega,by omega,hu,by omega,hu,fun x3 e3=>⟨hu,by omega,hu,fun _ _=>⟨.inr (by omega),⟨j+1,by omega⟩,by simp only;omega,by simp only;omega,?_⟩⟩⟩⟩⟩;have r1:flF z u w=x1:=by simp only[flF,Qf4,e1,Zag]
   have r3:flF z w u=x3:=by simp only[flF,Qf4,e3,Zag]
   rw[r1] at hb1;rw[r3] at hb2;rw[Qak (by omega) (by omega),Qak (by omega) (by omega)];have hN:Qgo y L (j+1)=Qaba z u w:=by simp only[Qgo,hLu,hLw,Zag,<-hz]
   have hR: ∀i,i<n->(Qgo y L (j+1)).Flow[i]?.getD []=if w=i then (z.Flow[w]?.getD []).set u (x3 - 1) else if u=i then (z.Flow[u]?.getD []).set w (x1+1) else z.Flow[i]?.getD []:=by
    intro i hi;rw[hN];simp only[Qaba,Qft,Zam];by_cases h1:w=i
    .subst h1;rw[Zao rfl,ZaD (by rw[ZbG,hzok.f];exact hw),Zag,ZaF huw,e3,Zag];rfl
    .rw[Zaj h1,ZaF h1];by_cases h2:u=i
     .subst h2;rw[Zao rfl,ZaD (by rw[hzok.f];exact hu),Zag,e1,Zag]
     .rw[Zaj h2,ZaF h2]
   have hF:(Qgo y L (j+1)).Room=z.Room:=by rw[hN];rfl
   refine⟨fun i hi=> ?_,fun i hi=> ?_⟩
   .rw[Zaj (by omega),Zaj (by omega)];show _=some (true,AObj.arr _ 1 (List.map intC ((Qgo y L (j+1)).Room[i]?.getD [])));rw[hF];exact Qe9 _ _ _ _ hi
   .show _=some (true,AObj.arr _ 1 (List.map intC ((Qgo y L (j+1)).Flow[i]?.getD [])));rw[hR i hi];by_cases h1:w=i
    .subst h1;rw[Zao rfl,Zao rfl]
    .rw[Zaj (by omega),Zaj h1];by_cases h2:u=i
     .subst h2;rw[Zao rfl,Zao rfl]
     .rw[Zaj (by omega),Zaj h2];exact Qfe _ _ _ _ (by omega) hi
  .have hje:j=L.length - 1:=by omega
   subst hje;obtain⟨m,hm⟩: ∃m,M - k=m+1:=⟨M - k - 1,by omega⟩;have hne: ¬wayN y n p q=[]:=by rw[<-hL];exact hLn
   have e5:Qeq n p q (m+1) y=Qeq n p q m z+1:=by simp only[Qeq];rw[Zaj hne,<-hL,<-hz]
   have e6:Qpd n p q (m+1) y=Qpd n p q m z:=by simp only[Qpd];rw[Zaj hne,<-hL,<-hz]
   rw[hm] at i5 i6;have hfl2:=(Qun i2 hp0 hp1 hpq hq0 (v:=v) (by rw[show rmF y=rmF x by funext a b;simp only[rmF,i3]];exact hv) hW).2;have hz3:z.Room=x.Room:=by rw[hz,Ql3,i3]
   rw[show rmF y=rmF x by funext a b;simp only[rmF,i3],<-hz] at hfl2;refine⟨⟨(k+1,z),by simp only;omega,hzok,hz3,⟨_,hfl2⟩,by simp only;rw[show M - (k+1)=m by omega];omega,by simp only;rw[show M - (k+1)=m by omega,i6,e6]⟩,by simp only;omega,?_⟩;refine⟨by rw[Qak (by omega) (by omega)];simp only;omega,?_⟩;simp only[Qg0,Qla];exact⟨(Qji z n hn).ga,(Qji z n hn).gb⟩
 .have hLn:L=[]:=by
   cases L with
   |nil=>rfl
   |cons a r=>exact absurd rfl c1
  have hw:wayN y n p q=[]:=by rw[<-hL,hLn]
  have z1: ∀m,Qeq n p q m y=0:=by
   intro m;cases m with
   |zero=>rfl
   |succ m=>simp only[Qeq];rw[Zao hw]
  have z2: ∀m,Qpd n p q m y=y:=by
   intro m;cases m with
   |zero=>rfl
   |succ m=>simp only[Qpd];rw[Zao hw]
  obtain⟨g1,g2,g3⟩:=hret (z1 _) (z2 _);exact⟨g1,g2,g3 _⟩
 simp only[sndC.H1,matH,famH,ZaJ,ZaI] at hp;obtain⟨i,hi,rfl⟩:=hp;have h64:=sndC.n_le a;refine .inl ⟨by omega,by simp only[klF,Zah,ZcS,ZbW];omega,?_⟩;simp only[domB,sndC.H0];rw[(Qji a.1 (sndC.n a) h64).gb i hi];rfl
theorem Qwi(h:Nat->Option Ent)(σ:Nat->Nat): ∀(a b:Qan),Qer h σ (a++b)↔Qer h σ a/\Qer h σ b
 |[],b=>by simp[Qer]
 |(i,(mu,e))::r,b=>by simp only[ZaA,Qer,Qwi h σ r b,ZeI]
theorem Qt1{h:Nat->Option Ent}{σ:Nat->Nat}{b n:Nat}{M:List (List Int)}(H: ∀i,i<n->h (σ (b+i))=some (true,.arr 2 1 ((M[i]?.getD []).map intC))):Qer h σ (matH b n M):=by
 have: ∀(l:List Nat),(∀i∈l,i<n)->Qer h σ (l.map fun i=>(b+i,(true,AObj.arr 2 1 ((M[i]?.getD []).map intC)))):=by
  intro l;induction l with
  |nil=>intro _;trivial
  |cons i r ih=>
   intro hl;simp only[Zaq,Qer];exact⟨H i (hl i (Zat ..)),ih (fun j hj=>hl j (Zas _ hj))⟩
 exact this _ (fun i hi=>ZaI.1 hi)
theorem Qth{σ:Nat->Nat}{b n:Nat}{M:List (List Int)}(H: ∀i,i<n->σ (b+i)=b+i):renH σ (matH b n M)=matH b n M:=by
 have: ∀(l:List Nat),(∀i∈l,i<n)->renH σ (l.map fun i=>(b+i,(true,AObj.arr 2 1 ((M[i]?.getD []).map intC))))=l.map fun i=>(b+i,(true,AObj.arr 2 1 ((M[i]?.getD []).map intC))):=by
  intro l;induction l with
  |nil=>intro _;rfl
  |cons i r ih=>
   intro hl;simp only[Zaq,renH];rw[H i (hl i (Zat ..)),ih (fun j hj=>hl j (Zas _ hj))];rfl
 exact this _ (fun i hi=>ZaI.1 hi)
theorem Qj9{σ:Nat->Nat}{b n:Nat}(H: ∀i,i<n->σ (b+i)=b+i):(Qch b n).map (renL σ)=Qch b n:=by
 simp only[Qch,Zdq];refine Zcp fun i hi=> ?_
 simp only[Function.comp,renL,AV.ren,H i (ZaI.1 hi)]
theorem Qzq(σ:Nat->Nat): ∀(a b:Qan),renH σ (a++b)=renH σ a++renH σ b
 |[],b=>rfl
 |(i,(mu,e))::r,b=>by simp only[ZaA,renH,Qzq σ r b]
theorem renH_nw{σ:Nat->Nat}{x:Nwk}{n:Nat}(hn:n<=64)(H: ∀j,j<300->σ j=j):renH σ (nwH x n)=nwH x n:=by
 simp only[nwH,renH,Qzq,AObj.ren,renL,AV.ren,H 0 (by omega),H 1 (by omega),H 2 (by omega),Qj9 (b:=100) (n:=n) (fun i hi=>H (100+i) (by omega)),Qj9 (b:=200) (n:=n) (fun i hi=>H (200+i) (by omega)),Qth (b:=100) (n:=n) (fun i hi=>H (100+i) (by omega)),Qth (b:=200) (n:=n) (fun i hi=>H (200+i) (by omega))]
theorem nw_dom{x:Nwk}{n:Nat}(hn:n<=64){j:Nat}(h:domB (nwH x n) j=true):j<264/\(200<=j-> ∃i,i<n/\j=200+i)/\j∈[0,1,2]++((List.range n).map (100+ ·)++(List.range n).map (200+ ·)):=by
 have hm:j∈[0,1,2]++((List.range n).map (100+ ·)++(List.range n).map (200+ ·)):=by
  have: ∀(H:Qan),domB H j=true->j∈Qg1 H:=by
   intro H;induction H with
   |nil=>intro h;simp[domB,hget] at h
   |cons e r ih=>
    obtain⟨i,e⟩:=e;intro h;simp only[domB,hget] at h;simp only[Qg1,Zaw];by_cases hij:i=j
    .exact .inl hij.symm
    .have:(i==j)=false:=by simpa using hij
     rw[this] at h;exact .inr (ih h)
  have h2:=this _ h;simp only[nwH,Qg1,Qpf,matH,Qe0] at h2;simpa using h2
 refine⟨?_,fun h200=> ?_,hm⟩
 .have:=nw_lt n hn j hm
  rcases Zan.1 hm with hm|hm
  .simp at hm;omega
  .rcases Zan.1 hm with hm|hm<;>obtain⟨i,hi,rfl⟩:=ZaJ.1 hm<;>have:=ZaI.1 hi
   .show 100+i<264;omega
   .show 200+i<264;omega
 .rcases Zan.1 hm with hm|hm
  .simp at hm;omega
  .rcases Zan.1 hm with hm|hm<;>obtain⟨i,hi,rfl⟩:=ZaJ.1 hm<;>have:=ZaI.1 hi
   .have h3:200<=100+i:=h200;omega
   .exact⟨i,this,rfl⟩
theorem newOk_mat{kill:List Nat}{nx cnt b n:Nat}{M:List (List Int)}(H: ∀i,i<n->kill.contains (b+i)=true/\b+i<nx):Qpx kill nx cnt (matH b n M)=true:=by
 have: ∀(l:List Nat),(∀i∈l,i<n)->Qpx kill nx cnt (l.map fun i=>(b+i,(true,AObj.arr 2 1 ((M[i]?.getD []).map intC))))=true:=by
  intro l;induction l with
  |nil=>intro _;rfl
  |cons i r ih=>
   intro hl;simp only[Zaq,Qpx,Qafj,Zah,ZbX,ZcS,ZbW];exact⟨.inr (H i (hl i (Zat ..))),ih (fun j hj=>hl j (Zas _ hj))⟩
 exact this _ (fun i hi=>ZaI.1 hi)
theorem snd_call{H:Nat->Option Ent}{x:Nwk}{nx:Nat}{K:Kont}{p q mo:Int}(hH:nwIn H x x.Room.length)(hpre:sndPre (x,p,q,mo))(hnx:300<=nx)
 (hK: ∀E:Eff,E.cnt=10->E.ok nx (.im (.int .i64 (Qeq x.Room.length p q mo.toNat x)))=true->K (.im (.int .i64 (Qeq x.Room.length p q mo.toNat x))) E):sndC.row [.ptr 0 0,.im (.int .i64 p),.im (.int .i64 q),.im (.int .i64 mo)] H nx K:=by
 have hn:x.Room.length<=64:=hpre.n;have hsn:sndC.n (x,p,q,mo)=x.Room.length:=by simp only[sndC.n];omega
 have hσ: ∀j,j<300->sgx (fun j=>j) 300 nx j=j:=fun j hj=>Zao hj
 refine⟨(x,p,q,mo),fun j=>j,[0,1,2]++((List.range x.Room.length).map (100+ ·)++(List.range x.Room.length).map (200+ ·)),(List.range x.Room.length).map (200+ ·),hpre,?_,?_,?_,?_⟩
 .simp only[sndC.ca,renL,AV.ren,hσ 0 (by omega)]
 .simp only[sndC.H0,hsn,nwH,Qer,Qwi,AObj.ren,renL,AV.ren,hσ 0 (by omega),hσ 1 (by omega),hσ 2 (by omega),Qj9 (b:=100) (n:=x.Room.length) (fun i hi=>hσ (100+i) (by omega)),Qj9 (b:=200) (n:=x.Room.length) (fun i hi=>hσ (200+i) (by omega))];exact⟨hH.g0,hH.g1,hH.g2,Qt1 (fun i hi=>by rw[hσ _ (by omega)];exact hH.ga i hi),Qt1 (fun i hi=>by rw[hσ _ (by omega)];exact hH.gb i hi)⟩
 .have hd: ∀j,domB (sndC.H0 (x,p,q,mo)) j=true->domB (nwH x x.Room.length) j=true:=fun j h=>by simpa only[sndC.H0,hsn] using h
  refine⟨fun i j _ _ h=>h,fun j hj=> ?_,fun j hj=>(nw_dom hn (hd j hj)).2.2,fun m hm=> ?_,fun j hj hk=> ?_⟩
  .have:=(nw_dom hn (hd j hj)).1
   omega
  .obtain⟨i,hi,rfl⟩:=ZaJ.1 hm
   have:=ZaI.1 hi
   refine⟨200+i,?_,klF_2 i (by omega),rfl⟩;simp only[domB,sndC.H0,hsn];rw[(Qji x _ hn).gb i this];rfl
  .simp only[klF,Zah,ZcS,ZbW] at hk;obtain⟨i,hi,rfl⟩:=(nw_dom hn (hd j hj)).2.1 hk.1;exact ZaJ.2 ⟨i,ZaI.2 hi,rfl⟩
 .have e:(sndC.r0 (x,p,q,mo)).ren (sgx (fun j=>j) 300 nx)= .im (.int .i64 (Qeq x.Room.length p q mo.toNat x)):=by simp only[sndC.r0,hsn,AV.ren]
  rw[e];refine hK _ rfl ?_;simp only[Eff.ok,AV.bel,Zbj,sndC.H1,hsn];rw[Qth (fun i hi=>hσ _ (by omega)),Zah];refine⟨Qi1 _ _ _ (fun i=>rfl) _,newOk_mat fun i hi=>⟨?_,by omega⟩⟩;rw[Zbq];exact ZaJ.2 ⟨i,ZaI.2 hi,rfl⟩
theorem Qu2(cnt:Nat): ∀(H:Qan),(∀p∈H,p.1<cnt)->Qpx [] 0 cnt H=true
 |[],_=>rfl
 |(i,e)::r,h=>by
  have h1:=h (i,e) (Zat ..);simp only at h1;simp only[Qpx,Qafj,Qu2 cnt r (fun p hp=>h p (Zas _ hp)),ZaX,ZbX,Zah,ZcS,ZbW];exact .inl ⟨by omega,by omega⟩
theorem nw_effok{x:Nwk}{n:Nat}(r:AV)(hn:n<=64)(hr:r.bel 320=true){use:List Nat}:Eff.ok {use:=use,kill:=[],new:=nwH x n,cnt:=320} 0 r=true:=by
 simp only[Eff.ok,ZbR,hr,Zbj,Zah];refine⟨?_,Qu2 _ _ fun p hp=>by have:=exW_lt _ (nwH_mem hn hp).1;omega⟩;simp only[nwH,belH,Qk6,matH];rw[Qi1 _ _ _ (fun i=>rfl),Qi1 _ _ _ (fun i=>rfl),Qdv _ _ _ (by omega),Qdv _ _ _ (by omega)];rfl
theorem Qt8(n:Nat)(bs:List Bond)(t:Int)(k:Nat)(h:Qid n bs t k=false): ∀m,Qid n bs t (k+m)=false
 |0=>h
 |m+1=>by rw[show k+(m+1)=k+m+1 by omega,Qid,Qt8 n bs t k h m,Zbu]
def Qwj(n:Int)(bs:List Bond)(t:Int):Bool:=Qid n.toNat bs t (n.toNat - 1)
def holds_.fv(a:Int×(List Bond)×Int):Bool:=(Qwj) (a.1) (a.2.1) (a.2.2)
def holds_.row:Row:=vK (b3 qI (qS Bond.d_le Bond.c_n) qI) rB (fun a=>nwPre (a.1,a.2.1)/\0<=a.2.2/\a.2.2<=1000000) holds_.fv
def holds_.q:=vKq (R:=holds_.row) rfl
theorem holds_.ok:Qas Tryz.prog 135 holds_.row:=by
 refine vw (tC nwC.ok (tC sndC.ok tN)) Tryz.func135 rfl (by kernel_rfl) ?_;intro a hpre;simp only[Tryz.f135,Option.getD];simp(maxSteps:=9^9)(disch:=omega)only[ZZ,simprocAttr,rch,holds_.fv];obtain⟨hp,ht0,ht1⟩:=hpre;obtain⟨h0,h1,hl,hbs,hst,hne⟩:=hp;simp only at h0 h1 hl hbs hst hne;obtain⟨n,hn⟩: ∃n:Nat,a.1=n:=⟨a.1.toNat,by omega⟩;obtain⟨bs,hbsd⟩: ∃bs,bs=a.2.1:=⟨_,rfl⟩;obtain⟨t,ht⟩: ∃t,t=a.2.2:=⟨_,rfl⟩;simp only[hn,<-hbsd,<-ht,Qwj,Zam] at h0 h1 hl hbs hst hne ht0 ht1⊢;have hpre2:nwPre ((n:Int),bs):=⟨h0,h1,hl,hbs,hst,hne⟩;refine Qay.old ⟨{k:Nat//(k=0\/k+1<=n)/\Qid n bs t k=true},fun k=>⟨[(7,.im (.int .i64 ((k.1:Int)+1))),(0,.im (.int .i64 n)),(1,.im (.sl false 3 (bs.map Bond.c))),(2,.im (.int .i64 t))],[],0⟩,fun k=>n - k.1,fun k=>⟨by simp[Qad.good,belT,belH,Qam,AV.bel,belL],by simp⟩,⟨⟨0,.inl rfl,rfl⟩,by simp(maxSteps:=9^9)(disch:=omega)only[ZZ,simprocAttr,rch,holds_.fv,sub]⟩,fun k=> ?_⟩;obtain⟨k,hk1,hk2⟩:=k;simp(maxSteps:=9^9)(disch:=omega)only[ZZ,simprocAttr,rch,holds_.fv,sub,Qal];refine⟨fun hk=> ?_,fun hk=> ?_⟩
 .refine orow.os ((n:Int),bs) [] hpre2 (fun j=>by simp[domB,hget]) rfl rfl ?_ ?_
  .simp(maxSteps:=9^9)(disch:=omega)only[ZZ,simprocAttr,rch,holds_.fv,nwC.ca,ZaQ]
  .have e1:renH (sgx (osn []) 0 0) (nwC.H1 ((n:Int),bs))=nwH (netF n bs) n:=by
    simp only[nwC.H1,Zam];rw[Zeq (by omega)];exact renH_nw (by omega) (fun j _=>by simp[sgx])
   rw[e1];refine⟨nw_effok _ (by omega) rfl,?_⟩;simp(maxSteps:=9^9)(disch:=omega)only[ZZ,simprocAttr,rch,holds_.fv,sub,Qal,Qba,ZaK];have hr:(netF n bs).Room.length=n:=(Qhc hbs bs.length).1.r;have hI:=Qji (netF n bs) n (by omega);rw[show hget (nwH (netF n bs) n)=hget (nwH (netF n bs) n) from rfl];refine snd_call (x:=netF n bs) (by rw[hr];exact hI) ?_ (by omega) (fun E hE1 hE2=> ?_)
   .refine⟨by simp only;omega,by simp only[hr];exact (Qhc hbs bs.length).1,by simp,by simp only[hr];omega,by simp only;omega,by simp only[hr];omega,by simp only;omega,ht0,ht1,⟨0,by simp only[hr];exact Qaae hbs hst _ _⟩,fun u v=> ?_⟩
    have:=(Qrm hbs hst u v bs.length).2
    simp only[netF];omega
   .refine⟨hE2,?_⟩;rw[hr];obtain⟨sv,hsv⟩: ∃sv,sv=Qeq n 0 ((k:Int)+1) t.toNat (netF n bs):=⟨_,rfl⟩;rw[<-hsv];have hs:Qid n bs t (k+1)=(Qid n bs t k && decide (t<=sv)):=by rw[hsv];rfl
    rw[hk2,Zbj] at hs;simp(maxSteps:=9^9)(disch:=omega)only[ZZ,simprocAttr,rch,holds_.fv,Qad.app,sub,Qal];refine⟨fun hlt=> ?_,fun hlt=>⟨⟨k+1,.inr (by omega),by rw[hs];exact ZeG (by omega)⟩,by simp only;omega,by rw[Qak (by omega) (by omega)];simp only;omega⟩⟩;have h9:=Qt8 n bs t (k+1) (by rw[hs];exact Zer (by omega)) (n - 1 - (k+1));rw[show k+1+(n - 1 - (k+1))=n - 1 by omega] at h9;exact h9.symm
 .rcases hk1 with rfl|hk1
  .rw[show n - 1=0 by omega];rfl
  .rw[show n - 1=k by omega];exact hk2.symm
def Qju(t:Int)(b:Bond):Bool:=decide (b.Strength<t)
def CT1.fv(a:Bond×Int):Bool:=(fun b t=>Qju t b) (a.1) (a.2)
def CT1.row:Row:=vKF (b2 (qR Bond.d_le) (qP 1 Qb3)) rB (fun a=>True) CT1.fv
def CT1.q:=vKFq (R:=CT1.row) rfl
theorem CT1.ok:Qas Tryz.prog 157 CT1.row:=by
 refine vwF tN Tryz.func157 rfl (by kernel_rfl) ?_;intro a hpre;simp only[Tryz.f157,Option.getD];simp(maxSteps:=9^9)(disch:=omega)only[ZZ,simprocAttr,rch,CT1.fv,ORC,D.sc,D.scs,scL,decD];rfl
def IdxB.ar:List PK->Option ((List Bond)×Int)
 |[.val (.sl _ _ x0),.val (.fn 157 [] [.ref [.int .i64 x1_0]])]=>(decR Bond.d x0).bind fun y0=>some (y0,x1_0)
 |_=>none
def IdxB.ae(a:(List Bond)×Int):List PK:=[.val (.sl false 3 (a.1.map Bond.c)),.val (.fn 157 [] [.ref [.int .i64 a.2]])]
theorem IdxB.le: ∀ps a,IdxB.ar ps=some a->LeKL ps (IdxB.ae a):=by
 intro ps a h;unfold IdxB.ar at h;split at h
 .simp only[ZaM,Zae] at h;obtain⟨y0,h0,rfl⟩:=h;exact⟨Qbf (Qa2 Bond.d_le _ _ h0) (by simp only[ZaJ];rintro r ⟨y,_,rfl⟩;rfl),Qos ⟨Le.refl _,trivial⟩,trivial⟩
 .cases h
def IdxB.fv(a:(List Bond)×Int):Int:=(fun l t=>Qaw (Qju t) 0 l) (a.1) (a.2)
def IdxB.row:Row:=Qfi IdxB.ar (fun a=>True) (fun a=>(D.int .i64) (IdxB.fv a))
def IdxB.q:=vqF IdxB.row rfl
theorem IdxB.ok:Qas Tryz.prog 174 IdxB.row:=by
 refine Qbn Qaq (tC CT1.ok tN) Tryz.func174 rfl (by kernel_rfl) (by kernel_rfl) (ar:=IdxB.ar) (ae:=IdxB.ae) IdxB.le (n:=2) (fun _=>rfl) (by decide) (rc:=(vInt)) (re:=(D.int .i64)) (Qa3) (f:=IdxB.fv) ?_;intro a hpre;simp only[Tryz.f174,Option.getD];simp(maxSteps:=9^9)(disch:=omega)only[ZZ,simprocAttr,rch,IdxB.ae,IdxB.fv,CT1.q,CT1.fv,ORC,D.sc,D.scs,scL,decD];intro hn;refine Qay.old ⟨{k:Nat//k<=a.1.length/\Qaw (Qju a.2) k (a.1.drop k)=Qaw (Qju a.2) 0 a.1},fun k=>⟨[(8,.im (.int .i64 k.1)),(7,.im (.int .i64 a.1.length)),(6,.im (.sl false 3 (a.1.map Bond.c))),(4,.im (.int .i64 0)),(0,.im (.sl false 3 (a.1.map Bond.c))),(1,.im (.fn 157 [] [.ref [.int .i64 a.2]]))],[],0⟩,fun k=>a.1.length - k.1,fun k=>⟨by simp[Qad.good,belT,belH,Qam,AV.bel,belL],Zap _⟩,⟨⟨0,by simp⟩,by simp(maxSteps:=9^9)(disch:=omega)only[ZZ,simprocAttr,rch,IdxB.ae,IdxB.fv,CT1.q,CT1.fv,ORC,D.sc,D.scs,scL,decD,sub]⟩,fun k=> ?_⟩;obtain⟨k,hk1,hk2⟩:=k;simp(maxSteps:=9^9)(disch:=omega)only[ZZ,simprocAttr,rch,IdxB.ae,IdxB.fv,CT1.q,CT1.fv,ORC,D.sc,D.scs,scL,decD,sub,Qal];refine⟨fun hk=>⟨hk,fun x hx=> ?_⟩,fun hk=> ?_⟩
 .rw[Qd3 hx,Qaw] at hk2;refine⟨fun h=> ?_,fun h=>Qb6 hk hn ⟨by omega,by rw[<-hk2,Zaj (by simpa using h)]⟩⟩;rw[Zao (by simpa using h)] at hk2;exact hk2
 .rw[Zax (by omega),Qaw] at hk2;exact hk2
theorem Qu3{t:Int}{l:List Bond}{i:Nat}{b:Bond}(h1:l.find? (Qju t)=some b)(h2:Qaw (Qju t) 0 l=(i:Int))(h3:l[i]? =some b):Qdc t (l.take (i+1))=l.take i:=by
 have hw:Qju t b=true:=ZcO h1;have hall: ∀(l:List Bond) (o i:Nat),Qaw (Qju t) o l=((o+i:Nat):Int)-> ∀x∈l.take i,Qju t x=false:=by
  intro l;induction l with
  |nil=>intro o i _ x hx;simp at hx
  |cons y r ih=>
   intro o i h x hx;cases i with
   |zero=>simp at hx
   |succ i=>
    simp only[Qaw] at h;split at h
    .omega
    .rename_i hy;rw[ZbI] at hx;rcases Zaw.1 hx with rfl|hx
     .simpa using hy
     .exact ih (o+1) i (by rw[h];congr 1;omega) x hx
 rw[ZbO,h3,ZdP,Qdc,List.filter_append];have e1:(l.take i).filter (fun b=>decide (t<=b.Strength))=l.take i:=by
  rw[ZdF];intro x hx
  have:=hall l 0 i (by rw[h2];simp) x hx
  simp only[Qju,Zbb] at this;simp only[Zar];omega
 simp only[Qju,Zar] at hw;rw[e1,ZcW (by simp;omega),List.filter_nil,ZaK]
def dlC.ca(a:List Bond×Int):List AV:=[.own 0,.im (.fn 157 [] [.ref [.int .i64 a.2]])]
def dlC.H0(a:List Bond×Int):Qan:=[(0,(true,.arr 175 3 (a.1.map Bond.c)))]
def dlC.H1(a:List Bond×Int):Qan:=[(1,(true,.arr 175 3 ((Qdc a.2 a.1).map Bond.c)))]
def dlC.row:Row:=orow dlC.ca dlC.H0 1 (fun a=>a.1.length<=1000000) (fun j=>j==0) (fun _=> .own 1) dlC.H1 1000
def Yay:=J @IdxB.q<|J @IdxB.fv.eq_1<|J @CT1.q @CT1.fv.eq_1
theorem dlC.ok:Qas Tryz.prog 155 dlC.row:=by
 refine owN (tC IdxB.ok (tC CT1.ok tN)) Tryz.func155 rfl (by kernel_rfl) (exB:=fun j=>j==1) (R:=fun _ r=>r= .own 1) (fun _=>rfl)
  (fun a=>by simp[dlC.ca,dlC.H0,dlC.H1,belL,AV.bel,belH,Qam,Qc2,AObj.nms,nmsL,AV.nms,domB,hget]) (fun a p hp=> ?_) (fun a r h=>by subst h;exact LeV.refl _) ?_
 rotate_left
 intro a hpre;simp only[Tryz.f155,Option.getD,dlC.ca,dlC.H0,dlC.H1];simp(maxSteps:=9^9)(disch:=omega)only[ZZ,simprocAttr,rch,Yay,IdxB.ar,Qc7,ORB,dlC.ca,dlC.H0,dlC.H1];rcases Qep (Qju a.2) a.1 0 with ⟨e1,e2⟩|⟨i0,b0,e1,e2,e3⟩
 .rw[e2,Zao rfl];refine⟨[],[(1,some 0)],⟨[(4,.own 1)],[(1,(true,.arr 175 3 (a.1.map Bond.c)))],2⟩,?_,by simp[Qad.good,belT,belH,Qam,AV.bel,belL],by simp,?_⟩
  .simp only[subP];simp(maxSteps:=9^9)(disch:=omega)only[ZZ,simprocAttr,rch,Yay,IdxB.ar,Qc7,ORB,dlC.ca,dlC.H0,dlC.H1,Zab,Zaa]
  .simp(maxSteps:=9^9)(disch:=omega)only[ZZ,simprocAttr,rch,Yay,IdxB.ar,Qc7,ORB,dlC.ca,dlC.H0,dlC.H1]
   have:Qdc a.2 a.1=a.1:=by
    rw[Qdc,ZdF];intro b hb
    have:=ZcR.1 e1 b hb
    simp only[Qju,Zar] at this⊢;omega
   rw[this]
 .rw[ZbR] at e2;rw[e2,Zaj (by omega)];have hil:=(Zai.1 e3).1;rw[Qak (by omega) (by omega)];obtain⟨l,hl⟩: ∃l,l=a.1:=⟨_,rfl⟩;obtain⟨t,ht⟩: ∃t,t=a.2:=⟨_,rfl⟩;simp only[<-hl,<-ht] at e1 e2 e3 hil hpre⊢;refine Qay.old ⟨{j:Nat//j<=l.length},fun j=>⟨[(6,.im (.int .i64 j.1)),(5,.im (.int .i64 (Qdc t (l.take j.1)).length)),(0,.own 0),(1,.im (.fn 157 [] [.ref [.int .i64 t]]))],[(0,(true,.arr 175 3 ((Qdc t (l.take j.1)++l.drop (Qdc t (l.take j.1)).length).map Bond.c)))],2⟩,fun j=>l.length - j.1,fun j=>⟨by simp[Qad.good,belT,belH,Qam,AV.bel,belL],by simp⟩,⟨⟨i0+1,by omega⟩,?_⟩,fun j=> ?_⟩
  .have h1:=Qu3 e1 e2 e3;simp(maxSteps:=9^9)(disch:=omega)only[ZZ,simprocAttr,rch,Yay,IdxB.ar,Qc7,ORB,dlC.ca,dlC.H0,dlC.H1,sub,h1,Zau];rw[show min i0 l.length=i0 by omega,Zcr];exact⟨⟨by omega,rfl⟩,rfl⟩
  obtain⟨j,hj⟩:=j;obtain⟨kp,hkp⟩: ∃kp,kp=Qdc t (l.take j):=⟨_,rfl⟩;have hkl:kp.length<=j:=by
   have:=Qln t (l.take j)
   rw[Zau] at this;rw[hkp];omega
  have hrl:(kp++l.drop kp.length).length=l.length:=by simp;omega
  simp only[<-hkp];simp(maxSteps:=9^9)(disch:=omega)only[ZZ,simprocAttr,rch,Yay,IdxB.ar,Qc7,ORB,dlC.ca,dlC.H0,dlC.H1,sub,Qal,hrl];intro _;refine⟨fun hj2=>⟨hj2,hj2,fun b hb=> ?_⟩,fun hj2=> ?_⟩
  .have hlb:l[j]? =some b:=by
    rw[ZaC hkl,Zbz,show kp.length+(j - kp.length)=j by omega] at hb;exact hb
   have hsu:=Qjs t hlb;rw[<-hkp] at hsu;refine⟨fun hw=>⟨by omega,by omega,fun c _=>⟨⟨j+1,by omega⟩,by simp only;omega,?_⟩⟩,fun hw=>⟨⟨j+1,by omega⟩,by simp only;omega,?_⟩⟩
   .have hs:t<=b.Strength:=by
     simp only[Qju,Zbb] at hw;omega
    rw[Zao hs] at hsu;simp only[hsu,Zaz,ZaE,ZbB];refine⟨⟨by rw[Qak (by omega) (by omega)];omega,by rw[Qak (by omega) (by omega)];omega⟩,?_⟩;have h1:(kp++l.drop kp.length).set kp.length b=kp++[b]++l.drop (kp.length+1):=by
     obtain⟨c,hc⟩: ∃c,l[kp.length]? =some c:=⟨_,Zad (by omega)⟩;rw[Qd3 hc,Zea _ _ (Zap _),Zcj,Zde,ZbA];rfl
    rw[<-h1,ZcY];rfl
   .have hs: ¬t<=b.Strength:=by
     rw[ZaZ] at hw;simp only[Qju,Zar] at hw;omega
    rw[Zaj hs,ZaK] at hsu;simp only[hsu];exact⟨⟨by rw[Qak (by omega) (by omega)];omega,trivial⟩,trivial⟩
  .refine⟨by omega,false,?_⟩;have hjl:j=l.length:=by omega
   subst hjl;rw[ZbP] at hkp;simp(maxSteps:=9^9)(disch:=omega)only[ZZ,simprocAttr,rch,Yay,IdxB.ar,Qc7,ORB,dlC.ca,dlC.H0,dlC.H1,hrl];have hA:List.take kp.length ((kp++l.drop kp.length).map Bond.c)=kp.map Bond.c:=by
    rw[<-List.map_take,List.take_left]
   rw[hA];refine⟨by simp only[Zaz,Zbr];omega,true,?_⟩;simp(maxSteps:=9^9)(disch:=omega)only[ZZ,simprocAttr,rch,Yay,IdxB.ar,Qc7,ORB,dlC.ca,dlC.H0,dlC.H1,hrl];refine⟨[],[(1,some 2)],⟨[(4,.own 1)],[(1,(true,.arr 175 3 (kp.map Bond.c)))],2⟩,?_,by simp[Qad.good,belT,belH,Qam,AV.bel,belL],by simp,?_⟩
   .simp only[subP];simp(maxSteps:=9^9)(disch:=omega)only[ZZ,simprocAttr,rch,Yay,IdxB.ar,Qc7,ORB,dlC.ca,dlC.H0,dlC.H1,Zab,Zaa];rw[show ((kp.length:Int) - 0).toNat=(kp.map Bond.c).length by simp,ZbA,List.take_left]
   .simp(maxSteps:=9^9)(disch:=omega)only[ZZ,simprocAttr,rch,Yay,IdxB.ar,Qc7,ORB,dlC.ca,dlC.H0,dlC.H1,hkp]
 simp[dlC.H1] at hp;subst hp;exact .inr ⟨by omega,by omega,rfl,rfl⟩
def ldV(b i:Nat)(x:Int):AV:=if 0<=x/\x<i then .ptr (b+x.toNat) 0 else .im .nilp
def grE(b:Nat)(L:List Int)(i:Nat):Ent:=(true,.cells 236 [ldV b i (L[i]?.getD (-1)),.im (.int .i64 i)])
def grH(b:Nat)(L:List Int)(n:Nat):Qan:=famH b n (grE b L)
def ldOk(L:List Int):Prop:= ∀(i:Nat) (x:Int),L[i]? =some x->x<i
def Qmc(L:List Int)(i:Nat):Nat->Nat
 |0=>i
 |m+1=>if L[i]?.getD (-1)<0 then i else Qmc L (L[i]?.getD (-1)).toNat m
def Qde(L:List Int)(i:Nat):Nat:=Qmc L i i
theorem Qabj{L:List Int}(h:ldOk L): ∀(i m m':Nat),i<=m->i<=m'->Qmc L i m=Qmc L i m':=by
 intro i;induction i using Nat.strongRecOn with
 |_ i ih=>
  intro m m' h1 h2;cases hi:L[i]? with
  |none=>
   cases m<;>cases m'<;>simp[Qmc,hi]
  |some x=>
   have hx:=h i x hi;by_cases h0:x<0
   .cases m<;>cases m'<;>simp[Qmc,hi,h0]
   .cases m with
    |zero=>omega
    |succ m=>
     cases m' with
     |zero=>omega
     |succ m'=>
      simp only[Qmc,hi,Zag,Zaj h0];exact ih x.toNat (by omega) m m' (by omega) (by omega)
theorem Qdk{L:List Int}(h:ldOk L){i:Nat}{x:Int}(hi:L[i]? =some x):Qde L i=if x<0 then i else Qde L x.toNat:=by
 have hx:=h i x hi;by_cases h0:x<0
 .rw[Zao h0,Qde];cases i with
  |zero=>rfl
  |succ i=>simp only[Qmc,hi,Zag,Zao h0]
 .rw[Zaj h0,Qde];cases i with
  |zero=>omega
  |succ i=>
   simp only[Qmc,hi,Zag,Zaj h0];exact Qabj h _ _ _ (by omega) (Zap _)
theorem Qnj{L:List Int}(h:ldOk L): ∀(i:Nat),Qde L i<=i:=by
 intro i;induction i using Nat.strongRecOn with
 |_ i ih=>
  cases hi:L[i]? with
  |none=>rw[Qde];cases i<;>simp[Qmc,hi]
  |some x=>
   rw[Qdk h hi];have hx:=h i x hi;split
   .exact Zap _
   .have:=ih x.toNat (by omega);omega
def firC.n(a:List Int×Nat):Nat:=min a.1.length 512
def firC.ca(a:List Int×Nat):List AV:=[.ptr (min a.2 511) 0]
def firC.H0(a:List Int×Nat):Qan:=grH 0 a.1 (firC.n a)
def firC.r0(a:List Int×Nat):AV:= .ptr (Qde a.1 a.2) 0
def firC.pre(a:List Int×Nat):Prop:=a.1.length<=512/\a.2<a.1.length/\ldOk a.1
def firC.row:Row:=orow firC.ca firC.H0 600 firC.pre (fun _=>false) firC.r0 (fun _=>[]) 0
theorem firC.hbel(a:List Int×Nat):belL 600 (firC.ca a)=true:=by
 simp only[firC.ca,belL,AV.bel,ZaX,ZbW];omega
theorem Qt5(nx b:Nat)(f:Nat->Ent)(n:Nat)(hf: ∀i,i<n->belH nx [(b+i,f i)]=true):belH nx (famH b n f)=true:=by
 have: ∀(l:List Nat),(∀i∈l,i<n)->belH nx (l.map fun i=>(b+i,f i))=true:=by
  intro l;induction l with
  |nil=>intro _;rfl
  |cons i r ih=>
   intro hl;rw[Zaq,show (b+i,f i)::(r.map fun i=>(b+i,f i))=[(b+i,f i)]++(r.map fun i=>(b+i,f i)) from rfl,Qk6,hf i (hl i (Zat ..)),ih (fun j hj=>hl j (Zas _ hj))];rfl
 exact this _ (fun i hi=>ZaI.1 hi)
theorem ldV_bel(b i N:Nat)(x:Int)(h:b+i<=N):(ldV b i x).bel N=true:=by
 simp only[ldV];split
 .simp only[AV.bel,ZbW];omega
 .rfl
theorem Qn9(b n N:Nat)(L:List Int)(h:b+n<=N):belH N (grH b L n)=true:=Qt5 _ _ _ _ fun i hi=>by
 simp only[grE,belH,belL,ldV_bel b i N _ (by omega),AV.bel,Zee]
theorem firC.n_le(a:List Int×Nat):firC.n a<=512:=ZcE _ _
theorem firC.hbH(a:List Int×Nat):belH 600 (firC.H0 a)=true:=Qn9 _ _ _ _ (by have:=firC.n_le a;omega)
theorem firC.hkH(a:List Int×Nat):Qam 600 (firC.H0 a)=true:=Qd8 _ _ _ _ (by have:=firC.n_le a;omega)
theorem Qdi(b n:Nat)(L:List Int)(i:Nat)(h:i<n):hget (grH b L n) (b+i)=some (grE b L i):=Qcy _ _ _ _ h
theorem nmsIn_fam{H0:Qan}{b n:Nat}{f:Nat->Ent}(h: ∀i,i<n-> ∀m∈(f i).2.nms,domB H0 m=true):Qc2 H0 (famH b n f):=by
 have: ∀(l:List Nat),(∀i∈l,i<n)->Qc2 H0 (l.map fun i=>(b+i,f i)):=by
  intro l;induction l with
  |nil=>intro _;trivial
  |cons i r ih=>
   intro hl;simp only[Zaq];exact⟨h i (hl i (Zat ..)),ih (fun j hj=>hl j (Zas _ hj))⟩
 exact this _ (fun i hi=>ZaI.1 hi)
theorem firC.hnm(a:List Int×Nat):Qc2 (firC.H0 a) (firC.H0 a):=by
 refine nmsIn_fam fun i hi m hm=> ?_
 simp only[grE,AObj.nms,nmsL,ldV] at hm;split at hm
 .simp only[AV.nms,ZaK,Zal] at hm;subst hm;rename_i h;simp only[domB,firC.H0];rw[Qdi 0 _ _ _ (by omega)];rfl
 .simp[AV.nms] at hm
theorem subH_famE(s:Qad)(b n:Nat)(f:Nat->Ent):subH s (famH b n f)= ∀i,i<n->hget s.h (b+i)=some (f i):=by
 have: ∀(l:List Nat),subH s (l.map fun i=>(b+i,f i))↔ ∀i∈l,hget s.h (b+i)=some (f i):=by
  intro l;induction l with
  |nil=>simp[subH]
  |cons i r ih=>simp only[Zaq,subH,ih,Zaw,ZeP]
 apply propext;rw[famH,this];simp only[ZaI]
theorem Qo5{s:Qad}{b n:Nat}{L:List Int}(h: ∀i,i<n->hget s.h (b+i)=some (grE b L i)):subH s (grH b L n):=by
 rw[grH,subH_famE];exact h
theorem firC.ok:Qas Tryz.prog 173 firC.row:=by
 refine ow tN Tryz.func173 rfl (by kernel_rfl) (exB:=fun _=>false) (R:=fun a r=>r=firC.r0 a) (fun _=>rfl)
  (fun a=>⟨firC.hbel a,firC.hbH a,firC.hkH a,firC.hnm a⟩) (fun a p hp=> ?_) (fun a r h=>by subst h;exact LeV.refl _) ?_
 rotate_left
 intro a hpre;simp only[Tryz.f173,Option.getD,firC.ca];simp(maxSteps:=9^9)(disch:=omega)only[ZZ,simprocAttr,rch,ORB,firC.ca];obtain⟨L,i⟩:=a;obtain⟨h1,h2,h3⟩:=hpre;simp only at h1 h2 h3;obtain⟨n,hn⟩: ∃n,n=L.length:=⟨_,rfl⟩;have hsn:firC.n (L,i)=n:=by simp only[firC.n,<-hn];omega
 simp only[firC.H0,firC.r0,hsn,Qba];rw[<-hn] at h1 h2;rw[show min i 511=i by omega];refine Qay.old ⟨{g:Nat//g<n/\Qde L g=Qde L i},fun g=>⟨[(0,.ptr g.1 0)],grH 0 L n,600⟩,fun g=>g.1,fun g=>⟨?_,by simp⟩,⟨⟨i,h2,rfl⟩,?_⟩,fun g=> ?_⟩
 .simp only[Qad.good,belT,AV.bel,ZaX,Zah,ZbW];exact⟨by omega,Qn9 _ _ _ _ (by omega),Qd8 _ _ _ _ (by omega)⟩
 .simp only[sub,subT,tget];refine⟨?_,Qo5 (fun i hi=>Qdi 0 n L i hi)⟩;simp(maxSteps:=9^9)(disch:=omega)only[ZZ,simprocAttr,rch,ORB,firC.ca]
 obtain⟨g,hg,hr⟩:=g;obtain⟨x,hx⟩: ∃x,L[g]? =some x:=⟨_,Zad (by omega)⟩;have hxg:=h3 g x hx;have hgg:=Qdi 0 n L g hg;rw[ZbR] at hgg;simp only[grE,hx,Zag] at hgg;have hst:=Qdk h3 hx;by_cases h0:x<0
 .have hld:ldV 0 g x= .im .nilp:=Zaj (by omega);rw[hld] at hgg;simp(maxSteps:=9^9)(disch:=omega)only[ZZ,simprocAttr,rch,ORB,firC.ca,sub,Qal,hgg,Qba];rw[Zao h0] at hst;exact⟨by omega,by omega,by omega,by omega,by omega,Qxi _ _ _ _ _ (fun i hi=> .inr (Qdi 0 n L i hi)),by omega⟩
 .have hld:ldV 0 g x= .ptr x.toNat 0:=by simp only[ldV];rw[Zao ⟨by omega,hxg⟩,ZbR]
  rw[hld] at hgg;have hgx:=Qdi 0 n L x.toNat (by omega);rw[ZbR] at hgx;simp(maxSteps:=9^9)(disch:=omega)only[ZZ,simprocAttr,rch,ORB,firC.ca,sub,Qal,hgg,hgx,Qba];rw[Zaj h0] at hst;exact⟨by omega,by omega,by omega,by omega,by omega,by omega,by omega,by omega,by omega,⟨x.toNat,by omega,by omega⟩,by simp only;omega,rfl,Qo5 (fun i hi=>Qdi 0 n L i hi)⟩
 simp at hp
def Qj1(b n k:Nat):List (List AV):=(List.range n).map fun i=>if i<k then [AV.ptr (b+i) 0] else [.im .nilp]
theorem Qbx(b n k:Nat):(Qj1 b n k).length=n:=by simp[Qj1]
theorem Qj7(b n k i:Nat)(h:i<n):(Qj1 b n k)[i]? =some (if i<k then [.ptr (b+i) 0] else [.im .nilp]):=by simp[Qj1,ZbF h]
theorem Qtr(b n k i:Nat)(K:List AV->Prop)(h:i<n):Qi9 (Qj1 b n k) i K=K (if i<k then [.ptr (b+i) 0] else [.im .nilp]):=by
 apply propext;unfold Qi9;rw[Qj7 b n k i h];exact⟨fun h=>h _ rfl,fun h row hr=>by obtain rfl:=Zac hr;exact h⟩
theorem Qlg(b n k N:Nat)(h:b+k<=N):(Qj1 b n k).all (belL N)=true:=by
 rw[Zbv];intro r hr;obtain⟨i,hi,rfl⟩:=ZaJ.1 hr;split
 .simp[belL,AV.bel];omega
 .simp[belL,AV.bel]
theorem Qnw(b n N:Nat)(L:List Int)(h:b+n<=N):Qam N (grH b L n)=true:=Qd8 _ _ _ _ h
theorem rowsP_nil(b n:Nat)(π:List (Nat×Option Nat)):mtR π (Qj1 b n 0) (imR (List.replicate n [.nilp])):=by
 have e:Qj1 b n 0=imR (List.replicate n [.nilp]):=by
  simp only[Qj1,imR,ZdO,Zby,List.map_replicate];rw[List.map_const',Zcs];rfl
 rw[e];exact Qzo _ _
theorem ldV_ren{σ:Nat->Nat}{i:Nat}{x:Int}(h: ∀j,j<i->σ j=1000+j):(ldV 0 i x).ren σ=ldV 1000 i x:=by
 simp only[ldV];split
 .simp only[AV.ren,ZbR];rw[h _ (by omega)]
 .rfl
theorem heapM_fam{h:Nat->Option Ent}{σ:Nat->Nat}{b n:Nat}{f:Nat->Ent}(H: ∀i,i<n->h (σ (b+i))=some ((f i).1,(f i).2.ren σ)):Qer h σ (famH b n f):=by
 have: ∀(l:List Nat),(∀i∈l,i<n)->Qer h σ (l.map fun i=>(b+i,f i)):=by
  intro l;induction l with
  |nil=>intro _;trivial
  |cons i r ih=>
   intro hl;simp only[Zaq];exact⟨H i (hl i (Zat ..)),ih (fun j hj=>hl j (Zas _ hj))⟩
 exact this _ (fun i hi=>ZaI.1 hi)
theorem grH_dom{n:Nat}{L:List Int}{j:Nat}(h:domB (grH 0 L n) j=true):j<n:=by
 simp only[domB,grH,Qm4] at h;split at h
 .omega
 .cases h
theorem Qtp{H:Nat->Option Ent}{L:List Int}{k nx u:Nat}{K:Kont}(hL:L.length=k)(hk:k<=512)(hld:ldOk L)(hu:u<k)(hnx:2000<=nx)(hH: ∀i,i<k->H (1000+i)=some (grE 1000 L i))
 (hK: ∀U,K (.ptr (1000+Qde L u) 0) {use:=U}):firC.row [.ptr (1000+u) 0] H nx K:=by
 have hσ: ∀j,j<600->sgx (fun j=>1000+j) 600 nx j=1000+j:=fun j hj=>Zao hj
 have hn:firC.n (L,u)=k:=by simp only[firC.n,hL];omega
 have hr:=Qnj hld u;refine⟨(L,u),fun j=>1000+j,(List.range k).map (1000+ ·),[],⟨by simp only;omega,by simp only;omega,hld⟩,?_,?_,?_,?_⟩
 .simp only[firC.ca,renL,AV.ren];rw[show min u 511=u by omega,hσ u (by omega)]
 .simp only[firC.H0,hn,grH];refine heapM_fam fun i hi=> ?_
  rw[ZbR,hσ i (by omega),hH i hi];simp only[grE,AObj.ren,renL,AV.ren];rw[ldV_ren (fun j hj=>hσ j (by omega))]
 .have hd: ∀j,domB (firC.H0 (L,u)) j=true->j<k:=fun j hj=>by simp only[firC.H0,hn] at hj;exact grH_dom hj
  refine⟨fun i j _ _ h=> ?_,fun j hj=> ?_,fun j hj=> ?_,fun m hm=>(by cases hm),fun j _ hj=>(by cases hj)⟩
  .have h:1000+i=1000+j:=h;omega
  .have:=hd j hj
   show 1000+j<nx;omega
  exact ZaJ.2 ⟨j,ZaI.2 (hd j hj),rfl⟩
 .have e:(firC.r0 (L,u)).ren (sgx (fun j=>1000+j) 600 nx)= .ptr (1000+Qde L u) 0:=by
   simp only[firC.r0,AV.ren];rw[hσ _ (by omega)]
  rw[e];exact hK _
theorem Qug(k:Nat):ldOk (List.replicate k (-1)):=by
 intro i x h
 have:=Zbw (Zaf h)
 omega
theorem Qj8: ∀(k i:Nat),i<k->(Qtc k)[i]? =some (i:Int)
 |0,i,h=>by omega
 |k+1,i,h=>by
  simp only[Qtc];by_cases hi:i<k
  .rw[Zav (by rw[Qff];exact hi)];exact Qj8 k i hi
  .have:i=k:=by omega
   subst this;rw[ZaC (by rw[Qff];exact Zap _),Qff,Zcj];rfl
theorem own_start{k i:Nat}{bs:List Bond}(h:i<k):(ownK k bs 0)[i]? =some ((Qde (List.replicate k (-1)) i:Nat):Int):=by
 simp only[ownK];rw[Qj8 k i h]
 have:=Qdk (Qug k) (i:=i) (x:= -1) (by rw[Zbx,Zao h])
 rw[this,Zao (by omega)]
theorem Qls{L:List Int}(h:ldOk L): ∀(i:Nat),Qde L (Qde L i)=Qde L i:=by
 intro i;induction i using Nat.strongRecOn with
 |_ i ih=>
  cases hi:L[i]? with
  |none=>
   have:Qde L i=i:=by rw[Qde];cases i<;>simp[Qmc,hi]
   rw[this,this]
  |some x=>
   have hx:=h i x hi;rw[Qdk h hi];split
   .rename_i h0;rw[Qdk h hi,Zao h0]
   .exact ih x.toNat (by omega)
theorem Qsx{L:List Int}(h:ldOk L){p q:Nat}(hpq:p<q):ldOk (L.set q (p:Int)):=by
 intro i x hi;by_cases hq:q=i
 .subst hq;have hl:q<L.length:=by have:=(Zai.1 hi).1;simpa using this
  rw[ZaD hl] at hi;obtain rfl:=Zac hi;omega
 .rw[ZaF hq] at hi;exact h i x hi
theorem Qqx{L:List Int}(h:ldOk L){p q:Nat}(hp:Qde L p=p)(hq:Qde L q=q)(hpq:p<q)(hl:q<L.length): ∀(i:Nat),Qde (L.set q (p:Int)) i=if Qde L i=q then p else Qde L i:=by
 have h':=Qsx h hpq;intro i;induction i using Nat.strongRecOn with
 |_ i ih=>
  by_cases hiq:q=i
  .subst hiq;have e:(L.set q (p:Int))[q]? =some (p:Int):=ZaD hl;rw[Qdk h' e,Zaj (by omega),Zam,ih p hpq,hp,Zaj (by omega),hq,Zao rfl]
  .have e:(L.set q (p:Int))[i]? =L[i]? :=ZaF hiq;cases hi:L[i]? with
   |none=>
    have r1:Qde L i=i:=by rw[Qde];cases i<;>simp[Qmc,hi]
    have r2:Qde (L.set q (p:Int)) i=i:=by rw[Qde];cases i<;>simp[Qmc,e,hi]
    rw[r1,r2,Zaj (Zcz hiq)]
   |some x=>
    have hx:=h i x hi;rw[hi] at e;rw[Qdk h' e,Qdk h hi];by_cases h0:x<0
    .rw[Zao h0,Zao h0,Zaj (Zcz hiq)]
    .rw[Zaj h0,Zaj h0];exact ih x.toNat (by omega)
theorem join_lt{x y:Nat}(h:x<y)(r:Nat):Qja (x:Int) (y:Int) (r:Int)=((if r=y then x else r:Nat):Int)/\Qja (y:Int) (x:Int) (r:Int)=((if r=y then x else r:Nat):Int):=by
 have m1:maxI (x:Int) y=y:=Zaj (by omega);have m2:maxI (y:Int) x=y:=Zao (by omega);have m3:minI (x:Int) y=x:=Zao (by omega);have m4:minI (y:Int) x=x:=Zaj (by omega);simp only[Qja,m1,m2,m3,m4];by_cases hr:r=y
 .rw[Zao hr,Zao (by omega)];exact⟨rfl,rfl⟩
 .rw[Zaj hr,Zaj (by omega)];exact⟨rfl,rfl⟩
theorem join_eq(x r:Nat):Qja (x:Int) (x:Int) (r:Int)=(r:Int):=by
 have m1:maxI (x:Int) x=x:=Zaj (by omega);have m2:minI (x:Int) x=x:=Zaj (by omega);simp only[Qja,m1,m2];by_cases hr:(r:Int)=x
 .rw[Zao hr,hr]
 .rw[Zaj hr]
def mII(p:Int×Int):D×D:=(.int .i64 p.1,.int .i64 p.2)
def lkZ(M:List (Int×Int))(x:Int):Option Int:=(M.find? (fun p=>p.1==x)).map (·.2)
theorem lk_mII(x:Int): ∀(M:List (Int×Int)),lk (M.map mII) (.int .i64 x)=(lkZ M x).map (D.int .i64)
 |[]=>rfl
 |(k,v)::r=>by
  have ih:=lk_mII x r;simp only[lkZ] at ih;by_cases h:k=x
  .subst h;simp[lk,mII,lkZ,D.beq]
  .have h2: ¬x=k:=fun e=>h e.symm
   have h3:(x==k)=false:=by simpa using h2
   simp[lk,mII,lkZ,D.beq,h,h3,ih]
theorem lkVC_ii(x:Int)(M:List (Int×Int))(Ks:D->Prop)(Kn:Prop):LkVC (M.map mII) (.int .i64 x) Ks Kn=((∀v,lkZ M x=some v->Ks (.int .i64 v))/\(lkZ M x=none->Kn)):=by
 apply propext;unfold LkVC;rw[lk_mII];cases lkZ M x<;>simp
theorem upd_mII(x v:Int): ∀(M:List (Int×Int)),lkZ M x=none->upd (M.map mII) (.int .i64 x) (.int .i64 v)=(M++[(x,v)]).map mII
 |[],_=>rfl
 |(k,w)::r,h=>by
  by_cases hk:k=x
  .subst hk;simp[lkZ] at h
  .have h2: ¬x=k:=fun e=>hk e.symm
   have hr:lkZ r x=none:=by simpa[lkZ,hk] using h
   have ih:=upd_mII x v r hr;simp only[Zaq,ZaA,mII] at ih⊢;have h3:(x==k)=false:=by simpa using h2
   simp[upd,D.beq,h3,ih,mII]
theorem lkZ_app(M:List (Int×Int))(x v y:Int):lkZ (M++[(x,v)]) y=(lkZ M y).or (if x=y then some v else none):=by
 simp only[lkZ,List.find?_append];cases h:M.find? (fun p=>p.1==y) with
 |some p=>simp
 |none=>
  by_cases hx:x=y
  .subst hx;simp
  .simp[hx]
theorem Qld{own:List Int}{i:Nat}(h:own[i]? =some (i:Int)): ∀k,∃rest,grpK own i (k+1)=(i:Int)::rest
 |0=>⟨[],by simp[grpK,h]⟩
 |k+1=>by
  obtain⟨rest,hr⟩:=Qld h k;rw[grpK,hr];exact⟨_,rfl⟩
theorem Qjv(own:List Int)(n:Nat): ∀k,k<=n-> ∀g∈Qa7 own n k,∃(r:Nat) (rest:List Int),g=(r:Int)::rest/\r<k/\own[r]? =some (r:Int)
 |0,_,g,h=>by simp[Qa7] at h
 |k+1,hk,g,h=>by
  simp only[Qa7,Zan] at h;rcases h with h|h
  .obtain⟨r,rest,h1,h2,h3⟩:=Qjv own n k (by omega) g h;exact⟨r,rest,h1,by omega,h3⟩
  .split at h
   .rename_i ho;obtain rfl:=Zal.1 h;obtain⟨rest,hr⟩:=Qld ho (n - k - 1);rw[show n - k - 1+1=n - k by omega] at hr;exact⟨k,rest,hr,by omega,ho⟩
   .cases h
theorem Qo6(own:List Int)(n:Nat)(r:Nat)(ho:own[r]? =some (r:Int)): ∀k,k<=n->r<k-> ∃rest,((r:Int)::rest)∈Qa7 own n k
 |0,_,h=>by omega
 |k+1,hk,h=>by
  by_cases hr:r=k
  .subst hr;obtain⟨rest,hr⟩:=Qld ho (n - r - 1);rw[show n - r - 1+1=n - r by omega] at hr;exact⟨rest,by simp[Qa7,ho,hr]⟩
  .obtain⟨rest,hm⟩:=Qo6 own n r ho k (by omega) (by omega);exact⟨rest,by simp only[Qa7,Zan];exact .inl hm⟩
theorem Qy0(own:List Int)(n:Nat): ∀k,∀g∈Qa7 own n k,g.length<=n
 |0,g,h=>by simp[Qa7] at h
 |k+1,g,h=>by
  simp only[Qa7,Zan] at h;rcases h with h|h
  .exact Qy0 own n k g h
  .split at h
   .obtain rfl:=Zal.1 h
    have:=Qsd own k (n - k)
    omega
   .cases h
theorem cvt_rowsF{h:Nat->Option Ent}{b m:Nat}{G:List (List Int)}(H: ∀q,q<G.length->h (b+q)=some (true,.arr 2 1 ((G[q]?.getD []).map intC))):
 mapO (mapO fun x=>asDO (cvt h (kxOf 0 []) (m+1) x)) (Qch b G.length)=some (G.map Qcd):=by
 have: ∀(l:List Nat),(∀q∈l,q<G.length)->mapO (mapO fun x=>asDO (cvt h (kxOf 0 []) (m+1) x)) (l.map fun i=>[AV.own (b+i)])=some (l.map fun q=>Qcd (G[q]?.getD [])):=by
  intro l;induction l with
  |nil=>intro _;rfl
  |cons q r ih=>
   intro hl;have h0:kxOf 0 [] (b+q)=none:=rfl;have ih2:=ih (fun x hx=>hl x (Zas _ hx));have e:mapO (fun x=>asDO (cvt h (kxOf 0 []) (m+1) x)) [AV.own (b+q)]=some (Qcd (G[q]?.getD [])):=by
    simp only[mapO,cvt,h0,H q (hl q (Zat ..)),Qho,kp,ZaO,asDO,AV.asD];rfl
   rw[Zaq,mapO,e,ih2];rfl
 rw[Qch,this _ (fun q hq=>ZaI.1 hq)];congr 1;apply ZbM;intro j;by_cases hj:j<G.length
 .rw[ZaN,ZbF hj,ZaN,Zad hj,ZaO,ZaO,Zad hj,Zag]
 .rw[ZaY (by simp;omega),ZaY (by simp;omega)]
def joinG(r:Int)(m:Nat)(g:List Int):List Int:=if g.head? =some r then g++[(m:Int)] else g
theorem Ql4(own:List Int)(m:Nat)(r:Int)(hr:own[m]? =some r): ∀k,k<=m->Qa7 own (m+1) k=(Qa7 own m k).map (joinG r m)
 |0,_=>rfl
 |k+1,hk=>by
  rw[Qa7,Qa7,ZaT,Ql4 own m r hr k (by omega)];congr 1;by_cases ho:own[k]? =some (k:Int)
  .rw[Zao ho,Zao ho];obtain⟨rest,h2⟩:=Qld ho (m - k - 1);rw[show m - k - 1+1=m - k by omega] at h2;have e:grpK own k (m+1 - k)=grpK own k (m - k)++(if own[m]? =some (k:Int) then [(m:Int)] else []):=by
    rw[show m+1 - k=(m - k)+1 by omega,grpK,show k+(m - k)=m by omega]
   rw[e,hr];simp only[Zaq,ZaG,joinG,h2,ZeX,Zae];by_cases hk2:r=(k:Int)
   .rw[Zao hk2,Zao hk2.symm]
   .rw[Zaj hk2,Zaj (Zcz hk2),ZaK]
  .rw[Zaj ho,Zaj ho];rfl
structure Qpc(out:List (List Int))(M:List (Int×Int)):Prop where
 a: ∀r v,lkZ M r=some v-> ∃(g:Nat) (rest:List Int),v=g/\out[g]? =some (r::rest)
 b: ∀(g:Nat) (r:Int) (rest:List Int),out[g]? =some (r::rest)->lkZ M r=some (g:Int)
theorem grps_new{own:List Int}{i:Nat}{M:List (Int×Int)}{r:Nat}(hP:Qpc (Qa7 own i i) M)(ho:own[i]? =some (r:Int))(hr:r<=i)(hrr:own[r]? =some (r:Int))(hn:lkZ M r=none):
 r=i/\Qa7 own (i+1) (i+1)=Qa7 own i i++[[(i:Int)]]/\Qpc (Qa7 own (i+1) (i+1)) (M++[((i:Int),((Qa7 own i i).length:Int))]):=by
 have hri:r=i:=by
  by_cases h:r<i
  .obtain⟨rest,hm⟩:=Qo6 own i r hrr i (by omega) h;obtain⟨g,hg⟩:=ZaP.1 hm;rw[hP.b g _ _ hg] at hn;cases hn
  .omega
 subst hri;have e:Qa7 own (r+1) (r+1)=Qa7 own r r++[[(r:Int)]]:=by
  rw[Qa7,Ql4 own r r ho r (Zap _),Zao ho];congr 1
  .conv=>rhs;rw[<-List.map_id (Qa7 own r r)]
   apply Zcp;intro g hg;obtain⟨q,rest,h1,h2,_⟩:=Qjv own r r (Zap _) g hg;simp only[joinG,h1,ZeX,Zae,id];rw[Zaj (by omega)]
  .rw[show r+1 - r=0+1 by omega];simp[grpK,ho]
 refine⟨rfl,e,?_⟩;rw[e];refine⟨fun q v hv=> ?_,fun g q rest hg=> ?_⟩
 .rw[lkZ_app] at hv;cases hq:lkZ M q with
  |some w=>
   rw[hq] at hv;obtain rfl:=Zac hv;obtain⟨g,rest,h1,h2⟩:=hP.a q _ hq;exact⟨g,rest,h1,by rw[Zav (Zai.1 h2).1];exact h2⟩
  |none=>
   rw[hq] at hv;simp only[Option.none_or] at hv;split at hv
   .rename_i h;obtain rfl:=Zac hv;exact⟨_,[],rfl,by rw[ZaC (Zap _),Zcj,<-h];rfl⟩
   .cases hv
 .rw[lkZ_app];by_cases hl:g<(Qa7 own r r).length
  .rw[Zav hl] at hg;rw[hP.b g q rest hg];rfl
  .rw[ZaC (by omega)] at hg;have h0:g - (Qa7 own r r).length=0:=by
    have:=(Zai.1 hg).1
    simpa using this
   rw[h0] at hg;simp only[ZaV,Zae,Zdj] at hg;rw[<-hg.1,hn,Zao rfl,Option.none_or];congr 1;omega
theorem grps_old{own:List Int}{i:Nat}{M:List (Int×Int)}{r:Int}{g:Nat}{rest:List Int}(hP:Qpc (Qa7 own i i) M)(ho:own[i]? =some r)(hg:(Qa7 own i i)[g]? =some (r::rest)):
 Qa7 own (i+1) (i+1)=(Qa7 own i i).set g (r::rest++[(i:Int)])/\Qpc (Qa7 own (i+1) (i+1)) M:=by
 have hri:r≠i:=by
  obtain⟨q,rs,h1,h2,_⟩:=Qjv own i i (Zap _) _ (Zaf hg)
  have:=(Zfj h1).1
  omega
 have e:Qa7 own (i+1) (i+1)=(Qa7 own i i).set g (r::rest++[(i:Int)]):=by
  rw[Qa7,Ql4 own i r ho i (Zap _),Zaj (by rw[ho];simpa using hri),ZaK];apply ZbM;intro j;rw[ZaN];by_cases hj:g=j
  .subst hj;rw[ZaD (Zai.1 hg).1,hg];simp[joinG]
  .rw[ZaF hj];cases hx:(Qa7 own i i)[j]? with
   |none=>rfl
   |some x=>
    simp only[ZaO,joinG];rw[Zaj];intro hh;cases x with
    |nil=>cases hh
    |cons q rs=>
     simp only[ZeX,Zae] at hh;subst hh;have h1:=hP.b j _ _ hx;have h2:=hP.b g _ _ hg;rw[h1] at h2
     have:=Zac h2
     omega
 refine⟨e,?_⟩;rw[e];have hgl:=(Zai.1 hg).1;refine⟨fun q v hv=> ?_,fun g' q rs hg'=> ?_⟩
 .obtain⟨j,rs,h1,h2⟩:=hP.a q v hv;by_cases hj:g=j
  .subst hj;rw[hg] at h2;simp only[Zae,Zdj] at h2;exact⟨g,rest++[(i:Int)],h1,by rw[ZaD hgl,h2.1];rfl⟩
  .exact⟨j,rs,h1,by rw[ZaF hj];exact h2⟩
 .by_cases hj:g=g'
  .subst hj;rw[ZaD hgl] at hg';simp only[Zae,ZaA,Zdj] at hg';rw[<-hg'.1];exact hP.b g _ _ hg
  .rw[ZaF hj] at hg';exact hP.b g' _ _ hg'
def gpsH(b:Nat)(G:List (List Int)):Qan:=famH b G.length (fun i=>(true,.arr 2 1 ((G[i]?.getD []).map intC)))
theorem gpsH_bel(b N:Nat)(G:List (List Int))(h:b+G.length<=N):belH N (gpsH b G)=true:=Qt5 _ _ _ _ fun i hi=>by simp[belH]
theorem gpsH_key(b N:Nat)(G:List (List Int))(h:b+G.length<=N):Qam N (gpsH b G)=true:=Qd8 _ _ _ _ h
theorem mtR_P{π:List (Nat×Option Nat)}{b n k:Nat}(h: ∀i,i<k->pm π (b+i)=some (b+i)):mtR π (Qj1 b n k) (Qj1 b n k):=by
 rw[Ql2];refine⟨rfl,fun i x y hx hy=> ?_⟩;rw[hx] at hy;obtain rfl:=Zac hy;have hin:i<n:=by have:=(Zai.1 hx).1;rwa [Qbx] at this
 rw[Qj7 _ _ _ _ hin] at hx;obtain rfl:=Zac hx;split
 .rename_i hlt;simp only[mtL,mt,h i hlt,Qga,Zcl]
 .simp only[mtL,mt,Zcl]
theorem nodup_two(A:List Nat)(b n c m:Nat)(h:A.Nodup)(hA: ∀x∈A,(x<b\/b+n<=x)/\(x<c\/c+m<=x))(hbc:b+n<=c):(A++((List.range n).map (b+ ·)++(List.range m).map (c+ ·))).Nodup:=by
 have hr: ∀b n,((List.range n).map (b+ ·)).Nodup:=fun b n=>by have:=Qet [] b n (by simp) (by simp);simpa using this
 rw[ZbV];refine⟨h,?_,fun x hx y hy=> ?_⟩
 .rw[ZbV];refine⟨hr _ _,hr _ _,fun x hx y hy=> ?_⟩;obtain⟨i,hi,rfl⟩:=ZaJ.1 hx;obtain⟨j,hj,rfl⟩:=ZaJ.1 hy
  have:=ZaI.1 hi
  omega
 .have:=hA x hx
  rcases Zan.1 hy with hy|hy
  .obtain⟨j,hj,rfl⟩:=ZaJ.1 hy
   have:=ZaI.1 hj
   omega
  .obtain⟨j,hj,rfl⟩:=ZaJ.1 hy
   have:=ZaI.1 hj
   omega
theorem Qyb(b:Nat)(G:List (List Int))(g:Nat)(h:g<G.length):hget (gpsH b G) (b+g)=some (true,.arr 2 1 ((G[g]?.getD []).map intC)):=Qcy _ _ _ _ h
theorem grH_out(b k:Nat)(L:List Int)(m:Nat)(h:m<b\/b+k<=m):hget (grH b L k) m=none:=Qmh _ _ _ _ h
theorem Qnb(k:Nat)(L:List Int)(G:List (List Int))(i:Nat)(h:i<k):hget (grH 1000 L k++gpsH 3000 G) (1000+i)=some (grE 1000 L i):=by
 rw[Qol,Qdi _ _ _ _ h];rfl
theorem Qne(k:Nat)(L:List Int)(G:List (List Int))(g:Nat)(hk:k<=512)(h:g<G.length):hget (grH 1000 L k++gpsH 3000 G) (3000+g)=some (true,.arr 2 1 ((G[g]?.getD []).map intC)):=by
 rw[Qol,grH_out _ _ _ _ (by omega),Qyb _ _ _ h];rfl
theorem keysH_gg(k:Nat)(L:List Int)(G:List (List Int)):Qg1 (grH 1000 L k++gpsH 3000 G)=(List.range k).map (1000+ ·)++(List.range G.length).map (3000+ ·):=by
 rw[Qpf,grH,gpsH,Qe0,Qe0]
def gI(k:Nat)(L:List Int)(i:Nat)(M:List (Int×Int))(G:List (List Int)):Qad:=⟨[(81,.im (.int .i64 i)),(80,.im (.int .i64 k)),(79,.own 2),(12,.mp 2001),(11,.own 2100)],(2001,(true,.map {agg:=false,ks:=[KK.int .i64]} (M.map mII)))::(2100,(true,.arrA 37 1 (Qch 3000 G.length)))::(2,(true,.arrA 234 1 (Qj1 1000 k k)))::(grH 1000 L k++gpsH 3000 G),4000⟩
theorem gI_good{k:Nat}{L:List Int}{i:Nat}{M:List (Int×Int)}{G:List (List Int)}(hk:k<=512)(hG:G.length<=512):(gI k L i M G).good=true:=by
 simp only[gI,Qad.good,belH,Qam,Qk6,Qmd,Qn9 1000 k 4000 _ (by omega),Qlg 1000 k k 4000 (by omega),Qnw 1000 k 4000 _ (by omega),Qdv 3000 G.length 4000 (by omega),gpsH_bel 3000 4000 G (by omega),gpsH_key 3000 4000 G (by omega)];simp[belT,AV.bel]
theorem Qxg{π:List (Nat×Option Nat)}{s:Qad}{k:Nat}{L:List Int}{i:Nat}{M:List (Int×Int)}{G:List (List Int)}{O:Nat}{T:Nat->Nat}(hk:k<=512)(hG:G.length<=512)
 (hge:geP 2002 π)(p1:pm π 2001=some 2001)(p2:pm π 2=some 2)(p3: ∀j,j<k->pm π (1000+j)=some (1000+j))(p4:pm π 2100=some O)(p5: ∀q,q<G.length->pm π (3000+q)=some (T q))
 (t1:tget s.tm 81= .im (.int .i64 i))(t2:tget s.tm 80= .im (.int .i64 k))(t3:tget s.tm 79= .own 2)(t4:tget s.tm 12= .mp 2001)(t5:tget s.tm 11= .own O)
 (g1:hget s.h 2001=some (true,.map {agg:=false,ks:=[KK.int .i64]} (M.map mII)))(g2:hget s.h 2=some (true,.arrA 234 1 (Qj1 1000 k k)))(g3: ∀j,j<k->hget s.h (1000+j)=some (grE 1000 L j))
 (g4:(G.length=0/\hget s.h O=some (true,.arr 37 1 []))\/hget s.h O=some (true,.arrA 37 1 ((List.range G.length).map fun q=>[.own (T q)])))
 (g5: ∀q,q<G.length->hget s.h (T q)=some (true,.arr 2 1 ((G[q]?.getD []).map intC)))
 (inj: ∀q q',q<G.length->q'<G.length->T q=T q'->q=q')(out: ∀q,q<G.length->T q≠O/\3000<=T q)(hO:2000<=O/\O≠2001):subP 2002 π s (gI k L i M G):=by
 refine⟨hge,?_,?_,?_⟩
 .rw[Qi7];simp only[gI,Qg1,keysH_gg];have hin: ∀x∈[2001,2100,2]++((List.range k).map (1000+ ·)++(List.range G.length).map (3000+ ·)),(x=2001/\pm π x=some 2001)\/(x=2/\pm π x=some 2)\/(x=2100/\pm π x=some O)\/(1000<=x/\x<1000+k/\pm π x=some x)\/(3000<=x/\x<3000+G.length/\pm π x=some (T (x - 3000))):=by
   intro x hx;rcases Zan.1 hx with hx|hx
   .simp only[Zaw,Zca,ZdQ] at hx;rcases hx with rfl|rfl|rfl
    .exact .inl ⟨rfl,p1⟩
    .exact .inr (.inr (.inl ⟨rfl,p4⟩))
    .exact .inr (.inl ⟨rfl,p2⟩)
   .rcases Zan.1 hx with hx|hx
    .obtain⟨j,hj,rfl⟩:=ZaJ.1 hx;have hj:=ZaI.1 hj;exact .inr (.inr (.inr (.inl ⟨by show 1000<=1000+j;omega,by show 1000+j<1000+k;omega,p3 j hj⟩)))
    .obtain⟨j,hj,rfl⟩:=ZaJ.1 hx;have hj:=ZaI.1 hj;exact .inr (.inr (.inr (.inr ⟨by show 3000<=3000+j;omega,by show 3000+j<3000+G.length;omega,by show pm π (3000+j)=some (T (3000+j - 3000));rw[show 3000+j - 3000=j by omega];exact p5 j hj⟩)))
  refine Ql1 _ _ (nodup_two [2001,2100,2] 1000 k 3000 G.length (by simp) (by simp;omega) (by omega)) ?_;intro x hx y hy m hm1 hm2;rcases hin x hx with ⟨a1,a2⟩|⟨a1,a2⟩|⟨a1,a2⟩|⟨a0,a1,a2⟩|⟨a0,a1,a2⟩<;>rcases hin y hy with ⟨b1,b2⟩|⟨b1,b2⟩|⟨b1,b2⟩|⟨b0,b1,b2⟩|⟨b0,b1,b2⟩<;>
   rw[a2] at hm1<;>rw[b2] at hm2<;>have hm1:=Zac hm1<;>have hm2:=Zac hm2<;>first
   |omega
   |(have:=out (x - 3000) (by omega);omega)
   |(have:=out (y - 3000) (by omega);omega)
   |(have:=inj (x - 3000) (y - 3000) (by omega) (by omega) (hm1.trans hm2.symm);omega)
 .simp only[gI,Qpt,t1,t2,t3,t4,t5,mt,p2,p1,p4,ownM,Qga,Zcl]
 .simp only[gI,Qgb,Qns,p1,p2,p4,entN,g1,g2];refine⟨⟨rfl,rfl⟩,?_,⟨rfl,rfl,rfl,mtR_P p3⟩,?_,?_⟩
  .rcases g4 with ⟨h0,h1⟩|h1
   .rw[h1,h0];exact⟨rfl,rfl,rfl,trivial⟩
   .rw[h1];exact⟨rfl,rfl,rfl,Qyn p5 rfl⟩
  .rw[grH,Qgn];intro j hj;rw[p3 j hj,entN,g3 j hj];refine⟨rfl,?_⟩;simp only[grE,mtE,mtL,mt,Zcl,and_true,Zdi];simp only[ldV];split
   .simp only[mt,p3 _ (show (L[j]?.getD (-1)).toNat<k by omega),Qga]
   .rfl
  .rw[gpsH,Qgn];intro q hq;rw[p5 q hq,entN,g5 q hq];exact⟨rfl,rfl⟩
def grpPre(a:Int×List Bond):Prop:=0<=a.1/\a.1<=512/\Qdm a.1 a.2/\a.2.length<=1000000
def groupsBy_.fv(a:Int×(List Bond)):List (List Int):=(Qf2) (a.1) (a.2)
def groupsBy_.row:Row:=vK (b2 qI (qS Bond.d_le Bond.c_n)) (rS Qj4 Qaoj) (fun a=>grpPre (a.1,a.2)) groupsBy_.fv
def groupsBy_.q:=vKq (R:=groupsBy_.row) rfl
theorem groupsBy_.ok:Qas Tryz.prog 154 groupsBy_.row:=by
 refine vw (tC firC.ok tN) Tryz.func154 rfl (by kernel_rfl) ?_;intro a hpre;simp only[Tryz.f154,Option.getD];simp(maxSteps:=9^9)(disch:=omega)only[ZZ,simprocAttr,rch,groupsBy_.fv];obtain⟨h0,h1,hbs,hl⟩:=hpre;obtain⟨n,hn⟩: ∃n:Nat,a.1=n:=⟨a.1.toNat,by simp only at h0;omega⟩;obtain⟨bs,hbsd⟩: ∃bs,bs=a.2:=⟨_,rfl⟩;simp only[hn,<-hbsd,Zam] at h0 h1 hbs hl⊢;refine⟨h0,Zch _,by omega,fun _=> ?_⟩;rw[ZbC];refine Qay.ren ⟨{k:Nat//k<=n},fun k=>⟨[(21,.im (.int .i64 k.1)),(20,.im (.int .i64 n)),(19,.own 2),(5,.own 2),(0,.im (.int .i64 n)),(1,.im (.sl false 3 (bs.map Bond.c)))],(2,(true,.arrA 234 1 (Qj1 1000 n k.1)))::grH 1000 (List.replicate n (-1)) k.1,2000⟩,fun k=>n - k.1,fun k=>⟨?_,by simp⟩,⟨⟨0,by simp⟩,[(2,some 1)],?_⟩,fun k=> ?_⟩
 .simp only[Qad.good,belH,Qam,Qn9 1000 k.1 2000 _ (by omega),Qlg 1000 n k.1 2000 (by omega),Qnw 1000 k.1 2000 _ (by omega)];simp[belT,AV.bel]
 .simp only[subP,grH,famH,ZdN,ZaG];simp(maxSteps:=9^9)(disch:=omega)only[ZZ,simprocAttr,rch,groupsBy_.fv,Zab,Zaa];exact rowsP_nil _ _ _
 obtain⟨k,hk1⟩:=k;simp(maxSteps:=9^9)(disch:=omega)only[ZZ,simprocAttr,rch,groupsBy_.fv,sub,Qal,Qba,Qbx];refine⟨fun hk=>⟨hk,hk,?_⟩,fun hk=> ?_⟩
 .simp(maxSteps:=9^9)(disch:=omega)only[ZZ,simprocAttr,rch,groupsBy_.fv,sub,Qal,Qba,Qbx,Qtr,Zeg,Zby];refine⟨?_,⟨k+1,by omega⟩,[(1000+k,some 2000)],by simp only;omega,?_⟩
  .rw[Zbv];intro r hr;rcases ZbU hr with hr|hr
   .exact Zbv.1 (Qlg 1000 n k 2001 (by omega)) r hr
   .subst hr;simp[belL,AV.bel]
  have qi: ∀i,i≠1000+k->pm [(1000+k,some 2000)] i=some i:=by intro i hi;simp only[pm];rw[Zaj (by omega)]
  have qk:pm [(1000+k,some 2000)] (1000+k)=some 2000:=by simp only[pm];rw[Zao trivial]
  obtain⟨π,hπ⟩: ∃π,π=[(1000+k,some 2000)]:=⟨_,rfl⟩;rw[<-hπ] at qi qk⊢;refine⟨by rw[hπ];exact⟨by omega,trivial⟩,?_,?_,?_⟩
  .rw[Qi7,hπ];simp only[Qg1,grH,Qe0];refine Ql1 _ _ (Qet [2] 1000 (k+1) (by simp) (by simp)) ?_;intro x hx y hy m hm1 hm2;have hx3:x<2000:=by
    rcases Zaw.1 hx with hx|hx
    .omega
    .obtain⟨i,hi,rfl⟩:=ZaJ.1 hx
     have:=ZaI.1 hi
     show 1000+i<2000;omega
   have hy3:y<2000:=by
    rcases Zaw.1 hy with hy|hy
    .omega
    .obtain⟨i,hi,rfl⟩:=ZaJ.1 hy
     have:=ZaI.1 hi
     show 1000+i<2000;omega
   simp only[pm] at hm1 hm2;split at hm1<;>split at hm2<;>simp only[Zae] at hm1 hm2<;>omega
  .simp only[Qpt,tget];simp(maxSteps:=9^9)(disch:=omega)only[ZZ,simprocAttr,rch,groupsBy_.fv,qi 2 (by omega)];rw[Qak (by omega) (by omega)];omega
  .simp only[Qgb,grH,Qgn];refine⟨?_,fun i hi=> ?_⟩
   .simp(maxSteps:=9^9)(disch:=omega)only[ZZ,simprocAttr,rch,groupsBy_.fv,qi 2 (by omega)];rw[Ql2];refine⟨by simp[Qbx],fun i x y hx hy=> ?_⟩;have hin:i<n:=by have:=(Zai.1 hx).1;rwa [Qbx] at this
    rw[Qj7 _ _ _ _ hin] at hx;obtain rfl:=Zac hx;by_cases hik:k=i
    .subst hik;rw[ZaD (by rw[Qbx];exact hk)] at hy;obtain rfl:=Zac hy;rw[Zao (by omega)];simp only[mtL,mt,qk,Qga,Zcl]
    .rw[ZaF hik,Qj7 _ _ _ _ hin] at hy;obtain rfl:=Zac hy;by_cases hlt:i<k
     .rw[Zao (by omega),Zao hlt];simp only[mtL,mt,qi (1000+i) (by omega),Qga,Zcl]
     .rw[Zaj (by omega),Zaj hlt];simp only[mtL,mt,Zcl]
   .have hg: ∀i,i<n->(List.replicate n (-1:Int))[i]?.getD (-1)= -1:=by
     intro i hi;rw[Zbx,Zao hi,Zag]
    have hld:ldV 1000 i (-1)= .im .nilp:=by simp only[ldV];rw[Zaj (by omega)]
    simp only[grE,hg i (by omega),hld];by_cases hik:i=k
    .subst hik;rw[qk];simp(maxSteps:=9^9)(disch:=omega)only[ZZ,simprocAttr,rch,groupsBy_.fv]
    .rw[qi (1000+i) (by omega)];have h9:=Qdi 1000 k (List.replicate n (-1)) i (by omega);simp only[grE,hg i (by omega),hld,grH] at h9;simp (disch:=omega) only[entN,hget,Qao,ZaS,Qeg,ZcQ,ZcG,ZcK,ZaB,Zby];rw[h9];simp only[entM,mtE,mtL,mt,Zcl]
 .intro _;have hkn:k=n:=by omega
  subst hkn;clear hk hk1;refine Qay.old ⟨{s:Nat×List Int//s.1<=bs.length/\s.2.length=k/\ldOk s.2/\ ∀i,i<k->(ownK k bs s.1)[i]? =some ((Qde s.2 i:Nat):Int)},fun s=>⟨[(33,.im (.int .i64 s.1.1)),(32,.im (.int .i64 bs.length)),(31,.im (.sl false 3 (bs.map Bond.c))),(5,.own 2),(0,.im (.int .i64 k))],(2,(true,.arrA 234 1 (Qj1 1000 k k)))::grH 1000 s.1.2 k,2000⟩,fun s=>bs.length - s.1.1,fun s=>⟨?_,by simp⟩,⟨⟨(0,List.replicate k (-1)),by simp only;omega,by simp,Qug k,fun i hi=>own_start hi⟩,?_⟩,fun s=> ?_⟩
  .simp only[Qad.good,belH,Qam,Qn9 1000 k 2000 _ (by omega),Qlg 1000 k k 2000 (by omega),Qnw 1000 k 2000 _ (by omega)];simp[belT,AV.bel]
  .simp only[sub,subT,tget];refine⟨?_,?_⟩
   .simp(maxSteps:=9^9)(disch:=omega)only[ZZ,simprocAttr,rch,groupsBy_.fv]
   .simp only[subH];refine⟨rfl,Qo5 fun i hi=> ?_⟩;simp only[hget,Qao _ _ (show 2≠1000+i by omega),ZaS];exact Qdi _ _ _ _ hi
  obtain⟨⟨j,L⟩,i1,i2,i3,i4⟩:=s;simp only at i1 i2 i3 i4;simp(maxSteps:=9^9)(disch:=omega)only[ZZ,simprocAttr,rch,groupsBy_.fv,sub,Qal,Qba,Qbx];refine⟨fun hj=>⟨hj,fun b hb=> ?_⟩,fun hj=> ?_⟩
  .obtain⟨b1,b2,b3,b4⟩:=hbs b (Zaf hb);obtain⟨u,hu⟩: ∃u:Nat,b.A=u:=⟨b.A.toNat,by omega⟩;obtain⟨w,hw⟩: ∃w:Nat,b.B=w:=⟨b.B.toNat,by omega⟩;have huk:u<k:=by omega
   have hwk:w<k:=by omega
   have hru:=Qnj i3 u;have hrw:=Qnj i3 w;simp only[hu,hw,Zam];refine⟨by omega,by omega,huk,?_⟩;simp(maxSteps:=9^9)(disch:=omega)only[ZZ,simprocAttr,rch,groupsBy_.fv,sub,Qal,Qba,Qbx,Qtr,Zao huk,Zao hwk,hu,hw,Zam,Zeh];have hH: ∀(e e2:Ent) (i:Nat),i<k->hget ((2000,e)::(2,e2)::hdel (grH 1000 L k) [2000]) (1000+i)=some (grE 1000 L i):=by
    intro e e2 i hi;have h9:=Qdi 1000 k L i hi;simp (disch:=omega) only[hget,Qao,ZaS,Qeg,ZcQ,ZcG,ZcK,ZaB,Zby,h9]
   refine⟨by omega,Qtp (nx:=2001) i2 (by omega) i3 huk (by decide) (hH _ _) (fun U=> ?_)⟩;simp(maxSteps:=9^9)(disch:=omega)only[ZZ,simprocAttr,rch,groupsBy_.fv,sub,Qal,Qba,Qbx,Qtr,Zao huk,Zao hwk,hu,hw,Zam,Qkf,Zeh];refine⟨by omega,hwk,hwk,by omega,Zao (.inl (by omega)),Qtp (nx:=2001) i2 (by omega) i3 hwk (by decide) (hH _ _) (fun U2=> ?_)⟩;obtain⟨x,hx⟩: ∃x,x=Qde L u:=⟨_,rfl⟩;obtain⟨y,hy⟩: ∃y,y=Qde L w:=⟨_,rfl⟩;rw[<-hx] at hru⊢;rw[<-hy] at hrw⊢;have gx:=Qdi 1000 k L x (by omega);have gy:=Qdi 1000 k L y (by omega);simp only[grE] at gx gy;simp(maxSteps:=9^9)(disch:=omega)only[ZZ,simprocAttr,rch,groupsBy_.fv,sub,Qal,Qba,Qbx,Qkf,Zeh,Qjf,Qao,Qce,gx,gy,ZdV (show 1000+x<2001 by omega),ZdV (show 1000+y<2001 by omega),ZaQ];have hxr:Qde L x=x:=by rw[hx];exact Qls i3 u
   have hyr:Qde L y=y:=by rw[hy];exact Qls i3 w
   have ou:=i4 u huk;have ow:=i4 w hwk;rw[<-hx] at ou;rw[<-hy] at ow;have hS:ownK k bs (j+1)=(ownK k bs j).map (Qja (x:Int) (y:Int)):=by
    simp only[ownK,hb,Qnr,hu,hw,Zam,ou,ow,Zag]
   have hset: ∀(p q:Nat),p<q->q<k-> ∀(i:Nat),i<k->grE 1000 (L.set q (p:Int)) i=if i=q then (true,.cells 236 [.ptr (1000+p) 0,.im (.int .i64 q)]) else grE 1000 L i:=by
    intro p q hpq hq i hi;simp only[grE];by_cases h:i=q
    .subst h;rw[Zao rfl,ZaD (by omega),Zag];simp only[ldV];rw[Zao ⟨by omega,by omega⟩,Zam]
    .rw[Zaj h,ZaF (Zcz h)]
   have hgrow: ∀(p q:Nat),p<q->q<k-> ∀(e e2:Ent) (tm:List (Nat×AV)),subH ⟨tm,(1000+q,(true,.cells 236 [.ptr (1000+p) 0,.im (.int .i64 q)]))::(2000,e)::(2,e2)::hdel (hdel (grH 1000 L k) [2000]) [1000+q],2001⟩ (grH 1000 (L.set q (p:Int)) k):=by
    intro p q hpq hq e e2 tm;refine Qo5 fun i hi=> ?_
    rw[hset p q hpq hq i hi];by_cases h:i=q
    .subst h;simp only[hget,ZeO,Zbf,ZaQ]
    .rw[Zaj h];have h9:=Qdi 1000 k L i hi;simp (disch:=omega) only[hget,Qao,ZaS,Qce,h9]
   refine⟨fun hxy=>⟨⟨(j+1,L.set y (x:Int)),by simp only;omega,by simp only[ZbG];exact i2,Qsx i3 hxy,fun i hi=> ?_⟩,by simp only;omega,by rw[Qak (by omega) (by omega)];simp only;omega,hgrow x y hxy (by omega) _ _ _⟩,fun hxy=>⟨fun hyx=>⟨⟨(j+1,L.set x (y:Int)),by simp only;omega,by simp only[ZbG];exact i2,Qsx i3 hyx,fun i hi=> ?_⟩,by simp only;omega,by rw[Qak (by omega) (by omega)];simp only;omega,hgrow y x hyx (by omega) _ _ _⟩,fun hyx=>⟨⟨(j+1,L),by simp only;omega,i2,i3,fun i hi=> ?_⟩,by simp only;omega,by rw[Qak (by omega) (by omega)];simp only;omega,?_⟩⟩⟩
   .rw[hS,ZaN,i4 i hi,ZaO,Qqx i3 hxr hyr hxy (by omega) i,(join_lt hxy _).1]
   .rw[hS,ZaN,i4 i hi,ZaO,Qqx i3 hyr hxr hyx (by omega) i,(join_lt hyx _).2]
   .rw[hS,ZaN,i4 i hi,ZaO,show y=x by omega,join_eq]
   .refine Qo5 fun i hi=> ?_
    have h9:=Qdi 1000 k L i hi;simp (disch:=omega) only[hget,Qao,ZaS,Qce,h9]
  .have hjb:j=bs.length:=by omega
   subst hjb;obtain⟨own,hown⟩: ∃own,own=ownK k bs bs.length:=⟨_,rfl⟩;rw[<-hown] at i4;intro _;refine Qay.ren ⟨{s:Nat×List (Int×Int)//s.1<=k/\Qpc (Qa7 own s.1 s.1) s.2},fun s=>gI k L s.1.1 s.1.2 (Qa7 own s.1.1 s.1.1),fun s=>k - s.1.1,fun s=>⟨?_,by simp[gI]⟩,⟨⟨(0,[]),by simp only;omega,?_⟩,[(2100,some 2000)],?_⟩,fun s=> ?_⟩
   .have hgl:=Qig own s.1.1 s.1.1;have hs:=s.2.1;exact gI_good (by omega) (by omega)
   .exact⟨fun r v h=>(by cases h),fun g r rest h=>(by simp[Qa7] at h)⟩
   .refine Qxg (O:=2000) (T:=fun q=>3000+q) (by omega) (by simp[Qa7]) ⟨by omega,trivial⟩ rfl rfl (fun j hj=> ?_) rfl (fun q hq=>(by simp[Qa7] at hq)) rfl rfl rfl rfl rfl rfl rfl (fun j hj=> ?_) (.inl ⟨rfl,rfl⟩) (fun q hq=>(by simp[Qa7] at hq)) (fun q q' hq=>(by simp[Qa7] at hq)) (fun q hq=>(by simp[Qa7] at hq)) (by omega)
    .simp only[pm];rw[Zaj (by omega)]
    .have h9:=Qdi 1000 k L j hj;simp (disch:=omega) only[hget,Qao,ZaS,h9]
   obtain⟨⟨i,M⟩,q1,q2⟩:=s;simp only at q1 q2;simp only[gI];have hGl:=Qig own i i;simp(maxSteps:=9^9)(disch:=omega)only[ZZ,simprocAttr,rch,groupsBy_.fv,sub,Qal,Qba,Qbx];refine⟨fun hi=>⟨hi,hi,?_⟩,fun hi=> ?_⟩
   .simp(maxSteps:=9^9)(disch:=omega)only[ZZ,simprocAttr,rch,groupsBy_.fv,sub,Qal,Qba,Qbx,Qtr,Zao hi];have hH: ∀(e1 e2 e3:Ent) (j:Nat),j<k->hget ((2001,e1)::(2100,e2)::(2,e3)::(grH 1000 L k++gpsH 3000 (Qa7 own i i))) (1000+j)=some (grE 1000 L j):=by
     intro e1 e2 e3 j hj;have h9:=Qnb k L (Qa7 own i i) j hj;simp (disch:=omega) only[hget,Qao,ZaS,h9]
    have ho:=i4 i hi;obtain⟨r,hr⟩: ∃r,r=Qde L i:=⟨_,rfl⟩;have hri:r<=i:=by rw[hr];exact Qnj i3 i
    have hrr:own[r]? =some (r:Int):=by
     have:=i4 r (by omega)
     rwa [hr,Qls i3 i,<-hr] at this
    rw[<-hr] at ho;have gr:=Qnb k L (Qa7 own i i) r (by omega);simp only[grE] at gr;refine⟨by omega,by omega,by omega,Qtp (nx:=4000) i2 (by omega) i3 hi (by omega) (hH _ _ _) (fun U=> ?_)⟩;rw[<-hr];simp(maxSteps:=9^9)(disch:=omega)only[ZZ,simprocAttr,rch,groupsBy_.fv,sub,Qal,Qjf,Qba,Qbx,Qbj,Qao,gr,lkVC_ii,ZdV (show 1000+r<4000 by omega),ZaQ];refine⟨fun v hv=> ?_,fun hn=> ?_⟩
    .obtain⟨g,rest,rfl,hg⟩:=q2.a _ v hv;have hgl:=(Zai.1 hg).1;have hGl:=Qig own i i;have gg:=Qne k L (Qa7 own i i) g (by omega) hgl;rw[hg,Zag] at gg;simp(maxSteps:=9^9)(disch:=omega)only[ZZ,simprocAttr,rch,groupsBy_.fv,sub,Qal,Qjf,Qba,Qbx,Qbj,Qao,gg,Zam,Qxa];obtain⟨e1,e2⟩:=grps_old q2 ho hg;obtain⟨G,hG⟩: ∃G,G=Qa7 own i i:=⟨_,rfl⟩;rw[<-hG] at hg hgl hGl e1 gg⊢;have hset:(Qch 3000 G.length).set g [AV.own 4001]=(List.range G.length).map fun q=>[AV.own (if q=g then 4001 else 3000+q)]:=by
      apply ZbM;intro j;rw[ZaN];by_cases hj:j<G.length
      .rw[ZbF hj];by_cases h:g=j
       .subst h;rw[ZaD (by rw[Qbj];exact hgl)];simp
       .rw[ZaF h,Qo7 _ _ _ hj,ZaO,Zaj (Zcz h)]
      .rw[ZaY (by simp[Qbj];omega),ZaY (by simp;omega)];rfl
     refine⟨hgl,hgl,by omega,?_,by omega,?_,hgl,hgl,?_,⟨(i+1,M),by simp only;omega,e2⟩,[(3000+g,some 4001)],by simp only;omega,?_⟩
     .intro row hrow;obtain rfl:=Zal.1 hrow;rfl
     .have h6:(r::rest:List Int).length<=1000:=Zbd (by rw[hG] at hg;exact Qy0 own i i _ (Zaf hg)) (by omega);simp only[ZaE] at h6;omega
     .rw[Zbv];intro row hrow;rcases ZbU hrow with hr|hr
      .exact Zbv.1 (Qdv 3000 G.length 4002 (by omega)) row hr
      .subst hr;simp[belL,AV.bel]
     have pn: ∀m,m≠3000+g->pm [(3000+g,some 4001)] m=some m:=by intro m hm;simp only[pm];rw[Zaj (Zcz hm)]
     simp only[e1];rw[Qak (by omega) (by omega)];have hh: ∀(e1 e2 e3 e4 e5:Ent) (m:Nat),hget ((2100,e1)::(4001,e2)::(4000,e3)::(2001,e4)::(2,e5)::hdel (hdel (grH 1000 L k++gpsH 3000 G) [3000+g]) [2100]) m=if m=2100 then some e1 else if m=4001 then some e2 else if m=4000 then some e3 else if m=2001 then some e4 else if m=2 then some e5 else if m=3000+g then none else hget (grH 1000 L k++gpsH 3000 G) m:=by
      intro e1 e2 e3 e4 e5 m;simp only[hget,Qeg,ZcQ,ZcG,ZcK,Zdv,ZeL];by_cases h1:m=2100
      .subst h1;simp
      by_cases h2:m=4001
      .subst h2;simp
      by_cases h3:m=4000
      .subst h3;simp
      by_cases h4:m=2001
      .subst h4;simp
      by_cases h5:m=2
      .subst h5;simp
      simp only[Zaj h1,Zaj h2,Zaj h3,Zaj h4,Zaj h5,Zaj (Zcz h1),Zaj (Zcz h2),Zaj (Zcz h3),Zaj (Zcz h4),Zaj (Zcz h5)]
     refine Qxg (O:=2100) (T:=fun q=>if q=g then 4001 else 3000+q) (by omega) (by rw[ZbG];omega) ⟨by omega,trivial⟩ (pn _ (by omega)) (pn _ (by omega)) (fun j hj=>pn _ (by omega)) (pn _ (by omega)) (fun q hq=> ?_) rfl rfl rfl rfl rfl ?_ ?_ (fun j hj=> ?_) (.inr ?_) (fun q hq=> ?_) (fun q q' hq=> ?_) (fun q hq=> ?_) (by omega)
     .by_cases h:q=g
      .subst h;simp[pm]
      .rw[pn _ (by omega),Zaj h]
     .rw[hh];rfl
     .rw[hh];rfl
     .rw[hh,Zaj (by omega),Zaj (by omega),Zaj (by omega),Zaj (by omega),Zaj (by omega),Zaj (by omega)];exact Qnb _ _ _ _ hj
     .rw[hh,Zao rfl,hset,ZbG]
     .rw[ZbG] at hq;rw[hh];by_cases h:q=g
      .subst h;rw[Zao rfl,Zaj (by omega),Zao rfl,ZaD hgl,Zag];simp[intC]
      .rw[Zaj h,Zaj (by omega),Zaj (by omega),Zaj (by omega),Zaj (by omega),Zaj (by omega),Zaj (by omega),ZaF (Zcz h)];exact Qne _ _ _ _ (by omega) hq
     .rw[ZbG] at hq;intro hq2 he;rw[ZbG] at hq2;by_cases h:q=g<;>by_cases h2:q'=g<;>simp only[h,h2,ZaQ,Zby] at he⊢ <;>omega
     .rw[ZbG] at hq;by_cases h:q=g<;>simp only[h,ZaQ,Zby]<;>omega
    .obtain⟨hri2,e1,e2⟩:=grps_new q2 ho hri hrr hn;have hrow:(Qch 3000 (Qa7 own i i).length++[[AV.im (D.sl true 0 [])]])[(Qa7 own i i).length]? =some [AV.im (D.sl true 0 [])]:=by
      rw[ZaC (by rw[Qbj];exact Zap _),Qbj,Zcj];rfl
     have hall: ∀N,4000<=N->(Qch 3000 (Qa7 own i i).length++[[AV.im (D.sl true 0 [])]]).all (belL N)=true:=by
      intro N hN;rw[ZbY,Qdv _ _ _ (by omega)];rfl
     intro _;refine⟨?_,by omega,hall _ (by omega),by simp[Qbj],by simp[Qbj],Qi3 hrow ?_⟩
     .intro row hrow;obtain rfl:=Zal.1 hrow;rfl
     have hset:(Qch 3000 (Qa7 own i i).length++[[AV.im (D.sl true 0 [])]]).set (Qa7 own i i).length [AV.own 4003]=Qch 3000 (Qa7 own i i).length++[[AV.own 4003]]:=by
      have: ∀(l:List (List AV)) n x y,l.length=n->(l++[x]).set n y=l++[y]:=by
       intro l n x y h;subst h;rw[Zea _ _ (Zap _),Zcj];rfl
      exact this _ _ _ _ (Qbj _ _)
     have hall2: ∀N,4003<N->(Qch 3000 (Qa7 own i i).length++[[AV.own 4003]]).all (belL N)=true:=by
      intro N hN;rw[ZbY,Qdv _ _ _ (by omega)];simp[belL,AV.bel];omega
     simp(maxSteps:=9^9)(disch:=omega)only[ZZ,simprocAttr,rch,groupsBy_.fv,sub,Qal,Qjf,Qba,Qbx,Qbj,Qao];refine⟨?_,by simp[Qbj],by simp[Qbj],Qi3 hrow ?_⟩
     .intro row hrow;obtain rfl:=Zal.1 hrow;rfl
     simp(maxSteps:=9^9)(disch:=omega)only[ZZ,simprocAttr,rch,groupsBy_.fv,sub,Qal,Qjf,Qba,Qbx,Qbj,Qao,hset];refine⟨hall2 _ (by omega),⟨(i+1,M++[((i:Int),((Qa7 own i i).length:Int))]),by simp only;omega,by simp only;exact e2⟩,[(2100,some 4001),(3000+(Qa7 own i i).length,some 4003)],by simp only;omega,?_⟩;simp only[e1];obtain⟨G,hG⟩: ∃G,G=Qa7 own i i:=⟨_,rfl⟩;simp only[<-hG] at hGl⊢;rw[Qak (by omega) (by omega)];have pn: ∀m,m≠2100->m≠3000+G.length->pm [(2100,some 4001),(3000+G.length,some 4003)] m=some m:=by intro m hm hm2;simp only[pm];rw[Zaj (Zcz hm),Zaj (Zcz hm2)]
     have hh: ∀(e1 e2 e3 e4 e5 e6:Ent) (m:Nat),hget ((4001,e1)::(4003,e2)::(4002,e3)::(4000,e4)::(2001,e5)::(2,e6)::hdel (hdel (hdel (grH 1000 L k++gpsH 3000 G) [2001]) [2100]) [4001]) m=if m=4001 then some e1 else if m=4003 then some e2 else if m=4002 then some e3 else if m=4000 then some e4 else if m=2001 then some e5 else if m=2 then some e6 else if m=2100 then none else hget (grH 1000 L k++gpsH 3000 G) m:=by
      intro e1 e2 e3 e4 e5 e6 m;simp only[hget,Qeg,ZcQ,ZcG,ZcK,Zdv,ZeL];by_cases h1:m=4001
      .subst h1;simp
      by_cases h2:m=4003
      .subst h2;simp
      by_cases h3:m=4002
      .subst h3;simp
      by_cases h4:m=4000
      .subst h4;simp
      by_cases h5:m=2001
      .subst h5;simp
      by_cases h6:m=2
      .subst h6;simp
      simp only[Zaj h1,Zaj h2,Zaj h3,Zaj h4,Zaj h5,Zaj h6,Zaj (Zcz h1),Zaj (Zcz h2),Zaj (Zcz h3),Zaj (Zcz h4),Zaj (Zcz h5),Zaj (Zcz h6)]
     have hlen:(G++[[(i:Int)]]).length=G.length+1:=by simp
     refine Qxg (O:=4001) (T:=fun q=>if q<G.length then 3000+q else 4003) (by omega) (by rw[hlen];omega) ⟨by omega,by omega,trivial⟩ (pn _ (by omega) (by omega)) (pn _ (by omega) (by omega)) (fun j hj=>pn _ (by omega) (by omega)) (by simp[pm]) (fun q hq=> ?_) rfl rfl rfl rfl rfl ?_ ?_ (fun j hj=> ?_) (.inr ?_) (fun q hq=> ?_) (fun q q' hq=> ?_) (fun q hq=> ?_) (by omega)
     .rw[hlen] at hq;by_cases h:q<G.length
      .rw[pn _ (by omega) (by omega),Zao h]
      .obtain rfl:q=G.length:=by omega
       rw[Zaj h];simp only[pm];rw[Zaj (by omega),Zao trivial]
     .rw[hh,<-hri2,<-upd_mII _ _ _ hn];rfl
     .rw[hh];rfl
     .rw[hh,Zaj (by omega),Zaj (by omega),Zaj (by omega),Zaj (by omega),Zaj (by omega),Zaj (by omega),Zaj (by omega)];exact Qnb _ _ _ _ hj
     .rw[hh,Zao rfl,Ql0,hlen]
     .rw[hlen] at hq;rw[hh];by_cases h:q<G.length
      .rw[Zao h,Zaj (by omega),Zaj (by omega),Zaj (by omega),Zaj (by omega),Zaj (by omega),Zaj (by omega),Zaj (by omega),Zav h];exact Qne _ _ _ _ (by omega) h
      .obtain rfl:q=G.length:=by omega
       rw[Zaj h,Zaj (by omega),Zao rfl,ZaC (Zap _),Zcj];rfl
     .rw[hlen] at hq;intro hq2 he;rw[hlen] at hq2;by_cases h:q<G.length<;>by_cases h2:q'<G.length<;>simp only[h,h2,ZaQ,Zby] at he⊢ <;>omega
     .by_cases h:q<G.length<;>simp only[h,ZaQ,Zby]<;>omega
   .have hik:i=k:=by omega
    subst hik;rw[Qf2,Zam,<-hown];rw[cvt_rowsF (m:=7) (G:=Qa7 own i i)]
    .simp(maxSteps:=9^9)(disch:=omega)only[ZZ,simprocAttr,rch,groupsBy_.fv]
    .intro q hq;have h9:=Qne i L (Qa7 own i i) q (by omega) hq;simp (disch:=omega) only[hget,Qao,ZaS,h9]
end Go.Ae
