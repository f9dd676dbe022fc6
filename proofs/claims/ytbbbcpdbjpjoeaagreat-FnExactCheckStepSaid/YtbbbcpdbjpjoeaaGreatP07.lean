/- What is proved: the law FnExactCheckStep returns true for every input, and each argument reads afterwards as it read before. Conditions: none. -/
import Derived.Test.YtbbbcpdbjpjoeaaGreatP06
set_option linter.all false
set_option maxHeartbeats 8000000
set_option maxRecDepth 100000
namespace Go.Ae
open Go.Proofs
def lkP{β:Type}:List (Qae×β)→Qae→Option β
 |[],_=>none
 |(k,v)::r,p=>if p=k then some v else lkP r p
theorem pt_beq(p q:Qae):D.beql (Qae.c p) (Qae.c q)=decide (p=q):=by
 cases p;cases q;simp only[Qae.c,D.beql,D.beq,Qae.mk.injEq,Bool.and_true];rw[Bool.eq_iff_iff];simp
theorem lk_pt{β:Type}(e:Qae×β→D×D)(g:β→D)(he: ∀p,e p=(.agg (Qae.c p.1),g p.2))(x y:Int): ∀(l:List (Qae×β)),lk (l.map e) (.agg [.int .i64 x,.int .i64 y])=(lkP l ⟨x,y⟩).map g
 |[]=>rfl
 |q::r=>by
  have h1:D.beq (.agg [.int .i64 x,.int .i64 y]) (.agg (Qae.c q.1))=decide ((⟨x,y⟩:Qae)=q.1):=pt_beq ⟨x,y⟩ q.1;obtain⟨k,v⟩:=q;simp only[List.map_cons,he,lk,lkP,h1];by_cases h:(⟨x,y⟩:Qae)=k
  ·simp[h]
  ·simp[h,lk_pt e g he x y r]
theorem lkVC_pt{β:Type}(e:Qae×β→D×D)(g:β→D)(he: ∀p,e p=(.agg (Qae.c p.1),g p.2))(x y:Int)(l:List (Qae×β))(Ks:D→Prop)(Kn:Prop):
 LkVC (l.map e) (.agg [.int .i64 x,.int .i64 y]) Ks Kn=((∀v,lkP l ⟨x,y⟩=some v→Ks (g v))∧(lkP l ⟨x,y⟩=none→Kn)):=by
 apply propext;unfold LkVC;rw[lk_pt e g he];constructor
 ·rintro⟨h1,h2⟩;exact⟨fun v hv=>h1 _ (by rw[hv];rfl),fun h=>h2 (by rw[h];rfl)⟩
 ·rintro⟨h1,h2⟩;refine⟨fun v hv=> ?_,fun h=>h2 (by simpa using h)⟩;simp only[Option.map_eq_some_iff] at hv;obtain⟨w,hw,rfl⟩:=hv;exact h1 w hw
theorem lkVC_pi(x y:Int)(l:List (Qae×Int))(Ks:D→Prop)(Kn:Prop):LkVC (l.map Qbe) (.agg [.int .i64 x,.int .i64 y]) Ks Kn=((∀v,lkP l ⟨x,y⟩=some v→Ks (.int .i64 v))∧(lkP l ⟨x,y⟩=none→Kn)):=
 lkVC_pt Qbe (.int .i64) (fun _=>rfl) x y l Ks Kn
def Qbw(l:List (Qae×Int))(p:Qae):Int:=(lkP l p).getD (-1)
def catC.ar:List PK→Option (Cry×Qae)
 |[.ptr x0,.val (.agg x1)]=>(Cry.d (x0.take 6)).bind fun y0=>(Qae.d x1).bind fun y1=>some (y0,y1)
 |_=>none
def catC.ae(a:Cry×Qae):List PK:=[.ptr (Cry.c a.1),.val (.agg (Qae.c a.2))]
theorem catC.le: ∀ps a,catC.ar ps=some a→LeKL ps (catC.ae a):=by
 intro ps a h;unfold catC.ar at h;split at h
 ·simp only[Option.bind_eq_some_iff,Option.some.injEq] at h;obtain⟨y0,h0,y1,h1,rfl⟩:=h;exact⟨LeP.trans_take (Cry.d_le _ _ h0),Qav (Qae.d_le _ _ h1),trivial⟩
 ·cases h
def catC.fv(a:Cry×Qae):Int:=(fun c p=>Qbw c.Tl p) (a.1) (a.2)
def catC.row:Row:=Qfi catC.ar (fun a=>True) (fun a=>(D.int .i64) (catC.fv a))
def catC.q(a:List AV)(h:Nat→Option Ent)(n:Nat)(K:Kont):=show catC.row a h n K=Qct _ _ _ (rchL h a) K (pkFL h a) from rfl
theorem catC.ok:Qas Tryz.prog 54 catC.row:=by
 refine Qbn Qaq tN Tryz.func54 rfl (by kernel_rfl) (by kernel_rfl) catC.le (n:=2) (fun _=>rfl) (by decide) (rc:=(vInt)) (re:=(D.int .i64)) (Qa3) (f:=catC.fv) ?_;intro a hpre;simp only[Tryz.f54,Option.getD];simp (config:={maxSteps:=10000000}) (disch:=omega) only[ZA,ZT,simprocAttr,Asm.d,rch,catC.ae,catC.fv,Qah,Qag,Qac,Qaf,Qai,D.sc,D.scs,scL,decD];simp (config:={maxSteps:=10000000}) (disch:=omega) only[ZA,ZT,simprocAttr,Asm.d,rch,catC.ae,catC.fv,Qah,Qag,Qac,Qaf,Qai,D.sc,D.scs,scL,decD,lkVC_pi];simp only[Qbw];exact⟨fun v hv=>by rw[show lkP a.1.Tl a.2=some v from hv];rfl,fun hv=>by rw[show lkP a.1.Tl a.2=none from hv];rfl⟩
def Quh(s:Qaa)(f:Qae→Int)(p:Qae)(t:Int)(d:Int):Int:=if 0≤f (Qf7 p d) then Qfn s t d (f (Qf7 p d)) else 0
def Qhs(s:Qaa)(f:Qae→Int)(p:Qae)(t:Int):Nat→Int
 |0=>0
 |k+1=>Qhs s f p t k+Quh s f p t k
theorem bindF_A(s:Qaa)(a:Asm)(p:Qae)(t:Int): ∀k,Qhs s (atA a) p t k=Qjm s a p t k
 |0=>rfl
 |k+1=>by simp only[Qhs,Qjm,bindF_A s a p t k];rfl
def inF(s:Qaa)(f:Qae→Int):Prop:= ∀p,0≤f p→Qcs s (f p)
theorem Qxd{s:Qaa}(h:setP s)(f:Qae→Int)(p:Qae)(t d:Int):0≤Quh s f p t d∧Quh s f p t d≤4:=by
 simp only[Quh,Qfn];split
 ·split
  ·exact Qp1 h _
  ·omega
 ·omega
theorem Qwy{s:Qaa}(h:setP s)(f:Qae→Int)(p:Qae)(t:Int): ∀(k:Nat),0≤Qhs s f p t k∧Qhs s f p t k≤4*k
 |0=>by simp[Qhs]
 |k+1=>by
  have h1:=Qwy h f p t k;have h2:=Qxd h f p t k;simp only[Qhs];omega
def bindC.ar:List PK→Option (Qaa×Qae×Int×Cry)
 |[.val (.agg x0),.val (.agg x1),.val (.int .i64 x2),.val (.fn 54 [.ref x3] [])]=>(Qaa.d x0).bind fun y0=>(Qae.d x1).bind fun y1=>(Cry.d (x3.take 6)).bind fun y3=>some (y0,y1,x2,y3)
 |_=>none
def bindC.ae(a:Qaa×Qae×Int×Cry):List PK:=[.val (.agg (Qaa.c a.1)),.val (.agg (Qae.c a.2.1)),.val (.int .i64 a.2.2.1),.val (.fn 54 [.ref (Cry.c a.2.2.2)] [])]
theorem bindC.le: ∀ps a,bindC.ar ps=some a→LeKL ps (bindC.ae a):=by
 intro ps a h;unfold bindC.ar at h;split at h
 ·simp only[Option.bind_eq_some_iff,Option.some.injEq] at h;obtain⟨y0,h0,y1,h1,y3,h3,rfl⟩:=h;exact⟨Qav (Qaa.d_le _ _ h0),Qav (Qae.d_le _ _ h1),LeK.refl _,le_fn1 ⟨Qil (LeP.trans_take (Cry.d_le _ _ h3)),trivial⟩,trivial⟩
 ·cases h
def bindC.fv(a:Qaa×Qae×Int×Cry):Int:=(fun s p t c=>Qhs s (Qbw c.Tl) p t 4) (a.1) (a.2.1) (a.2.2.1) (a.2.2.2)
def bindC.row:Row:=Qfi bindC.ar (fun a=>setP a.1∧inF a.1 (Qbw a.2.2.2.Tl)∧Qdy a.2.1∧Qcs a.1 a.2.2.1) (fun a=>(D.int .i64) (bindC.fv a))
def bindC.q(a:List AV)(h:Nat→Option Ent)(n:Nat)(K:Kont):=show bindC.row a h n K=Qct _ _ _ (rchL h a) K (pkFL h a) from rfl
theorem bindC.ok:Qas Tryz.prog 55 bindC.row:=by
 refine Qbn Qaq (tC step_.ok (tC bond_.ok (tC catC.ok tN))) Tryz.func55 rfl (by kernel_rfl) (by kernel_rfl) bindC.le (n:=4) (fun _=>rfl) (by decide) (rc:=(vInt)) (re:=(D.int .i64)) (Qa3) (f:=bindC.fv) ?_;intro a hpre;simp only[Tryz.f55,Option.getD];simp (config:={maxSteps:=10000000}) (disch:=omega) only[ZA,ZT,simprocAttr,Asm.d,rch,bindC.ae,bindC.fv,step_.q,step_.ar,step_.fv,step_.re,bond_.q,bond_.ar,bond_.fv,bond_.re,catC.q,catC.ar,catC.fv,Qah,Qag,Qac,Qaf,Qai,D.sc,D.scs,scL,decD];obtain⟨h1,h2,h3,h4⟩:=hpre;refine Qay.old ⟨{k:Nat//k≤4},fun k=>⟨[(12,.im (.int .i64 k.1)),(9,.im (.int .i64 (Qhs a.1 (Qbw a.2.2.2.Tl) a.2.1 a.2.2.1 k.1))),(8,.im (.int .i64 0)),(5,.ptr 1 0),(4,.ptr 0 0),(2,.im (.int .i64 a.2.2.1)),(3,.im (.fn 54 [.ref (Cry.c a.2.2.2)] []))],[(1,(true,.cells 54 [.im (.int .i64 a.2.1.X),.im (.int .i64 a.2.1.Y)])),(0,(true,.cells 44 ((Qaa.c a.1).map .im)))],2⟩,fun k=>4 - k.1,fun k=>⟨by simp[Qad.good,belT,belH,Qam,AV.bel,belL,Qaa.c],Nat.le_refl _⟩,⟨⟨0,by simp⟩,by simp (config:={maxSteps:=10000000}) (disch:=omega) only[ZA,ZT,simprocAttr,Asm.d,rch,bindC.ae,bindC.fv,step_.q,step_.ar,step_.fv,step_.re,bond_.q,bond_.ar,bond_.fv,bond_.re,catC.q,catC.ar,catC.fv,Qah,Qag,Qac,Qaf,Qai,D.sc,D.scs,scL,decD,sub,Qhs]⟩,fun k=> ?_⟩;obtain⟨k,hk1⟩:=k;simp (config:={maxSteps:=10000000}) (disch:=omega) only[ZA,ZT,simprocAttr,Asm.d,rch,bindC.ae,bindC.fv,step_.q,step_.ar,step_.fv,step_.re,bond_.q,bond_.ar,bond_.fv,bond_.re,catC.q,catC.ar,catC.fv,Qah,Qag,Qac,Qaf,Qai,D.sc,D.scs,scL,decD,sub,Qal];have hb:=Qwy h1 (Qbw a.2.2.2.Tl) a.2.1 a.2.2.1 k;have ht:=Qxd h1 (Qbw a.2.2.2.Tl) a.2.1 a.2.2.1 k;refine⟨fun hk=>⟨⟨h3,by omega⟩,fun hp=>⟨⟨h1,h4,⟨by omega,by omega⟩,h2 _ hp⟩,⟨⟨k+1,by omega⟩,by simp only;omega,?_,?_⟩⟩,fun hp=>⟨⟨k+1,by omega⟩,by simp only;omega,?_,?_⟩⟩,fun hk=> ?_⟩
 ·rw[Qak (by omega) (by omega)];simp only;omega
 ·simp only[Qhs];simp only[Quh,if_pos hp] at ht⊢;rw[Qak (by omega) (by omega)]
 ·rw[Qak (by omega) (by omega)];simp only;omega
 ·simp only[Qhs,Quh,if_neg hp];omega
 ·have:k=4:=by omega
  rw[this]
def bindA.ar:List PK→Option (Qaa×Qae×Int×Asm)
 |[.val (.agg x0),.val (.agg x1),.val (.int .i64 x2),.val (.fn 96 [.agg x3] [])]=>(Qaa.d x0).bind fun y0=>(Qae.d x1).bind fun y1=>(Asm.d x3).bind fun y3=>some (y0,y1,x2,y3)
 |_=>none
def bindA.ae(a:Qaa×Qae×Int×Asm):List PK:=[.val (.agg (Qaa.c a.1)),.val (.agg (Qae.c a.2.1)),.val (.int .i64 a.2.2.1),.val (.fn 96 [.agg (Asm.c a.2.2.2)] [])]
theorem bindA.le: ∀ps a,bindA.ar ps=some a→LeKL ps (bindA.ae a):=by
 intro ps a h;unfold bindA.ar at h;split at h
 ·simp only[Option.bind_eq_some_iff,Option.some.injEq] at h;obtain⟨y0,h0,y1,h1,y3,h3,rfl⟩:=h;exact⟨Qav (Qaa.d_le _ _ h0),Qav (Qae.d_le _ _ h1),LeK.refl _,le_fn1 ⟨Qav (Asm.d_le _ _ h3),trivial⟩,trivial⟩
 ·cases h
def bindA.fv(a:Qaa×Qae×Int×Asm):Int:=(fun s p t c=>Qhs s (atA c) p t 4) (a.1) (a.2.1) (a.2.2.1) (a.2.2.2)
def bindA.row:Row:=Qfi bindA.ar (fun a=>setP a.1∧inF a.1 (atA a.2.2.2)∧Qdy a.2.1∧Qcs a.1 a.2.2.1∧Qaz none a.2.2.2.Tiles=true) (fun a=>(D.int .i64) (bindA.fv a))
def bindA.q(a:List AV)(h:Nat→Option Ent)(n:Nat)(K:Kont):=show bindA.row a h n K=Qct _ _ _ (rchL h a) K (pkFL h a) from rfl
theorem bindA.ok:Qas Tryz.prog 55 bindA.row:=by
 refine Qbn Qaq (tC step_.ok (tC bond_.ok (tC at_.ok tN))) Tryz.func55 rfl (by kernel_rfl) (by kernel_rfl) bindA.le (n:=4) (fun _=>rfl) (by decide) (rc:=(vInt)) (re:=(D.int .i64)) (Qa3) (f:=bindA.fv) ?_;intro a hpre;simp only[Tryz.f55,Option.getD];simp (config:={maxSteps:=10000000}) (disch:=omega) only[ZA,ZT,simprocAttr,Asm.d,rch,bindA.ae,bindA.fv,step_.q,step_.ar,step_.fv,step_.re,bond_.q,bond_.ar,bond_.fv,bond_.re,at_.q,at_.ar,at_.fv,Qah,Qag,Qac,Qaf,Qai,D.sc,D.scs,scL,decD];obtain⟨h1,h2,h3,h4,h5⟩:=hpre;refine Qay.old ⟨{k:Nat//k≤4},fun k=>⟨[(12,.im (.int .i64 k.1)),(9,.im (.int .i64 (Qhs a.1 (atA a.2.2.2) a.2.1 a.2.2.1 k.1))),(8,.im (.int .i64 0)),(5,.ptr 1 0),(4,.ptr 0 0),(2,.im (.int .i64 a.2.2.1)),(3,.im (.fn 96 [.agg (Asm.c a.2.2.2)] []))],[(1,(true,.cells 54 [.im (.int .i64 a.2.1.X),.im (.int .i64 a.2.1.Y)])),(0,(true,.cells 44 ((Qaa.c a.1).map .im)))],2⟩,fun k=>4 - k.1,fun k=>⟨by simp[Qad.good,belT,belH,Qam,AV.bel,belL,Qaa.c],Nat.le_refl _⟩,⟨⟨0,by simp⟩,by simp (config:={maxSteps:=10000000}) (disch:=omega) only[ZA,ZT,simprocAttr,Asm.d,rch,bindA.ae,bindA.fv,step_.q,step_.ar,step_.fv,step_.re,bond_.q,bond_.ar,bond_.fv,bond_.re,at_.q,at_.ar,at_.fv,Qah,Qag,Qac,Qaf,Qai,D.sc,D.scs,scL,decD,sub,Qhs]⟩,fun k=> ?_⟩;obtain⟨k,hk1⟩:=k;simp (config:={maxSteps:=10000000}) (disch:=omega) only[ZA,ZT,simprocAttr,Asm.d,rch,bindA.ae,bindA.fv,step_.q,step_.ar,step_.fv,step_.re,bond_.q,bond_.ar,bond_.fv,bond_.re,at_.q,at_.ar,at_.fv,Qah,Qag,Qac,Qaf,Qai,D.sc,D.scs,scL,decD,sub,Qal];have hb:=Qwy h1 (atA a.2.2.2) a.2.1 a.2.2.1 k;have ht:=Qxd h1 (atA a.2.2.2) a.2.1 a.2.2.1 k;refine⟨fun hk=>⟨⟨h3,by omega⟩,h5,fun hp=>⟨⟨h1,h4,⟨by omega,by omega⟩,h2 _ hp⟩,⟨⟨k+1,by omega⟩,by simp only;omega,?_,?_⟩⟩,fun hp=>⟨⟨k+1,by omega⟩,by simp only;omega,?_,?_⟩⟩,fun hk=> ?_⟩
 ·rw[Qak (by omega) (by omega)];simp only;omega
 ·simp only[Qhs];simp only[Quh,if_pos hp] at ht⊢;rw[Qak (by omega) (by omega)]
 ·rw[Qak (by omega) (by omega)];simp only;omega
 ·simp only[Qhs,Quh,if_neg hp];omega
 ·have:k=4:=by omega
  rw[this]
def binding_.row:Row:=orR bindC.row bindA.row
theorem binding_.ok:Qas Tryz.prog 55 binding_.row:=orR_ok bindC.ok bindA.ok
def Qpg(s:Qar)(f:Qae→Int)(p:Qae)(t:Int):Bool:=Qbi p && (decide (f p<0) && decide (s.Temperature≤Qhs s.Set f p t 4))
def fitsC.ar:List PK→Option (Cry×Qae×Int)
 |[.ptr x0,.val (.agg x1),.val (.int .i64 x2)]=>(Cry.d (x0.take 6)).bind fun y0=>(Qae.d x1).bind fun y1=>some (y0,y1,x2)
 |_=>none
def fitsC.ae(a:Cry×Qae×Int):List PK:=[.ptr (Cry.c a.1),.val (.agg (Qae.c a.2.1)),.val (.int .i64 a.2.2)]
theorem fitsC.le: ∀ps a,fitsC.ar ps=some a→LeKL ps (fitsC.ae a):=by
 intro ps a h;unfold fitsC.ar at h;split at h
 ·simp only[Option.bind_eq_some_iff,Option.some.injEq] at h;obtain⟨y0,h0,y1,h1,rfl⟩:=h;exact⟨LeP.trans_take (Cry.d_le _ _ h0),Qav (Qae.d_le _ _ h1),LeK.refl _,trivial⟩
 ·cases h
def fitsC.fv(a:Cry×Qae×Int):Bool:=(fun c p t=>Qpg c.Sys (Qbw c.Tl) p t) (a.1) (a.2.1) (a.2.2)
def fitsC.row:Row:=Qfi fitsC.ar (fun a=>setP a.1.Sys.Set∧inF a.1.Sys.Set (Qbw a.1.Tl)∧Qcs a.1.Sys.Set a.2.2) (fun a=>(D.bool) (fitsC.fv a))
def fitsC.q(a:List AV)(h:Nat→Option Ent)(n:Nat)(K:Kont):=show fitsC.row a h n K=Qct _ _ _ (rchL h a) K (pkFL h a) from rfl
theorem fitsC.ok:Qas Tryz.prog 28 fitsC.row:=by
 refine Qbn Qaq (tC ValidPoint.ok (tC catC.ok (tC binding_.ok tN))) Tryz.func28 rfl (by kernel_rfl) (by kernel_rfl) fitsC.le (n:=3) (fun _=>rfl) (by decide) (rc:=(Qa8)) (re:=(D.bool)) (Qat) (f:=fitsC.fv) ?_;intro a hpre;simp only[Tryz.f28,Option.getD];simp (config:={maxSteps:=10000000}) (disch:=omega) only[ZA,ZT,simprocAttr,Asm.d,rch,fitsC.ae,fitsC.fv,ValidPoint.q,ValidPoint.ar,ValidPoint.fv,catC.q,catC.ar,catC.fv,binding_.row,orR,bindC.q,bindC.ar,bindC.fv,bindA.q,bindA.ar,bindA.fv,Qah,Qag,Qac,Qaf,Qai,D.sc,D.scs,scL,decD];obtain⟨h1,h2,h3⟩:=hpre;cases e1:Qbi a.2.1
 ·simp[Qpg,e1]
 ·rw[if_pos rfl]
  split<;>rename_i h
  ·exact .inl ⟨⟨h1,h2,Qkc e1,h3⟩,by simp[Qpg,e1,h]⟩
  ·simp[Qpg,e1,h]
end Go.Ae
namespace Go.Ae
open Go.Proofs
def updP{β:Type}:List (Qae×β)→Qae→β→List (Qae×β)
 |[],p,v=>[(p,v)]
 |(k,w)::r,p,v=>if p=k then (p,v)::r else (k,w)::updP r p v
def delP{β:Type}:List (Qae×β)→Qae→List (Qae×β)
 |[],_=>[]
 |(k,w)::r,p=>if p=k then r else (k,w)::delP r p
theorem upd_pt{β:Type}(e:Qae×β→D×D)(g:β→D)(he: ∀p,e p=(.agg (Qae.c p.1),g p.2))(x y:Int)(v:β): ∀(l:List (Qae×β)),upd (l.map e) (.agg [.int .i64 x,.int .i64 y]) (g v)=(updP l ⟨x,y⟩ v).map e
 |[]=>by simp[upd,updP,he,Qae.c]
 |q::r=>by
  have h1:D.beq (.agg [.int .i64 x,.int .i64 y]) (.agg (Qae.c q.1))=decide ((⟨x,y⟩:Qae)=q.1):=pt_beq ⟨x,y⟩ q.1;obtain⟨k,w⟩:=q;simp only[List.map_cons,he,upd,updP,h1];by_cases h:(⟨x,y⟩:Qae)=k
  ·simp[h,he,Qae.c];exact⟨by rw[←h],by rw[←h]⟩
  ·simp[h,he,upd_pt e g he x y v r]
theorem del_pt{β:Type}(e:Qae×β→D×D)(g:β→D)(he: ∀p,e p=(.agg (Qae.c p.1),g p.2))(x y:Int): ∀(l:List (Qae×β)),del (l.map e) (.agg [.int .i64 x,.int .i64 y])=(delP l ⟨x,y⟩).map e
 |[]=>rfl
 |q::r=>by
  have h1:D.beq (.agg [.int .i64 x,.int .i64 y]) (.agg (Qae.c q.1))=decide ((⟨x,y⟩:Qae)=q.1):=pt_beq ⟨x,y⟩ q.1;obtain⟨k,w⟩:=q;simp only[List.map_cons,he,del,delP,h1];by_cases h:(⟨x,y⟩:Qae)=k
  ·simp[h]
  ·simp[h,he,del_pt e g he x y r]
theorem upd_ps(x y:Int)(v:List Int)(l:List (Qae×List Int)):upd (l.map Qbc) (.agg [.int .i64 x,.int .i64 y]) (.sl false 1 (v.map intC))=(updP l ⟨x,y⟩ v).map Qbc:=
 upd_pt Qbc (fun v=> .sl false 1 (v.map intC)) (fun _=>rfl) x y v l
theorem upd_pi(x y v:Int)(l:List (Qae×Int)):upd (l.map Qbe) (.agg [.int .i64 x,.int .i64 y]) (.int .i64 v)=(updP l ⟨x,y⟩ v).map Qbe:=
 upd_pt Qbe (.int .i64) (fun _=>rfl) x y v l
theorem del_ps(x y:Int)(l:List (Qae×List Int)):del (l.map Qbc) (.agg [.int .i64 x,.int .i64 y])=(delP l ⟨x,y⟩).map Qbc:=
 del_pt Qbc (fun v=> .sl false 1 (v.map intC)) (fun _=>rfl) x y l
def Qm0(s:Qar)(f:Qae→Int)(q:Qae):Nat→List Int
 |0=>[]
 |k+1=>Qm0 s f q k++(if Qpg s f q k=true then [(k:Int)] else [])
theorem Qus(s:Qar)(f:Qae→Int)(q:Qae): ∀k,(Qm0 s f q k).length≤k
 |0=>by simp[Qm0]
 |k+1=>by
  have:=Qus s f q k
  simp only[Qm0,List.length_append]
  split<;>simp<;>omega
def lookS(s:Qar)(f:Qae→Int)(op:List (Qae×List Int))(q:Qae):List (Qae×List Int):=
 if Qm0 s f q s.Set.Tiles.length=[] then delP op q else updP op q (Qm0 s f q s.Set.Tiles.length)
def Qrz(s:Qar)(f:Qae→Int)(op:List (Qae×List Int))(p:Qae):Nat→List (Qae×List Int)
 |0=>op
 |k+1=>lookS s f (Qrz s f op p k) (Qf7 p k)
def Qbk(s:Qar):List AV:=[.im (.sl false 2 (s.Set.Glues.map Glue.c)),.im (.sl false 2 (s.Set.Tiles.map Tile.c)),.im (.sl false 3 (s.Seed.Tiles.map Qab.c)),.im (.int .i64 s.Temperature),.mp 1,.mp 2]
def cryH(c:Cry):Qan:=[(0,(true,.cells 114 (Qbk c.Sys))),(1,(true,.map ⟨true,[.int .i64,.int .i64]⟩ (c.Tl.map Qbe))),(2,(true,.map ⟨true,[.int .i64,.int .i64]⟩ (c.Op.map Qbc)))]
theorem cryH_dom(c:Cry)(j:Nat):domB (cryH c) j=true↔j<3:=by
 simp only[domB,cryH,hget];by_cases h0:j=0
 ·subst h0;simp
 ·by_cases h1:j=1
  ·subst h1;simp
  ·by_cases h2:j=2
   ·subst h2;simp
   ·have e0:(0==j)=false:=by simp;omega
    have e1:(1==j)=false:=by simp;omega
    have e2:(2==j)=false:=by simp;omega
    simp[e0,e1,e2];omega
def cryPre(c:Cry):Prop:=setP c.Sys.Set∧inF c.Sys.Set (Qbw c.Tl)∧c.Sys.Set.Tiles.length≤1000000
def lookC.ca(a:Cry×Qae):List AV:=[.ptr 0 0,.im (.agg [.int .i64 a.2.X,.int .i64 a.2.Y])]
def lookC.H1(a:Cry×Qae):Qan:=[(2,(true,.map ⟨true,[.int .i64,.int .i64]⟩ ((Qrz a.1.Sys (Qbw a.1.Tl) a.1.Op a.2 4).map Qbc)))]
def kl2(j:Nat):Bool:=j==2
def lookC.row:Row:=orow lookC.ca (fun a=>cryH a.1) 3 (fun a=>cryPre a.1∧Qdy a.2) kl2 (fun _=> .im (.tup [])) lookC.H1 0
theorem lookC.ok:Qas Tryz.prog 52 lookC.row:=by
 refine Qf1 Qaq (tC step_.ok (tC fitsC.ok tN)) Tryz.func52 rfl (by kernel_rfl) (by kernel_rfl) (exB:=fun _=>false) (R:=fun _ r=>r= .im (.tup [])) (n:=2) (fun _=>rfl) (by decide)
  (fun a=>by simp[lookC.ca,cryH,Qbk,lookC.H1,kl2,belL,AV.bel]) (fun a=>by simp[lookC.ca,cryH,Qbk,lookC.H1,kl2,belH,belL,AV.bel]) (fun a=>by simp[lookC.ca,cryH,Qbk,lookC.H1,kl2,Qam])
  (fun a=>by simp[Qc2,lookC.ca,cryH,Qbk,lookC.H1,kl2,AObj.nms,nmsL,AV.nms,domB,hget]) (fun a p hp=> ?_) (fun a r h=>by subst h;exact LeV.refl _) ?_
 rotate_left
 intro a hpre;simp only[Tryz.f52,Option.getD,lookC.ca,cryH,Qbk,lookC.H1,kl2];simp (config:={maxSteps:=10000000}) (disch:=omega) only[ZA,ZT,simprocAttr,Asm.d,rch,step_.q,step_.ar,step_.fv,step_.re,fitsC.q,fitsC.ar,fitsC.fv,Qah,Qag,Qac,Qaf,Qai,List.getD_cons_zero,List.getD_cons_succ,lookC.ca,cryH,Qbk,lookC.H1,kl2];obtain⟨⟨hp1,hp2,hp4⟩,hp3⟩:=hpre;refine Qay.old ⟨{k:Nat//k≤4},fun k=>⟨[(8,.im (.int .i64 k.1)),(3,.ptr 3 0),(0,.ptr 0 0)],[(3,(true,.cells 54 [.im (.int .i64 a.2.X),.im (.int .i64 a.2.Y)])),(0,(true,.cells 114 (Qbk a.1.Sys))),(1,(true,.map ⟨true,[.int .i64,.int .i64]⟩ (a.1.Tl.map Qbe))),(2,(true,.map ⟨true,[.int .i64,.int .i64]⟩ ((Qrz a.1.Sys (Qbw a.1.Tl) a.1.Op a.2 k.1).map Qbc)))],4⟩,fun k=>4 - k.1,fun k=>⟨by simp[Qad.good,belT,belH,Qam,AV.bel,belL,Qbk],Nat.le_refl _⟩,⟨⟨0,by simp⟩,by simp (config:={maxSteps:=10000000}) (disch:=omega) only[ZA,ZT,simprocAttr,Asm.d,rch,step_.q,step_.ar,step_.fv,step_.re,fitsC.q,fitsC.ar,fitsC.fv,Qah,Qag,Qac,Qaf,Qai,List.getD_cons_zero,List.getD_cons_succ,lookC.ca,cryH,Qbk,lookC.H1,kl2,sub,Qrz,Qbk]⟩,fun k=> ?_⟩;obtain⟨k,hk1⟩:=k;simp only[Qbk];simp (config:={maxSteps:=10000000}) (disch:=omega) only[ZA,ZT,simprocAttr,Asm.d,rch,step_.q,step_.ar,step_.fv,step_.re,fitsC.q,fitsC.ar,fitsC.fv,Qah,Qag,Qac,Qaf,Qai,List.getD_cons_zero,List.getD_cons_succ,lookC.ca,cryH,Qbk,lookC.H1,kl2,sub,Qal];have hq:Qdy a.2:=hp3;refine⟨fun hk=>⟨⟨hp3,by omega⟩,fun hn=> ?_⟩,fun hk=> ?_⟩
 ·refine Qay.ren ⟨{j:Nat//j≤a.1.Sys.Set.Tiles.length},fun j=>⟨[(21,.im (.int .i64 j.1)),(20,.im (.int .i64 a.1.Sys.Set.Tiles.length)),(6,.own 6),(5,.ptr 4 0),(8,.im (.int .i64 k)),(3,.ptr 3 0),(0,.ptr 0 0)],[(6,(true,.arr 2 1 ((Qm0 a.1.Sys (Qbw a.1.Tl) (Qf7 a.2 k) j.1).map intC))),(4,(true,.cells 54 [.im (.int .i64 (Qf7 a.2 k).X),.im (.int .i64 (Qf7 a.2 k).Y)])),(3,(true,.cells 54 [.im (.int .i64 a.2.X),.im (.int .i64 a.2.Y)])),(0,(true,.cells 114 (Qbk a.1.Sys))),(1,(true,.map ⟨true,[.int .i64,.int .i64]⟩ (a.1.Tl.map Qbe))),(2,(true,.map ⟨true,[.int .i64,.int .i64]⟩ ((Qrz a.1.Sys (Qbw a.1.Tl) a.1.Op a.2 k).map Qbc)))],7⟩,fun j=>a.1.Sys.Set.Tiles.length - j.1,fun j=>⟨by simp[Qad.good,belT,belH,Qam,AV.bel,belL,Qbk],by simp⟩,⟨⟨0,by simp⟩,[(6,some 5)],?_⟩,fun j=> ?_⟩
  ·simp only[subP,Qbk];simp (config:={maxSteps:=10000000}) (disch:=omega) only[ZA,ZT,simprocAttr,Asm.d,rch,step_.q,step_.ar,step_.fv,step_.re,fitsC.q,fitsC.ar,fitsC.fv,Qah,Qag,Qac,Qaf,Qai,List.getD_cons_zero,List.getD_cons_succ,lookC.ca,cryH,Qbk,lookC.H1,kl2,Option.some_beq_some,Option.some_beq_none,Qm0,List.map_nil]
   try simp
  obtain⟨j,hj1⟩:=j;simp only[Qbk];simp (config:={maxSteps:=10000000}) (disch:=omega) only[ZA,ZT,simprocAttr,Asm.d,rch,step_.q,step_.ar,step_.fv,step_.re,fitsC.q,fitsC.ar,fitsC.fv,Qah,Qag,Qac,Qaf,Qai,List.getD_cons_zero,List.getD_cons_succ,lookC.ca,cryH,Qbk,lookC.H1,kl2,Qal,sub];have hlen:=Qus a.1.Sys (Qbw a.1.Tl) (Qf7 a.2 k) j;refine⟨fun hj=>⟨⟨hp1,hp2,by omega,by omega⟩,fun hf=>⟨by omega,⟨j+1,by omega⟩,[(6,some 8)],by simp only;omega,?_⟩,fun hf=>⟨⟨j+1,by omega⟩,[(6,some 6)],by simp only;omega,?_⟩⟩,fun hj=> ?_⟩
  ·simp only[subP];simp (config:={maxSteps:=10000000}) (disch:=omega) only[ZA,ZT,simprocAttr,Asm.d,rch,step_.q,step_.ar,step_.fv,step_.re,fitsC.q,fitsC.ar,fitsC.fv,Qah,Qag,Qac,Qaf,Qai,List.getD_cons_zero,List.getD_cons_succ,lookC.ca,cryH,Qbk,lookC.H1,kl2,Option.some_beq_some,Option.some_beq_none];refine⟨?_,?_⟩
   ·rw[Qak (by omega) (by omega)];omega
   ·simp[Qm0,hf,intC]
  ·simp only[subP];simp (config:={maxSteps:=10000000}) (disch:=omega) only[ZA,ZT,simprocAttr,Asm.d,rch,step_.q,step_.ar,step_.fv,step_.re,fitsC.q,fitsC.ar,fitsC.fv,Qah,Qag,Qac,Qaf,Qai,List.getD_cons_zero,List.getD_cons_succ,lookC.ca,cryH,Qbk,lookC.H1,kl2,Option.some_beq_some,Option.some_beq_none];refine⟨?_,?_⟩
   ·rw[Qak (by omega) (by omega)];omega
   ·simp[Qm0,hf]
  have hj2:j=a.1.Sys.Set.Tiles.length:=by omega
  subst hj2;rw[upd_ps,del_ps];have hl:(0:Int)<((Qm0 a.1.Sys (Qbw a.1.Tl) (Qf7 a.2 k) a.1.Sys.Set.Tiles.length).length:Int)↔Qm0 a.1.Sys (Qbw a.1.Tl) (Qf7 a.2 k) a.1.Sys.Set.Tiles.length≠[]:=by
   rw[←List.length_pos_iff];omega
  intro _;refine⟨fun h0=>⟨⟨k+1,by omega⟩,by simp only;omega,?_,?_⟩,fun h0=>⟨⟨k+1,by omega⟩,by simp only;omega,?_,?_⟩⟩
  ·rw[Qak (by omega) (by omega)];simp only;omega
  ·simp only[Qrz,lookS];rw[if_neg (hl.1 h0)]
  ·rw[Qak (by omega) (by omega)];simp only;omega
  ·simp only[Qrz,lookS];rw[if_pos (Classical.not_not.1 (fun h=>h0 (hl.2 h)))]
 ·have:k=4:=by omega
  subst this;simp[kl2]
 simp[lookC.H1] at hp;subst hp;exact .inl ⟨by omega,rfl,rfl⟩
end Go.Ae
namespace Go.Ae
open Go.Proofs
theorem Qyq{β:Type}(p q:Qae)(v:β): ∀(l:List (Qae×β)),lkP (updP l p v) q=if q=p then some v else lkP l q
 |[]=>by simp[updP,lkP]
 |(k,w)::r=>by
  simp only[updP];by_cases h:p=k
  ·subst h;rw[if_pos rfl];simp only[lkP];by_cases h2:q=p
   ·rw[if_pos h2,if_pos h2]
   ·rw[if_neg h2,if_neg h2,if_neg h2]
  ·rw[if_neg h];simp only[lkP,Qyq p q v r];by_cases h2:q=k
   ·rw[if_pos h2,if_pos h2,if_neg (fun h3=>h (h3.symm.trans h2))]
   ·rw[if_neg h2,if_neg h2]
def tlUp(l:List Qab):List (Qae×Int):=l.foldl (fun t x=>updP t x.At x.Tile) []
theorem tlUp_snoc(l:List Qab)(x:Qab):tlUp (l++[x])=updP (tlUp l) x.At x.Tile:=by simp[tlUp]
def opUp(s:Qar)(f:Qae→Int)(l:List Qab):List (Qae×List Int):=l.foldl (fun o x=>Qrz s f o x.At 4) []
theorem opUp_snoc(s:Qar)(f:Qae→Int)(l:List Qab)(x:Qab):opUp s f (l++[x])=Qrz s f (opUp s f l) x.At 4:=by simp[opUp]
theorem tlUp_in{s:Qaa}: ∀(l:List Qab),(∀x∈l,Qcs s x.Tile)→inF s (Qbw (tlUp l)):=by
 intro l;have key: ∀(l:List Qab) (t:List (Qae×Int)),(∀p v,lkP t p=some v→Qcs s v)→(∀x∈l,Qcs s x.Tile)→ ∀p v,lkP (l.foldl (fun t x=>updP t x.At x.Tile) t) p=some v→Qcs s v:=by
  intro l;induction l with
  |nil=>intro t h _;exact h
  |cons x r ih=>
   intro t h hx;refine ih _ ?_ (fun y hy=>hx y (List.mem_cons_of_mem _ hy));intro p v hv;rw[Qyq] at hv;split at hv
   ·cases hv;exact hx x (List.mem_cons_self ..)
   ·exact h p v hv
 intro h p hp
 have:=key l [] (by intro p v h;simp[lkP] at h) h p
 simp only[Qbw,tlUp] at hp⊢;cases hq:lkP (l.foldl (fun t x=>updP t x.At x.Tile) []) p with
 |none=>rw[hq] at hp;simp at hp
 |some v=>exact this v hq
theorem Qwe{α:Type}{l:List α}{k:Nat}{x:α}(h:l[k]? =some x):l.take (k+1)=l.take k++[x]:=by rw[List.take_add_one,h];rfl
def Qui(s:Qar)(a:Asm):Cry:=⟨s,tlUp a.Tiles,opUp s (Qbw (tlUp a.Tiles)) a.Tiles⟩
def newC.ca(a:Qar×Asm):List AV:=[.im (.agg (Qar.c a.1)),.im (.agg (Asm.c a.2))]
def newC.H1(a:Qar×Asm):Qan:=[(4,(true,.cells 114 [.im (.sl false 2 (a.1.Set.Glues.map Glue.c)),.im (.sl false 2 (a.1.Set.Tiles.map Tile.c)),.im (.sl false 3 (a.1.Seed.Tiles.map Qab.c)),.im (.int .i64 a.1.Temperature),.mp 2,.mp 3])),
 (2,(true,.map ⟨true,[.int .i64,.int .i64]⟩ ((Qui a.1 a.2).Tl.map Qbe))),(3,(true,.map ⟨true,[.int .i64,.int .i64]⟩ ((Qui a.1 a.2).Op.map Qbc)))]
def newC.pre(a:Qar×Asm):Prop:=setP a.1.Set∧a.1.Set.Tiles.length≤1000000∧ ∀x∈a.2.Tiles,Qcs a.1.Set x.Tile∧Qdy x.At
def newC.ex(j:Nat):Bool:=j==2||(j==3||j==4)
def noB(_:Nat):Bool:=false
def newC.row:Row:=orow newC.ca (fun _=>[]) 0 newC.pre noB (fun _=> .ptr 4 0) newC.H1 5
theorem newC.ok:Qas Tryz.prog 27 newC.row:=by
 refine Qf1 Qaq (tC lookC.ok tN) Tryz.func27 rfl (by kernel_rfl) (by kernel_rfl) (exB:=newC.ex) (R:=fun _ r=>r= .ptr 4 0) (n:=2) (fun _=>rfl) (by decide)
  (fun a=>by simp[newC.ca,newC.H1,newC.ex,noB,Qar.c,Asm.c,belL,AV.bel]) (fun a=>by simp[newC.ca,newC.H1,newC.ex,noB,Qar.c,Asm.c,belH,belL,AV.bel]) (fun a=>by simp[newC.ca,newC.H1,newC.ex,noB,Qar.c,Asm.c,Qam])
  (fun a=>by simp[Qc2,newC.ca,newC.H1,newC.ex,noB,Qar.c,Asm.c,AObj.nms,nmsL,AV.nms,domB,hget]) (fun a p hp=> ?_) (fun a r h=>by subst h;exact LeV.refl _) ?_
 rotate_left
 intro a hpre;simp only[Tryz.f27,Option.getD,newC.ca,newC.H1,newC.ex,noB,Qar.c,Asm.c];simp (config:={maxSteps:=10000000}) (disch:=omega) only[ZA,ZT,simprocAttr,Asm.d,rch,Qah,Qag,Qac,Qaf,Qai,List.getD_cons_zero,List.getD_cons_succ,newC.ca,newC.H1,newC.ex,noB,Qar.c,Asm.c];obtain⟨hp1,hp2,hp3⟩:=hpre;intro hn;refine Qay.old ⟨{k:Nat//k≤a.2.Tiles.length},fun k=>⟨[(18,.im (.int .i64 k.1)),(17,.im (.int .i64 a.2.Tiles.length)),(16,.im (.sl false 3 (a.2.Tiles.map Qab.c))),(5,.ptr 4 0),(4,.im .nilp),(3,.ptr 1 0)],[(4,(true,.cells 114 [.im (.sl false 2 (a.1.Set.Glues.map Glue.c)),.im (.sl false 2 (a.1.Set.Tiles.map Tile.c)),.im (.sl false 3 (a.1.Seed.Tiles.map Qab.c)),.im (.int .i64 a.1.Temperature),.mp 2,.mp 3])),(3,(true,.map ⟨true,[.int .i64,.int .i64]⟩ ([]))),(2,(true,.map ⟨true,[.int .i64,.int .i64]⟩ ((tlUp (a.2.Tiles.take k.1)).map Qbe))),(1,(true,.cells 47 [.im (.sl false 3 (a.2.Tiles.map Qab.c))]))],5⟩,fun k=>a.2.Tiles.length - k.1,fun k=>⟨by simp[Qad.good,belT,belH,Qam,AV.bel,belL],Nat.le_refl _⟩,⟨⟨0,by simp⟩,by simp (config:={maxSteps:=10000000}) (disch:=omega) only[ZA,ZT,simprocAttr,Asm.d,rch,Qah,Qag,Qac,Qaf,Qai,List.getD_cons_zero,List.getD_cons_succ,newC.ca,newC.H1,newC.ex,noB,Qar.c,Asm.c,sub,tlUp,List.take_zero,List.foldl_nil]⟩,fun k=> ?_⟩;obtain⟨k,hk1⟩:=k;simp (config:={maxSteps:=10000000}) (disch:=omega) only[ZA,ZT,simprocAttr,Asm.d,rch,Qah,Qag,Qac,Qaf,Qai,List.getD_cons_zero,List.getD_cons_succ,newC.ca,newC.H1,newC.ex,noB,Qar.c,Asm.c,sub,Qal];refine⟨fun hk=>⟨hk,fun x hx=> ?_⟩,fun hk=> ?_⟩
 ·refine⟨⟨k+1,by omega⟩,by simp only;omega,?_,?_⟩
  ·rw[Qak (by omega) (by omega)];simp only;omega
  ·rw[upd_pi,Qwe hx,tlUp_snoc]
 rw[List.take_of_length_le (by omega)];intro _;refine Qay.old ⟨{k:Nat//k≤a.2.Tiles.length},fun k=>⟨[(34,.im (.int .i64 k.1)),(33,.im (.int .i64 a.2.Tiles.length)),(32,.im (.sl false 3 (a.2.Tiles.map Qab.c))),(5,.ptr 4 0),(4,.im .nilp),(3,.ptr 1 0)],[(4,(true,.cells 114 [.im (.sl false 2 (a.1.Set.Glues.map Glue.c)),.im (.sl false 2 (a.1.Set.Tiles.map Tile.c)),.im (.sl false 3 (a.1.Seed.Tiles.map Qab.c)),.im (.int .i64 a.1.Temperature),.mp 2,.mp 3])),(3,(true,.map ⟨true,[.int .i64,.int .i64]⟩ ((opUp a.1 (Qbw (tlUp a.2.Tiles)) (a.2.Tiles.take k.1)).map Qbc))),(2,(true,.map ⟨true,[.int .i64,.int .i64]⟩ ((tlUp a.2.Tiles).map Qbe))),(1,(true,.cells 47 [.im (.sl false 3 (a.2.Tiles.map Qab.c))]))],5⟩,fun k=>a.2.Tiles.length - k.1,fun k=>⟨by simp[Qad.good,belT,belH,Qam,AV.bel,belL],Nat.le_refl _⟩,⟨⟨0,by simp⟩,by simp (config:={maxSteps:=10000000}) (disch:=omega) only[ZA,ZT,simprocAttr,Asm.d,rch,Qah,Qag,Qac,Qaf,Qai,List.getD_cons_zero,List.getD_cons_succ,newC.ca,newC.H1,newC.ex,noB,Qar.c,Asm.c,sub,opUp,List.take_zero,List.foldl_nil]⟩,fun k=> ?_⟩;obtain⟨k,hk1⟩:=k;simp (config:={maxSteps:=10000000}) (disch:=omega) only[ZA,ZT,simprocAttr,Asm.d,rch,Qah,Qag,Qac,Qaf,Qai,List.getD_cons_zero,List.getD_cons_succ,newC.ca,newC.H1,newC.ex,noB,Qar.c,Asm.c,sub,Qal];refine⟨fun hk=>⟨hk,fun x hx=> ?_⟩,fun hk=> ?_⟩
 ·refine orow.os (⟨a.1,tlUp a.2.Tiles,opUp a.1 (Qbw (tlUp a.2.Tiles)) (a.2.Tiles.take k)⟩,x.At) [4,2,3] ⟨⟨hp1,tlUp_in _ (fun y hy=>(hp3 y hy).1),hp2⟩,(hp3 x (List.mem_of_getElem? hx)).2⟩ (fun j=>cryH_dom _ j) rfl rfl ?_ ?_
  ·simp (config:={maxSteps:=10000000}) (disch:=omega) only[ZA,ZT,simprocAttr,Asm.d,rch,Qah,Qag,Qac,Qaf,Qai,List.getD_cons_zero,List.getD_cons_succ,newC.ca,newC.H1,newC.ex,noB,Qar.c,Asm.c,lookC.ca,cryH,Qbk,if_true]
  ·simp (config:={maxSteps:=10000000}) (disch:=omega) only[ZA,ZT,simprocAttr,Asm.d,rch,Qah,Qag,Qac,Qaf,Qai,List.getD_cons_zero,List.getD_cons_succ,newC.ca,newC.H1,newC.ex,noB,Qar.c,Asm.c,lookC.H1,kl2,sub];refine⟨⟨k+1,by omega⟩,by simp only;omega,?_,?_⟩
   ·rw[Qak (by omega) (by omega)];simp only;omega
   ·rw[Qwe hx,opUp_snoc]
 ·rw[List.take_of_length_le (by omega)];exact⟨rfl,rfl⟩
 simp[newC.H1] at hp;rcases hp with rfl|rfl|rfl
 ·exact .inr ⟨by omega,by simp,rfl,rfl⟩
 ·exact .inr ⟨by omega,by simp,rfl,rfl⟩
 ·exact .inr ⟨by omega,by simp,rfl,rfl⟩
theorem Qwp{a:Qar×Asm}(h:newC.pre a):cryPre (Qui a.1 a.2):=⟨h.1,tlUp_in _ (fun y hy=>(h.2.2 y hy).1),h.2.1⟩
end Go.Ae
namespace Go.Ae
open Go.Proofs
def Qda(a:Asm)(i:Int):Int:=(a.Tiles[i.toNat]?.map Qab.Tile).getD (-1)
def Qs7(s:Qaa)(a:Asm)(i:Nat)(d:Int):List Bond:=
 if 0≤nbA a i d then if 0<Qfn s (Qda a i) d (Qda a (nbA a i d)) then [⟨i,nbA a i d,Qfn s (Qda a i) d (Qda a (nbA a i d))⟩] else [] else []
def Qez(s:Qaa)(a:Asm)(i:Nat):Nat→List Bond
 |0=>[]
 |k+1=>Qez s a i k++Qs7 s a i (1 - k)
def Qel(s:Qaa)(a:Asm):Nat→List Bond
 |0=>[]
 |k+1=>Qel s a k++Qez s a k 2
theorem bndOf_len(s:Qaa)(a:Asm)(i:Nat)(d:Int):(Qs7 s a i d).length≤1:=by
 simp only[Qs7];split
 ·split<;>simp
 ·simp
theorem Ql7(s:Qaa)(a:Asm)(i:Nat): ∀k,(Qez s a i k).length≤k
 |0=>by simp[Qez]
 |k+1=>by
  have h1:=Ql7 s a i k;have h2:=bndOf_len s a i (1 - k);simp only[Qez,List.length_append];omega
theorem Qh3(s:Qaa)(a:Asm): ∀k,(Qel s a k).length≤2*k
 |0=>by simp[Qel]
 |k+1=>by
  have h1:=Qh3 s a k;have h2:=Ql7 s a k 2;simp only[Qel,List.length_append];omega
theorem idx_lt{A:Type}(p:A→Bool)(l:List A):Qaw p 0 l<(l.length:Int):=by
 rcases Qep p l 0 with ⟨_,h⟩|⟨i,x,_,h,h2⟩
 ·omega
 ·have:=(List.getElem?_eq_some_iff.1 h2).1
  omega
theorem nbA_lt(a:Asm)(i d:Int):nbA a i d<(a.Tiles.length:Int):=idx_lt _ _
def l06Bonds.ar:List PK→Option (Qaa×Asm)
 |[.ptr x0,.ptr x1]=>(Qaa.d (x0.take 2)).bind fun y0=>(Asm.d (x1.take 1)).bind fun y1=>some (y0,y1)
 |_=>none
def l06Bonds.ae(a:Qaa×Asm):List PK:=[.ptr (Qaa.c a.1),.ptr (Asm.c a.2)]
theorem l06Bonds.le: ∀ps a,l06Bonds.ar ps=some a→LeKL ps (l06Bonds.ae a):=by
 intro ps a h;unfold l06Bonds.ar at h;split at h
 ·simp only[Option.bind_eq_some_iff,Option.some.injEq] at h;obtain⟨y0,h0,y1,h1,rfl⟩:=h;exact⟨LeP.trans_take (Qaa.d_le _ _ h0),LeP.trans_take (Asm.d_le _ _ h1),trivial⟩
 ·cases h
def l06Bonds.fv(a:Qaa×Asm):List Bond:=(fun s a=>Qel s a a.Tiles.length) (a.1) (a.2)
def l06Bonds.row:Row:=vrow l06Bonds.ar (fun a=>setP a.1∧Qn7 a.1 a.2∧a.2.Tiles.length≤1000000) (fun a=>(fun b=>D.sl false 3 (b.map Bond.c)) (l06Bonds.fv a))
def l06Bonds.q(a:List AV)(h:Nat→Option Ent)(n:Nat)(K:Kont):=show l06Bonds.row a h n K=Qa1 _ _ _ (nmsL a) K (pkL h a) from rfl
theorem l06Bonds.ok:Qas Tryz.prog 131 l06Bonds.row:=by
 refine Qaj Qaq (tC l06Neighbor.ok (tC l02Bond.ok tN)) Tryz.func131 rfl (by kernel_rfl) (by kernel_rfl) l06Bonds.le (n:=2) (fun _=>rfl) (by decide) (rc:=(vSl Bond.d)) (re:=(fun b=>D.sl false 3 (b.map Bond.c))) (Qe8 Bond.d_le (fun _=>rfl)) (f:=l06Bonds.fv) ?_;intro a hpre;simp only[Tryz.f131,Option.getD];simp (config:={maxSteps:=10000000}) (disch:=omega) only[ZA,ZT,simprocAttr,Asm.d,rch,l06Bonds.ae,l06Bonds.fv,l06Neighbor.q,l06Neighbor.ar,l06Neighbor.fv,l02Bond.q,l02Bond.ar,l02Bond.fv];obtain⟨h1,h2,h3⟩:=hpre;refine Qay.ren ⟨{k:Nat//k≤a.2.Tiles.length},fun k=>⟨[(6,.im (.int .i64 k.1)),(5,.own 4),(0,.ptr 0 0),(1,.ptr 1 0)],[(4,(true,.arr 209 3 ((Qel a.1 a.2 k.1).map Bond.c))),(0,(false,.view (Qaa.c a.1))),(1,(false,.view (Asm.c a.2)))],5⟩,fun k=>a.2.Tiles.length - k.1,fun k=>⟨by simp[Qad.good,belT,belH,Qam,AV.bel,belL],by simp⟩,⟨⟨0,by simp⟩,[(4,some 3)],?_⟩,fun k=> ?_⟩
 ·simp only[subP];simp (config:={maxSteps:=10000000}) (disch:=omega) only[ZA,ZT,simprocAttr,Asm.d,rch,l06Bonds.ae,l06Bonds.fv,l06Neighbor.q,l06Neighbor.ar,l06Neighbor.fv,l02Bond.q,l02Bond.ar,l02Bond.fv,Option.some_beq_some,Option.some_beq_none,Qel,List.map_nil]
 obtain⟨k,hk1⟩:=k;simp (config:={maxSteps:=10000000}) (disch:=omega) only[ZA,ZT,simprocAttr,Asm.d,rch,l06Bonds.ae,l06Bonds.fv,l06Neighbor.q,l06Neighbor.ar,l06Neighbor.fv,l02Bond.q,l02Bond.ar,l02Bond.fv,sub,Qal];intro hlen;refine⟨fun hk=> ?_,fun hk=> ?_⟩
 ·refine Qay.ren ⟨{j:Nat//j≤2},fun j=>⟨[(7,.im (.int .i64 (1 - (j.1:Int)))),(6,.im (.int .i64 k)),(5,.own 5),(0,.ptr 0 0),(1,.ptr 1 0)],[(5,(true,.arr 209 3 ((Qel a.1 a.2 k++Qez a.1 a.2 k j.1).map Bond.c))),(0,(false,.view (Qaa.c a.1))),(1,(false,.view (Asm.c a.2)))],6⟩,fun j=>2 - j.1,fun j=>⟨by simp[Qad.good,belT,belH,Qam,AV.bel,belL],by simp⟩,⟨⟨0,by simp⟩,[(5,some 4)],?_⟩,fun j=> ?_⟩
  ·simp only[subP];simp (config:={maxSteps:=10000000}) (disch:=omega) only[ZA,ZT,simprocAttr,Asm.d,rch,l06Bonds.ae,l06Bonds.fv,l06Neighbor.q,l06Neighbor.ar,l06Neighbor.fv,l02Bond.q,l02Bond.ar,l02Bond.fv,Option.some_beq_some,Option.some_beq_none,Qez,List.append_nil]
   try simp
  obtain⟨j,hj1⟩:=j;simp (config:={maxSteps:=10000000}) (disch:=omega) only[ZA,ZT,simprocAttr,Asm.d,rch,l06Bonds.ae,l06Bonds.fv,l06Neighbor.q,l06Neighbor.ar,l06Neighbor.fv,l02Bond.q,l02Bond.ar,l02Bond.fv,sub,Qal,Qag,Qac,Qaf,allD,D.one,Bool.and_true,and_self,true_and];have hnl:=nbA_lt a.2 k (1 - j);have hl1:=Qh3 a.1 a.2 k;have hl2:=Ql7 a.1 a.2 k j;refine⟨fun hd=>⟨⟨h2.1,hk,hd,by omega⟩,fun hn=>⟨⟨j+1,by omega⟩,[(5,some 5)],by simp only;omega,?_⟩,fun hn=>⟨hk,fun x hx=>⟨by omega,hnl,fun y hy=>⟨⟨h1,h2.2 x (List.mem_of_getElem? hx),⟨by omega,by omega⟩,h2.2 y (List.mem_of_getElem? hy)⟩,fun hb=>⟨by simp only[List.length_append];omega,⟨j+1,by omega⟩,[(5,some 7)],by simp only;omega,?_⟩,fun hb=>⟨⟨j+1,by omega⟩,[(5,some 5)],by simp only;omega,?_⟩⟩⟩⟩⟩,fun hd=>⟨⟨k+1,by omega⟩,[(4,some 5)],by simp only;omega,?_⟩⟩
  ·simp only[subP];simp (config:={maxSteps:=10000000}) (disch:=omega) only[ZA,ZT,simprocAttr,Asm.d,rch,l06Bonds.ae,l06Bonds.fv,l06Neighbor.q,l06Neighbor.ar,l06Neighbor.fv,l02Bond.q,l02Bond.ar,l02Bond.fv,Option.some_beq_some,Option.some_beq_none];refine⟨?_,?_⟩
   ·rw[Qak (by omega) (by omega)];omega
   ·simp only[Qez,Qs7];rw[if_neg (by omega),List.append_nil]
  ·simp only[subP];simp (config:={maxSteps:=10000000}) (disch:=omega) only[ZA,ZT,simprocAttr,Asm.d,rch,l06Bonds.ae,l06Bonds.fv,l06Neighbor.q,l06Neighbor.ar,l06Neighbor.fv,l02Bond.q,l02Bond.ar,l02Bond.fv,Option.some_beq_some,Option.some_beq_none];refine⟨?_,?_⟩
   ·rw[Qak (by omega) (by omega)];omega
   ·have e1:Qda a.2 k=x.Tile:=by simp[Qda,hx]
    have e2:Qda a.2 (nbA a.2 k (1 - j))=y.Tile:=by simp only[Qda];rw[hy];rfl
    simp only[Qez,Qs7];rw[if_pos (by omega),e1,e2,if_pos hb];simp[Bond.c]
  ·simp only[subP];simp (config:={maxSteps:=10000000}) (disch:=omega) only[ZA,ZT,simprocAttr,Asm.d,rch,l06Bonds.ae,l06Bonds.fv,l06Neighbor.q,l06Neighbor.ar,l06Neighbor.fv,l02Bond.q,l02Bond.ar,l02Bond.fv,Option.some_beq_some,Option.some_beq_none];refine⟨?_,?_⟩
   ·rw[Qak (by omega) (by omega)];omega
   ·have e1:Qda a.2 k=x.Tile:=by simp[Qda,hx]
    have e2:Qda a.2 (nbA a.2 k (1 - j))=y.Tile:=by simp only[Qda];rw[hy];rfl
    simp only[Qez,Qs7];rw[if_pos (by omega),e1,e2,if_neg hb,List.append_nil]
  ·simp only[subP];simp (config:={maxSteps:=10000000}) (disch:=omega) only[ZA,ZT,simprocAttr,Asm.d,rch,l06Bonds.ae,l06Bonds.fv,l06Neighbor.q,l06Neighbor.ar,l06Neighbor.fv,l02Bond.q,l02Bond.ar,l02Bond.fv,Option.some_beq_some,Option.some_beq_none];have hj2:j=2:=by omega
   subst hj2;refine⟨?_,?_⟩
   ·rw[Qak (by omega) (by omega)];omega
   ·simp only[Qel]
 ·have:k=a.2.Tiles.length:=by omega
  rw[this]
end Go.Ae
namespace Go.Ae
open Go.Proofs
def befL:List Int→List Int→Bool
 |x::r,y::s=>if x=y then befL r s else decide (x<y)
 |_,_=>false
def befW(v:Int)(l:List Int)(w:Int)(m:List Int):Bool:=if v=w then if l.length=m.length then befL l m else decide (l.length<m.length) else decide (v<w)
def l07Before.ar:List PK→Option (Int×(List Int)×Int×(List Int))
 |[.val (.int .i64 x0),.val (.sl _ _ x1),.val (.int .i64 x2),.val (.sl _ _ x3)]=>(decR intD x1).bind fun y1=>(decR intD x3).bind fun y3=>some (x0,y1,x2,y3)
 |_=>none
def l07Before.ae(a:Int×(List Int)×Int×(List Int)):List PK:=[.val (.int .i64 a.1),.val (.sl false 1 (a.2.1.map intC)),.val (.int .i64 a.2.2.1),.val (.sl false 1 (a.2.2.2.map intC))]
theorem l07Before.le: ∀ps a,l07Before.ar ps=some a→LeKL ps (l07Before.ae a):=by
 intro ps a h;unfold l07Before.ar at h;split at h
 ·simp only[Option.bind_eq_some_iff,Option.some.injEq] at h;obtain⟨y1,h1,y3,h3,rfl⟩:=h;exact⟨LeK.refl _,Qbf (Qa2 Qb3 _ _ h1) (by simp only[List.mem_map];rintro r ⟨y,_,rfl⟩;rfl),LeK.refl _,Qbf (Qa2 Qb3 _ _ h3) (by simp only[List.mem_map];rintro r ⟨y,_,rfl⟩;rfl),trivial⟩
 ·cases h
def l07Before.fv(a:Int×(List Int)×Int×(List Int)):Bool:=(befW) (a.1) (a.2.1) (a.2.2.1) (a.2.2.2)
def l07Before.row:Row:=vrow l07Before.ar (fun a=>True) (fun a=>(D.bool) (l07Before.fv a))
def l07Before.q(a:List AV)(h:Nat→Option Ent)(n:Nat)(K:Kont):=show l07Before.row a h n K=Qa1 _ _ _ (nmsL a) K (pkL h a) from rfl
theorem l07Before.ok:Qas Tryz.prog 156 l07Before.row:=by
 refine Qaj Qaq tN Tryz.func156 rfl (by kernel_rfl) (by kernel_rfl) l07Before.le (n:=4) (fun _=>rfl) (by decide) (rc:=(Qa8)) (re:=(D.bool)) (Qat) (f:=l07Before.fv) ?_;intro a hpre;simp only[Tryz.f156,Option.getD];simp (config:={maxSteps:=10000000}) (disch:=omega) only[ZA,ZT,simprocAttr,Asm.d,rch,l07Before.ae,l07Before.fv]
 split<;>rename_i h
 ·simp only[befW];rw[if_neg h]
 intro hl1 hl2
 split<;>rename_i h2
 ·intro _ _;simp only[befW];rw[if_pos (Classical.not_not.1 h),if_neg (by omega)]
 have hn:a.2.1.length=a.2.2.2.length:=by omega
 have hb:befW a.1 a.2.1 a.2.2.1 a.2.2.2=befL a.2.1 a.2.2.2:=by simp only[befW];rw[if_pos (Classical.not_not.1 h),if_pos hn]
 rw[hb];refine Qay.old ⟨{k:Nat//k≤a.2.1.length∧befL (a.2.1.drop k) (a.2.2.2.drop k)=befL a.2.1 a.2.2.2},fun k=>⟨[(9,.im (.int .i64 k.1)),(8,.im (.bool false)),(0,.im (.int .i64 a.1)),(1,.im (.sl false 1 (a.2.1.map intC))),(2,.im (.int .i64 a.2.2.1)),(3,.im (.sl false 1 (a.2.2.2.map intC)))],[],0⟩,fun k=>a.2.1.length - k.1,fun k=>⟨by simp[Qad.good,belT,belH,Qam,AV.bel,belL],Nat.le_refl _⟩,⟨⟨0,by simp⟩,by simp (config:={maxSteps:=10000000}) (disch:=omega) only[ZA,ZT,simprocAttr,Asm.d,rch,l07Before.ae,l07Before.fv,sub]⟩,fun k=> ?_⟩;obtain⟨k,hk1,hk2⟩:=k;simp (config:={maxSteps:=10000000}) (disch:=omega) only[ZA,ZT,simprocAttr,Asm.d,rch,l07Before.ae,l07Before.fv,sub,Qal];intro _;refine⟨fun hk=>⟨hk,fun x hx=>⟨by omega,fun y hy=>⟨fun hne=>⟨hk,fun x' hx'=>⟨by omega,fun y' hy'=> ?_⟩⟩,fun he=> ?_⟩⟩⟩,fun hk=> ?_⟩
 ·rw[hx] at hx';rw[hy] at hy';obtain rfl:=Option.some.inj hx';obtain rfl:=Option.some.inj hy';rw[Qd3 hx,Qd3 hy,befL,if_neg hne] at hk2;exact hk2
 ·rw[Qd3 hx,Qd3 hy,befL,if_pos (Classical.not_not.1 he)] at hk2;refine⟨⟨k+1,by omega,hk2⟩,by simp only;omega,?_⟩;rw[Qak (by omega) (by omega)];simp only;omega
 ·rw[List.drop_eq_nil_of_le (by omega),befL] at hk2
  ·exact hk2
  ·intros;simp_all
def Qqb(a:Asm)(x:Qab):Bool:=decide (atA a x.At<0)
def G1.ar:List PK→Option (Qab×Asm)
 |[.val (.agg x0),.ptr x1]=>(Qab.d x0).bind fun y0=>(Asm.d (x1.take 1)).bind fun y1=>some (y0,y1)
 |_=>none
def G1.ae(a:Qab×Asm):List PK:=[.val (.agg (Qab.c a.1)),.ptr (Asm.c a.2)]
theorem G1.le: ∀ps a,G1.ar ps=some a→LeKL ps (G1.ae a):=by
 intro ps a h;unfold G1.ar at h;split at h
 ·simp only[Option.bind_eq_some_iff,Option.some.injEq] at h;obtain⟨y0,h0,y1,h1,rfl⟩:=h;exact⟨Qav (Qab.d_le _ _ h0),LeP.trans_take (Asm.d_le _ _ h1),trivial⟩
 ·cases h
def G1.fv(a:Qab×Asm):Bool:=(fun x b=>Qqb b x) (a.1) (a.2)
def G1.row:Row:=vrow G1.ar (fun a=>Qaz none a.2.Tiles=true) (fun a=>(D.bool) (G1.fv a))
def G1.q(a:List AV)(h:Nat→Option Ent)(n:Nat)(K:Kont):=show G1.row a h n K=Qa1 _ _ _ (nmsL a) K (pkL h a) from rfl
theorem G1.ok:Qas Tryz.prog 95 G1.row:=by
 refine Qaj Qaq (tC at_.ok tN) Tryz.func95 rfl (by kernel_rfl) (by kernel_rfl) G1.le (n:=2) (fun _=>rfl) (by decide) (rc:=(Qa8)) (re:=(D.bool)) (Qat) (f:=G1.fv) ?_;intro a hpre;simp only[Tryz.f95,Option.getD];simp (config:={maxSteps:=10000000}) (disch:=omega) only[ZA,ZT,simprocAttr,Asm.d,rch,G1.ae,G1.fv,at_.q,at_.ar,at_.fv];exact⟨hpre,rfl⟩
def IdxG.ar:List PK→Option ((List Qab)×Asm)
 |[.val (.sl _ _ x0),.val (.fn 95 [] [.ref x1_0])]=>(decR Qab.d x0).bind fun y0=>(Asm.d (x1_0.take 1)).bind fun y1_0=>some (y0,y1_0)
 |_=>none
def IdxG.ae(a:(List Qab)×Asm):List PK:=[.val (.sl false 3 (a.1.map Qab.c)),.val (.fn 95 [] [.ref (Asm.c a.2)])]
theorem IdxG.le: ∀ps a,IdxG.ar ps=some a→LeKL ps (IdxG.ae a):=by
 intro ps a h;unfold IdxG.ar at h;split at h
 ·simp only[Option.bind_eq_some_iff,Option.some.injEq] at h;obtain⟨y0,h0,y1_0,h1_0,rfl⟩:=h;exact⟨Qbf (Qa2 Qab.d_le _ _ h0) (by simp only[List.mem_map];rintro r ⟨y,_,rfl⟩;rfl),Qos ⟨Qil (LeP.trans_take (Asm.d_le _ _ h1_0)),trivial⟩,trivial⟩
 ·cases h
def IdxG.fv(a:(List Qab)×Asm):Int:=(fun l b=>Qaw (Qqb b) 0 l) (a.1) (a.2)
def IdxG.row:Row:=vrow IdxG.ar (fun a=>Qaz none a.2.Tiles=true) (fun a=>(D.int .i64) (IdxG.fv a))
def IdxG.q(a:List AV)(h:Nat→Option Ent)(n:Nat)(K:Kont):=show IdxG.row a h n K=Qa1 _ _ _ (nmsL a) K (pkL h a) from rfl
theorem IdxG.ok:Qas Tryz.prog 94 IdxG.row:=by
 refine Qaj Qaq (tC G1.ok tN) Tryz.func94 rfl (by kernel_rfl) (by kernel_rfl) IdxG.le (n:=2) (fun _=>rfl) (by decide) (rc:=(vInt)) (re:=(D.int .i64)) (Qa3) (f:=IdxG.fv) ?_;intro a hpre;simp only[Tryz.f94,Option.getD];simp (config:={maxSteps:=10000000}) (disch:=omega) only[ZA,ZT,simprocAttr,Asm.d,rch,IdxG.ae,IdxG.fv,G1.q,G1.ar,G1.fv];intro hn;refine Qay.old ⟨{k:Nat//k≤a.1.length∧Qaw (Qqb a.2) k (a.1.drop k)=Qaw (Qqb a.2) 0 a.1},fun k=>⟨[(8,.im (.int .i64 k.1)),(7,.im (.int .i64 a.1.length)),(6,.im (.sl false 3 (a.1.map Qab.c))),(4,.im (.int .i64 0)),(0,.im (.sl false 3 (a.1.map Qab.c))),(1,.im (.fn 95 [] [.ref (Asm.c a.2)]))],[],0⟩,fun k=>a.1.length - k.1,fun k=>⟨by simp[Qad.good,belT,belH,Qam,AV.bel,belL],Nat.le_refl _⟩,⟨⟨0,by simp⟩,by simp (config:={maxSteps:=10000000}) (disch:=omega) only[ZA,ZT,simprocAttr,Asm.d,rch,IdxG.ae,IdxG.fv,G1.q,G1.ar,G1.fv,sub]⟩,fun k=> ?_⟩;obtain⟨k,hk1,hk2⟩:=k;simp (config:={maxSteps:=10000000}) (disch:=omega) only[ZA,ZT,simprocAttr,Asm.d,rch,IdxG.ae,IdxG.fv,G1.q,G1.ar,G1.fv,sub,Qal];refine⟨fun hk=>⟨hk,fun x hx=> ?_⟩,fun hk=> ?_⟩
 ·rw[Qd3 hx,Qaw] at hk2;refine⟨hpre,fun h=> ?_,fun h=>Qb6 hk hn ⟨by omega,by rw[←hk2,if_neg (by simpa using h)]⟩⟩;rw[if_pos (by simpa using h)] at hk2;exact hk2
 ·rw[List.drop_eq_nil_of_le (by omega),Qaw] at hk2;exact hk2
theorem Qpo: ∀(l m:List Qae),l.Nodup→(∀x∈l,x∈m)→l.length≤m.length
 |[],_,_,_=>Nat.zero_le _
 |x::r,m,h1,h2=>by
  simp only[List.nodup_cons] at h1;have hx:x∈m:=h2 x (List.mem_cons_self ..)
  have:=Qpo r (m.erase x) h1.2 (fun y hy=>by
   have hne:y≠x:=fun h=>h1.1 (h▸hy)
   exact (List.mem_erase_of_ne hne).2 (h2 y (List.mem_cons_of_mem _ hy)))
  rw[List.length_erase_of_mem hx] at this;have hpos:0<m.length:=List.length_pos_of_mem hx;simp only[List.length_cons];omega
theorem Qix{l:List Qab}(h:Qaz none l=true):(l.map Qab.At).Nodup:=by
 have hs:=(Qe4 _ _ h).2;clear h;revert hs;induction l with
 |nil=>intro _;simp
 |cons x r ih=>
  intro hs;simp only[List.map_cons,List.nodup_cons];refine⟨fun hm=> ?_,ih (fun i j a b hij ha hb=>hs (i+1) (j+1) a b (by omega) (by simpa using ha) (by simpa using hb))⟩;obtain⟨y,hy,he⟩:=List.mem_map.1 hm;obtain⟨i,hi⟩:=List.mem_iff_getElem?.1 hy
  have:=hs 0 (i+1) x y (by omega) rfl (by simpa using hi)
  rw[he,Qku] at this;cases this
def Qd7(a b:Asm):Opt×Bool:=if b.Tiles.length=a.Tiles.length+1∧Qhi a b=true then (((b.Tiles.find? (Qqb a)).map fun x=>(⟨x.At,x.Tile⟩:Opt)).getD ⟨⟨0,0⟩,0⟩,true) else (⟨⟨0,0⟩,0⟩,false)
theorem Qjz{a b:Asm}(h1:Qaz none a.Tiles=true)(h2:Qaz none b.Tiles=true)(h3:b.Tiles.length=a.Tiles.length+1): ∃(i:Nat) (x:Qab),b.Tiles.find? (Qqb a)=some x∧Qaw (Qqb a) 0 b.Tiles=(i:Int)∧b.Tiles[i]? =some x:=by
 rcases Qep (Qqb a) b.Tiles 0 with ⟨h,_⟩|⟨i,x,e1,e2,e3⟩
 ·exfalso
  have:=Qpo (b.Tiles.map Qab.At) (a.Tiles.map Qab.At) (Qix h2) (by
   intro p hp;obtain⟨y,hy,rfl⟩:=List.mem_map.1 hp;have hn:=List.find?_eq_none.1 h y hy;have hn: ¬atA a y.At<0:=by simpa[Qqb] using hn
   simp only[atA] at hn;cases hf:a.Tiles.find? (fun x=>decide (x.At=y.At)) with
   |none=>rw[hf] at hn;simp at hn
   |some z=>
    have:=List.find?_some hf
    simp only[decide_eq_true_eq] at this;rw[←this];exact List.mem_map_of_mem (List.mem_of_find?_eq_some hf))
  simp only[List.length_map] at this;omega
 ·exact⟨i,x,e1,by simpa using e2,e3⟩
def gained_.ar:List PK→Option (Asm×Asm)
 |[.val (.agg x0),.val (.agg x1)]=>(Asm.d x0).bind fun y0=>(Asm.d x1).bind fun y1=>some (y0,y1)
 |_=>none
def gained_.ae(a:Asm×Asm):List PK:=[.val (.agg (Asm.c a.1)),.val (.agg (Asm.c a.2))]
theorem gained_.le: ∀ps a,gained_.ar ps=some a→LeKL ps (gained_.ae a):=by
 intro ps a h;unfold gained_.ar at h;split at h
 ·simp only[Option.bind_eq_some_iff,Option.some.injEq] at h;obtain⟨y0,h0,y1,h1,rfl⟩:=h;exact⟨Qav (Asm.d_le _ _ h0),Qav (Asm.d_le _ _ h1),trivial⟩
 ·cases h
def gained_.fv(a:Asm×Asm):Opt×Bool:=(Qd7) (a.1) (a.2)
def gained_.row:Row:=vrow gained_.ar (fun a=>True) (fun a=>(fun b=>D.tup [(fun b=>D.agg (Opt.c b)) (b.1),(D.bool) (b.2)]) (gained_.fv a))
def gained_.q(a:List AV)(h:Nat→Option Ent)(n:Nat)(K:Kont):=show gained_.row a h n K=Qa1 _ _ _ (nmsL a) K (pkL h a) from rfl
theorem gained_.ok:Qas Tryz.prog 59 gained_.row:=by
 refine Qaj Qaq (tC IsWithin_.ok (tC IdxG.ok tN)) Tryz.func59 rfl (by kernel_rfl) (by kernel_rfl) gained_.le (n:=2) (fun _=>rfl) (by decide) (rc:=(Qfa (vAgg Opt.d) (Qa8))) (re:=(fun b=>D.tup [(fun b=>D.agg (Opt.c b)) (b.1),(D.bool) (b.2)])) (Qbz (Qb1 Opt.d_le) (Qat)) (f:=gained_.fv) ?_;intro a hpre;simp only[Tryz.f59,Option.getD];simp (config:={maxSteps:=10000000}) (disch:=omega) only[ZA,ZT,simprocAttr,Asm.d,rch,gained_.ae,gained_.fv,IsWithin_.q,IsWithin_.ar,IsWithin_.fv,IdxG.q,IdxG.ar,IdxG.fv];intro hl1 hl2;rw[Qak (by omega) (by omega)]
 split<;>rename_i h
 ·split<;>rename_i h2
  ·simp[Qd7,h2]
  ·rw[Bool.not_eq_false] at h2;have h3:=h2;simp only[Qhi,Bool.and_eq_true] at h3;obtain⟨i,x,e1,e2,e3⟩:=Qjz h3.1.1 h3.2.1.1 (by omega);have hi:=(List.getElem?_eq_some_iff.1 e3).1;refine⟨h3.1.1,by omega,by omega,fun y hy=> ?_⟩;rw[e2,Int.toNat_natCast,e3] at hy;obtain rfl:=Option.some.inj hy;simp only[Qd7];rw[if_pos ⟨by omega,h2⟩,e1];rfl
 ·simp only[Qd7];rw[if_neg (by omega)]
def asm1.ar:List PK→Option (Qab×Qab)
 |[.val (.agg x0),.val (.agg x1)]=>(Qab.d x0).bind fun y0=>(Qab.d x1).bind fun y1=>some (y0,y1)
 |_=>none
def asm1.ae(a:Qab×Qab):List PK:=[.val (.agg (Qab.c a.1)),.val (.agg (Qab.c a.2))]
theorem asm1.le: ∀ps a,asm1.ar ps=some a→LeKL ps (asm1.ae a):=by
 intro ps a h;unfold asm1.ar at h;split at h
 ·simp only[Option.bind_eq_some_iff,Option.some.injEq] at h;obtain⟨y0,h0,y1,h1,rfl⟩:=h;exact⟨Qav (Qab.d_le _ _ h0),Qav (Qab.d_le _ _ h1),trivial⟩
 ·cases h
def asm1.fv(a:Qab×Qab):Int:=(fun x y=>Qgr [cmpI x.At.Y y.At.Y,cmpI x.At.X y.At.X]) (a.1) (a.2)
def asm1.row:Row:=vrow asm1.ar (fun a=>True) (fun a=>(D.int .i64) (asm1.fv a))
def asm1.q(a:List AV)(h:Nat→Option Ent)(n:Nat)(K:Kont):=show asm1.row a h n K=Qa1 _ _ _ (nmsL a) K (pkL h a) from rfl
theorem asm1.ok:Qas Tryz.prog 90 asm1.row:=by
 refine Qaj Qaq (tC comparePoints.ok tN) Tryz.func90 rfl (by kernel_rfl) (by kernel_rfl) asm1.le (n:=2) (fun _=>rfl) (by decide) (rc:=(vInt)) (re:=(D.int .i64)) (Qa3) (f:=asm1.fv) ?_;intro a hpre;simp only[Tryz.f90,Option.getD];simp (config:={maxSteps:=10000000}) (disch:=omega) only[ZA,ZT,simprocAttr,Asm.d,rch,asm1.ae,asm1.fv,comparePoints.q,comparePoints.ar,comparePoints.fv]
end Go.Ae
namespace Go.Ae
open Go.Proofs
theorem imR_nil:imR []=[]:=rfl
theorem Qxu(n:Nat)(rows:List (List D)):(imR rows).all (belL n)=true:=by
 simp only[imR,List.all_map,List.all_eq_true,Function.comp];intro r hr;clear hr;induction r with
 |nil=>simp[belL]
 |cons x r ih=>simp[belL,AV.bel,ih]
theorem fzAL_im(F:List Nat)(H:Qan): ∀(r:List D),fzAL F H (r.map .im)=r.map .im
 |[]=>rfl
 |x::r=>by simp only[List.map_cons,fzAL,AV.fzA,fzAL_im F H r]
theorem fzAR_im(F:List Nat)(H:Qan): ∀(rows:List (List D)),fzAR F H (imR rows)=imR rows
 |[]=>rfl
 |x::r=>by
  have:=fzAR_im F H r
  simp only[imR] at this;simp only[imR,List.map_cons,fzAR,fzAL_im,this]
theorem Qzl(F:List Nat)(H:Qan): ∀(a b:List (List AV)),fzAR F H (a++b)=fzAR F H a++fzAR F H b
 |[],b=>rfl
 |x::r,b=>by simp only[List.cons_append,fzAR,Qzl F H r b]
theorem mtL_im(π:List (Nat×Option Nat)): ∀(r:List D),mtL π (r.map .im) (r.map .im)
 |[]=>by simp[mtL]
 |x::r=>by simp only[List.map_cons,mtL,mt,mtL_im π r,and_self]
theorem Qzo(π:List (Nat×Option Nat)): ∀(rows:List (List D)),mtR π (imR rows) (imR rows)
 |[]=>by simp[mtR,imR]
 |x::r=>by
  have:=Qzo π r
  simp only[imR] at this;simp only[imR,List.map_cons,mtR,mtL_im,this,and_self]
theorem Qzb(F:List Nat)(H:Qan)(rows:List (List D)):fzAR F H (rows.map fun r=>r.map AV.im)=rows.map fun r=>r.map AV.im:=fzAR_im F H rows
theorem Qsg(π:List (Nat×Option Nat))(rows:List (List D)):mtR π (rows.map fun r=>r.map AV.im) (rows.map fun r=>r.map AV.im)=True:=eq_true (Qzo π rows)
theorem all_bel2(n:Nat)(rows:List (List D)):(rows.map fun r=>r.map AV.im).all (belL n)=true:=Qxu n rows
theorem Qtl{α β:Type}{f:α→Option β}{g:β→α}(h: ∀y,f (g y)=some y): ∀(l:List β),mapO f (l.map g)=some l
 |[]=>rfl
 |x::r=>by simp only[List.map_cons,mapO,h,Qtl h r]
theorem cvt_im2(h:Nat→Option Ent)(kx:Nat→Option Nat)(n:Nat)(rows:List (List D)):mapO (mapO fun x=>asDO (cvt h kx (n+1) x)) (rows.map fun r=>r.map AV.im)=some rows:=
 Qtl (g:=fun r=>r.map AV.im) (fun y=>Qtl (g:=AV.im) (fun _=>rfl) y) rows
def Qhq{A:Type}(f:A→A):Nat→List A→List A
 |0,l=>l
 |_+1,[]=>[]
 |k+1,x::r=>f x::Qhq f k r
theorem Qwq{A:Type}(f:A→A): ∀(k:Nat) (l:List A),(Qhq f k l).length=l.length
 |0,_=>rfl
 |_+1,[]=>rfl
 |k+1,x::r=>by simp only[Qhq,List.length_cons,Qwq f k r]
theorem Qoo{A:Type}(f:A→A): ∀(k:Nat) (l:List A),(Qhq f k l)[k]? =l[k]?
 |0,_=>rfl
 |_+1,[]=>by simp[Qhq]
 |k+1,x::r=>by simp only[Qhq,List.getElem?_cons_succ,Qoo f k r]
theorem Qn5{A:Type}(f:A→A): ∀(k:Nat) (l:List A) (x:A),l[k]? =some x→(Qhq f k l).set k (f x)=Qhq f (k+1) l
 |0,[],x,h=>by simp at h
 |0,y::r,x,h=>by
  simp only[List.getElem?_cons_zero,Option.some.injEq] at h;subst h;simp[Qhq]
 |k+1,[],x,h=>by simp at h
 |k+1,y::r,x,h=>by
  have:=Qn5 f k r x (by simpa using h)
  rw[Qhq,Qhq,List.set_cons_succ,this]
theorem Qabf{A:Type}(f:A→A)(k:Nat)(l:List A)(x:A)(h:l[k]? =some x)(hf:f x=x):Qhq f (k+1) l=Qhq f k l:=by
 rw[←Qn5 f k l x h,hf];have h1:(Qhq f k l)[k]? =some x:=by rw[Qoo,h]
 obtain⟨h2,h3⟩:=List.getElem?_eq_some_iff.1 h1;rw[←h3];exact List.set_getElem_self h2
theorem Qvd{A:Type}(f:A→A): ∀(k:Nat) (l:List A),l.length≤k→Qhq f k l=l.map f
 |0,[],_=>rfl
 |0,x::r,h=>by simp at h
 |_+1,[],_=>rfl
 |k+1,x::r,h=>by simp only[Qhq,List.map_cons,Qvd f k r (by simpa using h)]
def Qtc:Nat→List Int
 |0=>[]
 |k+1=>Qtc k++[(k:Int)]
theorem Qff: ∀k,(Qtc k).length=k
 |0=>rfl
 |k+1=>by simp[Qtc,Qff k]
def Qja(x y v:Int):Int:=if v=maxI x y then minI x y else v
def Qnr(own:List Int)(b:Bond):List Int:=own.map (Qja (own[b.A.toNat]?.getD 0) (own[b.B.toNat]?.getD 0))
def ownK(n:Nat)(bs:List Bond):Nat→List Int
 |0=>Qtc n
 |k+1=>match bs[k]? with
  |some b=>Qnr (ownK n bs k) b
  |none=>ownK n bs k
theorem Qto(n:Nat)(bs:List Bond): ∀k,(ownK n bs k).length=n
 |0=>Qff n
 |k+1=>by
  simp only[ownK];split
  ·simp[Qnr,Qto n bs k]
  ·exact Qto n bs k
def grpK(own:List Int)(i:Nat):Nat→List Int
 |0=>[]
 |k+1=>grpK own i k++(if own[i+k]? =some (i:Int) then [((i+k:Nat):Int)] else [])
theorem Qsd(own:List Int)(i:Nat): ∀k,(grpK own i k).length≤k
 |0=>by simp[grpK]
 |k+1=>by
  have:=Qsd own i k
  simp only[grpK,List.length_append]
  split<;>simp<;>omega
def Qa7(own:List Int)(n:Nat):Nat→List (List Int)
 |0=>[]
 |k+1=>Qa7 own n k++(if own[k]? =some (k:Int) then [grpK own k (n - k)] else [])
theorem Qig(own:List Int)(n:Nat): ∀k,(Qa7 own n k).length≤k
 |0=>by simp[Qa7]
 |k+1=>by
  have:=Qig own n k
  simp only[Qa7,List.length_append]
  split<;>simp<;>omega
def Qf2(n:Int)(bs:List Bond):List (List Int):=Qa7 (ownK n.toNat bs bs.length) n.toNat n.toNat
def Qdm(n:Int)(bs:List Bond):Prop:= ∀b∈bs,0≤b.A∧b.A<n∧0≤b.B∧b.B<n
def l06Groups.ar:List PK→Option (Int×(List Bond))
 |[.val (.int .i64 x0),.val (.sl _ _ x1)]=>(decR Bond.d x1).bind fun y1=>some (x0,y1)
 |_=>none
def l06Groups.ae(a:Int×(List Bond)):List PK:=[.val (.int .i64 a.1),.val (.sl false 3 (a.2.map Bond.c))]
theorem l06Groups.le: ∀ps a,l06Groups.ar ps=some a→LeKL ps (l06Groups.ae a):=by
 intro ps a h;unfold l06Groups.ar at h;split at h
 ·simp only[Option.bind_eq_some_iff,Option.some.injEq] at h;obtain⟨y1,h1,rfl⟩:=h;exact⟨LeK.refl _,Qbf (Qa2 Bond.d_le _ _ h1) (by simp only[List.mem_map];rintro r ⟨y,_,rfl⟩;rfl),trivial⟩
 ·cases h
def l06Groups.fv(a:Int×(List Bond)):List (List Int):=(Qf2) (a.1) (a.2)
def l06Groups.row:Row:=vrow l06Groups.ar (fun a=>0≤a.1∧a.1≤1000000∧Qdm a.1 a.2) (fun a=>(fun b=>D.sl false 1 (b.map Qcd)) (l06Groups.fv a))
def l06Groups.q(a:List AV)(h:Nat→Option Ent)(n:Nat)(K:Kont):=show l06Groups.row a h n K=Qa1 _ _ _ (nmsL a) K (pkL h a) from rfl
theorem l06Groups.ok:Qas Tryz.prog 150 l06Groups.row:=by
 refine Qaj Qaq (tC l00Min.ok (tC l00Max.ok tN)) Tryz.func150 rfl (by kernel_rfl) (by kernel_rfl) l06Groups.le (n:=2) (fun _=>rfl) (by decide) (rc:=(vSl Qpb)) (re:=(fun b=>D.sl false 1 (b.map Qcd))) (Qe8 Qj4 (fun _=>rfl)) (f:=l06Groups.fv) ?_;intro a hpre;simp only[Tryz.f150,Option.getD];simp (config:={maxSteps:=10000000}) (disch:=omega) only[ZA,ZT,simprocAttr,Asm.d,rch,l06Groups.ae,l06Groups.fv,l00Min.q,l00Min.ar,l00Min.fv,l00Max.q,l00Max.ar,l00Max.fv];obtain⟨hn0,hn1,hbs⟩:=hpre;obtain⟨n,hn⟩: ∃n:Nat,a.1=n:=⟨a.1.toNat,by omega⟩;simp only[Qf2,hn,Int.toNat_natCast];rw[hn] at hn0 hn1 hbs;refine Qay.ren ⟨{k:Nat//k≤n},fun k=>⟨[(6,.im (.int .i64 k.1)),(5,.own 2),(0,.im (.int .i64 n)),(1,.im (.sl false 3 (a.2.map Bond.c)))],[(2,(true,.arr 2 1 ((Qtc k.1).map intC)))],3⟩,fun k=>n - k.1,fun k=>⟨by simp[Qad.good,belT,belH,Qam,AV.bel,belL],by simp⟩,⟨⟨0,by simp⟩,[(2,some 1)],?_⟩,fun k=> ?_⟩
 ·simp only[subP];simp (config:={maxSteps:=10000000}) (disch:=omega) only[ZA,ZT,simprocAttr,Asm.d,rch,l06Groups.ae,l06Groups.fv,l00Min.q,l00Min.ar,l00Min.fv,l00Max.q,l00Max.ar,l00Max.fv,Option.some_beq_some,Option.some_beq_none,Qtc,List.map_nil,hn]
  try simp
 obtain⟨k,hk1⟩:=k;simp (config:={maxSteps:=10000000}) (disch:=omega) only[ZA,ZT,simprocAttr,Asm.d,rch,l06Groups.ae,l06Groups.fv,l00Min.q,l00Min.ar,l00Min.fv,l00Max.q,l00Max.ar,l00Max.fv,sub,Qal,Qag,Qac,Qaf,allD,D.one,Bool.and_true,and_self,true_and];have hkl:=Qff k;refine⟨fun hk=>⟨by rw[hkl];omega,⟨k+1,by omega⟩,[(2,some 4)],by simp only;omega,?_⟩,fun hk=> ?_⟩
 ·simp only[subP];simp (config:={maxSteps:=10000000}) (disch:=omega) only[ZA,ZT,simprocAttr,Asm.d,rch,l06Groups.ae,l06Groups.fv,l00Min.q,l00Min.ar,l00Min.fv,l00Max.q,l00Max.ar,l00Max.fv,Option.some_beq_some,Option.some_beq_none];refine⟨by rw[Qak (by omega) (by omega)];omega,by simp[Qtc,intC]⟩
 have hkn:n=k:=by omega
 subst hkn;clear hkl hk hk1;refine Qay.old ⟨{k:Nat//k≤a.2.length},fun k=>⟨[(7,.im (.int .i64 k.1)),(5,.own 2),(0,.im (.int .i64 n)),(1,.im (.sl false 3 (a.2.map Bond.c)))],[(2,(true,.arr 2 1 ((ownK n a.2 k.1).map intC)))],3⟩,fun k=>a.2.length - k.1,fun k=>⟨by simp[Qad.good,belT,belH,Qam,AV.bel,belL],by simp⟩,⟨⟨0,by simp⟩,by simp (config:={maxSteps:=10000000}) (disch:=omega) only[ZA,ZT,simprocAttr,Asm.d,rch,l06Groups.ae,l06Groups.fv,l00Min.q,l00Min.ar,l00Min.fv,l00Max.q,l00Max.ar,l00Max.fv,sub,ownK]⟩,fun k=> ?_⟩;obtain⟨k,hk1⟩:=k;have hol:=Qto n a.2 k;simp (config:={maxSteps:=10000000}) (disch:=omega) only[ZA,ZT,simprocAttr,Asm.d,rch,l06Groups.ae,l06Groups.fv,l00Min.q,l00Min.ar,l00Min.fv,l00Max.q,l00Max.ar,l00Max.fv,sub,Qal,hol];intro _;refine⟨fun hk=>⟨hk,fun b hb=> ?_⟩,fun hk=> ?_⟩
 ·obtain⟨b1,b2,b3,b4⟩:=hbs b (List.mem_of_getElem? hb);refine⟨b1,b2,by omega,fun x hx=>⟨hk,fun b' hb'=> ?_⟩⟩;rw[hb] at hb';obtain rfl:=Option.some.inj hb';refine⟨b3,b4,by omega,fun y hy=> ?_⟩;refine Qay.old ⟨{j:Nat//j≤n},fun j=>⟨[(10,.im (.int .i64 j.1)),(9,.im (.int .i64 y)),(8,.im (.int .i64 x)),(7,.im (.int .i64 k)),(5,.own 2),(0,.im (.int .i64 n)),(1,.im (.sl false 3 (a.2.map Bond.c)))],[(2,(true,.arr 2 1 ((Qhq (Qja x y) j.1 (ownK n a.2 k)).map intC)))],3⟩,fun j=>n - j.1,fun j=>⟨by simp[Qad.good,belT,belH,Qam,AV.bel,belL],by simp⟩,⟨⟨0,by simp⟩,by simp (config:={maxSteps:=10000000}) (disch:=omega) only[ZA,ZT,simprocAttr,Asm.d,rch,l06Groups.ae,l06Groups.fv,l00Min.q,l00Min.ar,l00Min.fv,l00Max.q,l00Max.ar,l00Max.fv,sub,Qhq]⟩,fun j=> ?_⟩;obtain⟨j,hj1⟩:=j;have hml:=Qwq (Qja x y) j (ownK n a.2 k);rw[hol] at hml;have hmg:=Qoo (Qja x y) j (ownK n a.2 k);simp (config:={maxSteps:=10000000}) (disch:=omega) only[ZA,ZT,simprocAttr,Asm.d,rch,l06Groups.ae,l06Groups.fv,l00Min.q,l00Min.ar,l00Min.fv,l00Max.q,l00Max.ar,l00Max.fv,sub,Qal,hml];intro _;refine⟨fun hj=>⟨hj,hj,fun v hv=> ?_⟩,fun hj=> ?_⟩
  ·have hv0:=hv;rw[hmg] at hv;refine⟨fun he=>⟨hj,hj,fun v' hv'=>⟨⟨j+1,by omega⟩,by simp only;omega,by rw[Qak (by omega) (by omega)];simp only;omega,?_⟩⟩,fun he=>⟨⟨j+1,by omega⟩,by simp only;omega,by rw[Qak (by omega) (by omega)];simp only;omega,?_⟩⟩
   ·rw[←Qn5 _ _ _ _ hv,List.map_set];simp only[Qja,he,if_true,intC]
   ·rw[Qabf _ _ _ _ hv (by simp only[Qja];rw[if_neg he])]
  ·refine⟨⟨k+1,by omega⟩,by simp only;omega,by rw[Qak (by omega) (by omega)];simp only;omega,?_⟩;rw[Qvd _ _ _ (by omega)];simp only[ownK,hb,Qnr,hx,hy,Option.getD_some]
 have hkb:k=a.2.length:=by omega
 subst hkb;clear hk hk1 hbs;refine Qay.frr ⟨{k:Nat//k≤n},fun k=>⟨[(12,.im (.int .i64 k.1)),(11,.own 4),(5,.own 2),(0,.im (.int .i64 n))],[(4,(true,.arrA 31 1 (imR ((Qa7 (ownK n a.2 a.2.length) n k.1).map Qcd)))),(2,(true,.arr 2 1 ((ownK n a.2 a.2.length).map intC)))],5⟩,fun k=>n - k.1,fun k=>⟨by simp[Qad.good,belT,belH,Qam,AV.bel,belL,Qxu],by simp⟩,⟨⟨0,by simp⟩,[],[(4,some 3)],?_⟩,fun k=> ?_⟩
 ·simp only[subP];simp (config:={maxSteps:=10000000}) (disch:=omega) only[ZA,ZT,simprocAttr,Asm.d,rch,l06Groups.ae,l06Groups.fv,l00Min.q,l00Min.ar,l00Min.fv,l00Max.q,l00Max.ar,l00Max.fv,Option.some_beq_some,Option.some_beq_none,Qa7,List.map_nil,imR_nil]
  try simp
 obtain⟨k,hk1⟩:=k;obtain⟨own,hown⟩: ∃own,own=ownK n a.2 a.2.length:=⟨_,rfl⟩;simp only[←hown] at hol⊢;have hgl:=Qig own n k;simp (config:={maxSteps:=10000000}) (disch:=omega) only[ZA,ZT,simprocAttr,Asm.d,rch,l06Groups.ae,l06Groups.fv,l00Min.q,l00Min.ar,l00Min.fv,l00Max.q,l00Max.ar,l00Max.fv,sub,Qal,hol];refine⟨fun hk=>⟨hk,hk,fun x hx=>⟨fun he=>⟨⟨k+1,by omega⟩,[],[(4,some 4)],by simp only;omega,?_⟩,fun he=> ?_⟩⟩,fun hk=> ?_⟩
 ·have e1:Qa7 own n (k+1)=Qa7 own n k:=by
   simp only[Qa7];rw[if_neg (by rw[hx];simpa using he),List.append_nil]
  simp only[subP];simp (config:={maxSteps:=10000000}) (disch:=omega) only[ZA,ZT,simprocAttr,Asm.d,rch,l06Groups.ae,l06Groups.fv,l00Min.q,l00Min.ar,l00Min.fv,l00Max.q,l00Max.ar,l00Max.fv,Option.some_beq_some,Option.some_beq_none,Qzb,Qsg,e1];rw[Qak (by omega) (by omega)];simp
 ·have he:=Classical.not_not.1 he;refine Qay.ren ⟨{m:Nat//m≤n - k},fun m=>⟨[(14,.im (.int .i64 ((k+m.1:Nat):Int))),(13,.own 6),(12,.im (.int .i64 k)),(11,.own 4),(5,.own 2),(0,.im (.int .i64 n))],[(6,(true,.arr 2 1 ((grpK own k m.1).map intC))),(4,(true,.arrA 31 1 (imR ((Qa7 own n k).map Qcd)))),(2,(true,.arr 2 1 (own.map intC)))],7⟩,fun m=>n - k - m.1,fun m=>⟨by simp[Qad.good,belT,belH,Qam,AV.bel,belL,Qxu],by simp⟩,⟨⟨0,by simp⟩,[(6,some 5)],?_⟩,fun m=> ?_⟩
  ·simp only[subP];simp (config:={maxSteps:=10000000}) (disch:=omega) only[ZA,ZT,simprocAttr,Asm.d,rch,l06Groups.ae,l06Groups.fv,l00Min.q,l00Min.ar,l00Min.fv,l00Max.q,l00Max.ar,l00Max.fv,Option.some_beq_some,Option.some_beq_none,grpK,List.map_nil,Qsg]
   try simp
  obtain⟨m,hm1⟩:=m;have hgm:=Qsd own k m;simp (config:={maxSteps:=10000000}) (disch:=omega) only[ZA,ZT,simprocAttr,Asm.d,rch,l06Groups.ae,l06Groups.fv,l00Min.q,l00Min.ar,l00Min.fv,l00Max.q,l00Max.ar,l00Max.fv,sub,Qal,hol,Qag,Qac,Qaf,allD,D.one,Bool.and_true,and_self,true_and];refine⟨fun hm=>⟨hm,hm,fun v hv=>⟨fun h=>⟨by omega,⟨m+1,by omega⟩,[(6,some 8)],by simp only;omega,?_⟩,fun h=>⟨⟨m+1,by omega⟩,[(6,some 6)],by simp only;omega,?_⟩⟩⟩,fun hm=>⟨by simp[belL,AV.bel],by omega,by rw[List.all_append,all_bel2];simp[belL,AV.bel],⟨k+1,by omega⟩,[6],[(4,some 8)],by simp only;omega,?_⟩⟩
  ·simp only[subP];simp (config:={maxSteps:=10000000}) (disch:=omega) only[ZA,ZT,simprocAttr,Asm.d,rch,l06Groups.ae,l06Groups.fv,l00Min.q,l00Min.ar,l00Min.fv,l00Max.q,l00Max.ar,l00Max.fv,Option.some_beq_some,Option.some_beq_none,Qsg];refine⟨?_,?_⟩
   ·rw[Qak (by omega) (by omega)];omega
   ·subst h;simp only[grpK];rw[if_pos hv];simp[intC]
  ·simp only[subP];simp (config:={maxSteps:=10000000}) (disch:=omega) only[ZA,ZT,simprocAttr,Asm.d,rch,l06Groups.ae,l06Groups.fv,l00Min.q,l00Min.ar,l00Min.fv,l00Max.q,l00Max.ar,l00Max.fv,Option.some_beq_some,Option.some_beq_none,Qsg];refine⟨?_,?_⟩
   ·rw[Qak (by omega) (by omega)];omega
   ·simp only[grpK];rw[if_neg (by rw[hv];simpa using h),List.append_nil]
  ·have hmn:m=n - k:=by omega
   have e1:Qa7 own n (k+1)=Qa7 own n k++[grpK own k m]:=by
    simp only[Qa7];rw[if_pos (by rw[hx,he]),hmn]
   simp only[subP];simp (config:={maxSteps:=10000000}) (disch:=omega) only[ZA,ZT,simprocAttr,Asm.d,rch,l06Groups.ae,l06Groups.fv,l00Min.q,l00Min.ar,l00Min.fv,l00Max.q,l00Max.ar,l00Max.fv,Option.some_beq_some,Option.some_beq_none,Qzl,Qzb,e1,List.map_append,List.map_cons,List.map_nil];rw[Qak (by omega) (by omega)];refine⟨by simp,?_⟩
   have:=Qzo [(4,some 8)] ((Qa7 own n k).map Qcd++[[D.sl false 1 ((grpK own k m).map intC)]])
   simpa only[imR,List.map_append,List.map_cons,List.map_nil] using this
 ·have:k=n:=by omega
  subst this;simp (config:={maxSteps:=10000000}) (disch:=omega) only[ZA,ZT,simprocAttr,Asm.d,rch,l06Groups.ae,l06Groups.fv,l00Min.q,l00Min.ar,l00Min.fv,l00Max.q,l00Max.ar,l00Max.fv,cvt_im2]
end Go.Ae
namespace Go.Ae
def famH(b n:Nat)(f:Nat→Ent):Qan:=(List.range n).map fun i=>(b+i,f i)
theorem famH_succ(b n:Nat)(f:Nat→Ent):famH b (n+1) f=famH b n f++[(b+n,f n)]:=by
 simp only[famH,List.range_succ,List.map_append,List.map_cons,List.map_nil]
theorem Qm4(b:Nat)(f:Nat→Ent)(m:Nat): ∀(n:Nat),hget (famH b n f) m=if b≤m∧m<b+n then some (f (m - b)) else none
 |0=>by rw[if_neg (by omega)];rfl
 |n+1=>by
  rw[famH_succ,Qm2,Qm4 b f m n];simp only[hget];by_cases h:b≤m∧m<b+n
  ·rw[if_pos h,if_pos (by omega)]
  ·rw[if_neg h];by_cases h2:b+n=m
   ·subst h2;rw[if_pos (by omega),show b+n - b=n by omega];simp
   ·have:(b+n==m)=false:=by simpa using h2
    rw[this,if_neg (by omega)];rfl
theorem Qcy(b n:Nat)(f:Nat→Ent)(j:Nat)(h:j<n):hget (famH b n f) (b+j)=some (f j):=by
 rw[Qm4,if_pos (by omega),show b+j - b=j by omega]
theorem Qmh(b n:Nat)(f:Nat→Ent)(m:Nat)(h:m<b∨b+n≤m):hget (famH b n f) m=none:=by
 rw[Qm4,if_neg (by omega)]
theorem Qeg(m:Nat)(ks:List Nat): ∀(x:Qan),hget (hdel x ks) m=if ks.contains m then none else hget x m
 |[]=>by simp[hdel,hget]
 |(q,e)::r=>by
  simp only[hdel];have ih:=Qeg m ks r;cases hq:ks.contains q
  ·simp only[cond_false,hget];cases hqm:q==m
   ·simpa using ih
   ·have:q=m:=by simpa using hqm
    subst this;simp only[cond_true,hq];rfl
  ·simp only[cond_true,ih,hget];cases hqm:q==m
   ·simp
   ·have:q=m:=by simpa using hqm
    subst this;rw[if_pos hq,if_pos hq]
theorem Qns(π:List (Nat×Option Nat))(s:Qad)(y:Qan): ∀(x:Qan),Qgb π s (x++y)=(Qgb π s x∧Qgb π s y)
 |[]=>by simp[Qgb]
 |(q,(mu,e))::r=>by simp only[List.cons_append,Qgb,Qns π s y r,and_assoc]
theorem Qgn(π:List (Nat×Option Nat))(s:Qad)(b n:Nat)(f:Nat→Ent):Qgb π s (famH b n f)↔ ∀i,i<n→entN s π (f i).1 (f i).2 (pm π (b+i)):=by
 have: ∀(l:List Nat),Qgb π s (l.map fun i=>(b+i,f i))↔ ∀i∈l,entN s π (f i).1 (f i).2 (pm π (b+i)):=by
  intro l;induction l with
  |nil=>simp[Qgb]
  |cons i r ih=>simp only[List.map_cons,Qgb,ih,List.mem_cons,forall_eq_or_imp]
 rw[famH,this];simp only[List.mem_range]
def Qg1:Qan→List Nat
 |[]=>[]
 |(n,_)::r=>n::Qg1 r
theorem Qi7(π:List (Nat×Option Nat)): ∀(H:Qan),imP π H=(Qg1 H).map (pm π)
 |[]=>rfl
 |(n,e)::r=>by simp only[imP,Qg1,List.map_cons,Qi7 π r]
theorem Qe0(b n:Nat)(f:Nat→Ent):Qg1 (famH b n f)=(List.range n).map (b+ ·):=by
 have: ∀(l:List Nat),Qg1 (l.map fun i=>(b+i,f i))=l.map (b+ ·):=by
  intro l;induction l with
  |nil=>rfl
  |cons i r ih=>simp only[List.map_cons,Qg1,ih]
 exact this _
theorem Ql1(g:Nat→Option Nat): ∀(l:List Nat),l.Nodup→(∀x∈l,∀y∈l,∀m,g x=some m→g y=some m→x=y)→nodS (l.map g)=true
 |[],_,_=>rfl
 |x::r,h,hi=>by
  simp only[List.nodup_cons] at h;have ih:=Ql1 g r h.2 (fun a ha b hb=>hi a (List.mem_cons_of_mem _ ha) b (List.mem_cons_of_mem _ hb));simp only[List.map_cons];cases hx:g x with
  |none=>simpa only[nodS] using ih
  |some m=>
   simp only[nodS,ih,Bool.and_true,Bool.not_eq_true'];rw[Bool.eq_false_iff];intro hc;obtain⟨y,hy,hgy⟩:=List.mem_map.1 (List.contains_iff_mem.1 hc)
   have:=hi x (List.mem_cons_self ..) y (List.mem_cons_of_mem _ hy) m hx hgy
   exact h.1 (this▸hy)
theorem Ql2(π:List (Nat×Option Nat)): ∀(a b:List (List AV)),mtR π a b↔a.length=b.length∧ ∀(i:Nat) x y,a[i]? =some x→b[i]? =some y→mtL π x y
 |[],[]=>by simp[mtR]
 |[],_::_=>by simp[mtR]
 |_::_,[]=>by simp[mtR]
 |x::r,y::s=>by
  simp only[mtR,Ql2 π r s,List.length_cons,Nat.add_right_cancel_iff];constructor
  ·rintro⟨h1,h2,h3⟩;refine⟨h2,fun i x' y' hx hy=> ?_⟩;cases i with
   |zero=>
    simp only[List.getElem?_cons_zero,Option.some.injEq] at hx hy;subst hx;subst hy;exact h1
   |succ i=>exact h3 i x' y' (by simpa using hx) (by simpa using hy)
  ·rintro⟨h2,h3⟩;exact⟨h3 0 x y rfl rfl,h2,fun i x' y' hx hy=>h3 (i+1) x' y' (by simpa using hx) (by simpa using hy)⟩
theorem Qi1(nx b:Nat)(f:Nat→Ent)(hf: ∀i,belH nx [(b+i,f i)]=true)(n:Nat):belH nx (famH b n f)=true:=by
 have happ: ∀(x y:Qan),belH nx (x++y)=(belH nx x && belH nx y):=by
  intro x y;induction x with
  |nil=>simp[belH]
  |cons z r ih=>
   obtain⟨q,mu,e⟩:=z;cases e<;>simp[belH,ih,Bool.and_assoc]
 have: ∀(l:List Nat),belH nx (l.map fun i=>(b+i,f i))=true:=by
  intro l;induction l with
  |nil=>rfl
  |cons i r ih=>
   have h2:=happ [(b+i,f i)] (r.map fun i=>(b+i,f i));rw[List.map_cons,show (b+i,f i)::(r.map fun i=>(b+i,f i))=[(b+i,f i)]++(r.map fun i=>(b+i,f i)) from rfl,h2,hf i,ih];rfl
 exact this _
theorem Qd8(nx b n:Nat)(f:Nat→Ent)(h:b+n≤nx):Qam nx (famH b n f)=true:=by
 have: ∀(l:List Nat),(∀i∈l,i<n)→Qam nx (l.map fun i=>(b+i,f i))=true:=by
  intro l;induction l with
  |nil=>intro _;rfl
  |cons i r ih=>
   intro hl;simp only[List.map_cons,Qam,ih (fun j hj=>hl j (List.mem_cons_of_mem _ hj)),Bool.and_true];rw[Nat.blt_eq]
   have:=hl i (List.mem_cons_self ..)
   omega
 exact this _ (fun i hi=>List.mem_range.1 hi)
def famP(b n:Nat):List (Nat×Option Nat):=(List.range n).map fun i=>(b+i,none)
theorem Qlz(b n m:Nat):pm (famP b n) m=if b≤m∧m<b+n then none else some m:=by
 have: ∀(l:List Nat),pm (l.map fun i=>(b+i,none)) m=if b≤m∧m - b∈l then none else some m:=by
  intro l;induction l with
  |nil=>simp[pm]
  |cons i r ih=>
   simp only[List.map_cons,pm,ih,List.mem_cons];by_cases h:b+i=m
   ·rw[if_pos h,if_pos ⟨by omega,.inl (by omega)⟩]
   ·rw[if_neg h];by_cases h2:b≤m∧m - b∈r
    ·rw[if_pos h2,if_pos ⟨h2.1,.inr h2.2⟩]
    ·rw[if_neg h2,if_neg (by rintro⟨h3,h4|h4⟩;exact h (by omega);exact h2 ⟨h3,h4⟩)]
 rw[famP,this];simp only[List.mem_range];by_cases h:b≤m∧m<b+n
 ·rw[if_pos h,if_pos (by omega)]
 ·rw[if_neg h,if_neg (by omega)]
theorem geP_famP(lo b n:Nat)(h:lo≤b):geP lo (famP b n):=by
 have: ∀(l:List Nat),geP lo (l.map fun i=>(b+i,none)):=by
  intro l;induction l with
  |nil=>trivial
  |cons i r ih=>simp only[List.map_cons,geP];exact⟨by omega,ih⟩
 exact this _
theorem beq_band(k b j:Nat)(h:k<b):(k==b+j)=false:=by simp;omega
theorem beq_band2(k b j:Nat)(h:k<b):(b+j==k)=false:=by simp;omega
end Go.Ae
namespace Go.Ae
open Go.Proofs
def Qb9(n:Net)(v i:Int):Int×Int:=match n.Bonds[i.toNat]? with
 |some b=>if b.A=v then (b.Strength - n.Flow[i.toNat]?.getD 0,b.B) else (b.Strength+n.Flow[i.toNat]?.getD 0,b.A)
 |none=>(0,0)
structure Qcf(n:Net):Prop where
 c0:0≤n.Cnt
 c1:n.Cnt≤1000000
 fl:n.Flow.length=n.Bonds.length
 al:(n.At.length:Int)=n.Cnt
 bs:Qdm n.Cnt n.Bonds
 at_: ∀(v:Nat) (r:List Int),n.At[v]? =some r→ ∀i∈r,0≤i∧ ∃b,n.Bonds[i.toNat]? =some b∧(b.A=v∨b.B=v)
 f: ∀x∈n.Flow,-1000000≤x∧x≤1000000
 st: ∀b∈n.Bonds,0≤b.Strength∧b.Strength≤1000000
 all: ∀(i:Nat) b,n.Bonds[i]? =some b→(∃r,n.At[b.A.toNat]? =some r∧(i:Int)∈r)∧ ∃r,n.At[b.B.toNat]? =some r∧(i:Int)∈r
 ne: ∀b∈n.Bonds,b.A≠b.B
def roomC.ar:List PK→Option (Net×Int×Int)
 |[.ptr x0,.val (.int .i64 x1),.val (.int .i64 x2)]=>(Net.d (x0.take 4)).bind fun y0=>some (y0,x1,x2)
 |_=>none
def roomC.ae(a:Net×Int×Int):List PK:=[.ptr (Net.c a.1),.val (.int .i64 a.2.1),.val (.int .i64 a.2.2)]
theorem roomC.le: ∀ps a,roomC.ar ps=some a→LeKL ps (roomC.ae a):=by
 intro ps a h;unfold roomC.ar at h;split at h
 ·simp only[Option.bind_eq_some_iff,Option.some.injEq] at h;obtain⟨y0,h0,rfl⟩:=h;exact⟨LeP.trans_take (Net.d_le _ _ h0),LeK.refl _,LeK.refl _,trivial⟩
 ·cases h
def roomC.fv(a:Net×Int×Int):Int×Int:=(Qb9) (a.1) (a.2.1) (a.2.2)
def roomC.row:Row:=Qfi roomC.ar (fun a=>Qcf a.1∧0≤a.2.2∧a.2.2<a.1.Bonds.length) (fun a=>(fun b=>D.tup [(D.int .i64) (b.1),(D.int .i64) (b.2)]) (roomC.fv a))
def roomC.q(a:List AV)(h:Nat→Option Ent)(n:Nat)(K:Kont):=show roomC.row a h n K=Qct _ _ _ (rchL h a) K (pkFL h a) from rfl
theorem roomC.ok:Qas Tryz.prog 176 roomC.row:=by
 refine Qbn Qaq tN Tryz.func176 rfl (by kernel_rfl) (by kernel_rfl) roomC.le (n:=3) (fun _=>rfl) (by decide) (rc:=(Qfa (vInt) (vInt))) (re:=(fun b=>D.tup [(D.int .i64) (b.1),(D.int .i64) (b.2)])) (Qbz (Qa3) (Qa3)) (f:=roomC.fv) ?_;intro a hpre;simp only[Tryz.f176,Option.getD];simp (config:={maxSteps:=10000000}) (disch:=omega) only[ZA,ZT,simprocAttr,Asm.d,rch,roomC.ae,roomC.fv,Qah,Qag,Qac,Qaf,Qai,D.sc,D.scs,scL,decD];obtain⟨h1,h2,h3⟩:=hpre;have hfl:=h1.fl;refine⟨h2,h3,fun b hb=> ?_⟩;have hst:=h1.st b (List.mem_of_getElem? hb)
 split<;>rename_i h
 ·refine⟨h2,by omega,fun f hf=> ?_⟩;have hff:=h1.f f (List.mem_of_getElem? hf);rw[Qak (by omega) (by omega)];simp only[Qb9,hb,hf,Option.getD_some];rw[if_pos h]
 ·refine⟨h2,by omega,fun f hf=> ?_⟩;have hff:=h1.f f (List.mem_of_getElem? hf);rw[Qak (by omega) (by omega)];simp only[Qb9,hb,hf,Option.getD_some];rw[if_neg h]
def Qbg(n:Net)(v i:Int):Int:=match n.Bonds[i.toNat]? with
 |some b=>b.A+b.B - v
 |none=>0
def bfs1(n:Net)(v:Int)(s:List Int×List Int)(i:Int):List Int×List Int:=
 if s.1[(Qbg n v i).toNat]?.getD 0<0∧0<(Qb9 n (Qbg n v i) i).1 then (s.1.set (Qbg n v i).toNat (s.1[v.toNat]?.getD 0+1),s.2++[Qbg n v i]) else s
def Qbu(n:Net)(q:Int):Nat→List Int×List Int
 |0=>((List.replicate n.Cnt.toNat (-1)).set q.toNat 0,[q])
 |k+1=>match (Qbu n q k).2[k]? with
  |none=>Qbu n q k
  |some v=>(n.At[v.toNat]?.getD []).foldl (bfs1 n v) (Qbu n q k)
def Qcb(n:Net)(q:Int):List Int:=(Qbu n q n.Cnt.toNat).1
structure Qkd(n:Net)(s:List Int×List Int):Prop where
 len:s.1.length=n.Cnt.toNat
 rng: ∀x∈s.1,-1≤x∧x≤s.2.length
 q: ∀x∈s.2,0≤x∧x<n.Cnt
 cnt:(s.1.filter (fun x=>decide (0≤x))).length=s.2.length
theorem Qlu{A:Type}(p:A→Bool): ∀(l:List A) (w:Nat) (x y:A),l[w]? =some x→p x=false→p y=true→((l.set w y).filter p).length=(l.filter p).length+1
 |[],w,x,y,h,_,_=>by simp at h
 |z::r,0,x,y,h,hx,hy=>by
  simp only[List.getElem?_cons_zero,Option.some.injEq] at h;subst h;simp[List.filter_cons,hx,hy]
 |z::r,w+1,x,y,h,hx,hy=>by
  have:=Qlu p r w x y (by simpa using h) hx hy
  simp only[List.set_cons_succ,List.filter_cons];split
  ·simp only[List.length_cons,this]
  ·exact this
theorem Qkx{n:Net}(h0:0≤n.Cnt){s:List Int×List Int}(h:Qkd n s):(s.2.length:Int)≤n.Cnt:=by
 have h1:=h.cnt;have h2:=List.length_filter_le (fun x=>decide (0≤x)) s.1;have h3:=h.len;omega
theorem Qhm{n:Net}(hn:Qcf n){v:Nat}{r:List Int}(hr:n.At[v]? =some r){i:Int}(hi:i∈r):0≤i∧i<n.Bonds.length∧0≤Qbg n v i∧Qbg n v i<n.Cnt:=by
 obtain⟨h0,b,hb,hv⟩:=hn.at_ v r hr i hi;have hbb:=hn.bs b (List.mem_of_getElem? hb);have hl:=(List.getElem?_eq_some_iff.1 hb).1;simp only[Qbg,hb];omega
theorem Qtm{n:Net}(hn:Qcf n){v:Nat}{r:List Int}(hr:n.At[v]? =some r){i:Int}(hi:i∈r){s:List Int×List Int}(hs:Qkd n s):Qkd n (bfs1 n v s i):=by
 obtain⟨_,_,o1,o2⟩:=Qhm hn hr hi;simp only[bfs1];split
 ·rename_i h;have hlt:(Qbg n v i).toNat<s.1.length:=by rw[hs.len];omega
  obtain⟨x,hx⟩: ∃x,s.1[(Qbg n v i).toNat]? =some x:=⟨_,List.getElem?_eq_getElem hlt⟩;have hx0:x<0:=by have:=h.1;rw[hx] at this;simpa using this
  have hvb:0≤s.1[(v:Int).toNat]?.getD 0+1∧s.1[(v:Int).toNat]?.getD 0+1≤s.2.length+1:=by
   cases hv:s.1[(v:Int).toNat]? with
   |none=>simp;omega
   |some y=>have:=hs.rng y (List.mem_of_getElem? hv);simp only[Option.getD_some];omega
  refine⟨by simpa using hs.len,fun y hy=> ?_,fun y hy=> ?_,?_⟩
  ·simp only[List.length_append,List.length_cons,List.length_nil];rcases List.mem_or_eq_of_mem_set hy with hy|hy
   ·have:=hs.rng y hy;omega
   ·subst hy;omega
  ·rcases List.mem_append.1 hy with hy|hy
   ·exact hs.q y hy
   ·rw[List.mem_singleton] at hy;subst hy;exact⟨o1,o2⟩
  ·rw[Qlu _ _ _ x _ hx (by rw[decide_eq_false_iff_not];omega) (by rw[decide_eq_true_eq];exact hvb.1),hs.cnt];simp
 ·exact hs
theorem Qs1{n:Net}(hn:Qcf n){v:Nat}{r:List Int}(hr:n.At[v]? =some r): ∀(l:List Int) (s:List Int×List Int),(∀i∈l,i∈r)→Qkd n s→Qkd n (l.foldl (bfs1 n v) s)
 |[],s,_,hs=>hs
 |i::l,s,hl,hs=>Qs1 hn hr l _ (fun j hj=>hl j (List.mem_cons_of_mem _ hj)) (Qtm hn hr (hl i (List.mem_cons_self ..)) hs)
theorem Qg5{n:Net}(hn:Qcf n){q:Int}(h0:0≤q)(h1:q<n.Cnt): ∀k,Qkd n (Qbu n q k)
 |0=>by
  have hq:q.toNat<n.Cnt.toNat:=by omega
  refine⟨by simp[Qbu],fun x hx=> ?_,fun x hx=> ?_,?_⟩
  ·simp only[Qbu] at hx⊢;rcases List.mem_or_eq_of_mem_set hx with hx|hx
   ·have:=List.eq_of_mem_replicate hx;simp;omega
   ·subst hx;simp
  ·simp only[Qbu,List.mem_singleton] at hx;subst hx;exact⟨h0,h1⟩
  ·simp only[Qbu];rw[Qlu _ _ _ (-1) _ (by rw[List.getElem?_replicate,if_pos hq]) (by simp) (by simp)]
   have:(List.replicate n.Cnt.toNat (-1:Int)).filter (fun x=>decide (0≤x))=[]:=by
    rw[List.filter_eq_nil_iff];intro x hx;rw[List.eq_of_mem_replicate hx];simp
   rw[this];rfl
 |k+1=>by
  have ih:=Qg5 hn h0 h1 k;simp only[Qbu];split
  ·exact ih
  ·rename_i v hv;have hvq:=ih.q v (List.mem_of_getElem? hv);obtain⟨m,rfl⟩: ∃m:Nat,v=m:=⟨v.toNat,by omega⟩;have hm:m<n.At.length:=by have:=hn.al;omega
   obtain⟨r,hr⟩: ∃r,n.At[m]? =some r:=⟨_,List.getElem?_eq_getElem hm⟩;simp only[Int.toNat_natCast,hr,Option.getD_some];exact Qs1 hn hr r _ (fun _ h=>h) ih
theorem bfs_end(n:Net)(q:Int): ∀(m k:Nat),(Qbu n q k).2.length≤k→Qbu n q (k+m)=Qbu n q k
 |0,k,_=>rfl
 |m+1,k,h=>by
  have h1:Qbu n q (k+1)=Qbu n q k:=by
   rw[Qbu,List.getElem?_eq_none h]
  have h2:=bfs_end n q m (k+1) (by rw[h1];omega);rw[show k+(m+1)=k+1+m by omega,h2,h1]
theorem Qwn(n:Net)(v:Int): ∀(l:List Int) (s:List Int×List Int),s.2.length≤(l.foldl (bfs1 n v) s).2.length
 |[],s=>Nat.le_refl _
 |i::l,s=>by
  have h1:s.2.length≤(bfs1 n v s i).2.length:=by
   simp only[bfs1];split
   ·simp
   ·exact Nat.le_refl _
  exact Nat.le_trans h1 (Qwn n v l _)
def stepsC.ar:List PK→Option (Net×Int)
 |[.ptr x0,.val (.int .i64 x1)]=>(Net.d (x0.take 4)).bind fun y0=>some (y0,x1)
 |_=>none
def stepsC.ae(a:Net×Int):List PK:=[.ptr (Net.c a.1),.val (.int .i64 a.2)]
theorem stepsC.le: ∀ps a,stepsC.ar ps=some a→LeKL ps (stepsC.ae a):=by
 intro ps a h;unfold stepsC.ar at h;split at h
 ·simp only[Option.bind_eq_some_iff,Option.some.injEq] at h;obtain⟨y0,h0,rfl⟩:=h;exact⟨LeP.trans_take (Net.d_le _ _ h0),LeK.refl _,trivial⟩
 ·cases h
def stepsC.fv(a:Net×Int):List Int:=(Qcb) (a.1) (a.2)
def stepsC.row:Row:=Qfi stepsC.ar (fun a=>Qcf a.1∧0≤a.2∧a.2<a.1.Cnt) (fun a=>(fun b=>D.sl false 1 (b.map intC)) (stepsC.fv a))
def stepsC.q(a:List AV)(h:Nat→Option Ent)(n:Nat)(K:Kont):=show stepsC.row a h n K=Qct _ _ _ (rchL h a) K (pkFL h a) from rfl
theorem stepsC.ok:Qas Tryz.prog 167 stepsC.row:=by
 refine Qbn Qaq (tC roomC.ok tN) Tryz.func167 rfl (by kernel_rfl) (by kernel_rfl) stepsC.le (n:=2) (fun _=>rfl) (by decide) (rc:=(vSl intD)) (re:=(fun b=>D.sl false 1 (b.map intC))) (Qe8 Qb3 (fun _=>rfl)) (f:=stepsC.fv) ?_;intro a hpre;simp only[Tryz.f167,Option.getD];simp (config:={maxSteps:=10000000}) (disch:=omega) only[ZA,ZT,simprocAttr,Asm.d,rch,stepsC.ae,stepsC.fv,roomC.q,roomC.ar,roomC.fv,Qah,Qag,Qac,Qaf,Qai,D.sc,D.scs,scL,decD];obtain⟨hn,hq0,hq1⟩:=hpre;have hc1:=hn.c1;obtain⟨c,hc⟩: ∃c:Nat,a.1.Cnt=c:=⟨a.1.Cnt.toNat,by omega⟩;refine Qay.ren ⟨{k:Nat//k≤c},fun k=>⟨[(6,.im (.int .i64 k.1)),(5,.own 3),(0,.ptr 0 0),(1,.im (.int .i64 a.2))],[(3,(true,.arr 2 1 ((List.replicate k.1 (-1:Int)).map intC))),(0,(false,.view (Net.c a.1)))],4⟩,fun k=>c - k.1,fun k=>⟨by simp[Qad.good,belT,belH,Qam,AV.bel,belL],by simp⟩,⟨⟨0,by simp⟩,[(3,some 2)],?_⟩,fun k=> ?_⟩
 ·simp only[subP];simp (config:={maxSteps:=10000000}) (disch:=omega) only[ZA,ZT,simprocAttr,Asm.d,rch,stepsC.ae,stepsC.fv,roomC.q,roomC.ar,roomC.fv,Qah,Qag,Qac,Qaf,Qai,D.sc,D.scs,scL,decD,Option.some_beq_some,Option.some_beq_none,List.replicate_zero,List.map_nil]
  try simp
 obtain⟨k,hk1⟩:=k;simp (config:={maxSteps:=10000000}) (disch:=omega) only[ZA,ZT,simprocAttr,Asm.d,rch,stepsC.ae,stepsC.fv,roomC.q,roomC.ar,roomC.fv,Qah,Qag,Qac,Qaf,Qai,D.sc,D.scs,scL,decD,sub,Qal,hc,List.length_replicate];refine⟨fun hk=>⟨by omega,⟨k+1,by omega⟩,[(3,some 5)],by simp only;omega,?_⟩,fun hk=> ?_⟩
 ·simp only[subP];simp (config:={maxSteps:=10000000}) (disch:=omega) only[ZA,ZT,simprocAttr,Asm.d,rch,stepsC.ae,stepsC.fv,roomC.q,roomC.ar,roomC.fv,Qah,Qag,Qac,Qaf,Qai,D.sc,D.scs,scL,decD,Option.some_beq_some,Option.some_beq_none];refine⟨by rw[Qak (by omega) (by omega)];omega,?_⟩;rw[List.replicate_succ'];simp[intC]
 have hkc:c=k:=by omega
 subst hkc;refine⟨hq0,by omega,by omega,fun _ _=> ?_⟩;have hal:=hn.al;have hinv:=Qg5 hn hq0 hq1;refine Qay.ren ⟨{k:Nat//k≤(Qbu a.1 a.2 k).2.length},fun k=>⟨[(8,.im (.int .i64 k.1)),(7,.own 5),(5,.own 3),(0,.ptr 0 0),(1,.im (.int .i64 a.2))],[(5,(true,.arr 2 1 ((Qbu a.1 a.2 k.1).2.map intC))),(3,(true,.arr 2 1 ((Qbu a.1 a.2 k.1).1.map intC))),(0,(false,.view (Net.c a.1)))],6⟩,fun k=>c - k.1,fun k=>⟨by simp[Qad.good,belT,belH,Qam,AV.bel,belL],by simp⟩,⟨⟨0,by simp⟩,[(5,some 4)],?_⟩,fun k=> ?_⟩
 ·simp only[subP];simp (config:={maxSteps:=10000000}) (disch:=omega) only[ZA,ZT,simprocAttr,Asm.d,rch,stepsC.ae,stepsC.fv,roomC.q,roomC.ar,roomC.fv,Qah,Qag,Qac,Qaf,Qai,D.sc,D.scs,scL,decD,Option.some_beq_some,Option.some_beq_none,hc,Qbu];simp[hc,intC,List.map_set]
 obtain⟨k,hk1⟩:=k;have hi:=hinv k;have hil:=hi.len;have hql:=Qkx (by omega) hi;simp (config:={maxSteps:=10000000}) (disch:=omega) only[ZA,ZT,simprocAttr,Asm.d,rch,stepsC.ae,stepsC.fv,roomC.q,roomC.ar,roomC.fv,Qah,Qag,Qac,Qaf,Qai,D.sc,D.scs,scL,decD,sub,Qal,hc,hil];intro _;refine⟨fun hk=>⟨hk,hk,fun v hv=> ?_⟩,fun hk=> ?_⟩
 ·have hvq:=hi.q v (List.mem_of_getElem? hv);obtain⟨m,rfl⟩: ∃m:Nat,v=m:=⟨v.toNat,by omega⟩;have hm:m<a.1.At.length:=by omega
  obtain⟨r,hr⟩: ∃r,a.1.At[m]? =some r:=⟨_,List.getElem?_eq_getElem hm⟩;have hrow:Qbu a.1 a.2 (k+1)=r.foldl (bfs1 a.1 m) (Qbu a.1 a.2 k):=by
   simp only[Qbu,hv,Int.toNat_natCast,hr,Option.getD_some]
  refine Qay.ren ⟨{j:Nat//j≤r.length},fun j=>⟨[(10,.im (.int .i64 j.1)),(9,.im (.int .i64 m)),(8,.im (.int .i64 k)),(7,.own 6),(5,.own 3),(0,.ptr 0 0),(1,.im (.int .i64 a.2))],[(6,(true,.arr 2 1 (((r.take j.1).foldl (bfs1 a.1 m) (Qbu a.1 a.2 k)).2.map intC))),(3,(true,.arr 2 1 (((r.take j.1).foldl (bfs1 a.1 m) (Qbu a.1 a.2 k)).1.map intC))),(0,(false,.view (Net.c a.1)))],7⟩,fun j=>r.length - j.1,fun j=>⟨by simp[Qad.good,belT,belH,Qam,AV.bel,belL],by simp⟩,⟨⟨0,by simp⟩,[(6,some 5)],?_⟩,fun j=> ?_⟩
  ·simp only[subP];simp (config:={maxSteps:=10000000}) (disch:=omega) only[ZA,ZT,simprocAttr,Asm.d,rch,stepsC.ae,stepsC.fv,roomC.q,roomC.ar,roomC.fv,Qah,Qag,Qac,Qaf,Qai,D.sc,D.scs,scL,decD,Option.some_beq_some,Option.some_beq_none,hc,List.take_zero,List.foldl_nil]
   try simp
  obtain⟨j,hj1⟩:=j;have hs:=Qs1 hn hr (r.take j) _ (fun i hi=>List.mem_of_mem_take hi) hi;obtain⟨s,hsd⟩: ∃s,s=(r.take j).foldl (bfs1 a.1 m) (Qbu a.1 a.2 k):=⟨_,rfl⟩;rw[←hsd] at hs;have hsl:=hs.len;have hsq:=Qkx (by omega) hs;simp only[←hsd];have hnet:(⟨(c:Int),a.1.Bonds,a.1.At,a.1.Flow⟩:Net)=a.1:=by rw[←hc]
  simp (config:={maxSteps:=10000000}) (disch:=omega) only[ZA,ZT,simprocAttr,Asm.d,rch,stepsC.ae,stepsC.fv,roomC.q,roomC.ar,roomC.fv,Qah,Qag,Qac,Qaf,Qai,D.sc,D.scs,scL,decD,sub,Qal,hc,hnet,hsl,Qag,Qac,Qaf,allD,D.one,Bool.and_true,and_self,true_and];refine⟨hm,fun r' hr'=> ?_⟩;rw[hr] at hr';obtain rfl:=Option.some.inj hr';intro hrl;refine⟨fun hj=>⟨hm,fun r' hr'=> ?_⟩,fun hj=> ?_⟩
  ·rw[hr] at hr';obtain rfl:=Option.some.inj hr';refine⟨hj,fun i hi0=> ?_⟩;have him:=List.mem_of_getElem? hi0;obtain⟨i0,i1,o0,o1⟩:=Qhm hn hr him;have hstep:(r.take (j+1)).foldl (bfs1 a.1 m) (Qbu a.1 a.2 k)=bfs1 a.1 m s i:=by
    rw[List.take_add_one,hi0,List.foldl_append,←hsd];rfl
   refine⟨i0,i1,fun b hb=>⟨i0,i1,fun b' hb'=> ?_⟩⟩;rw[hb] at hb';obtain rfl:=Option.some.inj hb';have hbb:=hn.bs b (List.mem_of_getElem? hb);have hw:IntKind.wrap .i64 (IntKind.wrap .i64 (b.A+b.B) - m)=Qbg a.1 m i:=by
    rw[Qak (x:=b.A+b.B) (by omega) (by omega),Qak (by omega) (by omega)];simp only[Qbg,hb]
   rw[hw];have hlt:(Qbg a.1 m i).toNat<c:=by omega
   refine⟨⟨hn,i0,i1⟩,o0,by omega,hlt,fun x hx=>⟨fun hx0=>⟨fun hrm=>⟨by omega,by omega,fun y hy=>⟨o0,by omega,hlt,fun _ _=>⟨by omega,⟨j+1,by omega⟩,[(6,some 8)],by simp only;omega,?_⟩⟩⟩,fun hrm=>⟨⟨j+1,by omega⟩,[(6,some 6)],by simp only;omega,?_⟩⟩,fun hx0=>⟨⟨j+1,by omega⟩,[(6,some 6)],by simp only;omega,?_⟩⟩⟩
   ·have e1:bfs1 a.1 m s i=(s.1.set (Qbg a.1 m i).toNat (y+1),s.2++[Qbg a.1 m i]):=by
     simp only[bfs1];rw[if_pos ⟨by rw[hx];exact hx0,hrm⟩,Int.toNat_natCast,hy];rfl
    have hyb:=hs.rng y (List.mem_of_getElem? hy);simp only[subP,hstep,e1];simp (config:={maxSteps:=10000000}) (disch:=omega) only[ZA,ZT,simprocAttr,Asm.d,rch,stepsC.ae,stepsC.fv,roomC.q,roomC.ar,roomC.fv,Qah,Qag,Qac,Qaf,Qai,D.sc,D.scs,scL,decD,Option.some_beq_some,Option.some_beq_none,hc];rw[Qak (x:=y+1) (by omega) (by omega)];refine⟨by rw[Qak (by omega) (by omega)];omega,?_,?_⟩
    ·simp[intC]
    ·simp[intC,List.map_set]
   ·have e1:bfs1 a.1 m s i=s:=by
     simp only[bfs1];rw[if_neg (fun h=>hrm h.2)]
    simp only[subP,hstep,e1];simp (config:={maxSteps:=10000000}) (disch:=omega) only[ZA,ZT,simprocAttr,Asm.d,rch,stepsC.ae,stepsC.fv,roomC.q,roomC.ar,roomC.fv,Qah,Qag,Qac,Qaf,Qai,D.sc,D.scs,scL,decD,Option.some_beq_some,Option.some_beq_none,hc];rw[Qak (by omega) (by omega)];simp
   ·have e1:bfs1 a.1 m s i=s:=by
     simp only[bfs1];rw[if_neg (fun h=>hx0 (by have:=h.1;rw[hx] at this;exact this))]
    simp only[subP,hstep,e1];simp (config:={maxSteps:=10000000}) (disch:=omega) only[ZA,ZT,simprocAttr,Asm.d,rch,stepsC.ae,stepsC.fv,roomC.q,roomC.ar,roomC.fv,Qah,Qag,Qac,Qaf,Qai,D.sc,D.scs,scL,decD,Option.some_beq_some,Option.some_beq_none,hc];rw[Qak (by omega) (by omega)];simp
  ·have hjl:j=r.length:=by omega
   subst hjl;rw[List.take_length] at hsd;refine⟨⟨k+1,by
    have:=Qwn a.1 m r (Qbu a.1 a.2 k)
    rw[hrow];omega⟩,[(5,some 6)],by simp only;omega,?_⟩
   simp only[subP,hrow,←hsd];simp (config:={maxSteps:=10000000}) (disch:=omega) only[ZA,ZT,simprocAttr,Asm.d,rch,stepsC.ae,stepsC.fv,roomC.q,roomC.ar,roomC.fv,Qah,Qag,Qac,Qaf,Qai,D.sc,D.scs,scL,decD,Option.some_beq_some,Option.some_beq_none,hc];rw[Qak (by omega) (by omega)];simp
 ·rw[Qcb,hc,Int.toNat_natCast]
  have:=bfs_end a.1 a.2 (c - k) k (by omega)
  rw[show k+(c - k)=c by omega] at this;rw[this]
def Qwo(l:List Int):Nat→List Int
 |0=>[]
 |k+1=>Qwo l k++(if 0≤l[k]?.getD (-1) then [(k:Int)] else [])
theorem Qu8(l:List Int): ∀k,(Qwo l k).length≤k
 |0=>Nat.le_refl _
 |k+1=>by
  have:=Qu8 l k
  simp only[Qwo,List.length_append]
  split<;>simp<;>omega
def Qw9(n:Net)(q:Int):List Int:=Qwo (Qcb n q) n.Cnt.toNat
theorem Qgs{n:Net}(hn:Qcf n){q:Int}(h0:0≤q)(h1:q<n.Cnt):(Qcb n q).length=n.Cnt.toNat:=(Qg5 hn h0 h1 _).len
def sideC.ar:List PK→Option (Net×Int)
 |[.ptr x0,.val (.int .i64 x1)]=>(Net.d (x0.take 4)).bind fun y0=>some (y0,x1)
 |_=>none
def sideC.ae(a:Net×Int):List PK:=[.ptr (Net.c a.1),.val (.int .i64 a.2)]
theorem sideC.le: ∀ps a,sideC.ar ps=some a→LeKL ps (sideC.ae a):=by
 intro ps a h;unfold sideC.ar at h;split at h
 ·simp only[Option.bind_eq_some_iff,Option.some.injEq] at h;obtain⟨y0,h0,rfl⟩:=h;exact⟨LeP.trans_take (Net.d_le _ _ h0),LeK.refl _,trivial⟩
 ·cases h
def sideC.fv(a:Net×Int):List Int:=(Qw9) (a.1) (a.2)
def sideC.row:Row:=Qfi sideC.ar (fun a=>Qcf a.1∧0≤a.2∧a.2<a.1.Cnt) (fun a=>(fun b=>D.sl false 1 (b.map intC)) (sideC.fv a))
def sideC.q(a:List AV)(h:Nat→Option Ent)(n:Nat)(K:Kont):=show sideC.row a h n K=Qct _ _ _ (rchL h a) K (pkFL h a) from rfl
theorem sideC.ok:Qas Tryz.prog 155 sideC.row:=by
 refine Qbn Qaq (tC stepsC.ok tN) Tryz.func155 rfl (by kernel_rfl) (by kernel_rfl) sideC.le (n:=2) (fun _=>rfl) (by decide) (rc:=(vSl intD)) (re:=(fun b=>D.sl false 1 (b.map intC))) (Qe8 Qb3 (fun _=>rfl)) (f:=sideC.fv) ?_;intro a hpre;simp only[Tryz.f155,Option.getD];simp (config:={maxSteps:=10000000}) (disch:=omega) only[ZA,ZT,simprocAttr,Asm.d,rch,sideC.ae,sideC.fv,stepsC.q,stepsC.ar,stepsC.fv,Qah,Qag,Qac,Qaf,Qai,D.sc,D.scs,scL,decD];refine⟨hpre,?_⟩;obtain⟨hn,hq0,hq1⟩:=hpre;have hc1:=hn.c1;obtain⟨c,hc⟩: ∃c:Nat,a.1.Cnt=c:=⟨a.1.Cnt.toNat,by omega⟩;have hsl:=Qgs hn hq0 hq1;rw[hc,Int.toNat_natCast] at hsl;simp only[Qw9,hc,Int.toNat_natCast];obtain⟨l,hl⟩: ∃l,l=Qcb a.1 a.2:=⟨_,rfl⟩;simp only[←hl] at hsl⊢;refine Qay.ren ⟨{k:Nat//k≤c},fun k=>⟨[(7,.im (.int .i64 k.1)),(6,.own 3),(5,.im (.sl false 1 (l.map intC))),(0,.ptr 0 0)],[(3,(true,.arr 2 1 ((Qwo l k.1).map intC))),(0,(false,.view (Net.c a.1)))],4⟩,fun k=>c - k.1,fun k=>⟨by simp[Qad.good,belT,belH,Qam,AV.bel,belL],by simp⟩,⟨⟨0,by simp⟩,[(3,some 2)],?_⟩,fun k=> ?_⟩
 ·simp only[subP];simp (config:={maxSteps:=10000000}) (disch:=omega) only[ZA,ZT,simprocAttr,Asm.d,rch,sideC.ae,sideC.fv,stepsC.q,stepsC.ar,stepsC.fv,Qah,Qag,Qac,Qaf,Qai,D.sc,D.scs,scL,decD,Option.some_beq_some,Option.some_beq_none,hc,Qwo,List.map_nil]
  try simp
 obtain⟨k,hk1⟩:=k;have hkl:=Qu8 l k;simp (config:={maxSteps:=10000000}) (disch:=omega) only[ZA,ZT,simprocAttr,Asm.d,rch,sideC.ae,sideC.fv,stepsC.q,stepsC.ar,stepsC.fv,Qah,Qag,Qac,Qaf,Qai,D.sc,D.scs,scL,decD,sub,Qal,hc,hsl,Qag,Qac,Qaf,allD,D.one,Bool.and_true,and_self,true_and];refine⟨fun hk=>⟨hk,fun x hx=>⟨fun h=>⟨by omega,⟨k+1,by omega⟩,[(3,some 5)],by simp only;omega,?_⟩,fun h=>⟨⟨k+1,by omega⟩,[(3,some 3)],by simp only;omega,?_⟩⟩⟩,fun hk=> ?_⟩
 ·simp only[subP];simp (config:={maxSteps:=10000000}) (disch:=omega) only[ZA,ZT,simprocAttr,Asm.d,rch,sideC.ae,sideC.fv,stepsC.q,stepsC.ar,stepsC.fv,Qah,Qag,Qac,Qaf,Qai,D.sc,D.scs,scL,decD,Option.some_beq_some,Option.some_beq_none,hc];refine⟨by rw[Qak (by omega) (by omega)];omega,?_⟩;simp only[Qwo,hx,Option.getD_some];rw[if_pos h];simp[intC]
 ·simp only[subP];simp (config:={maxSteps:=10000000}) (disch:=omega) only[ZA,ZT,simprocAttr,Asm.d,rch,sideC.ae,sideC.fv,stepsC.q,stepsC.ar,stepsC.fv,Qah,Qag,Qac,Qaf,Qai,D.sc,D.scs,scL,decD,Option.some_beq_some,Option.some_beq_none,hc];refine⟨by rw[Qak (by omega) (by omega)];omega,?_⟩;simp only[Qwo,hx,Option.getD_some];rw[if_neg h,List.append_nil]
 ·rw[show k=c by omega]
end Go.Ae
namespace Go.Ae
open Go.Proofs
def Qhp(n:Net)(v i:Int):Net:=⟨n.Cnt,n.Bonds,n.At,match n.Bonds[i.toNat]? with
 |some b=>n.Flow.set i.toNat (if b.A=v then n.Flow[i.toNat]?.getD 0+1 else n.Flow[i.toNat]?.getD 0 - 1)
 |none=>n.Flow⟩
def Qa9(n:Net):List AV:=[.im (.int .i64 n.Cnt),.im (.sl false 3 (n.Bonds.map Bond.c)),.im (.sl false 1 (n.At.map Qcd)),.own 1]
def netH(n:Net):Qan:=[(0,(true,.cells 231 (Qa9 n))),(1,(true,.arr 2 1 (n.Flow.map intC)))]
theorem Qaah(n:Net)(j:Nat):domB (netH n) j=true↔j<2:=by
 simp only[domB,netH,hget];by_cases h0:j=0
 ·subst h0;simp
 ·by_cases h1:j=1
  ·subst h1;simp
  ·have e0:(0==j)=false:=by simp;omega
   have e1:(1==j)=false:=by simp;omega
   simp[e0,e1];omega
def kl1(j:Nat):Bool:=j==1
def pushC.ca(a:Net×Int×Int):List AV:=[.ptr 0 0,.im (.int .i64 a.2.1),.im (.int .i64 a.2.2)]
def pushC.H1(a:Net×Int×Int):Qan:=[(1,(true,.arr 2 1 ((Qhp a.1 a.2.1 a.2.2).Flow.map intC)))]
def pushC.row:Row:=orow pushC.ca (fun a=>netH a.1) 2 (fun a=>Qcf a.1∧0≤a.2.2∧a.2.2<a.1.Bonds.length) kl1 (fun _=> .im (.tup [])) pushC.H1 0
theorem pushC.ok:Qas Tryz.prog 177 pushC.row:=by
 refine Qf1 Qaq tN Tryz.func177 rfl (by kernel_rfl) (by kernel_rfl) (exB:=fun _=>false) (R:=fun _ r=>r= .im (.tup [])) (n:=3) (fun _=>rfl) (by decide)
  (fun a=>by simp[pushC.ca,netH,Qa9,pushC.H1,kl1,belL,AV.bel]) (fun a=>by simp[pushC.ca,netH,Qa9,pushC.H1,kl1,belH,belL,AV.bel]) (fun a=>by simp[pushC.ca,netH,Qa9,pushC.H1,kl1,Qam])
  (fun a=>by simp[Qc2,pushC.ca,netH,Qa9,pushC.H1,kl1,AObj.nms,nmsL,AV.nms,domB,hget]) (fun a p hp=> ?_) (fun a r h=>by subst h;exact LeV.refl _) ?_
 rotate_left
 intro a hpre;simp only[Tryz.f177,Option.getD,pushC.ca,netH,Qa9,pushC.H1,kl1];simp (config:={maxSteps:=10000000}) (disch:=omega) only[ZA,ZT,simprocAttr,Asm.d,rch,Qah,Qag,Qac,Qaf,Qai,List.getD_cons_zero,List.getD_cons_succ,pushC.ca,netH,Qa9,pushC.H1,kl1];obtain⟨hn,h0,h1⟩:=hpre;have hfl:=hn.fl;refine⟨h0,h1,fun b hb=> ?_⟩
 split<;>rename_i h
 ·refine⟨h0,by omega,by omega,fun f hf=>⟨h0,by omega,by omega,fun _ _=> ?_⟩⟩;have hff:=hn.f f (List.mem_of_getElem? hf);rw[Qak (by omega) (by omega)];simp only[Qhp,hb,hf,Option.getD_some,if_pos h,List.map_set];rfl
 ·refine⟨h0,by omega,by omega,fun f hf=>⟨h0,by omega,by omega,fun _ _=> ?_⟩⟩;have hff:=hn.f f (List.mem_of_getElem? hf);rw[Qak (by omega) (by omega)];simp only[Qhp,hb,hf,Option.getD_some,if_neg h,List.map_set];rfl
 simp[pushC.H1] at hp;subst hp;exact .inl ⟨by omega,rfl,rfl⟩
end Go.Ae
namespace Go.Ae
open Go.Proofs
structure bfsP(n:Net)(q:Int)(s:List Int×List Int):Prop where
 zero:s.1[q.toNat]? =some 0
 uniq: ∀(w:Nat),s.1[w]? =some 0→w=q.toNat
 prev: ∀(w:Nat) (x:Int),s.1[w]? =some x→0<x→ ∃(v:Nat) (r:List Int) (i:Int),s.1[v]? =some (x - 1)∧n.At[v]? =some r∧i∈r∧Qbg n v i=w∧0<(Qb9 n w i).1
 qs: ∀v∈s.2,∃y,s.1[v.toNat]? =some y∧0≤y
theorem Qh0(n:Net)(v:Int)(s:List Int×List Int)(i:Int)(u:Nat)(y:Int)(h:s.1[u]? =some y)(h0:0≤y):(bfs1 n v s i).1[u]? =some y:=by
 simp only[bfs1];split
 ·rename_i hc;have hne:(Qbg n v i).toNat≠u:=by
   intro he;rw[he,h] at hc
   have:=hc.1
   simp at this;omega
  simp only;rw[List.getElem?_set_ne hne];exact h
 ·exact h
theorem Qor(n:Net)(v:Int)(u:Nat)(y:Int)(h0:0≤y): ∀(l:List Int) (s:List Int×List Int),s.1[u]? =some y→(l.foldl (bfs1 n v) s).1[u]? =some y
 |[],_,h=>h
 |i::l,s,h=>Qor n v u y h0 l _ (Qh0 n v s i u y h h0)
theorem bfs1_P{n:Net}(hn:Qcf n){q:Int}{v:Nat}{r:List Int}(hr:n.At[v]? =some r){i:Int}(hi:i∈r){s:List Int×List Int}(hs:Qkd n s)(hp:bfsP n q s){y:Int}(hv:s.1[v]? =some y)(hy:0≤y):bfsP n q (bfs1 n v s i):=by
 obtain⟨_,_,o1,o2⟩:=Qhm hn hr hi;have keep:=fun u z h h0=>Qh0 n v s i u z h h0
 have hlt:(Qbg n v i).toNat<s.1.length:=by rw[hs.len];omega
 by_cases hc:s.1[(Qbg n v i).toNat]?.getD 0<0∧0<(Qb9 n (Qbg n v i) i).1
 ·have e1:bfs1 n v s i=(s.1.set (Qbg n v i).toNat (y+1),s.2++[Qbg n v i]):=by
   simp only[bfs1];rw[if_pos hc,Int.toNat_natCast,hv];rfl
  have hget: ∀(w:Nat) (x:Int),(bfs1 n v s i).1[w]? =some x→(w=(Qbg n v i).toNat∧x=y+1)∨s.1[w]? =some x:=by
   intro w x hx;rw[e1] at hx;simp only at hx;by_cases hw:(Qbg n v i).toNat=w
   ·subst hw;rw[List.getElem?_set_self hlt] at hx;exact .inl ⟨rfl,(Option.some.inj hx).symm⟩
   ·rw[List.getElem?_set_ne hw] at hx;exact .inr hx
  refine⟨keep _ _ hp.zero (by omega),fun w hw=> ?_,fun w x hx h0=> ?_,fun u hu=> ?_⟩
  ·rcases hget w 0 hw with ⟨_,h⟩|h
   ·omega
   ·exact hp.uniq w h
  ·rcases hget w x hx with ⟨h1,h2⟩|h
   ·refine⟨v,r,i,keep _ _ (by rw[hv];congr 1;omega) (by omega),hr,hi,by omega,?_⟩
    have:(w:Int)=Qbg n v i:=by omega
    rw[this];exact hc.2
   ·obtain⟨v',r',i',g1,g2,g3,g4,g5⟩:=hp.prev w x h h0;exact⟨v',r',i',keep _ _ g1 (by omega),g2,g3,g4,g5⟩
  ·rw[e1] at hu;rcases List.mem_append.1 hu with hu|hu
   ·obtain⟨z,h1,h2⟩:=hp.qs u hu;exact⟨z,keep _ _ h1 h2,h2⟩
   ·rw[List.mem_singleton] at hu;subst hu;refine⟨y+1,?_,by omega⟩;rw[e1];exact List.getElem?_set_self hlt
 ·have e1:bfs1 n v s i=s:=by simp only[bfs1];rw[if_neg hc]
  rw[e1];exact hp
theorem bfsR_P{n:Net}(hn:Qcf n){q:Int}{v:Nat}{r:List Int}(hr:n.At[v]? =some r){y:Int}(hy:0≤y): ∀(l:List Int) (s:List Int×List Int),(∀i∈l,i∈r)→Qkd n s→bfsP n q s→s.1[v]? =some y→bfsP n q (l.foldl (bfs1 n v) s)
 |[],s,_,_,hp,_=>hp
 |i::l,s,hl,hs,hp,hv=>bfsR_P hn hr hy l _ (fun j hj=>hl j (List.mem_cons_of_mem _ hj)) (Qtm hn hr (hl i (List.mem_cons_self ..)) hs) (bfs1_P hn hr (hl i (List.mem_cons_self ..)) hs hp hv hy) (Qh0 n v s i v y hv hy)
theorem Qabw{n:Net}(hn:Qcf n){q:Int}(h0:0≤q)(h1:q<n.Cnt): ∀k,bfsP n q (Qbu n q k)
 |0=>by
  have hq:q.toNat<n.Cnt.toNat:=by omega
  have hlen:q.toNat<(List.replicate n.Cnt.toNat (-1:Int)).length:=by rw[List.length_replicate];exact hq
  have hget: ∀(w:Nat) (x:Int),((List.replicate n.Cnt.toNat (-1:Int)).set q.toNat 0)[w]? =some x→(w=q.toNat∧x=0)∨x= -1:=by
   intro w x hx;by_cases hw:q.toNat=w
   ·subst hw;rw[List.getElem?_set_self hlen] at hx;exact .inl ⟨rfl,(Option.some.inj hx).symm⟩
   ·rw[List.getElem?_set_ne hw] at hx;exact .inr (List.eq_of_mem_replicate (List.mem_of_getElem? hx))
  refine⟨List.getElem?_set_self hlen,fun w hw=> ?_,fun w x hx hpos=> ?_,fun v hv=> ?_⟩
  ·rcases hget w 0 hw with h|h
   ·exact h.1
   ·omega
  ·rcases hget w x hx with h|h<;>omega
  ·simp only[Qbu,List.mem_singleton] at hv;subst hv;exact⟨0,List.getElem?_set_self hlen,Int.le_refl _⟩
 |k+1=>by
  have ih:=Qabw hn h0 h1 k;have hi:=Qg5 hn h0 h1 k;simp only[Qbu];split
  ·exact ih
  ·rename_i v hv;have hvq:=hi.q v (List.mem_of_getElem? hv);obtain⟨m,rfl⟩: ∃m:Nat,v=m:=⟨v.toNat,by omega⟩;have hm:m<n.At.length:=by have:=hn.al;omega
   obtain⟨r,hr⟩: ∃r,n.At[m]? =some r:=⟨_,List.getElem?_eq_getElem hm⟩;obtain⟨y,hy,hy0⟩:=ih.qs _ (List.mem_of_getElem? hv);simp only[Int.toNat_natCast,hr,Option.getD_some];exact bfsR_P hn hr hy0 r _ (fun _ h=>h) hi ih (by simpa using hy)
end Go.Ae
namespace Go.Ae
open Go.Proofs
def Qib(n:Net):Prop:= ∀(i:Nat) b f,n.Bonds[i]? =some b→n.Flow[i]? =some f→ -b.Strength≤f∧f≤b.Strength
def Qes(n:Net)(st:List Int)(v:Int)(acc:Int×Int)(i:Int):Int×Int:=
 if 0<(Qb9 n v i).1∧st[(Qb9 n v i).2.toNat]?.getD 0=st[v.toNat]?.getD 0 - 1∧(acc.1<0∨(Qb9 n v i).2<acc.1) then ((Qb9 n v i).2,i) else acc
def Qf5(n:Net)(st:List Int)(v:Int):Int×Int:=(n.At[v.toNat]?.getD []).foldl (Qes n st v) (-1,0)
def Qbd(n:Net)(st:List Int)(p:Int):Nat→Net×Int
 |0=>(n,p)
 |k+1=>(Qhp (Qbd n st p k).1 (Qbd n st p k).2 (Qf5 (Qbd n st p k).1 st (Qbd n st p k).2).2,(Qf5 (Qbd n st p k).1 st (Qbd n st p k).2).1)
def Qd6(n:Net)(p q:Int):Net×Bool:=
 if (Qcb n q)[p.toNat]?.getD 0<0 then (n,false) else ((Qbd n (Qcb n q) p ((Qcb n q)[p.toNat]?.getD 0).toNat).1,true)
theorem Qt4{n:Net}(hn:Qcf n){v:Nat}{r:List Int}(hr:n.At[v]? =some r){i:Int}(hi:i∈r):0≤(Qb9 n v i).2∧(Qb9 n v i).2<n.Cnt:=by
 obtain⟨h0,b,hb,hv⟩:=hn.at_ v r hr i hi;have hbb:=hn.bs b (List.mem_of_getElem? hb);simp only[Qb9,hb]
 split<;>simp only<;>omega
def goodP(n:Net)(st:List Int)(v:Int)(r:List Int)(w:Int×Int):Prop:=w.2∈r∧0<(Qb9 n v w.2).1∧(Qb9 n v w.2).2=w.1∧st[w.1.toNat]?.getD 0=st[v.toNat]?.getD 0 - 1∧0≤w.1
theorem Qq8{n:Net}(hn:Qcf n)(st:List Int){v:Nat}{r:List Int}(hr:n.At[v]? =some r): ∀(l:List Int) (acc:Int×Int),(∀i∈l,i∈r)→(acc.1<0∨goodP n st v r acc)→(l.foldl (Qes n st v) acc).1<0∨goodP n st v r (l.foldl (Qes n st v) acc)
 |[],acc,_,h=>h
 |i::l,acc,hl,h=>by
  refine Qq8 hn st hr l _ (fun j hj=>hl j (List.mem_cons_of_mem _ hj)) ?_;simp only[Qes];split
  ·rename_i hc;exact .inr ⟨hl i (List.mem_cons_self ..),hc.1,rfl,hc.2.1,(Qt4 hn hr (hl i (List.mem_cons_self ..))).1⟩
  ·exact h
theorem pick1_pos{n:Net}(hn:Qcf n)(st:List Int){v:Nat}{r:List Int}(hr:n.At[v]? =some r){i:Int}(hi:i∈r)(acc:Int×Int)(h:0≤acc.1):0≤(Qes n st v acc i).1:=by
 simp only[Qes];split
 ·exact (Qt4 hn hr hi).1
 ·exact h
theorem Qvo{n:Net}(hn:Qcf n)(st:List Int){v:Nat}{r:List Int}(hr:n.At[v]? =some r): ∀(l:List Int) (acc:Int×Int),(∀i∈l,i∈r)→0≤acc.1→0≤(l.foldl (Qes n st v) acc).1
 |[],_,_,h=>h
 |i::l,acc,hl,h=>Qvo hn st hr l _ (fun j hj=>hl j (List.mem_cons_of_mem _ hj)) (pick1_pos hn st hr (hl i (List.mem_cons_self ..)) acc h)
theorem Qqh{n:Net}(hn:Qcf n)(st:List Int){v:Nat}{r:List Int}(hr:n.At[v]? =some r){i:Int}(h1:0<(Qb9 n v i).1)(h2:st[(Qb9 n v i).2.toNat]?.getD 0=st[(v:Int).toNat]?.getD 0 - 1): ∀(l:List Int) (acc:Int×Int),(∀i∈l,i∈r)→i∈l→0≤(l.foldl (Qes n st v) acc).1
 |[],_,_,h=>by cases h
 |j::l,acc,hl,h=>by
  simp only[List.foldl_cons];have hl':=fun k hk=>hl k (List.mem_cons_of_mem _ hk)
  rcases List.mem_cons.1 h with rfl|h
  ·refine Qvo hn st hr l _ hl' ?_;have hb:=Qt4 hn hr (hl _ (List.mem_cons_self ..));simp only[Qes];split
   ·exact hb.1
   ·rename_i hc;rcases Int.lt_or_le acc.1 0 with h3|h3
    ·exact absurd ⟨h1,h2,.inl h3⟩ hc
    ·exact h3
  ·exact Qqh hn st hr h1 h2 l _ hl' h
theorem pick_good{n:Net}(hn:Qcf n)(st:List Int){v:Nat}{r:List Int}(hr:n.At[v]? =some r){i:Int}(hi:i∈r)(h1:0<(Qb9 n v i).1)(h2:st[(Qb9 n v i).2.toNat]?.getD 0=st[(v:Int).toNat]?.getD 0 - 1):goodP n st v r (Qf5 n st v):=by
 have e:Qf5 n st v=r.foldl (Qes n st v) (-1,0):=by simp only[Qf5,Int.toNat_natCast,hr,Option.getD_some]
 rw[e];have h3:=Qqh hn st hr h1 h2 r (-1,0) (fun _ h=>h) hi;rcases Qq8 hn st hr r (-1,0) (fun _ h=>h) (.inl (by decide)) with h|h
 ·omega
 ·exact h
theorem push_ok{n:Net}(hn:Qcf n)(hc:Qib n){v:Nat}{i:Int}(h0:0≤i)(hr:0<(Qb9 n v i).1):Qcf (Qhp n v i)∧Qib (Qhp n v i):=by
 obtain⟨m,rfl⟩: ∃m:Nat,i=m:=⟨i.toNat,by omega⟩;have hcap:Qib (Qhp n v m):=by
  intro j b f hb hf;simp only[Qhp,Int.toNat_natCast] at hb hf;simp only[Qb9,Int.toNat_natCast] at hr;cases hbm:n.Bonds[m]? with
  |none=>rw[hbm] at hf;exact hc j b f hb hf
  |some b'=>
   rw[hbm] at hf hr;simp only at hf hr;by_cases hj:m=j
   ·subst hj;rw[hb] at hbm;obtain rfl:=Option.some.inj hbm;have hml:m<n.Flow.length:=by
     have:=(List.getElem?_eq_some_iff.1 hf).1
     simpa using this
    rw[List.getElem?_set_self hml] at hf;have hf:=Option.some.inj hf;obtain⟨g,hg⟩: ∃g,n.Flow[m]? =some g:=⟨_,List.getElem?_eq_getElem hml⟩;have hgc:=hc m b g hb hg;rw[hg] at hf hr;simp only[Option.getD_some] at hf hr;split at hf<;>rename_i hA
    ·rw[if_pos hA] at hr;simp only at hr;omega
    ·rw[if_neg hA] at hr;simp only at hr;omega
   ·rw[List.getElem?_set_ne hj] at hf;exact hc j b f hb hf
 refine⟨⟨hn.c0,hn.c1,?_,hn.al,hn.bs,hn.at_,?_,hn.st,hn.all,hn.ne⟩,hcap⟩
 ·have:=hn.fl
  simp only[Qhp];split
  ·simpa using this
  ·exact this
 ·intro x hx;obtain⟨j,hj⟩:=List.mem_iff_getElem?.1 hx;have hjl:=(List.getElem?_eq_some_iff.1 hj).1;have hfl:(Qhp n v m).Flow.length=n.Bonds.length:=by
   rw[←hn.fl];simp only[Qhp];split
   ·simp
   ·rfl
  obtain⟨b,hb⟩: ∃b,n.Bonds[j]? =some b:=⟨_,List.getElem?_eq_getElem (by omega)⟩;have h1:=hcap j b x hb hj;have h2:=hn.st b (List.mem_of_getElem? hb);omega
theorem Qabc(n:Net)(v i:Int)(j:Nat)(h:i.toNat≠j):(Qhp n v i).Flow[j]? =n.Flow[j]? :=by
 simp only[Qhp];split
 ·exact List.getElem?_set_ne h
 ·rfl
theorem room_same{n n':Net}(hb:n'.Bonds=n.Bonds)(i:Int)(hf:n'.Flow[i.toNat]? =n.Flow[i.toNat]?)(v:Int):Qb9 n' v i=Qb9 n v i:=by
 simp only[Qb9,hb,hf]
structure walkI(n:Net)(st:List Int)(p:Int)(d k:Nat):Prop where
 ok:Qcf (Qbd n st p k).1
 cap:Qib (Qbd n st p k).1
 cnt:(Qbd n st p k).1.Cnt=n.Cnt
 bs:(Qbd n st p k).1.Bonds=n.Bonds
 at_:(Qbd n st p k).1.At=n.At
 v: ∃m:Nat,(Qbd n st p k).2=m∧(m:Int)<n.Cnt∧st[m]? =some ((d:Int) - k)
 fl: ∀(i:Nat) b,n.Bonds[i]? =some b→st[b.A.toNat]?.getD 0≤(d:Int) - k→st[b.B.toNat]?.getD 0≤(d:Int) - k→(Qbd n st p k).1.Flow[i]? =n.Flow[i]?
theorem Qk0{n:Net}(hn:Qcf n){q:Int}{st qu:List Int}(hlen:st.length=n.Cnt.toNat)(hP:bfsP n q (st,qu)){p:Int}{d k:Nat}(hk:k<d)(hI:walkI n st p d k):
 ∃(m:Nat) (r:List Int),(Qbd n st p k).2=m∧n.At[m]? =some r∧goodP (Qbd n st p k).1 st m r (Qf5 (Qbd n st p k).1 st m)∧st[m]? =some ((d:Int) - k)∧(Qf5 (Qbd n st p k).1 st m).1<n.Cnt:=by
 obtain⟨m,hm,hmc,hst⟩:=hI.v;have hml:m<n.At.length:=by have:=hn.al;omega
 obtain⟨r,hr⟩: ∃r,n.At[m]? =some r:=⟨_,List.getElem?_eq_getElem hml⟩;have hr':(Qbd n st p k).1.At[m]? =some r:=by rw[hI.at_];exact hr
 obtain⟨v',r',i,g1,g2,g3,g4,g5⟩:=hP.prev m _ hst (by omega);simp only at g1;obtain⟨hi0,b,hb,hv'⟩:=hn.at_ v' r' g2 i g3;have hbb:=hn.bs b (List.mem_of_getElem? hb);have hother:b.A+b.B - v'=m:=by simpa only[Qbg,hb] using g4
 have hall:=hn.all i.toNat b hb;rw[show ((i.toNat:Nat):Int)=i by omega] at hall;have hir:i∈r:=by
  rcases hv' with h|h
  ·obtain⟨r2,h2,h3⟩:=hall.2;rw[show b.B.toNat=m by omega,hr] at h2;obtain rfl:=Option.some.inj h2;exact h3
  ·obtain⟨r2,h2,h3⟩:=hall.1;rw[show b.A.toNat=m by omega,hr] at h2;obtain rfl:=Option.some.inj h2;exact h3
 have hne:=hn.ne b (List.mem_of_getElem? hb);have hsame:Qb9 (Qbd n st p k).1 m i=Qb9 n m i:=by
  refine room_same hI.bs i (hI.fl i.toNat b hb ?_ ?_) m
  ·rcases hv' with h|h
   ·rw[show b.A.toNat=v' by omega,g1];simp only[Option.getD_some];omega
   ·rw[show b.A.toNat=m by omega,hst];simp only[Option.getD_some];omega
  ·rcases hv' with h|h
   ·rw[show b.B.toNat=m by omega,hst];simp only[Option.getD_some];omega
   ·rw[show b.B.toNat=v' by omega,g1];simp only[Option.getD_some];omega
 have h2:(Qb9 n m i).2=v':=by
  simp only[Qb9,hb]
  split<;>simp only<;>omega
 have hg:=pick_good hI.ok st hr' hir (by rw[hsame];exact g5) (by rw[hsame,h2,Int.toNat_natCast,g1,Int.toNat_natCast,hst];simp only[Option.getD_some]);refine⟨m,r,hm,hr,hg,hst,?_⟩
 have:=(Qt4 hI.ok hr' hg.1).2
 rw[hg.2.2.1,hI.cnt] at this;exact this
theorem Qi4{n:Net}(hn:Qcf n)(hc:Qib n){q:Int}{st qu:List Int}(hlen:st.length=n.Cnt.toNat)(hP:bfsP n q (st,qu)){p:Int}(hp0:0≤p)(hp1:p<n.Cnt){d:Nat}(hd:st[p.toNat]? =some (d:Int)): ∀k,k≤d→walkI n st p d k
 |0,_=>⟨hn,hc,rfl,rfl,rfl,⟨p.toNat,by simp only[Qbd];omega,by omega,by rw[hd];simp⟩,fun i b _ _ _=>rfl⟩
 |k+1,hk=>by
  have ih:=Qi4 hn hc hlen hP hp0 hp1 hd k (by omega);obtain⟨m,r,hm,hr,hg,hst,hwc⟩:=Qk0 hn hlen hP (by omega) ih;obtain⟨h1,h2⟩:=push_ok ih.ok ih.cap (i:=(Qf5 (Qbd n st p k).1 st m).2) (ih.ok.at_ m r (by rw[ih.at_];exact hr) _ hg.1).1 hg.2.1;obtain⟨j0,b,hb,hbm⟩:=hn.at_ m r hr _ hg.1;have hw0:=hg.2.2.2.2;have hwl:=hg.2.2.2.1;rw[Int.toNat_natCast,hst,Option.getD_some] at hwl;obtain⟨z,hz⟩: ∃z,st[(Qf5 (Qbd n st p k).1 st m).1.toNat]? =some z:=⟨_,List.getElem?_eq_getElem (by omega)⟩;rw[hz,Option.getD_some] at hwl;refine⟨?_,?_,?_,?_,?_,⟨(Qf5 (Qbd n st p k).1 st m).1.toNat,?_,by omega,by rw[hz,hwl];congr 1;omega⟩,?_⟩
  ·simp only[Qbd,hm];exact h1
  ·simp only[Qbd,hm];exact h2
  ·simp only[Qbd,hm];exact ih.cnt
  ·simp only[Qbd,hm];exact ih.bs
  ·simp only[Qbd,hm];exact ih.at_
  ·simp only[Qbd,hm];omega
  ·intro i b' hb' hA hB;simp only[Qbd,hm];rw[Qabc]
   ·exact ih.fl i b' hb' (by omega) (by omega)
   ·intro he;rw[he,hb'] at hb;obtain rfl:=Option.some.inj hb;rcases hbm with h|h
    ·rw[h,Int.toNat_natCast,hst] at hA;simp only[Option.getD_some] at hA;omega
    ·rw[h,Int.toNat_natCast,hst] at hB;simp only[Option.getD_some] at hB;omega
end Go.Ae
namespace Go.Ae
open Go.Proofs
def growC.ca(a:Net×Int×Int):List AV:=[.ptr 0 0,.im (.int .i64 a.2.1),.im (.int .i64 a.2.2)]
def growC.H1(a:Net×Int×Int):Qan:=[(1,(true,.arr 2 1 ((Qd6 a.1 a.2.1 a.2.2).1.Flow.map intC)))]
def growC.r0(a:Net×Int×Int):AV:= .im (.bool (Qd6 a.1 a.2.1 a.2.2).2)
def growPre(a:Net×Int×Int):Prop:=Qcf a.1∧Qib a.1∧0≤a.2.1∧a.2.1<a.1.Cnt∧0≤a.2.2∧a.2.2<a.1.Cnt
def growC.row:Row:=orow growC.ca (fun a=>netH a.1) 2 growPre kl1 growC.r0 growC.H1 0
theorem growC.ok:Qas Tryz.prog 166 growC.row:=by
 refine Qf1 Qaq (tC stepsC.ok (tC roomC.ok (tC pushC.ok tN))) Tryz.func166 rfl (by kernel_rfl) (by kernel_rfl) (exB:=fun _=>false) (R:=fun a r=>r=growC.r0 a) (n:=3) (fun _=>rfl) (by decide)
  (fun a=>by simp[growC.ca,netH,Qa9,growC.H1,kl1,belL,AV.bel]) (fun a=>by simp[growC.ca,netH,Qa9,growC.H1,kl1,belH,belL,AV.bel]) (fun a=>by simp[growC.ca,netH,Qa9,growC.H1,kl1,Qam])
  (fun a=>by simp[Qc2,growC.ca,netH,Qa9,growC.H1,kl1,AObj.nms,nmsL,AV.nms,domB,hget]) (fun a p hp=> ?_) (fun a r h=>by subst h;exact LeV.refl _) ?_
 rotate_left
 intro a hpre;simp only[Tryz.f166,Option.getD,growC.ca,netH,Qa9,growC.H1,kl1];simp (config:={maxSteps:=10000000}) (disch:=omega) only[ZA,ZT,simprocAttr,Asm.d,rch,stepsC.q,stepsC.ar,stepsC.fv,roomC.q,roomC.ar,roomC.fv,Qah,Qag,Qac,Qaf,Qai,List.getD_cons_zero,List.getD_cons_succ,growC.ca,netH,Qa9,growC.H1,kl1];obtain⟨hn,hcap,hp0,hp1,hq0,hq1⟩:=hpre;refine⟨⟨hn,hq0,hq1⟩,hp0,?_⟩;have hc1:=hn.c1;have hlen:=Qgs hn hq0 hq1;have hP:=Qabw hn hq0 hq1 a.1.Cnt.toNat;have hrng:=(Qg5 hn hq0 hq1 a.1.Cnt.toNat).rng;have hql:=Qkx hn.c0 (Qg5 hn hq0 hq1 a.1.Cnt.toNat);refine⟨by omega,fun x hx=> ?_⟩
 split<;>rename_i hneg
 ·have e:Qd6 a.1 a.2.1 a.2.2=(a.1,false):=by simp only[Qd6];rw[hx];simp only[Option.getD_some];rw[if_pos hneg]
  exact⟨by simp only[growC.r0,e],by rw[e]⟩
 obtain⟨d,rfl⟩: ∃d:Nat,x=d:=⟨x.toNat,by omega⟩;have e:Qd6 a.1 a.2.1 a.2.2=((Qbd a.1 (Qcb a.1 a.2.2) a.2.1 d).1,true):=by simp only[Qd6];rw[hx];simp only[Option.getD_some];rw[if_neg hneg,Int.toNat_natCast]
 simp only[growC.r0,e];have hstd:(Qbu a.1 a.2.2 a.1.Cnt.toNat).1=Qcb a.1 a.2.2:=rfl;have hPst:bfsP a.1 a.2.2 (Qcb a.1 a.2.2,(Qbu a.1 a.2.2 a.1.Cnt.toNat).2):=hP;have hdm:=hrng (d:Int) (List.mem_of_getElem? hx);clear e hP hneg;obtain⟨st,hst⟩: ∃st,st=Qcb a.1 a.2.2:=⟨_,rfl⟩;rw[hstd] at hrng;simp only[←hst] at hlen hPst hx hrng⊢;have hwalk:=fun k hk=>Qi4 hn hcap hlen hPst hp0 hp1 hx k hk
 refine Qay.old ⟨{k:Nat//k≤d},fun k=>⟨[(8,.im (.int .i64 (Qbd a.1 st a.2.1 k.1).2)),(7,.im (.sl false 1 (st.map intC))),(0,.ptr 0 0),(1,.im (.int .i64 a.2.1)),(2,.im (.int .i64 a.2.2))],[(0,(true,.cells 231 (Qa9 a.1))),(1,(true,.arr 2 1 ((Qbd a.1 st a.2.1 k.1).1.Flow.map intC)))],2⟩,fun k=>d - k.1,fun k=>⟨by simp[Qad.good,belT,belH,Qam,AV.bel,belL,Qa9],Nat.le_refl _⟩,⟨⟨0,by simp⟩,by simp (config:={maxSteps:=10000000}) (disch:=omega) only[ZA,ZT,simprocAttr,Asm.d,rch,stepsC.q,stepsC.ar,stepsC.fv,roomC.q,roomC.ar,roomC.fv,Qah,Qag,Qac,Qaf,Qai,List.getD_cons_zero,List.getD_cons_succ,growC.ca,netH,Qa9,growC.H1,kl1,sub,Qbd,Qa9]⟩,fun k=> ?_⟩;obtain⟨k,hk1⟩:=k;have hI:=hwalk k hk1;obtain⟨m,hm,hmc,hsm⟩:=hI.v;simp only[Qa9,hm];simp (config:={maxSteps:=10000000}) (disch:=omega) only[ZA,ZT,simprocAttr,Asm.d,rch,stepsC.q,stepsC.ar,stepsC.fv,roomC.q,roomC.ar,roomC.fv,Qah,Qag,Qac,Qaf,Qai,List.getD_cons_zero,List.getD_cons_succ,growC.ca,netH,Qa9,growC.H1,kl1,sub,Qal];refine⟨fun hne=> ?_,fun he=> ?_⟩
 ·have hkd:k<d:=by
   rcases Nat.lt_or_ge k d with h|h
   ·exact h
   ·have:=hPst.uniq m (by rw[hsm];congr 1;omega)
    omega
  obtain⟨m',r,hm',hr,hg,_,hwc⟩:=Qk0 hn hlen hPst hkd hI;rw[hm] at hm';have hmm:m'=m:=by omega
  subst hmm;have hstep:Qbd a.1 st a.2.1 (k+1)=(Qhp (Qbd a.1 st a.2.1 k).1 m' (Qf5 (Qbd a.1 st a.2.1 k).1 st m').2,(Qf5 (Qbd a.1 st a.2.1 k).1 st m').1):=by simp only[Qbd,hm]
  have hpk:Qf5 (Qbd a.1 st a.2.1 k).1 st m'=r.foldl (Qes (Qbd a.1 st a.2.1 k).1 st m') (-1,0):=by simp only[Qf5,Int.toNat_natCast,hI.at_,hr,Option.getD_some]
  have hok:=hI.ok;have hcnt:=hI.cnt;have hbs:=hI.bs;have hat:=hI.at_;obtain⟨N,hN⟩: ∃N,N=(Qbd a.1 st a.2.1 k).1:=⟨_,rfl⟩;simp only[←hN] at hstep hpk hok hcnt hbs hat hg hwc⊢;have hrN:N.At[m']? =some r:=by rw[hat];exact hr
  have hnet:(⟨a.1.Cnt,a.1.Bonds,a.1.At,N.Flow⟩:Net)=N:=by rw[←hcnt,←hbs,←hat]
  have hml:m'<a.1.At.length:=(List.getElem?_eq_some_iff.1 hr).1;refine Qay.old ⟨{j:Nat//j≤r.length},fun j=>⟨[(11,.im (.int .i64 j.1)),(10,.im (.int .i64 ((r.take j.1).foldl (Qes N st m') (-1,0)).2)),(9,.im (.int .i64 ((r.take j.1).foldl (Qes N st m') (-1,0)).1)),(8,.im (.int .i64 m')),(7,.im (.sl false 1 (st.map intC))),(0,.ptr 0 0),(1,.im (.int .i64 a.2.1)),(2,.im (.int .i64 a.2.2))],[(0,(true,.cells 231 (Qa9 a.1))),(1,(true,.arr 2 1 (N.Flow.map intC)))],2⟩,fun j=>r.length - j.1,fun j=>⟨by simp[Qad.good,belT,belH,Qam,AV.bel,belL,Qa9],Nat.le_refl _⟩,⟨⟨0,by simp⟩,by simp (config:={maxSteps:=10000000}) (disch:=omega) only[ZA,ZT,simprocAttr,Asm.d,rch,stepsC.q,stepsC.ar,stepsC.fv,roomC.q,roomC.ar,roomC.fv,Qah,Qag,Qac,Qaf,Qai,List.getD_cons_zero,List.getD_cons_succ,growC.ca,netH,Qa9,growC.H1,kl1,sub,Qa9,List.take_zero,List.foldl_nil]⟩,fun j=> ?_⟩;obtain⟨j,hj1⟩:=j;obtain⟨acc,hacc⟩: ∃acc,acc=(r.take j).foldl (Qes N st m') (-1,0):=⟨_,rfl⟩;simp only[Qa9,←hacc];simp (config:={maxSteps:=10000000}) (disch:=omega) only[ZA,ZT,simprocAttr,Asm.d,rch,stepsC.q,stepsC.ar,stepsC.fv,roomC.q,roomC.ar,roomC.fv,Qah,Qag,Qac,Qaf,Qai,List.getD_cons_zero,List.getD_cons_succ,growC.ca,netH,Qa9,growC.H1,kl1,sub,Qal,hnet];refine⟨hml,fun r1 hr1=> ?_⟩;rw[hr] at hr1;obtain rfl:=Option.some.inj hr1;intro hrl;refine⟨fun hj=>⟨hml,fun r1 hr1=> ?_⟩,fun hj=> ?_⟩
  ·rw[hr] at hr1;obtain rfl:=Option.some.inj hr1;refine⟨hj,fun i hi0=> ?_⟩;have him:=List.mem_of_getElem? hi0;obtain⟨i0,i1,_,_⟩:=Qhm hok hrN him;have hrb:=Qt4 hok hrN him;have hstepj:(r.take (j+1)).foldl (Qes N st m') (-1,0)=Qes N st m' acc i:=by
    rw[List.take_add_one,hi0,List.foldl_append,←hacc];rfl
   have hyes:0<(Qb9 N m' i).1→st[(Qb9 N m' i).2.toNat]?.getD 0=st[(m':Int).toNat]?.getD 0 - 1→(acc.1<0∨(Qb9 N m' i).2<acc.1)→Qes N st m' acc i=((Qb9 N m' i).2,i):=by
    intro h1 h2 h3;simp only[Qes];rw[if_pos ⟨h1,h2,h3⟩]
   have hw1:IntKind.wrap .i64 ((j:Int)+1)=((j+1:Nat):Int):=by rw[Qak (by omega) (by omega)];omega
   refine⟨⟨hok,i0,i1⟩,fun h1=>⟨hrb.1,by omega,fun x' hx'=>⟨by omega,fun y' hy'=> ?_⟩⟩,fun h1=>⟨⟨j+1,by omega⟩,by simp only;omega,hw1,?_,?_⟩⟩
   ·have hyb:=hrng y' (List.mem_of_getElem? hy');rw[Qak (x:=y' - 1) (by omega) (by omega)];have hgx:st[(Qb9 N m' i).2.toNat]?.getD 0=x':=by rw[hx'];rfl
    have hgy:st[(m':Int).toNat]?.getD 0=y':=by rw[Int.toNat_natCast,hy'];rfl
    refine⟨fun h2=>⟨fun h3=>⟨fun h4=>⟨hml,fun r1 hr1=> ?_⟩,fun h4=>⟨⟨j+1,by omega⟩,by simp only;omega,hw1,?_,?_⟩⟩,fun h3=>⟨hml,fun r1 hr1=> ?_⟩⟩,fun h2=>⟨⟨j+1,by omega⟩,by simp only;omega,hw1,?_,?_⟩⟩
    ·rw[hr] at hr1;obtain rfl:=Option.some.inj hr1;refine⟨hj,fun i' hi'=>⟨⟨j+1,by omega⟩,by simp only;omega,hw1,?_,?_⟩⟩
     ·rw[hi0] at hi';obtain rfl:=Option.some.inj hi';simp only[hstepj];rw[hyes h1 (by rw[hgx,hgy,h2]) (.inr h4)]
     ·simp only[hstepj];rw[hyes h1 (by rw[hgx,hgy,h2]) (.inr h4)]
    ·simp only[hstepj,Qes];rw[if_neg (fun h=>by rcases h.2.2 with h|h<;>omega)]
    ·simp only[hstepj,Qes];rw[if_neg (fun h=>by rcases h.2.2 with h|h<;>omega)]
    ·rw[hr] at hr1;obtain rfl:=Option.some.inj hr1;refine⟨hj,fun i' hi'=>⟨⟨j+1,by omega⟩,by simp only;omega,hw1,?_,?_⟩⟩
     ·rw[hi0] at hi';obtain rfl:=Option.some.inj hi';simp only[hstepj];rw[hyes h1 (by rw[hgx,hgy,h2]) (.inl (Classical.not_not.1 h3))]
     ·simp only[hstepj];rw[hyes h1 (by rw[hgx,hgy,h2]) (.inl (Classical.not_not.1 h3))]
    ·simp only[hstepj,Qes];rw[if_neg (fun h=>h2 (by rw[←hgx,←hgy];exact h.2.1))]
    ·simp only[hstepj,Qes];rw[if_neg (fun h=>h2 (by rw[←hgx,←hgy];exact h.2.1))]
   ·simp only[hstepj,Qes];rw[if_neg (fun h=>h1 h.1)]
   ·simp only[hstepj,Qes];rw[if_neg (fun h=>h1 h.1)]
  ·have hjl:j=r.length:=by omega
   subst hjl;rw[List.take_length] at hacc;rw[←hpk] at hacc;subst hacc;have hin:=hok.at_ m' r hrN _ hg.1;obtain⟨i0,i1,_,_⟩:=Qhm hok hrN hg.1;refine orow.os (N,(m':Int),(Qf5 N st m').2) [0,1] ⟨hok,i0,i1⟩ (fun j=>Qaah _ j) rfl rfl ?_ ?_
   ·simp (config:={maxSteps:=10000000}) (disch:=omega) only[ZA,ZT,simprocAttr,Asm.d,rch,stepsC.q,stepsC.ar,stepsC.fv,roomC.q,roomC.ar,roomC.fv,Qah,Qag,Qac,Qaf,Qai,List.getD_cons_zero,List.getD_cons_succ,growC.ca,netH,Qa9,growC.H1,kl1,pushC.ca,netH,Qa9,if_true];rw[hcnt,hbs,hat];exact⟨rfl,rfl,rfl⟩
   ·simp (config:={maxSteps:=10000000}) (disch:=omega) only[ZA,ZT,simprocAttr,Asm.d,rch,stepsC.q,stepsC.ar,stepsC.fv,roomC.q,roomC.ar,roomC.fv,Qah,Qag,Qac,Qaf,Qai,List.getD_cons_zero,List.getD_cons_succ,growC.ca,netH,Qa9,growC.H1,kl1,pushC.H1,kl1,sub];exact⟨⟨k+1,by omega⟩,by simp only;omega,by simp only[hstep],by simp only[hstep]⟩
 ·have:k=d:=by
   have h1:=hPst.zero;rw[show a.2.2.toNat=m by omega,hsm] at h1
   have:=Option.some.inj h1
   omega
  rw[this]
 simp[growC.H1] at hp;subst hp;exact .inl ⟨by omega,rfl,rfl⟩
end Go.Ae
namespace Go.Ae
open Go.Proofs
theorem Qao(a b:Nat)(h:a≠b):(a==b)=false:=by simpa using h
theorem Qnl{α β γ:Type}{f:α→Option β}{g:γ→α}{k:γ→β}: ∀(l:List γ),(∀i∈l,f (g i)=some (k i))→mapO f (l.map g)=some (l.map k)
 |[],_=>rfl
 |x::r,h=>by simp only[List.map_cons,mapO,h x (List.mem_cons_self ..),Qnl r (fun i hi=>h i (List.mem_cons_of_mem _ hi))]
theorem fam_cvt{H:Nat→Option Ent}{kx:Nat→Option Nat}{m b n T:Nat}(f:Nat→List Int)(hx: ∀i,i<n→kx (b+i)=none)(hH: ∀i,i<n→H (b+i)=some (true,.arr T 1 ((f i).map intC))):
 mapO (mapO fun x=>asDO (cvt H kx (m+1) x)) ((List.range n).map fun i=>[AV.own (b+i)])=some (((List.range n).map f).map Qcd):=by
 rw[List.map_map];refine Qnl _ (fun i hi=> ?_);have hi:=List.mem_range.1 hi;simp only[mapO,cvt,hx i hi,hH i hi,Qho,kp,Option.map_some,asDO,AV.asD,Function.comp,Qcd]
theorem Qce(H:Qan)(a b:Nat)(h:a≠b):hget (hdel H [a]) b=hget H b:=by
 rw[Qeg,if_neg];simp;omega
theorem Qjf{α:Type}{a b:Nat}{x y:α}(h:a≠b):(if a=b then x else y)=y:=if_neg h
theorem Qba: ∀(x:Qan),hdel x []=x
 |[]=>rfl
 |(m,e)::r=>by simp[hdel,Qba r]
theorem Qet(L:List Nat)(b n:Nat)(h:L.Nodup)(hb: ∀x∈L,x<b):(L++(List.range n).map (b+ ·)).Nodup:=by
 rw[List.nodup_append];refine⟨h,?_,?_⟩
 ·rw[List.nodup_iff_pairwise_ne,List.pairwise_map];exact List.Pairwise.imp (fun h h2=>h (by omega)) (List.nodup_iff_pairwise_ne.1 List.nodup_range)
 ·intro x hx y hy he;obtain⟨i,_,rfl⟩:=List.mem_map.1 hy
  have:=hb x hx
  omega
def atI(bs:List Bond)(i:Nat):Nat→List Int
 |0=>[]
 |k+1=>atI bs i k++(match bs[k]? with
  |some b=>(if b.A=i then [(k:Int)] else [])++(if b.B=i then [(k:Int)] else [])
  |none=>[])
theorem Qwx(bs:List Bond)(i:Nat): ∀k,(atI bs i k).length≤2*k
 |0=>Nat.le_refl _
 |k+1=>by
  have:=Qwx bs i k
  simp only[atI,List.length_append];split
  ·simp only[List.length_append]
   split<;>split<;>simp<;>omega
  ·simp;omega
def newN(n:Int)(bs:List Bond):Net:=⟨n,bs,(List.range n.toNat).map (fun i=>atI bs i bs.length),List.replicate bs.length 0⟩
def newNC.ca(a:Int×List Bond):List AV:=[.im (.int .i64 a.1),.im (.sl false 3 (a.2.map Bond.c))]
def newNC.H1(a:Int×List Bond):Qan:=[(0,(true,.cells 231 [.im (.int .i64 a.1),.im (.sl false 3 (a.2.map Bond.c)),.im (.sl false 1 ((newN a.1 a.2).At.map Qcd)),.own 2])),(2,(true,.arr 2 1 ((newN a.1 a.2).Flow.map intC)))]
def Qhu(a:Int×List Bond):Prop:=0≤a.1∧a.1≤1000∧a.2.length≤1000000∧Qdm a.1 a.2∧ ∀b∈a.2,b.A≠b.B
def exN(j:Nat):Bool:=j==0||j==2
def newNC.row:Row:=orow newNC.ca (fun _=>[]) 0 Qhu (fun _=>false) (fun _=> .ptr 0 0) newNC.H1 3010
theorem newNC.ok:Qas Tryz.prog 165 newNC.row:=by
 refine Qf1 Qaq tN Tryz.func165 rfl (by kernel_rfl) (by kernel_rfl) (exB:=exN) (R:=fun _ r=>r= .ptr 0 0) (n:=2) (fun _=>rfl) (by decide)
  (fun a=>by simp[newNC.ca,newNC.H1,exN,belL,AV.bel]) (fun a=>by simp[newNC.ca,newNC.H1,exN,belH,belL,AV.bel]) (fun a=>by simp[newNC.ca,newNC.H1,exN,Qam])
  (fun a=>by simp[Qc2,newNC.ca,newNC.H1,exN,AObj.nms,nmsL,AV.nms,domB,hget]) (fun a p hp=> ?_) (fun a r h=>by subst h;exact LeV.refl _) ?_
 rotate_left
 intro a hpre;simp only[Tryz.f165,Option.getD,newNC.ca,newNC.H1,exN];simp (config:={maxSteps:=10000000}) (disch:=omega) only[ZA,ZT,simprocAttr,Asm.d,rch,Qah,Qag,Qac,Qaf,Qai,List.getD_cons_zero,List.getD_cons_succ,newNC.ca,newNC.H1,exN];obtain⟨hn0,hn1,hl,hbs,hne⟩:=hpre;refine⟨hn0,Int.le_refl _,by omega,fun _=>⟨by omega,?_⟩⟩;obtain⟨n,hn⟩: ∃n:Nat,a.1=n:=⟨a.1.toNat,by omega⟩;rw[hn] at hn0 hn1 hbs;simp only[hn,Int.toNat_natCast];refine Qay.ren ⟨{k:Nat//k≤a.2.length},fun k=>⟨[(6,.im (.int .i64 k.1)),(5,.ptr 0 0),(1,.im (.sl false 3 (a.2.map Bond.c)))],(0,(true,.cells 231 [.im (.int .i64 n),.im (.sl false 3 (a.2.map Bond.c)),.own 1,.own 2]))::(2,(true,.arr 2 1 ((List.replicate a.2.length (0:Int)).map intC)))::(1,(true,.arrA 31 1 ((List.range n).map fun i=>[AV.own (1000+i)])))::famH 1000 n (fun i=>(true,.arr 2 1 ((atI a.2 i k.1).map intC))),3000⟩,fun k=>a.2.length - k.1,fun k=>⟨?_,by simp⟩,⟨⟨0,by simp⟩,famP 1000 n,?_⟩,fun k=> ?_⟩
 ·simp only[Qad.good,belT,belH,Qam,AV.bel,belL,Bool.and_true,Bool.true_and];rw[Qi1 _ _ _ (fun i=>by simp[belH]),Qd8 _ _ _ _ (by omega)];simp[belL,AV.bel];omega
 ·refine⟨geP_famP _ _ _ (by simp),?_,?_,?_⟩
  ·rw[Qi7];simp only[Qg1,Qe0];refine Ql1 _ _ (Qet [0,2,1] 1000 n (by simp) (by simp)) ?_;intro x hx y hy m h1 h2;rw[Qlz] at h1 h2;split at h1
   ·cases h1
   ·split at h2
    ·cases h2
    ·exact (Option.some.inj h1).trans (Option.some.inj h2).symm
  ·simp only[Qpt,tget];simp (config:={maxSteps:=10000000}) (disch:=omega) only[ZA,ZT,simprocAttr,Asm.d,rch,Qah,Qag,Qac,Qaf,Qai,List.getD_cons_zero,List.getD_cons_succ,newNC.ca,newNC.H1,exN,Qlz,Qga];simp[Qga]
  ·have p0:pm (famP 1000 n) 0=some 0:=by rw[Qlz,if_neg (by omega)]
   have p1:pm (famP 1000 n) 1=some 1:=by rw[Qlz,if_neg (by omega)]
   have p2:pm (famP 1000 n) 2=some 2:=by rw[Qlz,if_neg (by omega)]
   have pf: ∀i,i<n→pm (famP 1000 n) (1000+i)=none:=by intro i hi;rw[Qlz,if_pos (by omega)]
   simp only[Qgb,Qgn];refine⟨?_,?_,?_,fun i hi=> ?_⟩
   ·simp (config:={maxSteps:=10000000}) (disch:=omega) only[ZA,ZT,simprocAttr,Asm.d,rch,Qah,Qag,Qac,Qaf,Qai,List.getD_cons_zero,List.getD_cons_succ,newNC.ca,newNC.H1,exN,p0,p1,p2]
   ·simp (config:={maxSteps:=10000000}) (disch:=omega) only[ZA,ZT,simprocAttr,Asm.d,rch,Qah,Qag,Qac,Qaf,Qai,List.getD_cons_zero,List.getD_cons_succ,newNC.ca,newNC.H1,exN,p0,p1,p2];simp[intC]
   ·simp (config:={maxSteps:=10000000}) (disch:=omega) only[ZA,ZT,simprocAttr,Asm.d,rch,Qah,Qag,Qac,Qaf,Qai,List.getD_cons_zero,List.getD_cons_succ,newNC.ca,newNC.H1,exN,p0,p1,p2];rw[Ql2];refine⟨by simp,fun i x y hx hy=> ?_⟩;simp only[List.getElem?_map,Option.map_eq_some_iff] at hx hy;obtain⟨i',hi',rfl⟩:=hx;obtain⟨w,hw,rfl⟩:=hy;have hwe:=List.eq_of_mem_replicate (List.mem_of_getElem? hw);subst hwe
    have:=List.mem_range.1 (List.mem_of_getElem? hi')
    simp (config:={maxSteps:=10000000}) (disch:=omega) only[ZA,ZT,simprocAttr,Asm.d,rch,Qah,Qag,Qac,Qaf,Qai,List.getD_cons_zero,List.getD_cons_succ,newNC.ca,newNC.H1,exN,pf i' this]
   ·rw[pf i hi];simp (config:={maxSteps:=10000000}) (disch:=omega) only[ZA,ZT,simprocAttr,Asm.d,rch,Qah,Qag,Qac,Qaf,Qai,List.getD_cons_zero,List.getD_cons_succ,newNC.ca,newNC.H1,exN,atI,List.map_nil]
 obtain⟨k,hk1⟩:=k;simp (config:={maxSteps:=10000000}) (disch:=omega) only[ZA,ZT,simprocAttr,Asm.d,rch,Qah,Qag,Qac,Qaf,Qai,List.getD_cons_zero,List.getD_cons_succ,newNC.ca,newNC.H1,exN,sub,Qal,beq_band,beq_band2,Qba];intro _;refine⟨fun hk=>⟨hk,fun b hb=>⟨hk,fun b' hb'=> ?_⟩⟩,fun hk=> ?_⟩
 ·rw[hb] at hb';obtain rfl:=Option.some.inj hb';obtain⟨b1,b2,b3,b4⟩:=hbs b (List.mem_of_getElem? hb);have hbne:=hne b (List.mem_of_getElem? hb);refine⟨b1,by rw[List.length_range];exact b2,by rw[List.length_range];omega,fun x hx=> ?_⟩;obtain⟨hxl,hxe⟩:=List.getElem?_eq_some_iff.1 hx;rw[List.length_range] at hxl;rw[List.getElem_range] at hxe;have hxn:x<n:=by omega
  refine⟨by omega,?_,?_⟩
  ·simp;omega
  have hx3:(1000+x<3000∨3000≤1000+x)=True:=eq_true (by omega);have hx0:(1000+x==0)=false:=Qao _ _ (by omega);have hx1:(1000+x==1)=false:=Qao _ _ (by omega);have hx2:(1000+x==2)=false:=Qao _ _ (by omega);have hlx:=Qwx a.2 x k;simp (config:={maxSteps:=10000000}) (disch:=omega) only[ZA,ZT,simprocAttr,Asm.d,rch,Qah,Qag,Qac,Qaf,Qai,List.getD_cons_zero,List.getD_cons_succ,newNC.ca,newNC.H1,exN,sub,Qal,Qjf,Qcy,Qba,hx3,Qao];refine⟨by omega,by omega,?_⟩;refine⟨b1,by rw[List.length_range];exact b2,by rw[List.length_range];exact hxl,fun _ _=> ?_⟩;have hall1: ∀N,3001<N→((List.map (fun i=>[AV.own (1000+i)]) (List.range n)).set b.A.toNat [AV.own 3001]).all (belL N)=true:=by
   intro N hN;rw[List.all_eq_true];intro r hr;rcases List.mem_or_eq_of_mem_set hr with hr|hr
   ·obtain⟨i,hi,rfl⟩:=List.mem_map.1 hr
    have:=List.mem_range.1 hi
    simp[belL,AV.bel];omega
   ·subst hr;simp[belL,AV.bel];omega
  refine⟨hall1 _ (by omega),⟨by simp,by simp,by simp⟩,hk,fun b' hb'=>⟨hk,fun b'' hb''=> ?_⟩⟩;rw[hb] at hb' hb'';obtain rfl:=Option.some.inj hb';obtain rfl:=Option.some.inj hb'';obtain⟨y,hy⟩: ∃y:Nat,b.B=y:=⟨b.B.toNat,by omega⟩;have hyx:y≠x:=by omega
  have hyn:y<n:=by omega
  have hyt:b.B.toNat=y:=by omega
  refine⟨b3,by simp;omega,by simp;omega,fun row hrow=> ?_⟩;have hrow2:row=[AV.own (1000+y)]:=by
   rw[hyt,List.getElem?_set_ne (by omega),List.getElem?_map,List.getElem?_range hyn] at hrow;exact (Option.some.inj hrow).symm
  subst hrow2;have hy3:(1000+y<3002∨3002≤1000+y)=True:=eq_true (by omega);have hly:=Qwx a.2 y k;simp (config:={maxSteps:=10000000}) (disch:=omega) only[ZA,ZT,simprocAttr,Asm.d,rch,Qah,Qag,Qac,Qaf,Qai,List.getD_cons_zero,List.getD_cons_succ,newNC.ca,newNC.H1,exN,sub,Qal,Qjf,Qcy,Qba,hx3,hy3,Qao,Qce];refine⟨by omega,by omega,by omega,b3,by simp;omega,by simp;omega,fun row hrow'=> ?_⟩;rw[hrow] at hrow';obtain rfl:=Option.some.inj hrow';simp (config:={maxSteps:=10000000}) (disch:=omega) only[ZA,ZT,simprocAttr,Asm.d,rch,Qah,Qag,Qac,Qaf,Qai,List.getD_cons_zero,List.getD_cons_succ,newNC.ca,newNC.H1,exN,sub,Qal,Qjf,Qcy,Qba,hx3,hy3,Qao,Qce];refine⟨?_,⟨by simp,by simp,by simp⟩,⟨k+1,by omega⟩,[(1000+x,some 3001),(1000+y,some 3003)],by simp only;omega,?_⟩
  ·rw[List.all_eq_true];intro r hr;rcases List.mem_or_eq_of_mem_set hr with hr|hr
   ·exact List.all_eq_true.1 (hall1 3004 (by omega)) r hr
   ·subst hr;simp[belL,AV.bel]
  obtain⟨g,hg⟩: ∃g,g=pm [(1000+x,some 3001),(1000+y,some 3003)]:=⟨_,rfl⟩;have qx:g (1000+x)=some 3001:=by rw[hg];simp[pm]
  have qy:g (1000+y)=some 3003:=by rw[hg];simp only[pm];rw[if_neg (by omega)];simp
  have qo: ∀u,u≠1000+x→u≠1000+y→g u=some u:=by intro u h1 h2;rw[hg];simp only[pm];rw[if_neg (by omega),if_neg (by omega)]
  have hat: ∀i,i<n→atI a.2 i (k+1)=if i=x∨i=y then atI a.2 i k++[(k:Int)] else atI a.2 i k:=by
   intro i hi;simp only[atI,hb];by_cases h1:i=x
   ·subst h1;rw[if_pos (by omega),if_neg (by omega),if_pos (.inl rfl),List.append_nil]
   ·by_cases h2:i=y
    ·subst h2;rw[if_neg (by omega),if_pos (by omega),if_pos (.inr rfl),List.nil_append]
    ·rw[if_neg (by omega),if_neg (by omega),if_neg (by omega)];simp
  refine⟨⟨by omega,by omega,trivial⟩,?_,?_,?_⟩
  ·rw[Qi7,←hg];simp only[Qg1,Qe0];refine Ql1 _ _ (Qet [0,2,1] 1000 n (by simp) (by simp)) ?_;have hlt: ∀u∈[0,2,1]++(List.range n).map (1000+ ·),u<2000:=by
    intro u hu;rcases List.mem_append.1 hu with hu|hu
    ·simp at hu;omega
    ·obtain⟨i,hi,rfl⟩:=List.mem_map.1 hu
     have:=List.mem_range.1 hi
     show 1000+i<2000;omega
   have hc: ∀u,u<2000→(u=1000+x∧g u=some 3001)∨(u=1000+y∧g u=some 3003)∨g u=some u:=by
    intro u _;by_cases h1:u=1000+x
    ·exact .inl ⟨h1,h1▸qx⟩
    ·by_cases h2:u=1000+y
     ·exact .inr (.inl ⟨h2,h2▸qy⟩)
     ·exact .inr (.inr (qo u h1 h2))
   intro u hu v hv m hm1 hm2;have hu2:=hlt u hu;have hv2:=hlt v hv;rcases hc u hu2 with ⟨e1,e2⟩|⟨e1,e2⟩|e2<;>rcases hc v hv2 with ⟨f1,f2⟩|⟨f1,f2⟩|f2<;>rw[e2] at hm1<;>rw[f2] at hm2<;>simp only[Option.some.injEq] at hm1 hm2<;>omega
  ·have q0:pm [(1000+x,some 3001),(1000+y,some 3003)] 0=some 0:=by rw[←hg];exact qo 0 (by omega) (by omega)
   simp only[Qpt,tget];simp (config:={maxSteps:=10000000}) (disch:=omega) only[ZA,ZT,simprocAttr,Asm.d,rch,Qah,Qag,Qac,Qaf,Qai,List.getD_cons_zero,List.getD_cons_succ,newNC.ca,newNC.H1,exN,q0];rw[Qak (by omega) (by omega)];simp
  ·have q0:pm [(1000+x,some 3001),(1000+y,some 3003)] 0=some 0:=by rw[←hg];exact qo 0 (by omega) (by omega)
   have q1:pm [(1000+x,some 3001),(1000+y,some 3003)] 1=some 1:=by rw[←hg];exact qo 1 (by omega) (by omega)
   have q2:pm [(1000+x,some 3001),(1000+y,some 3003)] 2=some 2:=by rw[←hg];exact qo 2 (by omega) (by omega)
   have px_x:=qx;have px_y:=qy;have px_o:=qo;rw[hg] at px_x px_y px_o;simp only[Qgb,Qgn];refine⟨?_,?_,?_,fun i hi=> ?_⟩
   ·simp (config:={maxSteps:=10000000}) (disch:=omega) only[ZA,ZT,simprocAttr,Asm.d,rch,Qah,Qag,Qac,Qaf,Qai,List.getD_cons_zero,List.getD_cons_succ,newNC.ca,newNC.H1,exN,q0,q1,q2]
   ·simp (config:={maxSteps:=10000000}) (disch:=omega) only[ZA,ZT,simprocAttr,Asm.d,rch,Qah,Qag,Qac,Qaf,Qai,List.getD_cons_zero,List.getD_cons_succ,newNC.ca,newNC.H1,exN,q0,q1,q2]
   ·simp (config:={maxSteps:=10000000}) (disch:=omega) only[ZA,ZT,simprocAttr,Asm.d,rch,Qah,Qag,Qac,Qaf,Qai,List.getD_cons_zero,List.getD_cons_succ,newNC.ca,newNC.H1,exN,q0,q1,q2];rw[Ql2];refine⟨by simp,fun i r1 r2 h1 h2=> ?_⟩;simp only[List.getElem?_map,Option.map_eq_some_iff] at h1;obtain⟨i',hi',rfl⟩:=h1;obtain⟨hil,hie⟩:=List.getElem?_eq_some_iff.1 hi';rw[List.length_range] at hil;rw[List.getElem_range] at hie;subst hie;rw[hyt,show b.A.toNat=x by omega] at h2;by_cases hiy:i=y
    ·subst hiy;rw[List.getElem?_set_self (by simp;omega)] at h2;obtain rfl:=Option.some.inj h2;simp only[mtL,mt,px_y,ownM,and_self]
    ·rw[List.getElem?_set_ne (by omega)] at h2;by_cases hix:i=x
     ·subst hix;rw[List.getElem?_set_self (by simp;omega)] at h2;obtain rfl:=Option.some.inj h2;simp only[mtL,mt,px_x,ownM,and_self]
     ·rw[List.getElem?_set_ne (by omega),List.getElem?_map,List.getElem?_range hil] at h2;obtain rfl:=Option.some.inj h2;simp only[mtL,mt,px_o (1000+i) (by omega) (by omega),ownM,and_self]
   ·show entN _ _ true (.arr 2 1 ((atI a.2 i (k+1)).map intC)) _;rw[hat i hi];by_cases hiy:i=y
    ·subst hiy;rw[px_y,if_pos (.inr rfl)];simp (config:={maxSteps:=10000000}) (disch:=omega) only[ZA,ZT,simprocAttr,Asm.d,rch,Qah,Qag,Qac,Qaf,Qai,List.getD_cons_zero,List.getD_cons_succ,newNC.ca,newNC.H1,exN];simp[intC]
    ·by_cases hix:i=x
     ·subst hix;rw[px_x,if_pos (.inl rfl)];simp (config:={maxSteps:=10000000}) (disch:=omega) only[ZA,ZT,simprocAttr,Asm.d,rch,Qah,Qag,Qac,Qaf,Qai,List.getD_cons_zero,List.getD_cons_succ,newNC.ca,newNC.H1,exN];simp[intC]
     ·rw[px_o (1000+i) (by omega) (by omega),if_neg (by omega)];have e: ∀(H:Qan),hget H (1000+i)=some (true,.arr 2 1 ((atI a.2 i k).map intC))→entM [(1000+x,some 3001),(1000+y,some 3003)] true (.arr 2 1 ((atI a.2 i k).map intC)) (hget H (1000+i)):=by
       intro H hH;rw[hH];exact⟨rfl,by simp only[mtE]⟩
      refine e _ ?_;simp only[hget,Qao _ _ (show 1≠1000+i by omega),Qao _ _ (show 3003≠1000+i by omega),Qao _ _ (show 3002≠1000+i by omega),Qao _ _ (show 3001≠1000+i by omega),Qao _ _ (show 3000≠1000+i by omega),Qao _ _ (show 0≠1000+i by omega),Qao _ _ (show 2≠1000+i by omega),cond_false];rw[Qce _ _ _ (by omega),Qce _ _ _ (by omega),Qce _ _ _ (by omega),Qce _ _ _ (by omega),Qcy _ _ _ _ hi]
 ·have hkl:k=a.2.length:=by omega
  subst hkl;rw[fam_cvt (T:=2) (fun i=>atI a.2 i a.2.length)]
  ·simp[newN]
  ·intro i hi;have e:exN (1000+i)=false:=by simp only[exN,Qao _ _ (show 1000+i≠0 by omega),Qao _ _ (show 1000+i≠2 by omega),Bool.or_false]
   simp[kxB,domB,hget,e]
  ·intro i hi;simp only[hget,Qao _ _ (show 1≠1000+i by omega),Qao _ _ (show 0≠1000+i by omega),Qao _ _ (show 2≠1000+i by omega),cond_false];exact Qcy _ _ _ _ hi
 simp[newNC.H1] at hp;rcases hp with rfl|rfl
 ·exact .inr ⟨by omega,by simp,rfl,rfl⟩
 ·exact .inr ⟨by omega,by simp,rfl,rfl⟩
end Go.Ae
namespace Go.Ae
open Go.Proofs
def ctr(p:Int)(b:Bond)(f:Int):Int:=if b.A=p then f else if b.B=p then -f else 0
def outQ(n:Net)(p:Int):Int:=(List.zipWith (ctr p) n.Bonds n.Flow).sum
theorem zip_set(p:Int): ∀(bs:List Bond) (fs:List Int) (j:Nat) (b:Bond) (f f':Int),bs[j]? =some b→fs[j]? =some f→(List.zipWith (ctr p) bs (fs.set j f')).sum=(List.zipWith (ctr p) bs fs).sum - ctr p b f+ctr p b f'
 |[],_,_,_,_,_,h,_=>by simp at h
 |_::_,[],_,_,_,_,_,h=>by simp at h
 |x::r,y::s,0,b,f,f',h1,h2=>by
  simp only[List.getElem?_cons_zero,Option.some.injEq] at h1 h2;subst h1;subst h2;simp only[List.set_cons_zero,List.zipWith_cons_cons,List.sum_cons];omega
 |x::r,y::s,j+1,b,f,f',h1,h2=>by
  have:=zip_set p r s j b f f' (by simpa using h1) (by simpa using h2)
  simp only[List.set_cons_succ,List.zipWith_cons_cons,List.sum_cons,this];omega
theorem Qzc{n:Net}(hn:Qcf n){v:Nat}{r:List Int}(hr:n.At[v]? =some r){i:Int}(hi:i∈r)(p:Int):outQ (Qhp n v i) p=outQ n p+(if (v:Int)=p then 1 else if (Qb9 n v i).2=p then -1 else 0):=by
 obtain⟨h0,b,hb,hv⟩:=hn.at_ v r hr i hi;have hne:=hn.ne b (List.mem_of_getElem? hb);have hl:=(List.getElem?_eq_some_iff.1 hb).1;obtain⟨f,hf⟩: ∃f,n.Flow[i.toNat]? =some f:=⟨_,List.getElem?_eq_getElem (by rw[hn.fl];exact hl)⟩;simp only[outQ,Qhp,hb,Qb9];rw[zip_set p _ _ _ b f _ hb hf,hf];simp only[Option.getD_some,ctr];rcases hv with h|h
 ·simp only[if_pos h]
  repeat' split
  all_goals omega
 ·have hA: ¬b.A=v:=by omega
  simp only[if_neg hA]
  repeat' split
  all_goals omega
theorem zip_le(p:Int): ∀(bs:List Bond) (fs:List Int),(∀(i:Nat) b f,bs[i]? =some b→fs[i]? =some f→ -b.Strength≤f∧f≤b.Strength)→(∀b∈bs,0≤b.Strength)→(List.zipWith (ctr p) bs fs).sum≤(bs.map Bond.Strength).sum
 |[],_,_,_=>by simp
 |x::r,[],_,hs=>by
  have h1:=zip_le p r [] (fun i b f _ h=>by simp at h) (fun b hb=>hs b (List.mem_cons_of_mem _ hb));have h2:=hs x (List.mem_cons_self ..);simp only[List.zipWith_nil_right,List.sum_nil,List.map_cons,List.sum_cons] at h1⊢;omega
 |x::r,y::s,hc,hs=>by
  have h1:=zip_le p r s (fun i b f h h'=>hc (i+1) b f (by simpa using h) (by simpa using h')) (fun b hb=>hs b (List.mem_cons_of_mem _ hb));have h2:=hs x (List.mem_cons_self ..);have h3:=hc 0 x y rfl rfl;simp only[List.zipWith_cons_cons,List.map_cons,List.sum_cons,ctr];split
  ·omega
  ·split<;>omega
theorem out_le{n:Net}(hn:Qcf n)(hc:Qib n)(p:Int):outQ n p≤(n.Bonds.map Bond.Strength).sum:=zip_le p _ _ hc (fun b hb=>(hn.st b hb).1)
theorem walk_out{n:Net}(hn:Qcf n)(hc:Qib n){q:Int}{st qu:List Int}(hlen:st.length=n.Cnt.toNat)(hP:bfsP n q (st,qu)){p:Int}(hp0:0≤p)(hp1:p<n.Cnt){d:Nat}(hd:st[p.toNat]? =some (d:Int)): ∀k,k<d→outQ (Qbd n st p (k+1)).1 p=outQ n p+1:=by
 have step: ∀k,k<d→outQ (Qbd n st p (k+1)).1 p=outQ (Qbd n st p k).1 p+(if k=0 then 1 else 0):=by
  intro k hk;have hI:=Qi4 hn hc hlen hP hp0 hp1 hd k (by omega);obtain⟨m,r,hm,hr,hg,hst,hwc⟩:=Qk0 hn hlen hP hk hI;have hr':(Qbd n st p k).1.At[m]? =some r:=by rw[hI.at_];exact hr
  have e:(Qbd n st p (k+1)).1=Qhp (Qbd n st p k).1 m (Qf5 (Qbd n st p k).1 st m).2:=by simp only[Qbd,hm]
  rw[e,Qzc hI.ok hr' hg.1,hg.2.2.1];have hwl:=hg.2.2.2.1;rw[Int.toNat_natCast,hst,Option.getD_some] at hwl;have hwp:(Qf5 (Qbd n st p k).1 st m).1≠p:=by
   intro he;rw[he,hd,Option.getD_some] at hwl;omega
  by_cases h0:k=0
  ·subst h0
   have:(m:Int)=p:=by rw[←hm];rfl
   rw[if_pos this,if_pos rfl]
  ·have:(m:Int)≠p:=by
    intro he
    have:m=p.toNat:=by omega
    rw[this,hd] at hst
    have:=Option.some.inj hst
    omega
   rw[if_neg this,if_neg hwp,if_neg h0]
 intro k hk;induction k with
 |zero=>rw[step 0 hk];simp[Qbd]
 |succ k ih=>rw[step (k+1) hk,if_neg (by omega),ih (by omega)];omega
end Go.Ae
namespace Go.Ae
open Go.Proofs
theorem Qr2(bs:List Bond)(i:Nat)(z:Int): ∀k,z∈atI bs i k↔ ∃(j:Nat) (b:Bond),j<k∧z=j∧bs[j]? =some b∧(b.A=i∨b.B=i)
 |0=>by simp[atI]
 |k+1=>by
  have ih:=Qr2 bs i z k;simp only[atI,List.mem_append,ih];constructor
  ·rintro (⟨j,b,h1,h2,h3,h4⟩|h)
   ·exact⟨j,b,by omega,h2,h3,h4⟩
   ·cases hb:bs[k]? with
    |none=>rw[hb] at h;simp at h
    |some b=>
     rw[hb] at h;simp only[List.mem_append] at h;refine⟨k,b,by omega,?_,hb,?_⟩
     ·rcases h with h|h<;>split at h<;>simp at h<;>exact h
     ·rcases h with h|h
      ·split at h
       ·exact .inl (by assumption)
       ·simp at h
      ·split at h
       ·exact .inr (by assumption)
       ·simp at h
  ·rintro⟨j,b,h1,h2,h3,h4⟩;by_cases hj:j=k
   ·subst hj;refine .inr ?_;rw[h3];simp only[List.mem_append];rcases h4 with h4|h4
    ·exact .inl (by rw[if_pos h4,h2];exact List.mem_singleton.2 rfl)
    ·exact .inr (by rw[if_pos h4,h2];exact List.mem_singleton.2 rfl)
   ·exact .inl ⟨j,b,by omega,h2,h3,h4⟩
def Qmw(bs:List Bond):Prop:= ∀b∈bs,0≤b.Strength∧b.Strength≤1000000
theorem Qxo{n:Int}{bs:List Bond}(v:Nat)(hv:v<n.toNat):(newN n bs).At[v]? =some (atI bs v bs.length):=by
 simp only[newN,List.getElem?_map,List.getElem?_range hv,Option.map_some]
theorem newN_ok{n:Int}{bs:List Bond}(h:Qhu (n,bs))(hs:Qmw bs):Qcf (newN n bs)∧Qib (newN n bs):=by
 obtain⟨h0,h1,h2,h3,h4⟩:=h;simp only at h0 h1 h2 h3 h4;have hz: ∀(i:Nat) f,(newN n bs).Flow[i]? =some f→f=0:=by
  intro i f hf;exact List.eq_of_mem_replicate (List.mem_of_getElem? hf)
 refine⟨⟨h0,by show n≤1000000;omega,by simp[newN],by simp[newN];omega,h3,?_,?_,hs,?_,h4⟩,?_⟩
 ·intro v r hr i hi;have hv:v<n.toNat:=by
   have:=(List.getElem?_eq_some_iff.1 hr).1
   simpa[newN] using this
  rw[Qxo v hv] at hr;obtain rfl:=Option.some.inj hr;obtain⟨j,b,g1,g2,g3,g4⟩:=(Qr2 bs v i bs.length).1 hi;exact⟨by omega,b,by rw[g2,Int.toNat_natCast];exact g3,g4⟩
 ·intro x hx;obtain⟨i,hi⟩:=List.mem_iff_getElem?.1 hx
  have:=hz i x hi
  omega
 ·intro i b hb;have hl:=(List.getElem?_eq_some_iff.1 hb).1;have hbb:=h3 b (List.mem_of_getElem? hb);refine⟨⟨_,Qxo _ (by omega),(Qr2 bs _ _ _).2 ⟨i,b,hl,rfl,hb,.inl (by omega)⟩⟩,⟨_,Qxo _ (by omega),(Qr2 bs _ _ _).2 ⟨i,b,hl,rfl,hb,.inr (by omega)⟩⟩⟩
 ·intro i b f hb hf
  have:=hz i f hf
  have:=hs b (List.mem_of_getElem? hb)
  omega
theorem Qtg{n:Int}{bs:List Bond}(p:Int):outQ (newN n bs) p=0:=by
 simp only[outQ,newN]
 have: ∀(l:List Bond) (m:Nat),(List.zipWith (ctr p) l (List.replicate m 0)).sum=0:=by
  intro l;induction l with
  |nil=>intro m;simp
  |cons x r ih=>
   intro m;cases m with
   |zero=>simp
   |succ m=>
    simp only[List.replicate_succ,List.zipWith_cons_cons,List.sum_cons,ih m,ctr];split
    ·rfl
    ·split<;>rfl
 exact this _ _
def Qfj(p q:Int):Nat→Net→Net×Int
 |0,n=>(n,0)
 |m+1,n=>if (Qd6 n p q).2=true then ((Qfj p q m (Qd6 n p q).1).1,(Qfj p q m (Qd6 n p q).1).2+1) else (n,0)
def Qcz(n:Int)(bs:List Bond)(p q:Int):Net×Int:=Qfj p q ((bs.map Bond.Strength).sum.toNat+1) (newN n bs)
theorem grow_ok{n:Net}(hn:Qcf n)(hc:Qib n){p q:Int}(hp0:0≤p)(hp1:p<n.Cnt)(hq0:0≤q)(hq1:q<n.Cnt)(hpq:p≠q)(hg:(Qd6 n p q).2=true):
 Qcf (Qd6 n p q).1∧Qib (Qd6 n p q).1∧(Qd6 n p q).1.Cnt=n.Cnt∧(Qd6 n p q).1.Bonds=n.Bonds∧(Qd6 n p q).1.At=n.At∧outQ (Qd6 n p q).1 p=outQ n p+1:=by
 have hlen:=Qgs hn hq0 hq1;have hP:bfsP n q (Qcb n q,(Qbu n q n.Cnt.toNat).2):=Qabw hn hq0 hq1 n.Cnt.toNat;obtain⟨x,hx⟩: ∃x,(Qcb n q)[p.toNat]? =some x:=⟨_,List.getElem?_eq_getElem (by omega)⟩;simp only[Qd6,hx,Option.getD_some] at hg⊢;by_cases h:x<0
 ·rw[if_pos h] at hg;simp at hg
 ·obtain⟨d,rfl⟩: ∃d:Nat,x=d:=⟨x.toNat,by omega⟩;rw[if_neg h,Int.toNat_natCast];have hd:0<d:=by
   rcases Nat.eq_zero_or_pos d with h0|h0
   ·subst h0
    have:=hP.uniq p.toNat hx
    omega
   ·exact h0
  have hI:=Qi4 hn hc hlen hP hp0 hp1 hx d (Nat.le_refl _);have ho:=walk_out hn hc hlen hP hp0 hp1 hx (d - 1) (by omega);rw[show d - 1+1=d by omega] at ho;exact⟨hI.ok,hI.cap,hI.cnt,hI.bs,hI.at_,ho⟩
end Go.Ae
namespace Go.Ae
open Go.Proofs
abbrev FlA:=Int×List Bond×Int×Int
def flC.net(a:FlA):Net:=(Qcz a.1 a.2.1 a.2.2.1 a.2.2.2).1
def flC.ca(a:FlA):List AV:=[.im (.int .i64 a.1),.im (.sl false 3 (a.2.1.map Bond.c)),.im (.int .i64 a.2.2.1),.im (.int .i64 a.2.2.2)]
def flC.H1(a:FlA):Qan:=[(0,(true,.cells 231 [.im (.int .i64 a.1),.im (.sl false 3 (a.2.1.map Bond.c)),.im (.sl false 1 ((newN a.1 a.2.1).At.map Qcd)),.own 2])),(2,(true,.arr 2 1 ((flC.net a).Flow.map intC)))]
def flC.r0(a:FlA):AV:= .tup [.ptr 0 0,.im (.int .i64 (Qcz a.1 a.2.1 a.2.2.1 a.2.2.2).2)]
def flC.pre(a:FlA):Prop:=Qhu (a.1,a.2.1)∧Qmw a.2.1∧0≤a.2.2.1∧a.2.2.1<a.1∧0≤a.2.2.2∧a.2.2.2<a.1∧a.2.2.1≠a.2.2.2
def flC.row:Row:=orow flC.ca (fun _=>[]) 0 flC.pre (fun _=>false) flC.r0 flC.H1 3010
theorem flC.ok:Qas Tryz.prog 154 flC.row:=by
 refine Qf1 Qaq (tC newNC.ok (tC growC.ok tN)) Tryz.func154 rfl (by kernel_rfl) (by kernel_rfl) (exB:=exN) (R:=fun a r=>r=flC.r0 a) (n:=4) (fun _=>rfl) (by decide)
  (fun a=>by simp[flC.ca,flC.H1,exN,belL,AV.bel]) (fun a=>by simp[flC.ca,flC.H1,exN,belH,belL,AV.bel]) (fun a=>by simp[flC.ca,flC.H1,exN,Qam])
  (fun a=>by simp[Qc2,flC.ca,flC.H1,exN,AObj.nms,nmsL,AV.nms,domB,hget]) (fun a p hp=> ?_) (fun a r h=>by subst h;exact LeV.refl _) ?_
 rotate_left
 intro a hpre;simp only[Tryz.f154,Option.getD,flC.ca,flC.H1,exN];simp (config:={maxSteps:=10000000}) (disch:=omega) only[ZA,ZT,simprocAttr,Asm.d,rch,Qah,Qag,Qac,Qaf,Qai,List.getD_cons_zero,List.getD_cons_succ,flC.ca,flC.H1,exN];obtain⟨hp1,hst,hp0,hpn,hq0,hqn,hpq⟩:=hpre;obtain⟨hok0,hcap0⟩:=newN_ok hp1 hst;have hz0:=Qtg (n:=a.1) (bs:=a.2.1) a.2.2.1;refine orow.os (a.1,a.2.1) [] hp1 (fun j=>by simp[domB,hget]) rfl rfl ?_ ?_
 ·simp (config:={maxSteps:=10000000}) (disch:=omega) only[ZA,ZT,simprocAttr,Asm.d,rch,Qah,Qag,Qac,Qaf,Qai,List.getD_cons_zero,List.getD_cons_succ,flC.ca,flC.H1,exN,newNC.ca,if_true]
 ·simp (config:={maxSteps:=10000000}) (disch:=omega) only[ZA,ZT,simprocAttr,Asm.d,rch,Qah,Qag,Qac,Qaf,Qai,List.getD_cons_zero,List.getD_cons_succ,flC.ca,flC.H1,exN,newNC.H1,sub];obtain⟨F,hF⟩: ∃F,F=(a.2.1.map Bond.Strength).sum.toNat+1:=⟨_,rfl⟩;refine Qay.old ⟨{k:Nat×Net//Qcf k.2∧Qib k.2∧k.2.Cnt=a.1∧k.2.Bonds=a.2.1∧k.2.At=(newN a.1 a.2.1).At∧outQ k.2 a.2.2.1=k.1∧k.1≤F∧Qcz a.1 a.2.1 a.2.2.1 a.2.2.2=((Qfj a.2.2.1 a.2.2.2 (F - k.1) k.2).1,(Qfj a.2.2.1 a.2.2.2 (F - k.1) k.2).2+k.1)},fun k=>⟨[(11,.im (.int .i64 k.1.1)),(10,.ptr 0 0),(2,.im (.int .i64 a.2.2.1)),(3,.im (.int .i64 a.2.2.2))],[(0,(true,.cells 231 [.im (.int .i64 a.1),.im (.sl false 3 (a.2.1.map Bond.c)),.im (.sl false 1 ((newN a.1 a.2.1).At.map Qcd)),.own 2])),(2,(true,.arr 2 1 (k.1.2.Flow.map intC)))],3010⟩,fun k=>F - k.1.1,fun k=>⟨by simp[Qad.good,belT,belH,Qam,AV.bel,belL],Nat.le_refl _⟩,⟨⟨(0,newN a.1 a.2.1),hok0,hcap0,rfl,rfl,rfl,hz0,Nat.zero_le _,by simp[Qcz,hF]⟩,by simp (config:={maxSteps:=10000000}) (disch:=omega) only[ZA,ZT,simprocAttr,Asm.d,rch,Qah,Qag,Qac,Qaf,Qai,List.getD_cons_zero,List.getD_cons_succ,flC.ca,flC.H1,exN,sub]⟩,fun k=> ?_⟩;obtain⟨⟨k,N⟩,i1,i2,i3,i4,i5,i6,i7,i8⟩:=k;simp only at i1 i2 i3 i4 i5 i6 i7 i8;have hle:=out_le i1 i2 a.2.2.1;rw[i4,i6] at hle;have hkF:k<F:=by omega
  have hsum:F≤1000000000001:=by
   have h2: ∀(l:List Bond),(∀b∈l,b.Strength≤1000000)→(l.map Bond.Strength).sum≤1000000*(l.length:Int):=by
    intro l;induction l with
    |nil=>intro _;simp
    |cons x r ih=>
     intro h;have h3:=ih (fun b hb=>h b (List.mem_cons_of_mem _ hb));have h4:=h x (List.mem_cons_self ..);simp only[List.map_cons,List.sum_cons,List.length_cons];omega
   have h3:=h2 a.2.1 (fun b hb=>(hst b hb).2);have h4:=hp1.2.2.1;simp only at h4;omega
  obtain⟨m,hm⟩: ∃m,F - k=m+1:=⟨F - k - 1,by omega⟩;rw[hm,Qfj] at i8;simp (config:={maxSteps:=10000000}) (disch:=omega) only[ZA,ZT,simprocAttr,Asm.d,rch,Qah,Qag,Qac,Qaf,Qai,List.getD_cons_zero,List.getD_cons_succ,flC.ca,flC.H1,exN,sub,Qal];refine orow.os (N,a.2.2.1,a.2.2.2) [0,2] ⟨i1,i2,hp0,by simp only;omega,hq0,by simp only;omega⟩ (fun j=>Qaah _ j) rfl rfl ?_ ?_
  ·simp (config:={maxSteps:=10000000}) (disch:=omega) only[ZA,ZT,simprocAttr,Asm.d,rch,Qah,Qag,Qac,Qaf,Qai,List.getD_cons_zero,List.getD_cons_succ,flC.ca,flC.H1,exN,growC.ca,netH,Qa9,if_true];rw[i3,i4,i5];exact⟨rfl,rfl,rfl⟩
  ·simp (config:={maxSteps:=10000000}) (disch:=omega) only[ZA,ZT,simprocAttr,Asm.d,rch,Qah,Qag,Qac,Qaf,Qai,List.getD_cons_zero,List.getD_cons_succ,flC.ca,flC.H1,exN,growC.H1,growC.r0,kl1,sub,Qal];refine⟨fun hg=> ?_,fun hg=> ?_⟩
   ·rw[if_pos hg] at i8;obtain⟨g1,g2,g3,g4,g5,g6⟩:=grow_ok i1 i2 hp0 (by omega) hq0 (by omega) hpq hg;refine⟨⟨(k+1,(Qd6 N a.2.2.1 a.2.2.2).1),g1,g2,g3.trans i3,g4.trans i4,g5.trans i5,by simp only;omega,by simp only;omega,?_⟩,by simp only;omega,?_,rfl⟩
    ·simp only;rw[show F - (k+1)=m by omega,i8];simp only[Prod.mk.injEq,true_and];omega
    ·rw[Qak (by omega) (by omega)];simp only;omega
   ·rw[if_neg hg] at i8;have e:(Qd6 N a.2.2.1 a.2.2.2).1=N:=by
     revert hg;simp only[Qd6];split
     ·intro _;rfl
     ·intro h;simp at h
    refine⟨?_,?_⟩
    ·simp only[flC.r0,i8];simp
    ·rw[e];simp only[flC.net,i8]
 simp[flC.H1] at hp;rcases hp with rfl|rfl
 ·exact .inr ⟨by omega,by simp,rfl,rfl⟩
 ·exact .inr ⟨by omega,by simp,rfl,rfl⟩
end Go.Ae
namespace Go.Ae
open Go.Proofs
def vU64:D→Option Int
 | .int .u64 n=>some n
 |_=>none
theorem Qs3: ∀d x,vU64 d=some x→Le d (.int .u64 x):=by
 intro d x h;unfold vU64 at h;split at h
 ·simp only[Option.some.injEq] at h;subst h;exact Le.refl _
 ·cases h
theorem Qw1{a:Int}(h0:0≤a)(h1:a<4294967296):andI .u64 a 4294967295=a:=by
 simp only[andI];obtain⟨n,rfl⟩: ∃n:Nat,a=n:=⟨a.toNat,by omega⟩;have hn:n<4294967296:=by omega
 have:(BitVec.ofInt IntKind.u64.bits (n:Int) &&& BitVec.ofInt IntKind.u64.bits 4294967295).toNat=n:=by
  have e:IntKind.u64.bits=64:=rfl;rw[e];simp only[BitVec.toNat_and,BitVec.toNat_ofInt];rw[show ((n:Int) % ((2^64:Nat):Int)).toNat=n by omega,show ((4294967295:Int) % ((2^64:Nat):Int)).toNat=2^32 - 1 by decide];rw[Nat.and_two_pow_sub_one_eq_mod];omega
 rw[this];unfold IntKind.wrap;have e:IntKind.u64.bits=64:=rfl;have e2:IntKind.u64.signed=false:=rfl;simp only[e,e2,Bool.false_and,Bool.false_eq_true,if_false];omega
theorem wrapU{a:Int}(h0:0≤a)(h1:a<18446744073709551616):IntKind.u64.wrap a=a:=by
 unfold IntKind.wrap;have e:IntKind.u64.bits=64:=rfl;have e2:IntKind.u64.signed=false:=rfl;simp only[e,e2,Bool.false_and,Bool.false_eq_true,if_false];omega
theorem fdivU{a:Int}(h0:0≤a)(h1:a<4294967296):a.fdiv (2^min 32 IntKind.u64.bits)=0:=by
 have e:IntKind.u64.bits=64:=rfl;rw[e,show (2:Int)^min 32 64=4294967296 by decide,Int.fdiv_eq_ediv_of_nonneg _ (by decide)];omega
def mul64.ar:List PK→Option (Int×Int)
 |[.val (.int .u64 x0),.val (.int .u64 x1)]=>some (x0,x1)
 |_=>none
def mul64.ae(a:Int×Int):List PK:=[.val (.int .u64 a.1),.val (.int .u64 a.2)]
theorem mul64.le: ∀ps a,mul64.ar ps=some a→LeKL ps (mul64.ae a):=by
 intro ps a h;unfold mul64.ar at h;split at h
 ·simp only[Option.some.injEq] at h;subst h;exact⟨LeK.refl _,LeK.refl _,trivial⟩
 ·cases h
def mul64.fv(a:Int×Int):Int×Int:=(fun _ y=>(0,y)) (a.1) (a.2)
def mul64.row:Row:=vrow mul64.ar (fun a=>a.1=1∧0≤a.2∧a.2≤1000000) (fun a=>(fun b=>D.tup [(D.int .u64) (b.1),(D.int .u64) (b.2)]) (mul64.fv a))
def mul64.q(a:List AV)(h:Nat→Option Ent)(n:Nat)(K:Kont):=show mul64.row a h n K=Qa1 _ _ _ (nmsL a) K (pkL h a) from rfl
theorem mul64.ok:Qas Tryz.prog 188 mul64.row:=by
 refine Qaj Qaq tN Tryz.func188 rfl (by kernel_rfl) (by kernel_rfl) mul64.le (n:=2) (fun _=>rfl) (by decide) (rc:=(Qfa (vU64) (vU64))) (re:=(fun b=>D.tup [(D.int .u64) (b.1),(D.int .u64) (b.2)])) (Qbz (Qs3) (Qs3)) (f:=mul64.fv) ?_;intro a hpre;simp only[Tryz.f188,Option.getD];simp (config:={maxSteps:=10000000}) (disch:=omega) only[ZA,ZT,simprocAttr,Asm.d,rch,mul64.ae,mul64.fv];obtain⟨h1,h2,h3⟩:=hpre;rw[h1,Qw1 (by omega) (by omega),Qw1 (by omega) (by omega),fdivU (by omega) (by omega),fdivU h2 (by omega),Int.zero_mul,Int.one_mul,Int.zero_mul,Int.mul_zero];simp only[wrapU h2 (show a.2<18446744073709551616 by omega),fdivU h2 (show a.2<4294967296 by omega),wrapU (Int.le_refl 0) (by decide),Int.add_zero,fdivU (Int.le_refl 0) (by decide),Qw1 (Int.le_refl 0) (by decide)];rfl
def mul_.ar:List PK→Option (Int×Int)
 |[.val (.int .u64 x0),.val (.int .u64 x1)]=>some (x0,x1)
 |_=>none
def mul_.ae(a:Int×Int):List PK:=[.val (.int .u64 a.1),.val (.int .u64 a.2)]
theorem mul_.le: ∀ps a,mul_.ar ps=some a→LeKL ps (mul_.ae a):=by
 intro ps a h;unfold mul_.ar at h;split at h
 ·simp only[Option.some.injEq] at h;subst h;exact⟨LeK.refl _,LeK.refl _,trivial⟩
 ·cases h
def mul_.fv(a:Int×Int):Int×Int:=(fun _ y=>(0,y)) (a.1) (a.2)
def mul_.row:Row:=vrow mul_.ar (fun a=>a.1=1∧0≤a.2∧a.2≤1000000) (fun a=>(fun b=>D.tup [(D.int .u64) (b.1),(D.int .u64) (b.2)]) (mul_.fv a))
def mul_.q(a:List AV)(h:Nat→Option Ent)(n:Nat)(K:Kont):=show mul_.row a h n K=Qa1 _ _ _ (nmsL a) K (pkL h a) from rfl
theorem mul_.ok:Qas Tryz.prog 186 mul_.row:=by
 refine Qaj Qaq (tC mul64.ok tN) Tryz.func186 rfl (by kernel_rfl) (by kernel_rfl) mul_.le (n:=2) (fun _=>rfl) (by decide) (rc:=(Qfa (vU64) (vU64))) (re:=(fun b=>D.tup [(D.int .u64) (b.1),(D.int .u64) (b.2)])) (Qbz (Qs3) (Qs3)) (f:=mul_.fv) ?_;intro a hpre;simp only[Tryz.f186,Option.getD];simp (config:={maxSteps:=10000000}) (disch:=omega) only[ZA,ZT,simprocAttr,Asm.d,rch,mul_.ae,mul_.fv,mul64.q,mul64.ar,mul64.fv];exact⟨hpre,rfl⟩
def repR(x:Int)(m n:Nat):List (List D):=List.replicate m [.int .i64 x]++List.replicate (n - m) [.int .i64 0]
theorem repR_len(x:Int){m n:Nat}(h:m≤n):(repR x m n).length=n:=by simp[repR];omega
theorem repR_one(x:Int)(n:Nat):repR x (min 1 n) n=List.take (min 1 n) [[.int .i64 x]]++List.drop (min 1 n) (List.replicate n [.int .i64 0]):=by
 cases n with
 |zero=>rfl
 |succ n=>
  rw[show min 1 (n+1)=1 by omega];simp[repR]
theorem OneR_repR(x:Int)(k m n:Nat):OneR allD (List.take k (repR x m n)):=by
 intro r hr
 have:=List.mem_of_mem_take hr
 rcases List.mem_append.1 this with h|h<;>rw[List.eq_of_mem_replicate h]<;>rfl
theorem repR_step(x:Int){m n:Nat}(h:m<n):List.take m (repR x m n)++List.take (min m (n - m)) (List.take m (repR x m n))++List.drop (m+min m (n - m)) (repR x m n)=repR x (m+min m (n - m)) n:=by
 have e:List.take m (repR x m n)=List.replicate m [.int .i64 x]:=by simp[repR]
 rw[e];have e2:List.drop (m+min m (n - m)) (repR x m n)=List.replicate (n - (m+min m (n - m))) [.int .i64 0]:=by
  simp only[repR];rw[List.drop_append,List.drop_eq_nil_of_le (by simp),List.nil_append,List.length_replicate,List.drop_replicate];congr 1;omega
 rw[e2,repR,←List.replicate_append_replicate];congr 2;rw[List.take_replicate];congr 1;omega
def rept.ca(a:Int×Int):List AV:=[.own 0,.im (.int .i64 a.2)]
def rept.H0(a:Int×Int):Qan:=[(0,(true,.arr 3 1 [[.int .i64 a.1]]))]
def rept.H1(a:Int×Int):Qan:=[(1,(true,.arr 3 1 (List.replicate a.2.toNat [.int .i64 a.1])))]
def rept.pre(a:Int×Int):Prop:=0≤a.2∧a.2≤1000000
def rept.row:Row:=orow rept.ca rept.H0 1 rept.pre (fun _=>false) (fun _=> .own 1) rept.H1 20
theorem rept.ok:Qas Tryz.prog 183 rept.row:=by
 refine Qnh Qaq (tC mul_.ok tN) Tryz.func183 rfl (by kernel_rfl) (by kernel_rfl) (exB:=fun j=>j==1) (R:=fun a r=>r= .own 1) (n:=2) (fun _=>rfl) (by decide)
  (fun a=>by simp[rept.ca,rept.H0,rept.H1,belL,AV.bel]) (fun a=>by simp[rept.ca,rept.H0,rept.H1,belH,belL,AV.bel]) (fun a=>by simp[rept.ca,rept.H0,rept.H1,Qam])
  (fun a=>by simp[Qc2,rept.ca,rept.H0,rept.H1,AObj.nms,nmsL,AV.nms,domB,hget]) (fun a p hp=> ?_) (fun a r h=>by subst h;exact LeV.refl _) ?_
 rotate_left
 intro a hpre;simp only[Tryz.f183,Option.getD,rept.ca,rept.H0,rept.H1];simp (config:={maxSteps:=10000000}) (disch:=omega) only[ZA,ZT,simprocAttr,Asm.d,rch,mul_.q,mul_.ar,mul_.fv,Qc7,Qah,Qag,Qac,Qaf,Qai,List.getD_cons_zero,List.getD_cons_succ,rept.ca,rept.H0,rept.H1];obtain⟨h0,h1⟩:=hpre;rw[if_neg (by omega)];simp (config:={maxSteps:=10000000}) (disch:=omega) only[ZA,ZT,simprocAttr,Asm.d,rch,mul_.q,mul_.ar,mul_.fv,Qc7,Qah,Qag,Qac,Qaf,Qai,List.getD_cons_zero,List.getD_cons_succ,rept.ca,rept.H0,rept.H1,wrapU (show (0:Int)≤1 by decide) (show (1:Int)<18446744073709551616 by decide),wrapU h0 (show a.2<18446744073709551616 by omega)];refine⟨⟨h0,h1⟩,?_⟩;rw[if_neg (by omega)];simp (config:={maxSteps:=10000000}) (disch:=omega) only[ZA,ZT,simprocAttr,Asm.d,rch,mul_.q,mul_.ar,mul_.fv,Qc7,Qah,Qag,Qac,Qaf,Qai,List.getD_cons_zero,List.getD_cons_succ,rept.ca,rept.H0,rept.H1,Qak (show -9223372036854775808≤a.2 by omega) (show a.2≤9223372036854775807 by omega)];refine⟨h0,Int.le_refl _,by omega,?_⟩;obtain⟨n,hn⟩: ∃n:Nat,a.2=n:=⟨a.2.toNat,by omega⟩;obtain⟨x,hx⟩: ∃x,x=a.1:=⟨_,rfl⟩;simp only[hn,Int.toNat_natCast,List.length_replicate,←hx];rw[hn] at h0 h1;refine Qay.old ⟨{m:Nat//m≤n∧(m=0→n=0)},fun m=>⟨[(8,.im (.int .i64 m.1)),(7,.own 1)],[(1,(true,.arr 3 1 (repR x m.1 n))),(0,(true,.arr 3 1 [[.int .i64 x]]))],2⟩,fun m=>n - m.1,fun m=>⟨by simp[Qad.good,belT,belH,Qam,AV.bel,belL],by simp⟩,⟨⟨min 1 n,by omega,by omega⟩,?_⟩,fun m=> ?_⟩
 ·simp (config:={maxSteps:=10000000}) (disch:=omega) only[ZA,ZT,simprocAttr,Asm.d,rch,mul_.q,mul_.ar,mul_.fv,Qc7,Qah,Qag,Qac,Qaf,Qai,List.getD_cons_zero,List.getD_cons_succ,rept.ca,rept.H0,rept.H1,sub];exact (repR_one x n).symm
 obtain⟨m,hm1,hm2⟩:=m;have hrl:=repR_len x hm1;simp (config:={maxSteps:=10000000}) (disch:=omega) only[ZA,ZT,simprocAttr,Asm.d,rch,mul_.q,mul_.ar,mul_.fv,Qc7,Qah,Qag,Qac,Qaf,Qai,List.getD_cons_zero,List.getD_cons_succ,rept.ca,rept.H0,rept.H1,sub,Qal,hrl];intro hlim;refine⟨fun hm=>⟨by omega,false,?_⟩,fun hm=> ?_⟩
 ·simp (config:={maxSteps:=10000000}) (disch:=omega) only[ZA,ZT,simprocAttr,Asm.d,rch,mul_.q,mul_.ar,mul_.fv,Qc7,Qah,Qag,Qac,Qaf,Qai,List.getD_cons_zero,List.getD_cons_succ,rept.ca,rept.H0,rept.H1,hrl];refine⟨by omega,false,?_⟩;simp (config:={maxSteps:=10000000}) (disch:=omega) only[ZA,ZT,simprocAttr,Asm.d,rch,mul_.q,mul_.ar,mul_.fv,Qc7,Qah,Qag,Qac,Qaf,Qai,List.getD_cons_zero,List.getD_cons_succ,rept.ca,rept.H0,rept.H1,hrl,sub];obtain⟨k,hk⟩: ∃k,min (List.take ((m:Int) - 0).toNat (repR x m n)).length ((n:Int) - m).toNat=k:=⟨_,rfl⟩;have hk2:k=min m (n - m):=by rw[←hk,List.length_take,hrl];omega
  rw[hk,show ((m:Int) - 0).toNat=m by omega];refine⟨OneR_repR x _ _ _,⟨m+k,by omega,by omega⟩,by simp only;omega,by rw[Qak (by omega) (by omega)];simp only;omega,?_⟩;subst hk2;exact repR_step x hm
 ·refine⟨[],[],⟨[(4,.own 1)],[(1,(true,.arr 3 1 (repR x m n))),(0,(true,.arr 3 1 [[.int .i64 x]]))],2⟩,?_,by simp[Qad.good,belT,belH,Qam,AV.bel,belL],by simp,?_⟩
  ·simp only[subP];simp (config:={maxSteps:=10000000}) (disch:=omega) only[ZA,ZT,simprocAttr,Asm.d,rch,mul_.q,mul_.ar,mul_.fv,Qc7,Qah,Qag,Qac,Qaf,Qai,List.getD_cons_zero,List.getD_cons_succ,rept.ca,rept.H0,rept.H1,Option.some_beq_some,Option.some_beq_none]
  ·simp (config:={maxSteps:=10000000}) (disch:=omega) only[ZA,ZT,simprocAttr,Asm.d,rch,mul_.q,mul_.ar,mul_.fv,Qc7,Qah,Qag,Qac,Qaf,Qai,List.getD_cons_zero,List.getD_cons_succ,rept.ca,rept.H0,rept.H1]
   have:m=n:=by omega
   subst this;simp[repR]
 simp[rept.H1] at hp;subst hp;exact .inr ⟨by omega,by omega,rfl,rfl⟩
end Go.Ae
namespace Go.Ae
open Go.Proofs
def Qyw(x:Nwk)(u v:Int):Int:=(x.Room[u.toNat]?.getD [])[v.toNat]?.getD 0
def Qzr(x:Nwk)(u v:Int):Int:=(x.Flow[u.toNat]?.getD [])[v.toNat]?.getD 0
def Qp4(x:Nwk)(u v:Int):Bool:=decide (Qzr x u v<Qyw x u v)
structure Qjx(x:Nwk)(n:Nat):Prop where
 r:x.Room.length=n
 f:x.Flow.length=n
 rr: ∀l∈x.Room,l.length=n
 ff: ∀l∈x.Flow,l.length=n
def way1(x:Nwk)(u:Int)(s:List Int×List Int)(v:Nat):List Int×List Int:=
 if s.1[v]?.getD 0<0∧Qp4 x u v=true then (s.1.set v u,s.2++[(v:Int)]) else s
def wayI(x:Nwk)(u:Int)(s:List Int×List Int):Nat→List Int×List Int
 |0=>s
 |k+1=>way1 x u (wayI x u s k) k
def Qb5(x:Nwk)(n:Nat)(p:Int):Nat→List Int×List Int
 |0=>((List.replicate n (-1)).set p.toNat p,[p])
 |k+1=>match (Qb5 x n p k).2[k]? with
  |none=>Qb5 x n p k
  |some u=>wayI x u (Qb5 x n p k) n
structure wayP(x:Nwk)(n:Nat)(p:Int)(s:List Int×List Int):Prop where
 len:s.1.length=n
 q: ∀v∈s.2,0≤v∧v<n
 nd:s.2.Nodup
 hd:s.2[0]? =some p
 pp:s.1[p.toNat]? =some p
 mem: ∀(v:Nat) (y:Int),s.1[v]? =some y→(0≤y↔(v:Int)∈s.2)
 prev: ∀(i:Nat) (v:Int),s.2[i]? =some v→0<i→ ∃(j:Nat) (u:Int),j<i∧s.2[j]? =some u∧s.1[v.toNat]? =some u∧Qp4 x u v=true
theorem Qtz: ∀(n:Nat) (l:List Int),l.Nodup→(∀v∈l,0≤v∧v<n)→l.length≤n
 |0,[],_,_=>Nat.le_refl _
 |0,x::r,_,h=>by have:=h x (List.mem_cons_self ..);omega
 |n+1,l,h,hb=>by
  have h1:=Qtz n (l.erase (n:Int)) (h.erase _) (fun v hv=>by
   have h2:=(h.mem_erase_iff).1 hv;have h3:=hb v h2.2
   have:=h2.1
   omega)
  have h2:=List.length_erase (a:=(n:Int)) (l:=l);split at h2<;>omega
theorem Qr3{x:Nwk}{n:Nat}{p:Int}{s:List Int×List Int}(h:wayP x n p s):s.2.length≤n:=Qtz n s.2 h.nd h.q
theorem way1_P{x:Nwk}{n:Nat}{p:Int}{s:List Int×List Int}(h:wayP x n p s){u:Int}{k v:Nat}(hu:s.2[k]? =some u)(hv:v<n):wayP x n p (way1 x u s v)∧ ∃r,(way1 x u s v).2=s.2++r:=by
 simp only[way1];split
 ·rename_i hc;obtain⟨hc1,hc2⟩:=hc;have hvl:v<s.1.length:=by rw[h.len];exact hv
  obtain⟨y,hy⟩: ∃y,s.1[v]? =some y:=⟨_,List.getElem?_eq_getElem hvl⟩;rw[hy,Option.getD_some] at hc1;have hvn:(v:Int)∉s.2:=fun hm=>by have:=(h.mem v y hy).2 hm;omega
  have hpm:p∈s.2:=List.mem_of_getElem? h.hd;have hpv:p.toNat≠v:=by
   intro he
   have:=h.q p hpm
   exact hvn (by rw[show (v:Int)=p by omega];exact hpm)
  have hub:=h.q u (List.mem_of_getElem? hu);refine⟨⟨by simpa using h.len,fun w hw=> ?_,?_,?_,?_,fun w z hz=> ?_,fun i w hw hi=> ?_⟩,_,rfl⟩
  ·rcases List.mem_append.1 hw with hw|hw
   ·exact h.q w hw
   ·rw[List.mem_singleton] at hw;subst hw;omega
  ·rw[List.nodup_append];refine⟨h.nd,by simp,fun a ha b hb=> ?_⟩;rw[List.mem_singleton] at hb;subst hb;exact fun he=>hvn (he▸ha)
  ·have:=h.hd
   rw[List.getElem?_append_left (List.getElem?_eq_some_iff.1 this).1];exact this
  ·simp only;rw[List.getElem?_set_ne (Ne.symm hpv)];exact h.pp
  ·simp only at hz⊢;rw[List.mem_append,List.mem_singleton];by_cases hwv:v=w
   ·subst hwv;rw[List.getElem?_set_self hvl] at hz;obtain rfl:=Option.some.inj hz;exact⟨fun _=> .inr rfl,fun _=>hub.1⟩
   ·rw[List.getElem?_set_ne hwv] at hz;rw[h.mem w z hz];constructor
    ·exact .inl
    ·rintro (h1|h1)
     ·exact h1
     ·omega
  ·simp only at hw⊢;by_cases hil:i<s.2.length
   ·rw[List.getElem?_append_left hil] at hw;obtain⟨j,z,h1,h2,h3,h4⟩:=h.prev i w hw hi;refine⟨j,z,h1,by rw[List.getElem?_append_left (by omega)];exact h2,?_,h4⟩;have hwm:=h.q w (List.mem_of_getElem? hw);rw[List.getElem?_set_ne]
    ·exact h3
    ·intro he;exact hvn (by rw[show (v:Int)=w by omega];exact List.mem_of_getElem? hw)
   ·have hie:i=s.2.length:=by
     have:=(List.getElem?_eq_some_iff.1 hw).1
     simp only[List.length_append,List.length_cons,List.length_nil] at this;omega
    subst hie;rw[List.getElem?_append_right (Nat.le_refl _),Nat.sub_self,List.getElem?_cons_zero] at hw;obtain rfl:=Option.some.inj hw;have hkl:=(List.getElem?_eq_some_iff.1 hu).1;refine⟨k,u,hkl,by rw[List.getElem?_append_left hkl];exact hu,?_,hc2⟩;rw[Int.toNat_natCast,List.getElem?_set_self hvl]
 ·exact⟨h,[],by simp⟩
theorem Qoj(x:Nwk)(u:Int)(s:List Int×List Int)(v w:Nat)(y:Int)(h:s.1[w]? =some y)(h0:0≤y):(way1 x u s v).1[w]? =some y:=by
 simp only[way1];split
 ·rename_i hc;rw[List.getElem?_set_ne]
  ·exact h
  ·intro he;subst he
   have:=hc.1
   rw[h,Option.getD_some] at this;omega
 ·exact h
theorem Qvl(x:Nwk)(u:Int)(s:List Int×List Int)(w:Nat)(y:Int)(h:s.1[w]? =some y)(h0:0≤y): ∀k,(wayI x u s k).1[w]? =some y
 |0=>h
 |k+1=>Qoj x u _ k w y (Qvl x u s w y h h0 k) h0
theorem Qwk{x:Nwk}{n:Nat}{p:Int}{s:List Int×List Int}(h:wayP x n p s){u:Int}{i:Nat}(hu:s.2[i]? =some u): ∀k,k≤n→wayP x n p (wayI x u s k)∧ ∃r,(wayI x u s k).2=s.2++r
 |0,_=>⟨h,[],by simp[wayI]⟩
 |k+1,hk=>by
  obtain⟨h1,r,hr⟩:=Qwk h hu k (by omega);have hul:=(List.getElem?_eq_some_iff.1 hu).1;obtain⟨h2,r',hr'⟩:=way1_P h1 (u:=u) (k:=i) (v:=k) (by rw[hr,List.getElem?_append_left hul];exact hu) (by omega);exact⟨h2,r++r',by rw[wayI,hr',hr,List.append_assoc]⟩
theorem Qz6{x:Nwk}{n:Nat}{p:Int}{s:List Int×List Int}(h:wayP x n p s){u:Int}{i:Nat}(hu:s.2[i]? =some u): ∀k,k≤n→ ∀v,v<k→Qp4 x u v=true→ ∃y,(wayI x u s k).1[v]? =some y∧0≤y
 |0,_,v,hv,_=>by omega
 |k+1,hk,v,hv,hf=>by
  by_cases hvk:v<k
  ·obtain⟨y,h1,h2⟩:=Qz6 h hu k (by omega) v hvk hf;exact⟨y,Qoj x u _ k v y h1 h2,h2⟩
  ·have:v=k:=by omega
   subst this;have hP:=(Qwk h hu v (by omega)).1;obtain⟨y,hy⟩: ∃y,(wayI x u s v).1[v]? =some y:=⟨_,List.getElem?_eq_getElem (by rw[hP.len];omega)⟩;by_cases hy0:0≤y
   ·exact⟨y,Qoj x u _ v v y hy hy0,hy0⟩
   ·have hub:=h.q u (List.mem_of_getElem? hu);refine⟨u,?_,hub.1⟩;rw[wayI,way1,if_pos ⟨by rw[hy,Option.getD_some];omega,hf⟩];exact List.getElem?_set_self (by rw[hP.len];omega)
theorem Qnt{x:Nwk}{n:Nat}{p:Int}(h0:0≤p)(h1:p<n): ∀k,wayP x n p (Qb5 x n p k)
 |0=>by
  have hq:p.toNat<(List.replicate n (-1:Int)).length:=by rw[List.length_replicate];omega
  refine⟨by simp[Qb5],fun v hv=> ?_,by simp[Qb5],rfl,List.getElem?_set_self hq,fun v y hy=> ?_,fun i v hv hi=> ?_⟩
  ·simp only[Qb5,List.mem_singleton] at hv;subst hv;omega
  ·simp only[Qb5,List.mem_singleton] at hy⊢;by_cases hw:p.toNat=v
   ·subst hw;rw[List.getElem?_set_self hq] at hy;obtain rfl:=Option.some.inj hy;omega
   ·rw[List.getElem?_set_ne hw] at hy
    have:=List.eq_of_mem_replicate (List.mem_of_getElem? hy)
    omega
  ·simp only[Qb5] at hv;cases i with
   |zero=>omega
   |succ i=>simp at hv
 |k+1=>by
  have ih:=Qnt (x:=x) h0 h1 k;simp only[Qb5];split
  ·exact ih
  ·rename_i u hu;exact (Qwk ih hu n (Nat.le_refl _)).1
theorem Qaa0(x:Nwk)(n:Nat)(p:Int)(w:Nat)(y:Int)(h0:0≤y)(k:Nat)(h:(Qb5 x n p k).1[w]? =some y): ∀m,(Qb5 x n p (k+m)).1[w]? =some y
 |0=>h
 |m+1=>by
  have ih:=Qaa0 x n p w y h0 k h m;rw[show k+(m+1)=k+m+1 by omega,Qb5];split
  ·exact ih
  ·exact Qvl x _ _ w y ih h0 n
theorem way_grow(x:Nwk){n:Nat}{p:Int}(h0:0≤p)(h1:p<n)(k:Nat): ∃r,(Qb5 x n p (k+1)).2=(Qb5 x n p k).2++r:=by
 rw[Qb5];split
 ·exact⟨[],by simp⟩
 ·rename_i u hu;exact (Qwk (Qnt (x:=x) h0 h1 k) hu n (Nat.le_refl _)).2
theorem way_end(x:Nwk)(n:Nat)(p:Int): ∀(m k:Nat),(Qb5 x n p k).2.length≤k→Qb5 x n p (k+m)=Qb5 x n p k
 |0,k,_=>rfl
 |m+1,k,h=>by
  have h1:Qb5 x n p (k+1)=Qb5 x n p k:=by
   rw[Qb5,List.getElem?_eq_none h]
  have h2:=way_end x n p m (k+1) (by rw[h1];omega);rw[show k+(m+1)=k+1+m by omega,h2,h1]
theorem Qzh(x:Nwk){n:Nat}{p:Int}(h0:0≤p)(h1:p<n): ∀(k:Nat) (j:Nat) (u:Int),j<k→(Qb5 x n p k).2[j]? =some u→ ∀v,v<n→Qp4 x u v=true→ ∃y,(Qb5 x n p k).1[v]? =some y∧0≤y
 |0,j,_,hj,_,_,_,_=>by omega
 |k+1,j,u,hj,hu,v,hv,hf=>by
  obtain⟨r,hr⟩:=way_grow x h0 h1 k;by_cases hjl:j<(Qb5 x n p k).2.length
  ·rw[hr,List.getElem?_append_left hjl] at hu;by_cases hjk:j<k
   ·obtain⟨y,g1,g2⟩:=Qzh x h0 h1 k j u hjk hu v hv hf;exact⟨y,Qaa0 x n p v y g2 k g1 1,g2⟩
   ·have:j=k:=by omega
    subst this;obtain⟨y,g1,g2⟩:=Qz6 (Qnt (x:=x) h0 h1 j) hu n (Nat.le_refl _) v hv hf;exact⟨y,by rw[Qb5,hu];exact g1,g2⟩
  ·have e:Qb5 x n p (k+1)=Qb5 x n p k:=by
    rw[Qb5,List.getElem?_eq_none (by omega)]
   rw[e] at hu
   have:=(List.getElem?_eq_some_iff.1 hu).1
   omega
def wayE(x:Nwk)(n:Nat)(p:Int):List Int×List Int:=Qb5 x n p n
theorem Qww(x:Nwk){n:Nat}{p:Int}(h0:0≤p)(h1:p<n){u v:Nat}{y:Int}(hu:(wayE x n p).1[u]? =some y)(hy:0≤y)(hv:v<n)(hf:Qp4 x u v=true): ∃z,(wayE x n p).1[v]? =some z∧0≤z:=by
 have hP:=Qnt (x:=x) h0 h1 n;have hm:=(hP.mem u y hu).1 hy;obtain⟨j,hj⟩:=List.mem_iff_getElem?.1 hm;have hl:=Qr3 hP;have hjl:=(List.getElem?_eq_some_iff.1 hj).1;exact Qzh x h0 h1 n j u (by omega) hj v hv hf
def Qcg(par:List Int)(q:Int):Nat→Int
 |0=>q
 |k+1=>par[(Qcg par q k).toNat]?.getD 0
def Qpv(par:List Int)(p q:Int)(n:Nat):Nat:=((List.range (n+1)).find? fun k=>decide (Qcg par q k=p)).getD 0
def Qhr(par:List Int)(q:Int)(k:Nat):List Int:=(List.range (k+1)).map (Qcg par q)
def wayN(x:Nwk)(n:Nat)(p q:Int):List Int:=
 if (wayE x n p).1[q.toNat]?.getD 0<0 then [] else (Qhr (wayE x n p).1 q (Qpv (wayE x n p).1 p q n)).reverse
theorem Qkm{x:Nwk}{n:Nat}{p:Int}{s:List Int×List Int}(h:wayP x n p s){q:Int}{i:Nat}(hq:s.2[i]? =some q): ∀k,(∀j,j<k→Qcg s.1 q j≠p)→ ∃j,j+k≤i∧s.2[j]? =some (Qcg s.1 q k)
 |0,_=>⟨i,by omega,hq⟩
 |k+1,hne=>by
  obtain⟨j,h1,h2⟩:=Qkm h hq k (fun j hj=>hne j (by omega));have hj0:0<j:=by
   rcases Nat.eq_zero_or_pos j with h0|h0
   ·subst h0;rw[h.hd] at h2;exact absurd (Option.some.inj h2).symm (hne k (by omega))
   ·exact h0
  obtain⟨j',u,g1,g2,g3,g4⟩:=h.prev j _ h2 hj0;exact⟨j',by omega,by rw[Qcg,g3,Option.getD_some];exact g2⟩
theorem back_free{x:Nwk}{n:Nat}{p:Int}{s:List Int×List Int}(h:wayP x n p s){q:Int}{i:Nat}(hq:s.2[i]? =some q){k:Nat}(hne: ∀j,j<k+1→Qcg s.1 q j≠p):Qp4 x (Qcg s.1 q (k+1)) (Qcg s.1 q k)=true∧ ∃y,s.1[(Qcg s.1 q k).toNat]? =some y∧Qcg s.1 q (k+1)=y:=by
 obtain⟨j,h1,h2⟩:=Qkm h hq k (fun j hj=>hne j (by omega));have hj0:0<j:=by
  rcases Nat.eq_zero_or_pos j with h0|h0
  ·subst h0;rw[h.hd] at h2;exact absurd (Option.some.inj h2).symm (hne k (by omega))
  ·exact h0
 obtain⟨j',u,g1,g2,g3,g4⟩:=h.prev j _ h2 hj0;have e:Qcg s.1 q (k+1)=u:=by rw[Qcg,g3,Option.getD_some]
 exact⟨by rw[e];exact g4,u,g3,e⟩
theorem Qq3{x:Nwk}{n:Nat}{p:Int}{s:List Int×List Int}(h:wayP x n p s){q:Int}{i:Nat}(hq:s.2[i]? =some q): ∃d,d≤i∧Qcg s.1 q d=p∧ ∀j,j<d→Qcg s.1 q j≠p:=by
 have key: ∀m,(∃d,d≤m∧Qcg s.1 q d=p∧ ∀j,j<d→Qcg s.1 q j≠p)∨ ∀j,j≤m→Qcg s.1 q j≠p:=by
  intro m;induction m with
  |zero=>
   by_cases h0:Qcg s.1 q 0=p
   ·exact .inl ⟨0,Nat.le_refl _,h0,fun j hj=>by omega⟩
   ·exact .inr fun j hj=>by rw[show j=0 by omega];exact h0
  |succ m ih=>
   rcases ih with ⟨d,h1,h2,h3⟩|ih
   ·exact .inl ⟨d,by omega,h2,h3⟩
   ·by_cases h0:Qcg s.1 q (m+1)=p
    ·exact .inl ⟨m+1,Nat.le_refl _,h0,fun j hj=>ih j (by omega)⟩
    ·refine .inr fun j hj=> ?_
     by_cases hjm:j≤m
     ·exact ih j hjm
     ·rw[show j=m+1 by omega];exact h0
 rcases key i with h1|h1
 ·exact h1
 ·obtain⟨j,g1,g2⟩:=Qkm h hq (i+1) (fun j hj=>h1 j (by omega));omega
theorem Qqr{par:List Int}{p q:Int}{n d:Nat}(hd:d≤n)(h1:Qcg par q d=p)(h2: ∀j,j<d→Qcg par q j≠p):Qpv par p q n=d:=by
 have: ∀(m s:Nat),s≤d→d<s+m→((List.range' s m).find? fun k=>decide (Qcg par q k=p))=some d:=by
  intro m;induction m with
  |zero=>intro s h3 h4;omega
  |succ m ih=>
   intro s h3 h4;rw[List.range'_succ,List.find?_cons];by_cases hs:s=d
   ·subst hs;simp[h1]
   ·rw[show decide (Qcg par q s=p)=false from decide_eq_false (h2 s (by omega))];exact ih (s+1) (by omega) (by omega)
 rw[Qpv,List.range_eq_range',this _ 0 (by omega) (by omega),Option.getD_some]
end Go.Ae
namespace Go.Ae
open Go.Proofs
def sumN(f:Nat→Int):Nat→Int
 |0=>0
 |n+1=>sumN f n+f n
theorem Qa4{f g:Nat→Int}: ∀{n:Nat},(∀i,i<n→f i=g i)→sumN f n=sumN g n
 |0,_=>rfl
 |n+1,h=>by simp only[sumN];rw[Qa4 (fun i hi=>h i (by omega)),h n (by omega)]
theorem Qdo(f g:Nat→Int): ∀n,sumN (fun i=>f i+g i) n=sumN f n+sumN g n
 |0=>rfl
 |n+1=>by simp only[sumN];rw[Qdo f g n];omega
theorem Qk3(f:Nat→Int): ∀n,sumN (fun i=> - f i) n= - sumN f n
 |0=>rfl
 |n+1=>by simp only[sumN];rw[Qk3 f n];omega
theorem Qc1: ∀n,sumN (fun _=>0) n=0
 |0=>rfl
 |n+1=>by simp only[sumN];rw[Qc1 n];rfl
theorem Qxf{f g:Nat→Int}: ∀{n:Nat},(∀i,i<n→f i≤g i)→sumN f n≤sumN g n
 |0,_=>Int.le_refl _
 |n+1,h=>by
  have h1:=Qxf (f:=f) (g:=g) (n:=n) (fun i hi=>h i (by omega));have h2:=h n (by omega);simp only[sumN];omega
theorem Qt3(f:Nat→Nat→Int)(m:Nat): ∀n,sumN (fun i=>sumN (fun j=>f i j) m) n=sumN (fun j=>sumN (fun i=>f i j) n) m
 |0=>by simp only[sumN];exact (Qc1 m).symm
 |n+1=>by simp only[sumN];rw[Qt3 f m n,←Qdo]
theorem Qeo(k:Nat)(c:Int): ∀n,sumN (fun i=>if i=k then c else 0) n=if k<n then c else 0
 |0=>rfl
 |n+1=>by
  simp only[sumN];rw[Qeo k c n];by_cases h1:n=k
  ·subst h1;rw[if_neg (by omega),if_pos rfl,if_pos (by omega)];omega
  ·rw[if_neg h1];by_cases h2:k<n
   ·rw[if_pos h2,if_pos (by omega)];omega
   ·rw[if_neg h2,if_neg (by omega)];omega
theorem sumN_anti(a:Nat→Nat→Int)(n:Nat)(h: ∀u w,u<n→w<n→a u w= - a w u):sumN (fun u=>sumN (fun w=>a u w) n) n=0:=by
 have h1:sumN (fun u=>sumN (fun w=>a u w) n) n= - sumN (fun u=>sumN (fun w=>a u w) n) n:=by
  rw[←Qk3]
  conv=>lhs;rw[Qt3]
  refine Qa4 fun u hu=> ?_
  rw[←Qk3];exact Qa4 fun w hw=>h w u hw hu
 omega
structure Qh5(rm fl:Nat→Nat→Int)(n p q:Nat)(v:Int):Prop where
 anti: ∀u w,u<n→w<n→fl u w= - fl w u
 cap: ∀u w,u<n→w<n→fl u w≤rm u w
 cons: ∀u,u<n→u≠p→u≠q→sumN (fl u) n=0
 val:sumN (fl p) n=v
def cutF(rm:Nat→Nat→Int)(n:Nat)(S:Nat→Bool):Int:=sumN (fun u=>sumN (fun w=>if S u=true∧S w=false then rm u w else 0) n) n
theorem Qaac{rm fl:Nat→Nat→Int}{n p q:Nat}{v:Int}(h:Qh5 rm fl n p q v)(hp:p<n){S:Nat→Bool}(hS:S p=true)(hT:S q=false):cutF fl n S=v:=by
 have h1:sumN (fun u=>sumN (fun w=>if S u=true then fl u w else 0) n) n=v:=by
  have:sumN (fun u=>sumN (fun w=>if S u=true then fl u w else 0) n) n=sumN (fun u=>if u=p then v else 0) n:=by
   refine Qa4 fun u hu=> ?_
   by_cases hup:u=p
   ·subst hup;rw[if_pos rfl,←h.val];exact Qa4 fun w _=>if_pos hS
   ·rw[if_neg hup];cases hSu:S u with
    |false=>exact (Qa4 fun w _=>if_neg (by simp)).trans (Qc1 n)
    |true=>
     have huq:u≠q:=fun he=>by rw[he,hT] at hSu;cases hSu
     exact (Qa4 fun w _=>if_pos rfl).trans (h.cons u hu hup huq)
  rw[this,Qeo,if_pos hp]
 have h2:sumN (fun u=>sumN (fun w=>if S u=true∧S w=true then fl u w else 0) n) n=0:=by
  refine sumN_anti _ n fun u w hu hw=> ?_
  by_cases hb:S u=true∧S w=true
  ·rw[if_pos hb,if_pos ⟨hb.2,hb.1⟩];exact h.anti u w hu hw
  ·rw[if_neg hb,if_neg (fun h=>hb ⟨h.2,h.1⟩)];rfl
 have h3:sumN (fun u=>sumN (fun w=>if S u=true then fl u w else 0) n) n=sumN (fun u=>sumN (fun w=>if S u=true∧S w=true then fl u w else 0) n) n+cutF fl n S:=by
  rw[cutF,←Qdo];refine Qa4 fun u _=> ?_
  rw[←Qdo];refine Qa4 fun w _=> ?_
  cases S u<;>cases S w<;>simp
 omega
theorem Qw8{rm fl:Nat→Nat→Int}{n p q:Nat}{v:Int}(h:Qh5 rm fl n p q v)(hp:p<n){S:Nat→Bool}(hS:S p=true)(hT:S q=false):v≤cutF rm n S:=by
 rw[←Qaac h hp hS hT];refine Qxf fun u hu=>Qxf fun w hw=> ?_
 split
 ·exact h.cap u w hu hw
 ·exact Int.le_refl _
theorem Qxp{rm fl:Nat→Nat→Int}{n p q:Nat}{v:Int}(h:Qh5 rm fl n p q v)(hp:p<n){S:Nat→Bool}(hS:S p=true)(hT:S q=false)(hfull: ∀u w,u<n→w<n→S u=true→S w=false→rm u w≤fl u w):v=cutF rm n S:=by
 rw[←Qaac h hp hS hT];refine Qa4 fun u hu=>Qa4 fun w hw=> ?_
 split
 ·rename_i hb;have h1:=h.cap u w hu hw;have h2:=hfull u w hu hw hb.1 hb.2;omega
 ·rfl
def Qgm(L:Nat→Nat)(a b j:Nat):Int:=if L j=a∧L (j+1)=b then 1 else 0
theorem Qfb(L:Nat→Nat)(a b:Nat): ∀i,0≤sumN (Qgm L a b) i
 |0=>Int.le_refl _
 |i+1=>by
  have:=Qfb L a b i
  simp only[sumN,Qgm]
  split<;>omega
theorem Qr1{L:Nat→Nat}{m:Nat}(hinj: ∀i j,i≤m→j≤m→L i=L j→i=j)(a b:Nat): ∀i,i≤m→sumN (Qgm L a b) i≤1∧(0<sumN (Qgm L a b) i→ ∃j,j<i∧L j=a∧L (j+1)=b)
 |0,_=>⟨by simp[sumN],fun h=>by simp[sumN] at h⟩
 |i+1,hi=>by
  obtain⟨h1,h2⟩:=Qr1 hinj a b i (by omega);have h0:=Qfb L a b i;simp only[sumN];by_cases hc:L i=a∧L (i+1)=b
  ·have hz: ¬0<sumN (Qgm L a b) i:=by
    intro hpos;obtain⟨j,hj,e1,_⟩:=h2 hpos
    have:=hinj j i (by omega) (by omega) (e1.trans hc.1.symm)
    omega
   simp only[Qgm] at hz h0⊢;rw[if_pos hc];exact⟨by omega,fun _=>⟨i,by omega,hc⟩⟩
  ·have e:Qgm L a b i=0:=if_neg hc;rw[e];refine⟨by omega,fun hpos=> ?_⟩;obtain⟨j,hj,e1⟩:=h2 (by omega);exact⟨j,by omega,e1⟩
theorem Qaag{L:Nat→Nat}{n m:Nat}(hr: ∀i,i≤m→L i<n)(a:Nat): ∀i,i≤m→sumN (fun b=>sumN (Qgm L a b) i - sumN (Qgm L b a) i) n=(if L 0=a then 1 else 0) - (if L i=a then 1 else 0)
 |0,_=>by simp only[sumN,Int.sub_self];exact Qc1 n
 |i+1,hi=>by
  have ih:=Qaag hr a i (by omega);have e:sumN (fun b=>sumN (Qgm L a b) (i+1) - sumN (Qgm L b a) (i+1)) n=sumN (fun b=>sumN (Qgm L a b) i - sumN (Qgm L b a) i) n+(sumN (fun b=>if b=L (i+1) then (if L i=a then 1 else 0) else 0) n+ - sumN (fun b=>if b=L i then (if L (i+1)=a then 1 else 0) else 0) n):=by
   rw[←Qk3,←Qdo,←Qdo];refine Qa4 fun b _=> ?_
   simp only[sumN,Qgm];by_cases c1:L i=a<;>by_cases c2:L (i+1)=a<;>by_cases c3:b=L i<;>by_cases c4:b=L (i+1)<;>simp[c1,c2,c3,c4,eq_comm]<;>omega
  rw[e,ih,Qeo,Qeo,if_pos (hr _ hi),if_pos (hr _ (by omega))];omega
theorem flow_push{rm fl fl':Nat→Nat→Int}{n p q:Nat}{v:Int}(h:Qh5 rm fl n p q v){L:Nat→Nat}{m:Nat}(hinj: ∀i j,i≤m→j≤m→L i=L j→i=j)(hr: ∀i,i≤m→L i<n)
 (h0:L 0=p)(hm:L m=q)(hpq:p≠q)(hp:p<n)(hfree: ∀i,i<m→fl (L i) (L (i+1))<rm (L i) (L (i+1)))
 (hfl: ∀a b,a<n→b<n→fl' a b=fl a b+(sumN (Qgm L a b) m - sumN (Qgm L b a) m)):Qh5 rm fl' n p q (v+1):=by
 have hrow: ∀a,a<n→sumN (fl' a) n=sumN (fl a) n+((if L 0=a then 1 else 0) - (if L m=a then 1 else 0)):=by
  intro a ha;rw[←Qaag hr a m (Nat.le_refl _),←Qdo];exact Qa4 fun b hb=>hfl a b ha hb
 refine⟨fun u w hu hw=> ?_,fun u w hu hw=> ?_,fun u hu h1 h2=> ?_,?_⟩
 ·rw[hfl u w hu hw,hfl w u hw hu]
  have:=h.anti u w hu hw
  omega
 ·rw[hfl u w hu hw];obtain⟨e1,e2⟩:=Qr1 hinj u w m (Nat.le_refl _);have e3:=Qfb L w u m;have e4:=h.cap u w hu hw;by_cases hpos:0<sumN (Qgm L u w) m
  ·obtain⟨j,hj,g1,g2⟩:=e2 hpos
   have:=hfree j hj
   rw[g1,g2] at this;omega
  ·omega
 ·rw[hrow u hu,h.cons u hu h1 h2,h0,hm,if_neg (Ne.symm h1),if_neg (Ne.symm h2)];rfl
 ·rw[hrow p hp,h.val,h0,hm,if_pos rfl,if_neg (Ne.symm hpq)];omega
end Go.Ae
namespace Go.Ae
open Go.Proofs
def Qft(l:List (List Int))(u v:Int)(d:Int):List (List Int):=l.set u.toNat ((l[u.toNat]?.getD []).set v.toNat ((l[u.toNat]?.getD [])[v.toNat]?.getD 0+d))
def Qf4(l:List (List Int))(a b:Nat):Int:=(l[a]?.getD [])[b]?.getD 0
theorem Qdl(l:List (List Int))(u v d:Int):(Qft l u v d).length=l.length:=by simp[Qft]
theorem Qcw{l:List (List Int)}{n:Nat}(h: ∀r∈l,r.length=n)(u v d:Int)(hu:u.toNat<l.length): ∀r∈Qft l u v d,r.length=n:=by
 intro r hr;rcases List.mem_or_eq_of_mem_set hr with hr|hr
 ·exact h r hr
 ·subst hr;rw[List.length_set,List.getElem?_eq_getElem hu,Option.getD_some];exact h _ (List.getElem_mem hu)
theorem Qe2{l:List (List Int)}{n:Nat}(hl:l.length=n)(h: ∀r∈l,r.length=n){u v:Nat}(d:Int)(hu:u<n)(hv:v<n)(a b:Nat):Qf4 (Qft l u v d) a b=Qf4 l a b+if a=u∧b=v then d else 0:=by
 simp only[Qf4,Qft,Int.toNat_natCast];by_cases ha:u=a
 ·subst ha;rw[List.getElem?_set_self (by omega),Option.getD_some];have hrl:(l[u]?.getD []).length=n:=by
   rw[List.getElem?_eq_getElem (by omega),Option.getD_some];exact h _ (List.getElem_mem (by omega))
  by_cases hb:v=b
  ·subst hb;rw[List.getElem?_set_self (by omega),Option.getD_some,if_pos ⟨rfl,rfl⟩]
  ·rw[List.getElem?_set_ne hb,if_neg (fun h=>hb h.2.symm)];omega
 ·rw[List.getElem?_set_ne ha,if_neg (fun h=>ha h.1.symm)];omega
def Qaba(x:Nwk)(u v:Int):Nwk:=⟨x.Room,Qft (Qft x.Flow u v 1) v u (-1)⟩
def Qgo(x:Nwk)(L:List Int):Nat→Nwk
 |0=>x
 |i+1=>Qaba (Qgo x L i) (L[i]?.getD 0) (L[i+1]?.getD 0)
theorem Ql3(x:Nwk)(L:List Int): ∀i,(Qgo x L i).Room=x.Room
 |0=>rfl
 |i+1=>Ql3 x L i
theorem flowAt_eq(x:Nwk)(u v:Int):Qzr x u v=Qf4 x.Flow u.toNat v.toNat:=rfl
theorem roomAt_eq(x:Nwk)(u v:Int):Qyw x u v=Qf4 x.Room u.toNat v.toNat:=rfl
theorem pushE_ok{x:Nwk}{n:Nat}(h:Qjx x n){u v:Int}(hu:u.toNat<n)(hv:v.toNat<n):Qjx (Qaba x u v) n:=by
 refine⟨h.r,by simp only[Qaba,Qdl];exact h.f,h.rr,?_⟩;exact Qcw (Qcw h.ff u v 1 (by rw[h.f];exact hu)) v u (-1) (by rw[Qdl,h.f];exact hv)
theorem Qm6{x:Nwk}{n:Nat}(h:Qjx x n){L:List Int}(hL: ∀y∈L,0≤y∧y<n): ∀i,i<L.length→Qjx (Qgo x L i) n
 |0,_=>h
 |i+1,hi=>by
  have ih:=Qm6 h hL i (by omega);refine pushE_ok ih ?_ ?_
  ·rw[List.getElem?_eq_getElem (by omega),Option.getD_some]
   have:=hL _ (List.getElem_mem (show i<L.length by omega))
   omega
  ·rw[List.getElem?_eq_getElem hi,Option.getD_some]
   have:=hL _ (List.getElem_mem hi)
   omega
def Lf(L:List Int)(i:Nat):Nat:=(L[i]?.getD 0).toNat
theorem Qso{x:Nwk}{n:Nat}(h:Qjx x n){L:List Int}(hL: ∀y∈L,0≤y∧y<n)(a b:Nat): ∀i,i<L.length→Qf4 (Qgo x L i).Flow a b=Qf4 x.Flow a b+(sumN (Qgm (Lf L) a b) i - sumN (Qgm (Lf L) b a) i)
 |0,_=>by simp[Qgo,sumN]
 |i+1,hi=>by
  have ih:=Qso h hL a b i (by omega);have hok:=Qm6 h hL i (by omega);obtain⟨u,hu⟩: ∃u,L[i]? =some u:=⟨_,List.getElem?_eq_getElem (by omega)⟩;obtain⟨v,hv⟩: ∃v,L[i+1]? =some v:=⟨_,List.getElem?_eq_getElem hi⟩;have hub:=hL u (List.mem_of_getElem? hu);have hvb:=hL v (List.mem_of_getElem? hv);obtain⟨u',rfl⟩: ∃u':Nat,u=u':=⟨u.toNat,by omega⟩;obtain⟨v',rfl⟩: ∃v':Nat,v=v':=⟨v.toNat,by omega⟩;simp only[Qgo,Qaba,hu,hv,Option.getD_some];rw[Qe2 (n:=n) (by rw[Qdl];exact hok.f) (Qcw hok.ff _ _ _ (by rw[hok.f];simp;omega)) _ (by omega) (by omega),
   Qe2 hok.f hok.ff _ (by omega) (by omega),ih]
  have e1:Lf L i=u':=by simp[Lf,hu]
  have e2:Lf L (i+1)=v':=by simp[Lf,hv]
  simp only[sumN,Qgm,e1,e2];by_cases c1:a=u'<;>by_cases c2:b=v'<;>by_cases c3:a=v'<;>by_cases c4:b=u'<;>simp[c1,c2,c3,c4,eq_comm]<;>omega
structure isWay(x:Nwk)(n:Nat)(p q:Int)(L:List Int):Prop where
 pos:0<L.length
 inb: ∀y∈L,0≤y∧y<n
 hd:L[0]? =some p
 lst:L[L.length - 1]? =some q
 nd: ∀i j,i<L.length→j<L.length→Lf L i=Lf L j→i=j
 free: ∀i,i+1<L.length→Qp4 x (L[i]?.getD 0) (L[i+1]?.getD 0)=true
theorem way_is{x:Nwk}{n:Nat}{p q:Int}(hp0:0≤p)(hp1:p<n)(hq0:0≤q)(hq1:q<n)(hne:wayN x n p q≠[]):isWay x n p q (wayN x n p q):=by
 have hP:wayP x n p (wayE x n p):=Qnt hp0 hp1 n;have hlen:=hP.len;obtain⟨y,hy⟩: ∃y,(wayE x n p).1[q.toNat]? =some y:=⟨_,List.getElem?_eq_getElem (by omega)⟩;have hy0: ¬y<0:=by
  intro h;apply hne;simp only[wayN,hy,Option.getD_some];rw[if_pos h]
 have hqm:q∈(wayE x n p).2:=by
  have:=(hP.mem q.toNat y hy).1 (by omega)
  rwa [show (q.toNat:Int)=q by omega] at this
 obtain⟨i,hi⟩:=List.mem_iff_getElem?.1 hqm;obtain⟨d,hd1,hd2,hd3⟩:=Qq3 hP hi;have hil:=(List.getElem?_eq_some_iff.1 hi).1;have hle:=Qr3 hP;have hst:Qpv (wayE x n p).1 p q n=d:=Qqr (by omega) hd2 hd3;have hW:wayN x n p q=(Qhr (wayE x n p).1 q d).reverse:=by
  simp only[wayN,hy,Option.getD_some];rw[if_neg hy0,hst]
 rw[hW];have hbl:(Qhr (wayE x n p).1 q d).length=d+1:=by simp[Qhr]
 have hget: ∀k,k≤d→(Qhr (wayE x n p).1 q d).reverse[k]? =some (Qcg (wayE x n p).1 q (d - k)):=by
  intro k hk;rw[List.getElem?_reverse (by rw[hbl];omega),hbl,show d+1 - 1 - k=d - k by omega,Qhr,List.getElem?_map,List.getElem?_range (by omega)];rfl
 have hpos: ∀k,k≤d→ ∃j,j+k≤i∧(wayE x n p).2[j]? =some (Qcg (wayE x n p).1 q k):=fun k hk=>Qkm hP hi k (fun j hj=>hd3 j (by omega))
 have hinb: ∀k,k≤d→0≤Qcg (wayE x n p).1 q k∧Qcg (wayE x n p).1 q k<n:=by
  intro k hk;obtain⟨j,_,h2⟩:=hpos k hk;exact hP.q _ (List.mem_of_getElem? h2)
 have hfall: ∀k,k≤d→ ∀e,e≤k→ ∀j j',(wayE x n p).2[j]? =some (Qcg (wayE x n p).1 q k)→(wayE x n p).2[j']? =some (Qcg (wayE x n p).1 q e)→j+(k - e)≤j':=by
  intro k hk e he j j' hj hj';have key: ∀m,e+m≤d→ ∃j2,j2+m≤j'∧(wayE x n p).2[j2]? =some (Qcg (wayE x n p).1 q (e+m)):=by
   intro m;induction m with
   |zero=>intro _;exact⟨j',by omega,hj'⟩
   |succ m ih=>
    intro hm;obtain⟨j2,g1,g2⟩:=ih (by omega);have h0:0<j2:=by
     rcases Nat.eq_zero_or_pos j2 with h0|h0
     ·subst h0;rw[hP.hd] at g2;exact absurd (Option.some.inj g2).symm (hd3 _ (by omega))
     ·exact h0
    obtain⟨j3,u,q1,q2,q3,q4⟩:=hP.prev j2 _ g2 h0;refine⟨j3,by omega,?_⟩;rw[show e+(m+1)=e+m+1 by omega,Qcg,q3,Option.getD_some];exact q2
  obtain⟨j2,g1,g2⟩:=key (k - e) (by omega);rw[show e+(k - e)=k by omega] at g2
  have:=(List.getElem?_inj (List.getElem?_eq_some_iff.1 hj).1 hP.nd).1 (hj.trans g2.symm)
  omega
 have hsep: ∀k e,k≤d→e<k→Qcg (wayE x n p).1 q k≠Qcg (wayE x n p).1 q e:=by
  intro k e hk he heq;obtain⟨j,_,h2⟩:=hpos k hk
  have:=hfall k hk e (by omega) j j h2 (heq▸h2)
  omega
 have hbg: ∀k,k≤d→(Qhr (wayE x n p).1 q d).reverse[k]?.getD 0=Qcg (wayE x n p).1 q (d - k):=fun k hk=>by rw[hget k hk,Option.getD_some]
 refine⟨by rw[List.length_reverse,hbl];omega,fun z hz=> ?_,?_,?_,fun k e hk he hL=> ?_,fun k hk=> ?_⟩
 ·obtain⟨k,hk⟩:=List.mem_iff_getElem?.1 hz;have hkl:=(List.getElem?_eq_some_iff.1 hk).1;rw[List.length_reverse,hbl] at hkl;rw[hget k (by omega)] at hk;obtain rfl:=Option.some.inj hk;exact hinb _ (by omega)
 ·rw[hget 0 (by omega),Nat.sub_zero,hd2]
 ·rw[List.length_reverse,hbl,hget (d+1 - 1) (by omega),show d - (d+1 - 1)=0 by omega];rfl
 ·rw[List.length_reverse,hbl] at hk he;simp only[Lf] at hL;rw[hbg k (by omega),hbg e (by omega)] at hL;have b1:=hinb (d - k) (by omega);have b2:=hinb (d - e) (by omega);have hL2:Qcg (wayE x n p).1 q (d - k)=Qcg (wayE x n p).1 q (d - e):=by omega
  rcases Nat.lt_trichotomy (d - k) (d - e) with h|h|h
  ·exact absurd hL2.symm (hsep _ _ (by omega) h)
  ·omega
  ·exact absurd hL2 (hsep _ _ (by omega) h)
 ·rw[List.length_reverse,hbl] at hk;rw[hbg k (by omega),hbg (k+1) (by omega),show d - k=d - (k+1)+1 by omega];exact (back_free hP hi (fun j hj=>hd3 j (by omega))).1
def Qeq(n:Nat)(p q:Int):Nat→Nwk→Int
 |0,_=>0
 |m+1,x=>if wayN x n p q=[] then 0 else Qeq n p q m (Qgo x (wayN x n p q) ((wayN x n p q).length - 1))+1
def rmF(x:Nwk)(a b:Nat):Int:=Qf4 x.Room a b
def flF(x:Nwk)(a b:Nat):Int:=Qf4 x.Flow a b
theorem Qun{x:Nwk}{n:Nat}(h:Qjx x n){p q:Int}(hp0:0≤p)(hp1:p<n)(hpq:p≠q)(hq0:0≤q){v:Int}(hf:Qh5 (rmF x) (flF x) n p.toNat q.toNat v){L:List Int}(hL:isWay x n p q L):
 Qjx (Qgo x L (L.length - 1)) n∧Qh5 (rmF x) (flF (Qgo x L (L.length - 1))) n p.toNat q.toNat (v+1):=by
 have hpos:=hL.pos;have hlf: ∀i,i<L.length→(L[i]?.getD 0).toNat=Lf L i∧Lf L i<n:=by
  intro i hi;refine⟨rfl,?_⟩;simp only[Lf];rw[List.getElem?_eq_getElem hi,Option.getD_some]
  have:=hL.inb _ (List.getElem_mem hi)
  omega
 refine⟨Qm6 h hL.inb _ (by omega),flow_push (m:=L.length - 1) (L:=Lf L) hf (fun i j hi hj=>hL.nd i j (by omega) (by omega)) (fun i hi=>(hlf i (by omega)).2) ?_ ?_ (by omega) (by omega) (fun i hi=> ?_) (fun a b _ _=>Qso h hL.inb a b _ (by omega))⟩
 ·simp only[Lf,hL.hd,Option.getD_some]
 ·simp only[Lf,hL.lst,Option.getD_some]
 ·exact of_decide_eq_true (hL.free i (by omega))
theorem Qaa3{n:Nat}{p q:Int}(hp0:0≤p)(hp1:p<n)(hpq:p≠q)(hq0:0≤q)(hq1:q<n): ∀(m:Nat) (x:Nwk) (v:Int),Qjx x n→Qh5 (rmF x) (flF x) n p.toNat q.toNat v→
 (Qeq n p q m x=m∧ ∀S:Nat→Bool,S p.toNat=true→S q.toNat=false→v+m≤cutF (rmF x) n S)∨(Qeq n p q m x<m∧ ∃S:Nat→Bool,S p.toNat=true∧S q.toNat=false∧cutF (rmF x) n S=v+Qeq n p q m x)
 |0,x,v,h,hf=> .inl ⟨rfl,fun S h1 h2=>by have:=Qw8 hf (by omega) h1 h2;simpa using this⟩
 |m+1,x,v,h,hf=>by
  by_cases hw:wayN x n p q=[]
  ·refine .inr ?_;have e:Qeq n p q (m+1) x=0:=by simp only[Qeq];rw[if_pos hw]
   rw[e];refine⟨by omega,fun u=>decide (0≤(wayE x n p).1[u]?.getD (-1)),?_,?_,?_⟩
   ·have:=(Qnt (x:=x) hp0 hp1 n).pp
    simp only[wayE,this,Option.getD_some,decide_eq_true_eq];exact hp0
   ·have hlen:=(Qnt (x:=x) hp0 hp1 n).len;obtain⟨y,hy⟩: ∃y,(wayE x n p).1[q.toNat]? =some y:=⟨_,List.getElem?_eq_getElem (by simp only[wayE];omega)⟩;simp only[hy,Option.getD_some,decide_eq_false_iff_not];intro h0;simp only[wayN,hy,Option.getD_some] at hw;rw[if_neg (by omega)] at hw;simp[Qhr] at hw
   ·have:=Qxp (S:=fun u=>decide (0≤(wayE x n p).1[u]?.getD (-1))) hf (by omega) ?_ ?_ ?_
    ·omega
    ·have:=(Qnt (x:=x) hp0 hp1 n).pp
     simp only[wayE,this,Option.getD_some,decide_eq_true_eq];exact hp0
    ·have hlen:=(Qnt (x:=x) hp0 hp1 n).len;obtain⟨y,hy⟩: ∃y,(wayE x n p).1[q.toNat]? =some y:=⟨_,List.getElem?_eq_getElem (by simp only[wayE];omega)⟩;simp only[hy,Option.getD_some,decide_eq_false_iff_not];intro h0;simp only[wayN,hy,Option.getD_some] at hw;rw[if_neg (by omega)] at hw;simp[Qhr] at hw
    ·intro u w hu hw' h1 h2;simp only[decide_eq_true_eq,decide_eq_false_iff_not] at h1 h2;have hlen:=(Qnt (x:=x) hp0 hp1 n).len;obtain⟨y,hy⟩: ∃y,(wayE x n p).1[u]? =some y:=⟨_,List.getElem?_eq_getElem (by simp only[wayE];omega)⟩;rw[hy,Option.getD_some] at h1;by_cases hfr:Qp4 x u w=true
     ·obtain⟨z,g1,g2⟩:=Qww x hp0 hp1 hy h1 hw' hfr;rw[g1,Option.getD_some] at h2;omega
     ·have h3: ¬(Qzr x u w<Qyw x u w):=fun h=>hfr (decide_eq_true h)
      rw[flowAt_eq,roomAt_eq,Int.toNat_natCast,Int.toNat_natCast] at h3;simp only[rmF,flF];omega
  ·have hW:=way_is hp0 hp1 hq0 hq1 hw;obtain⟨g1,g2⟩:=Qun h hp0 hp1 hpq hq0 hf hW;have hrm:rmF (Qgo x (wayN x n p q) ((wayN x n p q).length - 1))=rmF x:=by funext a b;simp only[rmF,Ql3]
   rw[←hrm] at g2;have ih:=Qaa3 hp0 hp1 hpq hq0 hq1 m _ _ g1 g2;rw[hrm] at ih;have e:Qeq n p q (m+1) x=Qeq n p q m (Qgo x (wayN x n p q) ((wayN x n p q).length - 1))+1:=by simp only[Qeq];rw[if_neg hw]
   rw[e];rcases ih with ⟨h1,h2⟩|⟨h1,S,h2,h3,h4⟩
   ·exact .inl ⟨by omega,fun S hS hT=>by have:=h2 S hS hT;omega⟩
   ·exact .inr ⟨by omega,S,h2,h3,by omega⟩
end Go.Ae
namespace Go.Ae
open Go.Proofs
def netZ(n:Nat):Nwk:=⟨List.replicate n (List.replicate n 0),List.replicate n (List.replicate n 0)⟩
def addB(x:Nwk)(b:Bond):Nwk:=⟨Qft (Qft x.Room b.A b.B b.Strength) b.B b.A b.Strength,x.Flow⟩
def netK(n:Nat)(bs:List Bond):Nat→Nwk
 |0=>netZ n
 |k+1=>match bs[k]? with
  |some b=>addB (netK n bs k) b
  |none=>netK n bs k
def netF(n:Nat)(bs:List Bond):Nwk:=netK n bs bs.length
theorem Qhc{n:Nat}{bs:List Bond}(hb:Qdm n bs): ∀k,Qjx (netK n bs k) n∧(netK n bs k).Flow=List.replicate n (List.replicate n 0)
 |0=>⟨⟨by simp[netK,netZ],by simp[netK,netZ],fun l hl=>by rw[List.eq_of_mem_replicate hl];simp,fun l hl=>by rw[List.eq_of_mem_replicate hl];simp⟩,rfl⟩
 |k+1=>by
  obtain⟨ih,ih2⟩:=Qhc hb k;simp only[netK];split
  ·rename_i b hbk;obtain⟨b1,b2,b3,b4⟩:=hb b (List.mem_of_getElem? hbk);refine⟨⟨by simp only[addB,Qdl];exact ih.r,ih.f,?_,ih.ff⟩,ih2⟩;exact Qcw (Qcw ih.rr _ _ _ (by rw[ih.r];omega)) _ _ _ (by rw[Qdl,ih.r];omega)
  ·exact⟨ih,ih2⟩
def cutW(S:Nat→Bool):List Bond→Int
 |[]=>0
 |b::r=>(if S b.A.toNat=S b.B.toNat then 0 else b.Strength)+cutW S r
theorem Qaat(S:Nat→Bool): ∀(a b:List Bond),cutW S (a++b)=cutW S a+cutW S b
 |[],b=>by simp[cutW]
 |x::r,b=>by simp only[List.cons_append,cutW,Qaat S r b];omega
theorem sum_two(n u v:Nat)(hu:u<n)(hv:v<n)(c:Int)(g:Nat→Nat→Bool):sumN (fun a=>sumN (fun b=>if g a b=true then (if a=u∧b=v then c else 0) else 0) n) n=if g u v=true then c else 0:=by
 have h1:sumN (fun a=>sumN (fun b=>if g a b=true then (if a=u∧b=v then c else 0) else 0) n) n=sumN (fun a=>if a=u then (if g u v=true then c else 0) else 0) n:=by
  refine Qa4 fun a _=> ?_
  by_cases ha:a=u
  ·subst ha;rw[if_pos rfl];have h2:sumN (fun b=>if g a b=true then (if a=a∧b=v then c else 0) else 0) n=sumN (fun b=>if b=v then (if g a v=true then c else 0) else 0) n:=by
    refine Qa4 fun b _=> ?_
    by_cases hb:b=v
    ·subst hb;simp
    ·simp[hb]
   rw[h2,Qeo,if_pos hv]
  ·rw[if_neg ha];refine (Qa4 fun b _=> ?_).trans (Qc1 n);simp[ha]
 rw[h1,Qeo,if_pos hu]
theorem Qnz{l:List (List Int)}{n:Nat}(hl:l.length=n)(h: ∀r∈l,r.length=n){u v:Nat}(d:Int)(hu:u<n)(hv:v<n)(S:Nat→Bool):
 cutF (fun a b=>Qf4 (Qft l u v d) a b) n S=cutF (fun a b=>Qf4 l a b) n S+if S u=true∧S v=false then d else 0:=by
 have h1:sumN (fun a=>sumN (fun b=>if (S a && !S b)=true then (if a=u∧b=v then d else 0) else 0) n) n=if (S u && !S v)=true then d else 0:=sum_two n u v hu hv d (fun a b=>S a && !S b)
 have h2:(if (S u && !S v)=true then d else 0)=if S u=true∧S v=false then d else 0:=by
  cases S u<;>cases S v<;>simp
 rw[h2] at h1;rw[←h1,cutF,cutF,←Qdo];refine Qa4 fun a _=> ?_
 rw[←Qdo];refine Qa4 fun b _=> ?_
 rw[Qe2 hl h d hu hv a b];cases S a<;>cases S b<;>simp
theorem cut_net{n:Nat}{bs:List Bond}(hb:Qdm n bs)(S:Nat→Bool): ∀k,k≤bs.length→cutF (rmF (netK n bs k)) n S=cutW S (bs.take k)
 |0,_=>by
  simp only[List.take_zero,cutW,cutF];refine (Qa4 fun u hu=> ?_).trans (Qc1 n);refine (Qa4 fun w hw=> ?_).trans (Qc1 n)
  have:rmF (netK n bs 0) u w=0:=by
   simp only[rmF,netK,netZ,Qf4];rw[List.getElem?_replicate,if_pos hu,Option.getD_some,List.getElem?_replicate,if_pos hw,Option.getD_some]
  rw[this];split<;>rfl
 |k+1,hk=>by
  obtain⟨b,hbk⟩: ∃b,bs[k]? =some b:=⟨_,List.getElem?_eq_getElem hk⟩;have ih:=cut_net hb S k (by omega);obtain⟨hok,_⟩:=Qhc hb k;obtain⟨b1,b2,b3,b4⟩:=hb b (List.mem_of_getElem? hbk);have e:bs.take (k+1)=bs.take k++[b]:=by rw[List.take_add_one,hbk];rfl
  rw[e,Qaat,←ih];have e1:rmF (netK n bs (k+1))=fun x y=>Qf4 (Qft (Qft (netK n bs k).Room (b.A.toNat:Int) (b.B.toNat:Int) b.Strength) (b.B.toNat:Int) (b.A.toNat:Int) b.Strength) x y:=by
   funext x y;simp only[rmF,netK,hbk,addB];rw[show ((b.A.toNat:Nat):Int)=b.A by omega,show ((b.B.toNat:Nat):Int)=b.B by omega]
  rw[e1,Qnz (by rw[Qdl];exact hok.r) (Qcw hok.rr _ _ _ (by rw[hok.r];simp;omega)) _ (by omega) (by omega),Qnz hok.r hok.rr _ (by omega) (by omega)];simp only[cutW]
  have:cutF (fun a b=>Qf4 (netK n bs k).Room a b) n S=cutF (rmF (netK n bs k)) n S:=rfl
  rw[this];cases S b.A.toNat<;>cases S b.B.toNat<;>simp<;>omega
theorem cut_netF{n:Nat}{bs:List Bond}(hb:Qdm n bs)(S:Nat→Bool):cutF (rmF (netF n bs)) n S=cutW S bs:=by
 rw[netF,cut_net hb S _ (Nat.le_refl _),List.take_length]
theorem Qpz{n:Nat}{bs:List Bond}(hb:Qdm n bs)(hs:Qmw bs)(a b:Nat): ∀k,0≤rmF (netK n bs k) a b
 |0=>by
  simp only[rmF,netK,netZ,Qf4,List.getElem?_replicate];split
  ·rw[Option.getD_some,List.getElem?_replicate];split<;>simp
  ·simp
 |k+1=>by
  have ih:=Qpz hb hs a b k;obtain⟨hok,_⟩:=Qhc hb k;simp only[rmF,netK] at ih⊢;split
  ·rename_i x hx;obtain⟨b1,b2,b3,b4⟩:=hb x (List.mem_of_getElem? hx);have h0:=(hs x (List.mem_of_getElem? hx)).1;simp only[addB];rw[show x.A=(x.A.toNat:Int) by omega,show x.B=(x.B.toNat:Int) by omega];rw[Qe2 (n:=n) (by rw[Qdl];exact hok.r) (Qcw hok.rr _ _ _ (by rw[hok.r];simp;omega)) _ (by omega) (by omega),Qe2 hok.r hok.rr _ (by omega) (by omega)]
   split<;>split<;>omega
  ·exact ih
theorem Qaae{n:Nat}{bs:List Bond}(hb:Qdm n bs)(hs:Qmw bs)(p q:Nat):Qh5 (rmF (netF n bs)) (flF (netF n bs)) n p q 0:=by
 have hz: ∀a b,flF (netF n bs) a b=0:=by
  intro a b;simp only[flF,netF,(Qhc hb bs.length).2,Qf4,List.getElem?_replicate];split
  ·rw[Option.getD_some,List.getElem?_replicate];split<;>simp
  ·simp
 refine⟨fun u w _ _=>by rw[hz,hz];rfl,fun u w _ _=> ?_,fun u _ _ _=>(Qa4 fun i _=>hz u i).trans (Qc1 n),(Qa4 fun i _=>hz p i).trans (Qc1 n)⟩;rw[hz];exact Qpz hb hs u w bs.length
def Qka(n:Nat)(bs:List Bond)(t:Int)(k:Nat):Prop:= ∀S:Nat→Bool,S 0=true→(∃y,0<y∧y≤k∧y<n∧S y=false)→t≤cutW S bs
def Qid(n:Nat)(bs:List Bond)(t:Int):Nat→Bool
 |0=>true
 |k+1=>Qid n bs t k && decide (t≤Qeq n 0 ((k:Int)+1) t.toNat (netF n bs))
theorem Qtt{n:Nat}{bs:List Bond}(hb:Qdm n bs)(hs:Qmw bs){t:Int}(ht:0≤t): ∀k,k<n→(Qid n bs t k=true↔Qka n bs t k)
 |0,_=>by
  simp only[Qid,true_iff];rintro S _ ⟨y,h1,h2,_⟩;omega
 |k+1,hk=>by
  have ih:=Qtt hb hs ht k (by omega);have hl:=Qaa3 (n:=n) (p:=0) (q:=(k:Int)+1) (by omega) (by omega) (by omega) (by omega) (by omega) t.toNat (netF n bs) 0 (Qhc hb bs.length).1 (Qaae hb hs _ _);simp only[Int.toNat_zero,show ((k:Int)+1).toNat=k+1 by omega,Int.zero_add,cut_netF hb] at hl;simp only[Qid,Bool.and_eq_true,decide_eq_true_eq,ih];rcases hl with ⟨h1,h2⟩|⟨h1,S,h2,h3,h4⟩
  ·constructor
   ·rintro⟨g1,g2⟩ S hS ⟨y,y1,y2,y3,y4⟩;by_cases hy:y≤k
    ·exact g1 S hS ⟨y,y1,hy,y3,y4⟩
    ·have:=h2 S hS (by rw[show k+1=y by omega];exact y4)
     omega
   ·intro h;exact⟨fun S hS ⟨y,y1,y2,y3,y4⟩=>h S hS ⟨y,y1,by omega,y3,y4⟩,by omega⟩
  ·constructor
   ·rintro⟨_,g2⟩;omega
   ·intro h
    have:=h S h2 ⟨k+1,by omega,by omega,hk,h3⟩
    omega
end Go.Ae
namespace Go.Ae
open Go.Proofs
theorem Qt7{n:Net}(hn:Qcf n)(hc:Qib n){q:Int}{st qu:List Int}(hlen:st.length=n.Cnt.toNat)(hP:bfsP n q (st,qu)){p:Int}(hp0:0≤p)(hp1:p<n.Cnt){d:Nat}(hd:st[p.toNat]? =some (d:Int))(w:Int):
 ∀k,k≤d→outQ (Qbd n st p k).1 w=outQ n w+(if p=w then 1 else 0) - (if (Qbd n st p k).2=w then 1 else 0)
 |0,_=>by simp only[Qbd];omega
 |k+1,hk=>by
  have ih:=Qt7 hn hc hlen hP hp0 hp1 hd w k (by omega);have hI:=Qi4 hn hc hlen hP hp0 hp1 hd k (by omega);obtain⟨m,r,hm,hr,hg,hst,hwc⟩:=Qk0 hn hlen hP (by omega) hI;have hr':(Qbd n st p k).1.At[m]? =some r:=by rw[hI.at_];exact hr
  have e:(Qbd n st p (k+1)).1=Qhp (Qbd n st p k).1 m (Qf5 (Qbd n st p k).1 st m).2:=by simp only[Qbd,hm]
  have e2:(Qbd n st p (k+1)).2=(Qf5 (Qbd n st p k).1 st m).1:=by simp only[Qbd,hm]
  rw[e,e2,Qzc hI.ok hr' hg.1,hg.2.2.1,ih,hm];have hwl:=hg.2.2.2.1;rw[Int.toNat_natCast,hst,Option.getD_some] at hwl;have hne:(m:Int)≠(Qf5 (Qbd n st p k).1 st m).1:=by
   intro he;rw[←he,Int.toNat_natCast,hst,Option.getD_some] at hwl;omega
  obtain⟨z,hz⟩: ∃z,z=(Qf5 (Qbd n st p k).1 st m).1:=⟨_,rfl⟩;rw[←hz] at hne⊢;by_cases c1:p=w<;>by_cases c2:(m:Int)=w<;>by_cases c3:z=w<;>simp only[c1,c2,c3,if_true,if_false]<;>omega
def Qabr(n:Net)(p q:Int):Prop:= ∀w,w≠p→w≠q→outQ n w=0
theorem grow_cons{n:Net}(hn:Qcf n)(hc:Qib n){p q:Int}(hp0:0≤p)(hp1:p<n.Cnt)(hq0:0≤q)(hq1:q<n.Cnt)(hg:(Qd6 n p q).2=true)(hco:Qabr n p q):Qabr (Qd6 n p q).1 p q:=by
 have hlen:=Qgs hn hq0 hq1;have hP:bfsP n q (Qcb n q,(Qbu n q n.Cnt.toNat).2):=Qabw hn hq0 hq1 n.Cnt.toNat;obtain⟨x,hx⟩: ∃x,(Qcb n q)[p.toNat]? =some x:=⟨_,List.getElem?_eq_getElem (by omega)⟩;intro w h1 h2;simp only[Qd6,hx,Option.getD_some] at hg⊢;by_cases h:x<0
 ·rw[if_pos h] at hg;simp at hg
 ·obtain⟨d,rfl⟩: ∃d:Nat,x=d:=⟨x.toNat,by omega⟩;rw[if_neg h,Int.toNat_natCast];have hI:=Qi4 hn hc hlen hP hp0 hp1 hx d (Nat.le_refl _);obtain⟨m,hm,hmc,hst⟩:=hI.v;have hmq:m=q.toNat:=hP.uniq m (by rw[hst];congr 1;omega);have ho:=Qt7 hn hc hlen hP hp0 hp1 hx w d (Nat.le_refl _);rw[if_neg (Ne.symm h1),hm,if_neg (by omega),hco w h1 h2] at ho;simpa using ho
theorem Que{p q:Int}(hp0:0≤p)(hq0:0≤q)(hpq:p≠q): ∀(m:Nat) (n:Net),Qcf n→Qib n→p<n.Cnt→q<n.Cnt→Qabr n p q→Qcf (Qfj p q m n).1∧Qib (Qfj p q m n).1∧(Qfj p q m n).1.Cnt=n.Cnt∧(Qfj p q m n).1.Bonds=n.Bonds∧
 (Qfj p q m n).1.At=n.At∧Qabr (Qfj p q m n).1 p q∧outQ (Qfj p q m n).1 p=outQ n p+(Qfj p q m n).2∧0≤(Qfj p q m n).2∧((Qfj p q m n).2=m∨(Qd6 (Qfj p q m n).1 p q).2=false)
 |0,n,h1,h2,_,_,h5=>⟨h1,h2,rfl,rfl,rfl,h5,by simp[Qfj],by simp[Qfj],.inl (by simp[Qfj])⟩
 |m+1,n,h1,h2,h3,h4,h5=>by
  simp only[Qfj];by_cases hg:(Qd6 n p q).2=true
  ·rw[if_pos hg];obtain⟨g1,g2,g3,g4,g5,g6⟩:=grow_ok h1 h2 hp0 h3 hq0 h4 hpq hg;have g7:=grow_cons h1 h2 hp0 h3 hq0 h4 hg h5;obtain⟨k1,k2,k3,k4,k5,k6,k7,k8,k9⟩:=Que hp0 hq0 hpq m _ g1 g2 (by omega) (by omega) g7;refine⟨k1,k2,k3.trans g3,k4.trans g4,k5.trans g5,k6,by simp only;omega,by simp only;omega,?_⟩;rcases k9 with h|h
   ·exact .inl (by simp only;omega)
   ·exact .inr h
  ·rw[if_neg hg];exact⟨h1,h2,rfl,rfl,rfl,h5,by simp,by simp,.inr (by simpa using hg)⟩
theorem Qu0{n:Int}{bs:List Bond}(h:Qhu (n,bs))(hs:Qmw bs){p q:Int}(hp0:0≤p)(hq0:0≤q)(hp1:p<n)(hq1:q<n)(hpq:p≠q):Qcf (Qcz n bs p q).1∧Qib (Qcz n bs p q).1∧(Qcz n bs p q).1.Cnt=n∧(Qcz n bs p q).1.Bonds=bs∧
 (Qcz n bs p q).1.At=(newN n bs).At∧Qabr (Qcz n bs p q).1 p q∧outQ (Qcz n bs p q).1 p=(Qcz n bs p q).2∧0≤(Qcz n bs p q).2∧(Qd6 (Qcz n bs p q).1 p q).2=false:=by
 obtain⟨h1,h2⟩:=newN_ok h hs;obtain⟨k1,k2,k3,k4,k5,k6,k7,k8,k9⟩:=Que hp0 hq0 hpq ((bs.map Bond.Strength).sum.toNat+1) (newN n bs) h1 h2 hp1 hq1 (fun w _ _=>Qtg w);rw[Qtg,Int.zero_add] at k7;refine⟨k1,k2,k3,k4,k5,k6,k7,k8,?_⟩;rcases k9 with h9|h9
 ·exfalso;have h4:(Qfj p q ((bs.map Bond.Strength).sum.toNat+1) (newN n bs)).1.Bonds=bs:=k4
  have:=out_le k1 k2 p
  rw[h4] at this;omega
 ·exact h9
theorem Qaau{n:Net}(hn:Qcf n){v:Nat}{r:List Int}(hr:n.At[v]? =some r){y:Int}(hy0:0≤y): ∀(l:List Int) (s:List Int×List Int),(∀i∈l,i∈r)→Qkd n s→s.1[v]? =some y→ ∀i∈l,0<(Qb9 n (Qbg n v i) i).1→ ∃z,(l.foldl (bfs1 n v) s).1[(Qbg n v i).toNat]? =some z∧0≤z
 |[],s,_,_,_,i,hi,_=>by cases hi
 |j::l,s,hl,hs,hv,i,hi,hro=>by
  have hj:=hl j (List.mem_cons_self ..);rcases List.mem_cons.1 hi with rfl|hi
  ·obtain⟨_,_,o1,o2⟩:=Qhm hn hr hj;obtain⟨z,hz⟩: ∃z,s.1[(Qbg n v i).toNat]? =some z:=⟨_,List.getElem?_eq_getElem (by rw[hs.len];omega)⟩;have key: ∃z,(bfs1 n v s i).1[(Qbg n v i).toNat]? =some z∧0≤z:=by
    by_cases h0:0≤z
    ·exact⟨z,Qh0 n v s i _ z hz h0,h0⟩
    ·refine⟨y+1,?_,by omega⟩;simp only[bfs1];rw[if_pos ⟨by rw[hz,Option.getD_some];omega,hro⟩,Int.toNat_natCast,hv,Option.getD_some];exact List.getElem?_set_self (by rw[hs.len];omega)
   obtain⟨z',g1,g2⟩:=key;exact⟨z',Qor n v _ z' g2 l _ g1,g2⟩
  ·exact Qaau hn hr hy0 l _ (fun j hj=>hl j (List.mem_cons_of_mem _ hj)) (Qtm hn hr hj hs) (Qh0 n v s j v y hv hy0) i hi hro
theorem Qzj(n:Net)(v:Int): ∀(l:List Int) (s:List Int×List Int),∃e,(l.foldl (bfs1 n v) s).2=s.2++e
 |[],s=>⟨[],by simp⟩
 |i::l,s=>by
  obtain⟨e,he⟩:=Qzj n v l (bfs1 n v s i);simp only[List.foldl_cons,he];simp only[bfs1];split
  ·exact⟨[Qbg n v i]++e,by simp⟩
  ·exact⟨e,rfl⟩
theorem bfs_ext(n:Net)(q:Int)(k:Nat): ∃e,(Qbu n q (k+1)).2=(Qbu n q k).2++e:=by
 rw[Qbu];split
 ·exact⟨[],by simp⟩
 ·exact Qzj n _ _ _
theorem bfs_keep1(n:Net)(q:Int)(u:Nat)(y:Int)(h0:0≤y)(k:Nat)(h:(Qbu n q k).1[u]? =some y):(Qbu n q (k+1)).1[u]? =some y:=by
 rw[Qbu];split
 ·exact h
 ·exact Qor n _ u y h0 _ _ h
theorem Qzn{n:Net}(hn:Qcf n){q:Int}(h0:0≤q)(h1:q<n.Cnt): ∀(k j:Nat) (v:Int),j<k→(Qbu n q k).2[j]? =some v→ ∀(r:List Int),n.At[v.toNat]? =some r→ ∀i∈r,0<(Qb9 n (Qbg n v i) i).1→ ∃z,(Qbu n q k).1[(Qbg n v i).toNat]? =some z∧0≤z
 |0,j,v,hj,_,_,_,_,_,_=>by omega
 |k+1,j,v,hj,hv,r,hr,i,hi,hro=>by
  obtain⟨e,he⟩:=bfs_ext n q k;by_cases hjl:j<(Qbu n q k).2.length
  ·rw[he,List.getElem?_append_left hjl] at hv;by_cases hjk:j<k
   ·obtain⟨z,g1,g2⟩:=Qzn hn h0 h1 k j v hjk hv r hr i hi hro;exact⟨z,bfs_keep1 n q _ z g2 k g1,g2⟩
   ·have:j=k:=by omega
    subst this;have hI:=Qg5 hn h0 h1 j;have hPk:=Qabw hn h0 h1 j;have hvq:=hI.q v (List.mem_of_getElem? hv);obtain⟨m,rfl⟩: ∃m:Nat,v=m:=⟨v.toNat,by omega⟩;obtain⟨y,hy,hy0⟩:=hPk.qs _ (List.mem_of_getElem? hv);rw[Int.toNat_natCast] at hy hr;rw[Qbu,hv];simp only[Int.toNat_natCast,hr,Option.getD_some];exact Qaau hn hr hy0 r _ (fun _ h=>h) hI hy i hi hro
  ·have e1:Qbu n q (k+1)=Qbu n q k:=by rw[Qbu,List.getElem?_eq_none (by omega)]
   rw[e1] at hv
   have:=(List.getElem?_eq_some_iff.1 hv).1
   omega
theorem bfs_in{n:Net}(hn:Qcf n){q:Int}(h0:0≤q)(h1:q<n.Cnt): ∀(k u:Nat) (y:Int),(Qbu n q k).1[u]? =some y→0≤y→(u:Int)∈(Qbu n q k).2
 |0,u,y,hu,hy=>by
  have hq:q.toNat<n.Cnt.toNat:=by omega
  simp only[Qbu] at hu⊢;by_cases h:q.toNat=u
  ·rw[List.mem_singleton];omega
  ·rw[List.getElem?_set_ne h] at hu
   have:=List.eq_of_mem_replicate (List.mem_of_getElem? hu)
   omega
 |k+1,u,y,hu,hy=>by
  have ih:=bfs_in hn h0 h1 k;have hI:=Qg5 hn h0 h1 k;have hone: ∀(v:Int) (l:List Int) (s:List Int×List Int),(∀i∈l,0≤Qbg n v i)→(∀(u:Nat) (y:Int),s.1[u]? =some y→0≤y→(u:Int)∈s.2)→ ∀(u:Nat) (y:Int),(l.foldl (bfs1 n v) s).1[u]? =some y→0≤y→(u:Int)∈(l.foldl (bfs1 n v) s).2:=by
   intro v l;induction l with
   |nil=>intro s _ hs;exact hs
   |cons i l ihl=>
    intro s hl hs;refine ihl _ (fun j hj=>hl j (List.mem_cons_of_mem _ hj)) ?_;intro u y hu hy;have ho:=hl i (List.mem_cons_self ..);simp only[bfs1] at hu⊢;split at hu
    ·rename_i hc;rw[if_pos hc];simp only[List.mem_append,List.mem_singleton] at hu⊢;by_cases he:(Qbg n v i).toNat=u
     ·right;omega
     ·rw[List.getElem?_set_ne he] at hu;exact .inl (hs u y hu hy)
    ·rename_i hc;rw[if_neg hc];exact hs u y hu hy
  rw[Qbu] at hu⊢;split at hu
  ·exact ih u y hu hy
  ·rename_i v hv;have hvq:=hI.q v (List.mem_of_getElem? hv);obtain⟨m,rfl⟩: ∃m:Nat,v=m:=⟨v.toNat,by omega⟩;obtain⟨r,hr⟩: ∃r,n.At[m]? =some r:=⟨_,List.getElem?_eq_getElem (by have:=hn.al;omega)⟩;simp only[Int.toNat_natCast,hr,Option.getD_some] at hu⊢;exact hone m r _ (fun i hi=>(Qhm hn hr hi).2.2.1) ih u y hu hy
theorem Qmo{n:Net}(hn:Qcf n){q:Int}(h0:0≤q)(h1:q<n.Cnt){v:Nat}{y:Int}(hv:(Qcb n q)[v]? =some y)(hy:0≤y){r:List Int}(hr:n.At[v]? =some r){i:Int}(hi:i∈r)(hro:0<(Qb9 n (Qbg n v i) i).1):
 ∃z,(Qcb n q)[(Qbg n v i).toNat]? =some z∧0≤z:=by
 have hm:=bfs_in hn h0 h1 n.Cnt.toNat v y hv hy;obtain⟨j,hj⟩:=List.mem_iff_getElem?.1 hm;have hjl:=(List.getElem?_eq_some_iff.1 hj).1;have hle:=Qkx hn.c0 (Qg5 hn h0 h1 n.Cnt.toNat);exact Qzn hn h0 h1 n.Cnt.toNat j v (by omega) hj r (by rwa [Int.toNat_natCast]) i hi hro
def outS(n:Net)(S:Nat→Bool):Int:=(List.zipWith (fun b f=>(if S b.A.toNat=true then f else 0) - (if S b.B.toNat=true then f else 0)) n.Bonds n.Flow).sum
theorem Qaay(S:Nat→Bool)(m:Nat): ∀(bs:List Bond) (fs:List Int),(∀b∈bs,0≤b.A∧b.A<m∧0≤b.B∧b.B<m∧b.A≠b.B)→
 sumN (fun v=>if S v=true then (List.zipWith (ctr (v:Int)) bs fs).sum else 0) m=(List.zipWith (fun b f=>(if S b.A.toNat=true then f else 0) - (if S b.B.toNat=true then f else 0)) bs fs).sum
 |[],fs,_=>by
  simp only[List.zipWith_nil_left,List.sum_nil];refine (Qa4 fun i _=> ?_).trans (Qc1 m)
  split<;>rfl
 |b::bs,[],_=>by
  simp only[List.zipWith_nil_right,List.sum_nil];refine (Qa4 fun i _=> ?_).trans (Qc1 m)
  split<;>rfl
 |b::bs,f::fs,h=>by
  have ih:=Qaay S m bs fs (fun x hx=>h x (List.mem_cons_of_mem _ hx));obtain⟨b1,b2,b3,b4,b5⟩:=h b (List.mem_cons_self ..);simp only[List.zipWith_cons_cons,List.sum_cons];rw[←ih];have e:sumN (fun v=>if S v=true then ctr (v:Int) b f+(List.zipWith (ctr (v:Int)) bs fs).sum else 0) m=
   (sumN (fun v=>if v=b.A.toNat then (if S b.A.toNat=true then f else 0) else 0) m+ - sumN (fun v=>if v=b.B.toNat then (if S b.B.toNat=true then f else 0) else 0) m)+sumN (fun v=>if S v=true then (List.zipWith (ctr (v:Int)) bs fs).sum else 0) m:=by
   rw[←Qk3,←Qdo,←Qdo];refine Qa4 fun v _=> ?_
   simp only[ctr];by_cases c1:v=b.A.toNat
   ·have c2: ¬v=b.B.toNat:=by omega
    rw[if_pos (show b.A=(v:Int) by omega),if_pos c1,if_neg c2,←c1];cases S v<;>simp
   ·rw[if_neg (show ¬b.A=(v:Int) by omega),if_neg c1];by_cases c2:v=b.B.toNat
    ·rw[if_pos (show b.B=(v:Int) by omega),if_pos c2,←c2];cases S v<;>simp
    ·rw[if_neg (show ¬b.B=(v:Int) by omega),if_neg c2];cases S v<;>simp
  rw[e,Qeo,Qeo,if_pos (show b.A.toNat<m by omega),if_pos (show b.B.toNat<m by omega)];omega
theorem out_val{n:Net}(hn:Qcf n){p q:Int}(hp0:0≤p)(hp1:p<n.Cnt)(hco:Qabr n p q){S:Nat→Bool}(hS:S p.toNat=true)(hT:S q.toNat=false)(hq0:0≤q):outS n S=outQ n p:=by
 have h1:=Qaay S n.Cnt.toNat n.Bonds n.Flow (fun b hb=>by
  have:=hn.bs b hb
  have:=hn.ne b hb
  omega)
 rw[outS,←h1];have h2:sumN (fun v=>if S v=true then (List.zipWith (ctr (v:Int)) n.Bonds n.Flow).sum else 0) n.Cnt.toNat=sumN (fun v=>if v=p.toNat then outQ n p else 0) n.Cnt.toNat:=by
  refine Qa4 fun v hv=> ?_
  by_cases hvp:v=p.toNat
  ·subst hvp;rw[if_pos rfl,if_pos hS,show ((p.toNat:Nat):Int)=p by omega];rfl
  ·rw[if_neg hvp];cases hSv:S v with
   |false=>rw[if_neg (by simp)]
   |true=>
    rw[if_pos rfl];have hvq:v≠q.toNat:=fun he=>by rw[he,hT] at hSv;cases hSv
    exact hco v (by omega) (by omega)
 rw[h2,Qeo,if_pos (by omega)]
theorem Qw5(S:Nat→Bool): ∀(bs:List Bond) (fs:List Int),(∀(i:Nat) b f,bs[i]? =some b→fs[i]? =some f→ -b.Strength≤f∧f≤b.Strength)→(∀b∈bs,0≤b.Strength)→(List.zipWith (fun b f=>(if S b.A.toNat=true then f else 0) - (if S b.B.toNat=true then f else 0)) bs fs).sum≤cutW S bs
 |[],_,_,_=>by simp[cutW]
 |x::r,[],_,hs=>by
  have h1:=Qw5 S r [] (fun i b f _ h=>by simp at h) (fun b hb=>hs b (List.mem_cons_of_mem _ hb));have h2:=hs x (List.mem_cons_self ..);simp only[List.zipWith_nil_right,List.sum_nil,cutW] at h1⊢
  split<;>omega
 |x::r,y::s,hc,hs=>by
  have h1:=Qw5 S r s (fun i b f h h'=>hc (i+1) b f (by simpa using h) (by simpa using h')) (fun b hb=>hs b (List.mem_cons_of_mem _ hb));have h3:=hc 0 x y rfl rfl;simp only[List.zipWith_cons_cons,List.sum_cons,cutW];cases S x.A.toNat<;>cases S x.B.toNat<;>simp<;>omega
theorem outS_eq(S:Nat→Bool): ∀(bs:List Bond) (fs:List Int),fs.length=bs.length→(∀(i:Nat) b f,bs[i]? =some b→fs[i]? =some f→(S b.A.toNat=true→S b.B.toNat=false→f=b.Strength)∧(S b.A.toNat=false→S b.B.toNat=true→f= -b.Strength))→(List.zipWith (fun b f=>(if S b.A.toNat=true then f else 0) - (if S b.B.toNat=true then f else 0)) bs fs).sum=cutW S bs
 |[],_,_,_=>by simp[cutW]
 |x::r,[],h,_=>by simp at h
 |x::r,y::s,h,hc=>by
  have h1:=outS_eq S r s (by simpa using h) (fun i b f h h'=>hc (i+1) b f (by simpa using h) (by simpa using h'));obtain⟨h2,h3⟩:=hc 0 x y rfl rfl;simp only[List.zipWith_cons_cons,List.sum_cons,cutW,h1];cases hA:S x.A.toNat<;>cases hB:S x.B.toNat<;>simp
  ·have:=h3 hA hB;omega
  ·exact h2 hA hB
theorem flow_law{n:Int}{bs:List Bond}(h:Qhu (n,bs))(hs:Qmw bs){p q:Int}(hp0:0≤p)(hq0:0≤q)(hp1:p<n)(hq1:q<n)(hpq:p≠q):
 0≤(Qcz n bs p q).2∧(∀S:Nat→Bool,S p.toNat=true→S q.toNat=false→(Qcz n bs p q).2≤cutW S bs)∧ ∃S:Nat→Bool,S p.toNat=true∧S q.toNat=false∧cutW S bs=(Qcz n bs p q).2:=by
 obtain⟨k1,k2,k3,k4,k5,k6,k7,k8,k9⟩:=Qu0 h hs hp0 hq0 hp1 hq1 hpq;obtain⟨N,hN⟩: ∃N,N=(Qcz n bs p q).1:=⟨_,rfl⟩;obtain⟨val,hval⟩: ∃val,val=(Qcz n bs p q).2:=⟨_,rfl⟩;simp only[←hN,←hval] at k1 k2 k3 k4 k5 k6 k7 k8 k9⊢;refine⟨k8,fun S hS hT=> ?_,?_⟩
 ·have h1:=out_val k1 hp0 (by omega) k6 hS hT hq0;have h2:=Qw5 S N.Bonds N.Flow k2 (fun b hb=>(k1.st b hb).1);rw[k4] at h2;simp only[outS,k4] at h1;omega
 ·have hlen:=Qgs k1 hq0 (by omega);obtain⟨x,hx⟩: ∃x,(Qcb N q)[p.toNat]? =some x:=⟨_,List.getElem?_eq_getElem (by omega)⟩;have hx0:x<0:=by
   simp only[Qd6,hx,Option.getD_some] at k9;by_cases h0:x<0
   ·exact h0
   ·rw[if_neg h0] at k9;simp at k9
  have hPz:=(Qabw k1 hq0 (show q<N.Cnt by omega) N.Cnt.toNat).zero;have hPz:(Qcb N q)[q.toNat]? =some 0:=hPz;refine⟨fun v=>decide ((Qcb N q)[v]?.getD 0<0),by simp only[hx,Option.getD_some,decide_eq_true_eq];exact hx0,by simp[hPz],?_⟩;have hS:decide ((Qcb N q)[p.toNat]?.getD 0<0)=true:=by simp only[hx,Option.getD_some,decide_eq_true_eq];exact hx0
  have hT:decide ((Qcb N q)[q.toNat]?.getD 0<0)=false:=by simp[hPz]
  have h1:=out_val (S:=fun v=>decide ((Qcb N q)[v]?.getD 0<0)) k1 hp0 (by omega) k6 hS hT hq0;have h2:=outS_eq (fun v=>decide ((Qcb N q)[v]?.getD 0<0)) N.Bonds N.Flow k1.fl ?_
  ·simp only[outS,k4] at h1;rw[k4] at h2;omega
  ·intro i b f hb hf;have hbb:=k1.bs b (List.mem_of_getElem? hb);have hbn:=k1.ne b (List.mem_of_getElem? hb);obtain⟨⟨rA,a1,a2⟩,⟨rB,c1,c2⟩⟩:=k1.all i b hb;have hcap:=k2 i b f hb hf;obtain⟨yA,hA⟩: ∃y,(Qcb N q)[b.A.toNat]? =some y:=⟨_,List.getElem?_eq_getElem (by omega)⟩;obtain⟨yB,hB⟩: ∃y,(Qcb N q)[b.B.toNat]? =some y:=⟨_,List.getElem?_eq_getElem (by omega)⟩;simp only[hA,hB,Option.getD_some,decide_eq_true_eq,decide_eq_false_iff_not];refine⟨fun e1 e2=> ?_,fun e1 e2=> ?_⟩
   ·
    have ho:Qbg N b.B i=b.A:=by simp only[Qbg,Int.toNat_natCast,hb];omega
    have hr:(Qb9 N b.A i).1=b.Strength - f:=by simp only[Qb9,Int.toNat_natCast,hb,hf,Option.getD_some,if_true]
    by_cases hro:0<b.Strength - f
    ·have:=Qmo k1 hq0 (by omega) (v:=b.B.toNat) hB (by omega) c1 c2 (by rw[show ((b.B.toNat:Nat):Int)=b.B by omega,ho,hr];exact hro)
     rw[show ((b.B.toNat:Nat):Int)=b.B by omega,ho,hA] at this;obtain⟨z,g1,g2⟩:=this
     have:=Option.some.inj g1
     omega
    ·omega
   ·have ho:Qbg N b.A i=b.B:=by simp only[Qbg,Int.toNat_natCast,hb];omega
    have hr:(Qb9 N b.B i).1=b.Strength+f:=by simp only[Qb9,Int.toNat_natCast,hb,hf,Option.getD_some];rw[if_neg hbn]
    by_cases hro:0<b.Strength+f
    ·have:=Qmo k1 hq0 (by omega) (v:=b.A.toNat) hA (by omega) a1 a2 (by rw[show ((b.A.toNat:Nat):Int)=b.A by omega,ho,hr];exact hro)
     rw[show ((b.A.toNat:Nat):Int)=b.A by omega,ho,hB] at this;obtain⟨z,g1,g2⟩:=this
     have:=Option.some.inj g1
     omega
    ·omega
end Go.Ae
namespace Go.Ae
open Go.Proofs
def Qem(n:Int)(bs:List Bond):Nat→Int×List Int
 |0=>(-1,[])
 |k+1=>if (Qem n bs k).1<0∨befW (Qcz n bs 0 (k+1)).2 (Qw9 (Qcz n bs 0 (k+1)).1 (k+1)) (Qem n bs k).1 (Qem n bs k).2=true then ((Qcz n bs 0 (k+1)).2,Qw9 (Qcz n bs 0 (k+1)).1 (k+1)) else Qem n bs k
def weakC.ar:List PK→Option (Int×(List Bond))
 |[.val (.int .i64 x0),.val (.sl _ _ x1)]=>(decR Bond.d x1).bind fun y1=>some (x0,y1)
 |_=>none
def weakC.ae(a:Int×(List Bond)):List PK:=[.val (.int .i64 a.1),.val (.sl false 3 (a.2.map Bond.c))]
theorem weakC.le: ∀ps a,weakC.ar ps=some a→LeKL ps (weakC.ae a):=by
 intro ps a h;unfold weakC.ar at h;split at h
 ·simp only[Option.bind_eq_some_iff,Option.some.injEq] at h;obtain⟨y1,h1,rfl⟩:=h;exact⟨LeK.refl _,Qbf (Qa2 Bond.d_le _ _ h1) (by simp only[List.mem_map];rintro r ⟨y,_,rfl⟩;rfl),trivial⟩
 ·cases h
def weakC.fv(a:Int×(List Bond)):Int×(List Int):=(fun n bs=>Qem n bs (n - 1).toNat) (a.1) (a.2)
def weakC.row:Row:=vrow weakC.ar (fun a=>Qhu (a.1,a.2)∧Qmw a.2∧1≤a.1) (fun a=>(fun b=>D.tup [(D.int .i64) (b.1),(fun b=>D.sl false 1 (b.map intC)) (b.2)]) (weakC.fv a))
def weakC.q(a:List AV)(h:Nat→Option Ent)(n:Nat)(K:Kont):=show weakC.row a h n K=Qa1 _ _ _ (nmsL a) K (pkL h a) from rfl
theorem weakC.ok:Qas Tryz.prog 132 weakC.row:=by
 refine Qaj Qaq (tC l07Before.ok (tC flC.ok (tC sideC.ok tN))) Tryz.func132 rfl (by kernel_rfl) (by kernel_rfl) weakC.le (n:=2) (fun _=>rfl) (by decide) (rc:=(Qfa (vInt) (vSl intD))) (re:=(fun b=>D.tup [(D.int .i64) (b.1),(fun b=>D.sl false 1 (b.map intC)) (b.2)])) (Qbz (Qa3) (Qe8 Qb3 (fun _=>rfl))) (f:=weakC.fv) ?_;intro a hpre;simp only[Tryz.f132,Option.getD];simp (config:={maxSteps:=10000000}) (disch:=omega) only[ZA,ZT,simprocAttr,Asm.d,rch,weakC.ae,weakC.fv,l07Before.q,l07Before.ar,l07Before.fv,sideC.q,sideC.ar,sideC.fv];obtain⟨hp1,hst,hn1⟩:=hpre;have hn2:=hp1.2.1;simp only at hn2;obtain⟨n,hn⟩: ∃n:Nat,a.1=n+1:=⟨(a.1 - 1).toNat,by omega⟩;rw[show (a.1 - 1).toNat=n by omega];refine Qay.frr ⟨{k:Nat//k≤n},fun k=>⟨[(8,.im (.int .i64 ((k.1:Int)+1))),(7,.im (.sl false 1 ((Qem a.1 a.2 k.1).2.map intC))),(6,.im (.int .i64 (Qem a.1 a.2 k.1).1)),(0,.im (.int .i64 a.1)),(1,.im (.sl false 3 (a.2.map Bond.c)))],[],2⟩,fun k=>n - k.1,fun k=>⟨by simp[Qad.good,belT,belH,Qam,AV.bel,belL],by simp⟩,⟨⟨0,by simp⟩,[1],[],?_⟩,fun k=> ?_⟩
 ·simp only[subP];simp (config:={maxSteps:=10000000}) (disch:=omega) only[ZA,ZT,simprocAttr,Asm.d,rch,weakC.ae,weakC.fv,l07Before.q,l07Before.ar,l07Before.fv,sideC.q,sideC.ar,sideC.fv,Option.some_beq_some,Option.some_beq_none,Qem,List.map_nil]
  try simp
 obtain⟨k,hk1⟩:=k;simp (config:={maxSteps:=10000000}) (disch:=omega) only[ZA,ZT,simprocAttr,Asm.d,rch,weakC.ae,weakC.fv,l07Before.q,l07Before.ar,l07Before.fv,sideC.q,sideC.ar,sideC.fv,sub,Qal];refine⟨fun hk=> ?_,fun hk=> ?_⟩
 ·refine orow.os (a.1,a.2,0,(k:Int)+1) [] ⟨hp1,hst,by simp,by simp only;omega,by simp only;omega,by simp only;omega,by simp only;omega⟩ (fun j=>by simp[domB,hget]) rfl rfl ?_ ?_
  ·simp (config:={maxSteps:=10000000}) (disch:=omega) only[ZA,ZT,simprocAttr,Asm.d,rch,weakC.ae,weakC.fv,l07Before.q,l07Before.ar,l07Before.fv,sideC.q,sideC.ar,sideC.fv,flC.ca,if_true]
  ·simp (config:={maxSteps:=10000000}) (disch:=omega) only[ZA,ZT,simprocAttr,Asm.d,rch,weakC.ae,weakC.fv,l07Before.q,l07Before.ar,l07Before.fv,sideC.q,sideC.ar,sideC.fv,flC.H1,flC.r0,sub,Qal];obtain⟨k1,k2,k3,k4,k5,_⟩:=Qu0 (p:=0) (q:=(k:Int)+1) hp1 hst (by omega) (by omega) (by omega) (by omega) (by omega);have hfold:({Cnt:=a.1,Bonds:=a.2,At:=(newN a.1 a.2).At,Flow:=(flC.net (a.1,a.2,0,(k:Int)+1)).Flow}:Net)=(Qcz a.1 a.2 0 ((k:Int)+1)).1:=by
    rw[←k5];simp only[flC.net]
    conv=>rhs;rw[show (Qcz a.1 a.2 0 ((k:Int)+1)).1=⟨(Qcz a.1 a.2 0 ((k:Int)+1)).1.Cnt,(Qcz a.1 a.2 0 ((k:Int)+1)).1.Bonds,(Qcz a.1 a.2 0 ((k:Int)+1)).1.At,(Qcz a.1 a.2 0 ((k:Int)+1)).1.Flow⟩ from rfl]
    rw[k3,k4]
   rw[hfold];have hw:IntKind.i64.wrap ((k:Int)+1+1)=(k:Int)+1+1:=Qak (by omega) (by omega);have hb':Qem a.1 a.2 (k+1)=if (Qem a.1 a.2 k).1<0∨befW (Qcz a.1 a.2 0 ((k:Int)+1)).2 (Qw9 (Qcz a.1 a.2 0 ((k:Int)+1)).1 ((k:Int)+1)) (Qem a.1 a.2 k).1 (Qem a.1 a.2 k).2=true then ((Qcz a.1 a.2 0 ((k:Int)+1)).2,Qw9 (Qcz a.1 a.2 0 ((k:Int)+1)).1 ((k:Int)+1)) else Qem a.1 a.2 k:=rfl
   refine⟨⟨k1,by omega,by omega⟩,fun h0=>⟨fun h1=>⟨⟨k+1,by omega⟩,[],[],by simp only;omega,?_⟩,fun h1=>⟨⟨k+1,by omega⟩,[],[],by simp only;omega,?_⟩⟩,fun h0=>⟨⟨k+1,by omega⟩,[],[],by simp only;omega,?_⟩⟩
   ·rw[if_pos (.inr h1)] at hb';simp only[subP];simp (config:={maxSteps:=10000000}) (disch:=omega) only[ZA,ZT,simprocAttr,Asm.d,rch,weakC.ae,weakC.fv,l07Before.q,l07Before.ar,l07Before.fv,sideC.q,sideC.ar,sideC.fv,Option.some_beq_some,Option.some_beq_none,hb',hw];omega
   ·rw[if_neg (fun h=>h.elim h0 h1)] at hb';simp only[subP];simp (config:={maxSteps:=10000000}) (disch:=omega) only[ZA,ZT,simprocAttr,Asm.d,rch,weakC.ae,weakC.fv,l07Before.q,l07Before.ar,l07Before.fv,sideC.q,sideC.ar,sideC.fv,Option.some_beq_some,Option.some_beq_none,hb',hw];omega
   ·rw[if_pos (.inl (Classical.not_not.1 h0))] at hb';simp only[subP];simp (config:={maxSteps:=10000000}) (disch:=omega) only[ZA,ZT,simprocAttr,Asm.d,rch,weakC.ae,weakC.fv,l07Before.q,l07Before.ar,l07Before.fv,sideC.q,sideC.ar,sideC.fv,Option.some_beq_some,Option.some_beq_none,hb',hw];omega
 ·have:k=n:=by omega
  rw[this]
theorem Qzk{n:Int}{bs:List Bond}(h:Qhu (n,bs))(hs:Qmw bs){t:Int}(ht:0≤t): ∀k:Nat,(k:Int)<n→(0<k→0≤(Qem n bs k).1∧(t≤(Qem n bs k).1↔Qka n.toNat bs t k))
 |0,_=>fun h0=>by omega
 |k+1,hk=>fun _=>by
  obtain⟨f1,f2,S,f3,f4,f5⟩:=flow_law h hs (p:=0) (q:=(k:Int)+1) (by omega) (by omega) (by omega) (by omega) (by omega);simp only[Int.toNat_zero,show ((k:Int)+1).toNat=k+1 by omega] at f2 f3 f4;obtain⟨v,hv⟩: ∃v,v=(Qcz n bs 0 ((k:Int)+1)).2:=⟨_,rfl⟩;obtain⟨sd,hsd⟩: ∃sd,sd=Qw9 (Qcz n bs 0 ((k:Int)+1)).1 ((k:Int)+1):=⟨_,rfl⟩;have hone:t≤v↔ ∀S:Nat→Bool,S 0=true→S (k+1)=false→t≤cutW S bs:=by
   constructor
   ·intro h1 S hS hT
    have:=f2 S hS hT
    omega
   ·intro h1
    have:=h1 S f3 f4
    omega
  have hcut:Qka n.toNat bs t (k+1)↔Qka n.toNat bs t k∧t≤v:=by
   rw[hone];constructor
   ·intro h1;exact⟨fun S hS ⟨y,y1,y2,y3,y4⟩=>h1 S hS ⟨y,y1,by omega,y3,y4⟩,fun S hS hT=>h1 S hS ⟨k+1,by omega,by omega,by omega,hT⟩⟩
   ·rintro⟨h1,h2⟩ S hS ⟨y,y1,y2,y3,y4⟩;by_cases hy:y≤k
    ·exact h1 S hS ⟨y,y1,hy,y3,y4⟩
    ·exact h2 S hS (by rw[show k+1=y by omega];exact y4)
  rw[hcut];simp only[Qem,←hv,←hsd];by_cases hk0:k=0
  ·subst hk0;rw[if_pos (.inl (by simp[Qem]))];refine⟨by simp only;omega,?_⟩;simp only;constructor
   ·intro h1;exact⟨fun S _ ⟨y,y1,y2,_,_⟩=>by omega,h1⟩
   ·exact fun h1=>h1.2
  ·obtain⟨i1,i2⟩:=Qzk h hs ht k (by omega) (by omega);rw[←i2];by_cases hc:(Qem n bs k).1<0∨befW v sd (Qem n bs k).1 (Qem n bs k).2=true
   ·rw[if_pos hc];have hle:v≤(Qem n bs k).1:=by
     rcases hc with hc|hc
     ·omega
     ·simp only[befW] at hc;split at hc
      ·omega
      ·simp only[decide_eq_true_eq] at hc;omega
    simp only;exact⟨by omega,by omega,by omega⟩
   ·rw[if_neg hc];have hle:(Qem n bs k).1≤v:=by
     have hc2: ¬befW v sd (Qem n bs k).1 (Qem n bs k).2=true:=fun h=>hc (.inr h)
     simp only[befW] at hc2;split at hc2
     ·omega
     ·simp only[decide_eq_true_eq] at hc2;omega
    exact⟨i1,by omega,by omega⟩
end Go.Ae
namespace Go.Ae
open Go.Proofs
def revK(l:List Int):Nat→List Int
 |0=>l
 |i+1=>((revK l i).set i ((revK l i)[l.length - 1 - i]?.getD 0)).set (l.length - 1 - i) ((revK l i)[i]?.getD 0)
theorem Qnf(l:List Int): ∀i,(revK l i).length=l.length
 |0=>rfl
 |i+1=>by simp only[revK,List.length_set,Qnf l i]
theorem Qaap(l:List Int): ∀i,2*i≤l.length→ ∀k,k<l.length→(revK l i)[k]? =if k<i∨l.length - i≤k then l[l.length - 1 - k]? else l[k]?
 |0,_,k,hk=>by simp only[revK];rw[if_neg (by omega)]
 |i+1,hi,k,hk=>by
  have ih:=Qaap l i (by omega);have hl:=Qnf l i;have g1:(revK l i)[l.length - 1 - i]?.getD 0=l[l.length - 1 - i]?.getD 0:=by rw[ih _ (by omega),if_neg (by omega)]
  have g2:(revK l i)[i]?.getD 0=l[i]?.getD 0:=by rw[ih _ (by omega),if_neg (by omega)]
  have gd: ∀j,j<l.length→some (l[j]?.getD 0)=l[j]? :=fun j hj=>by rw[List.getElem?_eq_getElem hj];rfl
  rw[revK,g1,g2];by_cases h1:l.length - 1 - i=k
  ·subst h1;rw[List.getElem?_set_self (by rw[List.length_set,hl];omega),if_pos (by omega),gd _ (by omega)];congr 1;omega
  ·rw[List.getElem?_set_ne h1];by_cases h2:i=k
   ·subst h2;rw[List.getElem?_set_self (by rw[hl];omega),if_pos (by omega),gd _ (by omega)]
   ·rw[List.getElem?_set_ne h2,ih k hk];by_cases h3:k<i∨l.length - i≤k
    ·rw[if_pos h3,if_pos (by omega)]
    ·rw[if_neg h3,if_neg (by omega)]
theorem revK_end(l:List Int){i:Nat}(h1:2*i≤l.length)(h2:l.length≤2*i+1):revK l i=l.reverse:=by
 apply List.ext_getElem?;intro k;by_cases hk:k<l.length
 ·rw[Qaap l i h1 k hk,List.getElem?_reverse hk];by_cases h:k<i∨l.length - i≤k
  ·rw[if_pos h]
  ·rw[if_neg h];congr 1;omega
 ·rw[List.getElem?_eq_none (by rw[Qnf];omega),List.getElem?_eq_none (by rw[List.length_reverse];omega)]
theorem Qdj(l:List Int)(i:Nat)(x:Int):(l.map intC).set i [.int .i64 x]=(l.set i x).map intC:=by rw[List.map_set];rfl
def revC.ca(_:List Int):List AV:=[.own 0]
def revC.H0(a:List Int):Qan:=[(0,(true,.arr 3 1 (a.map intC)))]
def revC.H1(a:List Int):Qan:=[(0,(true,.arr 3 1 (a.reverse.map intC)))]
def revC.row:Row:=orow revC.ca revC.H0 1 (fun _=>True) (fun j=>j==0) (fun _=> .im (.tup [])) revC.H1 0
theorem revC.ok:Qas Tryz.prog 185 revC.row:=by
 refine Qf1 Qaq tN Tryz.func185 rfl (by kernel_rfl) (by kernel_rfl) (exB:=fun _=>false) (R:=fun _ r=>r= .im (.tup [])) (n:=1) (fun _=>rfl) (by decide)
  (fun a=>by simp[revC.ca,revC.H0,revC.H1,belL,AV.bel]) (fun a=>by simp[revC.ca,revC.H0,revC.H1,belH,belL,AV.bel]) (fun a=>by simp[revC.ca,revC.H0,revC.H1,Qam])
  (fun a=>by simp[Qc2,revC.ca,revC.H0,revC.H1,AObj.nms,nmsL,AV.nms,domB,hget]) (fun a p hp=> ?_) (fun a r h=>by subst h;exact LeV.refl _) ?_
 rotate_left
 intro a hpre;simp only[Tryz.f185,Option.getD,revC.ca,revC.H0,revC.H1];simp (config:={maxSteps:=10000000}) (disch:=omega) only[ZA,ZT,simprocAttr,Asm.d,rch,Qah,Qag,Qac,Qaf,Qai,List.getD_cons_zero,List.getD_cons_succ,revC.ca,revC.H0,revC.H1];intro hl0;rw[Qak (by omega) (by omega)];refine Qay.old ⟨{i:Nat//2*i≤a.length},fun i=>⟨[(2,.im (.int .i64 i.1)),(3,.im (.int .i64 ((a.length:Int) - 1 - i.1))),(0,.own 0)],[(0,(true,.arr 3 1 ((revK a i.1).map intC)))],1⟩,fun i=>a.length - i.1,fun i=>⟨by simp[Qad.good,belT,belH,Qam,AV.bel,belL],by simp⟩,⟨⟨0,by simp⟩,?_⟩,fun i=> ?_⟩
 ·simp (config:={maxSteps:=10000000}) (disch:=omega) only[ZA,ZT,simprocAttr,Asm.d,rch,Qah,Qag,Qac,Qaf,Qai,List.getD_cons_zero,List.getD_cons_succ,revC.ca,revC.H0,revC.H1,sub];exact⟨by omega,by rw[revK]⟩
 obtain⟨i,hi⟩:=i;have hrl:=Qnf a i;simp (config:={maxSteps:=10000000}) (disch:=omega) only[ZA,ZT,simprocAttr,Asm.d,rch,Qah,Qag,Qac,Qaf,Qai,List.getD_cons_zero,List.getD_cons_succ,revC.ca,revC.H0,revC.H1,sub,Qal,hrl,Qdj,List.length_set];refine⟨fun hi2=>⟨by omega,by omega,by omega,fun x hx=>⟨by omega,by omega,fun y hy=>⟨by omega,by omega,fun z hz=>⟨by omega,by omega,by omega,fun u hu=> ?_⟩⟩⟩⟩,fun hi2=> ?_⟩
 ·refine⟨⟨i+1,by omega⟩,by simp only;omega,?_⟩;have w1:IntKind.i64.wrap ((a.length:Int) - 1 - i - 1)=(a.length:Int) - 1 - i - 1:=Qak (by omega) (by omega);have w2:IntKind.i64.wrap ((i:Int)+1)=(i:Int)+1:=Qak (by omega) (by omega);simp only[w1,w2];refine⟨⟨by omega,by omega⟩,?_⟩;simp only[revK];rw[show a.length - 1 - i=((a.length:Int) - 1 - i).toNat by omega,hx,hy];rfl
 ·rw[revK_end a hi (by omega)]
 simp[revC.H1] at hp;subst hp;exact .inl ⟨by omega,rfl,rfl⟩
def clonC.ca(a:List Qab):List AV:=[.im (.sl false 3 (a.map Qab.c))]
def clonC.H1(a:List Qab):Qan:=[(0,(true,.arr 101 3 (a.map Qab.c)))]
def clonC.row:Row:=orow clonC.ca (fun _=>[]) 0 (fun a=>a.length≤1000000) (fun _=>false) (fun _=> .own 0) clonC.H1 20
theorem clonC.ok:Qas Tryz.prog 63 clonC.row:=by
 refine Qnh Qaq tN Tryz.func63 rfl (by kernel_rfl) (by kernel_rfl) (exB:=fun j=>j==0) (R:=fun _ r=>r= .own 0) (n:=1) (fun _=>rfl) (by decide)
  (fun a=>by simp[clonC.ca,clonC.H1,belL,AV.bel]) (fun a=>by simp[clonC.ca,clonC.H1,belH,belL,AV.bel]) (fun a=>by simp[clonC.ca,clonC.H1,Qam])
  (fun a=>by simp[Qc2,clonC.ca,clonC.H1,AObj.nms,nmsL,AV.nms,domB,hget]) (fun a p hp=> ?_) (fun a r h=>by subst h;exact LeV.refl _) ?_
 rotate_left
 intro a hpre;simp only[Tryz.f63,Option.getD,clonC.ca,clonC.H1];simp (config:={maxSteps:=10000000}) (disch:=omega) only[ZA,ZT,simprocAttr,Asm.d,rch,Qc7,Qah,Qag,Qac,Qaf,Qai,List.getD_cons_zero,List.getD_cons_succ,clonC.ca,clonC.H1];intro b hb;split
 ·rename_i h;have h0:=hb h;refine⟨[],[(0,some 1)],⟨[(2,.own 0)],clonC.H1 a,1⟩,?_,by simp[clonC.H1,Qad.good,belT,belH,Qam,AV.bel,belL],by simp,?_⟩
  ·simp only[subP,clonC.H1,h0];simp (config:={maxSteps:=10000000}) (disch:=omega) only[ZA,ZT,simprocAttr,Asm.d,rch,Qc7,Qah,Qag,Qac,Qaf,Qai,List.getD_cons_zero,List.getD_cons_succ,clonC.ca,clonC.H1,Option.some_beq_some,Option.some_beq_none]
  ·simp (config:={maxSteps:=10000000}) (disch:=omega) only[ZA,ZT,simprocAttr,Asm.d,rch,Qc7,Qah,Qag,Qac,Qaf,Qai,List.getD_cons_zero,List.getD_cons_succ,clonC.ca,clonC.H1]
 ·refine⟨by omega,[],[(0,some 2)],⟨[(2,.own 0)],clonC.H1 a,1⟩,?_,by simp[clonC.H1,Qad.good,belT,belH,Qam,AV.bel,belL],by simp,?_⟩
  ·simp only[subP,clonC.H1];simp (config:={maxSteps:=10000000}) (disch:=omega) only[ZA,ZT,simprocAttr,Asm.d,rch,Qc7,Qah,Qag,Qac,Qaf,Qai,List.getD_cons_zero,List.getD_cons_succ,clonC.ca,clonC.H1,Option.some_beq_some,Option.some_beq_none]
  ·simp (config:={maxSteps:=10000000}) (disch:=omega) only[ZA,ZT,simprocAttr,Asm.d,rch,Qc7,Qah,Qag,Qac,Qaf,Qai,List.getD_cons_zero,List.getD_cons_succ,clonC.ca,clonC.H1]
 simp[clonC.H1] at hp;subst hp;exact .inr ⟨by omega,by omega,rfl,rfl⟩
def clobC.ca(a:List Bond):List AV:=[.im (.sl false 3 (a.map Bond.c))]
def clobC.H1(a:List Bond):Qan:=[(0,(true,.arr 209 3 (a.map Bond.c)))]
def clobC.row:Row:=orow clobC.ca (fun _=>[]) 0 (fun a=>a.length≤1000000) (fun _=>false) (fun _=> .own 0) clobC.H1 20
theorem clobC.ok:Qas Tryz.prog 170 clobC.row:=by
 refine Qnh Qaq tN Tryz.func170 rfl (by kernel_rfl) (by kernel_rfl) (exB:=fun j=>j==0) (R:=fun _ r=>r= .own 0) (n:=1) (fun _=>rfl) (by decide)
  (fun a=>by simp[clobC.ca,clobC.H1,belL,AV.bel]) (fun a=>by simp[clobC.ca,clobC.H1,belH,belL,AV.bel]) (fun a=>by simp[clobC.ca,clobC.H1,Qam])
  (fun a=>by simp[Qc2,clobC.ca,clobC.H1,AObj.nms,nmsL,AV.nms,domB,hget]) (fun a p hp=> ?_) (fun a r h=>by subst h;exact LeV.refl _) ?_
 rotate_left
 intro a hpre;simp only[Tryz.f170,Option.getD,clobC.ca,clobC.H1];simp (config:={maxSteps:=10000000}) (disch:=omega) only[ZA,ZT,simprocAttr,Asm.d,rch,Qc7,Qah,Qag,Qac,Qaf,Qai,List.getD_cons_zero,List.getD_cons_succ,clobC.ca,clobC.H1];intro b hb;split
 ·rename_i h;have h0:=hb h;refine⟨[],[(0,some 1)],⟨[(2,.own 0)],clobC.H1 a,1⟩,?_,by simp[clobC.H1,Qad.good,belT,belH,Qam,AV.bel,belL],by simp,?_⟩
  ·simp only[subP,clobC.H1,h0];simp (config:={maxSteps:=10000000}) (disch:=omega) only[ZA,ZT,simprocAttr,Asm.d,rch,Qc7,Qah,Qag,Qac,Qaf,Qai,List.getD_cons_zero,List.getD_cons_succ,clobC.ca,clobC.H1,Option.some_beq_some,Option.some_beq_none]
  ·simp (config:={maxSteps:=10000000}) (disch:=omega) only[ZA,ZT,simprocAttr,Asm.d,rch,Qc7,Qah,Qag,Qac,Qaf,Qai,List.getD_cons_zero,List.getD_cons_succ,clobC.ca,clobC.H1]
 ·refine⟨by omega,[],[(0,some 2)],⟨[(2,.own 0)],clobC.H1 a,1⟩,?_,by simp[clobC.H1,Qad.good,belT,belH,Qam,AV.bel,belL],by simp,?_⟩
  ·simp only[subP,clobC.H1];simp (config:={maxSteps:=10000000}) (disch:=omega) only[ZA,ZT,simprocAttr,Asm.d,rch,Qc7,Qah,Qag,Qac,Qaf,Qai,List.getD_cons_zero,List.getD_cons_succ,clobC.ca,clobC.H1,Option.some_beq_some,Option.some_beq_none]
  ·simp (config:={maxSteps:=10000000}) (disch:=omega) only[ZA,ZT,simprocAttr,Asm.d,rch,Qc7,Qah,Qag,Qac,Qaf,Qai,List.getD_cons_zero,List.getD_cons_succ,clobC.ca,clobC.H1]
 simp[clobC.H1] at hp;subst hp;exact .inr ⟨by omega,by omega,rfl,rfl⟩
def freeC.ar:List PK→Option (Nwk×Int×Int)
 |[.ptr x0,.val (.int .i64 x1),.val (.int .i64 x2)]=>(Nwk.d (x0.take 2)).bind fun y0=>some (y0,x1,x2)
 |_=>none
def freeC.ae(a:Nwk×Int×Int):List PK:=[.ptr (Nwk.c a.1),.val (.int .i64 a.2.1),.val (.int .i64 a.2.2)]
theorem freeC.le: ∀ps a,freeC.ar ps=some a→LeKL ps (freeC.ae a):=by
 intro ps a h;unfold freeC.ar at h;split at h
 ·simp only[Option.bind_eq_some_iff,Option.some.injEq] at h;obtain⟨y0,h0,rfl⟩:=h;exact⟨LeP.trans_take (Nwk.d_le _ _ h0),LeK.refl _,LeK.refl _,trivial⟩
 ·cases h
def freeC.fv(a:Nwk×Int×Int):Bool:=(Qp4) (a.1) (a.2.1) (a.2.2)
def freeC.row:Row:=Qfi freeC.ar (fun a=>Qjx a.1 a.1.Room.length∧0≤a.2.1∧a.2.1<a.1.Room.length∧0≤a.2.2∧a.2.2<a.1.Room.length) (fun a=>(D.bool) (freeC.fv a))
def freeC.q(a:List AV)(h:Nat→Option Ent)(n:Nat)(K:Kont):=show freeC.row a h n K=Qct _ _ _ (rchL h a) K (pkFL h a) from rfl
theorem freeC.ok:Qas Tryz.prog 184 freeC.row:=by
 refine Qbn Qaq tN Tryz.func184 rfl (by kernel_rfl) (by kernel_rfl) freeC.le (n:=3) (fun _=>rfl) (by decide) (rc:=(Qa8)) (re:=(D.bool)) (Qat) (f:=freeC.fv) ?_;intro a hpre;simp only[Tryz.f184,Option.getD];simp (config:={maxSteps:=10000000}) (disch:=omega) only[ZA,ZT,simprocAttr,Asm.d,rch,freeC.ae,freeC.fv,Qah,Qag,Qac,Qaf,Qai,D.sc,D.scs,scL,decD];obtain⟨h1,h2,h3,h4,h5⟩:=hpre;have hf:=h1.f;refine⟨h2,h3,fun r hr=>⟨h4,by rw[h1.rr r (List.mem_of_getElem? hr)];exact h5,fun x hx=>⟨h2,by omega,fun s hs=>⟨h4,by rw[h1.ff s (List.mem_of_getElem? hs)];exact h5,fun y hy=> ?_⟩⟩⟩⟩;simp only[Qp4,Qyw,Qzr,hr,hs,hx,hy,Option.getD_some]
def wayD:D→Option (List Int)
 | .sl true _ rows=>decR intD rows
 | .sl false _ (r::rows)=>decR intD (r::rows)
 |_=>none
theorem wayD_le: ∀d x,wayD d=some x→Le d (.sl true 1 (x.map intC)):=by
 intro d x h;unfold wayD at h;split at h
 ·rename_i k rows;have h1:=Qbf (nz:=true) (k:=k) (Qa2 Qb3 _ _ h) (k':=1) (by simp[intC]);intro ok hp v hv;have h2:=h1 ok hp v hv;simp only[Ae.rd] at h2 hv⊢;rcases h2 with h2|⟨b,p,cap,vs,T,fr,g1,g2,g3,g4,g5,g6,g7⟩
  ·rcases hv with ⟨q1,q2⟩|⟨b',p',cap',vs',T',fr',q1,q2,q3,q4,q5,q6,q7⟩
   ·exact .inl ⟨q1,h2.2⟩
   ·obtain⟨ao,e⟩:=Qoc h2.1;rw[e] at q1;simp only[Value.slice.injEq] at q1;exact absurd (List.length_eq_zero_iff.1 q1.2.1.symm) (q2 trivial)
  ·rcases hv with ⟨q1,q2⟩|⟨b',p',cap',vs',T',fr',q1,q2,q3,q4,q5,q6,q7⟩
   ·rw[Qr7 q1] at g1;cases g1
   ·refine .inr ⟨b,p,cap,vs,T,fr,g1,fun _ h0=> ?_,g3,g4,g5,g6,g7⟩;rw[q1] at g1;simp only[Value.slice.injEq] at g1;rw[h0,List.length_nil] at g1;exact q2 trivial (List.length_eq_zero_iff.1 g1.2.1)
 ·rename_i k r rows;have h1:=Qbf (nz:=false) (k:=k) (Qa2 Qb3 _ _ h) (k':=1) (by simp[intC]);intro ok hp v hv;have h2:=h1 ok hp v hv;simp only[Ae.rd] at h2 hv⊢;rcases h2 with h2|⟨b,p,cap,vs,T,fr,g1,g2,g3,g4,g5,g6,g7⟩
  ·rcases hv with ⟨q1,q2⟩|⟨b',p',cap',vs',T',fr',q1,q2,q3,q4,q5,q6,q7⟩
   ·cases q2
   ·obtain⟨ao,e⟩:=Qoc h2.1;rw[e] at q1;simp only[Value.slice.injEq,List.length_cons] at q1;omega
  ·rcases hv with ⟨q1,q2⟩|⟨b',p',cap',vs',T',fr',q1,q2,q3,q4,q5,q6,q7⟩
   ·cases q2
   ·refine .inr ⟨b,p,cap,vs,T,fr,g1,fun _ h0=> ?_,g3,g4,g5,g6,g7⟩;rw[q1] at g1;simp only[Value.slice.injEq,List.length_cons] at g1;rw[h0,List.length_nil] at g1;omega
 ·cases h
theorem Qot(n:Nat)(x:Int):List.replicate n [D.int .i64 x]=(List.replicate n x).map intC:=by rw[List.map_replicate];rfl
theorem wayD_map{k:Nat}{l:List Int}(h:l≠[]):wayD (.sl false k (l.map intC))=some l:=by
 cases l with
 |nil=>exact absurd rfl h
 |cons x r=>exact Qmp (x::r)
def dI(v:Int):D:= .int .i64 v
theorem rept.H0_dom(a:Int×Int)(j:Nat):domB (rept.H0 a) j=true↔j<1:=by
 simp only[domB,rept.H0,hget];by_cases h0:j=0
 ·subst h0;simp
 ·have e0:(0==j)=false:=by simp;omega
  simp[e0];omega
theorem revC.H0_dom(a:List Int)(j:Nat):domB (revC.H0 a) j=true↔j<1:=by
 simp only[domB,revC.H0,hget];by_cases h0:j=0
 ·subst h0;simp
 ·have e0:(0==j)=false:=by simp;omega
  simp[e0];omega
def wayC.ar:List PK→Option (Nwk×Int×Int)
 |[.ptr x0,.val (.int .i64 x1),.val (.int .i64 x2)]=>(Nwk.d (x0.take 2)).bind fun y0=>some (y0,x1,x2)
 |_=>none
def wayC.ae(a:Nwk×Int×Int):List PK:=[.ptr (Nwk.c a.1),.val (.int .i64 a.2.1),.val (.int .i64 a.2.2)]
theorem wayC.le: ∀ps a,wayC.ar ps=some a→LeKL ps (wayC.ae a):=by
 intro ps a h;unfold wayC.ar at h;split at h
 ·simp only[Option.bind_eq_some_iff,Option.some.injEq] at h;obtain⟨y0,h0,rfl⟩:=h;exact⟨LeP.trans_take (Nwk.d_le _ _ h0),LeK.refl _,LeK.refl _,trivial⟩
 ·cases h
def wayC.rc:D→Option (List Int):=wayD
def wayC.re:(List Int)→D:=fun b=>D.sl true 1 (b.map intC)
theorem wayC.rle: ∀d b,wayC.rc d=some b→Le d (wayC.re b):=wayD_le
def wayC.fv(a:Nwk×Int×Int):List Int:=(fun x p q=>wayN x x.Room.length p q) (a.1) (a.2.1) (a.2.2)
def wayC.row:Row:=Qfi wayC.ar (fun a=>Qjx a.1 a.1.Room.length∧a.1.Room.length≤1000∧0≤a.2.1∧a.2.1<a.1.Room.length∧0≤a.2.2∧a.2.2<a.1.Room.length) (fun a=>wayC.re (wayC.fv a))
def wayC.q(a:List AV)(h:Nat→Option Ent)(n:Nat)(K:Kont):=show wayC.row a h n K=Qct _ _ _ (rchL h a) K (pkFL h a) from rfl
theorem wayC.ok:Qas Tryz.prog 182 wayC.row:=by
 refine Qbn Qaq (tC freeC.ok (tC rept.ok (tC revC.ok tN))) Tryz.func182 rfl (by kernel_rfl) (by kernel_rfl) wayC.le (n:=3) (fun _=>rfl) (by decide) (rc:=wayC.rc) (re:=wayC.re) wayC.rle (f:=wayC.fv) ?_;intro a hpre;simp only[Tryz.f182,Option.getD];simp (config:={maxSteps:=10000000}) (disch:=omega) only[ZA,ZT,simprocAttr,Asm.d,rch,wayC.ae,wayC.fv,wayC.rc,freeC.q,freeC.ar,freeC.fv,Qah,Qag,Qac,Qaf,Qai,D.sc,D.scs,scL,decD];obtain⟨hok,hn,hp0,hp1,hq0,hq1⟩:=hpre;obtain⟨x,hx⟩: ∃x,x=a.1:=⟨_,rfl⟩;obtain⟨p,hp⟩: ∃p,p=a.2.1:=⟨_,rfl⟩;obtain⟨q,hq⟩: ∃q,q=a.2.2:=⟨_,rfl⟩;obtain⟨n,hnn⟩: ∃n,n=x.Room.length:=⟨_,rfl⟩;simp only[←hx,←hp,←hq,←hnn] at hok hn hp0 hp1 hq0 hq1⊢;intro hl0;refine orow.os (-1,(n:Int)) [1] ⟨by simp only;omega,by simp only;omega⟩ (fun j=>rept.H0_dom _ j) rfl rfl ?_ ?_
 ·simp (config:={maxSteps:=10000000}) (disch:=omega) only[ZA,ZT,simprocAttr,Asm.d,rch,wayC.ae,wayC.fv,wayC.rc,freeC.q,freeC.ar,freeC.fv,Qah,Qag,Qac,Qaf,Qai,D.sc,D.scs,scL,decD,rept.ca,rept.H0,if_true,List.getD_cons_zero]
 simp (config:={maxSteps:=10000000}) (disch:=omega) only[ZA,ZT,simprocAttr,Asm.d,rch,wayC.ae,wayC.fv,wayC.rc,freeC.q,freeC.ar,freeC.fv,Qah,Qag,Qac,Qaf,Qai,D.sc,D.scs,scL,decD,rept.H1,sub,Int.toNat_natCast,List.length_replicate,Qdj,Qot];refine⟨by omega,by omega,hp0,hp1,by omega,fun _ _=> ?_⟩;refine Qay.old ⟨{k:Nat//k≤(Qb5 x n p k).2.length},fun k=>⟨[(9,.ch 22),(8,.own 2),(7,.im (.int .i64 n)),(0,.ptr 0 0),(1,.im (.int .i64 p)),(2,.im (.int .i64 q))],[(2,(true,.arr 3 1 ((Qb5 x n p k.1).1.map intC))),(22,(true,.chan (((Qb5 x n p k.1).2.drop k.1).map dI) n)),(0,(false,.view [.sl false 1 (x.Room.map Qcd),.sl false 1 (x.Flow.map Qcd)]))],23⟩,fun k=>n - k.1,fun k=>⟨by simp[Qad.good,belT,belH,Qam,AV.bel,belL],by simp⟩,⟨⟨0,by simp⟩,?_⟩,fun k=> ?_⟩
 ·simp (config:={maxSteps:=10000000}) (disch:=omega) only[ZA,ZT,simprocAttr,Asm.d,rch,wayC.ae,wayC.fv,wayC.rc,freeC.q,freeC.ar,freeC.fv,Qah,Qag,Qac,Qaf,Qai,D.sc,D.scs,scL,decD,sub];simp[Qb5,dI]
 obtain⟨k,hk⟩:=k;have hP:=Qnt (x:=x) hp0 hp1 k;have hle:=Qr3 hP;simp (config:={maxSteps:=10000000}) (disch:=omega) only[ZA,ZT,simprocAttr,Asm.d,rch,wayC.ae,wayC.fv,wayC.rc,freeC.q,freeC.ar,freeC.fv,Qah,Qag,Qac,Qaf,Qai,D.sc,D.scs,scL,decD,sub,Qal,List.length_map,List.length_drop];refine⟨fun hk2=> ?_,fun hk2=> ?_⟩
 ·have hk3:k<(Qb5 x n p k).2.length:=by omega
  obtain⟨u,hu⟩: ∃u,(Qb5 x n p k).2[k]? =some u:=⟨_,List.getElem?_eq_getElem hk3⟩;have hub:=hP.q u (List.mem_of_getElem? hu);rw[Qd3 hu];refine⟨by simp,fun d r hdr=> ?_⟩;simp only[List.map_cons,List.cons.injEq] at hdr;obtain⟨rfl,rfl⟩:=hdr;simp only[dI];obtain⟨s,hs⟩: ∃s,s=Qb5 x n p k:=⟨_,rfl⟩;simp only[←hs] at hu hP⊢;refine Qay.old ⟨{i:Nat//i≤n},fun i=>⟨[(36,.im (.int .i64 i.1)),(35,.im (.int .i64 n)),(10,.im (.int .i64 u)),(9,.ch 22),(8,.own 2),(7,.im (.int .i64 n)),(0,.ptr 0 0),(1,.im (.int .i64 p)),(2,.im (.int .i64 q))],[(2,(true,.arr 3 1 ((wayI x u s i.1).1.map intC))),(22,(true,.chan (((wayI x u s i.1).2.drop (k+1)).map dI) n)),(0,(false,.view [.sl false 1 (x.Room.map Qcd),.sl false 1 (x.Flow.map Qcd)]))],23⟩,fun i=>n - i.1,fun i=>⟨by simp[Qad.good,belT,belH,Qam,AV.bel,belL],by simp⟩,⟨⟨0,by simp⟩,?_⟩,fun i=> ?_⟩
  ·simp (config:={maxSteps:=10000000}) (disch:=omega) only[ZA,ZT,simprocAttr,Asm.d,rch,wayC.ae,wayC.fv,wayC.rc,freeC.q,freeC.ar,freeC.fv,Qah,Qag,Qac,Qaf,Qai,D.sc,D.scs,scL,decD,sub,wayI]
  obtain⟨i,hi⟩:=i;obtain⟨hQ,e,he⟩:=Qwk hP hu i hi;have hqle:=Qr3 hQ;have hql:=hQ.len;simp (config:={maxSteps:=10000000}) (disch:=omega) only[ZA,ZT,simprocAttr,Asm.d,rch,wayC.ae,wayC.fv,wayC.rc,freeC.q,freeC.ar,freeC.fv,Qah,Qag,Qac,Qaf,Qai,D.sc,D.scs,scL,decD,sub,Qal,List.length_map,List.length_drop,hql,Qdj];refine⟨fun hi2=>⟨by omega,by omega,fun y hy=>⟨fun hy0=>⟨⟨hnn▸hok,hub.1,by omega,by omega⟩,fun hf=>⟨by omega,by omega,fun y2 _=>⟨by omega,⟨i+1,by omega⟩,by simp only;omega,by rw[Qak (by omega) (by omega)];simp only;omega,?_⟩⟩,fun hf=>⟨⟨i+1,by omega⟩,by simp only;omega,by rw[Qak (by omega) (by omega)];simp only;omega,?_⟩⟩,fun hy0=>⟨⟨i+1,by omega⟩,by simp only;omega,by rw[Qak (by omega) (by omega)];simp only;omega,?_⟩⟩⟩,fun hi2=> ?_⟩
  ·have e1:wayI x u s (i+1)=((wayI x u s i).1.set i u,(wayI x u s i).2++[(i:Int)]):=by
    rw[wayI,way1,if_pos ⟨by rw[hy,Option.getD_some];exact hy0,hf⟩]
   have hk4:=(List.getElem?_eq_some_iff.1 hu).1;simp only[e1];refine⟨trivial,?_⟩;rw[List.drop_append_of_le_length (by rw[he,List.length_append];omega),List.map_append];rfl
  ·have e1:wayI x u s (i+1)=wayI x u s i:=by
    rw[wayI,way1,if_neg (fun h=>hf h.2)]
   simp only[e1];exact⟨trivial,trivial⟩
  ·have e1:wayI x u s (i+1)=wayI x u s i:=by
    rw[wayI,way1,if_neg (fun h=>hy0 (by have:=h.1;rw[hy,Option.getD_some] at this;exact this))]
   simp only[e1];exact⟨trivial,trivial⟩
  ·have hin:i=n:=by omega
   have e1:Qb5 x n p (k+1)=wayI x u s i:=by rw[Qb5,←hs,hu,hin]
   refine⟨⟨k+1,by rw[e1,he,List.length_append];have:=(List.getElem?_eq_some_iff.1 hu).1;omega⟩,by simp only;omega,?_⟩;simp only[e1];exact⟨trivial,trivial⟩
 ·have hkl:(Qb5 x n p k).2.length=k:=by omega
  have hE:Qb5 x n p k=wayE x n p:=by
   have:=way_end x n p (n - k) k (by omega)
   rw[show k+(n - k)=n by omega] at this;exact this.symm
  have hlen:=hP.len;refine⟨hq0,by omega,by omega,fun y hy=>⟨fun hy0=> ?_,fun hy0=> ?_⟩⟩
  ·simp only[wayN,←hE,hy,Option.getD_some];rw[if_pos hy0];rfl
  have hqm:q∈(Qb5 x n p k).2:=by
   have:=(hP.mem q.toNat y hy).1 (by omega)
   rwa [show (q.toNat:Int)=q by omega] at this
  obtain⟨i,hi⟩:=List.mem_iff_getElem?.1 hqm;obtain⟨d,hd1,hd2,hd3⟩:=Qq3 hP hi;have hil:=(List.getElem?_eq_some_iff.1 hi).1;have hst:Qpv (Qb5 x n p k).1 p q n=d:=Qqr (by omega) hd2 hd3;have hW:wayN x n p q=(Qhr (Qb5 x n p k).1 q d).reverse:=by
   simp only[wayN,←hE,hy,Option.getD_some];rw[if_neg hy0,hst]
  obtain⟨par,hpar⟩: ∃par,par=(Qb5 x n p k).1:=⟨_,rfl⟩;simp only[←hpar] at hlen hd2 hd3 hW⊢;refine Qay.ren ⟨{j:Nat//j≤d},fun j=>⟨[(13,.im (.int .i64 (Qcg par q j.1))),(12,.own 24),(8,.own 2),(1,.im (.int .i64 p))],[(24,(true,.arr 3 1 ((Qhr par q j.1).map intC))),(2,(true,.arr 3 1 (par.map intC)))],25⟩,fun j=>d - j.1,fun j=>⟨by simp[Qad.good,belT,belH,Qam,AV.bel,belL],by simp⟩,⟨⟨0,by omega⟩,[(24,some 23)],?_⟩,fun j=> ?_⟩
  ·simp only[subP];simp (config:={maxSteps:=10000000}) (disch:=omega) only[ZA,ZT,simprocAttr,Asm.d,rch,wayC.ae,wayC.fv,wayC.rc,freeC.q,freeC.ar,freeC.fv,Qah,Qag,Qac,Qaf,Qai,D.sc,D.scs,scL,decD,Option.some_beq_some,Option.some_beq_none];exact⟨rfl,rfl⟩
  obtain⟨j,hj⟩:=j;have hbl:(Qhr par q j).length=j+1:=by simp[Qhr]
  simp (config:={maxSteps:=10000000}) (disch:=omega) only[ZA,ZT,simprocAttr,Asm.d,rch,wayC.ae,wayC.fv,wayC.rc,freeC.q,freeC.ar,freeC.fv,Qah,Qag,Qac,Qaf,Qai,D.sc,D.scs,scL,decD,sub,Qal,hbl];refine⟨fun hne=> ?_,fun hne=> ?_⟩
  ·have hjd:j<d:=by
    rcases Nat.lt_or_ge j d with h|h
    ·exact h
    ·exact absurd (by rw[show j=d by omega];exact hd2) hne
   obtain⟨j2,g1,g2⟩:=Qkm hP hi j (fun j' hj'=>by rw[←hpar];exact hd3 j' (by omega));rw[←hpar] at g2;have hb2:=hP.q _ (List.mem_of_getElem? g2);refine⟨hb2.1,by omega,by omega,fun z hz=>⟨by omega,⟨j+1,by omega⟩,[(24,some 26)],by simp only;omega,?_⟩⟩;have e1:Qcg par q (j+1)=z:=by rw[Qcg,hz,Option.getD_some]
   have e2:Qhr par q (j+1)=Qhr par q j++[z]:=by
    simp only[Qhr];rw[List.range_succ,List.map_append,List.map_cons,List.map_nil,e1]
   simp only[subP];simp (config:={maxSteps:=10000000}) (disch:=omega) only[ZA,ZT,simprocAttr,Asm.d,rch,wayC.ae,wayC.fv,wayC.rc,freeC.q,freeC.ar,freeC.fv,Qah,Qag,Qac,Qaf,Qai,D.sc,D.scs,scL,decD,Option.some_beq_some,Option.some_beq_none,e1,e2,List.map_append]
  ·have hjd:j=d:=by
    have h1:=Classical.not_not.1 hne;rcases Nat.lt_or_ge j d with h|h
    ·exact absurd h1 (hd3 j h)
    ·omega
   subst hjd;refine orow.os (Qhr par q j) [24] trivial (fun i=>revC.H0_dom _ i) rfl rfl ?_ ?_
   ·simp (config:={maxSteps:=10000000}) (disch:=omega) only[ZA,ZT,simprocAttr,Asm.d,rch,wayC.ae,wayC.fv,wayC.rc,freeC.q,freeC.ar,freeC.fv,Qah,Qag,Qac,Qaf,Qai,D.sc,D.scs,scL,decD,revC.ca,revC.H0,if_true,List.getD_cons_zero]
   ·simp (config:={maxSteps:=10000000}) (disch:=omega) only[ZA,ZT,simprocAttr,Asm.d,rch,wayC.ae,wayC.fv,wayC.rc,freeC.q,freeC.ar,freeC.fv,Qah,Qag,Qac,Qaf,Qai,D.sc,D.scs,scL,decD,revC.H1,sub,List.getD_cons_zero];rw[hW];exact wayD_map (by simp[Qhr])
end Go.Ae
