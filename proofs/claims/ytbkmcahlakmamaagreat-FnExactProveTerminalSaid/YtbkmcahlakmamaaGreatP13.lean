/- Lemmas. Conditions: none. -/
import Derived.Test.YtbkmcahlakmamaaGreatP12
import Derived.Shelf.SortM.Plain
import Derived.Shelf.SortM.SortNone
set_option linter.all false
set_option maxHeartbeats 8000000
set_option maxRecDepth 100000
namespace Go.Proofs
open Go.Shelf
end Go.Proofs
namespace Go.Ae
open Go.Proofs Go.Sort Go.Shelf
end Go.Ae
namespace Go.Ae
open Go.Proofs
theorem Qacl{β:Type}(p:Qae)(v:β): ∀(t:List (Qae×β)),(t.map Prod.fst).Nodup->((updP t p v).map Prod.fst).Nodup/\(∀q,q∈(updP t p v).map Prod.fst->q=p\/q∈t.map Prod.fst)/\(updP t p v).length<=t.length+1
 |[],_=>by simp[updP]
 |(k,w)::r,h=>by
  rw[Zal,ZbP] at h;simp only[updP];by_cases c:p=k
  .subst c;rw[Zao rfl];refine⟨by rw[Zal,ZbP];exact h,fun q hq=> .inr hq,by simp⟩
  .rw[Zai c];obtain⟨h1,h2,h3⟩:=Qacl p v r h.2;refine⟨?_,?_,by simp only[ZaE];omega⟩
   .rw[Zal,ZbP];refine⟨fun hk=> ?_,h1⟩;rcases h2 _ hk with hk|hk
    .exact c hk.symm
    .exact h.1 hk
   .intro q hq;rw[Zal] at hq⊢;rcases Zas.1 hq with rfl|hq
    .exact .inr (Zar ..)
    .rcases h2 _ hq with hq|hq
     .exact .inl hq
     .exact .inr (Zan _ hq)
theorem tlUp_keys(l:List Qab):((tlUp l).map Prod.fst).Nodup/\(tlUp l).length<=l.length:=by
 have key: ∀(l:List Qab) (t:List (Qae×Int)),(t.map Prod.fst).Nodup->((l.foldl (fun t x=>updP t x.At x.Tile) t).map Prod.fst).Nodup/\(l.foldl (fun t x=>updP t x.At x.Tile) t).length<=t.length+l.length:=by
  intro l;induction l with
  |nil=>intro t h;exact⟨h,by simp⟩
  |cons x r ih=>
   intro t h;obtain⟨h1,_,h3⟩:=Qacl x.At x.Tile t h;obtain⟨h4,h5⟩:=ih _ h1;exact⟨h4,by simp only[ZcH,ZaE] at h5⊢;omega⟩
 have:=key l [] (by simp)
 exact⟨this.1,by simpa[tlUp] using this.2⟩
abbrev InS:=Asm×List Opt×Bool
def opOf(x:Qab):Opt:=⟨x.At,x.Tile⟩
def inS1(s:Qar)(q:InS)(x:Qab):InS:=if canS s q.1 (opOf x)=true then (putA q.1 x.At x.Tile,q.2.1++[opOf x],true) else q
def inSK(s:Qar)(ts:List Qab)(q:InS)(k:Nat):InS:=(ts.take k).foldl (inS1 s) q
def rndS(s:Qar)(ts:List Qab):Nat->InS
 |0=>(s.Seed,[],true)
 |r+1=>inSK s ts ((rndS s ts r).1,(rndS s ts r).2.1,false) ts.length
def insRS(s:Qar)(ts:List Qab):InS:=rndS s ts (ts.length+1)
theorem Qaj0{s:Qar}{ts:List Qab}{q:InS}{k:Nat}{x:Qab}(h:ts[k]? =some x):inSK s ts q (k+1)=inS1 s (inSK s ts q k) x:=by
 simp only[inSK,Qwe h,ZdH,ZcH,Zdb]
theorem Qakl{s:Qar}(hs:s.Set.Tiles.length<=160){t:List (Qae×Int)}{a:Asm}{k:Nat}{o:Opt}(h:RM t a k)(ha:Qn7 s.Set a)(c1:canS s a o=true):
 RM (updP t o.At o.Tile) (putA a o.At o.Tile) (k+1)/\Qn7 s.Set (putA a o.At o.Tile)/\atA a o.At<0/\0<=o.Tile/\lkP t o.At=none:=by
 simp only[canS,Zaf,Zax] at c1;obtain⟨d1,d2,d3,_⟩:=c1;have hno:=Qma d3;have hv:0<=o.Tile:=by
  simp only[Qau,Zaf,Zax] at d2;exact d2.1
 have h2:=(Qala ha.2 o.At).1 d3;have hlk:lkP t o.At=none:=by
  have h1:Qbw t o.At=atA a o.At:=congrFun h.at o.At;cases hq:lkP t o.At with
  |none=>rfl
  |some v=>
   exfalso;have h3:=h.pos _ (Qac0 hq);simp only[Qbw,hq,Zae] at h1;simp only at h3;omega
 have hw:Qau o.Tile 0 159=true:=by
  simp only[Qau,Zaf,Zax] at d2⊢;omega
 refine⟨h.put hv hlk,⟨?_,?_⟩,h2,hv,hlk⟩
 .rw[Qi8];exact Qki d1 hw _ none ha.1 (fun q hq=>by cases hq) hno
 .intro x hx;rw[Qi8] at hx;rcases (Qlc _ _ _ _).1 hx with rfl|hx
  .simp only[Qau,Zaf,Zax] at d2;exact⟨hv,by simp only;omega⟩
  .exact ha.2 x hx
theorem at_put{t:List (Qae×Int)}{a:Asm}{k:Nat}{p:Qae}{v:Int}(h:RM t a k)(h2:RM (updP t p v) (putA a p v) (k+1))(q:Qae):atA (putA a p v) q=if q=p then v else atA a q:=by
 have h3:=congrFun h2.at q;have h4:=congrFun h.at q;rw[<-h3,<-h4];simp only[Qbw,Qyq]
 split<;>rfl
structure InOk(s:Qar)(ts:List Qab)(q:InS):Prop where
 rm: ∃t k,RM t q.1 k
 asm:Qn7 s.Set q.1
 mem: ∀o∈q.2.1,o.At∈ts.map Qab.At
 nd:(q.2.1.map Opt.At).Nodup
 pos: ∀o∈q.2.1,0<=atA q.1 o.At
 len:q.1.Tiles.length=s.Seed.Tiles.length+q.2.1.length
theorem rm_len{t:List (Qae×Int)}{a:Asm}{k:Nat}{p:Qae}{v:Int}(h:RM t a k)(h2:RM (updP t p v) (putA a p v) (k+1))(hn:lkP t p=none):(putA a p v).Tiles.length=a.Tiles.length+1:=by
 rw[h2.size,h.size]
 have: ∀(t:List (Qae×Int)),lkP t p=none->(updP t p v).length=t.length+1:=by
  intro t;induction t with
  |nil=>intro _;rfl
  |cons x r ih=>
   obtain⟨q,w⟩:=x;intro h;simp only[lkP] at h;simp only[updP];by_cases c:p=q
   .rw[Zao c] at h;cases h
   .rw[Zai c] at h;rw[Zai c,ZaE,ih h,ZaE]
 exact this t hn
theorem inS1_ok{s:Qar}(hs:s.Set.Tiles.length<=160){ts:List Qab}{q:InS}(h:InOk s ts q){x:Qab}(hx:x∈ts):InOk s ts (inS1 s q x)/\q.2.1.length<=(inS1 s q x).2.1.length/\((inS1 s q x).2.2=true->q.2.2=true\/q.2.1.length<(inS1 s q x).2.1.length)/\((inS1 s q x).2.2=false->inS1 s q x=q):=by
 simp only[inS1];split
 .rename_i c;obtain⟨t,k,hr⟩:=h.rm;obtain⟨g1,g2,g3,g4,g5⟩:=Qakl hs hr h.asm c;refine⟨⟨⟨_,_,g1⟩,g2,fun o ho=> ?_,?_,fun o ho=> ?_,?_⟩,by simp,fun _=> .inr (by simp),fun h=>by cases h⟩
  .rcases Zaq.1 ho with ho|ho
   .exact h.mem o ho
   .rw[Zap] at ho;subst ho;exact Zcv hx
  .rw[Zbs,Zcn];refine⟨h.nd,by simp,fun a ha b hb=> ?_⟩;simp only[Zal,ZaM,Zap] at hb;subst hb;obtain⟨o,ho,rfl⟩:=Zav.1 ha;intro e
   have:=h.pos o ho
   rw[e] at this;omega
  .show 0<=atA (putA q.1 (opOf x).At (opOf x).Tile) o.At;rw[at_put hr g1];split
   .exact g4
   .rename_i c2;rcases Zaq.1 ho with ho|ho
    .exact h.pos o ho
    .rw[Zap] at ho;subst ho;exact absurd rfl c2
  .show (putA q.1 (opOf x).At (opOf x).Tile).Tiles.length=_;rw[rm_len hr g1 g5,h.len,ZaH];simp only[ZdL];omega
 .exact⟨h,Zak _,fun h=> .inl h,fun _=>rfl⟩
theorem Qajw{s:Qar}(hs:s.Set.Tiles.length<=160){ts:List Qab}{q:InS}(h:InOk s ts q): ∀k,k<=ts.length->InOk s ts (inSK s ts q k)/\q.2.1.length<=(inSK s ts q k).2.1.length/\((inSK s ts q k).2.2=true->q.2.2=true\/q.2.1.length<(inSK s ts q k).2.1.length)/\((inSK s ts q k).2.2=false->inSK s ts q k=q)
 |0,_=>⟨h,Zak _,fun h=> .inl h,fun _=>rfl⟩
 |k+1,hk=>by
  obtain⟨i1,i2,i3,i4⟩:=Qajw hs h k (by omega);have hx:ts[k]? =some (ts[k]'(by omega)):=Zad (by omega);obtain⟨j1,j2,j3,j4⟩:=inS1_ok hs i1 (Zac hx);rw[Qaj0 hx];refine⟨j1,by omega,fun h=> ?_,fun h=> ?_⟩
  .rcases j3 h with h2|h2
   .rcases i3 h2 with h3|h3
    .exact .inl h3
    .exact .inr (by omega)
   .exact .inr (by omega)
  .have e:=j4 h;rw[e] at h⊢;exact i4 h
theorem InOk.out_le{s:Qar}{ts:List Qab}{q:InS}(h:InOk s ts q):q.2.1.length<=ts.length:=by
 have h1:(q.2.1.map Opt.At).length<=(ts.map Qab.At).length:=by
  refine Qpo _ _ h.nd ?_;intro p hp;obtain⟨o,ho,rfl⟩:=Zav.1 hp;exact h.mem o ho
 simpa using h1
theorem InOk.first{s:Qar}(ts:List Qab)(h:Qn7 s.Set s.Seed):InOk s ts (s.Seed,[],true):=
 ⟨⟨_,_,RM.of h.1 fun x hx=>(h.2 x hx).1⟩,h,by simp,by simp,by simp,by simp⟩
theorem InOk.again{s:Qar}{ts:List Qab}{q:InS}(h:InOk s ts q)(b:Bool):InOk s ts (q.1,q.2.1,b):=⟨h.rm,h.asm,h.mem,h.nd,h.pos,h.len⟩
theorem Qaju{s:Qar}(hs:s.Set.Tiles.length<=160){ts:List Qab}(h:Qn7 s.Set s.Seed): ∀r,InOk s ts (rndS s ts r)
 |0=>InOk.first ts h
 |r+1=>(Qajw hs ((Qaju hs h r).again false) ts.length (Zak _)).1
theorem Qaks{s:Qar}(hs:s.Set.Tiles.length<=160){ts:List Qab}(h:Qn7 s.Set s.Seed){r:Nat}(hr:(rndS s ts (r+1)).2.2=true):(rndS s ts r).2.1.length<(rndS s ts (r+1)).2.1.length:=by
 rcases (Qajw hs ((Qaju hs h r).again false) ts.length (Zak _)).2.2.1 hr with h2|h2
 .cases h2
 .exact h2
theorem Qaku{s:Qar}(hs:s.Set.Tiles.length<=160){ts:List Qab}(h:Qn7 s.Set s.Seed){r:Nat}(hr:(rndS s ts r).2.2=false): ∀k,rndS s ts (r+k)=rndS s ts r
 |0=>rfl
 |k+1=>by
  rw[<-Zct,rndS,Qaku hs h hr k];cases r with
  |zero=>cases hr
  |succ r=>
   have e:=(Qajw hs ((Qaju hs h r).again false) ts.length (Zak _)).2.2.2 hr;have e2:rndS s ts (r+1)=((rndS s ts r).1,(rndS s ts r).2.1,false):=e;rw[e2];exact e
theorem insS_of{s:Qar}(hs:s.Set.Tiles.length<=160){ts:List Qab}(h:Qn7 s.Set s.Seed){r:Nat}(hr:(rndS s ts r).2.2=false)(hl:r<=ts.length+1):insRS s ts=rndS s ts r:=by
 have:=Qaku hs h hr (ts.length+1 - r)
 rwa [show r+(ts.length+1 - r)=ts.length+1 by omega] at this
abbrev InI:=Cry×List Opt×Bool
def inI1(q:InI)(x:Qab):InI:=if Qpg q.1.Sys (Qbw q.1.Tl) x.At x.Tile=true then (putT q.1 x.At x.Tile,q.2.1++[opOf x],true) else q
def inIK(ts:List Qab)(q:InI)(k:Nat):InI:=(ts.take k).foldl inI1 q
def rndI(s:Qar)(ts:List Qab):Nat->InI
 |0=>(Qui s s.Seed,[],true)
 |r+1=>inIK ts ((rndI s ts r).1,(rndI s ts r).2.1,false) ts.length
theorem Qakq{ts:List Qab}{q:InI}{k:Nat}{x:Qab}(h:ts[k]? =some x):inIK ts q (k+1)=inI1 (inIK ts q k) x:=by
 simp only[inIK,Qwe h,ZdH,ZcH,Zdb]
structure InC(s:Qar)(i:InI)(q:InS):Prop where
 sys:i.1.Sys=s
 rm: ∃k,RM i.1.Tl q.1 k
 eq:i.2=q.2
theorem inC_step{s:Qar}(hs:s.Set.Tiles.length<=160){i:InI}{q:InS}(h:InC s i q)(ha:Qn7 s.Set q.1){x:Qab}(hx:Qcs s.Set x.Tile):InC s (inI1 i x) (inS1 s q x):=by
 obtain⟨k,hr⟩:=h.rm;have hf:Qpg i.1.Sys (Qbw i.1.Tl) x.At x.Tile=canS s q.1 (opOf x):=by
  have hw:Qau (opOf x).Tile 0 (s.Set.Tiles.length - 1)=true:=by
   simp only[Qau,opOf,Zaf,Zax];obtain⟨u1,u2⟩:=hx;exact⟨ZcP u1,ZcP (by omega)⟩
  have:=fit_at ha (opOf x)
  rw[hw,Zbc] at this;rw[h.sys,hr.at,<-this];rfl
 simp only[inI1,inS1,hf];split
 .rename_i c;obtain⟨g1,_⟩:=Qakl hs hr ha c;exact⟨h.sys,⟨_,g1⟩,by rw[h.eq]⟩
 .exact h
theorem inC_K{s:Qar}(hs:s.Set.Tiles.length<=160){ts:List Qab}(ht: ∀x∈ts,Qcs s.Set x.Tile){i:InI}{q:InS}(h:InC s i q)(ho:InOk s ts q): ∀k,k<=ts.length->InC s (inIK ts i k) (inSK s ts q k)
 |0,_=>h
 |k+1,hk=>by
  have hx:ts[k]? =some (ts[k]'(by omega)):=Zad (by omega);rw[Qakq hx,Qaj0 hx];exact inC_step hs (inC_K hs ht h ho k (by omega)) (Qajw hs ho k (by omega)).1.asm (ht _ (Zac hx))
theorem Qakb{s:Qar}(hs:s.Set.Tiles.length<=160){ts:List Qab}(ht: ∀x∈ts,Qcs s.Set x.Tile)(h:Qn7 s.Set s.Seed): ∀r,InC s (rndI s ts r) (rndS s ts r)
 |0=>⟨rfl,⟨_,RM.of h.1 fun x hx=>(h.2 x hx).1⟩,rfl⟩
 |r+1=>by
  have ih:=Qakb hs ht h r;exact inC_K hs ht (i:=((rndI s ts r).1,(rndI s ts r).2.1,false)) (q:=((rndS s ts r).1,(rndS s ts r).2.1,false)) ⟨ih.sys,ih.rm,by rw[ih.eq]⟩ ((Qaju hs h r).again false) ts.length (Zak _)
def insF(s:Qar)(a:Asm):List Opt×Asm:=((insRS s a.Tiles).2.1,(insRS s a.Tiles).1)
def insX.ca(a:Qar×Asm):List AV:=[.im (.agg (Qar.c a.1)),.im (.agg (Asm.c a.2))]
def insX.H1(a:Qar×Asm):Qan:=[(0,(true,.arr 121 3 ((insF a.1 a.2).1.map Opt.c)))]
def insX.r0(a:Qar×Asm):AV:= .tup [.own 0,.im (.agg (Asm.c (insF a.1 a.2).2))]
def insX.pre(a:Qar×Asm):Prop:=Qf6 a.1.Set/\Qjc a.1=true/\a.2.Tiles.length<=500/\ ∀x∈a.2.Tiles,Qcs a.1.Set x.Tile
def insX.row:Row:=orow insX.ca (fun _=>[]) 0 insX.pre (fun _=>false) insX.r0 insX.H1 20
def YaT:=J @fitsC.q (J @fitsC.ar.eq_1 @fitsC.fv.eq_1)
theorem insX.ok:Qas Tryz.prog 142 insX.row:=by
 refine Qnh Qaq (tC newC.ok (tC fitsC.ok (tC putC.ok (tC asmC.ok tN)))) Tryz.func142 rfl (by kernel_rfl) (by kernel_rfl) (exB:=fun j=>j==0) (R:=fun a r=>r=insX.r0 a) (n:=2) (fun _=>rfl) (by decide)
  (fun a=>by simp[insX.ca,insX.H1,Qar.c,Asm.c,belL,AV.bel]) (fun a=>by simp[insX.ca,insX.H1,Qar.c,Asm.c,belH,belL,AV.bel]) (fun a=>by simp[insX.ca,insX.H1,Qar.c,Asm.c,Qam])
  (fun a=>by simp[Qc2,insX.ca,insX.H1,Qar.c,Asm.c,AObj.nms,nmsL,AV.nms,domB,hget]) (fun a p hp=> ?_) (fun a r h=>by subst h;exact LeV.refl _) ?_
 rotate_left
 intro a hpre;simp only[Tryz.f142,Option.getD,insX.ca,insX.H1,Qar.c,Asm.c];simp(maxSteps:=9^9)(disch:=omega)only[ZZ,simprocAttr,rch,YaT,Qc7,ORB,insX.ca,insX.H1,Qar.c,Asm.c];obtain⟨s,a⟩:=a;obtain⟨h0,c1,h2,h3⟩:=hpre;simp only at h0 c1 h2 h3⊢;obtain⟨⟨q1,q2,q3,_⟩,q5,q6⟩:=Qacj c1;have hbp:=Qof (s:=s.Set) (a:=s.Seed) (by rw[q5,q6];rfl);have hnp:newC.pre (s,s.Seed):=⟨q1,by simp only;omega,fun y hy=>⟨q2.2 y hy,hbp.1.2.2.2 y hy⟩⟩;have hcp:=cryOf_pre hnp;have hk0:=tlUp_keys s.Seed.Tiles;refine orow.os (s,s.Seed) [] hnp (fun j=>by simp[domB,hget]) rfl rfl ?_ ?_
 .simp(maxSteps:=9^9)(disch:=omega)only[ZZ,simprocAttr,rch,YaT,Qc7,ORB,insX.ca,insX.H1,Qar.c,Asm.c,newC.ca,Qer,Qar.c,Asm.c]
 simp(maxSteps:=9^9)(disch:=omega)only[ZZ,simprocAttr,rch,YaT,Qc7,ORB,insX.ca,insX.H1,Qar.c,Asm.c,newC.H1,sub];have hlen: ∀r,(rndI s a.Tiles r).2.1.length<=a.Tiles.length:=fun r=>by
  rw[(Qakb q3 h3 q2 r).eq];exact (Qaju q3 q2 r).out_le
 refine Qay.ren ⟨{k:Nat×InI//k.1<=a.Tiles.length+1/\k.2=rndI s a.Tiles k.1/\(k.2.2.2=true->k.1<=k.2.2.1.length)},fun k=>⟨[(8,.im (.bool k.1.2.2.2)),(7,.own 10),(6,.ptr 8 0),(5,.ptr 3 0),(3,.ptr 1 0),(2,.ptr 0 0)],[(10,(true,.arr 121 3 (k.1.2.2.1.map Opt.c))),(8,(true,.cells 162 [.im (.sl false 2 (s.Set.Glues.map Glue.c)),.im (.sl false 2 (s.Set.Tiles.map Tile.c)),.im (.sl false 3 (s.Seed.Tiles.map Qab.c)),.im (.int .i64 s.Temperature),.mp 6,.mp 7])),(6,(true,.map ⟨true,[.int .i64,.int .i64]⟩ (k.1.2.1.Tl.map Qbe))),(7,(true,.map ⟨true,[.int .i64,.int .i64]⟩ (k.1.2.1.Op.map Qbc))),(3,(true,.cells 46 [.im (.sl true 0 [])])),(1,(true,.cells 46 ((Asm.c a).map .im))),(0,(true,.cells 48 ((Qar.c s).map .im)))],11⟩,fun k=>a.Tiles.length+1 - k.1.1,fun k=>⟨by simp[Qad.good,belT,belH,Qam,AV.bel,belL,Qar.c,Asm.c],by simp⟩,⟨⟨(0,rndI s a.Tiles 0),by simp only;exact⟨by omega,trivial,fun _=>Zbh _⟩⟩,[(10,some 9)],?_⟩,fun k=> ?_⟩
 .simp only[subP,Qar.c,Asm.c,rndI];simp(maxSteps:=9^9)(disch:=omega)only[ZZ,simprocAttr,rch,YaT,Qc7,ORB,insX.ca,insX.H1,Qar.c,Asm.c,Zag,Zah,ZaM]
  try simp
 obtain⟨⟨r,c,out,fl⟩,hr1,hr2,hr3⟩:=k;simp only at hr1 hr2 hr3;simp(maxSteps:=9^9)(disch:=omega)only[ZZ,simprocAttr,rch,YaT,Qc7,ORB,insX.ca,insX.H1,Qar.c,Asm.c,sub,Qal];obtain rfl:c=(rndI s a.Tiles r).1:=by rw[<-hr2]
 obtain rfl:out=(rndI s a.Tiles r).2.1:=by rw[<-hr2]
 obtain rfl:fl=(rndI s a.Tiles r).2.2:=by rw[<-hr2]
 have hC:=Qakb q3 h3 q2 r;have hO:=Qaju q3 q2 (s:=s) (ts:=a.Tiles) r;obtain⟨g1,⟨kk,g2⟩,g3⟩:=hC;refine⟨fun hfl=> ?_,fun hfl=> ?_⟩;rotate_left
 .have e1:=insS_of q3 q2 (s:=s) (ts:=a.Tiles) (r:=r) (by rw[<-g3];simpa using hfl) hr1;have e2:(rndS s a.Tiles r).1=asmT (rndI s a.Tiles r).1.Tl:=g2.eq;have e3:(insF s a)=((rndI s a.Tiles r).2.1,asmT (rndI s a.Tiles r).1.Tl):=by simp only[insF,e1,<-g3,e2]
  have hl2:(rndI s a.Tiles r).1.Tl.length<=100000:=by
   have:=hO.len
   rw[g2.size] at this
   have:=hO.out_le
   omega
  refine orow.os (rndI s a.Tiles r).1 [8,6,7] ⟨g2.nd,hl2⟩ (fun j=>Qack _ j) rfl rfl ?_ ?_
  .simp(maxSteps:=9^9)(disch:=omega)only[ZZ,simprocAttr,rch,YaT,Qc7,ORB,insX.ca,insX.H1,Qar.c,Asm.c,asmC.ca,cryH,Qbk,Zbg,ZaN,Zbf,g1]
  .simp(maxSteps:=9^9)(disch:=omega)only[ZZ,simprocAttr,rch,YaT,Qc7,ORB,insX.ca,insX.H1,Qar.c,Asm.c,asmC.H1,klA,sub,ZaN,Zbf,e3];refine⟨[],[(0,some 10),(1,some 3)],⟨[(4,.own 0),(5,.ptr 1 0)],[(0,(true,.arr 121 3 ((rndI s a.Tiles r).2.1.map Opt.c))),(1,(true,.cells 46 [.im (.sl false 3 ((asmT (rndI s a.Tiles r).1.Tl).Tiles.map Qab.c))]))],2⟩,?_,by simp[Qad.good,belT,belH,Qam,AV.bel,belL],by simp,?_⟩
   .simp only[subP];simp(maxSteps:=9^9)(disch:=omega)only[ZZ,simprocAttr,rch,YaT,Qc7,ORB,insX.ca,insX.H1,Qar.c,Asm.c,Zag,Zah]
    try simp
   .simp(maxSteps:=9^9)(disch:=omega)only[ZZ,simprocAttr,rch,YaT,Qc7,ORB,insX.ca,insX.H1,Qar.c,Asm.c,insX.r0,e3]
    trace_state
 rotate_left
 intro _;refine Qay.ren ⟨{k:Nat×InI//k.1<=a.Tiles.length/\k.2=inIK a.Tiles ((rndI s a.Tiles r).1,(rndI s a.Tiles r).2.1,false) k.1},fun k=>⟨[(19,.im (.int .i64 k.1.1)),(18,.im (.int .i64 a.Tiles.length)),(17,.im (.sl false 3 (a.Tiles.map Qab.c))),(8,.im (.bool k.1.2.2.2)),(7,.own 11),(6,.ptr 8 0),(5,.ptr 3 0),(3,.ptr 1 0),(2,.ptr 0 0)],[(11,(true,.arr 121 3 (k.1.2.2.1.map Opt.c))),(8,(true,.cells 162 [.im (.sl false 2 (s.Set.Glues.map Glue.c)),.im (.sl false 2 (s.Set.Tiles.map Tile.c)),.im (.sl false 3 (s.Seed.Tiles.map Qab.c)),.im (.int .i64 s.Temperature),.mp 6,.mp 7])),(6,(true,.map ⟨true,[.int .i64,.int .i64]⟩ (k.1.2.1.Tl.map Qbe))),(7,(true,.map ⟨true,[.int .i64,.int .i64]⟩ (k.1.2.1.Op.map Qbc))),(3,(true,.cells 46 [.im (.sl true 0 [])])),(1,(true,.cells 46 ((Asm.c a).map .im))),(0,(true,.cells 48 ((Qar.c s).map .im)))],12⟩,fun k=>a.Tiles.length - k.1.1,fun k=>⟨by simp[Qad.good,belT,belH,Qam,AV.bel,belL,Qar.c,Asm.c],by simp⟩,⟨⟨(0,inIK a.Tiles ((rndI s a.Tiles r).1,(rndI s a.Tiles r).2.1,false) 0),by simp only;exact⟨Zbh _,trivial⟩⟩,[(11,some 10)],?_⟩,fun k=> ?_⟩
 .simp only[subP,Qar.c,Asm.c,inIK,ZbJ,Zdb];simp(maxSteps:=9^9)(disch:=omega)only[ZZ,simprocAttr,rch,YaT,Qc7,ORB,insX.ca,insX.H1,Qar.c,Asm.c,Zag,Zah,ZaM]
  try simp
 obtain⟨⟨i,c,out,fl⟩,hi1,hi2⟩:=k;simp only at hi1 hi2;simp(maxSteps:=9^9)(disch:=omega)only[ZZ,simprocAttr,rch,YaT,Qc7,ORB,insX.ca,insX.H1,Qar.c,Asm.c,sub,Qal];obtain⟨q,hq⟩: ∃q:InS,q=inSK s a.Tiles ((rndS s a.Tiles r).1,(rndS s a.Tiles r).2.1,false) i:=⟨_,rfl⟩;obtain⟨u1,⟨uk,u2⟩,u3⟩:InC s (c,out,fl) q:=by
  rw[hi2,hq];exact inC_K q3 h3 (i:=((rndI s a.Tiles r).1,(rndI s a.Tiles r).2.1,false)) (q:=((rndS s a.Tiles r).1,(rndS s a.Tiles r).2.1,false)) ⟨g1,⟨_,g2⟩,by rw[g3]⟩ (hO.again false) i hi1
 have hqO:InOk s a.Tiles q:=by rw[hq];exact (Qajw q3 (hO.again false) i hi1).1
 simp only at u1 u2 u3;have hin:inF s.Set (Qbw c.Tl):=by rw[u2.at];exact fun p hp=>atA_in hqO.asm p hp
 have hol:out.length<=a.Tiles.length:=by have:=hqO.out_le;rw[<-u3] at this;exact this
 refine⟨fun hi=>⟨hi,fun x hx=> ?_⟩,fun hi=> ?_⟩;rotate_left
 .obtain rfl:i=a.Tiles.length:=by omega
  have hn:(c,out,fl)=rndI s a.Tiles (r+1):=hi2;have hfo:fl=true->r+1<=out.length:=fun h=>by
   have hx:=Qaks q3 q2 (s:=s) (ts:=a.Tiles) (r:=r) (by rw[<-(Qakb q3 h3 q2 (r+1)).eq,<-hn];exact h);rw[<-g3,<-(Qakb q3 h3 q2 (r+1)).eq,<-hn] at hx
   have:=hr3 hfl
   simp only at hx;omega
  have hr4:r<=a.Tiles.length:=ZaW (hr3 hfl) (hlen r);refine⟨⟨(r+1,(c,out,fl)),by simp only;exact⟨by omega,hn,hfo⟩⟩,[(10,some 11)],by simp only;omega,?_⟩;simp only[subP];simp(maxSteps:=9^9)(disch:=omega)only[ZZ,simprocAttr,rch,YaT,Qc7,ORB,insX.ca,insX.H1,Qar.c,Asm.c,Zag,Zah]
 rotate_left
 have hxm:x∈a.Tiles:=Zac hx;have hcr:Qacu c:=⟨by rw[u1];exact q1,by rw[u1];exact hin,by rw[u1];omega⟩;have hnx:=Qakq (q:=((rndI s a.Tiles r).1,(rndI s a.Tiles r).2.1,false)) hx;rw[<-hi2] at hnx;have hw:IntKind.i64.wrap ((i:Int)+1)=((i+1:Nat):Int):=by rw[Qak (by omega) (by omega)];omega
 refine⟨⟨q1,hin,h3 x hxm⟩,fun d=> ?_,fun d=> ?_⟩
 .have hsm:Qdy x.At:=by
   simp only[Qpg,Zaf] at d;exact Qkc d.1
  have hn2:inI1 (c,out,fl) x=(putT c x.At x.Tile,out++[opOf x],true):=by
   simp only[inI1,u1,d,Zbg]
  refine orow.os (c,x.At,x.Tile) [8,6,7] ⟨hcr,hsm,by rw[u1];exact h3 x hxm⟩ (fun j=>Qack _ j) rfl rfl ?_ ?_
  .simp(maxSteps:=9^9)(disch:=omega)only[ZZ,simprocAttr,rch,YaT,Qc7,ORB,insX.ca,insX.H1,Qar.c,Asm.c,putC.ca,cryH,Qbk,Zbg,ZaN,Zbf,u1]
  .simp(maxSteps:=9^9)(disch:=omega)only[ZZ,simprocAttr,rch,YaT,Qc7,ORB,insX.ca,insX.H1,Qar.c,Asm.c,putC.H1,kl12,sub,ZaN,Zbf];refine⟨by omega,⟨(i+1,(putT c x.At x.Tile,out++[opOf x],true)),by simp only;exact⟨by omega,by rw[<-hn2,<-hnx]⟩⟩,[(11,some 14)],by simp only;omega,?_⟩;simp only[subP];simp(maxSteps:=9^9)(disch:=omega)only[ZZ,simprocAttr,rch,YaT,Qc7,ORB,insX.ca,insX.H1,Qar.c,Asm.c,Zag,Zah];exact⟨hw,by simp[opOf,Opt.c,Qae.c]⟩
 .have hn2:inI1 (c,out,fl) x=(c,out,fl):=by
   simp only[inI1,u1];rw[Zai (by simpa using d)]
  refine⟨⟨(i+1,(c,out,fl)),by simp only;exact⟨by omega,by rw[<-hn2,<-hnx]⟩⟩,[(11,some 11)],by simp only;omega,?_⟩;simp only[subP];simp(maxSteps:=9^9)(disch:=omega)only[ZZ,simprocAttr,rch,YaT,Qc7,ORB,insX.ca,insX.H1,Qar.c,Asm.c,Zag,Zah];exact hw
 simp[insX.H1] at hp;subst hp;exact .inr ⟨by omega,by omega,rfl,rfl⟩
def insS_.ar:List PK->Option (Qar×Asm):=a2 (kP Qar.d 4) (kP Asm.d 1)
def insS_.ae(a:Qar×Asm):List PK:=[.ptr (Qar.c a.1),.ptr (Asm.c a.2)]
def insS_.fv(a:Qar×Asm):(List Opt)×Asm:=(insF) (a.1) (a.2)
def insS_.row:Row:=vrow insS_.ar (fun a=>setP a.1.Set/\Qn7 a.1.Set a.1.Seed/\a.1.Set.Tiles.length<=160/\a.1.Seed.Tiles.length<=512/\a.2.Tiles.length<=500) (fun a=>(fun b=>D.tup [(fun b=>D.sl false 3 (b.map Opt.c)) (b.1),(fun b=>D.agg (Asm.c b)) (b.2)]) (insS_.fv a))
def insS_.q:=vq insS_.row rfl
def YaU:=J @insS_.ae.eq_1<|J @insS_.fv.eq_1<|J @l03Own.q<|J @l03Own.ar.eq_1<|J @l03Own.fv.eq_1<|J @l08Can.q<|J @l08Can.ar.eq_1<|J @l08Can.fv.eq_1<|J @l03Put.q<|J @l03Put.ar.eq_1 @l03Put.fv.eq_1
theorem insS_.ok:Qas Tryz.prog 135 insS_.row:=by
 refine Qaj Qaq (tC l03Own.ok (tC l08Can.ok (tC l03Put.ok tN))) Tryz.func135 rfl (by kernel_rfl) (by kernel_rfl) (ar:=insS_.ar) (ae:=insS_.ae) (Qaca (Qacc 4 Qar.d_le) (Qacc 1 Asm.d_le)) (n:=2) (fun _=>rfl) (by decide) (rc:=(Qfa (vSl Opt.d) (vAgg Asm.d))) (re:=(fun b=>D.tup [(fun b=>D.sl false 3 (b.map Opt.c)) (b.1),(fun b=>D.agg (Asm.c b)) (b.2)])) (Qbz (Qe8 Opt.d_le (fun _=>rfl)) (Qb1 Asm.d_le)) (f:=insS_.fv) ?_;intro a hpre;simp only[Tryz.f135,Option.getD];simp(maxSteps:=9^9)(disch:=omega)only[ZZ,simprocAttr,rch,YaU];obtain⟨s,a⟩:=a;obtain⟨q1,q2,q3,q4,h2⟩:=hpre;simp only at q1 q2 q3 q4 h2⊢;refine⟨by omega,?_⟩;have hrO:=Qaju q3 q2 (s:=s) (ts:=a.Tiles);have hlen: ∀r,(rndS s a.Tiles r).2.1.length<=a.Tiles.length:=fun r=>(hrO r).out_le
 refine Qay.ren ⟨{k:Nat×InS//k.1<=a.Tiles.length+1/\k.2=rndS s a.Tiles k.1/\(k.2.2.2=true->k.1<=k.2.2.1.length)},fun k=>⟨[(8,.im (.bool k.1.2.2.2)),(7,.own 6),(6,.ptr 4 0),(5,.ptr 3 0),(0,.ptr 0 0),(1,.ptr 1 0)],[(6,(true,.arr 121 3 (k.1.2.2.1.map Opt.c))),(4,(true,.cells 46 [.im (.sl false 3 (k.1.2.1.Tiles.map Qab.c))])),(3,(true,.cells 46 [.im (.sl true 0 [])])),(0,(false,.view (Qar.c s))),(1,(false,.view (Asm.c a)))],7⟩,fun k=>a.Tiles.length+1 - k.1.1,fun k=>⟨by simp[Qad.good,belT,belH,Qam,AV.bel,belL,Qar.c,Asm.c],by simp⟩,⟨⟨(0,rndS s a.Tiles 0),by simp only;exact⟨by omega,trivial,fun _=>Zbh _⟩⟩,[(6,some 5)],?_⟩,fun k=> ?_⟩
 .simp only[subP,rndS];simp(maxSteps:=9^9)(disch:=omega)only[ZZ,simprocAttr,rch,YaU,Zag,Zah,ZaM]
  try simp
 obtain⟨⟨r,b0,out0,fl0⟩,hr1,hr2,hr3⟩:=k;simp only at hr1 hr2 hr3;simp(maxSteps:=9^9)(disch:=omega)only[ZZ,simprocAttr,rch,YaU,sub,Qal];have hO:=hrO r;rw[<-hr2] at hO;have hlr:=hlen r;rw[<-hr2] at hlr;simp only at hlr;refine⟨fun hfl=> ?_,fun hfl=> ?_⟩;rotate_left
 .have e1:=insS_of q3 q2 (s:=s) (ts:=a.Tiles) (r:=r) (by rw[<-hr2];simpa using hfl) hr1;have e3:(insF s a)=(out0,b0):=by simp only[insF,e1,<-hr2]
  rw[e3]
 refine Qay.ren ⟨{k:Nat×InS//k.1<=a.Tiles.length/\k.2=inSK s a.Tiles (b0,out0,false) k.1},fun k=>⟨[(9,.im (.int .i64 k.1.1)),(8,.im (.bool k.1.2.2.2)),(7,.own 7),(6,.ptr 4 0),(5,.ptr 3 0),(0,.ptr 0 0),(1,.ptr 1 0)],[(7,(true,.arr 121 3 (k.1.2.2.1.map Opt.c))),(4,(true,.cells 46 [.im (.sl false 3 (k.1.2.1.Tiles.map Qab.c))])),(3,(true,.cells 46 [.im (.sl true 0 [])])),(0,(false,.view (Qar.c s))),(1,(false,.view (Asm.c a)))],8⟩,fun k=>a.Tiles.length - k.1.1,fun k=>⟨by simp[Qad.good,belT,belH,Qam,AV.bel,belL,Qar.c,Asm.c],by simp⟩,⟨⟨(0,inSK s a.Tiles (b0,out0,false) 0),by simp only;exact⟨Zbh _,trivial⟩⟩,[(7,some 6)],?_⟩,fun k=> ?_⟩
 .simp only[subP,inSK,ZbJ,Zdb];simp(maxSteps:=9^9)(disch:=omega)only[ZZ,simprocAttr,rch,YaU,Zag,Zah,ZaM]
  try simp
 obtain⟨⟨i,b,out,fl⟩,hi1,hi2⟩:=k;simp only at hi1 hi2;simp(maxSteps:=9^9)(disch:=omega)only[ZZ,simprocAttr,rch,YaU,sub,Qal];have hqO:InOk s a.Tiles (b,out,fl):=by rw[hi2];exact (Qajw q3 (hO.again false) i hi1).1
 have hol:out.length<=a.Tiles.length:=hqO.out_le;have hbl:b.Tiles.length=s.Seed.Tiles.length+out.length:=hqO.len;intro _;refine⟨fun hi=>⟨hi,fun x hx=>⟨hi,fun y hy=>⟨⟨q1,hqO.asm⟩,?_⟩⟩⟩,fun hi=> ?_⟩;rotate_left
 .obtain rfl:i=a.Tiles.length:=by omega
  have hn:(b,out,fl)=rndS s a.Tiles (r+1):=by rw[hi2,rndS,<-hr2]
  have hfo:fl=true->r+1<=out.length:=fun h=>by
   have hx:=Qaks q3 q2 (s:=s) (ts:=a.Tiles) (r:=r) (by rw[<-hn];exact h);rw[<-hn,<-hr2] at hx
   have:=hr3 hfl
   simp only at hx;omega
  have hr4:r<=a.Tiles.length:=ZaW (hr3 hfl) hlr;refine⟨⟨(r+1,(b,out,fl)),by simp only;exact⟨by omega,hn,hfo⟩⟩,[(6,some 7)],by simp only;omega,?_⟩;simp only[subP];simp(maxSteps:=9^9)(disch:=omega)only[ZZ,simprocAttr,rch,YaU,Zag,Zah]
 obtain rfl:x=y:=Zaa (hx.symm.trans hy);have hnx:=Qaj0 (s:=s) (q:=(b0,out0,false)) hx;rw[<-hi2] at hnx;have hw:IntKind.i64.wrap ((i:Int)+1)=((i+1:Nat):Int):=by rw[Qak (by omega) (by omega)];omega
 have ec:canS s b (opOf x)=true↔(Qbi x.At=true/\Qau x.Tile 0 (s.Set.Tiles.length - 1)=true/\Qaw (fun z=>decide (z.At=x.At)) 0 b.Tiles<0/\s.Temperature<=Qjm s.Set b x.At x.Tile 4):=by
  simp only[canS,opOf,Zaf];exact⟨fun ⟨a,b,c,d⟩=>⟨a,b,of_decide_eq_true c,of_decide_eq_true d⟩,fun ⟨a,b,c,d⟩=>⟨a,b,ZcP c,ZcP d⟩⟩
 refine⟨fun d=> ?_,fun d=> ?_⟩
 .have hn2:inS1 s (b,out,fl) x=(putA b x.At x.Tile,out++[opOf x],true):=by
   simp only[inS1];rw[Zao (ec.2 d)]
  refine⟨by omega,by simp[Qac,Qag,allD,D.one],by omega,⟨(i+1,(putA b x.At x.Tile,out++[opOf x],true)),by simp only;exact⟨by omega,by rw[<-hn2,<-hnx]⟩⟩,[(7,some 10)],by simp only;omega,?_⟩;simp only[subP];simp(maxSteps:=9^9)(disch:=omega)only[ZZ,simprocAttr,rch,YaU,Zag,Zah];exact⟨hw,by simp[opOf,Opt.c,Qae.c]⟩
 .have hn2:inS1 s (b,out,fl) x=(b,out,fl):=by
   simp only[inS1];rw[Zai (fun h=>d (ec.1 h))]
  refine⟨⟨(i+1,(b,out,fl)),by simp only;exact⟨by omega,by rw[<-hn2,<-hnx]⟩⟩,[(7,some 7)],by simp only;omega,?_⟩;simp only[subP];simp(maxSteps:=9^9)(disch:=omega)only[ZZ,simprocAttr,rch,YaU,Zag,Zah];exact hw
def askC(s:Qar)(a:Asm):Int:=if (Qjc s && Qcp s.Set a)=true then 0 else 1
def inA(a b:Asm):Bool:=a.Tiles.all fun x=>decide (atA b x.At=x.Tile)
def Qajy(s:Qar)(a:Asm):Int:=if askC s a=0 then (if inA s.Seed a=true then 0 else 2) else 1
def seqF(s:Qar)(a:Asm):List Opt×Int:=if Qajy s a=0 then (if (insF s a).2.Tiles.length<a.Tiles.length then ([],3) else ((insF s a).1,0)) else ([],Qajy s a)
theorem inS1_sub{s:Qar}(hs:s.Set.Tiles.length<=160){ts:List Qab}{q:InS}(h:InOk s ts q)(hp: ∀p,0<=atA q.1 p->p∈ts.map Qab.At){x:Qab}(hx:x∈ts): ∀p,0<=atA (inS1 s q x).1 p->p∈ts.map Qab.At:=by
 intro p h0;simp only[inS1] at h0;split at h0
 .rename_i c;obtain⟨t,k,hr⟩:=h.rm;have g1:=(Qakl hs hr h.asm c).1;rw[show atA (putA q.1 x.At x.Tile,q.2.1++[opOf x],true).1 p=atA (putA q.1 (opOf x).At (opOf x).Tile) p from rfl,at_put hr g1] at h0;split at h0
  .rename_i e;rw[e];exact Zcv hx
  .exact hp p h0
 .exact hp p h0
theorem Qalf{s:Qar}(hs:s.Set.Tiles.length<=160){ts:List Qab}{q:InS}(h:InOk s ts q)(hp: ∀p,0<=atA q.1 p->p∈ts.map Qab.At): ∀k,k<=ts.length-> ∀p,0<=atA (inSK s ts q k).1 p->p∈ts.map Qab.At
 |0,_=>hp
 |k+1,hk=>by
  have hx:ts[k]? =some (ts[k]'(by omega)):=Zad (by omega);rw[Qaj0 hx];exact inS1_sub hs (Qajw hs h k (by omega)).1 (Qalf hs h hp k (by omega)) (Zac hx)
theorem Qale{s:Qar}(hs:s.Set.Tiles.length<=160){ts:List Qab}(h:Qn7 s.Set s.Seed)(hp: ∀p,0<=atA s.Seed p->p∈ts.map Qab.At): ∀r p,0<=atA (rndS s ts r).1 p->p∈ts.map Qab.At
 |0=>hp
 |r+1=>Qalf hs ((Qaju hs h r).again false) (Qale hs h hp r) ts.length (Zak _)
theorem atM_mem{a:Asm}{p:Qae}(h:0<=atA a p):p∈a.Tiles.map Qab.At:=by
 simp only[atA] at h;cases hf:a.Tiles.find? (fun x=>decide (x.At=p)) with
 |none=>rw[hf] at h;simp at h
 |some x=>
  have h1:=ZcF hf;have h2:=Zdf hf;simp only[Zax] at h2;rw[<-h2];exact Zcv h1
theorem ins_le{s:Qar}{a:Asm}(hs:s.Set.Tiles.length<=160)(h:Qn7 s.Set s.Seed)(hp: ∀p,0<=atA s.Seed p->p∈a.Tiles.map Qab.At):(insF s a).2.Tiles.length<=a.Tiles.length:=by
 obtain⟨t,k,hr⟩:=(Qaju hs h (ts:=a.Tiles) (a.Tiles.length+1)).rm;have h1:(t.map Prod.fst).length<=(a.Tiles.map Qab.At).length:=by
  refine Qpo _ _ hr.nd fun p hpm=> ?_
  obtain⟨q,hq,rfl⟩:=Zav.1 hpm;refine Qale hs h hp (a.Tiles.length+1) q.1 ?_
  have:=congrFun hr.at q.1
  rw[<-this];obtain⟨v,h1,h2⟩:=Qakn hpm;simp only[Qbw,h1,Zae];exact hr.pos _ h2
 have:(insF s a).2.Tiles.length=t.length:=hr.size
 simpa[this] using h1
theorem ask0{s:Qar}{a:Asm}(h:askC s a=0):Qjc s=true/\Qcp s.Set a=true:=by
 simp only[askC] at h;split at h
 .rename_i c;simpa using c
 .cases h
theorem over0{s:Qar}{a:Asm}(h:Qajy s a=0):Qjc s=true/\Qcp s.Set a=true/\inA s.Seed a=true:=by
 simp only[Qajy] at h;split at h
 .rename_i c;split at h
  .rename_i c2;exact⟨(ask0 c).1,(ask0 c).2,c2⟩
  .cases h
 .cases h
def growC_.ar:List PK->Option (Qar×Asm):=a2 (kR Qar.d) (kR Asm.d)
def growC_.ae(a:Qar×Asm):List PK:=[.val (.agg (Qar.c a.1)),.val (.agg (Asm.c a.2))]
def growC_.fv(a:Qar×Asm):Int:=(askC) (a.1) (a.2)
def growC_.row:Row:=vrow growC_.ar (fun a=>Qf6 a.1.Set) (fun a=>(D.int .i64) (growC_.fv a))
def growC_.q:=vq growC_.row rfl
theorem growC_.ok:Qas Tryz.prog 211 growC_.row:=by
 refine Qaj Qaq (tC validI_.ok (tC ValidAssembly_.ok tN)) Tryz.func211 rfl (by kernel_rfl) (by kernel_rfl) (ar:=growC_.ar) (ae:=growC_.ae) (Qaca (Qab8 Qar.d_le) (Qab8 Asm.d_le)) (n:=2) (fun _=>rfl) (by decide) (rc:=(vInt)) (re:=(D.int .i64)) (Qa3) (f:=growC_.fv) ?_;intro a hpre;simp only[Tryz.f211,Option.getD];simp(maxSteps:=9^9)(disch:=omega)only[ZZ,simprocAttr,rch,growC_.ae,growC_.fv,validI_.q,validI_.ar,validI_.fv,ValidAssembly_.q,ValidAssembly_.ar,ValidAssembly_.fv];obtain⟨s,a⟩:=a;simp only at hpre⊢;refine⟨hpre,?_⟩;rw[valid_law];by_cases c:Qjc s=true
 .rw[Zao c];refine⟨hpre,?_⟩;have c2:=(Qacj c).2.1;by_cases c3:Qcp s.Set a=true
  .rw[Zai (by rw[c2,c3];decide)];simp only[askC,c,c3];rfl
  .rw[Zck] at c3;rw[Zao (by rw[c2,c3];rfl)];simp only[askC,c,c3];rfl
 .rw[Zai c];rw[Zck] at c;simp only[askC,c];rfl
def inCode_.ar:List PK->Option (Qar×Asm):=a2 (kR Qar.d) (kR Asm.d)
def inCode_.ae(a:Qar×Asm):List PK:=[.val (.agg (Qar.c a.1)),.val (.agg (Asm.c a.2))]
def inCode_.fv(a:Qar×Asm):Int:=(Qajy) (a.1) (a.2)
def inCode_.row:Row:=vrow inCode_.ar (fun a=>Qf6 a.1.Set) (fun a=>(D.int .i64) (inCode_.fv a))
def inCode_.q:=vq inCode_.row rfl
theorem inCode_.ok:Qas Tryz.prog 141 inCode_.row:=by
 refine Qaj Qaq (tC growC_.ok (tC IsWithin_.ok tN)) Tryz.func141 rfl (by kernel_rfl) (by kernel_rfl) (ar:=inCode_.ar) (ae:=inCode_.ae) (Qaca (Qab8 Qar.d_le) (Qab8 Asm.d_le)) (n:=2) (fun _=>rfl) (by decide) (rc:=(vInt)) (re:=(D.int .i64)) (Qa3) (f:=inCode_.fv) ?_;intro a hpre;simp only[Tryz.f141,Option.getD];simp(maxSteps:=9^9)(disch:=omega)only[ZZ,simprocAttr,rch,inCode_.ae,inCode_.fv,growC_.q,growC_.ar,growC_.fv,IsWithin_.q,IsWithin_.ar,IsWithin_.fv];obtain⟨s,a⟩:=a;simp only at hpre⊢;refine⟨hpre,?_⟩;by_cases c:askC s a=0
 .rw[Zai (by simpa using c)];obtain⟨c1,c2⟩:=ask0 c;have e:Qhi s.Seed a=inA s.Seed a:=by
   obtain⟨h1,h2⟩:=Qdg (Qacj c1).2.2;obtain⟨h3,h4⟩:=Qdg c2;simp only[Qhi,inA,h1.1,h3.1,ZcP h2,ZcP h4,Zbc,Zdj]
  rw[e];simp only[Qajy];rw[Zao c];by_cases c3:inA s.Seed a=true
  .rw[Zai (by rw[c3];decide),Zao c3]
  .rw[Zai c3,Zao (by simpa using c3)]
 .rw[Zao c];simp only[Qajy];rw[Zai c];simp only[askC] at c⊢;split
  .rename_i h;rw[Zao h] at c;exact absurd rfl c
  .rfl
def seqX.H1(a:Qar×Asm):Qan:=[(0,(true,.arr 121 3 ((seqF a.1 a.2).1.map Opt.c)))]
def seqX.r0(a:Qar×Asm):AV:= .tup [.own 0,.im (.int .i64 (seqF a.1 a.2).2)]
def seqX.row:Row:=orow insX.ca (fun _=>[]) 0 (fun a=>Qf6 a.1.Set) (fun _=>false) seqX.r0 seqX.H1 20
def YaV:=J @inCode_.q (J @inCode_.ar.eq_1 @inCode_.fv.eq_1)
theorem seqX.ok:Qas Tryz.prog 62 seqX.row:=by
 refine Qnh Qaq (tC inCode_.ok (tC insX.ok tN)) Tryz.func62 rfl (by kernel_rfl) (by kernel_rfl) (exB:=fun j=>j==0) (R:=fun a r=>r=seqX.r0 a) (n:=2) (fun _=>rfl) (by decide)
  (fun a=>by simp[insX.ca,seqX.H1,Qar.c,Asm.c,belL,AV.bel]) (fun a=>by simp[insX.ca,seqX.H1,Qar.c,Asm.c,belH,belL,AV.bel]) (fun a=>by simp[insX.ca,seqX.H1,Qar.c,Asm.c,Qam])
  (fun a=>by simp[Qc2,insX.ca,seqX.H1,Qar.c,Asm.c,AObj.nms,nmsL,AV.nms,domB,hget]) (fun a p hp=> ?_) (fun a r h=>by subst h;exact LeV.refl _) ?_
 rotate_left
 intro a hpre;simp only[Tryz.f62,Option.getD,insX.ca,seqX.H1,Qar.c,Asm.c];simp(maxSteps:=9^9)(disch:=omega)only[ZZ,simprocAttr,rch,YaV,Qc7,ORB,insX.ca,seqX.H1,Qar.c,Asm.c];obtain⟨s,a⟩:=a;simp only at hpre⊢;refine⟨hpre,?_⟩;by_cases c:Qajy s a=0
 .rw[Zai (by simpa using c)];obtain⟨c1,c2,_⟩:=over0 c;obtain⟨h3,h4⟩:=Qdg c2;refine orow.os (s,a) [] ⟨hpre,c1,h4,h3.2⟩ (fun j=>by simp[domB,hget]) rfl rfl ?_ ?_
  .simp(maxSteps:=9^9)(disch:=omega)only[ZZ,simprocAttr,rch,YaV,Qc7,ORB,insX.ca,seqX.H1,Qar.c,Asm.c,insX.ca,Qer,Qar.c,Asm.c]
  simp(maxSteps:=9^9)(disch:=omega)only[ZZ,simprocAttr,rch,YaV,Qc7,ORB,insX.ca,seqX.H1,Qar.c,Asm.c,insX.r0,insX.H1,sub,Qba];intro _
  try intro _
  split
  .rename_i c5;have e:seqF s a=([],3):=by simp only[seqF];rw[Zao c,Zao (by omega)]
   rw[e];refine⟨[],[(0,some 24)],⟨[(4,.own 0),(5,.im (.int .i64 3))],[(0,(true,.arr 121 3 ([])))],1⟩,?_,by simp[Qad.good,belT,belH,Qam,AV.bel,belL],by simp,?_⟩
   .simp only[subP];simp(maxSteps:=9^9)(disch:=omega)only[ZZ,simprocAttr,rch,YaV,Qc7,ORB,insX.ca,seqX.H1,Qar.c,Asm.c,Zag,Zah,ZaM]
    try simp
   .simp(maxSteps:=9^9)(disch:=omega)only[ZZ,simprocAttr,rch,YaV,Qc7,ORB,insX.ca,seqX.H1,Qar.c,Asm.c,seqX.r0,e]
  .rename_i c5;have e:seqF s a=((insF s a).1,0):=by simp only[seqF];rw[Zao c,Zai (by omega)]
   rw[e];refine⟨[],[(0,some 3)],⟨[(4,.own 0),(5,.im (.int .i64 0))],[(0,(true,.arr 121 3 ((insF s a).1.map Opt.c)))],1⟩,?_,by simp[Qad.good,belT,belH,Qam,AV.bel,belL],by simp,?_⟩
   .simp only[subP];simp(maxSteps:=9^9)(disch:=omega)only[ZZ,simprocAttr,rch,YaV,Qc7,ORB,insX.ca,seqX.H1,Qar.c,Asm.c,Zag,Zah,ZaM]
    try simp
   .simp(maxSteps:=9^9)(disch:=omega)only[ZZ,simprocAttr,rch,YaV,Qc7,ORB,insX.ca,seqX.H1,Qar.c,Asm.c,seqX.r0,e]
 .rw[Zao c];have e:seqF s a=([],Qajy s a):=by simp only[seqF];rw[Zai c]
  rw[e];refine⟨[],[(0,some 3)],⟨[(4,.own 0),(5,.im (.int .i64 (Qajy s a)))],[(0,(true,.arr 121 3 ([])))],1⟩,?_,by simp[Qad.good,belT,belH,Qam,AV.bel,belL],by simp,?_⟩
  .simp only[subP];simp(maxSteps:=9^9)(disch:=omega)only[ZZ,simprocAttr,rch,YaV,Qc7,ORB,insX.ca,seqX.H1,Qar.c,Asm.c,Zag,Zah,ZaM]
   try simp
  .simp(maxSteps:=9^9)(disch:=omega)only[ZZ,simprocAttr,rch,YaV,Qc7,ORB,insX.ca,seqX.H1,Qar.c,Asm.c,seqX.r0,e]
 simp[seqX.H1] at hp;subst hp;exact .inr ⟨by omega,by omega,rfl,rfl⟩
def ask08.ar:List PK->Option (Qar×Asm):=a2 (kP Qar.d 4) (kP Asm.d 1)
def ask08.ae(a:Qar×Asm):List PK:=[.ptr (Qar.c a.1),.ptr (Asm.c a.2)]
def ask08.fv(a:Qar×Asm):Int:=(askC) (a.1) (a.2)
def ask08.row:Row:=vrow ask08.ar (fun a=>True) (fun a=>(D.int .i64) (ask08.fv a))
def ask08.q:=vq ask08.row rfl
theorem ask08.ok:Qas Tryz.prog 200 ask08.row:=by
 refine Qaj Qaq (tC l08Ok.ok (tC l03Ok.ok tN)) Tryz.func200 rfl (by kernel_rfl) (by kernel_rfl) (ar:=ask08.ar) (ae:=ask08.ae) (Qaca (Qacc 4 Qar.d_le) (Qacc 1 Asm.d_le)) (n:=2) (fun _=>rfl) (by decide) (rc:=(vInt)) (re:=(D.int .i64)) (Qa3) (f:=ask08.fv) ?_;intro a hpre;simp only[Tryz.f200,Option.getD];simp(maxSteps:=9^9)(disch:=omega)only[ZZ,simprocAttr,rch,ask08.ae,ask08.fv,l08Ok.q,l08Ok.ar,l08Ok.fv,l03Ok.q,l03Ok.ar,l03Ok.fv];obtain⟨s,a⟩:=a;simp only;have e:((Qaz none a.Tiles && decide (a.Tiles.length<=500)) && a.Tiles.all fun x=>Qau x.Tile 0 (s.Set.Tiles.length - 1))=Qcp s.Set a:=rfl;rw[e];by_cases c:Qjc s=true
 .rw[Zao c];by_cases c3:Qcp s.Set a=true
  .rw[Zai (by rw[c3];decide)];simp only[askC,c,c3];rfl
  .rw[Zck] at c3;rw[Zao c3];simp only[askC,c,c3];rfl
 .rw[Zai c];rw[Zck] at c;simp only[askC,c];rfl
def over08.ar:List PK->Option (Qar×Asm):=a2 (kP Qar.d 4) (kP Asm.d 1)
def over08.ae(a:Qar×Asm):List PK:=[.ptr (Qar.c a.1),.ptr (Asm.c a.2)]
def over08.fv(a:Qar×Asm):Int:=(Qajy) (a.1) (a.2)
def over08.row:Row:=vrow over08.ar (fun a=>True) (fun a=>(D.int .i64) (over08.fv a))
def over08.q:=vq over08.row rfl
theorem over08.ok:Qas Tryz.prog 134 over08.row:=by
 refine Qaj Qaq (tC ask08.ok (tC l03Within.ok tN)) Tryz.func134 rfl (by kernel_rfl) (by kernel_rfl) (ar:=over08.ar) (ae:=over08.ae) (Qaca (Qacc 4 Qar.d_le) (Qacc 1 Asm.d_le)) (n:=2) (fun _=>rfl) (by decide) (rc:=(vInt)) (re:=(D.int .i64)) (Qa3) (f:=over08.fv) ?_;intro a hpre;simp only[Tryz.f134,Option.getD];simp(maxSteps:=9^9)(disch:=omega)only[ZZ,simprocAttr,rch,over08.ae,over08.fv,ask08.q,ask08.ar,ask08.fv,l03Within.q,l03Within.ar,l03Within.fv];obtain⟨s,a⟩:=a;simp only;by_cases c:askC s a=0
 .rw[Zao c];obtain⟨c1,c2⟩:=ask0 c;refine⟨(Qdg c2).1.1,?_⟩;have e:(s.Seed.Tiles.all fun x=>decide (atA a x.At=x.Tile))=inA s.Seed a:=rfl;rw[e];simp only[Qajy];rw[Zao c];by_cases c3:inA s.Seed a=true
  .rw[Zai (by rw[c3];decide),Zao c3,c]
  .rw[Zai c3,Zao (by simpa using c3)]
 .rw[Zai c];simp only[Qajy];rw[Zai c];simp only[askC] at c⊢;split
  .rename_i h;rw[Zao h] at c;exact absurd rfl c
  .rfl
def seqSp_.ar:List PK->Option (Qar×Asm):=a2 (kR Qar.d) (kR Asm.d)
def seqSp_.ae(a:Qar×Asm):List PK:=[.val (.agg (Qar.c a.1)),.val (.agg (Asm.c a.2))]
def seqSp_.fv(a:Qar×Asm):(List Opt)×Int:=(seqF) (a.1) (a.2)
def seqSp_.row:Row:=vrow seqSp_.ar (fun a=>True) (fun a=>(fun b=>D.tup [(fun b=>D.sl false 3 (b.map Opt.c)) (b.1),(D.int .i64) (b.2)]) (seqSp_.fv a))
def seqSp_.q:=vq seqSp_.row rfl
theorem seqSp_.ok:Qas Tryz.prog 58 seqSp_.row:=by
 refine Qaj Qaq (tC over08.ok (tC insS_.ok tN)) Tryz.func58 rfl (by kernel_rfl) (by kernel_rfl) (ar:=seqSp_.ar) (ae:=seqSp_.ae) (Qaca (Qab8 Qar.d_le) (Qab8 Asm.d_le)) (n:=2) (fun _=>rfl) (by decide) (rc:=(Qfa (vSl Opt.d) (vInt))) (re:=(fun b=>D.tup [(fun b=>D.sl false 3 (b.map Opt.c)) (b.1),(D.int .i64) (b.2)])) (Qbz (Qe8 Opt.d_le (fun _=>rfl)) (Qa3)) (f:=seqSp_.fv) ?_;intro a hpre;simp only[Tryz.f58,Option.getD];simp(maxSteps:=9^9)(disch:=omega)only[ZZ,simprocAttr,rch,seqSp_.ae,seqSp_.fv,over08.q,over08.ar,over08.fv,insS_.q,insS_.ar,insS_.fv];obtain⟨s,a⟩:=a;simp only;by_cases c:Qajy s a=0
 .rw[Zai (by simpa using c)];obtain⟨c1,c2,c3⟩:=over0 c;obtain⟨h3,h4⟩:=Qdg c2;obtain⟨⟨h5,h6,h7,_⟩,_,h8⟩:=Qacj c1;obtain⟨h9,h10⟩:=Qdg h8;refine⟨⟨h5,h6,h7,by omega,h4⟩,fun _ _=> ?_⟩;have hle:=ins_le (s:=s) (a:=a) h7 h6 fun p hp=>by
   obtain⟨x,hx,rfl⟩:=Zav.1 (atM_mem hp);simp only[inA,ZaJ,Zax] at c3;refine atM_mem ?_;rw[c3 x hx];exact (h6.2 x hx).1
  simp only[seqF];rw[Zao c];split
  .rw[Zao (by omega)]
  .rw[Zai (by omega)]
 .rw[Zao c];simp only[seqF];rw[Zai c]
def posQ(p:Qae)(l:List Qae):Nat:=(l.takeWhile fun y=>Qap y p).length
theorem Qald(p:Qae): ∀(l:List Qae),insQ p l=if l[posQ p l]? =some p then l else l.take (posQ p l)++p::l.drop (posQ p l)
 |[]=>by simp[insQ,posQ]
 |y::r=>by
  have ih:=Qald p r;simp only[insQ];by_cases c:Qap y p=true
  .have e:posQ p (y::r)=posQ p r+1:=by simp[posQ,ZcV,c]
   rw[Zao c,ih,e,Zbp];split
   .rfl
   .simp
  .have e:posQ p (y::r)=0:=by simp[posQ,ZcV,c]
   rw[Zai c,e];simp
theorem posQ_eq{p:Qae}: ∀{l:List Qae} {k:Nat},ltQ l->k<=l.length->(∀(i:Nat) (y:Qae),k<=i->l[i]? =some y->Qap y p=false)->(∀y,k≠0->l[k - 1]? =some y->Qap y p=true)->posQ p l=k
 |[],k,_,hk,_,_=>by simp at hk;simp[posQ,hk]
 |y::r,0,_,_,h1,_=>by
  have:=h1 0 y (Zak _) rfl
  simp[posQ,ZcV,this]
 |y::r,k+1,hl,hk,h1,h2=>by
  rw[ltQ,Zci] at hl;have hy:Qap y p=true:=by
   cases k with
   |zero=>exact h2 y (by omega) rfl
   |succ k=>
    have hlt:k+1<(y::r).length:=by simp at hk⊢;omega
    have h3:=h2 _ (by omega) (Zad (l:=y::r) (i:=k+1) hlt);refine Qajr (hl.1 _ ?_) h3;simp
  have ih:=posQ_eq (p:=p) (l:=r) (k:=k) hl.2 (by simpa using hk) (fun i z hi hz=>h1 (i+1) z (by omega) (by simpa using hz)) (fun z hk0 hz=>h2 z (by omega) (by
   obtain⟨m,rfl⟩: ∃m,k=m+1:=⟨k - 1,by omega⟩;simpa using hz))
  simp only[posQ] at ih;simp[posQ,ZcV,hy,ih]
def shQ(p:Qae)(l:List Qae)(i:Nat):List Qae:=(l++[p]).take (i+1)++l.drop i
theorem Qak6{p:Qae}{l:List Qae}{i:Nat}(h:i<=l.length):(shQ p l i).length=l.length+1:=by simp[shQ];omega
theorem shQ_all(p:Qae)(l:List Qae):shQ p l l.length=l++[p]:=by simp[shQ,ZaD]
theorem shQ_step{p x:Qae}{l:List Qae}{i:Nat}(h:i+1<=l.length)(hx:(shQ p l (i+1))[i]? =some x):(shQ p l (i+1)).set (i+1) x=shQ p l i:=by
 have hx2:l[i]? =some x:=by
  rw[<-hx,shQ,ZaF (by simp;omega),Zcx,Zao (by omega),ZaF (by omega)]
 apply ZbV;intro j;have e1:((l++[p]).take (i+1+1)).length=i+2:=by simp;omega
 have e2:((l++[p]).take (i+1)).length=i+1:=by simp;omega
 by_cases c:j=i+1
 .subst c;rw[Zau (by rw[Qak6 h];omega),shQ,ZaI (by omega),e2,Zca,ZbI,Zcw,hx2]
 .rw[Zaz (ZcB c)];simp only[shQ];by_cases c2:j<i+1
  .rw[ZaF (by omega),ZaF (by omega),Zcx,Zcx,Zao (by omega),Zao c2]
  .rw[ZaI (by omega),ZaI (by omega),e1,e2,ZbI,ZbI];congr 1;omega
theorem shQ_end{p:Qae}{l:List Qae}{k:Nat}(h:k<=l.length):(shQ p l k).set k p=l.take k++p::l.drop k:=by
 apply ZbV;intro j;have e2:((l++[p]).take (k+1)).length=k+1:=by simp;omega
 have e3:(l.take k).length=k:=by simp;omega
 by_cases c:j=k
 .subst c;rw[Zau (by rw[Qak6 h];omega),ZaI (by omega),e3,Zca];simp
 .rw[Zaz (ZcB c)];simp only[shQ];by_cases c2:j<k
  .rw[ZaF (by omega),ZaF (by omega),Zcx,Zcx,Zao (by omega),Zao c2,ZaF (by omega)]
  .obtain⟨m,rfl⟩: ∃m,j=k+1+m:=⟨j - (k+1),by omega⟩;rw[ZaI (by omega),ZaI (by omega),e2,e3,ZbI,show k+1+m - k=m+1 by omega,Zbp,ZbI];congr 1;omega
theorem pt_eq3{p q:Qae}:((p.X==q.X)=true/\(p.Y==q.Y)=true)↔p=q:=by
 obtain⟨px,py⟩:=p;obtain⟨qx,qy⟩:=q;simp
def putQ.ca(a:List Qae×Qae):List AV:=[.own 0,.im (.agg [.int .i64 a.2.X,.int .i64 a.2.Y])]
def putQ.H0(a:List Qae×Qae):Qan:=[(0,(true,.arr 61 2 (a.1.map Qae.c)))]
def putQ.H1(a:List Qae×Qae):Qan:=[(1,(true,.arr 61 2 ((insQ a.2 a.1).map Qae.c)))]
def kl0(j:Nat):Bool:=j==0
def putQ.row:Row:=orow putQ.ca putQ.H0 1 (fun a=>ltQ a.1/\a.1.length<=1000000) kl0 (fun _=> .own 1) putQ.H1 1
def YaW:=J @l_LessPoint.q (J @l_LessPoint.ar.eq_1 @l_LessPoint.fv.eq_1)
theorem putQ.ok:Qas Tryz.prog 205 putQ.row:=by
 refine Qnh Qaq (tC l_LessPoint.ok tN) Tryz.func205 rfl (by kernel_rfl) (by kernel_rfl) (exB:=fun j=>j==1) (R:=fun _ r=>r= .own 1) (n:=2) (fun _=>rfl) (by decide)
  (fun a=>by simp[putQ.ca,putQ.H0,putQ.H1,kl0,belL,AV.bel]) (fun a=>by simp[putQ.ca,putQ.H0,putQ.H1,kl0,belH,belL,AV.bel]) (fun a=>by simp[putQ.ca,putQ.H0,putQ.H1,kl0,Qam])
  (fun a=>by simp[Qc2,putQ.ca,putQ.H0,putQ.H1,kl0,AObj.nms,nmsL,AV.nms,domB,hget]) (fun a p hp=> ?_) (fun a r h=>by subst h;exact LeV.refl _) ?_
 rotate_left
 intro a hpre;simp only[Tryz.f205,Option.getD,putQ.ca,putQ.H0,putQ.H1,kl0];simp(maxSteps:=9^9)(disch:=omega)only[ZZ,simprocAttr,rch,YaW,Qc7,ORB,putQ.ca,putQ.H0,putQ.H1,kl0];rotate_left
 .simp[putQ.H1] at hp;subst hp;exact .inr ⟨by omega,by omega,rfl,rfl⟩
 obtain⟨l,p⟩:=a;obtain⟨hl,hn⟩:=hpre;simp only at hl hn⊢;intro _;refine Qay.old ⟨{k:Nat//k<=l.length/\ ∀(i:Nat) (y:Qae),k<=i->l[i]? =some y->Qap y p=false},fun k=>⟨[(5,.im (.int .i64 k.1)),(3,.ptr 1 0),(0,.own 0)],[(1,(true,.cells 61 [.im (.int .i64 p.X),.im (.int .i64 p.Y)])),(0,(true,.arr 61 2 (l.map Qae.c)))],3⟩,fun k=>k.1,fun k=>⟨by simp[Qad.good,belT,belH,Qam,AV.bel,belL],by simp⟩,⟨⟨l.length,Zak _,fun i y hi hy=>by rw[ZaT hi] at hy;cases hy⟩,by simp(maxSteps:=9^9)(disch:=omega)only[ZZ,simprocAttr,rch,YaW,Qc7,ORB,putQ.ca,putQ.H0,putQ.H1,kl0,sub]⟩,fun k=> ?_⟩;obtain⟨k,hk,hkn⟩:=k;simp(maxSteps:=9^9)(disch:=omega)only[ZZ,simprocAttr,rch,YaW,Qc7,ORB,putQ.ca,putQ.H0,putQ.H1,kl0,sub,Qal,Zbv];have hkw:0<k->IntKind.i64.wrap ((k:Int) - 1)=((k - 1:Nat):Int):=fun h=>by rw[Qak (by omega) (by omega)];omega
 refine⟨fun hk0=>⟨by rw[hkw (by omega)];omega,by rw[hkw (by omega)];omega,by rw[hkw (by omega)];omega,fun x hx=>⟨fun hlt=> ?r,fun hlt=>⟨fun hkl=>⟨hkl,hkl,fun y hy=>⟨fun e=> ?a1,fun e=> ?b1⟩⟩,fun hkl=> ?b2⟩⟩⟩,fun hk0=>⟨fun hkl=>⟨hkl,hkl,fun y hy=>⟨fun e=> ?a2,fun e=> ?b3⟩⟩,fun hkl=> ?b4⟩⟩
 case r=>
  rw[hkw (by omega),Zam] at hx;refine⟨⟨k - 1,by omega,fun i y hi hy=> ?_⟩,by simp only;omega,by rw[hkw (by omega)]⟩;by_cases c:i=k - 1
  .subst c;obtain rfl:=Zaa (hx.symm.trans hy);exact hlt
  .exact hkn i y (by omega) hy
 all_goals
  have hpos:posQ p l=k:=posQ_eq hl hk hkn (fun y hk0' hy=>by
   first
    |(rw[hkw (by omega),Zam] at hx;obtain rfl:=Zaa (hx.symm.trans hy);simpa using hlt)
    |(exact absurd (by omega) hk0))
  have hins:=Qald p l;rw[hpos] at hins
 case a1=>
  have ey:y=p:=pt_eq3.1 e;rw[hy,ey,Zao rfl] at hins;refine⟨[],[(1,some 0)],⟨[(4,.own 1)],putQ.H1 (l,p),2⟩,?_,by simp[putQ.H1,Qad.good,belT,belH,Qam,AV.bel],by simp,?_⟩
  .simp only[subP,putQ.H1,hins];simp(maxSteps:=9^9)(disch:=omega)only[ZZ,simprocAttr,rch,YaW,Qc7,ORB,putQ.ca,putQ.H0,putQ.H1,kl0,Zag,Zah]
  .simp(maxSteps:=9^9)(disch:=omega)only[ZZ,simprocAttr,rch,YaW,Qc7,ORB,putQ.ca,putQ.H0,putQ.H1,kl0,putQ.H1]
 case a2=>
  have ey:y=p:=pt_eq3.1 e;rw[hy,ey,Zao rfl] at hins;refine⟨[],[(1,some 0)],⟨[(4,.own 1)],putQ.H1 (l,p),2⟩,?_,by simp[putQ.H1,Qad.good,belT,belH,Qam,AV.bel],by simp,?_⟩
  .simp only[subP,putQ.H1,hins];simp(maxSteps:=9^9)(disch:=omega)only[ZZ,simprocAttr,rch,YaW,Qc7,ORB,putQ.ca,putQ.H0,putQ.H1,kl0,Zag,Zah]
  .simp(maxSteps:=9^9)(disch:=omega)only[ZZ,simprocAttr,rch,YaW,Qc7,ORB,putQ.ca,putQ.H0,putQ.H1,kl0,putQ.H1]
 all_goals
  have hne:l[k]? ≠some p:=fun h=>by
   first
    |(obtain rfl:=Zaa (hy.symm.trans h);exact e (pt_eq3.2 rfl))
    |(rw[ZaT (by omega)] at h;cases h)
  rw[Zai hne] at hins;have hap:l.map Qae.c++[[D.int .i64 p.X,D.int .i64 p.Y]]=(l++[p]).map Qae.c:=by rw[Zbs];rfl
  rw[hap];refine⟨by omega,fun _=> ?_⟩;refine Qay.old ⟨{i:Nat//k<=i/\i<=l.length},fun i=>⟨[(6,.im (.int .i64 i.1)),(5,.im (.int .i64 k)),(0,.own 4),(3,.ptr 1 0)],[(4,(true,.arr 61 2 ((shQ p l i.1).map Qae.c))),(1,(true,.cells 61 [.im (.int .i64 p.X),.im (.int .i64 p.Y)]))],5⟩,fun i=>i.1,fun i=>⟨by simp[Qad.good,belT,belH,Qam,AV.bel,belL],by simp⟩,⟨⟨l.length,hk,Zak _⟩,?_⟩,fun i=> ?_⟩
  .simp(maxSteps:=9^9)(disch:=omega)only[ZZ,simprocAttr,rch,YaW,Qc7,ORB,putQ.ca,putQ.H0,putQ.H1,kl0,sub,shQ_all];rw[ZaH,ZdL,Qak (by omega) (by omega)];omega
  obtain⟨i,hi1,hi2⟩:=i;have hsl:=Qak6 (p:=p) hi2;simp(maxSteps:=9^9)(disch:=omega)only[ZZ,simprocAttr,rch,YaW,Qc7,ORB,putQ.ca,putQ.H0,putQ.H1,kl0,sub,Qal,Zbv,hsl];refine⟨fun hki=> ?_,fun hki=>⟨by omega,by omega,fun x hx=> ?_⟩⟩
  .have hiw:IntKind.i64.wrap ((i:Int) - 1)=((i - 1:Nat):Int):=by rw[Qak (by omega) (by omega)];omega
   rw[hiw,Zam];refine⟨by omega,by omega,by omega,fun x hx=>⟨by omega,by omega,fun z hz=>⟨⟨i - 1,by omega,by omega⟩,by simp only;omega,rfl,?_⟩⟩⟩;have hst:=shQ_step (p:=p) (x:=x) (l:=l) (i:=i - 1) (by omega) (by rwa [show i - 1+1=i by omega]);rw[show i - 1+1=i by omega] at hst;rw[<-hst,ZcA];rfl
  .obtain rfl:i=k:=by omega
   have hse:((shQ p l i).map Qae.c).set i [D.int .i64 p.X,D.int .i64 p.Y]=(insQ p l).map Qae.c:=by
    rw[hins,<-shQ_end hk,ZcA];rfl
   refine⟨[],[(1,some 4)],⟨[(4,.own 1)],putQ.H1 (l,p),2⟩,?_,by simp[putQ.H1,Qad.good,belT,belH,Qam,AV.bel],by simp,?_⟩
   .simp only[subP,putQ.H1,hse];simp(maxSteps:=9^9)(disch:=omega)only[ZZ,simprocAttr,rch,YaW,Qc7,ORB,putQ.ca,putQ.H0,putQ.H1,kl0,Zag,Zah]
   .simp(maxSteps:=9^9)(disch:=omega)only[ZZ,simprocAttr,rch,YaW,Qc7,ORB,putQ.ca,putQ.H0,putQ.H1,kl0,putQ.H1]
theorem putQ_dom(a:List Qae×Qae)(j:Nat):domB (putQ.H0 a) j=true↔j<1:=by
 simp only[domB,putQ.H0,hget];by_cases hj:j=0
 .subst hj;simp
 .have:(0==j)=false:=by simpa using fun h=>hj h.symm
  rw[this];simp;omega
theorem Qalj(p:Qae): ∀(l:List Qae),(insQ p l).length<=l.length+1
 |[]=>by simp[insQ]
 |y::r=>by
  have:=Qalj p r
  simp only[insQ];split
  .simp only[ZaE];omega
  .split<;>simp
theorem Qakd(a:Asm)(p:Qae)(l:List Qae): ∀k,(Qajv a p l k).length<=l.length+k
 |0=>by simp[Qajv]
 |k+1=>by
  have:=Qakd a p l k
  simp only[Qajv];split
  .have:=Qalj (Qf7 p k) (Qajv a p l k);omega
  .omega
theorem Qaj2(a:Asm): ∀i,(Qajq a i).length<=4*i
 |0=>by simp[Qajq]
 |i+1=>by
  have:=Qaj2 a i
  have:=Qakd a ((a.Tiles[i]?.map Qab.At).getD ⟨0,0⟩) (Qajq a i) 4
  simp only[Qajq];omega
def nearS_.ar:List PK->Option (Asm):=a1 (kP Asm.d 1)
def nearS_.ae(a:Asm):List PK:=[.ptr (Asm.c a)]
def nearS_.fv(a:Asm):List Qae:=(fun a=>Qajq a a.Tiles.length) a
def nearS_.row:Row:=vrow nearS_.ar (fun a=>Qaz none a.Tiles=true/\a.Tiles.length<=1000/\ ∃s,∀x∈a.Tiles,Qcs s x.Tile) (fun a=>(fun b=>D.sl false 2 (b.map Qae.c)) (nearS_.fv a))
def nearS_.q:=vq nearS_.row rfl
def YaX:=J @nearS_.ae.eq_1<|J @nearS_.fv.eq_1<|J @l01Step.q<|J @l01Step.ar.eq_1<|J @l01Step.fv.eq_1<|J @l01Point.q<|J @l01Point.ar.eq_1<|J @l01Point.fv.eq_1<|J @l03Index.q<|J @l03Index.ar.eq_1 @l03Index.fv.eq_1
theorem nearS_.ok:Qas Tryz.prog 136 nearS_.row:=by
 refine Qaj Qaq (tC l01Step.ok (tC l01Point.ok (tC l03Index.ok (tC putQ.ok tN)))) Tryz.func136 rfl (by kernel_rfl) (by kernel_rfl) (ar:=nearS_.ar) (ae:=nearS_.ae) (Qacd (Qacc 1 Asm.d_le)) (n:=1) (fun _=>rfl) (by decide) (rc:=(vSl Qae.d)) (re:=(fun b=>D.sl false 2 (b.map Qae.c))) (Qe8 Qae.d_le (fun _=>rfl)) (f:=nearS_.fv) ?_;intro a hpre;simp only[Tryz.f136,Option.getD];simp(maxSteps:=9^9)(disch:=omega)only[ZZ,simprocAttr,rch,YaX];obtain⟨h1,h2,s0,h3⟩:=hpre;refine Qay.ren ⟨{i:Nat//i<=a.Tiles.length},fun i=>⟨[(4,.im (.int .i64 i.1)),(3,.own 3),(0,.ptr 0 0)],[(3,(true,.arr 61 2 ((Qajq a i.1).map Qae.c))),(0,(false,.view (Asm.c a)))],4⟩,fun i=>a.Tiles.length - i.1,fun i=>⟨by simp[Qad.good,belT,belH,Qam,AV.bel,belL],by simp⟩,⟨⟨0,Zbh _⟩,[(3,some 2)],?_⟩,fun i=> ?_⟩
 .simp only[subP];simp(maxSteps:=9^9)(disch:=omega)only[ZZ,simprocAttr,rch,YaX,Zag,Zah,Qajq,ZaM]
  try simp
 obtain⟨i,hi⟩:=i;simp(maxSteps:=9^9)(disch:=omega)only[ZZ,simprocAttr,rch,YaX,sub,Qal];intro _;refine⟨fun hi2=> ?_,fun hi2=> ?_⟩;rotate_left
 .obtain rfl:i=a.Tiles.length:=by omega
  rfl
 obtain⟨x,hx⟩: ∃x,a.Tiles[i]? =some x:=⟨_,Zad hi2⟩;have hxo:=(Qh6 _ _ h1 x (Zac hx)).1;have e1:Qajq a (i+1)=Qajv a x.At (Qajq a i) 4:=by simp only[Qajq,hx];rfl
 have hnl:=Qaj2 a i;have hlt:=Qaki a i;refine Qay.ren ⟨{d:Nat//d<=4},fun d=>⟨[(5,.im (.int .i64 d.1)),(4,.im (.int .i64 i)),(3,.own 4),(0,.ptr 0 0)],[(4,(true,.arr 61 2 ((Qajv a x.At (Qajq a i) d.1).map Qae.c))),(0,(false,.view (Asm.c a)))],5⟩,fun d=>4 - d.1,fun d=>⟨by simp[Qad.good,belT,belH,Qam,AV.bel,belL],by simp⟩,⟨⟨0,Zbh _⟩,[(4,some 3)],?_⟩,fun d=> ?_⟩
 .simp only[subP];simp(maxSteps:=9^9)(disch:=omega)only[ZZ,simprocAttr,rch,YaX,Zag,Zah,Qajv]
  try simp
 obtain⟨d,hd⟩:=d;have htl:=Qakd a x.At (Qajq a i) d;have htt:=Qaj6 (a:=a) (p:=x.At) hlt d;simp(maxSteps:=9^9)(disch:=omega)only[ZZ,simprocAttr,rch,YaX,sub,Qal];have hdw:IntKind.i64.wrap ((d:Int)+1)=((d+1:Nat):Int):=by rw[Qak (by omega) (by omega)];omega
 refine⟨fun hd4=>⟨hi2,fun y hy=> ?_⟩,fun hd4=> ?_⟩;rotate_left
 .obtain rfl:d=4:=by omega
  refine⟨⟨i+1,by omega⟩,[(3,some 4)],by simp only;omega,?_⟩;simp only[subP];simp(maxSteps:=9^9)(disch:=omega)only[ZZ,simprocAttr,rch,YaX,Zag,Zah,e1];rw[Qak (by omega) (by omega)];rfl
 obtain rfl:=Zaa (hx.symm.trans hy);refine⟨⟨Qkc hxo,by omega⟩,fun hok=>⟨h1,fun hix=> ?_,fun hix=> ?_⟩,fun hok=> ?_⟩
 .have hat:=(Qala h3 (Qf7 x.At d)).1 hix;refine orow.os (Qajv a x.At (Qajq a i) d,Qf7 x.At d) [4] ⟨htt,by simp only;omega⟩ (putQ_dom _) rfl rfl ?_ ?_
  .simp(maxSteps:=9^9)(disch:=omega)only[ZZ,simprocAttr,rch,YaX,putQ.ca,putQ.H0,Qer,ZaN]
  simp(maxSteps:=9^9)(disch:=omega)only[ZZ,simprocAttr,rch,YaX,putQ.H1,sub,kl0,ZaN,Zbf];refine⟨⟨d+1,by omega⟩,[(4,some 6)],by simp only;omega,?_⟩;simp only[subP];simp(maxSteps:=9^9)(disch:=omega)only[ZZ,simprocAttr,rch,YaX,Zag,Zah,Qajv];rw[Zao ⟨hok,hat⟩];exact⟨hdw,rfl⟩
 all_goals
  refine⟨⟨d+1,by omega⟩,[(4,some 4)],by simp only;omega,?_⟩;simp only[subP];simp(maxSteps:=9^9)(disch:=omega)only[ZZ,simprocAttr,rch,YaX,Zag,Zah,Qajv];refine⟨hdw,?_⟩;rw[Zai];rintro⟨g1,g2⟩
  first
   |exact hix ((Qala h3 _).2 g2)
   |exact hok g1
def glQ(s:Qaa)(a:Asm)(p:Qae):Nat->List Int
 |0=>[]
 |k+1=>glQ s a p k++[if atA a (Qf7 p k)<0 then 0 else Qqu s (atA a (Qf7 p k)) (((k:Int)+2) % 4)]
theorem Qaj4(s:Qaa)(a:Asm)(p:Qae): ∀k,(glQ s a p k).length=k
 |0=>rfl
 |k+1=>by simp[glQ,Qaj4 s a p k]
theorem Qak3{s:Qaa}{a:Asm}{p:Qae}: ∀{n k:Nat},k<n->(glQ s a p n)[k]? =some (if atA a (Qf7 p k)<0 then 0 else Qqu s (atA a (Qf7 p k)) (((k:Int)+2) % 4))
 |0,k,h=>by omega
 |n+1,k,h=>by
  simp only[glQ];by_cases c:k<n
  .rw[ZaF (by rw[Qaj4];exact c),Qak3 c]
  .obtain rfl:k=n:=by omega
   rw[ZaI (by rw[Qaj4];omega),Qaj4,Zca];rfl
theorem term_gl{s:Qaa}{a:Asm}{p:Qae}{i:Int}{k:Nat}{g:Int}(hg:g=if atA a (Qf7 p k)<0 then 0 else Qqu s (atA a (Qf7 p k)) (((k:Int)+2) % 4)):(if Qqu s i k=g then Qe1 s g else 0)=Quh s (atA a) p i k:=by
 simp only[Quh,Qfn];by_cases c:atA a (Qf7 p k)<0
 .rw[Zao c] at hg;subst hg;rw[Zai (show ¬0<=atA a (Qf7 p k) by omega),glue_no (by omega)]
  split<;>rfl
 .rw[Zai c] at hg;rw[Zao (show 0<=atA a (Qf7 p k) by omega),<-hg];split
  .rename_i e;rw[e]
  .rfl
theorem side_b{s:Qaa}(h:setP s){t:Int}{d:Int}:0<=Qqu s t d/\Qqu s t d<=s.Glues.length:=by
 simp only[Qqu];cases e:s.Tiles[t.toNat]? with
 |none=>simp
 |some x=>
  simp only[ZaR,Zae];cases e2:x.Sides[d.toNat]? with
  |none=>simp
  |some g=>
   simp only[Zae];exact (h.2.1 x (Zac e)).2 g (Zac e2)
def atQ_.ar:List PK->Option (Qaa×Asm×Qae×Int):=a4 (kP Qaa.d 2) (kP Asm.d 1) (kR Qae.d) kI
def atQ_.ae(a:Qaa×Asm×Qae×Int):List PK:=[.ptr (Qaa.c a.1),.ptr (Asm.c a.2.1),.val (.agg (Qae.c a.2.2.1)),.val (.int .i64 a.2.2.2)]
def atQ_.fv(a:Qaa×Asm×Qae×Int):List Int:=(fun s a p t=>atU ⟨s,a,t⟩ (atA a) p s.Tiles.length) (a.1) (a.2.1) (a.2.2.1) (a.2.2.2)
def atQ_.row:Row:=vrow atQ_.ar (fun a=>setP a.1/\Qn7 a.1 a.2.1/\Qdy a.2.2.1/\a.1.Tiles.length<=1000000) (fun a=>(fun b=>D.sl false 1 (b.map intC)) (atQ_.fv a))
def atQ_.q:=vq atQ_.row rfl
def YaY:=J @atQ_.ae.eq_1<|J @atQ_.fv.eq_1<|J @l01Step.q<|J @l01Step.ar.eq_1<|J @l01Step.fv.eq_1<|J @l03At.q<|J @l03At.ar.eq_1<|J @l03At.fv.eq_1<|J @Opposite_.q<|J @Opposite_.ar.eq_1<|J @Opposite_.fv.eq_1<|J @l02Strength.q<|J @l02Strength.ar.eq_1 @l02Strength.fv.eq_1
theorem atQ_.ok:Qas Tryz.prog 137 atQ_.row:=by
 refine Qaj Qaq (tC l01Step.ok (tC l03At.ok (tC Opposite_.ok (tC l02Strength.ok tN)))) Tryz.func137 rfl (by kernel_rfl) (by kernel_rfl) (ar:=atQ_.ar) (ae:=atQ_.ae) (a4_le (Qacc 2 Qaa.d_le) (Qacc 1 Asm.d_le) (Qab8 Qae.d_le) Qab9) (n:=4) (fun _=>rfl) (by decide) (rc:=(vSl intD)) (re:=(fun b=>D.sl false 1 (b.map intC))) (Qe8 Qb3 (fun _=>rfl)) (f:=atQ_.fv) ?_;intro a hpre;simp only[Tryz.f137,Option.getD];simp(maxSteps:=9^9)(disch:=omega)only[ZZ,simprocAttr,rch,YaY];obtain⟨s,a,p,t⟩:=a;obtain⟨h1,h2,h3,h4⟩:=hpre;simp only at h1 h2 h3 h4⊢;refine Qay.ren ⟨{d:Nat//d<=4},fun d=>⟨[(10,.im (.int .i64 d.1)),(9,.own 5),(6,.ptr 2 0),(0,.ptr 0 0),(1,.ptr 1 0),(3,.im (.int .i64 t))],[(5,(true,.arr 2 1 ((glQ s a p d.1).map intC))),(2,(true,.cells 61 [.im (.int .i64 p.X),.im (.int .i64 p.Y)])),(0,(false,.view (Qaa.c s))),(1,(false,.view (Asm.c a)))],6⟩,fun d=>4 - d.1,fun d=>⟨by simp[Qad.good,belT,belH,Qam,AV.bel,belL],by simp⟩,⟨⟨0,Zbh _⟩,[(5,some 4)],?_⟩,fun d=> ?_⟩
 .simp only[subP];simp(maxSteps:=9^9)(disch:=omega)only[ZZ,simprocAttr,rch,YaY,Zag,Zah,glQ,ZaM]
  try simp
 obtain⟨d,hd⟩:=d;have hgl:=Qaj4 s a p d;simp(maxSteps:=9^9)(disch:=omega)only[ZZ,simprocAttr,rch,YaY,sub,Qal,Qag,Qac,Qaf,allD,D.one,ZaV,Zce,Zdh];have hdw:IntKind.i64.wrap ((d:Int)+1)=((d+1:Nat):Int):=by rw[Qak (by omega) (by omega)];omega
 refine⟨fun hd4=>⟨⟨h3,by omega⟩,h2.1,fun hn=>⟨by omega,⟨d+1,by omega⟩,[(5,some 7)],by simp only;omega,?_⟩,fun hn=> ?_⟩,fun hd4=> ?_⟩
 .simp only[subP];simp(maxSteps:=9^9)(disch:=omega)only[ZZ,simprocAttr,rch,YaY,Zag,Zah,glQ];rw[Zao hn];refine⟨hdw,by simp[intC]⟩
 .obtain⟨b1,b2⟩:=atA_in h2 (Qf7 p d) (by omega);refine⟨b1,b2,fun x hx=>⟨by omega,by omega,by rw[(h1.2.1 x (Zac hx)).1];omega,fun g hg=>⟨by omega,⟨d+1,by omega⟩,[(5,some 7)],by simp only;omega,?_⟩⟩⟩;have hse:Qqu s (atA a (Qf7 p d)) (((d:Int)+2) % 4)=g:=Qpn hx hg;simp only[subP];simp(maxSteps:=9^9)(disch:=omega)only[ZZ,simprocAttr,rch,YaY,Zag,Zah,glQ];rw[Zai hn,hse];refine⟨hdw,by simp[intC]⟩
 obtain rfl:d=4:=by omega
 clear hdw hd4 hd;obtain⟨S,hS⟩: ∃S:Qar,S=⟨s,a,t⟩:=⟨_,rfl⟩;rw[<-hS];refine Qay.ren ⟨{i:Nat//i<=s.Tiles.length},fun i=>⟨[(13,.im (.int .i64 i.1)),(12,.own 7),(9,.own 5),(0,.ptr 0 0),(3,.im (.int .i64 t))],[(7,(true,.arr 2 1 ((atU S (atA a) p i.1).map intC))),(5,(true,.arr 2 1 ((glQ s a p 4).map intC))),(0,(false,.view (Qaa.c s))),(1,(false,.view (Asm.c a)))],8⟩,fun i=>s.Tiles.length - i.1,fun i=>⟨by simp[Qad.good,belT,belH,Qam,AV.bel,belL],by simp⟩,⟨⟨0,Zbh _⟩,[(7,some 6)],?_⟩,fun i=> ?_⟩
 .simp only[subP];simp(maxSteps:=9^9)(disch:=omega)only[ZZ,simprocAttr,rch,YaY,Zag,Zah,atU,ZaM]
  try simp
 obtain⟨i,hi⟩:=i;have hul:=Qakm S (atA a) p i;simp(maxSteps:=9^9)(disch:=omega)only[ZZ,simprocAttr,rch,YaY,sub,Qal];intro _;refine⟨fun hi2=> ?_,fun hi2=> ?_⟩;rotate_left
 .obtain rfl:i=s.Tiles.length:=by omega
  rfl
 refine Qay.old ⟨{k:Nat//k<=4},fun k=>⟨[(15,.im (.int .i64 k.1)),(14,.im (.int .i64 (Qhs s (atA a) p i k.1))),(13,.im (.int .i64 i)),(12,.own 7),(9,.own 5),(0,.ptr 0 0),(3,.im (.int .i64 t))],[(7,(true,.arr 2 1 ((atU S (atA a) p i).map intC))),(5,(true,.arr 2 1 ((glQ s a p 4).map intC))),(0,(false,.view (Qaa.c s))),(1,(false,.view (Asm.c a)))],8⟩,fun k=>4 - k.1,fun k=>⟨by simp[Qad.good,belT,belH,Qam,AV.bel,belL],by simp⟩,⟨⟨0,Zbh _⟩,?_⟩,fun k=> ?_⟩
 .simp(maxSteps:=9^9)(disch:=omega)only[ZZ,simprocAttr,rch,YaY,sub,Qhs]
 obtain⟨k,hk⟩:=k;simp(maxSteps:=9^9)(disch:=omega)only[ZZ,simprocAttr,rch,YaY,sub,Qal,Qag,Qac,Qaf,allD,D.one,ZaV,Zce,Zdh];have hkw:IntKind.i64.wrap ((k:Int)+1)=((k+1:Nat):Int):=by rw[Qak (by omega) (by omega)];omega
 have hbb:=Qwy h1 (atA a) p i k;have htb:=Qxd h1 (atA a) p i k;have h4l:=Qaj4 s a p 4;rw[h4l];refine⟨fun hk4=>⟨hi2,fun x hx=>⟨by rw[(h1.2.1 x (Zac hx)).1];omega,fun g hg=>⟨by omega,by omega,fun y hy=> ?_⟩⟩⟩,fun hk4=> ?_⟩
 .have hse:Qqu s i k=g:=Qpn (by simpa using hx) (by simpa using hg);rw[Qak3 (by omega),Zab] at hy;have htl:=term_gl (i:=i) hy.symm;rw[hse] at htl;refine⟨fun e=>⟨by omega,by omega,fun z hz=> ?_⟩,fun e=>⟨⟨k+1,by omega⟩,by simp only;omega,hkw,?_⟩⟩
  .rw[Qak3 (by omega),Zab] at hz;obtain rfl:y=z:=hy.symm.trans hz;rw[Zao e] at htl;have hyb:0<=y/\y<=s.Glues.length:=by
    have:=side_b h1 (t:=i) (d:=k)
    rw[hse,e] at this;exact this
   refine⟨⟨hyb.1,hyb.2,h1.1⟩,⟨k+1,by omega⟩,by simp only;omega,hkw,?_⟩;rw[htl,Qak (by omega) (by omega)];rfl
  .rw[Zai e] at htl;simp only[Qhs,<-htl];omega
 .obtain rfl:k=4:=by omega
  have hiw:IntKind.i64.wrap ((i:Int)+1)=((i+1:Nat):Int):=by rw[Qak (by omega) (by omega)];omega
  have e1:S.Temperature=t:=by rw[hS]
  have e2:S.Set=s:=by rw[hS]
  refine⟨fun e=>⟨by omega,⟨i+1,by omega⟩,[(7,some 9)],by simp only;omega,?_⟩,fun e=>⟨⟨i+1,by omega⟩,[(7,some 7)],by simp only;omega,?_⟩⟩
  .simp only[subP];simp(maxSteps:=9^9)(disch:=omega)only[ZZ,simprocAttr,rch,YaY,Zag,Zah,atU,e1,e2];rw[Zao e];exact⟨hiw,by simp[intC]⟩
  .simp only[subP];simp(maxSteps:=9^9)(disch:=omega)only[ZZ,simprocAttr,rch,YaY,Zag,Zah,atU,e1,e2];rw[Zai e,ZaP];exact⟨hiw,rfl⟩
theorem atU_S(s:Qar)(a b:Asm)(f:Qae->Int)(p:Qae): ∀n,atU ⟨s.Set,a,s.Temperature⟩ f p n=atU s f p n
 |0=>rfl
 |n+1=>by simp only[atU,atU_S s a b f p n]
def Qakh(g:Qae->List Int)(l:List Qae)(i:Nat):List Opt:=Qajs g (l.take i)
theorem Qalm{g:Qae->List Int}{l:List Qae}{i:Nat}{p:Qae}(h:l[i]? =some p):Qakh g l (i+1)=Qakh g l i++(g p).map (mkO2 p):=by
 simp only[Qakh,Qajs,Qwe h,Zdy,Zbm,Zdw,ZaP]
theorem Qakc{g:Qae->List Int}{m:Nat}(hg: ∀p,(g p).length<=m): ∀(l:List Qae),(Qajs g l).length<=l.length*m
 |[]=>by simp[Qajs]
 |p::r=>by
  have ih:=Qakc hg r
  have:=hg p
  simp only[Qajs] at ih;simp only[Qajs,Zbm,ZaH,Zbv,ZaE,ZeM];omega
def opsS_.ar:List PK->Option (Qar×Asm):=a2 (kP Qar.d 4) (kP Asm.d 1)
def opsS_.ae(a:Qar×Asm):List PK:=[.ptr (Qar.c a.1),.ptr (Asm.c a.2)]
def opsS_.fv(a:Qar×Asm):List Opt:=(Qaj8) (a.1) (a.2)
def opsS_.row:Row:=vrow opsS_.ar (fun a=>setP a.1.Set/\Qn7 a.1.Set a.2/\a.2.Tiles.length<=500/\a.1.Set.Tiles.length<=1000) (fun a=>(fun b=>D.sl false 3 (b.map Opt.c)) (opsS_.fv a))
def opsS_.q:=vq opsS_.row rfl
def YaZ:=J @opsS_.ae.eq_1<|J @opsS_.fv.eq_1<|J @nearS_.q<|J @nearS_.ar.eq_1<|J @nearS_.fv.eq_1<|J @atQ_.q<|J @atQ_.ar.eq_1 @atQ_.fv.eq_1
theorem opsS_.ok:Qas Tryz.prog 59 opsS_.row:=by
 refine Qaj Qaq (tC nearS_.ok (tC atQ_.ok tN)) Tryz.func59 rfl (by kernel_rfl) (by kernel_rfl) (ar:=opsS_.ar) (ae:=opsS_.ae) (Qaca (Qacc 4 Qar.d_le) (Qacc 1 Asm.d_le)) (n:=2) (fun _=>rfl) (by decide) (rc:=(vSl Opt.d)) (re:=(fun b=>D.sl false 3 (b.map Opt.c))) (Qe8 Opt.d_le (fun _=>rfl)) (f:=opsS_.fv) ?_;intro a hpre;simp only[Tryz.f59,Option.getD];simp(maxSteps:=9^9)(disch:=omega)only[ZZ,simprocAttr,rch,YaZ];obtain⟨s,a⟩:=a;obtain⟨h1,h2,h3,h4⟩:=hpre;simp only at h1 h2 h3 h4⊢;refine⟨⟨h2.1,by omega,s.Set,h2.2⟩,?_⟩;obtain⟨L,hL⟩: ∃L,L=Qajq a a.Tiles.length:=⟨_,rfl⟩;obtain⟨g,hg⟩: ∃g,g=fun p=>atU s (atA a) p s.Set.Tiles.length:=⟨_,rfl⟩
 have hop:Qaj8 s a=Qajs g L:=by rw[hg,hL];rfl
 rw[hop];have hLl:L.length<=2000:=by have:=Qaj2 a a.Tiles.length;rw[hL];omega
 have hgl: ∀p,(g p).length<=1000:=fun p=>by have:=Qakm s (atA a) p s.Set.Tiles.length;rw[hg];simp only;omega
 have hLo: ∀p∈L,Qbi p=true:=fun p hp=>by
  rw[hL,Qajz _ (Zak _)] at hp;exact hp.1.1
 simp only[<-hL];refine Qay.ren ⟨{i:Nat//i<=L.length},fun i=>⟨[(7,.im (.int .i64 i.1)),(6,.im (.sl false 2 (L.map Qae.c))),(5,.own 4),(0,.ptr 0 0),(1,.ptr 1 0)],[(4,(true,.arr 121 3 ((Qakh g L i.1).map Opt.c))),(0,(false,.view (Qar.c s))),(1,(false,.view (Asm.c a)))],5⟩,fun i=>L.length - i.1,fun i=>⟨by simp[Qad.good,belT,belH,Qam,AV.bel,belL],by simp⟩,⟨⟨0,Zbh _⟩,[(4,some 3)],?_⟩,fun i=> ?_⟩
 .simp only[subP];simp(maxSteps:=9^9)(disch:=omega)only[ZZ,simprocAttr,rch,YaZ,Zag,Zah,Qakh,ZbJ,Qajs,Zdw,ZaM]
  try simp
 obtain⟨i,hi⟩:=i;simp(maxSteps:=9^9)(disch:=omega)only[ZZ,simprocAttr,rch,YaZ,sub,Qal];intro _;refine⟨fun hi2=> ?_,fun hi2=> ?_⟩;rotate_left
 .obtain rfl:i=L.length:=by omega
  rw[Qakh,ZbT]
 have hol:(Qakh g L i).length<=2000*1000:=by
  have:=Qakc hgl (L.take i)
  have h9:(L.take i).length*1000<=2000*1000:=Zbd _ (by simp;omega);simp only[Qakh];omega
 refine⟨hi2,fun p hp=> ?_⟩;have hpo:=hLo p (Zac hp);refine⟨⟨h1,h2,Qkc hpo,by omega⟩,?_⟩;have hga:atU ⟨s.Set,a,s.Temperature⟩ (atA a) p s.Set.Tiles.length=g p:=by rw[atU_S _ _ a,hg]
 rw[hga];have hgp:=hgl p;refine Qay.ren ⟨{k:Nat//k<=(g p).length},fun k=>⟨[(9,.im (.int .i64 k.1)),(8,.im (.sl false 1 ((g p).map intC))),(7,.im (.int .i64 i)),(6,.im (.sl false 2 (L.map Qae.c))),(5,.own 5),(0,.ptr 0 0),(1,.ptr 1 0)],[(5,(true,.arr 121 3 ((Qakh g L i++((g p).take k.1).map (mkO2 p)).map Opt.c))),(0,(false,.view (Qar.c s))),(1,(false,.view (Asm.c a)))],6⟩,fun k=>(g p).length - k.1,fun k=>⟨by simp[Qad.good,belT,belH,Qam,AV.bel,belL],by simp⟩,⟨⟨0,Zbh _⟩,[(5,some 4)],?_⟩,fun k=> ?_⟩
 .simp only[subP];simp(maxSteps:=9^9)(disch:=omega)only[ZZ,simprocAttr,rch,YaZ,Zag,Zah,ZbJ,ZaM,ZaP]
  try simp
 obtain⟨k,hk⟩:=k;simp(maxSteps:=9^9)(disch:=omega)only[ZZ,simprocAttr,rch,YaZ,sub,Qal,Qag,Qac,Qaf,allD,D.one,ZaV,Zce,Zdh,ZaH];intro _;refine⟨fun hk2=>⟨hi2,fun q hq=>⟨hk2,fun x hx=>⟨?_,⟨k+1,by omega⟩,[(5,some 7)],by simp only;omega,?_⟩⟩⟩,fun hk2=>⟨⟨i+1,by omega⟩,[(4,some 5)],by simp only;omega,?_⟩⟩
 .have:((g p).take k).length<=1000:=by simp;omega
  omega
 .obtain rfl:=Zaa (hp.symm.trans hq);simp only[subP];simp(maxSteps:=9^9)(disch:=omega)only[ZZ,simprocAttr,rch,YaZ,Zag,Zah];refine⟨by rw[Qak (by omega) (by omega)];rfl,?_⟩;rw[Qwe hx];simp[mkO2,Opt.c,Qae.c]
 .obtain rfl:k=(g p).length:=by omega
  simp only[subP];simp(maxSteps:=9^9)(disch:=omega)only[ZZ,simprocAttr,rch,YaZ,Zag,Zah];refine⟨by rw[Qak (by omega) (by omega)];rfl,?_⟩;rw[Qalm hp,ZbT]
end Go.Ae
namespace Go.Ae
open Go.Proofs Go.Sort Go.Shelf
instance:Inhabited Qae:=⟨⟨0,0⟩⟩
theorem Qall{l:List Qae}(hd:l.Nodup):(Qakz l).Perm l:=(Zei (ltQ_nd (Qakg l)) hd).2 fun _=>Qaka
end Go.Ae
namespace Go.Ae
open Go.Proofs
def cntO(op:List (Qae×List Int)):Nat:=(op.map fun q=>q.2.length).sum
theorem cnt_b{op:List (Qae×List Int)}(h1:op.length<=1000000)(h2: ∀q∈op,q.2.length<=1000):cntO op<=1000000*1000:=by
 have key: ∀(l:List (Qae×List Int)),(∀q∈l,q.2.length<=1000)->cntO l<=l.length*1000:=by
  intro l;induction l with
  |nil=>intro _;simp[cntO]
  |cons x r ih=>
   intro h;have a1:=h x (Zar ..);have a2:=ih fun q hq=>h q (Zan _ hq)
   simp only[cntO,Zal,Zcc,ZaE] at a2⊢;omega
 exact ZaW (key op h2) (Zbd 1000 h1)
theorem Qakx: ∀(l:List (Qae×List Int)) (i:Nat) (q:Qae×List Int),l[i]? =some q->q.2.length+cntO (l.eraseIdx i)=cntO l
 |x::r,0,q,h=>by
  obtain rfl:x=q:=by simpa using h
  simp[cntO]
 |x::r,i+1,q,h=>by
  have:=Qakx r i q (by simpa using h)
  simp only[cntO,ZcO,Zal,Zcc] at this⊢;omega
def cntC.H1(a:Cry):Qan:=[(2,(false,.map ⟨true,[.int .i64,.int .i64]⟩ (a.Op.map Qbc)))]
def kl2'(j:Nat):Bool:=j==2
def cntC.row:Row:=orow asmC.ca cryH 3 (fun a=>a.Op.length<=1000000/\ ∀q∈a.Op,q.2.length<=1000) kl2' (fun a=> .im (.int .i64 (cntO a.Op))) cntC.H1 0
theorem cntC.ok:Qas Tryz.prog 64 cntC.row:=by
 refine Qf1 Qaq tN Tryz.func64 rfl (by kernel_rfl) (by kernel_rfl) (exB:=fun _=>false) (R:=fun a r=>r= .im (.int .i64 (cntO a.Op))) (n:=1) (fun _=>rfl) (by decide)
  (fun a=>by simp[asmC.ca,cryH,Qbk,cntC.H1,kl2',belL,AV.bel]) (fun a=>by simp[asmC.ca,cryH,Qbk,cntC.H1,kl2',belH,belL,AV.bel]) (fun a=>by simp[asmC.ca,cryH,Qbk,cntC.H1,kl2',Qam])
  (fun a=>by simp[Qc2,asmC.ca,cryH,Qbk,cntC.H1,kl2',AObj.nms,nmsL,AV.nms,domB,hget]) (fun a p hp=> ?_) (fun a r h=>by subst h;exact LeV.refl _) ?_
 rotate_left
 intro a hpre;simp only[Tryz.f64,Option.getD,asmC.ca,cryH,Qbk,cntC.H1,kl2'];simp(maxSteps:=9^9)(disch:=omega)only[ZZ,simprocAttr,rch,ORB,asmC.ca,cryH,Qbk,cntC.H1,kl2'];obtain⟨hp1,hp2⟩:=hpre;refine Qay.old ⟨{s:Option (D×D)×List (Qae×List Int)×Nat//s.2.2+cntO s.2.1=cntO a.Op/\(∀q∈s.2.1,q.2.length<=1000)/\s.2.1.length<=1000000},fun s=>⟨[(10,.it 3),(3,.im (.int .i64 s.1.2.2)),(0,.ptr 0 0)],[(3,(true,.iter s.1.1 (s.1.2.1.map Qbc))),(0,(true,.cells 162 (Qbk a.Sys))),(1,(true,.map ⟨true,[.int .i64,.int .i64]⟩ (a.Tl.map Qbe))),(2,(false,.map ⟨true,[.int .i64,.int .i64]⟩ (a.Op.map Qbc)))],4⟩,fun s=>s.1.2.1.length,fun s=>⟨by simp[Qad.good,belT,belH,Qam,AV.bel,belL,Qbk],by simp⟩,⟨⟨(none,a.Op,0),by simp only;exact⟨by omega,hp2,hp1⟩⟩,by simp only[Qbk];simp(maxSteps:=9^9)(disch:=omega)only[ZZ,simprocAttr,rch,ORB,asmC.ca,cryH,Qbk,cntC.H1,kl2',sub]⟩,fun s=> ?_⟩;obtain⟨⟨last,left,n⟩,hs1,hs2,hs3⟩:=s;simp only at hs1 hs2 hs3;simp only[Qbk];simp(maxSteps:=9^9)(disch:=omega)only[ZZ,simprocAttr,rch,ORB,asmC.ca,cryH,Qbk,cntC.H1,kl2',sub,Qal];refine⟨fun hl=> ?_,fun i p hp=> ?_⟩
 .have hl':left=[]:=by simpa using hl
  subst hl'
  have:n=cntO a.Op:=by simpa[cntO] using hs1
  rw[this]
  try trivial
 .rw[ZaK] at hp;cases hq:left[i]? with
  |none=>rw[hq] at hp;cases hp
  |some q=>
   rw[hq] at hp;obtain rfl:=Zaa hp;obtain⟨⟨qx,qy⟩,qn⟩:=q;have hi:i<left.length:=by
    rcases Zbw i left.length with h|h
    .exact h
    .rw[ZaT h] at hq;cases hq
   have hpm:((⟨qx,qy⟩,qn)::left.eraseIdx i).Perm left:=Qqq _ _ _ hq;have hqn:qn.length<=1000:=hs2 _ (Zac hq);have hc2:n+qn.length+cntO (left.eraseIdx i)=cntO a.Op:=by
    have:=Qakx _ _ _ hq
    simp only at this;omega
   have hbn:cntO a.Op<=1000000*1000:=cnt_b hp1 hp2;simp only[Qbc,Qae.c];simp(maxSteps:=9^9)(disch:=omega)only[ZZ,simprocAttr,rch,ORB,asmC.ca,cryH,Qbk,cntC.H1,kl2',sub,Qal];intro _;refine⟨⟨(some (D.agg [.int .i64 qx,.int .i64 qy],.sl false 1 (qn.map intC)),left.eraseIdx i,n+qn.length),?_⟩,?_,?_,?_⟩
   .simp only;refine⟨hc2,fun q hq=>hs2 q (hpm.mem_iff.1 (Zan _ hq)),?_⟩
    have:=hpm.length_eq
    simp at this;omega
   .simp only[ZeO];rw[Zao hi];omega
   .rw[Qak (by omega) (by omega)];simp only;omega
   .simp[Qcd,Qwf]
 simp[cntC.H1] at hp;subst hp;exact .inl ⟨by omega,rfl,rfl⟩
def trmF(s:Qar)(a:Asm):Qajo×Int:=if (seqF s a).2=0 then (if Qaj8 s a=[] then (⟨2,(seqF s a).1,[],[],[]⟩,0) else (⟨0,[],[],[],[]⟩,5)) else (⟨0,[],[],[],[]⟩,(seqF s a).2)
theorem lkP_of{β:Type}: ∀{l:List (Qae×β)} {q:Qae×β},(l.map Prod.fst).Nodup->q∈l->lkP l q.1=some q.2
 |x::r,q,hn,hq=>by
  obtain⟨p,v⟩:=x;rw[Zal,ZbP] at hn;simp only[lkP];rcases Zas.1 hq with rfl|hq
  .rw[Zao rfl]
  .have:q.1≠p:=fun e=>hn.1 (by rw[<-e];exact Zav.2 ⟨q,hq,rfl⟩)
   rw[Zai this];exact lkP_of hn.2 hq
theorem Qaky{g:Qae->List Int}: ∀(l:List Qae),(Qajs g l).length=(l.map fun p=>(g p).length).sum
 |[]=>rfl
 |p::r=>by
  have:=Qaky (g:=g) r
  simp only[Qajs] at this;simp only[Qajs,Zbm,ZaH,Zbv,Zal,Zcc,this]
theorem optsC_len{op:List (Qae×List Int)}(h:(op.map Prod.fst).Nodup):(optsC op).length=cntO op:=by
 rw[optsC,Qaky,((Qall h).map _).sum_nat,ZcR];congr 1;refine ZbL fun q hq=> ?_
 simp only[Function.comp,lkP_of h hq,Zae]
theorem cnt_ge: ∀{l:List (Qae×List Int)},(∀q∈l,q.2≠[])->l.length<=cntO l
 |[],_=>Zbh _
 |x::r,h=>by
  have h1:0<x.2.length:=Zcu.2 (h x (Zar ..));have h2:=cnt_ge fun q hq=>h q (Zan x hq)
  simp only[cntO,Zal,Zcc,ZaE] at h2⊢;omega
theorem ops_ok{s:Qar}{a:Asm}(c1:Qjc s=true)(c2:Qcp s.Set a=true):newC.pre (s,a)/\(∀q∈(Qui s a).Op,q.2.length<=1000)/\(Qui s a).Op.length<=1000000/\(0<cntO (Qui s a).Op↔Qaj8 s a≠[]):=by
 obtain⟨⟨q1,q2,q3,_⟩,q5,_⟩:=Qacj c1;obtain⟨h3,h4⟩:=Qdg c2;have hbp:=Qof (s:=s.Set) (a:=a) (by rw[q5,c2];rfl);have hT:1<=s.Temperature:=by
  simp only[Qjc,Qau,Zaf,Zax] at c1;exact c1.2.2.2.1.1
 have hat:Qbw (tlUp a.Tiles)=atA a:=(RM.of h3.1 fun x hx=>(h3.2 x hx).1).at;have hop:OpOk s (atA a) (Qui s a).Op:=by
  have:=op_new (s:=s) (l:=a.Tiles) hT
  rw[hat] at this;simp only[Qui,hat];exact this
 have hlaw:=opts_law hT hop;have hlen:=optsC_len hop.1;rw[hlaw] at hlen;have hv: ∀q∈(Qui s a).Op,lkP (Qui s a).Op q.1=some q.2:=fun q hq=>lkP_of hop.1 hq
 have hv2: ∀q∈(Qui s a).Op,q.2=Qajt s (atA a) q.1/\q.2≠[]:=fun q hq=>by
  have h5:=hv q hq;rw[hop.2,nonE] at h5;split at h5
  .cases h5
  .rename_i c;have h6:=Zaa h5;exact⟨h6.symm,by rw[<-h6];exact c⟩
 refine⟨⟨q1,by simp only;omega,fun y hy=>⟨h3.2 y hy,hbp.1.2.2.2 y hy⟩⟩,fun q hq=> ?_,?_,?_⟩
 .rw[(hv2 q hq).1];exact ZaW (Qus s _ _ _) (by omega)
 .have h6:(Qui s a).Op.length<=cntO (Qui s a).Op:=cnt_ge fun q hq=>(hv2 q hq).2
  have h7:=Qakc (g:=fun p=>atU s (atA a) p s.Set.Tiles.length) (m:=160) (fun p=>ZaW (Qakm s (atA a) p _) (by omega)) (Qajq a a.Tiles.length);have h8:=Qaj2 a a.Tiles.length;have h9:(Qajq a a.Tiles.length).length*160<=2000*160:=Zbd _ (by omega);have h10:(Qaj8 s a).length<=2000*160:=ZaW h7 h9;omega
 .rw[<-hlen,Zcu]
theorem trm_ok{s:Qar}{a:Asm}(h:(seqF s a).2=0):Qjc s=true/\Qcp s.Set a=true/\a.Tiles.length<=500/\setP s.Set/\Qn7 s.Set a/\s.Set.Tiles.length<=160:=by
 have hc:Qajy s a=0:=by
  simp only[seqF] at h;split at h
  .rename_i c;exact c
  .exact h
 obtain⟨c1,c2,_⟩:=over0 hc;obtain⟨h3,h4⟩:=Qdg c2;exact⟨c1,c2,h4,(Qacj c1).1.1,h3,(Qacj c1).1.2.2.1⟩
def trm0_.ar:List PK->Option (Qar×Asm):=a2 (kR Qar.d) (kR Asm.d)
def trm0_.ae(a:Qar×Asm):List PK:=[.val (.agg (Qar.c a.1)),.val (.agg (Asm.c a.2))]
def trm0_.fv(a:Qar×Asm):Qajo×Int:=(trmF) (a.1) (a.2)
def trm0_.row:Row:=Qfi trm0_.ar (fun a=>Qf6 a.1.Set/\(trmF a.1 a.2).2≠0) (fun a=>(fun b=>D.tup [(fun b=>D.agg (Qajo.c b)) (b.1),(D.int .i64) (b.2)]) (trm0_.fv a))
def Yba:=J @trm0_.ae.eq_1 @trm0_.fv.eq_1
theorem trm0_.ok:Qas Tryz.prog 15 trm0_.row:=by
 refine Qbn Qaq (tC seqX.ok (tC newC.ok (tC cntC.ok tN))) Tryz.func15 rfl (by kernel_rfl) (by kernel_rfl) (ar:=trm0_.ar) (ae:=trm0_.ae) (Qaca (Qab8 Qar.d_le) (Qab8 Asm.d_le)) (n:=2) (fun _=>rfl) (by decide) (rc:=(Qfa (vAgg Qajo.d) (vInt))) (re:=(fun b=>D.tup [(fun b=>D.agg (Qajo.c b)) (b.1),(D.int .i64) (b.2)])) (Qbz (Qb1 Qajo.d_le) (Qa3)) (f:=trm0_.fv) ?_;intro a hpre;simp only[Tryz.f15,Option.getD];simp(maxSteps:=9^9)(disch:=omega)only[ZZ,simprocAttr,rch,Yba,ORC,D.sc,D.scs,scL,decD];obtain⟨s,a⟩:=a;obtain⟨h0,h1⟩:=hpre;simp only at h0 h1⊢;refine orow.os (s,a) [] h0 (fun j=>by simp[domB,hget]) rfl rfl ?_ ?_
 .simp(maxSteps:=9^9)(disch:=omega)only[ZZ,simprocAttr,rch,Yba,ORC,D.sc,D.scs,scL,decD,insX.ca,Qer,Qar.c,Asm.c]
 simp(maxSteps:=9^9)(disch:=omega)only[ZZ,simprocAttr,rch,Yba,ORC,D.sc,D.scs,scL,decD,seqX.r0,seqX.H1,sub,Qba];split
 .rename_i c;refine⟨rfl,?_⟩;simp only[trmF];rw[Zai c]
 .rename_i c;have c':(seqF s a).2=0:=by simpa using c
  obtain⟨c1,c2,c3,c4,c5,c6⟩:=trm_ok c';obtain⟨g1,g2,g3,g4⟩:=ops_ok c1 c2;refine orow.os (s,a) [] g1 (fun j=>by simp[domB,hget]) rfl rfl ?_ ?_
  .simp(maxSteps:=9^9)(disch:=omega)only[ZZ,simprocAttr,rch,Yba,ORC,D.sc,D.scs,scL,decD,newC.ca,Qer,Qar.c,Asm.c]
  simp(maxSteps:=9^9)(disch:=omega)only[ZZ,simprocAttr,rch,Yba,ORC,D.sc,D.scs,scL,decD,newC.H1,sub];refine orow.os (Qui s a) [27,25,26] ⟨g3,g2⟩ (fun j=>Qack _ j) rfl rfl ?_ ?_
  .simp(maxSteps:=9^9)(disch:=omega)only[ZZ,simprocAttr,rch,Yba,ORC,D.sc,D.scs,scL,decD,asmC.ca,cryH,Qbk,Zbg,ZaN,Zbf]
   try exact⟨rfl,rfl,rfl,rfl⟩
  .simp(maxSteps:=9^9)(disch:=omega)only[ZZ,simprocAttr,rch,Yba,ORC,D.sc,D.scs,scL,decD,cntC.H1,kl2',sub,ZaN,Zbf];have hne:Qaj8 s a≠[]:=fun e=>h1 (by simp only[trmF];rw[Zao c',Zao e])
   have hpos:=g4.2 hne;rw[Zao (by omega)];refine⟨rfl,?_⟩;simp only[trmF];rw[Zao c',Zai hne]
def trmX.H1(a:Qar×Asm):Qan:=[(0,(true,.arr 121 3 ((seqF a.1 a.2).1.map Opt.c)))]
def trmX.r0(_:Qar×Asm):AV:= .tup [.agg [.im (.int .i64 2),.own 0,.im (.sl true 0 []),.im (.sl true 0 []),.im (.sl true 0 [])],.im (.int .i64 0)]
def trmX.row:Row:=orow insX.ca (fun _=>[]) 0 (fun a=>Qf6 a.1.Set/\(trmF a.1 a.2).2=0) (fun _=>false) trmX.r0 trmX.H1 20
theorem trmX.ok:Qas Tryz.prog 15 trmX.row:=by
 refine Qnh Qaq (tC seqX.ok (tC newC.ok (tC cntC.ok tN))) Tryz.func15 rfl (by kernel_rfl) (by kernel_rfl) (exB:=fun j=>j==0) (R:=fun a r=>r=trmX.r0 a) (n:=2) (fun _=>rfl) (by decide)
  (fun a=>by simp[insX.ca,trmX.H1,Qar.c,Asm.c,belL,AV.bel]) (fun a=>by simp[insX.ca,trmX.H1,Qar.c,Asm.c,belH,belL,AV.bel]) (fun a=>by simp[insX.ca,trmX.H1,Qar.c,Asm.c,Qam])
  (fun a=>by simp[Qc2,insX.ca,trmX.H1,Qar.c,Asm.c,AObj.nms,nmsL,AV.nms,domB,hget]) (fun a p hp=> ?_) (fun a r h=>by subst h;exact LeV.refl _) ?_
 rotate_left
 intro a hpre;simp only[Tryz.f15,Option.getD,insX.ca,trmX.H1,Qar.c,Asm.c];simp(maxSteps:=9^9)(disch:=omega)only[ZZ,simprocAttr,rch,Qc7,ORB,insX.ca,trmX.H1,Qar.c,Asm.c];obtain⟨s,a⟩:=a;obtain⟨h0,h1⟩:=hpre;simp only at h0 h1⊢;have c:(seqF s a).2=0:=by
  simp only[trmF] at h1;split at h1
  .rename_i c;exact c
  .exact h1
 have hne:Qaj8 s a=[]:=by
  simp only[trmF] at h1;rw[Zao c] at h1;split at h1
  .rename_i e;exact e
  .cases h1
 obtain⟨c1,c2,c3,c4,c5,c6⟩:=trm_ok c;obtain⟨g1,g2,g3,g4⟩:=ops_ok c1 c2;refine orow.os (s,a) [] h0 (fun j=>by simp[domB,hget]) rfl rfl ?_ ?_
 .simp(maxSteps:=9^9)(disch:=omega)only[ZZ,simprocAttr,rch,Qc7,ORB,insX.ca,trmX.H1,Qar.c,Asm.c,insX.ca,Qer,Qar.c,Asm.c]
 simp(maxSteps:=9^9)(disch:=omega)only[ZZ,simprocAttr,rch,Qc7,ORB,insX.ca,trmX.H1,Qar.c,Asm.c,seqX.r0,seqX.H1,sub,Qba];rw[Zai (by simpa using c)];refine orow.os (s,a) [] g1 (fun j=>by simp[domB,hget]) rfl rfl ?_ ?_
 .simp(maxSteps:=9^9)(disch:=omega)only[ZZ,simprocAttr,rch,Qc7,ORB,insX.ca,trmX.H1,Qar.c,Asm.c,newC.ca,Qer,Qar.c,Asm.c]
 simp(maxSteps:=9^9)(disch:=omega)only[ZZ,simprocAttr,rch,Qc7,ORB,insX.ca,trmX.H1,Qar.c,Asm.c,newC.H1,sub];refine orow.os (Qui s a) [27,25,26] ⟨g3,g2⟩ (fun j=>Qack _ j) rfl rfl ?_ ?_
 .simp(maxSteps:=9^9)(disch:=omega)only[ZZ,simprocAttr,rch,Qc7,ORB,insX.ca,trmX.H1,Qar.c,Asm.c,asmC.ca,cryH,Qbk,Zbg,ZaN,Zbf]
  try exact⟨rfl,rfl,rfl,rfl⟩
 simp(maxSteps:=9^9)(disch:=omega)only[ZZ,simprocAttr,rch,Qc7,ORB,insX.ca,trmX.H1,Qar.c,Asm.c,cntC.H1,kl2',sub,ZaN,Zbf];have hz:cntO (Qui s a).Op=0:=by
  apply Zcg;intro h;exact g4.1 (by omega) hne
 rw[hz];simp(maxSteps:=9^9)(disch:=omega)only[ZZ,simprocAttr,rch,Qc7,ORB,insX.ca,trmX.H1,Qar.c,Asm.c,sub];refine⟨[],[(1,some 2),(0,some 3)],⟨[(4,.ptr 1 0),(5,.im (.int .i64 0))],[(1,(true,.cells 37 [.im (.int .i64 2),.own 0,.im (.sl true 0 []),.im (.sl true 0 []),.im (.sl true 0 [])])),(0,(true,.arr 121 3 ((seqF s a).1.map Opt.c)))],2⟩,?_,by simp[Qad.good,belT,belH,Qam,AV.bel,belL],by simp,?_⟩
 .simp only[subP];simp(maxSteps:=9^9)(disch:=omega)only[ZZ,simprocAttr,rch,Qc7,ORB,insX.ca,trmX.H1,Qar.c,Asm.c,Zag,Zah,ZaM]
  try simp
 .simp(maxSteps:=9^9)(disch:=omega)only[ZZ,simprocAttr,rch,Qc7,ORB,insX.ca,trmX.H1,Qar.c,Asm.c,trmX.r0]
 simp[trmX.H1] at hp;subst hp;exact .inr ⟨by omega,by omega,rfl,rfl⟩
def trmS_.ar:List PK->Option (Qar×Asm):=a2 (kR Qar.d) (kR Asm.d)
def trmS_.ae(a:Qar×Asm):List PK:=[.val (.agg (Qar.c a.1)),.val (.agg (Asm.c a.2))]
def trmS_.fv(a:Qar×Asm):Qajo×Int:=(trmF) (a.1) (a.2)
def trmS_.row:Row:=vrow trmS_.ar (fun a=>True) (fun a=>(fun b=>D.tup [(fun b=>D.agg (Qajo.c b)) (b.1),(D.int .i64) (b.2)]) (trmS_.fv a))
def trmS_.q:=vq trmS_.row rfl
theorem trmS_.ok:Qas Tryz.prog 12 trmS_.row:=by
 refine Qaj Qaq (tC seqSp_.ok (tC opsS_.ok tN)) Tryz.func12 rfl (by kernel_rfl) (by kernel_rfl) (ar:=trmS_.ar) (ae:=trmS_.ae) (Qaca (Qab8 Qar.d_le) (Qab8 Asm.d_le)) (n:=2) (fun _=>rfl) (by decide) (rc:=(Qfa (vAgg Qajo.d) (vInt))) (re:=(fun b=>D.tup [(fun b=>D.agg (Qajo.c b)) (b.1),(D.int .i64) (b.2)])) (Qbz (Qb1 Qajo.d_le) (Qa3)) (f:=trmS_.fv) ?_;intro a hpre;simp only[Tryz.f12,Option.getD];simp(maxSteps:=9^9)(disch:=omega)only[ZZ,simprocAttr,rch,trmS_.ae,trmS_.fv,seqSp_.q,seqSp_.ar,seqSp_.fv,opsS_.q,opsS_.ar,opsS_.fv];obtain⟨s,a⟩:=a;simp only;by_cases c:(seqF s a).2=0
 .rw[Zai (by simpa using c)];obtain⟨c1,c2,c3,c4,c5,c6⟩:=trm_ok c;refine⟨⟨c4,c5,c3,by omega⟩,fun _=> ?_⟩;simp only[trmF];rw[Zao c];by_cases e:Qaj8 s a=[]
  .rw[Zao e,Zai (by rw[e];simp)]
  .have:0<(Qaj8 s a).length:=Zcu.2 e
   rw[Zai e,Zao (by omega)]
 .rw[Zao c];simp only[trmF];rw[Zai c]
end Go.Ae
namespace Go.Ae
mutual
def scV:AV->Bool
 | .im d=>d.sc
 | .own _=>true
 | .agg cs=>scVL cs
 | .tup cs=>scVL cs
 | .any| .ptr _ _| .eptr _ _ _| .mp _| .ch _| .it _| .osl _ _ _| .clo _ _ _=>false
def scVL:List AV->Bool
 |[]=>true
 |x::r=>scV x && scVL r
end
def scO:AObj->Bool
 | .arr _ _ rows=>rows.all fun r=>r.all D.sc
 | .arrA _ _ rows=>rows.all scVL
 | .cells _ cs=>scVL cs
 | .map _ _| .chan _ _| .iter _ _| .view _=>false
theorem Qadc{m:Nat}: ∀{rows:List (List AV)},m∈nmsR rows↔ ∃r∈rows,m∈nmsL r
 |[]=>by simp[nmsR]
 |r::rs=>by simp[nmsR,Qadc (rows:=rs)]
section
variable {S1 S':Env}{F:Nat->Prop}
mutual
theorem Qaep(hh: ∀n,F n->S'.h n=S1.h n)(hr: ∀n,F n->S'.ρ n=S1.ρ n): ∀(x:AV) (v:Value),scV x=true->(∀m∈x.nms,F m)->conc S1 x v->conc S' x v
 | .im d,v,hs,_,hc=>by
   simp only[conc] at hc⊢;exact rd_sc (by simpa[scV] using hs) hc
 | .own o,v,_,hm,hc=>by
   simp only[conc] at hc⊢;have h0:F o:=hm o (by simp[AV.nms]);rw[hh o h0,hr o h0];exact hc
 | .agg cs,v,hs,hm,hc=>by
   simp only[conc] at hc⊢;obtain⟨vs,rfl,h⟩:=hc;exact⟨vs,rfl,Qadu hh hr cs _ (by simpa[scV] using hs) (by simpa[AV.nms] using hm) h⟩
 | .tup cs,v,hs,hm,hc=>by
   simp only[conc] at hc⊢;obtain⟨vs,rfl,h⟩:=hc;exact⟨vs,rfl,Qadu hh hr cs _ (by simpa[scV] using hs) (by simpa[AV.nms] using hm) h⟩
 | .any,_,hs,_,_| .ptr _ _,_,hs,_,_| .eptr _ _ _,_,hs,_,_| .mp _,_,hs,_,_| .ch _,_,hs,_,_| .it _,_,hs,_,_| .osl _ _ _,_,hs,_,_| .clo _ _ _,_,hs,_,_=>by simp[scV] at hs
theorem Qadu(hh: ∀n,F n->S'.h n=S1.h n)(hr: ∀n,F n->S'.ρ n=S1.ρ n): ∀(xs:List AV) (vs:List Value),scVL xs=true->(∀m∈nmsL xs,F m)->Qa0 S1 xs vs->Qa0 S' xs vs
 |[],vs,_,_,hc=>by simpa only[Qa0] using hc
 |x::r,vs,hs,hm,hc=>by
  simp only[Qa0] at hc⊢;obtain⟨v,q,rfl,h1,h2⟩:=hc;simp only[scVL,Zaf] at hs;exact⟨v,q,rfl,Qaep hh hr x v hs.1 (fun m h=>hm m (by simp[nmsL,h])) h1,Qadu hh hr r q hs.2 (fun m h=>hm m (by simp[nmsL,h])) h2⟩
end
theorem Qaev(hh: ∀n,F n->S'.h n=S1.h n)(hr: ∀n,F n->S'.ρ n=S1.ρ n): ∀(xs:List AV) (vs:List Value),scVL xs=true->(∀m∈nmsL xs,F m)->Qbv S1 xs vs->Qbv S' xs vs
 |[],vs,_,_,_=>trivial
 |x::r,vs,hs,hm,hc=>by
  simp only[Qbv] at hc⊢;obtain⟨v,q,rfl,h1,h2⟩:=hc;simp only[scVL,Zaf] at hs;exact⟨v,q,rfl,Qaep hh hr x v hs.1 (fun m h=>hm m (by simp[nmsL,h])) h1,Qaev hh hr r q hs.2 (fun m h=>hm m (by simp[nmsL,h])) h2⟩
theorem Qaet{k:Nat}(hh: ∀n,F n->S'.h n=S1.h n)(hr: ∀n,F n->S'.ρ n=S1.ρ n): ∀(rs:List (List AV)) (vs:List Value),rs.all scVL=true->(∀r∈rs,∀m∈nmsL r,F m)->Qbb S1 k rs vs->Qbb S' k rs vs
 |[],vs,_,_,_=>trivial
 |r::rs,vs,hs,hm,hc=>by
  simp only[Qbb] at hc⊢;simp only[Zcb,Zaf] at hs;exact⟨hc.1,Qaev hh hr r _ hs.1 (hm r (Zar ..)) hc.2.1,Qaet hh hr rs _ hs.2 (fun q hq=>hm q (Zan _ hq)) hc.2.2⟩
theorem rdr_scR{ok ok':Nat->Prop}{hp hp':Nat->Option Obj}{k:Nat}: ∀(rs:List (List D)) (vs:List Value),(rs.all fun r=>r.all D.sc)=true->rdr ok hp k rs vs->rdr ok' hp' k rs vs
 |[],_,_,_=>trivial
 |r::rs,vs,hs,hc=>by
  simp only[rdr] at hc⊢;simp only[Zcb,Zaf] at hs;exact⟨hc.1,rdp_sc r _ hs.1 hc.2.1,rdr_scR rs _ hs.2 hc.2.2⟩
theorem objc_new(hh: ∀n,F n->S'.h n=S1.h n)(hr: ∀n,F n->S'.ρ n=S1.ρ n)(hp:S'.hp=S1.hp)(l:Option Loc): ∀(e:AObj),scO e=true->(∀m∈e.nms,F m)->objc S1 l e->objc S' l e
 | .arr T k rows,hs,_,hc=>by
   cases l with
   |none=>simpa only[objc] using hc
   |some lc=>
    simp only[objc] at hc⊢;obtain⟨h1,h2,vs,h3,h4,h5⟩:=hc;exact⟨h1,h2,vs,by rw[hp];exact h3,h4,rdr_scR _ _ hs h5⟩
 | .arrA T k rows,hs,hm,hc=>by
   cases l with
   |none=>simpa only[objc] using hc
   |some lc=>
    simp only[objc] at hc⊢;obtain⟨h1,h2,vs,h3,h4,h5⟩:=hc;refine⟨h1,h2,vs,by rw[hp];exact h3,h4,Qaet hh hr _ _ hs (fun r hr' m hm'=>hm m ?_) h5⟩;simp only[AObj.nms];exact Qadc.2 ⟨r,hr',hm'⟩
 | .cells T cs,hs,hm,hc=>by
   simp only[objc] at hc⊢;obtain⟨lc,vs,h1,h2,h3,h4⟩:=hc;exact⟨lc,vs,h1,h2,by rw[hp];exact h3,Qadu hh hr _ _ hs (fun m h=>hm m (by simpa[AObj.nms] using h)) h4⟩
 | .map _ _,hs,_,_| .chan _ _,hs,_,_| .iter _ _,hs,_,_| .view _,hs,_,_=>by simp[scO] at hs
end
def Qalb{A:Type}(ar:List PK->Option A)(pre:A->Prop)(r0:A->AV)(H1:A->Qan)(cnt nx:Nat)(u:List Nat)(K:Kont):Option (List PK)->Prop
 |some ps=>decK (fun a=>pre a/\K ((r0 a).ren (sgx (fun j=>j) 0 nx)) {use:=u,new:=renH (sgx (fun j=>j) 0 nx) (H1 a),cnt:=cnt}) (ar ps)
 |none=>False
def Qaex{A:Type}(ar:List PK->Option A)(pre:A->Prop)(r0:A->AV)(H1:A->Qan)(cnt:Nat):Row:=fun args h nx K=>Qalb ar pre r0 H1 cnt nx (rchL h args) K (pkFL h args)
def pkvs(ds:List D):List PK:=ds.map PK.val
theorem Qafn{S:Env}: ∀(ds:List D) (vs:List Value),PKL S (pkvs ds) vs->Qa0 S (ds.map .im) vs
 |[],vs,h=>by simpa only[pkvs,ZaM,PKL,Qa0] using h
 |d::r,vs,h=>by
  simp only[pkvs,Zal,PKL,Qa0] at h⊢;obtain⟨v,q,rfl,h1,h2⟩:=h;exact⟨v,q,rfl,by simpa only[conc,PKc] using h1,Qafn r q h2⟩
theorem renL_im(σ:Nat->Nat): ∀(ds:List D),renL σ (ds.map AV.im)=ds.map AV.im
 |[]=>rfl
 |d::r=>by simp only[Zal,renL,AV.ren,renL_im σ r]
mutual
theorem ren_sc(σ:Nat->Nat): ∀x:AV,scV x=true->scV (x.ren σ)=true/\ ∀m∈(x.ren σ).nms,∃j∈x.nms,m=σ j
 | .im d,h=>⟨by simpa only[AV.ren] using h,by simp[AV.ren,AV.nms]⟩
 | .own o,_=>⟨by simp[AV.ren,scV],by simp[AV.ren,AV.nms]⟩
 | .agg cs,h=>by
   obtain⟨h1,h2⟩:=Qady σ cs (by simpa[scV] using h);exact⟨by simpa[AV.ren,scV] using h1,by simpa[AV.ren,AV.nms] using h2⟩
 | .tup cs,h=>by
   obtain⟨h1,h2⟩:=Qady σ cs (by simpa[scV] using h);exact⟨by simpa[AV.ren,scV] using h1,by simpa[AV.ren,AV.nms] using h2⟩
 | .any,h| .ptr _ _,h| .eptr _ _ _,h| .mp _,h| .ch _,h| .it _,h| .osl _ _ _,h| .clo _ _ _,h=>by simp[scV] at h
theorem Qady(σ:Nat->Nat): ∀xs:List AV,scVL xs=true->scVL (renL σ xs)=true/\ ∀m∈nmsL (renL σ xs),∃j∈nmsL xs,m=σ j
 |[],_=>⟨rfl,by simp[renL,nmsL]⟩
 |x::r,h=>by
  simp only[scVL,Zaf] at h;obtain⟨h1,h2⟩:=ren_sc σ x h.1;obtain⟨h3,h4⟩:=Qady σ r h.2;refine⟨by simp only[renL,scVL,h1,h3,Zdj],fun m hm=> ?_⟩;simp only[renL,nmsL,Zaq] at hm⊢;rcases hm with hm|hm
  .obtain⟨j,hj,e⟩:=h2 m hm;exact⟨j,.inl hj,e⟩
  .obtain⟨j,hj,e⟩:=h4 m hm;exact⟨j,.inr hj,e⟩
end
theorem renO_sc(σ:Nat->Nat): ∀e:AObj,scO e=true->scO (e.ren σ)=true/\ ∀m∈(e.ren σ).nms,∃j∈e.nms,m=σ j
 | .arr T k rows,h=>⟨by simpa only[AObj.ren] using h,by simp[AObj.ren,AObj.nms]⟩
 | .arrA T k rows,h=>by
   simp only[scO,ZaJ] at h;refine⟨?_,?_⟩
   .simp only[AObj.ren,scO,List.all_map,ZaJ];exact fun r hr=>(Qady σ r (h r hr)).1
   .intro m hm;simp only[AObj.ren,AObj.nms] at hm⊢;obtain⟨q,hq,hm⟩:=Qadc.1 hm;obtain⟨r,hr,rfl⟩:=Zav.1 hq;obtain⟨j,hj,e⟩:=(Qady σ r (h r hr)).2 m hm;exact⟨j,Qadc.2 ⟨r,hr,hj⟩,e⟩
 | .cells T cs,h=>by
   obtain⟨h1,h2⟩:=Qady σ cs (by simpa[scO] using h);exact⟨by simpa[AObj.ren,scO] using h1,by simpa[AObj.ren,AObj.nms] using h2⟩
 | .map _ _,h| .chan _ _,h| .iter _ _,h| .view _,h=>by simp[scO] at h
theorem vrowX_ok{P:Program}{g:FuncId}{A:Type}{cax:A->List AV}{ca:A->List D}{pre:A->Prop}{klB:Nat->Bool}{r0:A->AV}{H1:A->Qan}{cnt:Nat}
 (hcal:calb P g=true)(hok:Qas P g (orow cax (fun _=>[]) 0 pre klB r0 H1 cnt))(hca: ∀a,cax a=(ca a).map AV.im)
 {ar:List PK->Option A}(hle: ∀ps a,ar ps=some a->LeKL ps (pkvs (ca a)))
 (hr0: ∀a,scV (r0 a)=true/\ ∀m∈(r0 a).nms,m<cnt)
 (hH1: ∀a,∀p∈H1 a,p.1<cnt/\p.2.1=true/\scO p.2.2=true/\ ∀m∈p.2.2.nms,m<cnt):
 Qas P g (Qaex ar pre r0 H1 cnt):=by
 intro args h nx K hrow;unfold Qaex at hrow;cases hp:pkFL h args with
 |none=>rw[hp] at hrow;exact hrow.elim
 |some ps=>
  rw[hp] at hrow;simp only[Qalb] at hrow;cases ha:ar ps with
  |none=>rw[ha] at hrow;exact hrow.elim
  |some a=>
   rw[ha] at hrow;simp only[decK] at hrow;obtain⟨hpre,hK⟩:=hrow;refine⟨Qh7 hcal,_,_,?_,hK⟩;intro C S vs RR hW huse hfresh hnames hargs hfin;have hps:=Qtx hW args ps vs.toList (fun m hm=>huse m (Zby _ hm)) hp hargs;have hWa:=Qxy hW;obtain⟨σ,hσ⟩: ∃σ:Nat->Nat,σ=sgx (fun j=>j) 0 nx:=⟨_,rfl⟩;have hσj: ∀j,σ j=nx+j:=fun j=>by rw[hσ];simp[sgx]
   rw[<-hσ] at hfin;obtain⟨_,r,E,hT,rfl,rfl⟩:=hok (cax a) (fun _=>none) nx (fun r E=>r=(r0 a).ren σ/\E={use:=[],kill:=[],new:=renH σ (H1 a),cnt:=cnt})
    ⟨a,fun j=>j,[],[],hpre,by rw[hca,renL_im],trivial,⟨by simp[domB,hget],by simp[domB,hget],by simp[domB,hget],by simp,by simp[domB,hget]⟩,by rw[hσ],by rw[hσ]⟩
   have hcv:Qa0 S.froz (cax a) vs.toList:=by rw[hca];exact Qafn _ _ ((hle ps a ha).c hps)
   refine hT (frozC S) S.froz vs RR hWa (by simp) (fun n hn=> ?_) (fun n e he m hm hF=> ?_) hcv ?_
   .have:=hfresh n hn
    show (S.h n).map _=none;rw[this];rfl
   .obtain⟨e0,h1,rfl⟩:=Qht he;exact hnames n e0 h1 m hm hF
   intro v S1 hW1 hh1 _ hcv1;have hnew: ∀n e,hget (renH σ (H1 a)) n=some e->Fr nx cnt n/\e.1=true/\scO e.2=true/\ ∀m∈e.2.nms,Fr nx cnt m:=by
    intro n e he;obtain⟨j,e0,h1,h2,rfl⟩:=Qzm he;obtain⟨g1,g2,g3,g4⟩:=hH1 a _ h1;obtain⟨q1,q2⟩:=renO_sc σ e0.2 g3;refine⟨by rw[<-h2,hσj];exact⟨by omega,by omega⟩,g2,q1,fun m hm=> ?_⟩;obtain⟨i,hi,rfl⟩:=q2 m hm
    have:=g4 i hi
    rw[hσj];exact⟨by omega,by omega⟩
   have hsz:S.w.heap.size<=S1.w.heap.size:=hW1.size;have hkeep: ∀b,b<S.w.heap.size->S1.w.heap[b]? =S.w.heap[b]? :=fun b hb=>hW1.keep b hb (fun h=>h)
   have hF0: ∀n,Fr nx cnt n->S.h n=none:=hfresh
   let E':Eff:={use:=rchL h args,kill:=[],new:=renH σ (H1 a),cnt:=cnt}
   have hE': ∀n,E'.appf S.h n=match hget (renH σ (H1 a)) n with
    |some e=>some e
    |none=>S.h n:=fun n=>by simp only[E',Eff.appf];rfl
   have h1h: ∀n,S1.h n=match hget (renH σ (H1 a)) n with
    |some e=>some e
    |none=>S.froz.h n:=fun n=>by rw[hh1];simp only[Eff.appf];rfl
   let S':Env:=⟨fun n=>if nx<=n/\n<nx+cnt then S1.ρ n else S.ρ n,S.ok,E'.appf S.h,S1.w⟩
   have hSh: ∀n,S'.h n=E'.appf S.h n:=fun _=>rfl
   have aF: ∀n,Fr nx cnt n->S'.h n=S1.h n:=by
    intro n hn;rw[hSh,hE',h1h];cases hget (renH σ (H1 a)) n with
    |some e=>rfl
    |none=>
     show S.h n=(S.h n).map _;rw[hF0 n hn];rfl
   have aR: ∀n,Fr nx cnt n->S'.ρ n=S1.ρ n:=fun n hn=>Zao hn
   have oF: ∀n,¬Fr nx cnt n->S'.h n=S.h n:=by
    intro n hn;rw[hSh,hE'];cases hq:hget (renH σ (H1 a)) n with
    |some e=>exact absurd (hnew n e hq).1 hn
    |none=>rfl
   have oR: ∀n,¬Fr nx cnt n->S'.ρ n=S.ρ n:=fun n hn=>Zai hn
   have hp':Pres (fun n=> ¬Fr nx cnt n) S S':=⟨fun b hb=>⟨hb,hkeep b (hW.oks b hb)⟩,fun o ho e' he'=>⟨e',by rw[<-oF o ho];exact he',oR o ho,rfl,rfl⟩⟩;have nF: ∀n e,S.h n=some e-> ¬Fr nx cnt n:=fun n e he hn=>by rw[hF0 n hn] at he;cases he
   have split: ∀o e,S'.h o=some e->(Fr nx cnt o/\S1.h o=some e/\S'.ρ o=S1.ρ o/\e.1=true/\scO e.2=true/\ ∀m∈e.2.nms,Fr nx cnt m)\/(S.h o=some e/\S'.ρ o=S.ρ o):=by
    intro o e he;by_cases hn:Fr nx cnt o
    .left;have h1:S1.h o=some e:=by rw[<-aF o hn];exact he
     have h2:=he;rw[hSh,hE'] at h2;cases hq:hget (renH σ (H1 a)) o with
     |some e1=>
      rw[hq] at h2;obtain rfl:=Zaa h2;exact⟨hn,h1,aR o hn,(hnew o _ hq).2⟩
     |none=>
      rw[hq] at h2;exact absurd hn (nF o e h2)
    .right;exact⟨by rw[<-oF o hn];exact he,oR o hn⟩
   have newB: ∀o e l,S1.h o=some e->S1.ρ o=some l->e.1=true->l.b<S1.w.heap.size/\S.w.heap.size<=l.b:=by
    intro o e l he hl hm;obtain⟨h2,h3⟩:=hW1.loc o e l he hl;rw[hm] at h3;simp only[Zbg] at h3;exact⟨h2,h3.2.elim (fun h=>h) (fun h=>h.elim)⟩
   have hW':Wf C S':=by
    refine⟨hW1.os.trans hW.os,hW1.tape.trans hW.tape,hW1.output.trans hW.output,ZaW hW.size hsz,?_,hW.ok0,hW.ok1,fun b hb=>Zbb (hW.oks b hb) hsz,?_,?_,?_⟩
    .intro b hb hM;exact (hkeep b (Zbb hb hW.size)).trans (hW.keep b hb hM)
    .intro o e he;rcases split o e he with ⟨_,h1,h2,_,h4,h5⟩|⟨h1,h2⟩
     .rw[h2];exact objc_new aF aR rfl _ e.2 h4 h5 (hW1.obj o e h1)
     .rw[h2];exact Qbr hp' (fun lc hl=>hkeep lc.b (hW.loc o e lc h1 hl).1) _ (fun m hm hF=>hnames o e h1 m hm hF) (hW.obj o e h1)
    .intro o e l he hl;rcases split o e he with ⟨_,h1,h2,h3,_⟩|⟨h1,h2⟩
     .rw[h2] at hl;obtain⟨b1,b2⟩:=newB o e l h1 hl h3;refine⟨b1,?_⟩;rw[h3];simp only[Zbg];exact⟨fun hk=>by have:=hW.oks _ hk;omega,.inl (ZaW hW.size b2)⟩
     .rw[h2] at hl;obtain⟨b1,b2⟩:=hW.loc o e l h1 hl;exact⟨Zbb b1 hsz,b2⟩
    .intro o o' e e' l l' he he' hl hl' hb hm;rcases split o e he with ⟨_,h1,h2,h3,_⟩|⟨h1,h2⟩<;>rcases split o' e' he' with ⟨_,k1,k2,k3,_⟩|⟨k1,k2⟩<;>rw[h2] at hl<;>rw[k2] at hl'
     .exact hW1.inj o o' e e' l l' h1 k1 hl hl' hb hm
     .have:=(newB o e l h1 hl h3).2
      have:=(hW.loc o' e' l' k1 hl').1
      omega
     .have:=(newB o' e' l' k1 hl' k3).2
      have:=(hW.loc o e l h1 hl).1
      omega
     .exact hW.inj o o' e e' l l' h1 k1 hl hl' hb hm
   obtain⟨q1,q2⟩:=ren_sc σ (r0 a) (hr0 a).1;refine hfin v S' hW' rfl hp' (Qaep aF aR _ v q1 (fun m hm=> ?_) hcv1);obtain⟨j,hj,rfl⟩:=q2 m hm
   have:=(hr0 a).2 j hj
   rw[hσj];exact⟨by omega,by omega⟩
end Go.Ae
namespace Go.Ae
open Go.Proofs
theorem Qado(l:List Int)(i:Nat)(x:Int):(l.map intC).set i [.int .i64 x]=(l.set i x).map intC:=by rw[ZcA];rfl
def mkI(k:Int)(n:Nat):List Int:=(List.range n).map fun (i:Nat)=>k+(i:Int)
theorem Qad6(k:Int)(n:Nat):(mkI k n).length=n:=by simp[mkI]
theorem Qaf0(k:Int)(n:Nat):mkI k (n+1)=mkI k n++[k+(n:Int)]:=by simp[mkI,Zdn]
theorem mkI_get{k:Int}{n i:Nat}(h:i<n):(mkI k n)[i]? =some (k+(i:Int)):=by simp only[mkI,ZaK];rw[Zbj h];rfl
def mkTo(k:Int)(l:List Int)(i:Nat):List Int:=mkI k i++l.drop i
theorem mkTo_len{k:Int}{l:List Int}{i:Nat}(h:i<=l.length):(mkTo k l i).length=l.length:=by simp[mkTo,Qad6];omega
theorem mkTo_set{k:Int}{l:List Int}{i:Nat}(h:i<l.length):(mkTo k l i).set i (k+(i:Int))=mkTo k l (i+1):=by
 have hd:l.drop i=l[i]::l.drop (i+1):=by rw[ZbD h]
 rw[mkTo,ZcX _ _ (by rw[Qad6];omega),Qad6,hd,Zca,ZcJ,mkTo,Qaf0];simp
theorem mkTo_end{k:Int}{l:List Int}{i:Nat}(h:i=l.length):mkTo k l i=mkI k l.length:=by
 subst h;simp[mkTo]
def mkIC.ca(a:List Int×Int):List AV:=[.own 0,.im (.int .i64 a.2)]
def mkIC.H0(a:List Int×Int):Qan:=[(0,(true,.arr 2 1 (a.1.map intC)))]
def mkIC.H1(a:List Int×Int):Qan:=[(0,(true,.arr 2 1 ((mkI a.2 a.1.length).map intC)))]
def mkIC.row:Row:=orow mkIC.ca mkIC.H0 1 (fun a=>0<=a.2/\a.2+a.1.length<=1099511627776) (fun j=>j==0) (fun a=> .im (.int .i64 (a.2+a.1.length))) mkIC.H1 0
theorem mkIC.ok:Qas Tryz.prog 71 mkIC.row:=by
 refine Qf1 Qaq tN Tryz.func71 rfl (by kernel_rfl) (by kernel_rfl) (exB:=fun _=>false) (R:=fun a r=>r= .im (.int .i64 (a.2+a.1.length))) (n:=2) (fun _=>rfl) (by decide)
  (fun a=>by simp[mkIC.ca,mkIC.H0,mkIC.H1,belL,AV.bel]) (fun a=>by simp[mkIC.ca,mkIC.H0,mkIC.H1,belH,belL,AV.bel]) (fun a=>by simp[mkIC.ca,mkIC.H0,mkIC.H1,Qam])
  (fun a=>by simp[Qc2,mkIC.ca,mkIC.H0,mkIC.H1,AObj.nms,nmsL,AV.nms,domB,hget]) (fun a p hp=> ?_) (fun a r h=>by subst h;exact LeV.refl _) ?_
 rotate_left
 intro a hpre;simp only[Tryz.f71,Option.getD,mkIC.ca,mkIC.H0,mkIC.H1];simp(maxSteps:=9^9)(disch:=omega)only[ZZ,simprocAttr,rch,ORB,mkIC.ca,mkIC.H0,mkIC.H1];obtain⟨l,k⟩:=a;simp only at hpre⊢;obtain⟨h1,h2⟩:=hpre;refine Qay.old ⟨{i:Nat//i<=l.length},fun i=>⟨[(5,.im (.int .i64 i.1)),(4,.im (.int .i64 0)),(1,.im (.int .i64 (k+i.1))),(0,.own 0)],[(0,(true,.arr 2 1 ((mkTo k l i.1).map intC)))],1⟩,fun i=>l.length - i.1,fun i=>⟨by simp[Qad.good,belT,belH,Qam,AV.bel,belL],by simp⟩,⟨⟨0,by simp⟩,by simp(maxSteps:=9^9)(disch:=omega)only[ZZ,simprocAttr,rch,ORB,mkIC.ca,mkIC.H0,mkIC.H1,sub];simp[mkTo,mkI]⟩,fun i=> ?_⟩;obtain⟨i,hi1⟩:=i;have hml:=mkTo_len (k:=k) hi1;simp(maxSteps:=9^9)(disch:=omega)only[ZZ,simprocAttr,rch,ORB,mkIC.ca,mkIC.H0,mkIC.H1,sub,Qal,hml];intro _;refine⟨fun hi=>⟨hi,hi,fun x _=>⟨⟨i+1,by omega⟩,by simp only;omega,⟨?_,?_⟩,?_⟩⟩,fun hi=>⟨by omega,by rw[mkTo_end (by omega)]⟩⟩
 .rw[Qak (by omega) (by omega)];simp only;omega
 .rw[Qak (by omega) (by omega)];simp only;omega
 .rw[Qado,mkTo_set hi]
 simp[mkIC.H1] at hp;subst hp;exact .inl ⟨by omega,rfl,rfl⟩
def Qagb(l:List Int)(k:Int):Int:=if l=mkI k l.length then k+l.length else -1
def heldIS.ar:List PK->Option ((List Int)×Int):=a2 (kS intD) kI
def heldIS.ae(a:(List Int)×Int):List PK:=[.val (.sl false 1 (a.1.map intC)),.val (.int .i64 a.2)]
def heldIS.fv(a:(List Int)×Int):Int:=(Qagb) (a.1) (a.2)
def heldIS.row:Row:=Qfi heldIS.ar (fun a=>0<=a.2/\a.2+a.1.length<=1099511627776) (fun a=>(D.int .i64) (heldIS.fv a))
def heldIS.q:=vqF heldIS.row rfl
theorem heldIS.ok:Qas Tryz.prog 74 heldIS.row:=by
 refine Qbn Qaq tN Tryz.func74 rfl (by kernel_rfl) (by kernel_rfl) (ar:=heldIS.ar) (ae:=heldIS.ae) (Qaca (Qacb 1 Qb3 (fun _=>rfl)) Qab9) (n:=2) (fun _=>rfl) (by decide) (rc:=(vInt)) (re:=(D.int .i64)) (Qa3) (f:=heldIS.fv) ?_;intro a hpre;simp only[Tryz.f74,Option.getD];simp(maxSteps:=9^9)(disch:=omega)only[ZZ,simprocAttr,rch,heldIS.ae,heldIS.fv,ORC,D.sc,D.scs,scL,decD];obtain⟨l,k⟩:=a;simp only at hpre⊢;obtain⟨h1,h2⟩:=hpre;refine Qay.old ⟨{i:Nat//i<=l.length/\l.take i=mkI k i},fun i=>⟨[(5,.im (.int .i64 i.1)),(4,.im (.int .i64 0)),(1,.im (.int .i64 (k+i.1))),(0,.im (.sl false 1 (l.map intC)))],[],0⟩,fun i=>l.length - i.1,fun i=>⟨by simp[Qad.good,belT,belH,Qam,AV.bel,belL],by simp⟩,⟨⟨0,by simp[mkI]⟩,by simp(maxSteps:=9^9)(disch:=omega)only[ZZ,simprocAttr,rch,heldIS.ae,heldIS.fv,ORC,D.sc,D.scs,scL,decD,sub];simp⟩,fun i=> ?_⟩;obtain⟨i,hi1,hi2⟩:=i;simp(maxSteps:=9^9)(disch:=omega)only[ZZ,simprocAttr,rch,heldIS.ae,heldIS.fv,ORC,D.sc,D.scs,scL,decD,sub,Qal];intro hn;refine⟨fun hi=>⟨hi,fun x hx=>⟨fun c=> ?_,fun c=>⟨⟨i+1,by omega,?_⟩,by simp only;omega,?_,?_⟩⟩⟩,fun hi=> ?_⟩
 .have: ¬l=mkI k l.length:=by
   intro h;rw[h,mkI_get hi] at hx;exact c (Zaa hx).symm
  simp only[Qagb];rw[Zai this]
 .rw[Qwe hx,hi2,Qaf0,ZaZ.1 c]
 .rw[Qak (by omega) (by omega)];simp only;omega
 .rw[Qak (by omega) (by omega)];simp only;omega
 .have hil:i=l.length:=by omega
  subst hil;rw[ZbT] at hi2;simp only[Qagb];rw[Zao hi2]
def digK(n:Nat):ByteArray:=if h:n=0 then ByteArray.empty else digK (n/10)++strI [IntKind.u8.wrap (48+((n % 10:Nat):Int))] termination_by n
def mkTx(k:Int):ByteArray:=if k<=0 then "m0".toUTF8 else "m".toUTF8++digK k.toNat
def mkText.ar:List PK->Option (Int):=a1 kI
def mkText.ae(a:Int):List PK:=[.val (.int .i64 a)]
def mkText.fv(a:Int):ByteArray:=(mkTx) a
def mkText.row:Row:=vrow mkText.ar (fun a=>a<=1099511627776) (fun a=>(D.str) (mkText.fv a))
def mkText.q:=vq mkText.row rfl
theorem mkText.ok:Qas Tryz.prog 215 mkText.row:=by
 refine Qaj Qaq tN Tryz.func215 rfl (by kernel_rfl) (by kernel_rfl) (ar:=mkText.ar) (ae:=mkText.ae) (Qacd Qab9) (n:=1) (fun _=>rfl) (by decide) (rc:=(vStr)) (re:=(D.str)) (vStr_le) (f:=mkText.fv) ?_;intro a hpre;simp only[Tryz.f215,Option.getD];simp(maxSteps:=9^9)(disch:=omega)only[ZZ,simprocAttr,rch,mkText.ae,mkText.fv];by_cases c0:a<=0
 .rw[Zao c0];simp only[mkTx];rw[Zao c0];rfl
 rw[Zai c0];have eR:mkTx a= "m".toUTF8++digK a.toNat:=by simp only[mkTx];rw[Zai c0]
 refine Qay.old ⟨{q:Nat×ByteArray//(q.1:Int)<=a/\digK a.toNat=digK q.1++q.2/\q.2.size+q.1<=a.toNat},fun q=>⟨[(3,.im (.str q.1.2)),(0,.im (.int .i64 q.1.1))],[],0⟩,fun q=>q.1.1,fun q=>⟨by simp[Qad.good,belT,belH,Qam,AV.bel,belL],by simp⟩,⟨⟨(a.toNat,ByteArray.empty),by simp only;exact⟨by omega,by simp,by simp⟩⟩,by simp(maxSteps:=9^9)(disch:=omega)only[ZZ,simprocAttr,rch,mkText.ae,mkText.fv,sub];exact⟨rfl,by omega⟩⟩,fun q=> ?_⟩;obtain⟨⟨q,out⟩,hq1,hq2,hq3⟩:=q;simp only at hq1 hq2 hq3;simp(maxSteps:=9^9)(disch:=omega)only[ZZ,simprocAttr,rch,mkText.ae,mkText.fv,sub,Qal];refine⟨fun c1=> ?_,fun c1=> ?_⟩
 .have hq:q≠0:=by omega
  have e1:(q:Int).tmod 10=((q % 10:Nat):Int):=by rw[Zdt (by omega)];omega
  have e2:(q:Int).tdiv 10=((q/10:Nat):Int):=by rw[Zeg (by omega)];omega
  have e3:IntKind.i64.wrap (48+(q:Int).tmod 10)=48+((q % 10:Nat):Int):=by rw[e1];exact Qak (by omega) (by omega)
  rw[e3,e2];have hs:({data:= #[UInt8.ofNat (IntKind.u8.wrap (48+((q % 10:Nat):Int))).toNat]}:ByteArray)=strI [IntKind.u8.wrap (48+((q % 10:Nat):Int))]:=rfl;have hz:(strI [IntKind.u8.wrap (48+((q % 10:Nat):Int))]).size=1:=rfl;rw[hs];refine⟨by omega,⟨(q/10,strI [IntKind.u8.wrap (48+((q % 10:Nat):Int))]++out),by simp only;omega,?_,?_⟩,by simp only;omega,rfl,by exact Qak (by omega) (by omega)⟩
  .simp only;rw[hq2,digK,dif_neg hq,ByteArray.append_assoc]
  .simp only[ByteArray.size_append,hz];omega
 .have hq:q=0:=by omega
  subst hq;refine⟨by show 1+out.size<=_;omega,?_⟩;rw[eR,hq2,digK,dif_pos rfl,ByteArray.empty_append];rfl
def wrL{A:Type}(f:Nat->A)(l:List A)(i:Nat):List A:=(List.range i).map f++l.drop i
theorem Qafc{A:Type}{f:Nat->A}{l:List A}{i:Nat}(h:i<=l.length):(wrL f l i).length=l.length:=by simp[wrL];omega
theorem Qaef{A:Type}(f:Nat->A)(l:List A):wrL f l 0=l:=by simp[wrL]
theorem Qaff{A:Type}{f:Nat->A}{l:List A}{i:Nat}(h:i<l.length):(wrL f l i).set i (f i)=wrL f l (i+1):=by
 have hd:l.drop i=l[i]::l.drop (i+1):=by rw[ZbD h]
 have hl:((List.range i).map f).length=i:=by simp
 rw[wrL,ZcX _ _ (by rw[hl];omega),hl,hd,Zca,ZcJ,wrL,Zdn];simp
def wrE{A:Type}(f:Nat->A)(n:Nat):List A:=(List.range n).map f
theorem Qafk{A:Type}{f:Nat->A}{l:List A}{i:Nat}(h:i=l.length):wrL f l i=wrE f l.length:=by
 subst h;simp[wrL,wrE]
def gF(k:Int)(i:Nat):Glue:=⟨mkTx (k+2*i),k+2*i+1⟩
def mkGC.ca(a:List Glue×Int):List AV:=[.own 0,.im (.int .i64 a.2)]
def mkGC.H0(a:List Glue×Int):Qan:=[(0,(true,.arr 263 2 (a.1.map Glue.c)))]
def mkGC.H1(a:List Glue×Int):Qan:=[(0,(true,.arr 263 2 ((wrE (gF a.2) a.1.length).map Glue.c)))]
def mkGC.row:Row:=orow mkGC.ca mkGC.H0 1 (fun a=>0<=a.2/\a.2+2*a.1.length<=1099511627776) (fun j=>j==0) (fun a=> .im (.int .i64 (a.2+2*a.1.length))) mkGC.H1 0
def Ybb:=J @mkText.q (J @mkText.ar.eq_1 @mkText.fv.eq_1)
theorem mkGC.ok:Qas Tryz.prog 147 mkGC.row:=by
 refine Qf1 Qaq (tC mkText.ok tN) Tryz.func147 rfl (by kernel_rfl) (by kernel_rfl) (exB:=fun _=>false) (R:=fun a r=>r= .im (.int .i64 (a.2+2*a.1.length))) (n:=2) (fun _=>rfl) (by decide)
  (fun a=>by simp[mkGC.ca,mkGC.H0,mkGC.H1,belL,AV.bel]) (fun a=>by simp[mkGC.ca,mkGC.H0,mkGC.H1,belH,belL,AV.bel]) (fun a=>by simp[mkGC.ca,mkGC.H0,mkGC.H1,Qam])
  (fun a=>by simp[Qc2,mkGC.ca,mkGC.H0,mkGC.H1,AObj.nms,nmsL,AV.nms,domB,hget]) (fun a p hp=> ?_) (fun a r h=>by subst h;exact LeV.refl _) ?_
 rotate_left
 intro a hpre;simp only[Tryz.f147,Option.getD,mkGC.ca,mkGC.H0,mkGC.H1];simp(maxSteps:=9^9)(disch:=omega)only[ZZ,simprocAttr,rch,Ybb,ORB,mkGC.ca,mkGC.H0,mkGC.H1];obtain⟨l,k⟩:=a;simp only at hpre⊢;obtain⟨h1,h2⟩:=hpre;refine Qay.old ⟨{i:Nat//i<=l.length},fun i=>⟨[(5,.im (.int .i64 i.1)),(4,.im (.int .i64 0)),(1,.im (.int .i64 (k+2*i.1))),(0,.own 0)],[(0,(true,.arr 263 2 ((wrL (gF k) l i.1).map Glue.c)))],1⟩,fun i=>l.length - i.1,fun i=>⟨by simp[Qad.good,belT,belH,Qam,AV.bel,belL],by simp⟩,⟨⟨0,by simp⟩,by simp(maxSteps:=9^9)(disch:=omega)only[ZZ,simprocAttr,rch,Ybb,ORB,mkGC.ca,mkGC.H0,mkGC.H1,sub,Qaef];simp⟩,fun i=> ?_⟩;obtain⟨i,hi1⟩:=i;have hml:=Qafc (f:=gF k) hi1;simp(maxSteps:=9^9)(disch:=omega)only[ZZ,simprocAttr,rch,Ybb,ORB,mkGC.ca,mkGC.H0,mkGC.H1,sub,Qal,hml];intro _;refine⟨fun hi=>⟨by omega,hi,hi,fun x hx=> ?_⟩,fun hi=> ?_⟩
 .have w1:IntKind.i64.wrap (k+2*(i:Int)+1)=k+2*(i:Int)+1:=Qak (by omega) (by omega);have hl2:i<(List.map Glue.c (wrL (gF k) l i)).length:=by rw[Zbv,hml];exact hi
  refine⟨by rw[ZaX];exact hl2,by rw[ZaX];exact hl2,Qi3 (Zau hl2) ?_⟩;simp(maxSteps:=9^9)(disch:=omega)only[ZZ,simprocAttr,rch,Ybb,ORB,mkGC.ca,mkGC.H0,mkGC.H1,sub,w1,Zel];refine⟨⟨i+1,by omega⟩,by simp only;omega,⟨?_,?_⟩,?_⟩
  .rw[Qak (by omega) (by omega)];simp only;omega
  .rw[Qak (by omega) (by omega)];simp only;omega
  .simp only;rw[<-Qaff hi,ZcA];rfl
 .exact⟨by omega,by rw[Qafk (by omega)]⟩
 simp[mkGC.H1] at hp;subst hp;exact .inl ⟨by omega,rfl,rfl⟩
def pF(k:Int)(i:Nat):Qab:=⟨⟨k+3*i,k+3*i+1⟩,k+3*i+2⟩
def mkPC.ca(a:List Qab×Int):List AV:=[.own 0,.im (.int .i64 a.2)]
def mkPC.H0(a:List Qab×Int):Qan:=[(0,(true,.arr 187 3 (a.1.map Qab.c)))]
def mkPC.H1(a:List Qab×Int):Qan:=[(0,(true,.arr 187 3 ((wrE (pF a.2) a.1.length).map Qab.c)))]
def mkPC.row:Row:=orow mkPC.ca mkPC.H0 1 (fun a=>0<=a.2/\a.2+3*a.1.length<=1099511627776) (fun j=>j==0) (fun a=> .im (.int .i64 (a.2+3*a.1.length))) mkPC.H1 0
theorem mkPC.ok:Qas Tryz.prog 69 mkPC.row:=by
 refine Qf1 Qaq tN Tryz.func69 rfl (by kernel_rfl) (by kernel_rfl) (exB:=fun _=>false) (R:=fun a r=>r= .im (.int .i64 (a.2+3*a.1.length))) (n:=2) (fun _=>rfl) (by decide)
  (fun a=>by simp[mkPC.ca,mkPC.H0,mkPC.H1,belL,AV.bel]) (fun a=>by simp[mkPC.ca,mkPC.H0,mkPC.H1,belH,belL,AV.bel]) (fun a=>by simp[mkPC.ca,mkPC.H0,mkPC.H1,Qam])
  (fun a=>by simp[Qc2,mkPC.ca,mkPC.H0,mkPC.H1,AObj.nms,nmsL,AV.nms,domB,hget]) (fun a p hp=> ?_) (fun a r h=>by subst h;exact LeV.refl _) ?_
 rotate_left
 intro a hpre;simp only[Tryz.f69,Option.getD,mkPC.ca,mkPC.H0,mkPC.H1];simp(maxSteps:=9^9)(disch:=omega)only[ZZ,simprocAttr,rch,ORB,mkPC.ca,mkPC.H0,mkPC.H1];obtain⟨l,k⟩:=a;simp only at hpre⊢;obtain⟨h1,h2⟩:=hpre;refine Qay.old ⟨{i:Nat//i<=l.length},fun i=>⟨[(5,.im (.int .i64 i.1)),(4,.im (.int .i64 0)),(1,.im (.int .i64 (k+3*i.1))),(0,.own 0)],[(0,(true,.arr 187 3 ((wrL (pF k) l i.1).map Qab.c)))],1⟩,fun i=>l.length - i.1,fun i=>⟨by simp[Qad.good,belT,belH,Qam,AV.bel,belL],by simp⟩,⟨⟨0,by simp⟩,by simp(maxSteps:=9^9)(disch:=omega)only[ZZ,simprocAttr,rch,ORB,mkPC.ca,mkPC.H0,mkPC.H1,sub,Qaef];simp⟩,fun i=> ?_⟩;obtain⟨i,hi1⟩:=i;have hml:=Qafc (f:=pF k) hi1;simp(maxSteps:=9^9)(disch:=omega)only[ZZ,simprocAttr,rch,ORB,mkPC.ca,mkPC.H0,mkPC.H1,sub,Qal,hml];intro _;refine⟨fun hi=>⟨hi,hi,fun x hx=> ?_⟩,fun hi=> ?_⟩
 .have w1:IntKind.i64.wrap (k+3*(i:Int)+1)=k+3*(i:Int)+1:=Qak (by omega) (by omega);have w2:IntKind.i64.wrap (k+3*(i:Int)+1+1)=k+3*(i:Int)+2:=(Qak (by omega) (by omega)).trans (by omega);have hl2:i<(List.map Qab.c (wrL (pF k) l i)).length:=by rw[Zbv,hml];exact hi
  simp only[w1,w2];refine⟨by rw[ZaX];exact hl2,by rw[ZaX];exact hl2,Qi3 (Zau hl2) ?_⟩;simp(maxSteps:=9^9)(disch:=omega)only[ZZ,simprocAttr,rch,ORB,mkPC.ca,mkPC.H0,mkPC.H1,sub,w1,w2,Zel];refine⟨by rw[ZaX];exact hl2,by rw[ZaX];exact hl2,Qi3 (Zau hl2) ?_⟩;simp(maxSteps:=9^9)(disch:=omega)only[ZZ,simprocAttr,rch,ORB,mkPC.ca,mkPC.H0,mkPC.H1,sub,w1,w2,Zel];refine⟨⟨i+1,by omega⟩,by simp only;omega,⟨?_,?_⟩,?_⟩
  .rw[Qak (by omega) (by omega)];simp only;omega
  .rw[Qak (by omega) (by omega)];simp only;omega
  .simp only;rw[<-Qaff hi,ZcA];rfl
 .exact⟨by omega,by rw[Qafk (by omega)]⟩
 simp[mkPC.H1] at hp;subst hp;exact .inl ⟨by omega,rfl,rfl⟩
def oF(k:Int)(i:Nat):Opt:=⟨⟨k+3*i,k+3*i+1⟩,k+3*i+2⟩
def mkOC.ca(a:List Opt×Int):List AV:=[.own 0,.im (.int .i64 a.2)]
def mkOC.H0(a:List Opt×Int):Qan:=[(0,(true,.arr 121 3 (a.1.map Opt.c)))]
def mkOC.H1(a:List Opt×Int):Qan:=[(0,(true,.arr 121 3 ((wrE (oF a.2) a.1.length).map Opt.c)))]
def mkOC.row:Row:=orow mkOC.ca mkOC.H0 1 (fun a=>0<=a.2/\a.2+3*a.1.length<=1099511627776) (fun j=>j==0) (fun a=> .im (.int .i64 (a.2+3*a.1.length))) mkOC.H1 0
theorem mkOC.ok:Qas Tryz.prog 70 mkOC.row:=by
 refine Qf1 Qaq tN Tryz.func70 rfl (by kernel_rfl) (by kernel_rfl) (exB:=fun _=>false) (R:=fun a r=>r= .im (.int .i64 (a.2+3*a.1.length))) (n:=2) (fun _=>rfl) (by decide)
  (fun a=>by simp[mkOC.ca,mkOC.H0,mkOC.H1,belL,AV.bel]) (fun a=>by simp[mkOC.ca,mkOC.H0,mkOC.H1,belH,belL,AV.bel]) (fun a=>by simp[mkOC.ca,mkOC.H0,mkOC.H1,Qam])
  (fun a=>by simp[Qc2,mkOC.ca,mkOC.H0,mkOC.H1,AObj.nms,nmsL,AV.nms,domB,hget]) (fun a p hp=> ?_) (fun a r h=>by subst h;exact LeV.refl _) ?_
 rotate_left
 intro a hpre;simp only[Tryz.f70,Option.getD,mkOC.ca,mkOC.H0,mkOC.H1];simp(maxSteps:=9^9)(disch:=omega)only[ZZ,simprocAttr,rch,ORB,mkOC.ca,mkOC.H0,mkOC.H1];obtain⟨l,k⟩:=a;simp only at hpre⊢;obtain⟨h1,h2⟩:=hpre;refine Qay.old ⟨{i:Nat//i<=l.length},fun i=>⟨[(5,.im (.int .i64 i.1)),(4,.im (.int .i64 0)),(1,.im (.int .i64 (k+3*i.1))),(0,.own 0)],[(0,(true,.arr 121 3 ((wrL (oF k) l i.1).map Opt.c)))],1⟩,fun i=>l.length - i.1,fun i=>⟨by simp[Qad.good,belT,belH,Qam,AV.bel,belL],by simp⟩,⟨⟨0,by simp⟩,by simp(maxSteps:=9^9)(disch:=omega)only[ZZ,simprocAttr,rch,ORB,mkOC.ca,mkOC.H0,mkOC.H1,sub,Qaef];simp⟩,fun i=> ?_⟩;obtain⟨i,hi1⟩:=i;have hml:=Qafc (f:=oF k) hi1;simp(maxSteps:=9^9)(disch:=omega)only[ZZ,simprocAttr,rch,ORB,mkOC.ca,mkOC.H0,mkOC.H1,sub,Qal,hml];intro _;refine⟨fun hi=>⟨hi,hi,fun x hx=> ?_⟩,fun hi=> ?_⟩
 .have w1:IntKind.i64.wrap (k+3*(i:Int)+1)=k+3*(i:Int)+1:=Qak (by omega) (by omega);have w2:IntKind.i64.wrap (k+3*(i:Int)+1+1)=k+3*(i:Int)+2:=(Qak (by omega) (by omega)).trans (by omega);have hl2:i<(List.map Opt.c (wrL (oF k) l i)).length:=by rw[Zbv,hml];exact hi
  simp only[w1,w2];refine⟨by rw[ZaX];exact hl2,by rw[ZaX];exact hl2,Qi3 (Zau hl2) ?_⟩;simp(maxSteps:=9^9)(disch:=omega)only[ZZ,simprocAttr,rch,ORB,mkOC.ca,mkOC.H0,mkOC.H1,sub,w1,w2,Zel];refine⟨by rw[ZaX];exact hl2,by rw[ZaX];exact hl2,Qi3 (Zau hl2) ?_⟩;simp(maxSteps:=9^9)(disch:=omega)only[ZZ,simprocAttr,rch,ORB,mkOC.ca,mkOC.H0,mkOC.H1,sub,w1,w2,Zel];refine⟨⟨i+1,by omega⟩,by simp only;omega,⟨?_,?_⟩,?_⟩
  .rw[Qak (by omega) (by omega)];simp only;omega
  .rw[Qak (by omega) (by omega)];simp only;omega
  .simp only;rw[<-Qaff hi,ZcA];rfl
 .exact⟨by omega,by rw[Qafk (by omega)]⟩
 simp[mkOC.H1] at hp;subst hp;exact .inl ⟨by omega,rfl,rfl⟩
def toIX.ca(a:List Int):List AV:=[.im (.sl false 1 (a.map intC))]
def toIX.H1(a:List Int):Qan:=[(1,(true,.arr 2 1 (a.map intC)))]
def toIX.row:Row:=orow toIX.ca (fun _=>[]) 0 (fun a=>a.length<=1073741824) (fun _=>false) (fun _=> .own 1) toIX.H1 2
theorem toIX.ok:Qas Tryz.prog 32 toIX.row:=by
 refine Qf1 Qaq tN Tryz.func32 rfl (by kernel_rfl) (by kernel_rfl) (exB:=fun j=>j==1) (R:=fun _ r=>r= .own 1) (n:=1) (fun _=>rfl) (by decide)
  (fun a=>by simp[toIX.ca,toIX.H1,belL,AV.bel]) (fun a=>by simp[toIX.ca,toIX.H1,belH,belL,AV.bel]) (fun a=>by simp[toIX.ca,toIX.H1,Qam])
  (fun a=>by simp[Qc2,toIX.ca,toIX.H1,AObj.nms,nmsL,AV.nms,domB,hget]) (fun a p hp=> ?_) (fun a r h=>by subst h;exact LeV.refl _) ?_
 rotate_left
 intro a hpre;simp only[Tryz.f32,Option.getD,toIX.ca,toIX.H1];simp(maxSteps:=9^9)(disch:=omega)only[ZZ,simprocAttr,rch,ORB,toIX.ca,toIX.H1];intro hlen;have hpl:a.length<=1073741824:=hpre;refine⟨by omega,?_⟩;refine Qay.old ⟨{k:Nat//k<=a.length},fun k=>⟨[(4,.im (.int .i64 k.1)),(3,.own 1),(0,.im (.sl false 1 (a.map intC)))],[(1,(true,.arr 2 1 ((a.take k.1).map intC++List.replicate (a.length - k.1) [.int .i64 0])))],2⟩,fun k=>a.length - k.1,fun k=>⟨by simp[Qad.good,belT,belH,Qam,AV.bel,belL],Zak _⟩,⟨⟨0,by omega⟩,by simp(maxSteps:=9^9)(disch:=omega)only[ZZ,simprocAttr,rch,ORB,toIX.ca,toIX.H1,sub];simp⟩,fun k=> ?_⟩;obtain⟨k,hk1⟩:=k;simp(maxSteps:=9^9)(disch:=omega)only[ZZ,simprocAttr,rch,ORB,toIX.ca,toIX.H1,sub,Qal,Qk2 _ _ a k hk1];intro _;refine⟨fun hk=> ?_,fun hk=> ?_⟩
 .refine⟨hk,fun x hx=>⟨hk,hk,Qi3 (Qj5 intC _ a k x hx) ?_⟩⟩;simp(maxSteps:=9^9)(disch:=omega)only[ZZ,simprocAttr,rch,ORB,toIX.ca,toIX.H1,sub];refine⟨⟨k+1,by omega⟩,by simp only;omega,?_,?_⟩
  .rw[Qak (by omega) (by omega)];simp only;omega
  .exact Qli intC _ a k x hx
 .rw[Qkp intC _ a k (by omega)]
  try trivial
 simp[toIX.H1] at hp;subst hp;exact .inr ⟨by omega,by omega,rfl,rfl⟩
def toGX.ca(a:List Glue):List AV:=[.im (.sl false 2 (a.map Glue.c))]
def toGX.H1(a:List Glue):Qan:=[(1,(true,.arr 263 2 (a.map Glue.c)))]
def toGX.row:Row:=orow toGX.ca (fun _=>[]) 0 (fun a=>a.length<=1073741824) (fun _=>false) (fun _=> .own 1) toGX.H1 2
def Ybc:=J @toGlue.q (J @toGlue.ar.eq_1 @toGlue.fv.eq_1)
theorem toGX.ok:Qas Tryz.prog 138 toGX.row:=by
 refine Qf1 Qaq (tC toGlue.ok tN) Tryz.func138 rfl (by kernel_rfl) (by kernel_rfl) (exB:=fun j=>j==1) (R:=fun _ r=>r= .own 1) (n:=1) (fun _=>rfl) (by decide)
  (fun a=>by simp[toGX.ca,toGX.H1,belL,AV.bel]) (fun a=>by simp[toGX.ca,toGX.H1,belH,belL,AV.bel]) (fun a=>by simp[toGX.ca,toGX.H1,Qam])
  (fun a=>by simp[Qc2,toGX.ca,toGX.H1,AObj.nms,nmsL,AV.nms,domB,hget]) (fun a p hp=> ?_) (fun a r h=>by subst h;exact LeV.refl _) ?_
 rotate_left
 intro a hpre;simp only[Tryz.f138,Option.getD,toGX.ca,toGX.H1];simp(maxSteps:=9^9)(disch:=omega)only[ZZ,simprocAttr,rch,Ybc,ORB,toGX.ca,toGX.H1];intro hlen;have hpl:a.length<=1073741824:=hpre;refine⟨by omega,?_⟩;refine Qay.old ⟨{k:Nat//k<=a.length},fun k=>⟨[(4,.im (.int .i64 k.1)),(3,.own 1),(0,.im (.sl false 2 (a.map Glue.c)))],[(1,(true,.arr 263 2 ((a.take k.1).map Glue.c++List.replicate (a.length - k.1) [.str ByteArray.empty,.int .i64 0])))],2⟩,fun k=>a.length - k.1,fun k=>⟨by simp[Qad.good,belT,belH,Qam,AV.bel,belL],Zak _⟩,⟨⟨0,by omega⟩,by simp(maxSteps:=9^9)(disch:=omega)only[ZZ,simprocAttr,rch,Ybc,ORB,toGX.ca,toGX.H1,sub];simp⟩,fun k=> ?_⟩;obtain⟨k,hk1⟩:=k;simp(maxSteps:=9^9)(disch:=omega)only[ZZ,simprocAttr,rch,Ybc,ORB,toGX.ca,toGX.H1,sub,Qal,Qk2 _ _ a k hk1];intro _;refine⟨fun hk=> ?_,fun hk=> ?_⟩
 .refine⟨hk,fun x hx=>⟨hk,hk,Qi3 (Qj5 Glue.c _ a k x hx) ?_⟩⟩;simp(maxSteps:=9^9)(disch:=omega)only[ZZ,simprocAttr,rch,Ybc,ORB,toGX.ca,toGX.H1,sub];refine⟨⟨k+1,by omega⟩,by simp only;omega,?_,?_⟩
  .rw[Qak (by omega) (by omega)];simp only;omega
  .exact Qli Glue.c _ a k x hx
 .rw[Qkp Glue.c _ a k (by omega)]
  try trivial
 simp[toGX.H1] at hp;subst hp;exact .inr ⟨by omega,by omega,rfl,rfl⟩
def toPX.ca(a:List Qab):List AV:=[.im (.sl false 3 (a.map Qab.c))]
def toPX.H1(a:List Qab):Qan:=[(1,(true,.arr 187 3 (a.map Qab.c)))]
def toPX.row:Row:=orow toPX.ca (fun _=>[]) 0 (fun a=>a.length<=1073741824) (fun _=>false) (fun _=> .own 1) toPX.H1 2
def Ybd:=J @toPlaced.q (J @toPlaced.ar.eq_1 @toPlaced.fv.eq_1)
theorem toPX.ok:Qas Tryz.prog 61 toPX.row:=by
 refine Qf1 Qaq (tC toPlaced.ok tN) Tryz.func61 rfl (by kernel_rfl) (by kernel_rfl) (exB:=fun j=>j==1) (R:=fun _ r=>r= .own 1) (n:=1) (fun _=>rfl) (by decide)
  (fun a=>by simp[toPX.ca,toPX.H1,belL,AV.bel]) (fun a=>by simp[toPX.ca,toPX.H1,belH,belL,AV.bel]) (fun a=>by simp[toPX.ca,toPX.H1,Qam])
  (fun a=>by simp[Qc2,toPX.ca,toPX.H1,AObj.nms,nmsL,AV.nms,domB,hget]) (fun a p hp=> ?_) (fun a r h=>by subst h;exact LeV.refl _) ?_
 rotate_left
 intro a hpre;simp only[Tryz.f61,Option.getD,toPX.ca,toPX.H1];simp(maxSteps:=9^9)(disch:=omega)only[ZZ,simprocAttr,rch,Ybd,ORB,toPX.ca,toPX.H1];intro hlen;have hpl:a.length<=1073741824:=hpre;refine⟨by omega,?_⟩;refine Qay.old ⟨{k:Nat//k<=a.length},fun k=>⟨[(4,.im (.int .i64 k.1)),(3,.own 1),(0,.im (.sl false 3 (a.map Qab.c)))],[(1,(true,.arr 187 3 ((a.take k.1).map Qab.c++List.replicate (a.length - k.1) [.int .i64 0,.int .i64 0,.int .i64 0])))],2⟩,fun k=>a.length - k.1,fun k=>⟨by simp[Qad.good,belT,belH,Qam,AV.bel,belL],Zak _⟩,⟨⟨0,by omega⟩,by simp(maxSteps:=9^9)(disch:=omega)only[ZZ,simprocAttr,rch,Ybd,ORB,toPX.ca,toPX.H1,sub];simp⟩,fun k=> ?_⟩;obtain⟨k,hk1⟩:=k;simp(maxSteps:=9^9)(disch:=omega)only[ZZ,simprocAttr,rch,Ybd,ORB,toPX.ca,toPX.H1,sub,Qal,Qk2 _ _ a k hk1];intro _;refine⟨fun hk=> ?_,fun hk=> ?_⟩
 .refine⟨hk,fun x hx=>⟨hk,hk,Qi3 (Qj5 Qab.c _ a k x hx) ?_⟩⟩;simp(maxSteps:=9^9)(disch:=omega)only[ZZ,simprocAttr,rch,Ybd,ORB,toPX.ca,toPX.H1,sub];refine⟨⟨k+1,by omega⟩,by simp only;omega,?_,?_⟩
  .rw[Qak (by omega) (by omega)];simp only;omega
  .exact Qli Qab.c _ a k x hx
 .rw[Qkp Qab.c _ a k (by omega)]
  try trivial
 simp[toPX.H1] at hp;subst hp;exact .inr ⟨by omega,by omega,rfl,rfl⟩
def toTX.ca(a:Tile):List AV:=[.im (.agg (Tile.c a))]
def toTX.r0(a:Tile):AV:= .agg [.im (.str a.Name),.own 4]
def toTX.H1(a:Tile):Qan:=[(4,(true,.arr 2 1 (a.Sides.map intC)))]
def toTX.row:Row:=orow toTX.ca (fun _=>[]) 0 (fun a=>a.Sides.length<=1073741824) (fun _=>false) toTX.r0 toTX.H1 5
theorem toTX.ok:Qas Tryz.prog 210 toTX.row:=by
 refine Qf1 Qaq (tC toIX.ok tN) Tryz.func210 rfl (by kernel_rfl) (by kernel_rfl) (exB:=fun j=>j==4) (R:=fun a r=>r=toTX.r0 a) (n:=1) (fun _=>rfl) (by decide)
  (fun a=>by simp[toTX.ca,toTX.H1,Tile.c,belL,AV.bel]) (fun a=>by simp[toTX.ca,toTX.H1,Tile.c,belH,belL,AV.bel]) (fun a=>by simp[toTX.ca,toTX.H1,Tile.c,Qam])
  (fun a=>by simp[Qc2,toTX.ca,toTX.H1,Tile.c,AObj.nms,nmsL,AV.nms,domB,hget]) (fun a p hp=> ?_) (fun a r h=>by subst h;exact LeV.refl _) ?_
 rotate_left
 intro a hpre;simp only[Tryz.f210,Option.getD,toTX.ca,toTX.H1,Tile.c];simp(maxSteps:=9^9)(disch:=omega)only[ZZ,simprocAttr,rch,ORB,toTX.ca,toTX.H1,Tile.c];refine orow.os a.Sides [] hpre (fun j=>by simp[domB,hget]) rfl rfl ?_ ?_
 .simp(maxSteps:=9^9)(disch:=omega)only[ZZ,simprocAttr,rch,ORB,toTX.ca,toTX.H1,Tile.c,toIX.ca,Qer]
 simp(maxSteps:=9^9)(disch:=omega)only[ZZ,simprocAttr,rch,ORB,toTX.ca,toTX.H1,Tile.c,toIX.H1,sub,toTX.r0,ZaN,Zbf]
 skip
 simp[toTX.H1] at hp;subst hp;exact .inr ⟨by omega,by omega,rfl,rfl⟩
def tlF(a:List Tile)(i:Nat):Ent:=(true,.arr 2 1 (((a[i]?.map Tile.Sides).getD []).map intC))
def tlA(a:List Tile)(i:Nat):List AV:=[.im (.str ((a[i]?.map Tile.Name).getD ByteArray.empty)),.own (2+i)]
def tlZ:List AV:=[.im (.str ByteArray.empty),.im (.sl true 0 [])]
def tlR(a:List Tile)(k:Nat):List (List AV):=(List.range k).map (tlA a)++List.replicate (a.length - k) tlZ
theorem Qae9{a:List Tile}{k:Nat}(h:k<=a.length):(tlR a k).length=a.length:=by simp[tlR];omega
theorem tlR_lo{a:List Tile}{k i:Nat}(h:i<k):(tlR a k)[i]? =some (tlA a i):=by
 rw[tlR,ZaF (by simpa using h),ZaK,Zbj h];rfl
theorem tlR_hi{a:List Tile}{k i:Nat}(h:k<=i)(h2:i<a.length):(tlR a k)[i]? =some tlZ:=by
 rw[tlR,ZaI (by simpa using h),Zbo,Zao (by simp;omega)]
theorem tlR_bel(a:List Tile)(k N:Nat)(h:2+k<=N):(tlR a k).all (belL N)=true:=by
 rw[ZaJ];intro r hr;rcases Zaq.1 hr with hr|hr
 .obtain⟨i,hi,rfl⟩:=Zav.1 hr
  have:=Zat.1 hi
  simp[tlA,belL,AV.bel];omega
 .obtain rfl:=Zbq hr;simp[tlZ,belL,AV.bel]
theorem tlR_zero(a:List Tile):tlR a 0=imR (List.replicate a.length [.str ByteArray.empty,.sl true 0 []]):=by
 simp[tlR,imR,tlZ]
theorem Qadj(h:Nat->Option Ent)(F:AV->Option AV)(b:Nat)(f:Nat->Ent)(n:Nat)(H: ∀i,i<n->h (b+i)=some (f i))(hc: ∀i,i<n->cvtE F (f i).2=some (f i).2):Qhk h F (famH b n f):=by
 have: ∀(l:List Nat),(∀i∈l,i<n)->Qhk h F (l.map fun i=>(b+i,f i)):=by
  intro l;induction l with
  |nil=>intro _;simp[Qhk]
  |cons i r ih=>
   intro hl;simp only[Zal,Qhk];refine⟨?_,ih (fun j hj=>hl j (Zan _ hj))⟩;rw[H i (hl i (Zar ..))];exact⟨rfl,hc i (hl i (Zar ..))⟩
 exact this _ (fun i hi=>Zat.1 hi)
theorem tlR_cvt{h:Nat->Option Ent}{kx:Nat->Option Nat}{m:Nat}{a:List Tile}(hk: ∀i,i<a.length->kx (2+i)=some (2+i)):mapO (mapO (cvt h kx (m+1))) (tlR a a.length)=some (tlR a a.length):=by
 have e:tlR a a.length=(List.range a.length).map (tlA a):=by simp[tlR]
 rw[e];refine Qnl (g:=tlA a) (k:=tlA a) _ fun i hi=> ?_
 simp only[tlA,mapO,cvt,hk i (Zat.1 hi),kp]
def toLX.ca(a:List Tile):List AV:=[.im (.sl false 2 (a.map Tile.c))]
def toLX.H1(a:List Tile):Qan:=(1,(true,.arrA 247 2 (tlR a a.length)))::famH 2 (min a.length 1048576) (tlF a)
def toLX.pre(a:List Tile):Prop:=a.length<=1048576/\ ∀x∈a,x.Sides.length<=1073741824
def toLX.row:Row:=orow toLX.ca (fun _=>[]) 0 toLX.pre (fun _=>false) (fun _=> .own 1) toLX.H1 2000000
theorem toLX.ok:Qas Tryz.prog 139 toLX.row:=by
 refine Qf1 Qaq (tC toTX.ok tN) Tryz.func139 rfl (by kernel_rfl) (by kernel_rfl) (exB:=fun j=>Nat.ble 1 j) (R:=fun _ r=>r= .own 1) (n:=1) (fun _=>rfl) (by decide)
  (fun a=>by simp[toLX.ca,belL,AV.bel]) (fun a=>by simp[toLX.ca,belH,belL,AV.bel]) (fun a=>by simp[toLX.ca,Qam])
  (fun a=>by simp[Qc2,toLX.ca,AObj.nms,nmsL,AV.nms,domB,hget]) (fun a p hp=> ?_) (fun a r h=>by subst h;exact LeV.refl _) ?_
 rotate_left
 intro a hpre;simp only[Tryz.f139,Option.getD,toLX.ca];simp(maxSteps:=9^9)(disch:=omega)only[ZZ,simprocAttr,rch,ORB,toLX.ca];obtain⟨h1,h2⟩:=hpre;intro _;refine⟨by omega,?_⟩;refine Qay.ren ⟨{k:Nat//k<=a.length},fun k=>⟨[(4,.im (.int .i64 k.1)),(3,.own 1),(0,.im (.sl false 2 (a.map Tile.c)))],(1,(true,.arrA 247 2 (tlR a k.1)))::famH 2 k.1 (tlF a),2+a.length⟩,fun k=>a.length - k.1,fun k=>⟨?_,by simp⟩,⟨⟨0,by simp⟩,[],?_⟩,fun k=> ?_⟩
 .simp only[Qad.good,belT,belH,Qam,AV.bel,belL,ZaV,Zbc];rw[Qi1 _ _ _ (fun i=>by simp[belH,tlF]),Qd8 _ _ _ _ (by omega),tlR_bel _ _ _ (by omega)];simp
  try omega
 .simp only[subP,famH,ZeG,ZaM,tlR_zero];simp(maxSteps:=9^9)(disch:=omega)only[ZZ,simprocAttr,rch,ORB,toLX.ca,Zag,Zah,Qsg]
  try simp
 .obtain⟨k,hk1⟩:=k;have hrl:=Qae9 (a:=a) hk1;simp(maxSteps:=9^9)(disch:=omega)only[ZZ,simprocAttr,rch,ORB,toLX.ca,sub,Qal,hrl,Qba];intro _;refine⟨fun hk=>⟨by omega,hk,fun x hx=> ?_⟩,fun hk=> ?_⟩
  .refine orow.os x [] (h2 x (Zac hx)) (fun j=>by simp[domB,hget]) rfl rfl ?_ ?_
   .simp(maxSteps:=9^9)(disch:=omega)only[ZZ,simprocAttr,rch,ORB,toLX.ca,toTX.ca,Qer,Tile.c]
   simp(maxSteps:=9^9)(disch:=omega)only[ZZ,simprocAttr,rch,ORB,toLX.ca,toTX.H1,toTX.r0,sub,Qal,hrl,Qba,Qjf,Qao,ZaN,Zbf];refine⟨⟨by omega,by omega,by omega⟩,hk,by omega,hk,Qi3 (tlR_hi (Zak _) hk) ?_⟩;simp only[tlZ];simp(maxSteps:=9^9)(disch:=omega)only[ZZ,simprocAttr,rch,ORB,toLX.ca,sub,Qal,hrl,Qba,Qjf,Qao,Qce];rw[Qadi 2 k (tlF a) [1] (by simp)];refine⟨⟨?_,by omega⟩,⟨k+1,by omega⟩,[(2+k,some (2+a.length+4))],by simp only;omega,?_⟩
   .rw[ZaJ];intro r hr;rcases ZbQ hr with hr|hr
    .exact ZaJ.1 (tlR_bel a k _ (by omega)) r hr
    .subst hr;simp[belL,AV.bel]
   obtain⟨g,hg⟩: ∃g,g=pm [(2+k,some (2+a.length+4))]:=⟨_,rfl⟩;have qx:g (2+k)=some (2+a.length+4):=by rw[hg];simp[pm]
   have qo: ∀u,u≠2+k->g u=some u:=by intro u h;rw[hg];simp only[pm];rw[Zai (by omega)]
   have q1:pm [(2+k,some (2+a.length+4))] 1=some 1:=by rw[<-hg];exact qo 1 (by omega)
   have px_x:=qx;have px_o:=qo;rw[hg] at px_x px_o;refine⟨⟨by omega,trivial⟩,?_,?_,?_⟩
   .rw[Qi7,<-hg];simp only[Qg1,Qe0];refine Ql1 _ _ (Qet [1] 2 (k+1) (by simp) (by simp)) ?_;have hlt: ∀u∈[1]++(List.range (k+1)).map (2+ ·),u<2+a.length+1:=by
     intro u hu;rcases Zaq.1 hu with hu|hu
     .simp at hu;omega
     .obtain⟨i,hi,rfl⟩:=Zav.1 hu
      have:=Zat.1 hi
      show 2+i<2+a.length+1;omega
    intro u hu v hv m hm1 hm2;have hu2:=hlt u hu;have hv2:=hlt v hv;by_cases e1:u=2+k<;>by_cases e2:v=2+k
    .omega
    .rw[e1,qx] at hm1;rw[qo v e2] at hm2;simp only[Zab] at hm1 hm2;omega
    .rw[qo u e1] at hm1;rw[e2,qx] at hm2;simp only[Zab] at hm1 hm2;omega
    .rw[qo u e1] at hm1;rw[qo v e2] at hm2;simp only[Zab] at hm1 hm2;omega
   .simp only[Qpt,tget];simp(maxSteps:=9^9)(disch:=omega)only[ZZ,simprocAttr,rch,ORB,toLX.ca,q1];rw[Qak (by omega) (by omega)];simp
   .simp only[Qgb,Qgn];refine⟨?_,fun i hi=> ?_⟩
    .simp(maxSteps:=9^9)(disch:=omega)only[ZZ,simprocAttr,rch,ORB,toLX.ca,q1];rw[Ql2];refine⟨by rw[ZaX,hrl,Qae9 (by omega)],fun i r1 r2 e1 e2=> ?_⟩;have hil:i<a.length:=by
      have:=(Zaj.1 e1).1
      rw[Qae9 (by omega)] at this;exact this
     by_cases hik:i=k
     .subst hik;rw[tlR_lo (by omega)] at e1;rw[Zau (by rw[hrl];exact hil)] at e2;obtain rfl:=Zaa e1;obtain rfl:=Zaa e2;simp only[tlA,hx,ZaR,Zae,mtL,mt,px_x,ownM,Zce]
     .rw[Zaz (by omega)] at e2;by_cases hlt:i<k
      .rw[tlR_lo (by omega)] at e1 e2;obtain rfl:=Zaa e1;obtain rfl:=Zaa e2;simp only[tlA,mtL,mt,px_o (2+i) (by omega),ownM,Zce]
      .rw[tlR_hi (by omega) hil] at e1 e2;obtain rfl:=Zaa e1;obtain rfl:=Zaa e2;simp only[tlZ,mtL,mt,Zce]
    .show entN _ _ true (.arr 2 1 (((a[i]?.map Tile.Sides).getD []).map intC)) _;by_cases hik:i=k
     .subst hik;rw[px_x];simp(maxSteps:=9^9)(disch:=omega)only[ZZ,simprocAttr,rch,ORB,toLX.ca,hx,ZaR,Zae,Qao]
      try simp
     .rw[px_o (2+i) (by omega)];simp(maxSteps:=9^9)(disch:=omega)only[ZZ,simprocAttr,rch,ORB,toLX.ca,Qcy,Qao,Qjf,tlF]
      try simp
  .have hkl:k=a.length:=by omega
   subst hkl;refine⟨by omega,by omega,?_⟩;have hmin:min a.length 1048576=a.length:=by omega
   obtain⟨H,hH⟩: ∃H,H=hget ((1,(true,AObj.arrA 247 2 (tlR a a.length)))::famH 2 a.length (tlF a)):=⟨_,rfl⟩;rw[<-hH];have kx: ∀i,i<a.length->(kxB [] 0 2000000 fun j=>decide (1<=j)) (2+i)=some (2+i):=by
    intro i hi;have hb:(decide (1<=2+i) && (Nat.ble 0 (2+i) && Nat.blt (2+i) (0+2000000)))=true:=by
     simp only[Zaf,Zax,Zcm,ZbE];omega
    simp only[kxB,domB,hget,ZcI,ZdU,hb,ZaY]
   have g1:H 1=some (true,.arrA 247 2 (tlR a a.length)):=by rw[hH];rfl
   simp only[toLX.H1,Qhk,hmin];refine⟨?_,Qadj _ _ _ _ _ (fun i hi=> ?_) (fun i hi=>rfl)⟩
   .rw[g1];exact⟨rfl,by simp only[cvtE];rw[tlR_cvt kx];rfl⟩
   .rw[hH];simp only[hget,Qao _ _ (show 1≠2+i by omega),ZaL];exact Qcy _ _ _ _ hi
 simp only[toLX.H1,Zas,famH,Zav,Zat] at hp;rcases hp with rfl|⟨i,hi,rfl⟩
 .exact .inr ⟨by omega,by omega,rfl,rfl⟩
 .exact .inr ⟨by simp only;omega,by simp only;omega,by simp only[Zcm];omega,rfl⟩
def tlB(b:Nat)(a:List Tile):List (List AV):=(List.range a.length).map fun i=>[.im (.str ((a[i]?.map Tile.Name).getD ByteArray.empty)),.own (b+i)]
theorem tlR_ren(σ:Nat->Nat)(b:Nat)(a:List Tile)(h: ∀i,i<a.length->σ (2+i)=b+i):(tlR a a.length).map (renL σ)=tlB b a:=by
 have e:tlR a a.length=(List.range a.length).map (tlA a):=by simp[tlR]
 rw[e,ZcR];refine ZbL fun i hi=> ?_
 simp only[Function.comp,tlA,renL,AV.ren,h i (Zat.1 hi)]
theorem tlF_ren(σ:Nat->Nat)(b n:Nat)(a:List Tile)(h: ∀i,i<n->σ (2+i)=b+i):renH σ (famH 2 n (tlF a))=famH b n (tlF a):=by
 simp only[famH]
 have: ∀(l:List Nat),(∀i∈l,i<n)->renH σ (l.map fun i=>(2+i,tlF a i))=l.map fun i=>(b+i,tlF a i):=by
  intro l;induction l with
  |nil=>intro _;rfl
  |cons i r ih=>
   intro hl;have e:=ih (fun j hj=>hl j (Zan _ hj));simp only[Zal,renH,h i (hl i (Zar ..)),tlF,AObj.ren] at e⊢;rw[e]
 exact this _ (fun i hi=>Zat.1 hi)
theorem Qad3(k:List Nat)(nx cnt:Nat): ∀(H:Qan),(∀p∈H,nx<=p.1/\p.1<nx+cnt)->Qpx k nx cnt H=true
 |[],_=>rfl
 |(i,e)::r,h=>by
  have h1:=h (i,e) (Zar ..);simp only at h1;simp only[Qpx,Qafj,Qad3 k nx cnt r (fun p hp=>h p (Zan _ hp)),ZaV,ZbO,Zaf,Zcm,ZbE];exact .inl h1
theorem tlB_bel(b:Nat)(a:List Tile)(N:Nat)(h:b+a.length<=N):(tlB b a).all (belL N)=true:=by
 rw[ZaJ];intro r hr;obtain⟨i,hi,rfl⟩:=Zav.1 hr
 have:=Zat.1 hi
 simp[belL,AV.bel];omega
theorem toLX_ren{σ:Nat->Nat}{nx:Nat}(a:List Tile)(h: ∀j,σ j=nx+j):renH σ (toLX.H1 a)=(nx+1,(true,.arrA 247 2 (tlB (nx+2) a)))::famH (nx+2) (min a.length 1048576) (tlF a):=by
 simp only[toLX.H1,renH,AObj.ren];rw[tlR_ren σ (nx+2) a (fun i _=>by rw[h];omega),tlF_ren σ (nx+2) _ a (fun i _=>by rw[h];omega),h]
theorem Qads{b n:Nat}{f:Nat->Ent}{r:Qan}{m:Nat}(h:m<b):hget (famH b n f++r) m=hget r m:=by
 rw[Qol,Qmh _ _ _ _ (.inl h)];rfl
theorem Qaf5(ks:List Nat): ∀(a b:Qan),hdel (a++b) ks=hdel a ks++hdel b ks
 |[],b=>by simp[hdel]
 |(i,e)::r,b=>by
  simp only[ZaG,hdel,Qaf5 ks r b];cases ks.contains i<;>rfl
theorem Qad5{b n:Nat}{f:Nat->Ent}{r:Qan}{k:Nat}(h:k<b):hdel (famH b n f++r) [k]=famH b n f++hdel r [k]:=by
 rw[Qaf5,Qadi _ _ _ _ (fun x hx=>by rw[Zap] at hx;subst hx;exact .inl h)]
theorem tlB_cvt{h:Nat->Option Ent}{kx:Nat->Option Nat}{m b:Nat}{a:List Tile}(hk: ∀i,i<a.length->kx (b+i)=some (b+i)):mapO (mapO (cvt h kx (m+1))) (tlB b a)=some (tlB b a):=by
 refine Qnl (g:=fun i=>[AV.im (.str ((a[i]?.map Tile.Name).getD ByteArray.empty)),AV.own (b+i)]) (k:=fun i=>[AV.im (.str ((a[i]?.map Tile.Name).getD ByteArray.empty)),AV.own (b+i)]) _ fun i hi=> ?_
 simp only[mapO,cvt,hk i (Zat.1 hi),kp]
theorem kxB_ge{lo cnt m:Nat}(h1:lo<=m)(h2:m<cnt):(kxB [] 0 cnt fun j=>decide (lo<=j)) m=some m:=by
 have hb:(decide (lo<=m) && (Nat.ble 0 m && Nat.blt m (0+cnt)))=true:=by
  simp only[Zaf,Zax,Zcm,ZbE];omega
 simp only[kxB,domB,hget,ZcI,ZdU,hb,ZaY]
def toSX.ca(a:Qaa):List AV:=[.im (.agg (Qaa.c a))]
def toSX.r0:AV:= .agg [.own 4,.own 6]
def toSX.H1(a:Qaa):Qan:=(4,(true,.arr 263 2 (a.Glues.map Glue.c)))::(6,(true,.arrA 247 2 (tlB 7 a.Tiles)))::famH 7 (min a.Tiles.length 1048576) (tlF a.Tiles)
def toSX.pre(a:Qaa):Prop:=a.Glues.length<=1073741824/\toLX.pre a.Tiles
def toSX.row:Row:=orow toSX.ca (fun _=>[]) 0 toSX.pre (fun _=>false) (fun _=>toSX.r0) toSX.H1 2000005
theorem toSX.ok:Qas Tryz.prog 60 toSX.row:=by
 refine Qf1 Qaq (tC toGX.ok (tC toLX.ok tN)) Tryz.func60 rfl (by kernel_rfl) (by kernel_rfl) (exB:=fun j=>Nat.ble 4 j) (R:=fun _ r=>r=toSX.r0) (n:=1) (fun _=>rfl) (by decide)
  (fun a=>by simp[toSX.ca,Qaa.c,belL,AV.bel]) (fun a=>by simp[toSX.ca,Qaa.c,belH,belL,AV.bel]) (fun a=>by simp[toSX.ca,Qaa.c,Qam])
  (fun a=>by simp[Qc2,toSX.ca,Qaa.c,AObj.nms,nmsL,AV.nms,domB,hget]) (fun a p hp=> ?_) (fun a r h=>by subst h;exact LeV.refl _) ?_
 rotate_left
 intro a hpre;simp only[Tryz.f60,Option.getD,toSX.ca,Qaa.c];simp(maxSteps:=9^9)(disch:=omega)only[ZZ,simprocAttr,rch,ORB,toSX.ca,Qaa.c];obtain⟨h1,h2⟩:=hpre;refine orow.os a.Glues [] h1 (fun j=>by simp[domB,hget]) rfl rfl ?_ ?_
 .simp(maxSteps:=9^9)(disch:=omega)only[ZZ,simprocAttr,rch,ORB,toSX.ca,Qaa.c,toGX.ca,Qer]
 simp(maxSteps:=9^9)(disch:=omega)only[ZZ,simprocAttr,rch,ORB,toSX.ca,Qaa.c,toGX.H1,sub,ZaN,Zbf];refine orow.os a.Tiles [] h2 (fun j=>by simp[domB,hget]) rfl rfl ?_ ?_
 .simp(maxSteps:=9^9)(disch:=omega)only[ZZ,simprocAttr,rch,ORB,toSX.ca,Qaa.c,toLX.ca,Qer]
 have hσ: ∀j,sgx (osn []) 0 5 j=5+j:=fun j=>by simp[sgx]
 rw[toLX_ren a.Tiles hσ];obtain⟨h3,h4⟩:=h2;have hmin:min a.Tiles.length 1048576=a.Tiles.length:=by omega
 rw[hmin];simp only[kont,AV.ren,hσ];refine⟨?_,?_⟩
 .rw[Eff.ok_nr,Qad3 _ _ _ _ (fun p hp=> ?_)]
  .simp only[AV.bel,belH];rw[Qi1 _ _ _ (fun i=>by simp[belH,tlF]),tlB_bel _ _ _ (by omega)];simp
  .rcases Zas.1 hp with rfl|hp
   .exact⟨by simp only;omega,by simp only;omega⟩
   .obtain⟨i,hi,rfl⟩:=Zav.1 hp
    have:=Zat.1 hi
    exact⟨by simp only;omega,by simp only;omega⟩
 simp(maxSteps:=9^9)(disch:=omega)only[ZZ,simprocAttr,rch,ORB,toSX.ca,Qaa.c,sub,Qba,toSX.r0,Qads,Qad5];obtain⟨H,hH⟩: ∃H,H=hget ((1,(true,AObj.cells 43 [AV.own 4,AV.own 6]))::(2,(true,AObj.cells 43 [AV.own 4,AV.own 6]))::(6,(true,AObj.arrA 247 2 (tlB 7 a.Tiles)))::
  (famH 7 a.Tiles.length (tlF a.Tiles)++[(4,(true,AObj.arr 263 2 (List.map Glue.c a.Glues))),(0,(true,AObj.cells 25 [AV.im (D.sl false 2 (List.map Glue.c a.Glues)),AV.im (D.sl false 2 (List.map Tile.c a.Tiles))]))])):=⟨_,rfl⟩
 rw[<-hH];have g4:H 4=some (true,.arr 263 2 (a.Glues.map Glue.c)):=by rw[hH];simp[hget,Qads]
 have g6:H 6=some (true,.arrA 247 2 (tlB 7 a.Tiles)):=by rw[hH];rfl
 have gf: ∀i,i<a.Tiles.length->H (7+i)=some (tlF a.Tiles i):=by
  intro i hi;rw[hH];simp only[hget,Qao _ _ (show 1≠7+i by omega),Qao _ _ (show 2≠7+i by omega),Qao _ _ (show 6≠7+i by omega),ZaL];rw[Qol,Qcy _ _ _ _ hi];rfl
 simp only[toSX.H1,Qhk,hmin];refine⟨?_,?_,Qadj _ _ _ _ _ gf (fun i hi=>rfl)⟩
 .rw[g4];exact⟨rfl,rfl⟩
 .rw[g6];exact⟨rfl,by simp only[cvtE];rw[tlB_cvt (fun i hi=>kxB_ge (by omega) (by omega))];rfl⟩
 simp only[toSX.H1,Zas,famH,Zav,Zat] at hp;rcases hp with rfl|rfl|⟨i,hi,rfl⟩
 .exact .inr ⟨by omega,by simp only;omega,rfl,rfl⟩
 .exact .inr ⟨by omega,by simp only;omega,rfl,rfl⟩
 .exact .inr ⟨by simp only;omega,by simp only;omega,by simp only[Zcm];omega,rfl⟩
def toAX.ca(a:Asm):List AV:=[.im (.agg (Asm.c a))]
def toAX.H1(a:Asm):Qan:=[(4,(true,.arr 187 3 (a.Tiles.map Qab.c)))]
def toAX.row:Row:=orow toAX.ca (fun _=>[]) 0 (fun a=>a.Tiles.length<=1073741824) (fun _=>false) (fun _=> .agg [.own 4]) toAX.H1 5
theorem toAX.ok:Qas Tryz.prog 14 toAX.row:=by
 refine Qf1 Qaq (tC toPX.ok tN) Tryz.func14 rfl (by kernel_rfl) (by kernel_rfl) (exB:=fun j=>j==4) (R:=fun _ r=>r= .agg [.own 4]) (n:=1) (fun _=>rfl) (by decide)
  (fun a=>by simp[toAX.ca,toAX.H1,Asm.c,belL,AV.bel]) (fun a=>by simp[toAX.ca,toAX.H1,Asm.c,belH,belL,AV.bel]) (fun a=>by simp[toAX.ca,toAX.H1,Asm.c,Qam])
  (fun a=>by simp[Qc2,toAX.ca,toAX.H1,Asm.c,AObj.nms,nmsL,AV.nms,domB,hget]) (fun a p hp=> ?_) (fun a r h=>by subst h;exact LeV.refl _) ?_
 rotate_left
 intro a hpre;simp only[Tryz.f14,Option.getD,toAX.ca,toAX.H1,Asm.c];simp(maxSteps:=9^9)(disch:=omega)only[ZZ,simprocAttr,rch,ORB,toAX.ca,toAX.H1,Asm.c];refine orow.os a.Tiles [] hpre (fun j=>by simp[domB,hget]) rfl rfl ?_ ?_
 .simp(maxSteps:=9^9)(disch:=omega)only[ZZ,simprocAttr,rch,ORB,toAX.ca,toAX.H1,Asm.c,toPX.ca,Qer]
 simp(maxSteps:=9^9)(disch:=omega)only[ZZ,simprocAttr,rch,ORB,toAX.ca,toAX.H1,Asm.c,toPX.H1,sub,ZaN,Zbf]
 skip
 simp[toAX.H1] at hp;subst hp;exact .inr ⟨by omega,by omega,rfl,rfl⟩
theorem toSX_ren{σ:Nat->Nat}{nx:Nat}(a:Qaa)(h: ∀j,σ j=nx+j):renH σ (toSX.H1 a)=(nx+4,(true,.arr 263 2 (a.Glues.map Glue.c)))::(nx+6,(true,.arrA 247 2 (tlB (nx+7) a.Tiles)))::famH (nx+7) (min a.Tiles.length 1048576) (tlF a.Tiles):=by
 have e1:(tlB 7 a.Tiles).map (renL σ)=tlB (nx+7) a.Tiles:=by
  simp only[tlB,ZcR];refine ZbL fun i hi=> ?_
  simp only[Function.comp,renL,AV.ren,h];rw[show nx+(7+i)=nx+7+i by omega]
 have e2: ∀n,renH σ (famH 7 n (tlF a.Tiles))=famH (nx+7) n (tlF a.Tiles):=by
  intro n;simp only[famH]
  have: ∀(l:List Nat),renH σ (l.map fun i=>(7+i,tlF a.Tiles i))=l.map fun i=>(nx+7+i,tlF a.Tiles i):=by
   intro l;induction l with
   |nil=>rfl
   |cons i r ih=>
    simp only[Zal,renH,h,tlF,AObj.ren] at ih⊢;rw[ih,show nx+(7+i)=nx+7+i by omega]
  exact this _
 simp only[toSX.H1,renH,AObj.ren,e1,e2,h]
def toYX.ca(a:Qar):List AV:=[.im (.agg (Qar.c a))]
def toYX.r0(a:Qar):AV:= .agg [.own 7,.own 9,.own 2000012,.im (.int .i64 a.Temperature)]
def toYX.H1(a:Qar):Qan:=(7,(true,.arr 263 2 (a.Set.Glues.map Glue.c)))::(9,(true,.arrA 247 2 (tlB 10 a.Set.Tiles)))::(2000012,(true,.arr 187 3 (a.Seed.Tiles.map Qab.c)))::famH 10 (min a.Set.Tiles.length 1048576) (tlF a.Set.Tiles)
def toYX.pre(a:Qar):Prop:=toSX.pre a.Set/\a.Seed.Tiles.length<=1073741824
def toYX.row:Row:=orow toYX.ca (fun _=>[]) 0 toYX.pre (fun _=>false) toYX.r0 toYX.H1 2000013
theorem toYX.ok:Qas Tryz.prog 13 toYX.row:=by
 refine Qf1 Qaq (tC toSX.ok (tC toAX.ok tN)) Tryz.func13 rfl (by kernel_rfl) (by kernel_rfl) (exB:=fun j=>Nat.ble 7 j) (R:=fun a r=>r=toYX.r0 a) (n:=1) (fun _=>rfl) (by decide)
  (fun a=>by simp[toYX.ca,Qar.c,belL,AV.bel]) (fun a=>by simp[toYX.ca,Qar.c,belH,belL,AV.bel]) (fun a=>by simp[toYX.ca,Qar.c,Qam])
  (fun a=>by simp[Qc2,toYX.ca,Qar.c,AObj.nms,nmsL,AV.nms,domB,hget]) (fun a p hp=> ?_) (fun a r h=>by subst h;exact LeV.refl _) ?_
 rotate_left
 intro a hpre;simp only[Tryz.f13,Option.getD,toYX.ca,Qar.c];simp(maxSteps:=9^9)(disch:=omega)only[ZZ,simprocAttr,rch,ORB,toYX.ca,Qar.c];obtain⟨h1,h2⟩:=hpre;refine orow.os a.Set [] h1 (fun j=>by simp[domB,hget]) rfl rfl ?_ ?_
 .simp(maxSteps:=9^9)(disch:=omega)only[ZZ,simprocAttr,rch,ORB,toYX.ca,Qar.c,toSX.ca,Qaa.c,Qer]
 have hσ: ∀j,sgx (osn []) 0 3 j=3+j:=fun j=>by simp[sgx]
 rw[toSX_ren a.Set hσ];obtain⟨h0,h3,h4⟩:=h1;have hmin:min a.Set.Tiles.length 1048576=a.Set.Tiles.length:=by omega
 rw[hmin];simp only[kont,toSX.r0,AV.ren,renL,hσ];refine⟨?_,?_⟩
 .rw[Eff.ok_nr,Qad3 _ _ _ _ (fun p hp=> ?_)]
  .simp only[AV.bel,belL,belH];rw[Qi1 _ _ _ (fun i=>by simp[belH,tlF]),tlB_bel _ _ _ (by omega)];simp
  .rcases Zas.1 hp with rfl|hp
   .exact⟨by simp only;omega,by simp only;omega⟩
   rcases Zas.1 hp with rfl|hp
   .exact⟨by simp only;omega,by simp only;omega⟩
   .obtain⟨i,hi,rfl⟩:=Zav.1 hp
    have:=Zat.1 hi
    exact⟨by simp only;omega,by simp only;omega⟩
 simp(maxSteps:=9^9)(disch:=omega)only[ZZ,simprocAttr,rch,ORB,toYX.ca,Qar.c,sub,Qba,Qads,Qad5];refine orow.os a.Seed [] h2 (fun j=>by simp[domB,hget]) rfl rfl ?_ ?_
 .simp(maxSteps:=9^9)(disch:=omega)only[ZZ,simprocAttr,rch,ORB,toYX.ca,Qar.c,toAX.ca,Asm.c,Qer]
 simp(maxSteps:=9^9)(disch:=omega)only[ZZ,simprocAttr,rch,ORB,toYX.ca,Qar.c,toAX.H1,sub,Qba,Qads,Qad5,toYX.r0,ZaN,Zbf];obtain⟨H,hH⟩: ∃H,H=hget ((1,(true,AObj.cells 48 [AV.own 7,AV.own 9,AV.own 2000012,AV.im (D.int IntKind.i64 a.Temperature)]))::(2,(true,AObj.cells 48 [AV.own 7,AV.own 9,AV.own 2000012,AV.im (D.int IntKind.i64 a.Temperature)]))::
  (2000012,(true,AObj.arr 187 3 (List.map Qab.c a.Seed.Tiles)))::(7,(true,AObj.arr 263 2 (List.map Glue.c a.Set.Glues)))::(9,(true,AObj.arrA 247 2 (tlB 10 a.Set.Tiles)))::
  (famH 10 a.Set.Tiles.length (tlF a.Set.Tiles)++[(0,(true,AObj.cells 30 [AV.im (D.sl false 2 (List.map Glue.c a.Set.Glues)),AV.im (D.sl false 2 (List.map Tile.c a.Set.Tiles)),AV.im (D.sl false 3 (List.map Qab.c a.Seed.Tiles)),AV.im (D.int IntKind.i64 a.Temperature)]))])):=⟨_,rfl⟩
 rw[<-hH];have g7:H 7=some (true,.arr 263 2 (a.Set.Glues.map Glue.c)):=by rw[hH];rfl
 have g9:H 9=some (true,.arrA 247 2 (tlB 10 a.Set.Tiles)):=by rw[hH];rfl
 have gs:H 2000012=some (true,.arr 187 3 (a.Seed.Tiles.map Qab.c)):=by rw[hH];simp[hget]
 have gf: ∀i,i<a.Set.Tiles.length->H (10+i)=some (tlF a.Set.Tiles i):=by
  intro i hi;rw[hH];simp only[hget,Qao _ _ (show 1≠10+i by omega),Qao _ _ (show 2≠10+i by omega),Qao _ _ (show 2000012≠10+i by omega),Qao _ _ (show 7≠10+i by omega),Qao _ _ (show 9≠10+i by omega),ZaL];rw[Qol,Qcy _ _ _ _ hi];rfl
 simp only[toYX.H1,Qhk,hmin];refine⟨?_,?_,?_,Qadj _ _ _ _ _ gf (fun i hi=>rfl)⟩
 .rw[g7];exact⟨rfl,rfl⟩
 .rw[g9];exact⟨rfl,by simp only[cvtE];rw[tlB_cvt (fun i hi=>kxB_ge (by omega) (by omega))];rfl⟩
 .rw[gs];exact⟨rfl,rfl⟩
 simp only[toYX.H1,Zas,famH,Zav,Zat] at hp;rcases hp with rfl|rfl|rfl|⟨i,hi,rfl⟩
 .exact .inr ⟨by omega,by simp only;omega,rfl,rfl⟩
 .exact .inr ⟨by omega,by simp only;omega,rfl,rfl⟩
 .exact .inr ⟨by omega,by simp only;omega,by simp only[Zcm];omega,rfl⟩
 .exact .inr ⟨by simp only;omega,by simp only;omega,by simp only[Zcm];omega,rfl⟩
def eqSystemF.ar:List PK->Option (Qar×Qar):=a2 (kR Qar.d) (kR Qar.d)
def eqSystemF.ae(a:Qar×Qar):List PK:=[.val (.agg (Qar.c a.1)),.val (.agg (Qar.c a.2))]
def eqSystemF.fv(a:Qar×Qar):Bool:=(fun a b=>decide (a=b)) (a.1) (a.2)
def eqSystemF.row:Row:=Qfi eqSystemF.ar (fun a=>True) (fun a=>(D.bool) (eqSystemF.fv a))
theorem eqSystemF.ok:Qas Tryz.prog 17 eqSystemF.row:=by
 refine Qbn Qaq (tC eqTileSet.ok (tC eqAssembly.ok tN)) Tryz.func17 rfl (by kernel_rfl) (by kernel_rfl) (ar:=eqSystemF.ar) (ae:=eqSystemF.ae) (Qaca (Qab8 Qar.d_le) (Qab8 Qar.d_le)) (n:=2) (fun _=>rfl) (by decide) (rc:=(Qa8)) (re:=(D.bool)) (Qat) (f:=eqSystemF.fv) ?_;intro a hpre;simp only[Tryz.f17,Option.getD];simp(maxSteps:=9^9)(disch:=omega)only[ZZ,simprocAttr,rch,eqSystemF.ae,eqSystemF.fv,eqTileSet.q,eqTileSet.ar,eqTileSet.fv,eqAssembly.q,eqAssembly.ar,eqAssembly.fv,ORC,D.sc,D.scs,scL,decD];obtain⟨⟨⟨x,x1⟩,⟨y⟩,u⟩,⟨⟨z,z1⟩,⟨w⟩,v⟩⟩:=a;simp only[Qar.mk.injEq,Qaa.mk.injEq,Asm.mk.injEq]
 grind
def mkAC.ca(a:Asm×Int):List AV:=[.agg [.own 0],.im (.int .i64 a.2)]
def mkAC.H0(a:Asm×Int):Qan:=[(0,(true,.arr 187 3 (a.1.Tiles.map Qab.c)))]
def mkAC.H1(a:Asm×Int):Qan:=[(0,(true,.arr 187 3 ((wrE (pF a.2) a.1.Tiles.length).map Qab.c)))]
def mkAC.row:Row:=orow mkAC.ca mkAC.H0 1 (fun a=>0<=a.2/\a.2+3*a.1.Tiles.length<=1099511627776) (fun j=>j==0) (fun a=> .im (.int .i64 (a.2+3*a.1.Tiles.length))) mkAC.H1 0
theorem mkAC.ok:Qas Tryz.prog 20 mkAC.row:=by
 refine Qf1 Qaq (tC mkPC.ok tN) Tryz.func20 rfl (by kernel_rfl) (by kernel_rfl) (exB:=fun _=>false) (R:=fun a r=>r= .im (.int .i64 (a.2+3*a.1.Tiles.length))) (n:=2) (fun _=>rfl) (by decide)
  (fun a=>by simp[mkAC.ca,mkAC.H0,mkAC.H1,belL,AV.bel]) (fun a=>by simp[mkAC.ca,mkAC.H0,mkAC.H1,belH,belL,AV.bel]) (fun a=>by simp[mkAC.ca,mkAC.H0,mkAC.H1,Qam])
  (fun a=>by simp[Qc2,mkAC.ca,mkAC.H0,mkAC.H1,AObj.nms,nmsL,AV.nms,domB,hget]) (fun a p hp=> ?_) (fun a r h=>by subst h;exact LeV.refl _) ?_
 rotate_left
 intro a hpre;simp only[Tryz.f20,Option.getD,mkAC.ca,mkAC.H0,mkAC.H1];simp(maxSteps:=9^9)(disch:=omega)only[ZZ,simprocAttr,rch,ORB,mkAC.ca,mkAC.H0,mkAC.H1];refine orow.os (a.1.Tiles,a.2) [0] hpre (fun j=> ?_) rfl rfl ?_ ?_
 .simp only[domB,mkPC.H0,hget];by_cases hj:j=0
  .subst hj;simp
  .have:(0==j)=false:=by simpa using fun h=>hj h.symm
   rw[this];simp;omega
 .simp(maxSteps:=9^9)(disch:=omega)only[ZZ,simprocAttr,rch,ORB,mkAC.ca,mkAC.H0,mkAC.H1,mkPC.ca,mkPC.H0,Qer,ZaN]
  try exact⟨rfl,rfl⟩
 simp(maxSteps:=9^9)(disch:=omega)only[ZZ,simprocAttr,rch,ORB,mkAC.ca,mkAC.H0,mkAC.H1,mkPC.H1,sub,ZaN,Zbf]
 skip
 simp[mkAC.H1] at hp;subst hp;exact .inl ⟨by omega,rfl,rfl⟩
def nT(a:List Tile):Nat:=min a.length 1048576
def sdL(a:List Tile)(i:Nat):List Int:=(a[i]?.map Tile.Sides).getD []
def tlK(a:List Tile)(k:Int):Nat->Int
 |0=>k
 |i+1=>tlK a k i+1+(sdL a i).length
def tlM(a:List Tile)(k:Int)(i j:Nat):List AV:=if j<i then [.im (.str (mkTx (tlK a k j))),.own (2+j)] else tlA a j
def tlN(a:List Tile)(k:Int)(i j:Nat):Ent:=(true,.arr 2 1 ((if j<i then mkI (tlK a k j+1) (sdL a j).length else sdL a j).map intC))
def mkLH(a:List Tile)(k:Int)(i:Nat):Qan:=(0,(true,.arrA 247 2 ((List.range (nT a)).map (tlM a k i))))::famH 2 (nT a) (tlN a k i)
def mkLC.ca(a:List Tile×Int):List AV:=[.own 0,.im (.int .i64 a.2)]
def mkLC.H0(a:List Tile×Int):Qan:=mkLH a.1 a.2 0
def mkLC.H1(a:List Tile×Int):Qan:=mkLH a.1 a.2 (nT a.1)
def mkLC.r0(a:List Tile×Int):AV:= .im (.int .i64 (tlK a.1 a.2 a.1.length))
def mkLC.pre(a:List Tile×Int):Prop:=a.1.length<=1048576/\0<=a.2/\tlK a.1 a.2 a.1.length<=1099511627776
def mkLC.row:Row:=orow mkLC.ca mkLC.H0 2000000 mkLC.pre (fun _=>true) mkLC.r0 mkLC.H1 0
theorem Qad0(a:List Tile):nT a<=1048576:=ZcW _ _
theorem Qafd(a:List Tile)(k:Int)(i j N:Nat)(h:2+j<N):belL N (tlM a k i j)=true:=by
 simp only[tlM]
 split<;>simp[tlA,belL,AV.bel,h]
theorem Qae7(a:List Tile)(k:Int)(i j:Nat):nmsL (tlM a k i j)=[2+j]:=by
 simp only[tlM]
 split<;>simp[tlA,nmsL,AV.nms]
theorem Qafz(a:List Tile)(k:Int)(i N:Nat)(h:2+nT a<N):belH N (mkLH a k i)=true:=by
 simp only[mkLH,belH];rw[Qi1 _ _ _ (fun j=>by simp[belH,tlN]),ZaV,ZaJ];intro r hr;obtain⟨j,hj,rfl⟩:=Zav.1 hr;exact Qafd _ _ _ _ _ (by have:=Zat.1 hj;omega)
theorem mkLC.hbel(a:List Tile×Int):belL 2000000 (mkLC.ca a)=true:=by simp[mkLC.ca,belL,AV.bel]
theorem mkLC.hbH(a:List Tile×Int):belH 2000000 (mkLC.H0 a)=true:=Qafz _ _ _ _ (by have:=Qad0 a.1;omega)
theorem mkLC.hkH(a:List Tile×Int):Qam 2000000 (mkLC.H0 a)=true:=by
 simp only[mkLC.H0,mkLH,Qam];rw[Qd8 _ _ _ _ (by have:=Qad0 a.1;omega)];simp
theorem Qadg(a:List Tile)(k:Int)(i j:Nat):domB (mkLH a k i) j=true↔j=0\/(2<=j/\j<2+nT a):=by
 simp only[domB,mkLH,hget,Qm4];by_cases h0:j=0
 .subst h0;simp
 .have:(0==j)=false:=by simpa using fun h=>h0 h.symm
  rw[this];simp only[ZaL];split
  .rename_i h;simp[h]
  .rename_i h;simp[h0];omega
theorem mkLC.hnm(a:List Tile×Int):Qc2 (mkLC.H0 a) (mkLC.H0 a):=by
 simp only[mkLC.H0];have key: ∀m,(∃j,j<nT a.1/\m=2+j)->domB (mkLH a.1 a.2 0) m=true:=by
  rintro m ⟨j,hj,rfl⟩;exact (Qadg _ _ _ _).2 (.inr ⟨by omega,by omega⟩)
 conv=>arg 2;unfold mkLH
 simp only[Qc2];refine⟨fun m hm=> ?_,Qae1 fun i hi m hm=>by simp[tlN,AObj.nms] at hm⟩;simp only[AObj.nms] at hm;obtain⟨r,hr,hm⟩:=Qadc.1 hm;obtain⟨j,hj,rfl⟩:=Zav.1 hr;rw[Qae7,Zap] at hm;exact key m ⟨j,Zat.1 hj,hm⟩
theorem tlK_b(a:List Tile)(k:Int)(h:0<=k): ∀i j,i<=j->0<=tlK a k i/\tlK a k i<=tlK a k j:=by
 have pos: ∀i,0<=tlK a k i:=by
  intro i;induction i with
  |zero=>exact h
  |succ i ih=>simp only[tlK];omega
 intro i j hij;refine⟨pos i,?_⟩;induction j with
 |zero=>have:i=0:=by omega
        subst this;exact ZcU _
 |succ j ih=>
  by_cases c:i=j+1
  .subst c;exact ZcU _
  .have:=ih (by omega)
   simp only[tlK];omega
theorem Qafp(s:Qad)(b n:Nat)(f:Nat->Ent):subH s (famH b n f)= ∀i,i<n->hget s.h (b+i)=some (f i):=by
 have: ∀(l:List Nat),subH s (l.map fun i=>(b+i,f i))↔ ∀i∈l,hget s.h (b+i)=some (f i):=by
  intro l;induction l with
  |nil=>simp[subH]
  |cons i r ih=>simp only[Zal,subH,ih,Zas,ZdR]
 apply propext;rw[famH,this];simp only[Zat]
theorem Qaej(a:List Tile)(k:Int)(i j:Nat)(h:j<nT a):hget (mkLH a k i) (2+j)=some (tlN a k i j):=by
 simp only[mkLH,hget,Qao _ _ (show 0≠2+j by omega),ZaL];exact Qcy _ _ _ _ h
def Ybe:=J @mkText.q (J @mkText.ar.eq_1 @mkText.fv.eq_1)
theorem mkLC.ok:Qas Tryz.prog 148 mkLC.row:=by
 refine Qf1 Qaq (tC mkText.ok (tC mkIC.ok tN)) Tryz.func148 rfl (by kernel_rfl) (by kernel_rfl) (exB:=fun _=>false) (R:=fun a r=>r=mkLC.r0 a) (n:=2) (fun _=>rfl) (by decide)
  mkLC.hbel mkLC.hbH mkLC.hkH
  mkLC.hnm (fun a p hp=> ?_) (fun a r h=>by subst h;exact LeV.refl _) ?_
 rotate_left
 intro a hpre;simp only[Tryz.f148,Option.getD,mkLC.ca];simp(maxSteps:=9^9)(disch:=omega)only[ZZ,simprocAttr,rch,Ybe,ORB,mkLC.ca];obtain⟨l,k⟩:=a;obtain⟨h1,h2,h3⟩:=hpre;simp only at h1 h2 h3;have hn:nT l=l.length:=by simp only[nT];omega
 simp only[Qba,mkLC.H0,mkLC.H1];refine Qay.old ⟨{i:Nat//i<=l.length},fun i=>⟨[(5,.im (.int .i64 i.1)),(4,.im (.int .i64 0)),(0,.own 0),(1,.im (.int .i64 (tlK l k i.1)))],mkLH l k i.1,2000000⟩,fun i=>l.length - i.1,fun i=>⟨?_,by simp⟩,⟨⟨0,by simp⟩,?_⟩,fun i=> ?_⟩
 .simp only[Qad.good,belT,AV.bel,ZaV,Zbc];rw[Qafz _ _ _ _ (by omega)];simp only[mkLH,Qam];rw[Qd8 _ _ _ _ (by omega)];simp
 .simp only[sub];simp(maxSteps:=9^9)(disch:=omega)only[ZZ,simprocAttr,rch,Ybe,ORB,mkLC.ca,sub,tlK]
  conv=>arg 2;unfold mkLH
  simp only[subH,Qafp];exact⟨rfl,fun j hj=>Qaej _ _ _ _ hj⟩
 .obtain⟨i,hi1⟩:=i;have hb:=tlK_b l k h2 i l.length hi1;have hrl:((List.range (nT l)).map (tlM l k i)).length=l.length:=by simp[hn]
  simp only[mkLH];simp(maxSteps:=9^9)(disch:=omega)only[ZZ,simprocAttr,rch,Ybe,ORB,mkLC.ca,sub,Qal,hrl,Qba];intro _;refine⟨fun hi=>⟨by omega,hi,hi,fun x hx=> ?_⟩,fun hi=> ?_⟩
  .obtain rfl:i=x:=by
    rw[Zbj (by omega)] at hx;exact Zaa hx
   have em:tlM l k i i=[.im (.str ((l[i]?.map Tile.Name).getD ByteArray.empty)),.own (2+i)]:=by simp[tlM,tlA]
   have hset:((List.range (nT l)).map (tlM l k i)).set i [.im (.str (mkTx (tlK l k i))),.own (2+i)]=(List.range (nT l)).map (tlM l k (i+1)):=by
    apply ZbV;intro j;by_cases hj:i=j
    .subst hj;rw[Zau (by rw[hrl];exact hi),ZaK,Zbj (by omega)];simp[tlM]
    .rw[Zaz hj,ZaK,ZaK];cases hr:(List.range (nT l))[j]? with
     |none=>rfl
     |some y=>
      have hy:j=y:=by
       have hl:=(Zaj.1 hr).1;simp at hl;rw[Zbj hl] at hr;exact Zaa hr
      subst hy;simp only[ZaR,tlM];by_cases c:j<i
      .rw[Zao c,Zao (by omega)]
      .rw[Zai c,Zai (by omega)]
   rw[em];simp only[ZbY,ZbK];have hl2:i<((List.range (nT l)).map (tlM l k i)).length:=by rw[hrl];exact hi
   have hw:IntKind.i64.wrap (tlK l k i+1)=tlK l k i+1:=Qak (by omega) (by omega);refine⟨by simp,?_,by rw[ZaX];exact hl2,by rw[ZaX];exact hl2,Qi3 (Zau hl2) ?_⟩
   .rw[hset,ZaJ];intro r hr;obtain⟨j,hj,rfl⟩:=Zav.1 hr;exact Qafd _ _ _ _ _ (by have:=Zat.1 hj;omega)
   simp(maxSteps:=9^9)(disch:=omega)only[ZZ,simprocAttr,rch,Ybe,ORB,mkLC.ca,sub,hset,hw];have hb2:=(tlK_b l k h2 (i+1) l.length hi).2;simp only[tlK] at hb2;refine⟨by omega,?_⟩;simp only[Qba];rw[Qadi 2 (nT l) (tlN l k i) [0] (by simp)];refine orow.os (sdL l i,tlK l k i+1) [2+i] ⟨by simp only;omega,by simp only;omega⟩ (fun j=> ?_) rfl ?_ ?_ ?_
   .simp only[domB,mkIC.H0,hget];by_cases hj:j=0
    .subst hj;simp
    .have:(0==j)=false:=by simpa using fun h=>hj h.symm
     rw[this];simp;omega
   .simp only[Qxw,ZaV,ZbE];omega
   .refine⟨by simp[mkIC.ca,renL,AV.ren,sgx,osn],?_,trivial⟩;have e:sgx (osn [2+i]) 1 2000000 0=2+i:=by simp[sgx,osn]
    rw[e]
    have:=Qaej l k i i (by omega)
    simp only[mkLH,tlN,hget,Qao _ _ (show 0≠2+i by omega),ZaL] at this;simp only[hget,Qao _ _ (show 0≠2+i by omega),ZaL];rw[Qcy _ _ _ _ (by omega)];simp[tlN,AObj.ren]
   simp(maxSteps:=9^9)(disch:=omega)only[ZZ,simprocAttr,rch,Ybe,ORB,mkLC.ca,mkIC.H1,sub,Qba,Qao,Qjf,ZaN,tlK];refine⟨.inr (by omega),⟨i+1,by omega⟩,by simp only;omega,⟨by rw[Qak (by omega) (by omega)];simp only;omega,rfl⟩,rfl,?_⟩;rw[Qafp];intro j hj;by_cases hji:j=i
   .subst hji;simp[hget,tlN]
   .simp only[hget,Qao _ _ (show 2+i≠2+j by omega),Qao _ _ (show 0≠2+j by omega),ZaL];rw[Qce _ _ _ (by omega),Qcy _ _ _ _ hj];simp only[tlN];by_cases c:j<i
    .rw[Zao c,Zao (by omega)]
    .rw[Zai c,Zai (by omega)]
  .have hil:i=l.length:=by omega
   subst hil;have kx: ∀j,j<nT l->kxB ((0,(true,AObj.arrA 247 2 (List.map (tlM l k 0) (List.range (nT l)))))::famH 2 (nT l) (tlN l k 0)) 2000000 0 (fun _=>false) (2+j)=some (2+j):=by
    intro j hj
    have:=(Qadg l k 0 (2+j)).2 (.inr ⟨by omega,by omega⟩)
    simp only[mkLH] at this;simp only[kxB,this,ZdN,ZaY]
   refine⟨?_,rfl,?_,?_⟩
   .have: ∀(h:Nat->Option Ent) (H:Qan),roB h (fun _=>true) H:=by
     intro h H;induction H with
     |nil=>trivial
     |cons x r ih=>obtain⟨j,e⟩:=x;exact⟨trivial,ih⟩
    exact this _ _
   .rw[show tlM l k (nT l)=tlM l k l.length by rw[hn]];rw[Qnl (g:=tlM l k l.length) (k:=tlM l k l.length) _ (fun j hj=> ?_)]
    .rfl
    .have hj':=Zat.1 hj;simp only[tlM,Zao (show j<l.length by omega),mapO,cvt,kx j hj',kp]
   .refine Qadj _ _ _ _ _ (fun j hj=> ?_) (fun j hj=>rfl);simp only[hget,Qao _ _ (show 0≠2+j by omega),ZaL];rw[Qcy _ _ _ _ hj,hn]
 refine .inl ?_;have hp2:p.1=0\/(2<=p.1/\p.1<2+nT a.1):=by
  simp only[mkLC.H1,mkLH,Zas,famH,Zav,Zat] at hp;rcases hp with rfl|⟨j,hj,rfl⟩
  .exact .inl rfl
  .exact .inr ⟨by simp only;omega,by simp only;omega⟩
 have:=Qad0 a.1
 exact⟨by omega,rfl,(Qadg _ _ _ _).2 hp2⟩
theorem keysH_dom{H:Qan}{j:Nat}:j∈Qg1 H↔domB H j=true:=by
 induction H with
 |nil=>simp[Qg1,domB,hget]
 |cons e r ih=>
  obtain⟨i,e⟩:=e;simp only[Qg1,Zas,domB,hget];by_cases hij:i=j
  .subst hij;simp
  .have:(i==j)=false:=by simpa using hij
   rw[this];simp only[ZaL];exact⟨fun h=>ih.1 (h.resolve_left fun h=>hij h.symm),fun h=> .inr (ih.2 h)⟩
mutual
theorem Qadz{n:Nat}: ∀x:AV,(∀m∈x.nms,m<n)->x.bel n=true
 | .any,_=>rfl
 | .im _,_=>rfl
 | .agg cs,h=>by simp only[AV.nms] at h;simp only[AV.bel];exact Qada cs h
 | .tup cs,h=>by simp only[AV.nms] at h;simp only[AV.bel];exact Qada cs h
 | .ptr o _,h=>by simp only[AV.bel,ZbE];exact h o (by simp[AV.nms])
 | .eptr o _ _,h=>by simp only[AV.bel,ZbE];exact h o (by simp[AV.nms])
 | .own o,h=>by simp only[AV.bel,ZbE];exact h o (by simp[AV.nms])
 | .mp o,h=>by simp only[AV.bel,ZbE];exact h o (by simp[AV.nms])
 | .ch o,h=>by simp only[AV.bel,ZbE];exact h o (by simp[AV.nms])
 | .it o,h=>by simp only[AV.bel,ZbE];exact h o (by simp[AV.nms])
 | .osl o _ _,h=>by simp only[AV.bel,ZbE];exact h o (by simp[AV.nms])
 | .clo _ a c,h=>by
   simp only[AV.nms,Zaq] at h;simp only[AV.bel,Qada a fun m hm=>h m (.inl hm),Qada c fun m hm=>h m (.inr hm),Zdj]
theorem Qada{n:Nat}: ∀xs:List AV,(∀m∈nmsL xs,m<n)->belL n xs=true
 |[],_=>rfl
 |x::r,h=>by
  simp only[nmsL,Zaq] at h;simp only[belL,Qadz x fun m hm=>h m (.inl hm),Qada r fun m hm=>h m (.inr hm),Zdj]
end
theorem Qad4{n:Nat}: ∀H:Qan,(∀p∈H,∀m∈p.2.2.nms,m<n)->belH n H=true
 |[],_=>rfl
 |(i,(mu,e))::r,h=>by
  have h1:=h _ (Zar ..);have ih:=Qad4 r fun p hp=>h p (Zan _ hp)
  cases e with
  |cells T cs=>simp only[belH,ih,ZaV];exact Qada cs (by simpa[AObj.nms] using h1)
  |arrA T k rows=>
   simp only[belH,ih,ZaV,ZaJ];refine fun q hq=>Qada q fun m hm=>h1 m ?_
   simp only[AObj.nms];exact Qadc.2 ⟨q,hq,hm⟩
  |_=>simp only[belH,ih]
mutual
theorem Qafi(σ:Nat->Nat): ∀x:AV,(x.ren σ).nms=x.nms.map σ
 | .any=>rfl
 | .im _=>rfl
 | .agg cs=>by simp only[AV.ren,AV.nms];exact Qadl σ cs
 | .tup cs=>by simp only[AV.ren,AV.nms];exact Qadl σ cs
 | .ptr o _=>rfl
 | .eptr o _ _=>rfl
 | .own o=>rfl
 | .mp o=>rfl
 | .ch o=>rfl
 | .it o=>rfl
 | .osl o _ _=>rfl
 | .clo _ a c=>by simp only[AV.ren,AV.nms,Qadl σ a,Qadl σ c,Zbs]
theorem Qadl(σ:Nat->Nat): ∀xs:List AV,nmsL (renL σ xs)=(nmsL xs).map σ
 |[]=>rfl
 |x::r=>by simp only[renL,nmsL,Qafi σ x,Qadl σ r,Zbs]
end
theorem Qafh(σ:Nat->Nat)(e:AObj): ∀m∈(e.ren σ).nms,∃j∈e.nms,m=σ j:=by
 intro m hm;cases e with
 |cells T cs=>
  simp only[AObj.ren,AObj.nms,Qadl,Zav] at hm⊢;obtain⟨j,hj,rfl⟩:=hm;exact⟨j,hj,rfl⟩
 |arrA T k rows=>
  simp only[AObj.ren,AObj.nms] at hm⊢;obtain⟨r,hr,hm⟩:=Qadc.1 hm;obtain⟨q,hq,rfl⟩:=Zav.1 hr;rw[Qadl,Zav] at hm;obtain⟨j,hj,rfl⟩:=hm;exact⟨j,Qadc.2 ⟨q,hq,hj⟩,rfl⟩
 |_=>simp[AObj.ren,AObj.nms] at hm
theorem Qaf4{σ:Nat->Nat}{N:Nat}(H:Qan)(h: ∀p∈H,∀m∈p.2.2.nms,σ m<N):belH N (renH σ H)=true:=by
 refine Qad4 _ ?_;induction H with
 |nil=>intro p hp;cases hp
 |cons x r ih=>
  obtain⟨i,mu,e⟩:=x;intro p hp m hm;rcases Zas.1 hp with rfl|hp
  .obtain⟨j,hj,rfl⟩:=Qafh σ e m hm;exact h _ (Zar ..) j hj
  .exact ih (fun p hp=>h p (Zan _ hp)) p hp m hm
theorem orow.tau{A:Type}{ca:A->List AV}{H0:A->Qan}{k:Nat}{pre:A->Prop}{klB:Nat->Bool}{r0:A->AV}{H1:A->Qan}{args:List AV}{tm:List (Nat×AV)}{h:Qan}{nx:Nat}{dst:Option Nat}{go:Qad->Prop}(a:A)(τ:Nat->Nat)(hpre:pre a)(hkl: ∀j,domB (H0 a) j=true->klB j=true)
 (hd: ∀j,domB (H0 a) j=true->j<k/\τ j<nx)(hinj: ∀i j,domB (H0 a) i=true->domB (H0 a) j=true->τ i=τ j->i=j)
 (hcl: ∀p∈H1 a,domB (H0 a) p.1=true/\ ∀m∈p.2.2.nms,domB (H0 a) m=true)
 (hx:args=renL (sgx τ k nx) (ca a)/\Qer (hget h) (sgx τ k nx) (H0 a))
 (hb: ∀m∈(r0 a).nms,domB (H0 a) m=true)
 (hgo: ∀HH:Qan,(∀j e,hget (H1 a) j=some e->hget HH (τ j)=some (e.1,e.2.ren (sgx τ k nx)))->(∀m,(∀j,domB (H0 a) j=true->τ j≠m)->hget HH m=hget h m)->go ((⟨tm,HH,nx⟩:Qad).put dst ((r0 a).ren (sgx τ k nx)))):
 orow ca H0 k pre klB r0 H1 0 args (hget h) nx (kont go ⟨tm,h,nx⟩ dst):=by
 have hσ: ∀j,domB (H0 a) j=true->sgx τ k nx j=τ j:=fun j hj=>Zao (hd j hj).1
 have hi': ∀i j,domB (H0 a) i=true->domB (H0 a) j=true->sgx τ k nx i=sgx τ k nx j->i=j:=fun i j hi hj h=>hinj i j hi hj (by rwa [hσ i hi,hσ j hj] at h)
 have hmem: ∀m,m∈(Qg1 (H0 a)).map τ↔ ∃j,domB (H0 a) j=true/\τ j=m:=fun m=>by simp only[Zav,keysH_dom]
 have hk1: ∀p∈H1 a,domB (H0 a) p.1=true:=fun p hp=>(hcl p hp).1
 refine⟨a,τ,(Qg1 (H0 a)).map τ,(Qg1 (H0 a)).map τ,hpre,hx.1,hx.2,⟨hinj,fun j hj=>(hd j hj).2,fun j hj=>(hmem _).2 ⟨j,hj,rfl⟩,fun m hm=> ?_,fun j hj _=>(hmem _).2 ⟨j,hj,rfl⟩⟩,?_⟩
 .obtain⟨j,hj,rfl⟩:=(hmem m).1 hm;exact⟨j,hj,hkl j hj,rfl⟩
 refine⟨?_,?_⟩
 .have hb2:((r0 a).ren (sgx τ k nx)).bel nx=true:=by
   refine Qadz _ fun m hm=> ?_
   rw[Qafi,Zav] at hm;obtain⟨j,hj,rfl⟩:=hm;rw[hσ j (hb j hj)];exact (hd j (hb j hj)).2
  have hbE:belH nx (renH (sgx τ k nx) (H1 a))=true:=Qaf4 _ fun p hp m hm=>by
   have:=(hcl p hp).2 m hm
   rw[hσ m this];exact (hd m this).2
  rw[Eff.ok_nr,Zcw,hb2,hbE,Zbc,Zbc]
  have: ∀H:Qan,(∀p∈H,domB (H0 a) p.1=true)->Qpx ((Qg1 (H0 a)).map τ) nx 0 (renH (sgx τ k nx) H)=true:=by
   intro H;induction H with
   |nil=>intro _;rfl
   |cons e r ih=>
    obtain⟨i,mu,e⟩:=e;intro hp;have h1:=hp _ (Zar ..);simp only at h1;simp only[renH,Qpx,Qafj,Zaf,ZbO,Zcm,ZbE];refine⟨.inr ⟨?_,?_⟩,ih fun p h=>hp p (Zan _ h)⟩
    .rw[Zbi,hσ i h1];exact (hmem _).2 ⟨i,h1,rfl⟩
    .rw[hσ i h1];exact (hd i h1).2
  exact this _ hk1
 rw[Qad.app_nr,Zcw];refine hgo _ (fun j e he=> ?_) (fun m hm=> ?_)
 .have hj:domB (H0 a) j=true:=by
   have: ∀H:Qan,hget H j=some e-> ∃p∈H,p.1=j:=by
    intro H;induction H with
    |nil=>intro h;cases h
    |cons x r ih=>
     obtain⟨i,x⟩:=x;intro h;by_cases hij:i=j
     .exact⟨_,Zar ..,hij⟩
     .have hb:(i==j)=false:=by simpa using hij
      simp only[hget,hb,ZaL] at h;obtain⟨p,h1,h2⟩:=ih h;exact⟨p,Zan _ h1,h2⟩
   obtain⟨p,h1,rfl⟩:=this _ he;exact hk1 p h1
  rw[Qol,<-hσ j hj,Qv5 (D:=fun j=>domB (H0 a) j=true) hi' (H1 a) hk1 j hj,he];rfl
 .rw[Qol];cases hq:hget (renH (sgx τ k nx) (H1 a)) m with
  |some e=>
   obtain⟨j,e0,h1,h2,_⟩:=Qzm hq;have hj:=hk1 _ h1;rw[hσ j hj] at h2;exact absurd h2 (hm j hj)
  |none=>
   rw[Qeg,Zai]
   .rfl
   .rw[Zbi];intro h;obtain⟨j,hj,h2⟩:=(hmem m).1 h;exact hm j hj h2
theorem Qafy{go:Qad->Prop}{tm:List (Nat×AV)}{h:Qan}{nx:Nat}{dst:Option Nat}{σ:Nat->Nat}(hσ: ∀j,σ j=nx+j){r0:AV}{H1:Qan}{cnt:Nat}{u kl:List Nat}(hkl:kl=[])
 (hcl: ∀p∈H1,p.1<cnt/\ ∀m∈p.2.2.nms,m<cnt)(hb: ∀m∈r0.nms,m<cnt)
 (hgo: ∀HH:Qan,(∀j e,hget H1 j=some e->hget HH (nx+j)=some (e.1,e.2.ren σ))->(∀m,m<nx->hget HH m=hget h m)->go ((⟨tm,HH,nx+cnt⟩:Qad).put dst (r0.ren σ))):
 kont go ⟨tm,h,nx⟩ dst (r0.ren σ) {use:=u,kill:=kl,new:=renH σ H1,cnt:=cnt}:=by
 subst hkl;refine⟨?_,?_⟩
 .have hb2:(r0.ren σ).bel (nx+cnt)=true:=by
   refine Qadz _ fun m hm=> ?_
   rw[Qafi,Zav] at hm;obtain⟨j,hj,rfl⟩:=hm
   have:=hb j hj
   rw[hσ];omega
  have hbE:belH (nx+cnt) (renH σ H1)=true:=Qaf4 _ fun p hp m hm=>by
   have:=(hcl p hp).2 m hm
   rw[hσ];omega
  rw[Eff.ok_nr,hb2,hbE,Zbc,Zbc];refine Qad3 _ _ _ _ fun p hp=> ?_
  have: ∀H:Qan,(∀p∈H,p.1<cnt)-> ∀p∈renH σ H,nx<=p.1/\p.1<nx+cnt:=by
   intro H;induction H with
   |nil=>intro _ p hp;cases hp
   |cons x r ih=>
    obtain⟨i,mu,e⟩:=x;intro hx p hp;have h1:=hx _ (Zar ..);simp only at h1;simp only[renH,Zas] at hp;rcases hp with rfl|hp
    .simp only;rw[hσ];omega
    .exact ih (fun p h=>hx p (Zan _ h)) p hp
  exact this _ (fun p hp=>(hcl p hp).1) p hp
 rw[Qad.app_nr,Qba];refine hgo _ (fun j e he=> ?_) (fun m hm=> ?_)
 .rw[Qol,<-hσ j,Qafs (fun i j h=>by rw[hσ,hσ] at h;omega),he];rfl
 .rw[Qol];cases hq:hget (renH σ H1) m with
  |some e=>
   obtain⟨j,e0,_,h2,_⟩:=Qzm hq;rw[hσ] at h2;omega
  |none=>rfl
theorem orow.nw{A:Type}{ca:A->List AV}{H0:A->Qan}{pre:A->Prop}{klB:Nat->Bool}{r0:A->AV}{H1:A->Qan}{cnt:Nat}{args:List AV}{tm:List (Nat×AV)}{h:Qan}{nx:Nat}{dst:Option Nat}{go:Qad->Prop}(a:A)(hpre:pre a)(h0:H0 a=[])
 (hx:args=renL (fun j=>nx+j) (ca a))(hcl: ∀p∈H1 a,p.1<cnt/\ ∀m∈p.2.2.nms,m<cnt)(hb: ∀m∈(r0 a).nms,m<cnt)
 (hgo: ∀HH:Qan,(∀j e,hget (H1 a) j=some e->hget HH (nx+j)=some (e.1,e.2.ren fun j=>nx+j))->(∀m,m<nx->hget HH m=hget h m)->go ((⟨tm,HH,nx+cnt⟩:Qad).put dst ((r0 a).ren fun j=>nx+j))):
 orow ca H0 0 pre klB r0 H1 cnt args (hget h) nx (kont go ⟨tm,h,nx⟩ dst):=by
 have e:sgx (osn []) 0 nx=fun j=>nx+j:=funext fun j=>by simp[sgx]
 refine orow.os a [] hpre (fun j=>by rw[h0];simp[domB,hget]) rfl rfl ⟨by rw[e];exact hx,by rw[h0];trivial⟩ ?_;rw[e];exact Qafy (fun _=>rfl) rfl hcl hb hgo
theorem Qaex.nw{A:Type}{ar:List PK->Option A}{pre:A->Prop}{r0:A->AV}{H1:A->Qan}{cnt:Nat}{args:List AV}{tm:List (Nat×AV)}{h:Qan}{nx:Nat}{dst:Option Nat}{go:Qad->Prop}(ps:List PK)(hps:pkFL (hget h) args=some ps)(a:A)(ha:ar ps=some a)(hpre:pre a)
 (hcl: ∀p∈H1 a,p.1<cnt/\ ∀m∈p.2.2.nms,m<cnt)(hb: ∀m∈(r0 a).nms,m<cnt)
 (hgo: ∀HH:Qan,(∀j e,hget (H1 a) j=some e->hget HH (nx+j)=some (e.1,e.2.ren fun j=>nx+j))->(∀m,m<nx->hget HH m=hget h m)->go ((⟨tm,HH,nx+cnt⟩:Qad).put dst ((r0 a).ren fun j=>nx+j))):
 Qaex ar pre r0 H1 cnt args (hget h) nx (kont go ⟨tm,h,nx⟩ dst):=by
 have e:sgx (fun j=>j) 0 nx=fun j=>nx+j:=funext fun j=>by simp[sgx]
 unfold Qaex;rw[hps];simp only[Qalb,ha,decK];rw[e];exact⟨hpre,Qafy (fun _=>rfl) rfl hcl hb hgo⟩
theorem vF.call{A:Type}{ar:List PK->Option A}{pre:A->Prop}{re:A->D}{args:List AV}{tm:List (Nat×AV)}{h:Qan}{nx:Nat}{dst:Option Nat}{go:Qad->Prop}(ps:List PK)(hps:pkFL (hget h) args=some ps)(a:A)(ha:ar ps=some a)(hpre:pre a)
 (hgo:go ((⟨tm,h,nx⟩:Qad).put dst (.im (re a)))):Qfi ar pre re args (hget h) nx (kont go ⟨tm,h,nx⟩ dst):=by
 unfold Qfi;rw[hps];simp only[Qct,ha,decK];refine⟨hpre,?_,?_⟩
 .rw[Eff.ok_nr];simp[AV.bel,belH,Qpx]
 .rw[Qad.app_nr,Qba,Zcw];exact hgo
def syH(G:List Glue)(rows:List (List AV))(n:Nat)(f:Nat->Ent):Qan:=(0,(true,.arr 263 2 (G.map Glue.c)))::(1,(true,.arrA 247 2 rows))::famH 2 n f
theorem Qadn(G:List Glue)(rows:List (List AV))(n:Nat)(f:Nat->Ent)(j:Nat):domB (syH G rows n f) j=true↔j<2+n:=by
 simp only[domB,syH,hget,Qm4];by_cases h0:j=0
 .subst h0;simp;omega
 by_cases h1:j=1
 .subst h1;simp;omega
 rw[Qao _ _ (fun h=>h0 h.symm),Qao _ _ (fun h=>h1 h.symm)];simp only[ZaL];split
 .rename_i h;simp;omega
 .rename_i h;simp;omega
theorem syH_lt{G:List Glue}{rows:List (List AV)}{n:Nat}{f:Nat->Ent}{p:Nat×Ent}(hp:p∈syH G rows n f):p.1<2+n:=by
 simp only[syH,Zas,famH,Zav,Zat] at hp;rcases hp with rfl|rfl|⟨j,hj,rfl⟩<;>simp only<;>omega
def tlMR(a:List Tile)(k:Int)(i:Nat):List (List AV):=(List.range (nT a)).map (tlM a k i)
theorem tlMR_bel(a:List Tile)(k:Int)(i N:Nat)(h:2+nT a<=N):(tlMR a k i).all (belL N)=true:=by
 rw[ZaJ];intro r hr;obtain⟨j,hj,rfl⟩:=Zav.1 hr;exact Qafd _ _ _ _ _ (by have:=Zat.1 hj;omega)
theorem tlM_ren(a:List Tile)(k:Int)(i j:Nat)(σ:Nat->Nat)(h:σ (2+j)=2+j):renL σ (tlM a k i j)=tlM a k i j:=by
 simp only[tlM]
 split<;>simp[tlA,renL,AV.ren,h]
theorem Qad2(a:List Tile)(k:Int)(i:Nat)(σ:Nat->Nat)(h: ∀j,j<nT a->σ (2+j)=2+j):(tlMR a k i).map (renL σ)=tlMR a k i:=by
 rw[tlMR,ZcR];exact ZbL fun j hj=>tlM_ren _ _ _ _ _ (h j (Zat.1 hj))
theorem syH_bel{G:List Glue}{a:List Tile}{k:Int}{i N:Nat}{f:Nat->Ent}(h:2+nT a<=N)(hf: ∀i,belH N [(2+i,f i)]=true):belH N (syH G (tlMR a k i) (nT a) f)=true:=by
 simp only[syH,belH];rw[Qi1 _ _ _ hf,tlMR_bel _ _ _ _ h];rfl
theorem Qafv{G:List Glue}{a:List Tile}{k:Int}{i N:Nat}{f:Nat->Ent}(h:2+nT a<=N):Qam N (syH G (tlMR a k i) (nT a) f)=true:=by
 simp only[syH,Qam];rw[Qd8 _ _ _ _ (by omega)];simp;omega
theorem Qafl{G:List Glue}{a:List Tile}{k:Int}{i:Nat}{f:Nat->Ent}(hf: ∀j,(f j).2.nms=[]){p:Nat×Ent}(hp:p∈syH G (tlMR a k i) (nT a) f){m:Nat}(hm:m∈p.2.2.nms):m<2+nT a:=by
 simp only[syH,Zas,famH,Zav,Zat] at hp;rcases hp with rfl|rfl|⟨j,hj,rfl⟩
 .simp[AObj.nms] at hm
 .simp only[AObj.nms] at hm;obtain⟨r,hr,hm⟩:=Qadc.1 hm;obtain⟨j,hj,rfl⟩:=Zav.1 hr;rw[Qae7,Zap] at hm
  have:=Zat.1 hj
  omega
 .rw[hf] at hm;cases hm
theorem Qaeo{H0:Qan}: ∀{H:Qan},(∀p∈H,∀m∈p.2.2.nms,domB H0 m=true)->Qc2 H0 H
 |[],_=>trivial
 |(_,(_,_))::r,h=>⟨h _ (Zar ..),Qaeo fun p hp=>h p (Zan _ hp)⟩
def tsK(a:Qaa×Int):Int:=a.2+2*a.1.Glues.length
def mkTS.ca(a:Qaa×Int):List AV:=[.agg [.own 0,.own 1],.im (.int .i64 a.2)]
def mkTS.H0(a:Qaa×Int):Qan:=syH a.1.Glues (tlMR a.1.Tiles (tsK a) 0) (nT a.1.Tiles) (tlN a.1.Tiles (tsK a) 0)
def mkTS.H1(a:Qaa×Int):Qan:=syH (wrE (gF a.2) a.1.Glues.length) (tlMR a.1.Tiles (tsK a) (nT a.1.Tiles)) (nT a.1.Tiles) (tlN a.1.Tiles (tsK a) (nT a.1.Tiles))
def mkTS.r0(a:Qaa×Int):AV:= .im (.int .i64 (tlK a.1.Tiles (tsK a) a.1.Tiles.length))
def mkTS.pre(a:Qaa×Int):Prop:=0<=a.2/\a.1.Tiles.length<=1048576/\tlK a.1.Tiles (tsK a) a.1.Tiles.length<=1099511627776
def mkTS.row:Row:=orow mkTS.ca mkTS.H0 2000000 mkTS.pre (fun _=>true) mkTS.r0 mkTS.H1 0
theorem mkTS.hbel(a:Qaa×Int):belL 2000000 (mkTS.ca a)=true:=by simp[mkTS.ca,belL,AV.bel]
theorem mkTS.hbH(a:Qaa×Int):belH 2000000 (mkTS.H0 a)=true:=syH_bel (by have:=Qad0 a.1.Tiles;omega) (fun i=>by simp[belH,tlN])
theorem mkTS.hkH(a:Qaa×Int):Qam 2000000 (mkTS.H0 a)=true:=Qafv (by have:=Qad0 a.1.Tiles;omega)
theorem mkTS.hnm(a:Qaa×Int):Qc2 (mkTS.H0 a) (mkTS.H0 a):=
 Qaeo fun p hp m hm=>(Qadn _ _ _ _ _).2 (Qafl (fun j=>by simp[tlN,AObj.nms]) hp hm)
theorem Qaeg(h:Nat->Option Ent): ∀(H:Qan),roB h (fun _=>true) H
 |[]=>trivial
 |(j,e)::r=>⟨trivial,Qaeg h r⟩
theorem kxB_dom{H0:Qan}{k cnt:Nat}{exB:Nat->Bool}{j:Nat}(h:domB H0 j=true):kxB H0 k cnt exB j=some j:=by
 simp only[kxB,h,ZdN,ZaY]
theorem tlM_cvt{h:Nat->Option Ent}{kx:Nat->Option Nat}{m:Nat}{a:List Tile}{k:Int}{i j:Nat}(hk:kx (2+j)=some (2+j)):mapO (cvt h kx (m+1)) (tlM a k i j)=some (tlM a k i j):=by
 simp only[tlM]
 split<;>simp only[tlA,mapO,cvt,hk,kp]
theorem Qaft{h:Nat->Option Ent}{kx:Nat->Option Nat}{m:Nat}{a:List Tile}{k:Int}{i:Nat}(hk: ∀j,j<nT a->kx (2+j)=some (2+j)):mapO (mapO (cvt h kx (m+1))) (tlMR a k i)=some (tlMR a k i):=
 Qnl _ fun j hj=>tlM_cvt (hk j (Zat.1 hj))
theorem mkLC.hcl(a:List Tile×Int): ∀p∈mkLC.H1 a,domB (mkLC.H0 a) p.1=true/\ ∀m∈p.2.2.nms,domB (mkLC.H0 a) m=true:=by
 intro p hp;simp only[mkLC.H0,Qadg];simp only[mkLC.H1,mkLH,Zas,famH,Zav,Zat] at hp;rcases hp with rfl|⟨j,hj,rfl⟩
 .refine⟨.inl rfl,fun m hm=> ?_⟩;simp only[AObj.nms] at hm;obtain⟨r,hr,hm⟩:=Qadc.1 hm;obtain⟨j,hj,rfl⟩:=Zav.1 hr;rw[Qae7,Zap] at hm
  have:=Zat.1 hj
  exact .inr ⟨by omega,by omega⟩
 .exact⟨.inr ⟨by simp only;omega,by simp only;omega⟩,fun m hm=>by simp[tlN,AObj.nms] at hm⟩
theorem mkTS.hcl(a:Qaa×Int): ∀p∈mkTS.H1 a,domB (mkTS.H0 a) p.1=true/\ ∀m∈p.2.2.nms,domB (mkTS.H0 a) m=true:=
 fun p hp=>⟨(Qadn _ _ _ _ _).2 (syH_lt hp),fun m hm=>(Qadn _ _ _ _ _).2 (Qafl (fun j=>by simp[tlN,AObj.nms]) hp hm)⟩
theorem mkTS.ok:Qas Tryz.prog 68 mkTS.row:=by
 refine Qf1 Qaq (tC mkGC.ok (tC mkLC.ok tN)) Tryz.func68 rfl (by kernel_rfl) (by kernel_rfl) (exB:=fun _=>false) (R:=fun a r=>r=mkTS.r0 a) (n:=2) (fun _=>rfl) (by decide)
  mkTS.hbel mkTS.hbH mkTS.hkH
  mkTS.hnm (fun a p hp=> ?_) (fun a r h=>by subst h;exact LeV.refl _) ?_
 rotate_left
 intro a hpre;simp only[Tryz.f68,Option.getD,mkTS.ca];simp(maxSteps:=9^9)(disch:=omega)only[ZZ,simprocAttr,rch,ORB,mkTS.ca];obtain⟨S,k⟩:=a;obtain⟨h1,h2,h3⟩:=hpre;simp only at h1 h2 h3;have hk:=tlK_b S.Tiles (tsK (S,k)) (by simp only[tsK];omega) 0 S.Tiles.length (by omega);have hk2:tsK (S,k)<=1099511627776:=by simp only[tlK] at hk;omega
 simp only[tsK] at hk2;have hn:=Qad0 S.Tiles;simp only[Qba,mkTS.H0,syH];refine orow.os (S.Glues,k) [0] ⟨h1,hk2⟩ (fun j=> ?_) rfl rfl ?_ ?_
 .simp only[domB,mkGC.H0,hget];by_cases hj:j=0
  .subst hj;simp
  .have:(0==j)=false:=by simpa using fun h=>hj h.symm
   rw[this];simp;omega
 .simp(maxSteps:=9^9)(disch:=omega)only[ZZ,simprocAttr,rch,ORB,mkTS.ca,mkGC.ca,mkGC.H0,Qer,ZaN]
  try exact⟨rfl,rfl⟩
 simp(maxSteps:=9^9)(disch:=omega)only[ZZ,simprocAttr,rch,ORB,mkTS.ca,mkGC.H1,sub,Qba,ZaN,Zbf];rw[Qadi 2 (nT S.Tiles) (tlN S.Tiles (tsK (S,k)) 0) [0] (by simp)];have hσ: ∀j,j<nT S.Tiles->sgx (fun j=>if j=0 then 1 else j) 2000000 2000001 (2+j)=2+j:=fun j hj=>by
  simp only[sgx];rw[Zao (by omega),Zai (by omega)]
 have hσ0:sgx (fun j=>if j=0 then 1 else j) 2000000 2000001 0=1:=rfl;refine orow.tau (S.Tiles,tsK (S,k)) (fun j=>if j=0 then 1 else j) ⟨h2,by simp only[tsK];omega,h3⟩ (fun _ _=>rfl) (fun j hj=> ?_) (fun i j hi hj h=> ?_) (mkLC.hcl _) ⟨?_,?_⟩ (by simp[mkLC.r0,AV.nms]) (fun HH hH1 hH2=> ?_)
 .have hj:=(Qadg _ _ _ _).1 hj;simp only at hj⊢
  split<;>omega
 .have hi:=(Qadg _ _ _ _).1 hi;have hj:=(Qadg _ _ _ _).1 hj;simp only at hi hj h;split at h<;>split at h<;>omega
 .simp only[mkLC.ca,renL,AV.ren,hσ0,tsK]
 .simp only[mkLC.H0,mkLH,Qer,hσ0,AObj.ren];refine⟨?_,Qadx fun i hi=> ?_⟩
  .simp only[hget,Qao _ _ (show 0≠1 by omega),Qao _ _ (show 2000000≠1 by omega),ZaL,ZdQ,ZaY];rw[<-tlMR,Qad2 _ _ _ _ hσ]
  .rw[hσ i hi];simp only[hget,Qao _ _ (show 0≠2+i by omega),Qao _ _ (show 2000000≠2+i by omega),Qao _ _ (show 1≠2+i by omega),ZaL];rw[Qcy _ _ _ _ hi];rfl
 have g0:hget HH 0=some (true,.arr 263 2 ((wrE (gF k) S.Glues.length).map Glue.c)):=by
  rw[hH2 0 (fun j hj=>by
   have hj:=(Qadg _ _ _ _).1 hj;simp only at hj⊢
   split<;>omega)]
  rfl
 have g1:hget HH 1=some (true,.arrA 247 2 (tlMR S.Tiles (tsK (S,k)) (nT S.Tiles))):=by
  have g:=hH1 0 _ rfl;rw[Zao rfl] at g;rw[g];simp only[AObj.ren];rw[<-tlMR,Qad2 _ _ _ _ hσ]
 have g2: ∀j,j<nT S.Tiles->hget HH (2+j)=some (tlN S.Tiles (tsK (S,k)) (nT S.Tiles) j):=fun j hj=>by
  have:=hH1 (2+j) _ (Qaej _ _ _ j hj)
  simp only[Zai (show 2+j≠0 by omega)] at this;rw[this];rfl
 simp only[mkLC.r0,AV.ren];simp(maxSteps:=9^9)(disch:=omega)only[ZZ,simprocAttr,rch,ORB,mkTS.ca,sub,mkTS.r0,tsK,Qba,mkTS.H1,syH];have hdm: ∀j,j<nT S.Tiles->domB ((0,(true,AObj.arr 263 2 (List.map Glue.c S.Glues)))::(1,(true,AObj.arrA 247 2 (tlMR S.Tiles (k+2*S.Glues.length) 0)))::famH 2 (nT S.Tiles) (tlN S.Tiles (k+2*S.Glues.length) 0)) (2+j)=true:=fun j hj=>(Qadn _ _ _ _ _).2 (by omega)
 refine⟨Qaeg _ _,?_,?_,?_⟩
 .rw[g0];exact⟨rfl,rfl⟩
 .rw[g1];refine⟨rfl,?_⟩;simp only[cvtE];rw[Qaft (fun j hj=>kxB_dom (hdm j hj))];rfl
 .exact Qadj _ _ _ _ _ (fun j hj=>g2 j hj) (fun j hj=>rfl)
 obtain⟨q1,_⟩:=mkTS.hcl _ p hp
 have:=(Qadn _ _ _ _ _).1 q1
 have:=Qad0 a.1.Tiles
 exact .inl ⟨by omega,rfl,q1⟩
theorem Qn3{n:Nat}{l:Int}(h:0<=szC n l):(n:Int)<=l/\szC n l<=l/\0<=l:=by
 simp only[szC] at h⊢;split at h
 .omega
 .rename_i c;rw[Zai c];omega
theorem Qu5: ∀(a:List Tile) (l:Int),0<=l->l<=1048576->0<=Qdz Qcn a l-> ∀x∈a,x.Sides.length<=1073741824
 |[],_,_,_,_=>by intro x hx;cases hx
 |y::r,l,h0,hl,h=>by
  simp only[Qdz] at h;split at h
  .omega
  .rename_i c;have hy:0<=Qcn y l:=by omega
   have h1:0<=szC y.Name.size l:=by
    simp only[Qcn] at hy;split at hy
    .omega
    .omega
   have e:Qcn y l=szC y.Sides.length (szC y.Name.size l):=by
    simp only[Qcn];rw[Zai (by omega)]
   rw[e] at hy h;obtain⟨a1,a2,a3⟩:=Qn3 hy;obtain⟨b1,b2,b3⟩:=Qn3 h1;intro x hx;rcases Zas.1 hx with rfl|hx
   .omega
   .exact Qu5 r _ hy (by omega) h x hx
theorem szSet_sm{s:Qaa}{l:Int}(hl: -1<=l)(hl2:l<=1048576)(h:0<=Qqd s l):smSet s:=by
 have hg:=Qo1 s.Glues l hl;simp only[Qqd] at h;split at h
 .omega
 rename_i c;have hg0:0<=Qcj s.Glues l:=by omega
 have hgc:0<=szC s.Glues.length l:=by
  simp only[Qcj] at hg0;split at hg0
  .omega
  .omega
 have htc:0<=szC s.Tiles.length (Qcj s.Glues l):=by
  simp only[Qds] at h;split at h
  .omega
  .omega
 have e:Qds s.Tiles (Qcj s.Glues l)=Qdz Qcn s.Tiles (szC s.Tiles.length (Qcj s.Glues l)):=by
  simp only[Qds];rw[Zai (by omega)]
 rw[e] at h;obtain⟨a1,a2,a3⟩:=Qn3 hgc;obtain⟨b1,b2,b3⟩:=Qn3 htc;exact⟨by omega,by omega,Qu5 s.Tiles _ htc (by omega) h⟩
theorem szSys_sm{s:Qar}{l:Int}(hl: -1<=l)(hl2:l<=1048576)(h:0<=Qlr s l):smSys s:=by
 have hb:=Qxk s.Set l hl;simp only[Qlr] at h;split at h
 .omega
 rename_i c;obtain⟨a1,a2,a3⟩:=Qn3 h;exact⟨szSet_sm hl hl2 (by omega),by omega⟩
def syK(a:Qar×Int):Int:=tlK a.1.Set.Tiles (tsK (a.1.Set,a.2)) a.1.Set.Tiles.length
def mkSy.ca(a:Qar×Int):List AV:=[.agg [.own 0,.own 1,.own 2000000,.im (.int .i64 a.1.Temperature)],.im (.int .i64 a.2)]
def mkSy.H0(a:Qar×Int):Qan:=(2000000,(true,.arr 187 3 (a.1.Seed.Tiles.map Qab.c)))::mkTS.H0 (a.1.Set,a.2)
def mkSy.H1(a:Qar×Int):Qan:=(2000000,(true,.arr 187 3 ((wrE (pF (syK a)) a.1.Seed.Tiles.length).map Qab.c)))::mkTS.H1 (a.1.Set,a.2)
def mkSy.r0(a:Qar×Int):AV:= .im (.int .i64 (syK a+3*a.1.Seed.Tiles.length))
def mkSy.pre(a:Qar×Int):Prop:=0<=a.2/\a.1.Set.Tiles.length<=1048576/\syK a+3*a.1.Seed.Tiles.length<=1099511627776
def mkSy.row:Row:=orow mkSy.ca mkSy.H0 2000001 mkSy.pre (fun _=>true) mkSy.r0 mkSy.H1 0
theorem mkSy.dom0(a:Qar×Int)(j:Nat):domB (mkSy.H0 a) j=true↔j=2000000\/j<2+nT a.1.Set.Tiles:=by
 by_cases h:j=2000000
 .subst h;simp[domB,mkSy.H0,hget]
 .have h2:(2000000==j)=false:=by simpa using fun q=>h q.symm
  have:domB (mkSy.H0 a) j=domB (mkTS.H0 (a.1.Set,a.2)) j:=by simp only[domB,mkSy.H0,hget,h2,ZaL]
  rw[this];simp only[mkTS.H0,Qadn,h,false_or]
theorem mkSy.hcl(a:Qar×Int): ∀p∈mkSy.H1 a,domB (mkSy.H0 a) p.1=true/\ ∀m∈p.2.2.nms,domB (mkSy.H0 a) m=true:=by
 intro p hp;simp only[mkSy.dom0];rcases Zas.1 hp with rfl|hp
 .exact⟨.inl rfl,fun m hm=>by simp[AObj.nms] at hm⟩
 .have:=mkTS.hcl _ p hp
  simp only[mkTS.H0,Qadn] at this;exact⟨.inr this.1,fun m hm=> .inr (this.2 m hm)⟩
theorem mkSy.hbel(a:Qar×Int):belL 2000001 (mkSy.ca a)=true:=by simp[mkSy.ca,belL,AV.bel]
theorem mkSy.hbH(a:Qar×Int):belH 2000001 (mkSy.H0 a)=true:=by
 simp only[mkSy.H0,belH];exact syH_bel (by have:=Qad0 a.1.Set.Tiles;simp only;omega) (fun i=>by simp[belH,tlN])
theorem mkSy.hkH(a:Qar×Int):Qam 2000001 (mkSy.H0 a)=true:=by
 simp only[mkSy.H0,Qam]
 have:=Qafv (G:=a.1.Set.Glues) (a:=a.1.Set.Tiles) (k:=tsK (a.1.Set,a.2)) (i:=0) (N:=2000001) (f:=tlN a.1.Set.Tiles (tsK (a.1.Set,a.2)) 0) (by have:=Qad0 a.1.Set.Tiles;omega)
 simp only[mkTS.H0,this,ZaV];simp
theorem mkSy.hnm(a:Qar×Int):Qc2 (mkSy.H0 a) (mkSy.H0 a):=by
 refine Qaeo fun p hp m hm=>(mkSy.dom0 _ _).2 ?_
 rcases Zas.1 hp with rfl|hp
 .simp[AObj.nms] at hm
 .exact .inr (Qafl (fun j=>by simp[tlN,AObj.nms]) hp hm)
theorem syH_get2{G:List Glue}{rows:List (List AV)}{n:Nat}{f:Nat->Ent}(i:Nat)(h:i<n):hget (syH G rows n f) (2+i)=some (f i):=by
 simp only[syH,hget,Qao _ _ (show 0≠2+i by omega),Qao _ _ (show 1≠2+i by omega),ZaL];exact Qcy _ _ _ _ h
theorem outOk_sy{h:Nat->Option Ent}{kx:Nat->Option Nat}{m:Nat}{G:List Glue}{a:List Tile}{k:Int}{i:Nat}{f:Nat->Ent}(h0:h 0=some (true,.arr 263 2 (G.map Glue.c)))(h1:h 1=some (true,.arrA 247 2 (tlMR a k i)))(h2: ∀j,j<nT a->h (2+j)=some (f j))
 (hf: ∀j,cvtE (cvt h kx (m+1)) (f j).2=some (f j).2)(hk: ∀j,j<nT a->kx (2+j)=some (2+j)):Qhk h (cvt h kx (m+1)) (syH G (tlMR a k i) (nT a) f):=by
 simp only[syH,Qhk];refine⟨?_,?_,Qadj _ _ _ _ _ h2 (fun j _=>hf j)⟩
 .rw[h0];exact⟨rfl,rfl⟩
 .rw[h1];refine⟨rfl,?_⟩;simp only[cvtE];rw[Qaft hk];rfl
theorem mkSy.ok:Qas Tryz.prog 19 mkSy.row:=by
 refine Qf1 Qaq (tC mkTS.ok (tC mkAC.ok tN)) Tryz.func19 rfl (by kernel_rfl) (by kernel_rfl) (exB:=fun _=>false) (R:=fun a r=>r=mkSy.r0 a) (n:=2) (fun _=>rfl) (by decide)
  mkSy.hbel mkSy.hbH mkSy.hkH
  mkSy.hnm (fun a p hp=> ?_) (fun a r h=>by subst h;exact LeV.refl _) ?_
 rotate_left
 intro a hpre;simp only[Tryz.f19,Option.getD,mkSy.ca];simp(maxSteps:=9^9)(disch:=omega)only[ZZ,simprocAttr,rch,ORB,mkSy.ca];obtain⟨S,k⟩:=a;obtain⟨h1,h2,h3⟩:=hpre;simp only at h1 h2 h3;simp only[Qba,mkSy.H0];have hn:=Qad0 S.Set.Tiles;have hk:=tlK_b S.Set.Tiles (tsK (S.Set,k)) (by simp only[tsK];omega) 0 S.Set.Tiles.length (by omega);have hk0:0<=syK (S,k):=by simp only[syK];omega
 have hσ: ∀j,j<2+nT S.Set.Tiles->sgx (fun j=>j) 2000000 2000002 j=j:=fun j hj=>Zao (by omega)
 have dmT:=fun j=>(Qadn S.Set.Glues (tlMR S.Set.Tiles (tsK (S.Set,k)) 0) (nT S.Set.Tiles) (tlN S.Set.Tiles (tsK (S.Set,k)) 0) j)
 refine orow.tau (S.Set,k) (fun j=>j) ⟨h1,h2,by simp only[syK] at h3;simp only;omega⟩ (fun _ _=>rfl) (fun j hj=> ?_) (fun i j _ _ h=>h) (mkTS.hcl _) ⟨?_,?_⟩ (by simp[mkTS.r0,AV.nms]) (fun HH hH1 hH2=> ?_)
 .have hj:=(dmT j).1 hj;omega
 .simp only[mkTS.ca,renL,AV.ren,hσ 0 (by omega),hσ 1 (by omega)]
 .simp only[mkTS.H0,syH,Qer,hσ 0 (by omega),hσ 1 (by omega),AObj.ren];rw[Qad2 _ _ _ _ (fun j hj=>hσ _ (by omega))];refine⟨rfl,rfl,Qadx fun i hi=> ?_⟩;rw[hσ _ (by omega)];simp only[hget,Qao _ _ (show 2000001≠2+i by omega),Qao _ _ (show 2000000≠2+i by omega),Qao _ _ (show 0≠2+i by omega),Qao _ _ (show 1≠2+i by omega),ZaL];rw[Qcy _ _ _ _ hi];rfl
 have hu: ∀m,m=2000000\/m=2000001-> ∀j,domB (mkTS.H0 (S.Set,k)) j=true->j≠m:=fun m hm j hj=>by
  have hj:=(dmT j).1 hj;omega
 have gs:hget HH 2000000=some (true,.arr 187 3 (S.Seed.Tiles.map Qab.c)):=by rw[hH2 _ (hu _ (.inl rfl))];rfl
 have gp:hget HH 2000001=some (true,.cells 48 [.own 0,.own 1,.own 2000000,.im (.int .i64 S.Temperature)]):=by rw[hH2 _ (hu _ (.inr rfl))];rfl
 have g0:hget HH 0=some (true,.arr 263 2 ((wrE (gF k) S.Set.Glues.length).map Glue.c)):=hH1 0 _ rfl;have g1:hget HH 1=some (true,.arrA 247 2 (tlMR S.Set.Tiles (tsK (S.Set,k)) (nT S.Set.Tiles))):=by
  rw[hH1 1 _ rfl];simp only[AObj.ren];rw[Qad2 _ _ _ _ (fun j hj=>hσ _ (by omega))]
 have g2: ∀j,j<nT S.Set.Tiles->hget HH (2+j)=some (tlN S.Set.Tiles (tsK (S.Set,k)) (nT S.Set.Tiles) j):=fun j hj=>by
  have e:hget (mkTS.H1 (S.Set,k)) (2+j)=some (tlN S.Set.Tiles (tsK (S.Set,k)) (nT S.Set.Tiles) j):=syH_get2 j hj;rw[hH1 (2+j) _ e];rfl
 have eK:tlK S.Set.Tiles (tsK (S.Set,k)) S.Set.Tiles.length=syK (S,k):=rfl;simp only[mkTS.r0,AV.ren,eK];simp(maxSteps:=9^9)(disch:=omega)only[ZZ,simprocAttr,rch,ORB,mkSy.ca,sub,Qba,gp]
 skip
 refine orow.os (S.Seed,syK (S,k)) [2000000] ⟨hk0,h3⟩ (fun j=> ?_) rfl rfl ?_ ?_
 .simp only[domB,mkAC.H0,hget];by_cases hj:j=0
  .subst hj;simp
  .have:(0==j)=false:=by simpa using fun h=>hj h.symm
   rw[this];simp;omega
 .simp(maxSteps:=9^9)(disch:=omega)only[ZZ,simprocAttr,rch,ORB,mkSy.ca,mkAC.ca,mkAC.H0,Qer,ZaN,gs]
  try exact⟨rfl,rfl⟩
 simp(maxSteps:=9^9)(disch:=omega)only[ZZ,simprocAttr,rch,ORB,mkSy.ca,mkAC.H1,sub,Qba,ZaN,Zbf,mkSy.r0,mkSy.H1];obtain⟨HX,hHX⟩: ∃HX,HX=hget ((2000000,(true,AObj.arr 187 3 (List.map Qab.c (wrE (pF (syK (S,k))) S.Seed.Tiles.length))))::hdel HH [2000000]):=⟨_,rfl⟩;rw[<-hHX];have gx: ∀m,m≠2000000->HX m=hget HH m:=fun m hm=>by
  rw[hHX];simp only[hget,Qao _ _ (fun h=>hm h.symm:2000000≠m),ZaL];exact Qce _ _ _ (fun h=>hm h.symm)
 refine⟨Qaeg _ _,outOk_sy (by rw[gx 0 (by omega)];exact g0) (by rw[gx 1 (by omega)];exact g1) (fun j hj=>by simp only at hj;rw[gx _ (by omega)];exact g2 j hj) (fun j=>rfl) (fun j hj=>kxB_dom ?_)⟩;simp only at hj
 have:=(mkSy.dom0 (S,k) (2+j)).2 (.inr (by simp only;omega))
 simpa only[mkSy.H0] using this
 obtain⟨q1,_⟩:=mkSy.hcl _ p hp
 have:=(mkSy.dom0 _ _).1 q1
 have:=Qad0 a.1.Set.Tiles
 exact .inl ⟨by omega,rfl,q1⟩
def Qaer(a:List Tile):Nat:=(a.map fun x=>x.Sides.length).sum
theorem Qaf2(y:Tile)(r:List Tile)(k:Int): ∀i,tlK (y::r) k (i+1)=tlK r (k+1+y.Sides.length) i
 |0=>rfl
 |i+1=>by
  rw[tlK,Qaf2 y r k i,tlK];rfl
theorem tlK_sum: ∀(a:List Tile) (k:Int),tlK a k a.length=k+a.length+Qaer a
 |[],k=>by simp[tlK,Qaer]
 |y::r,k=>by
  rw[ZaE,Qaf2,tlK_sum r];simp only[Qaer,Zal,Zcc];omega
theorem szC_eq{n:Nat}{l:Int}(h:0<=szC n l):szC n l=l - n:=by
 simp only[szC] at h⊢;split at h
 .omega
 .rename_i c;rw[Zai c]
theorem Qaeb: ∀(a:List Tile) (l:Int),0<=l->0<=Qdz Qcn a l->(Qaer a:Int)+Qdz Qcn a l<=l
 |[],l,h0,_=>by simp[Qaer,Qdz]
 |y::r,l,h0,h=>by
  simp only[Qdz] at h⊢;by_cases c:Qcn y l<0
  .rw[Zao c] at h;omega
  .rw[Zai c] at h⊢;have hy:0<=Qcn y l:=by omega
   have h1:0<=szC y.Name.size l:=by
    simp only[Qcn] at hy;split at hy<;>omega
   have e:Qcn y l=szC y.Sides.length (szC y.Name.size l):=by
    simp only[Qcn];rw[Zai (by omega)]
   rw[e] at hy h⊢;have q1:=Qn3 h1;have q2:=szC_eq hy;have ih:=Qaeb r _ hy h;simp only[Qaer,Zal,Zcc] at ih⊢;omega
structure SysB(s:Qar):Prop where
 g:s.Set.Glues.length<=1048576
 t:s.Set.Tiles.length<=1048576
 d:Qaer s.Set.Tiles<=1048576
 p:s.Seed.Tiles.length<=1048576
theorem szSys_B{s:Qar}{l:Int}(hl: -1<=l)(hl2:l<=1048576)(h:0<=Qlr s l):SysB s:=by
 have hb:=Qxk s.Set l hl;simp only[Qlr] at h;split at h
 .omega
 rename_i c;obtain⟨a1,_,_⟩:=Qn3 h;have hs:0<=Qqd s.Set l:=by omega
 have hg:=Qo1 s.Set.Glues l hl;simp only[Qqd] at hs;split at hs
 .omega
 have hg0:0<=Qcj s.Set.Glues l:=by omega
 have hgc:0<=szC s.Set.Glues.length l:=by
  simp only[Qcj] at hg0;split at hg0<;>omega
 have htc:0<=szC s.Set.Tiles.length (Qcj s.Set.Glues l):=by
  simp only[Qds] at hs;split at hs<;>omega
 have e:Qds s.Set.Tiles (Qcj s.Set.Glues l)=Qdz Qcn s.Set.Tiles (szC s.Set.Tiles.length (Qcj s.Set.Glues l)):=by
  simp only[Qds];rw[Zai (by omega)]
 rw[e] at hs;obtain⟨b1,_,_⟩:=Qn3 hgc;obtain⟨d1,d2,_⟩:=Qn3 htc
 have:=Qaeb s.Set.Tiles _ htc hs
 exact⟨by omega,by omega,by omega,by omega⟩
theorem sd_mem{a:List Tile}{x:Tile}(h:x∈a):x.Sides.length<=Qaer a:=by
 induction a with
 |nil=>cases h
 |cons y r ih=>
  simp only[Qaer,Zal,Zcc] at ih⊢;rcases Zas.1 h with rfl|h
  .omega
  .have:=ih h;omega
theorem SysB.yx{s:Qar}(h:SysB s):toYX.pre s:=⟨⟨by have:=h.g;omega,⟨h.t,fun x hx=>by have:=sd_mem hx;have:=h.d;omega⟩⟩,by have:=h.p;omega⟩
theorem SysB.syK{s:Qar}(h:SysB s){k:Int}(hk:0<=k)(hk2:k<=1048576):0<=syK (s,k)/\Go.Ae.syK (s,k)+3*s.Seed.Tiles.length<=9437184:=by
 simp only[Go.Ae.syK,tlK_sum,tsK]
 have:=h.g;have:=h.t;have:=h.d;have:=h.p
 omega
theorem SysB.mkp{s:Qar}(h:SysB s){k:Int}(hk:0<=k)(hk2:k<=1048576):mkSy.pre (s,k):=⟨hk,h.t,by have:=(h.syK hk hk2).2;simp only;omega⟩
structure Qad1(h:Nat->Option Ent)(g t p f:Nat)(s:Qar):Prop where
 g:h g=some (true,.arr 263 2 (s.Set.Glues.map Glue.c))
 t:h t=some (true,.arrA 247 2 (tlB f s.Set.Tiles))
 p:h p=some (true,.arr 187 3 (s.Seed.Tiles.map Qab.c))
 f: ∀i,i<s.Set.Tiles.length->h (f+i)=some (tlF s.Set.Tiles i)
theorem tiles_bk{h:Nat->Option Ent}{n f:Nat}{a:List Tile}(hf: ∀i,i<a.length->h (f+i)=some (tlF a i)):mapO (mapO (bk h (n+1))) (tlB f a)=some (a.map Tile.c):=by
 have e:a.map Tile.c=(List.range a.length).map fun i=>((a[i]?.map Tile.c).getD []):=by
  apply ZbV;intro i;rw[ZaK,ZaK];by_cases hi:i<a.length
  .rw[Zbj hi,Zad hi];simp[hi]
  .rw[ZaT (by omega),ZaT (by simp;omega)];rfl
 rw[e];refine Qnl _ fun i hi=> ?_
 have hi:=Zat.1 hi;have hx:a[i]? =some a[i]:=Zad hi;simp only[mapO,bk,hf i hi,tlF,Qwz,hx,ZaR,Zae,Tile.c]
theorem Qad1.bk{h:Nat->Option Ent}{g t p f n:Nat}{s:Qar}(hs:Qad1 h g t p f s):Go.Ae.bk h (n+3) (.agg [.own g,.own t,.own p,.im (.int .i64 s.Temperature)])=some (.agg (Qar.c s)):=by
 simp only[Go.Ae.bk,mapO,hs.g,hs.t,hs.p,Qwz,tiles_bk hs.f,ZaR,Qar.c]
theorem Qad1.pk{h:Nat->Option Ent}{g t p f:Nat}{s:Qar}(hs:Qad1 h g t p f s):pkF h (.agg [.own g,.own t,.own p,.im (.int .i64 s.Temperature)])=some (.val (.agg (Qar.c s))):=by
 simp only[pkF,hs.bk (n:=6),pkFV,ZaR]
theorem vN.call{A:Type}{ar:List PK->Option A}{pre:A->Prop}{re:A->D}{args:List AV}{tm:List (Nat×AV)}{h:Qan}{nx:Nat}{dst:Option Nat}{go:Qad->Prop}(ps:List PK)(hps:pkL (hget h) args=some (ps,[]))(a:A)(ha:ar ps=some a)(hpre:pre a)
 (hgo:go ((⟨tm,h,nx⟩:Qad).put dst (.im (re a)))):vrow ar pre re args (hget h) nx (kont go ⟨tm,h,nx⟩ dst):=by
 unfold vrow;rw[hps];simp only[Qa1,ha,decK,frE];refine⟨hpre,?_,?_⟩
 .rw[Eff.ok_nr];simp[AV.bel,belH,Qpx]
 .rw[Qad.app_nr,Qba,Zcw];exact hgo
theorem sysR1(s:Qar):a1 (kR Qar.d) [.val (.agg (Qar.c s))]=some s:=by simp only[a1,kR,Qar.d_c,Zbk]
theorem sys2R(s t:Qar):a2 (kR Qar.d) (kR Qar.d) [.val (.agg (Qar.c s)),.val (.agg (Qar.c t))]=some (s,t):=by simp only[a2,kR,Qar.d_c,Zbk]
def toYR.row:Row:=orR toSystem.row toYX.row
theorem toYR.ok:Qas Tryz.prog 13 toYR.row:=Qakf toSystem.ok toYX.ok
theorem yx_cl{s:Qar}(hs:SysB s): ∀p∈toYX.H1 s,p.1<2000013/\ ∀m∈p.2.2.nms,m<2000013:=by
 have hm:min s.Set.Tiles.length 1048576<=1048576:=ZcW _ _;have ht:=hs.t;intro p hp;simp only[toYX.H1,Zas,famH,Zav,Zat] at hp;rcases hp with rfl|rfl|rfl|⟨i,hi,rfl⟩
 .exact⟨by omega,by simp[AObj.nms]⟩
 .refine⟨by omega,fun m hm=> ?_⟩;simp only[AObj.nms] at hm;obtain⟨r,hr,hm⟩:=Qadc.1 hm;obtain⟨j,hj,rfl⟩:=Zav.1 hr
  have:=Zat.1 hj
  simp[nmsL,AV.nms] at hm;omega
 .exact⟨by omega,by simp[AObj.nms]⟩
 .exact⟨by simp only;omega,by simp[tlF,AObj.nms]⟩
theorem Qad1.mono{h h':Nat->Option Ent}{g t p f:Nat}{s:Qar}(hs:Qad1 h g t p f s)(hh: ∀m,(m=g\/m=t\/m=p\/(f<=m/\m<f+s.Set.Tiles.length))->h' m=h m):Qad1 h' g t p f s:=
 ⟨by rw[hh g (.inl rfl)];exact hs.g,by rw[hh t (.inr (.inl rfl))];exact hs.t,by rw[hh p (.inr (.inr (.inl rfl)))];exact hs.p,fun i hi=>by rw[hh _ (.inr (.inr (.inr ⟨by omega,by omega⟩)))];exact hs.f i hi⟩
theorem yx_at{s:Qar}(hs:SysB s){nx:Nat}{HH:Qan}(h: ∀j e,hget (toYX.H1 s) j=some e->hget HH (nx+j)=some (e.1,e.2.ren fun j=>nx+j)):Qad1 (hget HH) (nx+7) (nx+9) (nx+2000012) (nx+10) s:=by
 have ht:=hs.t;have hm:min s.Set.Tiles.length 1048576=s.Set.Tiles.length:=by omega
 refine⟨h 7 _ rfl,?_,h 2000012 _ rfl,fun i hi=> ?_⟩
 .rw[h 9 _ rfl];simp only[AObj.ren];congr 3;simp only[tlB,ZcR];refine ZbL fun i hi=> ?_
  simp only[Function.comp,renL,AV.ren];rw[Zct]
 .have e:hget (toYX.H1 s) (10+i)=some (tlF s.Set.Tiles i):=by
   simp only[toYX.H1,hget,Qao _ _ (show 7≠10+i by omega),Qao _ _ (show 9≠10+i by omega),Qao _ _ (show 2000012≠10+i by omega),ZaL];rw[hm];exact Qcy _ _ _ _ hi
  rw[Zct,h _ _ e];rfl
theorem Qafq{H:Qan}(e:Ent)(k m:Nat)(h:k≠m):hget ((k,e)::hdel H [k]) m=hget H m:=by
 simp only[hget,Qao _ _ h,ZaL];exact Qce _ _ _ h
theorem pk2{h:Nat->Option Ent}{x y:AV}{p q:PK}(hx:pkF h x=some p)(hy:pkF h y=some q):pkFL h [x,y]=some [p,q]:=by simp only[pkFL,hx,hy,Qabo]
theorem Qaes: ∀l:List Nat,Ql9 l []=true
 |[]=>rfl
 |x::r=>by simp[Ql9,Qaes r]
def Qaey:List Fp->Bool
 |[]=>true
 |f::r=>f.touch.isEmpty && Qaey r
theorem Qadq(cl:List (List Nat))(i:Nat)(use:List Nat): ∀acc:List Fp,Qaey acc=true->Qabz cl i use [] [] acc=true
 |[],_=>rfl
 |f::r,h=>by
  simp only[Qaey,Zaf,List.isEmpty_iff] at h;simp only[Qabz,ckP,h.1,ZaP,Qaes,Ql9,outN,Zdj,ZaY,Qadq cl i use r h.2]
theorem vN.callA{A:Type}{ar:List PK->Option A}{pre:A->Prop}{re:A->D}{args:List AV}{tm:List (Nat×AV)}{h:Qan}{nx:Nat}{dst:Option Nat}{go:AGo}{cl:List (List Nat)}{i:Nat}{acc:List Fp}(ps:List PK)(hps:pkL (hget h) args=some (ps,[]))(a:A)(ha:ar ps=some a)(hpre:pre a)(hq:Qaey acc=true)
 (hgo: ∀u,go (⟨i,u,[],nx,0⟩::acc) ((⟨tm,h,nx⟩:Qad).put dst (.im (re a)))):vrow ar pre re args (hget h) nx (Qak5 cl i acc go ⟨tm,h,nx⟩ dst):=by
 unfold vrow;rw[hps];simp only[Qa1,ha,decK,frE];refine⟨hpre,?_,?_,?_⟩
 .rw[Eff.ok_nr];simp[AV.bel,belH,Qpx]
 .exact Qadq _ _ _ _ hq
 .rw[Qad.app_nr,Qba,Zcw];exact hgo _
theorem vF.callA{A:Type}{ar:List PK->Option A}{pre:A->Prop}{re:A->D}{args:List AV}{tm:List (Nat×AV)}{h:Qan}{nx:Nat}{dst:Option Nat}{go:AGo}{cl:List (List Nat)}{i:Nat}{acc:List Fp}(ps:List PK)(hps:pkFL (hget h) args=some ps)(a:A)(ha:ar ps=some a)(hpre:pre a)(hq:Qaey acc=true)
 (hgo: ∀u,go (⟨i,u,[],nx,0⟩::acc) ((⟨tm,h,nx⟩:Qad).put dst (.im (re a)))):Qfi ar pre re args (hget h) nx (Qak5 cl i acc go ⟨tm,h,nx⟩ dst):=by
 unfold Qfi;rw[hps];simp only[Qct,ha,decK];refine⟨hpre,?_,?_,?_⟩
 .rw[Eff.ok_nr];simp[AV.bel,belH,Qpx]
 .exact Qadq _ _ _ _ hq
 .rw[Qad.app_nr,Qba,Zcw];exact hgo _
theorem Qagl{N nx:Nat}{tm:List (Nat×AV)}{h:Qan}{dst:Option Nat}{go:Qad->Prop}{s:Qar}{k:Int}(hB:SysB s)(hk:0<=k)(hk2:k<=1048576)(hS:Qad1 (hget h) (N+7) (N+9) (N+2000012) (N+10) s)(hnx:N+2000013<=nx)
 (hgo: ∀HH:Qan,(∀m,m<N+7\/N+2000013<=m->hget HH m=hget h m)->go ((⟨tm,HH,nx⟩:Qad).put dst (.im (.int .i64 (syK (s,k)+3*s.Seed.Tiles.length))))):
 mkSy.row [.agg [.own (N+7),.own (N+9),.own (N+2000012),.im (.int .i64 s.Temperature)],.im (.int .i64 k)] (hget h) nx (kont go ⟨tm,h,nx⟩ dst):=by
 have ht:=hB.t;have hn:=Qad0 s.Set.Tiles;have hnt:nT s.Set.Tiles=s.Set.Tiles.length:=by simp only[nT];omega
 obtain⟨τ,hτ⟩: ∃τ:Nat->Nat,τ=fun j=>if j=2000000 then N+2000012 else if j=0 then N+7 else N+8+j:=⟨_,rfl⟩
 have t0:τ 0=N+7:=by rw[hτ];rfl
 have t1:τ 1=N+9:=by rw[hτ];rfl
 have t2: ∀j,j<1048576->τ (2+j)=N+10+j:=fun j hj=>by rw[hτ];simp only;rw[Zai (by omega),Zai (by omega)];omega
 have tp:τ 2000000=N+2000012:=by rw[hτ];exact Zao rfl
 have hσ: ∀j,j<2000001->sgx τ 2000001 nx j=τ j:=fun j hj=>Zao hj
 have d0: ∀j,domB (mkSy.H0 (s,k)) j=true->j=2000000\/j<2+s.Set.Tiles.length:=fun j hj=>by
  have:=(mkSy.dom0 _ _).1 hj
  simp only[hnt] at this;exact this
 have rg: ∀j,domB (mkSy.H0 (s,k)) j=true->N+7<=τ j/\τ j<N+2000013:=fun j hj=>by
  rcases d0 j hj with rfl|hj
  .rw[tp];omega
  .rw[hτ];simp only;rw[Zai (by omega)]
   split<;>omega
 refine orow.tau (s,k) τ (hB.mkp hk hk2) (fun _ _=>rfl) (fun j hj=> ?_) (fun i j hi hj h=> ?_) (mkSy.hcl _) ⟨?_,?_⟩ (by simp[mkSy.r0,AV.nms]) (fun HH _ hH2=> ?_)
 .have h1:=d0 j hj;have h2:=rg j hj;omega
 .have h1:=d0 i hi;have h2:=d0 j hj;have tv: ∀j,(j=2000000/\τ j=N+2000012)\/(j=0/\τ j=N+7)\/(j≠2000000/\j≠0/\τ j=N+8+j):=fun j=>by
   rw[hτ];simp only;split
   .exact .inl ⟨by assumption,rfl⟩
   split
   .exact .inr (.inl ⟨by assumption,rfl⟩)
   .exact .inr (.inr ⟨by assumption,by assumption,rfl⟩)
  have v1:=tv i;have v2:=tv j;omega
 .simp only[mkSy.ca,renL,AV.ren,hσ 0 (by omega),hσ 1 (by omega),hσ 2000000 (by omega),t0,t1,tp]
 .simp only[mkSy.H0,mkTS.H0,syH,Qer,hσ 0 (by omega),hσ 1 (by omega),hσ 2000000 (by omega),t0,t1,tp,AObj.ren];refine⟨hS.p,hS.g,?_,Qadx fun i hi=> ?_⟩
  .rw[hS.t];congr 3;simp only[tlB,tlMR,ZcR,hnt];refine ZbL fun i hi=> ?_
   have hi:=Zat.1 hi;simp only[Function.comp,tlM,Zdo,ZbA,tlA,renL,AV.ren];rw[hσ _ (by omega),t2 i (by omega)]
  .rw[hnt] at hi;rw[hσ _ (by omega),t2 i (by omega),hS.f i hi];rfl
 exact hgo HH fun m hm=>hH2 m fun j hj=>by have:=rg j hj;omega
theorem mkOC.d0(a:List Opt×Int)(j:Nat)(hj:domB (mkOC.H0 a) j=true):j=0:=by
 simp only[domB,mkOC.H0,hget] at hj;by_cases h:j=0
 .exact h
 .rw[Qao _ _ (fun q=>h q.symm)] at hj;cases hj
def eqSSF.ar:List PK->Option ((List (List Int))×(List (List Int))):=a2 (kS Qpb) (kS Qpb)
def eqSSF.ae(a:(List (List Int))×(List (List Int))):List PK:=[.val (.sl false 1 (a.1.map Qcd)),.val (.sl false 1 (a.2.map Qcd))]
def eqSSF.fv(a:(List (List Int))×(List (List Int))):Bool:=(fun a b=>decide (a=b)) (a.1) (a.2)
def eqSSF.row:Row:=Qfi eqSSF.ar (fun a=>True) (fun a=>(D.bool) (eqSSF.fv a))
def eqSSF.q:=vqF eqSSF.row rfl
def Ybf:=J @eqSSF.ae.eq_1<|J @eqSSF.fv.eq_1<|J @eqInt64S.q<|J @eqInt64S.ar.eq_1 @eqInt64S.fv.eq_1
theorem eqSSF.ok:Qas Tryz.prog 65 eqSSF.row:=by
 refine Qbn Qaq (tC eqInt64S.ok tN) Tryz.func65 rfl (by kernel_rfl) (by kernel_rfl) (ar:=eqSSF.ar) (ae:=eqSSF.ae) (Qaca (Qacb 1 Qj4 (fun _=>rfl)) (Qacb 1 Qj4 (fun _=>rfl))) (n:=2) (fun _=>rfl) (by decide) (rc:=(Qa8)) (re:=(D.bool)) (Qat) (f:=eqSSF.fv) ?_;intro a hpre;simp only[Tryz.f65,Option.getD];simp(maxSteps:=9^9)(disch:=omega)only[ZZ,simprocAttr,rch,Ybf,ORC,D.sc,D.scs,scL,decD];intro h1 h2;simp only[Qal];refine⟨fun hl=> ?_,fun hl=> ?_⟩
 .have:a.1≠a.2:=fun h=>hl (by rw[h])
  simp[this]
 have hl:a.1.length=a.2.length:=by omega
 refine Qay.old ⟨{k:Nat//k<=a.1.length/\a.1.take k=a.2.take k},fun k=>⟨[(5,.im (.int .i64 k.1)),(4,.im (.bool false)),(0,.im (.sl false 1 (a.1.map Qcd))),(1,.im (.sl false 1 (a.2.map Qcd)))],[],0⟩,fun k=>a.1.length - k.1,fun k=>⟨by simp[Qad.good,belT,belH,Qam,AV.bel,belL],Zak _⟩,⟨⟨0,by simp⟩,by simp(maxSteps:=9^9)(disch:=omega)only[ZZ,simprocAttr,rch,Ybf,ORC,D.sc,D.scs,scL,decD,sub]⟩,fun k=> ?_⟩;obtain⟨k,hk1,hk2⟩:=k;simp(maxSteps:=9^9)(disch:=omega)only[ZZ,simprocAttr,rch,Ybf,ORC,D.sc,D.scs,scL,decD,sub,Qal];intro _;refine⟨fun hk=>⟨hk,fun x hx=>⟨by omega,fun y hy=> ?_⟩⟩,fun hk=> ?_⟩
 .obtain⟨g1,g2⟩:=Qew hl hk1 hk2 hx hy;exact⟨fun h=>by simp[g2 (show x≠y from h)],fun h=>Qb6 hk h1 ⟨by omega,g1 (show x=y from ZaZ.1 h)⟩⟩
 .rw[ZaD (by omega),ZaD (by omega)] at hk2;simp[hk2]
def totI(M:List (List Int)):Nat:=(M.map List.length).sum
def Qaf8:List (List Int)->Int->Int
 |[],k=>k
 |x::r,k=>if Qagb x k<0 then -1 else Qaf8 r (Qagb x k)
theorem heldI_or(x:List Int)(k:Int):Qagb x k=k+x.length\/Qagb x k= -1:=by
 simp only[Qagb];split
 .exact .inl rfl
 .exact .inr rfl
def heldSS.ar:List PK->Option ((List (List Int))×Int):=a2 (kS Qpb) kI
def heldSS.ae(a:(List (List Int))×Int):List PK:=[.val (.sl false 1 (a.1.map Qcd)),.val (.int .i64 a.2)]
def heldSS.fv(a:(List (List Int))×Int):Int:=(Qaf8) (a.1) (a.2)
def heldSS.row:Row:=Qfi heldSS.ar (fun a=>0<=a.2/\a.2+totI a.1<=1099511627776) (fun a=>(D.int .i64) (heldSS.fv a))
def heldSS.q:=vqF heldSS.row rfl
def Ybg:=J @heldSS.ae.eq_1<|J @heldSS.fv.eq_1<|J @heldIS.q<|J @heldIS.ar.eq_1 @heldIS.fv.eq_1
theorem heldSS.ok:Qas Tryz.prog 75 heldSS.row:=by
 refine Qbn Qaq (tC heldIS.ok tN) Tryz.func75 rfl (by kernel_rfl) (by kernel_rfl) (ar:=heldSS.ar) (ae:=heldSS.ae) (Qaca (Qacb 1 Qj4 (fun _=>rfl)) Qab9) (n:=2) (fun _=>rfl) (by decide) (rc:=(vInt)) (re:=(D.int .i64)) (Qa3) (f:=heldSS.fv) ?_;intro a hpre;simp only[Tryz.f75,Option.getD];simp(maxSteps:=9^9)(disch:=omega)only[ZZ,simprocAttr,rch,Ybg,ORC,D.sc,D.scs,scL,decD];obtain⟨M,k⟩:=a;simp only at hpre⊢;obtain⟨h1,h2⟩:=hpre;refine Qay.old ⟨{i:Nat×Int//i.1<=M.length/\Qaf8 M k=Qaf8 (M.drop i.1) i.2/\0<=i.2/\i.2+totI (M.drop i.1)<=1099511627776},fun i=>⟨[(5,.im (.int .i64 i.1.1)),(4,.im (.int .i64 0)),(1,.im (.int .i64 i.1.2)),(0,.im (.sl false 1 (M.map Qcd)))],[],0⟩,fun i=>M.length - i.1.1,fun i=>⟨by simp[Qad.good,belT,belH,Qam,AV.bel,belL],by simp⟩,⟨⟨(0,k),by simp only[ZbK];exact⟨Zbh _,trivial,h1,h2⟩⟩,by simp(maxSteps:=9^9)(disch:=omega)only[ZZ,simprocAttr,rch,Ybg,ORC,D.sc,D.scs,scL,decD,sub]⟩,fun i=> ?_⟩;obtain⟨⟨i,q⟩,hi1,hi2,hi3,hi4⟩:=i;simp only at hi1 hi2 hi3 hi4;simp(maxSteps:=9^9)(disch:=omega)only[ZZ,simprocAttr,rch,Ybg,ORC,D.sc,D.scs,scL,decD,sub,Qal];intro _;refine⟨fun hi=>⟨hi,fun x hx=> ?_⟩,fun hi=> ?_⟩
 .rw[Qd3 hx] at hi2 hi4;have ht:totI (x::M.drop (i+1))=x.length+totI (M.drop (i+1)):=rfl;rw[ht] at hi4;refine⟨⟨hi3,by omega⟩,fun c=> ?_,fun c=>⟨⟨(i+1,Qagb x q),?_⟩,by simp only;omega,by rw[Qak (by omega) (by omega)];simp only;omega,rfl⟩⟩
  .rw[hi2,Qaf8,Zao c]
  .rcases heldI_or x q with e|e
   .simp only;refine⟨by omega,?_,by omega,by omega⟩;rw[hi2,Qaf8,Zai c]
   .omega
 .rw[Zaw (by omega),Qaf8] at hi2;exact hi2.symm
structure NnAt(h:Nat->Option Ent)(o b:Nat)(M:List (List Int)):Prop where
 r:h o=some (true,.arrA 34 1 (Qch b M.length))
 f: ∀i,i<M.length->h (b+i)=some (true,.arr 2 1 ((M[i]?.getD []).map intC))
theorem NnAt.mono{h h':Nat->Option Ent}{o b:Nat}{M:List (List Int)}(hs:NnAt h o b M)(hh: ∀m,(m=o\/(b<=m/\m<b+M.length))->h' m=h m):NnAt h' o b M:=
 ⟨by rw[hh o (.inl rfl)];exact hs.r,fun i hi=>by rw[hh _ (.inr ⟨by omega,by omega⟩)];exact hs.f i hi⟩
theorem NnAt.pk{h:Nat->Option Ent}{o b:Nat}{M:List (List Int)}(hs:NnAt h o b M):pkF h (.own o)=some (.val (.sl false 1 (M.map Qcd))):=by
 have e:mapO (mapO (bk h 8)) (Qch b M.length)=some (M.map Qcd):=by
  have e2:M.map Qcd=(List.range M.length).map fun i=>Qcd (M[i]?.getD []):=by
   apply ZbV;intro i;rw[ZaK,ZaK];by_cases hi:i<M.length
   .rw[Zbj hi,Zad hi];simp[hi]
   .rw[ZaT (by omega),ZaT (by simp;omega)];rfl
  rw[e2];refine Qnl _ fun i hi=> ?_
  have hi:=Zat.1 hi;simp only[mapO,bk,hs.f i hi,Qwz,Qcd]
 simp only[pkF,bk,hs.r,Qwz,e,ZaR,pkFV]
theorem wrE_len{A:Type}(f:Nat->A)(n:Nat):(wrE f n).length=n:=by simp[wrE]
def Qahw(l:List Opt)(k:Int):Int:=if l=wrE (oF k) l.length then k+3*l.length else -1
theorem heldO_mk(k:Int)(n:Nat):Qahw (wrE (oF k) n) k=k+3*n:=by
 simp only[Qahw,wrE_len,Zbg]
theorem wrE_snoc{A:Type}(f:Nat->A)(n:Nat):wrE f (n+1)=wrE f n++[f n]:=by simp[wrE,Zdn]
theorem wrE_get{A:Type}{f:Nat->A}{n i:Nat}(h:i<n):(wrE f n)[i]? =some (f i):=by simp only[wrE,ZaK];rw[Zbj h];rfl
def heldO_.ar:List PK->Option ((List Opt)×Int):=a2 (kS Opt.d) kI
def heldO_.ae(a:(List Opt)×Int):List PK:=[.val (.sl false 3 (a.1.map Opt.c)),.val (.int .i64 a.2)]
def heldO_.fv(a:(List Opt)×Int):Int:=(Qahw) (a.1) (a.2)
def heldO_.row:Row:=Qfi heldO_.ar (fun a=>0<=a.2/\a.2+3*a.1.length<=1099511627776) (fun a=>(D.int .i64) (heldO_.fv a))
def heldO_.q:=vqF heldO_.row rfl
theorem heldO_.ok:Qas Tryz.prog 73 heldO_.row:=by
 refine Qbn Qaq tN Tryz.func73 rfl (by kernel_rfl) (by kernel_rfl) (ar:=heldO_.ar) (ae:=heldO_.ae) (Qaca (Qacb 3 Opt.d_le (fun _=>rfl)) Qab9) (n:=2) (fun _=>rfl) (by decide) (rc:=(vInt)) (re:=(D.int .i64)) (Qa3) (f:=heldO_.fv) ?_;intro a hpre;simp only[Tryz.f73,Option.getD];simp(maxSteps:=9^9)(disch:=omega)only[ZZ,simprocAttr,rch,heldO_.ae,heldO_.fv,ORC,D.sc,D.scs,scL,decD];obtain⟨l,k⟩:=a;simp only at hpre⊢;obtain⟨h1,h2⟩:=hpre;refine Qay.old ⟨{i:Nat//i<=l.length/\l.take i=wrE (oF k) i},fun i=>⟨[(5,.im (.int .i64 i.1)),(4,.im (.int .i64 0)),(1,.im (.int .i64 (k+3*i.1))),(0,.im (.sl false 3 (l.map Opt.c)))],[],0⟩,fun i=>l.length - i.1,fun i=>⟨by simp[Qad.good,belT,belH,Qam,AV.bel,belL],by simp⟩,⟨⟨0,by simp[wrE]⟩,by simp(maxSteps:=9^9)(disch:=omega)only[ZZ,simprocAttr,rch,heldO_.ae,heldO_.fv,ORC,D.sc,D.scs,scL,decD,sub];simp⟩,fun i=> ?_⟩;obtain⟨i,hi1,hi2⟩:=i;simp(maxSteps:=9^9)(disch:=omega)only[ZZ,simprocAttr,rch,heldO_.ae,heldO_.fv,ORC,D.sc,D.scs,scL,decD,sub,Qal];intro _;have w1:IntKind.i64.wrap (k+3*(i:Int)+1)=k+3*(i:Int)+1\/ ¬i<l.length:=by
  by_cases c:i<l.length
  .exact .inl (Qak (by omega) (by omega))
  .exact .inr c
 refine⟨fun hi=>⟨hi,fun x hx=> ?_⟩,fun hi=> ?_⟩
 .have w1:IntKind.i64.wrap (k+3*(i:Int)+1)=k+3*(i:Int)+1:=Qak (by omega) (by omega);have w2:IntKind.i64.wrap (k+3*(i:Int)+1+1)=k+3*(i:Int)+2:=(Qak (by omega) (by omega)).trans (by omega);have w3:IntKind.i64.wrap (k+3*(i:Int)+2+1)=k+3*((i+1:Nat):Int):=(Qak (by omega) (by omega)).trans (by omega);simp only[w1,w2,w3];have hne:x≠oF k i-> -1=Qahw l k:=fun c=>by
   simp only[Qahw];rw[Zai fun h=> ?_];rw[h,wrE_get hi] at hx;exact c (Zaa hx).symm
  refine⟨fun c=>hne fun h=>c (by rw[h];rfl),fun c1=>⟨hi,fun y hy=> ?_⟩⟩;obtain rfl:x=y:=Zaa (hx.symm.trans hy);refine⟨fun c=>hne fun h=>c (by rw[h];rfl),fun c2=>⟨hi,fun y hy=> ?_⟩⟩;obtain rfl:x=y:=Zaa (hx.symm.trans hy);refine⟨fun c=>hne fun h=>c (by rw[h];rfl),fun c3=>⟨⟨i+1,by omega,?_⟩,by simp only;omega,by rw[Qak (by omega) (by omega)];simp only;omega,rfl⟩⟩;have e:x=oF k i:=by
   obtain⟨⟨u,v⟩,t⟩:=x;simp only[ZaZ] at c1 c2 c3;simp only[oF,c1,c2,c3]
  rw[Qwe hx,hi2,wrE_snoc,e]
 .have hil:i=l.length:=by omega
  subst hil;rw[ZbT] at hi2;simp only[Qahw];rw[Zao hi2]
def totO(M:List (List Opt)):Nat:=(M.map List.length).sum
theorem heldO_or(x:List Opt)(k:Int):Qahw x k=k+3*x.length\/Qahw x k= -1:=by
 simp only[Qahw];split
 .exact .inl rfl
 .exact .inr rfl
def mkOO.pre(a:List (List Opt)×Int):Prop:=a.1.length<=1048576/\0<=a.2/\a.2+3*totO a.1<=1099511627776
def eqPfF.ar:List PK->Option (Qajo×Qajo):=a2 (kR Qajo.d) (kR Qajo.d)
def eqPfF.ae(a:Qajo×Qajo):List PK:=[.val (.agg (Qajo.c a.1)),.val (.agg (Qajo.c a.2))]
def eqPfF.fv(a:Qajo×Qajo):Bool:=(fun a b=>decide (a=b)) (a.1) (a.2)
def eqPfF.row:Row:=Qfi eqPfF.ar (fun a=>True) (fun a=>(D.bool) (eqPfF.fv a))
theorem eqPfF.ok:Qas Tryz.prog 16 eqPfF.row:=by
 refine Qbn Qaq (tC eqOptionS.ok (tC eqInt64S.ok (tC eqSSF.ok tN))) Tryz.func16 rfl (by kernel_rfl) (by kernel_rfl) (ar:=eqPfF.ar) (ae:=eqPfF.ae) (Qaca (Qab8 Qajo.d_le) (Qab8 Qajo.d_le)) (n:=2) (fun _=>rfl) (by decide) (rc:=(Qa8)) (re:=(D.bool)) (Qat) (f:=eqPfF.fv) ?_;intro a hpre;simp only[Tryz.f16,Option.getD];simp(maxSteps:=9^9)(disch:=omega)only[ZZ,simprocAttr,rch,eqPfF.ae,eqPfF.fv,eqOptionS.q,eqOptionS.ar,eqOptionS.fv,eqInt64S.q,eqInt64S.ar,eqInt64S.fv,eqSSF.q,eqSSF.ar,eqSSF.fv,ORC,D.sc,D.scs,scL,decD];obtain⟨⟨k,x,y,z,w⟩,⟨k',x',y',z',w'⟩⟩:=a;simp only[Qajo.mk.injEq]
 grind
def eqAsmF.ar:List PK->Option (Asm×Asm):=a2 (kR Asm.d) (kR Asm.d)
def eqAsmF.ae(a:Asm×Asm):List PK:=[.val (.agg (Asm.c a.1)),.val (.agg (Asm.c a.2))]
def eqAsmF.fv(a:Asm×Asm):Bool:=(fun a b=>decide (a=b)) (a.1) (a.2)
def eqAsmF.row:Row:=Qfi eqAsmF.ar (fun a=>True) (fun a=>(D.bool) (eqAsmF.fv a))
theorem eqAsmF.ok:Qas Tryz.prog 18 eqAsmF.row:=by
 refine Qbn Qaq (tC eqPlacedS.ok tN) Tryz.func18 rfl (by kernel_rfl) (by kernel_rfl) (ar:=eqAsmF.ar) (ae:=eqAsmF.ae) (Qaca (Qab8 Asm.d_le) (Qab8 Asm.d_le)) (n:=2) (fun _=>rfl) (by decide) (rc:=(Qa8)) (re:=(D.bool)) (Qat) (f:=eqAsmF.fv) ?_;intro a hpre;simp only[Tryz.f18,Option.getD];simp(maxSteps:=9^9)(disch:=omega)only[ZZ,simprocAttr,rch,eqAsmF.ae,eqAsmF.fv,eqPlacedS.q,eqPlacedS.ar,eqPlacedS.fv,ORC,D.sc,D.scs,scL,decD];obtain⟨⟨x⟩,⟨y⟩⟩:=a;simp only[Asm.mk.injEq]
 grind
def mkO0.ar:List PK->Option ((List Opt)×Int):=a2 (kS Opt.d) kI
def mkO0.ae(a:(List Opt)×Int):List PK:=[.val (.sl false 3 (a.1.map Opt.c)),.val (.int .i64 a.2)]
def mkO0.fv(a:(List Opt)×Int):Int:=(fun _ k=>k) (a.1) (a.2)
def mkO0.row:Row:=vrow mkO0.ar (fun a=>a.1=[]) (fun a=>(D.int .i64) (mkO0.fv a))
def mkO0.q:=vq mkO0.row rfl
theorem mkO0.ok:Qas Tryz.prog 70 mkO0.row:=by
 refine Qaj Qaq tN Tryz.func70 rfl (by kernel_rfl) (by kernel_rfl) (ar:=mkO0.ar) (ae:=mkO0.ae) (Qaca (Qacb 3 Opt.d_le (fun _=>rfl)) Qab9) (n:=2) (fun _=>rfl) (by decide) (rc:=(vInt)) (re:=(D.int .i64)) (Qa3) (f:=mkO0.fv) ?_;intro a hpre;simp only[Tryz.f70,Option.getD];simp(maxSteps:=9^9)(disch:=omega)only[ZZ,simprocAttr,rch,mkO0.ae,mkO0.fv];obtain⟨l,k⟩:=a;simp only at hpre⊢;subst hpre;refine Qay.old ⟨Unit,fun _=>⟨[(5,.im (.int .i64 0)),(4,.im (.int .i64 0)),(1,.im (.int .i64 k)),(0,.im (.sl false 3 []))],[],0⟩,fun _=>0,fun _=>⟨by simp[Qad.good,belT,belH,Qam,AV.bel,belL],by simp⟩,⟨(),by simp(maxSteps:=9^9)(disch:=omega)only[ZZ,simprocAttr,rch,mkO0.ae,mkO0.fv,sub,ZaM]⟩,fun _=> ?_⟩;simp(maxSteps:=9^9)(disch:=omega)only[ZZ,simprocAttr,rch,mkO0.ae,mkO0.fv,sub,ZaM]
 try simp
def mkI0.ar:List PK->Option ((List Int)×Int):=a2 (kS intD) kI
def mkI0.ae(a:(List Int)×Int):List PK:=[.val (.sl false 1 (a.1.map intC)),.val (.int .i64 a.2)]
def mkI0.fv(a:(List Int)×Int):Int:=(fun _ k=>k) (a.1) (a.2)
def mkI0.row:Row:=vrow mkI0.ar (fun a=>a.1=[]) (fun a=>(D.int .i64) (mkI0.fv a))
def mkI0.q:=vq mkI0.row rfl
theorem mkI0.ok:Qas Tryz.prog 71 mkI0.row:=by
 refine Qaj Qaq tN Tryz.func71 rfl (by kernel_rfl) (by kernel_rfl) (ar:=mkI0.ar) (ae:=mkI0.ae) (Qaca (Qacb 1 Qb3 (fun _=>rfl)) Qab9) (n:=2) (fun _=>rfl) (by decide) (rc:=(vInt)) (re:=(D.int .i64)) (Qa3) (f:=mkI0.fv) ?_;intro a hpre;simp only[Tryz.f71,Option.getD];simp(maxSteps:=9^9)(disch:=omega)only[ZZ,simprocAttr,rch,mkI0.ae,mkI0.fv];obtain⟨l,k⟩:=a;simp only at hpre⊢;subst hpre;refine Qay.old ⟨Unit,fun _=>⟨[(5,.im (.int .i64 0)),(4,.im (.int .i64 0)),(1,.im (.int .i64 k)),(0,.im (.sl false 1 []))],[],0⟩,fun _=>0,fun _=>⟨by simp[Qad.good,belT,belH,Qam,AV.bel,belL],by simp⟩,⟨(),by simp(maxSteps:=9^9)(disch:=omega)only[ZZ,simprocAttr,rch,mkI0.ae,mkI0.fv,sub,ZaM]⟩,fun _=> ?_⟩;simp(maxSteps:=9^9)(disch:=omega)only[ZZ,simprocAttr,rch,mkI0.ae,mkI0.fv,sub,ZaM]
 try simp
def mkSS0.ar:List PK->Option ((List (List Int))×Int):=a2 (kS Qpb) kI
def mkSS0.ae(a:(List (List Int))×Int):List PK:=[.val (.sl false 1 (a.1.map Qcd)),.val (.int .i64 a.2)]
def mkSS0.fv(a:(List (List Int))×Int):Int:=(fun _ k=>k) (a.1) (a.2)
def mkSS0.row:Row:=vrow mkSS0.ar (fun a=>a.1=[]) (fun a=>(D.int .i64) (mkSS0.fv a))
def mkSS0.q:=vq mkSS0.row rfl
def Ybh:=J @mkSS0.ae.eq_1<|J @mkSS0.fv.eq_1<|J @mkI0.q<|J @mkI0.ar.eq_1 @mkI0.fv.eq_1
theorem mkSS0.ok:Qas Tryz.prog 72 mkSS0.row:=by
 refine Qaj Qaq (tC mkI0.ok tN) Tryz.func72 rfl (by kernel_rfl) (by kernel_rfl) (ar:=mkSS0.ar) (ae:=mkSS0.ae) (Qaca (Qacb 1 Qj4 (fun _=>rfl)) Qab9) (n:=2) (fun _=>rfl) (by decide) (rc:=(vInt)) (re:=(D.int .i64)) (Qa3) (f:=mkSS0.fv) ?_;intro a hpre;simp only[Tryz.f72,Option.getD];simp(maxSteps:=9^9)(disch:=omega)only[ZZ,simprocAttr,rch,Ybh];obtain⟨l,k⟩:=a;simp only at hpre⊢;subst hpre;refine Qay.old ⟨Unit,fun _=>⟨[(5,.im (.int .i64 0)),(4,.im (.int .i64 0)),(1,.im (.int .i64 k)),(0,.im (.sl false 1 []))],[],0⟩,fun _=>0,fun _=>⟨by simp[Qad.good,belT,belH,Qam,AV.bel,belL],by simp⟩,⟨(),by simp(maxSteps:=9^9)(disch:=omega)only[ZZ,simprocAttr,rch,Ybh,sub,ZaM]⟩,fun _=> ?_⟩;simp(maxSteps:=9^9)(disch:=omega)only[ZZ,simprocAttr,rch,Ybh,sub,ZaM]
 try simp
def mkP0.ar:List PK->Option (Qajo×Int):=a2 (kR Qajo.d) kI
def mkP0.ae(a:Qajo×Int):List PK:=[.val (.agg (Qajo.c a.1)),.val (.int .i64 a.2)]
def mkP0.fv(a:Qajo×Int):Int:=(fun _ k=>k) (a.1) (a.2)
def mkP0.row:Row:=vrow mkP0.ar (fun a=>a.1.Sequence=[]/\a.1.Other=[]/\a.1.Part=[]/\a.1.Flows=[]) (fun a=>(D.int .i64) (mkP0.fv a))
theorem mkP0.ok:Qas Tryz.prog 21 mkP0.row:=by
 refine Qaj Qaq (tC mkO0.ok (tC mkI0.ok (tC mkSS0.ok tN))) Tryz.func21 rfl (by kernel_rfl) (by kernel_rfl) (ar:=mkP0.ar) (ae:=mkP0.ae) (Qaca (Qab8 Qajo.d_le) Qab9) (n:=2) (fun _=>rfl) (by decide) (rc:=(vInt)) (re:=(D.int .i64)) (Qa3) (f:=mkP0.fv) ?_;intro a hpre;simp only[Tryz.f21,Option.getD];simp(maxSteps:=9^9)(disch:=omega)only[ZZ,simprocAttr,rch,mkP0.ae,mkP0.fv,mkO0.q,mkO0.ar,mkO0.fv,mkI0.q,mkI0.ar,mkI0.fv,mkSS0.q,mkSS0.ar,mkSS0.fv];exact hpre
def mkOR.row:Row:=orR mkO0.row mkOC.row
theorem mkOR.ok:Qas Tryz.prog 70 mkOR.row:=Qakf mkO0.ok mkOC.ok
def mkPf.ca(a:List Opt×Int):List AV:=[.agg [.im (.int .i64 2),.own 0,.im (.sl true 0 []),.im (.sl true 0 []),.im (.sl true 0 [])],.im (.int .i64 a.2)]
def mkPf.row:Row:=orow mkPf.ca mkOC.H0 1 (fun a=>0<=a.2/\a.2+3*a.1.length<=1099511627776) (fun j=>j==0) (fun a=> .im (.int .i64 (a.2+3*a.1.length))) mkOC.H1 0
def Ybi:=J @mkI0.q<|J @mkI0.ar.eq_1<|J @mkI0.fv.eq_1<|J @mkSS0.q<|J @mkSS0.ar.eq_1 @mkSS0.fv.eq_1
theorem mkPf.ok:Qas Tryz.prog 21 mkPf.row:=by
 refine Qf1 Qaq (tC mkOR.ok (tC mkI0.ok (tC mkSS0.ok tN))) Tryz.func21 rfl (by kernel_rfl) (by kernel_rfl) (exB:=fun _=>false) (R:=fun a r=>r= .im (.int .i64 (a.2+3*a.1.length))) (n:=2) (fun _=>rfl) (by decide)
  (fun a=>by simp[mkPf.ca,mkOC.H0,mkOC.H1,belL,AV.bel]) (fun a=>by simp[mkPf.ca,mkOC.H0,mkOC.H1,belH,belL,AV.bel]) (fun a=>by simp[mkPf.ca,mkOC.H0,mkOC.H1,Qam])
  (fun a=>by simp[Qc2,mkPf.ca,mkOC.H0,mkOC.H1,AObj.nms,nmsL,AV.nms,domB,hget]) (fun a p hp=> ?_) (fun a r h=>by subst h;exact LeV.refl _) ?_
 rotate_left
 intro a hpre;simp only[Tryz.f21,Option.getD,mkPf.ca,mkOC.H0,mkOC.H1];simp(maxSteps:=9^9)(disch:=omega)only[ZZ,simprocAttr,rch,Ybi,ORB,mkPf.ca,mkOC.H0,mkOC.H1];refine .inr (orow.os (a.1,a.2) [0] hpre (fun j=> ?_) rfl rfl ?_ ?_)
 .simp only[domB,mkOC.H0,hget];by_cases hj:j=0
  .subst hj;simp
  .have:(0==j)=false:=by simpa using fun h=>hj h.symm
   rw[this];simp;omega
 .simp(maxSteps:=9^9)(disch:=omega)only[ZZ,simprocAttr,rch,Ybi,ORB,mkPf.ca,mkOC.H0,mkOC.H1,mkOC.ca,mkOC.H0,Qer,ZaN]
  try exact⟨rfl,rfl⟩
 simp(maxSteps:=9^9)(disch:=omega)only[ZZ,simprocAttr,rch,Ybi,ORB,mkPf.ca,mkOC.H0,mkOC.H1,mkOC.H1,sub,ZaN,Zbf];refine .inl (vN.call [.val (.sl true 0 []),.val (.int .i64 (a.2+3*a.1.length))] rfl ([],a.2+3*a.1.length) rfl rfl ?_);simp(maxSteps:=9^9)(disch:=omega)only[ZZ,simprocAttr,rch,Ybi,ORB,mkPf.ca,mkOC.H0,mkOC.H1,sub,Qba,mkO0.fv];simp[mkOC.H1] at hp;subst hp;exact .inl ⟨by omega,rfl,rfl⟩
def heldPf.ar:List PK->Option (Qajo×Int):=a2 (kR Qajo.d) kI
def heldPf.ae(a:Qajo×Int):List PK:=[.val (.agg (Qajo.c a.1)),.val (.int .i64 a.2)]
def heldPf.fv(a:Qajo×Int):Int:=(fun p k=>Qahw p.Sequence k) (a.1) (a.2)
def heldPf.row:Row:=Qfi heldPf.ar (fun a=>0<=a.2/\a.2+3*a.1.Sequence.length<=1099511627776/\a.1.Other=[]/\a.1.Part=[]/\a.1.Flows=[]) (fun a=>(D.int .i64) (heldPf.fv a))
theorem heldPf.ok:Qas Tryz.prog 22 heldPf.row:=by
 refine Qbn Qaq (tC heldO_.ok (tC heldIS.ok (tC heldSS.ok tN))) Tryz.func22 rfl (by kernel_rfl) (by kernel_rfl) (ar:=heldPf.ar) (ae:=heldPf.ae) (Qaca (Qab8 Qajo.d_le) Qab9) (n:=2) (fun _=>rfl) (by decide) (rc:=(vInt)) (re:=(D.int .i64)) (Qa3) (f:=heldPf.fv) ?_;intro a hpre;simp only[Tryz.f22,Option.getD];simp(maxSteps:=9^9)(disch:=omega)only[ZZ,simprocAttr,rch,heldPf.ae,heldPf.fv,heldO_.q,heldO_.ar,heldO_.fv,heldIS.q,heldIS.ar,heldIS.fv,heldSS.q,heldSS.ar,heldSS.fv,ORC,D.sc,D.scs,scL,decD];obtain⟨⟨k0,x,y,z,w⟩,k⟩:=a;obtain⟨h1,h2,h3,h4,h5⟩:=hpre;simp only at h1 h2 h3 h4 h5⊢;subst h3 h4 h5;have e1: ∀q:Int,Qahw [] q=q:=fun q=>by simp[Qahw,wrE]
 have e2: ∀q:Int,Qagb [] q=q:=fun q=>by simp[Qagb,mkI]
 have e3: ∀q:Int,Qaf8 [] q=q:=fun q=>rfl
 have e4:totI []=0:=rfl;simp only[e1,e2,e3,e4];refine⟨⟨h1,h2⟩,?_⟩;rcases heldO_or x k with h|h
 .rw[h]
  have:=Int.natCast_nonneg x.length
  repeat (first|(rw[Zai (by omega)])|(refine⟨⟨by omega,by simp;omega⟩,?_⟩)|rfl|trivial)
 .rw[h];rfl
def toAR.row:Row:=orR toAssembly.row toAX.row
theorem toAR.ok:Qas Tryz.prog 14 toAR.row:=Qakf toAssembly.ok toAX.ok
theorem pkAsm{h:Nat->Option Ent}{n:Nat}{a:Asm}(hn:h n=some (true,.arr 187 3 (a.Tiles.map Qab.c))):pkF h (.agg [.own n])=some (.val (.agg (Asm.c a))):=by
 simp only[pkF,bk,mapO,hn,Qwz,ZaR,pkFV,Asm.c]
theorem Qakj(s:Qar)(a:Asm):a2 (kR Qar.d) (kR Asm.d) [.val (.agg (Qar.c s)),.val (.agg (Asm.c a))]=some (s,a):=by simp only[a2,kR,Qar.d_c,Asm.d_c,Zbk]
theorem asm2R(a b:Asm):a2 (kR Asm.d) (kR Asm.d) [.val (.agg (Asm.c a)),.val (.agg (Asm.c b))]=some (a,b):=by simp only[a2,kR,Asm.d_c,Zbk]
theorem asmR1(a:Asm):a1 (kR Asm.d) [.val (.agg (Asm.c a))]=some a:=by simp only[a1,kR,Asm.d_c,Zbk]
theorem pf2R(a b:Qajo):a2 (kR Qajo.d) (kR Qajo.d) [.val (.agg (Qajo.c a)),.val (.agg (Qajo.c b))]=some (a,b):=by simp only[a2,kR,Qajo.d_c,Zbk]
theorem pfR(a:Qajo)(k:Int):a2 (kR Qajo.d) kI [.val (.agg (Qajo.c a)),.val (.int .i64 k)]=some (a,k):=by simp only[a2,kR,kI,Qajo.d_c,Zbk]
abbrev pfV(n:Nat):AV:= .agg [.im (.int .i64 2),.own n,.im (.sl true 0 []),.im (.sl true 0 []),.im (.sl true 0 [])]
def pfZ(l:List Opt):Qajo:=⟨2,l,[],[],[]⟩
def pfD(l:List Opt):D:= .agg [.int .i64 2,.sl false 3 (l.map Opt.c),.sl true 0 [],.sl true 0 [],.sl true 0 []]
theorem pfD_R(l:List Opt):kR Qajo.d (.val (pfD l))=some (pfZ l):=by
 simp only[kR,pfD,Qajo.d,Opt.d_R,decR,Zbk];rfl
theorem pkPf{h:Nat->Option Ent}{n:Nat}{l:List Opt}(hn:h n=some (true,.arr 121 3 (l.map Opt.c))):pkF h (pfV n)=some (.val (pfD l)):=by
 simp only[pkF,bk,mapO,hn,Qwz,ZaR,pkFV,pfD]
theorem pf2Z(l:List Opt)(b:Qajo):a2 (kR Qajo.d) (kR Qajo.d) [.val (pfD l),.val (.agg (Qajo.c b))]=some (pfZ l,b):=by
 rw[a2,pfD_R];simp only[kR,Qajo.d_c,Zbk]
theorem pfZR(l:List Opt)(k:Int):a2 (kR Qajo.d) kI [.val (pfD l),.val (.int .i64 k)]=some (pfZ l,k):=by simp only[a2,pfD_R,kI,Zbk]
theorem Qakt{nx o:Nat}{tm:List (Nat×AV)}{h:Qan}{dst:Option Nat}{go:Qad->Prop}{a:Asm}{k:Int}(hk:0<=k)(hk2:k+3*a.Tiles.length<=1099511627776)(hS:hget h o=some (true,.arr 187 3 (a.Tiles.map Qab.c)))(hnx:o<nx)
 (hgo: ∀HH:Qan,(∀m,m≠o->hget HH m=hget h m)->go ((⟨tm,HH,nx⟩:Qad).put dst (.im (.int .i64 (k+3*a.Tiles.length))))):
 mkAC.row [.agg [.own o],.im (.int .i64 k)] (hget h) nx (kont go ⟨tm,h,nx⟩ dst):=by
 have hd: ∀j,domB (mkAC.H0 (a,k)) j=true->j=0:=fun j hj=>by
  simp only[domB,mkAC.H0,hget] at hj;by_cases h:j=0
  .exact h
  .rw[Qao _ _ (fun q=>h q.symm)] at hj;cases hj
 refine orow.tau (a,k) (fun _=>o) ⟨hk,hk2⟩ (fun j hj=>by rw[hd j hj];rfl) (fun j hj=>⟨by rw[hd j hj];omega,hnx⟩) (fun i j hi hj _=>by rw[hd i hi,hd j hj]) (fun p hp=> ?_) ⟨rfl,hS,trivial⟩ (by simp[AV.nms]) (fun HH hH1 hH2=>hgo HH fun m hm=>hH2 m fun j hj h=>hm h.symm);simp only[mkAC.H1,Zap] at hp;subst hp;exact⟨rfl,fun m hm=>by simp[AObj.nms] at hm⟩
theorem mkPf_call{nx o:Nat}{tm:List (Nat×AV)}{h:Qan}{dst:Option Nat}{go:Qad->Prop}{l:List Opt}{k:Int}(hk:0<=k)(hk2:k+3*l.length<=1099511627776)(hS:hget h o=some (true,.arr 121 3 (l.map Opt.c)))(hnx:o<nx)
 (hgo: ∀HH:Qan,hget HH o=some (true,.arr 121 3 ((wrE (oF k) l.length).map Opt.c))->(∀m,m≠o->hget HH m=hget h m)->go ((⟨tm,HH,nx⟩:Qad).put dst (.im (.int .i64 (k+3*l.length))))):
 mkPf.row [pfV o,.im (.int .i64 k)] (hget h) nx (kont go ⟨tm,h,nx⟩ dst):=by
 refine orow.tau (l,k) (fun _=>o) ⟨hk,hk2⟩ (fun j hj=>by rw[mkOC.d0 _ j hj];rfl) (fun j hj=>⟨by rw[mkOC.d0 _ j hj];omega,hnx⟩) (fun i j hi hj _=>by rw[mkOC.d0 _ i hi,mkOC.d0 _ j hj]) (fun p hp=> ?_) ⟨rfl,hS,trivial⟩ (by simp[AV.nms]) (fun HH hH1 hH2=>hgo HH (hH1 0 _ rfl) fun m hm=>hH2 m fun j hj h=>hm h.symm);simp only[mkOC.H1,Zap] at hp;subst hp;exact⟨rfl,fun m hm=>by simp[AObj.nms] at hm⟩
theorem trm_cl(s:Qar)(a:Asm): ∀p∈trmX.H1 (s,a),p.1<20/\ ∀m∈p.2.2.nms,m<20:=by
 intro p hp;simp only[trmX.H1,Zap] at hp;subst hp;exact⟨by omega,by simp[AObj.nms]⟩
def trmV.ar:List PK->Option (Qar×Asm):=a2 (kR Qar.d) (kR Asm.d)
def trmV.row:Row:=Qaex trmV.ar (fun a=>Qf6 a.1.Set/\(trmF a.1 a.2).2=0) trmX.r0 trmX.H1 20
theorem trmV.ok:Qas Tryz.prog 15 trmV.row:=
 vrowX_ok (A:=Qar×Asm) (ca:=fun (a:Qar×Asm)=>[D.agg (Qar.c a.1),D.agg (Asm.c a.2)]) (by kernel_rfl) trmX.ok (fun _=>rfl) (Qaca (Qab8 Qar.d_le) (Qab8 Asm.d_le))
  (fun a=>by simp[trmX.r0,scV,scVL,D.sc,AV.nms,nmsL])
  (fun a p hp=>by
   simp only[trmX.H1,Zap] at hp;subst hp;exact⟨by omega,rfl,by simp[scO,Opt.c,D.sc],by simp[AObj.nms]⟩)
def trmR.row:Row:=orR trm0_.row trmV.row
theorem trmR.ok:Qas Tryz.prog 15 trmR.row:=Qakf trm0_.ok trmV.ok
def mkPR.row:Row:=orR mkP0.row mkPf.row
theorem mkPR.ok:Qas Tryz.prog 21 mkPR.row:=Qakf mkP0.ok mkPf.ok
theorem Qajp{H:Qan}{n m:Nat}(h:n≠m):hget (hdel H [n]) m=hget H m:=Qce _ _ _ h
theorem vN.callU{A:Type}{ar:List PK->Option A}{pre:A->Prop}{re:A->D}{args:List AV}{tm:List (Nat×AV)}{h:Qan}{nx:Nat}{dst:Option Nat}{go:AGo}{cl:List (List Nat)}{i:Nat}{acc:List Fp}(ps:List PK)(hps:pkL (hget h) args=some (ps,[]))(a:A)(ha:ar ps=some a)(hpre:pre a)(hq:Qaey acc=true)(hu:nmsL args=[])
 (hgo:go (⟨i,[],[],nx,0⟩::acc) ((⟨tm,h,nx⟩:Qad).put dst (.im (re a)))):vrow ar pre re args (hget h) nx (Qak5 cl i acc go ⟨tm,h,nx⟩ dst):=by
 unfold vrow;rw[hps,hu];simp only[Qa1,ha,decK,frE];refine⟨hpre,?_,?_,?_⟩
 .rw[Eff.ok_nr];simp[AV.bel,belH,Qpx]
 .exact Qadq _ _ _ _ hq
 .rw[Qad.app_nr,Qba,Zcw];exact hgo
theorem vF.callV{A:Type}{ar:List PK->Option A}{pre:A->Prop}{re:A->D}{args:List AV}{tm:List (Nat×AV)}{h:Qan}{nx:Nat}{dst:Option Nat}{go:AGo}{cl:List (List Nat)}{i:Nat}{acc:List Fp}(ps:List PK)(hps:pkFL (hget h) args=some ps)(a:A)(ha:ar ps=some a)(hpre:pre a)(hq:Qaey acc=true)
 (hgo: ∀u,u=rchL (hget h) args->go (⟨i,u,[],nx,0⟩::acc) ((⟨tm,h,nx⟩:Qad).put dst (.im (re a)))):Qfi ar pre re args (hget h) nx (Qak5 cl i acc go ⟨tm,h,nx⟩ dst):=by
 unfold Qfi;rw[hps];simp only[Qct,ha,decK];refine⟨hpre,?_,?_,?_⟩
 .rw[Eff.ok_nr];simp[AV.bel,belH,Qpx]
 .exact Qadq _ _ _ _ hq
 .rw[Qad.app_nr,Qba,Zcw];exact hgo _ (ZaP _)
theorem Qakv(cl:List (List Nat))(j:Nat)(use touch names:List Nat): ∀acc:List Fp,(acc.all fun f=>ordB cl f.i j)=true->Qabz cl j use touch names acc=true
 |[],_=>rfl
 |f::r,h=>by
  rw[Zcb,Zaf] at h;simp only[Qabz,ckP,h.1,Qakv cl j use touch names r h.2,ZaV];cases (Ql9 (use++touch) f.touch && (Ql9 touch f.use && outN f.nx f.cnt names))<;>rfl
theorem Qaex.nwA{A:Type}{ar:List PK->Option A}{pre:A->Prop}{r0:A->AV}{H1:A->Qan}{cnt:Nat}{args:List AV}{tm:List (Nat×AV)}{h:Qan}{nx:Nat}{dst:Option Nat}{go:AGo}{cl:List (List Nat)}{i:Nat}{acc:List Fp}(ps:List PK)(hps:pkFL (hget h) args=some ps)(a:A)(ha:ar ps=some a)(hpre:pre a)
 (hu:rchL (hget h) args=[])(hord:(acc.all fun f=>ordB cl f.i i)=true)
 (hcl: ∀p∈H1 a,p.1<cnt/\ ∀m∈p.2.2.nms,m<cnt)(hb: ∀m∈(r0 a).nms,m<cnt)
 (hgo: ∀HH:Qan,(∀j e,hget (H1 a) j=some e->hget HH (nx+j)=some (e.1,e.2.ren fun j=>nx+j))->(∀m,m<nx->hget HH m=hget h m)->go (⟨i,[],Qcv (renH (fun j=>nx+j) (H1 a)),nx,cnt⟩::acc) ((⟨tm,HH,nx+cnt⟩:Qad).put dst ((r0 a).ren fun j=>nx+j))):
 Qaex ar pre r0 H1 cnt args (hget h) nx (Qak5 cl i acc go ⟨tm,h,nx⟩ dst):=by
 have e:sgx (fun j=>j) 0 nx=fun j=>nx+j:=funext fun j=>by simp[sgx]
 unfold Qaex;rw[hps];simp only[Qalb,ha,decK];rw[e,hu];have hk:kont (fun s=>go (⟨i,[],Qcv (renH (fun j=>nx+j) (H1 a)),nx,cnt⟩::acc) s) ⟨tm,h,nx⟩ dst ((r0 a).ren fun j=>nx+j) {use:=[],new:=renH (fun j=>nx+j) (H1 a),cnt:=cnt}:=Qafy (fun _=>rfl) rfl hcl hb hgo;obtain⟨k1,k2⟩:=hk;exact⟨hpre,k1,Qakv _ _ _ _ _ _ hord,k2⟩
def lawPT.ar:List PK->Option (Qar×Asm):=a2 (kR Qar.d) (kR Asm.d)
def lawPT.ae(a:Qar×Asm):List PK:=[.val (.agg (Qar.c a.1)),.val (.agg (Asm.c a.2))]
def lawPT.rc:D->Option (Bool):=Qa8
def lawPT.re:Bool->D:=D.bool
theorem lawPT.rle: ∀d b,lawPT.rc d=some b->Le d (lawPT.re b):=Qat
def lawPT.fv(a:Qar×Asm):Bool:=(fun _ _=>true) (a.1) (a.2)
def lawPT.row:Row:=vrow lawPT.ar (fun a=>nmOk a.1.Set) (fun a=>lawPT.re (lawPT.fv a))
def lawPT.q:=vq lawPT.row rfl
def Ybj:=J @lawPT.ae.eq_1<|J @lawPT.fv.eq_1<|J @lawPT.rc.eq_1<|J @szSystem.q<|J @szSystem.ar.eq_1<|J @szSystem.fv.eq_1<|J @szAssembly.q<|J @szAssembly.ar.eq_1<|J @szAssembly.fv.eq_1<|J @trmS_.q<|J @trmS_.ar.eq_1 @trmS_.fv.eq_1
theorem lawPT.ok:Qas Tryz.prog 3 lawPT.row:=by
 refine Qaj Qaq (tC szSystem.ok (tC szAssembly.ok (tC toYR.ok (tC toAR.ok (tC trmS_.ok (tC trmR.ok (tC eqPfF.ok (tC eqSystemF.ok (tC eqAsmF.ok (tC mkSy.ok (tC mkAC.ok (tC mkPR.ok (tC heldPf.ok tN))))))))))))) Tryz.func3 rfl (by kernel_rfl) (by kernel_rfl) (ar:=lawPT.ar) (ae:=lawPT.ae) (Qaca (Qab8 Qar.d_le) (Qab8 Asm.d_le)) (n:=2) (fun _=>rfl) (by decide) (rc:=lawPT.rc) (re:=lawPT.re) lawPT.rle (f:=lawPT.fv) ?_;intro a hpre;simp only[Tryz.f3,Option.getD];simp(maxSteps:=9^9)(disch:=omega)only[ZZ,simprocAttr,rch,Ybj];obtain⟨s,l⟩:=a;simp only at hpre⊢;refine⟨hpre,?_⟩;split
 .trivial
 rename_i c0;have hB:=szSys_B (s:=s) (l:=1048576) (by decide) (by decide) (by omega);have h1:=szSys_sm (s:=s) (l:=1048576) (by decide) (by decide) (by omega);have hb:=szSys_b s 1048576 (by decide);refine⟨⟨by omega,by omega⟩,?_⟩;split
 .trivial
 rename_i c2;simp only[Qab3] at c2;obtain⟨b1,_,_⟩:=Qn3 (n:=l.Tiles.length) (l:=Qlr s 1048576) (by omega);have hl:l.Tiles.length<=1048576:=by omega
 have hl2:l.Tiles.length<=1073741824:=by omega
 refine .inl (vN.callU [.val (.agg (Qar.c s))] rfl s (sysR1 s) h1 rfl (by simp[nmsL,AV.nms]) ?_);simp(maxSteps:=9^9)(disch:=omega)only[ZZ,simprocAttr,rch,Ybj,sub,Qba,toSystem.fv];refine .inl (vN.callU [.val (.agg (Asm.c l))] rfl l (asmR1 l) hl2 rfl (by simp[nmsL,AV.nms]) ?_);simp(maxSteps:=9^9)(disch:=omega)only[ZZ,simprocAttr,rch,Ybj,sub,Qba,toAssembly.fv];refine .inr (orow.nw s hB.yx rfl rfl (yx_cl hB) (by simp[toYX.r0,AV.nms,nmsL]) fun HH hH1 hH2=> ?_);obtain⟨w,hw⟩: ∃w,w=trmF s l:=⟨_,rfl⟩;obtain⟨w0,w1⟩:=w;simp only[<-hw] at hH2⊢;have S0:Qad1 (hget HH) 10 12 2000015 13 s:=yx_at hB hH1;have k0:hget HH 0=some (true,.cells 30 [AV.im (D.sl false 2 (List.map Glue.c s.Set.Glues)),AV.im (D.sl false 2 (List.map Tile.c s.Set.Tiles)),AV.im (D.sl false 3 (List.map Qab.c s.Seed.Tiles)),AV.im (D.int IntKind.i64 s.Temperature)]):=hH2 0 (by omega);have k1:hget HH 1=some (true,.cells 28 [AV.im (D.sl false 3 (List.map Qab.c l.Tiles))]):=hH2 1 (by omega);have k2:hget HH 2=some (true,.cells 37 ((Qajo.c w0).map .im)):=hH2 2 (by omega);simp only[Qajo.c,Zal,ZaM] at k2;clear hH1 hH2;simp only[toYX.r0,AV.ren,renL];simp(maxSteps:=9^9)(disch:=omega)only[ZZ,simprocAttr,rch,Ybj,sub,Qba,Qajp,k0,k1];refine .inr (orow.nw l hl2 rfl rfl (fun p hp=> ?_) (by simp[AV.nms,nmsL]) fun HH2 hH1 hH2=> ?_)
 .simp only[toAX.H1,Zap] at hp;subst hp;exact⟨by omega,by simp[AObj.nms]⟩
 have k0':hget HH2 0=_:=((hH2 0 (by omega)).trans (Qafq _ _ _ (by omega))).trans k0;have k1':hget HH2 1=_:=((hH2 1 (by omega)).trans (Qafq _ _ _ (by omega))).trans k1;have k2':hget HH2 2=_:=((hH2 2 (by omega)).trans (Qafq _ _ _ (by omega))).trans k2;have S1:Qad1 (hget HH2) 10 12 2000015 13 s:=S0.mono fun m hm=>by
  exact (hH2 m (by have:=hB.t;omega)).trans (Qafq _ _ _ (by have:=hB.t;omega))
 have g8:hget HH2 2000016=some (true,.cells 48 [.own 10,.own 12,.own 2000015,.im (.int .i64 s.Temperature)]):=hH2 _ (by omega);have g9:hget HH2 2000021=some (true,.arr 187 3 (l.Tiles.map Qab.c)):=hH1 4 _ rfl;clear hH1 hH2 S0 k0 k1 k2;simp only[AV.ren,renL];simp(maxSteps:=9^9)(disch:=omega)only[ZZ,simprocAttr,rch,Ybj,sub,Qba,Qajp,k0',k1',k2',g8,g9];by_cases hc:(trmF s l).2=0
 .refine .inr (Qaex.nw [.val (.agg (Qar.c s)),.val (.agg (Asm.c l))] (pk2 (S1.mono fun m hm=>Qafq _ _ _ (by have:=hB.t;omega)).pk (pkAsm ((Qafq _ _ _ (by omega)).trans g9))) (s,l) (Qakj s l) ⟨hpre,hc⟩ (trm_cl s l) (by simp[trmX.r0,AV.nms,nmsL]) fun HH3 hH1 hH2=> ?_);obtain⟨q,hq⟩: ∃q,q=(seqF s l).1:=⟨_,rfl⟩;have hz:trmF s l=(pfZ q,0):=by
   simp only[trmF] at hc⊢;split at hc
   .rename_i e;rw[Zao e];split at hc
    .rename_i e2;rw[Zao e2,hq];rfl
    .cases hc
   .rename_i e;exact absurd hc e
  rw[hz] at hw;obtain⟨rfl,rfl⟩:=Prod.mk.inj hw;have P: ∀{m:Nat} {e:Option Ent},m<2000022->hget HH2 m=e->hget HH3 m=e:=fun hm he=>((hH2 _ (by omega)).trans (Qafq _ _ _ (by omega))).trans he
  have a0:=P (by omega) k0';have a1:=P (by omega) k1';have a2:=P (by omega) k2';have a8:=P (by omega) g8;have a9:=P (by omega) g9;have a22:hget HH3 2000022=some (true,.cells 46 [.own 2000021]):=hH2 _ (by omega);have S2:Qad1 (hget HH3) 10 12 2000015 13 s:=S1.mono fun m hm=>P (by have:=hB.t;omega) rfl
  have ag:hget HH3 2000023=some (true,.arr 121 3 (q.map Opt.c)):=by rw[hq];exact hH1 0 _ rfl
  clear hH1 hH2 S1 k0' k1' k2' g8 g9 P;simp only[trmX.r0,AV.ren,renL];simp(maxSteps:=9^9)(disch:=omega)only[ZZ,simprocAttr,rch,Ybj,sub,Qba,Qajp,a0,a1,a2,a8,a9,a22];obtain⟨HH4,hF⟩: ∃X:Qan,X=(2000043,((true,AObj.cells 37 [.im (.int .i64 2),.own 2000023,.im (.sl true 0 []),.im (.sl true 0 []),.im (.sl true 0 [])]):Ent))::hdel HH3 [2000043]:=⟨_,rfl⟩;rw[<-hF];have P: ∀{m:Nat} {e:Option Ent},m<2000043->hget HH3 m=e->hget HH4 m=e:=fun hm he=>by rw[hF];exact (Qafq _ _ _ (by omega)).trans he
  have a0:=P (by omega) a0;have a1:=P (by omega) a1;have a2:=P (by omega) a2;have a8:=P (by omega) a8;have a9:=P (by omega) a9;have a22:=P (by omega) a22;have ag:=P (by omega) ag;have S2:Qad1 (hget HH4) 10 12 2000015 13 s:=S2.mono fun m hm=>P (by have:=hB.t;omega) rfl
  have ap:hget HH4 2000043=some (true,.cells 37 [.im (.int .i64 2),.own 2000023,.im (.sl true 0 []),.im (.sl true 0 []),.im (.sl true 0 [])]):=by rw[hF];rfl
  clear hF P;refine vF.call [_,_] (pk2 (pkPf ag) rfl) (pfZ q,pfZ q) (pf2Z _ _) trivial ?_;simp(maxSteps:=9^9)(disch:=omega)only[ZZ,simprocAttr,rch,Ybj,sub,Qba,Qajp,a0,a1,a2,a8,a9,a22,ap,eqPfF.fv,ZcM];refine .inl (vN.callA [.val (.agg (Qar.c s))] rfl s (sysR1 s) h1 rfl fun u=> ?_);simp(maxSteps:=9^9)(disch:=omega)only[ZZ,simprocAttr,rch,Ybj,sub,Qba,a0,a1,a2,a8,a9,a22,ap,toSystem.fv];refine vF.callA [_,_] (pk2 S2.pk rfl) (s,s) (sys2R _ _) trivial rfl fun u2=> ?_
  simp(maxSteps:=9^9)(disch:=omega)only[ZZ,simprocAttr,rch,Ybj,sub,Qba,a0,a1,a2,a8,a9,a22,ap,eqSystemF.fv,ZcM];refine .inl (vN.callA [.val (.agg (Asm.c l))] rfl l (asmR1 l) hl2 rfl fun u3=> ?_);simp(maxSteps:=9^9)(disch:=omega)only[ZZ,simprocAttr,rch,Ybj,sub,Qba,a0,a1,a2,a8,a9,a22,ap,toAssembly.fv];refine vF.callA [_,_] (pk2 (pkAsm a9) rfl) (l,l) (asm2R _ _) trivial rfl fun u4=> ?_
  simp(maxSteps:=9^9)(disch:=omega)only[ZZ,simprocAttr,rch,Ybj,sub,Qba,a0,a1,a2,a8,a9,a22,ap,eqAsmF.fv,ZcM];refine Qagl (N:=3) hB (by decide) (by decide) S2 (by omega) fun HH5 hk5=> ?_
  have P: ∀{m:Nat} {e:Option Ent},(m<10\/2000016<=m)->hget HH4 m=e->hget HH5 m=e:=fun hm he=>(hk5 _ (by omega)).trans he
  have a0:=P (by omega) a0;have a1:=P (by omega) a1;have a2:=P (by omega) a2;have a9:=P (by omega) a9;have a22:=P (by omega) a22;have ag:=P (by omega) ag;have ap:=P (by omega) ap;obtain⟨y1,y2⟩:=hB.syK (k:=1) (by decide) (by decide);obtain⟨m1,hm1⟩: ∃m1,m1=syK (s,1)+3*s.Seed.Tiles.length:=⟨_,rfl⟩;rw[<-hm1] at y2;have y3:0<=m1:=by omega
  simp only[<-hm1];clear hk5 S2 a8 y1 hm1 P;simp(maxSteps:=9^9)(disch:=omega)only[ZZ,simprocAttr,rch,Ybj,sub,Qba,a0,a1,a2,a9,a22,ap];refine Qakt y3 (by omega) a9 (by omega) fun HH6 hk6=> ?_
  have P: ∀{m:Nat} {e:Option Ent},m≠2000021->hget HH5 m=e->hget HH6 m=e:=fun hm he=>(hk6 _ hm).trans he
  have a0:=P (by omega) a0;have a1:=P (by omega) a1;have a2:=P (by omega) a2;have ag:=P (by omega) ag;have ap:=P (by omega) ap;clear hk6 a9 a22 P;simp(maxSteps:=9^9)(disch:=omega)only[ZZ,simprocAttr,rch,Ybj,sub,Qba,a0,a1,a2,ap];rw[Zao (by omega)];have hql:q.length<=500:=by
   rw[hq];simp only[seqF];split
   .rename_i c;obtain⟨d1,d2,_⟩:=over0 c;obtain⟨⟨_,d3,d4,_⟩,_⟩:=Qacj d1;obtain⟨_,d5⟩:=Qdg d2;split
    .simp
    .exact ZaW (Qaju d4 d3 _).out_le d5
   .simp
  refine vF.call [_,_] (pk2 (pkPf ag) rfl) (pfZ q,pfZ q) (pf2Z _ _) trivial ?_;simp(maxSteps:=9^9)(disch:=omega)only[ZZ,simprocAttr,rch,Ybj,sub,Qba,a0,a1,a2,ap,eqPfF.fv,ZcM];refine .inr (mkPf_call (by decide) (by omega) ag (by omega) fun HH7 hj7 hk7=> ?_);have P: ∀{m:Nat} {e:Option Ent},m≠2000023->hget HH6 m=e->hget HH7 m=e:=fun hm he=>(hk7 _ hm).trans he
  have a0:=P (by omega) a0;have a1:=P (by omega) a1;have a2:=P (by omega) a2;have ap:=P (by omega) ap;clear hk7 P;simp(maxSteps:=9^9)(disch:=omega)only[ZZ,simprocAttr,rch,Ybj,sub,Qba,a0,a1,a2,ap];have hhr:heldPf.fv (pfZ (wrE (oF 1) q.length),1)=1+3*q.length:=heldO_mk 1 q.length;have hhp:(0:Int)<=1/\(1:Int)+3*(pfZ (wrE (oF 1) q.length)).Sequence.length<=1099511627776/\(pfZ (wrE (oF 1) q.length)).Other=[]/\(pfZ (wrE (oF 1) q.length)).Part=[]/\(pfZ (wrE (oF 1) q.length)).Flows=[]:=by
   refine⟨by decide,?_,rfl,rfl,rfl⟩;simp only[pfZ,wrE_len];omega
  refine vF.call [_,_] (pk2 (pkPf hj7) rfl) (pfZ (wrE (oF 1) q.length),1) (pfZR _ _) hhp ?_;simp only[hhr];simp(maxSteps:=9^9)(disch:=omega)only[ZZ,simprocAttr,rch,Ybj,sub,Qba,a0,a1,a2,ap];rw[Zai (by omega)];refine .inl (vN.callU [.val (.agg (Qar.c s))] rfl s (sysR1 s) h1 rfl (by simp[nmsL,AV.nms]) ?_);simp(maxSteps:=9^9)(disch:=omega)only[ZZ,simprocAttr,rch,Ybj,sub,Qba,a0,a1,a2,ap,toSystem.fv];refine .inl (vN.callU [.val (.agg (Asm.c l))] rfl l (asmR1 l) hl2 rfl (by simp[nmsL,AV.nms]) ?_);simp(maxSteps:=9^9)(disch:=omega)only[ZZ,simprocAttr,rch,Ybj,sub,Qba,a0,a1,a2,ap,toAssembly.fv];refine .inr (Qaex.nwA [.val (.agg (Qar.c s)),.val (.agg (Asm.c l))] rfl (s,l) (Qakj s l) ⟨hpre,hc⟩ rfl rfl (trm_cl s l) (by simp[trmX.r0,AV.nms,nmsL]) fun HH8 hj8 hk8=> ?_);rw[show Qcv (renH (fun j=>2000044+j) (trmX.H1 (s,l)))=[2000044] from rfl];have P: ∀{m:Nat} {e:Option Ent},m<2000044->hget HH7 m=e->hget HH8 m=e:=fun hm he=>(hk8 _ hm).trans he
  have a2:=P (by omega) a2;have hj7:=P (by omega) hj7;have ap:=P (by omega) ap;have ah:hget HH8 2000044=some (true,.arr 121 3 (q.map Opt.c)):=by rw[hq];exact hj8 0 _ rfl
  clear hk8 hj8 P;simp only[trmX.r0,AV.ren,renL];simp(maxSteps:=9^9)(disch:=omega)only[ZZ,simprocAttr,rch,Ybj,sub,Qba,Qajp,a2,ap];refine vF.call [_,_] (pk2 (pkPf ((Qafq _ _ _ (by omega)).trans ah)) rfl) (pfZ q,pfZ q) (pf2Z _ _) trivial ?_;simp(maxSteps:=9^9)(disch:=omega)only[ZZ,simprocAttr,rch,Ybj,sub,Qba,Qajp,a2,ap,eqPfF.fv,ZcM];refine vF.call [_,_] (pk2 (pkPf ((Qafq _ _ _ (by omega)).trans hj7)) rfl) (pfZ (wrE (oF 1) q.length),1) (pfZR _ _) hhp ?_;simp only[hhr];simp(maxSteps:=9^9)(disch:=omega)only[ZZ,simprocAttr,rch,Ybj,sub,Qba,Qajp,a2,ap];rw[Zai (by omega)]
  try trivial
 have hz:w0=⟨0,[],[],[],[]⟩:=by
  have e1:w0=(trmF s l).1:=by rw[<-hw]
  rw[e1];simp only[trmF] at hc⊢;split
  .rename_i c1;rw[Zao c1] at hc;split
   .rename_i c2;rw[Zao c2] at hc;exact absurd rfl hc
   .rfl
  .rfl
 have z1:w0.Sequence=[]:=by rw[hz]
 have z2:w0.Other=[]:=by rw[hz]
 have z3:w0.Part=[]:=by rw[hz]
 have z4:w0.Flows=[]:=by rw[hz]
 clear hz;obtain⟨HH3,hF⟩: ∃X:Qan,X=(2000022,((true,AObj.cells 46 [.own 2000021]):Ent))::hdel HH2 [2000022]:=⟨_,rfl⟩;rw[<-hF];have P: ∀{m:Nat} {e:Option Ent},m<2000022->hget HH2 m=e->hget HH3 m=e:=fun hm he=>by rw[hF];exact (Qafq _ _ _ (by omega)).trans he
 have a0:=P (by omega) k0';have a1:=P (by omega) k1';have a2:=P (by omega) k2';have a8:=P (by omega) g8;have a9:=P (by omega) g9;have a22:hget HH3 2000022=some (true,.cells 46 [.own 2000021]):=by rw[hF];rfl
 have S2:Qad1 (hget HH3) 10 12 2000015 13 s:=S1.mono fun m hm=>P (by have:=hB.t;omega) rfl
 clear hF P S1 k0' k1' k2' g8 g9;refine .inl (vF.call [_,_] (pk2 S2.pk (pkAsm a9)) (s,l) (Qakj s l) ⟨hpre,hc⟩ ?_);have hfv:trm0_.fv (s,l)=(w0,w1):=hw.symm;simp only[hfv];simp(maxSteps:=9^9)(disch:=omega)only[ZZ,simprocAttr,rch,Ybj,sub,Qba,Qajp,a0,a1,a2,a8,a9,a22];obtain⟨HH4,hF⟩: ∃X:Qan,X=(2000023,((true,AObj.cells 37 ((Qajo.c w0).map .im)):Ent))::hdel HH3 [2000023]:=⟨_,rfl⟩;simp only[Qajo.c,Zal,ZaM] at hF;rw[<-hF];have P: ∀{m:Nat} {e:Option Ent},m<2000023->hget HH3 m=e->hget HH4 m=e:=fun hm he=>by rw[hF];exact (Qafq _ _ _ (by omega)).trans he
 have a0:=P (by omega) a0;have a1:=P (by omega) a1;have a2:=P (by omega) a2;have a8:=P (by omega) a8;have a9:=P (by omega) a9;have a22:=P (by omega) a22;have S2:Qad1 (hget HH4) 10 12 2000015 13 s:=S2.mono fun m hm=>P (by have:=hB.t;omega) rfl
 have ap:hget HH4 2000023=some (true,.cells 37 ((Qajo.c w0).map .im)):=by rw[hF];rfl
 simp only[Qajo.c,Zal,ZaM] at ap;clear hF P;refine vF.call [_,_] (pk2 rfl rfl) (w0,w0) (pf2R _ _) trivial ?_;simp(maxSteps:=9^9)(disch:=omega)only[ZZ,simprocAttr,rch,Ybj,sub,Qba,Qajp,a0,a1,a2,a8,a9,a22,ap,eqPfF.fv,ZcM];refine .inl (vN.callA [.val (.agg (Qar.c s))] rfl s (sysR1 s) h1 rfl fun u=> ?_);simp(maxSteps:=9^9)(disch:=omega)only[ZZ,simprocAttr,rch,Ybj,sub,Qba,a0,a1,a2,a8,a9,a22,ap,toSystem.fv];refine vF.callA [_,_] (pk2 S2.pk rfl) (s,s) (sys2R _ _) trivial rfl fun u2=> ?_
 simp(maxSteps:=9^9)(disch:=omega)only[ZZ,simprocAttr,rch,Ybj,sub,Qba,a0,a1,a2,a8,a9,a22,ap,eqSystemF.fv,ZcM];refine .inl (vN.callA [.val (.agg (Asm.c l))] rfl l (asmR1 l) hl2 rfl fun u3=> ?_);simp(maxSteps:=9^9)(disch:=omega)only[ZZ,simprocAttr,rch,Ybj,sub,Qba,a0,a1,a2,a8,a9,a22,ap,toAssembly.fv];refine vF.callA [_,_] (pk2 (pkAsm a9) rfl) (l,l) (asm2R _ _) trivial rfl fun u4=> ?_
 simp(maxSteps:=9^9)(disch:=omega)only[ZZ,simprocAttr,rch,Ybj,sub,Qba,a0,a1,a2,a8,a9,a22,ap,eqAsmF.fv,ZcM];refine Qagl (N:=3) hB (by decide) (by decide) S2 (by omega) fun HH5 hk5=> ?_
 have P: ∀{m:Nat} {e:Option Ent},(m<10\/2000016<=m)->hget HH4 m=e->hget HH5 m=e:=fun hm he=>(hk5 _ (by omega)).trans he
 have a0:=P (by omega) a0;have a1:=P (by omega) a1;have a2:=P (by omega) a2;have a9:=P (by omega) a9;have a22:=P (by omega) a22;have ap:=P (by omega) ap;obtain⟨y1,y2⟩:=hB.syK (k:=1) (by decide) (by decide);obtain⟨m1,hm1⟩: ∃m1,m1=syK (s,1)+3*s.Seed.Tiles.length:=⟨_,rfl⟩;rw[<-hm1] at y2;have y3:0<=m1:=by omega
 simp only[<-hm1];clear hk5 S2 a8 y1 hm1 P;simp(maxSteps:=9^9)(disch:=omega)only[ZZ,simprocAttr,rch,Ybj,sub,Qba,a0,a1,a2,a9,a22,ap];refine Qakt y3 (by omega) a9 (by omega) fun HH6 hk6=> ?_
 have P: ∀{m:Nat} {e:Option Ent},m≠2000021->hget HH5 m=e->hget HH6 m=e:=fun hm he=>(hk6 _ hm).trans he
 have a0:=P (by omega) a0;have a1:=P (by omega) a1;have a2:=P (by omega) a2;have ap:=P (by omega) ap;clear hk6 a9 a22 P;simp(maxSteps:=9^9)(disch:=omega)only[ZZ,simprocAttr,rch,Ybj,sub,Qba,a0,a1,a2,ap];rw[Zao (by omega)];refine vF.call [_,_] (pk2 rfl rfl) (w0,w0) (pf2R _ _) trivial ?_;simp(maxSteps:=9^9)(disch:=omega)only[ZZ,simprocAttr,rch,Ybj,sub,Qba,a0,a1,a2,ap,eqPfF.fv,ZcM];refine .inl (vN.call [.val (.agg (Qajo.c w0)),.val (.int .i64 1)] rfl (w0,1) (pfR w0 1) ⟨z1,z2,z3,z4⟩ ?_);simp(maxSteps:=9^9)(disch:=omega)only[ZZ,simprocAttr,rch,Ybj,sub,Qba,a0,a1,a2,ap,mkP0.fv];have hhr:heldPf.fv (w0,1)=1:=by
  simp only[heldPf.fv,z1];rfl
 have hhp:(0:Int)<=1/\(1:Int)+3*w0.Sequence.length<=1099511627776/\w0.Other=[]/\w0.Part=[]/\w0.Flows=[]:=⟨by decide,by rw[z1];decide,z2,z3,z4⟩;refine vF.call [_,_] (pk2 rfl rfl) (w0,1) (pfR _ _) hhp ?_;simp only[hhr];simp(maxSteps:=9^9)(disch:=omega)only[ZZ,simprocAttr,rch,Ybj,sub,Qba,a0,a1,a2,ap]
 try rw[Zai (by omega)]
 refine .inl (vN.callU [.val (.agg (Qar.c s))] rfl s (sysR1 s) h1 rfl (by simp[nmsL,AV.nms]) ?_);simp(maxSteps:=9^9)(disch:=omega)only[ZZ,simprocAttr,rch,Ybj,sub,Qba,a0,a1,a2,ap,toSystem.fv];refine .inl (vN.callU [.val (.agg (Asm.c l))] rfl l (asmR1 l) hl2 rfl (by simp[nmsL,AV.nms]) ?_);simp(maxSteps:=9^9)(disch:=omega)only[ZZ,simprocAttr,rch,Ybj,sub,Qba,a0,a1,a2,ap,toAssembly.fv];refine .inl (vF.callV [_,_] (pk2 rfl rfl) (s,l) (Qakj s l) ⟨hpre,hc⟩ rfl fun u5 hu5=> ?_);have hu5:u5=[]:=hu5.trans rfl;subst hu5;simp only[hfv];simp(maxSteps:=9^9)(disch:=omega)only[ZZ,simprocAttr,rch,Ybj,sub,Qba,Qajp,a2,ap];refine vF.call [_,_] (pk2 rfl rfl) (w0,w0) (pf2R _ _) trivial ?_;simp(maxSteps:=9^9)(disch:=omega)only[ZZ,simprocAttr,rch,Ybj,sub,Qba,Qajp,a2,ap,eqPfF.fv,ZcM];refine vF.call [_,_] (pk2 rfl rfl) (w0,1) (pfR _ _) hhp ?_;simp only[hhr];simp(maxSteps:=9^9)(disch:=omega)only[ZZ,simprocAttr,rch,Ybj,sub,Qba,Qajp,a2,ap]
end Go.Ae
