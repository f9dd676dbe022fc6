/- Lemmas. Conditions: none. -/
import Derived.Test.YtldneeclgjaehabGreatDoorP08
import Derived.Lib.LaidTab
import Derived.Stop.LaidErr
import Derived.Stop.Joined
import Derived.Lay
import Derived.LaidMore
import Derived.LaidOnce
import Derived.OpenVars
import Derived.ChangeVars
import Derived.ChangeSame
import Derived.Shelf.Strconv.Itoa4
import Derived.Shelf.Strings.Builder1
import Derived.Lib.ItoaLen
set_option linter.all false
set_option maxHeartbeats 8000000
set_option maxRecDepth 100000
namespace Go.Ae
open Go Go.Proofs Go.RowKit Go.ChangeShapes Go.WideShapes
abbrev Jx:List (String×DataW Unit):=Go.Proofs.YtldneeclgjaehabGreatDoor.Rows.fnExactReseedFormRow.laid
def gP:Tryz.prog.globalNamed "internal/strconv.uint64pow10" =some 0:=by kernel_rfl
def gPt:(Tryz.prog.globals[0]?).map (·.type)=some 279:=by kernel_rfl
def W1{W:World}{n:String}{g:Nat}{cs:Array Value}(hg:Tryz.prog.globalNamed n=some g)(h:W.var? Tryz.prog n=some cs): ∃T z,W.heap[g]? =some (.cells cs T z):=by
 unfold World.var? at h;rw[hg] at h;simp only[E7] at h;split at h
 .rename_i c T z e;obtain rfl:=AJ h;exact⟨T,z,e⟩
 .cases h
def Z5{W:World}{b:Nat}{o:Obj}(h:W.heap[b]? =some o):b<W.heap.size:=(Hi.1 h).1
def ZE{W:World}(h:laidMetH Tryz.prog Jx W):GP (λb=>b<W.heap.size) (λb=>W.heap[b]?):=by
 rw[MakeChecks.laidMetH_plain _ _ _ (by kernel_rfl)] at h;have O:Lib.TabIs Tryz.prog W "internal/strconv.uint64pow10" .u64 Lib.pow10Tab:=Lib.tabIs_of_head gP gPt Tryz.underlying279 Tryz.underlying264 (by kernel_rfl) (by kernel_rfl) h.tail.tail;obtain⟨T,z,e⟩:=W1 gP O;exact⟨Z5 e,T,z,e⟩
def Ti(os:Os)(args:Array Value):laidMetH Tryz.prog Jx ((World.laidAll Tryz.prog os Jx).forCall (λ_ _=>0) ⟨#[],args,[]⟩).memory:=by
 rw[MakeChecks.laidMetH_plain _ _ _ (by kernel_rfl)];exact laidMet_laidAll _ (by kernel_rfl) (by kernel_rfl)
end Go.Ae
namespace Go.Proofs
open Go.Shelf
def Tryz.fmtL_ren:Go.Shelf.Ren:=⟨λ|173=>166|246=>191|283=>204|284=>205|285=>206|286=>207|129=>215|317=>214|318=>216|319=>217|320=>218|337=>220|338=>221|n=>n,λ|2=>2|3=>3|9=>9|4=>4|171=>263|0=>0|53=>264|37=>166|5=>5|173=>267|212=>279|51=>280|20=>20|213=>281|46=>283|232=>292|233=>293|n=>n,λ|17=>0|18=>1|19=>2|n=>n⟩
def Tryz.fmtL:Go.Proofs.LaysM.n173 Tryz.prog Tryz.fmtL_ren:={
 mixed:=by kernel_rfl
 f129:=Tryz.func215.trans (eG some (by kernel_rfl))
 f173:=Tryz.func166.trans (eG some (by kernel_rfl))
 f246:=Tryz.func191.trans (eG some (by kernel_rfl))
 f283:=Tryz.func204.trans (eG some (by kernel_rfl))
 f284:=Tryz.func205.trans (eG some (by kernel_rfl))
 f285:=Tryz.func206.trans (eG some (by kernel_rfl))
 f286:=Tryz.func207.trans (eG some (by kernel_rfl))
 f317:=Tryz.func214.trans (eG some (by kernel_rfl))
 f318:=Tryz.func216.trans (eG some (by kernel_rfl))
 f319:=Tryz.func217.trans (eG some (by kernel_rfl))
 f320:=Tryz.func218.trans (eG some (by kernel_rfl))
 f337:=Tryz.func220.trans (eG some (by kernel_rfl))
 f338:=Tryz.func221.trans (eG some (by kernel_rfl))
 t0:=Tryz.underlying0
 a0:=Tryz.isAgg0
 z0:=Tryz.sizeOf0
 v0:=Tryz.zeroValue0
 t2:=Tryz.underlying2
 a2:=Tryz.isAgg2
 z2:=Tryz.sizeOf2
 v2:=Tryz.zeroValue2
 t3:=Tryz.underlying3
 a3:=Tryz.isAgg3
 z3:=Tryz.sizeOf3
 v3:=Tryz.zeroValue3
 t4:=Tryz.underlying4
 a4:=Tryz.isAgg4
 z4:=Tryz.sizeOf4
 v4:=Tryz.zeroValue4
 t5:=Tryz.underlying5
 a5:=Tryz.isAgg5
 z5:=Tryz.sizeOf5
 v5:=Tryz.zeroValue5
 t9:=Tryz.underlying9
 a9:=Tryz.isAgg9
 z9:=Tryz.sizeOf9
 v9:=Tryz.zeroValue9
 t20:=Tryz.underlying20
 a20:=Tryz.isAgg20
 z20:=Tryz.sizeOf20
 v20:=Tryz.zeroValue20
 t37:=Tryz.underlying166
 a37:=Tryz.isAgg166
 z37:=Tryz.sizeOf166
 v37:=Tryz.zeroValue166
 t46:=Tryz.underlying283
 a46:=Tryz.isAgg283
 z46:=Tryz.sizeOf283
 v46:=Tryz.zeroValue283
 t51:=Tryz.underlying280
 a51:=Tryz.isAgg280
 z51:=Tryz.sizeOf280
 v51:=Tryz.zeroValue280
 t53:=Tryz.underlying264
 a53:=Tryz.isAgg264
 z53:=Tryz.sizeOf264
 v53:=Tryz.zeroValue264
 t171:=Tryz.underlying263
 a171:=Tryz.isAgg263
 z171:=Tryz.sizeOf263
 v171:=Tryz.zeroValue263
 t173:=Tryz.underlying267
 a173:=Tryz.isAgg267
 z173:=Tryz.sizeOf267
 v173:=Tryz.zeroValue267
 t212:=Tryz.underlying279
 a212:=Tryz.isAgg279
 z212:=Tryz.sizeOf279
 v212:=Tryz.zeroValue279
 t213:=Tryz.underlying281
 a213:=Tryz.isAgg281
 z213:=Tryz.sizeOf281
 t232:=Tryz.underlying292
 a232:=Tryz.isAgg292
 z232:=Tryz.sizeOf292
 v232:=Tryz.zeroValue292
 t233:=Tryz.underlying293
 a233:=Tryz.isAgg293
 z233:=Tryz.sizeOf293
 v233:=Tryz.zeroValue293
 g17:=by kernel_rfl
 g18:=by kernel_rfl
 g19:=by kernel_rfl
 i0:=by kernel_rfl
 i2:=by kernel_rfl
 i3:=by kernel_rfl
 i4:=by kernel_rfl
 i5:=by kernel_rfl
 i9:=by kernel_rfl
 i20:=by kernel_rfl
 i37:=by kernel_rfl
 i46:=by kernel_rfl
 i51:=by kernel_rfl
 i53:=by kernel_rfl
 i171:=by kernel_rfl
 i173:=by kernel_rfl
 i212:=by kernel_rfl
 i232:=by kernel_rfl
 i233:=by kernel_rfl
 m17:=by kernel_rfl
 m18:=by kernel_rfl
 m19:=by kernel_rfl}
end Go.Proofs
namespace Go.Ae
open Go.Proofs Go.Lib
def BT(n:Int):MM:=⟨(Lib.itoa n).toArray⟩
def oQ{C:Bn}{S:AD}(hW:Wf C S):Lib.TabIs Tryz.prog S.w "internal/strconv.uint64pow10" .u64 Lib.pow10Tab:=by
 obtain⟨_,T,z,h⟩:=hW.gp.tab;have hg:Tryz.prog.globalNamed "internal/strconv.uint64pow10" =some 0:=by kernel_rfl
 have h':S.w.heap[0]? =some (.cells oP T z):=h;unfold Lib.TabIs World.var?;rw[hg];simp only[E7,h'];rfl
def Tz{C:Bn}{S:AD}(hW:Wf C S){W':World}(Q:S.w.heap.size<=W'.heap.size)(ab:W'.os=S.w.os)(ht:W'.tape=S.w.tape)(O:W'.output=S.w.output)(aa:S.w.drawn<=W'.drawn)(hk: ∀b,b<S.w.heap.size->W'.heap[b]? =S.w.heap[b]?):
 ∃(Z:Bn) (S1:AD),Z.w=S.w/\Z.ok=S.ok/\(∀b,¬Z.M b)/\Wf Z S1/\S1.w=W':=by
 refine⟨⟨S.w,λ_=>False,S.ok,0,λ_=>none,λ_=>none,[]⟩,⟨λ_=>none,S.ok,λ_=>none,W'⟩,rfl,rfl,λ_ h=>h,?_,rfl⟩;exact⟨ab,ht,O,aa,Q,λb hb _=>hk b hb,λ_ h=>h,λ_ h=> .inl h,λb hb=>ET (hW.oks b hb) Q,λo e z=>(by cases z),λo e l z=>(by cases z),λo o' e e' l l' z=>(by cases z),hW.glN λ_ h=>h.elim⟩
def fmt_.fv(a:Int×Int):MM:=(λn _=>BT n) (a.1) (a.2)
def fmt_.row:A8:=Cj (b2 qI qI) rT (λa=> -9223372036854775808<=a.1/\a.1<=9223372036854775807/\a.2=10) fmt_.fv
def fmt_.q:=Cf (R:=fmt_.row) rfl
def fmt_.ok:AE 166 fmt_.row:=by
 refine Quy (by kernel_rfl) (b2 qI qI).l rT.l λa O C S vs RR hW Q z=> ?_
 obtain⟨n,b⟩:=a;obtain⟨h1,h2,h3⟩:=O;simp only at h1 h2 h3;subst h3;simp only[b2,qI,FQ,Jr,rd] at Q;obtain⟨v0,r0,hv,rfl,v1,r1,rfl,rfl,rfl⟩:=Q;have Z:vs= #[.int .i64 n,.int .i64 10]:=by apply Zfc;simpa using hv
 subst Z;refine (Any.strconv_FormatInt_10 Tryz.fmtL n h1 h2 S.w (oQ hW)).mono ?_;rintro e w' ⟨rfl,k,os,rfl⟩;obtain⟨C0,S1,e1,e2,e3,e4,e5⟩:=Tz hW (W':=Sort.grow (S.w.drewN k) os) (by simp[Sort.grow]) rfl rfl rfl (ZeG _ _) (λb hb=>by
  simp only[Sort.grow];rw[Zei (by simpa using hb)]
  rfl)
 have:=z (.string (BT n)) C0 S1 (.str (BT n)) e1 e2 e3 e4 rfl (by simp only[rd])
 rw[e5] at this;exact this
def RJ{s:UInt8}: ∀{a b r q:List UInt8},(∀c∈a,c≠s)->(∀c∈b,c≠s)->a++s::r=b++s::q->a=b/\r=q
 |[],[],r,q,_,_,h=>by simpa using h
 |[],y::b,r,q,_,O,h=>by
  simp only[E5,BZ,YG] at h;exact absurd h.1.symm (O y (CP ..))
 |x::a,[],r,q,z,_,h=>by
  simp only[E5,BZ,YG] at h;exact absurd h.1 (z x (CP ..))
 |x::a,y::b,r,q,z,O,h=>by
  simp only[BZ,YG] at h;obtain⟨Z,h2⟩:=RJ (λc Q=>z c (Ah _ Q)) (λc Q=>O c (Ah _ Q)) h.2;exact⟨by rw[h.1,Z],h2⟩
def cO(l:List UInt8):Nat:=l.foldl (λa c=>10*a+(c.toNat - 48)) 0
def uP{d:Nat}(h:d<10):(UInt8.ofNat (48+d)).toNat=48+d:=by
 rcases (by omega:d=0\/d=1\/d=2\/d=3\/d=4\/d=5\/d=6\/d=7\/d=8\/d=9) with rfl|rfl|rfl|rfl|rfl|rfl|rfl|rfl|rfl|rfl<;>rfl
def RI: ∀(n u:Nat),u<=n->cO (decDigits u)=u/\(∀c∈decDigits u,48<=c.toNat/\c.toNat<=57)/\decDigits u≠[]
 |0,u,h=>by
  obtain rfl:u=0:=auOm;rw[decDigits,dif_pos auOm];refine⟨auDe,λc z=> ?_,auSi⟩;rw[Am] at z;subst z;decide
 |n+1,u,h=>by
  rw[decDigits];split
  .rename_i O
   have:=uP O
   refine⟨by simp only[cO,Fu,M1,this];omega,λc z=> ?_,auSi⟩;rw[Am] at z;subst z;omega
  .rename_i O;obtain⟨Q,Z,h3⟩:=RI n (u/10) auOm
   have:=uP (d:=u % 10) auOm
   refine⟨?_,λc z=> ?_,auSi⟩
   .simp only[cO] at Q;simp only[cO,eJ,Fu,M1,Q,this];omega
   .rcases BO.1 z with z|z
    .exact Z c z
    .rw[Am] at z;subst z;omega
def MG{u v:Nat}(h:decDigits u=decDigits v):u=v:=by
 have z:=(RI u u (BN _)).1;have O:=(RI v v (BN _)).1;rw[h] at z;omega
def OK{m n:Int}(h:itoa m=itoa n):m=n:=by
 unfold itoa at h;have hd: ∀u,decDigits u=45::decDigits u->False:=λu O=>by
  have:=eG List.length O
  simp at this
 have z: ∀u v,¬(45::decDigits u=decDigits v):=λu v e=>by
  have:=(RI v v (BN _)).2.1 45 (by rw[<-e];exact CP ..)
  exact absurd this.1 auDe
 split at h<;>split at h
 .have:=MG (ZeY h).2
  omega
 .exact absurd h (z _ _)
 .exact absurd h.symm (z _ _)
 .have:=MG h
  omega
def Nh{n:Int}(h0: -9223372036854775808<=n)(z:n<=9223372036854775807):(itoa n).length<=21:=itoa_length_le n h0 z
def dcm_.fv(a:Int):MM:=(BT) a
def dcm_.row:A8:=Cj (b1 qI) rT (λa=> -9223372036854775808<=a/\a<=9223372036854775807) dcm_.fv
def dcm_.q:=Cf (R:=dcm_.row) rfl
def dcm_.ok:AE 129 dcm_.row:=by
 refine EK (tC fmt_.ok tN) Tryz.func129 ?_;intro a z;simp only[Tryz.f129];simp only[ZA,simprocAttr,Aa,dcm_.fv,fmt_.q,fmt_.fv,D.sc,D.scs,AO];exact z
def CN{n:Int}(h0: -9223372036854775808<=n)(z:n<=9223372036854775807):(BT n).size<=21:=Nh h0 z
end Go.Ae
namespace Go.Ae
open Go.Proofs
def jK(p:AR)(k:Int):AR×AR:=(⟨p.X/k,p.Y/k⟩,⟨p.X % k,p.Y % k⟩)
def l02Index.fv(a:AI×Int):Bool:=(λs t=>B7 t 0 (s.Tiles.length - 1)) (a.1) (a.2)
def l02Index.row:A8:=vK (b2 (qP 2 AI.d_le) qI) rB (λa=>True) l02Index.fv
def l02Index.q:=Bg (R:=l02Index.row) rfl
def l02Index.ok:AE 98 l02Index.row:=by
 refine vw (tC l00In.ok tN) Tryz.func98 ?_;intro a z;simp only[Tryz.f98];simp only[ZA,simprocAttr,l02Index.fv,l00In.q,l00In.fv];intro h;rw[AG auOm auOm]
def isTile.fv(a:AI×Int):Bool:=(λs t=>B7 t 0 (s.Tiles.length - 1)) (a.1) (a.2)
def isTile.row:A8:=vK (b2 (qR AI.d_le) qI) rB (λa=>True) isTile.fv
def isTile.q:=Bg (R:=isTile.row) rfl
def isTile.ok:AE 155 isTile.row:=by
 refine vw (tC isIndex.ok tN) Tryz.func155 ?_;intro a z;simp only[Tryz.f155];simp only[ZA,simprocAttr,isTile.fv,isIndex.q,isIndex.fv];intro h;simp only[I64];omega
def opposite_.fv(a:Int):Int:=(λd=>(d+2) % 4) a
def opposite_.row:A8:=vK (b1 qI) rI (λa=>0<=a/\a<=3) opposite_.fv
def opposite_.q:=Bg (R:=opposite_.row) rfl
def opposite_.ok:AE 201 opposite_.row:=by
 refine vw tN Tryz.func201 ?_;intro a z;simp only[Tryz.f201];simp only[ZA,simprocAttr,opposite_.fv];rw[AG auOm auOm]
 have:(0:Int)<=a+2:=auOm
 rw[Ix this]
def l01Dir.fv(a:Int):Bool:=(λd=>B7 d 0 3) a
def l01Dir.row:A8:=vK (b1 qI) rB (λa=>True) l01Dir.fv
def l01Dir.q:=Bg (R:=l01Dir.row) rfl
def l01Dir.ok:AE 192 l01Dir.row:=by
 refine vw (tC l00In.ok tN) Tryz.func192 ?_;intro a z;simp only[Tryz.f192];simp only[ZA,simprocAttr,l01Dir.fv,l00In.q,l00In.fv]
def Opposite_.fv(a:Int):Int:=(λd=>(d+2) % 4) a
def Opposite_.row:A8:=vK (b1 qI) rI (λa=>0<=a/\a<=3) Opposite_.fv
def Opposite_.q:=Bg (R:=Opposite_.row) rfl
def Opposite_.ok:AE 171 Opposite_.row:=by
 refine vw (tC l01Dir.ok tN) Tryz.func171 ?_;intro a z;simp only[Tryz.f171];simp only[ZA,simprocAttr,Opposite_.fv,l01Dir.q,l01Dir.fv];have h:B7 a 0 3=true:=by simp[B7,z]
 rw[h,Be auSi,AG auOm auOm]
 have:(0:Int)<=a+2:=auOm
 rw[Ix this]
def l07Temperature.fv(a:Int):Bool:=(λt=>B7 t 1 16) a
def l07Temperature.row:A8:=vK (b1 qI) rB (λa=>True) l07Temperature.fv
def l07Temperature.q:=Bg (R:=l07Temperature.row) rfl
def l07Temperature.ok:AE 52 l07Temperature.row:=by
 refine vw (tC l00In.ok tN) Tryz.func52 ?_;intro a z;simp only[Tryz.f52];simp only[ZA,simprocAttr,l07Temperature.fv,l00In.q,l00In.fv]
def isTemperature.fv(a:Int):Bool:=(λt=>B7 t 1 16) a
def isTemperature.row:A8:=vK (b1 qI) rB (λa=>True) isTemperature.fv
def isTemperature.q:=Bg (R:=isTemperature.row) rfl
def isTemperature.ok:AE 113 isTemperature.row:=by
 refine vw (tC within_.ok tN) Tryz.func113 ?_;intro a z;simp only[Tryz.f113];simp only[ZA,simprocAttr,isTemperature.fv,within_.q,within_.fv]
def FB(s:AI):Prop:=s.Glues.length<=140737488355328/\(∀t∈s.Tiles,t.Sides.length=4/\ ∀g∈t.Sides,0<=g/\g<=s.Glues.length)/\ ∀g∈s.Glues,1<=g.Strength/\g.Strength<=4
def qN(s:AI)(z O:Int):Int:=((((s.Tiles[z.toNat]?).map Tile.Sides).getD [])[O.toNat]?).getD 0
def Sc(s:AI)(g:Int):Int:=if 0<g then ((s.Glues[(g - 1).toNat]?).map Ac.Strength).getD 0 else 0
def WR(s:AI)(a z b:Int):Int:=if qN s a z=qN s b ((z+2) % 4) then Sc s (qN s a z) else 0
def iV(s:AI)(t:Int):Prop:=0<=t/\t<s.Tiles.length
def Th(d:Int):Prop:=0<=d/\d<=3
def yH{s:AI}{t d:Int}{x:Tile}{g:Int}(z:s.Tiles[t.toNat]? =some x)(hg:x.Sides[d.toNat]? =some g):qN s t d=g:=by
 simp[qN,z,hg]
def MX{s:AI}{g:Int}{x:Ac}(h:0<g)(z:s.Glues[(g - 1).toNat]? =some x):Sc s g=x.Strength:=by
 simp only[Sc,Bt h,z];rfl
def Zz{s:AI}{g:Int}(h: ¬0<g):Sc s g=0:=by
 simp[Sc,h]
def wY{s:AI}(h:FB s){t:Int}{x:Tile}(z:s.Tiles[t.toNat]? =some x):x.Sides.length=4:=(h.2.1 x (Bj z)).1
def Qvv{s:AI}(h:FB s){t d:Int}{x:Tile}{g:Int}(z:s.Tiles[t.toNat]? =some x)(hg:x.Sides[d.toNat]? =some g):0<=g/\g<=s.Glues.length:=(h.2.1 x (Bj z)).2 g (Bj hg)
def l02Strength.fv(a:AI×Int):Int:=(Sc) (a.1) (a.2)
def l02Strength.row:A8:=vK (b2 (qP 2 AI.d_le) qI) rI (λa=>0<=a.2/\a.2<=a.1.Glues.length/\a.1.Glues.length<=140737488355328) l02Strength.fv
def l02Strength.q:=Bg (R:=l02Strength.row) rfl
def l02Strength.ok:AE 172 l02Strength.row:=by
 refine vw tN Tryz.func172 ?_;intro a z;simp only[Tryz.f172];simp only[ZA,simprocAttr,l02Strength.fv];obtain⟨Q,Z,h3⟩:=z
 split<;>rename_i h
 .simp[Sc,h]
 .rw[AG auOm auOm];exact⟨auOm,auOm,λx O=>(MX auOm O).symm⟩
def strength_.fv(a:AI×Int×Int):Int:=(λs t d=>Sc s (qN s t d)) (a.1) (a.2.1) (a.2.2)
def strength_.row:A8:=vK (b3 (qR AI.d_le) qI qI) rI (λa=>FB a.1/\iV a.1 a.2.1/\Th a.2.2) strength_.fv
def strength_.q:=Bg (R:=strength_.row) rfl
def strength_.ok:AE 202 strength_.row:=by
 refine vw tN Tryz.func202 ?_;intro a z;simp only[Tryz.f202];simp only[ZA,simprocAttr,strength_.fv];obtain⟨O,Z,h3⟩:=z;refine⟨Z.1,Z.2,λx Q=>⟨h3.1,?_,λg hg=> ?_⟩⟩
 .rw[wY O Q];have:=h3.2;omega
 .have aa:=Qvv O Q hg
  have:=O.1
  rw[yH Q hg]
  split<;>rename_i h
  .rw[AG auOm auOm];exact⟨auOm,auOm,λy hy=>(MX h hy).symm⟩
  .exact (Zz h).symm
def bond_.rc:D->Option (Int):=Eu
def bond_.re:Int->D:=D.int .i64
def bond_.rle: ∀d b,bond_.rc d=some b->Le d (bond_.re b):=Xy
def bond_.fv(a:AI×Int×Int×Int):Int:=(WR) (a.1) (a.2.1) (a.2.2.1) (a.2.2.2)
def bond_.row:A8:=vK (b4 (qR AI.d_le) qI qI qI) (RK.mk bond_.rc bond_.re bond_.rle) (λa=>FB a.1/\iV a.1 a.2.1/\Th a.2.2.1/\iV a.1 a.2.2.2) bond_.fv
def bond_.q:=Bg (R:=bond_.row) rfl
def bond_.ok:AE 186 bond_.row:=by
 refine vw (tC opposite_.ok (tC strength_.ok tN)) Tryz.func186 ?_;intro a O;simp only[Tryz.f186];simp only[ZA,simprocAttr,bond_.fv,bond_.rc,opposite_.q,opposite_.fv,strength_.q,strength_.fv];obtain⟨Q,Z,z,h4⟩:=O;have h5:=z.1;have h6:=z.2;refine⟨Z.1,Z.2,λx hx=>⟨z.1,by rw[wY Q hx];omega,λg hg=>⟨h4.1,h4.2,λy hy=>⟨z,auOm,by rw[wY Q hy];omega,λg' aa=> ?_⟩⟩⟩⟩;simp only[WR,yH hx hg,yH hy aa];split
 .exact⟨⟨Q,Z,z⟩,rfl⟩
 .rfl
def l02Bond.fv(a:AI×Int×Int×Int):Int:=(WR) (a.1) (a.2.1) (a.2.2.1) (a.2.2.2)
def l02Bond.row:A8:=vK (b4 (qP 2 AI.d_le) qI qI qI) rI (λa=>FB a.1/\iV a.1 a.2.1/\Th a.2.2.1/\iV a.1 a.2.2.2) l02Bond.fv
def l02Bond.q:=Bg (R:=l02Bond.row) rfl
def l02Bond.ok:AE 145 l02Bond.row:=by
 refine vw (tC Opposite_.ok (tC l02Strength.ok tN)) Tryz.func145 ?_;intro a Q;simp only[Tryz.f145];simp only[ZA,simprocAttr,l02Bond.fv,Opposite_.q,Opposite_.fv,l02Strength.q,l02Strength.fv];obtain⟨z,h2,Z,h4⟩:=Q;have h5:=Z.1;have h6:=Z.2;refine⟨h2.1,h2.2,λx hx=>⟨Z.1,by rw[wY z hx];omega,λg hg=>⟨h4.1,h4.2,λy hy=>⟨Z,auOm,by rw[wY z hy];omega,λg' aa=> ?_⟩⟩⟩⟩;have O:=Qvv z hx hg
 have:=z.1
 simp only[WR,yH hx hg,yH hy aa]
 split<;>rename_i h
 .first|rw[Be h]|rfl
 .rw[Bt (Ch.1 h)];exact⟨⟨O.1,O.2,z.1⟩,rfl⟩
def FF:Option AR->List AA->Bool
 |_,[]=>true
 |q,x::r=>Kz x.At && (B7 x.Tile 0 159 && ((match q with|none=>true|some p=>Ds p x.At) && FF (some x.At) r))
def Qbq(q:Option AR)(x:AA)(r:List AA):FF q (x::r)=(Kz x.At && (B7 x.Tile 0 159 && ((match q with|none=>true|some p=>Ds p x.At) && FF (some x.At) r))):=by cases q<;>rfl
def Qik(q:Option AR):FF q []=true:=by cases q<;>rfl
def H7(l:List AA)(k:Nat):Option AR:=if k=0 then none else (l[k - 1]?).map (·.At)
def Qn2{l:List AA}{k:Nat}{x:AA}(z:l[k]? =some x):H7 l (k+1)=some x.At:=by
 simp[H7,z]
def FH{A:Type}{l:List A}{k:Nat}{x:A}(z:l[k]? =some x):l.drop k=x::l.drop (k+1):=by
 have O:k<l.length:=(Bi.1 z).1;rw[D1 O];rw[Bk O] at z;rw[AJ z]
def hasForm_.fv(a:AP):Bool:=(λa=>FF none a.Tiles && decide (a.Tiles.length<=500)) a
def hasForm_.row:A8:=vK (b1 (qR AP.d_le)) rB (λa=>True) hasForm_.fv
def hasForm_.q:=Bg (R:=hasForm_.row) rfl
def hasForm_.ok:AE 152 hasForm_.row:=by
 refine vw (tC ValidPoint.ok (tC isIndex.ok (tC impl_LessPoint.ok tN))) Tryz.func152 ?_;intro a ab;simp only[Tryz.f152];simp only[ZA,simprocAttr,hasForm_.fv];intro aa;refine AY.old ⟨{k:Nat//k<=a.Tiles.length/\FF (H7 a.Tiles k) (a.Tiles.drop k)=FF none a.Tiles},λk=>⟨[(8,.im (.int .i64 k.1)),(7,.im (.int .i64 a.Tiles.length)),(6,.im (.sl false 3 (a.Tiles.map AA.c))),(1,.ptr 0 0),(2,.im (.bool false))],[(0,(true,.cells 44 [.im (.sl false 3 (a.Tiles.map AA.c))]))],1⟩,λk=>a.Tiles.length - k.1,λk=>⟨by simp[ZG],BN _⟩,⟨⟨0,by simp[H7]⟩,by simp only[ZA,simprocAttr,sub]⟩,λk=> ?_⟩;obtain⟨k,ac,O⟩:=k;simp only[ZA,simprocAttr,ValidPoint.q,ValidPoint.fv,isIndex.q,isIndex.fv,impl_LessPoint.q,impl_LessPoint.fv,sub,AL];refine⟨λhk=>⟨hk,λx hx=> ?_⟩,λhk=> ?_⟩
 .rw[FH hx,Qbq] at O;have Q:(Kz x.At && (B7 x.Tile 0 159 && (match H7 a.Tiles k with|none=>true|some p=>Ds p x.At)))=false->false=(FF none a.Tiles && decide (a.Tiles.length<=500)):=by
   intro h;rw[<-O];revert h;cases Kz x.At<;>cases B7 x.Tile 0 159<;>cases (match H7 a.Tiles k with|none=>true|some p=>Ds p x.At)<;>simp
  have z:(Kz x.At && (B7 x.Tile 0 159 && (match H7 a.Tiles k with|none=>true|some p=>Ds p x.At)))=true->FF (H7 a.Tiles (k+1)) (a.Tiles.drop (k+1))=FF none a.Tiles:=by
   intro h;rw[<-O,Qn2 hx];simp only[B1] at h;simp[h.1,h.2.1,h.2.2]
  refine⟨λZ=>⟨by simp[I64],⟨λh2=>⟨λh3=> ?_,λh3=> ?_⟩,λh2=>Q (by simp[h2])⟩⟩,λZ=>Q (by simp[Z])⟩
  .rw[AG (x:=(k:Int) - 1) auOm auOm];refine⟨auOm,auOm,λy hy=> ?_⟩;have hp:H7 a.Tiles k=some y.At:=by
    have e:((k:Int) - 1).toNat=k - 1:=auOm;rw[e] at hy;simp[H7,hy,show k≠0 by omega]
   rw[hp] at Q z;exact⟨λh4=>Q (by simp[h4]),λh4=>FG hk auOm ⟨auOm,z (by simp[Z,h2];simpa using h4)⟩⟩
  .have hp:H7 a.Tiles k=none:=by simp[H7,show k=0 by omega]
   rw[hp] at z;exact FG hk auOm ⟨auOm,z (by simp[Z,h2])⟩
 .rw[Bm auOm,Qik] at O;simp only[<-O,CZ]
  grind
def l03Form.fv(a:AP):Bool:=(λa=>FF none a.Tiles && decide (a.Tiles.length<=500)) a
def l03Form.row:A8:=vK (b1 (qP 1 AP.d_le)) rB (λa=>True) l03Form.fv
def l03Form.q:=Bg (R:=l03Form.row) rfl
def l03Form.ok:AE 97 l03Form.row:=by
 refine vw (tC l01Point.ok (tC l00In.ok (tC l_LessPoint.ok tN))) Tryz.func97 ?_;intro a ab;simp only[Tryz.f97];simp only[ZA,simprocAttr,l03Form.fv];intro aa;simp only[AL];refine⟨λh=> ?_,λh=> ?_⟩
 .have: ¬a.Tiles.length<=500:=auOm
  simp[this]
 refine AY.old ⟨{k:Nat//k<=a.Tiles.length/\FF (H7 a.Tiles k) (a.Tiles.drop k)=FF none a.Tiles},λk=>⟨[(3,.im (.int .i64 k.1)),(0,.ptr 0 0),(2,.im (.bool false))],[(0,(false,.view [.sl false 3 (a.Tiles.map AA.c)]))],1⟩,λk=>a.Tiles.length - k.1,λk=>⟨by simp[ZG],BN _⟩,⟨⟨0,by simp[H7]⟩,by simp only[ZA,simprocAttr,sub]⟩,λk=> ?_⟩;obtain⟨k,ac,O⟩:=k;simp only[ZA,simprocAttr,l01Point.q,l01Point.fv,l00In.q,l00In.fv,l_LessPoint.q,l_LessPoint.fv,sub,AL];intro _;refine⟨λhk=>⟨hk,λx hx=> ?_⟩,λhk=> ?_⟩
 .rw[FH hx,Qbq] at O;have Q:(Kz x.At && (B7 x.Tile 0 159 && (match H7 a.Tiles k with|none=>true|some p=>Ds p x.At)))=false->false=(FF none a.Tiles && decide (a.Tiles.length<=500)):=by
   intro h;rw[<-O];revert h;cases Kz x.At<;>cases B7 x.Tile 0 159<;>cases (match H7 a.Tiles k with|none=>true|some p=>Ds p x.At)<;>simp
  have z:(Kz x.At && (B7 x.Tile 0 159 && (match H7 a.Tiles k with|none=>true|some p=>Ds p x.At)))=true->FF (H7 a.Tiles (k+1)) (a.Tiles.drop (k+1))=FF none a.Tiles:=by
   intro h;rw[<-O,Qn2 hx];simp only[B1] at h;simp[h.1,h.2.1,h.2.2]
  refine⟨λZ=>⟨λh2=>⟨λh3=> ?_,λh3=> ?_⟩,λh2=>Q (by simp[h2])⟩,λZ=>Q (by simp[Z])⟩
  .rw[AG (x:=(k:Int) - 1) auOm auOm];refine⟨auOm,auOm,λy hy=> ?_⟩;have hp:H7 a.Tiles k=some y.At:=by
    have e:((k:Int) - 1).toNat=k - 1:=auOm;rw[e] at hy;simp[H7,hy,show k≠0 by omega]
   rw[hp] at Q z;exact⟨λh4=>Q (by simp[h4]),λh4=>FG hk auOm ⟨auOm,z (by simp[Z,h2];simpa using h4)⟩⟩
  .have hp:H7 a.Tiles k=none:=by simp[H7,show k=0 by omega]
   rw[hp] at z;exact FG hk auOm ⟨auOm,z (by simp[Z,h2])⟩
 .rw[Bm auOm,Qik] at O;simp only[<-O,CZ]
  grind
def KH(a b:AP):a=b↔a.Tiles=b.Tiles:=by
 obtain⟨x⟩:=a;obtain⟨y⟩:=b;simp
def Qrb(x y:AA):(x.At.X==y.At.X && (x.At.Y==y.At.Y && x.Tile==y.Tile))=decide (x=y):=by
 obtain⟨⟨a,b⟩,c⟩:=x;obtain⟨⟨d,e⟩,f⟩:=y;rw[Iw];simp[FJ]
def l03Same.fv(a:AP×AP):Bool:=(λa b=>decide (a=b)) (a.1) (a.2)
def l03Same.row:A8:=vK (b2 (qP 1 AP.d_le) (qP 1 AP.d_le)) rB (λa=>True) l03Same.fv
def l03Same.q:=Bg (R:=l03Same.row) rfl
def l03Same.ok:AE 58 l03Same.row:=by
 refine vw tN Tryz.func58 ?_;intro a aa;simp only[Tryz.f58];simp only[ZA,simprocAttr,l03Same.fv];simp only[AL];refine⟨λO=> ?_,λO=> ?_⟩
 .have:a.1≠a.2:=λh=>O (by rw[h])
  simp[this]
 have O:a.1.Tiles.length=a.2.Tiles.length:=auOm;refine AY.old ⟨{k:Nat//k<=a.1.Tiles.length/\a.1.Tiles.take k=a.2.Tiles.take k},λk=>⟨[(5,.im (.int .i64 k.1)),(4,.im (.bool false)),(0,.ptr 0 0),(1,.ptr 1 0)],[(0,(false,.view [.sl false 3 (a.1.Tiles.map AA.c)])),(1,(false,.view [.sl false 3 (a.2.Tiles.map AA.c)]))],2⟩,λk=>a.1.Tiles.length - k.1,λk=>⟨by simp[ZG],BN _⟩,⟨⟨0,auSi⟩,by simp only[ZA,simprocAttr,sub]⟩,λk=> ?_⟩;obtain⟨k,Z,z⟩:=k;simp only[ZA,simprocAttr,sub,AL];intro h1;refine⟨λQ=>⟨Q,λx hx=>⟨auOm,λy hy=> ?_⟩⟩,λQ=> ?_⟩
 .obtain⟨g1,g2⟩:=Lh O Z z hx hy;simp only[ZA,Qrb];refine⟨λh=> ?_,λh=>FG Q h1 ⟨auOm,g1 (by simpa using h)⟩⟩
  have:=g2 (by simpa using h)
  simp[KH,this]
 .rw[BE auOm,BE auOm] at z;simp[KH,z]
def EqualP.fv(a:(List AA)×(List AA)):Bool:=(λa b=>decide (a=b)) (a.1) (a.2)
def EqualP.row:A8:=vK (b2 (qS AA.d_le AA.c_n) (qS AA.d_le AA.c_n)) rB (λa=>True) EqualP.fv
def EqualP.q:=Bg (R:=EqualP.row) rfl
def EqualP.ok:AE 127 EqualP.row:=by
 refine vw tN Tryz.func127 ?_;intro a aa;simp only[Tryz.f127];simp only[ZA,simprocAttr,EqualP.fv];intro h1 h2;simp only[AL];refine⟨λO=> ?_,λO=> ?_⟩
 .have:a.1≠a.2:=λh=>O (by rw[h])
  simp[this]
 have O:a.1.length=a.2.length:=auOm;intro _;refine AY.old ⟨{k:Nat//k<=a.1.length/\a.1.take k=a.2.take k},λk=>⟨[(13,.im (.int .i64 k.1)),(12,.im (.int .i64 a.1.length)),(11,.im (.sl false 3 (a.1.map AA.c))),(4,.im (.bool false)),(0,.im (.sl false 3 (a.1.map AA.c))),(1,.im (.sl false 3 (a.2.map AA.c)))],[],0⟩,λk=>a.1.length - k.1,λk=>⟨by simp[ZG],BN _⟩,⟨⟨0,auSi⟩,by simp only[ZA,simprocAttr,sub]⟩,λk=> ?_⟩;obtain⟨k,Z,z⟩:=k;simp only[ZA,simprocAttr,sub,AL,Qrb];refine⟨λQ=>⟨Q,λx hx=>⟨auOm,λy hy=> ?_⟩⟩,λQ=> ?_⟩
 .obtain⟨g1,g2⟩:=Lh O Z z hx hy;refine⟨λh=> ?_,λh=>FG Q h1 ⟨auOm,g1 (by simpa using h)⟩⟩
  have:=g2 (by simpa using h)
  simp[this]
 .rw[BE auOm,BE auOm] at z;simp[z]
def BC{A:Type}(p:A->Bool):Nat->List A->Int
 |_,[]=> -1
 |i,x::r=>if p x=true then i else BC p (i+1) r
def l02Glue.fv(a:AI×MM):Int:=(λs n=>BC (λg=>decide (g.Name=n)) 0 s.Glues+1) (a.1) (a.2)
def l02Glue.row:A8:=vK (b2 (qP 2 AI.d_le) qT) rI (λa=>True) l02Glue.fv
def l02Glue.q:=Bg (R:=l02Glue.row) rfl
def l02Glue.ok:AE 95 l02Glue.row:=by
 refine vw tN Tryz.func95 ?_;intro a Q;simp only[Tryz.f95];simp only[ZA,simprocAttr,l02Glue.fv];refine AY.old ⟨{k:Nat//k<=a.1.Glues.length/\BC (λg:Ac=>decide (g.Name=a.2)) k (a.1.Glues.drop k)=BC (λg:Ac=>decide (g.Name=a.2)) 0 a.1.Glues},λk=>⟨[(5,.im (.int .i64 k.1)),(4,.im (.int .i64 0)),(0,.ptr 0 0),(1,.im (.str a.2))],[(0,(false,.view [.sl false 2 (a.1.Glues.map Ac.c),.sl false 2 (a.1.Tiles.map Tile.c)]))],1⟩,λk=>a.1.Glues.length - k.1,λk=>⟨by simp[ZG],BN _⟩,⟨⟨0,auSi⟩,by simp only[ZA,simprocAttr,sub]⟩,λk=> ?_⟩;obtain⟨k,Z,z⟩:=k;simp only[ZA,simprocAttr,sub,AL];intro hn;refine⟨λO=>⟨O,λx hx=> ?_⟩,λO=> ?_⟩
 .rw[FH hx,BC] at z;refine⟨λh=> ?_,λh=>FG O hn ⟨auOm,by rw[<-z,Be (by simpa using h)]⟩⟩;rw[Bt (by simpa using h)] at z;rw[<-z,AG auOm auOm]
 .rw[Bm auOm,BC] at z;omega
def VA1.fv(a:AA×AI):Bool:=(λx s=> !B7 x.Tile 0 (s.Tiles.length - 1)) (a.1) (a.2)
def VA1.row:A8:=vK (b2 (qR AA.d_le) (qP 2 AI.d_le)) rB (λa=>True) VA1.fv
def VA1.q:=Bg (R:=VA1.row) rfl
def VA1.ok:AE 154 VA1.row:=by
 refine vw (tC isTile.ok tN) Tryz.func154 ?_;intro a z;simp only[Tryz.f154];simp only[ZA,simprocAttr,VA1.fv,isTile.q,isTile.fv]
def IdxVA.ar:List PK->Option ((List AA)×AI)
 |[.val (.sl _ _ Q),.val (.fn 154 [] [.ref z])]=>(Ba AA.d Q).bind λZ=>(AI.d (z.take 2)).bind λO=>some (Z,O)
 |_=>none
def IdxVA.ae(a:(List AA)×AI):List PK:=[.val (.sl false 3 (a.1.map AA.c)),.val (.fn 154 [] [.ref (AI.c a.2)])]
def IdxVA.le: ∀O a,IdxVA.ar O=some a->Cu O (IdxVA.ae a):=by
 intro O a h;unfold IdxVA.ar at h;split at h
 .simp only[DG,AS] at h;obtain⟨Z,h0,Q,z,rfl⟩:=h;exact⟨Fz (Fs AA.d_le _ _ h0) (by simp only[BY];rintro r ⟨y,_,rfl⟩;rfl),Xc ⟨jS (Ii.trans_take (AI.d_le _ _ z)),trivial⟩,trivial⟩
 .cases h
def IdxVA.fv(a:(List AA)×AI):Int:=(λl s=>BC (λx=> !B7 x.Tile 0 (s.Tiles.length - 1)) 0 l) (a.1) (a.2)
def IdxVA.row:A8:=Ei IdxVA.ar (λa=>True) (λa=>(D.int .i64) (IdxVA.fv a))
def IdxVA.q:=vq IdxVA.row rfl
def IdxVA.ok:AE 180 IdxVA.row:=by
 refine XM Fc (tC VA1.ok tN) Tryz.func180 rfl (by kernel_rfl) (by kernel_rfl) (ar:=IdxVA.ar) (ae:=IdxVA.ae) IdxVA.le (n:=2) (λ_=>rfl) auDe (rc:=(Eu)) (re:=(D.int .i64)) (Xy) (f:=IdxVA.fv) ?_;intro a Q;simp only[Tryz.f180];simp only[ZA,simprocAttr,IdxVA.ae,IdxVA.fv];intro hn;refine AY.old ⟨{k:Nat//k<=a.1.length/\BC (λx:AA=> !B7 x.Tile 0 (a.2.Tiles.length - 1)) k (a.1.drop k)=BC (λx:AA=> !B7 x.Tile 0 (a.2.Tiles.length - 1)) 0 a.1},λk=>⟨[(8,.im (.int .i64 k.1)),(7,.im (.int .i64 a.1.length)),(6,.im (.sl false 3 (a.1.map AA.c))),(4,.im (.int .i64 0)),(0,.im (.sl false 3 (a.1.map AA.c))),(1,.im (.fn 154 [] [.ref (AI.c a.2)]))],[],0⟩,λk=>a.1.length - k.1,λk=>⟨by simp[ZG],BN _⟩,⟨⟨0,auSi⟩,by simp only[ZA,simprocAttr,sub]⟩,λk=> ?_⟩;obtain⟨k,Z,z⟩:=k;simp only[ZA,simprocAttr,VA1.q,VA1.fv,sub,AL];refine⟨λO=>⟨O,λx hx=> ?_⟩,λO=> ?_⟩
 .rw[FH hx,BC] at z;refine⟨λh=> ?_,λh=>FG O hn ⟨auOm,by rw[<-z,Be (by simpa using h)]⟩⟩;rw[Bt (by simpa using h)] at z;exact z
 .rw[Bm auOm,BC] at z;exact z
def Qyg{A:Type}(p:A->Bool): ∀(l:List A) (i:Nat),(0<=BC p i l↔l.any p=true)/\ -1<=BC p i l/\BC p i l<(i+l.length:Nat)\/(l=[]/\BC p i l= -1):=by
 intro l;induction l with
 |nil=>intro i;exact .inr ⟨rfl,rfl⟩
 |cons x r ih=>
  intro i;refine .inl ?_;simp only[BC,List.any_cons,Em]
  split<;>rename_i h
  .simp[h];omega
  .rcases ih (i+1) with ⟨O,z,Q⟩|⟨rfl,z⟩
   .simp only[kN] at h;rw[h,Dv];exact⟨O,z,auOm⟩
   .simp[z,h];omega
def yK{A:Type}(p:A->Bool)(l:List A):decide (0<=BC p 0 l)=l.any p:=by
 rw[Iw];rcases Qyg p l 0 with ⟨z,_⟩|⟨rfl,O⟩
 .simpa using z
 .simp[O]
def ContVA.ar:List PK->Option ((List AA)×AI)
 |[.val (.sl _ _ Q),.val (.fn 154 [] [.ref z])]=>(Ba AA.d Q).bind λZ=>(AI.d (z.take 2)).bind λO=>some (Z,O)
 |_=>none
def ContVA.ae(a:(List AA)×AI):List PK:=[.val (.sl false 3 (a.1.map AA.c)),.val (.fn 154 [] [.ref (AI.c a.2)])]
def ContVA.le: ∀O a,ContVA.ar O=some a->Cu O (ContVA.ae a):=by
 intro O a h;unfold ContVA.ar at h;split at h
 .simp only[DG,AS] at h;obtain⟨Z,h0,Q,z,rfl⟩:=h;exact⟨Fz (Fs AA.d_le _ _ h0) (by simp only[BY];rintro r ⟨y,_,rfl⟩;rfl),Xc ⟨jS (Ii.trans_take (AI.d_le _ _ z)),trivial⟩,trivial⟩
 .cases h
def ContVA.fv(a:(List AA)×AI):Bool:=(λl s=>l.any (λx=> !B7 x.Tile 0 (s.Tiles.length - 1))) (a.1) (a.2)
def ContVA.row:A8:=Ei ContVA.ar (λa=>True) (λa=>(D.bool) (ContVA.fv a))
def ContVA.q:=vq ContVA.row rfl
def ContVA.ok:AE 153 ContVA.row:=by
 refine XM Fc (tC IdxVA.ok tN) Tryz.func153 rfl (by kernel_rfl) (by kernel_rfl) (ar:=ContVA.ar) (ae:=ContVA.ae) ContVA.le (n:=2) (λ_=>rfl) auDe (rc:=(QV)) (re:=(D.bool)) (cV) (f:=ContVA.fv) ?_;intro a z;simp only[Tryz.f153];simp only[ZA,simprocAttr,ContVA.ae,ContVA.fv,IdxVA.q,IdxVA.ar,IdxVA.fv];exact yK _ _
def SameAsm.fv(a:AP×AP):Bool:=(λa b=>decide (a=b)) (a.1) (a.2)
def SameAsm.row:A8:=vK (b2 (qR AP.d_le) (qR AP.d_le)) rB (λa=>True) SameAsm.fv
def SameAsm.q:=Bg (R:=SameAsm.row) rfl
def SameAsm.ok:AE 75 SameAsm.row:=by
 refine vw (tC EqualP.ok tN) Tryz.func75 ?_;intro a z;simp only[Tryz.f75];simp only[ZA,simprocAttr,SameAsm.fv,EqualP.q,EqualP.fv];simp only[KH]
def l03Ok.fv(a:AI×AP):Bool:=(λs a=>(FF none a.Tiles && decide (a.Tiles.length<=500)) && a.Tiles.all (λx=>B7 x.Tile 0 (s.Tiles.length - 1))) (a.1) (a.2)
def l03Ok.row:A8:=vK (b2 (qP 2 AI.d_le) (qP 1 AP.d_le)) rB (λa=>True) l03Ok.fv
def l03Ok.q:=Bg (R:=l03Ok.row) rfl
def l03Ok.ok:AE 51 l03Ok.row:=by
 refine vw (tC l03Form.ok (tC l02Index.ok tN)) Tryz.func51 ?_;intro a Z;simp only[Tryz.f51];simp only[ZA,simprocAttr,AP.d,l03Ok.fv,l03Form.q,l03Form.fv];simp only[AL];refine⟨λh=>by simp[h],λh=> ?_⟩;simp only[FM] at h;refine AY.old ⟨{k:Nat//k<=a.2.Tiles.length/\(a.2.Tiles.drop k).all (λx=>B7 x.Tile 0 (a.1.Tiles.length - 1))=a.2.Tiles.all (λx=>B7 x.Tile 0 (a.1.Tiles.length - 1))},λk=>⟨[(5,.im (.int .i64 k.1)),(4,.im (.bool false)),(0,.ptr 0 0),(1,.ptr 1 0)],[(0,(false,.view (AI.c a.1))),(1,(false,.view (AP.c a.2)))],2⟩,λk=>a.2.Tiles.length - k.1,λk=>⟨by simp[ZG],BN _⟩,⟨⟨0,auSi⟩,by simp only[ZA,simprocAttr,sub]⟩,λk=> ?_⟩;obtain⟨k,aa,z⟩:=k;simp only[ZA,simprocAttr,l02Index.q,l02Index.fv,sub,AL];intro hn;refine⟨λQ=>⟨Q,λx hx=> ?_⟩,λQ=> ?_⟩
 .rw[FH hx,E6] at z;refine⟨λO=> ?_,λO=>FG Q hn ⟨auOm,?_⟩⟩
  .rw[O] at z;simp only[Da] at z;rw[h,<-z];rfl
  .simp only[FM] at O;rw[O,CZ] at z;exact z
 .rw[Bm auOm] at z;rw[h,<-z];rfl
end Go.Ae
namespace Go.Ae
open Go.Proofs Go.Lib
def U8(c:UInt8):Bool:=decide (c.toNat<48)||decide (57<c.toNat)
def okN(r:List UInt8):Prop:= ∀c,r.head? =some c->U8 c=false
def RL: ∀{w r:List UInt8},(∀c∈w,U8 c=true)->okN r->(w++r).takeWhile U8=w
 |[],[],_,_=>rfl
 |[],c::r,_,h=>by
  have:=h c rfl
  simp[this]
 |c::w,r,z,h=>by
  have O:=RL (w:=w) (r:=r) (λx Q=>z x (Ah _ Q)) h
  have:=z c (CP ..)
  simp[this,O]
abbrev oZ:=List UInt8×List (List UInt8)
def EA(b:oZ):List (List UInt8):=b.2.map (b.1++ ·)
def Jy(b:oZ):Prop:=(∀c∈b.1,U8 c=true)/\b.2.Nodup/\ ∀r∈b.2,okN r
def iA: ∀(bs:List oZ),(bs.map Prod.fst).Nodup->(∀b∈bs,Jy b)->(bs.flatMap EA).Nodup
 |[],_,_=>by simp
 |b::bs,hn,h=>by
  rw[Br,Xo] at hn;rw[Lz,Hj];obtain⟨h1,h2,h3⟩:=h b (CP ..);refine⟨List.Pairwise.map _ (λa c O e=>O (Zez e)) h2,iA bs hn.2 λx Z=>h x (Ah _ Z),?_⟩;intro x Z y hy e;obtain⟨r,hr,rfl⟩:=BY.1 Z;obtain⟨b',z,hy⟩:=FK.1 hy;obtain⟨r',Q,rfl⟩:=BY.1 hy;obtain⟨g1,g2,g3⟩:=h b' (Ah _ z)
  have:=RL h1 (h3 r hr)
  rw[e,RL g1 (g3 r' Q)] at this;exact hn.1 (BY.2 ⟨b',z,this⟩)
def XU(k:Nat):(∀c∈itoa (k:Int),U8 c=false)/\itoa (k:Int)≠[]:=by
 unfold itoa;rw[Be auOm,Cp];obtain⟨_,z,O⟩:=RI k k (BN _);refine⟨λc Q=> ?_,O⟩
 have:=z c Q
 simp only[U8,ZeU,GU];omega
def XT(k:Nat)(r:List UInt8):okN (itoa (k:Int)++r):=by
 obtain⟨O,Q⟩:=XU k;intro c z;cases h:itoa (k:Int) with
 |nil=>exact absurd h Q
 |cons x t=>
  rw[h] at z;simp at z;subst z;exact O x (by rw[h];exact CP ..)
def aG:List (List UInt8):=[[]]
def Fl(n:Nat):List (List UInt8):=(List.range n).map λ(k:Nat)=>itoa (k:Int)
def nE{w:List UInt8}(h:w.all U8=true):Jy (w,aG):=
 ⟨λc z=>CF.1 h c z,by simp[aG],λr O=>by simp only[aG,Am] at O;subst O;intro c z;cases z⟩
def OM{w:List UInt8}(n:Nat)(h:w.all U8=true):Jy (w,Fl n):=by
 refine⟨λc O=>CF.1 h c O,List.Pairwise.map _ (λa b z e=>z (by have:=OK e;omega)) S5,λr Q=> ?_⟩;obtain⟨k,_,rfl⟩:=BY.1 Q
 have:=XT k []
 rwa [C3] at this
def cK{a b c d:Nat}(h:itoa (a:Int)++95::itoa (b:Int)=itoa (c:Int)++95::itoa (d:Int)):a=c/\b=d:=by
 have z: ∀k:Nat,∀c∈itoa (k:Int),c≠95:=λk c z e=>by
  have:=(XU k).1 c z
  subst e;revert this;decide
 obtain⟨O,Q⟩:=RJ (z a) (z c) h;have Z:=OK O;have e2:=OK Q;omega
def Bd(w:MM)(n:Int):MM:=w++BT n
def Lb(w:MM)(a b:Int):MM:=Bd w a++⟨#[95]⟩++BT b
def Eh(b:MM):List UInt8:=b.data.toList
def RP(w:MM)(n:Int):Eh (Bd w n)=Eh w++itoa n:=by simp[Eh,Bd,BT]
def N5{l:List MM}(h:(l.map Eh).Nodup):l.Nodup:=List.Pairwise.of_map Eh (λ_ _ hn e=>hn (eG Eh e)) h
def aA{w:MM}{n:Int}(h0: -9223372036854775808<=n)(z:n<=9223372036854775807):(Bd w n).size<=w.size+21:=by
 have:=CN h0 z
 simp only[Bd,Pk];omega
def B3(g:List Ac)(nm:MM):Int:=BC (λx=>decide (x.Name=nm)) 0 g+1
def Fw(g:List Ac)(x:Ac):List Ac:=if B3 g x.Name=0 then g++[x] else g
def oU(t:List Tile)(nm:MM):Int:=BC (λx=>decide (x.Name=nm)) 0 t
def EH(t:List Tile)(x:Tile):List Tile:=if oU t x.Name<0 then t++[x] else t
def QJ(t:List Tile)(nm:MM):Int:=if oU t nm<0 then t.length else oU t nm
def Ce(g:List Ac):List (D×D):=(g.foldl (λ(s:List (D×D)×Int) x=>(Fq s.1 (.str x.Name) (.int .i64 (s.2+1)),s.2+1)) ([(.str ⟨#[45]⟩,.int .i64 0)],0)).1
def UE(g:List Ac)(m:List (D×D))(k:Int):(g.foldl (λ(s:List (D×D)×Int) x=>(Fq s.1 (.str x.Name) (.int .i64 (s.2+1)),s.2+1)) (m,k)).2=k+g.length:=by
 induction g generalizing m k with
 |nil=>simp
 |cons x g ih=>simp only[Fu,ih,Em];omega
def uX(g:List Ac)(x:Ac):Ce (g++[x])=Fq (Ce g) (.str x.Name) (.int .i64 (g.length+1:Nat)):=by
 have:=UE g [(.str ⟨#[45]⟩,.int .i64 0)] 0
 simp only[Ce,eJ,Fu,M1,this];congr 2;omega
def ON(m:List (D×D))(nm:MM):Int:=match lk m (.str nm) with
 |some (.int _ n)=>n
 |_=>0
def Ax(g:List Ac)(nm:MM):Int:=ON (Ce g) nm
def Um(m:List (D×D))(a b:MM)(v:D)(z: ∀e∈m,∃s,e.1= .str s):lk (Fq m (.str a) v) (.str b)=if b=a then some v else lk m (.str b):=by
 induction m with
 |nil=>
  simp only[Fq,lk,D.beq,dT];by_cases c:b=a
  .rw[Bt c,My c];rfl
  .rw[Be c,Jh c];rfl
 |cons e m ih=>
  obtain⟨s,O⟩:=z e (CP ..);obtain⟨k,w⟩:=e;simp only at O;subst O;have ih:=ih λe Q=>z e (Ah _ Q)
  simp only[Fq,D.beq,dT];by_cases c1:a=s
  .subst c1;rw[My rfl];simp only[IJ,lk,D.beq,dT];by_cases c:b=a
   .rw[Bt c,My c];rfl
   .rw[Be c,Jh c];rfl
  .rw[Jh c1];simp only[Dw,lk,D.beq,dT];by_cases c:b=s
   .subst c;rw[My rfl,Be (λh=>c1 h.symm)];rfl
   .rw[Jh c];simp only[Dw];exact ih
def cL(m:List (D×D))(a:MM)(v:D)(O: ∀e∈m,∃s,e.1= .str s): ∀e∈Fq m (.str a) v,∃s,e.1= .str s:=by
 induction m with
 |nil=>intro e z;simp only[Fq,Am] at z;subst z;exact⟨a,rfl⟩
 |cons x m ih=>
  intro e z;obtain⟨k,w⟩:=x;simp only[Fq] at z;cases h:D.beq (.str a) k with
  |true=>
   rw[h] at z;rcases B0.1 z with rfl|z
   .exact⟨a,rfl⟩
   .exact O e (Ah _ z)
  |false=>
   rw[h] at z;rcases B0.1 z with rfl|z
   .exact O (k,w) (CP ..)
   .exact ih (λe z=>O e (Ah _ z)) e z
def UF(g:List Ac): ∀e∈Ce g,∃s,e.1=D.str s:=by
 have z: ∀(g:List Ac) (m:List (D×D)) (k:Int),(∀e∈m,∃s,e.1=D.str s)-> ∀e∈(g.foldl (λ(s:List (D×D)×Int) x=>(Fq s.1 (.str x.Name) (.int .i64 (s.2+1)),s.2+1)) (m,k)).1,∃s,e.1=D.str s:=by
  intro g;induction g with
  |nil=>intro m k h;exact h
  |cons x g ih=>intro m k h;exact ih _ _ (cL m x.Name _ h)
 refine z g _ 0 λe O=> ?_
 simp only[Am] at O;subst O;exact⟨_,rfl⟩
def uU{A:Type}{p:A->Bool}{x:A}(O:p x=true): ∀(l:List A) (o:Nat),(∀y∈l,p y=false)->BC p o (l++[x])=((o+l.length:Nat):Int)
 |[],o,_=>by
  simp only[E5,BC];rw[Bt O];rfl
 |y::l,o,h=>by
  simp only[BZ,BC];rw[Be (by rw[h y (CP ..)];decide),uU O l (o+1) λz Q=>h z (Ah _ Q),Em,show o+1+l.length=o+(l.length+1) by omega]
def uY{A:Type}{p:A->Bool}{x:A}(z:p x=false): ∀(l:List A) (o:Nat),BC p o (l++[x])=BC p o l
 |[],o=>by
  simp only[E5,BC];rw[Be (by rw[z];decide)]
 |y::l,o=>by
  simp only[BZ,BC,uY z l (o+1)]
def Nd{A:Type}{p:A->Bool}{l:List A}:BC p 0 l<0↔ ∀x∈l,p x=false:=by
 have h:=yK p l;constructor
 .intro hn x O;cases z:p x with
  |false=>rfl
  |true=>
   have:l.any p=true:=Sx.2 ⟨x,O,z⟩
   rw[this,CK] at h;omega
 .intro hn
  have:l.any p=false:=by
   rw[Hk];intro c;obtain⟨x,O,z⟩:=Sx.1 c;rw[hn x O] at z;cases z
  rw[this,GU] at h;omega
def TY{A:Type}(p:A->Bool): ∀(l:List A) (o:Nat),-1<=BC p o l
 |[],o=>by simp[BC]
 |y::l,o=>by
  simp only[BC];split
  .omega
  .exact TY p l (o+1)
def XS{g:List Ac}{nm:MM}(h:nm∉g.map Ac.Name):B3 g nm=0:=by
 have O:BC (λx:Ac=>decide (x.Name=nm)) 0 g<0:=Nd.2 λx z=>Jh λe=>h (BY.2 ⟨x,z,e⟩)
 have Q:=TY (λx:Ac=>decide (x.Name=nm)) g 0;simp only[B3];omega
def Wt{t:List Tile}{nm:MM}(h:nm∉t.map Tile.Name):oU t nm<0:=Nd.2 λx z=>Jh λe=>h (BY.2 ⟨x,z,e⟩)
def fR: ∀(n:Nat) {g:List Ac},g.length=n->(g.map Ac.Name).Nodup->(⟨#[45]⟩:MM)∉g.map Ac.Name-> ∀(nm:MM),Ax g nm=if nm=⟨#[45]⟩ then 0 else B3 g nm
 |0,g,z,_,_,nm=>by
  obtain rfl:=Rk.1 z;simp only[Ax,ON,Ce,M1,lk,D.beq,dT];by_cases c:nm=⟨#[45]⟩
  .rw[Bt c,My c];rfl
  .rw[Be c,Jh c];rfl
 |n+1,g',z,hn,hd,nm=>by
  rcases List.eq_nil_or_concat g' with rfl|⟨g,x,rfl⟩
  .simp at z
  rw[List.concat_eq_append] at z hn hd⊢;rw[Dj,List.map_singleton] at hn hd;rw[Hj] at hn;have ih:=fR n (g:=g) (by simpa using z) hn.1 (λh=>hd (HR _ h));have Z:x.Name∉g.map Ac.Name:=λh=>hn.2.2 _ h _ (Am.2 rfl) rfl
  have Q:x.Name≠⟨#[45]⟩:=λh=>hd (Xh _ (Am.2 h.symm))
  simp only[Ax,ON,uX,Um _ _ _ _ (UF g)];by_cases c:nm=x.Name
  .subst c;rw[Bt rfl,Be Q];simp only[B3];rw[uU (p:=λy:Ac=>decide (y.Name=x.Name)) auSi g 0 λy hy=>Jh λe=>Z (BY.2 ⟨y,hy,e⟩),Je];rfl
  .rw[Be c]
   have:=ih nm
   simp only[Ax,ON] at this;rw[this];by_cases O:nm=⟨#[45]⟩
   .rw[Bt O,Bt O]
   .rw[Be O,Be O];simp only[B3];rw[uY (p:=λy:Ac=>decide (y.Name=nm)) (Jh λe=>c e.symm)]
def uW: ∀(l g:List Ac),((g++l).map Ac.Name).Nodup->l.foldl Fw g=g++l
 |[],g,_=>by simp
 |x::l,g,h=>by
  have z:((g++[x])++l).map Ac.Name=(g++x::l).map Ac.Name:=by rw[Gk];rfl
  have O:x.Name∉g.map Ac.Name:=by
   rw[Dj,Br,Hj] at h;exact λhm=>h.2.2 _ hm _ (CP ..) rfl
  rw[Fu,show Fw g x=g++[x] from Bt (XS O),uW l (g++[x]) (by rw[z];exact h),Gk];rfl
def uV: ∀(l g:List Tile),((g++l).map Tile.Name).Nodup->l.foldl EH g=g++l
 |[],g,_=>by simp
 |x::l,g,h=>by
  have z:((g++[x])++l).map Tile.Name=(g++x::l).map Tile.Name:=by rw[Gk];rfl
  have O:x.Name∉g.map Tile.Name:=by
   rw[Dj,Br,Hj] at h;exact λhm=>h.2.2 _ hm _ (CP ..) rfl
  rw[Fu,show EH g x=g++[x] from Bt (Wt O),uV l (g++[x]) (by rw[z];exact h),Gk];rfl
def Bx(w:MM)(n:Nat)(st:Int):List Ac:=(List.range n).map λk=>⟨Bd w (k:Nat),st⟩
def nU(w:MM)(n:Nat)(st:Int):(Bx w n st).map (λx=>Eh x.Name)=EA (Eh w,Fl n):=by
 simp only[Bx,EA,Fl,GS];exact Iu λk _=>RP w k
def Qawg{g:List Ac}(h:(g.map λx=>Eh x.Name).Nodup):(g.map Ac.Name).Nodup:=N5 (by rw[GS];exact h)
def iB{g:List Ac}{bs:List oZ}(hL:g.map (λx=>Eh x.Name)=bs.flatMap EA)(hb: ∀b∈bs,Jy b){w r:List UInt8}{nm:MM}(e:Eh nm=w++r)(hw:w.all U8=true)(hr:okN r)(hn: ∀b∈bs,b.1=w->r∉b.2):nm∉g.map Ac.Name:=by
 intro hm;obtain⟨x,hx,rfl⟩:=BY.1 hm;have h1:Eh x.Name∈bs.flatMap EA:=by rw[<-hL];exact BY.2 ⟨x,hx,rfl⟩
 obtain⟨b,z,h2⟩:=FK.1 h1;obtain⟨r',O,h3⟩:=BY.1 h2;obtain⟨g1,g2,g3⟩:=hb b z;rw[e] at h3;have Q:=RL g1 (g3 r' O);have e2:=RL (λc hc=>CF.1 hw c hc) hr;have Z:b.1++r'=w++r:=h3;rw[Z,e2] at Q;rw[<-Q] at Z;exact hn b z Q.symm ((Zez Z)▸O)
def UB:okN []:=λc z=>by cases z
def Di(z:MM->Int)(nm a b c d:MM):Tile:=⟨nm,[z a,z b,z c,z d]⟩
def Qav3{g:List Tile}(h:(g.map λx=>Eh x.Name).Nodup):(g.map Tile.Name).Nodup:=N5 (by rw[GS];exact h)
def mX(w:MM)(n:Int):Bd w n≠⟨#[45]⟩\/n<0:=by
 by_cases h:n<0
 .exact .inr h
 .left;intro e;have z:=eG Eh e;rw[RP] at z;obtain⟨k,rfl⟩: ∃k:Nat,n=k:=⟨n.toNat,auOm⟩;obtain⟨Z,h3⟩:=XU k;obtain⟨c,Q⟩:=List.exists_mem_of_ne_nil _ h3;have O:c∈Eh w++itoa (k:Int):=Xh _ Q;rw[z] at O;have h5:=Z c Q;obtain rfl:c=45:=by simpa[Eh] using O
  revert h5;decide
end Go.Ae
namespace Go.Ae
open Go.Proofs
def pC{a b c:AR}(z:Ds a b=true)(O:Ds b c=true):Ds a c=true:=by
 simp only[Ds,IK,B1,CK] at*;omega
def Qku(a:AR):Ds a a=false:=by simp[Ds]
def Qe4: ∀(l:List AA) (q:Option AR),FF q l=true->(∀p,q=some p-> ∀(i:Nat) (x:AA),l[i]? =some x->Ds p x.At=true)/\
 ∀(i j:Nat) (x y:AA),i<j->l[i]? =some x->l[j]? =some y->Ds x.At y.At=true
 |[],q,_=>⟨λ_ _ i x h=>by simp at h,λi j x y _ h=>by simp at h⟩
 |z::r,q,h=>by
  rw[Qbq] at h;simp only[B1] at h;obtain⟨_,_,Z,h4⟩:=h;obtain⟨i1,i2⟩:=Qe4 r (some z.At) h4;refine⟨?_,?_⟩
  .rintro p rfl i x O;cases i with
   |zero=>
    simp only[ES,AS] at O;subst O;exact Z
   |succ i=>
    simp only[Su] at O;exact pC Z (i1 _ rfl i x O)
  .intro i j x y aa O Q;cases j with
   |zero=>omega
   |succ j=>
    simp only[Su] at Q;cases i with
    |zero=>
     simp only[ES,AS] at O;subst O;exact i1 _ rfl j y Q
    |succ i=>
     simp only[Su] at O;exact i2 i j x y auOm O Q
def Qtf{A:Type}(p:A->Bool): ∀(l:List A) (o k:Nat) (x:A),l[k]? =some x->p x=true->(∀i y,i<k->l[i]? =some y->p y=false)->BC p o l=((o+k:Nat):Int)
 |[],o,k,x,h,_,_=>by simp at h
 |z::r,o,k,x,h,hp,hn=>by
  simp only[BC];cases k with
  |zero=>
   simp only[ES,AS] at h;subst h;rw[Bt hp];rfl
  |succ k=>
   have:=hn 0 z auOm auSi
   rw[Be (by simp[this])];rw[Qtf p r (o+1) k x (by simpa using h) hp (λi y Q O=>hn (i+1) y auOm (by simpa using O))];congr 1;omega
def Qrf{A:Type}(p:A->Bool): ∀(l:List A) (o:Nat),(∀(i:Nat) (y:A),l[i]? =some y->p y=false)->BC p o l= -1
 |[],o,_=>rfl
 |z::r,o,hn=>by
  simp only[BC]
  have:=hn 0 z auSi
  rw[Be (by simp[this])];exact Qrf p r (o+1) (λi y O=>hn (i+1) y (by simpa using O))
def l03Index.fv(a:AP×AR):Int:=(λa p=>BC (λx=>decide (x.At=p)) 0 a.Tiles) (a.1) (a.2)
def l03Index.row:A8:=vK (b2 (qP 1 AP.d_le) (qR AR.d_le)) rI (λa=>FF none a.1.Tiles=true) l03Index.fv
def l03Index.q:=Bg (R:=l03Index.row) rfl
def l03Index.ok:AE 169 l03Index.row:=by
 refine vw (tC l_LessPoint.ok tN) Tryz.func169 ?_;intro a ad;simp only[Tryz.f169];simp only[ZA,simprocAttr,l03Index.fv];intro hn;refine AY.old ⟨{p:Nat×Nat//p.1<=p.2/\p.2<=a.1.Tiles.length/\(∀i x,i<p.1->a.1.Tiles[i]? =some x->Ds x.At a.2=true)/\(∀i x,p.2<=i->a.1.Tiles[i]? =some x->Ds x.At a.2=false)},λp=>⟨[(5,.im (.int .i64 p.1.1)),(6,.im (.int .i64 p.1.2)),(4,.im (.int .i64 0)),(3,.ptr 1 0),(0,.ptr 0 0)],[(1,(true,.cells 135 [.im (.int .i64 a.2.X),.im (.int .i64 a.2.Y)])),(0,(false,.view [.sl false 3 (a.1.Tiles.map AA.c)]))],2⟩,λp=>p.1.2 - p.1.1,λp=>⟨by simp[ZG],BN _⟩,⟨⟨(0,a.1.Tiles.length),auSi,auSi,auSi,?_⟩,by simp only[ZA,simprocAttr,sub]⟩,λp=> ?_⟩
 .intro i x O Z
  have:=(Bi.1 Z).1
  simp only at O;omega
 obtain⟨⟨lo,O⟩,h1,h2,h3,h4⟩:=p;simp only at h1 h2 h3 h4;simp only[ZA,simprocAttr,l_LessPoint.q,l_LessPoint.fv,sub,AL];obtain⟨_,Q⟩:=Qe4 _ _ ad;have ac: ∀(i:Nat) (x:AA),i<lo->a.1.Tiles[i]? =some x->x.At≠a.2:=by
  intro i x O Z he
  have:=h3 i x O Z
  rw[he,Qku] at this;cases this
 refine⟨λaf=> ?_,λaf=>⟨λhl=>⟨hl,λx Z=>⟨λhe=> ?_,λhe=> ?_⟩⟩,λhl=> ?_⟩⟩
 .have hm:IntKind.wrap .i64 ((IntKind.wrap .i64 ((lo:Int)+O)).tdiv 2)=(((lo+O)/2:Nat):Int):=by
   rw[AG (x:=(lo:Int)+O) auOm auOm,lI auOm,AG auOm auOm];omega
  rw[hm];refine⟨auOm,auOm,λx Z=>⟨λhb=> ?_,λhb=> ?_⟩⟩
  .rw[Cp] at Z;refine⟨⟨((lo+O)/2+1,O),by simp only;omega,h2,λi y ab z=> ?_,h4⟩,by simp only;omega,?_,rfl⟩
   .simp only at ab;rcases Pi i ((lo+O)/2) with h|h
    .exact pC (Q i _ y x h z Z) hb
    .have:i=(lo+O)/2:=auOm
     subst this;rw[Z] at z;exact AJ z▸hb
   .rw[AG auOm auOm];simp only;omega
  .rw[Cp] at Z;refine⟨⟨(lo,(lo+O)/2),by simp only;omega,by simp only;omega,h3,λi y ab z=> ?_⟩,by simp only;omega,rfl,rfl⟩;simp only at ab;rcases Pi ((lo+O)/2) i with h|h
   .cases hl:Ds y.At a.2 with
    |false=>rfl
    |true=>exact absurd (pC (Q _ i x y h Z z) hl) hb
   .have:i=(lo+O)/2:=auOm
    subst this;rw[Z] at z;obtain rfl:=AJ z;simpa using hb
 .have ag:x.At=a.2:=by
   obtain⟨e1,e2⟩:=he;have e1:x.At.X=a.2.X:=by simpa using e1
   have e2:x.At.Y=a.2.Y:=by simpa using e2
   rw[<-AR.eta x.At,<-AR.eta a.2,e1,e2]
  rw[Qtf _ a.1.Tiles 0 lo x Z (by simp[ag]) (λi y O z=>by simp[ac i y O z])];simp
 .refine (Qrf _ _ _ ?_).symm;intro i y z;rcases lH i lo with h|h|h
  .simp[ac i y h z]
  .subst h;rw[Z] at z;obtain rfl:=AJ z;simp only[GU];intro h9;exact he (by simp[h9])
  .simp only[GU];intro h9;have aa:=Q lo i x y h Z z;rw[h9] at aa
   have:=h4 lo x auOm Z
   rw[this] at aa;cases aa
 .refine (Qrf _ _ _ ?_).symm;intro i y z
  have:=(Bi.1 z).1
  simp[ac i y auOm z]
end Go.Ae
namespace Go.Ae
open Go.Proofs Go.Lib
def Kv(w:MM)(a b c:Int):MM:=Lb w a b++⟨#[95]⟩++BT c
def Md(w:MM)(a b c:Int):Eh (Kv w a b c)=Eh w++(itoa a++95::(itoa b++95::itoa c)):=by simp[Eh,Kv,Lb,Bd,BT]
def OS(k:Nat): ∀c∈itoa (k:Int),c≠95:=λc z e=>by
 have:=(XU k).1 c z
 subst e;revert this;decide
def Yf{a b c d e f:Nat}(h:itoa (a:Int)++95::(itoa (b:Int)++95::itoa (c:Int))=itoa (d:Int)++95::(itoa (e:Int)++95::itoa (f:Int))):a=d/\b=e/\c=f:=by
 obtain⟨z,O⟩:=RJ (OS a) (OS d) h
 have:=OK z
 obtain⟨Q,Z⟩:=cK O;exact⟨auOm,Q,Z⟩
structure Ag where
 Care:Int
 Value:Int
 deriving DecidableEq
def Ag.c(x:Ag):List D:=[.int .i64 x.Care,.int .i64 x.Value]
def Ag.d:List D->Option Ag
 |[.int .i64 z,.int .i64 O]=>some ⟨z,O⟩
 |_=>none
def Ag.d_le: ∀ds x,Ag.d ds=some x->DC ds (Ag.c x):=by
 intro ds x h;unfold Ag.d at h;split at h
 .simp only[AS] at h;subst h;exact⟨Le.refl _,Le.refl _,trivial⟩
 .cases h
def Ag.d_c(x:Ag):Ag.d (Ag.c x)=some x:=by
 simp only[Ag.c,Ag.d]
def Ag.d_R(l:List Ag):Ba Ag.d (l.map Ag.c)=some l:=Mh Ag.d_c l
def Ag.eta(x:Ag):(⟨x.Care,x.Value⟩:Ag)=x:=rfl
def Ag.len(x:Ag):(Ag.c x).length=2:=rfl
structure Af where
 Inputs:Int
 Cubes:List Ag
 Sums:List (Cz)
 deriving DecidableEq
def Af.c(x:Af):List D:=[.int .i64 x.Inputs,.sl false 2 (x.Cubes.map Ag.c),.sl false 1 (x.Sums.map BD)]
def Af.d:List D->Option Af
 |[.int .i64 z,.sl _ _ O,.sl _ _ Q]=>(Ba Ag.d O).bind λZ=>(Ba Pd Q).bind λy2=>some ⟨z,Z,y2⟩
 |_=>none
def Af.d_le: ∀ds x,Af.d ds=some x->DC ds (Af.c x):=by
 intro ds x h;unfold Af.d at h;split at h
 .simp only[DG,AS] at h;obtain⟨Q,z,Z,O,rfl⟩:=h;exact⟨Le.refl _,Fz (Fs Ag.d_le _ _ z) (by simp[Ag.c]),Fz (Fs OZ _ _ O) (by simp[BD]),trivial⟩
 .cases h
def Af.d_c(x:Af):Af.d (Af.c x)=some x:=by
 simp only[Af.c,Af.d,Ag.d_R,BB,E7]
def Af.eta(x:Af):(⟨x.Inputs,x.Cubes,x.Sums⟩:Af)=x:=rfl
def Af.len(x:Af):(Af.c x).length=3:=rfl
abbrev pN(k c v:Nat):MM:=Kv ⟨#[112]⟩ (k:Nat) (c:Nat) (v:Nat)
abbrev bN(d:Nat):MM:=Bd ⟨#[98]⟩ (d:Nat)
abbrev oN(d:Nat):MM:=Bd ⟨#[111]⟩ (d:Nat)
abbrev wN(k:Nat):MM:=Bd ⟨#[119]⟩ (k:Nat)
abbrev eN(k:Nat):MM:=Bd ⟨#[101]⟩ (k:Nat)
def xN(k c v d:Nat):MM:=Kv ⟨#[120]⟩ (k:Nat) (c:Nat) (v:Nat)++BT (d:Nat)
def CB(C k n:Nat):List Ac:=(List.range n).flatMap λc=>[⟨pN k c 0,1⟩,⟨pN k c 1,1⟩]
def CG(C n:Nat):List Ac:=(List.range n).flatMap λk=>CB C k C
def Cw:List Ac:=[⟨bN 0,1⟩,⟨bN 1,1⟩,⟨oN 0,1⟩,⟨oN 1,1⟩]
def D3(R C:Nat):List Ac:=Cw++CG C R++Bx ⟨#[119]⟩ R 2++Bx ⟨#[101]⟩ C 2
def Wx(R C:Nat):List (List UInt8):=(List.range R).flatMap λ(k:Nat)=>(List.range C).flatMap λ(c:Nat)=>[itoa (k:Int)++95::(itoa (c:Int)++95::itoa ((0:Nat):Int)),itoa (k:Int)++95::(itoa (c:Int)++95::itoa ((1:Nat):Int))]
def JF(R C:Nat):List oZ:=[([98],Fl 2),([111],Fl 2),([112],Wx R C),([119],Fl R),([101],Fl C)]
def oW(w:List UInt8)(R C:Nat)(h:w.all U8=true):Jy (w,Wx R C):=by
 refine⟨λc hc=>CF.1 h c hc,?_,λr Q=> ?_⟩
 .have k1: ∀(k:Nat) (l:List Nat),l.Nodup->(l.flatMap λ(c:Nat)=>[itoa (k:Int)++95::(itoa (c:Int)++95::itoa ((0:Nat):Int)),itoa (k:Int)++95::(itoa (c:Int)++95::itoa ((1:Nat):Int))]).Nodup:=by
   intro k l;induction l with
   |nil=>intro _;simp
   |cons v l ih=>
    intro hn;rw[Xo] at hn;rw[Lz,Hj];refine⟨?_,ih hn.2,λx O y z e=> ?_⟩
    .rw[Xo];refine⟨λhm=> ?_,auSi⟩;rw[Am] at hm
     have:=(Yf hm).2.2
     omega
    .obtain⟨u,Z,z⟩:=FK.1 z;simp only[B0,D2,Rl] at O z
     have:v=u:=by
      rcases O with rfl|rfl<;>rcases z with rfl|rfl<;>exact (Yf e).2.1
     exact hn.1 (this▸Z)
  have k2: ∀l:List Nat,l.Nodup->(l.flatMap λ(k:Nat)=>(List.range C).flatMap λ(c:Nat)=>[itoa (k:Int)++95::(itoa (c:Int)++95::itoa ((0:Nat):Int)),itoa (k:Int)++95::(itoa (c:Int)++95::itoa ((1:Nat):Int))]).Nodup:=by
   intro l;induction l with
   |nil=>intro _;simp
   |cons v l ih=>
    intro hn;rw[Xo] at hn;rw[Lz,Hj];refine⟨k1 v _ S5,ih hn.2,λx O y z e=> ?_⟩;obtain⟨c,_,O⟩:=FK.1 O;obtain⟨u,Z,z⟩:=FK.1 z;obtain⟨c',_,z⟩:=FK.1 z;simp only[B0,D2,Rl] at O z
    have:v=u:=by
     rcases O with rfl|rfl<;>rcases z with rfl|rfl<;>exact (Yf e).1
    exact hn.1 (this▸Z)
  exact k2 _ S5
 .obtain⟨k,_,Q⟩:=FK.1 Q;obtain⟨c,_,Q⟩:=FK.1 Q;simp only[B0,D2,Rl] at Q;rcases Q with rfl|rfl<;>exact XT k _
def Yg(R C:Nat): ∀x∈JF R C,Jy x:=by
 intro x z;simp only[JF,B0,D2,Rl] at z;rcases z with rfl|rfl|rfl|rfl|rfl
 .exact OM 2 auDe
 .exact OM 2 auDe
 .exact oW _ R C auDe
 .exact OM R auDe
 .exact OM C auDe
def MK(R C:Nat):(D3 R C).map (λx=>Eh x.Name)=(JF R C).flatMap EA:=by
 have z:Cw.map (λx=>Eh x.Name)=EA ([98],Fl 2)++EA ([111],Fl 2):=by
  simp only[Cw,Br,Gl,RP,EA,Fl,GS];rfl
 have O:(CG C R).map (λx=>Eh x.Name)=EA ([112],Wx R C):=by
  simp only[CG,CB,List.map_flatMap,Br,Gl,Md,EA,Wx];rfl
 simp only[D3,Dj,nU,z,O,JF,Lz,L0,C3,Gk];rfl
def vZ(R C:Nat):((D3 R C).map Ac.Name).Nodup:=by
 refine Qawg ?_;rw[MK];exact iA _ (by simp only[JF,Br,Gl];decide) (Yg R C)
def mD(R C:Nat):(⟨#[45]⟩:MM)∉(D3 R C).map Ac.Name/\ByteArray.empty∉(D3 R C).map Ac.Name/\ ∀k v,pN k C v∉(D3 R C).map Ac.Name:=by
 refine⟨?_,?_,λk v=> ?_⟩
 .refine iB (MK R C) (Yg R C) (w:=[45]) (r:=[]) rfl auDe UB λx O z=> ?_
  simp only[JF,B0,D2,Rl] at O;rcases O with rfl|rfl|rfl|rfl|rfl<;>simp at z
 .refine iB (MK R C) (Yg R C) (w:=[]) (r:=[]) rfl auDe UB λx O z=> ?_
  simp only[JF,B0,D2,Rl] at O;rcases O with rfl|rfl|rfl|rfl|rfl<;>simp at z
 .refine iB (MK R C) (Yg R C) (w:=[112]) (r:=itoa (k:Int)++95::(itoa (C:Int)++95::itoa (v:Int))) (Md _ _ _ _) auDe (XT k _) λx O z=> ?_
  simp only[JF,B0,D2,Rl] at O;rcases O with rfl|rfl|rfl|rfl|rfl
  .simp at z
  .simp at z
  .intro Q;simp only[Wx] at Q;obtain⟨k',_,Q⟩:=FK.1 Q;obtain⟨c,Z,Q⟩:=FK.1 Q;have Z:=AU.1 Z;simp only[B0,D2,Rl] at Q
   have:C=c:=by rcases Q with h|h<;>exact (Yf h).2.1
   omega
  .simp at z
  .simp at z
def F8(x:Int)(c:Nat):Int:=Dz .i64 (x.fdiv (2^min c IntKind.i64.bits)) 1
def IM(f:Af)(k c v d:Nat):Nat:=match f.Cubes[k]? with
 |some q=>if F8 q.Care c=1/\F8 q.Value c≠(d:Int) then 0 else v
 |none=>v
def N9(f:Af)(k c v d:Nat):Nat:=match f.Sums[c - f.Inputs.toNat]? with
 |some q=>if v=1/\((k:Nat):Int)∈q then 1 else d
 |none=>d
def pE(e:Option MM)(C k c v:Nat):MM:=match e with
 |some z=>if c=C then z else pN k c v
 |none=>pN k c v
def En(z:MM->Int)(e:Option MM)(f:Af)(C k c v d:Nat):Tile:=
 if (c:Int)<f.Inputs then Di z (xN k c v d) (bN d) (pE e C k (c+1) (IM f k c v d)) (bN d) (pE e C k c v)
 else Di z (xN k c v d) (oN (N9 f k c v d)) (pE e C k (c+1) v) (oN d) (pE e C k c v)
def W3:List (Nat×Nat):=[(0,0),(0,1),(1,0),(1,1)]
def Bl(z:MM->Int)(e:Option MM)(f:Af)(C k c n:Nat):List Tile:=(W3.take n).map λq=>En z e f C k c q.1 q.2
def Bc(z:MM->Int)(e:Option MM)(f:Af)(C k n:Nat):List Tile:=(List.range n).flatMap λc=>Bl z e f C k c 4
def AT(z:MM->Int)(e:Option MM)(f:Af)(C n:Nat):List Tile:=(List.range n).flatMap λk=>Bc z e f C k C
def Kt(O:MM->Int)(z:MM):Tile:=Di O ⟨#[99,111,114,110,101,114]⟩ (wN 0) (eN 0) z z
def tW(O:MM->Int)(e:Option MM)(z:MM)(C n:Nat):List Tile:=(List.range n).map λk=>Di O (wN k) (wN (k+1)) (pE e C k 0 1) (wN k) z
def LP(f:Af)(l:Cz)(c:Nat):MM:=if (c:Int)<f.Inputs then Bd ⟨#[98]⟩ ((l[c]?).getD 0) else oN 0
def tE(O:MM->Int)(z:MM)(f:Af)(l:Cz)(n:Nat):List Tile:=(List.range n).map λc=>Di O (eN c) (LP f l c) (eN (c+1)) z (eN c)
def ML(O:MM->Int)(e:Option MM)(z:MM)(f:Af)(l:Cz)(R C:Nat):List Tile:=[Kt O z]++tW O e z C R++tE O z f l C++AT O e f C R
def AZ(f:Af):Nat:=f.Cubes.length
def Ao(f:Af):Nat:=f.Inputs.toNat+f.Sums.length
def Dc(f:Af)(l:Cz):AM:=⟨⟨D3 (AZ f) (Ao f),ML (B3 (D3 (AZ f) (Ao f))) (some ByteArray.empty) ByteArray.empty f l (AZ f) (Ao f)⟩,⟨[⟨⟨0,0⟩,0⟩]⟩,2⟩
def frI(f:Af)(l:Cz):AM:=⟨⟨D3 (AZ f) (Ao f),ML (Ax (D3 (AZ f) (Ao f))) none ⟨#[45]⟩ f l (AZ f) (Ao f)⟩,⟨[⟨⟨0,0⟩,0⟩]⟩,2⟩
def mO(w:MM)(n:Nat):Bd w (n:Int)≠⟨#[45]⟩:=(mX w n).elim id λh=>auOm
def oV(w:MM)(a b c:Nat):Kv w (a:Nat) (b:Nat) (c:Nat)≠⟨#[45]⟩:=by
 intro e;have z:=eG Eh e;rw[Md] at z;have O:(95:UInt8)∈Eh w++(itoa (a:Int)++95::(itoa (b:Int)++95::itoa (c:Int))):=auSi;rw[z] at O
 have:(95:UInt8)=45:=by simpa[Eh] using O
 revert this;decide
def mF(f:Af)(l:Cz)(hl: ∀x∈l,0<=x):frI f l=Dc f l:=by
 obtain⟨n1,n2,n3⟩:=mD (AZ f) (Ao f);have Q: ∀nm,Ax (D3 (AZ f) (Ao f)) nm=if nm=⟨#[45]⟩ then 0 else B3 (D3 (AZ f) (Ao f)) nm:=fR _ rfl (vZ _ _) n1
 have O:Ax (D3 (AZ f) (Ao f)) ⟨#[45]⟩=B3 (D3 (AZ f) (Ao f)) ByteArray.empty:=by rw[Q,Bt rfl,XS n2]
 have z: ∀(w:MM) (n:Nat),Ax (D3 (AZ f) (Ao f)) (Bd w (n:Int))=B3 (D3 (AZ f) (Ao f)) (Bd w (n:Int)):=λw n=>by rw[Q,Be (mO w n)]
 have eT: ∀k c v:Nat,Ax (D3 (AZ f) (Ao f)) (pN k c v)=B3 (D3 (AZ f) (Ao f)) (pN k c v):=λk c v=>by rw[Q,Be (oV _ _ _ _)]
 have Z: ∀k c v,Ax (D3 (AZ f) (Ao f)) (pE none (Ao f) k c v)=B3 (D3 (AZ f) (Ao f)) (pE (some ByteArray.empty) (Ao f) k c v):=λk c v=>by
  simp only[pE];rw[eT];split
  .rename_i h;subst h;rw[XS (n3 k v),XS n2]
  .rfl
 have eW:Ax (D3 (AZ f) (Ao f)) (wN 0)=B3 (D3 (AZ f) (Ao f)) (wN 0):=z _ 0;have h1:Kt (Ax (D3 (AZ f) (Ao f))) ⟨#[45]⟩=Kt (B3 (D3 (AZ f) (Ao f))) ByteArray.empty:=by
  simp only[Kt,Di,O,z]
 have h2:tW (Ax (D3 (AZ f) (Ao f))) none ⟨#[45]⟩ (Ao f) (AZ f)=tW (B3 (D3 (AZ f) (Ao f))) (some ByteArray.empty) ByteArray.empty (Ao f) (AZ f):=by
  simp only[tW,Di,O,z,Z]
 have h3:tE (Ax (D3 (AZ f) (Ao f))) ⟨#[45]⟩ f l (Ao f)=tE (B3 (D3 (AZ f) (Ao f))) ByteArray.empty f l (Ao f):=by
  have hn: ∀c,Ax (D3 (AZ f) (Ao f)) (LP f l c)=B3 (D3 (AZ f) (Ao f)) (LP f l c):=λc=>by
   simp only[LP];split
   .obtain⟨m,hm⟩: ∃m:Nat,(l[c]?).getD 0=(m:Int):=by
     cases h:l[c]? with
     |none=>exact⟨0,rfl⟩
     |some y=>exact⟨y.toNat,by simp only[BG];have:=hl y (Bj h);omega⟩
    rw[hm,z]
   .exact z _ _
  simp only[tE,Di,O,z,hn]
 have h4:AT (Ax (D3 (AZ f) (Ao f))) none f (Ao f) (AZ f)=AT (B3 (D3 (AZ f) (Ao f))) (some ByteArray.empty) f (Ao f) (AZ f):=by
  simp only[AT,Bc,Bl,En,Di,z,Z]
 simp only[frI,Dc,ML,h1,h2,h3,h4]
def iJ{A B:Type}{f:A->List B}: ∀{l:List A},l.Nodup->(∀a∈l,(f a).Nodup)->(∀a∈l,∀b∈l,∀x,x∈f a->x∈f b->a=b)->(l.flatMap f).Nodup
 |[],_,_,_=>by simp
 |a::l,hn,Q,Z=>by
  rw[Xo] at hn;rw[Lz,Hj];refine⟨Q a (CP ..),iJ hn.2 (λb z=>Q b (Ah _ z)) (λb z c hc=>Z b (Ah _ z) c (Ah _ hc)),λx hx y O e=> ?_⟩;subst e;obtain⟨b,z,O⟩:=FK.1 O
  have:=Z a (CP ..) b (Ah _ z) x hx O
  exact hn.1 (this▸z)
def sD(k c:Nat)(q:Nat×Nat):List UInt8:=itoa (k:Int)++95::(itoa (c:Int)++95::(itoa (q.1:Int)++itoa (q.2:Int)))
def aM(R C:Nat):List (List UInt8):=(List.range R).flatMap λ(k:Nat)=>(List.range C).flatMap λ(c:Nat)=>W3.map (sD k c)
def ito0:itoa 0=[48]:=by simp[itoa,decDigits]
def ito1:itoa 1=[49]:=by simp[itoa,decDigits]
def iU{k c k' c':Nat}{q q':Nat×Nat}(hq:q∈W3)(z:q'∈W3)(h:sD k c q=sD k' c' q'):k=k'/\c=c'/\q=q':=by
 obtain⟨O,Q⟩:=RJ (OS k) (OS k') h;obtain⟨Z,h4⟩:=RJ (OS c) (OS c') Q;have e1:=OK O;have e3:=OK Z;refine⟨auOm,auOm,?_⟩;simp only[W3,B0,D2,Rl] at hq z;rcases hq with rfl|rfl|rfl|rfl<;>rcases z with rfl|rfl|rfl|rfl<;>first|rfl|(exfalso;revert h4;simp only[Int.cast_ofNat_Int,ito0,ito1];decide)
def nK(w:List UInt8)(R C:Nat)(h:w.all U8=true):Jy (w,aM R C):=by
 refine⟨λc hc=>CF.1 h c hc,?_,λr O=> ?_⟩
 .refine iJ S5 (λk _=>iJ S5 (λc _=> ?_) λc _ c' _ x Q Z=> ?_) λk _ k' _ x Q Z=> ?_
  .exact List.pairwise_map.2 ((show W3.Pairwise (· ≠ ·) by decide).imp_of_mem λha hb aa e=>aa (iU ha hb e).2.2)
  .obtain⟨q,hq,rfl⟩:=BY.1 Q;obtain⟨q',z,e⟩:=BY.1 Z;exact (iU z hq e).2.1.symm
  .obtain⟨c,_,Q⟩:=FK.1 Q;obtain⟨c',_,Z⟩:=FK.1 Z;obtain⟨q,hq,rfl⟩:=BY.1 Q;obtain⟨q',z,e⟩:=BY.1 Z;exact (iU z hq e).1.symm
 .obtain⟨k,_,O⟩:=FK.1 O;obtain⟨c,_,O⟩:=FK.1 O;obtain⟨q,_,rfl⟩:=BY.1 O;exact XT k _
def SM(R C:Nat):List oZ:=[([99,111,114,110,101,114],aG),([119],Fl R),([101],Fl C),([120],aM R C)]
def YV(R C:Nat): ∀x∈SM R C,Jy x:=by
 intro x z;simp only[SM,B0,D2,Rl] at z;rcases z with rfl|rfl|rfl|rfl
 .exact nE auDe
 .exact OM R auDe
 .exact OM C auDe
 .exact nK _ R C auDe
def xN_L(k c:Nat)(q:Nat×Nat):Eh (xN k c q.1 q.2)=[120]++sD k c q:=by simp[Eh,xN,Kv,Lb,Bd,BT,sD]
def lT(z:MM->Int)(e:Option MM)(f:Af)(C k c:Nat)(q:Nat×Nat):(En z e f C k c q.1 q.2).Name=xN k c q.1 q.2:=by
 simp only[En];split<;>rfl
def oO(z:MM->Int)(e:Option MM)(f:Af)(C k c:Nat):(Bl z e f C k c 4).map (λx=>Eh x.Name)=(W3.map (sD k c)).map ([120]++ ·):=by
 rw[Bl,show W3.take 4=W3 from rfl,GS,GS];refine Iu λq _=> ?_
 simp only[Function.comp,lT,xN_L]
def fgT_L(O:MM->Int)(e:Option MM)(z:MM)(f:Af)(l:Cz)(R C:Nat):(ML O e z f l R C).map (λx=>Eh x.Name)=(SM R C).flatMap EA:=by
 have h4:(AT O e f C R).map (λx=>Eh x.Name)=EA ([120],aM R C):=by
  simp only[AT,Bc,List.map_flatMap,oO,EA,aM]
 have Q:(tW O e z C R).map (λx=>Eh x.Name)=EA ([119],Fl R):=by
  simp only[tW,GS,Function.comp_def,Di,RP,EA,Fl];rfl
 have Z:(tE O z f l C).map (λx=>Eh x.Name)=EA ([101],Fl C):=by
  simp only[tE,GS,Function.comp_def,Di,RP,EA,Fl];rfl
 simp only[ML,Dj,Q,Z,h4,SM,Lz,L0,C3,Gk];rfl
def PA(O:MM->Int)(e:Option MM)(z:MM)(f:Af)(l:Cz)(R C:Nat):((ML O e z f l R C).map Tile.Name).Nodup:=by
 refine Qav3 ?_;rw[fgT_L];exact iA _ (by simp only[SM,Br,Gl];decide) (YV R C)
def RS(C k:Nat): ∀n,(CB C k n).length=2*n
 |0=>rfl
 |n+1=>by
  have:=RS C k n
  simp only[CB] at this⊢;rw[Xi,Xk,BR,this];simp only[Lz,L0,C3,Em,Ed];omega
def vV(C k n:Nat):CB C k (n+1)=CB C k n++[⟨pN k n 0,1⟩]++[⟨pN k n 1,1⟩]:=by
 simp[CB,Xi,Xk]
def iR(C n:Nat):CG C (n+1)=CG C n++CB C n C:=by
 simp[CG,Xi,Xk]
def IA(C:Nat): ∀n,(CG C n).length=n*(2*C)
 |0=>by simp[CG]
 |n+1=>by rw[iR,BR,IA C n,RS,HQ n 1,Pl]
def aT(w:MM)(n:Nat)(st:Int):(Bx w n st).length=n:=by simp[Bx]
def Zt(R C:Nat):(D3 R C).length=4+R*(2*C)+R+C:=by
 simp only[D3,BR,IA,aT,Cw,Em,Ed]
def Wm(z:MM->Int)(e:Option MM)(f:Af)(C k c:Nat):(Bl z e f C k c 4).length=4:=rfl
def iM(z:MM->Int)(e:Option MM)(f:Af)(C k n:Nat):Bc z e f C k (n+1)=Bc z e f C k n++Bl z e f C k n 4:=by
 simp[Bc,Xi,Xk]
def OQ(z:MM->Int)(e:Option MM)(f:Af)(C k:Nat): ∀n,(Bc z e f C k n).length=4*n
 |0=>rfl
 |n+1=>by rw[iM,BR,OQ z e f C k n,Wm];omega
def iL(z:MM->Int)(e:Option MM)(f:Af)(C n:Nat):AT z e f C (n+1)=AT z e f C n++Bc z e f C n C:=by
 simp[AT,Xi,Xk]
def I9(z:MM->Int)(e:Option MM)(f:Af)(C:Nat): ∀n,(AT z e f C n).length=n*(4*C)
 |0=>by simp[AT]
 |n+1=>by rw[iL,BR,I9 z e f C n,OQ,HQ n 1,Pl]
def Oj(O:MM->Int)(e:Option MM)(z:MM)(C n:Nat):tW O e z C (n+1)=tW O e z C n++[Di O (wN n) (wN (n+1)) (pE e C n 0 1) (wN n) z]:=by
 simp[tW,Xi]
def Yd(O:MM->Int)(z:MM)(f:Af)(l:Cz)(n:Nat):tE O z f l (n+1)=tE O z f l n++[Di O (eN n) (LP f l n) (eN (n+1)) z (eN n)]:=by
 simp[tE,Xi]
def Qa0g(O:MM->Int)(e:Option MM)(z:MM)(f:Af)(l:Cz)(R C:Nat):(ML O e z f l R C).length=1+R+C+R*(4*C):=by
 simp only[ML,BR,I9,tW,tE,Dy,Ro,Em,Ed]
end Go.Ae
namespace Go.Ae
open Go.Proofs
def Yo(p:AR)(t:Int):Bool->List AA->List AA
 |_,[]=>[]
 |false,x::r=>if Ds p x.At=true then ⟨p,t⟩::x::Yo p t true r else x::Yo p t false r
 |true,x::r=>x::Yo p t true r
def cX(p:AR):List AA->Bool
 |[]=>false
 |x::r=>if Ds p x.At=true then true else cX p r
def aL(a:AP)(p:AR)(t:Int):AP:=⟨Yo p t false a.Tiles++(if cX p a.Tiles=true then [] else [⟨p,t⟩])⟩
def NH(p:AR)(t:Int): ∀(l:List AA),Yo p t true l=l
 |[]=>rfl
 |x::r=>by simp only[Yo,NH p t r]
def rU(a:AP)(p:AR):Int:=((a.Tiles.find? (λx=>decide (x.At=p))).map AA.Tile).getD (-1)
def wB{A:Type}(p:A->Bool): ∀(l:List A) (o:Nat),(l.find? p=none/\BC p o l= -1)\/ ∃(i:Nat) (x:A),l.find? p=some x/\BC p o l=((o+i:Nat):Int)/\l[i]? =some x
 |[],o=> .inl ⟨rfl,rfl⟩
 |z::r,o=>by
  simp only[BC,Zec];cases h:p z
  .rcases wB p r (o+1) with ⟨O,Q⟩|⟨i,x,O,Q,Z⟩
   .exact .inl ⟨by simpa using O,by simpa using Q⟩
   .exact .inr ⟨i+1,x,by simpa using O,by simp[Q];omega,by simpa using Z⟩
  .exact .inr ⟨0,z,rfl,auSi,auSi⟩
def l02Tile.fv(a:AI×MM):Int:=(λs n=>BC (λg=>decide (g.Name=n)) 0 s.Tiles) (a.1) (a.2)
def l02Tile.row:A8:=vK (b2 (qP 2 AI.d_le) qT) rI (λa=>True) l02Tile.fv
def l02Tile.q:=Bg (R:=l02Tile.row) rfl
def l02Tile.ok:AE 96 l02Tile.row:=by
 refine vw tN Tryz.func96 ?_;intro a Q;simp only[Tryz.f96];simp only[ZA,simprocAttr,l02Tile.fv];refine AY.old ⟨{k:Nat//k<=a.1.Tiles.length/\BC (λg:Tile=>decide (g.Name=a.2)) k (a.1.Tiles.drop k)=BC (λg:Tile=>decide (g.Name=a.2)) 0 a.1.Tiles},λk=>⟨[(5,.im (.int .i64 k.1)),(4,.im (.int .i64 0)),(0,.ptr 0 0),(1,.im (.str a.2))],[(0,(false,.view (AI.c a.1)))],1⟩,λk=>a.1.Tiles.length - k.1,λk=>⟨by simp[ZG],BN _⟩,⟨⟨0,auSi⟩,by simp only[ZA,simprocAttr,sub]⟩,λk=> ?_⟩;obtain⟨k,Z,z⟩:=k;simp only[ZA,simprocAttr,sub,AL];intro hn;refine⟨λO=>⟨O,λx hx=> ?_⟩,λO=> ?_⟩
 .rw[FH hx,BC] at z;refine⟨λh=> ?_,λh=>FG O hn ⟨auOm,by rw[<-z,Be (by simpa using h)]⟩⟩;rw[Bt (by simpa using h)] at z;exact z
 .rw[Bm auOm,BC] at z;omega
def M2(s:AI)(a:AP):Prop:=FF none a.Tiles=true/\ ∀x∈a.Tiles,iV s x.Tile
def PI{s:AI}(h:FB s)(g:Int):0<=Sc s g/\Sc s g<=4:=by
 simp only[Sc];split
 .cases hx:s.Glues[(g - 1).toNat]? with
  |none=>simp
  |some x=>have:=h.2.2 x (Bj hx);simp;omega
 .omega
def UP{p:AR}(h:Kz p=true):Sb p:=by
 simp only[Kz,B7,B1,CK] at h;simp only[Sb];omega
def Qh6: ∀(l:List AA) (q:Option AR),FF q l=true-> ∀x∈l,Kz x.At=true/\B7 x.Tile 0 159=true
 |[],_,_,x,O=>by cases O
 |z::r,q,h,x,O=>by
  rw[Qbq] at h;simp only[B1] at h;rcases B0.1 O with rfl|O
  .exact⟨h.1,h.2.1⟩
  .exact Qh6 r _ h.2.2.2 x O
def HZ(a:AP)(i d:Int):Int:=BC (λx=>decide (x.At=WP ((a.Tiles[i.toNat]?.map AA.At).getD ⟨0,0⟩) d)) 0 a.Tiles
def l06Neighbor.fv(a:AP×Int×Int):Int:=(HZ) (a.1) (a.2.1) (a.2.2)
def l06Neighbor.row:A8:=vK (b3 (qP 1 AP.d_le) qI qI) rI (λa=>FF none a.1.Tiles=true/\0<=a.2.1/\a.2.1<a.1.Tiles.length/\0<=a.2.2/\a.2.2<=3) l06Neighbor.fv
def l06Neighbor.q:=Bg (R:=l06Neighbor.row) rfl
def l06Neighbor.ok:AE 144 l06Neighbor.row:=by
 refine vw (tC l01Step.ok (tC l03Index.ok tN)) Tryz.func144 ?_;intro a z;simp only[Tryz.f144];simp only[ZA,simprocAttr,AP.d,l06Neighbor.fv,l01Step.q,l01Step.fv,l03Index.q,l03Index.fv];obtain⟨O,Z,h3,h4,h5⟩:=z;refine⟨Z,h3,λx Q=>⟨⟨UP (Qh6 _ _ O x (Bj Q)).1,h4,h5⟩,O,?_⟩⟩;simp only[HZ];rw[Q];rfl
def Mi(s:AI):Nat->List Ac->Bool
 |_,[]=>true
 |i,g::r=>(J3 g.Name && (B7 g.Strength 1 4 && decide (BC (λx=>decide (x.Name=g.Name)) 0 s.Glues=i))) && Mi s (i+1) r
def K1(s:AI):Nat->List Tile->Bool
 |_,[]=>true
 |i,x::r=>(J3 x.Name && (decide (x.Sides.length=4) && (decide (BC (λy=>decide (y.Name=x.Name)) 0 s.Tiles=i) && x.Sides.all (λg=>B7 g 0 s.Glues.length)))) && K1 s (i+1) r
def He(s:AI):Bool:=(decide (s.Glues.length<=200) && B7 s.Tiles.length 1 160) && (Mi s 0 s.Glues && K1 s 0 s.Tiles)
def l02Ok.fv(a:AI):Bool:=(He) a
def l02Ok.row:A8:=vK (b1 (qP 2 AI.d_le)) rB (λa=>True) l02Ok.fv
def l02Ok.q:=Bg (R:=l02Ok.row) rfl
def l02Ok.ok:AE 50 l02Ok.row:=by
 refine vw (tC spec_IsName.ok (tC l00In.ok (tC l02Glue.ok (tC l02Tile.ok tN)))) Tryz.func50 ?_;intro a ac;simp only[Tryz.f50];simp only[ZA,simprocAttr,l02Ok.fv];intro hg;simp only[AL];refine⟨λc1 ht=>⟨λc2 _=>⟨λc3=> ?_,λc3=> ?_⟩,λc2=> ?_⟩,λc1=> ?_⟩
 .have: ¬(a.Tiles.length:Int)<=160:=auOm
  simp[He,B7,this]
 .have c0:He a=(Mi a 0 a.Glues && K1 a 0 a.Tiles):=by
   have e1:a.Glues.length<=200:=auOm;have e2:(1:Int)<=a.Tiles.length:=auOm;have e3:(a.Tiles.length:Int)<=160:=auOm;simp[He,B7,e1,e2,e3]
  refine AY.old ⟨{k:Nat//k<=a.Glues.length/\Mi a k (a.Glues.drop k)=Mi a 0 a.Glues},λk=>⟨[(3,.im (.int .i64 k.1)),(2,.im (.bool false)),(0,.ptr 0 0)],[(0,(false,.view (AI.c a)))],1⟩,λk=>a.Glues.length - k.1,λk=>⟨by simp[ZG],BN _⟩,⟨⟨0,auSi⟩,by simp only[ZA,simprocAttr,sub]⟩,λk=> ?_⟩;obtain⟨k,ab,z⟩:=k;simp only[ZA,simprocAttr,spec_IsName.q,spec_IsName.fv,l00In.q,l00In.fv,l02Glue.q,l02Glue.fv,sub,AL];intro _;refine⟨λhk=>⟨hk,λx hx=> ?_⟩,λhk=> ?_⟩
  .rw[FH hx,Mi] at z;have O:(J3 x.Name && (B7 x.Strength 1 4 && decide (BC (λg:Ac=>decide (g.Name=x.Name)) 0 a.Glues=k)))=false->false=He a:=by
    intro h;rw[h,Da] at z;rw[c0,<-z];rfl
   refine⟨λh1=>⟨λh2=>⟨λZ=> ?_,λZ=>FG hk hg ⟨auOm,?_⟩⟩,λh2=>O (by simp[h2])⟩,λh1=>O (by simp[h1])⟩
   .rw[AG auOm auOm] at Z;exact O (by simp;intro _ _;omega)
   .rw[Ch,AG auOm auOm] at Z;have h4:BC (λg:Ac=>decide (g.Name=x.Name)) 0 a.Glues=k:=auOm;rw[h1,h2,h4] at z;simpa using z
  .rw[Bm auOm,Mi] at z;have c9:He a=K1 a 0 a.Tiles:=by rw[c0,<-z,CZ]
   refine AY.old ⟨{k:Nat//k<=a.Tiles.length/\K1 a k (a.Tiles.drop k)=K1 a 0 a.Tiles},λk=>⟨[(5,.im (.int .i64 k.1)),(2,.im (.bool false)),(0,.ptr 0 0)],[(0,(false,.view (AI.c a)))],1⟩,λk=>a.Tiles.length - k.1,λk=>⟨by simp[ZG],BN _⟩,⟨⟨0,auSi⟩,by simp only[ZA,simprocAttr,sub]⟩,λk=> ?_⟩;obtain⟨k,ab,z⟩:=k;simp only[ZA,simprocAttr,spec_IsName.q,spec_IsName.fv,l02Tile.q,l02Tile.fv,AL];intro _;refine⟨λhk=>⟨hk,λx hx=> ?_⟩,λhk=> ?_⟩
   .rw[FH hx,K1] at z;have O:(J3 x.Name && (decide (x.Sides.length=4) && (decide (BC (λy:Tile=>decide (y.Name=x.Name)) 0 a.Tiles=k) && x.Sides.all (λg=>B7 g 0 a.Glues.length))))=false->false=He a:=by
     intro h;rw[h,Da] at z;rw[c9,<-z]
    refine⟨λh1 hs=>⟨λh2=>⟨λZ=>O (by simp[Z]),λZ=> ?_⟩,λh2=>O (by simp;intro _ h9;omega)⟩,λh1=>O (by simp[h1])⟩;rw[Ch] at Z;have aa:x.Sides.length=4:=auOm;refine AY.old ⟨{j:Nat//j<=4/\(x.Sides.drop j).all (λg=>B7 g 0 a.Glues.length)=x.Sides.all (λg=>B7 g 0 a.Glues.length)},λj=>⟨[(7,.im (.int .i64 j.1)),(5,.im (.int .i64 k)),(6,.ptr 1 0),(2,.im (.bool false)),(0,.ptr 0 0)],[(1,(true,.cells 155 ((Tile.c x).map .im))),(0,(false,.view (AI.c a)))],2⟩,λj=>4 - j.1,λj=>⟨by simp[ZG,Tile.c],auSi⟩,⟨⟨0,auSi⟩,by simp only[ZA,simprocAttr,sub]⟩,λj=> ?_⟩;obtain⟨j,ad,Q⟩:=j;simp only[ZA,simprocAttr,l00In.q,l00In.fv,sub,AL];refine⟨λhj=>⟨auOm,λy hy=> ?_⟩,λhj=>FG hk ht ⟨auOm,?_⟩⟩
    .rw[FH hy,E6] at Q;refine⟨λh=>O ?_,λh=>⟨⟨j+1,auOm,?_⟩,by simp only;omega,?_⟩⟩
     .rw[h,Da] at Q;rw[<-Q];simp
     .rw[FM] at h;rw[h,CZ] at Q;exact Q
     .rw[AG auOm auOm];simp only;omega
    .rw[Bm auOm] at Q;rw[<-z,<-Q,h1,aa,Z];simp
   .rw[Bm auOm,K1] at z;rw[c9,<-z]
 .have: ¬(1:Int)<=a.Tiles.length:=auOm
  simp[He,B7,this]
 .have: ¬a.Glues.length<=200:=auOm
  simp[He,this]
def VS1.fv(a:Int×AI):Bool:=(λg s=> !B7 g 0 s.Glues.length) (a.1) (a.2)
def VS1.row:A8:=vK (b2 qI (qP 2 AI.d_le)) rB (λa=>True) VS1.fv
def VS1.q:=Bg (R:=VS1.row) rfl
def VS1.ok:AE 177 VS1.row:=by
 refine vw (tC within_.ok tN) Tryz.func177 ?_;intro a z;simp only[Tryz.f177];simp only[ZA,simprocAttr,VS1.fv,within_.q,within_.fv];intro _;trivial
def IdxVS.ar:List PK->Option ((Cz)×AI)
 |[.val (.sl _ _ Q),.val (.fn 177 [] [.ref z])]=>(Ba CV Q).bind λZ=>(AI.d (z.take 2)).bind λO=>some (Z,O)
 |_=>none
def IdxVS.ae(a:(Cz)×AI):List PK:=[.val (.sl false 1 (a.1.map Aj)),.val (.fn 177 [] [.ref (AI.c a.2)])]
def IdxVS.le: ∀O a,IdxVS.ar O=some a->Cu O (IdxVS.ae a):=by
 intro O a h;unfold IdxVS.ar at h;split at h
 .simp only[DG,AS] at h;obtain⟨Z,h0,Q,z,rfl⟩:=h;exact⟨Fz (Fs D4 _ _ h0) (by simp only[BY];rintro r ⟨y,_,rfl⟩;rfl),Xc ⟨jS (Ii.trans_take (AI.d_le _ _ z)),trivial⟩,trivial⟩
 .cases h
def IdxVS.fv(a:(Cz)×AI):Int:=(λl s=>BC (λg=> !B7 g 0 s.Glues.length) 0 l) (a.1) (a.2)
def IdxVS.row:A8:=Ei IdxVS.ar (λa=>True) (λa=>(D.int .i64) (IdxVS.fv a))
def IdxVS.q:=vq IdxVS.row rfl
def IdxVS.ok:AE 190 IdxVS.row:=by
 refine XM Fc (tC VS1.ok tN) Tryz.func190 rfl (by kernel_rfl) (by kernel_rfl) (ar:=IdxVS.ar) (ae:=IdxVS.ae) IdxVS.le (n:=2) (λ_=>rfl) auDe (rc:=(Eu)) (re:=(D.int .i64)) (Xy) (f:=IdxVS.fv) ?_;intro a Q;simp only[Tryz.f190];simp only[ZA,simprocAttr,IdxVS.ae,IdxVS.fv];intro hn;refine AY.old ⟨{k:Nat//k<=a.1.length/\BC (λg:Int=> !B7 g 0 a.2.Glues.length) k (a.1.drop k)=BC (λg:Int=> !B7 g 0 a.2.Glues.length) 0 a.1},λk=>⟨[(8,.im (.int .i64 k.1)),(7,.im (.int .i64 a.1.length)),(6,.im (.sl false 1 (a.1.map Aj))),(4,.im (.int .i64 0)),(0,.im (.sl false 1 (a.1.map Aj))),(1,.im (.fn 177 [] [.ref (AI.c a.2)]))],[],0⟩,λk=>a.1.length - k.1,λk=>⟨by simp[ZG],BN _⟩,⟨⟨0,auSi⟩,by simp only[ZA,simprocAttr,sub]⟩,λk=> ?_⟩;obtain⟨k,Z,z⟩:=k;simp only[ZA,simprocAttr,VS1.q,VS1.fv,sub,AL];refine⟨λO=>⟨O,λx hx=> ?_⟩,λO=> ?_⟩
 .rw[FH hx,BC] at z;refine⟨λh=> ?_,λh=>FG O hn ⟨auOm,by rw[<-z,Be (by simpa using h)]⟩⟩;rw[Bt (by simpa using h)] at z;exact z
 .rw[Bm auOm,BC] at z;exact z
def ContVS.ar:List PK->Option ((Cz)×AI)
 |[.val (.sl _ _ Q),.val (.fn 177 [] [.ref z])]=>(Ba CV Q).bind λZ=>(AI.d (z.take 2)).bind λO=>some (Z,O)
 |_=>none
def ContVS.ae(a:(Cz)×AI):List PK:=[.val (.sl false 1 (a.1.map Aj)),.val (.fn 177 [] [.ref (AI.c a.2)])]
def ContVS.le: ∀O a,ContVS.ar O=some a->Cu O (ContVS.ae a):=by
 intro O a h;unfold ContVS.ar at h;split at h
 .simp only[DG,AS] at h;obtain⟨Z,h0,Q,z,rfl⟩:=h;exact⟨Fz (Fs D4 _ _ h0) (by simp only[BY];rintro r ⟨y,_,rfl⟩;rfl),Xc ⟨jS (Ii.trans_take (AI.d_le _ _ z)),trivial⟩,trivial⟩
 .cases h
def ContVS.fv(a:(Cz)×AI):Bool:=(λl s=>l.any (λg=> !B7 g 0 s.Glues.length)) (a.1) (a.2)
def ContVS.row:A8:=Ei ContVS.ar (λa=>True) (λa=>(D.bool) (ContVS.fv a))
def ContVS.q:=vq ContVS.row rfl
def ContVS.ok:AE 163 ContVS.row:=by
 refine XM Fc (tC IdxVS.ok tN) Tryz.func163 rfl (by kernel_rfl) (by kernel_rfl) (ar:=ContVS.ar) (ae:=ContVS.ae) ContVS.le (n:=2) (λ_=>rfl) auDe (rc:=(QV)) (re:=(D.bool)) (cV) (f:=ContVS.fv) ?_;intro a z;simp only[Tryz.f163];simp only[ZA,simprocAttr,ContVS.ae,ContVS.fv,IdxVS.q,IdxVS.ar,IdxVS.fv];exact yK _ _
def Pa(z:List MM):List (D×D):=z.map λn=>(.str n,.bool true)
def zG(n m:MM):(n==m)=decide (n=m):=by
 rw[dT]
def Nq(n:MM): ∀(z:List MM),(n∈z->lk (Pa z) (.str n)=some (.bool true))/\(n∉z->lk (Pa z) (.str n)=none)
 |[]=>⟨λh=>by simp at h,λ_=>rfl⟩
 |m::r=>by
  obtain⟨O,Q⟩:=Nq n r;simp only[Pa] at O Q;simp only[Pa,Br,lk,D.beq,B0,zG];by_cases h:n=m
  .simp[h]
  .simp only[h,ZeR,Dw,false_or];exact⟨O,Q⟩
def Qum(n:MM)(O:List MM)(Ks:D->Prop)(Kn:Prop):Jq (Pa O) (.str n) Ks Kn=((n∈O->Ks (.bool true))/\(n∉O->Kn)):=by
 obtain⟨i1,i2⟩:=Nq n O;apply propext;unfold Jq;constructor
 .rintro⟨Q,Z⟩;exact⟨λh=>Q _ (i1 h),λh=>Z (i2 h)⟩
 .rintro⟨Q,Z⟩;by_cases h:n∈O
  .refine⟨λv z=> ?_,λz=> ?_⟩
   .rw[i1 h] at z;exact AJ z▸Q h
   .rw[i1 h] at z;cases z
  .refine⟨λv z=> ?_,λ_=>Z h⟩;rw[i2 h] at z;cases z
def Qru(n:MM): ∀(z:List MM),n∉z->Fq (Pa z) (.str n) (.bool true)=Pa (z++[n])
 |[],_=>rfl
 |m::r,h=>by
  simp only[B0,Rh] at h
  have:=Qru n r h.2
  simp only[Pa] at this;simp only[Pa,Br,Fq,D.beq,zG,h.1,ZeR,Dw,BZ,this]
def sX{A:Type}(f:A->MM)(l:List A)(k:Nat)(x:A)(hx:l[k]? =some x):BC (λy=>decide (f y=f x)) 0 l=(k:Int)↔f x∉(l.take k).map f:=by
 constructor
 .intro h hm;obtain⟨y,hy,Q⟩:=BY.1 hm;obtain⟨i,Z,ab⟩:=kW.1 hy;have ac:i<k:=by simp at Z;omega
  have aa:l[i]? =some y:=by
   rw[<-ab,List.getElem_take];exact Bk _
  have O: ∀(l:List A) (o i:Nat) (y:A),l[i]? =some y->(decide (f y=f x))=true->BC (λy=>decide (f y=f x)) o l<=((o+i:Nat):Int):=by
   intro l;induction l with
   |nil=>intro o i y h;simp at h
   |cons z r ih=>
    intro o i y h hp;simp only[BC];split
    .omega
    .rename_i hz;cases i with
     |zero=>
      simp only[ES,AS] at h;subst h;exact absurd hp hz
     |succ i=>
      have:=ih (o+1) i y (by simpa using h) hp
      omega
  have:=O l 0 i y aa (by simpa using Q)
  omega
 .intro h;rw[Qtf _ l 0 k x hx auSi ?_]
  .simp
  .intro i y Z hy;simp only[GU];intro Q;apply h;rw[<-Q];refine BY.2 ⟨y,?_,rfl⟩;exact Bj (i:=i) (by rw[Zep,Bt Z];exact hy)
def wC(s:AI):Prop:=(∀g∈s.Glues,g.Name.size<=140737488355328)/\ ∀t∈s.Tiles,t.Name.size<=140737488355328
def ValidSet_.fv(a:AI):Bool:=(He) a
def ValidSet_.row:A8:=vK (b1 (qR AI.d_le)) rB (λa=>wC a) ValidSet_.fv
def ValidSet_.q:=Bg (R:=ValidSet_.row) rfl
def ValidSet_.ok:AE 151 ValidSet_.row:=by
 refine vw (tC within_.ok (tC impl_IsName.ok (tC ContVS.ok tN))) Tryz.func151 ?_;intro a ab;simp only[Tryz.f151];simp only[ZA,simprocAttr,ValidSet_.fv,within_.q,within_.fv];obtain⟨ad,af⟩:=ab;intro hg;simp only[AL];refine⟨λc1 ht=>⟨λc2=> ?_,λc2 _=> ?_⟩,λc1=> ?_⟩
 .simp[He,c2]
 .rw[FM] at c2;have c0:He a=(Mi a 0 a.Glues && K1 a 0 a.Tiles):=by
   have e1:a.Glues.length<=200:=auOm;simp[He,e1,c2]
  refine AY.old ⟨{k:Nat//k<=a.Glues.length/\Mi a k (a.Glues.drop k)=Mi a 0 a.Glues},λk=>⟨[(24,.im (.int .i64 k.1)),(23,.im (.int .i64 a.Glues.length)),(22,.im (.sl false 2 (a.Glues.map Ac.c))),(3,.mp 1),(1,.ptr 0 0),(2,.im (.bool false))],[(1,(true,.map ⟨false,[.str]⟩ (Pa ((a.Glues.take k.1).map Ac.Name)))),(0,(true,.cells 41 ((AI.c a).map .im)))],2⟩,λk=>a.Glues.length - k.1,λk=>⟨by simp[ZG,AI.c],BN _⟩,⟨⟨0,auSi⟩,by simp only[ZA,simprocAttr,sub,Pa]⟩,λk=> ?_⟩;obtain⟨k,ac,z⟩:=k;simp only[ZA,simprocAttr,within_.q,within_.fv,impl_IsName.q,impl_IsName.fv,sub,AL,Qum];refine⟨λhk=>⟨hk,λx Z=>⟨ad x (Bj Z),?_⟩⟩,λhk _=> ?_⟩
  .rw[FH Z,Mi] at z;have hu:=sX Ac.Name a.Glues k x Z;have O:(J3 x.Name && (B7 x.Strength 1 4 && decide (BC (λg:Ac=>decide (g.Name=x.Name)) 0 a.Glues=k)))=false->false=He a:=by
    intro h;rw[h,Da] at z;rw[c0,<-z];rfl
   refine⟨λh1=>⟨λQ=>O ?_,λQ=>⟨λh3=>O (by simp[h3]),λh3=>⟨⟨k+1,auOm,?_⟩,by simp only;omega,?_,?_⟩⟩⟩,λh1=>O (by simp[h1])⟩
   .simp only[ZdU,GU];exact .inr (.inr λh9=>(hu.1 h9) Q)
   .rw[FM] at h3;rw[h1,h3,hu.2 Q] at z;simpa using z
   .rw[AG auOm auOm];simp only;omega
   .rw[Qru _ _ Q,FL,Z];simp
  .rw[Bm auOm,Mi] at z;have c9:He a=K1 a 0 a.Tiles:=by rw[c0,<-z,CZ]
   refine AY.frz [0] ⟨{k:Nat//k<=a.Tiles.length/\K1 a k (a.Tiles.drop k)=K1 a 0 a.Tiles},λk=>⟨[(52,.im (.int .i64 k.1)),(51,.im (.int .i64 a.Tiles.length)),(50,.im (.sl false 2 (a.Tiles.map Tile.c))),(6,.mp 2),(1,.ptr 0 0),(2,.im (.bool false))],[(2,(true,.map ⟨false,[.str]⟩ (Pa ((a.Tiles.take k.1).map Tile.Name)))),(0,(false,.cells 41 ((AI.c a).map .im)))],3⟩,λk=>a.Tiles.length - k.1,λk=>⟨by simp[ZG,AI.c],BN _⟩,⟨⟨0,auSi⟩,by simp only[ZA,simprocAttr,sub,Pa]⟩,λk=> ?_⟩;obtain⟨k,ac,z⟩:=k;simp only[ZA,simprocAttr,impl_IsName.q,impl_IsName.fv,ContVS.q,ContVS.ar,ContVS.fv,sub,AL,Qum];refine⟨λhk=>⟨hk,λx Z=>⟨af x (Bj Z),?_⟩⟩,λhk=> ?_⟩
   .rw[FH Z,K1] at z;have hu:=sX Tile.Name a.Tiles k x Z;have O:(J3 x.Name && (decide (x.Sides.length=4) && (decide (BC (λy:Tile=>decide (y.Name=x.Name)) 0 a.Tiles=k) && x.Sides.all (λg=>B7 g 0 a.Glues.length))))=false->false=He a:=by
     intro h;rw[h,Da] at z;rw[c9,<-z]
    have aa:(x.Sides.any λg=> !B7 g 0 a.Glues.length)= !x.Sides.all (λg=>B7 g 0 a.Glues.length):=by
     simp[List.not_all_eq_any_not]
    rw[aa];refine⟨λh1=>⟨λQ=>O ?_,λQ _=>⟨λh3=>O ?_,λh3=>⟨λh4=>O ?_,λh4=>⟨⟨k+1,auOm,?_⟩,by simp only;omega,?_,?_⟩⟩⟩⟩,λh1=>O (by simp[h1])⟩
    .simp only[ZdU,GU];exact .inr (.inr (.inl λh9=>(hu.1 h9) Q))
    .have: ¬x.Sides.length=4:=auOm
     simp[this]
    .simp only[lB] at h4;simp only[h4,zR]
    .have h5:x.Sides.length=4:=auOm;simp only[lB,FM] at h4;rw[h1,h5,hu.2 Q,h4] at z;simpa using z
    .rw[AG auOm auOm];simp only;omega
    .rw[Qru _ _ Q,FL,Z];simp
   .rw[Bm auOm,K1] at z;rw[c9,<-z]
 .have: ¬a.Glues.length<=200:=auOm
  simp[He,this]
def OV(s:AI)(a:AP):Bool:=(FF none a.Tiles && decide (a.Tiles.length<=500)) && a.Tiles.all (λx=>B7 x.Tile 0 (s.Tiles.length - 1))
def ValidAssembly_.fv(a:AI×AP):Bool:=(λs a=>He s && OV s a) (a.1) (a.2)
def ValidAssembly_.row:A8:=vK (b2 (qR AI.d_le) (qR AP.d_le)) rB (λa=>wC a.1) ValidAssembly_.fv
def ValidAssembly_.q:=Bg (R:=ValidAssembly_.row) rfl
def ValidAssembly_.ok:AE 112 ValidAssembly_.row:=by
 refine vw (tC ValidSet_.ok (tC hasForm_.ok (tC ContVA.ok tN))) Tryz.func112 ?_;intro a z;simp only[Tryz.f112];simp only[ZA,simprocAttr,AP.d,ValidAssembly_.fv,ValidSet_.q,ValidSet_.fv,hasForm_.q,hasForm_.fv,ContVA.q,ContVA.ar,ContVA.fv];refine⟨z,?_⟩
 split<;>rename_i Q
 .split<;>rename_i O
  .simp[Q,OV,O.1,O.2,List.not_any_eq_all_not]
  .have Z:(FF none a.2.Tiles && decide (a.2.Tiles.length<=500))=false:=by
    rw[Hk];intro h;simp only[B1,CK] at h;exact O h
   simp[OV,Z]
 .simp[Q]
def comparePlaced.fv(a:AA×AR):Int:=(λa p=>Lk [EB a.At.Y p.Y,EB a.At.X p.X]) (a.1) (a.2)
def comparePlaced.row:A8:=vK (b2 (qR AA.d_le) (qR AR.d_le)) rI (λa=>True) comparePlaced.fv
def comparePlaced.q:=Bg (R:=comparePlaced.row) rfl
def comparePlaced.ok:AE 209 comparePlaced.row:=by
 refine vw (tC comparePoints.ok tN) Tryz.func209 ?_;intro a z;simp only[Tryz.f209];simp only[ZA,simprocAttr,comparePlaced.fv,comparePoints.q,comparePoints.fv]
def IN(l:List AA)(p:AR):Nat:=(l.takeWhile (λx=>Ds x.At p)).length
def Qyx(p:AR): ∀(l:List AA) (lo:Nat),lo<=l.length->(∀(i:Nat) (x:AA),i<lo->l[i]? =some x->Ds x.At p=true)->(∀(i:Nat) (x:AA),lo<=i->l[i]? =some x->Ds x.At p=false)->IN l p=lo
 |[],lo,h,_,_=>by simp at h;simp[IN,h]
 |x::r,0,_,_,h=>by
  have:=h 0 x auOm auSi
  simp[IN,this]
 |x::r,lo+1,hl,O,Z=>by
  have h3:=O 0 x auOm auSi;have Q:=Qyx p r lo (by simpa using hl) (λi y hi z=>O (i+1) y auOm (by simpa using z)) (λi y hi z=>Z (i+1) y auOm (by simpa using z));simp only[IN] at Q;simp[IN,h3,Q]
def SS(a b:AR):(Lk [EB a.Y b.Y,EB a.X b.X]<0)↔Ds a b=true:=by
 simp only[Ds,Lk,EB]
 grind
def lW(a b:AR):(Lk [EB a.Y b.Y,EB a.X b.X]=0)↔a=b:=by
 obtain⟨x,y⟩:=a;obtain⟨z,w⟩:=b;simp only[Lk,EB,AR.mk.injEq]
 grind
def midU(lo z:Nat)(h:lo+z<=562949953421312):IntKind.wrap .i64 ((IntKind.wrap .u64 (IntKind.wrap .i64 ((lo:Int)+z))).fdiv (2^min 1 IntKind.u64.bits))=(((lo+z)/2:Nat):Int):=by
 rw[AG (x:=(lo:Int)+z) auOm auOm];have O:IntKind.wrap .u64 ((lo:Int)+z)=(lo:Int)+z:=by
  simp only[IntKind.wrap,IntKind.signed,IntKind.bits];simp;omega
 have Q:(2:Int)^min 1 IntKind.u64.bits=2:=auDe;rw[O,Q,Zej _ auOm,AG auOm auOm];omega
def BinP.ar:List PK->Option ((List AA)×AR×Unit)
 |[.val (.sl _ _ z),.val (.agg O),.val (.fn 209 [] [])]=>(Ba AA.d z).bind λQ=>(AR.d O).bind λZ=>some (Q,Z,())
 |_=>none
def BinP.ae(a:(List AA)×AR×Unit):List PK:=[.val (.sl false 3 (a.1.map AA.c)),.val (.agg (AR.c a.2.1)),.val (.fn 209 [] [])]
def BinP.le: ∀z a,BinP.ar z=some a->Cu z (BinP.ae a):=by
 intro z a h;unfold BinP.ar at h;split at h
 .simp only[DG,AS] at h;obtain⟨Q,h0,Z,O,rfl⟩:=h;exact⟨Fz (Fs AA.d_le _ _ h0) (by simp only[BY];rintro r ⟨y,_,rfl⟩;rfl),LI (AR.d_le _ _ O),CX.refl _,trivial⟩
 .cases h
def BinP.fv(a:(List AA)×AR×Unit):Int×Bool:=(λl p _=>((IN l p:Int),l.any (λx=>decide (x.At=p)))) (a.1) (a.2.1) (a.2.2)
def BinP.row:A8:=Ei BinP.ar (λa=>FF none a.1=true) (λa=>(λb=>D.tup [(D.int .i64) (b.1),(D.bool) (b.2)]) (BinP.fv a))
def BinP.q:=vq BinP.row rfl
def BinP.ok:AE 208 BinP.row:=by
 refine XM Fc (tC comparePlaced.ok tN) Tryz.func208 rfl (by kernel_rfl) (by kernel_rfl) (ar:=BinP.ar) (ae:=BinP.ae) BinP.le (n:=3) (λ_=>rfl) auDe (rc:=(pH (Eu) (QV))) (re:=(λb=>D.tup [(D.int .i64) (b.1),(D.bool) (b.2)])) (Qbz (Xy) (cV)) (f:=BinP.fv) ?_;intro a af;simp only[Tryz.f208];simp only[ZA,simprocAttr,BinP.ae,BinP.fv];intro hn;refine AY.old ⟨{p:Nat×Nat//p.1<=p.2/\p.2<=a.1.length/\(∀i x,i<p.1->a.1[i]? =some x->Ds x.At a.2.1=true)/\(∀i x,p.2<=i->a.1[i]? =some x->Ds x.At a.2.1=false)},λp=>⟨[(9,.im (.int .i64 p.1.1)),(10,.im (.int .i64 p.1.2)),(8,.im (.int .i64 a.1.length)),(6,.im (.int .i64 0)),(7,.im (.bool false)),(4,.ptr 0 0),(0,.im (.sl false 3 (a.1.map AA.c))),(2,.im (.fn 209 [] []))],[(0,(true,.cells 135 [.im (.int .i64 a.2.1.X),.im (.int .i64 a.2.1.Y)]))],1⟩,λp=>p.1.2 - p.1.1,λp=>⟨by simp[ZG],BN _⟩,⟨⟨(0,a.1.length),auSi,auSi,auSi,?_⟩,by simp only[ZA,simprocAttr,sub]⟩,λp=> ?_⟩
 .intro i x hi Z
  have:=(Bi.1 Z).1
  simp only at hi;omega
 obtain⟨⟨lo,hi⟩,h1,h2,h3,h4⟩:=p;simp only at h1 h2 h3 h4;simp only[ZA,simprocAttr,comparePlaced.q,comparePlaced.fv,sub,AL];obtain⟨_,Q⟩:=Qe4 _ _ af;have ad: ∀(i:Nat) (x:AA),i<lo->a.1[i]? =some x->x.At≠a.2.1:=by
  intro i x hi Z he
  have:=h3 i x hi Z
  rw[he,Qku] at this;cases this
 rw[midU lo hi auOm];simp only[SS,lW];refine⟨λag=> ?_,λag=>⟨λhl=>⟨hl,λx Z=> ?_⟩,λhl=> ?_⟩⟩
 .refine⟨auOm,auOm,λx Z=>⟨λhb=> ?_,λhb=> ?_⟩⟩
  .rw[Cp] at Z;refine⟨⟨((lo+hi)/2+1,hi),by simp only;omega,h2,λi y O hy=> ?_,h4⟩,by simp only;omega,?_,rfl⟩
   .simp only at O;rcases Pi i ((lo+hi)/2) with h|h
    .exact pC (Q i _ y x h hy Z) hb
    .have:i=(lo+hi)/2:=auOm
     subst this;rw[Z] at hy;exact AJ hy▸hb
   .rw[AG auOm auOm];simp only;omega
  .rw[Cp] at Z;refine⟨⟨(lo,(lo+hi)/2),by simp only;omega,by simp only;omega,h3,λi y O hy=> ?_⟩,by simp only;omega,rfl,rfl⟩;simp only at O;rcases Pi ((lo+hi)/2) i with h|h
   .cases hl:Ds y.At a.2.1 with
    |false=>rfl
    |true=>exact absurd (pC (Q _ i x y h Z hy) hl) hb
   .have:i=(lo+hi)/2:=auOm
    subst this;rw[Z] at hy;obtain rfl:=AJ hy;simpa using hb
 .have aa:=Qyx a.2.1 a.1 lo auOm h3 (λi y O hy=>h4 i y auOm hy);refine⟨by rw[aa],?_⟩;rw[Iw];simp only[CK,Sx];refine⟨λhe=>⟨x,Bj Z,he⟩,?_⟩;rintro⟨y,hy,he⟩;obtain⟨i,O,ac⟩:=kW.1 hy;have z:a.1[i]? =some y:=by rw[Bk O,ac]
  rcases lH i lo with h|h|h
  .exact absurd he (ad i y h z)
  .subst h;rw[Z] at z;exact AJ z▸he
  .have ab:=Q lo i x y h Z z;rw[he] at ab
   have:=h4 lo x auOm Z
   rw[this] at ab;cases ab
 .have aa:=Qyx a.2.1 a.1 lo auOm h3 (λi y O hy=>h4 i y auOm hy);refine⟨by rw[aa],?_⟩;symm;simp only[List.any_eq_false,CK];intro y hy he;obtain⟨i,O,ac⟩:=kW.1 hy;have z:a.1[i]? =some y:=by rw[Bk O,ac]
  exact ad i y auOm z he
def Pu{l:List AA}{p:AR}(h:FF none l=true){i:Nat}{x:AA}(Q:l[i]? =some x)(Z:x.At=p):IN l p=i:=by
 obtain⟨_,z⟩:=Qe4 _ _ h;have hi:=(Bi.1 Q).1;refine Qyx p l i auOm (λj y hj O=> ?_) (λj y hj O=> ?_)
 .have:=z j i y x hj O Q
  rwa [Z] at this
 .rcases Pi i j with h1|h1
  .have h2:=z i j x y h1 Q O;rw[Z] at h2;cases h3:Ds y.At p with
   |false=>rfl
   |true=>
    have:=pC h2 h3
    rw[Qku] at this;cases this
  .have:j=i:=auOm
   subst this;rw[Q] at O;obtain rfl:=AJ O;rw[Z,Qku]
def S8{l:List AA}{p:AR}(h:FF none l=true):(l.any (λx=>decide (x.At=p))=true/\ ∃x,l[IN l p]? =some x/\x.At=p/\l.find? (λx=>decide (x.At=p))=some x/\BC (λx=>decide (x.At=p)) 0 l=(IN l p:Int))\/
 (l.any (λx=>decide (x.At=p))=false/\l.find? (λx=>decide (x.At=p))=none/\BC (λx=>decide (x.At=p)) 0 l= -1):=by
 rcases wB (λx=>decide (x.At=p)) l 0 with ⟨z,O⟩|⟨i,x,z,O,Q⟩
 .refine .inr ⟨?_,z,O⟩;simpa[lD] using z
 .have Z:x.At=p:=by simpa using lE z
  have hb:=Pu h Q Z;refine .inl ⟨?_,x,by rw[hb];exact Q,Z,z,by rw[O,hb,Je]⟩;simp only[Sx,CK];exact⟨x,Bj Q,Z⟩
def placeAt.rc:D->Option (Int):=Eu
def placeAt.re:Int->D:=D.int .i64
def placeAt.rle: ∀d b,placeAt.rc d=some b->Le d (placeAt.re b):=Xy
def placeAt.fv(a:AP×AR):Int:=(λa p=>BC (λx=>decide (x.At=p)) 0 a.Tiles) (a.1) (a.2)
def placeAt.row:A8:=vK (b2 (qR AP.d_le) (qR AR.d_le)) (RK.mk placeAt.rc placeAt.re placeAt.rle) (λa=>FF none a.1.Tiles=true) placeAt.fv
def placeAt.q:=Bg (R:=placeAt.row) rfl
def placeAt.ok:AE 199 placeAt.row:=by
 refine vw (tC BinP.ok tN) Tryz.func199 ?_;intro a z;simp only[Tryz.f199];simp only[ZA,simprocAttr,placeAt.fv,placeAt.rc,BinP.q,BinP.ar,BinP.fv];refine⟨z,?_⟩;rcases S8 (p:=a.2) z with ⟨O,x,Z,Q,h4,h5⟩|⟨O,Z,Q⟩
 .rw[Bt O,h5]
 .rw[O,Be auSi,Q]
def KD{β:Type}:List (AR×β)->AR->Option β
 |[],_=>none
 |(k,v)::r,p=>if p=k then some v else KD r p
def oS(l:List (AR×Int))(p:AR):Int:=(KD l p).getD (-1)
def Me{β:Type}:List (AR×β)->AR->β->List (AR×β)
 |[],p,v=>[(p,v)]
 |(k,w)::r,p,v=>if p=k then (p,v)::r else (k,w)::Me r p v
def qW{α:Type}{l:List α}{k:Nat}{x:α}(h:l[k]? =some x):l.take (k+1)=l.take k++[x]:=by rw[FL,h];rfl
def newC.pre(a:AM×AP):Prop:=FB a.1.Set/\a.1.Set.Tiles.length<=1000000/\ ∀x∈a.2.Tiles,iV a.1.Set x.Tile/\Sb x.At
def H6(a:AP)(i:Int):Int:=(a.Tiles[i.toNat]?.map AA.Tile).getD (-1)
def Y4(s:AI)(a:AP)(i:Nat)(d:Int):List Ak:=
 if 0<=HZ a i d then if 0<WR s (H6 a i) d (H6 a (HZ a i d)) then [⟨i,HZ a i d,WR s (H6 a i) d (H6 a (HZ a i d))⟩] else [] else []
def Li(s:AI)(a:AP)(i:Nat):Nat->List Ak
 |0=>[]
 |k+1=>Li s a i k++Y4 s a i (1 - k)
def GM(s:AI)(a:AP):Nat->List Ak
 |0=>[]
 |k+1=>GM s a k++Li s a k 2
def P0(s:AI)(a:AP)(i:Nat)(d:Int):(Y4 s a i d).length<=1:=by
 simp only[Y4];split
 .split<;>simp
 .simp
def Ql7(s:AI)(a:AP)(i:Nat): ∀k,(Li s a i k).length<=k
 |0=>by simp[Li]
 |k+1=>by
  have z:=Ql7 s a i k;have O:=P0 s a i (1 - k);simp only[Li,BR];omega
def wO(s:AI)(a:AP): ∀k,(GM s a k).length<=2*k
 |0=>by simp[GM]
 |k+1=>by
  have z:=wO s a k;have O:=Ql7 s a k 2;simp only[GM,BR];omega
def mH{A:Type}(p:A->Bool)(l:List A):BC p 0 l<(l.length:Int):=by
 rcases wB p l 0 with ⟨_,h⟩|⟨i,x,_,h,z⟩
 .omega
 .have:=(Bi.1 z).1
  omega
def LM(a:AP)(i d:Int):HZ a i d<(a.Tiles.length:Int):=mH _ _
def l06Bonds.fv(a:AI×AP):List Ak:=(λs a=>GM s a a.Tiles.length) (a.1) (a.2)
def l06Bonds.row:A8:=vK (b2 (qP 2 AI.d_le) (qP 1 AP.d_le)) (rS Ak.d_le Ak.c_n) (λa=>FB a.1/\M2 a.1 a.2/\a.2.Tiles.length<=1000000) l06Bonds.fv
def l06Bonds.q:=Bg (R:=l06Bonds.row) rfl
def l06Bonds.ok:AE 100 l06Bonds.row:=by
 refine vw (tC l06Neighbor.ok (tC l02Bond.ok tN)) Tryz.func100 ?_;intro a z;simp only[Tryz.f100];simp only[ZA,simprocAttr,l06Bonds.fv];obtain⟨h1,Z,h3⟩:=z;refine AY.ren ⟨{k:Nat//k<=a.2.Tiles.length},λk=>⟨[(6,.im (.int .i64 k.1)),(5,.own 4),(0,.ptr 0 0),(1,.ptr 1 0)],[(4,(true,.arr 196 3 ((GM a.1 a.2 k.1).map Ak.c))),(0,(false,.view (AI.c a.1))),(1,(false,.view (AP.c a.2)))],5⟩,λk=>a.2.Tiles.length - k.1,λk=>⟨by simp[ZG],auSi⟩,⟨⟨0,auSi⟩,[(4,some 3)],?_⟩,λk=> ?_⟩
 .simp only[AB];simp only[ZA,simprocAttr,Bf,GM]
 obtain⟨k,af⟩:=k;simp only[ZA,simprocAttr,AL];intro ac;refine⟨λhk=> ?_,λhk=> ?_⟩
 .refine AY.ren ⟨{j:Nat//j<=2},λj=>⟨[(7,.im (.int .i64 (1 - (j.1:Int)))),(6,.im (.int .i64 k)),(5,.own 5),(0,.ptr 0 0),(1,.ptr 1 0)],[(5,(true,.arr 196 3 ((GM a.1 a.2 k++Li a.1 a.2 k j.1).map Ak.c))),(0,(false,.view (AI.c a.1))),(1,(false,.view (AP.c a.2)))],6⟩,λj=>2 - j.1,λj=>⟨by simp[ZG],auSi⟩,⟨⟨0,auSi⟩,[(5,some 4)],?_⟩,λj=> ?_⟩
  .simp only[AB];simp only[ZA,simprocAttr,Bf,Li]
   try simp
  obtain⟨j,ad⟩:=j;simp only[ZA,simprocAttr,AP.d,l06Neighbor.q,l06Neighbor.fv,l02Bond.q,l02Bond.fv,AL,XG,X3,Ee,D.one];have ab:=LM a.2 k (1 - j);have ag:=wO a.1 a.2 k;have ah:=Ql7 a.1 a.2 k j;refine⟨λhd=>⟨⟨Z.1,hk,hd,auOm⟩,λhn=>⟨⟨j+1,auOm⟩,[(5,some 5)],by simp only;omega,?_⟩,λhn=>⟨hk,λx hx=>⟨auOm,ab,λy hy=>⟨⟨h1,Z.2 x (Bj hx),⟨auOm,auOm⟩,Z.2 y (Bj hy)⟩,λhb=>⟨by simp only[BR];omega,⟨j+1,auOm⟩,[(5,some 7)],by simp only;omega,?_⟩,λhb=>⟨⟨j+1,auOm⟩,[(5,some 5)],by simp only;omega,?_⟩⟩⟩⟩⟩,λhd=>⟨⟨k+1,auOm⟩,[(4,some 5)],by simp only;omega,?_⟩⟩
  .simp only[AB];simp only[ZA,simprocAttr,Bf];refine⟨?_,?_⟩
   .rw[AG auOm auOm];omega
   .simp only[Li,Y4];rw[Be auOm,C3]
  .simp only[AB];simp only[ZA,simprocAttr,Bf];refine⟨?_,?_⟩
   .rw[AG auOm auOm];omega
   .have O:H6 a.2 k=x.Tile:=by simp[H6,hx]
    have Q:H6 a.2 (HZ a.2 k (1 - j))=y.Tile:=by simp only[H6];rw[hy];rfl
    simp only[Li,Y4];rw[Bt auOm,O,Q,Bt hb];simp[Ak.c]
  .simp only[AB];simp only[ZA,simprocAttr,Bf];refine⟨?_,?_⟩
   .rw[AG auOm auOm];omega
   .have O:H6 a.2 k=x.Tile:=by simp[H6,hx]
    have Q:H6 a.2 (HZ a.2 k (1 - j))=y.Tile:=by simp only[H6];rw[hy];rfl
    simp only[Li,Y4];rw[Bt auOm,O,Q,Be hb,C3]
  .simp only[AB];simp only[ZA,simprocAttr,Bf];have aa:j=2:=auOm;subst aa;refine⟨?_,?_⟩
   .rw[AG auOm auOm];omega
   .simp only[GM]
 .have:k=a.2.Tiles.length:=auOm
  rw[this]
def JE:Cz->Cz->Bool
 |x::r,y::s=>if x=y then JE r s else decide (x<y)
 |_,_=>false
def Ht(v:Int)(l:Cz)(w:Int)(m:Cz):Bool:=if v=w then if l.length=m.length then JE l m else decide (l.length<m.length) else decide (v<w)
def l07Before.fv(a:Int×(Cz)×Int×(Cz)):Bool:=(Ht) (a.1) (a.2.1) (a.2.2.1) (a.2.2.2)
def l07Before.row:A8:=vK (b4 qI (qS D4 Cq) qI (qS D4 Cq)) rB (λa=>True) l07Before.fv
def l07Before.q:=Bg (R:=l07Before.row) rfl
def l07Before.ok:AE 148 l07Before.row:=by
 refine vw tN Tryz.func148 ?_;intro a ab;simp only[Tryz.f148];simp only[ZA,simprocAttr,l07Before.fv]
 split<;>rename_i h
 .simp only[Ht];rw[Be h]
 intro ad af
 split<;>rename_i h2
 .intro _ _;simp only[Ht];rw[Bt (Ch.1 h),Be auOm]
 have hn:a.2.1.length=a.2.2.2.length:=auOm;have hb:Ht a.1 a.2.1 a.2.2.1 a.2.2.2=JE a.2.1 a.2.2.2:=by simp only[Ht];rw[Bt (Ch.1 h),Bt hn]
 rw[hb];refine AY.old ⟨{k:Nat//k<=a.2.1.length/\JE (a.2.1.drop k) (a.2.2.2.drop k)=JE a.2.1 a.2.2.2},λk=>⟨[(9,.im (.int .i64 k.1)),(8,.im (.bool false)),(0,.im (.int .i64 a.1)),(1,.im (.sl false 1 (a.2.1.map Aj))),(2,.im (.int .i64 a.2.2.1)),(3,.im (.sl false 1 (a.2.2.2.map Aj)))],[],0⟩,λk=>a.2.1.length - k.1,λk=>⟨by simp[ZG],BN _⟩,⟨⟨0,auSi⟩,by simp only[ZA,simprocAttr,sub]⟩,λk=> ?_⟩;obtain⟨k,ac,z⟩:=k;simp only[ZA,simprocAttr,sub,AL];intro _;refine⟨λZ=>⟨Z,λx hx=>⟨auOm,λy hy=>⟨λaa=>⟨Z,λx' O=>⟨auOm,λy' Q=> ?_⟩⟩,λhe=> ?_⟩⟩⟩,λZ=> ?_⟩
 .rw[hx] at O;rw[hy] at Q;obtain rfl:=AJ O;obtain rfl:=AJ Q;rw[FH hx,FH hy,JE,Be aa] at z;exact z
 .rw[FH hx,FH hy,JE,Bt (Ch.1 he)] at z;refine⟨⟨k+1,auOm,z⟩,by simp only;omega,?_⟩;rw[AG auOm auOm];simp only;omega
 .rw[Bm auOm,JE] at z
  .exact z
  .intros;simp_all
def Qxu(n:Nat)(rows:List (List D)):(Bw rows).all (A9 n)=true:=by
 simp only[Bw,List.all_map,CF,Function.comp];intro r z;clear z;induction r with
 |nil=>simp[A9]
 |cons x r ih=>simp[A9,AV.bel,ih]
def MT(F:List Nat)(H:An): ∀(r:List D),DN F H (r.map .im)=r.map .im
 |[]=>rfl
 |x::r=>by simp only[Br,DN,AV.fzA,MT F H r]
def MU(F:List Nat)(H:An): ∀(rows:List (List D)),DO F H (Bw rows)=Bw rows
 |[]=>rfl
 |x::r=>by
  have:=MU F H r
  simp only[Bw] at this;simp only[Bw,Br,DO,MT,this]
def Qzl(F:List Nat)(H:An): ∀(a b:List (List AV)),DO F H (a++b)=DO F H a++DO F H b
 |[],b=>rfl
 |x::r,b=>by simp only[BZ,DO,Qzl F H r b]
def U1(π:List (Nat×Option Nat)): ∀(r:List D),Dl π (r.map .im) (r.map .im)
 |[]=>by simp[Dl]
 |x::r=>by simp only[Br,Dl,mt,U1 π r,Ly]
def Qzo(π:List (Nat×Option Nat)): ∀(rows:List (List D)),Hm π (Bw rows) (Bw rows)
 |[]=>by simp[Hm,Bw]
 |x::r=>by
  have:=Qzo π r
  simp only[Bw] at this;simp only[Bw,Br,Hm,U1,this,Ly]
def Qzb(F:List Nat)(H:An)(rows:List (List D)):DO F H (rows.map λr=>r.map AV.im)=rows.map λr=>r.map AV.im:=MU F H rows
def qQ(π:List (Nat×Option Nat))(rows:List (List D)):Hm π (rows.map λr=>r.map AV.im) (rows.map λr=>r.map AV.im)=True:=Rg (Qzo π rows)
def tZ(n:Nat)(rows:List (List D)):(rows.map λr=>r.map AV.im).all (A9 n)=true:=Qxu n rows
def Qtl{α β:Type}{f:α->Option β}{g:β->α}(h: ∀y,f (g y)=some y): ∀(l:List β),Aw f (l.map g)=some l
 |[]=>rfl
 |x::r=>by simp only[Br,Aw,h,Qtl h r]
def Zf(h:HpT)(kx:Nat->Option Nat)(n:Nat)(rows:List (List D)):Aw (Aw λx=>Fg (Bs h kx (n+1) x)) (rows.map λr=>r.map AV.im)=some rows:=
 Qtl (g:=λr=>r.map AV.im) (λy=>Qtl (g:=AV.im) (λ_=>rfl) y) rows
def Jb{A:Type}(f:A->A):Nat->List A->List A
 |0,l=>l
 |_+1,[]=>[]
 |k+1,x::r=>f x::Jb f k r
def Qwq{A:Type}(f:A->A): ∀(k:Nat) (l:List A),(Jb f k l).length=l.length
 |0,_=>rfl
 |_+1,[]=>rfl
 |k+1,x::r=>by simp only[Jb,Em,Qwq f k r]
def Qoo{A:Type}(f:A->A): ∀(k:Nat) (l:List A),(Jb f k l)[k]? =l[k]?
 |0,_=>rfl
 |_+1,[]=>by simp[Jb]
 |k+1,x::r=>by simp only[Jb,Su,Qoo f k r]
def Qn5{A:Type}(f:A->A): ∀(k:Nat) (l:List A) (x:A),l[k]? =some x->(Jb f k l).set k (f x)=Jb f (k+1) l
 |0,[],x,h=>by simp at h
 |0,y::r,x,h=>by
  simp only[ES,AS] at h;subst h;simp[Jb]
 |k+1,[],x,h=>by simp at h
 |k+1,y::r,x,h=>by
  have:=Qn5 f k r x (by simpa using h)
  rw[Jb,Jb,YN,this]
def Qabf{A:Type}(f:A->A)(k:Nat)(l:List A)(x:A)(h:l[k]? =some x)(hf:f x=x):Jb f (k+1) l=Jb f k l:=by
 rw[<-Qn5 f k l x h,hf];have z:(Jb f k l)[k]? =some x:=by rw[Qoo,h]
 obtain⟨O,Q⟩:=Bi.1 z;rw[<-Q];exact List.set_getElem_self O
def Qvd{A:Type}(f:A->A): ∀(k:Nat) (l:List A),l.length<=k->Jb f k l=l.map f
 |0,[],_=>rfl
 |0,x::r,h=>by simp at h
 |_+1,[],_=>rfl
 |k+1,x::r,h=>by simp only[Jb,Br,Qvd f k r (by simpa using h)]
def Y6:Nat->Cz
 |0=>[]
 |k+1=>Y6 k++[(k:Int)]
def jF: ∀k,(Y6 k).length=k
 |0=>rfl
 |k+1=>by simp[Y6,jF k]
def K5(x y v:Int):Int:=if v=Fj x y then Gb x y else v
def xR(own:Cz)(b:Ak):Cz:=own.map (K5 (own[b.A.toNat]?.getD 0) (own[b.B.toNat]?.getD 0))
def CC(n:Nat)(bs:List Ak):Nat->Cz
 |0=>Y6 n
 |k+1=>match bs[k]? with
  |some b=>xR (CC n bs k) b
  |none=>CC n bs k
def Qto(n:Nat)(bs:List Ak): ∀k,(CC n bs k).length=n
 |0=>jF n
 |k+1=>by
  simp only[CC];split
  .simp[xR,Qto n bs k]
  .exact Qto n bs k
def DP(own:Cz)(i:Nat):Nat->Cz
 |0=>[]
 |k+1=>DP own i k++(if own[i+k]? =some (i:Int) then [((i+k:Nat):Int)] else [])
def Qsd(own:Cz)(i:Nat): ∀k,(DP own i k).length<=k
 |0=>by simp[DP]
 |k+1=>by
  have:=Qsd own i k
  simp only[DP,BR]
  split<;>simp<;>omega
def BW(own:Cz)(n:Nat):Nat->List (Cz)
 |0=>[]
 |k+1=>BW own n k++(if own[k]? =some (k:Int) then [DP own k (n - k)] else [])
def wU(own:Cz)(n:Nat): ∀k,(BW own n k).length<=k
 |0=>by simp[BW]
 |k+1=>by
  have:=wU own n k
  simp only[BW,BR]
  split<;>simp<;>omega
def WO(n:Int)(bs:List Ak):List (Cz):=BW (CC n.toNat bs bs.length) n.toNat n.toNat
def Mm(n:Int)(bs:List Ak):Prop:= ∀b∈bs,0<=b.A/\b.A<n/\0<=b.B/\b.B<n
def l06Groups.fv(a:Int×(List Ak)):List (Cz):=(WO) (a.1) (a.2)
def l06Groups.row:A8:=vK (b2 qI (qS Ak.d_le Ak.c_n)) (rS OZ KZ) (λa=>0<=a.1/\a.1<=1000000/\Mm a.1 a.2) l06Groups.fv
def l06Groups.q:=Bg (R:=l06Groups.row) rfl
def l06Groups.ok:AE 141 l06Groups.row:=by
 refine vw (tC l00Min.ok (tC l00Max.ok tN)) Tryz.func141 ?_;intro a af;simp only[Tryz.f141];simp only[ZA,simprocAttr,l06Groups.fv];obtain⟨ak,am,aa⟩:=af;obtain⟨n,hn⟩: ∃n:Nat,a.1=n:=⟨a.1.toNat,auOm⟩;simp only[WO,hn,Cp];rw[hn] at ak am aa;refine AY.ren ⟨{k:Nat//k<=n},λk=>⟨[(6,.im (.int .i64 k.1)),(5,.own 2),(0,.im (.int .i64 n)),(1,.im (.sl false 3 (a.2.map Ak.c)))],[(2,(true,.arr 2 1 ((Y6 k.1).map Aj)))],3⟩,λk=>n - k.1,λk=>⟨by simp[ZG],auSi⟩,⟨⟨0,auSi⟩,[(2,some 1)],?_⟩,λk=> ?_⟩
 .simp only[AB];simp only[ZA,simprocAttr,Y6]
  try simp
 obtain⟨k,Z⟩:=k;simp only[ZA,simprocAttr,AL,XG,X3,Ee,D.one];have ac:=jF k;refine⟨λz=>⟨by rw[ac];omega,⟨k+1,auOm⟩,[(2,some 4)],by simp only;omega,?_⟩,λz=> ?_⟩
 .simp only[AB];simp only[ZA,simprocAttr];refine⟨by rw[AG auOm auOm];omega,by simp[Y6,Aj]⟩
 have ah:n=k:=auOm;subst ah;clear ac z Z;refine AY.old ⟨{k:Nat//k<=a.2.length},λk=>⟨[(7,.im (.int .i64 k.1)),(5,.own 2),(0,.im (.int .i64 n)),(1,.im (.sl false 3 (a.2.map Ak.c)))],[(2,(true,.arr 2 1 ((CC n a.2 k.1).map Aj)))],3⟩,λk=>a.2.length - k.1,λk=>⟨by simp[ZG],auSi⟩,⟨⟨0,auSi⟩,by simp only[ZA,simprocAttr,sub,CC]⟩,λk=> ?_⟩;obtain⟨k,Z⟩:=k;have O:=Qto n a.2 k;simp only[ZA,simprocAttr,AL,O];intro _;refine⟨λz=>⟨z,λb hb=> ?_⟩,λz=> ?_⟩
 .obtain⟨b1,b2,b3,b4⟩:=aa b (Bj hb);refine⟨b1,b2,auOm,λx hx=>⟨z,λb' ab=> ?_⟩⟩;rw[hb] at ab;obtain rfl:=AJ ab;refine⟨b3,b4,auOm,λy hy=> ?_⟩;refine AY.old ⟨{j:Nat//j<=n},λj=>⟨[(10,.im (.int .i64 j.1)),(9,.im (.int .i64 y)),(8,.im (.int .i64 x)),(7,.im (.int .i64 k)),(5,.own 2),(0,.im (.int .i64 n)),(1,.im (.sl false 3 (a.2.map Ak.c)))],[(2,(true,.arr 2 1 ((Jb (K5 x y) j.1 (CC n a.2 k)).map Aj)))],3⟩,λj=>n - j.1,λj=>⟨by simp[ZG],auSi⟩,⟨⟨0,auSi⟩,by simp only[ZA,simprocAttr,sub,Jb]⟩,λj=> ?_⟩;obtain⟨j,aq⟩:=j;have ad:=Qwq (K5 x y) j (CC n a.2 k);rw[O] at ad;have ai:=Qoo (K5 x y) j (CC n a.2 k);simp only[ZA,simprocAttr,l00Min.q,l00Min.fv,l00Max.q,l00Max.fv,sub,AL,ad];intro _;refine⟨λhj=>⟨hj,hj,λv hv=> ?_⟩,λhj=> ?_⟩
  .have aw:=hv;rw[ai] at hv;refine⟨λQ=>⟨hj,hj,λv' av=>⟨⟨j+1,auOm⟩,by simp only;omega,by rw[AG auOm auOm];simp only;omega,?_⟩⟩,λQ=>⟨⟨j+1,auOm⟩,by simp only;omega,by rw[AG auOm auOm];simp only;omega,?_⟩⟩
   .rw[<-Qn5 _ _ _ _ hv,GG];simp only[K5,Q,Ff,Aj]
   .rw[Qabf _ _ _ _ hv (by simp only[K5];rw[Be Q])]
  .refine⟨⟨k+1,auOm⟩,by simp only;omega,by rw[AG auOm auOm];simp only;omega,?_⟩;rw[Qvd _ _ _ auOm];simp only[CC,hb,xR,hx,hy,BG]
 have ag:k=a.2.length:=auOm;subst ag;clear z Z aa;refine AY.frr ⟨{k:Nat//k<=n},λk=>⟨[(12,.im (.int .i64 k.1)),(11,.own 4),(5,.own 2),(0,.im (.int .i64 n))],[(4,(true,.arrA 35 1 (Bw ((BW (CC n a.2 a.2.length) n k.1).map BD)))),(2,(true,.arr 2 1 ((CC n a.2 a.2.length).map Aj)))],5⟩,λk=>n - k.1,λk=>⟨by simp[ZG,Qxu],auSi⟩,⟨⟨0,auSi⟩,[],[(4,some 3)],?_⟩,λk=> ?_⟩
 .simp only[AB];simp only[ZA,simprocAttr,Bf,BW]
  try simp
 obtain⟨k,Z⟩:=k;obtain⟨own,hown⟩: ∃own,own=CC n a.2 a.2.length:=⟨_,rfl⟩;simp only[<-hown] at O⊢;have an:=wU own n k;simp only[ZA,simprocAttr,AL,O];refine⟨λz=>⟨z,z,λx hx=>⟨λQ=>⟨⟨k+1,auOm⟩,[],[(4,some 4)],by simp only;omega,?_⟩,λQ=> ?_⟩⟩,λz=> ?_⟩
 .have e1:BW own n (k+1)=BW own n k:=by
   simp only[BW];rw[Be (by rw[hx];simpa using Q),C3]
  simp only[AB];simp only[ZA,simprocAttr,Bf,Qzb,qQ,e1];rw[AG auOm auOm];simp
 .have Q:=Ch.1 Q;refine AY.ren ⟨{m:Nat//m<=n - k},λm=>⟨[(14,.im (.int .i64 ((k+m.1:Nat):Int))),(13,.own 6),(12,.im (.int .i64 k)),(11,.own 4),(5,.own 2),(0,.im (.int .i64 n))],[(6,(true,.arr 2 1 ((DP own k m.1).map Aj))),(4,(true,.arrA 35 1 (Bw ((BW own n k).map BD)))),(2,(true,.arr 2 1 (own.map Aj)))],7⟩,λm=>n - k - m.1,λm=>⟨by simp[ZG,Qxu],auSi⟩,⟨⟨0,auSi⟩,[(6,some 5)],?_⟩,λm=> ?_⟩
  .simp only[AB];simp only[ZA,simprocAttr,Bf,DP,qQ]
   try simp
  obtain⟨m,au⟩:=m;have ao:=Qsd own k m;simp only[ZA,simprocAttr,AL,O,XG,X3,Ee,D.one];refine⟨λhm=>⟨hm,hm,λv hv=>⟨λh=>⟨auOm,⟨m+1,auOm⟩,[(6,some 8)],by simp only;omega,?_⟩,λh=>⟨⟨m+1,auOm⟩,[(6,some 6)],by simp only;omega,?_⟩⟩⟩,λhm=>⟨by simp[A9,AV.bel],auOm,by rw[L2,tZ];simp[A9,AV.bel],⟨k+1,auOm⟩,[6],[(4,some 8)],by simp only;omega,?_⟩⟩
  .simp only[AB];simp only[ZA,simprocAttr,Bf,qQ];refine⟨?_,?_⟩
   .rw[AG auOm auOm];omega
   .subst h;simp only[DP];rw[Bt hv];simp[Aj]
  .simp only[AB];simp only[ZA,simprocAttr,Bf,qQ];refine⟨?_,?_⟩
   .rw[AG auOm auOm];omega
   .simp only[DP];rw[Be (by rw[hv];simpa using h),C3]
  .have aj:m=n - k:=auOm;have e1:BW own n (k+1)=BW own n k++[DP own k m]:=by
    simp only[BW];rw[Bt (by rw[hx,Q]),aj]
   simp only[AB];simp only[ZZ,simprocAttr,Bf,Qzl,Qzb,e1,Dj];rw[AG auOm auOm];refine⟨auSi,?_⟩
   have:=Qzo [(4,some 8)] ((BW own n k).map BD++[[D.sl false 1 ((DP own k m).map Aj)]])
   simpa only[Bw,Dj,Br,Gl] using this
 .have:k=n:=auOm
  subst this;simp only[ZZ,simprocAttr,Zf]
end Go.Ae
namespace Go.Ae
def AH(b n:Nat)(f:Nat->Ap):An:=(List.range n).map λi=>(b+i,f i)
def P9(b n:Nat)(f:Nat->Ap):AH b (n+1) f=AH b n f++[(b+n,f n)]:=by
 simp only[AH,Xi,Dj,Br,Gl]
def jV(b:Nat)(f:Nat->Ap)(m:Nat): ∀(n:Nat),hget (AH b n f) m=if b<=m/\m<b+n then some (f (m - b)) else none
 |0=>by rw[Be auOm];rfl
 |n+1=>by
  rw[P9,Qm2,jV b f m n];simp only[hget];by_cases h:b<=m/\m<b+n
  .rw[Bt h,Bt auOm]
  .rw[Be h];by_cases z:b+n=m
   .subst z;rw[Bt auOm,show b+n - b=n by omega];simp
   .have:(b+n==m)=false:=by simpa using z
    rw[this,Be auOm];rfl
def CY(b n:Nat)(f:Nat->Ap)(j:Nat)(h:j<n):hget (AH b n f) (b+j)=some (f j):=by
 rw[jV,Bt auOm,show b+j - b=j by omega]
def Qmh(b n:Nat)(f:Nat->Ap)(m:Nat)(h:m<b\/b+n<=m):hget (AH b n f) m=none:=by
 rw[jV,Be auOm]
def Se(m:Nat)(ks:List Nat): ∀(x:An),hget (Bp x ks) m=if ks.contains m then none else hget x m
 |[]=>by simp[Bp,hget]
 |(q,e)::r=>by
  simp only[Bp];have ih:=Se m ks r;cases hq:ks.contains q
  .simp only[Dw,hget];cases hqm:q==m
   .simpa using ih
   .have:q=m:=by simpa using hqm
    subst this;simp only[IJ,hq];rfl
  .simp only[IJ,ih,hget];cases hqm:q==m
   .simp
   .have:q=m:=by simpa using hqm
    subst this;rw[Bt hq,Bt hq]
def KS(b n:Nat)(f:Nat->Ap)(ks:List Nat)(h: ∀k∈ks,k<b\/b+n<=k):Bp (AH b n f) ks=AH b n f:=by
 have: ∀(l:List Nat),(∀i∈l,i<n)->Bp (l.map λi=>(b+i,f i)) ks=l.map λi=>(b+i,f i):=by
  intro l;induction l with
  |nil=>intro _;rfl
  |cons i r ih=>
   intro Q;have O:=Q i (CP ..);have z:ks.contains (b+i)=false:=by
    rw[Hk];intro z
    have:=h _ (GF.1 z)
    omega
   simp only[Br,Bp,z,Dw,ih (λj Z=>Q j (Ah _ Z))]
 exact this _ (λi O=>AU.1 O)
def Qns(π:List (Nat×Option Nat))(s:Az)(y:An): ∀(x:An),F6 π s (x++y)=(F6 π s x/\F6 π s y)
 |[]=>by simp[F6]
 |(q,(z,e))::r=>by simp only[BZ,F6,Qns π s y r,FJ]
def Ys(π:List (Nat×Option Nat))(s:Az)(b n:Nat)(f:Nat->Ap):F6 π s (AH b n f)↔ ∀i,i<n->Ci s π (f i).1 (f i).2 (pm π (b+i)):=by
 have: ∀(l:List Nat),F6 π s (l.map λi=>(b+i,f i))↔ ∀i∈l,Ci s π (f i).1 (f i).2 (pm π (b+i)):=by
  intro l;induction l with
  |nil=>simp[F6]
  |cons i r ih=>simp only[Br,F6,ih,B0,ZdY]
 rw[AH,this];simp only[AU]
def DF:An->List Nat
 |[]=>[]
 |(n,_)::r=>n::DF r
def Sj(π:List (Nat×Option Nat)): ∀(H:An),EZ π H=(DF H).map (pm π)
 |[]=>rfl
 |(n,e)::r=>by simp only[EZ,DF,Br,Sj π r]
def WK(b n:Nat)(f:Nat->Ap):DF (AH b n f)=(List.range n).map (b+ ·):=by
 have: ∀(l:List Nat),DF (l.map λi=>(b+i,f i))=l.map (b+ ·):=by
  intro l;induction l with
  |nil=>rfl
  |cons i r ih=>simp only[Br,DF,ih]
 exact this _
def WZ(g:Nat->Option Nat): ∀(l:List Nat),l.Nodup->(∀x∈l,∀y∈l,∀m,g x=some m->g y=some m->x=y)->Dg (l.map g)=true
 |[],_,_=>rfl
 |x::r,h,O=>by
  simp only[Xo] at h;have ih:=WZ g r h.2 (λa Z b hb=>O a (Ah _ Z) b (Ah _ hb));simp only[Br];cases hx:g x with
  |none=>simpa only[Dg] using ih
  |some m=>
   simp only[Dg,ih,Jg,lB];rw[Hk];intro hc;obtain⟨y,Q,z⟩:=BY.1 (GF.1 hc)
   have:=O x (CP ..) y (Ah _ Q) m hx z
   exact h.1 (this▸Q)
def Sm(π:List (Nat×Option Nat)): ∀(a b:List (List AV)),Hm π a b↔a.length=b.length/\ ∀(i:Nat) x y,a[i]? =some x->b[i]? =some y->Dl π x y
 |[],[]=>by simp[Hm]
 |[],_::_=>by simp[Hm]
 |_::_,[]=>by simp[Hm]
 |x::r,y::s=>by
  simp only[Hm,Sm π r s,Em,Nat.add_right_cancel_iff];constructor
  .rintro⟨h1,Z,Q⟩;refine⟨Z,λi x' y' z O=> ?_⟩;cases i with
   |zero=>
    simp only[ES,AS] at z O;subst z;subst O;exact h1
   |succ i=>exact Q i x' y' (by simpa using z) (by simpa using O)
  .rintro⟨Z,Q⟩;exact⟨Q 0 x y rfl rfl,Z,λi x' y' z O=>Q (i+1) x' y' (by simpa using z) (by simpa using O)⟩
def Ll(nx b:Nat)(f:Nat->Ap)(hf: ∀i,Ar nx [(b+i,f i)]=true)(n:Nat):Ar nx (AH b n f)=true:=by
 have O: ∀(x y:An),Ar nx (x++y)=(Ar nx x && Ar nx y):=by
  intro x y;induction x with
  |nil=>simp[Ar]
  |cons z r ih=>
   obtain⟨q,Z,e⟩:=z;cases e<;>simp[Ar,ih,Zet]
 have: ∀(l:List Nat),Ar nx (l.map λi=>(b+i,f i))=true:=by
  intro l;induction l with
  |nil=>rfl
  |cons i r ih=>
   have Q:=O [(b+i,f i)] (r.map λi=>(b+i,f i));rw[Br,show (b+i,f i)::(r.map λi=>(b+i,f i))=[(b+i,f i)]++(r.map λi=>(b+i,f i)) from rfl,Q,hf i,ih];rfl
 exact this _
def K2(nx b n:Nat)(f:Nat->Ap)(h:b+n<=nx):B5 nx (AH b n f)=true:=by
 have: ∀(l:List Nat),(∀i∈l,i<n)->B5 nx (l.map λi=>(b+i,f i))=true:=by
  intro l;induction l with
  |nil=>intro _;rfl
  |cons i r ih=>
   intro z;simp only[Br,B5,ih (λj Q=>z j (Ah _ Q)),Jg];rw[Mw]
   have:=z i (CP ..)
   omega
 exact this _ (λi O=>AU.1 O)
def JM(b n:Nat):List (Nat×Option Nat):=(List.range n).map λi=>(b+i,none)
def qC(b n m:Nat):pm (JM b n) m=if b<=m/\m<b+n then none else some m:=by
 have: ∀(l:List Nat),pm (l.map λi=>(b+i,none)) m=if b<=m/\m - b∈l then none else some m:=by
  intro l;induction l with
  |nil=>simp[pm]
  |cons i r ih=>
   simp only[Br,pm,ih,B0];by_cases h:b+i=m
   .rw[Bt h,Bt ⟨auOm,.inl auOm⟩]
   .rw[Be h];by_cases z:b<=m/\m - b∈r
    .rw[Bt z,Bt ⟨z.1,.inr z.2⟩]
    .rw[Be z,Be (by rintro⟨Q,O|O⟩;exact h auOm;exact z ⟨Q,O⟩)]
 rw[JM,this];simp only[AU];by_cases h:b<=m/\m<b+n
 .rw[Bt h,Bt auOm]
 .rw[Be h,Be auOm]
def TL(lo b n:Nat)(h:lo<=b):JP lo (JM b n):=by
 have: ∀(l:List Nat),JP lo (l.map λi=>(b+i,none)):=by
  intro l;induction l with
  |nil=>trivial
  |cons i r ih=>simp only[Br,JP];exact⟨auOm,ih⟩
 exact this _
end Go.Ae
namespace Go.Ae
open Go.Proofs
def DV(n:Bu)(v i:Int):Int×Int:=match n.Bonds[i.toNat]? with
 |some b=>if b.A=v then (b.Strength - n.Flow[i.toNat]?.getD 0,b.B) else (b.Strength+n.Flow[i.toNat]?.getD 0,b.A)
 |none=>(0,0)
structure DZ(n:Bu):Prop where
 c0:0<=n.Cnt
 c1:n.Cnt<=1000000
 fl:n.Flow.length=n.Bonds.length
 al:(n.At.length:Int)=n.Cnt
 bs:Mm n.Cnt n.Bonds
 at_: ∀(v:Nat) (r:Cz),n.At[v]? =some r-> ∀i∈r,0<=i/\ ∃b,n.Bonds[i.toNat]? =some b/\(b.A=v\/b.B=v)
 f: ∀x∈n.Flow,-1000000<=x/\x<=1000000
 st: ∀b∈n.Bonds,0<=b.Strength/\b.Strength<=1000000
 all: ∀(i:Nat) b,n.Bonds[i]? =some b->(∃r,n.At[b.A.toNat]? =some r/\(i:Int)∈r)/\ ∃r,n.At[b.B.toNat]? =some r/\(i:Int)∈r
 ne: ∀b∈n.Bonds,b.A≠b.B
def roomC.fv(a:Bu×Int×Int):Int×Int:=(DV) (a.1) (a.2.1) (a.2.2)
def roomC.row:A8:=Cj (b3 (qP 4 Bu.d_le) qI qI) (r2 rI rI) (λa=>DZ a.1/\0<=a.2.2/\a.2.2<a.1.Bonds.length) roomC.fv
def roomC.q:=Cf (R:=roomC.row) rfl
def roomC.ok:AE 193 roomC.row:=by
 refine EK tN Tryz.func193 ?_;intro a z;simp only[Tryz.f193];simp only[ZZ,simprocAttr,roomC.fv,D.sc,D.scs,AO];obtain⟨O,Q,h3⟩:=z;have ab:=O.fl;refine⟨Q,h3,λb Z=> ?_⟩;have ac:=O.st b (Bj Z)
 split<;>rename_i h
 .refine⟨Q,auOm,λf hf=> ?_⟩;have aa:=O.f f (Bj hf);rw[AG auOm auOm];simp only[DV,Z,hf,BG];rw[Bt h]
 .refine⟨Q,auOm,λf hf=> ?_⟩;have aa:=O.f f (Bj hf);rw[AG auOm auOm];simp only[DV,Z,hf,BG];rw[Be h]
def Ej(n:Bu)(v i:Int):Int:=match n.Bonds[i.toNat]? with
 |some b=>b.A+b.B - v
 |none=>0
def BS(n:Bu)(v:Int)(s:Cz×Cz)(i:Int):Cz×Cz:=
 if s.1[(Ej n v i).toNat]?.getD 0<0/\0<(DV n (Ej n v i) i).1 then (s.1.set (Ej n v i).toNat (s.1[v.toNat]?.getD 0+1),s.2++[Ej n v i]) else s
def CW(n:Bu)(q:Int):Nat->Cz×Cz
 |0=>((List.replicate n.Cnt.toNat (-1)).set q.toNat 0,[q])
 |k+1=>match (CW n q k).2[k]? with
  |none=>CW n q k
  |some v=>(n.At[v.toNat]?.getD []).foldl (BS n v) (CW n q k)
def Gr(n:Bu)(q:Int):Cz:=(CW n q n.Cnt.toNat).1
structure Yy(n:Bu)(s:Cz×Cz):Prop where
 len:s.1.length=n.Cnt.toNat
 rng: ∀x∈s.1,-1<=x/\x<=s.2.length
 q: ∀x∈s.2,0<=x/\x<n.Cnt
 cnt:(s.1.filter (λx=>decide (0<=x))).length=s.2.length
def Qlu{A:Type}(p:A->Bool): ∀(l:List A) (w:Nat) (x y:A),l[w]? =some x->p x=false->p y=true->((l.set w y).filter p).length=(l.filter p).length+1
 |[],w,x,y,h,_,_=>by simp at h
 |z::r,0,x,y,h,O,Q=>by
  simp only[ES,AS] at h;subst h;simp[O,Q]
 |z::r,w+1,x,y,h,O,Q=>by
  have:=Qlu p r w x y (by simpa using h) O Q
  simp only[YN,List.filter_cons];split
  .simp only[Em,this]
  .exact this
def Qkx{n:Bu}(h0:0<=n.Cnt){s:Cz×Cz}(h:Yy n s):(s.2.length:Int)<=n.Cnt:=by
 have z:=h.cnt;have O:=ZeL (λx=>decide (0<=x)) s.1;have Q:=h.len;omega
def jQ{n:Bu}(hn:DZ n){v:Nat}{r:Cz}(Z:n.At[v]? =some r){i:Int}(Q:i∈r):0<=i/\i<n.Bonds.length/\0<=Ej n v i/\Ej n v i<n.Cnt:=by
 obtain⟨h0,b,z,hv⟩:=hn.at_ v r Z i Q;have O:=hn.bs b (Bj z);have hl:=(Bi.1 z).1;simp only[Ej,z];omega
def Qtm{n:Bu}(hn:DZ n){v:Nat}{r:Cz}(hr:n.At[v]? =some r){i:Int}(Z:i∈r){s:Cz×Cz}(hs:Yy n s):Yy n (BS n v s i):=by
 obtain⟨_,_,o1,o2⟩:=jQ hn hr Z;simp only[BS];split
 .rename_i h;have O:(Ej n v i).toNat<s.1.length:=by rw[hs.len];omega
  obtain⟨x,hx⟩: ∃x,s.1[(Ej n v i).toNat]? =some x:=⟨_,Bk O⟩;have aa:x<0:=by have:=h.1;rw[hx] at this;simpa using this
  have Q:0<=s.1[(v:Int).toNat]?.getD 0+1/\s.1[(v:Int).toNat]?.getD 0+1<=s.2.length+1:=by
   cases hv:s.1[(v:Int).toNat]? with
   |none=>simp;omega
   |some y=>have:=hs.rng y (Bj hv);simp only[BG];omega
  refine⟨by simpa using hs.len,λy z=> ?_,λy z=> ?_,?_⟩
  .simp only[BR,Em,Ed];rcases GR z with z|z
   .have:=hs.rng y z;omega
   .subst z;omega
  .rcases BO.1 z with z|z
   .exact hs.q y z
   .rw[Am] at z;subst z;exact⟨o1,o2⟩
  .rw[Qlu _ _ _ x _ hx (by rw[GU];omega) (by rw[CK];exact Q.1),hs.cnt];simp
 .exact hs
def Qs1{n:Bu}(hn:DZ n){v:Nat}{r:Cz}(Q:n.At[v]? =some r): ∀(l:Cz) (s:Cz×Cz),(∀i∈l,i∈r)->Yy n s->Yy n (l.foldl (BS n v) s)
 |[],s,_,z=>z
 |i::l,s,O,z=>Qs1 hn Q l _ (λj Z=>O j (Ah _ Z)) (Qtm hn Q (O i (CP ..)) z)
def Yq{n:Bu}(hn:DZ n){q:Int}(h0:0<=q)(O:q<n.Cnt): ∀k,Yy n (CW n q k)
 |0=>by
  have hq:q.toNat<n.Cnt.toNat:=auOm;refine⟨by simp[CW],λx z=> ?_,λx z=> ?_,?_⟩
  .simp only[CW] at z⊢;rcases GR z with z|z
   .have:=JA z;simp;omega
   .subst z;simp
  .simp only[CW,Am] at z;subst z;exact⟨h0,O⟩
  .simp only[CW];rw[Qlu _ _ _ (-1) _ (by rw[IL,Bt hq]) auSi auSi]
   have:(List.replicate n.Cnt.toNat (-1:Int)).filter (λx=>decide (0<=x))=[]:=by
    rw[List.filter_eq_nil_iff];intro x z;rw[JA z];simp
   rw[this];rfl
 |k+1=>by
  have ih:=Yq hn h0 O k;simp only[CW];split
  .exact ih
  .rename_i v Q;have Z:=ih.q v (Bj Q);obtain⟨m,rfl⟩: ∃m:Nat,v=m:=⟨v.toNat,auOm⟩;have hm:m<n.At.length:=by have:=hn.al;omega
   obtain⟨r,hr⟩: ∃r,n.At[m]? =some r:=⟨_,Bk hm⟩;simp only[Cp,hr,BG];exact Qs1 hn hr r _ (λ_ h=>h) ih
def M4(n:Bu)(q:Int): ∀(m k:Nat),(CW n q k).2.length<=k->CW n q (k+m)=CW n q k
 |0,k,_=>rfl
 |m+1,k,h=>by
  have z:CW n q (k+1)=CW n q k:=by
   rw[CW,Gv h]
  have O:=M4 n q m (k+1) (by rw[z];omega);rw[show k+(m+1)=k+1+m by omega,O,z]
def Qwn(n:Bu)(v:Int): ∀(l:Cz) (s:Cz×Cz),s.2.length<=(l.foldl (BS n v) s).2.length
 |[],s=>BN _
 |i::l,s=>by
  have z:s.2.length<=(BS n v s i).2.length:=by
   simp only[BS];split
   .simp
   .exact BN _
  exact Gu z (Qwn n v l _)
def stepsC.fv(a:Bu×Int):Cz:=(Gr) (a.1) (a.2)
def stepsC.row:A8:=Cj (b2 (qP 4 Bu.d_le) qI) (rS D4 Cq) (λa=>DZ a.1/\0<=a.2/\a.2<a.1.Cnt) stepsC.fv
def stepsC.q:=Cf (R:=stepsC.row) rfl
def stepsC.ok:AE 175 stepsC.row:=by
 refine EK (tC roomC.ok tN) Tryz.func175 ?_;intro a ah;simp only[Tryz.f175];simp only[ZZ,simprocAttr,stepsC.fv];obtain⟨hn,ai,ao⟩:=ah;have aw:=hn.c1;obtain⟨c,hc⟩: ∃c:Nat,a.1.Cnt=c:=⟨a.1.Cnt.toNat,auOm⟩;refine AY.ren ⟨{k:Nat//k<=c},λk=>⟨[(6,.im (.int .i64 k.1)),(5,.own 3),(0,.ptr 0 0),(1,.im (.int .i64 a.2))],[(3,(true,.arr 2 1 ((List.replicate k.1 (-1:Int)).map Aj))),(0,(false,.view (Bu.c a.1)))],4⟩,λk=>c - k.1,λk=>⟨by simp[ZG],auSi⟩,⟨⟨0,auSi⟩,[(3,some 2)],?_⟩,λk=> ?_⟩
 .simp only[AB];simp only[ZZ,simprocAttr,Bf,List.replicate_zero]
  try simp
 obtain⟨k,am⟩:=k;simp only[ZZ,simprocAttr,B8,AL,hc,Ri];refine⟨λhk=>⟨auOm,⟨k+1,auOm⟩,[(3,some 5)],by simp only;omega,?_⟩,λhk=> ?_⟩
 .simp only[AB];simp only[ZA,simprocAttr,Bf];refine⟨by rw[AG auOm auOm];omega,?_⟩;rw[List.replicate_succ'];simp[Aj]
 have an:c=k:=auOm;subst an;refine⟨ai,auOm,auOm,λ_ _=> ?_⟩;have au:=hn.al;have ad:=Yq hn ai ao;refine AY.ren ⟨{k:Nat//k<=(CW a.1 a.2 k).2.length},λk=>⟨[(8,.im (.int .i64 k.1)),(7,.own 5),(5,.own 3),(0,.ptr 0 0),(1,.im (.int .i64 a.2))],[(5,(true,.arr 2 1 ((CW a.1 a.2 k.1).2.map Aj))),(3,(true,.arr 2 1 ((CW a.1 a.2 k.1).1.map Aj))),(0,(false,.view (Bu.c a.1)))],6⟩,λk=>c - k.1,λk=>⟨by simp[ZG],auSi⟩,⟨⟨0,auSi⟩,[(5,some 4)],?_⟩,λk=> ?_⟩
 .simp only[AB];simp only[ZZ,simprocAttr,Bf,hc,CW];simp[Aj,GG]
 obtain⟨k,am⟩:=k;have hi:=ad k;have ax:=hi.len;have az:=Qkx auOm hi;simp only[ZZ,simprocAttr,B8,D.sc,B4,AO,AL,hc];intro _;refine⟨λhk=>⟨hk,hk,λv hv=> ?_⟩,λhk=> ?_⟩
 .have a9:=hi.q v (Bj hv);obtain⟨m,rfl⟩: ∃m:Nat,v=m:=⟨v.toNat,auOm⟩;have hm:m<a.1.At.length:=auOm;obtain⟨r,hr⟩: ∃r,a.1.At[m]? =some r:=⟨_,Bk hm⟩;have Q:CW a.1 a.2 (k+1)=r.foldl (BS a.1 m) (CW a.1 a.2 k):=by
   simp only[CW,hv,Cp,hr,BG]
  refine AY.ren ⟨{j:Nat//j<=r.length},λj=>⟨[(10,.im (.int .i64 j.1)),(9,.im (.int .i64 m)),(8,.im (.int .i64 k)),(7,.own 6),(5,.own 3),(0,.ptr 0 0),(1,.im (.int .i64 a.2))],[(6,(true,.arr 2 1 (((r.take j.1).foldl (BS a.1 m) (CW a.1 a.2 k)).2.map Aj))),(3,(true,.arr 2 1 (((r.take j.1).foldl (BS a.1 m) (CW a.1 a.2 k)).1.map Aj))),(0,(false,.view (Bu.c a.1)))],7⟩,λj=>r.length - j.1,λj=>⟨by simp[ZG],auSi⟩,⟨⟨0,auSi⟩,[(6,some 5)],?_⟩,λj=> ?_⟩
  .simp only[AB];simp only[ZZ,simprocAttr,Bf,hc,M1]
   try simp
  obtain⟨j,ay⟩:=j;have hs:=Qs1 hn hr (r.take j) _ (λi hi=>zT hi) hi;obtain⟨s,hsd⟩: ∃s,s=(r.take j).foldl (BS a.1 m) (CW a.1 a.2 k):=⟨_,rfl⟩;rw[<-hsd] at hs;have aq:=hs.len;have a8:=Qkx auOm hs;simp only[<-hsd];have ag:(⟨(c:Int),a.1.Bonds,a.1.At,a.1.Flow⟩:Bu)=a.1:=by rw[<-hc]
  simp only[ZZ,simprocAttr,Aa,roomC.q,roomC.fv,B8,AL,hc,ag,aq,XG,X3,XB,Ee,D.one];refine⟨hm,λr' O=> ?_⟩;rw[hr] at O;obtain rfl:=AJ O;intro a0;refine⟨λhj=>⟨hm,λr' O=> ?_⟩,λhj=> ?_⟩
  .rw[hr] at O;obtain rfl:=AJ O;refine⟨hj,λi ac=> ?_⟩;have aj:=Bj ac;obtain⟨i0,i1,o0,o1⟩:=jQ hn hr aj;have z:(r.take (j+1)).foldl (BS a.1 m) (CW a.1 a.2 k)=BS a.1 m s i:=by
    rw[FL,ac,eJ,<-hsd];rfl
   refine⟨i0,i1,λb hb=>⟨i0,i1,λb' ab=> ?_⟩⟩;rw[hb] at ab;obtain rfl:=AJ ab;have av:=hn.bs b (Bj hb);have hw:IntKind.wrap .i64 (IntKind.wrap .i64 (b.A+b.B) - m)=Ej a.1 m i:=by
    rw[AG (x:=b.A+b.B) auOm auOm,AG auOm auOm];simp only[Ej,hb]
   rw[hw];have af:(Ej a.1 m i).toNat<c:=auOm;refine⟨⟨hn,i0,i1⟩,o0,auOm,af,λx hx=>⟨λaa=>⟨λZ=>⟨auOm,auOm,λy hy=>⟨o0,auOm,af,λ_ _=>⟨auOm,⟨j+1,auOm⟩,[(6,some 8)],by simp only;omega,?_⟩⟩⟩,λZ=>⟨⟨j+1,auOm⟩,[(6,some 6)],by simp only;omega,?_⟩⟩,λaa=>⟨⟨j+1,auOm⟩,[(6,some 6)],by simp only;omega,?_⟩⟩⟩
   .have e1:BS a.1 m s i=(s.1.set (Ej a.1 m i).toNat (y+1),s.2++[Ej a.1 m i]):=by
     simp only[BS];rw[Bt ⟨by rw[hx];exact aa,Z⟩,Cp,hy];rfl
    have ba:=hs.rng y (Bj hy);simp only[AB,z,e1];simp only[ZA,simprocAttr,Bf];rw[AG (x:=y+1) auOm auOm];refine⟨by rw[AG auOm auOm];omega,?_,?_⟩
    .simp[Aj]
    .simp[Aj,GG]
   .have e1:BS a.1 m s i=s:=by
     simp only[BS];rw[Be (λh=>Z h.2)]
    simp only[AB,z,e1];simp only[ZA,simprocAttr,Bf];rw[AG auOm auOm];simp
   .have e1:BS a.1 m s i=s:=by
     simp only[BS];rw[Be (λh=>aa (by have:=h.1;rw[hx] at this;exact this))]
    simp only[AB,z,e1];simp only[ZA,simprocAttr,Bf];rw[AG auOm auOm];simp
  .have ak:j=r.length:=auOm;subst ak;rw[Pj] at hsd;refine⟨⟨k+1,by
    have:=Qwn a.1 m r (CW a.1 a.2 k)
    rw[Q];omega⟩,[(5,some 6)],by simp only;omega,?_⟩
   simp only[AB,Q,<-hsd];simp only[ZA,simprocAttr,Bf];rw[AG auOm auOm];simp
 .rw[Gr,hc,Cp]
  have:=M4 a.1 a.2 (c - k) k auOm
  rw[show k+(c - k)=c by omega] at this;rw[this]
def dZ(l:Cz):Nat->Cz
 |0=>[]
 |k+1=>dZ l k++(if 0<=l[k]?.getD (-1) then [(k:Int)] else [])
def Qu8(l:Cz): ∀k,(dZ l k).length<=k
 |0=>BN _
 |k+1=>by
  have:=Qu8 l k
  simp only[dZ,BR]
  split<;>simp<;>omega
def kF(n:Bu)(q:Int):Cz:=dZ (Gr n q) n.Cnt.toNat
def wK{n:Bu}(hn:DZ n){q:Int}(h0:0<=q)(z:q<n.Cnt):(Gr n q).length=n.Cnt.toNat:=(Yq hn h0 z _).len
def sideC.fv(a:Bu×Int):Cz:=(kF) (a.1) (a.2)
def sideC.row:A8:=Cj (b2 (qP 4 Bu.d_le) qI) (rS D4 Cq) (λa=>DZ a.1/\0<=a.2/\a.2<a.1.Cnt) sideC.fv
def sideC.q:=Cf (R:=sideC.row) rfl
def sideC.ok:AE 147 sideC.row:=by
 refine EK (tC stepsC.ok tN) Tryz.func147 ?_;intro a z;simp only[Tryz.f147];simp only[ZZ,simprocAttr,Aa,sideC.fv,stepsC.q,stepsC.fv];refine⟨z,?_⟩;obtain⟨hn,Q,Z⟩:=z;have aa:=hn.c1;obtain⟨c,hc⟩: ∃c:Nat,a.1.Cnt=c:=⟨a.1.Cnt.toNat,auOm⟩;have O:=wK hn Q Z;rw[hc,Cp] at O;simp only[kF,hc,Cp];obtain⟨l,hl⟩: ∃l,l=Gr a.1 a.2:=⟨_,rfl⟩;simp only[<-hl] at O⊢;refine AY.ren ⟨{k:Nat//k<=c},λk=>⟨[(7,.im (.int .i64 k.1)),(6,.own 3),(5,.im (.sl false 1 (l.map Aj))),(0,.ptr 0 0)],[(3,(true,.arr 2 1 ((dZ l k.1).map Aj))),(0,(false,.view (Bu.c a.1)))],4⟩,λk=>c - k.1,λk=>⟨by simp[ZG],auSi⟩,⟨⟨0,auSi⟩,[(3,some 2)],?_⟩,λk=> ?_⟩
 .simp only[AB];simp only[ZZ,simprocAttr,Bf,hc,dZ]
  try simp
 obtain⟨k,ab⟩:=k;have ac:=Qu8 l k;simp only[ZZ,simprocAttr,B8,D.sc,B4,AO,AL,hc,O,XG,X3,XB,Ee,D.one];refine⟨λhk=>⟨hk,λx hx=>⟨λh=>⟨auOm,⟨k+1,auOm⟩,[(3,some 5)],by simp only;omega,?_⟩,λh=>⟨⟨k+1,auOm⟩,[(3,some 3)],by simp only;omega,?_⟩⟩⟩,λhk=> ?_⟩
 .simp only[AB];simp only[ZA,simprocAttr,Bf];refine⟨by rw[AG auOm auOm];omega,?_⟩;simp only[dZ,hx,BG];rw[Bt h];simp[Aj]
 .simp only[AB];simp only[ZA,simprocAttr,Bf];refine⟨by rw[AG auOm auOm];omega,?_⟩;simp only[dZ,hx,BG];rw[Be h,C3]
 .rw[show k=c by omega]
def Ja(n:Bu)(v i:Int):Bu:=⟨n.Cnt,n.Bonds,n.At,match n.Bonds[i.toNat]? with
 |some b=>n.Flow.set i.toNat (if b.A=v then n.Flow[i.toNat]?.getD 0+1 else n.Flow[i.toNat]?.getD 0 - 1)
 |none=>n.Flow⟩
def Ho(n:Bu):List AV:=[.im (.int .i64 n.Cnt),.im (.sl false 3 (n.Bonds.map Ak.c)),.im (.sl false 1 (n.At.map BD)),.own 1]
def ED(n:Bu):An:=[(0,(true,.cells 229 (Ho n))),(1,(true,.arr 2 1 (n.Flow.map Aj)))]
def tF(n:Bu)(j:Nat):Ai (ED n) j=true↔j<2:=by
 simp only[Ai,ED,hget];by_cases h0:j=0
 .subst h0;simp
 .by_cases Q:j=1
  .subst Q;simp
  .have z:(0==j)=false:=by simp;omega
   have O:(1==j)=false:=by simp;omega
   simp[z,O];omega
def KC(j:Nat):Bool:=j==1
def pushC.ca(a:Bu×Int×Int):List AV:=[.ptr 0 0,.im (.int .i64 a.2.1),.im (.int .i64 a.2.2)]
def pushC.H1(a:Bu×Int×Int):An:=[(1,(true,.arr 2 1 ((Ja a.1 a.2.1 a.2.2).Flow.map Aj)))]
def pushC.row:A8:=A7 pushC.ca (λa=>ED a.1) 2 (λa=>DZ a.1/\0<=a.2.2/\a.2.2<a.1.Bonds.length) KC (λ_=> .im (.tup [])) pushC.H1 0
def pushC.ok:AE 194 pushC.row:=by
 refine ow tN Tryz.func194 (exB:=λ_=>false) (R:=λ_ r=>r= .im (.tup [])) (λ_=>rfl)
  (λa=>by simp[pushC.ca,ED,Ho,A9,AV.bel,Ar,B5,Ca,Ad.nms,Av,AV.nms,Ai,hget]) (λa p hp=> ?_) LeVq ?_
 rotate_left
 intro a z;simp only[Tryz.f194,pushC.ca,ED,Ho,pushC.H1];simp only[ZA,simprocAttr,KC];obtain⟨hn,h0,Z⟩:=z;have aa:=hn.fl;refine⟨h0,Z,λb Q=> ?_⟩
 split<;>rename_i h
 .refine⟨h0,auOm,auOm,λf hf=>⟨h0,auOm,auOm,λ_ _=> ?_⟩⟩;have O:=hn.f f (Bj hf);rw[AG auOm auOm];simp only[Ja,Q,hf,BG,Bt h,GG];rfl
 .refine⟨h0,auOm,auOm,λf hf=>⟨h0,auOm,auOm,λ_ _=> ?_⟩⟩;have O:=hn.f f (Bj hf);rw[AG auOm auOm];simp only[Ja,Q,hf,BG,Be h,GG];rfl
 simp[pushC.H1] at hp;subst hp;exact .inl ⟨auOm,rfl,rfl⟩
structure GV(n:Bu)(q:Int)(s:Cz×Cz):Prop where
 zero:s.1[q.toNat]? =some 0
 uniq: ∀(w:Nat),s.1[w]? =some 0->w=q.toNat
 prev: ∀(w:Nat) (x:Int),s.1[w]? =some x->0<x-> ∃(v:Nat) (r:Cz) (i:Int),s.1[v]? =some (x - 1)/\n.At[v]? =some r/\i∈r/\Ej n v i=w/\0<(DV n w i).1
 qs: ∀v∈s.2,∃y,s.1[v.toNat]? =some y/\0<=y
def wM(n:Bu)(v:Int)(s:Cz×Cz)(i:Int)(u:Nat)(y:Int)(h:s.1[u]? =some y)(h0:0<=y):(BS n v s i).1[u]? =some y:=by
 simp only[BS];split
 .rename_i O;have z:(Ej n v i).toNat≠u:=by
   intro Q;rw[Q,h] at O
   have:=O.1
   simp at this;omega
  simp only;rw[DL z];exact h
 .exact h
def Qor(n:Bu)(v:Int)(u:Nat)(y:Int)(h0:0<=y): ∀(l:Cz) (s:Cz×Cz),s.1[u]? =some y->(l.foldl (BS n v) s).1[u]? =some y
 |[],_,h=>h
 |i::l,s,h=>Qor n v u y h0 l _ (wM n v s i u y h h0)
def lP{n:Bu}(hn:DZ n){q:Int}{v:Nat}{r:Cz}(hr:n.At[v]? =some r){i:Int}(hi:i∈r){s:Cz×Cz}(hs:Yy n s)(hp:GV n q s){y:Int}(hv:s.1[v]? =some y)(hy:0<=y):GV n q (BS n v s i):=by
 obtain⟨_,_,o1,o2⟩:=jQ hn hr hi;have keep:=λu z h h0=>wM n v s i u z h h0
 have aa:(Ej n v i).toNat<s.1.length:=by rw[hs.len];omega
 by_cases hc:s.1[(Ej n v i).toNat]?.getD 0<0/\0<(DV n (Ej n v i) i).1
 .have Z:BS n v s i=(s.1.set (Ej n v i).toNat (y+1),s.2++[Ej n v i]):=by
   simp only[BS];rw[Bt hc,Cp,hv];rfl
  have hget: ∀(w:Nat) (x:Int),(BS n v s i).1[w]? =some x->(w=(Ej n v i).toNat/\x=y+1)\/s.1[w]? =some x:=by
   intro w x O;rw[Z] at O;simp only at O;by_cases hw:(Ej n v i).toNat=w
   .subst hw;rw[Bo aa] at O;exact .inl ⟨rfl,(AJ O).symm⟩
   .rw[DL hw] at O;exact .inr O
  refine⟨keep _ _ hp.zero auOm,λw hw=> ?_,λw x O h0=> ?_,λu Q=> ?_⟩
  .rcases hget w 0 hw with ⟨_,h⟩|h
   .omega
   .exact hp.uniq w h
  .rcases hget w x O with ⟨h1,h2⟩|h
   .refine⟨v,r,i,keep _ _ (by rw[hv];congr 1;omega) auOm,hr,hi,auOm,?_⟩
    have:(w:Int)=Ej n v i:=auOm
    rw[this];exact hc.2
   .obtain⟨v',r',i',g1,g2,g3,g4,g5⟩:=hp.prev w x h h0;exact⟨v',r',i',keep _ _ g1 auOm,g2,g3,g4,g5⟩
  .rw[Z] at Q;rcases BO.1 Q with Q|Q
   .obtain⟨z,h1,h2⟩:=hp.qs u Q;exact⟨z,keep _ _ h1 h2,h2⟩
   .rw[Am] at Q;subst Q;refine⟨y+1,?_,auOm⟩;rw[Z];exact Bo aa
 .have Z:BS n v s i=s:=by simp only[BS];rw[Be hc]
  rw[Z];exact hp
def SJ{n:Bu}(hn:DZ n){q:Int}{v:Nat}{r:Cz}(O:n.At[v]? =some r){y:Int}(Q:0<=y): ∀(l:Cz) (s:Cz×Cz),(∀i∈l,i∈r)->Yy n s->GV n q s->s.1[v]? =some y->GV n q (l.foldl (BS n v) s)
 |[],s,_,_,hp,_=>hp
 |i::l,s,z,Z,hp,hv=>SJ hn O Q l _ (λj hj=>z j (Ah _ hj)) (Qtm hn O (z i (CP ..)) Z) (lP hn O (z i (CP ..)) Z hp hv Q) (wM n v s i v y hv Q)
def OE{n:Bu}(hn:DZ n){q:Int}(h0:0<=q)(h1:q<n.Cnt): ∀k,GV n q (CW n q k)
 |0=>by
  have hq:q.toNat<n.Cnt.toNat:=auOm;have z:q.toNat<(List.replicate n.Cnt.toNat (-1:Int)).length:=by rw[Ri];exact hq
  have hget: ∀(w:Nat) (x:Int),((List.replicate n.Cnt.toNat (-1:Int)).set q.toNat 0)[w]? =some x->(w=q.toNat/\x=0)\/x= -1:=by
   intro w x O;by_cases Z:q.toNat=w
   .subst Z;rw[Bo z] at O;exact .inl ⟨rfl,(AJ O).symm⟩
   .rw[DL Z] at O;exact .inr (JA (Bj O))
  refine⟨Bo z,λw Z=> ?_,λw x O ab=> ?_,λv Q=> ?_⟩
  .rcases hget w 0 Z with h|h
   .exact h.1
   .omega
  .rcases hget w x O with h|h<;>omega
  .simp only[CW,Am] at Q;subst Q;exact⟨0,Bo z,kV _⟩
 |k+1=>by
  have ih:=OE hn h0 h1 k;have hi:=Yq hn h0 h1 k;simp only[CW];split
  .exact ih
  .rename_i v Q;have ac:=hi.q v (Bj Q);obtain⟨m,rfl⟩: ∃m:Nat,v=m:=⟨v.toNat,auOm⟩;have hm:m<n.At.length:=by have:=hn.al;omega
   obtain⟨r,hr⟩: ∃r,n.At[m]? =some r:=⟨_,Bk hm⟩;obtain⟨y,hy,aa⟩:=ih.qs _ (Bj Q);simp only[Cp,hr,BG];exact SJ hn hr aa r _ (λ_ h=>h) hi ih (by simpa using hy)
def J5(n:Bu):Prop:= ∀(i:Nat) b f,n.Bonds[i]? =some b->n.Flow[i]? =some f-> -b.Strength<=f/\f<=b.Strength
def Hg(n:Bu)(st:Cz)(v:Int)(acc:Int×Int)(i:Int):Int×Int:=
 if 0<(DV n v i).1/\st[(DV n v i).2.toNat]?.getD 0=st[v.toNat]?.getD 0 - 1/\(acc.1<0\/(DV n v i).2<acc.1) then ((DV n v i).2,i) else acc
def HO(n:Bu)(st:Cz)(v:Int):Int×Int:=(n.At[v.toNat]?.getD []).foldl (Hg n st v) (-1,0)
def Ct(n:Bu)(st:Cz)(p:Int):Nat->Bu×Int
 |0=>(n,p)
 |k+1=>(Ja (Ct n st p k).1 (Ct n st p k).2 (HO (Ct n st p k).1 st (Ct n st p k).2).2,(HO (Ct n st p k).1 st (Ct n st p k).2).1)
def Gs(n:Bu)(p q:Int):Bu×Bool:=
 if (Gr n q)[p.toNat]?.getD 0<0 then (n,false) else ((Ct n (Gr n q) p ((Gr n q)[p.toNat]?.getD 0).toNat).1,true)
def yL{n:Bu}(hn:DZ n){v:Nat}{r:Cz}(Z:n.At[v]? =some r){i:Int}(Q:i∈r):0<=(DV n v i).2/\(DV n v i).2<n.Cnt:=by
 obtain⟨h0,b,z,hv⟩:=hn.at_ v r Z i Q;have O:=hn.bs b (Bj z);simp only[DV,z]
 split<;>simp only<;>omega
def MY(n:Bu)(st:Cz)(v:Int)(r:Cz)(w:Int×Int):Prop:=w.2∈r/\0<(DV n v w.2).1/\(DV n v w.2).2=w.1/\st[w.1.toNat]?.getD 0=st[v.toNat]?.getD 0 - 1/\0<=w.1
def Qq8{n:Bu}(hn:DZ n)(st:Cz){v:Nat}{r:Cz}(Q:n.At[v]? =some r): ∀(l:Cz) (acc:Int×Int),(∀i∈l,i∈r)->(acc.1<0\/MY n st v r acc)->(l.foldl (Hg n st v) acc).1<0\/MY n st v r (l.foldl (Hg n st v) acc)
 |[],acc,_,h=>h
 |i::l,acc,z,h=>by
  refine Qq8 hn st Q l _ (λj Z=>z j (Ah _ Z)) ?_;simp only[Hg];split
  .rename_i O;exact .inr ⟨z i (CP ..),O.1,rfl,O.2.1,(yL hn Q (z i (CP ..))).1⟩
  .exact h
def Qb{n:Bu}(hn:DZ n)(st:Cz){v:Nat}{r:Cz}(O:n.At[v]? =some r){i:Int}(z:i∈r)(acc:Int×Int)(h:0<=acc.1):0<=(Hg n st v acc i).1:=by
 simp only[Hg];split
 .exact (yL hn O z).1
 .exact h
def Qvo{n:Bu}(hn:DZ n)(st:Cz){v:Nat}{r:Cz}(O:n.At[v]? =some r): ∀(l:Cz) (acc:Int×Int),(∀i∈l,i∈r)->0<=acc.1->0<=(l.foldl (Hg n st v) acc).1
 |[],_,_,h=>h
 |i::l,acc,z,h=>Qvo hn st O l _ (λj Q=>z j (Ah _ Q)) (Qb hn st O (z i (CP ..)) acc h)
def Qqh{n:Bu}(hn:DZ n)(st:Cz){v:Nat}{r:Cz}(Q:n.At[v]? =some r){i:Int}(Z:0<(DV n v i).1)(h2:st[(DV n v i).2.toNat]?.getD 0=st[(v:Int).toNat]?.getD 0 - 1): ∀(l:Cz) (acc:Int×Int),(∀i∈l,i∈r)->i∈l->0<=(l.foldl (Hg n st v) acc).1
 |[],_,_,h=>by cases h
 |j::l,acc,hl,h=>by
  simp only[Fu];have z:=λk hk=>hl k (Ah _ hk)
  rcases B0.1 h with rfl|h
  .refine Qvo hn st Q l _ z ?_;have hb:=yL hn Q (hl _ (CP ..));simp only[Hg];split
   .exact hb.1
   .rename_i hc;rcases Int.lt_or_le acc.1 0 with O|O
    .exact absurd ⟨Z,h2,.inl O⟩ hc
    .exact O
  .exact Qqh hn st Q Z h2 l _ z h
def Qc{n:Bu}(hn:DZ n)(st:Cz){v:Nat}{r:Cz}(z:n.At[v]? =some r){i:Int}(Z:i∈r)(O:0<(DV n v i).1)(Q:st[(DV n v i).2.toNat]?.getD 0=st[(v:Int).toNat]?.getD 0 - 1):MY n st v r (HO n st v):=by
 have e:HO n st v=r.foldl (Hg n st v) (-1,0):=by simp only[HO,Cp,z,BG]
 rw[e];have h3:=Qqh hn st z O Q r (-1,0) (λ_ h=>h) Z;rcases Qq8 hn st z r (-1,0) (λ_ h=>h) (.inl auDe) with h|h
 .omega
 .exact h
def aK{n:Bu}(hn:DZ n)(hc:J5 n){v:Nat}{i:Int}(h0:0<=i)(z:0<(DV n v i).1):DZ (Ja n v i)/\J5 (Ja n v i):=by
 obtain⟨m,rfl⟩: ∃m:Nat,i=m:=⟨i.toNat,auOm⟩;have Q:J5 (Ja n v m):=by
  intro j b f O hf;simp only[Ja,Cp] at O hf;simp only[DV,Cp] at z;cases hbm:n.Bonds[m]? with
  |none=>rw[hbm] at hf;exact hc j b f O hf
  |some b'=>
   rw[hbm] at hf z;simp only at hf z;by_cases Z:m=j
   .subst Z;rw[O] at hbm;obtain rfl:=AJ hbm;have aa:m<n.Flow.length:=by
     have:=(Bi.1 hf).1
     simpa using this
    rw[Bo aa] at hf;have hf:=AJ hf;obtain⟨g,hg⟩: ∃g,n.Flow[m]? =some g:=⟨_,Bk aa⟩;have ac:=hc m b g O hg;rw[hg] at hf z;simp only[BG] at hf z;split at hf<;>rename_i hA
    .rw[Bt hA] at z;simp only at z;omega
    .rw[Be hA] at z;simp only at z;omega
   .rw[DL Z] at hf;exact hc j b f O hf
 refine⟨⟨hn.c0,hn.c1,?_,hn.al,hn.bs,hn.at_,?_,hn.st,hn.all,hn.ne⟩,Q⟩
 .have:=hn.fl
  simp only[Ja];split
  .simpa using this
  .exact this
 .intro x hx;obtain⟨j,Z⟩:=JB.1 hx;have ad:=(Bi.1 Z).1;have ab:(Ja n v m).Flow.length=n.Bonds.length:=by
   rw[<-hn.fl];simp only[Ja];split
   .simp
   .rfl
  obtain⟨b,O⟩: ∃b,n.Bonds[j]? =some b:=⟨_,Bk auOm⟩;have h1:=Q j b x O Z;have h2:=hn.st b (Bj O);omega
def Qabc(n:Bu)(v i:Int)(j:Nat)(h:i.toNat≠j):(Ja n v i).Flow[j]? =n.Flow[j]? :=by
 simp only[Ja];split
 .exact DL h
 .rfl
def Qn{n n':Bu}(z:n'.Bonds=n.Bonds)(i:Int)(hf:n'.Flow[i.toNat]? =n.Flow[i.toNat]?)(v:Int):DV n' v i=DV n v i:=by
 simp only[DV,z,hf]
structure fW(n:Bu)(st:Cz)(p:Int)(d k:Nat):Prop where
 ok:DZ (Ct n st p k).1
 cap:J5 (Ct n st p k).1
 cnt:(Ct n st p k).1.Cnt=n.Cnt
 bs:(Ct n st p k).1.Bonds=n.Bonds
 at_:(Ct n st p k).1.At=n.At
 v: ∃m:Nat,(Ct n st p k).2=m/\(m:Int)<n.Cnt/\st[m]? =some ((d:Int) - k)
 fl: ∀(i:Nat) b,n.Bonds[i]? =some b->st[b.A.toNat]?.getD 0<=(d:Int) - k->st[b.B.toNat]?.getD 0<=(d:Int) - k->(Ct n st p k).1.Flow[i]? =n.Flow[i]?
def Qk0{n:Bu}(hn:DZ n){q:Int}{st qu:Cz}(ag:st.length=n.Cnt.toNat)(hP:GV n q (st,qu)){p:Int}{d k:Nat}(hk:k<d)(hI:fW n st p d k):
 ∃(m:Nat) (r:Cz),(Ct n st p k).2=m/\n.At[m]? =some r/\MY (Ct n st p k).1 st m r (HO (Ct n st p k).1 st m)/\st[m]? =some ((d:Int) - k)/\(HO (Ct n st p k).1 st m).1<n.Cnt:=by
 obtain⟨m,hm,aj,Q⟩:=hI.v;have af:m<n.At.length:=by have:=hn.al;omega
 obtain⟨r,hr⟩: ∃r,n.At[m]? =some r:=⟨_,Bk af⟩;have ab:(Ct n st p k).1.At[m]? =some r:=by rw[hI.at_];exact hr
 obtain⟨v',r',i,g1,g2,g3,g4,g5⟩:=hP.prev m _ Q auOm;simp only at g1;obtain⟨ai,b,hb,aa⟩:=hn.at_ v' r' g2 i g3;have ah:=hn.bs b (Bj hb);have ac:b.A+b.B - v'=m:=by simpa only[Ej,hb] using g4
 have z:=hn.all i.toNat b hb;rw[show ((i.toNat:Nat):Int)=i by omega] at z;have ad:i∈r:=by
  rcases aa with h|h
  .obtain⟨r2,Z,h3⟩:=z.2;rw[show b.B.toNat=m by omega,hr] at Z;obtain rfl:=AJ Z;exact h3
  .obtain⟨r2,Z,h3⟩:=z.1;rw[show b.A.toNat=m by omega,hr] at Z;obtain rfl:=AJ Z;exact h3
 have ak:=hn.ne b (Bj hb);have O:DV (Ct n st p k).1 m i=DV n m i:=by
  refine Qn hI.bs i (hI.fl i.toNat b hb ?_ ?_) m
  .rcases aa with h|h
   .rw[show b.A.toNat=v' by omega,g1];simp only[BG];omega
   .rw[show b.A.toNat=m by omega,Q];simp only[BG];omega
  .rcases aa with h|h
   .rw[show b.B.toNat=m by omega,Q];simp only[BG];omega
   .rw[show b.B.toNat=v' by omega,g1];simp only[BG];omega
 have Z:(DV n m i).2=v':=by
  simp only[DV,hb]
  split<;>simp only<;>omega
 have hg:=Qc hI.ok st ab ad (by rw[O];exact g5) (by rw[O,Z,Cp,g1,Cp,Q];simp only[BG]);refine⟨m,r,hm,hr,hg,Q,?_⟩
 have:=(yL hI.ok ab hg.1).2
 rw[hg.2.2.1,hI.cnt] at this;exact this
def pU{n:Bu}(hn:DZ n)(hc:J5 n){q:Int}{st qu:Cz}(O:st.length=n.Cnt.toNat)(hP:GV n q (st,qu)){p:Int}(ac:0<=p)(ad:p<n.Cnt){d:Nat}(hd:st[p.toNat]? =some (d:Int)): ∀k,k<=d->fW n st p d k
 |0,_=>⟨hn,hc,rfl,rfl,rfl,⟨p.toNat,by simp only[Ct];omega,auOm,by rw[hd];simp⟩,λi b _ _ _=>rfl⟩
 |k+1,hk=>by
  have ih:=pU hn hc O hP ac ad hd k auOm;obtain⟨m,r,hm,hr,hg,Q,ag⟩:=Qk0 hn O hP auOm ih;obtain⟨h1,h2⟩:=aK ih.ok ih.cap (i:=(HO (Ct n st p k).1 st m).2) (ih.ok.at_ m r (by rw[ih.at_];exact hr) _ hg.1).1 hg.2.1;obtain⟨j0,b,hb,ab⟩:=hn.at_ m r hr _ hg.1;have af:=hg.2.2.2.2;have Z:=hg.2.2.2.1;rw[Cp,Q,BG] at Z;obtain⟨z,hz⟩: ∃z,st[(HO (Ct n st p k).1 st m).1.toNat]? =some z:=⟨_,Bk auOm⟩;rw[hz,BG] at Z;refine⟨?_,?_,?_,?_,?_,⟨(HO (Ct n st p k).1 st m).1.toNat,?_,auOm,by rw[hz,Z];congr 1;omega⟩,?_⟩
  .simp only[Ct,hm];exact h1
  .simp only[Ct,hm];exact h2
  .simp only[Ct,hm];exact ih.cnt
  .simp only[Ct,hm];exact ih.bs
  .simp only[Ct,hm];exact ih.at_
  .simp only[Ct,hm];omega
  .intro i b' aa hA hB;simp only[Ct,hm];rw[Qabc]
   .exact ih.fl i b' aa auOm auOm
   .intro he;rw[he,aa] at hb;obtain rfl:=AJ hb;rcases ab with h|h
    .rw[h,Cp,Q] at hA;simp only[BG] at hA;omega
    .rw[h,Cp,Q] at hB;simp only[BG] at hB;omega
def growC.ca(a:Bu×Int×Int):List AV:=[.ptr 0 0,.im (.int .i64 a.2.1),.im (.int .i64 a.2.2)]
def growC.H1(a:Bu×Int×Int):An:=[(1,(true,.arr 2 1 ((Gs a.1 a.2.1 a.2.2).1.Flow.map Aj)))]
def growC.r0(a:Bu×Int×Int):AV:= .im (.bool (Gs a.1 a.2.1 a.2.2).2)
def Z4(a:Bu×Int×Int):Prop:=DZ a.1/\J5 a.1/\0<=a.2.1/\a.2.1<a.1.Cnt/\0<=a.2.2/\a.2.2<a.1.Cnt
def growC.row:A8:=A7 growC.ca (λa=>ED a.1) 2 Z4 KC growC.r0 growC.H1 0
def growC.ok:AE 174 growC.row:=by
 refine ow (tC stepsC.ok (tC roomC.ok (tC pushC.ok tN))) Tryz.func174 (exB:=λ_=>false) (R:=λa r=>r=growC.r0 a) (λ_=>rfl)
  (λa=>by simp[growC.ca,ED,Ho,A9,AV.bel,Ar,B5,Ca,Ad.nms,Av,AV.nms,Ai,hget]) (λa p hp=> ?_) LeVq ?_
 rotate_left
 intro a ba;simp only[Tryz.f174,growC.ca,ED,Ho,growC.H1];simp only[ZZ,simprocAttr,Aa,stepsC.q,stepsC.fv,KC];obtain⟨hn,ay,a8,bj,ak,am⟩:=ba;refine⟨⟨hn,ak,am⟩,a8,?_⟩;have bo:=hn.c1;have ai:=wK hn ak am;have hP:=OE hn ak am a.1.Cnt.toNat;have ab:=(Yq hn ak am a.1.Cnt.toNat).rng;have bv:=Qkx hn.c0 (Yq hn ak am a.1.Cnt.toNat);refine⟨auOm,λx hx=> ?_⟩
 split<;>rename_i aj
 .have e:Gs a.1 a.2.1 a.2.2=(a.1,false):=by simp only[Gs];rw[hx];simp only[BG];rw[Bt aj]
  exact⟨by simp only[growC.r0,e],by rw[e]⟩
 obtain⟨d,rfl⟩: ∃d:Nat,x=d:=⟨x.toNat,auOm⟩;have e:Gs a.1 a.2.1 a.2.2=((Ct a.1 (Gr a.1 a.2.2) a.2.1 d).1,true):=by simp only[Gs];rw[hx];simp only[BG];rw[Be aj,Cp]
 simp only[growC.r0,e];have bc:(CW a.1 a.2.2 a.1.Cnt.toNat).1=Gr a.1 a.2.2:=rfl;have Q:GV a.1 a.2.2 (Gr a.1 a.2.2,(CW a.1 a.2.2 a.1.Cnt.toNat).2):=hP;have bp:=ab (d:Int) (Bj hx);clear e hP aj;obtain⟨st,hst⟩: ∃st,st=Gr a.1 a.2.2:=⟨_,rfl⟩;rw[bc] at ab;simp only[<-hst] at ai Q hx ab⊢;have ax:=λk hk=>pU hn ay ai Q a8 bj hx k hk
 refine AY.old ⟨{k:Nat//k<=d},λk=>⟨[(8,.im (.int .i64 (Ct a.1 st a.2.1 k.1).2)),(7,.im (.sl false 1 (st.map Aj))),(0,.ptr 0 0),(1,.im (.int .i64 a.2.1)),(2,.im (.int .i64 a.2.2))],[(0,(true,.cells 229 (Ho a.1))),(1,(true,.arr 2 1 ((Ct a.1 st a.2.1 k.1).1.Flow.map Aj)))],2⟩,λk=>d - k.1,λk=>⟨by simp[ZG,Ho],BN _⟩,⟨⟨0,auSi⟩,by simp only[ZA,simprocAttr,Ho,sub,Ct,Ho]⟩,λk=> ?_⟩;obtain⟨k,bf⟩:=k;have hI:=ax k bf;obtain⟨m,hm,bt,bb⟩:=hI.v;simp only[Ho,hm];simp only[ZA,simprocAttr,KC,AL];refine⟨λbu=> ?_,λhe=> ?_⟩
 .have bg:k<d:=by
   rcases Pi k d with h|h
   .exact h
   .have:=Q.uniq m (by rw[bb];congr 1;omega)
    omega
  obtain⟨m',r,bh,hr,hg,_,bm⟩:=Qk0 hn ai Q bg hI;rw[hm] at bh;have bi:m'=m:=auOm;subst bi;have aa:Ct a.1 st a.2.1 (k+1)=(Ja (Ct a.1 st a.2.1 k).1 m' (HO (Ct a.1 st a.2.1 k).1 st m').2,(HO (Ct a.1 st a.2.1 k).1 st m').1):=by simp only[Ct,hm]
  have a9:HO (Ct a.1 st a.2.1 k).1 st m'=r.foldl (Hg (Ct a.1 st a.2.1 k).1 st m') (-1,0):=by simp only[HO,Cp,hI.at_,hr,BG]
  have Z:=hI.ok;have ag:=hI.cnt;have aw:=hI.bs;have ao:=hI.at_;obtain⟨N,hN⟩: ∃N,N=(Ct a.1 st a.2.1 k).1:=⟨_,rfl⟩;simp only[<-hN] at aa a9 Z ag aw ao hg bm⊢;have av:N.At[m']? =some r:=by rw[ao];exact hr
  have a0:(⟨a.1.Cnt,a.1.Bonds,a.1.At,N.Flow⟩:Bu)=N:=by rw[<-ag,<-aw,<-ao]
  have au:m'<a.1.At.length:=(Bi.1 hr).1;refine AY.old ⟨{j:Nat//j<=r.length},λj=>⟨[(11,.im (.int .i64 j.1)),(10,.im (.int .i64 ((r.take j.1).foldl (Hg N st m') (-1,0)).2)),(9,.im (.int .i64 ((r.take j.1).foldl (Hg N st m') (-1,0)).1)),(8,.im (.int .i64 m')),(7,.im (.sl false 1 (st.map Aj))),(0,.ptr 0 0),(1,.im (.int .i64 a.2.1)),(2,.im (.int .i64 a.2.2))],[(0,(true,.cells 229 (Ho a.1))),(1,(true,.arr 2 1 (N.Flow.map Aj)))],2⟩,λj=>r.length - j.1,λj=>⟨by simp[ZG,Ho],BN _⟩,⟨⟨0,auSi⟩,by simp only[ZA,simprocAttr,Ho,sub,Ho,M1]⟩,λj=> ?_⟩;obtain⟨j,br⟩:=j;obtain⟨acc,hacc⟩: ∃acc,acc=(r.take j).foldl (Hg N st m') (-1,0):=⟨_,rfl⟩;simp only[Ho,<-hacc];simp only[ZZ,simprocAttr,Aa,roomC.q,roomC.fv,sub,AL,a0];refine⟨au,λr1 O=> ?_⟩;rw[hr] at O;obtain rfl:=AJ O;intro bw;refine⟨λhj=>⟨au,λr1 O=> ?_⟩,λhj=> ?_⟩
  .rw[hr] at O;obtain rfl:=AJ O;refine⟨hj,λi aq=> ?_⟩;have az:=Bj aq;obtain⟨i0,i1,_,_⟩:=jQ Z av az;have bl:=yL Z av az;have z:(r.take (j+1)).foldl (Hg N st m') (-1,0)=Hg N st m' acc i:=by
    rw[FL,aq,eJ,<-hacc];rfl
   have ac:0<(DV N m' i).1->st[(DV N m' i).2.toNat]?.getD 0=st[(m':Int).toNat]?.getD 0 - 1->(acc.1<0\/(DV N m' i).2<acc.1)->Hg N st m' acc i=((DV N m' i).2,i):=by
    intro h1 h2 h3;simp only[Hg];rw[Bt ⟨h1,h2,h3⟩]
   have an:IntKind.wrap .i64 ((j:Int)+1)=((j+1:Nat):Int):=by rw[AG auOm auOm];omega
   refine⟨⟨Z,i0,i1⟩,λh1=>⟨bl.1,auOm,λx' bn=>⟨auOm,λy' bd=> ?_⟩⟩,λh1=>⟨⟨j+1,auOm⟩,by simp only;omega,an,?_,?_⟩⟩
   .have bx:=ab y' (Bj bd);rw[AG (x:=y' - 1) auOm auOm];have ad:st[(DV N m' i).2.toNat]?.getD 0=x':=by rw[bn];rfl
    have af:st[(m':Int).toNat]?.getD 0=y':=by rw[Cp,bd];rfl
    refine⟨λh2=>⟨λh3=>⟨λh4=>⟨au,λr1 O=> ?_⟩,λh4=>⟨⟨j+1,auOm⟩,by simp only;omega,an,?_,?_⟩⟩,λh3=>⟨au,λr1 O=> ?_⟩⟩,λh2=>⟨⟨j+1,auOm⟩,by simp only;omega,an,?_,?_⟩⟩
    .rw[hr] at O;obtain rfl:=AJ O;refine⟨hj,λi' ah=>⟨⟨j+1,auOm⟩,by simp only;omega,an,?_,?_⟩⟩
     .rw[aq] at ah;obtain rfl:=AJ ah;simp only[z];rw[ac h1 (by rw[ad,af,h2]) (.inr h4)]
     .simp only[z];rw[ac h1 (by rw[ad,af,h2]) (.inr h4)]
    .simp only[z,Hg];rw[Be (λh=>by rcases h.2.2 with h|h<;>omega)]
    .simp only[z,Hg];rw[Be (λh=>by rcases h.2.2 with h|h<;>omega)]
    .rw[hr] at O;obtain rfl:=AJ O;refine⟨hj,λi' ah=>⟨⟨j+1,auOm⟩,by simp only;omega,an,?_,?_⟩⟩
     .rw[aq] at ah;obtain rfl:=AJ ah;simp only[z];rw[ac h1 (by rw[ad,af,h2]) (.inl (Ch.1 h3))]
     .simp only[z];rw[ac h1 (by rw[ad,af,h2]) (.inl (Ch.1 h3))]
    .simp only[z,Hg];rw[Be (λh=>h2 (by rw[<-ad,<-af];exact h.2.1))]
    .simp only[z,Hg];rw[Be (λh=>h2 (by rw[<-ad,<-af];exact h.2.1))]
   .simp only[z,Hg];rw[Be (λh=>h1 h.1)]
   .simp only[z,Hg];rw[Be (λh=>h1 h.1)]
  .have be:j=r.length:=auOm;subst be;rw[Pj] at hacc;rw[<-a9] at hacc;subst hacc;have bq:=Z.at_ m' r av _ hg.1;obtain⟨i0,i1,_,_⟩:=jQ Z av hg.1;refine A7.os (N,(m':Int),(HO N st m').2) [0,1] ⟨Z,i0,i1⟩ (λj=>tF _ j) rfl rfl ?_ ?_
   .simp only[ZA,simprocAttr,Aq,ED,Ho,pushC.ca,ED,Ho];rw[ag,aw,ao];exact⟨rfl,rfl,rfl⟩
   .simp only[ZA,simprocAttr,Aq,KC,pushC.H1,KC,sub];exact⟨⟨k+1,auOm⟩,by simp only;omega,by simp only[aa],by simp only[aa]⟩
 .have:k=d:=by
   have h1:=Q.zero;rw[show a.2.2.toNat=m by omega,bb] at h1
   have:=AJ h1
   omega
  rw[this]
 simp[growC.H1] at hp;subst hp;exact .inl ⟨auOm,rfl,rfl⟩
def AC(a b:Nat)(h:a≠b):(a==b)=false:=by simpa using h
def Sn{α β γ:Type}{f:α->Option β}{g:γ->α}{k:γ->β}: ∀(l:List γ),(∀i∈l,f (g i)=some (k i))->Aw f (l.map g)=some (l.map k)
 |[],_=>rfl
 |x::r,h=>by simp only[Br,Aw,h x (CP ..),Sn r (λi z=>h i (Ah _ z))]
def Zs{H:HpT}{kx:Nat->Option Nat}{m b n T:Nat}(f:Nat->Cz)(O: ∀i,i<n->kx (b+i)=none)(hH: ∀i,i<n->H (b+i)=some (true,.arr T 1 ((f i).map Aj))):
 Aw (Aw λx=>Fg (Bs H kx (m+1) x)) ((List.range n).map λi=>[AV.own (b+i)])=some (((List.range n).map f).map BD):=by
 rw[GS];refine Sn _ (λi z=> ?_);have z:=AU.1 z;simp only[Aw,Bs,O i z,hH i z,Ra,kp,CT,Fg,AV.asD,Function.comp,BD]
def J2(H:An)(a b:Nat)(h:a≠b):hget (Bp H [a]) b=hget H b:=by
 rw[Se,Be];simp;omega
def J6{α:Type}{a b:Nat}{x y:α}(h:a≠b):(if a=b then x else y)=y:=Be h
def Bb: ∀(x:An),Bp x []=x
 |[]=>rfl
 |(m,e)::r=>by simp[Bp,Bb r]
def dB(L:List Nat)(b n:Nat)(h:L.Nodup)(z: ∀x∈L,x<b):(L++(List.range n).map (b+ ·)).Nodup:=by
 rw[Hj];refine⟨h,?_,?_⟩
 .rw[eL,List.pairwise_map];exact List.Pairwise.imp (λh Z=>h auOm) (eL.1 S5)
 .intro x O y Q he;obtain⟨i,_,rfl⟩:=BY.1 Q
  have:=z x O
  omega
def Ji(bs:List Ak)(i:Nat):Nat->Cz
 |0=>[]
 |k+1=>Ji bs i k++(match bs[k]? with
  |some b=>(if b.A=i then [(k:Int)] else [])++(if b.B=i then [(k:Int)] else [])
  |none=>[])
def Qwx(bs:List Ak)(i:Nat): ∀k,(Ji bs i k).length<=2*k
 |0=>BN _
 |k+1=>by
  have:=Qwx bs i k
  simp only[Ji,BR];split
  .simp only[BR]
   split<;>split<;>simp<;>omega
  .simp;omega
def DA(n:Int)(bs:List Ak):Bu:=⟨n,bs,(List.range n.toNat).map (λi=>Ji bs i bs.length),List.replicate bs.length 0⟩
def newNC.ca(a:Int×List Ak):List AV:=[.im (.int .i64 a.1),.im (.sl false 3 (a.2.map Ak.c))]
def newNC.H1(a:Int×List Ak):An:=[(0,(true,.cells 229 [.im (.int .i64 a.1),.im (.sl false 3 (a.2.map Ak.c)),.im (.sl false 1 ((DA a.1 a.2).At.map BD)),.own 2])),(2,(true,.arr 2 1 ((DA a.1 a.2).Flow.map Aj)))]
def dH(a:Int×List Ak):Prop:=0<=a.1/\a.1<=1000/\a.2.length<=1000000/\Mm a.1 a.2/\ ∀b∈a.2,b.A≠b.B
def Fv(j:Nat):Bool:=j==0||j==2
def newNC.row:A8:=A7 newNC.ca (λ_=>[]) 0 dH (λ_=>false) (λ_=> .ptr 0 0) newNC.H1 3010
def newNC.ok:AE 173 newNC.row:=by
 refine ow tN Tryz.func173 (exB:=Fv) (R:=λ_ r=>r= .ptr 0 0) (λ_=>rfl)
  (λa=>by simp[newNC.ca,A9,AV.bel,Ar,B5,Ca]) (λa p hp=> ?_) LeVq ?_
 rotate_left
 intro a ay;simp only[Tryz.f173,newNC.ca,newNC.H1];simp(disch:=omega)only[ZA,simprocAttr];obtain⟨ax,ba,hl,an,bb⟩:=ay;refine⟨ax,kV _,auOm,λ_=>⟨auOm,?_⟩⟩;obtain⟨n,hn⟩: ∃n:Nat,a.1=n:=⟨a.1.toNat,auOm⟩;rw[hn] at ax ba an;simp only[hn,Cp];refine AY.ren ⟨{k:Nat//k<=a.2.length},λk=>⟨[(6,.im (.int .i64 k.1)),(5,.ptr 0 0),(1,.im (.sl false 3 (a.2.map Ak.c)))],(0,(true,.cells 229 [.im (.int .i64 n),.im (.sl false 3 (a.2.map Ak.c)),.own 1,.own 2]))::(2,(true,.arr 2 1 ((List.replicate a.2.length (0:Int)).map Aj)))::(1,(true,.arrA 35 1 ((List.range n).map λi=>[AV.own (1000+i)])))::AH 1000 n (λi=>(true,.arr 2 1 ((Ji a.2 i k.1).map Aj))),3000⟩,λk=>a.2.length - k.1,λk=>⟨?_,auSi⟩,⟨⟨0,auSi⟩,JM 1000 n,?_⟩,λk=> ?_⟩
 .simp only[ZG,Jg,CZ];rw[Ll _ _ _ (λi=>by simp[Ar]),K2 _ _ _ _ auOm];simp[A9,AV.bel];omega
 .refine⟨TL _ _ _ auSi,?_,?_,?_⟩
  .rw[Sj];simp only[DF,WK];refine WZ _ _ (dB [0,2,1] 1000 n auSi auSi) ?_;intro x hx y hy m O z;rw[qC] at O z;split at O
   .cases O
   .split at z
    .cases z
    .exact (AJ O).trans (AJ z).symm
  .simp only[EQ,AF];simp(disch:=omega)only[ZA,simprocAttr,qC,Hh];simp[Hh]
  .have p0:pm (JM 1000 n) 0=some 0:=by rw[qC,Be auOm]
   have p1:pm (JM 1000 n) 1=some 1:=by rw[qC,Be auOm]
   have p2:pm (JM 1000 n) 2=some 2:=by rw[qC,Be auOm]
   have pf: ∀i,i<n->pm (JM 1000 n) (1000+i)=none:=by intro i Q;rw[qC,Bt auOm]
   simp only[F6,Ys];refine⟨?_,?_,?_,λi Q=> ?_⟩
   .simp(disch:=omega)only[ZA,simprocAttr,p0,p1,p2]
   .simp(disch:=omega)only[ZA,simprocAttr,p2];simp[Aj]
   .simp(disch:=omega)only[ZA,simprocAttr,p1];rw[Sm];refine⟨auSi,λi x y hx hy=> ?_⟩;simp only[Dp,Dx] at hx hy;obtain⟨i',ai,rfl⟩:=hx;obtain⟨w,hw,rfl⟩:=hy;have be:=JA (Bj hw);subst be
    have:=AU.1 (Bj ai)
    simp(disch:=omega)only[ZA,simprocAttr,pf i' this]
   .rw[pf i Q];simp(disch:=omega)only[ZA,simprocAttr,Ji]
 obtain⟨k,bl⟩:=k;simp(disch:=omega)only[ZA,simprocAttr,Aq,Fv,AL,Bb];intro _;refine⟨λhk=>⟨hk,λb hb=>⟨hk,λb' aa=> ?_⟩⟩,λhk=> ?_⟩
 .rw[hb] at aa;obtain rfl:=AJ aa;obtain⟨b1,b2,b3,b4⟩:=an b (Bj hb);have bj:=bb b (Bj hb);refine⟨b1,by rw[Ro];exact b2,by rw[Ro];omega,λx hx=> ?_⟩;obtain⟨az,bg⟩:=Bi.1 hx;rw[Ro] at az;rw[Zeq] at bg;have br:x<n:=auOm;refine⟨auOm,?_,?_⟩
  .simp;omega
  have bf:(1000+x<3000\/3000<=1000+x)=True:=Rg auOm;have bo:(1000+x==0)=false:=AC _ _ auOm;have bp:(1000+x==1)=false:=AC _ _ auOm;have bq:(1000+x==2)=false:=AC _ _ auOm;have bm:=Qwx a.2 x k;simp(disch:=omega)only[ZA,simprocAttr,J6,CY,Bb,bf,AC];refine⟨auOm,auOm,?_⟩;refine⟨b1,by rw[Ro];exact b2,by rw[Ro];exact az,λ_ _=> ?_⟩;have Z: ∀N,3001<N->((List.map (λi=>[AV.own (1000+i)]) (List.range n)).set b.A.toNat [AV.own 3001]).all (A9 N)=true:=by
   intro N hN;rw[CF];intro r hr;rcases GR hr with hr|hr
   .obtain⟨i,Q,rfl⟩:=BY.1 hr
    have:=AU.1 Q
    simp[A9,AV.bel];omega
   .subst hr;simp[A9,AV.bel];omega
  refine⟨Z _ auOm,⟨auSi,auSi,auSi⟩,hk,λb' aa=>⟨hk,λb'' ah=> ?_⟩⟩;rw[hb] at aa ah;obtain rfl:=AJ aa;obtain rfl:=AJ ah;obtain⟨y,hy⟩: ∃y:Nat,b.B=y:=⟨b.B.toNat,auOm⟩;have bt:y≠x:=auOm;have bi:y<n:=auOm;have a0:b.B.toNat=y:=auOm;refine⟨b3,by simp;omega,by simp;omega,λrow ab=> ?_⟩;have am:row=[AV.own (1000+y)]:=by
   rw[a0,DL auOm,Dp,ER bi] at ab;exact (AJ ab).symm
  subst am;have bh:(1000+y<3002\/3002<=1000+y)=True:=Rg auOm;have bn:=Qwx a.2 y k;simp(disch:=omega)only[ZA,simprocAttr,Aq,J6,CY,Bb,bh,AC,J2];refine⟨auOm,auOm,auOm,b3,by simp;omega,by simp;omega,λrow ac=> ?_⟩;rw[ab] at ac;obtain rfl:=AJ ac;simp only[ZA,simprocAttr,Bb,AC];refine⟨?_,⟨auSi,auSi,auSi⟩,⟨k+1,auOm⟩,[(1000+x,some 3001),(1000+y,some 3003)],by simp only;omega,?_⟩
  .rw[CF];intro r hr;rcases GR hr with hr|hr
   .exact CF.1 (Z 3004 auOm) r hr
   .subst hr;simp[A9,AV.bel]
  obtain⟨g,hg⟩: ∃g,g=pm [(1000+x,some 3001),(1000+y,some 3003)]:=⟨_,rfl⟩;have qx:g (1000+x)=some 3001:=by rw[hg];simp[pm]
  have qy:g (1000+y)=some 3003:=by rw[hg];simp only[pm];rw[Be auOm];simp
  have qo: ∀u,u≠1000+x->u≠1000+y->g u=some u:=by intro u O z;rw[hg];simp only[pm];rw[Be auOm,Be auOm]
  have a8: ∀i,i<n->Ji a.2 i (k+1)=if i=x\/i=y then Ji a.2 i k++[(k:Int)] else Ji a.2 i k:=by
   intro i Q;simp only[Ji,hb];by_cases O:i=x
   .subst O;rw[Bt auOm,Be auOm,Bt (.inl rfl),C3]
   .by_cases z:i=y
    .subst z;rw[Be auOm,Bt auOm,Bt (.inr rfl),E5]
    .rw[Be auOm,Be auOm,Be auOm];simp
  refine⟨⟨auOm,auOm,trivial⟩,?_,?_,?_⟩
  .rw[Sj,<-hg];simp only[DF,WK];refine WZ _ _ (dB [0,2,1] 1000 n auSi auSi) ?_;have au: ∀u∈[0,2,1]++(List.range n).map (1000+ ·),u<2000:=by
    intro u hu;rcases BO.1 hu with hu|hu
    .simp at hu;omega
    .obtain⟨i,Q,rfl⟩:=BY.1 hu
     have:=AU.1 Q
     show 1000+i<2000;omega
   have hc: ∀u,u<2000->(u=1000+x/\g u=some 3001)\/(u=1000+y/\g u=some 3003)\/g u=some u:=by
    intro u _;by_cases O:u=1000+x
    .exact .inl ⟨O,O▸qx⟩
    .by_cases z:u=1000+y
     .exact .inr (.inl ⟨z,z▸qy⟩)
     .exact .inr (.inr (qo u O z))
   intro u hu v hv m av aw;have bc:=au u hu;have bd:=au v hv;rcases hc u bc with ⟨e1,e2⟩|⟨e1,e2⟩|e2<;>rcases hc v bd with ⟨f1,f2⟩|⟨f1,f2⟩|f2<;>rw[e2] at av<;>rw[f2] at aw<;>simp only[AS] at av aw<;>omega
  .have q0:pm [(1000+x,some 3001),(1000+y,some 3003)] 0=some 0:=by rw[<-hg];exact qo 0 auOm auOm
   simp only[EQ,AF];simp only[ZA,simprocAttr,q0];rw[AG auOm auOm];simp
  .have q0:pm [(1000+x,some 3001),(1000+y,some 3003)] 0=some 0:=by rw[<-hg];exact qo 0 auOm auOm
   have q1:pm [(1000+x,some 3001),(1000+y,some 3003)] 1=some 1:=by rw[<-hg];exact qo 1 auOm auOm
   have q2:pm [(1000+x,some 3001),(1000+y,some 3003)] 2=some 2:=by rw[<-hg];exact qo 2 auOm auOm
   have af:=qx;have ag:=qy;have ad:=qo;rw[hg] at af ag ad;simp only[F6,Ys];refine⟨?_,?_,?_,λi Q=> ?_⟩
   .simp only[ZA,simprocAttr,q0,q1,q2]
   .simp only[ZA,simprocAttr,q2]
   .simp only[ZA,simprocAttr,q1];rw[Sm];refine⟨auSi,λi r1 r2 O z=> ?_⟩;simp only[Dp,Dx] at O;obtain⟨i',ai,rfl⟩:=O;obtain⟨aq,ao⟩:=Bi.1 ai;rw[Ro] at aq;rw[Zeq] at ao;subst ao;rw[a0,show b.A.toNat=x by omega] at z;by_cases ak:i=y
    .subst ak;rw[Bo (by simp;omega)] at z;obtain rfl:=AJ z;simp only[Dl,mt,ag,DS,Ly]
    .rw[DL auOm] at z;by_cases aj:i=x
     .subst aj;rw[Bo (by simp;omega)] at z;obtain rfl:=AJ z;simp only[Dl,mt,af,DS,Ly]
     .rw[DL auOm,Dp,ER aq] at z;obtain rfl:=AJ z;simp only[Dl,mt,ad (1000+i) auOm auOm,DS,Ly]
   .show Ci _ _ true (.arr 2 1 ((Ji a.2 i (k+1)).map Aj)) _;rw[a8 i Q];by_cases ak:i=y
    .subst ak;rw[ag,Bt (.inr rfl)];simp only[ZA,simprocAttr];simp[Aj]
    .by_cases aj:i=x
     .subst aj;rw[af,Bt (.inl rfl)];simp only[ZA,simprocAttr];simp[Aj]
     .rw[ad (1000+i) auOm auOm,Be auOm];have e: ∀(H:An),hget H (1000+i)=some (true,.arr 2 1 ((Ji a.2 i k).map Aj))->D9 [(1000+x,some 3001),(1000+y,some 3003)] true (.arr 2 1 ((Ji a.2 i k).map Aj)) (hget H (1000+i)):=by
       intro H hH;rw[hH];exact⟨rfl,by simp only[Df]⟩
      refine e _ ?_;simp only[hget,AC _ _ (show 1≠1000+i by omega),AC _ _ (show 3003≠1000+i by omega),AC _ _ (show 3002≠1000+i by omega),AC _ _ (show 3001≠1000+i by omega),AC _ _ (show 3000≠1000+i by omega),AC _ _ (show 0≠1000+i by omega),AC _ _ (show 2≠1000+i by omega),Dw];rw[J2 _ _ _ auOm,J2 _ _ _ auOm,J2 _ _ _ auOm,J2 _ _ _ auOm,CY _ _ _ _ Q]
 .have a9:k=a.2.length:=auOm;subst a9;rw[Zs (T:=2) (λi=>Ji a.2 i a.2.length)]
  .simp[DA]
  .intro i Q;have e:Fv (1000+i)=false:=by simp only[Fv,AC _ _ (show 1000+i≠0 by omega),AC _ _ (show 1000+i≠2 by omega),YF]
   simp[Hl,Ai,hget,e]
  .intro i Q;simp only[hget,AC _ _ (show 1≠1000+i by omega),AC _ _ (show 0≠1000+i by omega),AC _ _ (show 2≠1000+i by omega),Dw];exact CY _ _ _ _ Q
 simp[newNC.H1] at hp;rcases hp with rfl|rfl
 .exact .inr ⟨auOm,auSi,rfl,rfl⟩
 .exact .inr ⟨auOm,auSi,rfl,rfl⟩
def K9(p:Int)(b:Ak)(f:Int):Int:=if b.A=p then f else if b.B=p then -f else 0
def DR(n:Bu)(p:Int):Int:=(List.zipWith (K9 p) n.Bonds n.Flow).sum
def Oz(p:Int): ∀(bs:List Ak) (Q:Cz) (j:Nat) (b:Ak) (f f':Int),bs[j]? =some b->Q[j]? =some f->(List.zipWith (K9 p) bs (Q.set j f')).sum=(List.zipWith (K9 p) bs Q).sum - K9 p b f+K9 p b f'
 |[],_,_,_,_,_,h,_=>by simp at h
 |_::_,[],_,_,_,_,_,h=>by simp at h
 |x::r,y::s,0,b,f,f',z,O=>by
  simp only[ES,AS] at z O;subst z;subst O;simp only[YH,Sz,K6];omega
 |x::r,y::s,j+1,b,f,f',z,O=>by
  have:=Oz p r s j b f f' (by simpa using z) (by simpa using O)
  simp only[YN,Sz,K6,this];omega
def Qzc{n:Bu}(hn:DZ n){v:Nat}{r:Cz}(hr:n.At[v]? =some r){i:Int}(Q:i∈r)(p:Int):DR (Ja n v i) p=DR n p+(if (v:Int)=p then 1 else if (DV n v i).2=p then -1 else 0):=by
 obtain⟨h0,b,z,hv⟩:=hn.at_ v r hr i Q;have aa:=hn.ne b (Bj z);have Z:=(Bi.1 z).1;obtain⟨f,hf⟩: ∃f,n.Flow[i.toNat]? =some f:=⟨_,Bk (by rw[hn.fl];exact Z)⟩;simp only[DR,Ja,z,DV];rw[Oz p _ _ _ b f _ z hf,hf];simp only[BG,K9];rcases hv with h|h
 .simp only[Bt h]
  repeat' split
  all_goals omega
 .have O: ¬b.A=v:=auOm;simp only[Be O]
  repeat' split
  all_goals omega
def Mf(p:Int): ∀(bs:List Ak) (Q:Cz),(∀(i:Nat) b f,bs[i]? =some b->Q[i]? =some f-> -b.Strength<=f/\f<=b.Strength)->(∀b∈bs,0<=b.Strength)->(List.zipWith (K9 p) bs Q).sum<=(bs.map Ak.Strength).sum
 |[],_,_,_=>by simp
 |x::r,[],_,z=>by
  have Z:=Mf p r [] (λi b f _ h=>by simp at h) (λb O=>z b (Ah _ O));have h2:=z x (CP ..);simp only[rJ,ZeN,Br,K6] at Z⊢;omega
 |x::r,y::s,hc,z=>by
  have Z:=Mf p r s (λi b f h h'=>hc (i+1) b f (by simpa using h) (by simpa using h')) (λb O=>z b (Ah _ O));have h2:=z x (CP ..);have h3:=hc 0 x y rfl rfl;simp only[Sz,Br,K6,K9];split
  .omega
  .split<;>omega
def UW{n:Bu}(hn:DZ n)(O:J5 n)(p:Int):DR n p<=(n.Bonds.map Ak.Strength).sum:=Mf p _ _ O (λb z=>(hn.st b z).1)
def W9{n:Bu}(hn:DZ n)(hc:J5 n){q:Int}{st qu:Cz}(z:st.length=n.Cnt.toNat)(hP:GV n q (st,qu)){p:Int}(aa:0<=p)(ab:p<n.Cnt){d:Nat}(hd:st[p.toNat]? =some (d:Int)): ∀k,k<d->DR (Ct n st p (k+1)).1 p=DR n p+1:=by
 have step: ∀k,k<d->DR (Ct n st p (k+1)).1 p=DR (Ct n st p k).1 p+(if k=0 then 1 else 0):=by
  intro k Z;have hI:=pU hn hc z hP aa ab hd k auOm;obtain⟨m,r,hm,hr,hg,O,af⟩:=Qk0 hn z hP Z hI;have ac:(Ct n st p k).1.At[m]? =some r:=by rw[hI.at_];exact hr
  have e:(Ct n st p (k+1)).1=Ja (Ct n st p k).1 m (HO (Ct n st p k).1 st m).2:=by simp only[Ct,hm]
  rw[e,Qzc hI.ok ac hg.1,hg.2.2.1];have Q:=hg.2.2.2.1;rw[Cp,O,BG] at Q;have ad:(HO (Ct n st p k).1 st m).1≠p:=by
   intro he;rw[he,hd,BG] at Q;omega
  by_cases h0:k=0
  .subst h0
   have:(m:Int)=p:=by rw[<-hm];rfl
   rw[Bt this,Bt rfl]
  .have:(m:Int)≠p:=by
    intro he
    have:m=p.toNat:=auOm
    rw[this,hd] at O
    have:=AJ O
    omega
   rw[Be this,Be ad,Be h0]
 intro k Z;induction k with
 |zero=>rw[step 0 Z];simp[Ct]
 |succ k ih=>rw[step (k+1) Z,Be auOm,ih auOm];omega
def Qr2(bs:List Ak)(i:Nat)(z:Int): ∀k,z∈Ji bs i k↔ ∃(j:Nat) (b:Ak),j<k/\z=j/\bs[j]? =some b/\(b.A=i\/b.B=i)
 |0=>by simp[Ji]
 |k+1=>by
  have ih:=Qr2 bs i z k;simp only[Ji,BO,ih];constructor
  .rintro (⟨j,b,h1,Q,Z,O⟩|h)
   .exact⟨j,b,auOm,Q,Z,O⟩
   .cases hb:bs[k]? with
    |none=>rw[hb] at h;simp at h
    |some b=>
     rw[hb] at h;simp only[BO] at h;refine⟨k,b,auOm,?_,hb,?_⟩
     .rcases h with h|h<;>split at h<;>simp at h<;>exact h
     .rcases h with h|h
      .split at h
       .exact .inl (by assumption)
       .simp at h
      .split at h
       .exact .inr (by assumption)
       .simp at h
  .rintro⟨j,b,h1,Q,Z,O⟩;by_cases hj:j=k
   .subst hj;refine .inr ?_;rw[Z];simp only[BO];rcases O with O|O
    .exact .inl (by rw[Bt O,Q];exact Am.2 rfl)
    .exact .inr (by rw[Bt O,Q];exact Am.2 rfl)
   .exact .inl ⟨j,b,auOm,Q,Z,O⟩
def Rb(bs:List Ak):Prop:= ∀b∈bs,0<=b.Strength/\b.Strength<=1000000
def Qxo{n:Int}{bs:List Ak}(v:Nat)(z:v<n.toNat):(DA n bs).At[v]? =some (Ji bs v bs.length):=by
 simp only[DA,Dp,ER z,CT]
def N2{n:Int}{bs:List Ak}(h:dH (n,bs))(hs:Rb bs):DZ (DA n bs)/\J5 (DA n bs):=by
 obtain⟨h0,h1,h2,O,h4⟩:=h;simp only at h0 h1 h2 O h4;have hz: ∀(i:Nat) f,(DA n bs).Flow[i]? =some f->f=0:=by
  intro i f hf;exact JA (Bj hf)
 refine⟨⟨h0,by show n<=1000000;omega,by simp[DA],by simp[DA];omega,O,?_,?_,hs,?_,h4⟩,?_⟩
 .intro v r Z i Q;have hv:v<n.toNat:=by
   have:=(Bi.1 Z).1
   simpa[DA] using this
  rw[Qxo v hv] at Z;obtain rfl:=AJ Z;obtain⟨j,b,g1,g2,g3,g4⟩:=(Qr2 bs v i bs.length).1 Q;exact⟨auOm,b,by rw[g2,Cp];exact g3,g4⟩
 .intro x hx;obtain⟨i,Q⟩:=JB.1 hx
  have:=hz i x Q
  omega
 .intro i b z;have hl:=(Bi.1 z).1;have aa:=O b (Bj z);refine⟨⟨_,Qxo _ auOm,(Qr2 bs _ _ _).2 ⟨i,b,hl,rfl,z,.inl auOm⟩⟩,⟨_,Qxo _ auOm,(Qr2 bs _ _ _).2 ⟨i,b,hl,rfl,z,.inr auOm⟩⟩⟩
 .intro i b f z hf
  have:=hz i f hf
  have:=hs b (Bj z)
  omega
def Qtg{n:Int}{bs:List Ak}(p:Int):DR (DA n bs) p=0:=by
 simp only[DR,DA]
 have: ∀(l:List Ak) (m:Nat),(List.zipWith (K9 p) l (List.replicate m 0)).sum=0:=by
  intro l;induction l with
  |nil=>intro m;simp
  |cons x r ih=>
   intro m;cases m with
   |zero=>simp
   |succ m=>
    simp only[Zee,Sz,K6,ih m,K9];split
    .rfl
    .split<;>rfl
 exact this _ _
def H9(p q:Int):Nat->Bu->Bu×Int
 |0,n=>(n,0)
 |m+1,n=>if (Gs n p q).2=true then ((H9 p q m (Gs n p q).1).1,(H9 p q m (Gs n p q).1).2+1) else (n,0)
def EP(n:Int)(bs:List Ak)(p q:Int):Bu×Int:=H9 p q ((bs.map Ak.Strength).sum.toNat+1) (DA n bs)
def MZ{n:Bu}(hn:DZ n)(hc:J5 n){p q:Int}(Q:0<=p)(Z:p<n.Cnt)(aa:0<=q)(ab:q<n.Cnt)(ac:p≠q)(hg:(Gs n p q).2=true):
 DZ (Gs n p q).1/\J5 (Gs n p q).1/\(Gs n p q).1.Cnt=n.Cnt/\(Gs n p q).1.Bonds=n.Bonds/\(Gs n p q).1.At=n.At/\DR (Gs n p q).1 p=DR n p+1:=by
 have z:=wK hn aa ab;have hP:GV n q (Gr n q,(CW n q n.Cnt.toNat).2):=OE hn aa ab n.Cnt.toNat;obtain⟨x,hx⟩: ∃x,(Gr n q)[p.toNat]? =some x:=⟨_,Bk auOm⟩;simp only[Gs,hx,BG] at hg⊢;by_cases h:x<0
 .rw[Bt h] at hg;simp at hg
 .obtain⟨d,rfl⟩: ∃d:Nat,x=d:=⟨x.toNat,auOm⟩;rw[Be h,Cp];have hd:0<d:=by
   rcases rL d with h0|h0
   .subst h0
    have:=hP.uniq p.toNat hx
    omega
   .exact h0
  have O:=pU hn hc z hP Q Z hx d (BN _);have ho:=W9 hn hc z hP Q Z hx (d - 1) auOm;rw[show d - 1+1=d by omega] at ho;exact⟨O.ok,O.cap,O.cnt,O.bs,O.at_,ho⟩
abbrev sK:=Int×List Ak×Int×Int
def flC.net(a:sK):Bu:=(EP a.1 a.2.1 a.2.2.1 a.2.2.2).1
def flC.ca(a:sK):List AV:=[.im (.int .i64 a.1),.im (.sl false 3 (a.2.1.map Ak.c)),.im (.int .i64 a.2.2.1),.im (.int .i64 a.2.2.2)]
def flC.H1(a:sK):An:=[(0,(true,.cells 229 [.im (.int .i64 a.1),.im (.sl false 3 (a.2.1.map Ak.c)),.im (.sl false 1 ((DA a.1 a.2.1).At.map BD)),.own 2])),(2,(true,.arr 2 1 ((flC.net a).Flow.map Aj)))]
def flC.r0(a:sK):AV:= .tup [.ptr 0 0,.im (.int .i64 (EP a.1 a.2.1 a.2.2.1 a.2.2.2).2)]
def flC.pre(a:sK):Prop:=dH (a.1,a.2.1)/\Rb a.2.1/\0<=a.2.2.1/\a.2.2.1<a.1/\0<=a.2.2.2/\a.2.2.2<a.1/\a.2.2.1≠a.2.2.2
def flC.row:A8:=A7 flC.ca (λ_=>[]) 0 flC.pre (λ_=>false) flC.r0 flC.H1 3010
def flC.ok:AE 146 flC.row:=by
 refine ow (tC newNC.ok (tC growC.ok tN)) Tryz.func146 (exB:=Fv) (R:=λa r=>r=flC.r0 a) (λ_=>rfl)
  (λa=>by simp[flC.ca,A9,AV.bel,Ar,B5,Ca]) (λa p hp=> ?_) LeVq ?_
 rotate_left
 intro a ab;simp only[Tryz.f146,flC.ca,flC.H1];simp only[ZA,simprocAttr];obtain⟨O,ad,aa,ak,ac,am,ag⟩:=ab;obtain⟨Z,z⟩:=N2 O ad;have ah:=Qtg (n:=a.1) (bs:=a.2.1) a.2.2.1;refine A7.os (a.1,a.2.1) [] O (λj=>by simp[Ai,hget]) rfl rfl ?_ ?_
 .simp only[ZA,simprocAttr,newNC.ca]
 .simp only[ZA,simprocAttr,newNC.H1];obtain⟨F,hF⟩: ∃F,F=(a.2.1.map Ak.Strength).sum.toNat+1:=⟨_,rfl⟩;refine AY.old ⟨{k:Nat×Bu//DZ k.2/\J5 k.2/\k.2.Cnt=a.1/\k.2.Bonds=a.2.1/\k.2.At=(DA a.1 a.2.1).At/\DR k.2 a.2.2.1=k.1/\k.1<=F/\EP a.1 a.2.1 a.2.2.1 a.2.2.2=((H9 a.2.2.1 a.2.2.2 (F - k.1) k.2).1,(H9 a.2.2.1 a.2.2.2 (F - k.1) k.2).2+k.1)},λk=>⟨[(11,.im (.int .i64 k.1.1)),(10,.ptr 0 0),(2,.im (.int .i64 a.2.2.1)),(3,.im (.int .i64 a.2.2.2))],[(0,(true,.cells 229 [.im (.int .i64 a.1),.im (.sl false 3 (a.2.1.map Ak.c)),.im (.sl false 1 ((DA a.1 a.2.1).At.map BD)),.own 2])),(2,(true,.arr 2 1 (k.1.2.Flow.map Aj)))],3010⟩,λk=>F - k.1.1,λk=>⟨by simp[ZG],BN _⟩,⟨⟨(0,DA a.1 a.2.1),Z,z,rfl,rfl,rfl,ah,Ir _,by simp[EP,hF]⟩,by simp only[ZA,simprocAttr,sub]⟩,λk=> ?_⟩;obtain⟨⟨k,N⟩,i1,i2,i3,i4,i5,i6,i7,Q⟩:=k;simp only at i1 i2 i3 i4 i5 i6 i7 Q;have af:=UW i1 i2 a.2.2.1;rw[i4,i6] at af;have aj:k<F:=auOm;have ai:F<=1000000000001:=by
   have h2: ∀(l:List Ak),(∀b∈l,b.Strength<=1000000)->(l.map Ak.Strength).sum<=1000000*(l.length:Int):=by
    intro l;induction l with
    |nil=>intro _;simp
    |cons x r ih=>
     intro h;have h3:=ih (λb hb=>h b (Ah _ hb));have h4:=h x (CP ..);simp only[Br,K6,Em];omega
   have h3:=h2 a.2.1 (λb hb=>(ad b hb).2);have h4:=O.2.2.1;simp only at h4;omega
  obtain⟨m,hm⟩: ∃m,F - k=m+1:=⟨F - k - 1,auOm⟩;rw[hm,H9] at Q;simp only[ZA,simprocAttr];refine A7.os (N,a.2.2.1,a.2.2.2) [0,2] ⟨i1,i2,aa,by simp only;omega,ac,by simp only;omega⟩ (λj=>tF _ j) rfl rfl ?_ ?_
  .simp only[ZA,simprocAttr,Aq,growC.ca,ED,Ho];rw[i3,i4,i5];exact⟨rfl,rfl,rfl⟩
  .simp only[ZA,simprocAttr,Aq,Fv,growC.H1,growC.r0,KC,sub,AL];refine⟨λhg=> ?_,λhg=> ?_⟩
   .rw[Bt hg] at Q;obtain⟨g1,g2,g3,g4,g5,g6⟩:=MZ i1 i2 aa auOm ac auOm ag hg;refine⟨⟨(k+1,(Gs N a.2.2.1 a.2.2.2).1),g1,g2,g3.trans i3,g4.trans i4,g5.trans i5,by simp only;omega,by simp only;omega,?_⟩,by simp only;omega,?_,rfl⟩
    .simp only;rw[show F - (k+1)=m by omega,Q];simp only[B6,eE];omega
    .rw[AG auOm auOm];simp only;omega
   .rw[Be hg] at Q;have e:(Gs N a.2.2.1 a.2.2.2).1=N:=by
     revert hg;simp only[Gs];split
     .intro _;rfl
     .intro h;simp at h
    refine⟨?_,?_⟩
    .simp only[flC.r0,Q];simp
    .rw[e];simp only[flC.net,Q]
 simp[flC.H1] at hp;rcases hp with rfl|rfl
 .exact .inr ⟨auOm,auSi,rfl,rfl⟩
 .exact .inr ⟨auOm,auSi,rfl,rfl⟩
def QO:D->Option Int
 | .int .u64 n=>some n
 |_=>none
def Qs3: ∀d x,QO d=some x->Le d (.int .u64 x):=by
 intro d x h;unfold QO at h;split at h
 .simp only[AS] at h;subst h;exact Le.refl _
 .cases h
def Qw1{a:Int}(h0:0<=a)(O:a<4294967296):Dz .u64 a 4294967295=a:=by
 simp only[Dz];obtain⟨n,rfl⟩: ∃n:Nat,a=n:=⟨a.toNat,auOm⟩;have hn:n<4294967296:=auOm
 have:(BitVec.ofInt IntKind.u64.bits (n:Int) &&& BitVec.ofInt IntKind.u64.bits 4294967295).toNat=n:=by
  have e:IntKind.u64.bits=64:=rfl;rw[e];simp only[ZeE,BitVec.toNat_ofInt];rw[show ((n:Int) % ((2^64:Nat):Int)).toNat=n by omega,show ((4294967295:Int) % ((2^64:Nat):Int)).toNat=2^32 - 1 by decide];rw[Nat.and_two_pow_sub_one_eq_mod];omega
 rw[this];unfold IntKind.wrap;have e:IntKind.u64.bits=64:=rfl;have z:IntKind.u64.signed=false:=rfl;simp only[e,z,Da,BL,HS];omega
def Oy{a:Int}(h0:0<=a)(O:a<18446744073709551616):IntKind.u64.wrap a=a:=by
 unfold IntKind.wrap;have e:IntKind.u64.bits=64:=rfl;have z:IntKind.u64.signed=false:=rfl;simp only[e,z,Da,BL,HS];omega
def MJ{a:Int}(h0:0<=a)(z:a<4294967296):a.fdiv (2^min 32 IntKind.u64.bits)=0:=by
 have e:IntKind.u64.bits=64:=rfl;rw[e,show (2:Int)^min 32 64=4294967296 by decide,Zej _ auDe];omega
def mul64.fv(a:Int×Int):Int×Int:=(λ_ y=>(0,y)) (a.1) (a.2)
def mul64.row:A8:=vK (b2 qU qU) (r2 (RK.mk (QO) (D.int .u64) (Qs3)) (RK.mk (QO) (D.int .u64) (Qs3))) (λa=>a.1=1/\0<=a.2/\a.2<=1000000) mul64.fv
def mul64.q:=Bg (R:=mul64.row) rfl
def mul64.ok:AE 223 mul64.row:=by
 refine vw tN Tryz.func223 ?_;intro a z;simp only[Tryz.f223];simp only[ZA,simprocAttr,mul64.fv];obtain⟨Q,O,Z⟩:=z;rw[Q,Qw1 auOm auOm,Qw1 auOm auOm,MJ auOm auOm,MJ O auOm,Int.zero_mul,Int.one_mul,Int.zero_mul,Int.mul_zero];simp only[Oy O (show a.2<18446744073709551616 by omega),MJ O (show a.2<4294967296 by omega),Oy (kV 0) auDe,Int.add_zero,MJ (kV 0) auDe,Qw1 (kV 0) auDe];rfl
def mul_.fv(a:Int×Int):Int×Int:=(λ_ y=>(0,y)) (a.1) (a.2)
def mul_.row:A8:=vK (b2 qU qU) (r2 (RK.mk (QO) (D.int .u64) (Qs3)) (RK.mk (QO) (D.int .u64) (Qs3))) (λa=>a.1=1/\0<=a.2/\a.2<=1000000) mul_.fv
def mul_.q:=Bg (R:=mul_.row) rfl
def mul_.ok:AE 219 mul_.row:=by
 refine vw (tC mul64.ok tN) Tryz.func219 ?_;intro a z;simp only[Tryz.f219];simp only[ZA,simprocAttr,mul_.fv,mul64.q,mul64.fv];exact⟨z,rfl⟩
def EF(x:Int)(m n:Nat):List (List D):=List.replicate m [.int .i64 x]++List.replicate (n - m) [.int .i64 0]
def Vt(x:Int){m n:Nat}(h:m<=n):(EF x m n).length=n:=by simp[EF];omega
def Vu(x:Int)(n:Nat):EF x (min 1 n) n=List.take (min 1 n) [[.int .i64 x]]++List.drop (min 1 n) (List.replicate n [.int .i64 0]):=by
 cases n with
 |zero=>rfl
 |succ n=>
  rw[show min 1 (n+1)=1 by omega];simp[EF]
def O2(x:Int)(k m n:Nat):DI Ee (List.take k (EF x m n)):=by
 intro r z
 have:=zT z
 rcases BO.1 this with h|h<;>rw[JA h]<;>rfl
def Qi(x:Int){m n:Nat}(h:m<n):List.take m (EF x m n)++List.take (min m (n - m)) (List.take m (EF x m n))++List.drop (m+min m (n - m)) (EF x m n)=EF x (m+min m (n - m)) n:=by
 have e:List.take m (EF x m n)=List.replicate m [.int .i64 x]:=by simp[EF]
 rw[e];have z:List.drop (m+min m (n - m)) (EF x m n)=List.replicate (n - (m+min m (n - m))) [.int .i64 0]:=by
  simp only[EF];rw[kQ,Bm auSi,E5,Ri,List.drop_replicate];congr 1;omega
 rw[z,EF,<-List.replicate_append_replicate];congr 2;rw[List.take_replicate];congr 1;omega
def rept.ca(a:Int×Int):List AV:=[.own 0,.im (.int .i64 a.2)]
def rept.H0(a:Int×Int):An:=[(0,(true,.arr 3 1 [[.int .i64 a.1]]))]
def rept.H1(a:Int×Int):An:=[(1,(true,.arr 3 1 (List.replicate a.2.toNat [.int .i64 a.1])))]
def rept.pre(a:Int×Int):Prop:=0<=a.2/\a.2<=1000000
def rept.row:A8:=A7 rept.ca rept.H0 1 rept.pre (λ_=>false) (λ_=> .own 1) rept.H1 20
def rept.ok:AE 211 rept.row:=by
 refine KF (tC mul_.ok tN) Tryz.func211 (exB:=λj=>j==1) (R:=λa r=>r= .own 1) (λ_=>rfl)
  (λa=>by simp[rept.ca,rept.H0,A9,AV.bel,Ar,B5,Ca,Ad.nms,Ai,hget]) (λa p hp=> ?_) LeVq ?_
 rotate_left
 intro a O;simp only[Tryz.f211,rept.ca,rept.H0,rept.H1];simp only[ZA,simprocAttr,mul_.q,mul_.fv,B8,BF,CA];obtain⟨h0,h1⟩:=O;rw[Be auOm];simp only[ZA,simprocAttr,Oy (show (0:Int)<=1 by decide) (show (1:Int)<18446744073709551616 by decide),Oy h0 (show a.2<18446744073709551616 by omega)];refine⟨⟨h0,h1⟩,?_⟩;rw[Be auOm];simp only[simprocAttr,AG (show -9223372036854775808<=a.2 by omega) (show a.2<=9223372036854775807 by omega)];refine⟨h0,kV _,auOm,?_⟩;obtain⟨n,hn⟩: ∃n:Nat,a.2=n:=⟨a.2.toNat,auOm⟩;obtain⟨x,hx⟩: ∃x,x=a.1:=⟨_,rfl⟩;simp only[hn,Cp,Ri,<-hx];rw[hn] at h0 h1;refine AY.old ⟨{m:Nat//m<=n/\(m=0->n=0)},λm=>⟨[(8,.im (.int .i64 m.1)),(7,.own 1)],[(1,(true,.arr 3 1 (EF x m.1 n))),(0,(true,.arr 3 1 [[.int .i64 x]]))],2⟩,λm=>n - m.1,λm=>⟨by simp[ZG],auSi⟩,⟨⟨min 1 n,auOm,auOm⟩,?_⟩,λm=> ?_⟩
 .simp only[ZA,simprocAttr,sub];exact (Vu x n).symm
 obtain⟨m,Z,ab⟩:=m;have z:=Vt x Z;simp only[ZA,simprocAttr,Bh,AL,z];intro aa;refine⟨λhm=>⟨auOm,false,?_⟩,λhm=> ?_⟩
 .simp only[ZA,simprocAttr,z];refine⟨auOm,false,?_⟩;simp only[ZA,simprocAttr,sub];obtain⟨k,hk⟩: ∃k,min (List.take ((m:Int) - 0).toNat (EF x m n)).length ((n:Int) - m).toNat=k:=⟨_,rfl⟩;have Q:k=min m (n - m):=by rw[<-hk,Eb,z];omega
  rw[hk,show ((m:Int) - 0).toNat=m by omega];refine⟨O2 x _ _ _,⟨m+k,auOm,auOm⟩,by simp only;omega,by rw[AG auOm auOm];simp only;omega,?_⟩;subst Q;exact Qi x hm
 .refine⟨[],[],⟨[(4,.own 1)],[(1,(true,.arr 3 1 (EF x m n))),(0,(true,.arr 3 1 [[.int .i64 x]]))],2⟩,?_,by simp[ZG],auSi,?_⟩
  .simp only[AB];simp only[ZA,simprocAttr,Bf]
  .simp only[ZA,simprocAttr]
   have:m=n:=auOm
   subst this;simp[EF]
 simp[rept.H1] at hp;subst hp;exact .inr ⟨auOm,auOm,rfl,rfl⟩
def Qyw(x:Bv)(u v:Int):Int:=(x.Room[u.toNat]?.getD [])[v.toNat]?.getD 0
def Qzr(x:Bv)(u v:Int):Int:=(x.Flow[u.toNat]?.getD [])[v.toNat]?.getD 0
def Xd(x:Bv)(u v:Int):Bool:=decide (Qzr x u v<Qyw x u v)
structure Lr(x:Bv)(n:Nat):Prop where
 r:x.Room.length=n
 f:x.Flow.length=n
 rr: ∀l∈x.Room,l.length=n
 ff: ∀l∈x.Flow,l.length=n
def Ih(x:Bv)(u:Int)(s:Cz×Cz)(v:Nat):Cz×Cz:=
 if s.1[v]?.getD 0<0/\Xd x u v=true then (s.1.set v u,s.2++[(v:Int)]) else s
def Dr(x:Bv)(u:Int)(s:Cz×Cz):Nat->Cz×Cz
 |0=>s
 |k+1=>Ih x u (Dr x u s k) k
def D5(x:Bv)(n:Nat)(p:Int):Nat->Cz×Cz
 |0=>((List.replicate n (-1)).set p.toNat p,[p])
 |k+1=>match (D5 x n p k).2[k]? with
  |none=>D5 x n p k
  |some u=>Dr x u (D5 x n p k) n
structure H4(x:Bv)(n:Nat)(p:Int)(s:Cz×Cz):Prop where
 len:s.1.length=n
 q: ∀v∈s.2,0<=v/\v<n
 nd:s.2.Nodup
 hd:s.2[0]? =some p
 pp:s.1[p.toNat]? =some p
 mem: ∀(v:Nat) (y:Int),s.1[v]? =some y->(0<=y↔(v:Int)∈s.2)
 prev: ∀(i:Nat) (v:Int),s.2[i]? =some v->0<i-> ∃(j:Nat) (u:Int),j<i/\s.2[j]? =some u/\s.1[v.toNat]? =some u/\Xd x u v=true
def Qtz: ∀(n:Nat) (l:Cz),l.Nodup->(∀v∈l,0<=v/\v<n)->l.length<=n
 |0,[],_,_=>BN _
 |0,x::r,_,h=>by have:=h x (CP ..);omega
 |n+1,l,h,O=>by
  have Z:=Qtz n (l.erase (n:Int)) (h.erase _) (λv Q=>by
   have z:=(h.mem_erase_iff).1 Q;have h3:=O v z.2
   have:=z.1
   omega)
  have z:=List.length_erase (a:=(n:Int)) (l:=l);split at z<;>omega
def Qr3{x:Bv}{n:Nat}{p:Int}{s:Cz×Cz}(h:H4 x n p s):s.2.length<=n:=Qtz n s.2 h.nd h.q
def oX{x:Bv}{n:Nat}{p:Int}{s:Cz×Cz}(h:H4 x n p s){u:Int}{k v:Nat}(hu:s.2[k]? =some u)(hv:v<n):H4 x n p (Ih x u s v)/\ ∃r,(Ih x u s v).2=s.2++r:=by
 simp only[Ih];split
 .rename_i hc;obtain⟨ad,af⟩:=hc;have Q:v<s.1.length:=by rw[h.len];exact hv
  obtain⟨y,hy⟩: ∃y,s.1[v]? =some y:=⟨_,Bk Q⟩;rw[hy,BG] at ad;have Z:(v:Int)∉s.2:=λhm=>by have:=(h.mem v y hy).2 hm;omega
  have ab:p∈s.2:=Bj h.hd;have ai:p.toNat≠v:=by
   intro he
   have:=h.q p ab
   exact Z (by rw[show (v:Int)=p by omega];exact ab)
  have aj:=h.q u (Bj hu);refine⟨⟨by simpa using h.len,λw O=> ?_,?_,?_,?_,λw z hz=> ?_,λi w O hi=> ?_⟩,_,rfl⟩
  .rcases BO.1 O with O|O
   .exact h.q w O
   .rw[Am] at O;subst O;omega
  .rw[Hj];refine⟨h.nd,auSi,λa ha b hb=> ?_⟩;rw[Am] at hb;subst hb;exact λhe=>Z (he▸ha)
  .have:=h.hd
   rw[Db (Bi.1 this).1];exact this
  .simp only;rw[DL (kZ ai)];exact h.pp
  .simp only at hz⊢;rw[BO,Am];by_cases ac:v=w
   .subst ac;rw[Bo Q] at hz;obtain rfl:=AJ hz;exact⟨λ_=> .inr rfl,λ_=>aj.1⟩
   .rw[DL ac] at hz;rw[h.mem w z hz];constructor
    .exact .inl
    .rintro (h1|h1)
     .exact h1
     .omega
  .simp only at O⊢;by_cases ah:i<s.2.length
   .rw[Db ah] at O;obtain⟨j,z,h1,h2,h3,h4⟩:=h.prev i w O hi;refine⟨j,z,h1,by rw[Db auOm];exact h2,?_,h4⟩;have ak:=h.q w (Bj O);rw[DL]
    .exact h3
    .intro he;exact Z (by rw[show (v:Int)=w by omega];exact Bj O)
   .have ag:i=s.2.length:=by
     have:=(Bi.1 O).1
     simp only[BR,Em,Ed] at this;omega
    subst ag;rw[D8 (BN _),YL,ES] at O;obtain rfl:=AJ O;have aa:=(Bi.1 hu).1;refine⟨k,u,aa,by rw[Db aa];exact hu,?_,af⟩;rw[Cp,Bo Q]
 .exact⟨h,[],auSi⟩
def Qoj(x:Bv)(u:Int)(s:Cz×Cz)(v w:Nat)(y:Int)(h:s.1[w]? =some y)(h0:0<=y):(Ih x u s v).1[w]? =some y:=by
 simp only[Ih];split
 .rename_i z;rw[DL]
  .exact h
  .intro O;subst O
   have:=z.1
   rw[h,BG] at this;omega
 .exact h
def Qvl(x:Bv)(u:Int)(s:Cz×Cz)(w:Nat)(y:Int)(h:s.1[w]? =some y)(h0:0<=y): ∀k,(Dr x u s k).1[w]? =some y
 |0=>h
 |k+1=>Qoj x u _ k w y (Qvl x u s w y h h0 k) h0
def yV{x:Bv}{n:Nat}{p:Int}{s:Cz×Cz}(h:H4 x n p s){u:Int}{i:Nat}(O:s.2[i]? =some u): ∀k,k<=n->H4 x n p (Dr x u s k)/\ ∃r,(Dr x u s k).2=s.2++r
 |0,_=>⟨h,[],by simp[Dr]⟩
 |k+1,hk=>by
  obtain⟨h1,r,Z⟩:=yV h O k auOm;have Q:=(Bi.1 O).1;obtain⟨h2,r',z⟩:=oX h1 (u:=u) (k:=i) (v:=k) (by rw[Z,Db Q];exact O) auOm;exact⟨h2,r++r',by rw[Dr,z,Z,Gk]⟩
def Qz6{x:Bv}{n:Nat}{p:Int}{s:Cz×Cz}(h:H4 x n p s){u:Int}{i:Nat}(O:s.2[i]? =some u): ∀k,k<=n-> ∀v,v<k->Xd x u v=true-> ∃y,(Dr x u s k).1[v]? =some y/\0<=y
 |0,_,v,hv,_=>by omega
 |k+1,hk,v,hv,hf=>by
  by_cases Z:v<k
  .obtain⟨y,h1,h2⟩:=Qz6 h O k auOm v Z hf;exact⟨y,Qoj x u _ k v y h1 h2,h2⟩
  .have:v=k:=auOm
   subst this;have hP:=(yV h O v auOm).1;obtain⟨y,hy⟩: ∃y,(Dr x u s v).1[v]? =some y:=⟨_,Bk (by rw[hP.len];omega)⟩;by_cases z:0<=y
   .exact⟨y,Qoj x u _ v v y hy z,z⟩
   .have Q:=h.q u (Bj O);refine⟨u,?_,Q.1⟩;rw[Dr,Ih,Bt ⟨by rw[hy,BG];omega,hf⟩];exact Bo (by rw[hP.len];omega)
def Sp{x:Bv}{n:Nat}{p:Int}(h0:0<=p)(Z:p<n): ∀k,H4 x n p (D5 x n p k)
 |0=>by
  have hq:p.toNat<(List.replicate n (-1:Int)).length:=by rw[Ri];omega
  refine⟨by simp[D5],λv z=> ?_,by simp[D5],rfl,Bo hq,λv y O=> ?_,λi v z hi=> ?_⟩
  .simp only[D5,Am] at z;subst z;omega
  .simp only[D5,Am] at O⊢;by_cases Q:p.toNat=v
   .subst Q;rw[Bo hq] at O;obtain rfl:=AJ O;omega
   .rw[DL Q] at O
    have:=JA (Bj O)
    omega
  .simp only[D5] at z;cases i with
   |zero=>omega
   |succ i=>simp at z
 |k+1=>by
  have ih:=Sp (x:=x) h0 Z k;simp only[D5];split
  .exact ih
  .rename_i u hu;exact (yV ih hu n (BN _)).1
def sR(x:Bv)(n:Nat)(p:Int)(w:Nat)(y:Int)(h0:0<=y)(k:Nat)(h:(D5 x n p k).1[w]? =some y): ∀m,(D5 x n p (k+m)).1[w]? =some y
 |0=>h
 |m+1=>by
  have ih:=sR x n p w y h0 k h m;rw[show k+(m+1)=k+m+1 by omega,D5];split
  .exact ih
  .exact Qvl x _ _ w y ih h0 n
def WC(x:Bv){n:Nat}{p:Int}(h0:0<=p)(z:p<n)(k:Nat): ∃r,(D5 x n p (k+1)).2=(D5 x n p k).2++r:=by
 rw[D5];split
 .exact⟨[],auSi⟩
 .rename_i u O;exact (yV (Sp (x:=x) h0 z k) O n (BN _)).2
def Ov(x:Bv)(n:Nat)(p:Int): ∀(m k:Nat),(D5 x n p k).2.length<=k->D5 x n p (k+m)=D5 x n p k
 |0,k,_=>rfl
 |m+1,k,h=>by
  have z:D5 x n p (k+1)=D5 x n p k:=by
   rw[D5,Gv h]
  have O:=Ov x n p m (k+1) (by rw[z];omega);rw[show k+(m+1)=k+1+m by omega,O,z]
def Qzh(x:Bv){n:Nat}{p:Int}(h0:0<=p)(O:p<n): ∀(k:Nat) (j:Nat) (u:Int),j<k->(D5 x n p k).2[j]? =some u-> ∀v,v<n->Xd x u v=true-> ∃y,(D5 x n p k).1[v]? =some y/\0<=y
 |0,j,_,hj,_,_,_,_=>by omega
 |k+1,j,u,hj,z,v,hv,hf=>by
  obtain⟨r,hr⟩:=WC x h0 O k;by_cases Z:j<(D5 x n p k).2.length
  .rw[hr,Db Z] at z;by_cases Q:j<k
   .obtain⟨y,g1,g2⟩:=Qzh x h0 O k j u Q z v hv hf;exact⟨y,sR x n p v y g2 k g1 1,g2⟩
   .have:j=k:=auOm
    subst this;obtain⟨y,g1,g2⟩:=Qz6 (Sp (x:=x) h0 O j) z n (BN _) v hv hf;exact⟨y,by rw[D5,z];exact g1,g2⟩
  .have e:D5 x n p (k+1)=D5 x n p k:=by
    rw[D5,Gv auOm]
   rw[e] at z
   have:=(Bi.1 z).1
   omega
def BM(x:Bv)(n:Nat)(p:Int):Cz×Cz:=D5 x n p n
def Qww(x:Bv){n:Nat}{p:Int}(h0:0<=p)(O:p<n){u v:Nat}{y:Int}(hu:(BM x n p).1[u]? =some y)(hy:0<=y)(hv:v<n)(hf:Xd x u v=true): ∃z,(BM x n p).1[v]? =some z/\0<=z:=by
 have Q:=Sp (x:=x) h0 O n;have hm:=(Q.mem u y hu).1 hy;obtain⟨j,Z⟩:=JB.1 hm;have hl:=Qr3 Q;have aa:=(Bi.1 Z).1;exact Qzh x h0 O n j u auOm Z v hv hf
def Ek(z:Cz)(q:Int):Nat->Int
 |0=>q
 |k+1=>z[(Ek z q k).toNat]?.getD 0
def yJ(z:Cz)(p q:Int)(n:Nat):Nat:=((List.range (n+1)).find? λk=>decide (Ek z q k=p)).getD 0
def Jc(z:Cz)(q:Int)(k:Nat):Cz:=(List.range (k+1)).map (Ek z q)
def CS(x:Bv)(n:Nat)(p q:Int):Cz:=
 if (BM x n p).1[q.toNat]?.getD 0<0 then [] else (Jc (BM x n p).1 q (yJ (BM x n p).1 p q n)).reverse
def xF{x:Bv}{n:Nat}{p:Int}{s:Cz×Cz}(h:H4 x n p s){q:Int}{i:Nat}(hq:s.2[i]? =some q): ∀k,(∀j,j<k->Ek s.1 q j≠p)-> ∃j,j+k<=i/\s.2[j]? =some (Ek s.1 q k)
 |0,_=>⟨i,auOm,hq⟩
 |k+1,z=>by
  obtain⟨j,h1,O⟩:=xF h hq k (λj hj=>z j auOm);have Q:0<j:=by
   rcases rL j with h0|h0
   .subst h0;rw[h.hd] at O;exact absurd (AJ O).symm (z k auOm)
   .exact h0
  obtain⟨j',u,g1,g2,Z,g4⟩:=h.prev j _ O Q;exact⟨j',auOm,by rw[Ek,Z,BG];exact g2⟩
def Pt{x:Bv}{n:Nat}{p:Int}{s:Cz×Cz}(h:H4 x n p s){q:Int}{i:Nat}(hq:s.2[i]? =some q){k:Nat}(z: ∀j,j<k+1->Ek s.1 q j≠p):Xd x (Ek s.1 q (k+1)) (Ek s.1 q k)=true/\ ∃y,s.1[(Ek s.1 q k).toNat]? =some y/\Ek s.1 q (k+1)=y:=by
 obtain⟨j,h1,O⟩:=xF h hq k (λj hj=>z j auOm);have Q:0<j:=by
  rcases rL j with h0|h0
  .subst h0;rw[h.hd] at O;exact absurd (AJ O).symm (z k auOm)
  .exact h0
 obtain⟨j',u,g1,g2,Z,g4⟩:=h.prev j _ O Q;have e:Ek s.1 q (k+1)=u:=by rw[Ek,Z,BG]
 exact⟨by rw[e];exact g4,u,Z,e⟩
def Qq3{x:Bv}{n:Nat}{p:Int}{s:Cz×Cz}(h:H4 x n p s){q:Int}{i:Nat}(hq:s.2[i]? =some q): ∃d,d<=i/\Ek s.1 q d=p/\ ∀j,j<d->Ek s.1 q j≠p:=by
 have Z: ∀m,(∃d,d<=m/\Ek s.1 q d=p/\ ∀j,j<d->Ek s.1 q j≠p)\/ ∀j,j<=m->Ek s.1 q j≠p:=by
  intro m;induction m with
  |zero=>
   by_cases h0:Ek s.1 q 0=p
   .exact .inl ⟨0,BN _,h0,λj O=>auOm⟩
   .exact .inr λj O=>by rw[show j=0 by omega];exact h0
  |succ m ih=>
   rcases ih with ⟨d,z,h2,h3⟩|ih
   .exact .inl ⟨d,auOm,h2,h3⟩
   .by_cases h0:Ek s.1 q (m+1)=p
    .exact .inl ⟨m+1,BN _,h0,λj O=>ih j auOm⟩
    .refine .inr λj O=> ?_
     by_cases Q:j<=m
     .exact ih j Q
     .rw[show j=m+1 by omega];exact h0
 rcases Z i with z|z
 .exact z
 .obtain⟨j,g1,g2⟩:=xF h hq (i+1) (λj O=>z j auOm);omega
def Qqr{z:Cz}{p q:Int}{n d:Nat}(hd:d<=n)(O:Ek z q d=p)(Q: ∀j,j<d->Ek z q j≠p):yJ z p q n=d:=by
 have: ∀(m s:Nat),s<=d->d<s+m->((List.range' s m).find? λk=>decide (Ek z q k=p))=some d:=by
  intro m;induction m with
  |zero=>intro s Z h4;omega
  |succ m ih=>
   intro s Z h4;rw[List.range'_succ,Zec];by_cases hs:s=d
   .subst hs;simp[O]
   .rw[show decide (Ek z q s=p)=false from Jh (Q s auOm)];exact ih (s+1) auOm auOm
 rw[yJ,ZdZ,this _ 0 auOm auOm,BG]
def AQ(f:Nat->Int):Nat->Int
 |0=>0
 |n+1=>AQ f n+f n
def GC{f g:Nat->Int}: ∀{n:Nat},(∀i,i<n->f i=g i)->AQ f n=AQ g n
 |0,_=>rfl
 |n+1,h=>by simp only[AQ];rw[GC (λi z=>h i auOm),h n auOm]
def RX(f g:Nat->Int): ∀n,AQ (λi=>f i+g i) n=AQ f n+AQ g n
 |0=>rfl
 |n+1=>by simp only[AQ];rw[RX f g n];omega
def xB(f:Nat->Int): ∀n,AQ (λi=> - f i) n= - AQ f n
 |0=>rfl
 |n+1=>by simp only[AQ];rw[xB f n];omega
def RU: ∀n,AQ (λ_=>0) n=0
 |0=>rfl
 |n+1=>by simp only[AQ];rw[RU n];rfl
def Qxf{f g:Nat->Int}: ∀{n:Nat},(∀i,i<n->f i<=g i)->AQ f n<=AQ g n
 |0,_=>kV _
 |n+1,h=>by
  have z:=Qxf (f:=f) (g:=g) (n:=n) (λi Q=>h i auOm);have O:=h n auOm;simp only[AQ];omega
def Qt3(f:Nat->Nat->Int)(m:Nat): ∀n,AQ (λi=>AQ (λj=>f i j) m) n=AQ (λj=>AQ (λi=>f i j) n) m
 |0=>by simp only[AQ];exact (RU m).symm
 |n+1=>by simp only[AQ];rw[Qt3 f m n,<-RX]
def Yn(k:Nat)(c:Int): ∀n,AQ (λi=>if i=k then c else 0) n=if k<n then c else 0
 |0=>rfl
 |n+1=>by
  simp only[AQ];rw[Yn k c n];by_cases z:n=k
  .subst z;rw[Be auOm,Bt rfl,Bt auOm];omega
  .rw[Be z];by_cases O:k<n
   .rw[Bt O,Bt auOm];omega
   .rw[Be O,Be auOm];omega
def QH(a:Nat->Nat->Int)(n:Nat)(h: ∀u w,u<n->w<n->a u w= - a w u):AQ (λu=>AQ (λw=>a u w) n) n=0:=by
 have Q:AQ (λu=>AQ (λw=>a u w) n) n= - AQ (λu=>AQ (λw=>a u w) n) n:=by
  rw[<-xB]
  conv=>lhs;rw[Qt3]
  refine GC λu z=> ?_
  rw[<-xB];exact GC λw O=>h w u O z
 omega
structure Sf(rm fl:Nat->Nat->Int)(n p q:Nat)(v:Int):Prop where
 anti: ∀u w,u<n->w<n->fl u w= - fl w u
 cap: ∀u w,u<n->w<n->fl u w<=rm u w
 cons: ∀u,u<n->u≠p->u≠q->AQ (fl u) n=0
 val:AQ (fl p) n=v
def Fh(rm:Nat->Nat->Int)(n:Nat)(S:Nat->Bool):Int:=AQ (λu=>AQ (λw=>if S u=true/\S w=false then rm u w else 0) n) n
def sY{rm fl:Nat->Nat->Int}{n p q:Nat}{v:Int}(h:Sf rm fl n p q v)(hp:p<n){S:Nat->Bool}(hS:S p=true)(hT:S q=false):Fh fl n S=v:=by
 have h1:AQ (λu=>AQ (λw=>if S u=true then fl u w else 0) n) n=v:=by
  have:AQ (λu=>AQ (λw=>if S u=true then fl u w else 0) n) n=AQ (λu=>if u=p then v else 0) n:=by
   refine GC λu Q=> ?_
   by_cases z:u=p
   .subst z;rw[Bt rfl,<-h.val];exact GC λw _=>Bt hS
   .rw[Be z];cases hSu:S u with
    |false=>exact (GC λw _=>Be auSi).trans (RU n)
    |true=>
     have Z:u≠q:=λhe=>by rw[he,hT] at hSu;cases hSu
     exact (GC λw _=>Bt rfl).trans (h.cons u Q z Z)
  rw[this,Yn,Bt hp]
 have h2:AQ (λu=>AQ (λw=>if S u=true/\S w=true then fl u w else 0) n) n=0:=by
  refine QH _ n λu w Q hw=> ?_
  by_cases O:S u=true/\S w=true
  .rw[Bt O,Bt ⟨O.2,O.1⟩];exact h.anti u w Q hw
  .rw[Be O,Be (λh=>O ⟨h.2,h.1⟩)];rfl
 have h3:AQ (λu=>AQ (λw=>if S u=true then fl u w else 0) n) n=AQ (λu=>AQ (λw=>if S u=true/\S w=true then fl u w else 0) n) n+Fh fl n S:=by
  rw[Fh,<-RX];refine GC λu _=> ?_
  rw[<-RX];refine GC λw _=> ?_
  cases S u<;>cases S w<;>simp
 omega
def Qw8{rm fl:Nat->Nat->Int}{n p q:Nat}{v:Int}(h:Sf rm fl n p q v)(hp:p<n){S:Nat->Bool}(z:S p=true)(O:S q=false):v<=Fh rm n S:=by
 rw[<-sY h hp z O];refine Qxf λu Q=>Qxf λw Z=> ?_
 split
 .exact h.cap u w Q Z
 .exact kV _
def Qxp{rm fl:Nat->Nat->Int}{n p q:Nat}{v:Int}(h:Sf rm fl n p q v)(hp:p<n){S:Nat->Bool}(hS:S p=true)(hT:S q=false)(z: ∀u w,u<n->w<n->S u=true->S w=false->rm u w<=fl u w):v=Fh rm n S:=by
 rw[<-sY h hp hS hT];refine GC λu Q=>GC λw Z=> ?_
 split
 .rename_i O;have h1:=h.cap u w Q Z;have h2:=z u w Q Z O.1 O.2;omega
 .rfl
def Ip(L:Nat->Nat)(a b j:Nat):Int:=if L j=a/\L (j+1)=b then 1 else 0
def wD(L:Nat->Nat)(a b:Nat): ∀i,0<=AQ (Ip L a b) i
 |0=>kV _
 |i+1=>by
  have:=wD L a b i
  simp only[AQ,Ip]
  split<;>omega
def Qr1{L:Nat->Nat}{m:Nat}(z: ∀i j,i<=m->j<=m->L i=L j->i=j)(a b:Nat): ∀i,i<=m->AQ (Ip L a b) i<=1/\(0<AQ (Ip L a b) i-> ∃j,j<i/\L j=a/\L (j+1)=b)
 |0,_=>⟨by simp[AQ],λh=>by simp[AQ] at h⟩
 |i+1,hi=>by
  obtain⟨h1,h2⟩:=Qr1 z a b i auOm;have h0:=wD L a b i;simp only[AQ];by_cases Q:L i=a/\L (i+1)=b
  .have hz: ¬0<AQ (Ip L a b) i:=by
    intro O;obtain⟨j,hj,Z,_⟩:=h2 O
    have:=z j i auOm auOm (Z.trans Q.1.symm)
    omega
   simp only[Ip] at hz h0⊢;rw[Bt Q];exact⟨auOm,λ_=>⟨i,auOm,Q⟩⟩
  .have e:Ip L a b i=0:=Be Q;rw[e];refine⟨auOm,λO=> ?_⟩;obtain⟨j,hj,Z⟩:=h2 auOm;exact⟨j,auOm,Z⟩
def tD{L:Nat->Nat}{n m:Nat}(z: ∀i,i<=m->L i<n)(a:Nat): ∀i,i<=m->AQ (λb=>AQ (Ip L a b) i - AQ (Ip L b a) i) n=(if L 0=a then 1 else 0) - (if L i=a then 1 else 0)
 |0,_=>by simp only[AQ,Int.sub_self];exact RU n
 |i+1,hi=>by
  have ih:=tD z a i auOm;have e:AQ (λb=>AQ (Ip L a b) (i+1) - AQ (Ip L b a) (i+1)) n=AQ (λb=>AQ (Ip L a b) i - AQ (Ip L b a) i) n+(AQ (λb=>if b=L (i+1) then (if L i=a then 1 else 0) else 0) n+ - AQ (λb=>if b=L i then (if L (i+1)=a then 1 else 0) else 0) n):=by
   rw[<-xB,<-RX,<-RX];refine GC λb _=> ?_
   simp only[AQ,Ip];by_cases c1:L i=a<;>by_cases O:L (i+1)=a<;>by_cases Q:b=L i<;>by_cases Z:b=L (i+1)<;>simp[c1,O,Q,Z,eq_comm]<;>omega
  rw[e,ih,Yn,Yn,Bt (z _ hi),Bt (z _ auOm)];omega
def PD{rm fl Z:Nat->Nat->Int}{n p q:Nat}{v:Int}(h:Sf rm fl n p q v){L:Nat->Nat}{m:Nat}(ab: ∀i j,i<=m->j<=m->L i=L j->i=j)(hr: ∀i,i<=m->L i<n)
 (h0:L 0=p)(hm:L m=q)(ad:p≠q)(hp:p<n)(aa: ∀i,i<m->fl (L i) (L (i+1))<rm (L i) (L (i+1)))
 (z: ∀a b,a<n->b<n->Z a b=fl a b+(AQ (Ip L a b) m - AQ (Ip L b a) m)):Sf rm Z n p q (v+1):=by
 have Q: ∀a,a<n->AQ (Z a) n=AQ (fl a) n+((if L 0=a then 1 else 0) - (if L m=a then 1 else 0)):=by
  intro a ha;rw[<-tD hr a m (BN _),<-RX];exact GC λb hb=>z a b ha hb
 refine⟨λu w O hw=> ?_,λu w O hw=> ?_,λu O h1 h2=> ?_,?_⟩
 .rw[z u w O hw,z w u hw O]
  have:=h.anti u w O hw
  omega
 .rw[z u w O hw];obtain⟨e1,e2⟩:=Qr1 ab u w m (BN _);have e3:=wD L w u m;have e4:=h.cap u w O hw;by_cases ac:0<AQ (Ip L u w) m
  .obtain⟨j,hj,g1,g2⟩:=e2 ac
   have:=aa j hj
   rw[g1,g2] at this;omega
  .omega
 .rw[Q u O,h.cons u O h1 h2,h0,hm,Be (kZ h1),Be (kZ h2)];rfl
 .rw[Q p hp,h.val,h0,hm,Bt rfl,Be (kZ ad)];omega
def Mp(l:List (Cz))(u v:Int)(d:Int):List (Cz):=l.set u.toNat ((l[u.toNat]?.getD []).set v.toNat ((l[u.toNat]?.getD [])[v.toNat]?.getD 0+d))
def HN(l:List (Cz))(a b:Nat):Int:=(l[a]?.getD [])[b]?.getD 0
def cZ(l:List (Cz))(u v d:Int):(Mp l u v d).length=l.length:=by simp[Mp]
def cW{l:List (Cz)}{n:Nat}(h: ∀r∈l,r.length=n)(u v d:Int)(O:u.toNat<l.length): ∀r∈Mp l u v d,r.length=n:=by
 intro r z;rcases GR z with z|z
 .exact h r z
 .subst z;rw[EU,Bk O,BG];exact h _ (Rm O)
def iZ{l:List (Cz)}{n:Nat}(Z:l.length=n)(h: ∀r∈l,r.length=n){u v:Nat}(d:Int)(hu:u<n)(hv:v<n)(a b:Nat):HN (Mp l u v d) a b=HN l a b+if a=u/\b=v then d else 0:=by
 simp only[HN,Mp,Cp];by_cases z:u=a
 .subst z;rw[Bo auOm,BG];have Q:(l[u]?.getD []).length=n:=by
   rw[Bk auOm,BG];exact h _ (Rm auOm)
  by_cases O:v=b
  .subst O;rw[Bo auOm,BG,Bt ⟨rfl,rfl⟩]
  .rw[DL O,Be (λh=>O h.2.symm)];omega
 .rw[DL z,Be (λh=>z h.1.symm)];omega
def O7(x:Bv)(u v:Int):Bv:=⟨x.Room,Mp (Mp x.Flow u v 1) v u (-1)⟩
def Iq(x:Bv)(L:Cz):Nat->Bv
 |0=>x
 |i+1=>O7 (Iq x L i) (L[i]?.getD 0) (L[i+1]?.getD 0)
def Ql3(x:Bv)(L:Cz): ∀i,(Iq x L i).Room=x.Room
 |0=>rfl
 |i+1=>Ql3 x L i
def PC(x:Bv)(u v:Int):Qzr x u v=HN x.Flow u.toNat v.toNat:=rfl
def Qm(x:Bv)(u v:Int):Qyw x u v=HN x.Room u.toNat v.toNat:=rfl
def Vf{x:Bv}{n:Nat}(h:Lr x n){u v:Int}(z:u.toNat<n)(O:v.toNat<n):Lr (O7 x u v) n:=by
 refine⟨h.r,by simp only[O7,cZ];exact h.f,h.rr,?_⟩;exact cW (cW h.ff u v 1 (by rw[h.f];exact z)) v u (-1) (by rw[cZ,h.f];exact O)
def Qm6{x:Bv}{n:Nat}(h:Lr x n){L:Cz}(z: ∀y∈L,0<=y/\y<n): ∀i,i<L.length->Lr (Iq x L i) n
 |0,_=>h
 |i+1,O=>by
  have ih:=Qm6 h z i auOm;refine Vf ih ?_ ?_
  .rw[Bk auOm,BG]
   have:=z _ (Rm (show i<L.length by omega))
   omega
  .rw[Bk O,BG]
   have:=z _ (Rm O)
   omega
def Lf(L:Cz)(i:Nat):Nat:=(L[i]?.getD 0).toNat
def Qso{x:Bv}{n:Nat}(h:Lr x n){L:Cz}(O: ∀y∈L,0<=y/\y<n)(a b:Nat): ∀i,i<L.length->HN (Iq x L i).Flow a b=HN x.Flow a b+(AQ (Ip (Lf L) a b) i - AQ (Ip (Lf L) b a) i)
 |0,_=>by simp[Iq,AQ]
 |i+1,hi=>by
  have ih:=Qso h O a b i auOm;have z:=Qm6 h O i auOm;obtain⟨u,hu⟩: ∃u,L[i]? =some u:=⟨_,Bk auOm⟩;obtain⟨v,hv⟩: ∃v,L[i+1]? =some v:=⟨_,Bk hi⟩;have aa:=O u (Bj hu);have ab:=O v (Bj hv);obtain⟨u',rfl⟩: ∃u':Nat,u=u':=⟨u.toNat,auOm⟩;obtain⟨v',rfl⟩: ∃v':Nat,v=v':=⟨v.toNat,auOm⟩;simp only[Iq,O7,hu,hv,BG];rw[iZ (n:=n) (by rw[cZ];exact z.f) (cW z.ff _ _ _ (by rw[z.f];simp;omega)) _ auOm auOm,
   iZ z.f z.ff _ auOm auOm,ih]
  have e1:Lf L i=u':=by simp[Lf,hu]
  have e2:Lf L (i+1)=v':=by simp[Lf,hv]
  simp only[AQ,Ip,e1,e2];by_cases c1:a=u'<;>by_cases Q:b=v'<;>by_cases Z:a=v'<;>by_cases c4:b=u'<;>simp[c1,Q,Z,c4,eq_comm]<;>omega
structure Ub(x:Bv)(n:Nat)(p q:Int)(L:Cz):Prop where
 pos:0<L.length
 inb: ∀y∈L,0<=y/\y<n
 hd:L[0]? =some p
 lst:L[L.length - 1]? =some q
 nd: ∀i j,i<L.length->j<L.length->Lf L i=Lf L j->i=j
 free: ∀i,i+1<L.length->Xd x (L[i]?.getD 0) (L[i+1]?.getD 0)=true
def WD{x:Bv}{n:Nat}{p q:Int}(an:0<=p)(ao:p<n)(a8:0<=q)(a9:q<n)(am:CS x n p q≠[]):Ub x n p q (CS x n p q):=by
 have hP:H4 x n p (BM x n p):=Sp an ao n;have ax:=hP.len;obtain⟨y,hy⟩: ∃y,(BM x n p).1[q.toNat]? =some y:=⟨_,Bk auOm⟩;have av: ¬y<0:=by
  intro h;apply am;simp only[CS,hy,BG];rw[Bt h]
 have aq:q∈(BM x n p).2:=by
  have:=(hP.mem q.toNat y hy).1 auOm
  rwa [show (q.toNat:Int)=q by omega] at this
 obtain⟨i,hi⟩:=JB.1 aq;obtain⟨d,ay,ah,ab⟩:=Qq3 hP hi;have az:=(Bi.1 hi).1;have a0:=Qr3 hP;have au:yJ (BM x n p).1 p q n=d:=Qqr auOm ah ab;have hW:CS x n p q=(Jc (BM x n p).1 q d).reverse:=by
  simp only[CS,hy,BG];rw[Be av,au]
 rw[hW];have Q:(Jc (BM x n p).1 q d).length=d+1:=by simp[Jc]
 have hget: ∀k,k<=d->(Jc (BM x n p).1 q d).reverse[k]? =some (Ek (BM x n p).1 q (d - k)):=by
  intro k O;rw[ZeJ (by rw[Q];omega),Q,show d+1 - 1 - k=d - k by omega,Jc,Dp,ER auOm];rfl
 have ac: ∀k,k<=d-> ∃j,j+k<=i/\(BM x n p).2[j]? =some (Ek (BM x n p).1 q k):=λk O=>xF hP hi k (λj hj=>ab j auOm)
 have Z: ∀k,k<=d->0<=Ek (BM x n p).1 q k/\Ek (BM x n p).1 q k<n:=by
  intro k O;obtain⟨j,_,h2⟩:=ac k O;exact hP.q _ (Bj h2)
 have af: ∀k,k<=d-> ∀e,e<=k-> ∀j j',(BM x n p).2[j]? =some (Ek (BM x n p).1 q k)->(BM x n p).2[j']? =some (Ek (BM x n p).1 q e)->j+(k - e)<=j':=by
  intro k O e he j j' hj aj;have aw: ∀m,e+m<=d-> ∃j2,j2+m<=j'/\(BM x n p).2[j2]? =some (Ek (BM x n p).1 q (e+m)):=by
   intro m;induction m with
   |zero=>intro _;exact⟨j',auOm,aj⟩
   |succ m ih=>
    intro hm;obtain⟨j2,g1,g2⟩:=ih auOm;have h0:0<j2:=by
     rcases rL j2 with h0|h0
     .subst h0;rw[hP.hd] at g2;exact absurd (AJ g2).symm (ab _ auOm)
     .exact h0
    obtain⟨j3,u,q1,q2,q3,q4⟩:=hP.prev j2 _ g2 h0;refine⟨j3,auOm,?_⟩;rw[show e+(m+1)=e+m+1 by omega,Ek,q3,BG];exact q2
  obtain⟨j2,g1,g2⟩:=aw (k - e) auOm;rw[show e+(k - e)=k by omega] at g2
  have:=(List.getElem?_inj (Bi.1 hj).1 hP.nd).1 (hj.trans g2.symm)
  omega
 have ad: ∀k e,k<=d->e<k->Ek (BM x n p).1 q k≠Ek (BM x n p).1 q e:=by
  intro k e O he ai;obtain⟨j,_,h2⟩:=ac k O
  have:=af k O e auOm j j h2 (ai▸h2)
  omega
 have aa: ∀k,k<=d->(Jc (BM x n p).1 q d).reverse[k]?.getD 0=Ek (BM x n p).1 q (d - k):=λk O=>by rw[hget k O,BG]
 refine⟨by rw[zP,Q];omega,λz hz=> ?_,?_,?_,λk e O he hL=> ?_,λk O=> ?_⟩
 .obtain⟨k,O⟩:=JB.1 hz;have ak:=(Bi.1 O).1;rw[zP,Q] at ak;rw[hget k auOm] at O;obtain rfl:=AJ O;exact Z _ auOm
 .rw[hget 0 auOm,YE,ah]
 .rw[zP,Q,hget (d+1 - 1) auOm,show d - (d+1 - 1)=0 by omega];rfl
 .rw[zP,Q] at O he;simp only[Lf] at hL;rw[aa k auOm,aa e auOm] at hL;have b1:=Z (d - k) auOm;have b2:=Z (d - e) auOm;have ag:Ek (BM x n p).1 q (d - k)=Ek (BM x n p).1 q (d - e):=auOm;rcases lH (d - k) (d - e) with h|h|h
  .exact absurd ag.symm (ad _ _ auOm h)
  .omega
  .exact absurd ag (ad _ _ auOm h)
 .rw[zP,Q] at O;rw[aa k auOm,aa (k+1) auOm,show d - k=d - (k+1)+1 by omega];exact (Pt hP hi (λj hj=>ab j auOm)).1
def Hf(n:Nat)(p q:Int):Nat->Bv->Int
 |0,_=>0
 |m+1,x=>if CS x n p q=[] then 0 else Hf n p q m (Iq x (CS x n p q) ((CS x n p q).length - 1))+1
def EG(x:Bv)(a b:Nat):Int:=HN x.Room a b
def KB(x:Bv)(a b:Nat):Int:=HN x.Flow a b
def Qun{x:Bv}{n:Nat}(h:Lr x n){p q:Int}(aa:0<=p)(ab:p<n)(ac:p≠q)(ad:0<=q){v:Int}(hf:Sf (EG x) (KB x) n p.toNat q.toNat v){L:Cz}(z:Ub x n p q L):
 Lr (Iq x L (L.length - 1)) n/\Sf (EG x) (KB (Iq x L (L.length - 1))) n p.toNat q.toNat (v+1):=by
 have Z:=z.pos;have Q: ∀i,i<L.length->(L[i]?.getD 0).toNat=Lf L i/\Lf L i<n:=by
  intro i O;refine⟨rfl,?_⟩;simp only[Lf];rw[Bk O,BG]
  have:=z.inb _ (Rm O)
  omega
 refine⟨Qm6 h z.inb _ auOm,PD (m:=L.length - 1) (L:=Lf L) hf (λi j O hj=>z.nd i j auOm auOm) (λi O=>(Q i auOm).2) ?_ ?_ auOm auOm (λi O=> ?_) (λa b _ _=>Qso h z.inb a b _ auOm)⟩
 .simp only[Lf,z.hd,BG]
 .simp only[Lf,z.lst,BG]
 .exact of_decide_eq_true (z.free i auOm)
def sV{n:Nat}{p q:Int}(O:0<=p)(Q:p<n)(ad:p≠q)(ab:0<=q)(af:q<n): ∀(m:Nat) (x:Bv) (v:Int),Lr x n->Sf (EG x) (KB x) n p.toNat q.toNat v->
 (Hf n p q m x=m/\ ∀S:Nat->Bool,S p.toNat=true->S q.toNat=false->v+m<=Fh (EG x) n S)\/(Hf n p q m x<m/\ ∃S:Nat->Bool,S p.toNat=true/\S q.toNat=false/\Fh (EG x) n S=v+Hf n p q m x)
 |0,x,v,h,hf=> .inl ⟨rfl,λS h1 h2=>by have:=Qw8 hf auOm h1 h2;simpa using this⟩
 |m+1,x,v,h,hf=>by
  by_cases Z:CS x n p q=[]
  .refine .inr ?_;have e:Hf n p q (m+1) x=0:=by simp only[Hf];rw[Bt Z]
   rw[e];refine⟨auOm,λu=>decide (0<=(BM x n p).1[u]?.getD (-1)),?_,?_,?_⟩
   .have:=(Sp (x:=x) O Q n).pp
    simp only[BM,this,BG,CK];exact O
   .have aa:=(Sp (x:=x) O Q n).len;obtain⟨y,hy⟩: ∃y,(BM x n p).1[q.toNat]? =some y:=⟨_,Bk (by simp only[BM];omega)⟩;simp only[hy,BG,GU];intro h0;simp only[CS,hy,BG] at Z;rw[Be auOm] at Z;simp[Jc] at Z
   .have:=Qxp (S:=λu=>decide (0<=(BM x n p).1[u]?.getD (-1))) hf auOm ?_ ?_ ?_
    .omega
    .have:=(Sp (x:=x) O Q n).pp
     simp only[BM,this,BG,CK];exact O
    .have aa:=(Sp (x:=x) O Q n).len;obtain⟨y,hy⟩: ∃y,(BM x n p).1[q.toNat]? =some y:=⟨_,Bk (by simp only[BM];omega)⟩;simp only[hy,BG,GU];intro h0;simp only[CS,hy,BG] at Z;rw[Be auOm] at Z;simp[Jc] at Z
    .intro u w hu ah h1 h2;simp only[CK,GU] at h1 h2;have aa:=(Sp (x:=x) O Q n).len;obtain⟨y,hy⟩: ∃y,(BM x n p).1[u]? =some y:=⟨_,Bk (by simp only[BM];omega)⟩;rw[hy,BG] at h1;by_cases ac:Xd x u w=true
     .obtain⟨z,g1,g2⟩:=Qww x O Q hy h1 ah ac;rw[g1,BG] at h2;omega
     .have h3: ¬(Qzr x u w<Qyw x u w):=λh=>ac (My h)
      rw[PC,Qm,Cp,Cp] at h3;simp only[EG,KB];omega
  .have hW:=WD O Q ab af Z;obtain⟨g1,g2⟩:=Qun h O Q ad ab hf hW;have ag:EG (Iq x (CS x n p q) ((CS x n p q).length - 1))=EG x:=by funext a b;simp only[EG,Ql3]
   rw[<-ag] at g2;have ih:=sV O Q ad ab af m _ _ g1 g2;rw[ag] at ih;have e:Hf n p q (m+1) x=Hf n p q m (Iq x (CS x n p q) ((CS x n p q).length - 1))+1:=by simp only[Hf];rw[Be Z]
   rw[e];rcases ih with ⟨h1,h2⟩|⟨h1,S,h2,h3,h4⟩
   .exact .inl ⟨auOm,λS hS hT=>by have:=h2 S hS hT;omega⟩
   .exact .inr ⟨auOm,S,h2,h3,auOm⟩
def LN(n:Nat):Bv:=⟨List.replicate n (List.replicate n 0),List.replicate n (List.replicate n 0)⟩
def L5(x:Bv)(b:Ak):Bv:=⟨Mp (Mp x.Room b.A b.B b.Strength) b.B b.A b.Strength,x.Flow⟩
def C4(n:Nat)(bs:List Ak):Nat->Bv
 |0=>LN n
 |k+1=>match bs[k]? with
  |some b=>L5 (C4 n bs k) b
  |none=>C4 n bs k
def Ep(n:Nat)(bs:List Ak):Bv:=C4 n bs bs.length
def Yt{n:Nat}{bs:List Ak}(Z:Mm n bs): ∀k,Lr (C4 n bs k) n/\(C4 n bs k).Flow=List.replicate n (List.replicate n 0)
 |0=>⟨⟨by simp[C4,LN],by simp[C4,LN],λl Q=>by rw[JA Q];simp,λl Q=>by rw[JA Q];simp⟩,rfl⟩
 |k+1=>by
  obtain⟨ih,z⟩:=Yt Z k;simp only[C4];split
  .rename_i b O;obtain⟨b1,b2,b3,b4⟩:=Z b (Bj O);refine⟨⟨by simp only[L5,cZ];exact ih.r,ih.f,?_,ih.ff⟩,z⟩;exact cW (cW ih.rr _ _ _ (by rw[ih.r];omega)) _ _ _ (by rw[cZ,ih.r];omega)
  .exact⟨ih,z⟩
def Dq(S:Nat->Bool):List Ak->Int
 |[]=>0
 |b::r=>(if S b.A.toNat=S b.B.toNat then 0 else b.Strength)+Dq S r
def tP(S:Nat->Bool): ∀(a b:List Ak),Dq S (a++b)=Dq S a+Dq S b
 |[],b=>by simp[Dq]
 |x::r,b=>by simp only[BZ,Dq,tP S r b];omega
def bW(n u v:Nat)(hu:u<n)(hv:v<n)(c:Int)(g:Nat->Nat->Bool):AQ (λa=>AQ (λb=>if g a b=true then (if a=u/\b=v then c else 0) else 0) n) n=if g u v=true then c else 0:=by
 have Q:AQ (λa=>AQ (λb=>if g a b=true then (if a=u/\b=v then c else 0) else 0) n) n=AQ (λa=>if a=u then (if g u v=true then c else 0) else 0) n:=by
  refine GC λa _=> ?_
  by_cases z:a=u
  .subst z;rw[Bt rfl];have Z:AQ (λb=>if g a b=true then (if a=a/\b=v then c else 0) else 0) n=AQ (λb=>if b=v then (if g a v=true then c else 0) else 0) n:=by
    refine GC λb _=> ?_
    by_cases O:b=v
    .subst O;simp
    .simp[O]
   rw[Z,Yn,Bt hv]
  .rw[Be z];refine (GC λb _=> ?_).trans (RU n);simp[z]
 rw[Q,Yn,Bt hu]
def Qnz{l:List (Cz)}{n:Nat}(hl:l.length=n)(h: ∀r∈l,r.length=n){u v:Nat}(d:Int)(O:u<n)(Q:v<n)(S:Nat->Bool):
 Fh (λa b=>HN (Mp l u v d) a b) n S=Fh (λa b=>HN l a b) n S+if S u=true/\S v=false then d else 0:=by
 have z:AQ (λa=>AQ (λb=>if (S a && !S b)=true then (if a=u/\b=v then d else 0) else 0) n) n=if (S u && !S v)=true then d else 0:=bW n u v O Q d (λa b=>S a && !S b)
 have Z:(if (S u && !S v)=true then d else 0)=if S u=true/\S v=false then d else 0:=by
  cases S u<;>cases S v<;>simp
 rw[Z] at z;rw[<-z,Fh,Fh,<-RX];refine GC λa _=> ?_
 rw[<-RX];refine GC λb _=> ?_
 rw[iZ hl h d O Q a b];cases S a<;>cases S b<;>simp
def MF{n:Nat}{bs:List Ak}(O:Mm n bs)(S:Nat->Bool): ∀k,k<=bs.length->Fh (EG (C4 n bs k)) n S=Dq S (bs.take k)
 |0,_=>by
  simp only[eF,Dq,Fh];refine (GC λu hu=> ?_).trans (RU n);refine (GC λw hw=> ?_).trans (RU n)
  have:EG (C4 n bs 0) u w=0:=by
   simp only[EG,C4,LN,HN];rw[IL,Bt hu,BG,IL,Bt hw,BG]
  rw[this];split<;>rfl
 |k+1,Z=>by
  obtain⟨b,hbk⟩: ∃b,bs[k]? =some b:=⟨_,Bk Z⟩;have ih:=MF O S k auOm;obtain⟨z,_⟩:=Yt O k;obtain⟨b1,b2,b3,b4⟩:=O b (Bj hbk);have e:bs.take (k+1)=bs.take k++[b]:=by rw[FL,hbk];rfl
  rw[e,tP,<-ih];have Q:EG (C4 n bs (k+1))=λx y=>HN (Mp (Mp (C4 n bs k).Room (b.A.toNat:Int) (b.B.toNat:Int) b.Strength) (b.B.toNat:Int) (b.A.toNat:Int) b.Strength) x y:=by
   funext x y;simp only[EG,C4,hbk,L5];rw[show ((b.A.toNat:Nat):Int)=b.A by omega,show ((b.B.toNat:Nat):Int)=b.B by omega]
  rw[Q,Qnz (by rw[cZ];exact z.r) (cW z.rr _ _ _ (by rw[z.r];simp;omega)) _ auOm auOm,Qnz z.r z.rr _ auOm auOm];simp only[Dq]
  have:Fh (λa b=>HN (C4 n bs k).Room a b) n S=Fh (EG (C4 n bs k)) n S:=rfl
  rw[this];cases S b.A.toNat<;>cases S b.B.toNat<;>simp<;>omega
def SZ{n:Nat}{bs:List Ak}(z:Mm n bs)(S:Nat->Bool):Fh (EG (Ep n bs)) n S=Dq S bs:=by
 rw[Ep,MF z S _ (BN _),Pj]
def Qpz{n:Nat}{bs:List Ak}(O:Mm n bs)(hs:Rb bs)(a b:Nat): ∀k,0<=EG (C4 n bs k) a b
 |0=>by
  simp only[EG,C4,LN,HN,IL];split
  .rw[BG,IL];split<;>simp
  .simp
 |k+1=>by
  have ih:=Qpz O hs a b k;obtain⟨z,_⟩:=Yt O k;simp only[EG,C4] at ih⊢;split
  .rename_i x Q;obtain⟨b1,b2,b3,b4⟩:=O x (Bj Q);have h0:=(hs x (Bj Q)).1;simp only[L5];rw[show x.A=(x.A.toNat:Int) by omega,show x.B=(x.B.toNat:Int) by omega];rw[iZ (n:=n) (by rw[cZ];exact z.r) (cW z.rr _ _ _ (by rw[z.r];simp;omega)) _ auOm auOm,iZ z.r z.rr _ auOm auOm]
   split<;>split<;>omega
  .exact ih
def tA{n:Nat}{bs:List Ak}(O:Mm n bs)(hs:Rb bs)(p q:Nat):Sf (EG (Ep n bs)) (KB (Ep n bs)) n p q 0:=by
 have z: ∀a b,KB (Ep n bs) a b=0:=by
  intro a b;simp only[KB,Ep,(Yt O bs.length).2,HN,IL];split
  .rw[BG,IL];split<;>simp
  .simp
 refine⟨λu w _ _=>by rw[z,z];rfl,λu w _ _=> ?_,λu _ _ _=>(GC λi _=>z u i).trans (RU n),(GC λi _=>z p i).trans (RU n)⟩;rw[z];exact Qpz O hs u w bs.length
def Yx(n:Nat)(bs:List Ak)(t:Int)(k:Nat):Prop:= ∀S:Nat->Bool,S 0=true->(∃y,0<y/\y<=k/\y<n/\S y=false)->t<=Dq S bs
def Sk(n:Nat)(bs:List Ak)(t:Int):Nat->Bool
 |0=>true
 |k+1=>Sk n bs t k && decide (t<=Hf n 0 ((k:Int)+1) t.toNat (Ep n bs))
def Qtt{n:Nat}{bs:List Ak}(Q:Mm n bs)(hs:Rb bs){t:Int}(ht:0<=t): ∀k,k<n->(Sk n bs t k=true↔Yx n bs t k)
 |0,_=>by
  simp only[Sk,true_iff];rintro S _ ⟨y,h1,z,_⟩;omega
 |k+1,hk=>by
  have ih:=Qtt Q hs ht k auOm;have hl:=sV (n:=n) (p:=0) (q:=(k:Int)+1) auOm auOm auOm auOm auOm t.toNat (Ep n bs) 0 (Yt Q bs.length).1 (tA Q hs _ _);simp only[Int.toNat_zero,show ((k:Int)+1).toNat=k+1 by omega,Int.zero_add,SZ Q] at hl;simp only[Sk,B1,CK,ih];rcases hl with ⟨h1,z⟩|⟨h1,S,z,h3,h4⟩
  .constructor
   .rintro⟨g1,g2⟩ S O ⟨y,y1,y2,y3,Z⟩;by_cases hy:y<=k
    .exact g1 S O ⟨y,y1,hy,y3,Z⟩
    .have:=z S O (by rw[show k+1=y by omega];exact Z)
     omega
   .intro h;exact⟨λS O ⟨y,y1,y2,y3,Z⟩=>h S O ⟨y,y1,auOm,y3,Z⟩,auOm⟩
  .constructor
   .rintro⟨_,g2⟩;omega
   .intro h
    have:=h S z ⟨k+1,auOm,auOm,hk,h3⟩
    omega
def Qt7{n:Bu}(hn:DZ n)(hc:J5 n){q:Int}{st qu:Cz}(O:st.length=n.Cnt.toNat)(hP:GV n q (st,qu)){p:Int}(Q:0<=p)(Z:p<n.Cnt){d:Nat}(hd:st[p.toNat]? =some (d:Int))(w:Int):
 ∀k,k<=d->DR (Ct n st p k).1 w=DR n w+(if p=w then 1 else 0) - (if (Ct n st p k).2=w then 1 else 0)
 |0,_=>by simp only[Ct];omega
 |k+1,hk=>by
  have ih:=Qt7 hn hc O hP Q Z hd w k auOm;have hI:=pU hn hc O hP Q Z hd k auOm;obtain⟨m,r,hm,hr,hg,aa,af⟩:=Qk0 hn O hP auOm hI;have ad:(Ct n st p k).1.At[m]? =some r:=by rw[hI.at_];exact hr
  have e:(Ct n st p (k+1)).1=Ja (Ct n st p k).1 m (HO (Ct n st p k).1 st m).2:=by simp only[Ct,hm]
  have e2:(Ct n st p (k+1)).2=(HO (Ct n st p k).1 st m).1:=by simp only[Ct,hm]
  rw[e,e2,Qzc hI.ok ad hg.1,hg.2.2.1,ih,hm];have ab:=hg.2.2.2.1;rw[Cp,aa,BG] at ab;have ac:(m:Int)≠(HO (Ct n st p k).1 st m).1:=by
   intro he;rw[<-he,Cp,aa,BG] at ab;omega
  obtain⟨z,hz⟩: ∃z,z=(HO (Ct n st p k).1 st m).1:=⟨_,rfl⟩;rw[<-hz] at ac⊢;by_cases c1:p=w<;>by_cases c2:(m:Int)=w<;>by_cases c3:z=w<;>simp only[c1,c2,c3,Ff,HS]<;>omega
def OC(n:Bu)(p q:Int):Prop:= ∀w,w≠p->w≠q->DR n w=0
def PJ{n:Bu}(hn:DZ n)(hc:J5 n){p q:Int}(O:0<=p)(Q:p<n.Cnt)(Z:0<=q)(aa:q<n.Cnt)(hg:(Gs n p q).2=true)(ab:OC n p q):OC (Gs n p q).1 p q:=by
 have z:=wK hn Z aa;have hP:GV n q (Gr n q,(CW n q n.Cnt.toNat).2):=OE hn Z aa n.Cnt.toNat;obtain⟨x,hx⟩: ∃x,(Gr n q)[p.toNat]? =some x:=⟨_,Bk auOm⟩;intro w h1 h2;simp only[Gs,hx,BG] at hg⊢;by_cases h:x<0
 .rw[Bt h] at hg;simp at hg
 .obtain⟨d,rfl⟩: ∃d:Nat,x=d:=⟨x.toNat,auOm⟩;rw[Be h,Cp];have hI:=pU hn hc z hP O Q hx d (BN _);obtain⟨m,hm,ad,ac⟩:=hI.v;have af:m=q.toNat:=hP.uniq m (by rw[ac];congr 1;omega);have ho:=Qt7 hn hc z hP O Q hx w d (BN _);rw[Be (kZ h1),hm,Be auOm,ab w h1 h2] at ho;simpa using ho
def Que{p q:Int}(z:0<=p)(O:0<=q)(aa:p≠q): ∀(m:Nat) (n:Bu),DZ n->J5 n->p<n.Cnt->q<n.Cnt->OC n p q->DZ (H9 p q m n).1/\J5 (H9 p q m n).1/\(H9 p q m n).1.Cnt=n.Cnt/\(H9 p q m n).1.Bonds=n.Bonds/\
 (H9 p q m n).1.At=n.At/\OC (H9 p q m n).1 p q/\DR (H9 p q m n).1 p=DR n p+(H9 p q m n).2/\0<=(H9 p q m n).2/\((H9 p q m n).2=m\/(Gs (H9 p q m n).1 p q).2=false)
 |0,n,Q,Z,_,_,h5=>⟨Q,Z,rfl,rfl,rfl,h5,by simp[H9],by simp[H9],.inl (by simp[H9])⟩
 |m+1,n,Q,Z,h3,h4,h5=>by
  simp only[H9];by_cases hg:(Gs n p q).2=true
  .rw[Bt hg];obtain⟨g1,g2,g3,g4,g5,g6⟩:=MZ Q Z z h3 O h4 aa hg;have g7:=PJ Q Z z h3 O h4 hg h5;obtain⟨k1,k2,k3,k4,k5,k6,k7,k8,k9⟩:=Que z O aa m _ g1 g2 auOm auOm g7;refine⟨k1,k2,k3.trans g3,k4.trans g4,k5.trans g5,k6,by simp only;omega,by simp only;omega,?_⟩;rcases k9 with h|h
   .exact .inl (by simp only;omega)
   .exact .inr h
  .rw[Be hg];exact⟨Q,Z,rfl,rfl,rfl,h5,auSi,auSi,.inr (by simpa using hg)⟩
def Qu0{n:Int}{bs:List Ak}(h:dH (n,bs))(hs:Rb bs){p q:Int}(z:0<=p)(Z:0<=q)(O:p<n)(aa:q<n)(Q:p≠q):DZ (EP n bs p q).1/\J5 (EP n bs p q).1/\(EP n bs p q).1.Cnt=n/\(EP n bs p q).1.Bonds=bs/\
 (EP n bs p q).1.At=(DA n bs).At/\OC (EP n bs p q).1 p q/\DR (EP n bs p q).1 p=(EP n bs p q).2/\0<=(EP n bs p q).2/\(Gs (EP n bs p q).1 p q).2=false:=by
 obtain⟨h1,h2⟩:=N2 h hs;obtain⟨k1,k2,k3,k4,k5,k6,k7,k8,k9⟩:=Que z Z Q ((bs.map Ak.Strength).sum.toNat+1) (DA n bs) h1 h2 O aa (λw _ _=>Qtg w);rw[Qtg,Int.zero_add] at k7;refine⟨k1,k2,k3,k4,k5,k6,k7,k8,?_⟩;rcases k9 with h9|h9
 .exfalso;have h4:(H9 p q ((bs.map Ak.Strength).sum.toNat+1) (DA n bs)).1.Bonds=bs:=k4
  have:=UW k1 k2 p
  rw[h4] at this;omega
 .exact h9
def tQ{n:Bu}(hn:DZ n){v:Nat}{r:Cz}(hr:n.At[v]? =some r){y:Int}(Z:0<=y): ∀(l:Cz) (s:Cz×Cz),(∀i∈l,i∈r)->Yy n s->s.1[v]? =some y-> ∀i∈l,0<(DV n (Ej n v i) i).1-> ∃z,(l.foldl (BS n v) s).1[(Ej n v i).toNat]? =some z/\0<=z
 |[],s,_,_,_,i,O,_=>by cases O
 |j::l,s,hl,hs,hv,i,O,Q=>by
  have hj:=hl j (CP ..);rcases B0.1 O with rfl|O
  .obtain⟨_,_,o1,o2⟩:=jQ hn hr hj;obtain⟨z,hz⟩: ∃z,s.1[(Ej n v i).toNat]? =some z:=⟨_,Bk (by rw[hs.len];omega)⟩;have aa: ∃z,(BS n v s i).1[(Ej n v i).toNat]? =some z/\0<=z:=by
    by_cases h0:0<=z
    .exact⟨z,wM n v s i _ z hz h0,h0⟩
    .refine⟨y+1,?_,auOm⟩;simp only[BS];rw[Bt ⟨by rw[hz,BG];omega,Q⟩,Cp,hv,BG];exact Bo (by rw[hs.len];omega)
   obtain⟨z',g1,g2⟩:=aa;exact⟨z',Qor n v _ z' g2 l _ g1,g2⟩
  .exact tQ hn hr Z l _ (λj hj=>hl j (Ah _ hj)) (Qtm hn hr hj hs) (wM n v s j v y hv Z) i O Q
def Qzj(n:Bu)(v:Int): ∀(l:Cz) (s:Cz×Cz),∃e,(l.foldl (BS n v) s).2=s.2++e
 |[],s=>⟨[],auSi⟩
 |i::l,s=>by
  obtain⟨e,z⟩:=Qzj n v l (BS n v s i);simp only[Fu,z];simp only[BS];split
  .exact⟨[Ej n v i]++e,auSi⟩
  .exact⟨e,rfl⟩
def YS(n:Bu)(q:Int)(k:Nat): ∃e,(CW n q (k+1)).2=(CW n q k).2++e:=by
 rw[CW];split
 .exact⟨[],auSi⟩
 .exact Qzj n _ _ _
def Pw(n:Bu)(q:Int)(u:Nat)(y:Int)(h0:0<=y)(k:Nat)(h:(CW n q k).1[u]? =some y):(CW n q (k+1)).1[u]? =some y:=by
 rw[CW];split
 .exact h
 .exact Qor n _ u y h0 _ _ h
def Qzn{n:Bu}(hn:DZ n){q:Int}(h0:0<=q)(h1:q<n.Cnt): ∀(k j:Nat) (v:Int),j<k->(CW n q k).2[j]? =some v-> ∀(r:Cz),n.At[v.toNat]? =some r-> ∀i∈r,0<(DV n (Ej n v i) i).1-> ∃z,(CW n q k).1[(Ej n v i).toNat]? =some z/\0<=z
 |0,j,v,hj,_,_,_,_,_,_=>by omega
 |k+1,j,v,hj,O,r,Z,i,hi,Q=>by
  obtain⟨e,he⟩:=YS n q k;by_cases ac:j<(CW n q k).2.length
  .rw[he,Db ac] at O;by_cases ab:j<k
   .obtain⟨z,g1,g2⟩:=Qzn hn h0 h1 k j v ab O r Z i hi Q;exact⟨z,Pw n q _ z g2 k g1,g2⟩
   .have:j=k:=auOm
    subst this;have hI:=Yq hn h0 h1 j;have aa:=OE hn h0 h1 j;have af:=hI.q v (Bj O);obtain⟨m,rfl⟩: ∃m:Nat,v=m:=⟨v.toNat,auOm⟩;obtain⟨y,hy,ad⟩:=aa.qs _ (Bj O);rw[Cp] at hy Z;rw[CW,O];simp only[Cp,Z,BG];exact tQ hn Z ad r _ (λ_ h=>h) hI hy i hi Q
  .have e1:CW n q (k+1)=CW n q k:=by rw[CW,Gv auOm]
   rw[e1] at O
   have:=(Bi.1 O).1
   omega
def SK{n:Bu}(hn:DZ n){q:Int}(h0:0<=q)(h1:q<n.Cnt): ∀(k u:Nat) (y:Int),(CW n q k).1[u]? =some y->0<=y->(u:Int)∈(CW n q k).2
 |0,u,y,z,O=>by
  have hq:q.toNat<n.Cnt.toNat:=auOm;simp only[CW] at z⊢;by_cases h:q.toNat=u
  .rw[Am];omega
  .rw[DL h] at z
   have:=JA (Bj z)
   omega
 |k+1,u,y,z,O=>by
  have ih:=SK hn h0 h1 k;have hI:=Yq hn h0 h1 k;have Q: ∀(v:Int) (l:Cz) (s:Cz×Cz),(∀i∈l,0<=Ej n v i)->(∀(u:Nat) (y:Int),s.1[u]? =some y->0<=y->(u:Int)∈s.2)-> ∀(u:Nat) (y:Int),(l.foldl (BS n v) s).1[u]? =some y->0<=y->(u:Int)∈(l.foldl (BS n v) s).2:=by
   intro v l;induction l with
   |nil=>intro s _ Z;exact Z
   |cons i l aa=>
    intro s hl Z;refine aa _ (λj hj=>hl j (Ah _ hj)) ?_;intro u y z O;have ho:=hl i (CP ..);simp only[BS] at z⊢;split at z
    .rename_i hc;rw[Bt hc];simp only[BO,Am] at z⊢;by_cases he:(Ej n v i).toNat=u
     .right;omega
     .rw[DL he] at z;exact .inl (Z u y z O)
    .rename_i hc;rw[Be hc];exact Z u y z O
  rw[CW] at z⊢;split at z
  .exact ih u y z O
  .rename_i v hv;have ab:=hI.q v (Bj hv);obtain⟨m,rfl⟩: ∃m:Nat,v=m:=⟨v.toNat,auOm⟩;obtain⟨r,hr⟩: ∃r,n.At[m]? =some r:=⟨_,Bk (by have:=hn.al;omega)⟩;simp only[Cp,hr,BG] at z⊢;exact Q m r _ (λi hi=>(jQ hn hr hi).2.2.1) ih u y z O
def Qmo{n:Bu}(hn:DZ n){q:Int}(h0:0<=q)(O:q<n.Cnt){v:Nat}{y:Int}(hv:(Gr n q)[v]? =some y)(hy:0<=y){r:Cz}(hr:n.At[v]? =some r){i:Int}(hi:i∈r)(Q:0<(DV n (Ej n v i) i).1):
 ∃z,(Gr n q)[(Ej n v i).toNat]? =some z/\0<=z:=by
 have hm:=SK hn h0 O n.Cnt.toNat v y hv hy;obtain⟨j,Z⟩:=JB.1 hm;have aa:=(Bi.1 Z).1;have ab:=Qkx hn.c0 (Yq hn h0 O n.Cnt.toNat);exact Qzn hn h0 O n.Cnt.toNat j v auOm Z r (by rwa [Cp]) i hi Q
def aI(n:Bu)(S:Nat->Bool):Int:=(List.zipWith (λb f=>(if S b.A.toNat=true then f else 0) - (if S b.B.toNat=true then f else 0)) n.Bonds n.Flow).sum
def tU(S:Nat->Bool)(m:Nat): ∀(bs:List Ak) (z:Cz),(∀b∈bs,0<=b.A/\b.A<m/\0<=b.B/\b.B<m/\b.A≠b.B)->
 AQ (λv=>if S v=true then (List.zipWith (K9 (v:Int)) bs z).sum else 0) m=(List.zipWith (λb f=>(if S b.A.toNat=true then f else 0) - (if S b.B.toNat=true then f else 0)) bs z).sum
 |[],z,_=>by
  simp only[List.zipWith_nil_left,ZeN];refine (GC λi _=> ?_).trans (RU m)
  split<;>rfl
 |b::bs,[],_=>by
  simp only[rJ,ZeN];refine (GC λi _=> ?_).trans (RU m)
  split<;>rfl
 |b::bs,f::z,h=>by
  have ih:=tU S m bs z (λx Q=>h x (Ah _ Q));obtain⟨b1,b2,b3,b4,b5⟩:=h b (CP ..);simp only[Sz,K6];rw[<-ih];have e:AQ (λv=>if S v=true then K9 (v:Int) b f+(List.zipWith (K9 (v:Int)) bs z).sum else 0) m=
   (AQ (λv=>if v=b.A.toNat then (if S b.A.toNat=true then f else 0) else 0) m+ - AQ (λv=>if v=b.B.toNat then (if S b.B.toNat=true then f else 0) else 0) m)+AQ (λv=>if S v=true then (List.zipWith (K9 (v:Int)) bs z).sum else 0) m:=by
   rw[<-xB,<-RX,<-RX];refine GC λv _=> ?_
   simp only[K9];by_cases c1:v=b.A.toNat
   .have O: ¬v=b.B.toNat:=auOm;rw[Bt (show b.A=(v:Int) by omega),Bt c1,Be O,<-c1];cases S v<;>simp
   .rw[Be (show ¬b.A=(v:Int) by omega),Be c1];by_cases O:v=b.B.toNat
    .rw[Bt (show b.B=(v:Int) by omega),Bt O,<-O];cases S v<;>simp
    .rw[Be (show ¬b.B=(v:Int) by omega),Be O];cases S v<;>simp
  rw[e,Yn,Yn,Bt (show b.A.toNat<m by omega),Bt (show b.B.toNat<m by omega)];omega
def NB{n:Bu}(hn:DZ n){p q:Int}(aa:0<=p)(ab:p<n.Cnt)(O:OC n p q){S:Nat->Bool}(hS:S p.toNat=true)(hT:S q.toNat=false)(ac:0<=q):aI n S=DR n p:=by
 have Z:=tU S n.Cnt.toNat n.Bonds n.Flow (λb Q=>by
  have:=hn.bs b Q
  have:=hn.ne b Q
  omega)
 rw[aI,<-Z];have h2:AQ (λv=>if S v=true then (List.zipWith (K9 (v:Int)) n.Bonds n.Flow).sum else 0) n.Cnt.toNat=AQ (λv=>if v=p.toNat then DR n p else 0) n.Cnt.toNat:=by
  refine GC λv hv=> ?_
  by_cases z:v=p.toNat
  .subst z;rw[Bt rfl,Bt hS,show ((p.toNat:Nat):Int)=p by omega];rfl
  .rw[Be z];cases hSv:S v with
   |false=>rw[Be auSi]
   |true=>
    rw[Bt rfl];have ad:v≠q.toNat:=λhe=>by rw[he,hT] at hSv;cases hSv
    exact O v auOm auOm
 rw[h2,Yn,Bt auOm]
def Qw5(S:Nat->Bool): ∀(bs:List Ak) (Q:Cz),(∀(i:Nat) b f,bs[i]? =some b->Q[i]? =some f-> -b.Strength<=f/\f<=b.Strength)->(∀b∈bs,0<=b.Strength)->(List.zipWith (λb f=>(if S b.A.toNat=true then f else 0) - (if S b.B.toNat=true then f else 0)) bs Q).sum<=Dq S bs
 |[],_,_,_=>by simp[Dq]
 |x::r,[],_,z=>by
  have Z:=Qw5 S r [] (λi b f _ h=>by simp at h) (λb O=>z b (Ah _ O));have h2:=z x (CP ..);simp only[rJ,ZeN,Dq] at Z⊢
  split<;>omega
 |x::r,y::s,hc,z=>by
  have Z:=Qw5 S r s (λi b f h h'=>hc (i+1) b f (by simpa using h) (by simpa using h')) (λb O=>z b (Ah _ O));have h3:=hc 0 x y rfl rfl;simp only[Sz,K6,Dq];cases S x.A.toNat<;>cases S x.B.toNat<;>simp<;>omega
def NA(S:Nat->Bool): ∀(bs:List Ak) (z:Cz),z.length=bs.length->(∀(i:Nat) b f,bs[i]? =some b->z[i]? =some f->(S b.A.toNat=true->S b.B.toNat=false->f=b.Strength)/\(S b.A.toNat=false->S b.B.toNat=true->f= -b.Strength))->(List.zipWith (λb f=>(if S b.A.toNat=true then f else 0) - (if S b.B.toNat=true then f else 0)) bs z).sum=Dq S bs
 |[],_,_,_=>by simp[Dq]
 |x::r,[],h,_=>by simp at h
 |x::r,y::s,h,O=>by
  have Q:=NA S r s (by simpa using h) (λi b f h h'=>O (i+1) b f (by simpa using h) (by simpa using h'));obtain⟨Z,h3⟩:=O 0 x y rfl rfl;simp only[Sz,K6,Dq,Q];cases hA:S x.A.toNat<;>cases hB:S x.B.toNat<;>simp
  .have:=h3 hA hB;omega
  .exact Z hA hB
def flow_law{n:Int}{bs:List Ak}(h:dH (n,bs))(hs:Rb bs){p q:Int}(aa:0<=p)(O:0<=q)(af:p<n)(ah:q<n)(ag:p≠q):
 0<=(EP n bs p q).2/\(∀S:Nat->Bool,S p.toNat=true->S q.toNat=false->(EP n bs p q).2<=Dq S bs)/\ ∃S:Nat->Bool,S p.toNat=true/\S q.toNat=false/\Dq S bs=(EP n bs p q).2:=by
 obtain⟨k1,k2,k3,k4,k5,k6,k7,k8,k9⟩:=Qu0 h hs aa O af ah ag;obtain⟨N,hN⟩: ∃N,N=(EP n bs p q).1:=⟨_,rfl⟩;obtain⟨val,hval⟩: ∃val,val=(EP n bs p q).2:=⟨_,rfl⟩;simp only[<-hN,<-hval] at k1 k2 k3 k4 k5 k6 k7 k8 k9⊢;refine⟨k8,λS hS hT=> ?_,?_⟩
 .have h1:=NB k1 aa auOm k6 hS hT O;have h2:=Qw5 S N.Bonds N.Flow k2 (λb Q=>(k1.st b Q).1);rw[k4] at h2;simp only[aI,k4] at h1;omega
 .have aj:=wK k1 O auOm;obtain⟨x,hx⟩: ∃x,(Gr N q)[p.toNat]? =some x:=⟨_,Bk auOm⟩;have ac:x<0:=by
   simp only[Gs,hx,BG] at k9;by_cases h0:x<0
   .exact h0
   .rw[Be h0] at k9;simp at k9
  have Z:=(OE k1 O (show q<N.Cnt by omega) N.Cnt.toNat).zero;have Z:(Gr N q)[q.toNat]? =some 0:=Z;refine⟨λv=>decide ((Gr N q)[v]?.getD 0<0),by simp only[hx,BG,CK];exact ac,by simp[Z],?_⟩;have hS:decide ((Gr N q)[p.toNat]?.getD 0<0)=true:=by simp only[hx,BG,CK];exact ac
  have hT:decide ((Gr N q)[q.toNat]?.getD 0<0)=false:=by simp[Z]
  have h1:=NB (S:=λv=>decide ((Gr N q)[v]?.getD 0<0)) k1 aa auOm k6 hS hT O;have h2:=NA (λv=>decide ((Gr N q)[v]?.getD 0<0)) N.Bonds N.Flow k1.fl ?_
  .simp only[aI,k4] at h1;rw[k4] at h2;omega
  .intro i b f Q hf;have ak:=k1.bs b (Bj Q);have ad:=k1.ne b (Bj Q);obtain⟨⟨rA,a1,a2⟩,⟨rB,c1,c2⟩⟩:=k1.all i b Q;have ai:=k2 i b f Q hf;obtain⟨yA,hA⟩: ∃y,(Gr N q)[b.A.toNat]? =some y:=⟨_,Bk auOm⟩;obtain⟨yB,hB⟩: ∃y,(Gr N q)[b.B.toNat]? =some y:=⟨_,Bk auOm⟩;simp only[hA,hB,BG,CK,GU];refine⟨λe1 e2=> ?_,λe1 e2=> ?_⟩
   ·
    have ho:Ej N b.B i=b.A:=by simp only[Ej,Cp,Q];omega
    have hr:(DV N b.A i).1=b.Strength - f:=by simp only[DV,Cp,Q,hf,BG,Ff]
    by_cases ab:0<b.Strength - f
    .have:=Qmo k1 O auOm (v:=b.B.toNat) hB auOm c1 c2 (by rw[show ((b.B.toNat:Nat):Int)=b.B by omega,ho,hr];exact ab)
     rw[show ((b.B.toNat:Nat):Int)=b.B by omega,ho,hA] at this;obtain⟨z,g1,g2⟩:=this
     have:=AJ g1
     omega
    .omega
   .have ho:Ej N b.A i=b.B:=by simp only[Ej,Cp,Q];omega
    have hr:(DV N b.B i).1=b.Strength+f:=by simp only[DV,Cp,Q,hf,BG];rw[Be ad]
    by_cases ab:0<b.Strength+f
    .have:=Qmo k1 O auOm (v:=b.A.toNat) hA auOm a1 a2 (by rw[show ((b.A.toNat:Nat):Int)=b.A by omega,ho,hr];exact ab)
     rw[show ((b.A.toNat:Nat):Int)=b.A by omega,ho,hB] at this;obtain⟨z,g1,g2⟩:=this
     have:=AJ g1
     omega
    .omega
def GN(n:Int)(bs:List Ak):Nat->Int×Cz
 |0=>(-1,[])
 |k+1=>if (GN n bs k).1<0\/Ht (EP n bs 0 (k+1)).2 (kF (EP n bs 0 (k+1)).1 (k+1)) (GN n bs k).1 (GN n bs k).2=true then ((EP n bs 0 (k+1)).2,kF (EP n bs 0 (k+1)).1 (k+1)) else GN n bs k
def weakC.fv(a:Int×(List Ak)):Int×(Cz):=(λn bs=>GN n bs (n - 1).toNat) (a.1) (a.2)
def weakC.row:A8:=vK (b2 qI (qS Ak.d_le Ak.c_n)) (r2 rI (rS D4 Cq)) (λa=>dH (a.1,a.2)/\Rb a.2/\1<=a.1) weakC.fv
def weakC.q:=Bg (R:=weakC.row) rfl
def weakC.ok:AE 101 weakC.row:=by
 refine vw (tC l07Before.ok (tC flC.ok (tC sideC.ok tN))) Tryz.func101 ?_;intro a Z;simp only[Tryz.f101];simp only[ZA,simprocAttr,weakC.fv];obtain⟨Q,aa,ad⟩:=Z;have ab:=Q.2.1;simp only at ab;obtain⟨n,hn⟩: ∃n:Nat,a.1=n+1:=⟨(a.1 - 1).toNat,auOm⟩;rw[show (a.1 - 1).toNat=n by omega];refine AY.frr ⟨{k:Nat//k<=n},λk=>⟨[(8,.im (.int .i64 ((k.1:Int)+1))),(7,.im (.sl false 1 ((GN a.1 a.2 k.1).2.map Aj))),(6,.im (.int .i64 (GN a.1 a.2 k.1).1)),(0,.im (.int .i64 a.1)),(1,.im (.sl false 3 (a.2.map Ak.c)))],[],2⟩,λk=>n - k.1,λk=>⟨by simp[ZG],auSi⟩,⟨⟨0,auSi⟩,[1],[],?_⟩,λk=> ?_⟩
 .simp only[AB];simp only[ZA,simprocAttr,GN]
  try simp
 obtain⟨k,ac⟩:=k;simp only[ZA,simprocAttr,AL];refine⟨λhk=> ?_,λhk=> ?_⟩
 .refine A7.os (a.1,a.2,0,(k:Int)+1) [] ⟨Q,aa,auSi,by simp only;omega,by simp only;omega,by simp only;omega,by simp only;omega⟩ (λj=>by simp[Ai,hget]) rfl rfl ?_ ?_
  .simp only[ZA,simprocAttr,flC.ca]
  .simp only[ZZ,simprocAttr,Aa,l07Before.q,l07Before.fv,sideC.q,sideC.fv,flC.H1,flC.r0,AL];obtain⟨k1,k2,k3,k4,k5,_⟩:=Qu0 (p:=0) (q:=(k:Int)+1) Q aa auOm auOm auOm auOm auOm;have O:({Cnt:=a.1,Bonds:=a.2,At:=(DA a.1 a.2).At,Flow:=(flC.net (a.1,a.2,0,(k:Int)+1)).Flow}:Bu)=(EP a.1 a.2 0 ((k:Int)+1)).1:=by
    rw[<-k5];simp only[flC.net]
    conv=>rhs;rw[show (EP a.1 a.2 0 ((k:Int)+1)).1=⟨(EP a.1 a.2 0 ((k:Int)+1)).1.Cnt,(EP a.1 a.2 0 ((k:Int)+1)).1.Bonds,(EP a.1 a.2 0 ((k:Int)+1)).1.At,(EP a.1 a.2 0 ((k:Int)+1)).1.Flow⟩ from rfl]
    rw[k3,k4]
   rw[O];have hw:IntKind.i64.wrap ((k:Int)+1+1)=(k:Int)+1+1:=AG auOm auOm;have z:GN a.1 a.2 (k+1)=if (GN a.1 a.2 k).1<0\/Ht (EP a.1 a.2 0 ((k:Int)+1)).2 (kF (EP a.1 a.2 0 ((k:Int)+1)).1 ((k:Int)+1)) (GN a.1 a.2 k).1 (GN a.1 a.2 k).2=true then ((EP a.1 a.2 0 ((k:Int)+1)).2,kF (EP a.1 a.2 0 ((k:Int)+1)).1 ((k:Int)+1)) else GN a.1 a.2 k:=rfl
   refine⟨⟨k1,auOm,auOm⟩,λh0=>⟨λh1=>⟨⟨k+1,auOm⟩,[],[],by simp only;omega,?_⟩,λh1=>⟨⟨k+1,auOm⟩,[],[],by simp only;omega,?_⟩⟩,λh0=>⟨⟨k+1,auOm⟩,[],[],by simp only;omega,?_⟩⟩
   .rw[Bt (.inr h1)] at z;simp only[AB];simp only[ZA,simprocAttr,z,hw];omega
   .rw[Be (λh=>h.elim h0 h1)] at z;simp only[AB];simp only[ZA,simprocAttr,z,hw];omega
   .rw[Bt (.inl (Ch.1 h0))] at z;simp only[AB];simp only[ZA,simprocAttr,z,hw];omega
 .have:k=n:=auOm
  rw[this]
def Qzk{n:Int}{bs:List Ak}(h:dH (n,bs))(hs:Rb bs){t:Int}(ht:0<=t): ∀k:Nat,(k:Int)<n->(0<k->0<=(GN n bs k).1/\(t<=(GN n bs k).1↔Yx n.toNat bs t k))
 |0,_=>λh0=>by omega
 |k+1,hk=>λ_=>by
  obtain⟨f1,f2,S,f3,f4,f5⟩:=flow_law h hs (p:=0) (q:=(k:Int)+1) auOm auOm auOm auOm auOm;simp only[Int.toNat_zero,show ((k:Int)+1).toNat=k+1 by omega] at f2 f3 f4;obtain⟨v,hv⟩: ∃v,v=(EP n bs 0 ((k:Int)+1)).2:=⟨_,rfl⟩;obtain⟨sd,hsd⟩: ∃sd,sd=kF (EP n bs 0 ((k:Int)+1)).1 ((k:Int)+1):=⟨_,rfl⟩;have ab:t<=v↔ ∀S:Nat->Bool,S 0=true->S (k+1)=false->t<=Dq S bs:=by
   constructor
   .intro z S Q hT
    have:=f2 S Q hT
    omega
   .intro z
    have:=z S f3 f4
    omega
  have aa:Yx n.toNat bs t (k+1)↔Yx n.toNat bs t k/\t<=v:=by
   rw[ab];constructor
   .intro z;exact⟨λS Q ⟨y,y1,y2,y3,y4⟩=>z S Q ⟨y,y1,auOm,y3,y4⟩,λS Q hT=>z S Q ⟨k+1,auOm,auOm,auOm,hT⟩⟩
   .rintro⟨z,h2⟩ S Q ⟨y,y1,y2,y3,y4⟩;by_cases hy:y<=k
    .exact z S Q ⟨y,y1,hy,y3,y4⟩
    .exact h2 S Q (by rw[show k+1=y by omega];exact y4)
  rw[aa];simp only[GN,<-hv,<-hsd];by_cases ac:k=0
  .subst ac;rw[Bt (.inl (by simp[GN]))];refine⟨by simp only;omega,?_⟩;simp only;constructor
   .intro z;exact⟨λS _ ⟨y,y1,y2,_,_⟩=>auOm,z⟩
   .exact λz=>z.2
  .obtain⟨i1,i2⟩:=Qzk h hs ht k auOm auOm;rw[<-i2];by_cases O:(GN n bs k).1<0\/Ht v sd (GN n bs k).1 (GN n bs k).2=true
   .rw[Bt O];have ad:v<=(GN n bs k).1:=by
     rcases O with O|O
     .omega
     .simp only[Ht] at O;split at O
      .omega
      .simp only[CK] at O;omega
    simp only;exact⟨auOm,auOm,auOm⟩
   .rw[Be O];have ad:(GN n bs k).1<=v:=by
     have Z: ¬Ht v sd (GN n bs k).1 (GN n bs k).2=true:=λh=>O (.inr h)
     simp only[Ht] at Z;split at Z
     .omega
     .simp only[CK] at Z;omega
    exact⟨i1,auOm,auOm⟩
def Gh(l:Cz):Nat->Cz
 |0=>l
 |i+1=>((Gh l i).set i ((Gh l i)[l.length - 1 - i]?.getD 0)).set (l.length - 1 - i) ((Gh l i)[i]?.getD 0)
def Qnf(l:Cz): ∀i,(Gh l i).length=l.length
 |0=>rfl
 |i+1=>by simp only[Gh,EU,Qnf l i]
def tM(l:Cz): ∀i,2*i<=l.length-> ∀k,k<l.length->(Gh l i)[k]? =if k<i\/l.length - i<=k then l[l.length - 1 - k]? else l[k]?
 |0,_,k,Z=>by simp only[Gh];rw[Be auOm]
 |i+1,hi,k,Z=>by
  have ih:=tM l i auOm;have hl:=Qnf l i;have g1:(Gh l i)[l.length - 1 - i]?.getD 0=l[l.length - 1 - i]?.getD 0:=by rw[ih _ auOm,Be auOm]
  have g2:(Gh l i)[i]?.getD 0=l[i]?.getD 0:=by rw[ih _ auOm,Be auOm]
  have gd: ∀j,j<l.length->some (l[j]?.getD 0)=l[j]? :=λj hj=>by rw[Bk hj];rfl
  rw[Gh,g1,g2];by_cases z:l.length - 1 - i=k
  .subst z;rw[Bo (by rw[EU,hl];omega),Bt auOm,gd _ auOm];congr 1;omega
  .rw[DL z];by_cases O:i=k
   .subst O;rw[Bo (by rw[hl];omega),Bt auOm,gd _ auOm]
   .rw[DL O,ih k Z];by_cases Q:k<i\/l.length - i<=k
    .rw[Bt Q,Bt auOm]
    .rw[Be Q,Be auOm]
def V1(l:Cz){i:Nat}(O:2*i<=l.length)(Q:l.length<=2*i+1):Gh l i=l.reverse:=by
 apply Rn;intro k;by_cases z:k<l.length
 .rw[tM l i O k z,ZeJ z];by_cases h:k<i\/l.length - i<=k
  .rw[Bt h]
  .rw[Be h];congr 1;omega
 .rw[Gv (by rw[Qnf];omega),Gv (by rw[zP];omega)]
def iY(l:Cz)(i:Nat)(x:Int):(l.map Aj).set i [.int .i64 x]=(l.set i x).map Aj:=by rw[GG];rfl
def revC.ca(_:Cz):List AV:=[.own 0]
def revC.H0(a:Cz):An:=[(0,(true,.arr 3 1 (a.map Aj)))]
def revC.H1(a:Cz):An:=[(0,(true,.arr 3 1 (a.reverse.map Aj)))]
def revC.row:A8:=A7 revC.ca revC.H0 1 (λ_=>True) (λj=>j==0) (λ_=> .im (.tup [])) revC.H1 0
def revC.ok:AE 213 revC.row:=by
 refine ow tN Tryz.func213 (exB:=λ_=>false) (R:=λ_ r=>r= .im (.tup [])) (λ_=>rfl)
  (λa=>by simp[revC.ca,revC.H0,A9,AV.bel,Ar,B5,Ca,Ad.nms,Ai,hget]) (λa p hp=> ?_) LeVq ?_
 rotate_left
 intro a Z;simp only[Tryz.f213,revC.ca,revC.H0,revC.H1];simp only[ZA,simprocAttr];intro aa;rw[AG auOm auOm];refine AY.old ⟨{i:Nat//2*i<=a.length},λi=>⟨[(2,.im (.int .i64 i.1)),(3,.im (.int .i64 ((a.length:Int) - 1 - i.1))),(0,.own 0)],[(0,(true,.arr 3 1 ((Gh a i.1).map Aj)))],1⟩,λi=>a.length - i.1,λi=>⟨by simp[ZG],auSi⟩,⟨⟨0,auSi⟩,?_⟩,λi=> ?_⟩
 .simp only[ZA,simprocAttr,sub];exact⟨auOm,by rw[Gh]⟩
 obtain⟨i,hi⟩:=i;have Q:=Qnf a i;simp only[ZA,simprocAttr,sub,AL,Q,iY,EU];refine⟨λO=>⟨auOm,auOm,auOm,λx hx=>⟨auOm,auOm,λy hy=>⟨auOm,auOm,λz hz=>⟨auOm,auOm,auOm,λu hu=> ?_⟩⟩⟩⟩,λO=> ?_⟩
 .refine⟨⟨i+1,auOm⟩,by simp only;omega,?_⟩;have w1:IntKind.i64.wrap ((a.length:Int) - 1 - i - 1)=(a.length:Int) - 1 - i - 1:=AG auOm auOm;have w2:IntKind.i64.wrap ((i:Int)+1)=(i:Int)+1:=AG auOm auOm;simp only[w1,w2];refine⟨⟨auOm,auOm⟩,?_⟩;simp only[Gh];rw[show a.length - 1 - i=((a.length:Int) - 1 - i).toNat by omega,hx,hy];rfl
 .rw[V1 a hi auOm]
 simp[revC.H1] at hp;subst hp;exact .inl ⟨auOm,rfl,rfl⟩
def clobC.ca(a:List Ak):List AV:=[.im (.sl false 3 (a.map Ak.c))]
def clobC.H1(a:List Ak):An:=[(0,(true,.arr 196 3 (a.map Ak.c)))]
def clobC.row:A8:=A7 clobC.ca (λ_=>[]) 0 (λa=>a.length<=1000000) (λ_=>false) (λ_=> .own 0) clobC.H1 20
def clobC.ok:AE 183 clobC.row:=by
 refine KF tN Tryz.func183 (exB:=λj=>j==0) (R:=λ_ r=>r= .own 0) (λ_=>rfl)
  (λa=>by simp[clobC.ca,A9,AV.bel,Ar,B5,Ca]) (λa p hp=> ?_) LeVq ?_
 rotate_left
 intro a z;simp only[Tryz.f183,clobC.ca,clobC.H1];simp only[ZA,simprocAttr,Bh,B8,BF,CA];intro b O;split
 .rename_i h;have h0:=O h;refine⟨[],[(0,some 1)],⟨[(2,.own 0)],clobC.H1 a,1⟩,?_,by simp[clobC.H1,ZG],auSi,?_⟩
  .simp only[AB,clobC.H1,h0];simp only[ZA,simprocAttr]
  .simp only[ZA,simprocAttr,clobC.H1]
 .refine⟨auOm,[],[(0,some 2)],⟨[(2,.own 0)],clobC.H1 a,1⟩,?_,by simp[clobC.H1,ZG],auSi,?_⟩
  .simp only[AB,clobC.H1];simp only[ZA,simprocAttr]
  .simp only[ZA,simprocAttr,clobC.H1]
 simp[clobC.H1] at hp;subst hp;exact .inr ⟨auOm,auOm,rfl,rfl⟩
def freeC.fv(a:Bv×Int×Int):Bool:=(Xd) (a.1) (a.2.1) (a.2.2)
def freeC.row:A8:=Cj (b3 (qP 2 Bv.d_le) qI qI) rB (λa=>Lr a.1 a.1.Room.length/\0<=a.2.1/\a.2.1<a.1.Room.length/\0<=a.2.2/\a.2.2<a.1.Room.length) freeC.fv
def freeC.q:=Cf (R:=freeC.row) rfl
def freeC.ok:AE 212 freeC.row:=by
 refine EK tN Tryz.func212 ?_;intro a z;simp only[Tryz.f212];simp only[ZZ,simprocAttr,freeC.fv,D.sc,D.scs,AO];obtain⟨O,Q,h3,Z,h5⟩:=z;have hf:=O.f;refine⟨Q,h3,λr hr=>⟨Z,by rw[O.rr r (Bj hr)];exact h5,λx hx=>⟨Q,auOm,λs hs=>⟨Z,by rw[O.ff s (Bj hs)];exact h5,λy hy=> ?_⟩⟩⟩⟩;simp only[Xd,Qyw,Qzr,hr,hs,hx,hy,BG]
def cQ:D->Option (Cz)
 | .sl true _ rows=>Ba CV rows
 | .sl false _ (r::rows)=>Ba CV (r::rows)
 |_=>none
def cR: ∀d x,cQ d=some x->Le d (.sl true 1 (x.map Aj)):=by
 intro d x h;unfold cQ at h;split at h
 .rename_i k rows;have h1:=Fz (nz:=true) (k:=k) (Fs D4 _ _ h) (k':=1) (by simp[Aj]);intro ok hp v Z;have Q:=h1 ok hp v Z;simp only[Ae.rd] at Q Z⊢;rcases Q with Q|⟨b,p,cap,vs,T,fr,g1,g2,g3,g4,g5,g6,g7⟩
  .rcases Z with ⟨q1,O⟩|⟨b',p',z,ab,T',aa,q1,O,q3,q4,q5,q6,q7⟩
   .exact .inl ⟨q1,Q.2⟩
   .obtain⟨ao,e⟩:=xV Q.1;rw[e] at q1;simp only[Value.slice.injEq] at q1;exact absurd (Rk.1 q1.2.1.symm) (O trivial)
  .rcases Z with ⟨q1,O⟩|⟨b',p',z,ab,T',aa,q1,O,q3,q4,q5,q6,q7⟩
   .rw[Qr7 q1] at g1;cases g1
   .refine .inr ⟨b,p,cap,vs,T,fr,g1,λ_ h0=> ?_,g3,g4,g5,g6,g7⟩;rw[q1] at g1;simp only[Value.slice.injEq] at g1;rw[h0,Ed] at g1;exact O trivial (Rk.1 g1.2.1)
 .rename_i k r rows;have h1:=Fz (nz:=false) (k:=k) (Fs D4 _ _ h) (k':=1) (by simp[Aj]);intro ok hp v Z;have Q:=h1 ok hp v Z;simp only[Ae.rd] at Q Z⊢;rcases Q with Q|⟨b,p,cap,vs,T,fr,g1,g2,g3,g4,g5,g6,g7⟩
  .rcases Z with ⟨q1,O⟩|⟨b',p',z,ab,T',aa,q1,O,q3,q4,q5,q6,q7⟩
   .cases O
   .obtain⟨ao,e⟩:=xV Q.1;rw[e] at q1;simp only[Value.slice.injEq,Em] at q1;omega
  .rcases Z with ⟨q1,O⟩|⟨b',p',z,ab,T',aa,q1,O,q3,q4,q5,q6,q7⟩
   .cases O
   .refine .inr ⟨b,p,cap,vs,T,fr,g1,λ_ h0=> ?_,g3,g4,g5,g6,g7⟩;rw[q1] at g1;simp only[Value.slice.injEq,Em] at g1;rw[h0,Ed] at g1;omega
 .cases h
def xZ(n:Nat)(x:Int):List.replicate n [D.int .i64 x]=(List.replicate n x).map Aj:=by rw[List.map_replicate];rfl
def WA{k:Nat}{l:Cz}(h:l≠[]):cQ (.sl false k (l.map Aj))=some l:=by
 cases l with
 |nil=>exact absurd rfl h
 |cons x r=>exact qF (x::r)
def dI(v:Int):D:= .int .i64 v
def rept.H0_dom(a:Int×Int)(j:Nat):Ai (rept.H0 a) j=true↔j<1:=by
 simp only[Ai,rept.H0,hget];by_cases h0:j=0
 .subst h0;simp
 .have z:(0==j)=false:=by simp;omega
  simp[z];omega
def revC.H0_dom(a:Cz)(j:Nat):Ai (revC.H0 a) j=true↔j<1:=by
 simp only[Ai,revC.H0,hget];by_cases h0:j=0
 .subst h0;simp
 .have z:(0==j)=false:=by simp;omega
  simp[z];omega
def Ry:Xf Tryz.prog 274=some 3:=by kernel_rfl
def wayC.rc:D->Option (Cz):=cQ
def wayC.re:(Cz)->D:=λb=>D.sl true 1 (b.map Aj)
def wayC.rle: ∀d b,wayC.rc d=some b->Le d (wayC.re b):=cR
def wayC.fv(a:Bv×Int×Int):Cz:=(λx p q=>CS x x.Room.length p q) (a.1) (a.2.1) (a.2.2)
def wayC.row:A8:=Cj (b3 (qP 2 Bv.d_le) qI qI) (RK.mk wayC.rc wayC.re wayC.rle) (λa=>Lr a.1 a.1.Room.length/\a.1.Room.length<=1000/\0<=a.2.1/\a.2.1<a.1.Room.length/\0<=a.2.2/\a.2.2<a.1.Room.length) wayC.fv
def wayC.q:=Cf (R:=wayC.row) rfl
def wayC.ok:AE 203 wayC.row:=by
 refine EK (tC freeC.ok (tC rept.ok (tC revC.ok tN))) Tryz.func203 ?_;intro a ak;simp only[Tryz.f203];simp only[ZZ,simprocAttr,wayC.fv,wayC.rc];obtain⟨aj,hn,ad,af,am,ax⟩:=ak;obtain⟨x,hx⟩: ∃x,x=a.1:=⟨_,rfl⟩;obtain⟨p,hp⟩: ∃p,p=a.2.1:=⟨_,rfl⟩;obtain⟨q,hq⟩: ∃q,q=a.2.2:=⟨_,rfl⟩;obtain⟨n,hnn⟩: ∃n,n=x.Room.length:=⟨_,rfl⟩;simp only[<-hx,<-hp,<-hq,<-hnn] at aj hn ad af am ax⊢;intro bf;refine A7.os (-1,(n:Int)) [1] ⟨by simp only;omega,by simp only;omega⟩ (λj=>rept.H0_dom _ j) rfl rfl ?_ ?_
 .simp only[ZA,simprocAttr,B8,rept.ca,rept.H0,BF]
 simp only[ZA,simprocAttr,Ry,rept.H1,Ri,iY,xZ];refine⟨auOm,auOm,ad,af,auOm,λ_ _=> ?_⟩;refine AY.old ⟨{k:Nat//k<=(D5 x n p k).2.length},λk=>⟨[(9,.ch 22),(8,.own 2),(7,.im (.int .i64 n)),(0,.ptr 0 0),(1,.im (.int .i64 p)),(2,.im (.int .i64 q))],[(2,(true,.arr 3 1 ((D5 x n p k.1).1.map Aj))),(22,(true,.chan (((D5 x n p k.1).2.drop k.1).map dI) n)),(0,(false,.view [.sl false 1 (x.Room.map BD),.sl false 1 (x.Flow.map BD)]))],23⟩,λk=>n - k.1,λk=>⟨by simp[ZG],auSi⟩,⟨⟨0,auSi⟩,?_⟩,λk=> ?_⟩
 .simp only[ZA,simprocAttr,sub];simp[D5,dI]
 obtain⟨k,hk⟩:=k;have hP:=Sp (x:=x) ad af k;have bg:=Qr3 hP;simp only[ZA,simprocAttr,D.sc,D.scs,AO,Ry,AL,CM];refine⟨λav=> ?_,λav=> ?_⟩
 .have aw:k<(D5 x n p k).2.length:=auOm;obtain⟨u,hu⟩: ∃u,(D5 x n p k).2[k]? =some u:=⟨_,Bk aw⟩;have a8:=hP.q u (Bj hu);rw[FH hu];refine⟨auSi,λd r ag=> ?_⟩;simp only[Br,YG] at ag;obtain⟨rfl,rfl⟩:=ag;simp only[dI];obtain⟨s,hs⟩: ∃s,s=D5 x n p k:=⟨_,rfl⟩;simp only[<-hs] at hu hP⊢;refine AY.old ⟨{i:Nat//i<=n},λi=>⟨[(36,.im (.int .i64 i.1)),(35,.im (.int .i64 n)),(10,.im (.int .i64 u)),(9,.ch 22),(8,.own 2),(7,.im (.int .i64 n)),(0,.ptr 0 0),(1,.im (.int .i64 p)),(2,.im (.int .i64 q))],[(2,(true,.arr 3 1 ((Dr x u s i.1).1.map Aj))),(22,(true,.chan (((Dr x u s i.1).2.drop (k+1)).map dI) n)),(0,(false,.view [.sl false 1 (x.Room.map BD),.sl false 1 (x.Flow.map BD)]))],23⟩,λi=>n - i.1,λi=>⟨by simp[ZG],auSi⟩,⟨⟨0,auSi⟩,?_⟩,λi=> ?_⟩
  .simp only[ZA,simprocAttr,sub,Dr]
  obtain⟨i,hi⟩:=i;obtain⟨hQ,e,he⟩:=yV hP hu i hi;have a9:=Qr3 hQ;have ay:=hQ.len;simp only[ZZ,simprocAttr,Aa,freeC.q,freeC.fv,sub,AL,CM,ay,iY];refine⟨λaq=>⟨auOm,auOm,λy hy=>⟨λQ=>⟨⟨hnn▸aj,a8.1,auOm,auOm⟩,λhf=>⟨auOm,auOm,λy2 _=>⟨auOm,⟨i+1,auOm⟩,by simp only;omega,by rw[AG auOm auOm];simp only;omega,?_⟩⟩,λhf=>⟨⟨i+1,auOm⟩,by simp only;omega,by rw[AG auOm auOm];simp only;omega,?_⟩⟩,λQ=>⟨⟨i+1,auOm⟩,by simp only;omega,by rw[AG auOm auOm];simp only;omega,?_⟩⟩⟩,λaq=> ?_⟩
  .have Z:Dr x u s (i+1)=((Dr x u s i).1.set i u,(Dr x u s i).2++[(i:Int)]):=by
    rw[Dr,Ih,Bt ⟨by rw[hy,BG];exact Q,hf⟩]
   have bd:=(Bi.1 hu).1;simp only[Z];refine⟨trivial,?_⟩;rw[eI (by rw[he,BR];omega),Dj];rfl
  .have Z:Dr x u s (i+1)=Dr x u s i:=by
    rw[Dr,Ih,Be (λh=>hf h.2)]
   simp only[Z];exact⟨trivial,trivial⟩
  .have Z:Dr x u s (i+1)=Dr x u s i:=by
    rw[Dr,Ih,Be (λh=>Q (by have:=h.1;rw[hy,BG] at this;exact this))]
   simp only[Z];exact⟨trivial,trivial⟩
  .have au:i=n:=auOm;have Z:D5 x n p (k+1)=Dr x u s i:=by rw[D5,<-hs,hu,au]
   refine⟨⟨k+1,by rw[Z,he,BR];have:=(Bi.1 hu).1;omega⟩,by simp only;omega,?_⟩;simp only[Z];exact⟨trivial,trivial⟩
 .have be:(D5 x n p k).2.length=k:=auOm;have hE:D5 x n p k=BM x n p:=by
   have:=Ov x n p (n - k) k auOm
   rw[show k+(n - k)=n by omega] at this;exact this.symm
  have ai:=hP.len;refine⟨am,auOm,auOm,λy hy=>⟨λQ=> ?_,λQ=> ?_⟩⟩
  .simp only[CS,<-hE,hy,BG];rw[Bt Q];rfl
  have az:q∈(D5 x n p k).2:=by
   have:=(hP.mem q.toNat y hy).1 auOm
   rwa [show (q.toNat:Int)=q by omega] at this
  obtain⟨i,hi⟩:=JB.1 az;obtain⟨d,ba,ab,aa⟩:=Qq3 hP hi;have bb:=(Bi.1 hi).1;have a0:yJ (D5 x n p k).1 p q n=d:=Qqr auOm ab aa;have hW:CS x n p q=(Jc (D5 x n p k).1 q d).reverse:=by
   simp only[CS,<-hE,hy,BG];rw[Be Q,a0]
  obtain⟨O,hpar⟩: ∃O,O=(D5 x n p k).1:=⟨_,rfl⟩;simp only[<-hpar] at ai ab aa hW⊢;refine AY.ren ⟨{j:Nat//j<=d},λj=>⟨[(13,.im (.int .i64 (Ek O q j.1))),(12,.own 24),(8,.own 2),(1,.im (.int .i64 p))],[(24,(true,.arr 3 1 ((Jc O q j.1).map Aj))),(2,(true,.arr 3 1 (O.map Aj)))],25⟩,λj=>d - j.1,λj=>⟨by simp[ZG],auSi⟩,⟨⟨0,auOm⟩,[(24,some 23)],?_⟩,λj=> ?_⟩
  .simp only[AB];simp only[ZA,simprocAttr,Bf];exact⟨rfl,rfl⟩
  obtain⟨j,hj⟩:=j;have ao:(Jc O q j).length=j+1:=by simp[Jc]
  simp only[ZA,simprocAttr,B8,AL,ao];refine⟨λac=> ?_,λac=> ?_⟩
  .have ah:j<d:=by
    rcases Pi j d with h|h
    .exact h
    .exact absurd (by rw[show j=d by omega];exact ab) ac
   obtain⟨j2,g1,g2⟩:=xF hP hi j (λj' bc=>by rw[<-hpar];exact aa j' auOm);rw[<-hpar] at g2;have an:=hP.q _ (Bj g2);refine⟨an.1,auOm,auOm,λz hz=>⟨auOm,⟨j+1,auOm⟩,[(24,some 26)],by simp only;omega,?_⟩⟩;have Z:Ek O q (j+1)=z:=by rw[Ek,hz,BG]
   have e2:Jc O q (j+1)=Jc O q j++[z]:=by
    simp only[Jc];rw[Xi,Dj,Br,Gl,Z]
   simp only[AB];simp only[ZA,simprocAttr,Bf,Z,e2,Dj]
  .have ah:j=d:=by
    have h1:=Ch.1 ac;rcases Pi j d with h|h
    .exact absurd h1 (aa j h)
    .omega
   subst ah;refine A7.os (Jc O q j) [24] trivial (λi=>revC.H0_dom _ i) rfl rfl ?_ ?_
   .simp only[ZA,simprocAttr,B8,revC.ca,revC.H0,BF]
   .simp only[ZA,simprocAttr,B8,D.sc,B4,AO,revC.H1,BF];rw[hW];exact WA (by simp[Jc])
end Go.Ae
