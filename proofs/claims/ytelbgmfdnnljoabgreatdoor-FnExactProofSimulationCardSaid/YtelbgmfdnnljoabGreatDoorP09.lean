/- Lemmas. Conditions: none. -/
import Derived.Test.YtelbgmfdnnljoabGreatDoorP08
import Derived.Lib.LaidTab
import Derived.Stop.LaidErr
import Derived.Stop.Joined
import Derived.Lay
import Derived.LaidMore
import Derived.LaidOnce
import Derived.OpenVars
import Derived.ChangeVars
import Derived.ChangeSame
import Derived.Shelf.Strconv.Itoa4
import Derived.Shelf.Strings.Builder1
import Derived.Lib.ItoaLen
set_option linter.all false
set_option maxHeartbeats 8000000
set_option maxRecDepth 100000
namespace Go.Ae
open Go Go.Proofs Go.RowKit Go.ChangeShapes Go.WideShapes
abbrev Jb:List (String×DataW Unit):=Go.Proofs.YtelbgmfdnnljoabGreatDoor.Rows.fnExactProofSimulationRow.laid
def gP:Tryz.prog.globalNamed "internal/strconv.uint64pow10" =some 0:=by kernel_rfl
def gPt:(Tryz.prog.globals[0]?).map (·.type)=some 276:=by kernel_rfl
def VC{W:World}{n:String}{g:Nat}{cs:Array Value}(O:Tryz.prog.globalNamed n=some g)(h:W.var? Tryz.prog n=some cs): ∃T z,W.heap[g]? =some (.cells cs T z):=by
 unfold World.var? at h;rw[O] at h;simp only[Gw] at h;split at h
 .rename_i c T z e;obtain rfl:=AJ h;exact⟨T,z,e⟩
 .cases h
def Yq{W:World}{b:Nat}{o:Obj}(h:W.heap[b]? =some o):b<W.heap.size:=(RE.1 h).1
def Yy{W:World}(h:laidMetH Tryz.prog Jb W):GP (λb=>b<W.heap.size) (λb=>W.heap[b]?):=by
 rw[MakeChecks.laidMetH_plain _ _ _ (by kernel_rfl)] at h;have O:Lib.TabIs Tryz.prog W "internal/strconv.uint64pow10" .u64 Lib.pow10Tab:=Lib.tabIs_of_head gP gPt Tryz.underlying276 Tryz.underlying235 (by kernel_rfl) (by kernel_rfl) h.tail.tail;obtain⟨T,z,e⟩:=VC gP O;exact⟨Yq e,T,z,e⟩
def S6(os:Os)(args:Array Value):laidMetH Tryz.prog Jb ((World.laidAll Tryz.prog os Jb).forCall (λ_ _=>0) ⟨#[],args,[]⟩).memory:=by
 rw[MakeChecks.laidMetH_plain _ _ _ (by kernel_rfl)];exact laidMet_laidAll _ (by kernel_rfl) (by kernel_rfl)
end Go.Ae
namespace Go.Proofs
open Go.Shelf
def Tryz.fmtL_ren:Go.Shelf.Ren:=⟨λ|173=>144|246=>175|283=>193|284=>194|285=>195|286=>196|129=>173|317=>204|318=>205|319=>206|320=>207|337=>209|338=>210|n=>n,λ|2=>2|3=>3|9=>9|4=>4|171=>259|0=>0|53=>235|37=>174|5=>5|173=>261|212=>276|51=>233|20=>20|213=>277|46=>197|232=>285|233=>286|n=>n,λ|17=>0|18=>1|19=>2|n=>n⟩
def Tryz.fmtL:Go.Proofs.LaysM.n173 Tryz.prog Tryz.fmtL_ren:={
 mixed:=by kernel_rfl
 f129:=Tryz.func173.trans (Dy some (by kernel_rfl))
 f173:=Tryz.func144.trans (Dy some (by kernel_rfl))
 f246:=Tryz.func175.trans (Dy some (by kernel_rfl))
 f283:=Tryz.func193.trans (Dy some (by kernel_rfl))
 f284:=Tryz.func194.trans (Dy some (by kernel_rfl))
 f285:=Tryz.func195.trans (Dy some (by kernel_rfl))
 f286:=Tryz.func196.trans (Dy some (by kernel_rfl))
 f317:=Tryz.func204.trans (Dy some (by kernel_rfl))
 f318:=Tryz.func205.trans (Dy some (by kernel_rfl))
 f319:=Tryz.func206.trans (Dy some (by kernel_rfl))
 f320:=Tryz.func207.trans (Dy some (by kernel_rfl))
 f337:=Tryz.func209.trans (Dy some (by kernel_rfl))
 f338:=Tryz.func210.trans (Dy some (by kernel_rfl))
 t0:=Tryz.underlying0
 a0:=Tryz.isAgg0
 z0:=Tryz.sizeOf0
 v0:=Tryz.zeroValue0
 t2:=Tryz.underlying2
 a2:=Tryz.isAgg2
 z2:=Tryz.sizeOf2
 v2:=Tryz.zeroValue2
 t3:=Tryz.underlying3
 a3:=Tryz.isAgg3
 z3:=Tryz.sizeOf3
 v3:=Tryz.zeroValue3
 t4:=Tryz.underlying4
 a4:=Tryz.isAgg4
 z4:=Tryz.sizeOf4
 v4:=Tryz.zeroValue4
 t5:=Tryz.underlying5
 a5:=Tryz.isAgg5
 z5:=Tryz.sizeOf5
 v5:=Tryz.zeroValue5
 t9:=Tryz.underlying9
 a9:=Tryz.isAgg9
 z9:=Tryz.sizeOf9
 v9:=Tryz.zeroValue9
 t20:=Tryz.underlying20
 a20:=Tryz.isAgg20
 z20:=Tryz.sizeOf20
 v20:=Tryz.zeroValue20
 t37:=Tryz.underlying174
 a37:=Tryz.isAgg174
 z37:=Tryz.sizeOf174
 v37:=Tryz.zeroValue174
 t46:=Tryz.underlying197
 a46:=Tryz.isAgg197
 z46:=Tryz.sizeOf197
 v46:=Tryz.zeroValue197
 t51:=Tryz.underlying233
 a51:=Tryz.isAgg233
 z51:=Tryz.sizeOf233
 v51:=Tryz.zeroValue233
 t53:=Tryz.underlying235
 a53:=Tryz.isAgg235
 z53:=Tryz.sizeOf235
 v53:=Tryz.zeroValue235
 t171:=Tryz.underlying259
 a171:=Tryz.isAgg259
 z171:=Tryz.sizeOf259
 v171:=Tryz.zeroValue259
 t173:=Tryz.underlying261
 a173:=Tryz.isAgg261
 z173:=Tryz.sizeOf261
 v173:=Tryz.zeroValue261
 t212:=Tryz.underlying276
 a212:=Tryz.isAgg276
 z212:=Tryz.sizeOf276
 v212:=Tryz.zeroValue276
 t213:=Tryz.underlying277
 a213:=Tryz.isAgg277
 z213:=Tryz.sizeOf277
 t232:=Tryz.underlying285
 a232:=Tryz.isAgg285
 z232:=Tryz.sizeOf285
 v232:=Tryz.zeroValue285
 t233:=Tryz.underlying286
 a233:=Tryz.isAgg286
 z233:=Tryz.sizeOf286
 v233:=Tryz.zeroValue286
 g17:=by kernel_rfl
 g18:=by kernel_rfl
 g19:=by kernel_rfl
 i0:=by kernel_rfl
 i2:=by kernel_rfl
 i3:=by kernel_rfl
 i4:=by kernel_rfl
 i5:=by kernel_rfl
 i9:=by kernel_rfl
 i20:=by kernel_rfl
 i37:=by kernel_rfl
 i46:=by kernel_rfl
 i51:=by kernel_rfl
 i53:=by kernel_rfl
 i171:=by kernel_rfl
 i173:=by kernel_rfl
 i212:=by kernel_rfl
 i232:=by kernel_rfl
 i233:=by kernel_rfl
 m17:=by kernel_rfl
 m18:=by kernel_rfl
 m19:=by kernel_rfl}
end Go.Proofs
namespace Go.Ae
open Go.Proofs Go.Lib
def DO(n:Int):ByteArray:=⟨(Lib.itoa n).toArray⟩
def kN{C:Bb}{S:A7}(hW:Wf C S):Lib.TabIs Tryz.prog S.w "internal/strconv.uint64pow10" .u64 Lib.pow10Tab:=by
 obtain⟨_,T,z,h⟩:=hW.gp.tab;have O:Tryz.prog.globalNamed "internal/strconv.uint64pow10" =some 0:=by kernel_rfl
 have h':S.w.heap[0]? =some (.cells kM T z):=h;unfold Lib.TabIs World.var?;rw[O];simp only[Gw,h'];rfl
def SJ{C:Bb}{S:A7}(hW:Wf C S){W':World}(Q:S.w.heap.size<=W'.heap.size)(ab:W'.os=S.w.os)(ht:W'.tape=S.w.tape)(O:W'.output=S.w.output)(aa:S.w.drawn<=W'.drawn)(hk: ∀b,b<S.w.heap.size->W'.heap[b]? =S.w.heap[b]?):
 ∃(Z:Bb) (S1:A7),Z.w=S.w/\Z.ok=S.ok/\(∀b,¬Z.M b)/\Wf Z S1/\S1.w=W':=by
 refine⟨⟨S.w,λ_=>False,S.ok,0,λ_=>none,λ_=>none,[]⟩,⟨λ_=>none,S.ok,λ_=>none,W'⟩,rfl,rfl,λ_ h=>h,?_,rfl⟩;exact⟨ab,ht,O,aa,Q,λb hb _=>hk b hb,λ_ h=>h,λ_ h=> .inl h,λb hb=>FM (hW.oks b hb) Q,λo e z=>(by cases z),λo e l z=>(by cases z),λo o' e e' l l' z=>(by cases z),hW.glN λ_ h=>h.elim⟩
def fmt_.fv(a:Int×Int):ByteArray:=(λn _=>DO n) (a.1) (a.2)
def fmt_.row:AF:=CH (b2 qI qI) rT (λa=> -9223372036854775808<=a.1/\a.1<=9223372036854775807/\a.2=10) fmt_.fv
def fmt_.q:=C9 (R:=fmt_.row) rfl
def fmt_.ok:AL 144 fmt_.row:=by
 refine Quy (by kernel_rfl) (b2 qI qI).l rT.l λa O C S vs RR hW Q z=> ?_
 obtain⟨n,b⟩:=a;obtain⟨h1,h2,h3⟩:=O;simp only at h1 h2 h3;subst h3;simp only[b2,qI,Fc,IV,rd] at Q;obtain⟨v0,r0,hv,rfl,v1,r1,rfl,rfl,rfl⟩:=Q;have Z:vs= #[.int .i64 n,.int .i64 10]:=by apply bG;simpa using hv
 subst Z;refine (Any.strconv_FormatInt_10 Tryz.fmtL n h1 h2 S.w (kN hW)).mono ?_;rintro e w' ⟨rfl,k,os,rfl⟩;obtain⟨C0,S1,e1,e2,e3,e4,e5⟩:=SJ hW (W':=Sort.grow (S.w.drewN k) os) (by simp[Sort.grow]) rfl rfl rfl (Zee _ _) (λb hb=>by
  simp only[Sort.grow];rw[Zdw (by simpa using hb)]
  rfl)
 have:=z (.string (DO n)) C0 S1 (.str (DO n)) e1 e2 e3 e4 rfl (by simp only[rd])
 rw[e5] at this;exact this
def dW{s:UInt8}: ∀{a b r q:List UInt8},(∀c∈a,c≠s)->(∀c∈b,c≠s)->a++s::r=b++s::q->a=b/\r=q
 |[],[],r,q,_,_,h=>by simpa using h
 |[],y::b,r,q,_,O,h=>by
  simp only[Dg,BO,Wl] at h;exact absurd h.1.symm (O y (BU ..))
 |x::a,[],r,q,z,_,h=>by
  simp only[Dg,BO,Wl] at h;exact absurd h.1 (z x (BU ..))
 |x::a,y::b,r,q,z,O,h=>by
  simp only[BO,Wl] at h;obtain⟨Z,h2⟩:=dW (λc Q=>z c (BQ _ Q)) (λc Q=>O c (BQ _ Q)) h.2;exact⟨by rw[h.1,Z],h2⟩
def ZJ(l:List UInt8):Nat:=l.foldl (λa c=>10*a+(c.toNat - 48)) 0
def pZ{d:Nat}(h:d<10):(UInt8.ofNat (48+d)).toNat=48+d:=by
 rcases (by omega:d=0\/d=1\/d=2\/d=3\/d=4\/d=5\/d=6\/d=7\/d=8\/d=9) with rfl|rfl|rfl|rfl|rfl|rfl|rfl|rfl|rfl|rfl<;>rfl
def Rl: ∀(n u:Nat),u<=n->ZJ (decDigits u)=u/\(∀c∈decDigits u,48<=c.toNat/\c.toNat<=57)/\decDigits u≠[]
 |0,u,h=>by
  obtain rfl:u=0:=by omega
  rw[decDigits,dif_pos (by omega)];refine⟨by decide,λc z=> ?_,by simp⟩;rw[BS] at z;subst z;decide
 |n+1,u,h=>by
  rw[decDigits];split
  .rename_i O
   have:=pZ O
   refine⟨by simp only[ZJ,bD,mR,this];omega,λc z=> ?_,by simp⟩;rw[BS] at z;subst z;omega
  .rename_i O;obtain⟨Q,Z,h3⟩:=Rl n (u/10) (by omega)
   have:=pZ (d:=u % 10) (by omega)
   refine⟨?_,λc z=> ?_,by simp⟩
   .simp only[ZJ] at Q;simp only[ZJ,ZdU,bD,mR,Q,this];omega
   .rcases B7.1 z with z|z
    .exact Z c z
    .rw[BS] at z;subst z;omega
def Ml{u v:Nat}(h:decDigits u=decDigits v):u=v:=by
 have z:=(Rl u u (AU _)).1;have O:=(Rl v v (AU _)).1;rw[h] at z;omega
def dT{m n:Int}(h:itoa m=itoa n):m=n:=by
 unfold itoa at h;have hd: ∀u,decDigits u=45::decDigits u->False:=λu O=>by
  have:=Dy List.length O
  simp at this
 have z: ∀u v,¬(45::decDigits u=decDigits v):=λu v e=>by
  have:=(Rl v v (AU _)).2.1 45 (by rw[<-e];exact BU ..)
  exact absurd this.1 (by decide)
 split at h<;>split at h
 .have:=Ml (Zfh h).2
  omega
 .exact absurd h (z _ _)
 .exact absurd h.symm (z _ _)
 .have:=Ml h
  omega
def M9{n:Int}(h0: -9223372036854775808<=n)(z:n<=9223372036854775807):(itoa n).length<=21:=itoa_length_le n h0 z
def dcm_.fv(a:Int):ByteArray:=(DO) a
def dcm_.row:AF:=CH (b1 qI) rT (λa=> -9223372036854775808<=a/\a<=9223372036854775807) dcm_.fv
def dcm_.q:=C9 (R:=dcm_.row) rfl
def dcm_.ok:AL 120 dcm_.row:=by
 refine FR (tC fmt_.ok tN) Tryz.func120 ?_;intro a z;simp only[Tryz.f120,Option.getD];simp(disch:=omega)only[ZZ,simprocAttr,Ab,dcm_.fv,fmt_.q,fmt_.fv,BX,D.sc,D.scs,BM,AT];exact z
def F1{n:Int}(h0: -9223372036854775808<=n)(z:n<=9223372036854775807):(DO n).size<=21:=M9 h0 z
end Go.Ae
namespace Go.Ae
open Go.Proofs
def fE(p:AC)(k:Int):AC×AC:=(⟨p.X/k,p.Y/k⟩,⟨p.X % k,p.Y % k⟩)
def l02Index.fv(a:Ap×Int):Bool:=(λs t=>Bz t 0 (s.Tiles.length - 1)) (a.1) (a.2)
def l02Index.row:AF:=vK (b2 (qP 2 Ap.d_le) qI) rB (λa=>True) l02Index.fv
def l02Index.q:=Bd (R:=l02Index.row) rfl
def l02Index.ok:AL 102 l02Index.row:=by
 refine vw (tC l00In.ok tN) Tryz.func102 ?_;intro a z;simp only[Tryz.f102,Option.getD];simp only[ZZ,simprocAttr,Ab,l02Index.fv,l00In.q,l00In.fv];intro h;rw[AG (by omega) (by omega)]
def isTile.fv(a:Ap×Int):Bool:=(λs t=>Bz t 0 (s.Tiles.length - 1)) (a.1) (a.2)
def isTile.row:AF:=vK (b2 (qR Ap.d_le) qI) rB (λa=>True) isTile.fv
def isTile.q:=Bd (R:=isTile.row) rfl
def isTile.ok:AL 136 isTile.row:=by
 refine vw (tC isIndex.ok tN) Tryz.func136 ?_;intro a z;simp only[Tryz.f136,Option.getD];simp only[ZZ,simprocAttr,Ab,isTile.fv,isIndex.q,isIndex.fv];intro h;simp only[I64];omega
def opposite_.fv(a:Int):Int:=(λd=>(d+2) % 4) a
def opposite_.row:AF:=vK (b1 qI) rI (λa=>0<=a/\a<=3) opposite_.fv
def opposite_.q:=Bd (R:=opposite_.row) rfl
def opposite_.ok:AL 185 opposite_.row:=by
 refine vw tN Tryz.func185 ?_;intro a z;simp only[Tryz.f185,Option.getD];simp only[ZZ,simprocAttr,Ab,opposite_.fv];rw[AG (by omega) (by omega)]
 have:(0:Int)<=a+2:=by omega
 rw[ZcX this]
def l01Dir.fv(a:Int):Bool:=(λd=>Bz d 0 3) a
def l01Dir.row:AF:=vK (b1 qI) rB (λa=>True) l01Dir.fv
def l01Dir.q:=Bd (R:=l01Dir.row) rfl
def l01Dir.ok:AL 176 l01Dir.row:=by
 refine vw (tC l00In.ok tN) Tryz.func176 ?_;intro a z;simp only[Tryz.f176,Option.getD];simp only[ZZ,simprocAttr,Ab,l01Dir.fv,l00In.q,l00In.fv]
def Opposite_.fv(a:Int):Int:=(λd=>(d+2) % 4) a
def Opposite_.row:AF:=vK (b1 qI) rI (λa=>0<=a/\a<=3) Opposite_.fv
def Opposite_.q:=Bd (R:=Opposite_.row) rfl
def Opposite_.ok:AL 147 Opposite_.row:=by
 refine vw (tC l01Dir.ok tN) Tryz.func147 ?_;intro a z;simp only[Tryz.f147,Option.getD];simp only[ZZ,simprocAttr,Ab,Opposite_.fv,l01Dir.q,l01Dir.fv];have h:Bz a 0 3=true:=by simp[Bz,z]
 rw[h,Af (by simp),AG (by omega) (by omega)]
 have:(0:Int)<=a+2:=by omega
 rw[ZcX this]
def l07Temperature.fv(a:Int):Bool:=(λt=>Bz t 1 16) a
def l07Temperature.row:AF:=vK (b1 qI) rB (λa=>True) l07Temperature.fv
def l07Temperature.q:=Bd (R:=l07Temperature.row) rfl
def l07Temperature.ok:AL 63 l07Temperature.row:=by
 refine vw (tC l00In.ok tN) Tryz.func63 ?_;intro a z;simp only[Tryz.f63,Option.getD];simp only[ZZ,simprocAttr,Ab,l07Temperature.fv,l00In.q,l00In.fv]
def isTemperature.fv(a:Int):Bool:=(λt=>Bz t 1 16) a
def isTemperature.row:AF:=vK (b1 qI) rB (λa=>True) isTemperature.fv
def isTemperature.q:=Bd (R:=isTemperature.row) rfl
def isTemperature.ok:AL 111 isTemperature.row:=by
 refine vw (tC within_.ok tN) Tryz.func111 ?_;intro a z;simp only[Tryz.f111,Option.getD];simp only[ZZ,simprocAttr,Ab,isTemperature.fv,within_.q,within_.fv]
def blockSizeOk.fv(a:Int):Bool:=(λt=>Bz t 1 4) a
def blockSizeOk.row:AF:=vK (b1 qI) rB (λa=>True) blockSizeOk.fv
def blockSizeOk.q:=Bd (R:=blockSizeOk.row) rfl
def blockSizeOk.ok:AL 42 blockSizeOk.row:=by
 refine vw (tC within_.ok tN) Tryz.func42 ?_;intro a z;simp only[Tryz.f42,Option.getD];simp only[ZZ,simprocAttr,Ab,blockSizeOk.fv,within_.q,within_.fv]
def Dt(s:Ap):Prop:=s.Glues.length<=140737488355328/\(∀t∈s.Tiles,t.Sides.length=4/\ ∀g∈t.Sides,0<=g/\g<=s.Glues.length)/\ ∀g∈s.Glues,1<=g.Strength/\g.Strength<=4
def FZ(s:Ap)(z O:Int):Int:=((((s.Tiles[z.toNat]?).map Tile.Sides).getD [])[O.toNat]?).getD 0
def Rz(s:Ap)(g:Int):Int:=if 0<g then ((s.Glues[(g - 1).toNat]?).map Ad.Strength).getD 0 else 0
def VW(s:Ap)(a z b:Int):Int:=if FZ s a z=FZ s b ((z+2) % 4) then Rz s (FZ s a z) else 0
def eP(s:Ap)(t:Int):Prop:=0<=t/\t<s.Tiles.length
def S5(d:Int):Prop:=0<=d/\d<=3
def tX{s:Ap}{t d:Int}{x:Tile}{g:Int}(O:s.Tiles[t.toNat]? =some x)(z:x.Sides[d.toNat]? =some g):FZ s t d=g:=by
 simp[FZ,O,z]
def Mx{s:Ap}{g:Int}{x:Ad}(h:0<g)(z:s.Glues[(g - 1).toNat]? =some x):Rz s g=x.Strength:=by
 simp only[Rz,Ai h,z];rfl
def Yj{s:Ap}{g:Int}(h: ¬0<g):Rz s g=0:=by
 simp[Rz,h]
def sK{s:Ap}(h:Dt s){t:Int}{x:Tile}(z:s.Tiles[t.toNat]? =some x):x.Sides.length=4:=(h.2.1 x (Bg z)).1
def Qvv{s:Ap}(h:Dt s){t d:Int}{x:Tile}{g:Int}(O:s.Tiles[t.toNat]? =some x)(z:x.Sides[d.toNat]? =some g):0<=g/\g<=s.Glues.length:=(h.2.1 x (Bg O)).2 g (Bg z)
def l02Strength.fv(a:Ap×Int):Int:=(Rz) (a.1) (a.2)
def l02Strength.row:AF:=vK (b2 (qP 2 Ap.d_le) qI) rI (λa=>0<=a.2/\a.2<=a.1.Glues.length/\a.1.Glues.length<=140737488355328) l02Strength.fv
def l02Strength.q:=Bd (R:=l02Strength.row) rfl
def l02Strength.ok:AL 148 l02Strength.row:=by
 refine vw tN Tryz.func148 ?_;intro a z;simp only[Tryz.f148,Option.getD];simp only[ZZ,simprocAttr,Ab,l02Strength.fv];obtain⟨Q,Z,h3⟩:=z
 split<;>rename_i h
 .simp[Rz,h]
 .rw[AG (by omega) (by omega)];exact⟨by omega,by omega,λx O=>(Mx (by omega) O).symm⟩
def strength_.fv(a:Ap×Int×Int):Int:=(λs t d=>Rz s (FZ s t d)) (a.1) (a.2.1) (a.2.2)
def strength_.row:AF:=vK (b3 (qR Ap.d_le) qI qI) rI (λa=>Dt a.1/\eP a.1 a.2.1/\S5 a.2.2) strength_.fv
def strength_.q:=Bd (R:=strength_.row) rfl
def strength_.ok:AL 186 strength_.row:=by
 refine vw tN Tryz.func186 ?_;intro a z;simp only[Tryz.f186,Option.getD];simp only[ZZ,simprocAttr,Ab,strength_.fv];obtain⟨O,Z,h3⟩:=z;refine⟨Z.1,Z.2,λx Q=>⟨h3.1,?_,λg hg=> ?_⟩⟩
 .rw[sK O Q];have:=h3.2;omega
 .have aa:=Qvv O Q hg
  have:=O.1
  rw[tX Q hg]
  split<;>rename_i h
  .rw[AG (by omega) (by omega)];exact⟨by omega,by omega,λy hy=>(Mx h hy).symm⟩
  .exact (Yj h).symm
def bond_.rc:D->Option (Int):=Ey
def bond_.re:Int->D:=D.int .i64
def bond_.rle: ∀d b,bond_.rc d=some b->Le d (bond_.re b):=cW
def bond_.ar:List PK->Option (Ap×Int×Int×Int):=a4 (kR Ap.d) kI kI kI
def bond_.fv(a:Ap×Int×Int×Int):Int:=(VW) (a.1) (a.2.1) (a.2.2.1) (a.2.2.2)
def bond_.row:AF:=vK (b4 (qR Ap.d_le) qI qI qI) (RK.mk bond_.rc bond_.re bond_.rle) (λa=>Dt a.1/\eP a.1 a.2.1/\S5 a.2.2.1/\eP a.1 a.2.2.2) bond_.fv
def bond_.q:=Bd (R:=bond_.row) rfl
def bond_.ok:AL 161 bond_.row:=by
 refine vw (tC opposite_.ok (tC strength_.ok tN)) Tryz.func161 ?_;intro a O;simp only[Tryz.f161,Option.getD];simp only[ZZ,simprocAttr,Ab,bond_.fv,bond_.rc,opposite_.q,opposite_.fv,strength_.q,strength_.fv];obtain⟨Q,Z,z,h4⟩:=O;have h5:=z.1;have h6:=z.2;refine⟨Z.1,Z.2,λx hx=>⟨z.1,by rw[sK Q hx];omega,λg hg=>⟨h4.1,h4.2,λy hy=>⟨z,by omega,by rw[sK Q hy];omega,λg' aa=> ?_⟩⟩⟩⟩;simp only[VW,tX hx hg,tX hy aa];split
 .exact⟨⟨Q,Z,z⟩,rfl⟩
 .rfl
def l02Bond.fv(a:Ap×Int×Int×Int):Int:=(VW) (a.1) (a.2.1) (a.2.2.1) (a.2.2.2)
def l02Bond.row:AF:=vK (b4 (qP 2 Ap.d_le) qI qI qI) rI (λa=>Dt a.1/\eP a.1 a.2.1/\S5 a.2.2.1/\eP a.1 a.2.2.2) l02Bond.fv
def l02Bond.q:=Bd (R:=l02Bond.row) rfl
def l02Bond.ok:AL 129 l02Bond.row:=by
 refine vw (tC Opposite_.ok (tC l02Strength.ok tN)) Tryz.func129 ?_;intro a Q;simp only[Tryz.f129,Option.getD];simp only[ZZ,simprocAttr,Ab,l02Bond.fv,Opposite_.q,Opposite_.fv,l02Strength.q,l02Strength.fv];obtain⟨z,h2,Z,h4⟩:=Q;have h5:=Z.1;have h6:=Z.2;refine⟨h2.1,h2.2,λx hx=>⟨Z.1,by rw[sK z hx];omega,λg hg=>⟨h4.1,h4.2,λy hy=>⟨Z,by omega,by rw[sK z hy];omega,λg' aa=> ?_⟩⟩⟩⟩;have O:=Qvv z hx hg
 have:=z.1
 simp only[VW,tX hx hg,tX hy aa]
 split<;>rename_i h
 .first|rw[Af h]|rfl
 .rw[Ai (GK.1 h)];exact⟨⟨O.1,O.2,z.1⟩,rfl⟩
def Dm:Option AC->List Al->Bool
 |_,[]=>true
 |q,x::r=>Ic x.At && (Bz x.Tile 0 159 && ((match q with|none=>true|some p=>Co p x.At) && Dm (some x.At) r))
def rJ(q:Option AC)(x:Al)(r:List Al):Dm q (x::r)=(Ic x.At && (Bz x.Tile 0 159 && ((match q with|none=>true|some p=>Co p x.At) && Dm (some x.At) r))):=by cases q<;>rfl
def Qik(q:Option AC):Dm q []=true:=by cases q<;>rfl
def He(l:List Al)(k:Nat):Option AC:=if k=0 then none else (l[k - 1]?).map (·.At)
def Qn2{l:List Al}{k:Nat}{x:Al}(z:l[k]? =some x):He l (k+1)=some x.At:=by
 simp[He,z]
def HI{A:Type}{l:List A}{k:Nat}{x:A}(z:l[k]? =some x):l.drop k=x::l.drop (k+1):=by
 have O:k<l.length:=(C6.1 z).1;rw[Wi O];rw[BA O] at z;rw[AJ z]
def hasForm_.fv(a:AB):Bool:=(λa=>Dm none a.Tiles && decide (a.Tiles.length<=500)) a
def hasForm_.row:AF:=vK (b1 (qR AB.d_le)) rB (λa=>True) hasForm_.fv
def hasForm_.q:=Bd (R:=hasForm_.row) rfl
def Yaj:=J @hasForm_.fv.eq_1<|J @ValidPoint.q<|J @ValidPoint.fv.eq_1<|J @isIndex.q<|J @isIndex.fv.eq_1<|J @impl_LessPoint.q @impl_LessPoint.fv.eq_1
def hasForm_.ok:AL 80 hasForm_.row:=by
 refine vw (tC ValidPoint.ok (tC isIndex.ok (tC impl_LessPoint.ok tN))) Tryz.func80 ?_;intro a ab;simp only[Tryz.f80,Option.getD];simp only[ZZ,simprocAttr,Ab,Yaj];intro aa;refine Ba.old ⟨{k:Nat//k<=a.Tiles.length/\Dm (He a.Tiles k) (a.Tiles.drop k)=Dm none a.Tiles},λk=>⟨[(8,.im (.int .i64 k.1)),(7,.im (.int .i64 a.Tiles.length)),(6,.im (.sl false 3 (a.Tiles.map Al.c))),(1,.ptr 0 0),(2,.im (.bool false))],[(0,(true,.cells 38 [.im (.sl false 3 (a.Tiles.map Al.c))]))],1⟩,λk=>a.Tiles.length - k.1,λk=>⟨by simp[ZG],AU _⟩,⟨⟨0,by simp[He]⟩,by simp only[ZZ,simprocAttr,Ab,Yaj,sub]⟩,λk=> ?_⟩;obtain⟨k,ac,O⟩:=k;simp only[ZZ,simprocAttr,Ab,Yaj,sub,AP];refine⟨λhk=>⟨hk,λx hx=> ?_⟩,λhk=> ?_⟩
 .rw[HI hx,rJ] at O;have Q:(Ic x.At && (Bz x.Tile 0 159 && (match He a.Tiles k with|none=>true|some p=>Co p x.At)))=false->false=(Dm none a.Tiles && decide (a.Tiles.length<=500)):=by
   intro h;rw[<-O];revert h;cases Ic x.At<;>cases Bz x.Tile 0 159<;>cases (match He a.Tiles k with|none=>true|some p=>Co p x.At)<;>simp
  have z:(Ic x.At && (Bz x.Tile 0 159 && (match He a.Tiles k with|none=>true|some p=>Co p x.At)))=true->Dm (He a.Tiles (k+1)) (a.Tiles.drop (k+1))=Dm none a.Tiles:=by
   intro h;rw[<-O,Qn2 hx];simp only[AY] at h;simp[h.1,h.2.1,h.2.2]
  refine⟨λZ=>⟨by simp[I64],⟨λh2=>⟨λh3=> ?_,λh3=> ?_⟩,λh2=>Q (by simp[h2])⟩⟩,λZ=>Q (by simp[Z])⟩
  .rw[AG (x:=(k:Int) - 1) (by omega) (by omega)];refine⟨by omega,by omega,λy hy=> ?_⟩;have hp:He a.Tiles k=some y.At:=by
    have e:((k:Int) - 1).toNat=k - 1:=by omega
    rw[e] at hy;simp[He,hy,show k≠0 by omega]
   rw[hp] at Q z;exact⟨λh4=>Q (by simp[h4]),λh4=>Je hk (by omega) ⟨by omega,z (by simp[Z,h2];simpa using h4)⟩⟩
  .have hp:He a.Tiles k=none:=by simp[He,show k=0 by omega]
   rw[hp] at z;exact Je hk (by omega) ⟨by omega,z (by simp[Z,h2])⟩
 .rw[DY (by omega),Qik] at O;simp only[<-O,EL]
  grind
def l03Form.fv(a:AB):Bool:=(λa=>Dm none a.Tiles && decide (a.Tiles.length<=500)) a
def l03Form.row:AF:=vK (b1 (qP 1 AB.d_le)) rB (λa=>True) l03Form.fv
def l03Form.q:=Bd (R:=l03Form.row) rfl
def Yak:=J @l03Form.fv.eq_1<|J @l01Point.q<|J @l01Point.fv.eq_1<|J @l00In.q<|J @l00In.fv.eq_1<|J @l_LessPoint.q @l_LessPoint.fv.eq_1
def l03Form.ok:AL 101 l03Form.row:=by
 refine vw (tC l01Point.ok (tC l00In.ok (tC l_LessPoint.ok tN))) Tryz.func101 ?_;intro a ab;simp only[Tryz.f101,Option.getD];simp only[ZZ,simprocAttr,Ab,Yak];intro aa;simp only[AP];refine⟨λh=> ?_,λh=> ?_⟩
 .have: ¬a.Tiles.length<=500:=by omega
  simp[this]
 refine Ba.old ⟨{k:Nat//k<=a.Tiles.length/\Dm (He a.Tiles k) (a.Tiles.drop k)=Dm none a.Tiles},λk=>⟨[(3,.im (.int .i64 k.1)),(0,.ptr 0 0),(2,.im (.bool false))],[(0,(false,.view [.sl false 3 (a.Tiles.map Al.c)]))],1⟩,λk=>a.Tiles.length - k.1,λk=>⟨by simp[ZG],AU _⟩,⟨⟨0,by simp[He]⟩,by simp only[ZZ,simprocAttr,Ab,Yak,sub]⟩,λk=> ?_⟩;obtain⟨k,ac,O⟩:=k;simp only[ZZ,simprocAttr,Ab,Yak,sub,AP];intro _;refine⟨λhk=>⟨hk,λx hx=> ?_⟩,λhk=> ?_⟩
 .rw[HI hx,rJ] at O;have Q:(Ic x.At && (Bz x.Tile 0 159 && (match He a.Tiles k with|none=>true|some p=>Co p x.At)))=false->false=(Dm none a.Tiles && decide (a.Tiles.length<=500)):=by
   intro h;rw[<-O];revert h;cases Ic x.At<;>cases Bz x.Tile 0 159<;>cases (match He a.Tiles k with|none=>true|some p=>Co p x.At)<;>simp
  have z:(Ic x.At && (Bz x.Tile 0 159 && (match He a.Tiles k with|none=>true|some p=>Co p x.At)))=true->Dm (He a.Tiles (k+1)) (a.Tiles.drop (k+1))=Dm none a.Tiles:=by
   intro h;rw[<-O,Qn2 hx];simp only[AY] at h;simp[h.1,h.2.1,h.2.2]
  refine⟨λZ=>⟨λh2=>⟨λh3=> ?_,λh3=> ?_⟩,λh2=>Q (by simp[h2])⟩,λZ=>Q (by simp[Z])⟩
  .rw[AG (x:=(k:Int) - 1) (by omega) (by omega)];refine⟨by omega,by omega,λy hy=> ?_⟩;have hp:He a.Tiles k=some y.At:=by
    have e:((k:Int) - 1).toNat=k - 1:=by omega
    rw[e] at hy;simp[He,hy,show k≠0 by omega]
   rw[hp] at Q z;exact⟨λh4=>Q (by simp[h4]),λh4=>Je hk (by omega) ⟨by omega,z (by simp[Z,h2];simpa using h4)⟩⟩
  .have hp:He a.Tiles k=none:=by simp[He,show k=0 by omega]
   rw[hp] at z;exact Je hk (by omega) ⟨by omega,z (by simp[Z,h2])⟩
 .rw[DY (by omega),Qik] at O;simp only[<-O,EL]
  grind
def Cb{A:Type}(p:A->Bool):Nat->List A->Int
 |_,[]=> -1
 |i,x::r=>if p x=true then i else Cb p (i+1) r
def l02Glue.fv(a:Ap×ByteArray):Int:=(λs n=>Cb (λg=>decide (g.Name=n)) 0 s.Glues+1) (a.1) (a.2)
def l02Glue.row:AF:=vK (b2 (qP 2 Ap.d_le) qT) rI (λa=>True) l02Glue.fv
def l02Glue.q:=Bd (R:=l02Glue.row) rfl
def l02Glue.ok:AL 99 l02Glue.row:=by
 refine vw tN Tryz.func99 ?_;intro a Q;simp only[Tryz.f99,Option.getD];simp only[ZZ,simprocAttr,Ab,l02Glue.fv];refine Ba.old ⟨{k:Nat//k<=a.1.Glues.length/\Cb (λg:Ad=>decide (g.Name=a.2)) k (a.1.Glues.drop k)=Cb (λg:Ad=>decide (g.Name=a.2)) 0 a.1.Glues},λk=>⟨[(5,.im (.int .i64 k.1)),(4,.im (.int .i64 0)),(0,.ptr 0 0),(1,.im (.str a.2))],[(0,(false,.view [.sl false 2 (a.1.Glues.map Ad.c),.sl false 2 (a.1.Tiles.map Tile.c)]))],1⟩,λk=>a.1.Glues.length - k.1,λk=>⟨by simp[ZG],AU _⟩,⟨⟨0,by simp⟩,by simp only[ZZ,simprocAttr,Ab,l02Glue.fv,sub]⟩,λk=> ?_⟩;obtain⟨k,Z,z⟩:=k;simp only[ZZ,simprocAttr,Ab,l02Glue.fv,sub,AP];intro hn;refine⟨λO=>⟨O,λx hx=> ?_⟩,λO=> ?_⟩
 .rw[HI hx,Cb] at z;refine⟨λh=> ?_,λh=>Je O hn ⟨by omega,by rw[<-z,Af (by simpa using h)]⟩⟩;rw[Ai (by simpa using h)] at z;rw[<-z,AG (by omega) (by omega)]
 .rw[DY (by omega),Cb] at z;omega
def VA1.fv(a:Al×Ap):Bool:=(λx s=> !Bz x.Tile 0 (s.Tiles.length - 1)) (a.1) (a.2)
def VA1.row:AF:=vK (b2 (qR Al.d_le) (qP 2 Ap.d_le)) rB (λa=>True) VA1.fv
def VA1.q:=Bd (R:=VA1.row) rfl
def VA1.ok:AL 135 VA1.row:=by
 refine vw (tC isTile.ok tN) Tryz.func135 ?_;intro a z;simp only[Tryz.f135,Option.getD];simp only[ZZ,simprocAttr,Ab,VA1.fv,isTile.q,isTile.fv]
def IdxVA.ar:List PK->Option ((List Al)×Ap)
 |[.val (.sl _ _ Q),.val (.fn 135 [] [.ref z])]=>(AZ Al.d Q).bind λZ=>(Ap.d (z.take 2)).bind λO=>some (Z,O)
 |_=>none
def IdxVA.ae(a:(List Al)×Ap):List PK:=[.val (.sl false 3 (a.1.map Al.c)),.val (.fn 135 [] [.ref (Ap.c a.2)])]
def IdxVA.le: ∀O a,IdxVA.ar O=some a->Cy O (IdxVA.ae a):=by
 intro O a h;unfold IdxVA.ar at h;split at h
 .simp only[GI,AN] at h;obtain⟨Z,h0,Q,z,rfl⟩:=h;exact⟨EY (EN Al.d_le _ _ h0) (by simp only[Bl];rintro r ⟨y,_,rfl⟩;rfl),mC ⟨sJ (IG.trans_take (Ap.d_le _ _ z)),trivial⟩,trivial⟩
 .cases h
def IdxVA.fv(a:(List Al)×Ap):Int:=(λl s=>Cb (λx=> !Bz x.Tile 0 (s.Tiles.length - 1)) 0 l) (a.1) (a.2)
def IdxVA.row:AF:=EX IdxVA.ar (λa=>True) (λa=>(D.int .i64) (IdxVA.fv a))
def IdxVA.q:=vq IdxVA.row rfl
def IdxVA.ok:AL 155 IdxVA.row:=by
 refine kZ Fw (tC VA1.ok tN) Tryz.func155 rfl (by kernel_rfl) (by kernel_rfl) (ar:=IdxVA.ar) (ae:=IdxVA.ae) IdxVA.le (n:=2) (λ_=>rfl) (by decide) (rc:=(Ey)) (re:=(D.int .i64)) (cW) (f:=IdxVA.fv) ?_;intro a Q;simp only[Tryz.f155,Option.getD];simp only[ZZ,simprocAttr,Ab,IdxVA.ae,IdxVA.fv,VA1.q,VA1.fv];intro hn;refine Ba.old ⟨{k:Nat//k<=a.1.length/\Cb (λx:Al=> !Bz x.Tile 0 (a.2.Tiles.length - 1)) k (a.1.drop k)=Cb (λx:Al=> !Bz x.Tile 0 (a.2.Tiles.length - 1)) 0 a.1},λk=>⟨[(8,.im (.int .i64 k.1)),(7,.im (.int .i64 a.1.length)),(6,.im (.sl false 3 (a.1.map Al.c))),(4,.im (.int .i64 0)),(0,.im (.sl false 3 (a.1.map Al.c))),(1,.im (.fn 135 [] [.ref (Ap.c a.2)]))],[],0⟩,λk=>a.1.length - k.1,λk=>⟨by simp[ZG],AU _⟩,⟨⟨0,by simp⟩,by simp only[ZZ,simprocAttr,Ab,IdxVA.ae,IdxVA.fv,VA1.q,VA1.fv,sub]⟩,λk=> ?_⟩;obtain⟨k,Z,z⟩:=k;simp only[ZZ,simprocAttr,Ab,IdxVA.ae,IdxVA.fv,VA1.q,VA1.fv,sub,AP];refine⟨λO=>⟨O,λx hx=> ?_⟩,λO=> ?_⟩
 .rw[HI hx,Cb] at z;refine⟨λh=> ?_,λh=>Je O hn ⟨by omega,by rw[<-z,Af (by simpa using h)]⟩⟩;rw[Ai (by simpa using h)] at z;exact z
 .rw[DY (by omega),Cb] at z;exact z
def Qyg{A:Type}(p:A->Bool): ∀(l:List A) (i:Nat),(0<=Cb p i l↔l.any p=true)/\ -1<=Cb p i l/\Cb p i l<(i+l.length:Nat)\/(l=[]/\Cb p i l= -1):=by
 intro l;induction l with
 |nil=>intro i;exact .inr ⟨rfl,rfl⟩
 |cons x r ih=>
  intro i;refine .inl ?_;simp only[Cb,List.any_cons,Dx]
  split<;>rename_i h
  .simp[h];omega
  .rcases ih (i+1) with ⟨O,z,Q⟩|⟨rfl,z⟩
   .simp only[mW] at h;rw[h,vP];exact⟨O,z,by omega⟩
   .simp[z,h];omega
def M6{A:Type}(p:A->Bool)(l:List A):decide (0<=Cb p 0 l)=l.any p:=by
 rw[mX];rcases Qyg p l 0 with ⟨z,_⟩|⟨rfl,O⟩
 .simpa using z
 .simp[O]
def ContVA.ar:List PK->Option ((List Al)×Ap)
 |[.val (.sl _ _ Q),.val (.fn 135 [] [.ref z])]=>(AZ Al.d Q).bind λZ=>(Ap.d (z.take 2)).bind λO=>some (Z,O)
 |_=>none
def ContVA.ae(a:(List Al)×Ap):List PK:=[.val (.sl false 3 (a.1.map Al.c)),.val (.fn 135 [] [.ref (Ap.c a.2)])]
def ContVA.le: ∀O a,ContVA.ar O=some a->Cy O (ContVA.ae a):=by
 intro O a h;unfold ContVA.ar at h;split at h
 .simp only[GI,AN] at h;obtain⟨Z,h0,Q,z,rfl⟩:=h;exact⟨EY (EN Al.d_le _ _ h0) (by simp only[Bl];rintro r ⟨y,_,rfl⟩;rfl),mC ⟨sJ (IG.trans_take (Ap.d_le _ _ z)),trivial⟩,trivial⟩
 .cases h
def ContVA.fv(a:(List Al)×Ap):Bool:=(λl s=>l.any (λx=> !Bz x.Tile 0 (s.Tiles.length - 1))) (a.1) (a.2)
def ContVA.row:AF:=EX ContVA.ar (λa=>True) (λa=>(D.bool) (ContVA.fv a))
def ContVA.q:=vq ContVA.row rfl
def ContVA.ok:AL 134 ContVA.row:=by
 refine kZ Fw (tC IdxVA.ok tN) Tryz.func134 rfl (by kernel_rfl) (by kernel_rfl) (ar:=ContVA.ar) (ae:=ContVA.ae) ContVA.le (n:=2) (λ_=>rfl) (by decide) (rc:=(W4)) (re:=(D.bool)) (pY) (f:=ContVA.fv) ?_;intro a z;simp only[Tryz.f134,Option.getD];simp only[ZZ,simprocAttr,Ab,ContVA.ae,ContVA.fv,IdxVA.q,IdxVA.ar,IdxVA.fv];exact M6 _ _
def l03Ok.fv(a:Ap×AB):Bool:=(λs a=>(Dm none a.Tiles && decide (a.Tiles.length<=500)) && a.Tiles.all (λx=>Bz x.Tile 0 (s.Tiles.length - 1))) (a.1) (a.2)
def l03Ok.row:AF:=vK (b2 (qP 2 Ap.d_le) (qP 1 AB.d_le)) rB (λa=>True) l03Ok.fv
def l03Ok.q:=Bd (R:=l03Ok.row) rfl
def Yal:=J @l03Ok.fv.eq_1<|J @l03Form.q<|J @l03Form.fv.eq_1<|J @l02Index.q @l02Index.fv.eq_1
def l03Ok.ok:AL 62 l03Ok.row:=by
 refine vw (tC l03Form.ok (tC l02Index.ok tN)) Tryz.func62 ?_;intro a Z;simp only[Tryz.f62,Option.getD];simp only[ZZ,simprocAttr,Ab,Yal];simp only[AP];refine⟨λh=>by simp[h],λh=> ?_⟩;simp only[KR] at h;refine Ba.old ⟨{k:Nat//k<=a.2.Tiles.length/\(a.2.Tiles.drop k).all (λx=>Bz x.Tile 0 (a.1.Tiles.length - 1))=a.2.Tiles.all (λx=>Bz x.Tile 0 (a.1.Tiles.length - 1))},λk=>⟨[(5,.im (.int .i64 k.1)),(4,.im (.bool false)),(0,.ptr 0 0),(1,.ptr 1 0)],[(0,(false,.view (Ap.c a.1))),(1,(false,.view (AB.c a.2)))],2⟩,λk=>a.2.Tiles.length - k.1,λk=>⟨by simp[ZG],AU _⟩,⟨⟨0,by simp⟩,by simp only[ZZ,simprocAttr,Ab,Yal,sub]⟩,λk=> ?_⟩;obtain⟨k,aa,z⟩:=k;simp only[ZZ,simprocAttr,Ab,Yal,sub,AP];intro hn;refine⟨λQ=>⟨Q,λx hx=> ?_⟩,λQ=> ?_⟩
 .rw[HI hx,EZ] at z;refine⟨λO=> ?_,λO=>Je Q hn ⟨by omega,?_⟩⟩
  .rw[O] at z;simp only[Gu] at z;rw[h,<-z];rfl
  .simp only[KR] at O;rw[O,EL] at z;exact z
 .rw[DY (by omega)] at z;rw[h,<-z];rfl
end Go.Ae
namespace Go.Ae
open Go.Proofs Go.Lib
def cC(c:UInt8):Bool:=decide (c.toNat<48)||decide (57<c.toNat)
def xH(r:List UInt8):Prop:= ∀c,r.head? =some c->cC c=false
def dX: ∀{w r:List UInt8},(∀c∈w,cC c=true)->xH r->(w++r).takeWhile cC=w
 |[],[],_,_=>rfl
 |[],c::r,_,h=>by
  have:=h c rfl
  simp[ZdH,this]
 |c::w,r,z,h=>by
  have O:=dX (w:=w) (r:=r) (λx Q=>z x (BQ _ Q)) h
  have:=z c (BU ..)
  simp[ZdH,this,O]
def WV(k:Nat):(∀c∈itoa (k:Int),cC c=false)/\itoa (k:Int)≠[]:=by
 unfold itoa;rw[Af (by omega),Bq];obtain⟨_,z,O⟩:=Rl k k (AU _);refine⟨λc Q=> ?_,O⟩
 have:=z c Q
 simp only[cC,Zfe,Kd];omega
def EO(k:Nat)(r:List UInt8):xH (itoa (k:Int)++r):=by
 obtain⟨O,Q⟩:=WV k;intro c z;cases h:itoa (k:Int) with
 |nil=>exact absurd h Q
 |cons x t=>
  rw[h] at z;simp at z;subst z;exact O x (by rw[h];exact BU ..)
def NL{a b c d:Nat}(h:itoa (a:Int)++95::itoa (b:Int)=itoa (c:Int)++95::itoa (d:Int)):a=c/\b=d:=by
 have z: ∀k:Nat,∀c∈itoa (k:Int),c≠95:=λk c z e=>by
  have:=(WV k).1 c z
  subst e;revert this;decide
 obtain⟨O,Q⟩:=dW (z a) (z c) h;have Z:=dT O;have e2:=dT Q;omega
def Lu(w:ByteArray)(n:Int):ByteArray:=w++DO n
def E4(w:ByteArray)(a b:Int):ByteArray:=Lu w a++⟨#[95]⟩++DO b
def H5(b:ByteArray):List UInt8:=b.data.toList
def K8(w:ByteArray)(a b:Int):H5 (E4 w a b)=H5 w++(itoa a++95::itoa b):=by simp[H5,E4,Lu,DO]
def MU{w:ByteArray}{n:Int}(h0: -9223372036854775808<=n)(z:n<=9223372036854775807):(Lu w n).size<=w.size+21:=by
 have:=F1 h0 z
 simp only[Lu,Wo];omega
def eD{w:ByteArray}{a b:Int}(h0: -9223372036854775808<=a)(z:a<=9223372036854775807)(O: -9223372036854775808<=b)(Q:b<=9223372036854775807):(E4 w a b).size<=w.size+43:=by
 have Z:=MU (w:=w) h0 z;have e2:=F1 O Q;have e3:(⟨#[95]⟩:ByteArray).size=1:=rfl;simp only[E4,Wo];omega
def jY(g:List Ad)(nm:ByteArray):Int:=Cb (λx=>decide (x.Name=nm)) 0 g+1
def Ck(g:List Ad):List (D×D):=(g.foldl (λ(s:List (D×D)×Int) x=>(EF s.1 (.str x.Name) (.int .i64 (s.2+1)),s.2+1)) ([(.str ⟨#[45]⟩,.int .i64 0)],0)).1
def TU(g:List Ad)(m:List (D×D))(k:Int):(g.foldl (λ(s:List (D×D)×Int) x=>(EF s.1 (.str x.Name) (.int .i64 (s.2+1)),s.2+1)) (m,k)).2=k+g.length:=by
 induction g generalizing m k with
 |nil=>simp
 |cons x g ih=>simp only[bD,ih,Dx];omega
def qE(g:List Ad)(x:Ad):Ck (g++[x])=EF (Ck g) (.str x.Name) (.int .i64 (g.length+1:Nat)):=by
 have:=TU g [(.str ⟨#[45]⟩,.int .i64 0)] 0
 simp only[Ck,ZdU,bD,mR,this];congr 2;omega
def Ov(m:List (D×D))(nm:ByteArray):Int:=match lk m (.str nm) with
 |some (.int _ n)=>n
 |_=>0
def EW(g:List Ad)(nm:ByteArray):Int:=Ov (Ck g) nm
def T3(m:List (D×D))(a b:ByteArray)(v:D)(z: ∀e∈m,∃s,e.1= .str s):lk (EF m (.str a) v) (.str b)=if b=a then some v else lk m (.str b):=by
 induction m with
 |nil=>
  simp only[EF,lk,D.beq,aP];by_cases c:b=a
  .rw[Ai c,Wn c];rfl
  .rw[Af c,QN c];rfl
 |cons e m ih=>
  obtain⟨s,O⟩:=z e (BU ..);obtain⟨k,w⟩:=e;simp only at O;subst O;have ih:=ih λe Q=>z e (BQ _ Q)
  simp only[EF,D.beq,aP];by_cases c1:a=s
  .subst c1;rw[Wn rfl];simp only[Cg,lk,D.beq,aP];by_cases c:b=a
   .rw[Ai c,Wn c];rfl
   .rw[Af c,QN c];rfl
  .rw[QN c1];simp only[Bk,lk,D.beq,aP];by_cases c:b=s
   .subst c;rw[Wn rfl,Af (λh=>c1 h.symm)];rfl
   .rw[QN c];simp only[Bk];exact ih
def ZE(m:List (D×D))(a:ByteArray)(v:D)(O: ∀e∈m,∃s,e.1= .str s): ∀e∈EF m (.str a) v,∃s,e.1= .str s:=by
 induction m with
 |nil=>intro e z;simp only[EF,BS] at z;subst z;exact⟨a,rfl⟩
 |cons x m ih=>
  intro e z;obtain⟨k,w⟩:=x;simp only[EF] at z;cases h:D.beq (.str a) k with
  |true=>
   rw[h] at z;rcases Br.1 z with rfl|z
   .exact⟨a,rfl⟩
   .exact O e (BQ _ z)
  |false=>
   rw[h] at z;rcases Br.1 z with rfl|z
   .exact O (k,w) (BU ..)
   .exact ih (λe z=>O e (BQ _ z)) e z
def TV(g:List Ad): ∀e∈Ck g,∃s,e.1=D.str s:=by
 have z: ∀(g:List Ad) (m:List (D×D)) (k:Int),(∀e∈m,∃s,e.1=D.str s)-> ∀e∈(g.foldl (λ(s:List (D×D)×Int) x=>(EF s.1 (.str x.Name) (.int .i64 (s.2+1)),s.2+1)) (m,k)).1,∃s,e.1=D.str s:=by
  intro g;induction g with
  |nil=>intro m k h;exact h
  |cons x g ih=>intro m k h;exact ih _ _ (ZE m x.Name _ h)
 refine z g _ 0 λe O=> ?_
 simp only[BS] at O;subst O;exact⟨_,rfl⟩
def qD{A:Type}{p:A->Bool}{x:A}(O:p x=true): ∀(l:List A) (o:Nat),(∀y∈l,p y=false)->Cb p o (l++[x])=((o+l.length:Nat):Int)
 |[],o,_=>by
  simp only[Dg,Cb];rw[Ai O];rfl
 |y::l,o,h=>by
  simp only[BO,Cb];rw[Af (by rw[h y (BU ..)];decide),qD O l (o+1) λz Q=>h z (BQ _ Q),Dx,show o+1+l.length=o+(l.length+1) by omega]
def qF{A:Type}{p:A->Bool}{x:A}(z:p x=false): ∀(l:List A) (o:Nat),Cb p o (l++[x])=Cb p o l
 |[],o=>by
  simp only[Dg,Cb];rw[Af (by rw[z];decide)]
 |y::l,o=>by
  simp only[BO,Cb,qF z l (o+1)]
def Ve: ∀(n:Nat) {g:List Ad},g.length=n->(g.map Ad.Name).Nodup->(⟨#[45]⟩:ByteArray)∉g.map Ad.Name-> ∀(nm:ByteArray),EW g nm=if nm=⟨#[45]⟩ then 0 else jY g nm
 |0,g,z,_,_,nm=>by
  obtain rfl:=Wj.1 z;simp only[EW,Ov,Ck,mR,lk,D.beq,aP];by_cases c:nm=⟨#[45]⟩
  .rw[Ai c,Wn c];rfl
  .rw[Af c,QN c];rfl
 |n+1,g',z,hn,hd,nm=>by
  rcases ZeS g' with rfl|⟨g,x,rfl⟩
  .simp at z
  rw[ZeR] at z hn hd⊢;rw[DX,List.map_singleton] at hn hd;rw[Wq] at hn;have ih:=Ve n (g:=g) (by simpa using z) hn.1 (λh=>hd (KQ _ h));have Z:x.Name∉g.map Ad.Name:=λh=>hn.2.2 _ h _ (BS.2 rfl) rfl
  have Q:x.Name≠⟨#[45]⟩:=λh=>hd (RF _ (BS.2 h.symm))
  simp only[EW,Ov,qE,T3 _ _ _ _ (TV g)];by_cases c:nm=x.Name
  .subst c;rw[Ai rfl,Af Q];simp only[jY];rw[qD (p:=λy:Ad=>decide (y.Name=x.Name)) (by simp) g 0 λy hy=>QN λe=>Z (Bl.2 ⟨y,hy,e⟩),FN];rfl
  .rw[Af c]
   have:=ih nm
   simp only[EW,Ov] at this;rw[this];by_cases O:nm=⟨#[45]⟩
   .rw[Ai O,Ai O]
   .rw[Af O,Af O];simp only[jY];rw[qF (p:=λy:Ad=>decide (y.Name=nm)) (QN λe=>c e.symm)]
def Ls:xH []:=λc z=>by cases z
end Go.Ae
namespace Go.Ae
open Go.Proofs
def lC{a b c:AC}(z:Co a b=true)(O:Co b c=true):Co a c=true:=by
 simp only[Co,HN,AY,CF] at*;omega
def sW(a:AC):Co a a=false:=by simp[Co]
def rK: ∀(l:List Al) (q:Option AC),Dm q l=true->(∀p,q=some p-> ∀(i:Nat) (x:Al),l[i]? =some x->Co p x.At=true)/\
 ∀(i j:Nat) (x y:Al),i<j->l[i]? =some x->l[j]? =some y->Co x.At y.At=true
 |[],q,_=>⟨λ_ _ i x h=>by simp at h,λi j x y _ h=>by simp at h⟩
 |z::r,q,h=>by
  rw[rJ] at h;simp only[AY] at h;obtain⟨_,_,Z,h4⟩:=h;obtain⟨i1,i2⟩:=rK r (some z.At) h4;refine⟨?_,?_⟩
  .rintro p rfl i x O;cases i with
   |zero=>
    simp only[Iq,AN] at O;subst O;exact Z
   |succ i=>
    simp only[QH] at O;exact lC Z (i1 _ rfl i x O)
  .intro i j x y aa O Q;cases j with
   |zero=>omega
   |succ j=>
    simp only[QH] at Q;cases i with
    |zero=>
     simp only[Iq,AN] at O;subst O;exact i1 _ rfl j y Q
    |succ i=>
     simp only[QH] at O;exact i2 i j x y (by omega) O Q
def Qtf{A:Type}(p:A->Bool): ∀(l:List A) (o k:Nat) (x:A),l[k]? =some x->p x=true->(∀i y,i<k->l[i]? =some y->p y=false)->Cb p o l=((o+k:Nat):Int)
 |[],o,k,x,h,_,_=>by simp at h
 |z::r,o,k,x,h,hp,hn=>by
  simp only[Cb];cases k with
  |zero=>
   simp only[Iq,AN] at h;subst h;rw[Ai hp];rfl
  |succ k=>
   have:=hn 0 z (by omega) (by simp)
   rw[Af (by simp[this])];rw[Qtf p r (o+1) k x (by simpa using h) hp (λi y Q O=>hn (i+1) y (by omega) (by simpa using O))];congr 1;omega
def Qrf{A:Type}(p:A->Bool): ∀(l:List A) (o:Nat),(∀(i:Nat) (y:A),l[i]? =some y->p y=false)->Cb p o l= -1
 |[],o,_=>rfl
 |z::r,o,hn=>by
  simp only[Cb]
  have:=hn 0 z (by simp)
  rw[Af (by simp[this])];exact Qrf p r (o+1) (λi y O=>hn (i+1) y (by simpa using O))
def l03Index.fv(a:AB×AC):Int:=(λa p=>Cb (λx=>decide (x.At=p)) 0 a.Tiles) (a.1) (a.2)
def l03Index.row:AF:=vK (b2 (qP 1 AB.d_le) (qR AC.d_le)) rI (λa=>Dm none a.1.Tiles=true) l03Index.fv
def l03Index.q:=Bd (R:=l03Index.row) rfl
def Yam:=J @l03Index.fv.eq_1 (J @l_LessPoint.q @l_LessPoint.fv.eq_1)
def l03Index.ok:AL 145 l03Index.row:=by
 refine vw (tC l_LessPoint.ok tN) Tryz.func145 ?_;intro a ad;simp only[Tryz.f145,Option.getD];simp only[ZZ,simprocAttr,Ab,Yam];intro hn;refine Ba.old ⟨{p:Nat×Nat//p.1<=p.2/\p.2<=a.1.Tiles.length/\(∀i x,i<p.1->a.1.Tiles[i]? =some x->Co x.At a.2=true)/\(∀i x,p.2<=i->a.1.Tiles[i]? =some x->Co x.At a.2=false)},λp=>⟨[(5,.im (.int .i64 p.1.1)),(6,.im (.int .i64 p.1.2)),(4,.im (.int .i64 0)),(3,.ptr 1 0),(0,.ptr 0 0)],[(1,(true,.cells 95 [.im (.int .i64 a.2.X),.im (.int .i64 a.2.Y)])),(0,(false,.view [.sl false 3 (a.1.Tiles.map Al.c)]))],2⟩,λp=>p.1.2 - p.1.1,λp=>⟨by simp[ZG],AU _⟩,⟨⟨(0,a.1.Tiles.length),by simp,by simp,by simp,?_⟩,by simp only[ZZ,simprocAttr,Ab,Yam,sub]⟩,λp=> ?_⟩
 .intro i x O Z
  have:=(C6.1 Z).1
  simp only at O;omega
 obtain⟨⟨lo,O⟩,h1,h2,h3,h4⟩:=p;simp only at h1 h2 h3 h4;simp only[ZZ,simprocAttr,Ab,Yam,sub,AP];obtain⟨_,Q⟩:=rK _ _ ad;have ac: ∀(i:Nat) (x:Al),i<lo->a.1.Tiles[i]? =some x->x.At≠a.2:=by
  intro i x O Z he
  have:=h3 i x O Z
  rw[he,sW] at this;cases this
 refine⟨λaf=> ?_,λaf=>⟨λhl=>⟨hl,λx Z=>⟨λhe=> ?_,λhe=> ?_⟩⟩,λhl=> ?_⟩⟩
 .have hm:IntKind.wrap .i64 ((IntKind.wrap .i64 ((lo:Int)+O)).tdiv 2)=(((lo+O)/2:Nat):Int):=by
   rw[AG (x:=(lo:Int)+O) (by omega) (by omega),Zdy (by omega),AG (by omega) (by omega)];omega
  rw[hm];refine⟨by omega,by omega,λx Z=>⟨λhb=> ?_,λhb=> ?_⟩⟩
  .rw[Bq] at Z;refine⟨⟨((lo+O)/2+1,O),by simp only;omega,h2,λi y ab z=> ?_,h4⟩,by simp only;omega,?_,rfl⟩
   .simp only at ab;rcases Gd i ((lo+O)/2) with h|h
    .exact lC (Q i _ y x h z Z) hb
    .have:i=(lo+O)/2:=by omega
     subst this;rw[Z] at z;exact AJ z▸hb
   .rw[AG (by omega) (by omega)];simp only;omega
  .rw[Bq] at Z;refine⟨⟨(lo,(lo+O)/2),by simp only;omega,by simp only;omega,h3,λi y ab z=> ?_⟩,by simp only;omega,rfl,rfl⟩;simp only at ab;rcases Gd ((lo+O)/2) i with h|h
   .cases hl:Co y.At a.2 with
    |false=>rfl
    |true=>exact absurd (lC (Q _ i x y h Z z) hl) hb
   .have:i=(lo+O)/2:=by omega
    subst this;rw[Z] at z;obtain rfl:=AJ z;simpa using hb
 .have ag:x.At=a.2:=by
   obtain⟨e1,e2⟩:=he;have e1:x.At.X=a.2.X:=by simpa using e1
   have e2:x.At.Y=a.2.Y:=by simpa using e2
   rw[<-AC.eta x.At,<-AC.eta a.2,e1,e2]
  rw[Qtf _ a.1.Tiles 0 lo x Z (by simp[ag]) (λi y O z=>by simp[ac i y O z])];simp
 .refine (Qrf _ _ _ ?_).symm;intro i y z;rcases vM i lo with h|h|h
  .simp[ac i y h z]
  .subst h;rw[Z] at z;obtain rfl:=AJ z;simp only[Kd];intro h9;exact he (by simp[h9])
  .simp only[Kd];intro h9;have aa:=Q lo i x y h Z z;rw[h9] at aa
   have:=h4 lo x (by omega) Z
   rw[this] at aa;cases aa
 .refine (Qrf _ _ _ ?_).symm;intro i y z
  have:=(C6.1 z).1
  simp[ac i y (by omega) z]
end Go.Ae
namespace Go.Ae
open Go.Proofs Go.Lib
def Cr(w:ByteArray)(a b c:Int):ByteArray:=E4 w a b++⟨#[95]⟩++DO c
def GD(w:ByteArray)(a b c:Int):H5 (Cr w a b c)=H5 w++(itoa a++95::(itoa b++95::itoa c)):=by simp[H5,Cr,E4,Lu,DO]
def eN{w:ByteArray}{a b c:Int}(Z: -1000000<=a/\a<=1000000)(hb: -1000000<=b/\b<=1000000)(hc: -1000000<=c/\c<=1000000):(Cr w a b c).size<=w.size+65:=by
 have z:=eD (w:=w) (a:=a) (b:=b) (by omega) (by omega) (by omega) (by omega);have O:=F1 (n:=c) (by omega) (by omega);have Q:(⟨#[95]⟩:ByteArray).size=1:=rfl;simp only[Cr,Wo];omega
def Ts(k:Nat): ∀c∈itoa (k:Int),c≠95:=λc z e=>by
 have:=(WV k).1 c z
 subst e;revert this;decide
def NK{a b c d e f:Nat}(h:itoa (a:Int)++95::(itoa (b:Int)++95::itoa (c:Int))=itoa (d:Int)++95::(itoa (e:Int)++95::itoa (f:Int))):a=d/\b=e/\c=f:=by
 obtain⟨z,O⟩:=dW (Ts a) (Ts d) h
 have:=dT z
 obtain⟨Q,Z⟩:=NL O;exact⟨by omega,Q,Z⟩
def Bx(k:Nat):Nat:=2*k*(k - 1)
def CP(s:Ap)(k j:Nat):Ad:=
 if j<s.Glues.length*k then ⟨E4 ⟨#[103]⟩ ((j/k+1:Nat):Int) ((j % k:Nat):Int),((s.Glues[j/k]?).map Ad.Strength).getD 0⟩
 else let r:=j - s.Glues.length*k;let i:=r/Bx k;let q:=r % Bx k
  if q<k*(k - 1) then ⟨Cr ⟨#[104]⟩ (i:Nat) ((q % (k - 1):Nat):Int) ((q/(k - 1):Nat):Int),1⟩
  else ⟨Cr ⟨#[118]⟩ (i:Nat) (((q - k*(k - 1)) % k:Nat):Int) (((q - k*(k - 1))/k:Nat):Int),1⟩
def CC(s:Ap)(k:Nat):Nat:=s.Glues.length*k+s.Tiles.length*Bx k
def D1(s:Ap)(k:Nat):List Ad:=(List.range (CC s k)).map (CP s k)
def G9{s:Ap}{k i c:Nat}(Q:1<=k/\k<=4)(O:i<s.Glues.length)(z:c<k):CP s k (i*k+c)=⟨E4 ⟨#[103]⟩ ((i+1:Nat):Int) (c:Nat),((s.Glues[i]?).map Ad.Strength).getD 0⟩:=by
 rcases (by omega:k=1\/k=2\/k=3\/k=4) with rfl|rfl|rfl|rfl
 all_goals
  simp only[CP];rw[Ai (by omega)]
 .rw[show (i*1+c)/1=i by omega,show (i*1+c) % 1=c by omega]
 .rw[show (i*2+c)/2=i by omega,show (i*2+c) % 2=c by omega]
 .rw[show (i*3+c)/3=i by omega,show (i*3+c) % 3=c by omega]
 .rw[show (i*4+c)/4=i by omega,show (i*4+c) % 4=c by omega]
def GA{s:Ap}{k i x y:Nat}(z:1<=k/\k<=4)(O:x<k - 1)(Q:y<k):CP s k (s.Glues.length*k+i*Bx k+(y*(k - 1)+x))=⟨Cr ⟨#[104]⟩ (i:Nat) (x:Nat) (y:Nat),1⟩:=by
 obtain⟨n,hn⟩: ∃n,n=s.Glues.length:=⟨_,rfl⟩;rcases (by omega:k=2\/k=3\/k=4) with rfl|rfl|rfl
 all_goals
  simp only[CP,Bx,<-hn];rw[Af (by omega)]
 .rw[show (n*2+i*(2*2*(2 - 1))+(y*(2 - 1)+x) - n*2) % (2*2*(2 - 1))=y*(2 - 1)+x by omega,show (n*2+i*(2*2*(2 - 1))+(y*(2 - 1)+x) - n*2)/(2*2*(2 - 1))=i by omega,Ai (by omega),show (y*(2 - 1)+x) % (2 - 1)=x by omega,show (y*(2 - 1)+x)/(2 - 1)=y by omega]
 .rw[show (n*3+i*(2*3*(3 - 1))+(y*(3 - 1)+x) - n*3) % (2*3*(3 - 1))=y*(3 - 1)+x by omega,show (n*3+i*(2*3*(3 - 1))+(y*(3 - 1)+x) - n*3)/(2*3*(3 - 1))=i by omega,Ai (by omega),show (y*(3 - 1)+x) % (3 - 1)=x by omega,show (y*(3 - 1)+x)/(3 - 1)=y by omega]
 .rw[show (n*4+i*(2*4*(4 - 1))+(y*(4 - 1)+x) - n*4) % (2*4*(4 - 1))=y*(4 - 1)+x by omega,show (n*4+i*(2*4*(4 - 1))+(y*(4 - 1)+x) - n*4)/(2*4*(4 - 1))=i by omega,Ai (by omega),show (y*(4 - 1)+x) % (4 - 1)=x by omega,show (y*(4 - 1)+x)/(4 - 1)=y by omega]
def GB{s:Ap}{k i x y:Nat}(z:1<=k/\k<=4)(O:x<k)(Q:y<k - 1):CP s k (s.Glues.length*k+i*Bx k+(k*(k - 1)+(y*k+x)))=⟨Cr ⟨#[118]⟩ (i:Nat) (x:Nat) (y:Nat),1⟩:=by
 obtain⟨n,hn⟩: ∃n,n=s.Glues.length:=⟨_,rfl⟩;rcases (by omega:k=2\/k=3\/k=4) with rfl|rfl|rfl
 all_goals
  simp only[CP,Bx,<-hn];rw[Af (by omega)]
 .rw[show (n*2+i*(2*2*(2 - 1))+(2*(2 - 1)+(y*2+x)) - n*2) % (2*2*(2 - 1))=2*(2 - 1)+(y*2+x) by omega,show (n*2+i*(2*2*(2 - 1))+(2*(2 - 1)+(y*2+x)) - n*2)/(2*2*(2 - 1))=i by omega,Af (by omega),show (2*(2 - 1)+(y*2+x) - 2*(2 - 1)) % 2=x by omega,show (2*(2 - 1)+(y*2+x) - 2*(2 - 1))/2=y by omega]
 .rw[show (n*3+i*(2*3*(3 - 1))+(3*(3 - 1)+(y*3+x)) - n*3) % (2*3*(3 - 1))=3*(3 - 1)+(y*3+x) by omega,show (n*3+i*(2*3*(3 - 1))+(3*(3 - 1)+(y*3+x)) - n*3)/(2*3*(3 - 1))=i by omega,Af (by omega),show (3*(3 - 1)+(y*3+x) - 3*(3 - 1)) % 3=x by omega,show (3*(3 - 1)+(y*3+x) - 3*(3 - 1))/3=y by omega]
 .rw[show (n*4+i*(2*4*(4 - 1))+(4*(4 - 1)+(y*4+x)) - n*4) % (2*4*(4 - 1))=4*(4 - 1)+(y*4+x) by omega,show (n*4+i*(2*4*(4 - 1))+(4*(4 - 1)+(y*4+x)) - n*4)/(2*4*(4 - 1))=i by omega,Af (by omega),show (4*(4 - 1)+(y*4+x) - 4*(4 - 1)) % 4=x by omega,show (4*(4 - 1)+(y*4+x) - 4*(4 - 1))/4=y by omega]
def WY{s:Ap}{k j:Nat}(Q:1<=k/\k<=4)(O:j<CC s k):
 (∃i c,i<s.Glues.length/\c<k/\j=i*k+c)\/(∃i x y,i<s.Tiles.length/\x<k - 1/\y<k/\j=s.Glues.length*k+i*Bx k+(y*(k - 1)+x))\/ ∃i x y,i<s.Tiles.length/\x<k/\y<k - 1/\j=s.Glues.length*k+i*Bx k+(k*(k - 1)+(y*k+x)):=by
 obtain⟨n,hn⟩: ∃n,n=s.Glues.length:=⟨_,rfl⟩;obtain⟨t,ht⟩: ∃t,t=s.Tiles.length:=⟨_,rfl⟩;simp only[CC,Bx,<-hn,<-ht] at O⊢;rcases (by omega:k=1\/k=2\/k=3\/k=4) with rfl|rfl|rfl|rfl
 .exact .inl ⟨j,0,by omega,by omega,by omega⟩
 .by_cases h:j<n*2
  .exact .inl ⟨j/2,j % 2,by omega,by omega,by omega⟩
  .by_cases z:(j - n*2) % 4<2
   .exact .inr (.inl ⟨(j - n*2)/4,((j - n*2) % 4) % 1,((j - n*2) % 4)/1,by omega,by omega,by omega,by omega⟩)
   .exact .inr (.inr ⟨(j - n*2)/4,((j - n*2) % 4 - 2) % 2,((j - n*2) % 4 - 2)/2,by omega,by omega,by omega,by omega⟩)
 .by_cases h:j<n*3
  .exact .inl ⟨j/3,j % 3,by omega,by omega,by omega⟩
  .by_cases z:(j - n*3) % 12<6
   .exact .inr (.inl ⟨(j - n*3)/12,((j - n*3) % 12) % 2,((j - n*3) % 12)/2,by omega,by omega,by omega,by omega⟩)
   .exact .inr (.inr ⟨(j - n*3)/12,((j - n*3) % 12 - 6) % 3,((j - n*3) % 12 - 6)/3,by omega,by omega,by omega,by omega⟩)
 .by_cases h:j<n*4
  .exact .inl ⟨j/4,j % 4,by omega,by omega,by omega⟩
  .by_cases z:(j - n*4) % 24<12
   .exact .inr (.inl ⟨(j - n*4)/24,((j - n*4) % 24) % 3,((j - n*4) % 24)/3,by omega,by omega,by omega,by omega⟩)
   .exact .inr (.inr ⟨(j - n*4)/24,((j - n*4) % 24 - 12) % 4,((j - n*4) % 24 - 12)/4,by omega,by omega,by omega,by omega⟩)
def Ia{w v r q:List UInt8}(hw:w.all cC=true)(hv:v.all cC=true)(Z:xH r)(hq:xH q)(h:w++r=v++q):w=v/\r=q:=by
 have O:=dX (λc z=>CR.1 hw c z) Z;have Q:=dX (λc z=>CR.1 hv c z) hq;rw[h,Q] at O;subst O;exact⟨rfl,List.append_cancel_left h⟩
def Yi{a b c d e:Nat}{w:List UInt8}(z:w.all cC=true)(hn:w≠[103]):[103]++(itoa (a:Int)++95::itoa (b:Int))≠w++(itoa (c:Int)++95::(itoa (d:Int)++95::itoa (e:Int))):=λh=>
 hn (Ia (by decide) z (EO a _) (EO c _) h).1.symm
def bT{s:Ap}{k j j':Nat}(Q:1<=k/\k<=4)(hj:j<CC s k)(ab:j'<CC s k)(h:(CP s k j).Name=(CP s k j').Name):j=j':=by
 have z:=Dy H5 h;rcases WY Q hj with ⟨i,c,h1,h2,rfl⟩|⟨i,x,y,h1,h2,h3,rfl⟩|⟨i,x,y,h1,h2,h3,rfl⟩<;>rcases WY Q ab with ⟨i',c',aa,O,rfl⟩|⟨i',x',y',aa,O,Z,rfl⟩|⟨i',x',y',aa,O,Z,rfl⟩
 .rw[G9 Q h1 h2,G9 Q aa O] at z;simp only[K8] at z;obtain⟨e1,e2⟩:=NL (Ia (w:=[103]) (v:=[103]) (by decide) (by decide) (EO _ _) (EO _ _) z).2;obtain rfl:i=i':=by omega
  rw[e2]
 .rw[G9 Q h1 h2,GA Q O Z] at z;simp only[K8,GD] at z;exact absurd z (Yi (w:=[104]) (by decide) (by decide))
 .rw[G9 Q h1 h2,GB Q O Z] at z;simp only[K8,GD] at z;exact absurd z (Yi (w:=[118]) (by decide) (by decide))
 .rw[GA Q h2 h3,G9 Q aa O] at z;simp only[K8,GD] at z;exact absurd z.symm (Yi (w:=[104]) (by decide) (by decide))
 .rw[GA Q h2 h3,GA Q O Z] at z;simp only[GD] at z;obtain⟨e1,e2,e3⟩:=NK (Ia (w:=[104]) (v:=[104]) (by decide) (by decide) (EO _ _) (EO _ _) z).2;rw[e1,e2,e3]
 .rw[GA Q h2 h3,GB Q O Z] at z;simp only[GD] at z;exact absurd (Ia (w:=[104]) (v:=[118]) (by decide) (by decide) (EO _ _) (EO _ _) z).1 (by decide)
 .rw[GB Q h2 h3,G9 Q aa O] at z;simp only[K8,GD] at z;exact absurd z.symm (Yi (w:=[118]) (by decide) (by decide))
 .rw[GB Q h2 h3,GA Q O Z] at z;simp only[GD] at z;exact absurd (Ia (w:=[118]) (v:=[104]) (by decide) (by decide) (EO _ _) (EO _ _) z).1 (by decide)
 .rw[GB Q h2 h3,GB Q O Z] at z;simp only[GD] at z;obtain⟨e1,e2,e3⟩:=NK (Ia (w:=[118]) (v:=[118]) (by decide) (by decide) (EO _ _) (EO _ _) z).2;rw[e1,e2,e3]
def qN{s:Ap}{k:Nat}(Z:1<=k/\k<=4):((D1 s k).map Ad.Name).Nodup:=by
 rw[D1,Hu,List.Nodup,List.pairwise_map];refine List.Pairwise.imp_of_mem (R:=λa b=>a≠b) (λ{a b} O Q z e=>z ?_) Zed;exact bT Z (Bc.1 O) (Bc.1 Q) e
def Uu{s:Ap}{k j:Nat}(z:j<CC s k):(D1 s k)[j]? =some (CP s k j):=by
 rw[D1,D3,Ga z];rfl
def jZ{s:Ap}{k j:Nat}(Q:1<=k/\k<=4)(z:j<CC s k):jY (D1 s k) (CP s k j).Name=((j+1:Nat):Int):=by
 simp only[jY];rw[Qtf _ _ 0 j (CP s k j) (Uu z) (by simp) λi y Z O=> ?_]
 .omega
 .rw[Uu (by omega)] at O;obtain rfl:=AJ O;refine QN λe=> ?_
  have:=bT Q (by omega) z e
  omega
def MT(s:Ap)(k:Nat)(Q:1<=k/\k<=4):(⟨#[45]⟩:ByteArray)∉(D1 s k).map Ad.Name:=by
 intro hm;obtain⟨x,hx,e⟩:=Bl.1 hm;rw[D1] at hx;obtain⟨j,hj,rfl⟩:=Bl.1 hx;rw[Bc] at hj;have z:=Dy H5 e;rcases WY Q hj with ⟨i,c,Z,O,rfl⟩|⟨i,x,y,Z,O,h3,rfl⟩|⟨i,x,y,Z,O,h3,rfl⟩
 .rw[G9 Q Z O] at z;simp only[K8] at z;exact absurd (Ia (w:=[103]) (v:=[45]) (r:=itoa ((i+1:Nat):Int)++95::itoa (c:Int)) (q:=[]) (by decide) (by decide) (EO _ _) Ls z).1 (by decide)
 .rw[GA Q O h3] at z;simp only[GD] at z;exact absurd (Ia (w:=[104]) (v:=[45]) (r:=itoa (i:Int)++95::(itoa (x:Int)++95::itoa (y:Int))) (q:=[]) (by decide) (by decide) (EO _ _) Ls z).1 (by decide)
 .rw[GB Q O h3] at z;simp only[GD] at z;exact absurd (Ia (w:=[118]) (v:=[45]) (r:=itoa (i:Int)++95::(itoa (x:Int)++95::itoa (y:Int))) (q:=[]) (by decide) (by decide) (EO _ _) Ls z).1 (by decide)
def Md(w:ByteArray)(a b c:Nat):Cr w (a:Nat) (b:Nat) (c:Nat)≠⟨#[45]⟩:=λe=>by
 have z:=Dy H5 e;rw[GD] at z
 have:(H5 w++(itoa (a:Int)++95::(itoa (b:Int)++95::itoa (c:Int)))).length=1:=by rw[z];rfl
 simp at this;omega
def YL(w:ByteArray)(a b:Nat):E4 w (a:Nat) (b:Nat)≠⟨#[45]⟩:=λe=>by
 have z:=Dy H5 e;rw[K8] at z;obtain⟨Q,O⟩:=WV a;have Z:=vJ.2 O
 have:(H5 w++(itoa (a:Int)++95::itoa (b:Int))).length=1:=by rw[z];rfl
 simp at this;omega
end Go.Ae
namespace Go.Ae
open Go.Proofs
def Hr(p:AC)(t:Int):Bool->List Al->List Al
 |_,[]=>[]
 |false,x::r=>if Co p x.At=true then ⟨p,t⟩::x::Hr p t true r else x::Hr p t false r
 |true,x::r=>x::Hr p t true r
def Ji(p:AC):List Al->Bool
 |[]=>false
 |x::r=>if Co p x.At=true then true else Ji p r
def GW(a:AB)(p:AC)(t:Int):AB:=⟨Hr p t false a.Tiles++(if Ji p a.Tiles=true then [] else [⟨p,t⟩])⟩
def tZ(p:AC)(t:Int): ∀(l:List Al),Hr p t true l=l
 |[]=>rfl
 |x::r=>by simp only[Hr,tZ p t r]
def yY(p:AC)(t:Int)(x:Al): ∀(l:List Al),Hr p t false (l++[x])=Hr p t false l++(if Ji p l=true then [x] else if Co p x.At=true then [⟨p,t⟩,x] else [x])
 |[]=>by simp only[Dg,Hr,Ji];split<;>simp[Hr]
 |y::r=>by
  simp only[BO,Hr,Ji];split
  .rw[tZ,tZ];simp
  .rw[yY p t x r];simp
def yK(p:AC)(x:Al): ∀(l:List Al),Ji p (l++[x])=(Ji p l||Co p x.At)
 |[]=>by simp only[Dg,Ji];split<;>simp_all
 |y::r=>by
  simp only[BO,Ji];split
  .simp
  .exact yK p x r
def Qua(p:AC)(t:Int): ∀(l:List Al),(Hr p t false l).length<=l.length+1
 |[]=>by simp[Hr]
 |y::r=>by
  simp only[Hr];split
  .rw[tZ];simp
  .have:=Qua p t r
   simp;omega
def l03Put.fv(a:AB×AC×Int):AB:=(GW) (a.1) (a.2.1) (a.2.2)
def l03Put.row:AF:=vK (b3 (qP 1 AB.d_le) (qR AC.d_le) qI) (rA AB.d_le) (λa=>a.1.Tiles.length<=1000000) l03Put.fv
def l03Put.q:=Bd (R:=l03Put.row) rfl
def mM:=J @l03Put.fv.eq_1 (J @l_LessPoint.q @l_LessPoint.fv.eq_1)
def l03Put.ok:AL 67 l03Put.row:=by
 refine vw (tC l_LessPoint.ok tN) Tryz.func67 ?_;intro a ac;simp only[Tryz.f67,Option.getD];simp only[ZZ,simprocAttr,Ab,mM];refine Ba.ren ⟨{k:Nat//k<=a.1.Tiles.length},λk=>⟨[(9,.im (.int .i64 k.1)),(8,.im (.bool (Ji a.2.1 (a.1.Tiles.take k.1)))),(7,.ptr 3 0),(6,.ptr 2 0),(4,.ptr 1 0),(0,.ptr 0 0),(2,.im (.int .i64 a.2.2))],[(3,(true,.cells 38 [.own 4])),(4,(true,.arr 119 3 ((Hr a.2.1 a.2.2 false (a.1.Tiles.take k.1)).map Al.c))),(2,(true,.cells 38 [.im (.sl true 0 [])])),(1,(true,.cells 95 [.im (.int .i64 a.2.1.X),.im (.int .i64 a.2.1.Y)])),(0,(false,.view [.sl false 3 (a.1.Tiles.map Al.c)]))],5⟩,λk=>a.1.Tiles.length - k.1,λk=>⟨by simp[ZG],by simp⟩,⟨⟨0,by simp⟩,[(4,none)],?_⟩,λk=> ?_⟩
 .simp only[Av];simp only[ZZ,simprocAttr,Ab,mM,AS,AR,E5,Hr,Ji,BF]
  try simp
 obtain⟨k,ad⟩:=k;simp only[ZZ,simprocAttr,Ab,mM,AP];intro _;have aa:=Qua a.2.1 a.2.2 (a.1.Tiles.take k);have ab:(a.1.Tiles.take k).length<=k:=by simp;omega
 refine⟨λZ=>⟨λhd=>⟨Z,λx Q=>⟨λO=> ?_,λO=> ?_⟩⟩,λhd=> ?_⟩,λZ=> ?_⟩
 .have z:a.1.Tiles.take (k+1)=a.1.Tiles.take k++[x]:=by rw[Jq,Q];rfl
  refine⟨by simp[Bj,Bm,D.one],by omega,Z,λy hy=>⟨by simp[Bj,Bm,D.one],by simp;omega,⟨⟨k+1,by omega⟩,[(4,some 8)],by simp only;omega,?_⟩⟩⟩;rw[Q] at hy;obtain rfl:=AJ hy;simp only[Av];simp only[ZZ,simprocAttr,Ab,mM];refine⟨by simp,⟨?_,?_⟩,?_⟩
  .rw[AG (by omega) (by omega)];omega
  .rw[z,yK,hd,O];rfl
  .rw[z,yY,hd,O];simp[Al.c]
 .have z:a.1.Tiles.take (k+1)=a.1.Tiles.take k++[x]:=by rw[Jq,Q];rfl
  refine⟨Z,λy hy=>⟨by simp[Bj,Bm,D.one],by omega,⟨⟨k+1,by omega⟩,[(4,some 6)],by simp only;omega,?_⟩⟩⟩;rw[Q] at hy;obtain rfl:=AJ hy;simp only[mW] at O;simp only[Av];simp only[ZZ,simprocAttr,Ab,mM];refine⟨by simp,⟨?_,?_⟩,?_⟩
  .rw[AG (by omega) (by omega)];omega
  .rw[z,yK,hd,O];rfl
  .rw[z,yY,hd,O];simp[Al.c]
 .simp only[KR] at hd;refine⟨Z,λx Q=>⟨by simp[Bj,Bm,D.one],by omega,⟨⟨k+1,by omega⟩,[(4,some 6)],by simp only;omega,?_⟩⟩⟩;have z:a.1.Tiles.take (k+1)=a.1.Tiles.take k++[x]:=by rw[Jq,Q];rfl
  simp only[Av];simp only[ZZ,simprocAttr,Ab,mM];refine⟨by simp,⟨?_,?_⟩,?_⟩
  .rw[AG (by omega) (by omega)];omega
  .rw[z,yK,hd];rfl
  .rw[z,yY,hd];simp[Al.c]
 .rw[F9 (by omega)] at aa ab⊢;refine⟨λhd=>⟨by simp[Bj,Bm,D.one],by omega,?_⟩,λhd=> ?_⟩
  .have e:List.map Al.c (Hr a.2.1 a.2.2 false a.1.Tiles)++[[D.int .i64 a.2.1.X,D.int .i64 a.2.1.Y,D.int .i64 a.2.2]]=List.map Al.c (Hr a.2.1 a.2.2 false a.1.Tiles++[⟨a.2.1,a.2.2⟩]):=by simp[Al.c]
   rw[e,Al.d_R];simp[GW,hd]
  .simp only[KR] at hd;simp[GW,hd]
def nH(a:AB)(p:AC):Int:=((a.Tiles.find? (λx=>decide (x.At=p))).map Al.Tile).getD (-1)
def rM{A:Type}(p:A->Bool): ∀(l:List A) (o:Nat),(l.find? p=none/\Cb p o l= -1)\/ ∃(i:Nat) (x:A),l.find? p=some x/\Cb p o l=((o+i:Nat):Int)/\l[i]? =some x
 |[],o=> .inl ⟨rfl,rfl⟩
 |z::r,o=>by
  simp only[Cb,Zem];cases h:p z
  .rcases rM p r (o+1) with ⟨O,Q⟩|⟨i,x,O,Q,Z⟩
   .exact .inl ⟨by simpa using O,by simpa using Q⟩
   .exact .inr ⟨i+1,x,by simpa using O,by simp[Q];omega,by simpa using Z⟩
  .exact .inr ⟨0,z,rfl,by simp,by simp⟩
def l02Tile.fv(a:Ap×ByteArray):Int:=(λs n=>Cb (λg=>decide (g.Name=n)) 0 s.Tiles) (a.1) (a.2)
def l02Tile.row:AF:=vK (b2 (qP 2 Ap.d_le) qT) rI (λa=>True) l02Tile.fv
def l02Tile.q:=Bd (R:=l02Tile.row) rfl
def l02Tile.ok:AL 100 l02Tile.row:=by
 refine vw tN Tryz.func100 ?_;intro a Q;simp only[Tryz.f100,Option.getD];simp only[ZZ,simprocAttr,Ab,l02Tile.fv];refine Ba.old ⟨{k:Nat//k<=a.1.Tiles.length/\Cb (λg:Tile=>decide (g.Name=a.2)) k (a.1.Tiles.drop k)=Cb (λg:Tile=>decide (g.Name=a.2)) 0 a.1.Tiles},λk=>⟨[(5,.im (.int .i64 k.1)),(4,.im (.int .i64 0)),(0,.ptr 0 0),(1,.im (.str a.2))],[(0,(false,.view (Ap.c a.1)))],1⟩,λk=>a.1.Tiles.length - k.1,λk=>⟨by simp[ZG],AU _⟩,⟨⟨0,by simp⟩,by simp only[ZZ,simprocAttr,Ab,l02Tile.fv,sub]⟩,λk=> ?_⟩;obtain⟨k,Z,z⟩:=k;simp only[ZZ,simprocAttr,Ab,l02Tile.fv,sub,AP];intro hn;refine⟨λO=>⟨O,λx hx=> ?_⟩,λO=> ?_⟩
 .rw[HI hx,Cb] at z;refine⟨λh=> ?_,λh=>Je O hn ⟨by omega,by rw[<-z,Af (by simpa using h)]⟩⟩;rw[Ai (by simpa using h)] at z;exact z
 .rw[DY (by omega),Cb] at z;omega
def LW(s:Ap)(a:AB):Prop:=Dm none a.Tiles=true/\ ∀x∈a.Tiles,eP s x.Tile
def Pq{s:Ap}(h:Dt s)(g:Int):0<=Rz s g/\Rz s g<=4:=by
 simp only[Rz];split
 .cases hx:s.Glues[(g - 1).toNat]? with
  |none=>simp
  |some x=>have:=h.2.2 x (Bg hx);simp;omega
 .omega
def Ue{p:AC}(h:Ic p=true):Ry p:=by
 simp only[Ic,Bz,AY,CF] at h;simp only[Ry];omega
def lP: ∀(l:List Al) (q:Option AC),Dm q l=true-> ∀x∈l,Ic x.At=true/\Bz x.Tile 0 159=true
 |[],_,_,x,O=>by cases O
 |z::r,q,h,x,O=>by
  rw[rJ] at h;simp only[AY] at h;rcases Br.1 O with rfl|O
  .exact⟨h.1,h.2.1⟩
  .exact lP r _ h.2.2.2 x O
def Hz(a:AB)(i d:Int):Int:=Cb (λx=>decide (x.At=VU ((a.Tiles[i.toNat]?.map Al.At).getD ⟨0,0⟩) d)) 0 a.Tiles
def l06Neighbor.fv(a:AB×Int×Int):Int:=(Hz) (a.1) (a.2.1) (a.2.2)
def l06Neighbor.row:AF:=vK (b3 (qP 1 AB.d_le) qI qI) rI (λa=>Dm none a.1.Tiles=true/\0<=a.2.1/\a.2.1<a.1.Tiles.length/\0<=a.2.2/\a.2.2<=3) l06Neighbor.fv
def l06Neighbor.q:=Bd (R:=l06Neighbor.row) rfl
def l06Neighbor.ok:AL 128 l06Neighbor.row:=by
 refine vw (tC l01Step.ok (tC l03Index.ok tN)) Tryz.func128 ?_;intro a z;simp only[Tryz.f128,Option.getD];simp only[ZZ,simprocAttr,Ab,l06Neighbor.fv,l01Step.q,l01Step.fv,l03Index.q,l03Index.fv];obtain⟨O,Z,h3,h4,h5⟩:=z;refine⟨Z,h3,λx Q=>⟨⟨Ue (lP _ _ O x (Bg Q)).1,h4,h5⟩,O,?_⟩⟩;simp only[Hz];rw[Q];rfl
def LC(s:Ap):Nat->List Ad->Bool
 |_,[]=>true
 |i,g::r=>(Jj g.Name && (Bz g.Strength 1 4 && decide (Cb (λx=>decide (x.Name=g.Name)) 0 s.Glues=i))) && LC s (i+1) r
def JV(s:Ap):Nat->List Tile->Bool
 |_,[]=>true
 |i,x::r=>(Jj x.Name && (decide (x.Sides.length=4) && (decide (Cb (λy=>decide (y.Name=x.Name)) 0 s.Tiles=i) && x.Sides.all (λg=>Bz g 0 s.Glues.length)))) && JV s (i+1) r
def EH(s:Ap):Bool:=(decide (s.Glues.length<=200) && Bz s.Tiles.length 1 160) && (LC s 0 s.Glues && JV s 0 s.Tiles)
def l02Ok.fv(a:Ap):Bool:=(EH) a
def l02Ok.row:AF:=vK (b1 (qP 2 Ap.d_le)) rB (λa=>True) l02Ok.fv
def l02Ok.q:=Bd (R:=l02Ok.row) rfl
def gL:=J @l02Ok.fv.eq_1<|J @spec_IsName.q<|J @spec_IsName.fv.eq_1<|J @l00In.q<|J @l00In.fv.eq_1<|J @l02Glue.q<|J @l02Glue.fv.eq_1<|J @l02Tile.q @l02Tile.fv.eq_1
def l02Ok.ok:AL 61 l02Ok.row:=by
 refine vw (tC spec_IsName.ok (tC l00In.ok (tC l02Glue.ok (tC l02Tile.ok tN)))) Tryz.func61 ?_;intro a ac;simp only[Tryz.f61,Option.getD];simp only[ZZ,simprocAttr,Ab,gL];intro hg;simp only[AP];refine⟨λc1 ht=>⟨λc2 _=>⟨λc3=> ?_,λc3=> ?_⟩,λc2=> ?_⟩,λc1=> ?_⟩
 .have: ¬(a.Tiles.length:Int)<=160:=by omega
  simp[EH,Bz,this]
 .have c0:EH a=(LC a 0 a.Glues && JV a 0 a.Tiles):=by
   have e1:a.Glues.length<=200:=by omega
   have e2:(1:Int)<=a.Tiles.length:=by omega
   have e3:(a.Tiles.length:Int)<=160:=by omega
   simp[EH,Bz,e1,e2,e3]
  refine Ba.old ⟨{k:Nat//k<=a.Glues.length/\LC a k (a.Glues.drop k)=LC a 0 a.Glues},λk=>⟨[(3,.im (.int .i64 k.1)),(2,.im (.bool false)),(0,.ptr 0 0)],[(0,(false,.view (Ap.c a)))],1⟩,λk=>a.Glues.length - k.1,λk=>⟨by simp[ZG],AU _⟩,⟨⟨0,by simp⟩,by simp only[ZZ,simprocAttr,Ab,gL,sub]⟩,λk=> ?_⟩;obtain⟨k,ab,z⟩:=k;simp only[ZZ,simprocAttr,Ab,gL,sub,AP];intro _;refine⟨λhk=>⟨hk,λx hx=> ?_⟩,λhk=> ?_⟩
  .rw[HI hx,LC] at z;have O:(Jj x.Name && (Bz x.Strength 1 4 && decide (Cb (λg:Ad=>decide (g.Name=x.Name)) 0 a.Glues=k)))=false->false=EH a:=by
    intro h;rw[h,Gu] at z;rw[c0,<-z];rfl
   refine⟨λh1=>⟨λh2=>⟨λZ=> ?_,λZ=>Je hk hg ⟨by omega,?_⟩⟩,λh2=>O (by simp[h2])⟩,λh1=>O (by simp[h1])⟩
   .rw[AG (by omega) (by omega)] at Z;exact O (by simp;intro _ _;omega)
   .rw[GK,AG (by omega) (by omega)] at Z;have h4:Cb (λg:Ad=>decide (g.Name=x.Name)) 0 a.Glues=k:=by omega
    rw[h1,h2,h4] at z;simpa using z
  .rw[DY (by omega),LC] at z;have c9:EH a=JV a 0 a.Tiles:=by rw[c0,<-z,EL]
   refine Ba.old ⟨{k:Nat//k<=a.Tiles.length/\JV a k (a.Tiles.drop k)=JV a 0 a.Tiles},λk=>⟨[(5,.im (.int .i64 k.1)),(2,.im (.bool false)),(0,.ptr 0 0)],[(0,(false,.view (Ap.c a)))],1⟩,λk=>a.Tiles.length - k.1,λk=>⟨by simp[ZG],AU _⟩,⟨⟨0,by simp⟩,by simp only[ZZ,simprocAttr,Ab,gL,sub]⟩,λk=> ?_⟩;obtain⟨k,ab,z⟩:=k;simp only[ZZ,simprocAttr,Ab,gL,sub,AP];intro _;refine⟨λhk=>⟨hk,λx hx=> ?_⟩,λhk=> ?_⟩
   .rw[HI hx,JV] at z;have O:(Jj x.Name && (decide (x.Sides.length=4) && (decide (Cb (λy:Tile=>decide (y.Name=x.Name)) 0 a.Tiles=k) && x.Sides.all (λg=>Bz g 0 a.Glues.length))))=false->false=EH a:=by
     intro h;rw[h,Gu] at z;rw[c9,<-z]
    refine⟨λh1 hs=>⟨λh2=>⟨λZ=>O (by simp[Z]),λZ=> ?_⟩,λh2=>O (by simp;intro _ h9;omega)⟩,λh1=>O (by simp[h1])⟩;rw[GK] at Z;have aa:x.Sides.length=4:=by omega
    refine Ba.old ⟨{j:Nat//j<=4/\(x.Sides.drop j).all (λg=>Bz g 0 a.Glues.length)=x.Sides.all (λg=>Bz g 0 a.Glues.length)},λj=>⟨[(7,.im (.int .i64 j.1)),(5,.im (.int .i64 k)),(6,.ptr 1 0),(2,.im (.bool false)),(0,.ptr 0 0)],[(1,(true,.cells 126 ((Tile.c x).map .im))),(0,(false,.view (Ap.c a)))],2⟩,λj=>4 - j.1,λj=>⟨by simp[ZG,Tile.c],by simp⟩,⟨⟨0,by simp⟩,by simp only[ZZ,simprocAttr,Ab,gL,sub]⟩,λj=> ?_⟩;obtain⟨j,ad,Q⟩:=j;simp only[ZZ,simprocAttr,Ab,gL,sub,AP];refine⟨λhj=>⟨by omega,λy hy=> ?_⟩,λhj=>Je hk ht ⟨by omega,?_⟩⟩
    .rw[HI hy,EZ] at Q;refine⟨λh=>O ?_,λh=>⟨⟨j+1,by omega,?_⟩,by simp only;omega,?_⟩⟩
     .rw[h,Gu] at Q;rw[<-Q];simp
     .rw[KR] at h;rw[h,EL] at Q;exact Q
     .rw[AG (by omega) (by omega)];simp only;omega
    .rw[DY (by omega)] at Q;rw[<-z,<-Q,h1,aa,Z];simp
   .rw[DY (by omega),JV] at z;rw[c9,<-z]
 .have: ¬(1:Int)<=a.Tiles.length:=by omega
  simp[EH,Bz,this]
 .have: ¬a.Glues.length<=200:=by omega
  simp[EH,this]
def VS1.fv(a:Int×Ap):Bool:=(λg s=> !Bz g 0 s.Glues.length) (a.1) (a.2)
def VS1.row:AF:=vK (b2 qI (qP 2 Ap.d_le)) rB (λa=>True) VS1.fv
def VS1.q:=Bd (R:=VS1.row) rfl
def VS1.ok:AL 154 VS1.row:=by
 refine vw (tC within_.ok tN) Tryz.func154 ?_;intro a z;simp only[Tryz.f154,Option.getD];simp only[ZZ,simprocAttr,Ab,VS1.fv,within_.q,within_.fv];intro _;trivial
def IdxVS.ar:List PK->Option ((List Int)×Ap)
 |[.val (.sl _ _ Q),.val (.fn 154 [] [.ref z])]=>(AZ DN Q).bind λZ=>(Ap.d (z.take 2)).bind λO=>some (Z,O)
 |_=>none
def IdxVS.ae(a:(List Int)×Ap):List PK:=[.val (.sl false 1 (a.1.map Ak)),.val (.fn 154 [] [.ref (Ap.c a.2)])]
def IdxVS.le: ∀O a,IdxVS.ar O=some a->Cy O (IdxVS.ae a):=by
 intro O a h;unfold IdxVS.ar at h;split at h
 .simp only[GI,AN] at h;obtain⟨Z,h0,Q,z,rfl⟩:=h;exact⟨EY (EN F3 _ _ h0) (by simp only[Bl];rintro r ⟨y,_,rfl⟩;rfl),mC ⟨sJ (IG.trans_take (Ap.d_le _ _ z)),trivial⟩,trivial⟩
 .cases h
def IdxVS.fv(a:(List Int)×Ap):Int:=(λl s=>Cb (λg=> !Bz g 0 s.Glues.length) 0 l) (a.1) (a.2)
def IdxVS.row:AF:=EX IdxVS.ar (λa=>True) (λa=>(D.int .i64) (IdxVS.fv a))
def IdxVS.q:=vq IdxVS.row rfl
def IdxVS.ok:AL 179 IdxVS.row:=by
 refine kZ Fw (tC VS1.ok tN) Tryz.func179 rfl (by kernel_rfl) (by kernel_rfl) (ar:=IdxVS.ar) (ae:=IdxVS.ae) IdxVS.le (n:=2) (λ_=>rfl) (by decide) (rc:=(Ey)) (re:=(D.int .i64)) (cW) (f:=IdxVS.fv) ?_;intro a Q;simp only[Tryz.f179,Option.getD];simp only[ZZ,simprocAttr,Ab,IdxVS.ae,IdxVS.fv,VS1.q,VS1.fv];intro hn;refine Ba.old ⟨{k:Nat//k<=a.1.length/\Cb (λg:Int=> !Bz g 0 a.2.Glues.length) k (a.1.drop k)=Cb (λg:Int=> !Bz g 0 a.2.Glues.length) 0 a.1},λk=>⟨[(8,.im (.int .i64 k.1)),(7,.im (.int .i64 a.1.length)),(6,.im (.sl false 1 (a.1.map Ak))),(4,.im (.int .i64 0)),(0,.im (.sl false 1 (a.1.map Ak))),(1,.im (.fn 154 [] [.ref (Ap.c a.2)]))],[],0⟩,λk=>a.1.length - k.1,λk=>⟨by simp[ZG],AU _⟩,⟨⟨0,by simp⟩,by simp only[ZZ,simprocAttr,Ab,IdxVS.ae,IdxVS.fv,VS1.q,VS1.fv,sub]⟩,λk=> ?_⟩;obtain⟨k,Z,z⟩:=k;simp only[ZZ,simprocAttr,Ab,IdxVS.ae,IdxVS.fv,VS1.q,VS1.fv,sub,AP];refine⟨λO=>⟨O,λx hx=> ?_⟩,λO=> ?_⟩
 .rw[HI hx,Cb] at z;refine⟨λh=> ?_,λh=>Je O hn ⟨by omega,by rw[<-z,Af (by simpa using h)]⟩⟩;rw[Ai (by simpa using h)] at z;exact z
 .rw[DY (by omega),Cb] at z;exact z
def ContVS.ar:List PK->Option ((List Int)×Ap)
 |[.val (.sl _ _ Q),.val (.fn 154 [] [.ref z])]=>(AZ DN Q).bind λZ=>(Ap.d (z.take 2)).bind λO=>some (Z,O)
 |_=>none
def ContVS.ae(a:(List Int)×Ap):List PK:=[.val (.sl false 1 (a.1.map Ak)),.val (.fn 154 [] [.ref (Ap.c a.2)])]
def ContVS.le: ∀O a,ContVS.ar O=some a->Cy O (ContVS.ae a):=by
 intro O a h;unfold ContVS.ar at h;split at h
 .simp only[GI,AN] at h;obtain⟨Z,h0,Q,z,rfl⟩:=h;exact⟨EY (EN F3 _ _ h0) (by simp only[Bl];rintro r ⟨y,_,rfl⟩;rfl),mC ⟨sJ (IG.trans_take (Ap.d_le _ _ z)),trivial⟩,trivial⟩
 .cases h
def ContVS.fv(a:(List Int)×Ap):Bool:=(λl s=>l.any (λg=> !Bz g 0 s.Glues.length)) (a.1) (a.2)
def ContVS.row:AF:=EX ContVS.ar (λa=>True) (λa=>(D.bool) (ContVS.fv a))
def ContVS.q:=vq ContVS.row rfl
def ContVS.ok:AL 153 ContVS.row:=by
 refine kZ Fw (tC IdxVS.ok tN) Tryz.func153 rfl (by kernel_rfl) (by kernel_rfl) (ar:=ContVS.ar) (ae:=ContVS.ae) ContVS.le (n:=2) (λ_=>rfl) (by decide) (rc:=(W4)) (re:=(D.bool)) (pY) (f:=ContVS.fv) ?_;intro a z;simp only[Tryz.f153,Option.getD];simp only[ZZ,simprocAttr,Ab,ContVS.ae,ContVS.fv,IdxVS.q,IdxVS.ar,IdxVS.fv];exact M6 _ _
def O6(z:List ByteArray):List (D×D):=z.map λn=>(.str n,.bool true)
def vY(n m:ByteArray):(n==m)=decide (n=m):=by
 rw[aP]
def MI(n:ByteArray): ∀(z:List ByteArray),(n∈z->lk (O6 z) (.str n)=some (.bool true))/\(n∉z->lk (O6 z) (.str n)=none)
 |[]=>⟨λh=>by simp at h,λ_=>rfl⟩
 |m::r=>by
  obtain⟨O,Q⟩:=MI n r;simp only[O6] at O Q;simp only[O6,Be,lk,D.beq,Br,vY];by_cases h:n=m
  .simp[h]
  .simp only[h,Zfc,Bk,false_or];exact⟨O,Q⟩
def Qum(n:ByteArray)(O:List ByteArray)(Ks:D->Prop)(Kn:Prop):IU (O6 O) (.str n) Ks Kn=((n∈O->Ks (.bool true))/\(n∉O->Kn)):=by
 obtain⟨i1,i2⟩:=MI n O;apply propext;unfold IU;constructor
 .rintro⟨Q,Z⟩;exact⟨λh=>Q _ (i1 h),λh=>Z (i2 h)⟩
 .rintro⟨Q,Z⟩;by_cases h:n∈O
  .refine⟨λv z=> ?_,λz=> ?_⟩
   .rw[i1 h] at z;exact AJ z▸Q h
   .rw[i1 h] at z;cases z
  .refine⟨λv z=> ?_,λ_=>Z h⟩;rw[i2 h] at z;cases z
def Qru(n:ByteArray): ∀(z:List ByteArray),n∉z->EF (O6 z) (.str n) (.bool true)=O6 (z++[n])
 |[],_=>rfl
 |m::r,h=>by
  simp only[Br,not_or] at h
  have:=Qru n r h.2
  simp only[O6] at this;simp only[O6,Be,EF,D.beq,vY,h.1,Zfc,Bk,BO,this]
def oB{A:Type}(f:A->ByteArray)(l:List A)(k:Nat)(x:A)(hx:l[k]? =some x):Cb (λy=>decide (f y=f x)) 0 l=(k:Int)↔f x∉(l.take k).map f:=by
 constructor
 .intro h hm;obtain⟨y,hy,Q⟩:=Bl.1 hm;obtain⟨i,Z,ab⟩:=gN.1 hy;have ac:i<k:=by simp at Z;omega
  have aa:l[i]? =some y:=by
   rw[<-ab,List.getElem_take];exact BA _
  have O: ∀(l:List A) (o i:Nat) (y:A),l[i]? =some y->(decide (f y=f x))=true->Cb (λy=>decide (f y=f x)) o l<=((o+i:Nat):Int):=by
   intro l;induction l with
   |nil=>intro o i y h;simp at h
   |cons z r ih=>
    intro o i y h hp;simp only[Cb];split
    .omega
    .rename_i hz;cases i with
     |zero=>
      simp only[Iq,AN] at h;subst h;exact absurd hp hz
     |succ i=>
      have:=ih (o+1) i y (by simpa using h) hp
      omega
  have:=O l 0 i y aa (by simpa using Q)
  omega
 .intro h;rw[Qtf _ l 0 k x hx (by simp) ?_]
  .simp
  .intro i y Z hy;simp only[Kd];intro Q;apply h;rw[<-Q];refine Bl.2 ⟨y,?_,rfl⟩;exact Bg (i:=i) (by rw[ZeA,Ai Z];exact hy)
def Xl(s:Ap):Prop:=(∀g∈s.Glues,g.Name.size<=140737488355328)/\ ∀t∈s.Tiles,t.Name.size<=140737488355328
def ValidSet_.fv(a:Ap):Bool:=(EH) a
def ValidSet_.row:AF:=vK (b1 (qR Ap.d_le)) rB (λa=>Xl a) ValidSet_.fv
def ValidSet_.q:=Bd (R:=ValidSet_.row) rfl
def uX:=J @ValidSet_.fv.eq_1<|J @within_.q<|J @within_.fv.eq_1<|J @impl_IsName.q<|J @impl_IsName.fv.eq_1<|J @ContVS.q @ContVS.fv.eq_1
def ValidSet_.ok:AL 133 ValidSet_.row:=by
 refine vw (tC within_.ok (tC impl_IsName.ok (tC ContVS.ok tN))) Tryz.func133 ?_;intro a ab;simp only[Tryz.f133,Option.getD];simp only[ZZ,simprocAttr,Ab,uX,ContVS.ar];obtain⟨ad,af⟩:=ab;intro hg;simp only[AP];refine⟨λc1 ht=>⟨λc2=> ?_,λc2 _=> ?_⟩,λc1=> ?_⟩
 .simp[EH,c2]
 .rw[KR] at c2;have c0:EH a=(LC a 0 a.Glues && JV a 0 a.Tiles):=by
   have e1:a.Glues.length<=200:=by omega
   simp[EH,e1,c2]
  refine Ba.old ⟨{k:Nat//k<=a.Glues.length/\LC a k (a.Glues.drop k)=LC a 0 a.Glues},λk=>⟨[(24,.im (.int .i64 k.1)),(23,.im (.int .i64 a.Glues.length)),(22,.im (.sl false 2 (a.Glues.map Ad.c))),(3,.mp 1),(1,.ptr 0 0),(2,.im (.bool false))],[(1,(true,.map ⟨false,[.str]⟩ (O6 ((a.Glues.take k.1).map Ad.Name)))),(0,(true,.cells 35 ((Ap.c a).map .im)))],2⟩,λk=>a.Glues.length - k.1,λk=>⟨by simp[ZG,Ap.c],AU _⟩,⟨⟨0,by simp⟩,by simp only[ZZ,simprocAttr,Ab,uX,ContVS.ar,sub,O6,E5]⟩,λk=> ?_⟩;obtain⟨k,ac,z⟩:=k;simp only[ZZ,simprocAttr,Ab,uX,ContVS.ar,sub,AP,Qum];refine⟨λhk=>⟨hk,λx Z=>⟨ad x (Bg Z),?_⟩⟩,λhk _=> ?_⟩
  .rw[HI Z,LC] at z;have hu:=oB Ad.Name a.Glues k x Z;have O:(Jj x.Name && (Bz x.Strength 1 4 && decide (Cb (λg:Ad=>decide (g.Name=x.Name)) 0 a.Glues=k)))=false->false=EH a:=by
    intro h;rw[h,Gu] at z;rw[c0,<-z];rfl
   refine⟨λh1=>⟨λQ=>O ?_,λQ=>⟨λh3=>O (by simp[h3]),λh3=>⟨⟨k+1,by omega,?_⟩,by simp only;omega,?_,?_⟩⟩⟩,λh1=>O (by simp[h1])⟩
   .simp only[ZdX,Kd];exact .inr (.inr λh9=>(hu.1 h9) Q)
   .rw[KR] at h3;rw[h1,h3,hu.2 Q] at z;simpa using z
   .rw[AG (by omega) (by omega)];simp only;omega
   .rw[Qru _ _ Q,Jq,Z];simp
  .rw[DY (by omega),LC] at z;have c9:EH a=JV a 0 a.Tiles:=by rw[c0,<-z,EL]
   refine Ba.frz [0] ⟨{k:Nat//k<=a.Tiles.length/\JV a k (a.Tiles.drop k)=JV a 0 a.Tiles},λk=>⟨[(52,.im (.int .i64 k.1)),(51,.im (.int .i64 a.Tiles.length)),(50,.im (.sl false 2 (a.Tiles.map Tile.c))),(6,.mp 2),(1,.ptr 0 0),(2,.im (.bool false))],[(2,(true,.map ⟨false,[.str]⟩ (O6 ((a.Tiles.take k.1).map Tile.Name)))),(0,(false,.cells 35 ((Ap.c a).map .im)))],3⟩,λk=>a.Tiles.length - k.1,λk=>⟨by simp[ZG,Ap.c],AU _⟩,⟨⟨0,by simp⟩,by simp only[ZZ,simprocAttr,Ab,uX,ContVS.ar,sub,O6,E5]⟩,λk=> ?_⟩;obtain⟨k,ac,z⟩:=k;simp only[ZZ,simprocAttr,Ab,uX,ContVS.ar,sub,AP,Qum];refine⟨λhk=>⟨hk,λx Z=>⟨af x (Bg Z),?_⟩⟩,λhk=> ?_⟩
   .rw[HI Z,JV] at z;have hu:=oB Tile.Name a.Tiles k x Z;have O:(Jj x.Name && (decide (x.Sides.length=4) && (decide (Cb (λy:Tile=>decide (y.Name=x.Name)) 0 a.Tiles=k) && x.Sides.all (λg=>Bz g 0 a.Glues.length))))=false->false=EH a:=by
     intro h;rw[h,Gu] at z;rw[c9,<-z]
    have aa:(x.Sides.any λg=> !Bz g 0 a.Glues.length)= !x.Sides.all (λg=>Bz g 0 a.Glues.length):=by
     simp[List.not_all_eq_any_not]
    rw[aa];refine⟨λh1=>⟨λQ=>O ?_,λQ _=>⟨λh3=>O ?_,λh3=>⟨λh4=>O ?_,λh4=>⟨⟨k+1,by omega,?_⟩,by simp only;omega,?_,?_⟩⟩⟩⟩,λh1=>O (by simp[h1])⟩
    .simp only[ZdX,Kd];exact .inr (.inr (.inl λh9=>(hu.1 h9) Q))
    .have: ¬x.Sides.length=4:=by omega
     simp[this]
    .simp only[QJ] at h4;simp only[h4,bI]
    .have h5:x.Sides.length=4:=by omega
     simp only[QJ,KR] at h4;rw[h1,h5,hu.2 Q,h4] at z;simpa using z
    .rw[AG (by omega) (by omega)];simp only;omega
    .rw[Qru _ _ Q,Jq,Z];simp
   .rw[DY (by omega),JV] at z;rw[c9,<-z]
 .have: ¬a.Glues.length<=200:=by omega
  simp[EH,this]
def Ih(s:Ap)(a:AB):Bool:=(Dm none a.Tiles && decide (a.Tiles.length<=500)) && a.Tiles.all (λx=>Bz x.Tile 0 (s.Tiles.length - 1))
def ValidAssembly_.fv(a:Ap×AB):Bool:=(λs a=>EH s && Ih s a) (a.1) (a.2)
def ValidAssembly_.row:AF:=vK (b2 (qR Ap.d_le) (qR AB.d_le)) rB (λa=>Xl a.1) ValidAssembly_.fv
def ValidAssembly_.q:=Bd (R:=ValidAssembly_.row) rfl
def ValidAssembly_.ok:AL 110 ValidAssembly_.row:=by
 refine vw (tC ValidSet_.ok (tC hasForm_.ok (tC ContVA.ok tN))) Tryz.func110 ?_;intro a z;simp only[Tryz.f110,Option.getD];simp only[ZZ,simprocAttr,Ab,ValidAssembly_.fv,ValidSet_.q,ValidSet_.fv,hasForm_.q,hasForm_.fv,ContVA.q,ContVA.ar,ContVA.fv];refine⟨z,?_⟩
 split<;>rename_i Q
 .split<;>rename_i O
  .simp[Q,Ih,O.1,O.2,List.not_any_eq_all_not]
  .have Z:(Dm none a.2.Tiles && decide (a.2.Tiles.length<=500))=false:=by
    rw[LR];intro h;simp only[AY,CF] at h;exact O h
   simp[Ih,Z]
 .simp[Q]
def comparePlaced.fv(a:Al×AC):Int:=(λa p=>Q8 [FB a.At.Y p.Y,FB a.At.X p.X]) (a.1) (a.2)
def comparePlaced.row:AF:=vK (b2 (qR Al.d_le) (qR AC.d_le)) rI (λa=>True) comparePlaced.fv
def comparePlaced.q:=Bd (R:=comparePlaced.row) rfl
def comparePlaced.ok:AL 198 comparePlaced.row:=by
 refine vw (tC comparePoints.ok tN) Tryz.func198 ?_;intro a z;simp only[Tryz.f198,Option.getD];simp only[ZZ,simprocAttr,Ab,comparePlaced.fv,comparePoints.q,comparePoints.fv]
def Iv(l:List Al)(p:AC):Nat:=(l.takeWhile (λx=>Co x.At p)).length
def Qyx(p:AC): ∀(l:List Al) (lo:Nat),lo<=l.length->(∀(i:Nat) (x:Al),i<lo->l[i]? =some x->Co x.At p=true)->(∀(i:Nat) (x:Al),lo<=i->l[i]? =some x->Co x.At p=false)->Iv l p=lo
 |[],lo,h,_,_=>by simp at h;simp[Iv,h]
 |x::r,0,_,_,h=>by
  have:=h 0 x (by omega) (by simp)
  simp[Iv,ZdH,this]
 |x::r,lo+1,hl,O,Z=>by
  have h3:=O 0 x (by omega) (by simp);have Q:=Qyx p r lo (by simpa using hl) (λi y hi z=>O (i+1) y (by omega) (by simpa using z)) (λi y hi z=>Z (i+1) y (by omega) (by simpa using z));simp only[Iv] at Q;simp[Iv,ZdH,h3,Q]
def Sm(a b:AC):(Q8 [FB a.Y b.Y,FB a.X b.X]<0)↔Co a b=true:=by
 simp only[Co,Q8,FB]
 grind
def iC(a b:AC):(Q8 [FB a.Y b.Y,FB a.X b.X]=0)↔a=b:=by
 obtain⟨x,y⟩:=a;obtain⟨z,w⟩:=b;simp only[Q8,FB,AC.mk.injEq]
 grind
def midU(lo z:Nat)(h:lo+z<=562949953421312):IntKind.wrap .i64 ((IntKind.wrap .u64 (IntKind.wrap .i64 ((lo:Int)+z))).fdiv (2^min 1 IntKind.u64.bits))=(((lo+z)/2:Nat):Int):=by
 rw[AG (x:=(lo:Int)+z) (by omega) (by omega)];have O:IntKind.wrap .u64 ((lo:Int)+z)=(lo:Int)+z:=by
  simp only[IntKind.wrap,IntKind.signed,IntKind.bits];simp;omega
 have Q:(2:Int)^min 1 IntKind.u64.bits=2:=by decide
 rw[O,Q,Zet _ (by omega),AG (by omega) (by omega)];omega
def BinP.ar:List PK->Option ((List Al)×AC×Unit)
 |[.val (.sl _ _ z),.val (.agg O),.val (.fn 198 [] [])]=>(AZ Al.d z).bind λQ=>(AC.d O).bind λZ=>some (Q,Z,())
 |_=>none
def BinP.ae(a:(List Al)×AC×Unit):List PK:=[.val (.sl false 3 (a.1.map Al.c)),.val (.agg (AC.c a.2.1)),.val (.fn 198 [] [])]
def BinP.le: ∀z a,BinP.ar z=some a->Cy z (BinP.ae a):=by
 intro z a h;unfold BinP.ar at h;split at h
 .simp only[GI,AN] at h;obtain⟨Q,h0,Z,O,rfl⟩:=h;exact⟨EY (EN Al.d_le _ _ h0) (by simp only[Bl];rintro r ⟨y,_,rfl⟩;rfl),Lk (AC.d_le _ _ O),CE.refl _,trivial⟩
 .cases h
def BinP.fv(a:(List Al)×AC×Unit):Int×Bool:=(λl p _=>((Iv l p:Int),l.any (λx=>decide (x.At=p)))) (a.1) (a.2.1) (a.2.2)
def BinP.row:AF:=EX BinP.ar (λa=>Dm none a.1=true) (λa=>(λb=>D.tup [(D.int .i64) (b.1),(D.bool) (b.2)]) (BinP.fv a))
def BinP.q:=vq BinP.row rfl
def Yaq:=J @BinP.ae.eq_1<|J @BinP.fv.eq_1<|J @comparePlaced.q @comparePlaced.fv.eq_1
def BinP.ok:AL 197 BinP.row:=by
 refine kZ Fw (tC comparePlaced.ok tN) Tryz.func197 rfl (by kernel_rfl) (by kernel_rfl) (ar:=BinP.ar) (ae:=BinP.ae) BinP.le (n:=3) (λ_=>rfl) (by decide) (rc:=(lF (Ey) (W4))) (re:=(λb=>D.tup [(D.int .i64) (b.1),(D.bool) (b.2)])) (Qbz (cW) (pY)) (f:=BinP.fv) ?_;intro a af;simp only[Tryz.f197,Option.getD];simp only[ZZ,simprocAttr,Ab,Yaq];intro hn;refine Ba.old ⟨{p:Nat×Nat//p.1<=p.2/\p.2<=a.1.length/\(∀i x,i<p.1->a.1[i]? =some x->Co x.At a.2.1=true)/\(∀i x,p.2<=i->a.1[i]? =some x->Co x.At a.2.1=false)},λp=>⟨[(9,.im (.int .i64 p.1.1)),(10,.im (.int .i64 p.1.2)),(8,.im (.int .i64 a.1.length)),(6,.im (.int .i64 0)),(7,.im (.bool false)),(4,.ptr 0 0),(0,.im (.sl false 3 (a.1.map Al.c))),(2,.im (.fn 198 [] []))],[(0,(true,.cells 95 [.im (.int .i64 a.2.1.X),.im (.int .i64 a.2.1.Y)]))],1⟩,λp=>p.1.2 - p.1.1,λp=>⟨by simp[ZG],AU _⟩,⟨⟨(0,a.1.length),by simp,by simp,by simp,?_⟩,by simp only[ZZ,simprocAttr,Ab,Yaq,sub]⟩,λp=> ?_⟩
 .intro i x hi Z
  have:=(C6.1 Z).1
  simp only at hi;omega
 obtain⟨⟨lo,hi⟩,h1,h2,h3,h4⟩:=p;simp only at h1 h2 h3 h4;simp only[ZZ,simprocAttr,Ab,Yaq,sub,AP];obtain⟨_,Q⟩:=rK _ _ af;have ad: ∀(i:Nat) (x:Al),i<lo->a.1[i]? =some x->x.At≠a.2.1:=by
  intro i x hi Z he
  have:=h3 i x hi Z
  rw[he,sW] at this;cases this
 rw[midU lo hi (by omega)];simp only[Sm,iC];refine⟨λag=> ?_,λag=>⟨λhl=>⟨hl,λx Z=> ?_⟩,λhl=> ?_⟩⟩
 .refine⟨by omega,by omega,λx Z=>⟨λhb=> ?_,λhb=> ?_⟩⟩
  .rw[Bq] at Z;refine⟨⟨((lo+hi)/2+1,hi),by simp only;omega,h2,λi y O hy=> ?_,h4⟩,by simp only;omega,?_,rfl⟩
   .simp only at O;rcases Gd i ((lo+hi)/2) with h|h
    .exact lC (Q i _ y x h hy Z) hb
    .have:i=(lo+hi)/2:=by omega
     subst this;rw[Z] at hy;exact AJ hy▸hb
   .rw[AG (by omega) (by omega)];simp only;omega
  .rw[Bq] at Z;refine⟨⟨(lo,(lo+hi)/2),by simp only;omega,by simp only;omega,h3,λi y O hy=> ?_⟩,by simp only;omega,rfl,rfl⟩;simp only at O;rcases Gd ((lo+hi)/2) i with h|h
   .cases hl:Co y.At a.2.1 with
    |false=>rfl
    |true=>exact absurd (lC (Q _ i x y h Z hy) hl) hb
   .have:i=(lo+hi)/2:=by omega
    subst this;rw[Z] at hy;obtain rfl:=AJ hy;simpa using hb
 .have aa:=Qyx a.2.1 a.1 lo (by omega) h3 (λi y O hy=>h4 i y (by omega) hy);refine⟨by rw[aa],?_⟩;rw[mX];simp only[CF,List.any_eq_true];refine⟨λhe=>⟨x,Bg Z,he⟩,?_⟩;rintro⟨y,hy,he⟩;obtain⟨i,O,ac⟩:=gN.1 hy;have z:a.1[i]? =some y:=by rw[BA O,ac]
  rcases vM i lo with h|h|h
  .exact absurd he (ad i y h z)
  .subst h;rw[Z] at z;exact AJ z▸he
  .have ab:=Q lo i x y h Z z;rw[he] at ab
   have:=h4 lo x (by omega) Z
   rw[this] at ab;cases ab
 .have aa:=Qyx a.2.1 a.1 lo (by omega) h3 (λi y O hy=>h4 i y (by omega) hy);refine⟨by rw[aa],?_⟩;symm;simp only[List.any_eq_false,CF];intro y hy he;obtain⟨i,O,ac⟩:=gN.1 hy;have z:a.1[i]? =some y:=by rw[BA O,ac]
  exact ad i y (by omega) z he
def OR{l:List Al}{p:AC}(h:Dm none l=true){i:Nat}{x:Al}(Q:l[i]? =some x)(Z:x.At=p):Iv l p=i:=by
 obtain⟨_,z⟩:=rK _ _ h;have hi:=(C6.1 Q).1;refine Qyx p l i (by omega) (λj y hj O=> ?_) (λj y hj O=> ?_)
 .have:=z j i y x hj O Q
  rwa [Z] at this
 .rcases Gd i j with h1|h1
  .have h2:=z i j x y h1 Q O;rw[Z] at h2;cases h3:Co y.At p with
   |false=>rfl
   |true=>
    have:=lC h2 h3
    rw[sW] at this;cases this
  .have:j=i:=by omega
   subst this;rw[Q] at O;obtain rfl:=AJ O;rw[Z,sW]
def RP{l:List Al}{p:AC}(h:Dm none l=true):(l.any (λx=>decide (x.At=p))=true/\ ∃x,l[Iv l p]? =some x/\x.At=p/\l.find? (λx=>decide (x.At=p))=some x/\Cb (λx=>decide (x.At=p)) 0 l=(Iv l p:Int))\/
 (l.any (λx=>decide (x.At=p))=false/\l.find? (λx=>decide (x.At=p))=none/\Cb (λx=>decide (x.At=p)) 0 l= -1):=by
 rcases rM (λx=>decide (x.At=p)) l 0 with ⟨z,O⟩|⟨i,x,z,O,Q⟩
 .refine .inr ⟨?_,z,O⟩;simpa[ZdL] using z
 .have Z:x.At=p:=by simpa using vE z
  have hb:=OR h Q Z;refine .inl ⟨?_,x,by rw[hb];exact Q,Z,z,by rw[O,hb,FN]⟩;simp only[List.any_eq_true,CF];exact⟨x,Bg Q,Z⟩
def placeAt.rc:D->Option (Int):=Ey
def placeAt.re:Int->D:=D.int .i64
def placeAt.rle: ∀d b,placeAt.rc d=some b->Le d (placeAt.re b):=cW
def placeAt.ar:List PK->Option (AB×AC):=a2 (kR AB.d) (kR AC.d)
def placeAt.fv(a:AB×AC):Int:=(λa p=>Cb (λx=>decide (x.At=p)) 0 a.Tiles) (a.1) (a.2)
def placeAt.row:AF:=vK (b2 (qR AB.d_le) (qR AC.d_le)) (RK.mk placeAt.rc placeAt.re placeAt.rle) (λa=>Dm none a.1.Tiles=true) placeAt.fv
def placeAt.q:=Bd (R:=placeAt.row) rfl
def placeAt.ok:AL 183 placeAt.row:=by
 refine vw (tC BinP.ok tN) Tryz.func183 ?_;intro a z;simp only[Tryz.f183,Option.getD];simp only[ZZ,simprocAttr,Ab,placeAt.fv,placeAt.rc,BinP.q,BinP.ar,BinP.fv];refine⟨z,?_⟩;rcases RP (p:=a.2) z with ⟨O,x,Z,Q,h4,h5⟩|⟨O,Z,Q⟩
 .rw[Ai O,h5]
 .rw[O,Af (by simp),Q]
def Km{β:Type}:List (AC×β)->AC->Option β
 |[],_=>none
 |(k,v)::r,p=>if p=k then some v else Km r p
def kO(l:List (AC×Int))(p:AC):Int:=(Km l p).getD (-1)
def L9{β:Type}:List (AC×β)->AC->β->List (AC×β)
 |[],p,v=>[(p,v)]
 |(k,w)::r,p,v=>if p=k then (p,v)::r else (k,w)::L9 r p v
def mI{α:Type}{l:List α}{k:Nat}{x:α}(h:l[k]? =some x):l.take (k+1)=l.take k++[x]:=by rw[Jq,h];rfl
def newC.pre(a:A9×AB):Prop:=Dt a.1.Set/\a.1.Set.Tiles.length<=1000000/\ ∀x∈a.2.Tiles,eP a.1.Set x.Tile/\Ry x.At
def Hd(a:AB)(i:Int):Int:=(a.Tiles[i.toNat]?.map Al.Tile).getD (-1)
def X1(s:Ap)(a:AB)(i:Nat)(d:Int):List Ag:=
 if 0<=Hz a i d then if 0<VW s (Hd a i) d (Hd a (Hz a i d)) then [⟨i,Hz a i d,VW s (Hd a i) d (Hd a (Hz a i d))⟩] else [] else []
def KC(s:Ap)(a:AB)(i:Nat):Nat->List Ag
 |0=>[]
 |k+1=>KC s a i k++X1 s a i (1 - k)
def FX(s:Ap)(a:AB):Nat->List Ag
 |0=>[]
 |k+1=>FX s a k++KC s a k 2
def Pa(s:Ap)(a:AB)(i:Nat)(d:Int):(X1 s a i d).length<=1:=by
 simp only[X1];split
 .split<;>simp
 .simp
def Ql7(s:Ap)(a:AB)(i:Nat): ∀k,(KC s a i k).length<=k
 |0=>by simp[KC]
 |k+1=>by
  have z:=Ql7 s a i k;have O:=Pa s a i (1 - k);simp only[KC,Ez];omega
def sA(s:Ap)(a:AB): ∀k,(FX s a k).length<=2*k
 |0=>by simp[FX]
 |k+1=>by
  have z:=sA s a k;have O:=Ql7 s a k 2;simp only[FX,Ez];omega
def iL{A:Type}(p:A->Bool)(l:List A):Cb p 0 l<(l.length:Int):=by
 rcases rM p l 0 with ⟨_,h⟩|⟨i,x,_,h,z⟩
 .omega
 .have:=(C6.1 z).1
  omega
def Lp(a:AB)(i d:Int):Hz a i d<(a.Tiles.length:Int):=iL _ _
def l06Bonds.fv(a:Ap×AB):List Ag:=(λs a=>FX s a a.Tiles.length) (a.1) (a.2)
def l06Bonds.row:AF:=vK (b2 (qP 2 Ap.d_le) (qP 1 AB.d_le)) (rS Ag.d_le Ag.c_n) (λa=>Dt a.1/\LW a.1 a.2/\a.2.Tiles.length<=1000000) l06Bonds.fv
def l06Bonds.q:=Bd (R:=l06Bonds.row) rfl
def X8:=J @l06Bonds.fv.eq_1<|J @l06Neighbor.q<|J @l06Neighbor.fv.eq_1<|J @l02Bond.q @l02Bond.fv.eq_1
def l06Bonds.ok:AL 104 l06Bonds.row:=by
 refine vw (tC l06Neighbor.ok (tC l02Bond.ok tN)) Tryz.func104 ?_;intro a z;simp only[Tryz.f104,Option.getD];simp only[ZZ,simprocAttr,Ab,X8];obtain⟨h1,Z,h3⟩:=z;refine Ba.ren ⟨{k:Nat//k<=a.2.Tiles.length},λk=>⟨[(6,.im (.int .i64 k.1)),(5,.own 4),(0,.ptr 0 0),(1,.ptr 1 0)],[(4,(true,.arr 177 3 ((FX a.1 a.2 k.1).map Ag.c))),(0,(false,.view (Ap.c a.1))),(1,(false,.view (AB.c a.2)))],5⟩,λk=>a.2.Tiles.length - k.1,λk=>⟨by simp[ZG],by simp⟩,⟨⟨0,by simp⟩,[(4,some 3)],?_⟩,λk=> ?_⟩
 .simp only[Av];simp only[ZZ,simprocAttr,Ab,X8,AS,AR,FX,BF]
 obtain⟨k,af⟩:=k;simp only[ZZ,simprocAttr,Ab,X8,sub,AP];intro ac;refine⟨λhk=> ?_,λhk=> ?_⟩
 .refine Ba.ren ⟨{j:Nat//j<=2},λj=>⟨[(7,.im (.int .i64 (1 - (j.1:Int)))),(6,.im (.int .i64 k)),(5,.own 5),(0,.ptr 0 0),(1,.ptr 1 0)],[(5,(true,.arr 177 3 ((FX a.1 a.2 k++KC a.1 a.2 k j.1).map Ag.c))),(0,(false,.view (Ap.c a.1))),(1,(false,.view (AB.c a.2)))],6⟩,λj=>2 - j.1,λj=>⟨by simp[ZG],by simp⟩,⟨⟨0,by simp⟩,[(5,some 4)],?_⟩,λj=> ?_⟩
  .simp only[Av];simp only[ZZ,simprocAttr,Ab,X8,AS,AR,KC,DJ]
   try simp
  obtain⟨j,ad⟩:=j;simp only[ZZ,simprocAttr,Ab,X8,sub,AP,WJ,W9,WH,Bm,D.one,Et,QL,OK];have ab:=Lp a.2 k (1 - j);have ag:=sA a.1 a.2 k;have ah:=Ql7 a.1 a.2 k j;refine⟨λhd=>⟨⟨Z.1,hk,hd,by omega⟩,λhn=>⟨⟨j+1,by omega⟩,[(5,some 5)],by simp only;omega,?_⟩,λhn=>⟨hk,λx hx=>⟨by omega,ab,λy hy=>⟨⟨h1,Z.2 x (Bg hx),⟨by omega,by omega⟩,Z.2 y (Bg hy)⟩,λhb=>⟨by simp only[Ez];omega,⟨j+1,by omega⟩,[(5,some 7)],by simp only;omega,?_⟩,λhb=>⟨⟨j+1,by omega⟩,[(5,some 5)],by simp only;omega,?_⟩⟩⟩⟩⟩,λhd=>⟨⟨k+1,by omega⟩,[(4,some 5)],by simp only;omega,?_⟩⟩
  .simp only[Av];simp only[ZZ,simprocAttr,Ab,X8,AS,AR];refine⟨?_,?_⟩
   .rw[AG (by omega) (by omega)];omega
   .simp only[KC,X1];rw[Af (by omega),DJ]
  .simp only[Av];simp only[ZZ,simprocAttr,Ab,X8,AS,AR];refine⟨?_,?_⟩
   .rw[AG (by omega) (by omega)];omega
   .have O:Hd a.2 k=x.Tile:=by simp[Hd,hx]
    have Q:Hd a.2 (Hz a.2 k (1 - j))=y.Tile:=by simp only[Hd];rw[hy];rfl
    simp only[KC,X1];rw[Ai (by omega),O,Q,Ai hb];simp[Ag.c]
  .simp only[Av];simp only[ZZ,simprocAttr,Ab,X8,AS,AR];refine⟨?_,?_⟩
   .rw[AG (by omega) (by omega)];omega
   .have O:Hd a.2 k=x.Tile:=by simp[Hd,hx]
    have Q:Hd a.2 (Hz a.2 k (1 - j))=y.Tile:=by simp only[Hd];rw[hy];rfl
    simp only[KC,X1];rw[Ai (by omega),O,Q,Af hb,DJ]
  .simp only[Av];simp only[ZZ,simprocAttr,Ab,X8,AS,AR];have aa:j=2:=by omega
   subst aa;refine⟨?_,?_⟩
   .rw[AG (by omega) (by omega)];omega
   .simp only[FX]
 .have:k=a.2.Tiles.length:=by omega
  rw[this]
def Jt:List Int->List Int->Bool
 |x::r,y::s=>if x=y then Jt r s else decide (x<y)
 |_,_=>false
def GM(v:Int)(l:List Int)(w:Int)(m:List Int):Bool:=if v=w then if l.length=m.length then Jt l m else decide (l.length<m.length) else decide (v<w)
def l07Before.fv(a:Int×(List Int)×Int×(List Int)):Bool:=(GM) (a.1) (a.2.1) (a.2.2.1) (a.2.2.2)
def l07Before.row:AF:=vK (b4 qI (qS F3 DU) qI (qS F3 DU)) rB (λa=>True) l07Before.fv
def l07Before.q:=Bd (R:=l07Before.row) rfl
def l07Before.ok:AL 132 l07Before.row:=by
 refine vw tN Tryz.func132 ?_;intro a ab;simp only[Tryz.f132,Option.getD];simp only[ZZ,simprocAttr,Ab,l07Before.fv]
 split<;>rename_i h
 .simp only[GM];rw[Af h]
 intro ad af
 split<;>rename_i h2
 .intro _ _;simp only[GM];rw[Ai (GK.1 h),Af (by omega)]
 have hn:a.2.1.length=a.2.2.2.length:=by omega
 have hb:GM a.1 a.2.1 a.2.2.1 a.2.2.2=Jt a.2.1 a.2.2.2:=by simp only[GM];rw[Ai (GK.1 h),Ai hn]
 rw[hb];refine Ba.old ⟨{k:Nat//k<=a.2.1.length/\Jt (a.2.1.drop k) (a.2.2.2.drop k)=Jt a.2.1 a.2.2.2},λk=>⟨[(9,.im (.int .i64 k.1)),(8,.im (.bool false)),(0,.im (.int .i64 a.1)),(1,.im (.sl false 1 (a.2.1.map Ak))),(2,.im (.int .i64 a.2.2.1)),(3,.im (.sl false 1 (a.2.2.2.map Ak)))],[],0⟩,λk=>a.2.1.length - k.1,λk=>⟨by simp[ZG],AU _⟩,⟨⟨0,by simp⟩,by simp only[ZZ,simprocAttr,Ab,l07Before.fv,sub]⟩,λk=> ?_⟩;obtain⟨k,ac,z⟩:=k;simp only[ZZ,simprocAttr,Ab,l07Before.fv,sub,AP];intro _;refine⟨λZ=>⟨Z,λx hx=>⟨by omega,λy hy=>⟨λaa=>⟨Z,λx' O=>⟨by omega,λy' Q=> ?_⟩⟩,λhe=> ?_⟩⟩⟩,λZ=> ?_⟩
 .rw[hx] at O;rw[hy] at Q;obtain rfl:=AJ O;obtain rfl:=AJ Q;rw[HI hx,HI hy,Jt,Af aa] at z;exact z
 .rw[HI hx,HI hy,Jt,Ai (GK.1 he)] at z;refine⟨⟨k+1,by omega,z⟩,by simp only;omega,?_⟩;rw[AG (by omega) (by omega)];simp only;omega
 .rw[DY (by omega),Jt] at z
  .exact z
  .intros;simp_all
def Qix{l:List Al}(h:Dm none l=true):(l.map Al.At).Nodup:=by
 have z:=(rK _ _ h).2;clear h;revert z;induction l with
 |nil=>intro _;simp
 |cons x r ih=>
  intro z;simp only[Be,bE];refine⟨λhm=> ?_,ih (λi j a b aa O Q=>z (i+1) (j+1) a b (by omega) (by simpa using O) (by simpa using Q))⟩;obtain⟨y,hy,Z⟩:=Bl.1 hm;obtain⟨i,hi⟩:=Wp.1 hy
  have:=z 0 (i+1) x y (by omega) rfl (by simpa using hi)
  rw[Z,sW] at this;cases this
def Ys:Bo []=[]:=rfl
def Qxu(n:Nat)(rows:List (List D)):(Bo rows).all (AA n)=true:=by
 simp only[Bo,List.all_map,CR,Function.comp];intro r z;clear z;induction r with
 |nil=>simp[AA]
 |cons x r ih=>simp[AA,AV.bel,ih]
def Mu(F:List Nat)(H:An): ∀(r:List D),DL F H (r.map .im)=r.map .im
 |[]=>rfl
 |x::r=>by simp only[Be,DL,AV.fzA,Mu F H r]
def Mv(F:List Nat)(H:An): ∀(rows:List (List D)),DM F H (Bo rows)=Bo rows
 |[]=>rfl
 |x::r=>by
  have:=Mv F H r
  simp only[Bo] at this;simp only[Bo,Be,DM,Mu,this]
def Qzl(F:List Nat)(H:An): ∀(a b:List (List AV)),DM F H (a++b)=DM F H a++DM F H b
 |[],b=>rfl
 |x::r,b=>by simp only[BO,DM,Qzl F H r b]
def TG(π:List (Nat×Option Nat)): ∀(r:List D),Dz π (r.map .im) (r.map .im)
 |[]=>by simp[Dz]
 |x::r=>by simp only[Be,Dz,mt,TG π r,QL]
def Qzo(π:List (Nat×Option Nat)): ∀(rows:List (List D)),FF π (Bo rows) (Bo rows)
 |[]=>by simp[FF,Bo]
 |x::r=>by
  have:=Qzo π r
  simp only[Bo] at this;simp only[Bo,Be,FF,TG,this,QL]
def Qzb(F:List Nat)(H:An)(rows:List (List D)):DM F H (rows.map λr=>r.map AV.im)=rows.map λr=>r.map AV.im:=Mv F H rows
def uD(π:List (Nat×Option Nat))(rows:List (List D)):FF π (rows.map λr=>r.map AV.im) (rows.map λr=>r.map AV.im)=True:=gY (Qzo π rows)
def pD(n:Nat)(rows:List (List D)):(rows.map λr=>r.map AV.im).all (AA n)=true:=Qxu n rows
def Qtl{α β:Type}{f:α->Option β}{g:β->α}(h: ∀y,f (g y)=some y): ∀(l:List β),Ax f (l.map g)=some l
 |[]=>rfl
 |x::r=>by simp only[Be,Ax,h,Qtl h r]
def XQ(h:Nat->Option Am)(kx:Nat->Option Nat)(n:Nat)(rows:List (List D)):Ax (Ax λx=>E8 (Bf h kx (n+1) x)) (rows.map λr=>r.map AV.im)=some rows:=
 Qtl (g:=λr=>r.map AV.im) (λy=>Qtl (g:=AV.im) (λ_=>rfl) y) rows
def IJ{A:Type}(f:A->A):Nat->List A->List A
 |0,l=>l
 |_+1,[]=>[]
 |k+1,x::r=>f x::IJ f k r
def Qwq{A:Type}(f:A->A): ∀(k:Nat) (l:List A),(IJ f k l).length=l.length
 |0,_=>rfl
 |_+1,[]=>rfl
 |k+1,x::r=>by simp only[IJ,Dx,Qwq f k r]
def Qoo{A:Type}(f:A->A): ∀(k:Nat) (l:List A),(IJ f k l)[k]? =l[k]?
 |0,_=>rfl
 |_+1,[]=>by simp[IJ]
 |k+1,x::r=>by simp only[IJ,QH,Qoo f k r]
def Qn5{A:Type}(f:A->A): ∀(k:Nat) (l:List A) (x:A),l[k]? =some x->(IJ f k l).set k (f x)=IJ f (k+1) l
 |0,[],x,h=>by simp at h
 |0,y::r,x,h=>by
  simp only[Iq,AN] at h;subst h;simp[IJ]
 |k+1,[],x,h=>by simp at h
 |k+1,y::r,x,h=>by
  have:=Qn5 f k r x (by simpa using h)
  rw[IJ,IJ,mU,this]
def Qabf{A:Type}(f:A->A)(k:Nat)(l:List A)(x:A)(h:l[k]? =some x)(hf:f x=x):IJ f (k+1) l=IJ f k l:=by
 rw[<-Qn5 f k l x h,hf];have z:(IJ f k l)[k]? =some x:=by rw[Qoo,h]
 obtain⟨O,Q⟩:=C6.1 z;rw[<-Q];exact List.set_getElem_self O
def Qvd{A:Type}(f:A->A): ∀(k:Nat) (l:List A),l.length<=k->IJ f k l=l.map f
 |0,[],_=>rfl
 |0,x::r,h=>by simp at h
 |_+1,[],_=>rfl
 |k+1,x::r,h=>by simp only[IJ,Be,Qvd f k r (by simpa using h)]
def X3:Nat->List Int
 |0=>[]
 |k+1=>X3 k++[(k:Int)]
def fA: ∀k,(X3 k).length=k
 |0=>rfl
 |k+1=>by simp[X3,fA k]
def JZ(x y v:Int):Int:=if v=EC x y then Fq x y else v
def tJ(own:List Int)(b:Ag):List Int:=own.map (JZ (own[b.A.toNat]?.getD 0) (own[b.B.toNat]?.getD 0))
def Cp(n:Nat)(bs:List Ag):Nat->List Int
 |0=>X3 n
 |k+1=>match bs[k]? with
  |some b=>tJ (Cp n bs k) b
  |none=>Cp n bs k
def Qto(n:Nat)(bs:List Ag): ∀k,(Cp n bs k).length=n
 |0=>fA n
 |k+1=>by
  simp only[Cp];split
  .simp[tJ,Qto n bs k]
  .exact Qto n bs k
def Dq(own:List Int)(i:Nat):Nat->List Int
 |0=>[]
 |k+1=>Dq own i k++(if own[i+k]? =some (i:Int) then [((i+k:Nat):Int)] else [])
def Qsd(own:List Int)(i:Nat): ∀k,(Dq own i k).length<=k
 |0=>by simp[Dq]
 |k+1=>by
  have:=Qsd own i k
  simp only[Dq,Ez]
  split<;>simp<;>omega
def BJ(own:List Int)(n:Nat):Nat->List (List Int)
 |0=>[]
 |k+1=>BJ own n k++(if own[k]? =some (k:Int) then [Dq own k (n - k)] else [])
def sF(own:List Int)(n:Nat): ∀k,(BJ own n k).length<=k
 |0=>by simp[BJ]
 |k+1=>by
  have:=sF own n k
  simp only[BJ,Ez]
  split<;>simp<;>omega
def VT(n:Int)(bs:List Ag):List (List Int):=BJ (Cp n.toNat bs bs.length) n.toNat n.toNat
def LG(n:Int)(bs:List Ag):Prop:= ∀b∈bs,0<=b.A/\b.A<n/\0<=b.B/\b.B<n
def l06Groups.fv(a:Int×(List Ag)):List (List Int):=(VT) (a.1) (a.2)
def l06Groups.row:AF:=vK (b2 qI (qS Ag.d_le Ag.c_n)) (rS sL Nz) (λa=>0<=a.1/\a.1<=1000000/\LG a.1 a.2) l06Groups.fv
def l06Groups.q:=Bd (R:=l06Groups.row) rfl
def Jo:=J @l06Groups.fv.eq_1<|J @l00Min.q<|J @l00Min.fv.eq_1<|J @l00Max.q @l00Max.fv.eq_1
def l06Groups.ok:AL 125 l06Groups.row:=by
 refine vw (tC l00Min.ok (tC l00Max.ok tN)) Tryz.func125 ?_;intro a af;simp only[Tryz.f125,Option.getD];simp only[ZZ,simprocAttr,Ab,Jo];obtain⟨ak,am,aa⟩:=af;obtain⟨n,hn⟩: ∃n:Nat,a.1=n:=⟨a.1.toNat,by omega⟩;simp only[VT,hn,Bq];rw[hn] at ak am aa;refine Ba.ren ⟨{k:Nat//k<=n},λk=>⟨[(6,.im (.int .i64 k.1)),(5,.own 2),(0,.im (.int .i64 n)),(1,.im (.sl false 3 (a.2.map Ag.c)))],[(2,(true,.arr 2 1 ((X3 k.1).map Ak)))],3⟩,λk=>n - k.1,λk=>⟨by simp[ZG],by simp⟩,⟨⟨0,by simp⟩,[(2,some 1)],?_⟩,λk=> ?_⟩
 .simp only[Av];simp only[ZZ,simprocAttr,Ab,Jo,AS,AR,X3,BF,hn]
  try simp
 obtain⟨k,Z⟩:=k;simp only[ZZ,simprocAttr,Ab,Jo,sub,AP,WJ,W9,WH,Bm,D.one,Et,QL,OK];have ac:=fA k;refine⟨λz=>⟨by rw[ac];omega,⟨k+1,by omega⟩,[(2,some 4)],by simp only;omega,?_⟩,λz=> ?_⟩
 .simp only[Av];simp only[ZZ,simprocAttr,Ab,Jo,AS,AR];refine⟨by rw[AG (by omega) (by omega)];omega,by simp[X3,Ak]⟩
 have ah:n=k:=by omega
 subst ah;clear ac z Z;refine Ba.old ⟨{k:Nat//k<=a.2.length},λk=>⟨[(7,.im (.int .i64 k.1)),(5,.own 2),(0,.im (.int .i64 n)),(1,.im (.sl false 3 (a.2.map Ag.c)))],[(2,(true,.arr 2 1 ((Cp n a.2 k.1).map Ak)))],3⟩,λk=>a.2.length - k.1,λk=>⟨by simp[ZG],by simp⟩,⟨⟨0,by simp⟩,by simp only[ZZ,simprocAttr,Ab,Jo,sub,Cp]⟩,λk=> ?_⟩;obtain⟨k,Z⟩:=k;have O:=Qto n a.2 k;simp only[ZZ,simprocAttr,Ab,Jo,sub,AP,O];intro _;refine⟨λz=>⟨z,λb hb=> ?_⟩,λz=> ?_⟩
 .obtain⟨b1,b2,b3,b4⟩:=aa b (Bg hb);refine⟨b1,b2,by omega,λx hx=>⟨z,λb' ab=> ?_⟩⟩;rw[hb] at ab;obtain rfl:=AJ ab;refine⟨b3,b4,by omega,λy hy=> ?_⟩;refine Ba.old ⟨{j:Nat//j<=n},λj=>⟨[(10,.im (.int .i64 j.1)),(9,.im (.int .i64 y)),(8,.im (.int .i64 x)),(7,.im (.int .i64 k)),(5,.own 2),(0,.im (.int .i64 n)),(1,.im (.sl false 3 (a.2.map Ag.c)))],[(2,(true,.arr 2 1 ((IJ (JZ x y) j.1 (Cp n a.2 k)).map Ak)))],3⟩,λj=>n - j.1,λj=>⟨by simp[ZG],by simp⟩,⟨⟨0,by simp⟩,by simp only[ZZ,simprocAttr,Ab,Jo,sub,IJ]⟩,λj=> ?_⟩;obtain⟨j,aq⟩:=j;have ad:=Qwq (JZ x y) j (Cp n a.2 k);rw[O] at ad;have ai:=Qoo (JZ x y) j (Cp n a.2 k);simp only[ZZ,simprocAttr,Ab,Jo,sub,AP,ad];intro _;refine⟨λhj=>⟨hj,hj,λv hv=> ?_⟩,λhj=> ?_⟩
  .have aw:=hv;rw[ai] at hv;refine⟨λQ=>⟨hj,hj,λv' av=>⟨⟨j+1,by omega⟩,by simp only;omega,by rw[AG (by omega) (by omega)];simp only;omega,?_⟩⟩,λQ=>⟨⟨j+1,by omega⟩,by simp only;omega,by rw[AG (by omega) (by omega)];simp only;omega,?_⟩⟩
   .rw[<-Qn5 _ _ _ _ hv,Ws];simp only[JZ,Q,BD,Ak]
   .rw[Qabf _ _ _ _ hv (by simp only[JZ];rw[Af Q])]
  .refine⟨⟨k+1,by omega⟩,by simp only;omega,by rw[AG (by omega) (by omega)];simp only;omega,?_⟩;rw[Qvd _ _ _ (by omega)];simp only[Cp,hb,tJ,hx,hy,AX]
 have ag:k=a.2.length:=by omega
 subst ag;clear z Z aa;refine Ba.frr ⟨{k:Nat//k<=n},λk=>⟨[(12,.im (.int .i64 k.1)),(11,.own 4),(5,.own 2),(0,.im (.int .i64 n))],[(4,(true,.arrA 41 1 (Bo ((BJ (Cp n a.2 a.2.length) n k.1).map CZ)))),(2,(true,.arr 2 1 ((Cp n a.2 a.2.length).map Ak)))],5⟩,λk=>n - k.1,λk=>⟨by simp[ZG,Qxu],by simp⟩,⟨⟨0,by simp⟩,[],[(4,some 3)],?_⟩,λk=> ?_⟩
 .simp only[Av];simp only[ZZ,simprocAttr,Ab,Jo,AS,AR,BJ,BF,Ys]
  try simp
 obtain⟨k,Z⟩:=k;obtain⟨own,hown⟩: ∃own,own=Cp n a.2 a.2.length:=⟨_,rfl⟩;simp only[<-hown] at O⊢;have an:=sF own n k;simp only[ZZ,simprocAttr,Ab,Jo,sub,AP,O];refine⟨λz=>⟨z,z,λx hx=>⟨λQ=>⟨⟨k+1,by omega⟩,[],[(4,some 4)],by simp only;omega,?_⟩,λQ=> ?_⟩⟩,λz=> ?_⟩
 .have e1:BJ own n (k+1)=BJ own n k:=by
   simp only[BJ];rw[Af (by rw[hx];simpa using Q),DJ]
  simp only[Av];simp only[ZZ,simprocAttr,Ab,Jo,AS,AR,Qzb,uD,e1];rw[AG (by omega) (by omega)];simp
 .have Q:=GK.1 Q;refine Ba.ren ⟨{m:Nat//m<=n - k},λm=>⟨[(14,.im (.int .i64 ((k+m.1:Nat):Int))),(13,.own 6),(12,.im (.int .i64 k)),(11,.own 4),(5,.own 2),(0,.im (.int .i64 n))],[(6,(true,.arr 2 1 ((Dq own k m.1).map Ak))),(4,(true,.arrA 41 1 (Bo ((BJ own n k).map CZ)))),(2,(true,.arr 2 1 (own.map Ak)))],7⟩,λm=>n - k - m.1,λm=>⟨by simp[ZG,Qxu],by simp⟩,⟨⟨0,by simp⟩,[(6,some 5)],?_⟩,λm=> ?_⟩
  .simp only[Av];simp only[ZZ,simprocAttr,Ab,Jo,AS,AR,Dq,BF,uD]
   try simp
  obtain⟨m,au⟩:=m;have ao:=Qsd own k m;simp only[ZZ,simprocAttr,Ab,Jo,sub,AP,O,WJ,W9,WH,Bm,D.one,Et,QL,OK];refine⟨λhm=>⟨hm,hm,λv hv=>⟨λh=>⟨by omega,⟨m+1,by omega⟩,[(6,some 8)],by simp only;omega,?_⟩,λh=>⟨⟨m+1,by omega⟩,[(6,some 6)],by simp only;omega,?_⟩⟩⟩,λhm=>⟨by simp[AA,AV.bel],by omega,by rw[QM,pD];simp[AA,AV.bel],⟨k+1,by omega⟩,[6],[(4,some 8)],by simp only;omega,?_⟩⟩
  .simp only[Av];simp only[ZZ,simprocAttr,Ab,Jo,AS,AR,uD];refine⟨?_,?_⟩
   .rw[AG (by omega) (by omega)];omega
   .subst h;simp only[Dq];rw[Ai hv];simp[Ak]
  .simp only[Av];simp only[ZZ,simprocAttr,Ab,Jo,AS,AR,uD];refine⟨?_,?_⟩
   .rw[AG (by omega) (by omega)];omega
   .simp only[Dq];rw[Af (by rw[hv];simpa using h),DJ]
  .have aj:m=n - k:=by omega
   have e1:BJ own n (k+1)=BJ own n k++[Dq own k m]:=by
    simp only[BJ];rw[Ai (by rw[hx,Q]),aj]
   simp only[Av];simp only[ZZ,simprocAttr,Ab,Jo,AS,AR,Qzl,Qzb,e1,DX,Be,BF];rw[AG (by omega) (by omega)];refine⟨by simp,?_⟩
   have:=Qzo [(4,some 8)] ((BJ own n k).map CZ++[[D.sl false 1 ((Dq own k m).map Ak)]])
   simpa only[Bo,DX,Be,BF] using this
 .have:k=n:=by omega
  subst this;simp only[ZZ,simprocAttr,Ab,Jo,XQ]
end Go.Ae
namespace Go.Ae
def A8(b n:Nat)(f:Nat->Am):An:=(List.range n).map λi=>(b+i,f i)
def Pi(b n:Nat)(f:Nat->Am):A8 b (n+1) f=A8 b n f++[(b+n,f n)]:=by
 simp only[A8,gV,DX,Be,BF]
def fT(b:Nat)(f:Nat->Am)(m:Nat): ∀(n:Nat),hget (A8 b n f) m=if b<=m/\m<b+n then some (f (m - b)) else none
 |0=>by rw[Af (by omega)];rfl
 |n+1=>by
  rw[Pi,zQ,fT b f m n];simp only[hget];by_cases h:b<=m/\m<b+n
  .rw[Ai h,Ai (by omega)]
  .rw[Af h];by_cases z:b+n=m
   .subst z;rw[Ai (by omega),show b+n - b=n by omega];simp
   .have:(b+n==m)=false:=by simpa using z
    rw[this,Af (by omega)];rfl
def Dp(b n:Nat)(f:Nat->Am)(j:Nat)(h:j<n):hget (A8 b n f) (b+j)=some (f j):=by
 rw[fT,Ai (by omega),show b+j - b=j by omega]
def zW(b n:Nat)(f:Nat->Am)(m:Nat)(h:m<b\/b+n<=m):hget (A8 b n f) m=none:=by
 rw[fT,Af (by omega)]
def Xj(m:Nat)(ks:List Nat): ∀(x:An),hget (AW x ks) m=if ks.contains m then none else hget x m
 |[]=>by simp[AW,hget]
 |(q,e)::r=>by
  simp only[AW];have ih:=Xj m ks r;cases hq:ks.contains q
  .simp only[Bk,hget];cases hqm:q==m
   .simpa using ih
   .have:q=m:=by simpa using hqm
    subst this;simp only[Cg,hq];rfl
  .simp only[Cg,ih,hget];cases hqm:q==m
   .simp
   .have:q=m:=by simpa using hqm
    subst this;rw[Ai hq,Ai hq]
def HU(b n:Nat)(f:Nat->Am)(ks:List Nat)(h: ∀k∈ks,k<b\/b+n<=k):AW (A8 b n f) ks=A8 b n f:=by
 have: ∀(l:List Nat),(∀i∈l,i<n)->AW (l.map λi=>(b+i,f i)) ks=l.map λi=>(b+i,f i):=by
  intro l;induction l with
  |nil=>intro _;rfl
  |cons i r ih=>
   intro Q;have O:=Q i (BU ..);have z:ks.contains (b+i)=false:=by
    rw[LR];intro z
    have:=h _ (Jr.1 z)
    omega
   simp only[Be,AW,z,Bk,ih (λj Z=>Q j (BQ _ Z))]
 exact this _ (λi O=>Bc.1 O)
def Qns(π:List (Nat×Option Nat))(s:Az)(y:An): ∀(x:An),EJ π s (x++y)=(EJ π s x/\EJ π s y)
 |[]=>by simp[EJ]
 |(q,(z,e))::r=>by simp only[BO,EJ,Qns π s y r,nC]
def ZY(π:List (Nat×Option Nat))(s:Az)(b n:Nat)(f:Nat->Am):EJ π s (A8 b n f)↔ ∀i,i<n->Cx s π (f i).1 (f i).2 (pm π (b+i)):=by
 have: ∀(l:List Nat),EJ π s (l.map λi=>(b+i,f i))↔ ∀i∈l,Cx s π (f i).1 (f i).2 (pm π (b+i)):=by
  intro l;induction l with
  |nil=>simp[EJ]
  |cons i r ih=>simp only[Be,EJ,ih,Br,Zeg]
 rw[A8,this];simp only[Bc]
def F6:An->List Nat
 |[]=>[]
 |(n,_)::r=>n::F6 r
def aD(π:List (Nat×Option Nat)): ∀(H:An),DC π H=(F6 H).map (pm π)
 |[]=>rfl
 |(n,e)::r=>by simp only[DC,F6,Be,aD π r]
def Xh(b n:Nat)(f:Nat->Am):F6 (A8 b n f)=(List.range n).map (b+ ·):=by
 have: ∀(l:List Nat),F6 (l.map λi=>(b+i,f i))=l.map (b+ ·):=by
  intro l;induction l with
  |nil=>rfl
  |cons i r ih=>simp only[Be,F6,ih]
 exact this _
def aI(g:Nat->Option Nat): ∀(l:List Nat),l.Nodup->(∀x∈l,∀y∈l,∀m,g x=some m->g y=some m->x=y)->Cj (l.map g)=true
 |[],_,_=>rfl
 |x::r,h,O=>by
  simp only[bE] at h;have ih:=aI g r h.2 (λa Z b hb=>O a (BQ _ Z) b (BQ _ hb));simp only[Be];cases hx:g x with
  |none=>simpa only[Cj] using ih
  |some m=>
   simp only[Cj,ih,Et,QJ];rw[LR];intro hc;obtain⟨y,Q,z⟩:=Bl.1 (Jr.1 hc)
   have:=O x (BU ..) y (BQ _ Q) m hx z
   exact h.1 (this▸Q)
def Wa(π:List (Nat×Option Nat)): ∀(a b:List (List AV)),FF π a b↔a.length=b.length/\ ∀(i:Nat) x y,a[i]? =some x->b[i]? =some y->Dz π x y
 |[],[]=>by simp[FF]
 |[],_::_=>by simp[FF]
 |_::_,[]=>by simp[FF]
 |x::r,y::s=>by
  simp only[FF,Wa π r s,Dx,Nat.add_right_cancel_iff];constructor
  .rintro⟨h1,Z,Q⟩;refine⟨Z,λi x' y' z O=> ?_⟩;cases i with
   |zero=>
    simp only[Iq,AN] at z O;subst z;subst O;exact h1
   |succ i=>exact Q i x' y' (by simpa using z) (by simpa using O)
  .rintro⟨Z,Q⟩;exact⟨Q 0 x y rfl rfl,Z,λi x' y' z O=>Q (i+1) x' y' (by simpa using z) (by simpa using O)⟩
def O5(nx b:Nat)(f:Nat->Am)(hf: ∀i,Aw nx [(b+i,f i)]=true)(n:Nat):Aw nx (A8 b n f)=true:=by
 have O: ∀(x y:An),Aw nx (x++y)=(Aw nx x && Aw nx y):=by
  intro x y;induction x with
  |nil=>simp[Aw]
  |cons z r ih=>
   obtain⟨q,Z,e⟩:=z;cases e<;>simp[Aw,ih,mQ]
 have: ∀(l:List Nat),Aw nx (l.map λi=>(b+i,f i))=true:=by
  intro l;induction l with
  |nil=>rfl
  |cons i r ih=>
   have Q:=O [(b+i,f i)] (r.map λi=>(b+i,f i));rw[Be,show (b+i,f i)::(r.map λi=>(b+i,f i))=[(b+i,f i)]++(r.map λi=>(b+i,f i)) from rfl,Q,hf i,ih];rfl
 exact this _
def O2(nx b n:Nat)(f:Nat->Am)(h:b+n<=nx):B6 nx (A8 b n f)=true:=by
 have: ∀(l:List Nat),(∀i∈l,i<n)->B6 nx (l.map λi=>(b+i,f i))=true:=by
  intro l;induction l with
  |nil=>intro _;rfl
  |cons i r ih=>
   intro z;simp only[Be,B6,ih (λj Q=>z j (BQ _ Q)),Et];rw[Ei]
   have:=z i (BU ..)
   omega
 exact this _ (λi O=>Bc.1 O)
def Jz(b n:Nat):List (Nat×Option Nat):=(List.range n).map λi=>(b+i,none)
def lY(b n m:Nat):pm (Jz b n) m=if b<=m/\m<b+n then none else some m:=by
 have: ∀(l:List Nat),pm (l.map λi=>(b+i,none)) m=if b<=m/\m - b∈l then none else some m:=by
  intro l;induction l with
  |nil=>simp[pm]
  |cons i r ih=>
   simp only[Be,pm,ih,Br];by_cases h:b+i=m
   .rw[Ai h,Ai ⟨by omega,.inl (by omega)⟩]
   .rw[Af h];by_cases z:b<=m/\m - b∈r
    .rw[Ai z,Ai ⟨z.1,.inr z.2⟩]
    .rw[Af z,Af (by rintro⟨Q,O|O⟩;exact h (by omega);exact z ⟨Q,O⟩)]
 rw[Jz,this];simp only[Bc];by_cases h:b<=m/\m<b+n
 .rw[Ai h,Ai (by omega)]
 .rw[Af h,Af (by omega)]
def SX(lo b n:Nat)(h:lo<=b):GU lo (Jz b n):=by
 have: ∀(l:List Nat),GU lo (l.map λi=>(b+i,none)):=by
  intro l;induction l with
  |nil=>trivial
  |cons i r ih=>simp only[Be,GU];exact⟨by omega,ih⟩
 exact this _
def RX(k b j:Nat)(h:k<b):(k==b+j)=false:=by simp;omega
def OS(k b j:Nat)(h:k<b):(b+j==k)=false:=by simp;omega
end Go.Ae
namespace Go.Ae
open Go.Proofs
def Dv(n:Bh)(v i:Int):Int×Int:=match n.Bonds[i.toNat]? with
 |some b=>if b.A=v then (b.Strength - n.Flow[i.toNat]?.getD 0,b.B) else (b.Strength+n.Flow[i.toNat]?.getD 0,b.A)
 |none=>(0,0)
structure D2(n:Bh):Prop where
 c0:0<=n.Cnt
 c1:n.Cnt<=1000000
 fl:n.Flow.length=n.Bonds.length
 al:(n.At.length:Int)=n.Cnt
 bs:LG n.Cnt n.Bonds
 at_: ∀(v:Nat) (r:List Int),n.At[v]? =some r-> ∀i∈r,0<=i/\ ∃b,n.Bonds[i.toNat]? =some b/\(b.A=v\/b.B=v)
 f: ∀x∈n.Flow,-1000000<=x/\x<=1000000
 st: ∀b∈n.Bonds,0<=b.Strength/\b.Strength<=1000000
 all: ∀(i:Nat) b,n.Bonds[i]? =some b->(∃r,n.At[b.A.toNat]? =some r/\(i:Int)∈r)/\ ∃r,n.At[b.B.toNat]? =some r/\(i:Int)∈r
 ne: ∀b∈n.Bonds,b.A≠b.B
def roomC.fv(a:Bh×Int×Int):Int×Int:=(Dv) (a.1) (a.2.1) (a.2.2)
def roomC.row:AF:=CH (b3 (qP 4 Bh.d_le) qI qI) (r2 rI rI) (λa=>D2 a.1/\0<=a.2.2/\a.2.2<a.1.Bonds.length) roomC.fv
def roomC.q:=C9 (R:=roomC.row) rfl
def roomC.ok:AL 177 roomC.row:=by
 refine FR tN Tryz.func177 ?_;intro a z;simp only[Tryz.f177,Option.getD];simp only[ZZ,simprocAttr,Ab,roomC.fv,BX,D.sc,D.scs,BM,AT];obtain⟨O,Q,h3⟩:=z;have ab:=O.fl;refine⟨Q,h3,λb Z=> ?_⟩;have ac:=O.st b (Bg Z)
 split<;>rename_i h
 .refine⟨Q,by omega,λf hf=> ?_⟩;have aa:=O.f f (Bg hf);rw[AG (by omega) (by omega)];simp only[Dv,Z,hf,AX];rw[Ai h]
 .refine⟨Q,by omega,λf hf=> ?_⟩;have aa:=O.f f (Bg hf);rw[AG (by omega) (by omega)];simp only[Dv,Z,hf,AX];rw[Af h]
def D8(n:Bh)(v i:Int):Int:=match n.Bonds[i.toNat]? with
 |some b=>b.A+b.B - v
 |none=>0
def BH(n:Bh)(v:Int)(s:List Int×List Int)(i:Int):List Int×List Int:=
 if s.1[(D8 n v i).toNat]?.getD 0<0/\0<(Dv n (D8 n v i) i).1 then (s.1.set (D8 n v i).toNat (s.1[v.toNat]?.getD 0+1),s.2++[D8 n v i]) else s
def CA(n:Bh)(q:Int):Nat->List Int×List Int
 |0=>((List.replicate n.Cnt.toNat (-1)).set q.toNat 0,[q])
 |k+1=>match (CA n q k).2[k]? with
  |none=>CA n q k
  |some v=>(n.At[v.toNat]?.getD []).foldl (BH n v) (CA n q k)
def F4(n:Bh)(q:Int):List Int:=(CA n q n.Cnt.toNat).1
structure Xt(n:Bh)(s:List Int×List Int):Prop where
 len:s.1.length=n.Cnt.toNat
 rng: ∀x∈s.1,-1<=x/\x<=s.2.length
 q: ∀x∈s.2,0<=x/\x<n.Cnt
 cnt:(s.1.filter (λx=>decide (0<=x))).length=s.2.length
def Qlu{A:Type}(p:A->Bool): ∀(l:List A) (w:Nat) (x y:A),l[w]? =some x->p x=false->p y=true->((l.set w y).filter p).length=(l.filter p).length+1
 |[],w,x,y,h,_,_=>by simp at h
 |z::r,0,x,y,h,O,Q=>by
  simp only[Iq,AN] at h;subst h;simp[ZeM,O,Q]
 |z::r,w+1,x,y,h,O,Q=>by
  have:=Qlu p r w x y (by simpa using h) O Q
  simp only[mU,ZeM];split
  .simp only[Dx,this]
  .exact this
def zK{n:Bh}(h0:0<=n.Cnt){s:List Int×List Int}(h:Xt n s):(s.2.length:Int)<=n.Cnt:=by
 have z:=h.cnt;have O:=ZeW (λx=>decide (0<=x)) s.1;have Q:=h.len;omega
def fK{n:Bh}(hn:D2 n){v:Nat}{r:List Int}(Z:n.At[v]? =some r){i:Int}(Q:i∈r):0<=i/\i<n.Bonds.length/\0<=D8 n v i/\D8 n v i<n.Cnt:=by
 obtain⟨h0,b,z,hv⟩:=hn.at_ v r Z i Q;have O:=hn.bs b (Bg z);have hl:=(C6.1 z).1;simp only[D8,z];omega
def Qtm{n:Bh}(hn:D2 n){v:Nat}{r:List Int}(hr:n.At[v]? =some r){i:Int}(Z:i∈r){s:List Int×List Int}(hs:Xt n s):Xt n (BH n v s i):=by
 obtain⟨_,_,o1,o2⟩:=fK hn hr Z;simp only[BH];split
 .rename_i h;have O:(D8 n v i).toNat<s.1.length:=by rw[hs.len];omega
  obtain⟨x,hx⟩: ∃x,s.1[(D8 n v i).toNat]? =some x:=⟨_,BA O⟩;have aa:x<0:=by have:=h.1;rw[hx] at this;simpa using this
  have Q:0<=s.1[(v:Int).toNat]?.getD 0+1/\s.1[(v:Int).toNat]?.getD 0+1<=s.2.length+1:=by
   cases hv:s.1[(v:Int).toNat]? with
   |none=>simp;omega
   |some y=>have:=hs.rng y (Bg hv);simp only[AX];omega
  refine⟨by simpa using hs.len,λy z=> ?_,λy z=> ?_,?_⟩
  .simp only[Ez,Dx,Ip];rcases XA z with z|z
   .have:=hs.rng y z;omega
   .subst z;omega
  .rcases B7.1 z with z|z
   .exact hs.q y z
   .rw[BS] at z;subst z;exact⟨o1,o2⟩
  .rw[Qlu _ _ _ x _ hx (by rw[Kd];omega) (by rw[CF];exact Q.1),hs.cnt];simp
 .exact hs
def Qs1{n:Bh}(hn:D2 n){v:Nat}{r:List Int}(Q:n.At[v]? =some r): ∀(l:List Int) (s:List Int×List Int),(∀i∈l,i∈r)->Xt n s->Xt n (l.foldl (BH n v) s)
 |[],s,_,z=>z
 |i::l,s,O,z=>Qs1 hn Q l _ (λj Z=>O j (BQ _ Z)) (Qtm hn Q (O i (BU ..)) z)
def Xn{n:Bh}(hn:D2 n){q:Int}(h0:0<=q)(O:q<n.Cnt): ∀k,Xt n (CA n q k)
 |0=>by
  have hq:q.toNat<n.Cnt.toNat:=by omega
  refine⟨by simp[CA],λx z=> ?_,λx z=> ?_,?_⟩
  .simp only[CA] at z⊢;rcases XA z with z|z
   .have:=OF z;simp;omega
   .subst z;simp
  .simp only[CA,BS] at z;subst z;exact⟨h0,O⟩
  .simp only[CA];rw[Qlu _ _ _ (-1) _ (by rw[LP,Ai hq]) (by simp) (by simp)]
   have:(List.replicate n.Cnt.toNat (-1:Int)).filter (λx=>decide (0<=x))=[]:=by
    rw[List.filter_eq_nil_iff];intro x z;rw[OF z];simp
   rw[this];rfl
 |k+1=>by
  have ih:=Xn hn h0 O k;simp only[CA];split
  .exact ih
  .rename_i v Z;have aa:=ih.q v (Bg Z);obtain⟨m,rfl⟩: ∃m:Nat,v=m:=⟨v.toNat,by omega⟩;have Q:m<n.At.length:=by have:=hn.al;omega
   obtain⟨r,hr⟩: ∃r,n.At[m]? =some r:=⟨_,BA Q⟩;simp only[Bq,hr,AX];exact Qs1 hn hr r _ (λ_ h=>h) ih
def LY(n:Bh)(q:Int): ∀(m k:Nat),(CA n q k).2.length<=k->CA n q (k+m)=CA n q k
 |0,k,_=>rfl
 |m+1,k,h=>by
  have z:CA n q (k+1)=CA n q k:=by
   rw[CA,Ir h]
  have O:=LY n q m (k+1) (by rw[z];omega);rw[show k+(m+1)=k+1+m by omega,O,z]
def Qwn(n:Bh)(v:Int): ∀(l:List Int) (s:List Int×List Int),s.2.length<=(l.foldl (BH n v) s).2.length
 |[],s=>AU _
 |i::l,s=>by
  have z:s.2.length<=(BH n v s i).2.length:=by
   simp only[BH];split
   .simp
   .exact AU _
  exact CS z (Qwn n v l _)
def stepsC.fv(a:Bh×Int):List Int:=(F4) (a.1) (a.2)
def stepsC.row:AF:=CH (b2 (qP 4 Bh.d_le) qI) (rS F3 DU) (λa=>D2 a.1/\0<=a.2/\a.2<a.1.Cnt) stepsC.fv
def stepsC.q:=C9 (R:=stepsC.row) rfl
def QF:=J @stepsC.fv.eq_1 (J @roomC.q @roomC.fv.eq_1)
def stepsC.ok:AL 151 stepsC.row:=by
 refine FR (tC roomC.ok tN) Tryz.func151 ?_;intro a ah;simp only[Tryz.f151,Option.getD];simp only[ZZ,simprocAttr,Ab,QF,BX,D.sc,D.scs,BM,AT];obtain⟨hn,ai,aq⟩:=ah;have ax:=hn.c1;obtain⟨c,hc⟩: ∃c:Nat,a.1.Cnt=c:=⟨a.1.Cnt.toNat,by omega⟩;refine Ba.ren ⟨{k:Nat//k<=c},λk=>⟨[(6,.im (.int .i64 k.1)),(5,.own 3),(0,.ptr 0 0),(1,.im (.int .i64 a.2))],[(3,(true,.arr 2 1 ((List.replicate k.1 (-1:Int)).map Ak))),(0,(false,.view (Bh.c a.1)))],4⟩,λk=>c - k.1,λk=>⟨by simp[ZG],by simp⟩,⟨⟨0,by simp⟩,[(3,some 2)],?_⟩,λk=> ?_⟩
 .simp only[Av];simp only[ZZ,simprocAttr,Ab,QF,BX,D.sc,D.scs,BM,AT,AS,AR,List.replicate_zero,BF]
  try simp
 obtain⟨k,an⟩:=k;simp only[ZZ,simprocAttr,Ab,QF,BX,D.sc,D.scs,BM,AT,sub,AP,hc,OE];refine⟨λhk=>⟨by omega,⟨k+1,by omega⟩,[(3,some 5)],by simp only;omega,?_⟩,λhk=> ?_⟩
 .simp only[Av];simp only[ZZ,simprocAttr,Ab,QF,BX,D.sc,D.scs,BM,AT,AS,AR];refine⟨by rw[AG (by omega) (by omega)];omega,?_⟩;rw[List.replicate_succ'];simp[Ak]
 have ao:c=k:=by omega
 subst ao;refine⟨ai,by omega,by omega,λ_ _=> ?_⟩;have av:=hn.al;have ad:=Xn hn ai aq;refine Ba.ren ⟨{k:Nat//k<=(CA a.1 a.2 k).2.length},λk=>⟨[(8,.im (.int .i64 k.1)),(7,.own 5),(5,.own 3),(0,.ptr 0 0),(1,.im (.int .i64 a.2))],[(5,(true,.arr 2 1 ((CA a.1 a.2 k.1).2.map Ak))),(3,(true,.arr 2 1 ((CA a.1 a.2 k.1).1.map Ak))),(0,(false,.view (Bh.c a.1)))],6⟩,λk=>c - k.1,λk=>⟨by simp[ZG],by simp⟩,⟨⟨0,by simp⟩,[(5,some 4)],?_⟩,λk=> ?_⟩
 .simp only[Av];simp only[ZZ,simprocAttr,Ab,QF,BX,D.sc,D.scs,BM,AT,AS,AR,hc,CA];simp[hc,Ak,Ws]
 obtain⟨k,an⟩:=k;have hi:=ad k;have aj:=hi.len;have az:=zK (by omega) hi;simp only[ZZ,simprocAttr,Ab,QF,BX,D.sc,D.scs,BM,AT,sub,AP,hc,aj];intro _;refine⟨λhk=>⟨hk,hk,λv hv=> ?_⟩,λhk=> ?_⟩
 .have a9:=hi.q v (Bg hv);obtain⟨m,rfl⟩: ∃m:Nat,v=m:=⟨v.toNat,by omega⟩;have hm:m<a.1.At.length:=by omega
  obtain⟨r,hr⟩: ∃r,a.1.At[m]? =some r:=⟨_,BA hm⟩;have Q:CA a.1 a.2 (k+1)=r.foldl (BH a.1 m) (CA a.1 a.2 k):=by
   simp only[CA,hv,Bq,hr,AX]
  refine Ba.ren ⟨{j:Nat//j<=r.length},λj=>⟨[(10,.im (.int .i64 j.1)),(9,.im (.int .i64 m)),(8,.im (.int .i64 k)),(7,.own 6),(5,.own 3),(0,.ptr 0 0),(1,.im (.int .i64 a.2))],[(6,(true,.arr 2 1 (((r.take j.1).foldl (BH a.1 m) (CA a.1 a.2 k)).2.map Ak))),(3,(true,.arr 2 1 (((r.take j.1).foldl (BH a.1 m) (CA a.1 a.2 k)).1.map Ak))),(0,(false,.view (Bh.c a.1)))],7⟩,λj=>r.length - j.1,λj=>⟨by simp[ZG],by simp⟩,⟨⟨0,by simp⟩,[(6,some 5)],?_⟩,λj=> ?_⟩
  .simp only[Av];simp only[ZZ,simprocAttr,Ab,QF,BX,D.sc,D.scs,BM,AT,AS,AR,hc,E5,mR]
   try simp
  obtain⟨j,ay⟩:=j;have hs:=Qs1 hn hr (r.take j) _ (λi hi=>Zdz hi) hi;obtain⟨s,hsd⟩: ∃s,s=(r.take j).foldl (BH a.1 m) (CA a.1 a.2 k):=⟨_,rfl⟩;rw[<-hsd] at hs;have au:=hs.len;have a8:=zK (by omega) hs;simp only[<-hsd];have ag:(⟨(c:Int),a.1.Bonds,a.1.At,a.1.Flow⟩:Bh)=a.1:=by rw[<-hc]
  simp only[ZZ,simprocAttr,Ab,QF,BX,D.sc,D.scs,BM,AT,sub,AP,hc,ag,au,WJ,W9,WH,Bm,D.one,Et,QL,OK];refine⟨hm,λr' O=> ?_⟩;rw[hr] at O;obtain rfl:=AJ O;intro a0;refine⟨λhj=>⟨hm,λr' O=> ?_⟩,λhj=> ?_⟩
  .rw[hr] at O;obtain rfl:=AJ O;refine⟨hj,λi ac=> ?_⟩;have ak:=Bg ac;obtain⟨i0,i1,o0,o1⟩:=fK hn hr ak;have z:(r.take (j+1)).foldl (BH a.1 m) (CA a.1 a.2 k)=BH a.1 m s i:=by
    rw[Jq,ac,ZdU,<-hsd];rfl
   refine⟨i0,i1,λb hb=>⟨i0,i1,λb' ab=> ?_⟩⟩;rw[hb] at ab;obtain rfl:=AJ ab;have aw:=hn.bs b (Bg hb);have hw:IntKind.wrap .i64 (IntKind.wrap .i64 (b.A+b.B) - m)=D8 a.1 m i:=by
    rw[AG (x:=b.A+b.B) (by omega) (by omega),AG (by omega) (by omega)];simp only[D8,hb]
   rw[hw];have af:(D8 a.1 m i).toNat<c:=by omega
   refine⟨⟨hn,i0,i1⟩,o0,by omega,af,λx hx=>⟨λaa=>⟨λZ=>⟨by omega,by omega,λy hy=>⟨o0,by omega,af,λ_ _=>⟨by omega,⟨j+1,by omega⟩,[(6,some 8)],by simp only;omega,?_⟩⟩⟩,λZ=>⟨⟨j+1,by omega⟩,[(6,some 6)],by simp only;omega,?_⟩⟩,λaa=>⟨⟨j+1,by omega⟩,[(6,some 6)],by simp only;omega,?_⟩⟩⟩
   .have e1:BH a.1 m s i=(s.1.set (D8 a.1 m i).toNat (y+1),s.2++[D8 a.1 m i]):=by
     simp only[BH];rw[Ai ⟨by rw[hx];exact aa,Z⟩,Bq,hy];rfl
    have ba:=hs.rng y (Bg hy);simp only[Av,z,e1];simp only[ZZ,simprocAttr,Ab,QF,BX,D.sc,D.scs,BM,AT,AS,AR,hc];rw[AG (x:=y+1) (by omega) (by omega)];refine⟨by rw[AG (by omega) (by omega)];omega,?_,?_⟩
    .simp[Ak]
    .simp[Ak,Ws]
   .have e1:BH a.1 m s i=s:=by
     simp only[BH];rw[Af (λh=>Z h.2)]
    simp only[Av,z,e1];simp only[ZZ,simprocAttr,Ab,QF,BX,D.sc,D.scs,BM,AT,AS,AR,hc];rw[AG (by omega) (by omega)];simp
   .have e1:BH a.1 m s i=s:=by
     simp only[BH];rw[Af (λh=>aa (by have:=h.1;rw[hx] at this;exact this))]
    simp only[Av,z,e1];simp only[ZZ,simprocAttr,Ab,QF,BX,D.sc,D.scs,BM,AT,AS,AR,hc];rw[AG (by omega) (by omega)];simp
  .have am:j=r.length:=by omega
   subst am;rw[IM] at hsd;refine⟨⟨k+1,by
    have:=Qwn a.1 m r (CA a.1 a.2 k)
    rw[Q];omega⟩,[(5,some 6)],by simp only;omega,?_⟩
   simp only[Av,Q,<-hsd];simp only[ZZ,simprocAttr,Ab,QF,BX,D.sc,D.scs,BM,AT,AS,AR,hc];rw[AG (by omega) (by omega)];simp
 .rw[F4,hc,Bq]
  have:=LY a.1 a.2 (c - k) k (by omega)
  rw[show k+(c - k)=c by omega] at this;rw[this]
def aW(l:List Int):Nat->List Int
 |0=>[]
 |k+1=>aW l k++(if 0<=l[k]?.getD (-1) then [(k:Int)] else [])
def Qu8(l:List Int): ∀k,(aW l k).length<=k
 |0=>AU _
 |k+1=>by
  have:=Qu8 l k
  simp only[aW,Ez]
  split<;>simp<;>omega
def gC(n:Bh)(q:Int):List Int:=aW (F4 n q) n.Cnt.toNat
def rX{n:Bh}(hn:D2 n){q:Int}(h0:0<=q)(z:q<n.Cnt):(F4 n q).length=n.Cnt.toNat:=(Xn hn h0 z _).len
def sideC.fv(a:Bh×Int):List Int:=(gC) (a.1) (a.2)
def sideC.row:AF:=CH (b2 (qP 4 Bh.d_le) qI) (rS F3 DU) (λa=>D2 a.1/\0<=a.2/\a.2<a.1.Cnt) sideC.fv
def sideC.q:=C9 (R:=sideC.row) rfl
def uY:=J @sideC.fv.eq_1 (J @stepsC.q @stepsC.fv.eq_1)
def sideC.ok:AL 131 sideC.row:=by
 refine FR (tC stepsC.ok tN) Tryz.func131 ?_;intro a z;simp only[Tryz.f131,Option.getD];simp only[ZZ,simprocAttr,Ab,uY,BX,D.sc,D.scs,BM,AT];refine⟨z,?_⟩;obtain⟨hn,Q,Z⟩:=z;have aa:=hn.c1;obtain⟨c,hc⟩: ∃c:Nat,a.1.Cnt=c:=⟨a.1.Cnt.toNat,by omega⟩;have O:=rX hn Q Z;rw[hc,Bq] at O;simp only[gC,hc,Bq];obtain⟨l,hl⟩: ∃l,l=F4 a.1 a.2:=⟨_,rfl⟩;simp only[<-hl] at O⊢;refine Ba.ren ⟨{k:Nat//k<=c},λk=>⟨[(7,.im (.int .i64 k.1)),(6,.own 3),(5,.im (.sl false 1 (l.map Ak))),(0,.ptr 0 0)],[(3,(true,.arr 2 1 ((aW l k.1).map Ak))),(0,(false,.view (Bh.c a.1)))],4⟩,λk=>c - k.1,λk=>⟨by simp[ZG],by simp⟩,⟨⟨0,by simp⟩,[(3,some 2)],?_⟩,λk=> ?_⟩
 .simp only[Av];simp only[ZZ,simprocAttr,Ab,uY,BX,D.sc,D.scs,BM,AT,AS,AR,hc,aW,BF]
  try simp
 obtain⟨k,ab⟩:=k;have ac:=Qu8 l k;simp only[ZZ,simprocAttr,Ab,uY,BX,D.sc,D.scs,BM,AT,sub,AP,hc,O,WJ,W9,WH,Bm,D.one,Et,QL,OK];refine⟨λhk=>⟨hk,λx hx=>⟨λh=>⟨by omega,⟨k+1,by omega⟩,[(3,some 5)],by simp only;omega,?_⟩,λh=>⟨⟨k+1,by omega⟩,[(3,some 3)],by simp only;omega,?_⟩⟩⟩,λhk=> ?_⟩
 .simp only[Av];simp only[ZZ,simprocAttr,Ab,uY,BX,D.sc,D.scs,BM,AT,AS,AR,hc];refine⟨by rw[AG (by omega) (by omega)];omega,?_⟩;simp only[aW,hx,AX];rw[Ai h];simp[Ak]
 .simp only[Av];simp only[ZZ,simprocAttr,Ab,uY,BX,D.sc,D.scs,BM,AT,AS,AR,hc];refine⟨by rw[AG (by omega) (by omega)];omega,?_⟩;simp only[aW,hx,AX];rw[Af h,DJ]
 .rw[show k=c by omega]
def II(n:Bh)(v i:Int):Bh:=⟨n.Cnt,n.Bonds,n.At,match n.Bonds[i.toNat]? with
 |some b=>n.Flow.set i.toNat (if b.A=v then n.Flow[i.toNat]?.getD 0+1 else n.Flow[i.toNat]?.getD 0 - 1)
 |none=>n.Flow⟩
def Gy(n:Bh):List AV:=[.im (.int .i64 n.Cnt),.im (.sl false 3 (n.Bonds.map Ag.c)),.im (.sl false 1 (n.At.map CZ)),.own 1]
def Ec(n:Bh):An:=[(0,(true,.cells 208 (Gy n))),(1,(true,.arr 2 1 (n.Flow.map Ak)))]
def oJ(n:Bh)(j:Nat):Aj (Ec n) j=true↔j<2:=by
 simp only[Aj,Ec,hget];by_cases h0:j=0
 .subst h0;simp
 .by_cases Q:j=1
  .subst Q;simp
  .have z:(0==j)=false:=by simp;omega
   have O:(1==j)=false:=by simp;omega
   simp[z,O];omega
def Kl(j:Nat):Bool:=j==1
def pushC.ca(a:Bh×Int×Int):List AV:=[.ptr 0 0,.im (.int .i64 a.2.1),.im (.int .i64 a.2.2)]
def pushC.H1(a:Bh×Int×Int):An:=[(1,(true,.arr 2 1 ((II a.1 a.2.1 a.2.2).Flow.map Ak)))]
def pushC.row:AF:=AD pushC.ca (λa=>Ec a.1) 2 (λa=>D2 a.1/\0<=a.2.2/\a.2.2<a.1.Bonds.length) Kl (λ_=> .im (.tup [])) pushC.H1 0
def pushC.ok:AL 178 pushC.row:=by
 refine ow tN Tryz.func178 (exB:=λ_=>false) (R:=λ_ r=>r= .im (.tup [])) (λ_=>rfl)
  (λa=>by simp[pushC.ca,Ec,Gy,pushC.H1,Kl,AA,AV.bel,Aw,B6,BT,Ac.nms,Au,AV.nms,Aj,hget]) (λa p hp=> ?_) (λa r h=>by subst h;exact CN.refl _) ?_
 rotate_left
 intro a z;simp only[Tryz.f178,Option.getD,pushC.ca,Ec,Gy,pushC.H1,Kl];simp only[ZZ,simprocAttr,Ab,Aq,pushC.ca,Ec,Gy,pushC.H1,Kl];obtain⟨hn,h0,Z⟩:=z;have aa:=hn.fl;refine⟨h0,Z,λb Q=> ?_⟩
 split<;>rename_i h
 .refine⟨h0,by omega,by omega,λf hf=>⟨h0,by omega,by omega,λ_ _=> ?_⟩⟩;have O:=hn.f f (Bg hf);rw[AG (by omega) (by omega)];simp only[II,Q,hf,AX,Ai h,Ws];rfl
 .refine⟨h0,by omega,by omega,λf hf=>⟨h0,by omega,by omega,λ_ _=> ?_⟩⟩;have O:=hn.f f (Bg hf);rw[AG (by omega) (by omega)];simp only[II,Q,hf,AX,Af h,Ws];rfl
 simp[pushC.H1] at hp;subst hp;exact .inl ⟨by omega,rfl,rfl⟩
structure Gf(n:Bh)(q:Int)(s:List Int×List Int):Prop where
 zero:s.1[q.toNat]? =some 0
 uniq: ∀(w:Nat),s.1[w]? =some 0->w=q.toNat
 prev: ∀(w:Nat) (x:Int),s.1[w]? =some x->0<x-> ∃(v:Nat) (r:List Int) (i:Int),s.1[v]? =some (x - 1)/\n.At[v]? =some r/\i∈r/\D8 n v i=w/\0<(Dv n w i).1
 qs: ∀v∈s.2,∃y,s.1[v.toNat]? =some y/\0<=y
def rZ(n:Bh)(v:Int)(s:List Int×List Int)(i:Int)(u:Nat)(y:Int)(h:s.1[u]? =some y)(h0:0<=y):(BH n v s i).1[u]? =some y:=by
 simp only[BH];split
 .rename_i O;have z:(D8 n v i).toNat≠u:=by
   intro Q;rw[Q,h] at O
   have:=O.1
   simp at this;omega
  simp only;rw[Eh z];exact h
 .exact h
def Qor(n:Bh)(v:Int)(u:Nat)(y:Int)(h0:0<=y): ∀(l:List Int) (s:List Int×List Int),s.1[u]? =some y->(l.foldl (BH n v) s).1[u]? =some y
 |[],_,h=>h
 |i::l,s,h=>Qor n v u y h0 l _ (rZ n v s i u y h h0)
def hC{n:Bh}(hn:D2 n){q:Int}{v:Nat}{r:List Int}(hr:n.At[v]? =some r){i:Int}(hi:i∈r){s:List Int×List Int}(hs:Xt n s)(hp:Gf n q s){y:Int}(hv:s.1[v]? =some y)(hy:0<=y):Gf n q (BH n v s i):=by
 obtain⟨_,_,o1,o2⟩:=fK hn hr hi;have keep:=λu z h h0=>rZ n v s i u z h h0
 have aa:(D8 n v i).toNat<s.1.length:=by rw[hs.len];omega
 by_cases hc:s.1[(D8 n v i).toNat]?.getD 0<0/\0<(Dv n (D8 n v i) i).1
 .have Z:BH n v s i=(s.1.set (D8 n v i).toNat (y+1),s.2++[D8 n v i]):=by
   simp only[BH];rw[Ai hc,Bq,hv];rfl
  have hget: ∀(w:Nat) (x:Int),(BH n v s i).1[w]? =some x->(w=(D8 n v i).toNat/\x=y+1)\/s.1[w]? =some x:=by
   intro w x O;rw[Z] at O;simp only at O;by_cases hw:(D8 n v i).toNat=w
   .subst hw;rw[DW aa] at O;exact .inl ⟨rfl,(AJ O).symm⟩
   .rw[Eh hw] at O;exact .inr O
  refine⟨keep _ _ hp.zero (by omega),λw hw=> ?_,λw x O h0=> ?_,λu Q=> ?_⟩
  .rcases hget w 0 hw with ⟨_,h⟩|h
   .omega
   .exact hp.uniq w h
  .rcases hget w x O with ⟨h1,h2⟩|h
   .refine⟨v,r,i,keep _ _ (by rw[hv];congr 1;omega) (by omega),hr,hi,by omega,?_⟩
    have:(w:Int)=D8 n v i:=by omega
    rw[this];exact hc.2
   .obtain⟨v',r',i',g1,g2,g3,g4,g5⟩:=hp.prev w x h h0;exact⟨v',r',i',keep _ _ g1 (by omega),g2,g3,g4,g5⟩
  .rw[Z] at Q;rcases B7.1 Q with Q|Q
   .obtain⟨z,h1,h2⟩:=hp.qs u Q;exact⟨z,keep _ _ h1 h2,h2⟩
   .rw[BS] at Q;subst Q;refine⟨y+1,?_,by omega⟩;rw[Z];exact DW aa
 .have Z:BH n v s i=s:=by simp only[BH];rw[Af hc]
  rw[Z];exact hp
def RY{n:Bh}(hn:D2 n){q:Int}{v:Nat}{r:List Int}(O:n.At[v]? =some r){y:Int}(Q:0<=y): ∀(l:List Int) (s:List Int×List Int),(∀i∈l,i∈r)->Xt n s->Gf n q s->s.1[v]? =some y->Gf n q (l.foldl (BH n v) s)
 |[],s,_,_,hp,_=>hp
 |i::l,s,z,Z,hp,hv=>RY hn O Q l _ (λj hj=>z j (BQ _ hj)) (Qtm hn O (z i (BU ..)) Z) (hC hn O (z i (BU ..)) Z hp hv Q) (rZ n v s i v y hv Q)
def Oo{n:Bh}(hn:D2 n){q:Int}(h0:0<=q)(h1:q<n.Cnt): ∀k,Gf n q (CA n q k)
 |0=>by
  have hq:q.toNat<n.Cnt.toNat:=by omega
  have z:q.toNat<(List.replicate n.Cnt.toNat (-1:Int)).length:=by rw[OE];exact hq
  have hget: ∀(w:Nat) (x:Int),((List.replicate n.Cnt.toNat (-1:Int)).set q.toNat 0)[w]? =some x->(w=q.toNat/\x=0)\/x= -1:=by
   intro w x O;by_cases Z:q.toNat=w
   .subst Z;rw[DW z] at O;exact .inl ⟨rfl,(AJ O).symm⟩
   .rw[Eh Z] at O;exact .inr (OF (Bg O))
  refine⟨DW z,λw Z=> ?_,λw x O ab=> ?_,λv Q=> ?_⟩
  .rcases hget w 0 Z with h|h
   .exact h.1
   .omega
  .rcases hget w x O with h|h<;>omega
  .simp only[CA,BS] at Q;subst Q;exact⟨0,DW z,OG _⟩
 |k+1=>by
  have ih:=Oo hn h0 h1 k;have hi:=Xn hn h0 h1 k;simp only[CA];split
  .exact ih
  .rename_i v Q;have ac:=hi.q v (Bg Q);obtain⟨m,rfl⟩: ∃m:Nat,v=m:=⟨v.toNat,by omega⟩;have hm:m<n.At.length:=by have:=hn.al;omega
   obtain⟨r,hr⟩: ∃r,n.At[m]? =some r:=⟨_,BA hm⟩;obtain⟨y,hy,aa⟩:=ih.qs _ (Bg Q);simp only[Bq,hr,AX];exact RY hn hr aa r _ (λ_ h=>h) hi ih (by simpa using hy)
def Jl(n:Bh):Prop:= ∀(i:Nat) b f,n.Bonds[i]? =some b->n.Flow[i]? =some f-> -b.Strength<=f/\f<=b.Strength
def Gr(n:Bh)(st:List Int)(v:Int)(acc:Int×Int)(i:Int):Int×Int:=
 if 0<(Dv n v i).1/\st[(Dv n v i).2.toNat]?.getD 0=st[v.toNat]?.getD 0 - 1/\(acc.1<0\/(Dv n v i).2<acc.1) then ((Dv n v i).2,i) else acc
def Hp(n:Bh)(st:List Int)(v:Int):Int×Int:=(n.At[v.toNat]?.getD []).foldl (Gr n st v) (-1,0)
def Cd(n:Bh)(st:List Int)(p:Int):Nat->Bh×Int
 |0=>(n,p)
 |k+1=>(II (Cd n st p k).1 (Cd n st p k).2 (Hp (Cd n st p k).1 st (Cd n st p k).2).2,(Hp (Cd n st p k).1 st (Cd n st p k).2).1)
def F5(n:Bh)(p q:Int):Bh×Bool:=
 if (F4 n q)[p.toNat]?.getD 0<0 then (n,false) else ((Cd n (F4 n q) p ((F4 n q)[p.toNat]?.getD 0).toNat).1,true)
def uE{n:Bh}(hn:D2 n){v:Nat}{r:List Int}(Z:n.At[v]? =some r){i:Int}(Q:i∈r):0<=(Dv n v i).2/\(Dv n v i).2<n.Cnt:=by
 obtain⟨h0,b,z,hv⟩:=hn.at_ v r Z i Q;have O:=hn.bs b (Bg z);simp only[Dv,z]
 split<;>simp only<;>omega
def My(n:Bh)(st:List Int)(v:Int)(r:List Int)(w:Int×Int):Prop:=w.2∈r/\0<(Dv n v w.2).1/\(Dv n v w.2).2=w.1/\st[w.1.toNat]?.getD 0=st[v.toNat]?.getD 0 - 1/\0<=w.1
def Qq8{n:Bh}(hn:D2 n)(st:List Int){v:Nat}{r:List Int}(Q:n.At[v]? =some r): ∀(l:List Int) (acc:Int×Int),(∀i∈l,i∈r)->(acc.1<0\/My n st v r acc)->(l.foldl (Gr n st v) acc).1<0\/My n st v r (l.foldl (Gr n st v) acc)
 |[],acc,_,h=>h
 |i::l,acc,z,h=>by
  refine Qq8 hn st Q l _ (λj Z=>z j (BQ _ Z)) ?_;simp only[Gr];split
  .rename_i O;exact .inr ⟨z i (BU ..),O.1,rfl,O.2.1,(uE hn Q (z i (BU ..))).1⟩
  .exact h
def PA{n:Bh}(hn:D2 n)(st:List Int){v:Nat}{r:List Int}(O:n.At[v]? =some r){i:Int}(z:i∈r)(acc:Int×Int)(h:0<=acc.1):0<=(Gr n st v acc i).1:=by
 simp only[Gr];split
 .exact (uE hn O z).1
 .exact h
def Qvo{n:Bh}(hn:D2 n)(st:List Int){v:Nat}{r:List Int}(O:n.At[v]? =some r): ∀(l:List Int) (acc:Int×Int),(∀i∈l,i∈r)->0<=acc.1->0<=(l.foldl (Gr n st v) acc).1
 |[],_,_,h=>h
 |i::l,acc,z,h=>Qvo hn st O l _ (λj Q=>z j (BQ _ Q)) (PA hn st O (z i (BU ..)) acc h)
def Qqh{n:Bh}(hn:D2 n)(st:List Int){v:Nat}{r:List Int}(Q:n.At[v]? =some r){i:Int}(Z:0<(Dv n v i).1)(h2:st[(Dv n v i).2.toNat]?.getD 0=st[(v:Int).toNat]?.getD 0 - 1): ∀(l:List Int) (acc:Int×Int),(∀i∈l,i∈r)->i∈l->0<=(l.foldl (Gr n st v) acc).1
 |[],_,_,h=>by cases h
 |j::l,acc,hl,h=>by
  simp only[bD];have z:=λk hk=>hl k (BQ _ hk)
  rcases Br.1 h with rfl|h
  .refine Qvo hn st Q l _ z ?_;have hb:=uE hn Q (hl _ (BU ..));simp only[Gr];split
   .exact hb.1
   .rename_i hc;rcases Int.lt_or_le acc.1 0 with O|O
    .exact absurd ⟨Z,h2,.inl O⟩ hc
    .exact O
  .exact Qqh hn st Q Z h2 l _ z h
def PB{n:Bh}(hn:D2 n)(st:List Int){v:Nat}{r:List Int}(z:n.At[v]? =some r){i:Int}(Z:i∈r)(O:0<(Dv n v i).1)(Q:st[(Dv n v i).2.toNat]?.getD 0=st[(v:Int).toNat]?.getD 0 - 1):My n st v r (Hp n st v):=by
 have e:Hp n st v=r.foldl (Gr n st v) (-1,0):=by simp only[Hp,Bq,z,AX]
 rw[e];have h3:=Qqh hn st z O Q r (-1,0) (λ_ h=>h) Z;rcases Qq8 hn st z r (-1,0) (λ_ h=>h) (.inl (by decide)) with h|h
 .omega
 .exact h
def YQ{n:Bh}(hn:D2 n)(hc:Jl n){v:Nat}{i:Int}(h0:0<=i)(z:0<(Dv n v i).1):D2 (II n v i)/\Jl (II n v i):=by
 obtain⟨m,rfl⟩: ∃m:Nat,i=m:=⟨i.toNat,by omega⟩;have Q:Jl (II n v m):=by
  intro j b f O hf;simp only[II,Bq] at O hf;simp only[Dv,Bq] at z;cases hbm:n.Bonds[m]? with
  |none=>rw[hbm] at hf;exact hc j b f O hf
  |some b'=>
   rw[hbm] at hf z;simp only at hf z;by_cases Z:m=j
   .subst Z;rw[O] at hbm;obtain rfl:=AJ hbm;have aa:m<n.Flow.length:=by
     have:=(C6.1 hf).1
     simpa using this
    rw[DW aa] at hf;have hf:=AJ hf;obtain⟨g,hg⟩: ∃g,n.Flow[m]? =some g:=⟨_,BA aa⟩;have ac:=hc m b g O hg;rw[hg] at hf z;simp only[AX] at hf z;split at hf<;>rename_i hA
    .rw[Ai hA] at z;simp only at z;omega
    .rw[Af hA] at z;simp only at z;omega
   .rw[Eh Z] at hf;exact hc j b f O hf
 refine⟨⟨hn.c0,hn.c1,?_,hn.al,hn.bs,hn.at_,?_,hn.st,hn.all,hn.ne⟩,Q⟩
 .have:=hn.fl
  simp only[II];split
  .simpa using this
  .exact this
 .intro x hx;obtain⟨j,Z⟩:=Wp.1 hx;have ad:=(C6.1 Z).1;have ab:(II n v m).Flow.length=n.Bonds.length:=by
   rw[<-hn.fl];simp only[II];split
   .simp
   .rfl
  obtain⟨b,O⟩: ∃b,n.Bonds[j]? =some b:=⟨_,BA (by omega)⟩;have h1:=Q j b x O Z;have h2:=hn.st b (Bg O);omega
def Qabc(n:Bh)(v i:Int)(j:Nat)(h:i.toNat≠j):(II n v i).Flow[j]? =n.Flow[j]? :=by
 simp only[II];split
 .exact Eh h
 .rfl
def PN{n n':Bh}(z:n'.Bonds=n.Bonds)(i:Int)(hf:n'.Flow[i.toNat]? =n.Flow[i.toNat]?)(v:Int):Dv n' v i=Dv n v i:=by
 simp only[Dv,z,hf]
structure cR(n:Bh)(st:List Int)(p:Int)(d k:Nat):Prop where
 ok:D2 (Cd n st p k).1
 cap:Jl (Cd n st p k).1
 cnt:(Cd n st p k).1.Cnt=n.Cnt
 bs:(Cd n st p k).1.Bonds=n.Bonds
 at_:(Cd n st p k).1.At=n.At
 v: ∃m:Nat,(Cd n st p k).2=m/\(m:Int)<n.Cnt/\st[m]? =some ((d:Int) - k)
 fl: ∀(i:Nat) b,n.Bonds[i]? =some b->st[b.A.toNat]?.getD 0<=(d:Int) - k->st[b.B.toNat]?.getD 0<=(d:Int) - k->(Cd n st p k).1.Flow[i]? =n.Flow[i]?
def zE{n:Bh}(hn:D2 n){q:Int}{st qu:List Int}(ag:st.length=n.Cnt.toNat)(hP:Gf n q (st,qu)){p:Int}{d k:Nat}(hk:k<d)(hI:cR n st p d k):
 ∃(m:Nat) (r:List Int),(Cd n st p k).2=m/\n.At[m]? =some r/\My (Cd n st p k).1 st m r (Hp (Cd n st p k).1 st m)/\st[m]? =some ((d:Int) - k)/\(Hp (Cd n st p k).1 st m).1<n.Cnt:=by
 obtain⟨m,hm,aj,Q⟩:=hI.v;have af:m<n.At.length:=by have:=hn.al;omega
 obtain⟨r,hr⟩: ∃r,n.At[m]? =some r:=⟨_,BA af⟩;have ab:(Cd n st p k).1.At[m]? =some r:=by rw[hI.at_];exact hr
 obtain⟨v',r',i,g1,g2,g3,g4,g5⟩:=hP.prev m _ Q (by omega);simp only at g1;obtain⟨ai,b,hb,aa⟩:=hn.at_ v' r' g2 i g3;have ah:=hn.bs b (Bg hb);have ac:b.A+b.B - v'=m:=by simpa only[D8,hb] using g4
 have z:=hn.all i.toNat b hb;rw[show ((i.toNat:Nat):Int)=i by omega] at z;have ad:i∈r:=by
  rcases aa with h|h
  .obtain⟨r2,Z,h3⟩:=z.2;rw[show b.B.toNat=m by omega,hr] at Z;obtain rfl:=AJ Z;exact h3
  .obtain⟨r2,Z,h3⟩:=z.1;rw[show b.A.toNat=m by omega,hr] at Z;obtain rfl:=AJ Z;exact h3
 have ak:=hn.ne b (Bg hb);have O:Dv (Cd n st p k).1 m i=Dv n m i:=by
  refine PN hI.bs i (hI.fl i.toNat b hb ?_ ?_) m
  .rcases aa with h|h
   .rw[show b.A.toNat=v' by omega,g1];simp only[AX];omega
   .rw[show b.A.toNat=m by omega,Q];simp only[AX];omega
  .rcases aa with h|h
   .rw[show b.B.toNat=m by omega,Q];simp only[AX];omega
   .rw[show b.B.toNat=v' by omega,g1];simp only[AX];omega
 have Z:(Dv n m i).2=v':=by
  simp only[Dv,hb]
  split<;>simp only<;>omega
 have hg:=PB hI.ok st ab ad (by rw[O];exact g5) (by rw[O,Z,Bq,g1,Bq,Q];simp only[AX]);refine⟨m,r,hm,hr,hg,Q,?_⟩
 have:=(uE hI.ok ab hg.1).2
 rw[hg.2.2.1,hI.cnt] at this;exact this
def lS{n:Bh}(hn:D2 n)(hc:Jl n){q:Int}{st qu:List Int}(O:st.length=n.Cnt.toNat)(hP:Gf n q (st,qu)){p:Int}(ad:0<=p)(af:p<n.Cnt){d:Nat}(hd:st[p.toNat]? =some (d:Int)): ∀k,k<=d->cR n st p d k
 |0,_=>⟨hn,hc,rfl,rfl,rfl,⟨p.toNat,by simp only[Cd];omega,by omega,by rw[hd];simp⟩,λi b _ _ _=>rfl⟩
 |k+1,hk=>by
  have ih:=lS hn hc O hP ad af hd k (by omega);obtain⟨m,r,Q,hr,hg,Z,ah⟩:=zE hn O hP (by omega) ih;obtain⟨h1,h2⟩:=YQ ih.ok ih.cap (i:=(Hp (Cd n st p k).1 st m).2) (ih.ok.at_ m r (by rw[ih.at_];exact hr) _ hg.1).1 hg.2.1;obtain⟨j0,b,hb,ac⟩:=hn.at_ m r hr _ hg.1;have ag:=hg.2.2.2.2;have aa:=hg.2.2.2.1;rw[Bq,Z,AX] at aa;obtain⟨z,hz⟩: ∃z,st[(Hp (Cd n st p k).1 st m).1.toNat]? =some z:=⟨_,BA (by omega)⟩;rw[hz,AX] at aa;refine⟨?_,?_,?_,?_,?_,⟨(Hp (Cd n st p k).1 st m).1.toNat,?_,by omega,by rw[hz,aa];congr 1;omega⟩,?_⟩
  .simp only[Cd,Q];exact h1
  .simp only[Cd,Q];exact h2
  .simp only[Cd,Q];exact ih.cnt
  .simp only[Cd,Q];exact ih.bs
  .simp only[Cd,Q];exact ih.at_
  .simp only[Cd,Q];omega
  .intro i b' ab hA hB;simp only[Cd,Q];rw[Qabc]
   .exact ih.fl i b' ab (by omega) (by omega)
   .intro he;rw[he,ab] at hb;obtain rfl:=AJ hb;rcases ac with h|h
    .rw[h,Bq,Z] at hA;simp only[AX] at hA;omega
    .rw[h,Bq,Z] at hB;simp only[AX] at hB;omega
def growC.ca(a:Bh×Int×Int):List AV:=[.ptr 0 0,.im (.int .i64 a.2.1),.im (.int .i64 a.2.2)]
def growC.H1(a:Bh×Int×Int):An:=[(1,(true,.arr 2 1 ((F5 a.1 a.2.1 a.2.2).1.Flow.map Ak)))]
def growC.r0(a:Bh×Int×Int):AV:= .im (.bool (F5 a.1 a.2.1 a.2.2).2)
def Yo(a:Bh×Int×Int):Prop:=D2 a.1/\Jl a.1/\0<=a.2.1/\a.2.1<a.1.Cnt/\0<=a.2.2/\a.2.2<a.1.Cnt
def growC.row:AF:=AD growC.ca (λa=>Ec a.1) 2 Yo Kl growC.r0 growC.H1 0
def gM:=J @stepsC.q<|J @stepsC.fv.eq_1<|J @roomC.q @roomC.fv.eq_1
def growC.ok:AL 150 growC.row:=by
 refine ow (tC stepsC.ok (tC roomC.ok (tC pushC.ok tN))) Tryz.func150 (exB:=λ_=>false) (R:=λa r=>r=growC.r0 a) (λ_=>rfl)
  (λa=>by simp[growC.ca,Ec,Gy,growC.H1,Kl,AA,AV.bel,Aw,B6,BT,Ac.nms,Au,AV.nms,Aj,hget]) (λa p hp=> ?_) (λa r h=>by subst h;exact CN.refl _) ?_
 rotate_left
 intro a ba;simp only[Tryz.f150,Option.getD,growC.ca,Ec,Gy,growC.H1,Kl];simp only[ZZ,simprocAttr,Ab,gM,Aq,growC.ca,Ec,Gy,growC.H1,Kl];obtain⟨hn,ay,a8,bj,ak,am⟩:=ba;refine⟨⟨hn,ak,am⟩,a8,?_⟩;have bo:=hn.c1;have ai:=rX hn ak am;have hP:=Oo hn ak am a.1.Cnt.toNat;have ab:=(Xn hn ak am a.1.Cnt.toNat).rng;have bv:=zK hn.c0 (Xn hn ak am a.1.Cnt.toNat);refine⟨by omega,λx hx=> ?_⟩
 split<;>rename_i aj
 .have e:F5 a.1 a.2.1 a.2.2=(a.1,false):=by simp only[F5];rw[hx];simp only[AX];rw[Ai aj]
  exact⟨by simp only[growC.r0,e],by rw[e]⟩
 obtain⟨d,rfl⟩: ∃d:Nat,x=d:=⟨x.toNat,by omega⟩;have e:F5 a.1 a.2.1 a.2.2=((Cd a.1 (F4 a.1 a.2.2) a.2.1 d).1,true):=by simp only[F5];rw[hx];simp only[AX];rw[Af aj,Bq]
 simp only[growC.r0,e];have bc:(CA a.1 a.2.2 a.1.Cnt.toNat).1=F4 a.1 a.2.2:=rfl;have Q:Gf a.1 a.2.2 (F4 a.1 a.2.2,(CA a.1 a.2.2 a.1.Cnt.toNat).2):=hP;have bp:=ab (d:Int) (Bg hx);clear e hP aj;obtain⟨st,hst⟩: ∃st,st=F4 a.1 a.2.2:=⟨_,rfl⟩;rw[bc] at ab;simp only[<-hst] at ai Q hx ab⊢;have ax:=λk hk=>lS hn ay ai Q a8 bj hx k hk
 refine Ba.old ⟨{k:Nat//k<=d},λk=>⟨[(8,.im (.int .i64 (Cd a.1 st a.2.1 k.1).2)),(7,.im (.sl false 1 (st.map Ak))),(0,.ptr 0 0),(1,.im (.int .i64 a.2.1)),(2,.im (.int .i64 a.2.2))],[(0,(true,.cells 208 (Gy a.1))),(1,(true,.arr 2 1 ((Cd a.1 st a.2.1 k.1).1.Flow.map Ak)))],2⟩,λk=>d - k.1,λk=>⟨by simp[ZG,Gy],AU _⟩,⟨⟨0,by simp⟩,by simp only[ZZ,simprocAttr,Ab,gM,Aq,growC.ca,Ec,Gy,growC.H1,Kl,sub,Cd,Gy]⟩,λk=> ?_⟩;obtain⟨k,bf⟩:=k;have hI:=ax k bf;obtain⟨m,hm,bt,bb⟩:=hI.v;simp only[Gy,hm];simp only[ZZ,simprocAttr,Ab,gM,Aq,growC.ca,Ec,Gy,growC.H1,Kl,sub,AP];refine⟨λbu=> ?_,λhe=> ?_⟩
 .have bg:k<d:=by
   rcases Gd k d with h|h
   .exact h
   .have:=Q.uniq m (by rw[bb];congr 1;omega)
    omega
  obtain⟨m',r,bh,hr,hg,_,bm⟩:=zE hn ai Q bg hI;rw[hm] at bh;have bi:m'=m:=by omega
  subst bi;have aa:Cd a.1 st a.2.1 (k+1)=(II (Cd a.1 st a.2.1 k).1 m' (Hp (Cd a.1 st a.2.1 k).1 st m').2,(Hp (Cd a.1 st a.2.1 k).1 st m').1):=by simp only[Cd,hm]
  have a9:Hp (Cd a.1 st a.2.1 k).1 st m'=r.foldl (Gr (Cd a.1 st a.2.1 k).1 st m') (-1,0):=by simp only[Hp,Bq,hI.at_,hr,AX]
  have Z:=hI.ok;have ag:=hI.cnt;have aw:=hI.bs;have ao:=hI.at_;obtain⟨N,hN⟩: ∃N,N=(Cd a.1 st a.2.1 k).1:=⟨_,rfl⟩;simp only[<-hN] at aa a9 Z ag aw ao hg bm⊢;have av:N.At[m']? =some r:=by rw[ao];exact hr
  have a0:(⟨a.1.Cnt,a.1.Bonds,a.1.At,N.Flow⟩:Bh)=N:=by rw[<-ag,<-aw,<-ao]
  have au:m'<a.1.At.length:=(C6.1 hr).1;refine Ba.old ⟨{j:Nat//j<=r.length},λj=>⟨[(11,.im (.int .i64 j.1)),(10,.im (.int .i64 ((r.take j.1).foldl (Gr N st m') (-1,0)).2)),(9,.im (.int .i64 ((r.take j.1).foldl (Gr N st m') (-1,0)).1)),(8,.im (.int .i64 m')),(7,.im (.sl false 1 (st.map Ak))),(0,.ptr 0 0),(1,.im (.int .i64 a.2.1)),(2,.im (.int .i64 a.2.2))],[(0,(true,.cells 208 (Gy a.1))),(1,(true,.arr 2 1 (N.Flow.map Ak)))],2⟩,λj=>r.length - j.1,λj=>⟨by simp[ZG,Gy],AU _⟩,⟨⟨0,by simp⟩,by simp only[ZZ,simprocAttr,Ab,gM,Aq,growC.ca,Ec,Gy,growC.H1,Kl,sub,Gy,E5,mR]⟩,λj=> ?_⟩;obtain⟨j,br⟩:=j;obtain⟨acc,hacc⟩: ∃acc,acc=(r.take j).foldl (Gr N st m') (-1,0):=⟨_,rfl⟩;simp only[Gy,<-hacc];simp only[ZZ,simprocAttr,Ab,gM,Aq,growC.ca,Ec,Gy,growC.H1,Kl,sub,AP,a0];refine⟨au,λr1 O=> ?_⟩;rw[hr] at O;obtain rfl:=AJ O;intro bw;refine⟨λhj=>⟨au,λr1 O=> ?_⟩,λhj=> ?_⟩
  .rw[hr] at O;obtain rfl:=AJ O;refine⟨hj,λi aq=> ?_⟩;have az:=Bg aq;obtain⟨i0,i1,_,_⟩:=fK Z av az;have bl:=uE Z av az;have z:(r.take (j+1)).foldl (Gr N st m') (-1,0)=Gr N st m' acc i:=by
    rw[Jq,aq,ZdU,<-hacc];rfl
   have ac:0<(Dv N m' i).1->st[(Dv N m' i).2.toNat]?.getD 0=st[(m':Int).toNat]?.getD 0 - 1->(acc.1<0\/(Dv N m' i).2<acc.1)->Gr N st m' acc i=((Dv N m' i).2,i):=by
    intro h1 h2 h3;simp only[Gr];rw[Ai ⟨h1,h2,h3⟩]
   have an:IntKind.wrap .i64 ((j:Int)+1)=((j+1:Nat):Int):=by rw[AG (by omega) (by omega)];omega
   refine⟨⟨Z,i0,i1⟩,λh1=>⟨bl.1,by omega,λx' bn=>⟨by omega,λy' bd=> ?_⟩⟩,λh1=>⟨⟨j+1,by omega⟩,by simp only;omega,an,?_,?_⟩⟩
   .have bx:=ab y' (Bg bd);rw[AG (x:=y' - 1) (by omega) (by omega)];have ad:st[(Dv N m' i).2.toNat]?.getD 0=x':=by rw[bn];rfl
    have af:st[(m':Int).toNat]?.getD 0=y':=by rw[Bq,bd];rfl
    refine⟨λh2=>⟨λh3=>⟨λh4=>⟨au,λr1 O=> ?_⟩,λh4=>⟨⟨j+1,by omega⟩,by simp only;omega,an,?_,?_⟩⟩,λh3=>⟨au,λr1 O=> ?_⟩⟩,λh2=>⟨⟨j+1,by omega⟩,by simp only;omega,an,?_,?_⟩⟩
    .rw[hr] at O;obtain rfl:=AJ O;refine⟨hj,λi' ah=>⟨⟨j+1,by omega⟩,by simp only;omega,an,?_,?_⟩⟩
     .rw[aq] at ah;obtain rfl:=AJ ah;simp only[z];rw[ac h1 (by rw[ad,af,h2]) (.inr h4)]
     .simp only[z];rw[ac h1 (by rw[ad,af,h2]) (.inr h4)]
    .simp only[z,Gr];rw[Af (λh=>by rcases h.2.2 with h|h<;>omega)]
    .simp only[z,Gr];rw[Af (λh=>by rcases h.2.2 with h|h<;>omega)]
    .rw[hr] at O;obtain rfl:=AJ O;refine⟨hj,λi' ah=>⟨⟨j+1,by omega⟩,by simp only;omega,an,?_,?_⟩⟩
     .rw[aq] at ah;obtain rfl:=AJ ah;simp only[z];rw[ac h1 (by rw[ad,af,h2]) (.inl (GK.1 h3))]
     .simp only[z];rw[ac h1 (by rw[ad,af,h2]) (.inl (GK.1 h3))]
    .simp only[z,Gr];rw[Af (λh=>h2 (by rw[<-ad,<-af];exact h.2.1))]
    .simp only[z,Gr];rw[Af (λh=>h2 (by rw[<-ad,<-af];exact h.2.1))]
   .simp only[z,Gr];rw[Af (λh=>h1 h.1)]
   .simp only[z,Gr];rw[Af (λh=>h1 h.1)]
  .have be:j=r.length:=by omega
   subst be;rw[IM] at hacc;rw[<-a9] at hacc;subst hacc;have bq:=Z.at_ m' r av _ hg.1;obtain⟨i0,i1,_,_⟩:=fK Z av hg.1;refine AD.os (N,(m':Int),(Hp N st m').2) [0,1] ⟨Z,i0,i1⟩ (λj=>oJ _ j) rfl rfl ?_ ?_
   .simp only[ZZ,simprocAttr,Ab,gM,Aq,growC.ca,Ec,Gy,growC.H1,Kl,pushC.ca,Ec,Gy,BD];rw[ag,aw,ao];exact⟨rfl,rfl,rfl⟩
   .simp only[ZZ,simprocAttr,Ab,gM,Aq,growC.ca,Ec,Gy,growC.H1,Kl,pushC.H1,Kl,sub];exact⟨⟨k+1,by omega⟩,by simp only;omega,by simp only[aa],by simp only[aa]⟩
 .have:k=d:=by
   have h1:=Q.zero;rw[show a.2.2.toNat=m by omega,bb] at h1
   have:=AJ h1
   omega
  rw[this]
 simp[growC.H1] at hp;subst hp;exact .inl ⟨by omega,rfl,rfl⟩
def Ar(a b:Nat)(h:a≠b):(a==b)=false:=by simpa using h
def R8{α β γ:Type}{f:α->Option β}{g:γ->α}{k:γ->β}: ∀(l:List γ),(∀i∈l,f (g i)=some (k i))->Ax f (l.map g)=some (l.map k)
 |[],_=>rfl
 |x::r,h=>by simp only[Be,Ax,h x (BU ..),R8 r (λi z=>h i (BQ _ z))]
def Yd{H:Nat->Option Am}{kx:Nat->Option Nat}{m b n T:Nat}(f:Nat->List Int)(O: ∀i,i<n->kx (b+i)=none)(hH: ∀i,i<n->H (b+i)=some (true,.arr T 1 ((f i).map Ak))):
 Ax (Ax λx=>E8 (Bf H kx (m+1) x)) ((List.range n).map λi=>[AV.own (b+i)])=some (((List.range n).map f).map CZ):=by
 rw[Hu];refine R8 _ (λi z=> ?_);have z:=Bc.1 z;simp only[Ax,Bf,O i z,hH i z,Q9,kp,Dh,E8,AV.asD,Function.comp,CZ]
def JW(H:An)(a b:Nat)(h:a≠b):hget (AW H [a]) b=hget H b:=by
 rw[Xj,Af];simp;omega
def LL{α:Type}{a b:Nat}{x y:α}(h:a≠b):(if a=b then x else y)=y:=Af h
def Bp: ∀(x:An),AW x []=x
 |[]=>rfl
 |(m,e)::r=>by simp[AW,Bp r]
def eW(L:List Nat)(b n:Nat)(h:L.Nodup)(z: ∀x∈L,x<b):(L++(List.range n).map (b+ ·)).Nodup:=by
 rw[Wq];refine⟨h,?_,?_⟩
 .rw[Zev,List.pairwise_map];exact List.Pairwise.imp (λh Z=>h (by omega)) (Zev.1 Zed)
 .intro x O y Q he;obtain⟨i,_,rfl⟩:=Bl.1 Q
  have:=z x O
  omega
def IN(bs:List Ag)(i:Nat):Nat->List Int
 |0=>[]
 |k+1=>IN bs i k++(match bs[k]? with
  |some b=>(if b.A=i then [(k:Int)] else [])++(if b.B=i then [(k:Int)] else [])
  |none=>[])
def Qwx(bs:List Ag)(i:Nat): ∀k,(IN bs i k).length<=2*k
 |0=>AU _
 |k+1=>by
  have:=Qwx bs i k
  simp only[IN,Ez];split
  .simp only[Ez]
   split<;>split<;>simp<;>omega
  .simp;omega
def Dd(n:Int)(bs:List Ag):Bh:=⟨n,bs,(List.range n.toNat).map (λi=>IN bs i bs.length),List.replicate bs.length 0⟩
def newNC.ca(a:Int×List Ag):List AV:=[.im (.int .i64 a.1),.im (.sl false 3 (a.2.map Ag.c))]
def newNC.H1(a:Int×List Ag):An:=[(0,(true,.cells 208 [.im (.int .i64 a.1),.im (.sl false 3 (a.2.map Ag.c)),.im (.sl false 1 ((Dd a.1 a.2).At.map CZ)),.own 2])),(2,(true,.arr 2 1 ((Dd a.1 a.2).Flow.map Ak)))]
def aB(a:Int×List Ag):Prop:=0<=a.1/\a.1<=1000/\a.2.length<=1000000/\LG a.1 a.2/\ ∀b∈a.2,b.A≠b.B
def EM(j:Nat):Bool:=j==0||j==2
def newNC.row:AF:=AD newNC.ca (λ_=>[]) 0 aB (λ_=>false) (λ_=> .ptr 0 0) newNC.H1 3010
def newNC.ok:AL 149 newNC.row:=by
 refine ow tN Tryz.func149 (exB:=EM) (R:=λ_ r=>r= .ptr 0 0) (λ_=>rfl)
  (λa=>by simp[newNC.ca,newNC.H1,EM,AA,AV.bel,Aw,B6,BT,Ac.nms,Au,AV.nms,Aj,hget]) (λa p hp=> ?_) (λa r h=>by subst h;exact CN.refl _) ?_
 rotate_left
 intro a az;simp only[Tryz.f149,Option.getD,newNC.ca,newNC.H1,EM];simp(disch:=omega)only[ZZ,simprocAttr,Ab,Aq,newNC.ca,newNC.H1,EM];obtain⟨ay,bc,hl,ao,bd⟩:=az;refine⟨ay,OG _,by omega,λ_=>⟨by omega,?_⟩⟩;obtain⟨n,hn⟩: ∃n:Nat,a.1=n:=⟨a.1.toNat,by omega⟩;rw[hn] at ay bc ao;simp only[hn,Bq];refine Ba.ren ⟨{k:Nat//k<=a.2.length},λk=>⟨[(6,.im (.int .i64 k.1)),(5,.ptr 0 0),(1,.im (.sl false 3 (a.2.map Ag.c)))],(0,(true,.cells 208 [.im (.int .i64 n),.im (.sl false 3 (a.2.map Ag.c)),.own 1,.own 2]))::(2,(true,.arr 2 1 ((List.replicate a.2.length (0:Int)).map Ak)))::(1,(true,.arrA 41 1 ((List.range n).map λi=>[AV.own (1000+i)])))::A8 1000 n (λi=>(true,.arr 2 1 ((IN a.2 i k.1).map Ak))),3000⟩,λk=>a.2.length - k.1,λk=>⟨?_,by simp⟩,⟨⟨0,by simp⟩,Jz 1000 n,?_⟩,λk=> ?_⟩
 .simp only[ZG,Et,EL];rw[O5 _ _ _ (λi=>by simp[Aw]),O2 _ _ _ _ (by omega)];simp[AA,AV.bel];omega
 .refine⟨SX _ _ _ (by simp),?_,?_,?_⟩
  .rw[aD];simp only[F6,Xh];refine aI _ _ (eW [0,2,1] 1000 n (by simp) (by simp)) ?_;intro x hx y hy m O z;rw[lY] at O z;split at O
   .cases O
   .split at z
    .cases z
    .exact (AJ O).trans (AJ z).symm
  .simp only[GH,AE];simp(disch:=omega)only[ZZ,simprocAttr,Ab,Aq,newNC.ca,newNC.H1,EM,lY,Hs];simp[Hs]
  .have p0:pm (Jz 1000 n) 0=some 0:=by rw[lY,Af (by omega)]
   have p1:pm (Jz 1000 n) 1=some 1:=by rw[lY,Af (by omega)]
   have p2:pm (Jz 1000 n) 2=some 2:=by rw[lY,Af (by omega)]
   have pf: ∀i,i<n->pm (Jz 1000 n) (1000+i)=none:=by intro i Q;rw[lY,Ai (by omega)]
   simp only[EJ,ZY];refine⟨?_,?_,?_,λi Q=> ?_⟩
   .simp(disch:=omega)only[ZZ,simprocAttr,Ab,Aq,newNC.ca,newNC.H1,EM,p0,p1,p2]
   .simp(disch:=omega)only[ZZ,simprocAttr,Ab,Aq,newNC.ca,newNC.H1,EM,p0,p1,p2];simp[Ak]
   .simp(disch:=omega)only[ZZ,simprocAttr,Ab,Aq,newNC.ca,newNC.H1,EM,p0,p1,p2];rw[Wa];refine⟨by simp,λi x y hx hy=> ?_⟩;simp only[D3,D4] at hx hy;obtain⟨i',ai,rfl⟩:=hx;obtain⟨w,hw,rfl⟩:=hy;have bg:=OF (Bg hw);subst bg
    have:=Bc.1 (Bg ai)
    simp(disch:=omega)only[ZZ,simprocAttr,Ab,Aq,newNC.ca,newNC.H1,EM,pf i' this]
   .rw[pf i Q];simp(disch:=omega)only[ZZ,simprocAttr,Ab,Aq,newNC.ca,newNC.H1,EM,IN,BF]
 obtain⟨k,bl⟩:=k;simp(disch:=omega)only[ZZ,simprocAttr,Ab,Aq,newNC.ca,newNC.H1,EM,sub,AP,RX,OS,Bp];intro _;refine⟨λhk=>⟨hk,λb hb=>⟨hk,λb' aa=> ?_⟩⟩,λhk=> ?_⟩
 .rw[hb] at aa;obtain rfl:=AJ aa;obtain⟨b1,b2,b3,b4⟩:=ao b (Bg hb);have bj:=bd b (Bg hb);refine⟨b1,by rw[Jp];exact b2,by rw[Jp];omega,λx hx=> ?_⟩;obtain⟨a0,bh⟩:=C6.1 hx;rw[Jp] at a0;rw[ZeB] at bh;have br:x<n:=by omega
  refine⟨by omega,?_,?_⟩
  .simp;omega
  have an:(1000+x<3000\/3000<=1000+x)=True:=gY (by omega);have bo:(1000+x==0)=false:=Ar _ _ (by omega);have bp:(1000+x==1)=false:=Ar _ _ (by omega);have bq:(1000+x==2)=false:=Ar _ _ (by omega);have bm:=Qwx a.2 x k;simp(disch:=omega)only[ZZ,simprocAttr,Ab,Aq,newNC.ca,newNC.H1,EM,sub,AP,LL,Dp,Bp,an,Ar];refine⟨by omega,by omega,?_⟩;refine⟨b1,by rw[Jp];exact b2,by rw[Jp];exact a0,λ_ _=> ?_⟩;have Z: ∀N,3001<N->((List.map (λi=>[AV.own (1000+i)]) (List.range n)).set b.A.toNat [AV.own 3001]).all (AA N)=true:=by
   intro N hN;rw[CR];intro r hr;rcases XA hr with hr|hr
   .obtain⟨i,Q,rfl⟩:=Bl.1 hr
    have:=Bc.1 Q
    simp[AA,AV.bel];omega
   .subst hr;simp[AA,AV.bel];omega
  refine⟨Z _ (by omega),⟨by simp,by simp,by simp⟩,hk,λb' aa=>⟨hk,λb'' ah=> ?_⟩⟩;rw[hb] at aa ah;obtain rfl:=AJ aa;obtain rfl:=AJ ah;obtain⟨y,hy⟩: ∃y:Nat,b.B=y:=⟨b.B.toNat,by omega⟩;have bt:y≠x:=by omega
  have bi:y<n:=by omega
  have a9:b.B.toNat=y:=by omega
  refine⟨b3,by simp;omega,by simp;omega,λrow ab=> ?_⟩;have am:row=[AV.own (1000+y)]:=by
   rw[a9,Eh (by omega),D3,Ga bi] at ab;exact (AJ ab).symm
  subst am;have a8:(1000+y<3002\/3002<=1000+y)=True:=gY (by omega);have bn:=Qwx a.2 y k;simp(disch:=omega)only[ZZ,simprocAttr,Ab,Aq,newNC.ca,newNC.H1,EM,sub,AP,LL,Dp,Bp,an,a8,Ar,JW];refine⟨by omega,by omega,by omega,b3,by simp;omega,by simp;omega,λrow ac=> ?_⟩;rw[ab] at ac;obtain rfl:=AJ ac;simp only[ZZ,simprocAttr,Ab,Aq,newNC.ca,newNC.H1,EM,sub,AP,LL,Dp,Bp,an,a8,Ar,JW];refine⟨?_,⟨by simp,by simp,by simp⟩,⟨k+1,by omega⟩,[(1000+x,some 3001),(1000+y,some 3003)],by simp only;omega,?_⟩
  .rw[CR];intro r hr;rcases XA hr with hr|hr
   .exact CR.1 (Z 3004 (by omega)) r hr
   .subst hr;simp[AA,AV.bel]
  obtain⟨g,hg⟩: ∃g,g=pm [(1000+x,some 3001),(1000+y,some 3003)]:=⟨_,rfl⟩;have qx:g (1000+x)=some 3001:=by rw[hg];simp[pm]
  have qy:g (1000+y)=some 3003:=by rw[hg];simp only[pm];rw[Af (by omega)];simp
  have qo: ∀u,u≠1000+x->u≠1000+y->g u=some u:=by intro u O z;rw[hg];simp only[pm];rw[Af (by omega),Af (by omega)]
  have ba: ∀i,i<n->IN a.2 i (k+1)=if i=x\/i=y then IN a.2 i k++[(k:Int)] else IN a.2 i k:=by
   intro i Q;simp only[IN,hb];by_cases O:i=x
   .subst O;rw[Ai (by omega),Af (by omega),Ai (.inl rfl),DJ]
   .by_cases z:i=y
    .subst z;rw[Af (by omega),Ai (by omega),Ai (.inr rfl),Dg]
    .rw[Af (by omega),Af (by omega),Af (by omega)];simp
  refine⟨⟨by omega,by omega,trivial⟩,?_,?_,?_⟩
  .rw[aD,<-hg];simp only[F6,Xh];refine aI _ _ (eW [0,2,1] 1000 n (by simp) (by simp)) ?_;have av: ∀u∈[0,2,1]++(List.range n).map (1000+ ·),u<2000:=by
    intro u hu;rcases B7.1 hu with hu|hu
    .simp at hu;omega
    .obtain⟨i,Q,rfl⟩:=Bl.1 hu
     have:=Bc.1 Q
     show 1000+i<2000;omega
   have hc: ∀u,u<2000->(u=1000+x/\g u=some 3001)\/(u=1000+y/\g u=some 3003)\/g u=some u:=by
    intro u _;by_cases O:u=1000+x
    .exact .inl ⟨O,O▸qx⟩
    .by_cases z:u=1000+y
     .exact .inr (.inl ⟨z,z▸qy⟩)
     .exact .inr (.inr (qo u O z))
   intro u hu v hv m aw ax;have be:=av u hu;have bf:=av v hv;rcases hc u be with ⟨e1,e2⟩|⟨e1,e2⟩|e2<;>rcases hc v bf with ⟨f1,f2⟩|⟨f1,f2⟩|f2<;>rw[e2] at aw<;>rw[f2] at ax<;>simp only[AN] at aw ax<;>omega
  .have q0:pm [(1000+x,some 3001),(1000+y,some 3003)] 0=some 0:=by rw[<-hg];exact qo 0 (by omega) (by omega)
   simp only[GH,AE];simp only[ZZ,simprocAttr,Ab,Aq,newNC.ca,newNC.H1,EM,q0];rw[AG (by omega) (by omega)];simp
  .have q0:pm [(1000+x,some 3001),(1000+y,some 3003)] 0=some 0:=by rw[<-hg];exact qo 0 (by omega) (by omega)
   have q1:pm [(1000+x,some 3001),(1000+y,some 3003)] 1=some 1:=by rw[<-hg];exact qo 1 (by omega) (by omega)
   have q2:pm [(1000+x,some 3001),(1000+y,some 3003)] 2=some 2:=by rw[<-hg];exact qo 2 (by omega) (by omega)
   have af:=qx;have ag:=qy;have ad:=qo;rw[hg] at af ag ad;simp only[EJ,ZY];refine⟨?_,?_,?_,λi Q=> ?_⟩
   .simp only[ZZ,simprocAttr,Ab,Aq,newNC.ca,newNC.H1,EM,q0,q1,q2]
   .simp only[ZZ,simprocAttr,Ab,Aq,newNC.ca,newNC.H1,EM,q0,q1,q2]
   .simp only[ZZ,simprocAttr,Ab,Aq,newNC.ca,newNC.H1,EM,q0,q1,q2];rw[Wa];refine⟨by simp,λi r1 r2 O z=> ?_⟩;simp only[D3,D4] at O;obtain⟨i',ai,rfl⟩:=O;obtain⟨au,aq⟩:=C6.1 ai;rw[Jp] at au;rw[ZeB] at aq;subst aq;rw[a9,show b.A.toNat=x by omega] at z;by_cases ak:i=y
    .subst ak;rw[DW (by simp;omega)] at z;obtain rfl:=AJ z;simp only[Dz,mt,ag,EV,QL]
    .rw[Eh (by omega)] at z;by_cases aj:i=x
     .subst aj;rw[DW (by simp;omega)] at z;obtain rfl:=AJ z;simp only[Dz,mt,af,EV,QL]
     .rw[Eh (by omega),D3,Ga au] at z;obtain rfl:=AJ z;simp only[Dz,mt,ad (1000+i) (by omega) (by omega),EV,QL]
   .show Cx _ _ true (.arr 2 1 ((IN a.2 i (k+1)).map Ak)) _;rw[ba i Q];by_cases ak:i=y
    .subst ak;rw[ag,Ai (.inr rfl)];simp only[ZZ,simprocAttr,Ab,Aq,newNC.ca,newNC.H1,EM];simp[Ak]
    .by_cases aj:i=x
     .subst aj;rw[af,Ai (.inl rfl)];simp only[ZZ,simprocAttr,Ab,Aq,newNC.ca,newNC.H1,EM];simp[Ak]
     .rw[ad (1000+i) (by omega) (by omega),Af (by omega)];have e: ∀(H:An),hget H (1000+i)=some (true,.arr 2 1 ((IN a.2 i k).map Ak))->Lb [(1000+x,some 3001),(1000+y,some 3003)] true (.arr 2 1 ((IN a.2 i k).map Ak)) (hget H (1000+i)):=by
       intro H hH;rw[hH];exact⟨rfl,by simp only[Ej]⟩
      refine e _ ?_;simp only[hget,Ar _ _ (show 1≠1000+i by omega),Ar _ _ (show 3003≠1000+i by omega),Ar _ _ (show 3002≠1000+i by omega),Ar _ _ (show 3001≠1000+i by omega),Ar _ _ (show 3000≠1000+i by omega),Ar _ _ (show 0≠1000+i by omega),Ar _ _ (show 2≠1000+i by omega),Bk];rw[JW _ _ _ (by omega),JW _ _ _ (by omega),JW _ _ _ (by omega),JW _ _ _ (by omega),Dp _ _ _ _ Q]
 .have bb:k=a.2.length:=by omega
  subst bb;rw[Yd (T:=2) (λi=>IN a.2 i a.2.length)]
  .simp[Dd]
  .intro i Q;have e:EM (1000+i)=false:=by simp only[EM,Ar _ _ (show 1000+i≠0 by omega),Ar _ _ (show 1000+i≠2 by omega),OJ]
   simp[Hx,Aj,hget,e]
  .intro i Q;simp only[hget,Ar _ _ (show 1≠1000+i by omega),Ar _ _ (show 0≠1000+i by omega),Ar _ _ (show 2≠1000+i by omega),Bk];exact Dp _ _ _ _ Q
 simp[newNC.H1] at hp;rcases hp with rfl|rfl
 .exact .inr ⟨by omega,by simp,rfl,rfl⟩
 .exact .inr ⟨by omega,by simp,rfl,rfl⟩
def Ki(p:Int)(b:Ag)(f:Int):Int:=if b.A=p then f else if b.B=p then -f else 0
def Dr(n:Bh)(p:Int):Int:=(List.zipWith (Ki p) n.Bonds n.Flow).sum
def Oa(p:Int): ∀(bs:List Ag) (Q:List Int) (j:Nat) (b:Ag) (f f':Int),bs[j]? =some b->Q[j]? =some f->(List.zipWith (Ki p) bs (Q.set j f')).sum=(List.zipWith (Ki p) bs Q).sum - Ki p b f+Ki p b f'
 |[],_,_,_,_,_,h,_=>by simp at h
 |_::_,[],_,_,_,_,_,h=>by simp at h
 |x::r,y::s,0,b,f,f',z,O=>by
  simp only[Iq,AN] at z O;subst z;subst O;simp only[gO,gU,KU];omega
 |x::r,y::s,j+1,b,f,f',z,O=>by
  have:=Oa p r s j b f f' (by simpa using z) (by simpa using O)
  simp only[mU,gU,KU,this];omega
def Qzc{n:Bh}(hn:D2 n){v:Nat}{r:List Int}(hr:n.At[v]? =some r){i:Int}(Q:i∈r)(p:Int):Dr (II n v i) p=Dr n p+(if (v:Int)=p then 1 else if (Dv n v i).2=p then -1 else 0):=by
 obtain⟨h0,b,z,hv⟩:=hn.at_ v r hr i Q;have aa:=hn.ne b (Bg z);have Z:=(C6.1 z).1;obtain⟨f,hf⟩: ∃f,n.Flow[i.toNat]? =some f:=⟨_,BA (by rw[hn.fl];exact Z)⟩;simp only[Dr,II,z,Dv];rw[Oa p _ _ _ b f _ z hf,hf];simp only[AX,Ki];rcases hv with h|h
 .simp only[Ai h]
  repeat' split
  all_goals omega
 .have O: ¬b.A=v:=by omega
  simp only[Af O]
  repeat' split
  all_goals omega
def LA(p:Int): ∀(bs:List Ag) (Q:List Int),(∀(i:Nat) b f,bs[i]? =some b->Q[i]? =some f-> -b.Strength<=f/\f<=b.Strength)->(∀b∈bs,0<=b.Strength)->(List.zipWith (Ki p) bs Q).sum<=(bs.map Ag.Strength).sum
 |[],_,_,_=>by simp
 |x::r,[],_,z=>by
  have Z:=LA p r [] (λi b f _ h=>by simp at h) (λb O=>z b (BQ _ O));have h2:=z x (BU ..);simp only[ZdR,ZeY,Be,KU] at Z⊢;omega
 |x::r,y::s,hc,z=>by
  have Z:=LA p r s (λi b f h h'=>hc (i+1) b f (by simpa using h) (by simpa using h')) (λb O=>z b (BQ _ O));have h2:=z x (BU ..);have h3:=hc 0 x y rfl rfl;simp only[gU,Be,KU,Ki];split
  .omega
  .split<;>omega
def Um{n:Bh}(hn:D2 n)(O:Jl n)(p:Int):Dr n p<=(n.Bonds.map Ag.Strength).sum:=LA p _ _ O (λb z=>(hn.st b z).1)
def VG{n:Bh}(hn:D2 n)(hc:Jl n){q:Int}{st qu:List Int}(z:st.length=n.Cnt.toNat)(hP:Gf n q (st,qu)){p:Int}(aa:0<=p)(ab:p<n.Cnt){d:Nat}(hd:st[p.toNat]? =some (d:Int)): ∀k,k<d->Dr (Cd n st p (k+1)).1 p=Dr n p+1:=by
 have step: ∀k,k<d->Dr (Cd n st p (k+1)).1 p=Dr (Cd n st p k).1 p+(if k=0 then 1 else 0):=by
  intro k Z;have hI:=lS hn hc z hP aa ab hd k (by omega);obtain⟨m,r,hm,hr,hg,O,af⟩:=zE hn z hP Z hI;have ac:(Cd n st p k).1.At[m]? =some r:=by rw[hI.at_];exact hr
  have e:(Cd n st p (k+1)).1=II (Cd n st p k).1 m (Hp (Cd n st p k).1 st m).2:=by simp only[Cd,hm]
  rw[e,Qzc hI.ok ac hg.1,hg.2.2.1];have Q:=hg.2.2.2.1;rw[Bq,O,AX] at Q;have ad:(Hp (Cd n st p k).1 st m).1≠p:=by
   intro he;rw[he,hd,AX] at Q;omega
  by_cases h0:k=0
  .subst h0
   have:(m:Int)=p:=by rw[<-hm];rfl
   rw[Ai this,Ai rfl]
  .have:(m:Int)≠p:=by
    intro he
    have:m=p.toNat:=by omega
    rw[this,hd] at O
    have:=AJ O
    omega
   rw[Af this,Af ad,Af h0]
 intro k Z;induction k with
 |zero=>rw[step 0 Z];simp[Cd]
 |succ k ih=>rw[step (k+1) Z,Af (by omega),ih (by omega)];omega
def Qr2(bs:List Ag)(i:Nat)(z:Int): ∀k,z∈IN bs i k↔ ∃(j:Nat) (b:Ag),j<k/\z=j/\bs[j]? =some b/\(b.A=i\/b.B=i)
 |0=>by simp[IN]
 |k+1=>by
  have ih:=Qr2 bs i z k;simp only[IN,B7,ih];constructor
  .rintro (⟨j,b,h1,Q,Z,O⟩|h)
   .exact⟨j,b,by omega,Q,Z,O⟩
   .cases hb:bs[k]? with
    |none=>rw[hb] at h;simp at h
    |some b=>
     rw[hb] at h;simp only[B7] at h;refine⟨k,b,by omega,?_,hb,?_⟩
     .rcases h with h|h<;>split at h<;>simp at h<;>exact h
     .rcases h with h|h
      .split at h
       .exact .inl (by assumption)
       .simp at h
      .split at h
       .exact .inr (by assumption)
       .simp at h
  .rintro⟨j,b,h1,Q,Z,O⟩;by_cases hj:j=k
   .subst hj;refine .inr ?_;rw[Z];simp only[B7];rcases O with O|O
    .exact .inl (by rw[Ai O,Q];exact BS.2 rfl)
    .exact .inr (by rw[Ai O,Q];exact BS.2 rfl)
   .exact .inl ⟨j,b,by omega,Q,Z,O⟩
def QA(bs:List Ag):Prop:= ∀b∈bs,0<=b.Strength/\b.Strength<=1000000
def Qxo{n:Int}{bs:List Ag}(v:Nat)(z:v<n.toNat):(Dd n bs).At[v]? =some (IN bs v bs.length):=by
 simp only[Dd,D3,Ga z,Dh]
def MQ{n:Int}{bs:List Ag}(h:aB (n,bs))(hs:QA bs):D2 (Dd n bs)/\Jl (Dd n bs):=by
 obtain⟨h0,h1,h2,O,h4⟩:=h;simp only at h0 h1 h2 O h4;have hz: ∀(i:Nat) f,(Dd n bs).Flow[i]? =some f->f=0:=by
  intro i f hf;exact OF (Bg hf)
 refine⟨⟨h0,by show n<=1000000;omega,by simp[Dd],by simp[Dd];omega,O,?_,?_,hs,?_,h4⟩,?_⟩
 .intro v r Z i Q;have hv:v<n.toNat:=by
   have:=(C6.1 Z).1
   simpa[Dd] using this
  rw[Qxo v hv] at Z;obtain rfl:=AJ Z;obtain⟨j,b,g1,g2,g3,g4⟩:=(Qr2 bs v i bs.length).1 Q;exact⟨by omega,b,by rw[g2,Bq];exact g3,g4⟩
 .intro x hx;obtain⟨i,Q⟩:=Wp.1 hx
  have:=hz i x Q
  omega
 .intro i b z;have hl:=(C6.1 z).1;have aa:=O b (Bg z);refine⟨⟨_,Qxo _ (by omega),(Qr2 bs _ _ _).2 ⟨i,b,hl,rfl,z,.inl (by omega)⟩⟩,⟨_,Qxo _ (by omega),(Qr2 bs _ _ _).2 ⟨i,b,hl,rfl,z,.inr (by omega)⟩⟩⟩
 .intro i b f z hf
  have:=hz i f hf
  have:=hs b (Bg z)
  omega
def Qtg{n:Int}{bs:List Ag}(p:Int):Dr (Dd n bs) p=0:=by
 simp only[Dr,Dd]
 have: ∀(l:List Ag) (m:Nat),(List.zipWith (Ki p) l (List.replicate m 0)).sum=0:=by
  intro l;induction l with
  |nil=>intro m;simp
  |cons x r ih=>
   intro m;cases m with
   |zero=>simp
   |succ m=>
    simp only[Zep,gU,KU,ih m,Ki];split
    .rfl
    .split<;>rfl
 exact this _ _
def Hg(p q:Int):Nat->Bh->Bh×Int
 |0,n=>(n,0)
 |m+1,n=>if (F5 n p q).2=true then ((Hg p q m (F5 n p q).1).1,(Hg p q m (F5 n p q).1).2+1) else (n,0)
def Ep(n:Int)(bs:List Ag)(p q:Int):Bh×Int:=Hg p q ((bs.map Ag.Strength).sum.toNat+1) (Dd n bs)
def Mz{n:Bh}(hn:D2 n)(hc:Jl n){p q:Int}(Q:0<=p)(Z:p<n.Cnt)(aa:0<=q)(ab:q<n.Cnt)(ac:p≠q)(hg:(F5 n p q).2=true):
 D2 (F5 n p q).1/\Jl (F5 n p q).1/\(F5 n p q).1.Cnt=n.Cnt/\(F5 n p q).1.Bonds=n.Bonds/\(F5 n p q).1.At=n.At/\Dr (F5 n p q).1 p=Dr n p+1:=by
 have z:=rX hn aa ab;have hP:Gf n q (F4 n q,(CA n q n.Cnt.toNat).2):=Oo hn aa ab n.Cnt.toNat;obtain⟨x,hx⟩: ∃x,(F4 n q)[p.toNat]? =some x:=⟨_,BA (by omega)⟩;simp only[F5,hx,AX] at hg⊢;by_cases h:x<0
 .rw[Ai h] at hg;simp at hg
 .obtain⟨d,rfl⟩: ∃d:Nat,x=d:=⟨x.toNat,by omega⟩;rw[Af h,Bq];have hd:0<d:=by
   rcases mV d with h0|h0
   .subst h0
    have:=hP.uniq p.toNat hx
    omega
   .exact h0
  have O:=lS hn hc z hP Q Z hx d (AU _);have ho:=VG hn hc z hP Q Z hx (d - 1) (by omega);rw[show d - 1+1=d by omega] at ho;exact⟨O.ok,O.cap,O.cnt,O.bs,O.at_,ho⟩
abbrev nU:=Int×List Ag×Int×Int
def flC.net(a:nU):Bh:=(Ep a.1 a.2.1 a.2.2.1 a.2.2.2).1
def flC.ca(a:nU):List AV:=[.im (.int .i64 a.1),.im (.sl false 3 (a.2.1.map Ag.c)),.im (.int .i64 a.2.2.1),.im (.int .i64 a.2.2.2)]
def flC.H1(a:nU):An:=[(0,(true,.cells 208 [.im (.int .i64 a.1),.im (.sl false 3 (a.2.1.map Ag.c)),.im (.sl false 1 ((Dd a.1 a.2.1).At.map CZ)),.own 2])),(2,(true,.arr 2 1 ((flC.net a).Flow.map Ak)))]
def flC.r0(a:nU):AV:= .tup [.ptr 0 0,.im (.int .i64 (Ep a.1 a.2.1 a.2.2.1 a.2.2.2).2)]
def flC.pre(a:nU):Prop:=aB (a.1,a.2.1)/\QA a.2.1/\0<=a.2.2.1/\a.2.2.1<a.1/\0<=a.2.2.2/\a.2.2.2<a.1/\a.2.2.1≠a.2.2.2
def flC.row:AF:=AD flC.ca (λ_=>[]) 0 flC.pre (λ_=>false) flC.r0 flC.H1 3010
def flC.ok:AL 130 flC.row:=by
 refine ow (tC newNC.ok (tC growC.ok tN)) Tryz.func130 (exB:=EM) (R:=λa r=>r=flC.r0 a) (λ_=>rfl)
  (λa=>by simp[flC.ca,flC.H1,EM,AA,AV.bel,Aw,B6,BT,Ac.nms,Au,AV.nms,Aj,hget]) (λa p hp=> ?_) (λa r h=>by subst h;exact CN.refl _) ?_
 rotate_left
 intro a ac;simp only[Tryz.f130,Option.getD,flC.ca,flC.H1,EM];simp only[ZZ,simprocAttr,Ab,Aq,flC.ca,flC.H1,EM];obtain⟨O,af,ab,am,ad,an,ah⟩:=ac;obtain⟨aa,z⟩:=MQ O af;have ai:=Qtg (n:=a.1) (bs:=a.2.1) a.2.2.1;refine AD.os (a.1,a.2.1) [] O (λj=>by simp[Aj,hget]) rfl rfl ?_ ?_
 .simp only[ZZ,simprocAttr,Ab,Aq,flC.ca,flC.H1,EM,newNC.ca,BD]
 .simp only[ZZ,simprocAttr,Ab,Aq,flC.ca,flC.H1,EM,newNC.H1,sub];obtain⟨F,hF⟩: ∃F,F=(a.2.1.map Ag.Strength).sum.toNat+1:=⟨_,rfl⟩;refine Ba.old ⟨{k:Nat×Bh//D2 k.2/\Jl k.2/\k.2.Cnt=a.1/\k.2.Bonds=a.2.1/\k.2.At=(Dd a.1 a.2.1).At/\Dr k.2 a.2.2.1=k.1/\k.1<=F/\Ep a.1 a.2.1 a.2.2.1 a.2.2.2=((Hg a.2.2.1 a.2.2.2 (F - k.1) k.2).1,(Hg a.2.2.1 a.2.2.2 (F - k.1) k.2).2+k.1)},λk=>⟨[(11,.im (.int .i64 k.1.1)),(10,.ptr 0 0),(2,.im (.int .i64 a.2.2.1)),(3,.im (.int .i64 a.2.2.2))],[(0,(true,.cells 208 [.im (.int .i64 a.1),.im (.sl false 3 (a.2.1.map Ag.c)),.im (.sl false 1 ((Dd a.1 a.2.1).At.map CZ)),.own 2])),(2,(true,.arr 2 1 (k.1.2.Flow.map Ak)))],3010⟩,λk=>F - k.1.1,λk=>⟨by simp[ZG],AU _⟩,⟨⟨(0,Dd a.1 a.2.1),aa,z,rfl,rfl,rfl,ai,C5 _,by simp[Ep,hF]⟩,by simp only[ZZ,simprocAttr,Ab,Aq,flC.ca,flC.H1,EM,sub]⟩,λk=> ?_⟩;obtain⟨⟨k,N⟩,i1,i2,i3,i4,i5,i6,i7,Q⟩:=k;simp only at i1 i2 i3 i4 i5 i6 i7 Q;have ag:=Um i1 i2 a.2.2.1;rw[i4,i6] at ag;have ak:k<F:=by omega
  have aj:F<=1000000000001:=by
   have h2: ∀(l:List Ag),(∀b∈l,b.Strength<=1000000)->(l.map Ag.Strength).sum<=1000000*(l.length:Int):=by
    intro l;induction l with
    |nil=>intro _;simp
    |cons x r ih=>
     intro h;have h3:=ih (λb hb=>h b (BQ _ hb));have h4:=h x (BU ..);simp only[Be,KU,Dx];omega
   have h3:=h2 a.2.1 (λb hb=>(af b hb).2);have h4:=O.2.2.1;simp only at h4;omega
  obtain⟨m,hm⟩: ∃m,F - k=m+1:=⟨F - k - 1,by omega⟩;rw[hm,Hg] at Q;simp only[ZZ,simprocAttr,Ab,Aq,flC.ca,flC.H1,EM,sub,AP];refine AD.os (N,a.2.2.1,a.2.2.2) [0,2] ⟨i1,i2,ab,by simp only;omega,ad,by simp only;omega⟩ (λj=>oJ _ j) rfl rfl ?_ ?_
  .simp only[ZZ,simprocAttr,Ab,Aq,flC.ca,flC.H1,EM,growC.ca,Ec,Gy,BD];rw[i3,i4,i5];exact⟨rfl,rfl,rfl⟩
  .simp only[ZZ,simprocAttr,Ab,Aq,flC.ca,flC.H1,EM,growC.H1,growC.r0,Kl,sub,AP];refine⟨λZ=> ?_,λZ=> ?_⟩
   .rw[Ai Z] at Q;obtain⟨g1,g2,g3,g4,g5,g6⟩:=Mz i1 i2 ab (by omega) ad (by omega) ah Z;refine⟨⟨(k+1,(F5 N a.2.2.1 a.2.2.2).1),g1,g2,g3.trans i3,g4.trans i4,g5.trans i5,by simp only;omega,by simp only;omega,?_⟩,by simp only;omega,?_,rfl⟩
    .simp only;rw[show F - (k+1)=m by omega,Q];simp only[E0,OK];omega
    .rw[AG (by omega) (by omega)];simp only;omega
   .rw[Af Z] at Q;have e:(F5 N a.2.2.1 a.2.2.2).1=N:=by
     revert Z;simp only[F5];split
     .intro _;rfl
     .intro h;simp at h
    refine⟨?_,?_⟩
    .simp only[flC.r0,Q];simp
    .rw[e];simp only[flC.net,Q]
 simp[flC.H1] at hp;rcases hp with rfl|rfl
 .exact .inr ⟨by omega,by simp,rfl,rfl⟩
 .exact .inr ⟨by omega,by simp,rfl,rfl⟩
def Qt:D->Option Int
 | .int .u64 n=>some n
 |_=>none
def Qs3: ∀d x,Qt d=some x->Le d (.int .u64 x):=by
 intro d x h;unfold Qt at h;split at h
 .simp only[AN] at h;subst h;exact Le.refl _
 .cases h
def Qw1{a:Int}(h0:0<=a)(O:a<4294967296):XD .u64 a 4294967295=a:=by
 simp only[XD];obtain⟨n,rfl⟩: ∃n:Nat,a=n:=⟨a.toNat,by omega⟩;have hn:n<4294967296:=by omega
 have:(BitVec.ofInt IntKind.u64.bits (n:Int) &&& BitVec.ofInt IntKind.u64.bits 4294967295).toNat=n:=by
  have e:IntKind.u64.bits=64:=rfl;rw[e];simp only[BitVec.toNat_and,BitVec.toNat_ofInt];rw[show ((n:Int) % ((2^64:Nat):Int)).toNat=n by omega,show ((4294967295:Int) % ((2^64:Nat):Int)).toNat=2^32 - 1 by decide];rw[Nat.and_two_pow_sub_one_eq_mod];omega
 rw[this];unfold IntKind.wrap;have e:IntKind.u64.bits=64:=rfl;have z:IntKind.u64.signed=false:=rfl;simp only[e,z,Gu,Df,CO];omega
def NZ{a:Int}(h0:0<=a)(O:a<18446744073709551616):IntKind.u64.wrap a=a:=by
 unfold IntKind.wrap;have e:IntKind.u64.bits=64:=rfl;have z:IntKind.u64.signed=false:=rfl;simp only[e,z,Gu,Df,CO];omega
def Mo{a:Int}(h0:0<=a)(z:a<4294967296):a.fdiv (2^min 32 IntKind.u64.bits)=0:=by
 have e:IntKind.u64.bits=64:=rfl;rw[e,show (2:Int)^min 32 64=4294967296 by decide,Zet _ (by decide)];omega
def mul64.fv(a:Int×Int):Int×Int:=(λ_ y=>(0,y)) (a.1) (a.2)
def mul64.row:AF:=vK (b2 qU qU) (r2 (RK.mk (Qt) (D.int .u64) (Qs3)) (RK.mk (Qt) (D.int .u64) (Qs3))) (λa=>a.1=1/\0<=a.2/\a.2<=1000000) mul64.fv
def mul64.q:=Bd (R:=mul64.row) rfl
def mul64.ok:AL 212 mul64.row:=by
 refine vw tN Tryz.func212 ?_;intro a z;simp only[Tryz.f212,Option.getD];simp only[ZZ,simprocAttr,Ab,mul64.fv];obtain⟨Q,O,Z⟩:=z;rw[Q,Qw1 (by omega) (by omega),Qw1 (by omega) (by omega),Mo (by omega) (by omega),Mo O (by omega),Int.zero_mul,Int.one_mul,Int.zero_mul,Int.mul_zero];simp only[NZ O (show a.2<18446744073709551616 by omega),Mo O (show a.2<4294967296 by omega),NZ (OG 0) (by decide),Int.add_zero,Mo (OG 0) (by decide),Qw1 (OG 0) (by decide)];rfl
def mul_.fv(a:Int×Int):Int×Int:=(λ_ y=>(0,y)) (a.1) (a.2)
def mul_.row:AF:=vK (b2 qU qU) (r2 (RK.mk (Qt) (D.int .u64) (Qs3)) (RK.mk (Qt) (D.int .u64) (Qs3))) (λa=>a.1=1/\0<=a.2/\a.2<=1000000) mul_.fv
def mul_.q:=Bd (R:=mul_.row) rfl
def mul_.ok:AL 208 mul_.row:=by
 refine vw (tC mul64.ok tN) Tryz.func208 ?_;intro a z;simp only[Tryz.f208,Option.getD];simp only[ZZ,simprocAttr,Ab,mul_.fv,mul64.q,mul64.fv];exact⟨z,rfl⟩
def Ee(x:Int)(m n:Nat):List (List D):=List.replicate m [.int .i64 x]++List.replicate (n - m) [.int .i64 0]
def UB(x:Int){m n:Nat}(h:m<=n):(Ee x m n).length=n:=by simp[Ee];omega
def UC(x:Int)(n:Nat):Ee x (min 1 n) n=List.take (min 1 n) [[.int .i64 x]]++List.drop (min 1 n) (List.replicate n [.int .i64 0]):=by
 cases n with
 |zero=>rfl
 |succ n=>
  rw[show min 1 (n+1)=1 by omega];simp[Ee]
def Ob(x:Int)(k m n:Nat):Bj Bm (List.take k (Ee x m n)):=by
 intro r z
 have:=Zdz z
 rcases B7.1 this with h|h<;>rw[OF h]<;>rfl
def PI(x:Int){m n:Nat}(h:m<n):List.take m (Ee x m n)++List.take (min m (n - m)) (List.take m (Ee x m n))++List.drop (m+min m (n - m)) (Ee x m n)=Ee x (m+min m (n - m)) n:=by
 have e:List.take m (Ee x m n)=List.replicate m [.int .i64 x]:=by simp[Ee]
 rw[e];have z:List.drop (m+min m (n - m)) (Ee x m n)=List.replicate (n - (m+min m (n - m))) [.int .i64 0]:=by
  simp only[Ee];rw[Wk,DY (by simp),Dg,OE,List.drop_replicate];congr 1;omega
 rw[z,Ee,<-List.replicate_append_replicate];congr 2;rw[List.take_replicate];congr 1;omega
def rept.ca(a:Int×Int):List AV:=[.own 0,.im (.int .i64 a.2)]
def rept.H0(a:Int×Int):An:=[(0,(true,.arr 3 1 [[.int .i64 a.1]]))]
def rept.H1(a:Int×Int):An:=[(1,(true,.arr 3 1 (List.replicate a.2.toNat [.int .i64 a.1])))]
def rept.pre(a:Int×Int):Prop:=0<=a.2/\a.2<=1000000
def rept.row:AF:=AD rept.ca rept.H0 1 rept.pre (λ_=>false) (λ_=> .own 1) rept.H1 20
def X9:=J @mul_.q @mul_.fv.eq_1
def rept.ok:AL 200 rept.row:=by
 refine P6 (tC mul_.ok tN) Tryz.func200 (exB:=λj=>j==1) (R:=λa r=>r= .own 1) (λ_=>rfl)
  (λa=>by simp[rept.ca,rept.H0,rept.H1,AA,AV.bel,Aw,B6,BT,Ac.nms,Au,AV.nms,Aj,hget]) (λa p hp=> ?_) (λa r h=>by subst h;exact CN.refl _) ?_
 rotate_left
 intro a O;simp only[Tryz.f200,Option.getD,rept.ca,rept.H0,rept.H1];simp only[ZZ,simprocAttr,Ab,X9,Bs,Aq,rept.ca,rept.H0,rept.H1];obtain⟨h0,h1⟩:=O;rw[Af (by omega)];simp only[ZZ,simprocAttr,Ab,X9,Bs,Aq,rept.ca,rept.H0,rept.H1,NZ (show (0:Int)<=1 by decide) (show (1:Int)<18446744073709551616 by decide),NZ h0 (show a.2<18446744073709551616 by omega)];refine⟨⟨h0,h1⟩,?_⟩;rw[Af (by omega)];simp only[ZZ,simprocAttr,Ab,X9,Bs,Aq,rept.ca,rept.H0,rept.H1,AG (show -9223372036854775808<=a.2 by omega) (show a.2<=9223372036854775807 by omega)];refine⟨h0,OG _,by omega,?_⟩;obtain⟨n,hn⟩: ∃n:Nat,a.2=n:=⟨a.2.toNat,by omega⟩;obtain⟨x,hx⟩: ∃x,x=a.1:=⟨_,rfl⟩;simp only[hn,Bq,OE,<-hx];rw[hn] at h0 h1;refine Ba.old ⟨{m:Nat//m<=n/\(m=0->n=0)},λm=>⟨[(8,.im (.int .i64 m.1)),(7,.own 1)],[(1,(true,.arr 3 1 (Ee x m.1 n))),(0,(true,.arr 3 1 [[.int .i64 x]]))],2⟩,λm=>n - m.1,λm=>⟨by simp[ZG],by simp⟩,⟨⟨min 1 n,by omega,by omega⟩,?_⟩,λm=> ?_⟩
 .simp only[ZZ,simprocAttr,Ab,X9,Bs,Aq,rept.ca,rept.H0,rept.H1,sub];exact (UC x n).symm
 obtain⟨m,Z,ab⟩:=m;have z:=UB x Z;simp only[ZZ,simprocAttr,Ab,X9,Bs,Aq,rept.ca,rept.H0,rept.H1,sub,AP,z];intro aa;refine⟨λhm=>⟨by omega,false,?_⟩,λhm=> ?_⟩
 .simp only[ZZ,simprocAttr,Ab,X9,Bs,Aq,rept.ca,rept.H0,rept.H1,z];refine⟨by omega,false,?_⟩;simp only[ZZ,simprocAttr,Ab,X9,Bs,Aq,rept.ca,rept.H0,rept.H1,z,sub];obtain⟨k,hk⟩: ∃k,min (List.take ((m:Int) - 0).toNat (Ee x m n)).length ((n:Int) - m).toNat=k:=⟨_,rfl⟩;have Q:k=min m (n - m):=by rw[<-hk,Cu,z];omega
  rw[hk,show ((m:Int) - 0).toNat=m by omega];refine⟨Ob x _ _ _,⟨m+k,by omega,by omega⟩,by simp only;omega,by rw[AG (by omega) (by omega)];simp only;omega,?_⟩;subst Q;exact PI x hm
 .refine⟨[],[],⟨[(4,.own 1)],[(1,(true,.arr 3 1 (Ee x m n))),(0,(true,.arr 3 1 [[.int .i64 x]]))],2⟩,?_,by simp[ZG],by simp,?_⟩
  .simp only[Av];simp only[ZZ,simprocAttr,Ab,X9,Bs,Aq,rept.ca,rept.H0,rept.H1,AS,AR]
  .simp only[ZZ,simprocAttr,Ab,X9,Bs,Aq,rept.ca,rept.H0,rept.H1]
   have:m=n:=by omega
   subst this;simp[Ee]
 simp[rept.H1] at hp;subst hp;exact .inr ⟨by omega,by omega,rfl,rfl⟩
def Qyw(x:Bi)(u v:Int):Int:=(x.Room[u.toNat]?.getD [])[v.toNat]?.getD 0
def Qzr(x:Bi)(u v:Int):Int:=(x.Flow[u.toNat]?.getD [])[v.toNat]?.getD 0
def Wb(x:Bi)(u v:Int):Bool:=decide (Qzr x u v<Qyw x u v)
structure KI(x:Bi)(n:Nat):Prop where
 r:x.Room.length=n
 f:x.Flow.length=n
 rr: ∀l∈x.Room,l.length=n
 ff: ∀l∈x.Flow,l.length=n
def HB(x:Bi)(u:Int)(s:List Int×List Int)(v:Nat):List Int×List Int:=
 if s.1[v]?.getD 0<0/\Wb x u v=true then (s.1.set v u,s.2++[(v:Int)]) else s
def CM(x:Bi)(u:Int)(s:List Int×List Int):Nat->List Int×List Int
 |0=>s
 |k+1=>HB x u (CM x u s k) k
def CX(x:Bi)(n:Nat)(p:Int):Nat->List Int×List Int
 |0=>((List.replicate n (-1)).set p.toNat p,[p])
 |k+1=>match (CX x n p k).2[k]? with
  |none=>CX x n p k
  |some u=>CM x u (CX x n p k) n
structure Hc(x:Bi)(n:Nat)(p:Int)(s:List Int×List Int):Prop where
 len:s.1.length=n
 q: ∀v∈s.2,0<=v/\v<n
 nd:s.2.Nodup
 hd:s.2[0]? =some p
 pp:s.1[p.toNat]? =some p
 mem: ∀(v:Nat) (y:Int),s.1[v]? =some y->(0<=y↔(v:Int)∈s.2)
 prev: ∀(i:Nat) (v:Int),s.2[i]? =some v->0<i-> ∃(j:Nat) (u:Int),j<i/\s.2[j]? =some u/\s.1[v.toNat]? =some u/\Wb x u v=true
def Qtz: ∀(n:Nat) (l:List Int),l.Nodup->(∀v∈l,0<=v/\v<n)->l.length<=n
 |0,[],_,_=>AU _
 |0,x::r,_,h=>by have:=h x (BU ..);omega
 |n+1,l,h,O=>by
  have Z:=Qtz n (l.erase (n:Int)) (h.erase _) (λv Q=>by
   have z:=(h.mem_erase_iff).1 Q;have h3:=O v z.2
   have:=z.1
   omega)
  have z:=List.length_erase (a:=(n:Int)) (l:=l);split at z<;>omega
def Qr3{x:Bi}{n:Nat}{p:Int}{s:List Int×List Int}(h:Hc x n p s):s.2.length<=n:=Qtz n s.2 h.nd h.q
def kW{x:Bi}{n:Nat}{p:Int}{s:List Int×List Int}(h:Hc x n p s){u:Int}{k v:Nat}(hu:s.2[k]? =some u)(hv:v<n):Hc x n p (HB x u s v)/\ ∃r,(HB x u s v).2=s.2++r:=by
 simp only[HB];split
 .rename_i hc;obtain⟨ad,af⟩:=hc;have Q:v<s.1.length:=by rw[h.len];exact hv
  obtain⟨y,hy⟩: ∃y,s.1[v]? =some y:=⟨_,BA Q⟩;rw[hy,AX] at ad;have Z:(v:Int)∉s.2:=λhm=>by have:=(h.mem v y hy).2 hm;omega
  have ab:p∈s.2:=Bg h.hd;have ai:p.toNat≠v:=by
   intro he
   have:=h.q p ab
   exact Z (by rw[show (v:Int)=p by omega];exact ab)
  have aj:=h.q u (Bg hu);refine⟨⟨by simpa using h.len,λw O=> ?_,?_,?_,?_,λw z hz=> ?_,λi w O hi=> ?_⟩,_,rfl⟩
  .rcases B7.1 O with O|O
   .exact h.q w O
   .rw[BS] at O;subst O;omega
  .rw[Wq];refine⟨h.nd,by simp,λa ha b hb=> ?_⟩;rw[BS] at hb;subst hb;exact λhe=>Z (he▸ha)
  .have:=h.hd
   rw[Io (C6.1 this).1];exact this
  .simp only;rw[Eh (FP ai)];exact h.pp
  .simp only at hz⊢;rw[B7,BS];by_cases ac:v=w
   .subst ac;rw[DW Q] at hz;obtain rfl:=AJ hz;exact⟨λ_=> .inr rfl,λ_=>aj.1⟩
   .rw[Eh ac] at hz;rw[h.mem w z hz];constructor
    .exact .inl
    .rintro (h1|h1)
     .exact h1
     .omega
  .simp only at O⊢;by_cases ah:i<s.2.length
   .rw[Io ah] at O;obtain⟨j,z,h1,h2,h3,h4⟩:=h.prev i w O hi;refine⟨j,z,h1,by rw[Io (by omega)];exact h2,?_,h4⟩;have ak:=h.q w (Bg O);rw[Eh]
    .exact h3
    .intro he;exact Z (by rw[show (v:Int)=w by omega];exact Bg O)
   .have ag:i=s.2.length:=by
     have:=(C6.1 O).1
     simp only[Ez,Dx,Ip] at this;omega
    subst ag;rw[Kc (AU _),Ke,Iq] at O;obtain rfl:=AJ O;have aa:=(C6.1 hu).1;refine⟨k,u,aa,by rw[Io aa];exact hu,?_,af⟩;rw[Bq,DW Q]
 .exact⟨h,[],by simp⟩
def Qoj(x:Bi)(u:Int)(s:List Int×List Int)(v w:Nat)(y:Int)(h:s.1[w]? =some y)(h0:0<=y):(HB x u s v).1[w]? =some y:=by
 simp only[HB];split
 .rename_i z;rw[Eh]
  .exact h
  .intro O;subst O
   have:=z.1
   rw[h,AX] at this;omega
 .exact h
def Qvl(x:Bi)(u:Int)(s:List Int×List Int)(w:Nat)(y:Int)(h:s.1[w]? =some y)(h0:0<=y): ∀k,(CM x u s k).1[w]? =some y
 |0=>h
 |k+1=>Qoj x u _ k w y (Qvl x u s w y h h0 k) h0
def uO{x:Bi}{n:Nat}{p:Int}{s:List Int×List Int}(h:Hc x n p s){u:Int}{i:Nat}(O:s.2[i]? =some u): ∀k,k<=n->Hc x n p (CM x u s k)/\ ∃r,(CM x u s k).2=s.2++r
 |0,_=>⟨h,[],by simp[CM]⟩
 |k+1,hk=>by
  obtain⟨h1,r,Z⟩:=uO h O k (by omega);have Q:=(C6.1 O).1;obtain⟨h2,r',z⟩:=kW h1 (u:=u) (k:=i) (v:=k) (by rw[Z,Io Q];exact O) (by omega);exact⟨h2,r++r',by rw[CM,z,Z,Ka]⟩
def Qz6{x:Bi}{n:Nat}{p:Int}{s:List Int×List Int}(h:Hc x n p s){u:Int}{i:Nat}(O:s.2[i]? =some u): ∀k,k<=n-> ∀v,v<k->Wb x u v=true-> ∃y,(CM x u s k).1[v]? =some y/\0<=y
 |0,_,v,hv,_=>by omega
 |k+1,hk,v,hv,hf=>by
  by_cases Z:v<k
  .obtain⟨y,h1,h2⟩:=Qz6 h O k (by omega) v Z hf;exact⟨y,Qoj x u _ k v y h1 h2,h2⟩
  .have:v=k:=by omega
   subst this;have hP:=(uO h O v (by omega)).1;obtain⟨y,hy⟩: ∃y,(CM x u s v).1[v]? =some y:=⟨_,BA (by rw[hP.len];omega)⟩;by_cases z:0<=y
   .exact⟨y,Qoj x u _ v v y hy z,z⟩
   .have Q:=h.q u (Bg O);refine⟨u,?_,Q.1⟩;rw[CM,HB,Ai ⟨by rw[hy,AX];omega,hf⟩];exact DW (by rw[hP.len];omega)
def R9{x:Bi}{n:Nat}{p:Int}(h0:0<=p)(Z:p<n): ∀k,Hc x n p (CX x n p k)
 |0=>by
  have hq:p.toNat<(List.replicate n (-1:Int)).length:=by rw[OE];omega
  refine⟨by simp[CX],λv z=> ?_,by simp[CX],rfl,DW hq,λv y O=> ?_,λi v z hi=> ?_⟩
  .simp only[CX,BS] at z;subst z;omega
  .simp only[CX,BS] at O⊢;by_cases Q:p.toNat=v
   .subst Q;rw[DW hq] at O;obtain rfl:=AJ O;omega
   .rw[Eh Q] at O
    have:=OF (Bg O)
    omega
  .simp only[CX] at z;cases i with
   |zero=>omega
   |succ i=>simp at z
 |k+1=>by
  have ih:=R9 (x:=x) h0 Z k;simp only[CX];split
  .exact ih
  .rename_i u hu;exact (uO ih hu n (AU _)).1
def nX(x:Bi)(n:Nat)(p:Int)(w:Nat)(y:Int)(h0:0<=y)(k:Nat)(h:(CX x n p k).1[w]? =some y): ∀m,(CX x n p (k+m)).1[w]? =some y
 |0=>h
 |m+1=>by
  have ih:=nX x n p w y h0 k h m;rw[show k+(m+1)=k+m+1 by omega,CX];split
  .exact ih
  .exact Qvl x _ _ w y ih h0 n
def VJ(x:Bi){n:Nat}{p:Int}(h0:0<=p)(z:p<n)(k:Nat): ∃r,(CX x n p (k+1)).2=(CX x n p k).2++r:=by
 rw[CX];split
 .exact⟨[],by simp⟩
 .rename_i u O;exact (uO (R9 (x:=x) h0 z k) O n (AU _)).2
def NQ(x:Bi)(n:Nat)(p:Int): ∀(m k:Nat),(CX x n p k).2.length<=k->CX x n p (k+m)=CX x n p k
 |0,k,_=>rfl
 |m+1,k,h=>by
  have z:CX x n p (k+1)=CX x n p k:=by
   rw[CX,Ir h]
  have O:=NQ x n p m (k+1) (by rw[z];omega);rw[show k+(m+1)=k+1+m by omega,O,z]
def Qzh(x:Bi){n:Nat}{p:Int}(h0:0<=p)(O:p<n): ∀(k:Nat) (j:Nat) (u:Int),j<k->(CX x n p k).2[j]? =some u-> ∀v,v<n->Wb x u v=true-> ∃y,(CX x n p k).1[v]? =some y/\0<=y
 |0,j,_,hj,_,_,_,_=>by omega
 |k+1,j,u,hj,z,v,hv,hf=>by
  obtain⟨r,hr⟩:=VJ x h0 O k;by_cases Z:j<(CX x n p k).2.length
  .rw[hr,Io Z] at z;by_cases Q:j<k
   .obtain⟨y,g1,g2⟩:=Qzh x h0 O k j u Q z v hv hf;exact⟨y,nX x n p v y g2 k g1 1,g2⟩
   .have:j=k:=by omega
    subst this;obtain⟨y,g1,g2⟩:=Qz6 (R9 (x:=x) h0 O j) z n (AU _) v hv hf;exact⟨y,by rw[CX,z];exact g1,g2⟩
  .have e:CX x n p (k+1)=CX x n p k:=by
    rw[CX,Ir (by omega)]
   rw[e] at z
   have:=(C6.1 z).1
   omega
def BC(x:Bi)(n:Nat)(p:Int):List Int×List Int:=CX x n p n
def Qww(x:Bi){n:Nat}{p:Int}(h0:0<=p)(O:p<n){u v:Nat}{y:Int}(hu:(BC x n p).1[u]? =some y)(hy:0<=y)(hv:v<n)(hf:Wb x u v=true): ∃z,(BC x n p).1[v]? =some z/\0<=z:=by
 have Q:=R9 (x:=x) h0 O n;have hm:=(Q.mem u y hu).1 hy;obtain⟨j,Z⟩:=Wp.1 hm;have hl:=Qr3 Q;have aa:=(C6.1 Z).1;exact Qzh x h0 O n j u (by omega) Z v hv hf
def D9(z:List Int)(q:Int):Nat->Int
 |0=>q
 |k+1=>z[(D9 z q k).toNat]?.getD 0
def uA(z:List Int)(p q:Int)(n:Nat):Nat:=((List.range (n+1)).find? λk=>decide (D9 z q k=p)).getD 0
def IK(z:List Int)(q:Int)(k:Nat):List Int:=(List.range (k+1)).map (D9 z q)
def C4(x:Bi)(n:Nat)(p q:Int):List Int:=
 if (BC x n p).1[q.toNat]?.getD 0<0 then [] else (IK (BC x n p).1 q (uA (BC x n p).1 p q n)).reverse
def sS{x:Bi}{n:Nat}{p:Int}{s:List Int×List Int}(h:Hc x n p s){q:Int}{i:Nat}(hq:s.2[i]? =some q): ∀k,(∀j,j<k->D9 s.1 q j≠p)-> ∃j,j+k<=i/\s.2[j]? =some (D9 s.1 q k)
 |0,_=>⟨i,by omega,hq⟩
 |k+1,z=>by
  obtain⟨j,h1,O⟩:=sS h hq k (λj hj=>z j (by omega));have Q:0<j:=by
   rcases mV j with h0|h0
   .subst h0;rw[h.hd] at O;exact absurd (AJ O).symm (z k (by omega))
   .exact h0
  obtain⟨j',u,g1,g2,Z,g4⟩:=h.prev j _ O Q;exact⟨j',by omega,by rw[D9,Z,AX];exact g2⟩
def OQ{x:Bi}{n:Nat}{p:Int}{s:List Int×List Int}(h:Hc x n p s){q:Int}{i:Nat}(hq:s.2[i]? =some q){k:Nat}(z: ∀j,j<k+1->D9 s.1 q j≠p):Wb x (D9 s.1 q (k+1)) (D9 s.1 q k)=true/\ ∃y,s.1[(D9 s.1 q k).toNat]? =some y/\D9 s.1 q (k+1)=y:=by
 obtain⟨j,h1,O⟩:=sS h hq k (λj hj=>z j (by omega));have Q:0<j:=by
  rcases mV j with h0|h0
  .subst h0;rw[h.hd] at O;exact absurd (AJ O).symm (z k (by omega))
  .exact h0
 obtain⟨j',u,g1,g2,Z,g4⟩:=h.prev j _ O Q;have e:D9 s.1 q (k+1)=u:=by rw[D9,Z,AX]
 exact⟨by rw[e];exact g4,u,Z,e⟩
def Qq3{x:Bi}{n:Nat}{p:Int}{s:List Int×List Int}(h:Hc x n p s){q:Int}{i:Nat}(hq:s.2[i]? =some q): ∃d,d<=i/\D9 s.1 q d=p/\ ∀j,j<d->D9 s.1 q j≠p:=by
 have Z: ∀m,(∃d,d<=m/\D9 s.1 q d=p/\ ∀j,j<d->D9 s.1 q j≠p)\/ ∀j,j<=m->D9 s.1 q j≠p:=by
  intro m;induction m with
  |zero=>
   by_cases h0:D9 s.1 q 0=p
   .exact .inl ⟨0,AU _,h0,λj O=>by omega⟩
   .exact .inr λj O=>by rw[show j=0 by omega];exact h0
  |succ m ih=>
   rcases ih with ⟨d,z,h2,h3⟩|ih
   .exact .inl ⟨d,by omega,h2,h3⟩
   .by_cases h0:D9 s.1 q (m+1)=p
    .exact .inl ⟨m+1,AU _,h0,λj O=>ih j (by omega)⟩
    .refine .inr λj O=> ?_
     by_cases Q:j<=m
     .exact ih j Q
     .rw[show j=m+1 by omega];exact h0
 rcases Z i with z|z
 .exact z
 .obtain⟨j,g1,g2⟩:=sS h hq (i+1) (λj O=>z j (by omega));omega
def Qqr{z:List Int}{p q:Int}{n d:Nat}(hd:d<=n)(O:D9 z q d=p)(Q: ∀j,j<d->D9 z q j≠p):uA z p q n=d:=by
 have: ∀(m s:Nat),s<=d->d<s+m->((List.range' s m).find? λk=>decide (D9 z q k=p))=some d:=by
  intro m;induction m with
  |zero=>intro s Z h4;omega
  |succ m ih=>
   intro s Z h4;rw[List.range'_succ,Zem];by_cases hs:s=d
   .subst hs;simp[O]
   .rw[show decide (D9 z q s=p)=false from QN (Q s (by omega))];exact ih (s+1) (by omega) (by omega)
 rw[uA,Zeh,this _ 0 (by omega) (by omega),AX]
def AM(f:Nat->Int):Nat->Int
 |0=>0
 |n+1=>AM f n+f n
def FJ{f g:Nat->Int}: ∀{n:Nat},(∀i,i<n->f i=g i)->AM f n=AM g n
 |0,_=>rfl
 |n+1,h=>by simp only[AM];rw[FJ (λi z=>h i (by omega)),h n (by omega)]
def Rv(f g:Nat->Int): ∀n,AM (λi=>f i+g i) n=AM f n+AM g n
 |0=>rfl
 |n+1=>by simp only[AM];rw[Rv f g n];omega
def sO(f:Nat->Int): ∀n,AM (λi=> - f i) n= - AM f n
 |0=>rfl
 |n+1=>by simp only[AM];rw[sO f n];omega
def Rt: ∀n,AM (λ_=>0) n=0
 |0=>rfl
 |n+1=>by simp only[AM];rw[Rt n];rfl
def Qxf{f g:Nat->Int}: ∀{n:Nat},(∀i,i<n->f i<=g i)->AM f n<=AM g n
 |0,_=>OG _
 |n+1,h=>by
  have z:=Qxf (f:=f) (g:=g) (n:=n) (λi Q=>h i (by omega));have O:=h n (by omega);simp only[AM];omega
def Qt3(f:Nat->Nat->Int)(m:Nat): ∀n,AM (λi=>AM (λj=>f i j) m) n=AM (λj=>AM (λi=>f i j) n) m
 |0=>by simp only[AM];exact (Rt m).symm
 |n+1=>by simp only[AM];rw[Qt3 f m n,<-Rv]
def Xk(k:Nat)(c:Int): ∀n,AM (λi=>if i=k then c else 0) n=if k<n then c else 0
 |0=>rfl
 |n+1=>by
  simp only[AM];rw[Xk k c n];by_cases z:n=k
  .subst z;rw[Af (by omega),Ai rfl,Ai (by omega)];omega
  .rw[Af z];by_cases O:k<n
   .rw[Ai O,Ai (by omega)];omega
   .rw[Af O,Af (by omega)];omega
def Qn(a:Nat->Nat->Int)(n:Nat)(h: ∀u w,u<n->w<n->a u w= - a w u):AM (λu=>AM (λw=>a u w) n) n=0:=by
 have Q:AM (λu=>AM (λw=>a u w) n) n= - AM (λu=>AM (λw=>a u w) n) n:=by
  rw[<-sO]
  conv=>lhs;rw[Qt3]
  refine FJ λu z=> ?_
  rw[<-sO];exact FJ λw O=>h w u O z
 omega
structure R2(rm fl:Nat->Nat->Int)(n p q:Nat)(v:Int):Prop where
 anti: ∀u w,u<n->w<n->fl u w= - fl w u
 cap: ∀u w,u<n->w<n->fl u w<=rm u w
 cons: ∀u,u<n->u≠p->u≠q->AM (fl u) n=0
 val:AM (fl p) n=v
def E9(rm:Nat->Nat->Int)(n:Nat)(S:Nat->Bool):Int:=AM (λu=>AM (λw=>if S u=true/\S w=false then rm u w else 0) n) n
def oC{rm fl:Nat->Nat->Int}{n p q:Nat}{v:Int}(h:R2 rm fl n p q v)(hp:p<n){S:Nat->Bool}(hS:S p=true)(hT:S q=false):E9 fl n S=v:=by
 have h1:AM (λu=>AM (λw=>if S u=true then fl u w else 0) n) n=v:=by
  have:AM (λu=>AM (λw=>if S u=true then fl u w else 0) n) n=AM (λu=>if u=p then v else 0) n:=by
   refine FJ λu Q=> ?_
   by_cases z:u=p
   .subst z;rw[Ai rfl,<-h.val];exact FJ λw _=>Ai hS
   .rw[Af z];cases hSu:S u with
    |false=>exact (FJ λw _=>Af (by simp)).trans (Rt n)
    |true=>
     have Z:u≠q:=λhe=>by rw[he,hT] at hSu;cases hSu
     exact (FJ λw _=>Ai rfl).trans (h.cons u Q z Z)
  rw[this,Xk,Ai hp]
 have h2:AM (λu=>AM (λw=>if S u=true/\S w=true then fl u w else 0) n) n=0:=by
  refine Qn _ n λu w Q hw=> ?_
  by_cases O:S u=true/\S w=true
  .rw[Ai O,Ai ⟨O.2,O.1⟩];exact h.anti u w Q hw
  .rw[Af O,Af (λh=>O ⟨h.2,h.1⟩)];rfl
 have h3:AM (λu=>AM (λw=>if S u=true then fl u w else 0) n) n=AM (λu=>AM (λw=>if S u=true/\S w=true then fl u w else 0) n) n+E9 fl n S:=by
  rw[E9,<-Rv];refine FJ λu _=> ?_
  rw[<-Rv];refine FJ λw _=> ?_
  cases S u<;>cases S w<;>simp
 omega
def Qw8{rm fl:Nat->Nat->Int}{n p q:Nat}{v:Int}(h:R2 rm fl n p q v)(hp:p<n){S:Nat->Bool}(z:S p=true)(O:S q=false):v<=E9 rm n S:=by
 rw[<-oC h hp z O];refine Qxf λu Q=>Qxf λw Z=> ?_
 split
 .exact h.cap u w Q Z
 .exact OG _
def Qxp{rm fl:Nat->Nat->Int}{n p q:Nat}{v:Int}(h:R2 rm fl n p q v)(hp:p<n){S:Nat->Bool}(hS:S p=true)(hT:S q=false)(z: ∀u w,u<n->w<n->S u=true->S w=false->rm u w<=fl u w):v=E9 rm n S:=by
 rw[<-oC h hp hS hT];refine FJ λu Q=>FJ λw Z=> ?_
 split
 .rename_i O;have h1:=h.cap u w Q Z;have h2:=z u w Q Z O.1 O.2;omega
 .rfl
def HJ(L:Nat->Nat)(a b j:Nat):Int:=if L j=a/\L (j+1)=b then 1 else 0
def rO(L:Nat->Nat)(a b:Nat): ∀i,0<=AM (HJ L a b) i
 |0=>OG _
 |i+1=>by
  have:=rO L a b i
  simp only[AM,HJ]
  split<;>omega
def Qr1{L:Nat->Nat}{m:Nat}(z: ∀i j,i<=m->j<=m->L i=L j->i=j)(a b:Nat): ∀i,i<=m->AM (HJ L a b) i<=1/\(0<AM (HJ L a b) i-> ∃j,j<i/\L j=a/\L (j+1)=b)
 |0,_=>⟨by simp[AM],λh=>by simp[AM] at h⟩
 |i+1,hi=>by
  obtain⟨h1,h2⟩:=Qr1 z a b i (by omega);have h0:=rO L a b i;simp only[AM];by_cases Q:L i=a/\L (i+1)=b
  .have hz: ¬0<AM (HJ L a b) i:=by
    intro O;obtain⟨j,hj,Z,_⟩:=h2 O
    have:=z j i (by omega) (by omega) (Z.trans Q.1.symm)
    omega
   simp only[HJ] at hz h0⊢;rw[Ai Q];exact⟨by omega,λ_=>⟨i,by omega,Q⟩⟩
  .have e:HJ L a b i=0:=Af Q;rw[e];refine⟨by omega,λO=> ?_⟩;obtain⟨j,hj,Z⟩:=h2 (by omega);exact⟨j,by omega,Z⟩
def oI{L:Nat->Nat}{n m:Nat}(z: ∀i,i<=m->L i<n)(a:Nat): ∀i,i<=m->AM (λb=>AM (HJ L a b) i - AM (HJ L b a) i) n=(if L 0=a then 1 else 0) - (if L i=a then 1 else 0)
 |0,_=>by simp only[AM,Int.sub_self];exact Rt n
 |i+1,hi=>by
  have ih:=oI z a i (by omega);have e:AM (λb=>AM (HJ L a b) (i+1) - AM (HJ L b a) (i+1)) n=AM (λb=>AM (HJ L a b) i - AM (HJ L b a) i) n+(AM (λb=>if b=L (i+1) then (if L i=a then 1 else 0) else 0) n+ - AM (λb=>if b=L i then (if L (i+1)=a then 1 else 0) else 0) n):=by
   rw[<-sO,<-Rv,<-Rv];refine FJ λb _=> ?_
   simp only[AM,HJ];by_cases c1:L i=a<;>by_cases O:L (i+1)=a<;>by_cases Q:b=L i<;>by_cases Z:b=L (i+1)<;>simp[c1,O,Q,Z,eq_comm]<;>omega
  rw[e,ih,Xk,Xk,Ai (z _ hi),Ai (z _ (by omega))];omega
def Pl{rm fl Z:Nat->Nat->Int}{n p q:Nat}{v:Int}(h:R2 rm fl n p q v){L:Nat->Nat}{m:Nat}(ab: ∀i j,i<=m->j<=m->L i=L j->i=j)(hr: ∀i,i<=m->L i<n)
 (h0:L 0=p)(hm:L m=q)(ad:p≠q)(hp:p<n)(aa: ∀i,i<m->fl (L i) (L (i+1))<rm (L i) (L (i+1)))
 (z: ∀a b,a<n->b<n->Z a b=fl a b+(AM (HJ L a b) m - AM (HJ L b a) m)):R2 rm Z n p q (v+1):=by
 have Q: ∀a,a<n->AM (Z a) n=AM (fl a) n+((if L 0=a then 1 else 0) - (if L m=a then 1 else 0)):=by
  intro a ha;rw[<-oI hr a m (AU _),<-Rv];exact FJ λb hb=>z a b ha hb
 refine⟨λu w O hw=> ?_,λu w O hw=> ?_,λu O h1 h2=> ?_,?_⟩
 .rw[z u w O hw,z w u hw O]
  have:=h.anti u w O hw
  omega
 .rw[z u w O hw];obtain⟨e1,e2⟩:=Qr1 ab u w m (AU _);have e3:=rO L w u m;have e4:=h.cap u w O hw;by_cases ac:0<AM (HJ L u w) m
  .obtain⟨j,hj,g1,g2⟩:=e2 ac
   have:=aa j hj
   rw[g1,g2] at this;omega
  .omega
 .rw[Q u O,h.cons u O h1 h2,h0,hm,Af (FP h1),Af (FP h2)];rfl
 .rw[Q p hp,h.val,h0,hm,Ai rfl,Af (FP ad)];omega
def LJ(l:List (List Int))(u v:Int)(d:Int):List (List Int):=l.set u.toNat ((l[u.toNat]?.getD []).set v.toNat ((l[u.toNat]?.getD [])[v.toNat]?.getD 0+d))
def Ho(l:List (List Int))(a b:Nat):Int:=(l[a]?.getD [])[b]?.getD 0
def ZR(l:List (List Int))(u v d:Int):(LJ l u v d).length=l.length:=by simp[LJ]
def ZO{l:List (List Int)}{n:Nat}(h: ∀r∈l,r.length=n)(u v d:Int)(O:u.toNat<l.length): ∀r∈LJ l u v d,r.length=n:=by
 intro r z;rcases XA z with z|z
 .exact h r z
 .subst z;rw[FO,BA O,AX];exact h _ (RI O)
def eT{l:List (List Int)}{n:Nat}(Z:l.length=n)(h: ∀r∈l,r.length=n){u v:Nat}(d:Int)(hu:u<n)(hv:v<n)(a b:Nat):Ho (LJ l u v d) a b=Ho l a b+if a=u/\b=v then d else 0:=by
 simp only[Ho,LJ,Bq];by_cases z:u=a
 .subst z;rw[DW (by omega),AX];have Q:(l[u]?.getD []).length=n:=by
   rw[BA (by omega),AX];exact h _ (RI (by omega))
  by_cases O:v=b
  .subst O;rw[DW (by omega),AX,Ai ⟨rfl,rfl⟩]
  .rw[Eh O,Af (λh=>O h.2.symm)];omega
 .rw[Eh z,Af (λh=>z h.1.symm)];omega
def Oe(x:Bi)(u v:Int):Bi:=⟨x.Room,LJ (LJ x.Flow u v 1) v u (-1)⟩
def HK(x:Bi)(L:List Int):Nat->Bi
 |0=>x
 |i+1=>Oe (HK x L i) (L[i]?.getD 0) (L[i+1]?.getD 0)
def Ql3(x:Bi)(L:List Int): ∀i,(HK x L i).Room=x.Room
 |0=>rfl
 |i+1=>Ql3 x L i
def Pk(x:Bi)(u v:Int):Qzr x u v=Ho x.Flow u.toNat v.toNat:=rfl
def PM(x:Bi)(u v:Int):Qyw x u v=Ho x.Room u.toNat v.toNat:=rfl
def Ux{x:Bi}{n:Nat}(h:KI x n){u v:Int}(z:u.toNat<n)(O:v.toNat<n):KI (Oe x u v) n:=by
 refine⟨h.r,by simp only[Oe,ZR];exact h.f,h.rr,?_⟩;exact ZO (ZO h.ff u v 1 (by rw[h.f];exact z)) v u (-1) (by rw[ZR,h.f];exact O)
def zR{x:Bi}{n:Nat}(h:KI x n){L:List Int}(z: ∀y∈L,0<=y/\y<n): ∀i,i<L.length->KI (HK x L i) n
 |0,_=>h
 |i+1,O=>by
  have ih:=zR h z i (by omega);refine Ux ih ?_ ?_
  .rw[BA (by omega),AX]
   have:=z _ (RI (show i<L.length by omega))
   omega
  .rw[BA O,AX]
   have:=z _ (RI O)
   omega
def Lf(L:List Int)(i:Nat):Nat:=(L[i]?.getD 0).toNat
def Qso{x:Bi}{n:Nat}(h:KI x n){L:List Int}(O: ∀y∈L,0<=y/\y<n)(a b:Nat): ∀i,i<L.length->Ho (HK x L i).Flow a b=Ho x.Flow a b+(AM (HJ (Lf L) a b) i - AM (HJ (Lf L) b a) i)
 |0,_=>by simp[HK,AM]
 |i+1,hi=>by
  have ih:=Qso h O a b i (by omega);have z:=zR h O i (by omega);obtain⟨u,hu⟩: ∃u,L[i]? =some u:=⟨_,BA (by omega)⟩;obtain⟨v,hv⟩: ∃v,L[i+1]? =some v:=⟨_,BA hi⟩;have aa:=O u (Bg hu);have ab:=O v (Bg hv);obtain⟨u',rfl⟩: ∃u':Nat,u=u':=⟨u.toNat,by omega⟩;obtain⟨v',rfl⟩: ∃v':Nat,v=v':=⟨v.toNat,by omega⟩;simp only[HK,Oe,hu,hv,AX];rw[eT (n:=n) (by rw[ZR];exact z.f) (ZO z.ff _ _ _ (by rw[z.f];simp;omega)) _ (by omega) (by omega),
   eT z.f z.ff _ (by omega) (by omega),ih]
  have e1:Lf L i=u':=by simp[Lf,hu]
  have e2:Lf L (i+1)=v':=by simp[Lf,hv]
  simp only[AM,HJ,e1,e2];by_cases c1:a=u'<;>by_cases Q:b=v'<;>by_cases Z:a=v'<;>by_cases c4:b=u'<;>simp[c1,Q,Z,c4,eq_comm]<;>omega
structure Tm(x:Bi)(n:Nat)(p q:Int)(L:List Int):Prop where
 pos:0<L.length
 inb: ∀y∈L,0<=y/\y<n
 hd:L[0]? =some p
 lst:L[L.length - 1]? =some q
 nd: ∀i j,i<L.length->j<L.length->Lf L i=Lf L j->i=j
 free: ∀i,i+1<L.length->Wb x (L[i]?.getD 0) (L[i+1]?.getD 0)=true
def VK{x:Bi}{n:Nat}{p q:Int}(an:0<=p)(ao:p<n)(a8:0<=q)(a9:q<n)(am:C4 x n p q≠[]):Tm x n p q (C4 x n p q):=by
 have hP:Hc x n p (BC x n p):=R9 an ao n;have ax:=hP.len;obtain⟨y,hy⟩: ∃y,(BC x n p).1[q.toNat]? =some y:=⟨_,BA (by omega)⟩;have av: ¬y<0:=by
  intro h;apply am;simp only[C4,hy,AX];rw[Ai h]
 have aq:q∈(BC x n p).2:=by
  have:=(hP.mem q.toNat y hy).1 (by omega)
  rwa [show (q.toNat:Int)=q by omega] at this
 obtain⟨i,hi⟩:=Wp.1 aq;obtain⟨d,ay,ah,ab⟩:=Qq3 hP hi;have az:=(C6.1 hi).1;have a0:=Qr3 hP;have au:uA (BC x n p).1 p q n=d:=Qqr (by omega) ah ab;have hW:C4 x n p q=(IK (BC x n p).1 q d).reverse:=by
  simp only[C4,hy,AX];rw[Af av,au]
 rw[hW];have Q:(IK (BC x n p).1 q d).length=d+1:=by simp[IK]
 have hget: ∀k,k<=d->(IK (BC x n p).1 q d).reverse[k]? =some (D9 (BC x n p).1 q (d - k)):=by
  intro k O;rw[ZeU (by rw[Q];omega),Q,show d+1 - 1 - k=d - k by omega,IK,D3,Ga (by omega)];rfl
 have ac: ∀k,k<=d-> ∃j,j+k<=i/\(BC x n p).2[j]? =some (D9 (BC x n p).1 q k):=λk O=>sS hP hi k (λj hj=>ab j (by omega))
 have Z: ∀k,k<=d->0<=D9 (BC x n p).1 q k/\D9 (BC x n p).1 q k<n:=by
  intro k O;obtain⟨j,_,h2⟩:=ac k O;exact hP.q _ (Bg h2)
 have af: ∀k,k<=d-> ∀e,e<=k-> ∀j j',(BC x n p).2[j]? =some (D9 (BC x n p).1 q k)->(BC x n p).2[j']? =some (D9 (BC x n p).1 q e)->j+(k - e)<=j':=by
  intro k O e he j j' hj aj;have aw: ∀m,e+m<=d-> ∃j2,j2+m<=j'/\(BC x n p).2[j2]? =some (D9 (BC x n p).1 q (e+m)):=by
   intro m;induction m with
   |zero=>intro _;exact⟨j',by omega,aj⟩
   |succ m ih=>
    intro hm;obtain⟨j2,g1,g2⟩:=ih (by omega);have h0:0<j2:=by
     rcases mV j2 with h0|h0
     .subst h0;rw[hP.hd] at g2;exact absurd (AJ g2).symm (ab _ (by omega))
     .exact h0
    obtain⟨j3,u,q1,q2,q3,q4⟩:=hP.prev j2 _ g2 h0;refine⟨j3,by omega,?_⟩;rw[show e+(m+1)=e+m+1 by omega,D9,q3,AX];exact q2
  obtain⟨j2,g1,g2⟩:=aw (k - e) (by omega);rw[show e+(k - e)=k by omega] at g2
  have:=(List.getElem?_inj (C6.1 hj).1 hP.nd).1 (hj.trans g2.symm)
  omega
 have ad: ∀k e,k<=d->e<k->D9 (BC x n p).1 q k≠D9 (BC x n p).1 q e:=by
  intro k e O he ai;obtain⟨j,_,h2⟩:=ac k O
  have:=af k O e (by omega) j j h2 (ai▸h2)
  omega
 have aa: ∀k,k<=d->(IK (BC x n p).1 q d).reverse[k]?.getD 0=D9 (BC x n p).1 q (d - k):=λk O=>by rw[hget k O,AX]
 refine⟨by rw[mP,Q];omega,λz hz=> ?_,?_,?_,λk e O he hL=> ?_,λk O=> ?_⟩
 .obtain⟨k,O⟩:=Wp.1 hz;have ak:=(C6.1 O).1;rw[mP,Q] at ak;rw[hget k (by omega)] at O;obtain rfl:=AJ O;exact Z _ (by omega)
 .rw[hget 0 (by omega),nA,ah]
 .rw[mP,Q,hget (d+1 - 1) (by omega),show d - (d+1 - 1)=0 by omega];rfl
 .rw[mP,Q] at O he;simp only[Lf] at hL;rw[aa k (by omega),aa e (by omega)] at hL;have b1:=Z (d - k) (by omega);have b2:=Z (d - e) (by omega);have ag:D9 (BC x n p).1 q (d - k)=D9 (BC x n p).1 q (d - e):=by omega
  rcases vM (d - k) (d - e) with h|h|h
  .exact absurd ag.symm (ad _ _ (by omega) h)
  .omega
  .exact absurd ag (ad _ _ (by omega) h)
 .rw[mP,Q] at O;rw[aa k (by omega),aa (k+1) (by omega),show d - k=d - (k+1)+1 by omega];exact (OQ hP hi (λj hj=>ab j (by omega))).1
def Gq(n:Nat)(p q:Int):Nat->Bi->Int
 |0,_=>0
 |m+1,x=>if C4 x n p q=[] then 0 else Gq n p q m (HK x (C4 x n p q) ((C4 x n p q).length - 1))+1
def Ef(x:Bi)(a b:Nat):Int:=Ho x.Room a b
def Kk(x:Bi)(a b:Nat):Int:=Ho x.Flow a b
def Qun{x:Bi}{n:Nat}(h:KI x n){p q:Int}(aa:0<=p)(ab:p<n)(ac:p≠q)(ad:0<=q){v:Int}(hf:R2 (Ef x) (Kk x) n p.toNat q.toNat v){L:List Int}(z:Tm x n p q L):
 KI (HK x L (L.length - 1)) n/\R2 (Ef x) (Kk (HK x L (L.length - 1))) n p.toNat q.toNat (v+1):=by
 have Z:=z.pos;have Q: ∀i,i<L.length->(L[i]?.getD 0).toNat=Lf L i/\Lf L i<n:=by
  intro i O;refine⟨rfl,?_⟩;simp only[Lf];rw[BA O,AX]
  have:=z.inb _ (RI O)
  omega
 refine⟨zR h z.inb _ (by omega),Pl (m:=L.length - 1) (L:=Lf L) hf (λi j O hj=>z.nd i j (by omega) (by omega)) (λi O=>(Q i (by omega)).2) ?_ ?_ (by omega) (by omega) (λi O=> ?_) (λa b _ _=>Qso h z.inb a b _ (by omega))⟩
 .simp only[Lf,z.hd,AX]
 .simp only[Lf,z.lst,AX]
 .exact of_decide_eq_true (z.free i (by omega))
def oA{n:Nat}{p q:Int}(O:0<=p)(Q:p<n)(ad:p≠q)(ab:0<=q)(af:q<n): ∀(m:Nat) (x:Bi) (v:Int),KI x n->R2 (Ef x) (Kk x) n p.toNat q.toNat v->
 (Gq n p q m x=m/\ ∀S:Nat->Bool,S p.toNat=true->S q.toNat=false->v+m<=E9 (Ef x) n S)\/(Gq n p q m x<m/\ ∃S:Nat->Bool,S p.toNat=true/\S q.toNat=false/\E9 (Ef x) n S=v+Gq n p q m x)
 |0,x,v,h,hf=> .inl ⟨rfl,λS h1 h2=>by have:=Qw8 hf (by omega) h1 h2;simpa using this⟩
 |m+1,x,v,h,hf=>by
  by_cases Z:C4 x n p q=[]
  .refine .inr ?_;have e:Gq n p q (m+1) x=0:=by simp only[Gq];rw[Ai Z]
   rw[e];refine⟨by omega,λu=>decide (0<=(BC x n p).1[u]?.getD (-1)),?_,?_,?_⟩
   .have:=(R9 (x:=x) O Q n).pp
    simp only[BC,this,AX,CF];exact O
   .have aa:=(R9 (x:=x) O Q n).len;obtain⟨y,hy⟩: ∃y,(BC x n p).1[q.toNat]? =some y:=⟨_,BA (by simp only[BC];omega)⟩;simp only[hy,AX,Kd];intro h0;simp only[C4,hy,AX] at Z;rw[Af (by omega)] at Z;simp[IK] at Z
   .have:=Qxp (S:=λu=>decide (0<=(BC x n p).1[u]?.getD (-1))) hf (by omega) ?_ ?_ ?_
    .omega
    .have:=(R9 (x:=x) O Q n).pp
     simp only[BC,this,AX,CF];exact O
    .have aa:=(R9 (x:=x) O Q n).len;obtain⟨y,hy⟩: ∃y,(BC x n p).1[q.toNat]? =some y:=⟨_,BA (by simp only[BC];omega)⟩;simp only[hy,AX,Kd];intro h0;simp only[C4,hy,AX] at Z;rw[Af (by omega)] at Z;simp[IK] at Z
    .intro u w hu ah h1 h2;simp only[CF,Kd] at h1 h2;have aa:=(R9 (x:=x) O Q n).len;obtain⟨y,hy⟩: ∃y,(BC x n p).1[u]? =some y:=⟨_,BA (by simp only[BC];omega)⟩;rw[hy,AX] at h1;by_cases ac:Wb x u w=true
     .obtain⟨z,g1,g2⟩:=Qww x O Q hy h1 ah ac;rw[g1,AX] at h2;omega
     .have h3: ¬(Qzr x u w<Qyw x u w):=λh=>ac (Wn h)
      rw[Pk,PM,Bq,Bq] at h3;simp only[Ef,Kk];omega
  .have hW:=VK O Q ab af Z;obtain⟨g1,g2⟩:=Qun h O Q ad ab hf hW;have ag:Ef (HK x (C4 x n p q) ((C4 x n p q).length - 1))=Ef x:=by funext a b;simp only[Ef,Ql3]
   rw[<-ag] at g2;have ih:=oA O Q ad ab af m _ _ g1 g2;rw[ag] at ih;have e:Gq n p q (m+1) x=Gq n p q m (HK x (C4 x n p q) ((C4 x n p q).length - 1))+1:=by simp only[Gq];rw[Af Z]
   rw[e];rcases ih with ⟨h1,h2⟩|⟨h1,S,h2,h3,h4⟩
   .exact .inl ⟨by omega,λS hS hT=>by have:=h2 S hS hT;omega⟩
   .exact .inr ⟨by omega,S,h2,h3,by omega⟩
def Lq(n:Nat):Bi:=⟨List.replicate n (List.replicate n 0),List.replicate n (List.replicate n 0)⟩
def KV(x:Bi)(b:Ag):Bi:=⟨LJ (LJ x.Room b.A b.B b.Strength) b.B b.A b.Strength,x.Flow⟩
def Cf(n:Nat)(bs:List Ag):Nat->Bi
 |0=>Lq n
 |k+1=>match bs[k]? with
  |some b=>KV (Cf n bs k) b
  |none=>Cf n bs k
def DP(n:Nat)(bs:List Ag):Bi:=Cf n bs bs.length
def Xp{n:Nat}{bs:List Ag}(Z:LG n bs): ∀k,KI (Cf n bs k) n/\(Cf n bs k).Flow=List.replicate n (List.replicate n 0)
 |0=>⟨⟨by simp[Cf,Lq],by simp[Cf,Lq],λl Q=>by rw[OF Q];simp,λl Q=>by rw[OF Q];simp⟩,rfl⟩
 |k+1=>by
  obtain⟨ih,z⟩:=Xp Z k;simp only[Cf];split
  .rename_i b O;obtain⟨b1,b2,b3,b4⟩:=Z b (Bg O);refine⟨⟨by simp only[KV,ZR];exact ih.r,ih.f,?_,ih.ff⟩,z⟩;exact ZO (ZO ih.rr _ _ _ (by rw[ih.r];omega)) _ _ _ (by rw[ZR,ih.r];omega)
  .exact⟨ih,z⟩
def CK(S:Nat->Bool):List Ag->Int
 |[]=>0
 |b::r=>(if S b.A.toNat=S b.B.toNat then 0 else b.Strength)+CK S r
def oS(S:Nat->Bool): ∀(a b:List Ag),CK S (a++b)=CK S a+CK S b
 |[],b=>by simp[CK]
 |x::r,b=>by simp only[BO,CK,oS S r b];omega
def Zx(n u v:Nat)(hu:u<n)(hv:v<n)(c:Int)(g:Nat->Nat->Bool):AM (λa=>AM (λb=>if g a b=true then (if a=u/\b=v then c else 0) else 0) n) n=if g u v=true then c else 0:=by
 have Q:AM (λa=>AM (λb=>if g a b=true then (if a=u/\b=v then c else 0) else 0) n) n=AM (λa=>if a=u then (if g u v=true then c else 0) else 0) n:=by
  refine FJ λa _=> ?_
  by_cases z:a=u
  .subst z;rw[Ai rfl];have Z:AM (λb=>if g a b=true then (if a=a/\b=v then c else 0) else 0) n=AM (λb=>if b=v then (if g a v=true then c else 0) else 0) n:=by
    refine FJ λb _=> ?_
    by_cases O:b=v
    .subst O;simp
    .simp[O]
   rw[Z,Xk,Ai hv]
  .rw[Af z];refine (FJ λb _=> ?_).trans (Rt n);simp[z]
 rw[Q,Xk,Ai hu]
def Qnz{l:List (List Int)}{n:Nat}(hl:l.length=n)(h: ∀r∈l,r.length=n){u v:Nat}(d:Int)(O:u<n)(Q:v<n)(S:Nat->Bool):
 E9 (λa b=>Ho (LJ l u v d) a b) n S=E9 (λa b=>Ho l a b) n S+if S u=true/\S v=false then d else 0:=by
 have z:AM (λa=>AM (λb=>if (S a && !S b)=true then (if a=u/\b=v then d else 0) else 0) n) n=if (S u && !S v)=true then d else 0:=Zx n u v O Q d (λa b=>S a && !S b)
 have Z:(if (S u && !S v)=true then d else 0)=if S u=true/\S v=false then d else 0:=by
  cases S u<;>cases S v<;>simp
 rw[Z] at z;rw[<-z,E9,E9,<-Rv];refine FJ λa _=> ?_
 rw[<-Rv];refine FJ λb _=> ?_
 rw[eT hl h d O Q a b];cases S a<;>cases S b<;>simp
def Mj{n:Nat}{bs:List Ag}(O:LG n bs)(S:Nat->Bool): ∀k,k<=bs.length->E9 (Ef (Cf n bs k)) n S=CK S (bs.take k)
 |0,_=>by
  simp only[E5,CK,E9];refine (FJ λu hu=> ?_).trans (Rt n);refine (FJ λw hw=> ?_).trans (Rt n)
  have:Ef (Cf n bs 0) u w=0:=by
   simp only[Ef,Cf,Lq,Ho];rw[LP,Ai hu,AX,LP,Ai hw,AX]
  rw[this];split<;>rfl
 |k+1,Z=>by
  obtain⟨b,hbk⟩: ∃b,bs[k]? =some b:=⟨_,BA Z⟩;have ih:=Mj O S k (by omega);obtain⟨z,_⟩:=Xp O k;obtain⟨b1,b2,b3,b4⟩:=O b (Bg hbk);have e:bs.take (k+1)=bs.take k++[b]:=by rw[Jq,hbk];rfl
  rw[e,oS,<-ih];have Q:Ef (Cf n bs (k+1))=λx y=>Ho (LJ (LJ (Cf n bs k).Room (b.A.toNat:Int) (b.B.toNat:Int) b.Strength) (b.B.toNat:Int) (b.A.toNat:Int) b.Strength) x y:=by
   funext x y;simp only[Ef,Cf,hbk,KV];rw[show ((b.A.toNat:Nat):Int)=b.A by omega,show ((b.B.toNat:Nat):Int)=b.B by omega]
  rw[Q,Qnz (by rw[ZR];exact z.r) (ZO z.rr _ _ _ (by rw[z.r];simp;omega)) _ (by omega) (by omega),Qnz z.r z.rr _ (by omega) (by omega)];simp only[CK]
  have:E9 (λa b=>Ho (Cf n bs k).Room a b) n S=E9 (Ef (Cf n bs k)) n S:=rfl
  rw[this];cases S b.A.toNat<;>cases S b.B.toNat<;>simp<;>omega
def Ss{n:Nat}{bs:List Ag}(z:LG n bs)(S:Nat->Bool):E9 (Ef (DP n bs)) n S=CK S bs:=by
 rw[DP,Mj z S _ (AU _),IM]
def Qpz{n:Nat}{bs:List Ag}(O:LG n bs)(hs:QA bs)(a b:Nat): ∀k,0<=Ef (Cf n bs k) a b
 |0=>by
  simp only[Ef,Cf,Lq,Ho,LP];split
  .rw[AX,LP];split<;>simp
  .simp
 |k+1=>by
  have ih:=Qpz O hs a b k;obtain⟨z,_⟩:=Xp O k;simp only[Ef,Cf] at ih⊢;split
  .rename_i x Q;obtain⟨b1,b2,b3,b4⟩:=O x (Bg Q);have h0:=(hs x (Bg Q)).1;simp only[KV];rw[show x.A=(x.A.toNat:Int) by omega,show x.B=(x.B.toNat:Int) by omega];rw[eT (n:=n) (by rw[ZR];exact z.r) (ZO z.rr _ _ _ (by rw[z.r];simp;omega)) _ (by omega) (by omega),eT z.r z.rr _ (by omega) (by omega)]
   split<;>split<;>omega
  .exact ih
def oG{n:Nat}{bs:List Ag}(O:LG n bs)(hs:QA bs)(p q:Nat):R2 (Ef (DP n bs)) (Kk (DP n bs)) n p q 0:=by
 have z: ∀a b,Kk (DP n bs) a b=0:=by
  intro a b;simp only[Kk,DP,(Xp O bs.length).2,Ho,LP];split
  .rw[AX,LP];split<;>simp
  .simp
 refine⟨λu w _ _=>by rw[z,z];rfl,λu w _ _=> ?_,λu _ _ _=>(FJ λi _=>z u i).trans (Rt n),(FJ λi _=>z p i).trans (Rt n)⟩;rw[z];exact Qpz O hs u w bs.length
def Xs(n:Nat)(bs:List Ag)(t:Int)(k:Nat):Prop:= ∀S:Nat->Bool,S 0=true->(∃y,0<y/\y<=k/\y<n/\S y=false)->t<=CK S bs
def R6(n:Nat)(bs:List Ag)(t:Int):Nat->Bool
 |0=>true
 |k+1=>R6 n bs t k && decide (t<=Gq n 0 ((k:Int)+1) t.toNat (DP n bs))
def Qtt{n:Nat}{bs:List Ag}(Q:LG n bs)(hs:QA bs){t:Int}(ht:0<=t): ∀k,k<n->(R6 n bs t k=true↔Xs n bs t k)
 |0,_=>by
  simp only[R6,true_iff];rintro S _ ⟨y,h1,z,_⟩;omega
 |k+1,hk=>by
  have ih:=Qtt Q hs ht k (by omega);have hl:=oA (n:=n) (p:=0) (q:=(k:Int)+1) (by omega) (by omega) (by omega) (by omega) (by omega) t.toNat (DP n bs) 0 (Xp Q bs.length).1 (oG Q hs _ _);simp only[Int.toNat_zero,show ((k:Int)+1).toNat=k+1 by omega,Int.zero_add,Ss Q] at hl;simp only[R6,AY,CF,ih];rcases hl with ⟨h1,z⟩|⟨h1,S,z,h3,h4⟩
  .constructor
   .rintro⟨g1,g2⟩ S O ⟨y,y1,y2,y3,Z⟩;by_cases hy:y<=k
    .exact g1 S O ⟨y,y1,hy,y3,Z⟩
    .have:=z S O (by rw[show k+1=y by omega];exact Z)
     omega
   .intro h;exact⟨λS O ⟨y,y1,y2,y3,Z⟩=>h S O ⟨y,y1,by omega,y3,Z⟩,by omega⟩
  .constructor
   .rintro⟨_,g2⟩;omega
   .intro h
    have:=h S z ⟨k+1,by omega,by omega,hk,h3⟩
    omega
def Qt7{n:Bh}(hn:D2 n)(hc:Jl n){q:Int}{st qu:List Int}(O:st.length=n.Cnt.toNat)(hP:Gf n q (st,qu)){p:Int}(Q:0<=p)(Z:p<n.Cnt){d:Nat}(hd:st[p.toNat]? =some (d:Int))(w:Int):
 ∀k,k<=d->Dr (Cd n st p k).1 w=Dr n w+(if p=w then 1 else 0) - (if (Cd n st p k).2=w then 1 else 0)
 |0,_=>by simp only[Cd];omega
 |k+1,hk=>by
  have ih:=Qt7 hn hc O hP Q Z hd w k (by omega);have hI:=lS hn hc O hP Q Z hd k (by omega);obtain⟨m,r,hm,hr,hg,aa,af⟩:=zE hn O hP (by omega) hI;have ad:(Cd n st p k).1.At[m]? =some r:=by rw[hI.at_];exact hr
  have e:(Cd n st p (k+1)).1=II (Cd n st p k).1 m (Hp (Cd n st p k).1 st m).2:=by simp only[Cd,hm]
  have e2:(Cd n st p (k+1)).2=(Hp (Cd n st p k).1 st m).1:=by simp only[Cd,hm]
  rw[e,e2,Qzc hI.ok ad hg.1,hg.2.2.1,ih,hm];have ab:=hg.2.2.2.1;rw[Bq,aa,AX] at ab;have ac:(m:Int)≠(Hp (Cd n st p k).1 st m).1:=by
   intro he;rw[<-he,Bq,aa,AX] at ab;omega
  obtain⟨z,hz⟩: ∃z,z=(Hp (Cd n st p k).1 st m).1:=⟨_,rfl⟩;rw[<-hz] at ac⊢;by_cases c1:p=w<;>by_cases c2:(m:Int)=w<;>by_cases c3:z=w<;>simp only[c1,c2,c3,BD,CO]<;>omega
def Oj(n:Bh)(p q:Int):Prop:= ∀w,w≠p->w≠q->Dr n w=0
def Ps{n:Bh}(hn:D2 n)(hc:Jl n){p q:Int}(O:0<=p)(Q:p<n.Cnt)(Z:0<=q)(aa:q<n.Cnt)(hg:(F5 n p q).2=true)(ab:Oj n p q):Oj (F5 n p q).1 p q:=by
 have z:=rX hn Z aa;have hP:Gf n q (F4 n q,(CA n q n.Cnt.toNat).2):=Oo hn Z aa n.Cnt.toNat;obtain⟨x,hx⟩: ∃x,(F4 n q)[p.toNat]? =some x:=⟨_,BA (by omega)⟩;intro w h1 h2;simp only[F5,hx,AX] at hg⊢;by_cases h:x<0
 .rw[Ai h] at hg;simp at hg
 .obtain⟨d,rfl⟩: ∃d:Nat,x=d:=⟨x.toNat,by omega⟩;rw[Af h,Bq];have hI:=lS hn hc z hP O Q hx d (AU _);obtain⟨m,hm,ad,ac⟩:=hI.v;have af:m=q.toNat:=hP.uniq m (by rw[ac];congr 1;omega);have ho:=Qt7 hn hc z hP O Q hx w d (AU _);rw[Af (FP h1),hm,Af (by omega),ab w h1 h2] at ho;simpa using ho
def Que{p q:Int}(z:0<=p)(O:0<=q)(aa:p≠q): ∀(m:Nat) (n:Bh),D2 n->Jl n->p<n.Cnt->q<n.Cnt->Oj n p q->D2 (Hg p q m n).1/\Jl (Hg p q m n).1/\(Hg p q m n).1.Cnt=n.Cnt/\(Hg p q m n).1.Bonds=n.Bonds/\
 (Hg p q m n).1.At=n.At/\Oj (Hg p q m n).1 p q/\Dr (Hg p q m n).1 p=Dr n p+(Hg p q m n).2/\0<=(Hg p q m n).2/\((Hg p q m n).2=m\/(F5 (Hg p q m n).1 p q).2=false)
 |0,n,Q,Z,_,_,h5=>⟨Q,Z,rfl,rfl,rfl,h5,by simp[Hg],by simp[Hg],.inl (by simp[Hg])⟩
 |m+1,n,Q,Z,h3,h4,h5=>by
  simp only[Hg];by_cases hg:(F5 n p q).2=true
  .rw[Ai hg];obtain⟨g1,g2,g3,g4,g5,g6⟩:=Mz Q Z z h3 O h4 aa hg;have g7:=Ps Q Z z h3 O h4 hg h5;obtain⟨k1,k2,k3,k4,k5,k6,k7,k8,k9⟩:=Que z O aa m _ g1 g2 (by omega) (by omega) g7;refine⟨k1,k2,k3.trans g3,k4.trans g4,k5.trans g5,k6,by simp only;omega,by simp only;omega,?_⟩;rcases k9 with h|h
   .exact .inl (by simp only;omega)
   .exact .inr h
  .rw[Af hg];exact⟨Q,Z,rfl,rfl,rfl,h5,by simp,by simp,.inr (by simpa using hg)⟩
def Qu0{n:Int}{bs:List Ag}(h:aB (n,bs))(hs:QA bs){p q:Int}(z:0<=p)(Z:0<=q)(O:p<n)(aa:q<n)(Q:p≠q):D2 (Ep n bs p q).1/\Jl (Ep n bs p q).1/\(Ep n bs p q).1.Cnt=n/\(Ep n bs p q).1.Bonds=bs/\
 (Ep n bs p q).1.At=(Dd n bs).At/\Oj (Ep n bs p q).1 p q/\Dr (Ep n bs p q).1 p=(Ep n bs p q).2/\0<=(Ep n bs p q).2/\(F5 (Ep n bs p q).1 p q).2=false:=by
 obtain⟨h1,h2⟩:=MQ h hs;obtain⟨k1,k2,k3,k4,k5,k6,k7,k8,k9⟩:=Que z Z Q ((bs.map Ag.Strength).sum.toNat+1) (Dd n bs) h1 h2 O aa (λw _ _=>Qtg w);rw[Qtg,Int.zero_add] at k7;refine⟨k1,k2,k3,k4,k5,k6,k7,k8,?_⟩;rcases k9 with h9|h9
 .exfalso;have h4:(Hg p q ((bs.map Ag.Strength).sum.toNat+1) (Dd n bs)).1.Bonds=bs:=k4
  have:=Um k1 k2 p
  rw[h4] at this;omega
 .exact h9
def oT{n:Bh}(hn:D2 n){v:Nat}{r:List Int}(hr:n.At[v]? =some r){y:Int}(Z:0<=y): ∀(l:List Int) (s:List Int×List Int),(∀i∈l,i∈r)->Xt n s->s.1[v]? =some y-> ∀i∈l,0<(Dv n (D8 n v i) i).1-> ∃z,(l.foldl (BH n v) s).1[(D8 n v i).toNat]? =some z/\0<=z
 |[],s,_,_,_,i,O,_=>by cases O
 |j::l,s,hl,hs,hv,i,O,Q=>by
  have hj:=hl j (BU ..);rcases Br.1 O with rfl|O
  .obtain⟨_,_,o1,o2⟩:=fK hn hr hj;obtain⟨z,hz⟩: ∃z,s.1[(D8 n v i).toNat]? =some z:=⟨_,BA (by rw[hs.len];omega)⟩;have aa: ∃z,(BH n v s i).1[(D8 n v i).toNat]? =some z/\0<=z:=by
    by_cases h0:0<=z
    .exact⟨z,rZ n v s i _ z hz h0,h0⟩
    .refine⟨y+1,?_,by omega⟩;simp only[BH];rw[Ai ⟨by rw[hz,AX];omega,Q⟩,Bq,hv,AX];exact DW (by rw[hs.len];omega)
   obtain⟨z',g1,g2⟩:=aa;exact⟨z',Qor n v _ z' g2 l _ g1,g2⟩
  .exact oT hn hr Z l _ (λj hj=>hl j (BQ _ hj)) (Qtm hn hr hj hs) (rZ n v s j v y hv Z) i O Q
def Qzj(n:Bh)(v:Int): ∀(l:List Int) (s:List Int×List Int),∃e,(l.foldl (BH n v) s).2=s.2++e
 |[],s=>⟨[],by simp⟩
 |i::l,s=>by
  obtain⟨e,z⟩:=Qzj n v l (BH n v s i);simp only[bD,z];simp only[BH];split
  .exact⟨[D8 n v i]++e,by simp⟩
  .exact⟨e,rfl⟩
def XH(n:Bh)(q:Int)(k:Nat): ∃e,(CA n q (k+1)).2=(CA n q k).2++e:=by
 rw[CA];split
 .exact⟨[],by simp⟩
 .exact Qzj n _ _ _
def OT(n:Bh)(q:Int)(u:Nat)(y:Int)(h0:0<=y)(k:Nat)(h:(CA n q k).1[u]? =some y):(CA n q (k+1)).1[u]? =some y:=by
 rw[CA];split
 .exact h
 .exact Qor n _ u y h0 _ _ h
def Qzn{n:Bh}(hn:D2 n){q:Int}(h0:0<=q)(h1:q<n.Cnt): ∀(k j:Nat) (v:Int),j<k->(CA n q k).2[j]? =some v-> ∀(r:List Int),n.At[v.toNat]? =some r-> ∀i∈r,0<(Dv n (D8 n v i) i).1-> ∃z,(CA n q k).1[(D8 n v i).toNat]? =some z/\0<=z
 |0,j,v,hj,_,_,_,_,_,_=>by omega
 |k+1,j,v,hj,O,r,Z,i,hi,Q=>by
  obtain⟨e,he⟩:=XH n q k;by_cases ac:j<(CA n q k).2.length
  .rw[he,Io ac] at O;by_cases ab:j<k
   .obtain⟨z,g1,g2⟩:=Qzn hn h0 h1 k j v ab O r Z i hi Q;exact⟨z,OT n q _ z g2 k g1,g2⟩
   .have:j=k:=by omega
    subst this;have hI:=Xn hn h0 h1 j;have aa:=Oo hn h0 h1 j;have af:=hI.q v (Bg O);obtain⟨m,rfl⟩: ∃m:Nat,v=m:=⟨v.toNat,by omega⟩;obtain⟨y,hy,ad⟩:=aa.qs _ (Bg O);rw[Bq] at hy Z;rw[CA,O];simp only[Bq,Z,AX];exact oT hn Z ad r _ (λ_ h=>h) hI hy i hi Q
  .have e1:CA n q (k+1)=CA n q k:=by rw[CA,Ir (by omega)]
   rw[e1] at O
   have:=(C6.1 O).1
   omega
def RZ{n:Bh}(hn:D2 n){q:Int}(h0:0<=q)(h1:q<n.Cnt): ∀(k u:Nat) (y:Int),(CA n q k).1[u]? =some y->0<=y->(u:Int)∈(CA n q k).2
 |0,u,y,z,O=>by
  have hq:q.toNat<n.Cnt.toNat:=by omega
  simp only[CA] at z⊢;by_cases h:q.toNat=u
  .rw[BS];omega
  .rw[Eh h] at z
   have:=OF (Bg z)
   omega
 |k+1,u,y,z,O=>by
  have ih:=RZ hn h0 h1 k;have hI:=Xn hn h0 h1 k;have Q: ∀(v:Int) (l:List Int) (s:List Int×List Int),(∀i∈l,0<=D8 n v i)->(∀(u:Nat) (y:Int),s.1[u]? =some y->0<=y->(u:Int)∈s.2)-> ∀(u:Nat) (y:Int),(l.foldl (BH n v) s).1[u]? =some y->0<=y->(u:Int)∈(l.foldl (BH n v) s).2:=by
   intro v l;induction l with
   |nil=>intro s _ Z;exact Z
   |cons i l aa=>
    intro s hl Z;refine aa _ (λj hj=>hl j (BQ _ hj)) ?_;intro u y z O;have ho:=hl i (BU ..);simp only[BH] at z⊢;split at z
    .rename_i hc;rw[Ai hc];simp only[B7,BS] at z⊢;by_cases he:(D8 n v i).toNat=u
     .right;omega
     .rw[Eh he] at z;exact .inl (Z u y z O)
    .rename_i hc;rw[Af hc];exact Z u y z O
  rw[CA] at z⊢;split at z
  .exact ih u y z O
  .rename_i v hv;have ab:=hI.q v (Bg hv);obtain⟨m,rfl⟩: ∃m:Nat,v=m:=⟨v.toNat,by omega⟩;obtain⟨r,hr⟩: ∃r,n.At[m]? =some r:=⟨_,BA (by have:=hn.al;omega)⟩;simp only[Bq,hr,AX] at z⊢;exact Q m r _ (λi hi=>(fK hn hr hi).2.2.1) ih u y z O
def Qmo{n:Bh}(hn:D2 n){q:Int}(h0:0<=q)(O:q<n.Cnt){v:Nat}{y:Int}(hv:(F4 n q)[v]? =some y)(hy:0<=y){r:List Int}(hr:n.At[v]? =some r){i:Int}(hi:i∈r)(Q:0<(Dv n (D8 n v i) i).1):
 ∃z,(F4 n q)[(D8 n v i).toNat]? =some z/\0<=z:=by
 have hm:=RZ hn h0 O n.Cnt.toNat v y hv hy;obtain⟨j,Z⟩:=Wp.1 hm;have aa:=(C6.1 Z).1;have ab:=zK hn.c0 (Xn hn h0 O n.Cnt.toNat);exact Qzn hn h0 O n.Cnt.toNat j v (by omega) Z r (by rwa [Bq]) i hi Q
def YI(n:Bh)(S:Nat->Bool):Int:=(List.zipWith (λb f=>(if S b.A.toNat=true then f else 0) - (if S b.B.toNat=true then f else 0)) n.Bonds n.Flow).sum
def oX(S:Nat->Bool)(m:Nat): ∀(bs:List Ag) (z:List Int),(∀b∈bs,0<=b.A/\b.A<m/\0<=b.B/\b.B<m/\b.A≠b.B)->
 AM (λv=>if S v=true then (List.zipWith (Ki (v:Int)) bs z).sum else 0) m=(List.zipWith (λb f=>(if S b.A.toNat=true then f else 0) - (if S b.B.toNat=true then f else 0)) bs z).sum
 |[],z,_=>by
  simp only[List.zipWith_nil_left,ZeY];refine (FJ λi _=> ?_).trans (Rt m)
  split<;>rfl
 |b::bs,[],_=>by
  simp only[ZdR,ZeY];refine (FJ λi _=> ?_).trans (Rt m)
  split<;>rfl
 |b::bs,f::z,h=>by
  have ih:=oX S m bs z (λx Q=>h x (BQ _ Q));obtain⟨b1,b2,b3,b4,b5⟩:=h b (BU ..);simp only[gU,KU];rw[<-ih];have e:AM (λv=>if S v=true then Ki (v:Int) b f+(List.zipWith (Ki (v:Int)) bs z).sum else 0) m=
   (AM (λv=>if v=b.A.toNat then (if S b.A.toNat=true then f else 0) else 0) m+ - AM (λv=>if v=b.B.toNat then (if S b.B.toNat=true then f else 0) else 0) m)+AM (λv=>if S v=true then (List.zipWith (Ki (v:Int)) bs z).sum else 0) m:=by
   rw[<-sO,<-Rv,<-Rv];refine FJ λv _=> ?_
   simp only[Ki];by_cases c1:v=b.A.toNat
   .have O: ¬v=b.B.toNat:=by omega
    rw[Ai (show b.A=(v:Int) by omega),Ai c1,Af O,<-c1];cases S v<;>simp
   .rw[Af (show ¬b.A=(v:Int) by omega),Af c1];by_cases O:v=b.B.toNat
    .rw[Ai (show b.B=(v:Int) by omega),Ai O,<-O];cases S v<;>simp
    .rw[Af (show ¬b.B=(v:Int) by omega),Af O];cases S v<;>simp
  rw[e,Xk,Xk,Ai (show b.A.toNat<m by omega),Ai (show b.B.toNat<m by omega)];omega
def Na{n:Bh}(hn:D2 n){p q:Int}(aa:0<=p)(ab:p<n.Cnt)(O:Oj n p q){S:Nat->Bool}(hS:S p.toNat=true)(hT:S q.toNat=false)(ac:0<=q):YI n S=Dr n p:=by
 have Z:=oX S n.Cnt.toNat n.Bonds n.Flow (λb Q=>by
  have:=hn.bs b Q
  have:=hn.ne b Q
  omega)
 rw[YI,<-Z];have h2:AM (λv=>if S v=true then (List.zipWith (Ki (v:Int)) n.Bonds n.Flow).sum else 0) n.Cnt.toNat=AM (λv=>if v=p.toNat then Dr n p else 0) n.Cnt.toNat:=by
  refine FJ λv hv=> ?_
  by_cases z:v=p.toNat
  .subst z;rw[Ai rfl,Ai hS,show ((p.toNat:Nat):Int)=p by omega];rfl
  .rw[Af z];cases hSv:S v with
   |false=>rw[Af (by simp)]
   |true=>
    rw[Ai rfl];have ad:v≠q.toNat:=λhe=>by rw[he,hT] at hSv;cases hSv
    exact O v (by omega) (by omega)
 rw[h2,Xk,Ai (by omega)]
def Qw5(S:Nat->Bool): ∀(bs:List Ag) (Q:List Int),(∀(i:Nat) b f,bs[i]? =some b->Q[i]? =some f-> -b.Strength<=f/\f<=b.Strength)->(∀b∈bs,0<=b.Strength)->(List.zipWith (λb f=>(if S b.A.toNat=true then f else 0) - (if S b.B.toNat=true then f else 0)) bs Q).sum<=CK S bs
 |[],_,_,_=>by simp[CK]
 |x::r,[],_,z=>by
  have Z:=Qw5 S r [] (λi b f _ h=>by simp at h) (λb O=>z b (BQ _ O));have h2:=z x (BU ..);simp only[ZdR,ZeY,CK] at Z⊢
  split<;>omega
 |x::r,y::s,hc,z=>by
  have Z:=Qw5 S r s (λi b f h h'=>hc (i+1) b f (by simpa using h) (by simpa using h')) (λb O=>z b (BQ _ O));have h3:=hc 0 x y rfl rfl;simp only[gU,KU,CK];cases S x.A.toNat<;>cases S x.B.toNat<;>simp<;>omega
def MZ(S:Nat->Bool): ∀(bs:List Ag) (z:List Int),z.length=bs.length->(∀(i:Nat) b f,bs[i]? =some b->z[i]? =some f->(S b.A.toNat=true->S b.B.toNat=false->f=b.Strength)/\(S b.A.toNat=false->S b.B.toNat=true->f= -b.Strength))->(List.zipWith (λb f=>(if S b.A.toNat=true then f else 0) - (if S b.B.toNat=true then f else 0)) bs z).sum=CK S bs
 |[],_,_,_=>by simp[CK]
 |x::r,[],h,_=>by simp at h
 |x::r,y::s,h,O=>by
  have Q:=MZ S r s (by simpa using h) (λi b f h h'=>O (i+1) b f (by simpa using h) (by simpa using h'));obtain⟨Z,h3⟩:=O 0 x y rfl rfl;simp only[gU,KU,CK,Q];cases hA:S x.A.toNat<;>cases hB:S x.B.toNat<;>simp
  .have:=h3 hA hB;omega
  .exact Z hA hB
def SL{n:Int}{bs:List Ag}(h:aB (n,bs))(hs:QA bs){p q:Int}(aa:0<=p)(O:0<=q)(af:p<n)(ah:q<n)(ag:p≠q):
 0<=(Ep n bs p q).2/\(∀S:Nat->Bool,S p.toNat=true->S q.toNat=false->(Ep n bs p q).2<=CK S bs)/\ ∃S:Nat->Bool,S p.toNat=true/\S q.toNat=false/\CK S bs=(Ep n bs p q).2:=by
 obtain⟨k1,k2,k3,k4,k5,k6,k7,k8,k9⟩:=Qu0 h hs aa O af ah ag;obtain⟨N,hN⟩: ∃N,N=(Ep n bs p q).1:=⟨_,rfl⟩;obtain⟨val,hval⟩: ∃val,val=(Ep n bs p q).2:=⟨_,rfl⟩;simp only[<-hN,<-hval] at k1 k2 k3 k4 k5 k6 k7 k8 k9⊢;refine⟨k8,λS hS hT=> ?_,?_⟩
 .have h1:=Na k1 aa (by omega) k6 hS hT O;have h2:=Qw5 S N.Bonds N.Flow k2 (λb Q=>(k1.st b Q).1);rw[k4] at h2;simp only[YI,k4] at h1;omega
 .have aj:=rX k1 O (by omega);obtain⟨x,hx⟩: ∃x,(F4 N q)[p.toNat]? =some x:=⟨_,BA (by omega)⟩;have ac:x<0:=by
   simp only[F5,hx,AX] at k9;by_cases h0:x<0
   .exact h0
   .rw[Af h0] at k9;simp at k9
  have Z:=(Oo k1 O (show q<N.Cnt by omega) N.Cnt.toNat).zero;have Z:(F4 N q)[q.toNat]? =some 0:=Z;refine⟨λv=>decide ((F4 N q)[v]?.getD 0<0),by simp only[hx,AX,CF];exact ac,by simp[Z],?_⟩;have hS:decide ((F4 N q)[p.toNat]?.getD 0<0)=true:=by simp only[hx,AX,CF];exact ac
  have hT:decide ((F4 N q)[q.toNat]?.getD 0<0)=false:=by simp[Z]
  have h1:=Na (S:=λv=>decide ((F4 N q)[v]?.getD 0<0)) k1 aa (by omega) k6 hS hT O;have h2:=MZ (λv=>decide ((F4 N q)[v]?.getD 0<0)) N.Bonds N.Flow k1.fl ?_
  .simp only[YI,k4] at h1;rw[k4] at h2;omega
  .intro i b f Q hf;have ak:=k1.bs b (Bg Q);have ad:=k1.ne b (Bg Q);obtain⟨⟨rA,a1,a2⟩,⟨rB,c1,c2⟩⟩:=k1.all i b Q;have ai:=k2 i b f Q hf;obtain⟨yA,hA⟩: ∃y,(F4 N q)[b.A.toNat]? =some y:=⟨_,BA (by omega)⟩;obtain⟨yB,hB⟩: ∃y,(F4 N q)[b.B.toNat]? =some y:=⟨_,BA (by omega)⟩;simp only[hA,hB,AX,CF,Kd];refine⟨λe1 e2=> ?_,λe1 e2=> ?_⟩
   ·
    have ho:D8 N b.B i=b.A:=by simp only[D8,Bq,Q];omega
    have hr:(Dv N b.A i).1=b.Strength - f:=by simp only[Dv,Bq,Q,hf,AX,BD]
    by_cases ab:0<b.Strength - f
    .have:=Qmo k1 O (by omega) (v:=b.B.toNat) hB (by omega) c1 c2 (by rw[show ((b.B.toNat:Nat):Int)=b.B by omega,ho,hr];exact ab)
     rw[show ((b.B.toNat:Nat):Int)=b.B by omega,ho,hA] at this;obtain⟨z,g1,g2⟩:=this
     have:=AJ g1
     omega
    .omega
   .have ho:D8 N b.A i=b.B:=by simp only[D8,Bq,Q];omega
    have hr:(Dv N b.B i).1=b.Strength+f:=by simp only[Dv,Bq,Q,hf,AX];rw[Af ad]
    by_cases ab:0<b.Strength+f
    .have:=Qmo k1 O (by omega) (v:=b.A.toNat) hA (by omega) a1 a2 (by rw[show ((b.A.toNat:Nat):Int)=b.A by omega,ho,hr];exact ab)
     rw[show ((b.A.toNat:Nat):Int)=b.A by omega,ho,hB] at this;obtain⟨z,g1,g2⟩:=this
     have:=AJ g1
     omega
    .omega
def FY(n:Int)(bs:List Ag):Nat->Int×List Int
 |0=>(-1,[])
 |k+1=>if (FY n bs k).1<0\/GM (Ep n bs 0 (k+1)).2 (gC (Ep n bs 0 (k+1)).1 (k+1)) (FY n bs k).1 (FY n bs k).2=true then ((Ep n bs 0 (k+1)).2,gC (Ep n bs 0 (k+1)).1 (k+1)) else FY n bs k
def weakC.fv(a:Int×(List Ag)):Int×(List Int):=(λn bs=>FY n bs (n - 1).toNat) (a.1) (a.2)
def weakC.row:AF:=vK (b2 qI (qS Ag.d_le Ag.c_n)) (r2 rI (rS F3 DU)) (λa=>aB (a.1,a.2)/\QA a.2/\1<=a.1) weakC.fv
def weakC.q:=Bd (R:=weakC.row) rfl
def aZ:=J @weakC.fv.eq_1<|J @l07Before.q<|J @l07Before.fv.eq_1<|J @sideC.q @sideC.fv.eq_1
def weakC.ok:AL 105 weakC.row:=by
 refine vw (tC l07Before.ok (tC flC.ok (tC sideC.ok tN))) Tryz.func105 ?_;intro a Z;simp only[Tryz.f105,Option.getD];simp only[ZZ,simprocAttr,Ab,aZ];obtain⟨Q,aa,ad⟩:=Z;have ab:=Q.2.1;simp only at ab;obtain⟨n,hn⟩: ∃n:Nat,a.1=n+1:=⟨(a.1 - 1).toNat,by omega⟩;rw[show (a.1 - 1).toNat=n by omega];refine Ba.frr ⟨{k:Nat//k<=n},λk=>⟨[(8,.im (.int .i64 ((k.1:Int)+1))),(7,.im (.sl false 1 ((FY a.1 a.2 k.1).2.map Ak))),(6,.im (.int .i64 (FY a.1 a.2 k.1).1)),(0,.im (.int .i64 a.1)),(1,.im (.sl false 3 (a.2.map Ag.c)))],[],2⟩,λk=>n - k.1,λk=>⟨by simp[ZG],by simp⟩,⟨⟨0,by simp⟩,[1],[],?_⟩,λk=> ?_⟩
 .simp only[Av];simp only[ZZ,simprocAttr,Ab,aZ,AS,AR,FY,BF]
  try simp
 obtain⟨k,ac⟩:=k;simp only[ZZ,simprocAttr,Ab,aZ,sub,AP];refine⟨λhk=> ?_,λhk=> ?_⟩
 .refine AD.os (a.1,a.2,0,(k:Int)+1) [] ⟨Q,aa,by simp,by simp only;omega,by simp only;omega,by simp only;omega,by simp only;omega⟩ (λj=>by simp[Aj,hget]) rfl rfl ?_ ?_
  .simp only[ZZ,simprocAttr,Ab,aZ,flC.ca,BD]
  .simp only[ZZ,simprocAttr,Ab,aZ,flC.H1,flC.r0,sub,AP];obtain⟨k1,k2,k3,k4,k5,_⟩:=Qu0 (p:=0) (q:=(k:Int)+1) Q aa (by omega) (by omega) (by omega) (by omega) (by omega);have O:({Cnt:=a.1,Bonds:=a.2,At:=(Dd a.1 a.2).At,Flow:=(flC.net (a.1,a.2,0,(k:Int)+1)).Flow}:Bh)=(Ep a.1 a.2 0 ((k:Int)+1)).1:=by
    rw[<-k5];simp only[flC.net]
    conv=>rhs;rw[show (Ep a.1 a.2 0 ((k:Int)+1)).1=⟨(Ep a.1 a.2 0 ((k:Int)+1)).1.Cnt,(Ep a.1 a.2 0 ((k:Int)+1)).1.Bonds,(Ep a.1 a.2 0 ((k:Int)+1)).1.At,(Ep a.1 a.2 0 ((k:Int)+1)).1.Flow⟩ from rfl]
    rw[k3,k4]
   rw[O];have hw:IntKind.i64.wrap ((k:Int)+1+1)=(k:Int)+1+1:=AG (by omega) (by omega);have z:FY a.1 a.2 (k+1)=if (FY a.1 a.2 k).1<0\/GM (Ep a.1 a.2 0 ((k:Int)+1)).2 (gC (Ep a.1 a.2 0 ((k:Int)+1)).1 ((k:Int)+1)) (FY a.1 a.2 k).1 (FY a.1 a.2 k).2=true then ((Ep a.1 a.2 0 ((k:Int)+1)).2,gC (Ep a.1 a.2 0 ((k:Int)+1)).1 ((k:Int)+1)) else FY a.1 a.2 k:=rfl
   refine⟨⟨k1,by omega,by omega⟩,λh0=>⟨λh1=>⟨⟨k+1,by omega⟩,[],[],by simp only;omega,?_⟩,λh1=>⟨⟨k+1,by omega⟩,[],[],by simp only;omega,?_⟩⟩,λh0=>⟨⟨k+1,by omega⟩,[],[],by simp only;omega,?_⟩⟩
   .rw[Ai (.inr h1)] at z;simp only[Av];simp only[ZZ,simprocAttr,Ab,aZ,AS,AR,z,hw];omega
   .rw[Af (λh=>h.elim h0 h1)] at z;simp only[Av];simp only[ZZ,simprocAttr,Ab,aZ,AS,AR,z,hw];omega
   .rw[Ai (.inl (GK.1 h0))] at z;simp only[Av];simp only[ZZ,simprocAttr,Ab,aZ,AS,AR,z,hw];omega
 .have:k=n:=by omega
  rw[this]
def Qzk{n:Int}{bs:List Ag}(h:aB (n,bs))(hs:QA bs){t:Int}(ht:0<=t): ∀k:Nat,(k:Int)<n->(0<k->0<=(FY n bs k).1/\(t<=(FY n bs k).1↔Xs n.toNat bs t k))
 |0,_=>λh0=>by omega
 |k+1,hk=>λ_=>by
  obtain⟨f1,f2,S,f3,f4,f5⟩:=SL h hs (p:=0) (q:=(k:Int)+1) (by omega) (by omega) (by omega) (by omega) (by omega);simp only[Int.toNat_zero,show ((k:Int)+1).toNat=k+1 by omega] at f2 f3 f4;obtain⟨v,hv⟩: ∃v,v=(Ep n bs 0 ((k:Int)+1)).2:=⟨_,rfl⟩;obtain⟨sd,hsd⟩: ∃sd,sd=gC (Ep n bs 0 ((k:Int)+1)).1 ((k:Int)+1):=⟨_,rfl⟩;have ab:t<=v↔ ∀S:Nat->Bool,S 0=true->S (k+1)=false->t<=CK S bs:=by
   constructor
   .intro z S Q hT
    have:=f2 S Q hT
    omega
   .intro z
    have:=z S f3 f4
    omega
  have aa:Xs n.toNat bs t (k+1)↔Xs n.toNat bs t k/\t<=v:=by
   rw[ab];constructor
   .intro z;exact⟨λS Q ⟨y,y1,y2,y3,y4⟩=>z S Q ⟨y,y1,by omega,y3,y4⟩,λS Q hT=>z S Q ⟨k+1,by omega,by omega,by omega,hT⟩⟩
   .rintro⟨z,h2⟩ S Q ⟨y,y1,y2,y3,y4⟩;by_cases hy:y<=k
    .exact z S Q ⟨y,y1,hy,y3,y4⟩
    .exact h2 S Q (by rw[show k+1=y by omega];exact y4)
  rw[aa];simp only[FY,<-hv,<-hsd];by_cases ac:k=0
  .subst ac;rw[Ai (.inl (by simp[FY]))];refine⟨by simp only;omega,?_⟩;simp only;constructor
   .intro z;exact⟨λS _ ⟨y,y1,y2,_,_⟩=>by omega,z⟩
   .exact λz=>z.2
  .obtain⟨i1,i2⟩:=Qzk h hs ht k (by omega) (by omega);rw[<-i2];by_cases O:(FY n bs k).1<0\/GM v sd (FY n bs k).1 (FY n bs k).2=true
   .rw[Ai O];have ad:v<=(FY n bs k).1:=by
     rcases O with O|O
     .omega
     .simp only[GM] at O;split at O
      .omega
      .simp only[CF] at O;omega
    simp only;exact⟨by omega,by omega,by omega⟩
   .rw[Af O];have ad:(FY n bs k).1<=v:=by
     have Z: ¬GM v sd (FY n bs k).1 (FY n bs k).2=true:=λh=>O (.inr h)
     simp only[GM] at Z;split at Z
     .omega
     .simp only[CF] at Z;omega
    exact⟨i1,by omega,by omega⟩
end Go.Ae
