/- Lemmas. Conditions: none. -/
import Derived.Test.YtelbgmfdnnljoaaGreatDoorP08
import Derived.Lib.LaidTab
import Derived.Stop.LaidErr
import Derived.Stop.Joined
import Derived.Lay
import Derived.LaidMore
import Derived.LaidOnce
import Derived.OpenVars
import Derived.ChangeVars
import Derived.ChangeSame
import Derived.Shelf.Strconv.Itoa4
import Derived.Shelf.Strings.Builder1
import Derived.Lib.ItoaLen
set_option linter.all false
set_option maxHeartbeats 8000000
set_option maxRecDepth 100000
namespace Go.Ae
open Go Go.Proofs Go.RowKit Go.ChangeShapes Go.WideShapes
abbrev Iy:List (String×DataW Unit):=Go.Proofs.YtelbgmfdnnljoaaGreatDoor.Rows.fnExactProofSystemRow.laid
def gP:Tryz.prog.globalNamed "internal/strconv.uint64pow10" =some 0:=by kernel_rfl
def gPt:(Tryz.prog.globals[0]?).map (·.type)=some 263:=by kernel_rfl
def UD{W:World}{n:String}{g:Nat}{cs:Array Value}(G:Tryz.prog.globalNamed n=some g)(h:W.var? Tryz.prog n=some cs): ∃T z,W.heap[g]? =some (.cells cs T z):=by
 unfold World.var? at h;rw[G] at h;simp only[GE] at h;split at h
 .rename_i c T z e;obtain rfl:=AB h;exact⟨T,z,e⟩
 .cases h
def Xl{W:World}{b:Nat}{o:Obj}(h:W.heap[b]? =some o):b<W.heap.size:=(QF.1 h).1
def Xt{W:World}(h:laidMetH Tryz.prog Iy W):GP (λb=>b<W.heap.size) (λb=>W.heap[b]?):=by
 rw[MakeChecks.laidMetH_plain _ _ _ (by kernel_rfl)] at h;have G:Lib.TabIs Tryz.prog W "internal/strconv.uint64pow10" .u64 Lib.pow10Tab:=Lib.tabIs_of_head gP gPt Tryz.underlying263 Tryz.underlying222 (by kernel_rfl) (by kernel_rfl) h.tail.tail;obtain⟨T,z,e⟩:=UD gP G;exact⟨Xl e,T,z,e⟩
def R0(os:Os)(args:Array Value):laidMetH Tryz.prog Iy ((World.laidAll Tryz.prog os Iy).forCall (λ_ _=>0) ⟨#[],args,[]⟩).memory:=by
 rw[MakeChecks.laidMetH_plain _ _ _ (by kernel_rfl)];exact laidMet_laidAll _ (by kernel_rfl) (by kernel_rfl)
end Go.Ae
namespace Go.Proofs
open Go.Shelf
def Tryz.fmtL_ren:Go.Shelf.Ren:=⟨λ|173=>128|246=>161|283=>179|284=>180|285=>181|286=>182|129=>159|317=>190|318=>191|319=>192|320=>193|337=>195|338=>196|n=>n,λ|2=>2|3=>3|9=>9|4=>4|171=>246|0=>0|53=>222|37=>171|5=>5|173=>248|212=>263|51=>220|20=>20|213=>264|46=>183|232=>272|233=>273|n=>n,λ|17=>0|18=>1|19=>2|n=>n⟩
def Tryz.fmtL:Go.Proofs.LaysM.n173 Tryz.prog Tryz.fmtL_ren:={
 mixed:=by kernel_rfl
 f129:=Tryz.func159.trans (De some (by kernel_rfl))
 f173:=Tryz.func128.trans (De some (by kernel_rfl))
 f246:=Tryz.func161.trans (De some (by kernel_rfl))
 f283:=Tryz.func179.trans (De some (by kernel_rfl))
 f284:=Tryz.func180.trans (De some (by kernel_rfl))
 f285:=Tryz.func181.trans (De some (by kernel_rfl))
 f286:=Tryz.func182.trans (De some (by kernel_rfl))
 f317:=Tryz.func190.trans (De some (by kernel_rfl))
 f318:=Tryz.func191.trans (De some (by kernel_rfl))
 f319:=Tryz.func192.trans (De some (by kernel_rfl))
 f320:=Tryz.func193.trans (De some (by kernel_rfl))
 f337:=Tryz.func195.trans (De some (by kernel_rfl))
 f338:=Tryz.func196.trans (De some (by kernel_rfl))
 t0:=Tryz.underlying0
 a0:=Tryz.isAgg0
 z0:=Tryz.sizeOf0
 v0:=Tryz.zeroValue0
 t2:=Tryz.underlying2
 a2:=Tryz.isAgg2
 z2:=Tryz.sizeOf2
 v2:=Tryz.zeroValue2
 t3:=Tryz.underlying3
 a3:=Tryz.isAgg3
 z3:=Tryz.sizeOf3
 v3:=Tryz.zeroValue3
 t4:=Tryz.underlying4
 a4:=Tryz.isAgg4
 z4:=Tryz.sizeOf4
 v4:=Tryz.zeroValue4
 t5:=Tryz.underlying5
 a5:=Tryz.isAgg5
 z5:=Tryz.sizeOf5
 v5:=Tryz.zeroValue5
 t9:=Tryz.underlying9
 a9:=Tryz.isAgg9
 z9:=Tryz.sizeOf9
 v9:=Tryz.zeroValue9
 t20:=Tryz.underlying20
 a20:=Tryz.isAgg20
 z20:=Tryz.sizeOf20
 v20:=Tryz.zeroValue20
 t37:=Tryz.underlying171
 a37:=Tryz.isAgg171
 z37:=Tryz.sizeOf171
 v37:=Tryz.zeroValue171
 t46:=Tryz.underlying183
 a46:=Tryz.isAgg183
 z46:=Tryz.sizeOf183
 v46:=Tryz.zeroValue183
 t51:=Tryz.underlying220
 a51:=Tryz.isAgg220
 z51:=Tryz.sizeOf220
 v51:=Tryz.zeroValue220
 t53:=Tryz.underlying222
 a53:=Tryz.isAgg222
 z53:=Tryz.sizeOf222
 v53:=Tryz.zeroValue222
 t171:=Tryz.underlying246
 a171:=Tryz.isAgg246
 z171:=Tryz.sizeOf246
 v171:=Tryz.zeroValue246
 t173:=Tryz.underlying248
 a173:=Tryz.isAgg248
 z173:=Tryz.sizeOf248
 v173:=Tryz.zeroValue248
 t212:=Tryz.underlying263
 a212:=Tryz.isAgg263
 z212:=Tryz.sizeOf263
 v212:=Tryz.zeroValue263
 t213:=Tryz.underlying264
 a213:=Tryz.isAgg264
 z213:=Tryz.sizeOf264
 t232:=Tryz.underlying272
 a232:=Tryz.isAgg272
 z232:=Tryz.sizeOf272
 v232:=Tryz.zeroValue272
 t233:=Tryz.underlying273
 a233:=Tryz.isAgg273
 z233:=Tryz.sizeOf273
 v233:=Tryz.zeroValue273
 g17:=by kernel_rfl
 g18:=by kernel_rfl
 g19:=by kernel_rfl
 i0:=by kernel_rfl
 i2:=by kernel_rfl
 i3:=by kernel_rfl
 i4:=by kernel_rfl
 i5:=by kernel_rfl
 i9:=by kernel_rfl
 i20:=by kernel_rfl
 i37:=by kernel_rfl
 i46:=by kernel_rfl
 i51:=by kernel_rfl
 i53:=by kernel_rfl
 i171:=by kernel_rfl
 i173:=by kernel_rfl
 i212:=by kernel_rfl
 i232:=by kernel_rfl
 i233:=by kernel_rfl
 m17:=by kernel_rfl
 m18:=by kernel_rfl
 m19:=by kernel_rfl}
end Go.Proofs
namespace Go.Ae
open Go.Proofs Go.Lib
def D1(n:Int):ByteArray:=⟨(Lib.itoa n).toArray⟩
def gG{C:AZ}{S:Ay}(hW:Wf C S):Lib.TabIs Tryz.prog S.w "internal/strconv.uint64pow10" .u64 Lib.pow10Tab:=by
 obtain⟨_,T,z,h⟩:=hW.gp.tab;have G:Tryz.prog.globalNamed "internal/strconv.uint64pow10" =some 0:=by kernel_rfl
 have h':S.w.heap[0]? =some (.cells gE T z):=h;unfold Lib.TabIs World.var?;rw[G];simp only[GE,h'];rfl
def RD{C:AZ}{S:Ay}(hW:Wf C S){W':World}(O:S.w.heap.size<=W'.heap.size)(ab:W'.os=S.w.os)(ht:W'.tape=S.w.tape)(G:W'.output=S.w.output)(aa:S.w.drawn<=W'.drawn)(hk: ∀b,b<S.w.heap.size->W'.heap[b]? =S.w.heap[b]?):
 ∃(Q:AZ) (S1:Ay),Q.w=S.w/\Q.ok=S.ok/\(∀b,¬Q.M b)/\Wf Q S1/\S1.w=W':=by
 refine⟨⟨S.w,λ_=>False,S.ok,0,λ_=>none,λ_=>none,[]⟩,⟨λ_=>none,S.ok,λ_=>none,W'⟩,rfl,rfl,λ_ h=>h,?_,rfl⟩;exact⟨ab,ht,G,aa,O,λb Z _=>hk b Z,λ_ h=>h,λ_ h=> .inl h,λb Z=>Fx (hW.oks b Z) O,λo e z=>(by cases z),λo e l z=>(by cases z),λo o' e e' l l' z=>(by cases z),hW.glN λ_ h=>h.elim⟩
def fmt_.fv(a:Int×Int):ByteArray:=(λn _=>D1 n) (a.1) (a.2)
def fmt_.row:AE:=CG (b2 qI qI) rT (λa=> -9223372036854775808<=a.1/\a.1<=9223372036854775807/\a.2=10) fmt_.fv
def fmt_.q:=CH (R:=fmt_.row) rfl
def fmt_.ok:AI 128 fmt_.row:=by
 refine Quy (by kernel_rfl) (b2 qI qI).l rT.l λa G C S vs RR hW O z=> ?_
 obtain⟨n,b⟩:=a;obtain⟨Z,h2,h3⟩:=G;simp only at Z h2 h3;subst h3;simp only[b2,qI,EA,Iq,rd] at O;obtain⟨v0,r0,hv,rfl,v1,r1,rfl,rfl,rfl⟩:=O;have Q:vs= #[.int .i64 n,.int .i64 10]:=by apply Zl;simpa using hv
 subst Q;refine (Any.strconv_FormatInt_10 Tryz.fmtL n Z h2 S.w (gG hW)).mono ?_;rintro e w' ⟨rfl,k,os,rfl⟩;obtain⟨C0,S1,e1,e2,e3,e4,e5⟩:=RD hW (W':=Sort.grow (S.w.drewN k) os) (by simp[Sort.grow]) rfl rfl rfl (zK _ _) (λb hb=>by
  simp only[Sort.grow];rw[Zdu (by simpa using hb)]
  rfl)
 have:=z (.string (D1 n)) C0 S1 (.str (D1 n)) e1 e2 e3 e4 rfl (by simp only[rd])
 rw[e5] at this;exact this
def aS{s:UInt8}: ∀{a b r q:List UInt8},(∀c∈a,c≠s)->(∀c∈b,c≠s)->a++s::r=b++s::q->a=b/\r=q
 |[],[],r,q,_,_,h=>by simpa using h
 |[],y::b,r,q,_,G,h=>by
  simp only[Dj,BG,Vj] at h;exact absurd h.1.symm (G y (BQ ..))
 |x::a,[],r,q,z,_,h=>by
  simp only[Dj,BG,Vj] at h;exact absurd h.1 (z x (BQ ..))
 |x::a,y::b,r,q,z,G,h=>by
  simp only[BG,Vj] at h;obtain⟨Q,Z⟩:=aS (λc O=>z c (BK _ O)) (λc O=>G c (BK _ O)) h.2;exact⟨by rw[h.1,Q],Z⟩
def Y2(l:List UInt8):Nat:=l.foldl (λa c=>10*a+(c.toNat - 48)) 0
def mO{d:Nat}(h:d<10):(UInt8.ofNat (48+d)).toNat=48+d:=by
 rcases (by omega:d=0\/d=1\/d=2\/d=3\/d=4\/d=5\/d=6\/d=7\/d=8\/d=9) with rfl|rfl|rfl|rfl|rfl|rfl|rfl|rfl|rfl|rfl<;>rfl
def Qn: ∀(n u:Nat),u<=n->Y2 (decDigits u)=u/\(∀c∈decDigits u,48<=c.toNat/\c.toNat<=57)/\decDigits u≠[]
 |0,u,h=>by
  obtain rfl:u=0:=by omega
  rw[decDigits,dif_pos (by omega)];refine⟨by decide,λc z=> ?_,by simp⟩;rw[BL] at z;subst z;decide
 |n+1,u,h=>by
  rw[decDigits];split
  .rename_i G
   have:=mO G
   refine⟨by simp only[Y2,Zi,jN,this];omega,λc z=> ?_,by simp⟩;rw[BL] at z;subst z;omega
  .rename_i G;obtain⟨O,Q,Z⟩:=Qn n (u/10) (by omega)
   have:=mO (d:=u % 10) (by omega)
   refine⟨?_,λc z=> ?_,by simp⟩
   .simp only[Y2] at O;simp only[Y2,yX,Zi,jN,O,this];omega
   .rcases Bz.1 z with z|z
    .exact Q c z
    .rw[BL] at z;subst z;omega
def L0{u v:Nat}(h:decDigits u=decDigits v):u=v:=by
 have z:=(Qn u u (AP _)).1;have G:=(Qn v v (AP _)).1;rw[h] at z;omega
def aO{m n:Int}(h:itoa m=itoa n):m=n:=by
 unfold itoa at h;have hd: ∀u,decDigits u=45::decDigits u->False:=λu G=>by
  have:=De List.length G
  simp at this
 have z: ∀u v,¬(45::decDigits u=decDigits v):=λu v e=>by
  have:=(Qn v v (AP _)).2.1 45 (by rw[<-e];exact BQ ..)
  exact absurd this.1 (by decide)
 split at h<;>split at h
 .have:=L0 (Zfg h).2
  omega
 .exact absurd h (z _ _)
 .exact absurd h.symm (z _ _)
 .have:=L0 h
  omega
def LO{n:Int}(h0: -9223372036854775808<=n)(z:n<=9223372036854775807):(itoa n).length<=21:=itoa_length_le n h0 z
def dcm_.fv(a:Int):ByteArray:=(D1) a
def dcm_.row:AE:=CG (b1 qI) rT (λa=> -9223372036854775808<=a/\a<=9223372036854775807) dcm_.fv
def dcm_.q:=CH (R:=dcm_.row) rfl
def dcm_.ok:AI 96 dcm_.row:=by
 refine Gy (tC fmt_.ok tN) Tryz.func96 ?_;intro a z;simp only[Tryz.f96,Option.getD];simp(disch:=omega)only[ZZ,simprocAttr,Ab,dcm_.fv,fmt_.q,fmt_.fv,BS,D.sc,D.scs,BJ,AQ];exact z
def EY{n:Int}(h0: -9223372036854775808<=n)(z:n<=9223372036854775807):(D1 n).size<=21:=LO h0 z
end Go.Ae
namespace Go.Ae
open Go.Proofs
def cC(p:A7)(k:Int):A7×A7:=(⟨p.X/k,p.Y/k⟩,⟨p.X % k,p.Y % k⟩)
def l02Index.fv(a:Au×Int):Bool:=(λs t=>Bw t 0 (s.Tiles.length - 1)) (a.1) (a.2)
def l02Index.row:AE:=vK (b2 (qP 2 Au.d_le) qI) rB (λa=>True) l02Index.fv
def l02Index.q:=Bg (R:=l02Index.row) rfl
def l02Index.ok:AI 76 l02Index.row:=by
 refine vw (tC l00In.ok tN) Tryz.func76 ?_;intro a z;simp only[Tryz.f76,Option.getD];simp only[ZZ,simprocAttr,Ab,l02Index.fv,l00In.q,l00In.fv];intro h;rw[AA (by omega) (by omega)]
def isTile.fv(a:Au×Int):Bool:=(λs t=>Bw t 0 (s.Tiles.length - 1)) (a.1) (a.2)
def isTile.row:AE:=vK (b2 (qR Au.d_le) qI) rB (λa=>True) isTile.fv
def isTile.q:=Bg (R:=isTile.row) rfl
def isTile.ok:AI 120 isTile.row:=by
 refine vw (tC isIndex.ok tN) Tryz.func120 ?_;intro a z;simp only[Tryz.f120,Option.getD];simp only[ZZ,simprocAttr,Ab,isTile.fv,isIndex.q,isIndex.fv];intro h;simp only[I64];omega
def opposite_.fv(a:Int):Int:=(λd=>(d+2) % 4) a
def opposite_.row:AE:=vK (b1 qI) rI (λa=>0<=a/\a<=3) opposite_.fv
def opposite_.q:=Bg (R:=opposite_.row) rfl
def opposite_.ok:AI 171 opposite_.row:=by
 refine vw tN Tryz.func171 ?_;intro a z;simp only[Tryz.f171,Option.getD];simp only[ZZ,simprocAttr,Ab,opposite_.fv];rw[AA (by omega) (by omega)]
 have:(0:Int)<=a+2:=by omega
 rw[yP this]
def l01Dir.fv(a:Int):Bool:=(λd=>Bw d 0 3) a
def l01Dir.row:AE:=vK (b1 qI) rB (λa=>True) l01Dir.fv
def l01Dir.q:=Bg (R:=l01Dir.row) rfl
def l01Dir.ok:AI 162 l01Dir.row:=by
 refine vw (tC l00In.ok tN) Tryz.func162 ?_;intro a z;simp only[Tryz.f162,Option.getD];simp only[ZZ,simprocAttr,Ab,l01Dir.fv,l00In.q,l00In.fv]
def Opposite_.fv(a:Int):Int:=(λd=>(d+2) % 4) a
def Opposite_.row:AE:=vK (b1 qI) rI (λa=>0<=a/\a<=3) Opposite_.fv
def Opposite_.q:=Bg (R:=Opposite_.row) rfl
def Opposite_.ok:AI 133 Opposite_.row:=by
 refine vw (tC l01Dir.ok tN) Tryz.func133 ?_;intro a z;simp only[Tryz.f133,Option.getD];simp only[ZZ,simprocAttr,Ab,Opposite_.fv,l01Dir.q,l01Dir.fv];have h:Bw a 0 3=true:=by simp[Bw,z]
 rw[h,Af (by simp),AA (by omega) (by omega)]
 have:(0:Int)<=a+2:=by omega
 rw[yP this]
def l07Temperature.fv(a:Int):Bool:=(λt=>Bw t 1 16) a
def l07Temperature.row:AE:=vK (b1 qI) rB (λa=>True) l07Temperature.fv
def l07Temperature.q:=Bg (R:=l07Temperature.row) rfl
def l07Temperature.ok:AI 38 l07Temperature.row:=by
 refine vw (tC l00In.ok tN) Tryz.func38 ?_;intro a z;simp only[Tryz.f38,Option.getD];simp only[ZZ,simprocAttr,Ab,l07Temperature.fv,l00In.q,l00In.fv]
def isTemperature.fv(a:Int):Bool:=(λt=>Bw t 1 16) a
def isTemperature.row:AE:=vK (b1 qI) rB (λa=>True) isTemperature.fv
def isTemperature.q:=Bg (R:=isTemperature.row) rfl
def isTemperature.ok:AI 86 isTemperature.row:=by
 refine vw (tC within_.ok tN) Tryz.func86 ?_;intro a z;simp only[Tryz.f86,Option.getD];simp only[ZZ,simprocAttr,Ab,isTemperature.fv,within_.q,within_.fv]
def blockSizeOk.fv(a:Int):Bool:=(λt=>Bw t 1 4) a
def blockSizeOk.row:AE:=vK (b1 qI) rB (λa=>True) blockSizeOk.fv
def blockSizeOk.q:=Bg (R:=blockSizeOk.row) rfl
def blockSizeOk.ok:AI 20 blockSizeOk.row:=by
 refine vw (tC within_.ok tN) Tryz.func20 ?_;intro a z;simp only[Tryz.f20,Option.getD];simp only[ZZ,simprocAttr,Ab,blockSizeOk.fv,within_.q,within_.fv]
def CY(s:Au):Prop:=s.Glues.length<=140737488355328/\(∀t∈s.Tiles,t.Sides.length=4/\ ∀g∈t.Sides,0<=g/\g<=s.Glues.length)/\ ∀g∈s.Glues,1<=g.Strength/\g.Strength<=4
def F8(s:Au)(z G:Int):Int:=((((s.Tiles[z.toNat]?).map Tile.Sides).getD [])[G.toNat]?).getD 0
def Qy(s:Au)(g:Int):Int:=if 0<g then ((s.Glues[(g - 1).toNat]?).map Ad.Strength).getD 0 else 0
def UX(s:Au)(a z b:Int):Int:=if F8 s a z=F8 s b ((z+2) % 4) then Qy s (F8 s a z) else 0
def bN(s:Au)(t:Int):Prop:=0<=t/\t<s.Tiles.length
def Rz(d:Int):Prop:=0<=d/\d<=3
def pQ{s:Au}{t d:Int}{x:Tile}{g:Int}(G:s.Tiles[t.toNat]? =some x)(z:x.Sides[d.toNat]? =some g):F8 s t d=g:=by
 simp[F8,G,z]
def LF{s:Au}{g:Int}{x:Ad}(h:0<g)(z:s.Glues[(g - 1).toNat]? =some x):Qy s g=x.Strength:=by
 simp only[Qy,Ai h,z];rfl
def Xe{s:Au}{g:Int}(h: ¬0<g):Qy s g=0:=by
 simp[Qy,h]
def oE{s:Au}(h:CY s){t:Int}{x:Tile}(z:s.Tiles[t.toNat]? =some x):x.Sides.length=4:=(h.2.1 x (Bf z)).1
def Qvv{s:Au}(h:CY s){t d:Int}{x:Tile}{g:Int}(G:s.Tiles[t.toNat]? =some x)(z:x.Sides[d.toNat]? =some g):0<=g/\g<=s.Glues.length:=(h.2.1 x (Bf G)).2 g (Bf z)
def l02Strength.fv(a:Au×Int):Int:=(Qy) (a.1) (a.2)
def l02Strength.row:AE:=vK (b2 (qP 2 Au.d_le) qI) rI (λa=>0<=a.2/\a.2<=a.1.Glues.length/\a.1.Glues.length<=140737488355328) l02Strength.fv
def l02Strength.q:=Bg (R:=l02Strength.row) rfl
def l02Strength.ok:AI 134 l02Strength.row:=by
 refine vw tN Tryz.func134 ?_;intro a z;simp only[Tryz.f134,Option.getD];simp only[ZZ,simprocAttr,Ab,l02Strength.fv];obtain⟨O,Q,Z⟩:=z
 split<;>rename_i h
 .simp[Qy,h]
 .rw[AA (by omega) (by omega)];exact⟨by omega,by omega,λx G=>(LF (by omega) G).symm⟩
def strength_.fv(a:Au×Int×Int):Int:=(λs t d=>Qy s (F8 s t d)) (a.1) (a.2.1) (a.2.2)
def strength_.row:AE:=vK (b3 (qR Au.d_le) qI qI) rI (λa=>CY a.1/\bN a.1 a.2.1/\Rz a.2.2) strength_.fv
def strength_.q:=Bg (R:=strength_.row) rfl
def strength_.ok:AI 172 strength_.row:=by
 refine vw tN Tryz.func172 ?_;intro a z;simp only[Tryz.f172,Option.getD];simp only[ZZ,simprocAttr,Ab,strength_.fv];obtain⟨G,Q,Z⟩:=z;refine⟨Q.1,Q.2,λx O=>⟨Z.1,?_,λg hg=> ?_⟩⟩
 .rw[oE G O];have:=Z.2;omega
 .have aa:=Qvv G O hg
  have:=G.1
  rw[pQ O hg]
  split<;>rename_i h
  .rw[AA (by omega) (by omega)];exact⟨by omega,by omega,λy hy=>(LF h hy).symm⟩
  .exact (Xe h).symm
def bond_.rc:D->Option (Int):=DW
def bond_.re:Int->D:=D.int .i64
def bond_.rle: ∀d b,bond_.rc d=some b->Le d (bond_.re b):=ZQ
def bond_.ar:List PK->Option (Au×Int×Int×Int):=a4 (kR Au.d) kI kI kI
def bond_.fv(a:Au×Int×Int×Int):Int:=(UX) (a.1) (a.2.1) (a.2.2.1) (a.2.2.2)
def bond_.row:AE:=vK (b4 (qR Au.d_le) qI qI qI) (RK.mk bond_.rc bond_.re bond_.rle) (λa=>CY a.1/\bN a.1 a.2.1/\Rz a.2.2.1/\bN a.1 a.2.2.2) bond_.fv
def bond_.q:=Bg (R:=bond_.row) rfl
def bond_.ok:AI 147 bond_.row:=by
 refine vw (tC opposite_.ok (tC strength_.ok tN)) Tryz.func147 ?_;intro a G;simp only[Tryz.f147,Option.getD];simp only[ZZ,simprocAttr,Ab,bond_.fv,bond_.rc,opposite_.q,opposite_.fv,strength_.q,strength_.fv];obtain⟨O,Q,z,h4⟩:=G;have h5:=z.1;have h6:=z.2;refine⟨Q.1,Q.2,λx hx=>⟨z.1,by rw[oE O hx];omega,λg hg=>⟨h4.1,h4.2,λy hy=>⟨z,by omega,by rw[oE O hy];omega,λg' Z=> ?_⟩⟩⟩⟩;simp only[UX,pQ hx hg,pQ hy Z];split
 .exact⟨⟨O,Q,z⟩,rfl⟩
 .rfl
def l02Bond.fv(a:Au×Int×Int×Int):Int:=(UX) (a.1) (a.2.1) (a.2.2.1) (a.2.2.2)
def l02Bond.row:AE:=vK (b4 (qP 2 Au.d_le) qI qI qI) rI (λa=>CY a.1/\bN a.1 a.2.1/\Rz a.2.2.1/\bN a.1 a.2.2.2) l02Bond.fv
def l02Bond.q:=Bg (R:=l02Bond.row) rfl
def l02Bond.ok:AI 111 l02Bond.row:=by
 refine vw (tC Opposite_.ok (tC l02Strength.ok tN)) Tryz.func111 ?_;intro a O;simp only[Tryz.f111,Option.getD];simp only[ZZ,simprocAttr,Ab,l02Bond.fv,Opposite_.q,Opposite_.fv,l02Strength.q,l02Strength.fv];obtain⟨z,h2,Q,h4⟩:=O;have h5:=Q.1;have h6:=Q.2;refine⟨h2.1,h2.2,λx hx=>⟨Q.1,by rw[oE z hx];omega,λg hg=>⟨h4.1,h4.2,λy hy=>⟨Q,by omega,by rw[oE z hy];omega,λg' Z=> ?_⟩⟩⟩⟩;have G:=Qvv z hx hg
 have:=z.1
 simp only[UX,pQ hx hg,pQ hy Z]
 split<;>rename_i h
 .first|rw[Af h]|rfl
 .rw[Ai (Gg.1 h)];exact⟨⟨G.1,G.2,z.1⟩,rfl⟩
def CS:Option A7->List Al->Bool
 |_,[]=>true
 |q,x::r=>Ht x.At && (Bw x.Tile 0 159 && ((match q with|none=>true|some p=>Cb p x.At) && CS (some x.At) r))
def nC(q:Option A7)(x:Al)(r:List Al):CS q (x::r)=(Ht x.At && (Bw x.Tile 0 159 && ((match q with|none=>true|some p=>Cb p x.At) && CS (some x.At) r))):=by cases q<;>rfl
def Qik(q:Option A7):CS q []=true:=by cases q<;>rfl
def G8(l:List Al)(k:Nat):Option A7:=if k=0 then none else (l[k - 1]?).map (·.At)
def Qn2{l:List Al}{k:Nat}{x:Al}(z:l[k]? =some x):G8 l (k+1)=some x.At:=by
 simp[G8,z]
def Hf{A:Type}{l:List A}{k:Nat}{x:A}(z:l[k]? =some x):l.drop k=x::l.drop (k+1):=by
 have G:k<l.length:=(Cu.1 z).1;rw[Vh G];rw[B2 G] at z;rw[AB z]
def hasForm_.fv(a:A9):Bool:=(λa=>CS none a.Tiles && decide (a.Tiles.length<=500)) a
def hasForm_.row:AE:=vK (b1 (qR A9.d_le)) rB (λa=>True) hasForm_.fv
def hasForm_.q:=Bg (R:=hasForm_.row) rfl
def Yaj:=J @hasForm_.fv.eq_1<|J @ValidPoint.q<|J @ValidPoint.fv.eq_1<|J @isIndex.q<|J @isIndex.fv.eq_1<|J @impl_LessPoint.q @impl_LessPoint.fv.eq_1
def hasForm_.ok:AI 54 hasForm_.row:=by
 refine vw (tC ValidPoint.ok (tC isIndex.ok (tC impl_LessPoint.ok tN))) Tryz.func54 ?_;intro a ab;simp only[Tryz.f54,Option.getD];simp only[ZZ,simprocAttr,Ab,Yaj];intro aa;refine AY.old ⟨{k:Nat//k<=a.Tiles.length/\CS (G8 a.Tiles k) (a.Tiles.drop k)=CS none a.Tiles},λk=>⟨[(8,.im (.int .i64 k.1)),(7,.im (.int .i64 a.Tiles.length)),(6,.im (.sl false 3 (a.Tiles.map Al.c))),(1,.ptr 0 0),(2,.im (.bool false))],[(0,(true,.cells 38 [.im (.sl false 3 (a.Tiles.map Al.c))]))],1⟩,λk=>a.Tiles.length - k.1,λk=>⟨by simp[ZG],AP _⟩,⟨⟨0,by simp[G8]⟩,by simp only[ZZ,simprocAttr,Ab,Yaj,sub]⟩,λk=> ?_⟩;obtain⟨k,ac,G⟩:=k;simp only[ZZ,simprocAttr,Ab,Yaj,sub,AO];refine⟨λhk=>⟨hk,λx hx=> ?_⟩,λhk=> ?_⟩
 .rw[Hf hx,nC] at G;have O:(Ht x.At && (Bw x.Tile 0 159 && (match G8 a.Tiles k with|none=>true|some p=>Cb p x.At)))=false->false=(CS none a.Tiles && decide (a.Tiles.length<=500)):=by
   intro h;rw[<-G];revert h;cases Ht x.At<;>cases Bw x.Tile 0 159<;>cases (match G8 a.Tiles k with|none=>true|some p=>Cb p x.At)<;>simp
  have z:(Ht x.At && (Bw x.Tile 0 159 && (match G8 a.Tiles k with|none=>true|some p=>Cb p x.At)))=true->CS (G8 a.Tiles (k+1)) (a.Tiles.drop (k+1))=CS none a.Tiles:=by
   intro h;rw[<-G,Qn2 hx];simp only[AW] at h;simp[h.1,h.2.1,h.2.2]
  refine⟨λQ=>⟨by simp[I64],⟨λZ=>⟨λh3=> ?_,λh3=> ?_⟩,λZ=>O (by simp[Z])⟩⟩,λQ=>O (by simp[Q])⟩
  .rw[AA (x:=(k:Int) - 1) (by omega) (by omega)];refine⟨by omega,by omega,λy hy=> ?_⟩;have hp:G8 a.Tiles k=some y.At:=by
    have e:((k:Int) - 1).toNat=k - 1:=by omega
    rw[e] at hy;simp[G8,hy,show k≠0 by omega]
   rw[hp] at O z;exact⟨λh4=>O (by simp[h4]),λh4=>Js hk (by omega) ⟨by omega,z (by simp[Q,Z];simpa using h4)⟩⟩
  .have hp:G8 a.Tiles k=none:=by simp[G8,show k=0 by omega]
   rw[hp] at z;exact Js hk (by omega) ⟨by omega,z (by simp[Q,Z])⟩
 .rw[DB (by omega),Qik] at G;simp only[<-G,Ew]
  grind
def l03Form.fv(a:A9):Bool:=(λa=>CS none a.Tiles && decide (a.Tiles.length<=500)) a
def l03Form.row:AE:=vK (b1 (qP 1 A9.d_le)) rB (λa=>True) l03Form.fv
def l03Form.q:=Bg (R:=l03Form.row) rfl
def Yak:=J @l03Form.fv.eq_1<|J @l01Point.q<|J @l01Point.fv.eq_1<|J @l00In.q<|J @l00In.fv.eq_1<|J @l_LessPoint.q @l_LessPoint.fv.eq_1
def l03Form.ok:AI 75 l03Form.row:=by
 refine vw (tC l01Point.ok (tC l00In.ok (tC l_LessPoint.ok tN))) Tryz.func75 ?_;intro a ab;simp only[Tryz.f75,Option.getD];simp only[ZZ,simprocAttr,Ab,Yak];intro aa;simp only[AO];refine⟨λh=> ?_,λh=> ?_⟩
 .have: ¬a.Tiles.length<=500:=by omega
  simp[this]
 refine AY.old ⟨{k:Nat//k<=a.Tiles.length/\CS (G8 a.Tiles k) (a.Tiles.drop k)=CS none a.Tiles},λk=>⟨[(3,.im (.int .i64 k.1)),(0,.ptr 0 0),(2,.im (.bool false))],[(0,(false,.view [.sl false 3 (a.Tiles.map Al.c)]))],1⟩,λk=>a.Tiles.length - k.1,λk=>⟨by simp[ZG],AP _⟩,⟨⟨0,by simp[G8]⟩,by simp only[ZZ,simprocAttr,Ab,Yak,sub]⟩,λk=> ?_⟩;obtain⟨k,ac,G⟩:=k;simp only[ZZ,simprocAttr,Ab,Yak,sub,AO];intro _;refine⟨λhk=>⟨hk,λx hx=> ?_⟩,λhk=> ?_⟩
 .rw[Hf hx,nC] at G;have O:(Ht x.At && (Bw x.Tile 0 159 && (match G8 a.Tiles k with|none=>true|some p=>Cb p x.At)))=false->false=(CS none a.Tiles && decide (a.Tiles.length<=500)):=by
   intro h;rw[<-G];revert h;cases Ht x.At<;>cases Bw x.Tile 0 159<;>cases (match G8 a.Tiles k with|none=>true|some p=>Cb p x.At)<;>simp
  have z:(Ht x.At && (Bw x.Tile 0 159 && (match G8 a.Tiles k with|none=>true|some p=>Cb p x.At)))=true->CS (G8 a.Tiles (k+1)) (a.Tiles.drop (k+1))=CS none a.Tiles:=by
   intro h;rw[<-G,Qn2 hx];simp only[AW] at h;simp[h.1,h.2.1,h.2.2]
  refine⟨λQ=>⟨λZ=>⟨λh3=> ?_,λh3=> ?_⟩,λZ=>O (by simp[Z])⟩,λQ=>O (by simp[Q])⟩
  .rw[AA (x:=(k:Int) - 1) (by omega) (by omega)];refine⟨by omega,by omega,λy hy=> ?_⟩;have hp:G8 a.Tiles k=some y.At:=by
    have e:((k:Int) - 1).toNat=k - 1:=by omega
    rw[e] at hy;simp[G8,hy,show k≠0 by omega]
   rw[hp] at O z;exact⟨λh4=>O (by simp[h4]),λh4=>Js hk (by omega) ⟨by omega,z (by simp[Q,Z];simpa using h4)⟩⟩
  .have hp:G8 a.Tiles k=none:=by simp[G8,show k=0 by omega]
   rw[hp] at z;exact Js hk (by omega) ⟨by omega,z (by simp[Q,Z])⟩
 .rw[DB (by omega),Qik] at G;simp only[<-G,Ew]
  grind
def BO{A:Type}(p:A->Bool):Nat->List A->Int
 |_,[]=> -1
 |i,x::r=>if p x=true then i else BO p (i+1) r
def l02Glue.fv(a:Au×ByteArray):Int:=(λs n=>BO (λg=>decide (g.Name=n)) 0 s.Glues+1) (a.1) (a.2)
def l02Glue.row:AE:=vK (b2 (qP 2 Au.d_le) qT) rI (λa=>True) l02Glue.fv
def l02Glue.q:=Bg (R:=l02Glue.row) rfl
def l02Glue.ok:AI 73 l02Glue.row:=by
 refine vw tN Tryz.func73 ?_;intro a O;simp only[Tryz.f73,Option.getD];simp only[ZZ,simprocAttr,Ab,l02Glue.fv];refine AY.old ⟨{k:Nat//k<=a.1.Glues.length/\BO (λg:Ad=>decide (g.Name=a.2)) k (a.1.Glues.drop k)=BO (λg:Ad=>decide (g.Name=a.2)) 0 a.1.Glues},λk=>⟨[(5,.im (.int .i64 k.1)),(4,.im (.int .i64 0)),(0,.ptr 0 0),(1,.im (.str a.2))],[(0,(false,.view [.sl false 2 (a.1.Glues.map Ad.c),.sl false 2 (a.1.Tiles.map Tile.c)]))],1⟩,λk=>a.1.Glues.length - k.1,λk=>⟨by simp[ZG],AP _⟩,⟨⟨0,by simp⟩,by simp only[ZZ,simprocAttr,Ab,l02Glue.fv,sub]⟩,λk=> ?_⟩;obtain⟨k,Q,z⟩:=k;simp only[ZZ,simprocAttr,Ab,l02Glue.fv,sub,AO];intro hn;refine⟨λG=>⟨G,λx Z=> ?_⟩,λG=> ?_⟩
 .rw[Hf Z,BO] at z;refine⟨λh=> ?_,λh=>Js G hn ⟨by omega,by rw[<-z,Af (by simpa using h)]⟩⟩;rw[Ai (by simpa using h)] at z;rw[<-z,AA (by omega) (by omega)]
 .rw[DB (by omega),BO] at z;omega
def VA1.fv(a:Al×Au):Bool:=(λx s=> !Bw x.Tile 0 (s.Tiles.length - 1)) (a.1) (a.2)
def VA1.row:AE:=vK (b2 (qR Al.d_le) (qP 2 Au.d_le)) rB (λa=>True) VA1.fv
def VA1.q:=Bg (R:=VA1.row) rfl
def VA1.ok:AI 119 VA1.row:=by
 refine vw (tC isTile.ok tN) Tryz.func119 ?_;intro a z;simp only[Tryz.f119,Option.getD];simp only[ZZ,simprocAttr,Ab,VA1.fv,isTile.q,isTile.fv]
def IdxVA.ar:List PK->Option ((List Al)×Au)
 |[.val (.sl _ _ O),.val (.fn 119 [] [.ref z])]=>(AU Al.d O).bind λQ=>(Au.d (z.take 2)).bind λG=>some (Q,G)
 |_=>none
def IdxVA.ae(a:(List Al)×Au):List PK:=[.val (.sl false 3 (a.1.map Al.c)),.val (.fn 119 [] [.ref (Au.c a.2)])]
def IdxVA.le: ∀G a,IdxVA.ar G=some a->Cl G (IdxVA.ae a):=by
 intro G a h;unfold IdxVA.ar at h;split at h
 .simp only[GD,AM] at h;obtain⟨Q,h0,O,z,rfl⟩:=h;exact⟨Gb (FK Al.d_le _ _ h0) (by simp only[Bn];rintro r ⟨y,_,rfl⟩;rfl),iR ⟨oC (HZ.trans_take (Au.d_le _ _ z)),trivial⟩,trivial⟩
 .cases h
def IdxVA.fv(a:(List Al)×Au):Int:=(λl s=>BO (λx=> !Bw x.Tile 0 (s.Tiles.length - 1)) 0 l) (a.1) (a.2)
def IdxVA.row:AE:=E4 IdxVA.ar (λa=>True) (λa=>(D.int .i64) (IdxVA.fv a))
def IdxVA.q:=vq IdxVA.row rfl
def IdxVA.ok:AI 141 IdxVA.row:=by
 refine gN ER (tC VA1.ok tN) Tryz.func141 rfl (by kernel_rfl) (by kernel_rfl) (ar:=IdxVA.ar) (ae:=IdxVA.ae) IdxVA.le (n:=2) (λ_=>rfl) (by decide) (rc:=(DW)) (re:=(D.int .i64)) (ZQ) (f:=IdxVA.fv) ?_;intro a O;simp only[Tryz.f141,Option.getD];simp only[ZZ,simprocAttr,Ab,IdxVA.ae,IdxVA.fv,VA1.q,VA1.fv];intro hn;refine AY.old ⟨{k:Nat//k<=a.1.length/\BO (λx:Al=> !Bw x.Tile 0 (a.2.Tiles.length - 1)) k (a.1.drop k)=BO (λx:Al=> !Bw x.Tile 0 (a.2.Tiles.length - 1)) 0 a.1},λk=>⟨[(8,.im (.int .i64 k.1)),(7,.im (.int .i64 a.1.length)),(6,.im (.sl false 3 (a.1.map Al.c))),(4,.im (.int .i64 0)),(0,.im (.sl false 3 (a.1.map Al.c))),(1,.im (.fn 119 [] [.ref (Au.c a.2)]))],[],0⟩,λk=>a.1.length - k.1,λk=>⟨by simp[ZG],AP _⟩,⟨⟨0,by simp⟩,by simp only[ZZ,simprocAttr,Ab,IdxVA.ae,IdxVA.fv,VA1.q,VA1.fv,sub]⟩,λk=> ?_⟩;obtain⟨k,Q,z⟩:=k;simp only[ZZ,simprocAttr,Ab,IdxVA.ae,IdxVA.fv,VA1.q,VA1.fv,sub,AO];refine⟨λG=>⟨G,λx Z=> ?_⟩,λG=> ?_⟩
 .rw[Hf Z,BO] at z;refine⟨λh=> ?_,λh=>Js G hn ⟨by omega,by rw[<-z,Af (by simpa using h)]⟩⟩;rw[Ai (by simpa using h)] at z;exact z
 .rw[DB (by omega),BO] at z;exact z
def Qyg{A:Type}(p:A->Bool): ∀(l:List A) (i:Nat),(0<=BO p i l↔l.any p=true)/\ -1<=BO p i l/\BO p i l<(i+l.length:Nat)\/(l=[]/\BO p i l= -1):=by
 intro l;induction l with
 |nil=>intro i;exact .inr ⟨rfl,rfl⟩
 |cons x r ih=>
  intro i;refine .inl ?_;simp only[BO,List.any_cons,Dd]
  split<;>rename_i h
  .simp[h];omega
  .rcases ih (i+1) with ⟨G,z,O⟩|⟨rfl,z⟩
   .simp only[jJ] at h;rw[h,rP];exact⟨G,z,by omega⟩
   .simp[z,h];omega
def LL{A:Type}(p:A->Bool)(l:List A):decide (0<=BO p 0 l)=l.any p:=by
 rw[jK];rcases Qyg p l 0 with ⟨z,_⟩|⟨rfl,G⟩
 .simpa using z
 .simp[G]
def ContVA.ar:List PK->Option ((List Al)×Au)
 |[.val (.sl _ _ O),.val (.fn 119 [] [.ref z])]=>(AU Al.d O).bind λQ=>(Au.d (z.take 2)).bind λG=>some (Q,G)
 |_=>none
def ContVA.ae(a:(List Al)×Au):List PK:=[.val (.sl false 3 (a.1.map Al.c)),.val (.fn 119 [] [.ref (Au.c a.2)])]
def ContVA.le: ∀G a,ContVA.ar G=some a->Cl G (ContVA.ae a):=by
 intro G a h;unfold ContVA.ar at h;split at h
 .simp only[GD,AM] at h;obtain⟨Q,h0,O,z,rfl⟩:=h;exact⟨Gb (FK Al.d_le _ _ h0) (by simp only[Bn];rintro r ⟨y,_,rfl⟩;rfl),iR ⟨oC (HZ.trans_take (Au.d_le _ _ z)),trivial⟩,trivial⟩
 .cases h
def ContVA.fv(a:(List Al)×Au):Bool:=(λl s=>l.any (λx=> !Bw x.Tile 0 (s.Tiles.length - 1))) (a.1) (a.2)
def ContVA.row:AE:=E4 ContVA.ar (λa=>True) (λa=>(D.bool) (ContVA.fv a))
def ContVA.q:=vq ContVA.row rfl
def ContVA.ok:AI 118 ContVA.row:=by
 refine gN ER (tC IdxVA.ok tN) Tryz.func118 rfl (by kernel_rfl) (by kernel_rfl) (ar:=ContVA.ar) (ae:=ContVA.ae) ContVA.le (n:=2) (λ_=>rfl) (by decide) (rc:=(V2)) (re:=(D.bool)) (mN) (f:=ContVA.fv) ?_;intro a z;simp only[Tryz.f118,Option.getD];simp only[ZZ,simprocAttr,Ab,ContVA.ae,ContVA.fv,IdxVA.q,IdxVA.ar,IdxVA.fv];exact LL _ _
def l03Ok.fv(a:Au×A9):Bool:=(λs a=>(CS none a.Tiles && decide (a.Tiles.length<=500)) && a.Tiles.all (λx=>Bw x.Tile 0 (s.Tiles.length - 1))) (a.1) (a.2)
def l03Ok.row:AE:=vK (b2 (qP 2 Au.d_le) (qP 1 A9.d_le)) rB (λa=>True) l03Ok.fv
def l03Ok.q:=Bg (R:=l03Ok.row) rfl
def Yal:=J @l03Ok.fv.eq_1<|J @l03Form.q<|J @l03Form.fv.eq_1<|J @l02Index.q @l02Index.fv.eq_1
def l03Ok.ok:AI 37 l03Ok.row:=by
 refine vw (tC l03Form.ok (tC l02Index.ok tN)) Tryz.func37 ?_;intro a Q;simp only[Tryz.f37,Option.getD];simp only[ZZ,simprocAttr,Ab,Yal];simp only[AO];refine⟨λh=>by simp[h],λh=> ?_⟩;simp only[Kj] at h;refine AY.old ⟨{k:Nat//k<=a.2.Tiles.length/\(a.2.Tiles.drop k).all (λx=>Bw x.Tile 0 (a.1.Tiles.length - 1))=a.2.Tiles.all (λx=>Bw x.Tile 0 (a.1.Tiles.length - 1))},λk=>⟨[(5,.im (.int .i64 k.1)),(4,.im (.bool false)),(0,.ptr 0 0),(1,.ptr 1 0)],[(0,(false,.view (Au.c a.1))),(1,(false,.view (A9.c a.2)))],2⟩,λk=>a.2.Tiles.length - k.1,λk=>⟨by simp[ZG],AP _⟩,⟨⟨0,by simp⟩,by simp only[ZZ,simprocAttr,Ab,Yal,sub]⟩,λk=> ?_⟩;obtain⟨k,Z,z⟩:=k;simp only[ZZ,simprocAttr,Ab,Yal,sub,AO];intro hn;refine⟨λO=>⟨O,λx hx=> ?_⟩,λO=> ?_⟩
 .rw[Hf hx,ET] at z;refine⟨λG=> ?_,λG=>Js O hn ⟨by omega,?_⟩⟩
  .rw[G] at z;simp only[FP] at z;rw[h,<-z];rfl
  .simp only[Kj] at G;rw[G,Ew] at z;exact z
 .rw[DB (by omega)] at z;rw[h,<-z];rfl
end Go.Ae
namespace Go.Ae
open Go.Proofs Go.Lib
def Z5(c:UInt8):Bool:=decide (c.toNat<48)||decide (57<c.toNat)
def tJ(r:List UInt8):Prop:= ∀c,r.head? =some c->Z5 c=false
def aT: ∀{w r:List UInt8},(∀c∈w,Z5 c=true)->tJ r->(w++r).takeWhile Z5=w
 |[],[],_,_=>rfl
 |[],c::r,_,h=>by
  have:=h c rfl
  simp[yS,this]
 |c::w,r,z,h=>by
  have G:=aT (w:=w) (r:=r) (λx O=>z x (BK _ O)) h
  have:=z c (BQ ..)
  simp[yS,this,G]
def VN(k:Nat):(∀c∈itoa (k:Int),Z5 c=false)/\itoa (k:Int)≠[]:=by
 unfold itoa;rw[Af (by omega),Bj];obtain⟨_,z,G⟩:=Qn k k (AP _);refine⟨λc O=> ?_,G⟩
 have:=z c O
 simp only[Z5,Zfd,J3];omega
def Et(k:Nat)(r:List UInt8):tJ (itoa (k:Int)++r):=by
 obtain⟨G,O⟩:=VN k;intro c z;cases h:itoa (k:Int) with
 |nil=>exact absurd h O
 |cons x t=>
  rw[h] at z;simp at z;subst z;exact G x (by rw[h];exact BQ ..)
def MV{a b c d:Nat}(h:itoa (a:Int)++95::itoa (b:Int)=itoa (c:Int)++95::itoa (d:Int)):a=c/\b=d:=by
 have z: ∀k:Nat,∀c∈itoa (k:Int),c≠95:=λk c z e=>by
  have:=(VN k).1 c z
  subst e;revert this;decide
 obtain⟨G,O⟩:=aS (z a) (z c) h;have Q:=aO G;have Z:=aO O;omega
def KB(w:ByteArray)(n:Int):ByteArray:=w++D1 n
def Ec(w:ByteArray)(a b:Int):ByteArray:=KB w a++⟨#[95]⟩++D1 b
def GX(b:ByteArray):List UInt8:=b.data.toList
def JV(w:ByteArray)(a b:Int):GX (Ec w a b)=GX w++(itoa a++95::itoa b):=by simp[GX,Ec,KB,D1]
def Mm{w:ByteArray}{n:Int}(h0: -9223372036854775808<=n)(z:n<=9223372036854775807):(KB w n).size<=w.size+21:=by
 have:=EY h0 z
 simp only[KB,Vn];omega
def bA{w:ByteArray}{a b:Int}(h0: -9223372036854775808<=a)(z:a<=9223372036854775807)(G: -9223372036854775808<=b)(O:b<=9223372036854775807):(Ec w a b).size<=w.size+43:=by
 have Q:=Mm (w:=w) h0 z;have Z:=EY G O;have e3:(⟨#[95]⟩:ByteArray).size=1:=rfl;simp only[Ec,Vn];omega
def fV(g:List Ad)(nm:ByteArray):Int:=BO (λx=>decide (x.Name=nm)) 0 g+1
def BX(g:List Ad):List (D×D):=(g.foldl (λ(s:List (D×D)×Int) x=>(Ek s.1 (.str x.Name) (.int .i64 (s.2+1)),s.2+1)) ([(.str ⟨#[45]⟩,.int .i64 0)],0)).1
def SJ(g:List Ad)(m:List (D×D))(k:Int):(g.foldl (λ(s:List (D×D)×Int) x=>(Ek s.1 (.str x.Name) (.int .i64 (s.2+1)),s.2+1)) (m,k)).2=k+g.length:=by
 induction g generalizing m k with
 |nil=>simp
 |cons x g ih=>simp only[Zi,ih,Dd];omega
def mS(g:List Ad)(x:Ad):BX (g++[x])=Ek (BX g) (.str x.Name) (.int .i64 (g.length+1:Nat)):=by
 have:=SJ g [(.str ⟨#[45]⟩,.int .i64 0)] 0
 simp only[BX,yX,Zi,jN,this];congr 2;omega
def N0(m:List (D×D))(nm:ByteArray):Int:=match lk m (.str nm) with
 |some (.int _ n)=>n
 |_=>0
def E3(g:List Ad)(nm:ByteArray):Int:=N0 (BX g) nm
def Su(m:List (D×D))(a b:ByteArray)(v:D)(z: ∀e∈m,∃s,e.1= .str s):lk (Ek m (.str a) v) (.str b)=if b=a then some v else lk m (.str b):=by
 induction m with
 |nil=>
  simp only[Ek,lk,D.beq,YV];by_cases c:b=a
  .rw[Ai c,Vl c];rfl
  .rw[Af c,PN c];rfl
 |cons e m ih=>
  obtain⟨s,G⟩:=z e (BQ ..);obtain⟨k,w⟩:=e;simp only at G;subst G;have ih:=ih λe O=>z e (BK _ O)
  simp only[Ek,D.beq,YV];by_cases c1:a=s
  .subst c1;rw[Vl rfl];simp only[BV,lk,D.beq,YV];by_cases c:b=a
   .rw[Ai c,Vl c];rfl
   .rw[Af c,PN c];rfl
  .rw[PN c1];simp only[Bs,lk,D.beq,YV];by_cases c:b=s
   .subst c;rw[Vl rfl,Af (λh=>c1 h.symm)];rfl
   .rw[PN c];simp only[Bs];exact ih
def Yy(m:List (D×D))(a:ByteArray)(v:D)(G: ∀e∈m,∃s,e.1= .str s): ∀e∈Ek m (.str a) v,∃s,e.1= .str s:=by
 induction m with
 |nil=>intro e z;simp only[Ek,BL] at z;subst z;exact⟨a,rfl⟩
 |cons x m ih=>
  intro e z;obtain⟨k,w⟩:=x;simp only[Ek] at z;cases h:D.beq (.str a) k with
  |true=>
   rw[h] at z;rcases Bt.1 z with rfl|z
   .exact⟨a,rfl⟩
   .exact G e (BK _ z)
  |false=>
   rw[h] at z;rcases Bt.1 z with rfl|z
   .exact G (k,w) (BQ ..)
   .exact ih (λe z=>G e (BK _ z)) e z
def SK(g:List Ad): ∀e∈BX g,∃s,e.1=D.str s:=by
 have z: ∀(g:List Ad) (m:List (D×D)) (k:Int),(∀e∈m,∃s,e.1=D.str s)-> ∀e∈(g.foldl (λ(s:List (D×D)×Int) x=>(Ek s.1 (.str x.Name) (.int .i64 (s.2+1)),s.2+1)) (m,k)).1,∃s,e.1=D.str s:=by
  intro g;induction g with
  |nil=>intro m k h;exact h
  |cons x g ih=>intro m k h;exact ih _ _ (Yy m x.Name _ h)
 refine z g _ 0 λe G=> ?_
 simp only[BL] at G;subst G;exact⟨_,rfl⟩
def mR{A:Type}{p:A->Bool}{x:A}(G:p x=true): ∀(l:List A) (o:Nat),(∀y∈l,p y=false)->BO p o (l++[x])=((o+l.length:Nat):Int)
 |[],o,_=>by
  simp only[Dj,BO];rw[Ai G];rfl
 |y::l,o,h=>by
  simp only[BG,BO];rw[Af (by rw[h y (BQ ..)];decide),mR G l (o+1) λz O=>h z (BK _ O),Dd,show o+1+l.length=o+(l.length+1) by omega]
def mT{A:Type}{p:A->Bool}{x:A}(z:p x=false): ∀(l:List A) (o:Nat),BO p o (l++[x])=BO p o l
 |[],o=>by
  simp only[Dj,BO];rw[Af (by rw[z];decide)]
 |y::l,o=>by
  simp only[BG,BO,mT z l (o+1)]
def Ub: ∀(n:Nat) {g:List Ad},g.length=n->(g.map Ad.Name).Nodup->(⟨#[45]⟩:ByteArray)∉g.map Ad.Name-> ∀(nm:ByteArray),E3 g nm=if nm=⟨#[45]⟩ then 0 else fV g nm
 |0,g,z,_,_,nm=>by
  obtain rfl:=Vi.1 z;simp only[E3,N0,BX,jN,lk,D.beq,YV];by_cases c:nm=⟨#[45]⟩
  .rw[Ai c,Vl c];rfl
  .rw[Af c,PN c];rfl
 |n+1,g',z,hn,hd,nm=>by
  rcases ZeR g' with rfl|⟨g,x,rfl⟩
  .simp at z
  rw[ZeQ] at z hn hd⊢;rw[En,List.map_singleton] at hn hd;rw[Vp] at hn;have ih:=Ub n (g:=g) (by simpa using z) hn.1 (λh=>hd (Ki _ h));have Q:x.Name∉g.map Ad.Name:=λh=>hn.2.2 _ h _ (BL.2 rfl) rfl
  have O:x.Name≠⟨#[45]⟩:=λh=>hd (QG _ (BL.2 h.symm))
  simp only[E3,N0,mS,Su _ _ _ _ (SK g)];by_cases c:nm=x.Name
  .subst c;rw[Ai rfl,Af O];simp only[fV];rw[mR (p:=λy:Ad=>decide (y.Name=x.Name)) (by simp) g 0 λy Z=>PN λe=>Q (Bn.2 ⟨y,Z,e⟩),FC];rfl
  .rw[Af c]
   have:=ih nm
   simp only[E3,N0] at this;rw[this];by_cases G:nm=⟨#[45]⟩
   .rw[Ai G,Ai G]
   .rw[Af G,Af G];simp only[fV];rw[mT (p:=λy:Ad=>decide (y.Name=nm)) (PN λe=>c e.symm)]
def KA:tJ []:=λc z=>by cases z
end Go.Ae
namespace Go.Ae
open Go.Proofs
def gR{a b c:A7}(z:Cb a b=true)(G:Cb b c=true):Cb a c=true:=by
 simp only[Cb,H8,AW,Cy] at*;omega
def oQ(a:A7):Cb a a=false:=by simp[Cb]
def nE: ∀(l:List Al) (q:Option A7),CS q l=true->(∀p,q=some p-> ∀(i:Nat) (x:Al),l[i]? =some x->Cb p x.At=true)/\
 ∀(i j:Nat) (x y:Al),i<j->l[i]? =some x->l[j]? =some y->Cb x.At y.At=true
 |[],q,_=>⟨λ_ _ i x h=>by simp at h,λi j x y _ h=>by simp at h⟩
 |z::r,q,h=>by
  rw[nC] at h;simp only[AW] at h;obtain⟨_,_,Q,h4⟩:=h;obtain⟨Z,i2⟩:=nE r (some z.At) h4;refine⟨?_,?_⟩
  .rintro p rfl i x G;cases i with
   |zero=>
    simp only[HA,AM] at G;subst G;exact Q
   |succ i=>
    simp only[PG] at G;exact gR Q (Z _ rfl i x G)
  .intro i j x y aa G O;cases j with
   |zero=>omega
   |succ j=>
    simp only[PG] at O;cases i with
    |zero=>
     simp only[HA,AM] at G;subst G;exact Z _ rfl j y O
    |succ i=>
     simp only[PG] at G;exact i2 i j x y (by omega) G O
def xR{A:Type}(p:A->Bool): ∀(l:List A) (o k:Nat) (x:A),l[k]? =some x->p x=true->(∀i y,i<k->l[i]? =some y->p y=false)->BO p o l=((o+k:Nat):Int)
 |[],o,k,x,h,_,_=>by simp at h
 |z::r,o,k,x,h,hp,hn=>by
  simp only[BO];cases k with
  |zero=>
   simp only[HA,AM] at h;subst h;rw[Ai hp];rfl
  |succ k=>
   have:=hn 0 z (by omega) (by simp)
   rw[Af (by simp[this])];rw[xR p r (o+1) k x (by simpa using h) hp (λi y O G=>hn (i+1) y (by omega) (by simpa using G))];congr 1;omega
def Qrf{A:Type}(p:A->Bool): ∀(l:List A) (o:Nat),(∀(i:Nat) (y:A),l[i]? =some y->p y=false)->BO p o l= -1
 |[],o,_=>rfl
 |z::r,o,hn=>by
  simp only[BO]
  have:=hn 0 z (by simp)
  rw[Af (by simp[this])];exact Qrf p r (o+1) (λi y G=>hn (i+1) y (by simpa using G))
def l03Index.fv(a:A9×A7):Int:=(λa p=>BO (λx=>decide (x.At=p)) 0 a.Tiles) (a.1) (a.2)
def l03Index.row:AE:=vK (b2 (qP 1 A9.d_le) (qR A7.d_le)) rI (λa=>CS none a.1.Tiles=true) l03Index.fv
def l03Index.q:=Bg (R:=l03Index.row) rfl
def Yam:=J @l03Index.fv.eq_1 (J @l_LessPoint.q @l_LessPoint.fv.eq_1)
def l03Index.ok:AI 131 l03Index.row:=by
 refine vw (tC l_LessPoint.ok tN) Tryz.func131 ?_;intro a ac;simp only[Tryz.f131,Option.getD];simp only[ZZ,simprocAttr,Ab,Yam];intro hn;refine AY.old ⟨{p:Nat×Nat//p.1<=p.2/\p.2<=a.1.Tiles.length/\(∀i x,i<p.1->a.1.Tiles[i]? =some x->Cb x.At a.2=true)/\(∀i x,p.2<=i->a.1.Tiles[i]? =some x->Cb x.At a.2=false)},λp=>⟨[(5,.im (.int .i64 p.1.1)),(6,.im (.int .i64 p.1.2)),(4,.im (.int .i64 0)),(3,.ptr 1 0),(0,.ptr 0 0)],[(1,(true,.cells 72 [.im (.int .i64 a.2.X),.im (.int .i64 a.2.Y)])),(0,(false,.view [.sl false 3 (a.1.Tiles.map Al.c)]))],2⟩,λp=>p.1.2 - p.1.1,λp=>⟨by simp[ZG],AP _⟩,⟨⟨(0,a.1.Tiles.length),by simp,by simp,by simp,?_⟩,by simp only[ZZ,simprocAttr,Ab,Yam,sub]⟩,λp=> ?_⟩
 .intro i x G Q
  have:=(Cu.1 Q).1
  simp only at G;omega
 obtain⟨⟨lo,G⟩,h1,h2,h3,h4⟩:=p;simp only at h1 h2 h3 h4;simp only[ZZ,simprocAttr,Ab,Yam,sub,AO];obtain⟨_,O⟩:=nE _ _ ac;have ab: ∀(i:Nat) (x:Al),i<lo->a.1.Tiles[i]? =some x->x.At≠a.2:=by
  intro i x G Q he
  have:=h3 i x G Q
  rw[he,oQ] at this;cases this
 refine⟨λad=> ?_,λad=>⟨λhl=>⟨hl,λx Q=>⟨λhe=> ?_,λhe=> ?_⟩⟩,λhl=> ?_⟩⟩
 .have hm:IntKind.wrap .i64 ((IntKind.wrap .i64 ((lo:Int)+G)).tdiv 2)=(((lo+G)/2:Nat):Int):=by
   rw[AA (x:=(lo:Int)+G) (by omega) (by omega),Zdw (by omega),AA (by omega) (by omega)];omega
  rw[hm];refine⟨by omega,by omega,λx Q=>⟨λhb=> ?_,λhb=> ?_⟩⟩
  .rw[Bj] at Q;refine⟨⟨((lo+G)/2+1,G),by simp only;omega,h2,λi y aa z=> ?_,h4⟩,by simp only;omega,?_,rfl⟩
   .simp only at aa;rcases FB i ((lo+G)/2) with h|h
    .exact gR (O i _ y x h z Q) hb
    .have:i=(lo+G)/2:=by omega
     subst this;rw[Q] at z;exact AB z▸hb
   .rw[AA (by omega) (by omega)];simp only;omega
  .rw[Bj] at Q;refine⟨⟨(lo,(lo+G)/2),by simp only;omega,by simp only;omega,h3,λi y aa z=> ?_⟩,by simp only;omega,rfl,rfl⟩;simp only at aa;rcases FB ((lo+G)/2) i with h|h
   .cases hl:Cb y.At a.2 with
    |false=>rfl
    |true=>exact absurd (gR (O _ i x y h Q z) hl) hb
   .have:i=(lo+G)/2:=by omega
    subst this;rw[Q] at z;obtain rfl:=AB z;simpa using hb
 .have af:x.At=a.2:=by
   obtain⟨e1,e2⟩:=he;have e1:x.At.X=a.2.X:=by simpa using e1
   have e2:x.At.Y=a.2.Y:=by simpa using e2
   rw[<-A7.eta x.At,<-A7.eta a.2,e1,e2]
  rw[xR _ a.1.Tiles 0 lo x Q (by simp[af]) (λi y G z=>by simp[ab i y G z])];simp
 .refine (Qrf _ _ _ ?_).symm;intro i y z;rcases rN i lo with h|h|h
  .simp[ab i y h z]
  .subst h;rw[Q] at z;obtain rfl:=AB z;simp only[J3];intro h9;exact he (by simp[h9])
  .simp only[J3];intro h9;have Z:=O lo i x y h Q z;rw[h9] at Z
   have:=h4 lo x (by omega) Q
   rw[this] at Z;cases Z
 .refine (Qrf _ _ _ ?_).symm;intro i y z
  have:=(Cu.1 z).1
  simp[ab i y (by omega) z]
end Go.Ae
namespace Go.Ae
open Go.Proofs Go.Lib
def Cg(w:ByteArray)(a b c:Int):ByteArray:=Ec w a b++⟨#[95]⟩++D1 c
def FZ(w:ByteArray)(a b c:Int):GX (Cg w a b c)=GX w++(itoa a++95::(itoa b++95::itoa c)):=by simp[GX,Cg,Ec,KB,D1]
def bM{w:ByteArray}{a b c:Int}(Q: -1000000<=a/\a<=1000000)(Z: -1000000<=b/\b<=1000000)(hc: -1000000<=c/\c<=1000000):(Cg w a b c).size<=w.size+65:=by
 have z:=bA (w:=w) (a:=a) (b:=b) (by omega) (by omega) (by omega) (by omega);have G:=EY (n:=c) (by omega) (by omega);have O:(⟨#[95]⟩:ByteArray).size=1:=rfl;simp only[Cg,Vn];omega
def Sk(k:Nat): ∀c∈itoa (k:Int),c≠95:=λc z e=>by
 have:=(VN k).1 c z
 subst e;revert this;decide
def MU{a b c d e f:Nat}(h:itoa (a:Int)++95::(itoa (b:Int)++95::itoa (c:Int))=itoa (d:Int)++95::(itoa (e:Int)++95::itoa (f:Int))):a=d/\b=e/\c=f:=by
 obtain⟨z,G⟩:=aS (Sk a) (Sk d) h
 have:=aO z
 obtain⟨O,Q⟩:=MV G;exact⟨by omega,O,Q⟩
def Bu(k:Nat):Nat:=2*k*(k - 1)
def CB(s:Au)(k j:Nat):Ad:=
 if j<s.Glues.length*k then ⟨Ec ⟨#[103]⟩ ((j/k+1:Nat):Int) ((j % k:Nat):Int),((s.Glues[j/k]?).map Ad.Strength).getD 0⟩
 else let r:=j - s.Glues.length*k;let i:=r/Bu k;let q:=r % Bu k
  if q<k*(k - 1) then ⟨Cg ⟨#[104]⟩ (i:Nat) ((q % (k - 1):Nat):Int) ((q/(k - 1):Nat):Int),1⟩
  else ⟨Cg ⟨#[118]⟩ (i:Nat) (((q - k*(k - 1)) % k:Nat):Int) (((q - k*(k - 1))/k:Nat):Int),1⟩
def Cv(s:Au)(k:Nat):Nat:=s.Glues.length*k+s.Tiles.length*Bu k
def Dg(s:Au)(k:Nat):List Ad:=(List.range (Cv s k)).map (CB s k)
def FV{s:Au}{k i c:Nat}(O:1<=k/\k<=4)(G:i<s.Glues.length)(z:c<k):CB s k (i*k+c)=⟨Ec ⟨#[103]⟩ ((i+1:Nat):Int) (c:Nat),((s.Glues[i]?).map Ad.Strength).getD 0⟩:=by
 rcases (by omega:k=1\/k=2\/k=3\/k=4) with rfl|rfl|rfl|rfl
 all_goals
  simp only[CB];rw[Ai (by omega)]
 .rw[show (i*1+c)/1=i by omega,show (i*1+c) % 1=c by omega]
 .rw[show (i*2+c)/2=i by omega,show (i*2+c) % 2=c by omega]
 .rw[show (i*3+c)/3=i by omega,show (i*3+c) % 3=c by omega]
 .rw[show (i*4+c)/4=i by omega,show (i*4+c) % 4=c by omega]
def FW{s:Au}{k i x y:Nat}(z:1<=k/\k<=4)(G:x<k - 1)(O:y<k):CB s k (s.Glues.length*k+i*Bu k+(y*(k - 1)+x))=⟨Cg ⟨#[104]⟩ (i:Nat) (x:Nat) (y:Nat),1⟩:=by
 obtain⟨n,hn⟩: ∃n,n=s.Glues.length:=⟨_,rfl⟩;rcases (by omega:k=2\/k=3\/k=4) with rfl|rfl|rfl
 all_goals
  simp only[CB,Bu,<-hn];rw[Af (by omega)]
 .rw[show (n*2+i*(2*2*(2 - 1))+(y*(2 - 1)+x) - n*2) % (2*2*(2 - 1))=y*(2 - 1)+x by omega,show (n*2+i*(2*2*(2 - 1))+(y*(2 - 1)+x) - n*2)/(2*2*(2 - 1))=i by omega,Ai (by omega),show (y*(2 - 1)+x) % (2 - 1)=x by omega,show (y*(2 - 1)+x)/(2 - 1)=y by omega]
 .rw[show (n*3+i*(2*3*(3 - 1))+(y*(3 - 1)+x) - n*3) % (2*3*(3 - 1))=y*(3 - 1)+x by omega,show (n*3+i*(2*3*(3 - 1))+(y*(3 - 1)+x) - n*3)/(2*3*(3 - 1))=i by omega,Ai (by omega),show (y*(3 - 1)+x) % (3 - 1)=x by omega,show (y*(3 - 1)+x)/(3 - 1)=y by omega]
 .rw[show (n*4+i*(2*4*(4 - 1))+(y*(4 - 1)+x) - n*4) % (2*4*(4 - 1))=y*(4 - 1)+x by omega,show (n*4+i*(2*4*(4 - 1))+(y*(4 - 1)+x) - n*4)/(2*4*(4 - 1))=i by omega,Ai (by omega),show (y*(4 - 1)+x) % (4 - 1)=x by omega,show (y*(4 - 1)+x)/(4 - 1)=y by omega]
def FX{s:Au}{k i x y:Nat}(z:1<=k/\k<=4)(G:x<k)(O:y<k - 1):CB s k (s.Glues.length*k+i*Bu k+(k*(k - 1)+(y*k+x)))=⟨Cg ⟨#[118]⟩ (i:Nat) (x:Nat) (y:Nat),1⟩:=by
 obtain⟨n,hn⟩: ∃n,n=s.Glues.length:=⟨_,rfl⟩;rcases (by omega:k=2\/k=3\/k=4) with rfl|rfl|rfl
 all_goals
  simp only[CB,Bu,<-hn];rw[Af (by omega)]
 .rw[show (n*2+i*(2*2*(2 - 1))+(2*(2 - 1)+(y*2+x)) - n*2) % (2*2*(2 - 1))=2*(2 - 1)+(y*2+x) by omega,show (n*2+i*(2*2*(2 - 1))+(2*(2 - 1)+(y*2+x)) - n*2)/(2*2*(2 - 1))=i by omega,Af (by omega),show (2*(2 - 1)+(y*2+x) - 2*(2 - 1)) % 2=x by omega,show (2*(2 - 1)+(y*2+x) - 2*(2 - 1))/2=y by omega]
 .rw[show (n*3+i*(2*3*(3 - 1))+(3*(3 - 1)+(y*3+x)) - n*3) % (2*3*(3 - 1))=3*(3 - 1)+(y*3+x) by omega,show (n*3+i*(2*3*(3 - 1))+(3*(3 - 1)+(y*3+x)) - n*3)/(2*3*(3 - 1))=i by omega,Af (by omega),show (3*(3 - 1)+(y*3+x) - 3*(3 - 1)) % 3=x by omega,show (3*(3 - 1)+(y*3+x) - 3*(3 - 1))/3=y by omega]
 .rw[show (n*4+i*(2*4*(4 - 1))+(4*(4 - 1)+(y*4+x)) - n*4) % (2*4*(4 - 1))=4*(4 - 1)+(y*4+x) by omega,show (n*4+i*(2*4*(4 - 1))+(4*(4 - 1)+(y*4+x)) - n*4)/(2*4*(4 - 1))=i by omega,Af (by omega),show (4*(4 - 1)+(y*4+x) - 4*(4 - 1)) % 4=x by omega,show (4*(4 - 1)+(y*4+x) - 4*(4 - 1))/4=y by omega]
def VQ{s:Au}{k j:Nat}(O:1<=k/\k<=4)(G:j<Cv s k):
 (∃i c,i<s.Glues.length/\c<k/\j=i*k+c)\/(∃i x y,i<s.Tiles.length/\x<k - 1/\y<k/\j=s.Glues.length*k+i*Bu k+(y*(k - 1)+x))\/ ∃i x y,i<s.Tiles.length/\x<k/\y<k - 1/\j=s.Glues.length*k+i*Bu k+(k*(k - 1)+(y*k+x)):=by
 obtain⟨n,hn⟩: ∃n,n=s.Glues.length:=⟨_,rfl⟩;obtain⟨t,ht⟩: ∃t,t=s.Tiles.length:=⟨_,rfl⟩;simp only[Cv,Bu,<-hn,<-ht] at G⊢;rcases (by omega:k=1\/k=2\/k=3\/k=4) with rfl|rfl|rfl|rfl
 .exact .inl ⟨j,0,by omega,by omega,by omega⟩
 .by_cases h:j<n*2
  .exact .inl ⟨j/2,j % 2,by omega,by omega,by omega⟩
  .by_cases z:(j - n*2) % 4<2
   .exact .inr (.inl ⟨(j - n*2)/4,((j - n*2) % 4) % 1,((j - n*2) % 4)/1,by omega,by omega,by omega,by omega⟩)
   .exact .inr (.inr ⟨(j - n*2)/4,((j - n*2) % 4 - 2) % 2,((j - n*2) % 4 - 2)/2,by omega,by omega,by omega,by omega⟩)
 .by_cases h:j<n*3
  .exact .inl ⟨j/3,j % 3,by omega,by omega,by omega⟩
  .by_cases z:(j - n*3) % 12<6
   .exact .inr (.inl ⟨(j - n*3)/12,((j - n*3) % 12) % 2,((j - n*3) % 12)/2,by omega,by omega,by omega,by omega⟩)
   .exact .inr (.inr ⟨(j - n*3)/12,((j - n*3) % 12 - 6) % 3,((j - n*3) % 12 - 6)/3,by omega,by omega,by omega,by omega⟩)
 .by_cases h:j<n*4
  .exact .inl ⟨j/4,j % 4,by omega,by omega,by omega⟩
  .by_cases z:(j - n*4) % 24<12
   .exact .inr (.inl ⟨(j - n*4)/24,((j - n*4) % 24) % 3,((j - n*4) % 24)/3,by omega,by omega,by omega,by omega⟩)
   .exact .inr (.inr ⟨(j - n*4)/24,((j - n*4) % 24 - 12) % 4,((j - n*4) % 24 - 12)/4,by omega,by omega,by omega,by omega⟩)
def Hr{w v r q:List UInt8}(hw:w.all Z5=true)(Z:v.all Z5=true)(Q:tJ r)(hq:tJ q)(h:w++r=v++q):w=v/\r=q:=by
 have G:=aT (λc z=>CM.1 hw c z) Q;have O:=aT (λc z=>CM.1 Z c z) hq;rw[h,O] at G;subst G;exact⟨rfl,List.append_cancel_left h⟩
def Xd{a b c d e:Nat}{w:List UInt8}(z:w.all Z5=true)(hn:w≠[103]):[103]++(itoa (a:Int)++95::itoa (b:Int))≠w++(itoa (c:Int)++95::(itoa (d:Int)++95::itoa (e:Int))):=λh=>
 hn (Hr (by decide) z (Et a _) (Et c _) h).1.symm
def Zw{s:Au}{k j j':Nat}(O:1<=k/\k<=4)(hj:j<Cv s k)(aa:j'<Cv s k)(h:(CB s k j).Name=(CB s k j').Name):j=j':=by
 have z:=De GX h;rcases VQ O hj with ⟨i,c,h1,h2,rfl⟩|⟨i,x,y,h1,h2,h3,rfl⟩|⟨i,x,y,h1,h2,h3,rfl⟩<;>rcases VQ O aa with ⟨i',c',Z,G,rfl⟩|⟨i',x',y',Z,G,Q,rfl⟩|⟨i',x',y',Z,G,Q,rfl⟩
 .rw[FV O h1 h2,FV O Z G] at z;simp only[JV] at z;obtain⟨e1,e2⟩:=MV (Hr (w:=[103]) (v:=[103]) (by decide) (by decide) (Et _ _) (Et _ _) z).2;obtain rfl:i=i':=by omega
  rw[e2]
 .rw[FV O h1 h2,FW O G Q] at z;simp only[JV,FZ] at z;exact absurd z (Xd (w:=[104]) (by decide) (by decide))
 .rw[FV O h1 h2,FX O G Q] at z;simp only[JV,FZ] at z;exact absurd z (Xd (w:=[118]) (by decide) (by decide))
 .rw[FW O h2 h3,FV O Z G] at z;simp only[JV,FZ] at z;exact absurd z.symm (Xd (w:=[104]) (by decide) (by decide))
 .rw[FW O h2 h3,FW O G Q] at z;simp only[FZ] at z;obtain⟨e1,e2,e3⟩:=MU (Hr (w:=[104]) (v:=[104]) (by decide) (by decide) (Et _ _) (Et _ _) z).2;rw[e1,e2,e3]
 .rw[FW O h2 h3,FX O G Q] at z;simp only[FZ] at z;exact absurd (Hr (w:=[104]) (v:=[118]) (by decide) (by decide) (Et _ _) (Et _ _) z).1 (by decide)
 .rw[FX O h2 h3,FV O Z G] at z;simp only[JV,FZ] at z;exact absurd z.symm (Xd (w:=[118]) (by decide) (by decide))
 .rw[FX O h2 h3,FW O G Q] at z;simp only[FZ] at z;exact absurd (Hr (w:=[118]) (v:=[104]) (by decide) (by decide) (Et _ _) (Et _ _) z).1 (by decide)
 .rw[FX O h2 h3,FX O G Q] at z;simp only[FZ] at z;obtain⟨e1,e2,e3⟩:=MU (Hr (w:=[118]) (v:=[118]) (by decide) (by decide) (Et _ _) (Et _ _) z).2;rw[e1,e2,e3]
def mY{s:Au}{k:Nat}(Q:1<=k/\k<=4):((Dg s k).map Ad.Name).Nodup:=by
 rw[Dg,Km,List.Nodup,List.pairwise_map];refine List.Pairwise.imp_of_mem (R:=λa b=>a≠b) (λ{a b} G O z e=>z ?_) zJ;exact Zw Q (Bk.1 G) (Bk.1 O) e
def Tj{s:Au}{k j:Nat}(z:j<Cv s k):(Dg s k)[j]? =some (CB s k j):=by
 rw[Dg,Dt,FN z];rfl
def fW{s:Au}{k j:Nat}(O:1<=k/\k<=4)(z:j<Cv s k):fV (Dg s k) (CB s k j).Name=((j+1:Nat):Int):=by
 simp only[fV];rw[xR _ _ 0 j (CB s k j) (Tj z) (by simp) λi y Q G=> ?_]
 .omega
 .rw[Tj (by omega)] at G;obtain rfl:=AB G;refine PN λe=> ?_
  have:=Zw O (by omega) z e
  omega
def Ml(s:Au)(k:Nat)(O:1<=k/\k<=4):(⟨#[45]⟩:ByteArray)∉(Dg s k).map Ad.Name:=by
 intro hm;obtain⟨x,hx,e⟩:=Bn.1 hm;rw[Dg] at hx;obtain⟨j,hj,rfl⟩:=Bn.1 hx;rw[Bk] at hj;have z:=De GX e;rcases VQ O hj with ⟨i,c,Q,G,rfl⟩|⟨i,x,y,Q,G,Z,rfl⟩|⟨i,x,y,Q,G,Z,rfl⟩
 .rw[FV O Q G] at z;simp only[JV] at z;exact absurd (Hr (w:=[103]) (v:=[45]) (r:=itoa ((i+1:Nat):Int)++95::itoa (c:Int)) (q:=[]) (by decide) (by decide) (Et _ _) KA z).1 (by decide)
 .rw[FW O G Z] at z;simp only[FZ] at z;exact absurd (Hr (w:=[104]) (v:=[45]) (r:=itoa (i:Int)++95::(itoa (x:Int)++95::itoa (y:Int))) (q:=[]) (by decide) (by decide) (Et _ _) KA z).1 (by decide)
 .rw[FX O G Z] at z;simp only[FZ] at z;exact absurd (Hr (w:=[118]) (v:=[45]) (r:=itoa (i:Int)++95::(itoa (x:Int)++95::itoa (y:Int))) (q:=[]) (by decide) (by decide) (Et _ _) KA z).1 (by decide)
def Ls(w:ByteArray)(a b c:Nat):Cg w (a:Nat) (b:Nat) (c:Nat)≠⟨#[45]⟩:=λe=>by
 have z:=De GX e;rw[FZ] at z
 have:(GX w++(itoa (a:Int)++95::(itoa (b:Int)++95::itoa (c:Int)))).length=1:=by rw[z];rfl
 simp at this;omega
def XH(w:ByteArray)(a b:Nat):Ec w (a:Nat) (b:Nat)≠⟨#[45]⟩:=λe=>by
 have z:=De GX e;rw[JV] at z;obtain⟨O,G⟩:=VN a;have Q:=rL.2 G
 have:(GX w++(itoa (a:Int)++95::itoa (b:Int))).length=1:=by rw[z];rfl
 simp at this;omega
end Go.Ae
namespace Go.Ae
open Go.Proofs
def GN(p:A7)(t:Int):Bool->List Al->List Al
 |_,[]=>[]
 |false,x::r=>if Cb p x.At=true then ⟨p,t⟩::x::GN p t true r else x::GN p t false r
 |true,x::r=>x::GN p t true r
def I3(p:A7):List Al->Bool
 |[]=>false
 |x::r=>if Cb p x.At=true then true else I3 p r
def Gu(a:A9)(p:A7)(t:Int):A9:=⟨GN p t false a.Tiles++(if I3 p a.Tiles=true then [] else [⟨p,t⟩])⟩
def pS(p:A7)(t:Int): ∀(l:List Al),GN p t true l=l
 |[]=>rfl
 |x::r=>by simp only[GN,pS p t r]
def uY(p:A7)(t:Int)(x:Al): ∀(l:List Al),GN p t false (l++[x])=GN p t false l++(if I3 p l=true then [x] else if Cb p x.At=true then [⟨p,t⟩,x] else [x])
 |[]=>by simp only[Dj,GN,I3];split<;>simp[GN]
 |y::r=>by
  simp only[BG,GN,I3];split
  .rw[pS,pS];simp
  .rw[uY p t x r];simp
def uJ(p:A7)(x:Al): ∀(l:List Al),I3 p (l++[x])=(I3 p l||Cb p x.At)
 |[]=>by simp only[Dj,I3];split<;>simp_all
 |y::r=>by
  simp only[BG,I3];split
  .simp
  .exact uJ p x r
def Qua(p:A7)(t:Int): ∀(l:List Al),(GN p t false l).length<=l.length+1
 |[]=>by simp[GN]
 |y::r=>by
  simp only[GN];split
  .rw[pS];simp
  .have:=Qua p t r
   simp;omega
def l03Put.fv(a:A9×A7×Int):A9:=(Gu) (a.1) (a.2.1) (a.2.2)
def l03Put.row:AE:=vK (b3 (qP 1 A9.d_le) (qR A7.d_le) qI) (rA A9.d_le) (λa=>a.1.Tiles.length<=1000000) l03Put.fv
def l03Put.q:=Bg (R:=l03Put.row) rfl
def jA:=J @l03Put.fv.eq_1 (J @l_LessPoint.q @l_LessPoint.fv.eq_1)
def l03Put.ok:AI 42 l03Put.row:=by
 refine vw (tC l_LessPoint.ok tN) Tryz.func42 ?_;intro a ab;simp only[Tryz.f42,Option.getD];simp only[ZZ,simprocAttr,Ab,jA];refine AY.ren ⟨{k:Nat//k<=a.1.Tiles.length},λk=>⟨[(9,.im (.int .i64 k.1)),(8,.im (.bool (I3 a.2.1 (a.1.Tiles.take k.1)))),(7,.ptr 3 0),(6,.ptr 2 0),(4,.ptr 1 0),(0,.ptr 0 0),(2,.im (.int .i64 a.2.2))],[(3,(true,.cells 38 [.own 4])),(4,(true,.arr 89 3 ((GN a.2.1 a.2.2 false (a.1.Tiles.take k.1)).map Al.c))),(2,(true,.cells 38 [.im (.sl true 0 [])])),(1,(true,.cells 72 [.im (.int .i64 a.2.1.X),.im (.int .i64 a.2.1.Y)])),(0,(false,.view [.sl false 3 (a.1.Tiles.map Al.c)]))],5⟩,λk=>a.1.Tiles.length - k.1,λk=>⟨by simp[ZG],by simp⟩,⟨⟨0,by simp⟩,[(4,none)],?_⟩,λk=> ?_⟩
 .simp only[Ar];simp only[ZZ,simprocAttr,Ab,jA,AS,AR,Eo,GN,I3,BD]
  try simp
 obtain⟨k,ac⟩:=k;simp only[ZZ,simprocAttr,Ab,jA,AO];intro _;have Z:=Qua a.2.1 a.2.2 (a.1.Tiles.take k);have aa:(a.1.Tiles.take k).length<=k:=by simp;omega
 refine⟨λQ=>⟨λhd=>⟨Q,λx O=>⟨λG=> ?_,λG=> ?_⟩⟩,λhd=> ?_⟩,λQ=> ?_⟩
 .have z:a.1.Tiles.take (k+1)=a.1.Tiles.take k++[x]:=by rw[IA,O];rfl
  refine⟨by simp[Bl,Bo,D.one],by omega,Q,λy hy=>⟨by simp[Bl,Bo,D.one],by simp;omega,⟨⟨k+1,by omega⟩,[(4,some 8)],by simp only;omega,?_⟩⟩⟩;rw[O] at hy;obtain rfl:=AB hy;simp only[Ar];simp only[ZZ,simprocAttr,Ab,jA];refine⟨by simp,⟨?_,?_⟩,?_⟩
  .rw[AA (by omega) (by omega)];omega
  .rw[z,uJ,hd,G];rfl
  .rw[z,uY,hd,G];simp[Al.c]
 .have z:a.1.Tiles.take (k+1)=a.1.Tiles.take k++[x]:=by rw[IA,O];rfl
  refine⟨Q,λy hy=>⟨by simp[Bl,Bo,D.one],by omega,⟨⟨k+1,by omega⟩,[(4,some 6)],by simp only;omega,?_⟩⟩⟩;rw[O] at hy;obtain rfl:=AB hy;simp only[jJ] at G;simp only[Ar];simp only[ZZ,simprocAttr,Ab,jA];refine⟨by simp,⟨?_,?_⟩,?_⟩
  .rw[AA (by omega) (by omega)];omega
  .rw[z,uJ,hd,G];rfl
  .rw[z,uY,hd,G];simp[Al.c]
 .simp only[Kj] at hd;refine⟨Q,λx O=>⟨by simp[Bl,Bo,D.one],by omega,⟨⟨k+1,by omega⟩,[(4,some 6)],by simp only;omega,?_⟩⟩⟩;have z:a.1.Tiles.take (k+1)=a.1.Tiles.take k++[x]:=by rw[IA,O];rfl
  simp only[Ar];simp only[ZZ,simprocAttr,Ab,jA];refine⟨by simp,⟨?_,?_⟩,?_⟩
  .rw[AA (by omega) (by omega)];omega
  .rw[z,uJ,hd];rfl
  .rw[z,uY,hd];simp[Al.c]
 .rw[F9 (by omega)] at Z aa⊢;refine⟨λhd=>⟨by simp[Bl,Bo,D.one],by omega,?_⟩,λhd=> ?_⟩
  .have e:List.map Al.c (GN a.2.1 a.2.2 false a.1.Tiles)++[[D.int .i64 a.2.1.X,D.int .i64 a.2.1.Y,D.int .i64 a.2.2]]=List.map Al.c (GN a.2.1 a.2.2 false a.1.Tiles++[⟨a.2.1,a.2.2⟩]):=by simp[Al.c]
   rw[e,Al.d_R];simp[Gu,hd]
  .simp only[Kj] at hd;simp[Gu,hd]
def jT(a:A9)(p:A7):Int:=((a.Tiles.find? (λx=>decide (x.At=p))).map Al.Tile).getD (-1)
def nH{A:Type}(p:A->Bool): ∀(l:List A) (o:Nat),(l.find? p=none/\BO p o l= -1)\/ ∃(i:Nat) (x:A),l.find? p=some x/\BO p o l=((o+i:Nat):Int)/\l[i]? =some x
 |[],o=> .inl ⟨rfl,rfl⟩
 |z::r,o=>by
  simp only[BO,zM];cases h:p z
  .rcases nH p r (o+1) with ⟨G,O⟩|⟨i,x,G,O,Q⟩
   .exact .inl ⟨by simpa using G,by simpa using O⟩
   .exact .inr ⟨i+1,x,by simpa using G,by simp[O];omega,by simpa using Q⟩
  .exact .inr ⟨0,z,rfl,by simp,by simp⟩
def l02Tile.fv(a:Au×ByteArray):Int:=(λs n=>BO (λg=>decide (g.Name=n)) 0 s.Tiles) (a.1) (a.2)
def l02Tile.row:AE:=vK (b2 (qP 2 Au.d_le) qT) rI (λa=>True) l02Tile.fv
def l02Tile.q:=Bg (R:=l02Tile.row) rfl
def l02Tile.ok:AI 74 l02Tile.row:=by
 refine vw tN Tryz.func74 ?_;intro a O;simp only[Tryz.f74,Option.getD];simp only[ZZ,simprocAttr,Ab,l02Tile.fv];refine AY.old ⟨{k:Nat//k<=a.1.Tiles.length/\BO (λg:Tile=>decide (g.Name=a.2)) k (a.1.Tiles.drop k)=BO (λg:Tile=>decide (g.Name=a.2)) 0 a.1.Tiles},λk=>⟨[(5,.im (.int .i64 k.1)),(4,.im (.int .i64 0)),(0,.ptr 0 0),(1,.im (.str a.2))],[(0,(false,.view (Au.c a.1)))],1⟩,λk=>a.1.Tiles.length - k.1,λk=>⟨by simp[ZG],AP _⟩,⟨⟨0,by simp⟩,by simp only[ZZ,simprocAttr,Ab,l02Tile.fv,sub]⟩,λk=> ?_⟩;obtain⟨k,Q,z⟩:=k;simp only[ZZ,simprocAttr,Ab,l02Tile.fv,sub,AO];intro hn;refine⟨λG=>⟨G,λx Z=> ?_⟩,λG=> ?_⟩
 .rw[Hf Z,BO] at z;refine⟨λh=> ?_,λh=>Js G hn ⟨by omega,by rw[<-z,Af (by simpa using h)]⟩⟩;rw[Ai (by simpa using h)] at z;exact z
 .rw[DB (by omega),BO] at z;omega
def Ll(s:Au)(a:A9):Prop:=CS none a.Tiles=true/\ ∀x∈a.Tiles,bN s x.Tile
def Ov{s:Au}(h:CY s)(g:Int):0<=Qy s g/\Qy s g<=4:=by
 simp only[Qy];split
 .cases hx:s.Glues[(g - 1).toNat]? with
  |none=>simp
  |some x=>have:=h.2.2 x (Bf hx);simp;omega
 .omega
def SU{p:A7}(h:Ht p=true):Qw p:=by
 simp only[Ht,Bw,AW,Cy] at h;simp only[Qw];omega
def iC: ∀(l:List Al) (q:Option A7),CS q l=true-> ∀x∈l,Ht x.At=true/\Bw x.Tile 0 159=true
 |[],_,_,x,G=>by cases G
 |z::r,q,h,x,G=>by
  rw[nC] at h;simp only[AW] at h;rcases Bt.1 G with rfl|G
  .exact⟨h.1,h.2.1⟩
  .exact iC r _ h.2.2.2 x G
def GW(a:A9)(i d:Int):Int:=BO (λx=>decide (x.At=UV ((a.Tiles[i.toNat]?.map Al.At).getD ⟨0,0⟩) d)) 0 a.Tiles
def l06Neighbor.fv(a:A9×Int×Int):Int:=(GW) (a.1) (a.2.1) (a.2.2)
def l06Neighbor.row:AE:=vK (b3 (qP 1 A9.d_le) qI qI) rI (λa=>CS none a.1.Tiles=true/\0<=a.2.1/\a.2.1<a.1.Tiles.length/\0<=a.2.2/\a.2.2<=3) l06Neighbor.fv
def l06Neighbor.q:=Bg (R:=l06Neighbor.row) rfl
def l06Neighbor.ok:AI 110 l06Neighbor.row:=by
 refine vw (tC l01Step.ok (tC l03Index.ok tN)) Tryz.func110 ?_;intro a z;simp only[Tryz.f110,Option.getD];simp only[ZZ,simprocAttr,Ab,l06Neighbor.fv,l01Step.q,l01Step.fv,l03Index.q,l03Index.fv];obtain⟨G,Q,Z,h4,h5⟩:=z;refine⟨Q,Z,λx O=>⟨⟨SU (iC _ _ G x (Bf O)).1,h4,h5⟩,G,?_⟩⟩;simp only[GW];rw[O];rfl
def KR(s:Au):Nat->List Ad->Bool
 |_,[]=>true
 |i,g::r=>(I4 g.Name && (Bw g.Strength 1 4 && decide (BO (λx=>decide (x.Name=g.Name)) 0 s.Glues=i))) && KR s (i+1) r
def Ju(s:Au):Nat->List Tile->Bool
 |_,[]=>true
 |i,x::r=>(I4 x.Name && (decide (x.Sides.length=4) && (decide (BO (λy=>decide (y.Name=x.Name)) 0 s.Tiles=i) && x.Sides.all (λg=>Bw g 0 s.Glues.length)))) && Ju s (i+1) r
def El(s:Au):Bool:=(decide (s.Glues.length<=200) && Bw s.Tiles.length 1 160) && (KR s 0 s.Glues && Ju s 0 s.Tiles)
def l02Ok.fv(a:Au):Bool:=(El) a
def l02Ok.row:AE:=vK (b1 (qP 2 Au.d_le)) rB (λa=>True) l02Ok.fv
def l02Ok.q:=Bg (R:=l02Ok.row) rfl
def dG:=J @l02Ok.fv.eq_1<|J @spec_IsName.q<|J @spec_IsName.fv.eq_1<|J @l00In.q<|J @l00In.fv.eq_1<|J @l02Glue.q<|J @l02Glue.fv.eq_1<|J @l02Tile.q @l02Tile.fv.eq_1
def l02Ok.ok:AI 36 l02Ok.row:=by
 refine vw (tC spec_IsName.ok (tC l00In.ok (tC l02Glue.ok (tC l02Tile.ok tN)))) Tryz.func36 ?_;intro a ac;simp only[Tryz.f36,Option.getD];simp only[ZZ,simprocAttr,Ab,dG];intro hg;simp only[AO];refine⟨λc1 ht=>⟨λc2 _=>⟨λc3=> ?_,λc3=> ?_⟩,λc2=> ?_⟩,λc1=> ?_⟩
 .have: ¬(a.Tiles.length:Int)<=160:=by omega
  simp[El,Bw,this]
 .have c0:El a=(KR a 0 a.Glues && Ju a 0 a.Tiles):=by
   have e1:a.Glues.length<=200:=by omega
   have e2:(1:Int)<=a.Tiles.length:=by omega
   have e3:(a.Tiles.length:Int)<=160:=by omega
   simp[El,Bw,e1,e2,e3]
  refine AY.old ⟨{k:Nat//k<=a.Glues.length/\KR a k (a.Glues.drop k)=KR a 0 a.Glues},λk=>⟨[(3,.im (.int .i64 k.1)),(2,.im (.bool false)),(0,.ptr 0 0)],[(0,(false,.view (Au.c a)))],1⟩,λk=>a.Glues.length - k.1,λk=>⟨by simp[ZG],AP _⟩,⟨⟨0,by simp⟩,by simp only[ZZ,simprocAttr,Ab,dG,sub]⟩,λk=> ?_⟩;obtain⟨k,ab,z⟩:=k;simp only[ZZ,simprocAttr,Ab,dG,sub,AO];intro _;refine⟨λhk=>⟨hk,λx hx=> ?_⟩,λhk=> ?_⟩
  .rw[Hf hx,KR] at z;have G:(I4 x.Name && (Bw x.Strength 1 4 && decide (BO (λg:Ad=>decide (g.Name=x.Name)) 0 a.Glues=k)))=false->false=El a:=by
    intro h;rw[h,FP] at z;rw[c0,<-z];rfl
   refine⟨λZ=>⟨λh2=>⟨λQ=> ?_,λQ=>Js hk hg ⟨by omega,?_⟩⟩,λh2=>G (by simp[h2])⟩,λZ=>G (by simp[Z])⟩
   .rw[AA (by omega) (by omega)] at Q;exact G (by simp;intro _ _;omega)
   .rw[Gg,AA (by omega) (by omega)] at Q;have h4:BO (λg:Ad=>decide (g.Name=x.Name)) 0 a.Glues=k:=by omega
    rw[Z,h2,h4] at z;simpa using z
  .rw[DB (by omega),KR] at z;have c9:El a=Ju a 0 a.Tiles:=by rw[c0,<-z,Ew]
   refine AY.old ⟨{k:Nat//k<=a.Tiles.length/\Ju a k (a.Tiles.drop k)=Ju a 0 a.Tiles},λk=>⟨[(5,.im (.int .i64 k.1)),(2,.im (.bool false)),(0,.ptr 0 0)],[(0,(false,.view (Au.c a)))],1⟩,λk=>a.Tiles.length - k.1,λk=>⟨by simp[ZG],AP _⟩,⟨⟨0,by simp⟩,by simp only[ZZ,simprocAttr,Ab,dG,sub]⟩,λk=> ?_⟩;obtain⟨k,ab,z⟩:=k;simp only[ZZ,simprocAttr,Ab,dG,sub,AO];intro _;refine⟨λhk=>⟨hk,λx hx=> ?_⟩,λhk=> ?_⟩
   .rw[Hf hx,Ju] at z;have G:(I4 x.Name && (decide (x.Sides.length=4) && (decide (BO (λy:Tile=>decide (y.Name=x.Name)) 0 a.Tiles=k) && x.Sides.all (λg=>Bw g 0 a.Glues.length))))=false->false=El a:=by
     intro h;rw[h,FP] at z;rw[c9,<-z]
    refine⟨λZ hs=>⟨λh2=>⟨λQ=>G (by simp[Q]),λQ=> ?_⟩,λh2=>G (by simp;intro _ h9;omega)⟩,λZ=>G (by simp[Z])⟩;rw[Gg] at Q;have aa:x.Sides.length=4:=by omega
    refine AY.old ⟨{j:Nat//j<=4/\(x.Sides.drop j).all (λg=>Bw g 0 a.Glues.length)=x.Sides.all (λg=>Bw g 0 a.Glues.length)},λj=>⟨[(7,.im (.int .i64 j.1)),(5,.im (.int .i64 k)),(6,.ptr 1 0),(2,.im (.bool false)),(0,.ptr 0 0)],[(1,(true,.cells 98 ((Tile.c x).map .im))),(0,(false,.view (Au.c a)))],2⟩,λj=>4 - j.1,λj=>⟨by simp[ZG,Tile.c],by simp⟩,⟨⟨0,by simp⟩,by simp only[ZZ,simprocAttr,Ab,dG,sub]⟩,λj=> ?_⟩;obtain⟨j,ad,O⟩:=j;simp only[ZZ,simprocAttr,Ab,dG,sub,AO];refine⟨λhj=>⟨by omega,λy hy=> ?_⟩,λhj=>Js hk ht ⟨by omega,?_⟩⟩
    .rw[Hf hy,ET] at O;refine⟨λh=>G ?_,λh=>⟨⟨j+1,by omega,?_⟩,by simp only;omega,?_⟩⟩
     .rw[h,FP] at O;rw[<-O];simp
     .rw[Kj] at h;rw[h,Ew] at O;exact O
     .rw[AA (by omega) (by omega)];simp only;omega
    .rw[DB (by omega)] at O;rw[<-z,<-O,Z,aa,Q];simp
   .rw[DB (by omega),Ju] at z;rw[c9,<-z]
 .have: ¬(1:Int)<=a.Tiles.length:=by omega
  simp[El,Bw,this]
 .have: ¬a.Glues.length<=200:=by omega
  simp[El,this]
def VS1.fv(a:Int×Au):Bool:=(λg s=> !Bw g 0 s.Glues.length) (a.1) (a.2)
def VS1.row:AE:=vK (b2 qI (qP 2 Au.d_le)) rB (λa=>True) VS1.fv
def VS1.q:=Bg (R:=VS1.row) rfl
def VS1.ok:AI 140 VS1.row:=by
 refine vw (tC within_.ok tN) Tryz.func140 ?_;intro a z;simp only[Tryz.f140,Option.getD];simp only[ZZ,simprocAttr,Ab,VS1.fv,within_.q,within_.fv];intro _;trivial
def IdxVS.ar:List PK->Option ((List Int)×Au)
 |[.val (.sl _ _ O),.val (.fn 140 [] [.ref z])]=>(AU D0 O).bind λQ=>(Au.d (z.take 2)).bind λG=>some (Q,G)
 |_=>none
def IdxVS.ae(a:(List Int)×Au):List PK:=[.val (.sl false 1 (a.1.map Ak)),.val (.fn 140 [] [.ref (Au.c a.2)])]
def IdxVS.le: ∀G a,IdxVS.ar G=some a->Cl G (IdxVS.ae a):=by
 intro G a h;unfold IdxVS.ar at h;split at h
 .simp only[GD,AM] at h;obtain⟨Q,h0,O,z,rfl⟩:=h;exact⟨Gb (FK GH _ _ h0) (by simp only[Bn];rintro r ⟨y,_,rfl⟩;rfl),iR ⟨oC (HZ.trans_take (Au.d_le _ _ z)),trivial⟩,trivial⟩
 .cases h
def IdxVS.fv(a:(List Int)×Au):Int:=(λl s=>BO (λg=> !Bw g 0 s.Glues.length) 0 l) (a.1) (a.2)
def IdxVS.row:AE:=E4 IdxVS.ar (λa=>True) (λa=>(D.int .i64) (IdxVS.fv a))
def IdxVS.q:=vq IdxVS.row rfl
def IdxVS.ok:AI 165 IdxVS.row:=by
 refine gN ER (tC VS1.ok tN) Tryz.func165 rfl (by kernel_rfl) (by kernel_rfl) (ar:=IdxVS.ar) (ae:=IdxVS.ae) IdxVS.le (n:=2) (λ_=>rfl) (by decide) (rc:=(DW)) (re:=(D.int .i64)) (ZQ) (f:=IdxVS.fv) ?_;intro a O;simp only[Tryz.f165,Option.getD];simp only[ZZ,simprocAttr,Ab,IdxVS.ae,IdxVS.fv,VS1.q,VS1.fv];intro hn;refine AY.old ⟨{k:Nat//k<=a.1.length/\BO (λg:Int=> !Bw g 0 a.2.Glues.length) k (a.1.drop k)=BO (λg:Int=> !Bw g 0 a.2.Glues.length) 0 a.1},λk=>⟨[(8,.im (.int .i64 k.1)),(7,.im (.int .i64 a.1.length)),(6,.im (.sl false 1 (a.1.map Ak))),(4,.im (.int .i64 0)),(0,.im (.sl false 1 (a.1.map Ak))),(1,.im (.fn 140 [] [.ref (Au.c a.2)]))],[],0⟩,λk=>a.1.length - k.1,λk=>⟨by simp[ZG],AP _⟩,⟨⟨0,by simp⟩,by simp only[ZZ,simprocAttr,Ab,IdxVS.ae,IdxVS.fv,VS1.q,VS1.fv,sub]⟩,λk=> ?_⟩;obtain⟨k,Q,z⟩:=k;simp only[ZZ,simprocAttr,Ab,IdxVS.ae,IdxVS.fv,VS1.q,VS1.fv,sub,AO];refine⟨λG=>⟨G,λx Z=> ?_⟩,λG=> ?_⟩
 .rw[Hf Z,BO] at z;refine⟨λh=> ?_,λh=>Js G hn ⟨by omega,by rw[<-z,Af (by simpa using h)]⟩⟩;rw[Ai (by simpa using h)] at z;exact z
 .rw[DB (by omega),BO] at z;exact z
def ContVS.ar:List PK->Option ((List Int)×Au)
 |[.val (.sl _ _ O),.val (.fn 140 [] [.ref z])]=>(AU D0 O).bind λQ=>(Au.d (z.take 2)).bind λG=>some (Q,G)
 |_=>none
def ContVS.ae(a:(List Int)×Au):List PK:=[.val (.sl false 1 (a.1.map Ak)),.val (.fn 140 [] [.ref (Au.c a.2)])]
def ContVS.le: ∀G a,ContVS.ar G=some a->Cl G (ContVS.ae a):=by
 intro G a h;unfold ContVS.ar at h;split at h
 .simp only[GD,AM] at h;obtain⟨Q,h0,O,z,rfl⟩:=h;exact⟨Gb (FK GH _ _ h0) (by simp only[Bn];rintro r ⟨y,_,rfl⟩;rfl),iR ⟨oC (HZ.trans_take (Au.d_le _ _ z)),trivial⟩,trivial⟩
 .cases h
def ContVS.fv(a:(List Int)×Au):Bool:=(λl s=>l.any (λg=> !Bw g 0 s.Glues.length)) (a.1) (a.2)
def ContVS.row:AE:=E4 ContVS.ar (λa=>True) (λa=>(D.bool) (ContVS.fv a))
def ContVS.q:=vq ContVS.row rfl
def ContVS.ok:AI 139 ContVS.row:=by
 refine gN ER (tC IdxVS.ok tN) Tryz.func139 rfl (by kernel_rfl) (by kernel_rfl) (ar:=ContVS.ar) (ae:=ContVS.ae) ContVS.le (n:=2) (λ_=>rfl) (by decide) (rc:=(V2)) (re:=(D.bool)) (mN) (f:=ContVS.fv) ?_;intro a z;simp only[Tryz.f139,Option.getD];simp only[ZZ,simprocAttr,Ab,ContVS.ae,ContVS.fv,IdxVS.q,IdxVS.ar,IdxVS.fv];exact LL _ _
def NA(z:List ByteArray):List (D×D):=z.map λn=>(.str n,.bool true)
def sA(n m:ByteArray):(n==m)=decide (n=m):=by
 rw[YV]
def LZ(n:ByteArray): ∀(z:List ByteArray),(n∈z->lk (NA z) (.str n)=some (.bool true))/\(n∉z->lk (NA z) (.str n)=none)
 |[]=>⟨λh=>by simp at h,λ_=>rfl⟩
 |m::r=>by
  obtain⟨G,O⟩:=LZ n r;simp only[NA] at G O;simp only[NA,Bb,lk,D.beq,Bt,sA];by_cases h:n=m
  .simp[h]
  .simp only[h,zN,Bs,false_or];exact⟨G,O⟩
def Qum(n:ByteArray)(G:List ByteArray)(Ks:D->Prop)(Kn:Prop):Ip (NA G) (.str n) Ks Kn=((n∈G->Ks (.bool true))/\(n∉G->Kn)):=by
 obtain⟨Z,i2⟩:=LZ n G;apply propext;unfold Ip;constructor
 .rintro⟨O,Q⟩;exact⟨λh=>O _ (Z h),λh=>Q (i2 h)⟩
 .rintro⟨O,Q⟩;by_cases h:n∈G
  .refine⟨λv z=> ?_,λz=> ?_⟩
   .rw[Z h] at z;exact AB z▸O h
   .rw[Z h] at z;cases z
  .refine⟨λv z=> ?_,λ_=>Q h⟩;rw[i2 h] at z;cases z
def Qru(n:ByteArray): ∀(z:List ByteArray),n∉z->Ek (NA z) (.str n) (.bool true)=NA (z++[n])
 |[],_=>rfl
 |m::r,h=>by
  simp only[Bt,not_or] at h
  have:=Qru n r h.2
  simp only[NA] at this;simp only[NA,Bb,Ek,D.beq,sA,h.1,zN,Bs,BG,this]
def kQ{A:Type}(f:A->ByteArray)(l:List A)(k:Nat)(x:A)(hx:l[k]? =some x):BO (λy=>decide (f y=f x)) 0 l=(k:Int)↔f x∉(l.take k).map f:=by
 constructor
 .intro h hm;obtain⟨y,hy,O⟩:=Bn.1 hm;obtain⟨i,Q,aa⟩:=dJ.1 hy;have ab:i<k:=by simp at Q;omega
  have Z:l[i]? =some y:=by
   rw[<-aa,List.getElem_take];exact B2 _
  have G: ∀(l:List A) (o i:Nat) (y:A),l[i]? =some y->(decide (f y=f x))=true->BO (λy=>decide (f y=f x)) o l<=((o+i:Nat):Int):=by
   intro l;induction l with
   |nil=>intro o i y h;simp at h
   |cons z r ih=>
    intro o i y h hp;simp only[BO];split
    .omega
    .rename_i hz;cases i with
     |zero=>
      simp only[HA,AM] at h;subst h;exact absurd hp hz
     |succ i=>
      have:=ih (o+1) i y (by simpa using h) hp
      omega
  have:=G l 0 i y Z (by simpa using O)
  omega
 .intro h;rw[xR _ l 0 k x hx (by simp) ?_]
  .simp
  .intro i y Q hy;simp only[J3];intro O;apply h;rw[<-O];refine Bn.2 ⟨y,?_,rfl⟩;exact Bf (i:=i) (by rw[Zey,Ai Q];exact hy)
def bV(s:Au):Prop:=(∀g∈s.Glues,g.Name.size<=140737488355328)/\ ∀t∈s.Tiles,t.Name.size<=140737488355328
def ValidSet_.fv(a:Au):Bool:=(El) a
def ValidSet_.row:AE:=vK (b1 (qR Au.d_le)) rB (λa=>bV a) ValidSet_.fv
def ValidSet_.q:=Bg (R:=ValidSet_.row) rfl
def qW:=J @ValidSet_.fv.eq_1<|J @within_.q<|J @within_.fv.eq_1<|J @impl_IsName.q<|J @impl_IsName.fv.eq_1<|J @ContVS.q @ContVS.fv.eq_1
def ValidSet_.ok:AI 117 ValidSet_.row:=by
 refine vw (tC within_.ok (tC impl_IsName.ok (tC ContVS.ok tN))) Tryz.func117 ?_;intro a ab;simp only[Tryz.f117,Option.getD];simp only[ZZ,simprocAttr,Ab,qW,ContVS.ar];obtain⟨ad,af⟩:=ab;intro hg;simp only[AO];refine⟨λc1 ht=>⟨λc2=> ?_,λc2 _=> ?_⟩,λc1=> ?_⟩
 .simp[El,c2]
 .rw[Kj] at c2;have c0:El a=(KR a 0 a.Glues && Ju a 0 a.Tiles):=by
   have e1:a.Glues.length<=200:=by omega
   simp[El,e1,c2]
  refine AY.old ⟨{k:Nat//k<=a.Glues.length/\KR a k (a.Glues.drop k)=KR a 0 a.Glues},λk=>⟨[(24,.im (.int .i64 k.1)),(23,.im (.int .i64 a.Glues.length)),(22,.im (.sl false 2 (a.Glues.map Ad.c))),(3,.mp 1),(1,.ptr 0 0),(2,.im (.bool false))],[(1,(true,.map ⟨false,[.str]⟩ (NA ((a.Glues.take k.1).map Ad.Name)))),(0,(true,.cells 35 ((Au.c a).map .im)))],2⟩,λk=>a.Glues.length - k.1,λk=>⟨by simp[ZG,Au.c],AP _⟩,⟨⟨0,by simp⟩,by simp only[ZZ,simprocAttr,Ab,qW,ContVS.ar,sub,NA,Eo]⟩,λk=> ?_⟩;obtain⟨k,ac,z⟩:=k;simp only[ZZ,simprocAttr,Ab,qW,ContVS.ar,sub,AO,Qum];refine⟨λhk=>⟨hk,λx Q=>⟨ad x (Bf Q),?_⟩⟩,λhk _=> ?_⟩
  .rw[Hf Q,KR] at z;have hu:=kQ Ad.Name a.Glues k x Q;have G:(I4 x.Name && (Bw x.Strength 1 4 && decide (BO (λg:Ad=>decide (g.Name=x.Name)) 0 a.Glues=k)))=false->false=El a:=by
    intro h;rw[h,FP] at z;rw[c0,<-z];rfl
   refine⟨λZ=>⟨λO=>G ?_,λO=>⟨λh3=>G (by simp[h3]),λh3=>⟨⟨k+1,by omega,?_⟩,by simp only;omega,?_,?_⟩⟩⟩,λZ=>G (by simp[Z])⟩
   .simp only[ZdW,J3];exact .inr (.inr λh9=>(hu.1 h9) O)
   .rw[Kj] at h3;rw[Z,h3,hu.2 O] at z;simpa using z
   .rw[AA (by omega) (by omega)];simp only;omega
   .rw[Qru _ _ O,IA,Q];simp
  .rw[DB (by omega),KR] at z;have c9:El a=Ju a 0 a.Tiles:=by rw[c0,<-z,Ew]
   refine AY.frz [0] ⟨{k:Nat//k<=a.Tiles.length/\Ju a k (a.Tiles.drop k)=Ju a 0 a.Tiles},λk=>⟨[(52,.im (.int .i64 k.1)),(51,.im (.int .i64 a.Tiles.length)),(50,.im (.sl false 2 (a.Tiles.map Tile.c))),(6,.mp 2),(1,.ptr 0 0),(2,.im (.bool false))],[(2,(true,.map ⟨false,[.str]⟩ (NA ((a.Tiles.take k.1).map Tile.Name)))),(0,(false,.cells 35 ((Au.c a).map .im)))],3⟩,λk=>a.Tiles.length - k.1,λk=>⟨by simp[ZG,Au.c],AP _⟩,⟨⟨0,by simp⟩,by simp only[ZZ,simprocAttr,Ab,qW,ContVS.ar,sub,NA,Eo]⟩,λk=> ?_⟩;obtain⟨k,ac,z⟩:=k;simp only[ZZ,simprocAttr,Ab,qW,ContVS.ar,sub,AO,Qum];refine⟨λhk=>⟨hk,λx Q=>⟨af x (Bf Q),?_⟩⟩,λhk=> ?_⟩
   .rw[Hf Q,Ju] at z;have hu:=kQ Tile.Name a.Tiles k x Q;have G:(I4 x.Name && (decide (x.Sides.length=4) && (decide (BO (λy:Tile=>decide (y.Name=x.Name)) 0 a.Tiles=k) && x.Sides.all (λg=>Bw g 0 a.Glues.length))))=false->false=El a:=by
     intro h;rw[h,FP] at z;rw[c9,<-z]
    have aa:(x.Sides.any λg=> !Bw g 0 a.Glues.length)= !x.Sides.all (λg=>Bw g 0 a.Glues.length):=by
     simp[List.not_all_eq_any_not]
    rw[aa];refine⟨λZ=>⟨λO=>G ?_,λO _=>⟨λh3=>G ?_,λh3=>⟨λh4=>G ?_,λh4=>⟨⟨k+1,by omega,?_⟩,by simp only;omega,?_,?_⟩⟩⟩⟩,λZ=>G (by simp[Z])⟩
    .simp only[ZdW,J3];exact .inr (.inr (.inl λh9=>(hu.1 h9) O))
    .have: ¬x.Sides.length=4:=by omega
     simp[this]
    .simp only[PL] at h4;simp only[h4,Zn]
    .have h5:x.Sides.length=4:=by omega
     simp only[PL,Kj] at h4;rw[Z,h5,hu.2 O,h4] at z;simpa using z
    .rw[AA (by omega) (by omega)];simp only;omega
    .rw[Qru _ _ O,IA,Q];simp
   .rw[DB (by omega),Ju] at z;rw[c9,<-z]
 .have: ¬a.Glues.length<=200:=by omega
  simp[El,this]
def Hw(s:Au)(a:A9):Bool:=(CS none a.Tiles && decide (a.Tiles.length<=500)) && a.Tiles.all (λx=>Bw x.Tile 0 (s.Tiles.length - 1))
def ValidAssembly_.fv(a:Au×A9):Bool:=(λs a=>El s && Hw s a) (a.1) (a.2)
def ValidAssembly_.row:AE:=vK (b2 (qR Au.d_le) (qR A9.d_le)) rB (λa=>bV a.1) ValidAssembly_.fv
def ValidAssembly_.q:=Bg (R:=ValidAssembly_.row) rfl
def ValidAssembly_.ok:AI 85 ValidAssembly_.row:=by
 refine vw (tC ValidSet_.ok (tC hasForm_.ok (tC ContVA.ok tN))) Tryz.func85 ?_;intro a z;simp only[Tryz.f85,Option.getD];simp only[ZZ,simprocAttr,Ab,ValidAssembly_.fv,ValidSet_.q,ValidSet_.fv,hasForm_.q,hasForm_.fv,ContVA.q,ContVA.ar,ContVA.fv];refine⟨z,?_⟩
 split<;>rename_i O
 .split<;>rename_i G
  .simp[O,Hw,G.1,G.2,List.not_any_eq_all_not]
  .have Q:(CS none a.2.Tiles && decide (a.2.Tiles.length<=500))=false:=by
    rw[PJ];intro h;simp only[AW,Cy] at h;exact G h
   simp[Hw,Q]
 .simp[O]
def comparePlaced.fv(a:Al×A7):Int:=(λa p=>P6 [Fh a.At.Y p.Y,Fh a.At.X p.X]) (a.1) (a.2)
def comparePlaced.row:AE:=vK (b2 (qR Al.d_le) (qR A7.d_le)) rI (λa=>True) comparePlaced.fv
def comparePlaced.q:=Bg (R:=comparePlaced.row) rfl
def comparePlaced.ok:AI 184 comparePlaced.row:=by
 refine vw (tC comparePoints.ok tN) Tryz.func184 ?_;intro a z;simp only[Tryz.f184,Option.getD];simp only[ZZ,simprocAttr,Ab,comparePlaced.fv,comparePoints.q,comparePoints.fv]
def HF(l:List Al)(p:A7):Nat:=(l.takeWhile (λx=>Cb x.At p)).length
def yC(p:A7): ∀(l:List Al) (lo:Nat),lo<=l.length->(∀(i:Nat) (x:Al),i<lo->l[i]? =some x->Cb x.At p=true)->(∀(i:Nat) (x:Al),lo<=i->l[i]? =some x->Cb x.At p=false)->HF l p=lo
 |[],lo,h,_,_=>by simp at h;simp[HF,h]
 |x::r,0,_,_,h=>by
  have:=h 0 x (by omega) (by simp)
  simp[HF,yS,this]
 |x::r,lo+1,hl,G,Q=>by
  have Z:=G 0 x (by omega) (by simp);have O:=yC p r lo (by simpa using hl) (λi y hi z=>G (i+1) y (by omega) (by simpa using z)) (λi y hi z=>Q (i+1) y (by omega) (by simpa using z));simp only[HF] at O;simp[HF,yS,Z,O]
def Rm(a b:A7):(P6 [Fh a.Y b.Y,Fh a.X b.X]<0)↔Cb a b=true:=by
 simp only[Cb,P6,Fh]
 grind
def eB(a b:A7):(P6 [Fh a.Y b.Y,Fh a.X b.X]=0)↔a=b:=by
 obtain⟨x,y⟩:=a;obtain⟨z,w⟩:=b;simp only[P6,Fh,A7.mk.injEq]
 grind
def midU(lo z:Nat)(h:lo+z<=562949953421312):IntKind.wrap .i64 ((IntKind.wrap .u64 (IntKind.wrap .i64 ((lo:Int)+z))).fdiv (2^min 1 IntKind.u64.bits))=(((lo+z)/2:Nat):Int):=by
 rw[AA (x:=(lo:Int)+z) (by omega) (by omega)];have G:IntKind.wrap .u64 ((lo:Int)+z)=(lo:Int)+z:=by
  simp only[IntKind.wrap,IntKind.signed,IntKind.bits];simp;omega
 have O:(2:Int)^min 1 IntKind.u64.bits=2:=by decide
 rw[G,O,Zer _ (by omega),AA (by omega) (by omega)];omega
def BinP.ar:List PK->Option ((List Al)×A7×Unit)
 |[.val (.sl _ _ z),.val (.agg G),.val (.fn 184 [] [])]=>(AU Al.d z).bind λO=>(A7.d G).bind λQ=>some (O,Q,())
 |_=>none
def BinP.ae(a:(List Al)×A7×Unit):List PK:=[.val (.sl false 3 (a.1.map Al.c)),.val (.agg (A7.c a.2.1)),.val (.fn 184 [] [])]
def BinP.le: ∀z a,BinP.ar z=some a->Cl z (BinP.ae a):=by
 intro z a h;unfold BinP.ar at h;split at h
 .simp only[GD,AM] at h;obtain⟨O,h0,Q,G,rfl⟩:=h;exact⟨Gb (FK Al.d_le _ _ h0) (by simp only[Bn];rintro r ⟨y,_,rfl⟩;rfl),K3 (A7.d_le _ _ G),Cx.refl _,trivial⟩
 .cases h
def BinP.fv(a:(List Al)×A7×Unit):Int×Bool:=(λl p _=>((HF l p:Int),l.any (λx=>decide (x.At=p)))) (a.1) (a.2.1) (a.2.2)
def BinP.row:AE:=E4 BinP.ar (λa=>CS none a.1=true) (λa=>(λb=>D.tup [(D.int .i64) (b.1),(D.bool) (b.2)]) (BinP.fv a))
def BinP.q:=vq BinP.row rfl
def Yaq:=J @BinP.ae.eq_1<|J @BinP.fv.eq_1<|J @comparePlaced.q @comparePlaced.fv.eq_1
def BinP.ok:AI 183 BinP.row:=by
 refine gN ER (tC comparePlaced.ok tN) Tryz.func183 rfl (by kernel_rfl) (by kernel_rfl) (ar:=BinP.ar) (ae:=BinP.ae) BinP.le (n:=3) (λ_=>rfl) (by decide) (rc:=(gU (DW) (V2))) (re:=(λb=>D.tup [(D.int .i64) (b.1),(D.bool) (b.2)])) (Qbz (ZQ) (mN)) (f:=BinP.fv) ?_;intro a af;simp only[Tryz.f183,Option.getD];simp only[ZZ,simprocAttr,Ab,Yaq];intro hn;refine AY.old ⟨{p:Nat×Nat//p.1<=p.2/\p.2<=a.1.length/\(∀i x,i<p.1->a.1[i]? =some x->Cb x.At a.2.1=true)/\(∀i x,p.2<=i->a.1[i]? =some x->Cb x.At a.2.1=false)},λp=>⟨[(9,.im (.int .i64 p.1.1)),(10,.im (.int .i64 p.1.2)),(8,.im (.int .i64 a.1.length)),(6,.im (.int .i64 0)),(7,.im (.bool false)),(4,.ptr 0 0),(0,.im (.sl false 3 (a.1.map Al.c))),(2,.im (.fn 184 [] []))],[(0,(true,.cells 72 [.im (.int .i64 a.2.1.X),.im (.int .i64 a.2.1.Y)]))],1⟩,λp=>p.1.2 - p.1.1,λp=>⟨by simp[ZG],AP _⟩,⟨⟨(0,a.1.length),by simp,by simp,by simp,?_⟩,by simp only[ZZ,simprocAttr,Ab,Yaq,sub]⟩,λp=> ?_⟩
 .intro i x hi Q
  have:=(Cu.1 Q).1
  simp only at hi;omega
 obtain⟨⟨lo,hi⟩,h1,h2,h3,h4⟩:=p;simp only at h1 h2 h3 h4;simp only[ZZ,simprocAttr,Ab,Yaq,sub,AO];obtain⟨_,O⟩:=nE _ _ af;have ad: ∀(i:Nat) (x:Al),i<lo->a.1[i]? =some x->x.At≠a.2.1:=by
  intro i x hi Q he
  have:=h3 i x hi Q
  rw[he,oQ] at this;cases this
 rw[midU lo hi (by omega)];simp only[Rm,eB];refine⟨λag=> ?_,λag=>⟨λhl=>⟨hl,λx Q=> ?_⟩,λhl=> ?_⟩⟩
 .refine⟨by omega,by omega,λx Q=>⟨λhb=> ?_,λhb=> ?_⟩⟩
  .rw[Bj] at Q;refine⟨⟨((lo+hi)/2+1,hi),by simp only;omega,h2,λi y G Z=> ?_,h4⟩,by simp only;omega,?_,rfl⟩
   .simp only at G;rcases FB i ((lo+hi)/2) with h|h
    .exact gR (O i _ y x h Z Q) hb
    .have:i=(lo+hi)/2:=by omega
     subst this;rw[Q] at Z;exact AB Z▸hb
   .rw[AA (by omega) (by omega)];simp only;omega
  .rw[Bj] at Q;refine⟨⟨(lo,(lo+hi)/2),by simp only;omega,by simp only;omega,h3,λi y G Z=> ?_⟩,by simp only;omega,rfl,rfl⟩;simp only at G;rcases FB ((lo+hi)/2) i with h|h
   .cases hl:Cb y.At a.2.1 with
    |false=>rfl
    |true=>exact absurd (gR (O _ i x y h Q Z) hl) hb
   .have:i=(lo+hi)/2:=by omega
    subst this;rw[Q] at Z;obtain rfl:=AB Z;simpa using hb
 .have aa:=yC a.2.1 a.1 lo (by omega) h3 (λi y G Z=>h4 i y (by omega) Z);refine⟨by rw[aa],?_⟩;rw[jK];simp only[Cy,List.any_eq_true];refine⟨λhe=>⟨x,Bf Q,he⟩,?_⟩;rintro⟨y,Z,he⟩;obtain⟨i,G,ac⟩:=dJ.1 Z;have z:a.1[i]? =some y:=by rw[B2 G,ac]
  rcases rN i lo with h|h|h
  .exact absurd he (ad i y h z)
  .subst h;rw[Q] at z;exact AB z▸he
  .have ab:=O lo i x y h Q z;rw[he] at ab
   have:=h4 lo x (by omega) Q
   rw[this] at ab;cases ab
 .have aa:=yC a.2.1 a.1 lo (by omega) h3 (λi y G Z=>h4 i y (by omega) Z);refine⟨by rw[aa],?_⟩;symm;simp only[List.any_eq_false,Cy];intro y Z he;obtain⟨i,G,ac⟩:=dJ.1 Z;have z:a.1[i]? =some y:=by rw[B2 G,ac]
  exact ad i y (by omega) z he
def NS{l:List Al}{p:A7}(h:CS none l=true){i:Nat}{x:Al}(O:l[i]? =some x)(Q:x.At=p):HF l p=i:=by
 obtain⟨_,z⟩:=nE _ _ h;have hi:=(Cu.1 O).1;refine yC p l i (by omega) (λj y hj G=> ?_) (λj y hj G=> ?_)
 .have:=z j i y x hj G O
  rwa [Q] at this
 .rcases FB i j with Z|Z
  .have h2:=z i j x y Z O G;rw[Q] at h2;cases h3:Cb y.At p with
   |false=>rfl
   |true=>
    have:=gR h2 h3
    rw[oQ] at this;cases this
  .have:j=i:=by omega
   subst this;rw[O] at G;obtain rfl:=AB G;rw[Q,oQ]
def QQ{l:List Al}{p:A7}(h:CS none l=true):(l.any (λx=>decide (x.At=p))=true/\ ∃x,l[HF l p]? =some x/\x.At=p/\l.find? (λx=>decide (x.At=p))=some x/\BO (λx=>decide (x.At=p)) 0 l=(HF l p:Int))\/
 (l.any (λx=>decide (x.At=p))=false/\l.find? (λx=>decide (x.At=p))=none/\BO (λx=>decide (x.At=p)) 0 l= -1):=by
 rcases nH (λx=>decide (x.At=p)) l 0 with ⟨z,G⟩|⟨i,x,z,G,O⟩
 .refine .inr ⟨?_,z,G⟩;simpa[yU] using z
 .have Q:x.At=p:=by simpa using rG z
  have Z:=NS h O Q;refine .inl ⟨?_,x,by rw[Z];exact O,Q,z,by rw[G,Z,FC]⟩;simp only[List.any_eq_true,Cy];exact⟨x,Bf O,Q⟩
def placeAt.rc:D->Option (Int):=DW
def placeAt.re:Int->D:=D.int .i64
def placeAt.rle: ∀d b,placeAt.rc d=some b->Le d (placeAt.re b):=ZQ
def placeAt.ar:List PK->Option (A9×A7):=a2 (kR A9.d) (kR A7.d)
def placeAt.fv(a:A9×A7):Int:=(λa p=>BO (λx=>decide (x.At=p)) 0 a.Tiles) (a.1) (a.2)
def placeAt.row:AE:=vK (b2 (qR A9.d_le) (qR A7.d_le)) (RK.mk placeAt.rc placeAt.re placeAt.rle) (λa=>CS none a.1.Tiles=true) placeAt.fv
def placeAt.q:=Bg (R:=placeAt.row) rfl
def placeAt.ok:AI 169 placeAt.row:=by
 refine vw (tC BinP.ok tN) Tryz.func169 ?_;intro a z;simp only[Tryz.f169,Option.getD];simp only[ZZ,simprocAttr,Ab,placeAt.fv,placeAt.rc,BinP.q,BinP.ar,BinP.fv];refine⟨z,?_⟩;rcases QQ (p:=a.2) z with ⟨G,x,Q,O,h4,Z⟩|⟨G,Q,O⟩
 .rw[Ai G,Z]
 .rw[G,Af (by simp),O]
def JC{β:Type}:List (A7×β)->A7->Option β
 |[],_=>none
 |(k,v)::r,p=>if p=k then some v else JC r p
def gH(l:List (A7×Int))(p:A7):Int:=(JC l p).getD (-1)
def KO{β:Type}:List (A7×β)->A7->β->List (A7×β)
 |[],p,v=>[(p,v)]
 |(k,w)::r,p,v=>if p=k then (p,v)::r else (k,w)::KO r p v
def qH{α:Type}{l:List α}{k:Nat}{x:α}(h:l[k]? =some x):l.take (k+1)=l.take k++[x]:=by rw[IA,h];rfl
def newC.pre(a:AF×A9):Prop:=CY a.1.Set/\a.1.Set.Tiles.length<=1000000/\ ∀x∈a.2.Tiles,bN a.1.Set x.Tile/\Qw x.At
def G1(a:A9)(i:Int):Int:=(a.Tiles[i.toNat]?.map Al.Tile).getD (-1)
def Wv(s:Au)(a:A9)(i:Nat)(d:Int):List Ag:=
 if 0<=GW a i d then if 0<UX s (G1 a i) d (G1 a (GW a i d)) then [⟨i,GW a i d,UX s (G1 a i) d (G1 a (GW a i d))⟩] else [] else []
def JY(s:Au)(a:A9)(i:Nat):Nat->List Ag
 |0=>[]
 |k+1=>JY s a i k++Wv s a i (1 - k)
def F6(s:Au)(a:A9):Nat->List Ag
 |0=>[]
 |k+1=>F6 s a k++JY s a k 2
def Ob(s:Au)(a:A9)(i:Nat)(d:Int):(Wv s a i d).length<=1:=by
 simp only[Wv];split
 .split<;>simp
 .simp
def Ql7(s:Au)(a:A9)(i:Nat): ∀k,(JY s a i k).length<=k
 |0=>by simp[JY]
 |k+1=>by
  have z:=Ql7 s a i k;have G:=Ob s a i (1 - k);simp only[JY,DZ];omega
def nS(s:Au)(a:A9): ∀k,(F6 s a k).length<=2*k
 |0=>by simp[F6]
 |k+1=>by
  have z:=nS s a k;have G:=Ql7 s a k 2;simp only[F6,DZ];omega
def eL{A:Type}(p:A->Bool)(l:List A):BO p 0 l<(l.length:Int):=by
 rcases nH p l 0 with ⟨_,h⟩|⟨i,x,_,h,z⟩
 .omega
 .have:=(Cu.1 z).1
  omega
def K7(a:A9)(i d:Int):GW a i d<(a.Tiles.length:Int):=eL _ _
def l06Bonds.fv(a:Au×A9):List Ag:=(λs a=>F6 s a a.Tiles.length) (a.1) (a.2)
def l06Bonds.row:AE:=vK (b2 (qP 2 Au.d_le) (qP 1 A9.d_le)) (rS Ag.d_le Ag.c_n) (λa=>CY a.1/\Ll a.1 a.2/\a.2.Tiles.length<=1000000) l06Bonds.fv
def l06Bonds.q:=Bg (R:=l06Bonds.row) rfl
def W3:=J @l06Bonds.fv.eq_1<|J @l06Neighbor.q<|J @l06Neighbor.fv.eq_1<|J @l02Bond.q @l02Bond.fv.eq_1
def l06Bonds.ok:AI 78 l06Bonds.row:=by
 refine vw (tC l06Neighbor.ok (tC l02Bond.ok tN)) Tryz.func78 ?_;intro a z;simp only[Tryz.f78,Option.getD];simp only[ZZ,simprocAttr,Ab,W3];obtain⟨h1,Q,h3⟩:=z;refine AY.ren ⟨{k:Nat//k<=a.2.Tiles.length},λk=>⟨[(6,.im (.int .i64 k.1)),(5,.own 4),(0,.ptr 0 0),(1,.ptr 1 0)],[(4,(true,.arr 160 3 ((F6 a.1 a.2 k.1).map Ag.c))),(0,(false,.view (Au.c a.1))),(1,(false,.view (A9.c a.2)))],5⟩,λk=>a.2.Tiles.length - k.1,λk=>⟨by simp[ZG],by simp⟩,⟨⟨0,by simp⟩,[(4,some 3)],?_⟩,λk=> ?_⟩
 .simp only[Ar];simp only[ZZ,simprocAttr,Ab,W3,AS,AR,F6,BD]
 obtain⟨k,af⟩:=k;simp only[ZZ,simprocAttr,Ab,W3,sub,AO];intro ac;refine⟨λhk=> ?_,λhk=> ?_⟩
 .refine AY.ren ⟨{j:Nat//j<=2},λj=>⟨[(7,.im (.int .i64 (1 - (j.1:Int)))),(6,.im (.int .i64 k)),(5,.own 5),(0,.ptr 0 0),(1,.ptr 1 0)],[(5,(true,.arr 160 3 ((F6 a.1 a.2 k++JY a.1 a.2 k j.1).map Ag.c))),(0,(false,.view (Au.c a.1))),(1,(false,.view (A9.c a.2)))],6⟩,λj=>2 - j.1,λj=>⟨by simp[ZG],by simp⟩,⟨⟨0,by simp⟩,[(5,some 4)],?_⟩,λj=> ?_⟩
  .simp only[Ar];simp only[ZZ,simprocAttr,Ab,W3,AS,AR,JY,D6]
   try simp
  obtain⟨j,ad⟩:=j;simp only[ZZ,simprocAttr,Ab,W3,sub,AO,VE,V7,VD,Bo,D.one,Ep,E8,NL];have ab:=K7 a.2 k (1 - j);have ag:=nS a.1 a.2 k;have ah:=Ql7 a.1 a.2 k j;refine⟨λhd=>⟨⟨Q.1,hk,hd,by omega⟩,λhn=>⟨⟨j+1,by omega⟩,[(5,some 5)],by simp only;omega,?_⟩,λhn=>⟨hk,λx hx=>⟨by omega,ab,λy hy=>⟨⟨h1,Q.2 x (Bf hx),⟨by omega,by omega⟩,Q.2 y (Bf hy)⟩,λZ=>⟨by simp only[DZ];omega,⟨j+1,by omega⟩,[(5,some 7)],by simp only;omega,?_⟩,λZ=>⟨⟨j+1,by omega⟩,[(5,some 5)],by simp only;omega,?_⟩⟩⟩⟩⟩,λhd=>⟨⟨k+1,by omega⟩,[(4,some 5)],by simp only;omega,?_⟩⟩
  .simp only[Ar];simp only[ZZ,simprocAttr,Ab,W3,AS,AR];refine⟨?_,?_⟩
   .rw[AA (by omega) (by omega)];omega
   .simp only[JY,Wv];rw[Af (by omega),D6]
  .simp only[Ar];simp only[ZZ,simprocAttr,Ab,W3,AS,AR];refine⟨?_,?_⟩
   .rw[AA (by omega) (by omega)];omega
   .have G:G1 a.2 k=x.Tile:=by simp[G1,hx]
    have O:G1 a.2 (GW a.2 k (1 - j))=y.Tile:=by simp only[G1];rw[hy];rfl
    simp only[JY,Wv];rw[Ai (by omega),G,O,Ai Z];simp[Ag.c]
  .simp only[Ar];simp only[ZZ,simprocAttr,Ab,W3,AS,AR];refine⟨?_,?_⟩
   .rw[AA (by omega) (by omega)];omega
   .have G:G1 a.2 k=x.Tile:=by simp[G1,hx]
    have O:G1 a.2 (GW a.2 k (1 - j))=y.Tile:=by simp only[G1];rw[hy];rfl
    simp only[JY,Wv];rw[Ai (by omega),G,O,Af Z,D6]
  .simp only[Ar];simp only[ZZ,simprocAttr,Ab,W3,AS,AR];have aa:j=2:=by omega
   subst aa;refine⟨?_,?_⟩
   .rw[AA (by omega) (by omega)];omega
   .simp only[F6]
 .have:k=a.2.Tiles.length:=by omega
  rw[this]
def IE:List Int->List Int->Bool
 |x::r,y::s=>if x=y then IE r s else decide (x<y)
 |_,_=>false
def Gj(v:Int)(l:List Int)(w:Int)(m:List Int):Bool:=if v=w then if l.length=m.length then IE l m else decide (l.length<m.length) else decide (v<w)
def l07Before.fv(a:Int×(List Int)×Int×(List Int)):Bool:=(Gj) (a.1) (a.2.1) (a.2.2.1) (a.2.2.2)
def l07Before.row:AE:=vK (b4 qI (qS GH EX) qI (qS GH EX)) rB (λa=>True) l07Before.fv
def l07Before.q:=Bg (R:=l07Before.row) rfl
def l07Before.ok:AI 114 l07Before.row:=by
 refine vw tN Tryz.func114 ?_;intro a aa;simp only[Tryz.f114,Option.getD];simp only[ZZ,simprocAttr,Ab,l07Before.fv]
 split<;>rename_i h
 .simp only[Gj];rw[Af h]
 intro ac ad
 split<;>rename_i h2
 .intro _ _;simp only[Gj];rw[Ai (Gg.1 h),Af (by omega)]
 have hn:a.2.1.length=a.2.2.2.length:=by omega
 have hb:Gj a.1 a.2.1 a.2.2.1 a.2.2.2=IE a.2.1 a.2.2.2:=by simp only[Gj];rw[Ai (Gg.1 h),Ai hn]
 rw[hb];refine AY.old ⟨{k:Nat//k<=a.2.1.length/\IE (a.2.1.drop k) (a.2.2.2.drop k)=IE a.2.1 a.2.2.2},λk=>⟨[(9,.im (.int .i64 k.1)),(8,.im (.bool false)),(0,.im (.int .i64 a.1)),(1,.im (.sl false 1 (a.2.1.map Ak))),(2,.im (.int .i64 a.2.2.1)),(3,.im (.sl false 1 (a.2.2.2.map Ak)))],[],0⟩,λk=>a.2.1.length - k.1,λk=>⟨by simp[ZG],AP _⟩,⟨⟨0,by simp⟩,by simp only[ZZ,simprocAttr,Ab,l07Before.fv,sub]⟩,λk=> ?_⟩;obtain⟨k,ab,z⟩:=k;simp only[ZZ,simprocAttr,Ab,l07Before.fv,sub,AO];intro _;refine⟨λQ=>⟨Q,λx hx=>⟨by omega,λy hy=>⟨λZ=>⟨Q,λx' G=>⟨by omega,λy' O=> ?_⟩⟩,λhe=> ?_⟩⟩⟩,λQ=> ?_⟩
 .rw[hx] at G;rw[hy] at O;obtain rfl:=AB G;obtain rfl:=AB O;rw[Hf hx,Hf hy,IE,Af Z] at z;exact z
 .rw[Hf hx,Hf hy,IE,Ai (Gg.1 he)] at z;refine⟨⟨k+1,by omega,z⟩,by simp only;omega,?_⟩;rw[AA (by omega) (by omega)];simp only;omega
 .rw[DB (by omega),IE] at z
  .exact z
  .intros;simp_all
def Qix{l:List Al}(h:CS none l=true):(l.map Al.At).Nodup:=by
 have z:=(nE _ _ h).2;clear h;revert z;induction l with
 |nil=>intro _;simp
 |cons x r ih=>
  intro z;simp only[Bb,Zj];refine⟨λhm=> ?_,ih (λi j a b aa G O=>z (i+1) (j+1) a b (by omega) (by simpa using G) (by simpa using O))⟩;obtain⟨y,hy,Q⟩:=Bn.1 hm;obtain⟨i,Z⟩:=Vo.1 hy
  have:=z 0 (i+1) x y (by omega) rfl (by simpa using Z)
  rw[Q,oQ] at this;cases this
def Xn:Bi []=[]:=rfl
def Qxu(n:Nat)(rows:List (List D)):(Bi rows).all (AD n)=true:=by
 simp only[Bi,List.all_map,CM,Function.comp];intro r z;clear z;induction r with
 |nil=>simp[AD]
 |cons x r ih=>simp[AD,AV.bel,ih]
def LA(F:List Nat)(H:Ao): ∀(r:List D),Dy F H (r.map .im)=r.map .im
 |[]=>rfl
 |x::r=>by simp only[Bb,Dy,AV.fzA,LA F H r]
def LB(F:List Nat)(H:Ao): ∀(rows:List (List D)),Dz F H (Bi rows)=Bi rows
 |[]=>rfl
 |x::r=>by
  have:=LB F H r
  simp only[Bi] at this;simp only[Bi,Bb,Dz,LA,this]
def Qzl(F:List Nat)(H:Ao): ∀(a b:List (List AV)),Dz F H (a++b)=Dz F H a++Dz F H b
 |[],b=>rfl
 |x::r,b=>by simp only[BG,Dz,Qzl F H r b]
def SA(π:List (Nat×Option Nat)): ∀(r:List D),Dp π (r.map .im) (r.map .im)
 |[]=>by simp[Dp]
 |x::r=>by simp only[Bb,Dp,mt,SA π r,E8]
def yG(π:List (Nat×Option Nat)): ∀(rows:List (List D)),FQ π (Bi rows) (Bi rows)
 |[]=>by simp[FQ,Bi]
 |x::r=>by
  have:=yG π r
  simp only[Bi] at this;simp only[Bi,Bb,FQ,SA,this,E8]
def Qzb(F:List Nat)(H:Ao)(rows:List (List D)):Dz F H (rows.map λr=>r.map AV.im)=rows.map λr=>r.map AV.im:=LB F H rows
def pW(π:List (Nat×Option Nat))(rows:List (List D)):FQ π (rows.map λr=>r.map AV.im) (rows.map λr=>r.map AV.im)=True:=dV (yG π rows)
def lV(n:Nat)(rows:List (List D)):(rows.map λr=>r.map AV.im).all (AD n)=true:=Qxu n rows
def Qtl{α β:Type}{f:α->Option β}{g:β->α}(h: ∀y,f (g y)=some y): ∀(l:List β),Aq f (l.map g)=some l
 |[]=>rfl
 |x::r=>by simp only[Bb,Aq,h,Qtl h r]
def WL(h:Nat->Option Am)(kx:Nat->Option Nat)(n:Nat)(rows:List (List D)):Aq (Aq λx=>Ee (Bd h kx (n+1) x)) (rows.map λr=>r.map AV.im)=some rows:=
 Qtl (g:=λr=>r.map AV.im) (λy=>Qtl (g:=AV.im) (λ_=>rfl) y) rows
def Ic{A:Type}(f:A->A):Nat->List A->List A
 |0,l=>l
 |_+1,[]=>[]
 |k+1,x::r=>f x::Ic f k r
def Qwq{A:Type}(f:A->A): ∀(k:Nat) (l:List A),(Ic f k l).length=l.length
 |0,_=>rfl
 |_+1,[]=>rfl
 |k+1,x::r=>by simp only[Ic,Dd,Qwq f k r]
def Qoo{A:Type}(f:A->A): ∀(k:Nat) (l:List A),(Ic f k l)[k]? =l[k]?
 |0,_=>rfl
 |_+1,[]=>by simp[Ic]
 |k+1,x::r=>by simp only[Ic,PG,Qoo f k r]
def Qn5{A:Type}(f:A->A): ∀(k:Nat) (l:List A) (x:A),l[k]? =some x->(Ic f k l).set k (f x)=Ic f (k+1) l
 |0,[],x,h=>by simp at h
 |0,y::r,x,h=>by
  simp only[HA,AM] at h;subst h;simp[Ic]
 |k+1,[],x,h=>by simp at h
 |k+1,y::r,x,h=>by
  have:=Qn5 f k r x (by simpa using h)
  rw[Ic,Ic,jH,this]
def Qabf{A:Type}(f:A->A)(k:Nat)(l:List A)(x:A)(h:l[k]? =some x)(hf:f x=x):Ic f (k+1) l=Ic f k l:=by
 rw[<-Qn5 f k l x h,hf];have z:(Ic f k l)[k]? =some x:=by rw[Qoo,h]
 obtain⟨G,O⟩:=Cu.1 z;rw[<-O];exact List.set_getElem_self G
def Qvd{A:Type}(f:A->A): ∀(k:Nat) (l:List A),l.length<=k->Ic f k l=l.map f
 |0,[],_=>rfl
 |0,x::r,h=>by simp at h
 |_+1,[],_=>rfl
 |k+1,x::r,h=>by simp only[Ic,Bb,Qvd f k r (by simpa using h)]
def Wx:Nat->List Int
 |0=>[]
 |k+1=>Wx k++[(k:Int)]
def bY: ∀k,(Wx k).length=k
 |0=>rfl
 |k+1=>by simp[Wx,bY k]
def Jy(x y v:Int):Int:=if v=Ei x y then EL x y else v
def pC(own:List Int)(b:Ag):List Int:=own.map (Jy (own[b.A.toNat]?.getD 0) (own[b.B.toNat]?.getD 0))
def Ce(n:Nat)(bs:List Ag):Nat->List Int
 |0=>Wx n
 |k+1=>match bs[k]? with
  |some b=>pC (Ce n bs k) b
  |none=>Ce n bs k
def Qto(n:Nat)(bs:List Ag): ∀k,(Ce n bs k).length=n
 |0=>bY n
 |k+1=>by
  simp only[Ce];split
  .simp[pC,Qto n bs k]
  .exact Qto n bs k
def CU(own:List Int)(i:Nat):Nat->List Int
 |0=>[]
 |k+1=>CU own i k++(if own[i+k]? =some (i:Int) then [((i+k:Nat):Int)] else [])
def Qsd(own:List Int)(i:Nat): ∀k,(CU own i k).length<=k
 |0=>by simp[CU]
 |k+1=>by
  have:=Qsd own i k
  simp only[CU,DZ]
  split<;>simp<;>omega
def BA(own:List Int)(n:Nat):Nat->List (List Int)
 |0=>[]
 |k+1=>BA own n k++(if own[k]? =some (k:Int) then [CU own k (n - k)] else [])
def nY(own:List Int)(n:Nat): ∀k,(BA own n k).length<=k
 |0=>by simp[BA]
 |k+1=>by
  have:=nY own n k
  simp only[BA,DZ]
  split<;>simp<;>omega
def UU(n:Int)(bs:List Ag):List (List Int):=BA (Ce n.toNat bs bs.length) n.toNat n.toNat
def KW(n:Int)(bs:List Ag):Prop:= ∀b∈bs,0<=b.A/\b.A<n/\0<=b.B/\b.B<n
def l06Groups.fv(a:Int×(List Ag)):List (List Int):=(UU) (a.1) (a.2)
def l06Groups.row:AE:=vK (b2 qI (qS Ag.d_le Ag.c_n)) (rS oG MF) (λa=>0<=a.1/\a.1<=1000000/\KW a.1 a.2) l06Groups.fv
def l06Groups.q:=Bg (R:=l06Groups.row) rfl
def I8:=J @l06Groups.fv.eq_1<|J @l00Min.q<|J @l00Min.fv.eq_1<|J @l00Max.q @l00Max.fv.eq_1
def l06Groups.ok:AI 107 l06Groups.row:=by
 refine vw (tC l00Min.ok (tC l00Max.ok tN)) Tryz.func107 ?_;intro a ad;simp only[Tryz.f107,Option.getD];simp only[ZZ,simprocAttr,Ab,I8];obtain⟨aj,ak,Z⟩:=ad;obtain⟨n,hn⟩: ∃n:Nat,a.1=n:=⟨a.1.toNat,by omega⟩;simp only[UU,hn,Bj];rw[hn] at aj ak Z;refine AY.ren ⟨{k:Nat//k<=n},λk=>⟨[(6,.im (.int .i64 k.1)),(5,.own 2),(0,.im (.int .i64 n)),(1,.im (.sl false 3 (a.2.map Ag.c)))],[(2,(true,.arr 2 1 ((Wx k.1).map Ak)))],3⟩,λk=>n - k.1,λk=>⟨by simp[ZG],by simp⟩,⟨⟨0,by simp⟩,[(2,some 1)],?_⟩,λk=> ?_⟩
 .simp only[Ar];simp only[ZZ,simprocAttr,Ab,I8,AS,AR,Wx,BD,hn]
  try simp
 obtain⟨k,Q⟩:=k;simp only[ZZ,simprocAttr,Ab,I8,sub,AO,VE,V7,VD,Bo,D.one,Ep,E8,NL];have ab:=bY k;refine⟨λz=>⟨by rw[ab];omega,⟨k+1,by omega⟩,[(2,some 4)],by simp only;omega,?_⟩,λz=> ?_⟩
 .simp only[Ar];simp only[ZZ,simprocAttr,Ab,I8,AS,AR];refine⟨by rw[AA (by omega) (by omega)];omega,by simp[Wx,Ak]⟩
 have ag:n=k:=by omega
 subst ag;clear ab z Q;refine AY.old ⟨{k:Nat//k<=a.2.length},λk=>⟨[(7,.im (.int .i64 k.1)),(5,.own 2),(0,.im (.int .i64 n)),(1,.im (.sl false 3 (a.2.map Ag.c)))],[(2,(true,.arr 2 1 ((Ce n a.2 k.1).map Ak)))],3⟩,λk=>a.2.length - k.1,λk=>⟨by simp[ZG],by simp⟩,⟨⟨0,by simp⟩,by simp only[ZZ,simprocAttr,Ab,I8,sub,Ce]⟩,λk=> ?_⟩;obtain⟨k,Q⟩:=k;have G:=Qto n a.2 k;simp only[ZZ,simprocAttr,Ab,I8,sub,AO,G];intro _;refine⟨λz=>⟨z,λb hb=> ?_⟩,λz=> ?_⟩
 .obtain⟨b1,b2,b3,b4⟩:=Z b (Bf hb);refine⟨b1,b2,by omega,λx hx=>⟨z,λb' aa=> ?_⟩⟩;rw[hb] at aa;obtain rfl:=AB aa;refine⟨b3,b4,by omega,λy hy=> ?_⟩;refine AY.old ⟨{j:Nat//j<=n},λj=>⟨[(10,.im (.int .i64 j.1)),(9,.im (.int .i64 y)),(8,.im (.int .i64 x)),(7,.im (.int .i64 k)),(5,.own 2),(0,.im (.int .i64 n)),(1,.im (.sl false 3 (a.2.map Ag.c)))],[(2,(true,.arr 2 1 ((Ic (Jy x y) j.1 (Ce n a.2 k)).map Ak)))],3⟩,λj=>n - j.1,λj=>⟨by simp[ZG],by simp⟩,⟨⟨0,by simp⟩,by simp only[ZZ,simprocAttr,Ab,I8,sub,Ic]⟩,λj=> ?_⟩;obtain⟨j,ao⟩:=j;have ac:=Qwq (Jy x y) j (Ce n a.2 k);rw[G] at ac;have ah:=Qoo (Jy x y) j (Ce n a.2 k);simp only[ZZ,simprocAttr,Ab,I8,sub,AO,ac];intro _;refine⟨λhj=>⟨hj,hj,λv hv=> ?_⟩,λhj=> ?_⟩
  .have av:=hv;rw[ah] at hv;refine⟨λO=>⟨hj,hj,λv' au=>⟨⟨j+1,by omega⟩,by simp only;omega,by rw[AA (by omega) (by omega)];simp only;omega,?_⟩⟩,λO=>⟨⟨j+1,by omega⟩,by simp only;omega,by rw[AA (by omega) (by omega)];simp only;omega,?_⟩⟩
   .rw[<-Qn5 _ _ _ _ hv,Vm];simp only[Jy,O,B5,Ak]
   .rw[Qabf _ _ _ _ hv (by simp only[Jy];rw[Af O])]
  .refine⟨⟨k+1,by omega⟩,by simp only;omega,by rw[AA (by omega) (by omega)];simp only;omega,?_⟩;rw[Qvd _ _ _ (by omega)];simp only[Ce,hb,pC,hx,hy,AT]
 have af:k=a.2.length:=by omega
 subst af;clear z Q Z;refine AY.frr ⟨{k:Nat//k<=n},λk=>⟨[(12,.im (.int .i64 k.1)),(11,.own 4),(5,.own 2),(0,.im (.int .i64 n))],[(4,(true,.arrA 95 1 (Bi ((BA (Ce n a.2 a.2.length) n k.1).map CK)))),(2,(true,.arr 2 1 ((Ce n a.2 a.2.length).map Ak)))],5⟩,λk=>n - k.1,λk=>⟨by simp[ZG,Qxu],by simp⟩,⟨⟨0,by simp⟩,[],[(4,some 3)],?_⟩,λk=> ?_⟩
 .simp only[Ar];simp only[ZZ,simprocAttr,Ab,I8,AS,AR,BA,BD,Xn]
  try simp
 obtain⟨k,Q⟩:=k;obtain⟨own,hown⟩: ∃own,own=Ce n a.2 a.2.length:=⟨_,rfl⟩;simp only[<-hown] at G⊢;have am:=nY own n k;simp only[ZZ,simprocAttr,Ab,I8,sub,AO,G];refine⟨λz=>⟨z,z,λx hx=>⟨λO=>⟨⟨k+1,by omega⟩,[],[(4,some 4)],by simp only;omega,?_⟩,λO=> ?_⟩⟩,λz=> ?_⟩
 .have e1:BA own n (k+1)=BA own n k:=by
   simp only[BA];rw[Af (by rw[hx];simpa using O),D6]
  simp only[Ar];simp only[ZZ,simprocAttr,Ab,I8,AS,AR,Qzb,pW,e1];rw[AA (by omega) (by omega)];simp
 .have O:=Gg.1 O;refine AY.ren ⟨{m:Nat//m<=n - k},λm=>⟨[(14,.im (.int .i64 ((k+m.1:Nat):Int))),(13,.own 6),(12,.im (.int .i64 k)),(11,.own 4),(5,.own 2),(0,.im (.int .i64 n))],[(6,(true,.arr 2 1 ((CU own k m.1).map Ak))),(4,(true,.arrA 95 1 (Bi ((BA own n k).map CK)))),(2,(true,.arr 2 1 (own.map Ak)))],7⟩,λm=>n - k - m.1,λm=>⟨by simp[ZG,Qxu],by simp⟩,⟨⟨0,by simp⟩,[(6,some 5)],?_⟩,λm=> ?_⟩
  .simp only[Ar];simp only[ZZ,simprocAttr,Ab,I8,AS,AR,CU,BD,pW]
   try simp
  obtain⟨m,aq⟩:=m;have an:=Qsd own k m;simp only[ZZ,simprocAttr,Ab,I8,sub,AO,G,VE,V7,VD,Bo,D.one,Ep,E8,NL];refine⟨λhm=>⟨hm,hm,λv hv=>⟨λh=>⟨by omega,⟨m+1,by omega⟩,[(6,some 8)],by simp only;omega,?_⟩,λh=>⟨⟨m+1,by omega⟩,[(6,some 6)],by simp only;omega,?_⟩⟩⟩,λhm=>⟨by simp[AD,AV.bel],by omega,by rw[QL,lV];simp[AD,AV.bel],⟨k+1,by omega⟩,[6],[(4,some 8)],by simp only;omega,?_⟩⟩
  .simp only[Ar];simp only[ZZ,simprocAttr,Ab,I8,AS,AR,pW];refine⟨?_,?_⟩
   .rw[AA (by omega) (by omega)];omega
   .subst h;simp only[CU];rw[Ai hv];simp[Ak]
  .simp only[Ar];simp only[ZZ,simprocAttr,Ab,I8,AS,AR,pW];refine⟨?_,?_⟩
   .rw[AA (by omega) (by omega)];omega
   .simp only[CU];rw[Af (by rw[hv];simpa using h),D6]
  .have ai:m=n - k:=by omega
   have e1:BA own n (k+1)=BA own n k++[CU own k m]:=by
    simp only[BA];rw[Ai (by rw[hx,O]),ai]
   simp only[Ar];simp only[ZZ,simprocAttr,Ab,I8,AS,AR,Qzl,Qzb,e1,En,Bb,BD];rw[AA (by omega) (by omega)];refine⟨by simp,?_⟩
   have:=yG [(4,some 8)] ((BA own n k).map CK++[[D.sl false 1 ((CU own k m).map Ak)]])
   simpa only[Bi,En,Bb,BD] using this
 .have:k=n:=by omega
  subst this;simp only[ZZ,simprocAttr,Ab,I8,WL]
end Go.Ae
namespace Go.Ae
def AG(b n:Nat)(f:Nat->Am):Ao:=(List.range n).map λi=>(b+i,f i)
def Oj(b n:Nat)(f:Nat->Am):AG b (n+1) f=AG b n f++[(b+n,f n)]:=by
 simp only[AG,dS,En,Bb,BD]
def iM(b:Nat)(f:Nat->Am)(m:Nat): ∀(n:Nat),hget (AG b n f) m=if b<=m/\m<b+n then some (f (m - b)) else none
 |0=>by rw[Af (by omega)];rfl
 |n+1=>by
  rw[Oj,vS,iM b f m n];simp only[hget];by_cases h:b<=m/\m<b+n
  .rw[Ai h,Ai (by omega)]
  .rw[Af h];by_cases z:b+n=m
   .subst z;rw[Ai (by omega),show b+n - b=n by omega];simp
   .have:(b+n==m)=false:=by simpa using z
    rw[this,Af (by omega)];rfl
def DY(b n:Nat)(f:Nat->Am)(j:Nat)(h:j<n):hget (AG b n f) (b+j)=some (f j):=by
 rw[iM,Ai (by omega),show b+j - b=j by omega]
def vY(b n:Nat)(f:Nat->Am)(m:Nat)(h:m<b\/b+n<=m):hget (AG b n f) m=none:=by
 rw[iM,Af (by omega)]
def Wb(m:Nat)(ks:List Nat): ∀(x:Ao),hget (Ba x ks) m=if ks.contains m then none else hget x m
 |[]=>by simp[Ba,hget]
 |(q,e)::r=>by
  simp only[Ba];have ih:=Wb m ks r;cases hq:ks.contains q
  .simp only[Bs,hget];cases hqm:q==m
   .simpa using ih
   .have:q=m:=by simpa using hqm
    subst this;simp only[BV,hq];rfl
  .simp only[BV,ih,hget];cases hqm:q==m
   .simp
   .have:q=m:=by simpa using hqm
    subst this;rw[Ai hq,Ai hq]
def Iw(b n:Nat)(f:Nat->Am)(ks:List Nat)(h: ∀k∈ks,k<b\/b+n<=k):Ba (AG b n f) ks=AG b n f:=by
 have: ∀(l:List Nat),(∀i∈l,i<n)->Ba (l.map λi=>(b+i,f i)) ks=l.map λi=>(b+i,f i):=by
  intro l;induction l with
  |nil=>intro _;rfl
  |cons i r ih=>
   intro O;have G:=O i (BQ ..);have z:ks.contains (b+i)=false:=by
    rw[PJ];intro z
    have:=h _ (IC.1 z)
    omega
   simp only[Bb,Ba,z,Bs,ih (λj Q=>O j (BK _ Q))]
 exact this _ (λi G=>Bk.1 G)
def wL(π:List (Nat×Option Nat))(s:Az)(y:Ao): ∀(x:Ao),ES π s (x++y)=(ES π s x/\ES π s y)
 |[]=>by simp[ES]
 |(q,(z,e))::r=>by simp only[BG,ES,wL π s y r,jQ]
def YG(π:List (Nat×Option Nat))(s:Az)(b n:Nat)(f:Nat->Am):ES π s (AG b n f)↔ ∀i,i<n->CE s π (f i).1 (f i).2 (pm π (b+i)):=by
 have: ∀(l:List Nat),ES π s (l.map λi=>(b+i,f i))↔ ∀i∈l,CE s π (f i).1 (f i).2 (pm π (b+i)):=by
  intro l;induction l with
  |nil=>simp[ES]
  |cons i r ih=>simp only[Bb,ES,ih,Bt,zL]
 rw[AG,this];simp only[Bk]
def Fc:Ao->List Nat
 |[]=>[]
 |(n,_)::r=>n::Fc r
def YK(π:List (Nat×Option Nat)): ∀(H:Ao),Es π H=(Fc H).map (pm π)
 |[]=>rfl
 |(n,e)::r=>by simp only[Es,Fc,Bb,YK π r]
def VZ(b n:Nat)(f:Nat->Am):Fc (AG b n f)=(List.range n).map (b+ ·):=by
 have: ∀(l:List Nat),Fc (l.map λi=>(b+i,f i))=l.map (b+ ·):=by
  intro l;induction l with
  |nil=>rfl
  |cons i r ih=>simp only[Bb,Fc,ih]
 exact this _
def YO(g:Nat->Option Nat): ∀(l:List Nat),l.Nodup->(∀x∈l,∀y∈l,∀m,g x=some m->g y=some m->x=y)->Cr (l.map g)=true
 |[],_,_=>rfl
 |x::r,h,G=>by
  simp only[Zj] at h;have ih:=YO g r h.2 (λa Q b Z=>G a (BK _ Q) b (BK _ Z));simp only[Bb];cases hx:g x with
  |none=>simpa only[Cr] using ih
  |some m=>
   simp only[Cr,ih,Ep,PL];rw[PJ];intro hc;obtain⟨y,O,z⟩:=Bn.1 (IC.1 hc)
   have:=G x (BQ ..) y (BK _ O) m hx z
   exact h.1 (this▸O)
def Wp(π:List (Nat×Option Nat)): ∀(a b:List (List AV)),FQ π a b↔a.length=b.length/\ ∀(i:Nat) x y,a[i]? =some x->b[i]? =some y->Dp π x y
 |[],[]=>by simp[FQ]
 |[],_::_=>by simp[FQ]
 |_::_,[]=>by simp[FQ]
 |x::r,y::s=>by
  simp only[FQ,Wp π r s,Dd,Nat.add_right_cancel_iff];constructor
  .rintro⟨Z,Q,O⟩;refine⟨Q,λi x' y' z G=> ?_⟩;cases i with
   |zero=>
    simp only[HA,AM] at z G;subst z;subst G;exact Z
   |succ i=>exact O i x' y' (by simpa using z) (by simpa using G)
  .rintro⟨Q,O⟩;exact⟨O 0 x y rfl rfl,Q,λi x' y' z G=>O (i+1) x' y' (by simpa using z) (by simpa using G)⟩
def N9(nx b:Nat)(f:Nat->Am)(hf: ∀i,Av nx [(b+i,f i)]=true)(n:Nat):Av nx (AG b n f)=true:=by
 have G: ∀(x y:Ao),Av nx (x++y)=(Av nx x && Av nx y):=by
  intro x y;induction x with
  |nil=>simp[Av]
  |cons z r ih=>
   obtain⟨q,Q,e⟩:=z;cases e<;>simp[Av,ih,jM]
 have: ∀(l:List Nat),Av nx (l.map λi=>(b+i,f i))=true:=by
  intro l;induction l with
  |nil=>rfl
  |cons i r ih=>
   have O:=G [(b+i,f i)] (r.map λi=>(b+i,f i));rw[Bb,show (b+i,f i)::(r.map λi=>(b+i,f i))=[(b+i,f i)]++(r.map λi=>(b+i,f i)) from rfl,O,hf i,ih];rfl
 exact this _
def N6(nx b n:Nat)(f:Nat->Am)(h:b+n<=nx):BB nx (AG b n f)=true:=by
 have: ∀(l:List Nat),(∀i∈l,i<n)->BB nx (l.map λi=>(b+i,f i))=true:=by
  intro l;induction l with
  |nil=>intro _;rfl
  |cons i r ih=>
   intro z;simp only[Bb,BB,ih (λj O=>z j (BK _ O)),Ep];rw[Ed]
   have:=z i (BQ ..)
   omega
 exact this _ (λi G=>Bk.1 G)
def IK(b n:Nat):List (Nat×Option Nat):=(List.range n).map λi=>(b+i,none)
def iL(b n m:Nat):pm (IK b n) m=if b<=m/\m<b+n then none else some m:=by
 have: ∀(l:List Nat),pm (l.map λi=>(b+i,none)) m=if b<=m/\m - b∈l then none else some m:=by
  intro l;induction l with
  |nil=>simp[pm]
  |cons i r ih=>
   simp only[Bb,pm,ih,Bt];by_cases h:b+i=m
   .rw[Ai h,Ai ⟨by omega,.inl (by omega)⟩]
   .rw[Af h];by_cases z:b<=m/\m - b∈r
    .rw[Ai z,Ai ⟨z.1,.inr z.2⟩]
    .rw[Af z,Af (by rintro⟨O,G|G⟩;exact h (by omega);exact z ⟨O,G⟩)]
 rw[IK,this];simp only[Bk];by_cases h:b<=m/\m<b+n
 .rw[Ai h,Ai (by omega)]
 .rw[Af h,Af (by omega)]
def RS(lo b n:Nat)(h:lo<=b):HO lo (IK b n):=by
 have: ∀(l:List Nat),HO lo (l.map λi=>(b+i,none)):=by
  intro l;induction l with
  |nil=>trivial
  |cons i r ih=>simp only[Bb,HO];exact⟨by omega,ih⟩
 exact this _
def QX(k b j:Nat)(h:k<b):(k==b+j)=false:=by simp;omega
def NT(k b j:Nat)(h:k<b):(b+j==k)=false:=by simp;omega
end Go.Ae
namespace Go.Ae
open Go.Proofs
def Db(n:Bc)(v i:Int):Int×Int:=match n.Bonds[i.toNat]? with
 |some b=>if b.A=v then (b.Strength - n.Flow[i.toNat]?.getD 0,b.B) else (b.Strength+n.Flow[i.toNat]?.getD 0,b.A)
 |none=>(0,0)
structure Di(n:Bc):Prop where
 c0:0<=n.Cnt
 c1:n.Cnt<=1000000
 fl:n.Flow.length=n.Bonds.length
 al:(n.At.length:Int)=n.Cnt
 bs:KW n.Cnt n.Bonds
 at_: ∀(v:Nat) (r:List Int),n.At[v]? =some r-> ∀i∈r,0<=i/\ ∃b,n.Bonds[i.toNat]? =some b/\(b.A=v\/b.B=v)
 f: ∀x∈n.Flow,-1000000<=x/\x<=1000000
 st: ∀b∈n.Bonds,0<=b.Strength/\b.Strength<=1000000
 all: ∀(i:Nat) b,n.Bonds[i]? =some b->(∃r,n.At[b.A.toNat]? =some r/\(i:Int)∈r)/\ ∃r,n.At[b.B.toNat]? =some r/\(i:Int)∈r
 ne: ∀b∈n.Bonds,b.A≠b.B
def roomC.fv(a:Bc×Int×Int):Int×Int:=(Db) (a.1) (a.2.1) (a.2.2)
def roomC.row:AE:=CG (b3 (qP 4 Bc.d_le) qI qI) (r2 rI rI) (λa=>Di a.1/\0<=a.2.2/\a.2.2<a.1.Bonds.length) roomC.fv
def roomC.q:=CH (R:=roomC.row) rfl
def roomC.ok:AI 163 roomC.row:=by
 refine Gy tN Tryz.func163 ?_;intro a z;simp only[Tryz.f163,Option.getD];simp only[ZZ,simprocAttr,Ab,roomC.fv,BS,D.sc,D.scs,BJ,AQ];obtain⟨G,O,h3⟩:=z;have aa:=G.fl;refine⟨O,h3,λb Q=> ?_⟩;have ab:=G.st b (Bf Q)
 split<;>rename_i h
 .refine⟨O,by omega,λf hf=> ?_⟩;have Z:=G.f f (Bf hf);rw[AA (by omega) (by omega)];simp only[Db,Q,hf,AT];rw[Ai h]
 .refine⟨O,by omega,λf hf=> ?_⟩;have Z:=G.f f (Bf hf);rw[AA (by omega) (by omega)];simp only[Db,Q,hf,AT];rw[Af h]
def Dq(n:Bc)(v i:Int):Int:=match n.Bonds[i.toNat]? with
 |some b=>b.A+b.B - v
 |none=>0
def B8(n:Bc)(v:Int)(s:List Int×List Int)(i:Int):List Int×List Int:=
 if s.1[(Dq n v i).toNat]?.getD 0<0/\0<(Db n (Dq n v i) i).1 then (s.1.set (Dq n v i).toNat (s.1[v.toNat]?.getD 0+1),s.2++[Dq n v i]) else s
def Ct(n:Bc)(q:Int):Nat->List Int×List Int
 |0=>((List.replicate n.Cnt.toNat (-1)).set q.toNat 0,[q])
 |k+1=>match (Ct n q k).2[k]? with
  |none=>Ct n q k
  |some v=>(n.At[v.toNat]?.getD []).foldl (B8 n v) (Ct n q k)
def Fa(n:Bc)(q:Int):List Int:=(Ct n q n.Cnt.toNat).1
structure Wm(n:Bc)(s:List Int×List Int):Prop where
 len:s.1.length=n.Cnt.toNat
 rng: ∀x∈s.1,-1<=x/\x<=s.2.length
 q: ∀x∈s.2,0<=x/\x<n.Cnt
 cnt:(s.1.filter (λx=>decide (0<=x))).length=s.2.length
def Qlu{A:Type}(p:A->Bool): ∀(l:List A) (w:Nat) (x y:A),l[w]? =some x->p x=false->p y=true->((l.set w y).filter p).length=(l.filter p).length+1
 |[],w,x,y,h,_,_=>by simp at h
 |z::r,0,x,y,h,G,O=>by
  simp only[HA,AM] at h;subst h;simp[ZeL,G,O]
 |z::r,w+1,x,y,h,G,O=>by
  have:=Qlu p r w x y (by simpa using h) G O
  simp only[jH,ZeL];split
  .simp only[Dd,this]
  .exact this
def vL{n:Bc}(h0:0<=n.Cnt){s:List Int×List Int}(h:Wm n s):(s.2.length:Int)<=n.Cnt:=by
 have z:=h.cnt;have G:=ZeV (λx=>decide (0<=x)) s.1;have O:=h.len;omega
def cI{n:Bc}(hn:Di n){v:Nat}{r:List Int}(Q:n.At[v]? =some r){i:Int}(O:i∈r):0<=i/\i<n.Bonds.length/\0<=Dq n v i/\Dq n v i<n.Cnt:=by
 obtain⟨h0,b,z,hv⟩:=hn.at_ v r Q i O;have G:=hn.bs b (Bf z);have Z:=(Cu.1 z).1;simp only[Dq,z];omega
def Qtm{n:Bc}(hn:Di n){v:Nat}{r:List Int}(Z:n.At[v]? =some r){i:Int}(Q:i∈r){s:List Int×List Int}(hs:Wm n s):Wm n (B8 n v s i):=by
 obtain⟨_,_,o1,o2⟩:=cI hn Z Q;simp only[B8];split
 .rename_i h;have G:(Dq n v i).toNat<s.1.length:=by rw[hs.len];omega
  obtain⟨x,hx⟩: ∃x,s.1[(Dq n v i).toNat]? =some x:=⟨_,B2 G⟩;have aa:x<0:=by have:=h.1;rw[hx] at this;simpa using this
  have O:0<=s.1[(v:Int).toNat]?.getD 0+1/\s.1[(v:Int).toNat]?.getD 0+1<=s.2.length+1:=by
   cases hv:s.1[(v:Int).toNat]? with
   |none=>simp;omega
   |some y=>have:=hs.rng y (Bf hv);simp only[AT];omega
  refine⟨by simpa using hs.len,λy z=> ?_,λy z=> ?_,?_⟩
  .simp only[DZ,Dd,H9];rcases W5 z with z|z
   .have:=hs.rng y z;omega
   .subst z;omega
  .rcases Bz.1 z with z|z
   .exact hs.q y z
   .rw[BL] at z;subst z;exact⟨o1,o2⟩
  .rw[Qlu _ _ _ x _ hx (by rw[J3];omega) (by rw[Cy];exact O.1),hs.cnt];simp
 .exact hs
def Qs1{n:Bc}(hn:Di n){v:Nat}{r:List Int}(O:n.At[v]? =some r): ∀(l:List Int) (s:List Int×List Int),(∀i∈l,i∈r)->Wm n s->Wm n (l.foldl (B8 n v) s)
 |[],s,_,z=>z
 |i::l,s,G,z=>Qs1 hn O l _ (λj Q=>G j (BK _ Q)) (Qtm hn O (G i (BQ ..)) z)
def Wg{n:Bc}(hn:Di n){q:Int}(h0:0<=q)(G:q<n.Cnt): ∀k,Wm n (Ct n q k)
 |0=>by
  have hq:q.toNat<n.Cnt.toNat:=by omega
  refine⟨by simp[Ct],λx z=> ?_,λx z=> ?_,?_⟩
  .simp only[Ct] at z⊢;rcases W5 z with z|z
   .have:=NJ z;simp;omega
   .subst z;simp
  .simp only[Ct,BL] at z;subst z;exact⟨h0,G⟩
  .simp only[Ct];rw[Qlu _ _ _ (-1) _ (by rw[Lh,Ai hq]) (by simp) (by simp)]
   have:(List.replicate n.Cnt.toNat (-1:Int)).filter (λx=>decide (0<=x))=[]:=by
    rw[List.filter_eq_nil_iff];intro x z;rw[NJ z];simp
   rw[this];rfl
 |k+1=>by
  have ih:=Wg hn h0 G k;simp only[Ct];split
  .exact ih
  .rename_i v Q;have Z:=ih.q v (Bf Q);obtain⟨m,rfl⟩: ∃m:Nat,v=m:=⟨v.toNat,by omega⟩;have O:m<n.At.length:=by have:=hn.al;omega
   obtain⟨r,hr⟩: ∃r,n.At[m]? =some r:=⟨_,B2 O⟩;simp only[Bj,hr,AT];exact Qs1 hn hr r _ (λ_ h=>h) ih
def Ln(n:Bc)(q:Int): ∀(m k:Nat),(Ct n q k).2.length<=k->Ct n q (k+m)=Ct n q k
 |0,k,_=>rfl
 |m+1,k,h=>by
  have z:Ct n q (k+1)=Ct n q k:=by
   rw[Ct,HB h]
  have G:=Ln n q m (k+1) (by rw[z];omega);rw[show k+(m+1)=k+1+m by omega,G,z]
def Qwn(n:Bc)(v:Int): ∀(l:List Int) (s:List Int×List Int),s.2.length<=(l.foldl (B8 n v) s).2.length
 |[],s=>AP _
 |i::l,s=>by
  have z:s.2.length<=(B8 n v s i).2.length:=by
   simp only[B8];split
   .simp
   .exact AP _
  exact CD z (Qwn n v l _)
def stepsC.fv(a:Bc×Int):List Int:=(Fa) (a.1) (a.2)
def stepsC.row:AE:=CG (b2 (qP 4 Bc.d_le) qI) (rS GH EX) (λa=>Di a.1/\0<=a.2/\a.2<a.1.Cnt) stepsC.fv
def stepsC.q:=CH (R:=stepsC.row) rfl
def PE:=J @stepsC.fv.eq_1 (J @roomC.q @roomC.fv.eq_1)
def stepsC.ok:AI 137 stepsC.row:=by
 refine Gy (tC roomC.ok tN) Tryz.func137 ?_;intro a ag;simp only[Tryz.f137,Option.getD];simp only[ZZ,simprocAttr,Ab,PE,BS,D.sc,D.scs,BJ,AQ];obtain⟨hn,ah,ao⟩:=ag;have aw:=hn.c1;obtain⟨c,hc⟩: ∃c:Nat,a.1.Cnt=c:=⟨a.1.Cnt.toNat,by omega⟩;refine AY.ren ⟨{k:Nat//k<=c},λk=>⟨[(6,.im (.int .i64 k.1)),(5,.own 3),(0,.ptr 0 0),(1,.im (.int .i64 a.2))],[(3,(true,.arr 2 1 ((List.replicate k.1 (-1:Int)).map Ak))),(0,(false,.view (Bc.c a.1)))],4⟩,λk=>c - k.1,λk=>⟨by simp[ZG],by simp⟩,⟨⟨0,by simp⟩,[(3,some 2)],?_⟩,λk=> ?_⟩
 .simp only[Ar];simp only[ZZ,simprocAttr,Ab,PE,BS,D.sc,D.scs,BJ,AQ,AS,AR,List.replicate_zero,BD]
  try simp
 obtain⟨k,am⟩:=k;simp only[ZZ,simprocAttr,Ab,PE,BS,D.sc,D.scs,BJ,AQ,sub,AO,hc,NI];refine⟨λhk=>⟨by omega,⟨k+1,by omega⟩,[(3,some 5)],by simp only;omega,?_⟩,λhk=> ?_⟩
 .simp only[Ar];simp only[ZZ,simprocAttr,Ab,PE,BS,D.sc,D.scs,BJ,AQ,AS,AR];refine⟨by rw[AA (by omega) (by omega)];omega,?_⟩;rw[List.replicate_succ'];simp[Ak]
 have an:c=k:=by omega
 subst an;refine⟨ah,by omega,by omega,λ_ _=> ?_⟩;have au:=hn.al;have ac:=Wg hn ah ao;refine AY.ren ⟨{k:Nat//k<=(Ct a.1 a.2 k).2.length},λk=>⟨[(8,.im (.int .i64 k.1)),(7,.own 5),(5,.own 3),(0,.ptr 0 0),(1,.im (.int .i64 a.2))],[(5,(true,.arr 2 1 ((Ct a.1 a.2 k.1).2.map Ak))),(3,(true,.arr 2 1 ((Ct a.1 a.2 k.1).1.map Ak))),(0,(false,.view (Bc.c a.1)))],6⟩,λk=>c - k.1,λk=>⟨by simp[ZG],by simp⟩,⟨⟨0,by simp⟩,[(5,some 4)],?_⟩,λk=> ?_⟩
 .simp only[Ar];simp only[ZZ,simprocAttr,Ab,PE,BS,D.sc,D.scs,BJ,AQ,AS,AR,hc,Ct];simp[hc,Ak,Vm]
 obtain⟨k,am⟩:=k;have hi:=ac k;have ai:=hi.len;have ay:=vL (by omega) hi;simp only[ZZ,simprocAttr,Ab,PE,BS,D.sc,D.scs,BJ,AQ,sub,AO,hc,ai];intro _;refine⟨λhk=>⟨hk,hk,λv hv=> ?_⟩,λhk=> ?_⟩
 .have a8:=hi.q v (Bf hv);obtain⟨m,rfl⟩: ∃m:Nat,v=m:=⟨v.toNat,by omega⟩;have hm:m<a.1.At.length:=by omega
  obtain⟨r,hr⟩: ∃r,a.1.At[m]? =some r:=⟨_,B2 hm⟩;have O:Ct a.1 a.2 (k+1)=r.foldl (B8 a.1 m) (Ct a.1 a.2 k):=by
   simp only[Ct,hv,Bj,hr,AT]
  refine AY.ren ⟨{j:Nat//j<=r.length},λj=>⟨[(10,.im (.int .i64 j.1)),(9,.im (.int .i64 m)),(8,.im (.int .i64 k)),(7,.own 6),(5,.own 3),(0,.ptr 0 0),(1,.im (.int .i64 a.2))],[(6,(true,.arr 2 1 (((r.take j.1).foldl (B8 a.1 m) (Ct a.1 a.2 k)).2.map Ak))),(3,(true,.arr 2 1 (((r.take j.1).foldl (B8 a.1 m) (Ct a.1 a.2 k)).1.map Ak))),(0,(false,.view (Bc.c a.1)))],7⟩,λj=>r.length - j.1,λj=>⟨by simp[ZG],by simp⟩,⟨⟨0,by simp⟩,[(6,some 5)],?_⟩,λj=> ?_⟩
  .simp only[Ar];simp only[ZZ,simprocAttr,Ab,PE,BS,D.sc,D.scs,BJ,AQ,AS,AR,hc,Eo,jN]
   try simp
  obtain⟨j,ax⟩:=j;have hs:=Qs1 hn hr (r.take j) _ (λi hi=>zB hi) hi;obtain⟨s,hsd⟩: ∃s,s=(r.take j).foldl (B8 a.1 m) (Ct a.1 a.2 k):=⟨_,rfl⟩;rw[<-hsd] at hs;have aq:=hs.len;have a0:=vL (by omega) hs;simp only[<-hsd];have af:(⟨(c:Int),a.1.Bonds,a.1.At,a.1.Flow⟩:Bc)=a.1:=by rw[<-hc]
  simp only[ZZ,simprocAttr,Ab,PE,BS,D.sc,D.scs,BJ,AQ,sub,AO,hc,af,aq,VE,V7,VD,Bo,D.one,Ep,E8,NL];refine⟨hm,λr' G=> ?_⟩;rw[hr] at G;obtain rfl:=AB G;intro az;refine⟨λhj=>⟨hm,λr' G=> ?_⟩,λhj=> ?_⟩
  .rw[hr] at G;obtain rfl:=AB G;refine⟨hj,λi ab=> ?_⟩;have aj:=Bf ab;obtain⟨i0,i1,o0,o1⟩:=cI hn hr aj;have z:(r.take (j+1)).foldl (B8 a.1 m) (Ct a.1 a.2 k)=B8 a.1 m s i:=by
    rw[IA,ab,yX,<-hsd];rfl
   refine⟨i0,i1,λb hb=>⟨i0,i1,λb' aa=> ?_⟩⟩;rw[hb] at aa;obtain rfl:=AB aa;have av:=hn.bs b (Bf hb);have hw:IntKind.wrap .i64 (IntKind.wrap .i64 (b.A+b.B) - m)=Dq a.1 m i:=by
    rw[AA (x:=b.A+b.B) (by omega) (by omega),AA (by omega) (by omega)];simp only[Dq,hb]
   rw[hw];have ad:(Dq a.1 m i).toNat<c:=by omega
   refine⟨⟨hn,i0,i1⟩,o0,by omega,ad,λx hx=>⟨λZ=>⟨λQ=>⟨by omega,by omega,λy hy=>⟨o0,by omega,ad,λ_ _=>⟨by omega,⟨j+1,by omega⟩,[(6,some 8)],by simp only;omega,?_⟩⟩⟩,λQ=>⟨⟨j+1,by omega⟩,[(6,some 6)],by simp only;omega,?_⟩⟩,λZ=>⟨⟨j+1,by omega⟩,[(6,some 6)],by simp only;omega,?_⟩⟩⟩
   .have e1:B8 a.1 m s i=(s.1.set (Dq a.1 m i).toNat (y+1),s.2++[Dq a.1 m i]):=by
     simp only[B8];rw[Ai ⟨by rw[hx];exact Z,Q⟩,Bj,hy];rfl
    have a9:=hs.rng y (Bf hy);simp only[Ar,z,e1];simp only[ZZ,simprocAttr,Ab,PE,BS,D.sc,D.scs,BJ,AQ,AS,AR,hc];rw[AA (x:=y+1) (by omega) (by omega)];refine⟨by rw[AA (by omega) (by omega)];omega,?_,?_⟩
    .simp[Ak]
    .simp[Ak,Vm]
   .have e1:B8 a.1 m s i=s:=by
     simp only[B8];rw[Af (λh=>Q h.2)]
    simp only[Ar,z,e1];simp only[ZZ,simprocAttr,Ab,PE,BS,D.sc,D.scs,BJ,AQ,AS,AR,hc];rw[AA (by omega) (by omega)];simp
   .have e1:B8 a.1 m s i=s:=by
     simp only[B8];rw[Af (λh=>Z (by have:=h.1;rw[hx] at this;exact this))]
    simp only[Ar,z,e1];simp only[ZZ,simprocAttr,Ab,PE,BS,D.sc,D.scs,BJ,AQ,AS,AR,hc];rw[AA (by omega) (by omega)];simp
  .have ak:j=r.length:=by omega
   subst ak;rw[IB] at hsd;refine⟨⟨k+1,by
    have:=Qwn a.1 m r (Ct a.1 a.2 k)
    rw[O];omega⟩,[(5,some 6)],by simp only;omega,?_⟩
   simp only[Ar,O,<-hsd];simp only[ZZ,simprocAttr,Ab,PE,BS,D.sc,D.scs,BJ,AQ,AS,AR,hc];rw[AA (by omega) (by omega)];simp
 .rw[Fa,hc,Bj]
  have:=Ln a.1 a.2 (c - k) k (by omega)
  rw[show k+(c - k)=c by omega] at this;rw[this]
def Zb(l:List Int):Nat->List Int
 |0=>[]
 |k+1=>Zb l k++(if 0<=l[k]?.getD (-1) then [(k:Int)] else [])
def Qu8(l:List Int): ∀k,(Zb l k).length<=k
 |0=>AP _
 |k+1=>by
  have:=Qu8 l k
  simp only[Zb,DZ]
  split<;>simp<;>omega
def cY(n:Bc)(q:Int):List Int:=Zb (Fa n q) n.Cnt.toNat
def nP{n:Bc}(hn:Di n){q:Int}(h0:0<=q)(z:q<n.Cnt):(Fa n q).length=n.Cnt.toNat:=(Wg hn h0 z _).len
def sideC.fv(a:Bc×Int):List Int:=(cY) (a.1) (a.2)
def sideC.row:AE:=CG (b2 (qP 4 Bc.d_le) qI) (rS GH EX) (λa=>Di a.1/\0<=a.2/\a.2<a.1.Cnt) sideC.fv
def sideC.q:=CH (R:=sideC.row) rfl
def qX:=J @sideC.fv.eq_1 (J @stepsC.q @stepsC.fv.eq_1)
def sideC.ok:AI 113 sideC.row:=by
 refine Gy (tC stepsC.ok tN) Tryz.func113 ?_;intro a z;simp only[Tryz.f113,Option.getD];simp only[ZZ,simprocAttr,Ab,qX,BS,D.sc,D.scs,BJ,AQ];refine⟨z,?_⟩;obtain⟨hn,O,Q⟩:=z;have aa:=hn.c1;obtain⟨c,hc⟩: ∃c:Nat,a.1.Cnt=c:=⟨a.1.Cnt.toNat,by omega⟩;have G:=nP hn O Q;rw[hc,Bj] at G;simp only[cY,hc,Bj];obtain⟨l,hl⟩: ∃l,l=Fa a.1 a.2:=⟨_,rfl⟩;simp only[<-hl] at G⊢;refine AY.ren ⟨{k:Nat//k<=c},λk=>⟨[(7,.im (.int .i64 k.1)),(6,.own 3),(5,.im (.sl false 1 (l.map Ak))),(0,.ptr 0 0)],[(3,(true,.arr 2 1 ((Zb l k.1).map Ak))),(0,(false,.view (Bc.c a.1)))],4⟩,λk=>c - k.1,λk=>⟨by simp[ZG],by simp⟩,⟨⟨0,by simp⟩,[(3,some 2)],?_⟩,λk=> ?_⟩
 .simp only[Ar];simp only[ZZ,simprocAttr,Ab,qX,BS,D.sc,D.scs,BJ,AQ,AS,AR,hc,Zb,BD]
  try simp
 obtain⟨k,ab⟩:=k;have ac:=Qu8 l k;simp only[ZZ,simprocAttr,Ab,qX,BS,D.sc,D.scs,BJ,AQ,sub,AO,hc,G,VE,V7,VD,Bo,D.one,Ep,E8,NL];refine⟨λZ=>⟨Z,λx hx=>⟨λh=>⟨by omega,⟨k+1,by omega⟩,[(3,some 5)],by simp only;omega,?_⟩,λh=>⟨⟨k+1,by omega⟩,[(3,some 3)],by simp only;omega,?_⟩⟩⟩,λZ=> ?_⟩
 .simp only[Ar];simp only[ZZ,simprocAttr,Ab,qX,BS,D.sc,D.scs,BJ,AQ,AS,AR,hc];refine⟨by rw[AA (by omega) (by omega)];omega,?_⟩;simp only[Zb,hx,AT];rw[Ai h];simp[Ak]
 .simp only[Ar];simp only[ZZ,simprocAttr,Ab,qX,BS,D.sc,D.scs,BJ,AQ,AS,AR,hc];refine⟨by rw[AA (by omega) (by omega)];omega,?_⟩;simp only[Zb,hx,AT];rw[Af h,D6]
 .rw[show k=c by omega]
def Ib(n:Bc)(v i:Int):Bc:=⟨n.Cnt,n.Bonds,n.At,match n.Bonds[i.toNat]? with
 |some b=>n.Flow.set i.toNat (if b.A=v then n.Flow[i.toNat]?.getD 0+1 else n.Flow[i.toNat]?.getD 0 - 1)
 |none=>n.Flow⟩
def FS(n:Bc):List AV:=[.im (.int .i64 n.Cnt),.im (.sl false 3 (n.Bonds.map Ag.c)),.im (.sl false 1 (n.At.map CK)),.own 1]
def DG(n:Bc):Ao:=[(0,(true,.cells 195 (FS n))),(1,(true,.arr 2 1 (n.Flow.map Ak)))]
def lB(n:Bc)(j:Nat):Aj (DG n) j=true↔j<2:=by
 simp only[Aj,DG,hget];by_cases h0:j=0
 .subst h0;simp
 .by_cases O:j=1
  .subst O;simp
  .have z:(0==j)=false:=by simp;omega
   have G:(1==j)=false:=by simp;omega
   simp[z,G];omega
def JB(j:Nat):Bool:=j==1
def pushC.ca(a:Bc×Int×Int):List AV:=[.ptr 0 0,.im (.int .i64 a.2.1),.im (.int .i64 a.2.2)]
def pushC.H1(a:Bc×Int×Int):Ao:=[(1,(true,.arr 2 1 ((Ib a.1 a.2.1 a.2.2).Flow.map Ak)))]
def pushC.row:AE:=AL pushC.ca (λa=>DG a.1) 2 (λa=>Di a.1/\0<=a.2.2/\a.2.2<a.1.Bonds.length) JB (λ_=> .im (.tup [])) pushC.H1 0
def pushC.ok:AI 164 pushC.row:=by
 refine ow tN Tryz.func164 (exB:=λ_=>false) (R:=λ_ r=>r= .im (.tup [])) (λ_=>rfl)
  (λa=>by simp[pushC.ca,DG,FS,pushC.H1,JB,AD,AV.bel,Av,BB,BU,Ac.nms,Aw,AV.nms,Aj,hget]) (λa p hp=> ?_) (λa r h=>by subst h;exact Dh.refl _) ?_
 rotate_left
 intro a z;simp only[Tryz.f164,Option.getD,pushC.ca,DG,FS,pushC.H1,JB];simp only[ZZ,simprocAttr,Ab,Ax,pushC.ca,DG,FS,pushC.H1,JB];obtain⟨hn,h0,Q⟩:=z;have Z:=hn.fl;refine⟨h0,Q,λb O=> ?_⟩
 split<;>rename_i h
 .refine⟨h0,by omega,by omega,λf hf=>⟨h0,by omega,by omega,λ_ _=> ?_⟩⟩;have G:=hn.f f (Bf hf);rw[AA (by omega) (by omega)];simp only[Ib,O,hf,AT,Ai h,Vm];rfl
 .refine⟨h0,by omega,by omega,λf hf=>⟨h0,by omega,by omega,λ_ _=> ?_⟩⟩;have G:=hn.f f (Bf hf);rw[AA (by omega) (by omega)];simp only[Ib,O,hf,AT,Af h,Vm];rfl
 simp[pushC.H1] at hp;subst hp;exact .inl ⟨by omega,rfl,rfl⟩
structure FD(n:Bc)(q:Int)(s:List Int×List Int):Prop where
 zero:s.1[q.toNat]? =some 0
 uniq: ∀(w:Nat),s.1[w]? =some 0->w=q.toNat
 prev: ∀(w:Nat) (x:Int),s.1[w]? =some x->0<x-> ∃(v:Nat) (r:List Int) (i:Int),s.1[v]? =some (x - 1)/\n.At[v]? =some r/\i∈r/\Dq n v i=w/\0<(Db n w i).1
 qs: ∀v∈s.2,∃y,s.1[v.toNat]? =some y/\0<=y
def nR(n:Bc)(v:Int)(s:List Int×List Int)(i:Int)(u:Nat)(y:Int)(h:s.1[u]? =some y)(h0:0<=y):(B8 n v s i).1[u]? =some y:=by
 simp only[B8];split
 .rename_i G;have z:(Dq n v i).toNat≠u:=by
   intro O;rw[O,h] at G
   have:=G.1
   simp at this;omega
  simp only;rw[DL z];exact h
 .exact h
def Qor(n:Bc)(v:Int)(u:Nat)(y:Int)(h0:0<=y): ∀(l:List Int) (s:List Int×List Int),s.1[u]? =some y->(l.foldl (B8 n v) s).1[u]? =some y
 |[],_,h=>h
 |i::l,s,h=>Qor n v u y h0 l _ (nR n v s i u y h h0)
def dX{n:Bc}(hn:Di n){q:Int}{v:Nat}{r:List Int}(hr:n.At[v]? =some r){i:Int}(hi:i∈r){s:List Int×List Int}(hs:Wm n s)(hp:FD n q s){y:Int}(hv:s.1[v]? =some y)(hy:0<=y):FD n q (B8 n v s i):=by
 obtain⟨_,_,o1,o2⟩:=cI hn hr hi;have keep:=λu z h h0=>nR n v s i u z h h0
 have Z:(Dq n v i).toNat<s.1.length:=by rw[hs.len];omega
 by_cases hc:s.1[(Dq n v i).toNat]?.getD 0<0/\0<(Db n (Dq n v i) i).1
 .have Q:B8 n v s i=(s.1.set (Dq n v i).toNat (y+1),s.2++[Dq n v i]):=by
   simp only[B8];rw[Ai hc,Bj,hv];rfl
  have hget: ∀(w:Nat) (x:Int),(B8 n v s i).1[w]? =some x->(w=(Dq n v i).toNat/\x=y+1)\/s.1[w]? =some x:=by
   intro w x G;rw[Q] at G;simp only at G;by_cases hw:(Dq n v i).toNat=w
   .subst hw;rw[DC Z] at G;exact .inl ⟨rfl,(AB G).symm⟩
   .rw[DL hw] at G;exact .inr G
  refine⟨keep _ _ hp.zero (by omega),λw hw=> ?_,λw x G h0=> ?_,λu O=> ?_⟩
  .rcases hget w 0 hw with ⟨_,h⟩|h
   .omega
   .exact hp.uniq w h
  .rcases hget w x G with ⟨h1,h2⟩|h
   .refine⟨v,r,i,keep _ _ (by rw[hv];congr 1;omega) (by omega),hr,hi,by omega,?_⟩
    have:(w:Int)=Dq n v i:=by omega
    rw[this];exact hc.2
   .obtain⟨v',r',i',g1,g2,g3,g4,g5⟩:=hp.prev w x h h0;exact⟨v',r',i',keep _ _ g1 (by omega),g2,g3,g4,g5⟩
  .rw[Q] at O;rcases Bz.1 O with O|O
   .obtain⟨z,h1,h2⟩:=hp.qs u O;exact⟨z,keep _ _ h1 h2,h2⟩
   .rw[BL] at O;subst O;refine⟨y+1,?_,by omega⟩;rw[Q];exact DC Z
 .have Q:B8 n v s i=s:=by simp only[B8];rw[Af hc]
  rw[Q];exact hp
def QY{n:Bc}(hn:Di n){q:Int}{v:Nat}{r:List Int}(G:n.At[v]? =some r){y:Int}(O:0<=y): ∀(l:List Int) (s:List Int×List Int),(∀i∈l,i∈r)->Wm n s->FD n q s->s.1[v]? =some y->FD n q (l.foldl (B8 n v) s)
 |[],s,_,_,hp,_=>hp
 |i::l,s,z,Q,hp,Z=>QY hn G O l _ (λj hj=>z j (BK _ hj)) (Qtm hn G (z i (BQ ..)) Q) (dX hn G (z i (BQ ..)) Q hp Z O) (nR n v s i v y Z O)
def Nv{n:Bc}(hn:Di n){q:Int}(h0:0<=q)(h1:q<n.Cnt): ∀k,FD n q (Ct n q k)
 |0=>by
  have hq:q.toNat<n.Cnt.toNat:=by omega
  have z:q.toNat<(List.replicate n.Cnt.toNat (-1:Int)).length:=by rw[NI];exact hq
  have hget: ∀(w:Nat) (x:Int),((List.replicate n.Cnt.toNat (-1:Int)).set q.toNat 0)[w]? =some x->(w=q.toNat/\x=0)\/x= -1:=by
   intro w x G;by_cases Q:q.toNat=w
   .subst Q;rw[DC z] at G;exact .inl ⟨rfl,(AB G).symm⟩
   .rw[DL Q] at G;exact .inr (NJ (Bf G))
  refine⟨DC z,λw Q=> ?_,λw x G aa=> ?_,λv O=> ?_⟩
  .rcases hget w 0 Q with h|h
   .exact h.1
   .omega
  .rcases hget w x G with h|h<;>omega
  .simp only[Ct,BL] at O;subst O;exact⟨0,DC z,NK _⟩
 |k+1=>by
  have ih:=Nv hn h0 h1 k;have hi:=Wg hn h0 h1 k;simp only[Ct];split
  .exact ih
  .rename_i v O;have ab:=hi.q v (Bf O);obtain⟨m,rfl⟩: ∃m:Nat,v=m:=⟨v.toNat,by omega⟩;have hm:m<n.At.length:=by have:=hn.al;omega
   obtain⟨r,hr⟩: ∃r,n.At[m]? =some r:=⟨_,B2 hm⟩;obtain⟨y,hy,Z⟩:=ih.qs _ (Bf O);simp only[Bj,hr,AT];exact QY hn hr Z r _ (λ_ h=>h) hi ih (by simpa using hy)
def I6(n:Bc):Prop:= ∀(i:Nat) b f,n.Bonds[i]? =some b->n.Flow[i]? =some f-> -b.Strength<=f/\f<=b.Strength
def FM(n:Bc)(st:List Int)(v:Int)(acc:Int×Int)(i:Int):Int×Int:=
 if 0<(Db n v i).1/\st[(Db n v i).2.toNat]?.getD 0=st[v.toNat]?.getD 0 - 1/\(acc.1<0\/(Db n v i).2<acc.1) then ((Db n v i).2,i) else acc
def GL(n:Bc)(st:List Int)(v:Int):Int×Int:=(n.At[v.toNat]?.getD []).foldl (FM n st v) (-1,0)
def BP(n:Bc)(st:List Int)(p:Int):Nat->Bc×Int
 |0=>(n,p)
 |k+1=>(Ib (BP n st p k).1 (BP n st p k).2 (GL (BP n st p k).1 st (BP n st p k).2).2,(GL (BP n st p k).1 st (BP n st p k).2).1)
def Fb(n:Bc)(p q:Int):Bc×Bool:=
 if (Fa n q)[p.toNat]?.getD 0<0 then (n,false) else ((BP n (Fa n q) p ((Fa n q)[p.toNat]?.getD 0).toNat).1,true)
def pX{n:Bc}(hn:Di n){v:Nat}{r:List Int}(Q:n.At[v]? =some r){i:Int}(O:i∈r):0<=(Db n v i).2/\(Db n v i).2<n.Cnt:=by
 obtain⟨h0,b,z,Z⟩:=hn.at_ v r Q i O;have G:=hn.bs b (Bf z);simp only[Db,z]
 split<;>simp only<;>omega
def LG(n:Bc)(st:List Int)(v:Int)(r:List Int)(w:Int×Int):Prop:=w.2∈r/\0<(Db n v w.2).1/\(Db n v w.2).2=w.1/\st[w.1.toNat]?.getD 0=st[v.toNat]?.getD 0 - 1/\0<=w.1
def Qq8{n:Bc}(hn:Di n)(st:List Int){v:Nat}{r:List Int}(O:n.At[v]? =some r): ∀(l:List Int) (acc:Int×Int),(∀i∈l,i∈r)->(acc.1<0\/LG n st v r acc)->(l.foldl (FM n st v) acc).1<0\/LG n st v r (l.foldl (FM n st v) acc)
 |[],acc,_,h=>h
 |i::l,acc,z,h=>by
  refine Qq8 hn st O l _ (λj Q=>z j (BK _ Q)) ?_;simp only[FM];split
  .rename_i G;exact .inr ⟨z i (BQ ..),G.1,rfl,G.2.1,(pX hn O (z i (BQ ..))).1⟩
  .exact h
def OD{n:Bc}(hn:Di n)(st:List Int){v:Nat}{r:List Int}(G:n.At[v]? =some r){i:Int}(z:i∈r)(acc:Int×Int)(h:0<=acc.1):0<=(FM n st v acc i).1:=by
 simp only[FM];split
 .exact (pX hn G z).1
 .exact h
def Qvo{n:Bc}(hn:Di n)(st:List Int){v:Nat}{r:List Int}(G:n.At[v]? =some r): ∀(l:List Int) (acc:Int×Int),(∀i∈l,i∈r)->0<=acc.1->0<=(l.foldl (FM n st v) acc).1
 |[],_,_,h=>h
 |i::l,acc,z,h=>Qvo hn st G l _ (λj O=>z j (BK _ O)) (OD hn st G (z i (BQ ..)) acc h)
def Qqh{n:Bc}(hn:Di n)(st:List Int){v:Nat}{r:List Int}(O:n.At[v]? =some r){i:Int}(Q:0<(Db n v i).1)(Z:st[(Db n v i).2.toNat]?.getD 0=st[(v:Int).toNat]?.getD 0 - 1): ∀(l:List Int) (acc:Int×Int),(∀i∈l,i∈r)->i∈l->0<=(l.foldl (FM n st v) acc).1
 |[],_,_,h=>by cases h
 |j::l,acc,hl,h=>by
  simp only[Zi];have z:=λk hk=>hl k (BK _ hk)
  rcases Bt.1 h with rfl|h
  .refine Qvo hn st O l _ z ?_;have hb:=pX hn O (hl _ (BQ ..));simp only[FM];split
   .exact hb.1
   .rename_i hc;rcases Int.lt_or_le acc.1 0 with G|G
    .exact absurd ⟨Q,Z,.inl G⟩ hc
    .exact G
  .exact Qqh hn st O Q Z l _ z h
def OE{n:Bc}(hn:Di n)(st:List Int){v:Nat}{r:List Int}(z:n.At[v]? =some r){i:Int}(Q:i∈r)(G:0<(Db n v i).1)(O:st[(Db n v i).2.toNat]?.getD 0=st[(v:Int).toNat]?.getD 0 - 1):LG n st v r (GL n st v):=by
 have e:GL n st v=r.foldl (FM n st v) (-1,0):=by simp only[GL,Bj,z,AT]
 rw[e];have Z:=Qqh hn st z G O r (-1,0) (λ_ h=>h) Q;rcases Qq8 hn st z r (-1,0) (λ_ h=>h) (.inl (by decide)) with h|h
 .omega
 .exact h
def XI{n:Bc}(hn:Di n)(hc:I6 n){v:Nat}{i:Int}(h0:0<=i)(z:0<(Db n v i).1):Di (Ib n v i)/\I6 (Ib n v i):=by
 obtain⟨m,rfl⟩: ∃m:Nat,i=m:=⟨i.toNat,by omega⟩;have O:I6 (Ib n v m):=by
  intro j b f G hf;simp only[Ib,Bj] at G hf;simp only[Db,Bj] at z;cases hbm:n.Bonds[m]? with
  |none=>rw[hbm] at hf;exact hc j b f G hf
  |some b'=>
   rw[hbm] at hf z;simp only at hf z;by_cases Q:m=j
   .subst Q;rw[G] at hbm;obtain rfl:=AB hbm;have Z:m<n.Flow.length:=by
     have:=(Cu.1 hf).1
     simpa using this
    rw[DC Z] at hf;have hf:=AB hf;obtain⟨g,hg⟩: ∃g,n.Flow[m]? =some g:=⟨_,B2 Z⟩;have ab:=hc m b g G hg;rw[hg] at hf z;simp only[AT] at hf z;split at hf<;>rename_i hA
    .rw[Ai hA] at z;simp only at z;omega
    .rw[Af hA] at z;simp only at z;omega
   .rw[DL Q] at hf;exact hc j b f G hf
 refine⟨⟨hn.c0,hn.c1,?_,hn.al,hn.bs,hn.at_,?_,hn.st,hn.all,hn.ne⟩,O⟩
 .have:=hn.fl
  simp only[Ib];split
  .simpa using this
  .exact this
 .intro x hx;obtain⟨j,Q⟩:=Vo.1 hx;have ac:=(Cu.1 Q).1;have aa:(Ib n v m).Flow.length=n.Bonds.length:=by
   rw[<-hn.fl];simp only[Ib];split
   .simp
   .rfl
  obtain⟨b,G⟩: ∃b,n.Bonds[j]? =some b:=⟨_,B2 (by omega)⟩;have h1:=O j b x G Q;have h2:=hn.st b (Bf G);omega
def Qabc(n:Bc)(v i:Int)(j:Nat)(h:i.toNat≠j):(Ib n v i).Flow[j]? =n.Flow[j]? :=by
 simp only[Ib];split
 .exact DL h
 .rfl
def OP{n n':Bc}(z:n'.Bonds=n.Bonds)(i:Int)(hf:n'.Flow[i.toNat]? =n.Flow[i.toNat]?)(v:Int):Db n' v i=Db n v i:=by
 simp only[Db,z,hf]
structure ZJ(n:Bc)(st:List Int)(p:Int)(d k:Nat):Prop where
 ok:Di (BP n st p k).1
 cap:I6 (BP n st p k).1
 cnt:(BP n st p k).1.Cnt=n.Cnt
 bs:(BP n st p k).1.Bonds=n.Bonds
 at_:(BP n st p k).1.At=n.At
 v: ∃m:Nat,(BP n st p k).2=m/\(m:Int)<n.Cnt/\st[m]? =some ((d:Int) - k)
 fl: ∀(i:Nat) b,n.Bonds[i]? =some b->st[b.A.toNat]?.getD 0<=(d:Int) - k->st[b.B.toNat]?.getD 0<=(d:Int) - k->(BP n st p k).1.Flow[i]? =n.Flow[i]?
def vD{n:Bc}(hn:Di n){q:Int}{st qu:List Int}(ag:st.length=n.Cnt.toNat)(hP:FD n q (st,qu)){p:Int}{d k:Nat}(hk:k<d)(Z:ZJ n st p d k):
 ∃(m:Nat) (r:List Int),(BP n st p k).2=m/\n.At[m]? =some r/\LG (BP n st p k).1 st m r (GL (BP n st p k).1 st m)/\st[m]? =some ((d:Int) - k)/\(GL (BP n st p k).1 st m).1<n.Cnt:=by
 obtain⟨m,hm,aj,O⟩:=Z.v;have af:m<n.At.length:=by have:=hn.al;omega
 obtain⟨r,hr⟩: ∃r,n.At[m]? =some r:=⟨_,B2 af⟩;have ab:(BP n st p k).1.At[m]? =some r:=by rw[Z.at_];exact hr
 obtain⟨v',r',i,g1,g2,g3,g4,g5⟩:=hP.prev m _ O (by omega);simp only at g1;obtain⟨ai,b,hb,aa⟩:=hn.at_ v' r' g2 i g3;have ah:=hn.bs b (Bf hb);have ac:b.A+b.B - v'=m:=by simpa only[Dq,hb] using g4
 have z:=hn.all i.toNat b hb;rw[show ((i.toNat:Nat):Int)=i by omega] at z;have ad:i∈r:=by
  rcases aa with h|h
  .obtain⟨r2,Q,h3⟩:=z.2;rw[show b.B.toNat=m by omega,hr] at Q;obtain rfl:=AB Q;exact h3
  .obtain⟨r2,Q,h3⟩:=z.1;rw[show b.A.toNat=m by omega,hr] at Q;obtain rfl:=AB Q;exact h3
 have ak:=hn.ne b (Bf hb);have G:Db (BP n st p k).1 m i=Db n m i:=by
  refine OP Z.bs i (Z.fl i.toNat b hb ?_ ?_) m
  .rcases aa with h|h
   .rw[show b.A.toNat=v' by omega,g1];simp only[AT];omega
   .rw[show b.A.toNat=m by omega,O];simp only[AT];omega
  .rcases aa with h|h
   .rw[show b.B.toNat=m by omega,O];simp only[AT];omega
   .rw[show b.B.toNat=v' by omega,g1];simp only[AT];omega
 have Q:(Db n m i).2=v':=by
  simp only[Db,hb]
  split<;>simp only<;>omega
 have hg:=OE Z.ok st ab ad (by rw[G];exact g5) (by rw[G,Q,Bj,g1,Bj,O];simp only[AT]);refine⟨m,r,hm,hr,hg,O,?_⟩
 have:=(pX Z.ok ab hg.1).2
 rw[hg.2.2.1,Z.cnt] at this;exact this
def iF{n:Bc}(hn:Di n)(hc:I6 n){q:Int}{st qu:List Int}(G:st.length=n.Cnt.toNat)(hP:FD n q (st,qu)){p:Int}(ac:0<=p)(ad:p<n.Cnt){d:Nat}(hd:st[p.toNat]? =some (d:Int)): ∀k,k<=d->ZJ n st p d k
 |0,_=>⟨hn,hc,rfl,rfl,rfl,⟨p.toNat,by simp only[BP];omega,by omega,by rw[hd];simp⟩,λi b _ _ _=>rfl⟩
 |k+1,hk=>by
  have ih:=iF hn hc G hP ac ad hd k (by omega);obtain⟨m,r,O,hr,hg,Q,ag⟩:=vD hn G hP (by omega) ih;obtain⟨h1,h2⟩:=XI ih.ok ih.cap (i:=(GL (BP n st p k).1 st m).2) (ih.ok.at_ m r (by rw[ih.at_];exact hr) _ hg.1).1 hg.2.1;obtain⟨j0,b,hb,ab⟩:=hn.at_ m r hr _ hg.1;have af:=hg.2.2.2.2;have Z:=hg.2.2.2.1;rw[Bj,Q,AT] at Z;obtain⟨z,hz⟩: ∃z,st[(GL (BP n st p k).1 st m).1.toNat]? =some z:=⟨_,B2 (by omega)⟩;rw[hz,AT] at Z;refine⟨?_,?_,?_,?_,?_,⟨(GL (BP n st p k).1 st m).1.toNat,?_,by omega,by rw[hz,Z];congr 1;omega⟩,?_⟩
  .simp only[BP,O];exact h1
  .simp only[BP,O];exact h2
  .simp only[BP,O];exact ih.cnt
  .simp only[BP,O];exact ih.bs
  .simp only[BP,O];exact ih.at_
  .simp only[BP,O];omega
  .intro i b' aa hA hB;simp only[BP,O];rw[Qabc]
   .exact ih.fl i b' aa (by omega) (by omega)
   .intro he;rw[he,aa] at hb;obtain rfl:=AB hb;rcases ab with h|h
    .rw[h,Bj,Q] at hA;simp only[AT] at hA;omega
    .rw[h,Bj,Q] at hB;simp only[AT] at hB;omega
def growC.ca(a:Bc×Int×Int):List AV:=[.ptr 0 0,.im (.int .i64 a.2.1),.im (.int .i64 a.2.2)]
def growC.H1(a:Bc×Int×Int):Ao:=[(1,(true,.arr 2 1 ((Fb a.1 a.2.1 a.2.2).1.Flow.map Ak)))]
def growC.r0(a:Bc×Int×Int):AV:= .im (.bool (Fb a.1 a.2.1 a.2.2).2)
def Xj(a:Bc×Int×Int):Prop:=Di a.1/\I6 a.1/\0<=a.2.1/\a.2.1<a.1.Cnt/\0<=a.2.2/\a.2.2<a.1.Cnt
def growC.row:AE:=AL growC.ca (λa=>DG a.1) 2 Xj JB growC.r0 growC.H1 0
def dH:=J @stepsC.q<|J @stepsC.fv.eq_1<|J @roomC.q @roomC.fv.eq_1
def growC.ok:AI 136 growC.row:=by
 refine ow (tC stepsC.ok (tC roomC.ok (tC pushC.ok tN))) Tryz.func136 (exB:=λ_=>false) (R:=λa r=>r=growC.r0 a) (λ_=>rfl)
  (λa=>by simp[growC.ca,DG,FS,growC.H1,JB,AD,AV.bel,Av,BB,BU,Ac.nms,Aw,AV.nms,Aj,hget]) (λa p hp=> ?_) (λa r h=>by subst h;exact Dh.refl _) ?_
 rotate_left
 intro a a9;simp only[Tryz.f136,Option.getD,growC.ca,DG,FS,growC.H1,JB];simp only[ZZ,simprocAttr,Ab,dH,Ax,growC.ca,DG,FS,growC.H1,JB];obtain⟨hn,ax,a0,bi,aj,ak⟩:=a9;refine⟨⟨hn,aj,ak⟩,a0,?_⟩;have bn:=hn.c1;have ah:=nP hn aj ak;have hP:=Nv hn aj ak a.1.Cnt.toNat;have aa:=(Wg hn aj ak a.1.Cnt.toNat).rng;have bu:=vL hn.c0 (Wg hn aj ak a.1.Cnt.toNat);refine⟨by omega,λx hx=> ?_⟩
 split<;>rename_i ai
 .have e:Fb a.1 a.2.1 a.2.2=(a.1,false):=by simp only[Fb];rw[hx];simp only[AT];rw[Ai ai]
  exact⟨by simp only[growC.r0,e],by rw[e]⟩
 obtain⟨d,rfl⟩: ∃d:Nat,x=d:=⟨x.toNat,by omega⟩;have e:Fb a.1 a.2.1 a.2.2=((BP a.1 (Fa a.1 a.2.2) a.2.1 d).1,true):=by simp only[Fb];rw[hx];simp only[AT];rw[Af ai,Bj]
 simp only[growC.r0,e];have bb:(Ct a.1 a.2.2 a.1.Cnt.toNat).1=Fa a.1 a.2.2:=rfl;have O:FD a.1 a.2.2 (Fa a.1 a.2.2,(Ct a.1 a.2.2 a.1.Cnt.toNat).2):=hP;have bo:=aa (d:Int) (Bf hx);clear e hP ai;obtain⟨st,hst⟩: ∃st,st=Fa a.1 a.2.2:=⟨_,rfl⟩;rw[bb] at aa;simp only[<-hst] at ah O hx aa⊢;have aw:=λk hk=>iF hn ax ah O a0 bi hx k hk
 refine AY.old ⟨{k:Nat//k<=d},λk=>⟨[(8,.im (.int .i64 (BP a.1 st a.2.1 k.1).2)),(7,.im (.sl false 1 (st.map Ak))),(0,.ptr 0 0),(1,.im (.int .i64 a.2.1)),(2,.im (.int .i64 a.2.2))],[(0,(true,.cells 195 (FS a.1))),(1,(true,.arr 2 1 ((BP a.1 st a.2.1 k.1).1.Flow.map Ak)))],2⟩,λk=>d - k.1,λk=>⟨by simp[ZG,FS],AP _⟩,⟨⟨0,by simp⟩,by simp only[ZZ,simprocAttr,Ab,dH,Ax,growC.ca,DG,FS,growC.H1,JB,sub,BP,FS]⟩,λk=> ?_⟩;obtain⟨k,be⟩:=k;have hI:=aw k be;obtain⟨m,hm,br,ba⟩:=hI.v;simp only[FS,hm];simp only[ZZ,simprocAttr,Ab,dH,Ax,growC.ca,DG,FS,growC.H1,JB,sub,AO];refine⟨λbt=> ?_,λhe=> ?_⟩
 .have bf:k<d:=by
   rcases FB k d with h|h
   .exact h
   .have:=O.uniq m (by rw[ba];congr 1;omega)
    omega
  obtain⟨m',r,bg,hr,hg,_,bl⟩:=vD hn ah O bf hI;rw[hm] at bg;have bh:m'=m:=by omega
  subst bh;have Z:BP a.1 st a.2.1 (k+1)=(Ib (BP a.1 st a.2.1 k).1 m' (GL (BP a.1 st a.2.1 k).1 st m').2,(GL (BP a.1 st a.2.1 k).1 st m').1):=by simp only[BP,hm]
  have a8:GL (BP a.1 st a.2.1 k).1 st m'=r.foldl (FM (BP a.1 st a.2.1 k).1 st m') (-1,0):=by simp only[GL,Bj,hI.at_,hr,AT]
  have Q:=hI.ok;have af:=hI.cnt;have av:=hI.bs;have an:=hI.at_;obtain⟨N,hN⟩: ∃N,N=(BP a.1 st a.2.1 k).1:=⟨_,rfl⟩;simp only[<-hN] at Z a8 Q af av an hg bl⊢;have au:N.At[m']? =some r:=by rw[an];exact hr
  have az:(⟨a.1.Cnt,a.1.Bonds,a.1.At,N.Flow⟩:Bc)=N:=by rw[<-af,<-av,<-an]
  have aq:m'<a.1.At.length:=(Cu.1 hr).1;refine AY.old ⟨{j:Nat//j<=r.length},λj=>⟨[(11,.im (.int .i64 j.1)),(10,.im (.int .i64 ((r.take j.1).foldl (FM N st m') (-1,0)).2)),(9,.im (.int .i64 ((r.take j.1).foldl (FM N st m') (-1,0)).1)),(8,.im (.int .i64 m')),(7,.im (.sl false 1 (st.map Ak))),(0,.ptr 0 0),(1,.im (.int .i64 a.2.1)),(2,.im (.int .i64 a.2.2))],[(0,(true,.cells 195 (FS a.1))),(1,(true,.arr 2 1 (N.Flow.map Ak)))],2⟩,λj=>r.length - j.1,λj=>⟨by simp[ZG,FS],AP _⟩,⟨⟨0,by simp⟩,by simp only[ZZ,simprocAttr,Ab,dH,Ax,growC.ca,DG,FS,growC.H1,JB,sub,FS,Eo,jN]⟩,λj=> ?_⟩;obtain⟨j,bq⟩:=j;obtain⟨acc,hacc⟩: ∃acc,acc=(r.take j).foldl (FM N st m') (-1,0):=⟨_,rfl⟩;simp only[FS,<-hacc];simp only[ZZ,simprocAttr,Ab,dH,Ax,growC.ca,DG,FS,growC.H1,JB,sub,AO,az];refine⟨aq,λr1 G=> ?_⟩;rw[hr] at G;obtain rfl:=AB G;intro bv;refine⟨λhj=>⟨aq,λr1 G=> ?_⟩,λhj=> ?_⟩
  .rw[hr] at G;obtain rfl:=AB G;refine⟨hj,λi ao=> ?_⟩;have ay:=Bf ao;obtain⟨i0,i1,_,_⟩:=cI Q au ay;have bj:=pX Q au ay;have z:(r.take (j+1)).foldl (FM N st m') (-1,0)=FM N st m' acc i:=by
    rw[IA,ao,yX,<-hacc];rfl
   have ab:0<(Db N m' i).1->st[(Db N m' i).2.toNat]?.getD 0=st[(m':Int).toNat]?.getD 0 - 1->(acc.1<0\/(Db N m' i).2<acc.1)->FM N st m' acc i=((Db N m' i).2,i):=by
    intro h1 h2 h3;simp only[FM];rw[Ai ⟨h1,h2,h3⟩]
   have am:IntKind.wrap .i64 ((j:Int)+1)=((j+1:Nat):Int):=by rw[AA (by omega) (by omega)];omega
   refine⟨⟨Q,i0,i1⟩,λh1=>⟨bj.1,by omega,λx' bm=>⟨by omega,λy' bc=> ?_⟩⟩,λh1=>⟨⟨j+1,by omega⟩,by simp only;omega,am,?_,?_⟩⟩
   .have bw:=aa y' (Bf bc);rw[AA (x:=y' - 1) (by omega) (by omega)];have ac:st[(Db N m' i).2.toNat]?.getD 0=x':=by rw[bm];rfl
    have ad:st[(m':Int).toNat]?.getD 0=y':=by rw[Bj,bc];rfl
    refine⟨λh2=>⟨λh3=>⟨λh4=>⟨aq,λr1 G=> ?_⟩,λh4=>⟨⟨j+1,by omega⟩,by simp only;omega,am,?_,?_⟩⟩,λh3=>⟨aq,λr1 G=> ?_⟩⟩,λh2=>⟨⟨j+1,by omega⟩,by simp only;omega,am,?_,?_⟩⟩
    .rw[hr] at G;obtain rfl:=AB G;refine⟨hj,λi' ag=>⟨⟨j+1,by omega⟩,by simp only;omega,am,?_,?_⟩⟩
     .rw[ao] at ag;obtain rfl:=AB ag;simp only[z];rw[ab h1 (by rw[ac,ad,h2]) (.inr h4)]
     .simp only[z];rw[ab h1 (by rw[ac,ad,h2]) (.inr h4)]
    .simp only[z,FM];rw[Af (λh=>by rcases h.2.2 with h|h<;>omega)]
    .simp only[z,FM];rw[Af (λh=>by rcases h.2.2 with h|h<;>omega)]
    .rw[hr] at G;obtain rfl:=AB G;refine⟨hj,λi' ag=>⟨⟨j+1,by omega⟩,by simp only;omega,am,?_,?_⟩⟩
     .rw[ao] at ag;obtain rfl:=AB ag;simp only[z];rw[ab h1 (by rw[ac,ad,h2]) (.inl (Gg.1 h3))]
     .simp only[z];rw[ab h1 (by rw[ac,ad,h2]) (.inl (Gg.1 h3))]
    .simp only[z,FM];rw[Af (λh=>h2 (by rw[<-ac,<-ad];exact h.2.1))]
    .simp only[z,FM];rw[Af (λh=>h2 (by rw[<-ac,<-ad];exact h.2.1))]
   .simp only[z,FM];rw[Af (λh=>h1 h.1)]
   .simp only[z,FM];rw[Af (λh=>h1 h.1)]
  .have bd:j=r.length:=by omega
   subst bd;rw[IB] at hacc;rw[<-a8] at hacc;subst hacc;have bp:=Q.at_ m' r au _ hg.1;obtain⟨i0,i1,_,_⟩:=cI Q au hg.1;refine AL.os (N,(m':Int),(GL N st m').2) [0,1] ⟨Q,i0,i1⟩ (λj=>lB _ j) rfl rfl ?_ ?_
   .simp only[ZZ,simprocAttr,Ab,dH,Ax,growC.ca,DG,FS,growC.H1,JB,pushC.ca,DG,FS,B5];rw[af,av,an];exact⟨rfl,rfl,rfl⟩
   .simp only[ZZ,simprocAttr,Ab,dH,Ax,growC.ca,DG,FS,growC.H1,JB,pushC.H1,JB,sub];exact⟨⟨k+1,by omega⟩,by simp only;omega,by simp only[Z],by simp only[Z]⟩
 .have:k=d:=by
   have h1:=O.zero;rw[show a.2.2.toNat=m by omega,ba] at h1
   have:=AB h1
   omega
  rw[this]
 simp[growC.H1] at hp;subst hp;exact .inl ⟨by omega,rfl,rfl⟩
def AC(a b:Nat)(h:a≠b):(a==b)=false:=by simpa using h
def Vb{α β γ:Type}{f:α->Option β}{g:γ->α}{k:γ->β}: ∀(l:List γ),(∀i∈l,f (g i)=some (k i))->Aq f (l.map g)=some (l.map k)
 |[],_=>rfl
 |x::r,h=>by simp only[Bb,Aq,h x (BQ ..),Vb r (λi z=>h i (BK _ z))]
def WY{H:Nat->Option Am}{kx:Nat->Option Nat}{m b n T:Nat}(f:Nat->List Int)(G: ∀i,i<n->kx (b+i)=none)(hH: ∀i,i<n->H (b+i)=some (true,.arr T 1 ((f i).map Ak))):
 Aq (Aq λx=>Ee (Bd H kx (m+1) x)) ((List.range n).map λi=>[AV.own (b+i)])=some (((List.range n).map f).map CK):=by
 rw[Km];refine Vb _ (λi z=> ?_);have z:=Bk.1 z;simp only[Aq,Bd,G i z,hH i z,P7,kp,D7,Ee,AV.asD,Function.comp,CK]
def Jv(H:Ao)(a b:Nat)(h:a≠b):hget (Ba H [a]) b=hget H b:=by
 rw[Wb,Af];simp;omega
def Lb{α:Type}{a b:Nat}{x y:α}(h:a≠b):(if a=b then x else y)=y:=Af h
def Bq: ∀(x:Ao),Ba x []=x
 |[]=>rfl
 |(m,e)::r=>by simp[Ba,Bq r]
def bT(L:List Nat)(b n:Nat)(h:L.Nodup)(z: ∀x∈L,x<b):(L++(List.range n).map (b+ ·)).Nodup:=by
 rw[Vp];refine⟨h,?_,?_⟩
 .rw[Zet,List.pairwise_map];exact List.Pairwise.imp (λh Q=>h (by omega)) (Zet.1 zJ)
 .intro x G y O Z;obtain⟨i,_,rfl⟩:=Bn.1 O
  have:=z x G
  omega
def Ij(bs:List Ag)(i:Nat):Nat->List Int
 |0=>[]
 |k+1=>Ij bs i k++(match bs[k]? with
  |some b=>(if b.A=i then [(k:Int)] else [])++(if b.B=i then [(k:Int)] else [])
  |none=>[])
def Qwx(bs:List Ag)(i:Nat): ∀k,(Ij bs i k).length<=2*k
 |0=>AP _
 |k+1=>by
  have:=Qwx bs i k
  simp only[Ij,DZ];split
  .simp only[DZ]
   split<;>split<;>simp<;>omega
  .simp;omega
def CO(n:Int)(bs:List Ag):Bc:=⟨n,bs,(List.range n.toNat).map (λi=>Ij bs i bs.length),List.replicate bs.length 0⟩
def newNC.ca(a:Int×List Ag):List AV:=[.im (.int .i64 a.1),.im (.sl false 3 (a.2.map Ag.c))]
def newNC.H1(a:Int×List Ag):Ao:=[(0,(true,.cells 195 [.im (.int .i64 a.1),.im (.sl false 3 (a.2.map Ag.c)),.im (.sl false 1 ((CO a.1 a.2).At.map CK)),.own 2])),(2,(true,.arr 2 1 ((CO a.1 a.2).Flow.map Ak)))]
def YI(a:Int×List Ag):Prop:=0<=a.1/\a.1<=1000/\a.2.length<=1000000/\KW a.1 a.2/\ ∀b∈a.2,b.A≠b.B
def Er(j:Nat):Bool:=j==0||j==2
def newNC.row:AE:=AL newNC.ca (λ_=>[]) 0 YI (λ_=>false) (λ_=> .ptr 0 0) newNC.H1 3010
def newNC.ok:AI 135 newNC.row:=by
 refine ow tN Tryz.func135 (exB:=Er) (R:=λ_ r=>r= .ptr 0 0) (λ_=>rfl)
  (λa=>by simp[newNC.ca,newNC.H1,Er,AD,AV.bel,Av,BB,BU,Ac.nms,Aw,AV.nms,Aj,hget]) (λa p hp=> ?_) (λa r h=>by subst h;exact Dh.refl _) ?_
 rotate_left
 intro a ay;simp only[Tryz.f135,Option.getD,newNC.ca,newNC.H1,Er];simp(disch:=omega)only[ZZ,simprocAttr,Ab,Ax,newNC.ca,newNC.H1,Er];obtain⟨ax,bb,hl,an,bc⟩:=ay;refine⟨ax,NK _,by omega,λ_=>⟨by omega,?_⟩⟩;obtain⟨n,hn⟩: ∃n:Nat,a.1=n:=⟨a.1.toNat,by omega⟩;rw[hn] at ax bb an;simp only[hn,Bj];refine AY.ren ⟨{k:Nat//k<=a.2.length},λk=>⟨[(6,.im (.int .i64 k.1)),(5,.ptr 0 0),(1,.im (.sl false 3 (a.2.map Ag.c)))],(0,(true,.cells 195 [.im (.int .i64 n),.im (.sl false 3 (a.2.map Ag.c)),.own 1,.own 2]))::(2,(true,.arr 2 1 ((List.replicate a.2.length (0:Int)).map Ak)))::(1,(true,.arrA 95 1 ((List.range n).map λi=>[AV.own (1000+i)])))::AG 1000 n (λi=>(true,.arr 2 1 ((Ij a.2 i k.1).map Ak))),3000⟩,λk=>a.2.length - k.1,λk=>⟨?_,by simp⟩,⟨⟨0,by simp⟩,IK 1000 n,?_⟩,λk=> ?_⟩
 .simp only[ZG,Ep,Ew];rw[N9 _ _ _ (λi=>by simp[Av]),N6 _ _ _ _ (by omega)];simp[AD,AV.bel];omega
 .refine⟨RS _ _ _ (by simp),?_,?_,?_⟩
  .rw[YK];simp only[Fc,VZ];refine YO _ _ (bT [0,2,1] 1000 n (by simp) (by simp)) ?_;intro x hx y hy m G z;rw[iL] at G z;split at G
   .cases G
   .split at z
    .cases z
    .exact (AB G).trans (AB z).symm
  .simp only[H4,A8];simp(disch:=omega)only[ZZ,simprocAttr,Ab,Ax,newNC.ca,newNC.H1,Er,iL,GO];simp[GO]
  .have p0:pm (IK 1000 n) 0=some 0:=by rw[iL,Af (by omega)]
   have p1:pm (IK 1000 n) 1=some 1:=by rw[iL,Af (by omega)]
   have p2:pm (IK 1000 n) 2=some 2:=by rw[iL,Af (by omega)]
   have pf: ∀i,i<n->pm (IK 1000 n) (1000+i)=none:=by intro i O;rw[iL,Ai (by omega)]
   simp only[ES,YG];refine⟨?_,?_,?_,λi O=> ?_⟩
   .simp(disch:=omega)only[ZZ,simprocAttr,Ab,Ax,newNC.ca,newNC.H1,Er,p0,p1,p2]
   .simp(disch:=omega)only[ZZ,simprocAttr,Ab,Ax,newNC.ca,newNC.H1,Er,p0,p1,p2];simp[Ak]
   .simp(disch:=omega)only[ZZ,simprocAttr,Ab,Ax,newNC.ca,newNC.H1,Er,p0,p1,p2];rw[Wp];refine⟨by simp,λi x y hx hy=> ?_⟩;simp only[Dt,Dl] at hx hy;obtain⟨i',ah,rfl⟩:=hx;obtain⟨w,hw,rfl⟩:=hy;have bf:=NJ (Bf hw);subst bf
    have:=Bk.1 (Bf ah)
    simp(disch:=omega)only[ZZ,simprocAttr,Ab,Ax,newNC.ca,newNC.H1,Er,pf i' this]
   .rw[pf i O];simp(disch:=omega)only[ZZ,simprocAttr,Ab,Ax,newNC.ca,newNC.H1,Er,Ij,BD]
 obtain⟨k,bj⟩:=k;simp(disch:=omega)only[ZZ,simprocAttr,Ab,Ax,newNC.ca,newNC.H1,Er,sub,AO,QX,NT,Bq];intro _;refine⟨λhk=>⟨hk,λb hb=>⟨hk,λb' Z=> ?_⟩⟩,λhk=> ?_⟩
 .rw[hb] at Z;obtain rfl:=AB Z;obtain⟨b1,b2,b3,b4⟩:=an b (Bf hb);have bi:=bc b (Bf hb);refine⟨b1,by rw[I9];exact b2,by rw[I9];omega,λx hx=> ?_⟩;obtain⟨az,bg⟩:=Cu.1 hx;rw[I9] at az;rw[Zez] at bg;have bq:x<n:=by omega
  refine⟨by omega,?_,?_⟩
  .simp;omega
  have am:(1000+x<3000\/3000<=1000+x)=True:=dV (by omega);have bn:(1000+x==0)=false:=AC _ _ (by omega);have bo:(1000+x==1)=false:=AC _ _ (by omega);have bp:(1000+x==2)=false:=AC _ _ (by omega);have bl:=Qwx a.2 x k;simp(disch:=omega)only[ZZ,simprocAttr,Ab,Ax,newNC.ca,newNC.H1,Er,sub,AO,Lb,DY,Bq,am,AC];refine⟨by omega,by omega,?_⟩;refine⟨b1,by rw[I9];exact b2,by rw[I9];exact az,λ_ _=> ?_⟩;have Q: ∀N,3001<N->((List.map (λi=>[AV.own (1000+i)]) (List.range n)).set b.A.toNat [AV.own 3001]).all (AD N)=true:=by
   intro N hN;rw[CM];intro r hr;rcases W5 hr with hr|hr
   .obtain⟨i,O,rfl⟩:=Bn.1 hr
    have:=Bk.1 O
    simp[AD,AV.bel];omega
   .subst hr;simp[AD,AV.bel];omega
  refine⟨Q _ (by omega),⟨by simp,by simp,by simp⟩,hk,λb' Z=>⟨hk,λb'' ag=> ?_⟩⟩;rw[hb] at Z ag;obtain rfl:=AB Z;obtain rfl:=AB ag;obtain⟨y,hy⟩: ∃y:Nat,b.B=y:=⟨b.B.toNat,by omega⟩;have br:y≠x:=by omega
  have bh:y<n:=by omega
  have a8:b.B.toNat=y:=by omega
  refine⟨b3,by simp;omega,by simp;omega,λrow aa=> ?_⟩;have ak:row=[AV.own (1000+y)]:=by
   rw[a8,DL (by omega),Dt,FN bh] at aa;exact (AB aa).symm
  subst ak;have a0:(1000+y<3002\/3002<=1000+y)=True:=dV (by omega);have bm:=Qwx a.2 y k;simp(disch:=omega)only[ZZ,simprocAttr,Ab,Ax,newNC.ca,newNC.H1,Er,sub,AO,Lb,DY,Bq,am,a0,AC,Jv];refine⟨by omega,by omega,by omega,b3,by simp;omega,by simp;omega,λrow ab=> ?_⟩;rw[aa] at ab;obtain rfl:=AB ab;simp only[ZZ,simprocAttr,Ab,Ax,newNC.ca,newNC.H1,Er,sub,AO,Lb,DY,Bq,am,a0,AC,Jv];refine⟨?_,⟨by simp,by simp,by simp⟩,⟨k+1,by omega⟩,[(1000+x,some 3001),(1000+y,some 3003)],by simp only;omega,?_⟩
  .rw[CM];intro r hr;rcases W5 hr with hr|hr
   .exact CM.1 (Q 3004 (by omega)) r hr
   .subst hr;simp[AD,AV.bel]
  obtain⟨g,hg⟩: ∃g,g=pm [(1000+x,some 3001),(1000+y,some 3003)]:=⟨_,rfl⟩;have qx:g (1000+x)=some 3001:=by rw[hg];simp[pm]
  have qy:g (1000+y)=some 3003:=by rw[hg];simp only[pm];rw[Af (by omega)];simp
  have qo: ∀u,u≠1000+x->u≠1000+y->g u=some u:=by intro u G z;rw[hg];simp only[pm];rw[Af (by omega),Af (by omega)]
  have a9: ∀i,i<n->Ij a.2 i (k+1)=if i=x\/i=y then Ij a.2 i k++[(k:Int)] else Ij a.2 i k:=by
   intro i O;simp only[Ij,hb];by_cases G:i=x
   .subst G;rw[Ai (by omega),Af (by omega),Ai (.inl rfl),D6]
   .by_cases z:i=y
    .subst z;rw[Af (by omega),Ai (by omega),Ai (.inr rfl),Dj]
    .rw[Af (by omega),Af (by omega),Af (by omega)];simp
  refine⟨⟨by omega,by omega,trivial⟩,?_,?_,?_⟩
  .rw[YK,<-hg];simp only[Fc,VZ];refine YO _ _ (bT [0,2,1] 1000 n (by simp) (by simp)) ?_;have au: ∀u∈[0,2,1]++(List.range n).map (1000+ ·),u<2000:=by
    intro u hu;rcases Bz.1 hu with hu|hu
    .simp at hu;omega
    .obtain⟨i,O,rfl⟩:=Bn.1 hu
     have:=Bk.1 O
     show 1000+i<2000;omega
   have hc: ∀u,u<2000->(u=1000+x/\g u=some 3001)\/(u=1000+y/\g u=some 3003)\/g u=some u:=by
    intro u _;by_cases G:u=1000+x
    .exact .inl ⟨G,G▸qx⟩
    .by_cases z:u=1000+y
     .exact .inr (.inl ⟨z,z▸qy⟩)
     .exact .inr (.inr (qo u G z))
   intro u hu v hv m av aw;have bd:=au u hu;have be:=au v hv;rcases hc u bd with ⟨e1,e2⟩|⟨e1,e2⟩|e2<;>rcases hc v be with ⟨f1,f2⟩|⟨f1,f2⟩|f2<;>rw[e2] at av<;>rw[f2] at aw<;>simp only[AM] at av aw<;>omega
  .have q0:pm [(1000+x,some 3001),(1000+y,some 3003)] 0=some 0:=by rw[<-hg];exact qo 0 (by omega) (by omega)
   simp only[H4,A8];simp only[ZZ,simprocAttr,Ab,Ax,newNC.ca,newNC.H1,Er,q0];rw[AA (by omega) (by omega)];simp
  .have q0:pm [(1000+x,some 3001),(1000+y,some 3003)] 0=some 0:=by rw[<-hg];exact qo 0 (by omega) (by omega)
   have q1:pm [(1000+x,some 3001),(1000+y,some 3003)] 1=some 1:=by rw[<-hg];exact qo 1 (by omega) (by omega)
   have q2:pm [(1000+x,some 3001),(1000+y,some 3003)] 2=some 2:=by rw[<-hg];exact qo 2 (by omega) (by omega)
   have ad:=qx;have af:=qy;have ac:=qo;rw[hg] at ad af ac;simp only[ES,YG];refine⟨?_,?_,?_,λi O=> ?_⟩
   .simp only[ZZ,simprocAttr,Ab,Ax,newNC.ca,newNC.H1,Er,q0,q1,q2]
   .simp only[ZZ,simprocAttr,Ab,Ax,newNC.ca,newNC.H1,Er,q0,q1,q2]
   .simp only[ZZ,simprocAttr,Ab,Ax,newNC.ca,newNC.H1,Er,q0,q1,q2];rw[Wp];refine⟨by simp,λi r1 r2 G z=> ?_⟩;simp only[Dt,Dl] at G;obtain⟨i',ah,rfl⟩:=G;obtain⟨aq,ao⟩:=Cu.1 ah;rw[I9] at aq;rw[Zez] at ao;subst ao;rw[a8,show b.A.toNat=x by omega] at z;by_cases aj:i=y
    .subst aj;rw[DC (by simp;omega)] at z;obtain rfl:=AB z;simp only[Dp,mt,af,EO,E8]
    .rw[DL (by omega)] at z;by_cases ai:i=x
     .subst ai;rw[DC (by simp;omega)] at z;obtain rfl:=AB z;simp only[Dp,mt,ad,EO,E8]
     .rw[DL (by omega),Dt,FN aq] at z;obtain rfl:=AB z;simp only[Dp,mt,ac (1000+i) (by omega) (by omega),EO,E8]
   .show CE _ _ true (.arr 2 1 ((Ij a.2 i (k+1)).map Ak)) _;rw[a9 i O];by_cases aj:i=y
    .subst aj;rw[af,Ai (.inr rfl)];simp only[ZZ,simprocAttr,Ab,Ax,newNC.ca,newNC.H1,Er];simp[Ak]
    .by_cases ai:i=x
     .subst ai;rw[ad,Ai (.inl rfl)];simp only[ZZ,simprocAttr,Ab,Ax,newNC.ca,newNC.H1,Er];simp[Ak]
     .rw[ac (1000+i) (by omega) (by omega),Af (by omega)];have e: ∀(H:Ao),hget H (1000+i)=some (true,.arr 2 1 ((Ij a.2 i k).map Ak))->Kv [(1000+x,some 3001),(1000+y,some 3003)] true (.arr 2 1 ((Ij a.2 i k).map Ak)) (hget H (1000+i)):=by
       intro H hH;rw[hH];exact⟨rfl,by simp only[DM]⟩
      refine e _ ?_;simp only[hget,AC _ _ (show 1≠1000+i by omega),AC _ _ (show 3003≠1000+i by omega),AC _ _ (show 3002≠1000+i by omega),AC _ _ (show 3001≠1000+i by omega),AC _ _ (show 3000≠1000+i by omega),AC _ _ (show 0≠1000+i by omega),AC _ _ (show 2≠1000+i by omega),Bs];rw[Jv _ _ _ (by omega),Jv _ _ _ (by omega),Jv _ _ _ (by omega),Jv _ _ _ (by omega),DY _ _ _ _ O]
 .have ba:k=a.2.length:=by omega
  subst ba;rw[WY (T:=2) (λi=>Ij a.2 i a.2.length)]
  .simp[CO]
  .intro i O;have e:Er (1000+i)=false:=by simp only[Er,AC _ _ (show 1000+i≠0 by omega),AC _ _ (show 1000+i≠2 by omega),PI]
   simp[GU,Aj,hget,e]
  .intro i O;simp only[hget,AC _ _ (show 1≠1000+i by omega),AC _ _ (show 0≠1000+i by omega),AC _ _ (show 2≠1000+i by omega),Bs];exact DY _ _ _ _ O
 simp[newNC.H1] at hp;rcases hp with rfl|rfl
 .exact .inr ⟨by omega,by simp,rfl,rfl⟩
 .exact .inr ⟨by omega,by simp,rfl,rfl⟩
def J8(p:Int)(b:Ag)(f:Int):Int:=if b.A=p then f else if b.B=p then -f else 0
def CW(n:Bc)(p:Int):Int:=(List.zipWith (J8 p) n.Bonds n.Flow).sum
def Ni(p:Int): ∀(bs:List Ag) (O:List Int) (j:Nat) (b:Ag) (f f':Int),bs[j]? =some b->O[j]? =some f->(List.zipWith (J8 p) bs (O.set j f')).sum=(List.zipWith (J8 p) bs O).sum - J8 p b f+J8 p b f'
 |[],_,_,_,_,_,h,_=>by simp at h
 |_::_,[],_,_,_,_,_,h=>by simp at h
 |x::r,y::s,0,b,f,f',z,G=>by
  simp only[HA,AM] at z G;subst z;subst G;simp only[dL,dQ,Kl];omega
 |x::r,y::s,j+1,b,f,f',z,G=>by
  have:=Ni p r s j b f f' (by simpa using z) (by simpa using G)
  simp only[jH,dQ,Kl,this];omega
def Qzc{n:Bc}(hn:Di n){v:Nat}{r:List Int}(hr:n.At[v]? =some r){i:Int}(O:i∈r)(p:Int):CW (Ib n v i) p=CW n p+(if (v:Int)=p then 1 else if (Db n v i).2=p then -1 else 0):=by
 obtain⟨h0,b,z,hv⟩:=hn.at_ v r hr i O;have Z:=hn.ne b (Bf z);have Q:=(Cu.1 z).1;obtain⟨f,hf⟩: ∃f,n.Flow[i.toNat]? =some f:=⟨_,B2 (by rw[hn.fl];exact Q)⟩;simp only[CW,Ib,z,Db];rw[Ni p _ _ _ b f _ z hf,hf];simp only[AT,J8];rcases hv with h|h
 .simp only[Ai h]
  repeat' split
  all_goals omega
 .have G: ¬b.A=v:=by omega
  simp only[Af G]
  repeat' split
  all_goals omega
def KP(p:Int): ∀(bs:List Ag) (O:List Int),(∀(i:Nat) b f,bs[i]? =some b->O[i]? =some f-> -b.Strength<=f/\f<=b.Strength)->(∀b∈bs,0<=b.Strength)->(List.zipWith (J8 p) bs O).sum<=(bs.map Ag.Strength).sum
 |[],_,_,_=>by simp
 |x::r,[],_,z=>by
  have Q:=KP p r [] (λi b f _ h=>by simp at h) (λb G=>z b (BK _ G));have h2:=z x (BQ ..);simp only[ZdQ,zF,Bb,Kl] at Q⊢;omega
 |x::r,y::s,Z,z=>by
  have Q:=KP p r s (λi b f h h'=>Z (i+1) b f (by simpa using h) (by simpa using h')) (λb G=>z b (BK _ G));have h2:=z x (BQ ..);have h3:=Z 0 x y rfl rfl;simp only[dQ,Bb,Kl,J8];split
  .omega
  .split<;>omega
def Tc{n:Bc}(hn:Di n)(G:I6 n)(p:Int):CW n p<=(n.Bonds.map Ag.Strength).sum:=KP p _ _ G (λb z=>(hn.st b z).1)
def UH{n:Bc}(hn:Di n)(hc:I6 n){q:Int}{st qu:List Int}(z:st.length=n.Cnt.toNat)(hP:FD n q (st,qu)){p:Int}(aa:0<=p)(ab:p<n.Cnt){d:Nat}(hd:st[p.toNat]? =some (d:Int)): ∀k,k<d->CW (BP n st p (k+1)).1 p=CW n p+1:=by
 have step: ∀k,k<d->CW (BP n st p (k+1)).1 p=CW (BP n st p k).1 p+(if k=0 then 1 else 0):=by
  intro k Q;have Z:=iF hn hc z hP aa ab hd k (by omega);obtain⟨m,r,hm,hr,hg,G,af⟩:=vD hn z hP Q Z;have ac:(BP n st p k).1.At[m]? =some r:=by rw[Z.at_];exact hr
  have e:(BP n st p (k+1)).1=Ib (BP n st p k).1 m (GL (BP n st p k).1 st m).2:=by simp only[BP,hm]
  rw[e,Qzc Z.ok ac hg.1,hg.2.2.1];have O:=hg.2.2.2.1;rw[Bj,G,AT] at O;have ad:(GL (BP n st p k).1 st m).1≠p:=by
   intro he;rw[he,hd,AT] at O;omega
  by_cases h0:k=0
  .subst h0
   have:(m:Int)=p:=by rw[<-hm];rfl
   rw[Ai this,Ai rfl]
  .have:(m:Int)≠p:=by
    intro he
    have:m=p.toNat:=by omega
    rw[this,hd] at G
    have:=AB G
    omega
   rw[Af this,Af ad,Af h0]
 intro k Q;induction k with
 |zero=>rw[step 0 Q];simp[BP]
 |succ k ih=>rw[step (k+1) Q,Af (by omega),ih (by omega)];omega
def wQ(bs:List Ag)(i:Nat)(z:Int): ∀k,z∈Ij bs i k↔ ∃(j:Nat) (b:Ag),j<k/\z=j/\bs[j]? =some b/\(b.A=i\/b.B=i)
 |0=>by simp[Ij]
 |k+1=>by
  have ih:=wQ bs i z k;simp only[Ij,Bz,ih];constructor
  .rintro (⟨j,b,Z,O,Q,G⟩|h)
   .exact⟨j,b,by omega,O,Q,G⟩
   .cases hb:bs[k]? with
    |none=>rw[hb] at h;simp at h
    |some b=>
     rw[hb] at h;simp only[Bz] at h;refine⟨k,b,by omega,?_,hb,?_⟩
     .rcases h with h|h<;>split at h<;>simp at h<;>exact h
     .rcases h with h|h
      .split at h
       .exact .inl (by assumption)
       .simp at h
      .split at h
       .exact .inr (by assumption)
       .simp at h
  .rintro⟨j,b,Z,O,Q,G⟩;by_cases hj:j=k
   .subst hj;refine .inr ?_;rw[Q];simp only[Bz];rcases G with G|G
    .exact .inl (by rw[Ai G,O];exact BL.2 rfl)
    .exact .inr (by rw[Ai G,O];exact BL.2 rfl)
   .exact .inl ⟨j,b,by omega,O,Q,G⟩
def P8(bs:List Ag):Prop:= ∀b∈bs,0<=b.Strength/\b.Strength<=1000000
def Qxo{n:Int}{bs:List Ag}(v:Nat)(z:v<n.toNat):(CO n bs).At[v]? =some (Ij bs v bs.length):=by
 simp only[CO,Dt,FN z,D7]
def Mh{n:Int}{bs:List Ag}(h:YI (n,bs))(hs:P8 bs):Di (CO n bs)/\I6 (CO n bs):=by
 obtain⟨h0,h1,h2,G,Z⟩:=h;simp only at h0 h1 h2 G Z;have hz: ∀(i:Nat) f,(CO n bs).Flow[i]? =some f->f=0:=by
  intro i f hf;exact NJ (Bf hf)
 refine⟨⟨h0,by show n<=1000000;omega,by simp[CO],by simp[CO];omega,G,?_,?_,hs,?_,Z⟩,?_⟩
 .intro v r Q i O;have hv:v<n.toNat:=by
   have:=(Cu.1 Q).1
   simpa[CO] using this
  rw[Qxo v hv] at Q;obtain rfl:=AB Q;obtain⟨j,b,g1,g2,g3,g4⟩:=(wQ bs v i bs.length).1 O;exact⟨by omega,b,by rw[g2,Bj];exact g3,g4⟩
 .intro x hx;obtain⟨i,O⟩:=Vo.1 hx
  have:=hz i x O
  omega
 .intro i b z;have hl:=(Cu.1 z).1;have aa:=G b (Bf z);refine⟨⟨_,Qxo _ (by omega),(wQ bs _ _ _).2 ⟨i,b,hl,rfl,z,.inl (by omega)⟩⟩,⟨_,Qxo _ (by omega),(wQ bs _ _ _).2 ⟨i,b,hl,rfl,z,.inr (by omega)⟩⟩⟩
 .intro i b f z hf
  have:=hz i f hf
  have:=hs b (Bf z)
  omega
def Qtg{n:Int}{bs:List Ag}(p:Int):CW (CO n bs) p=0:=by
 simp only[CW,CO]
 have: ∀(l:List Ag) (m:Nat),(List.zipWith (J8 p) l (List.replicate m 0)).sum=0:=by
  intro l;induction l with
  |nil=>intro m;simp
  |cons x r ih=>
   intro m;cases m with
   |zero=>simp
   |succ m=>
    simp only[Zen,dQ,Kl,ih m,J8];split
    .rfl
    .split<;>rfl
 exact this _ _
def GA(p q:Int):Nat->Bc->Bc×Int
 |0,n=>(n,0)
 |m+1,n=>if (Fb n p q).2=true then ((GA p q m (Fb n p q).1).1,(GA p q m (Fb n p q).1).2+1) else (n,0)
def DR(n:Int)(bs:List Ag)(p q:Int):Bc×Int:=GA p q ((bs.map Ag.Strength).sum.toNat+1) (CO n bs)
def LH{n:Bc}(hn:Di n)(hc:I6 n){p q:Int}(O:0<=p)(Q:p<n.Cnt)(Z:0<=q)(aa:q<n.Cnt)(ab:p≠q)(hg:(Fb n p q).2=true):
 Di (Fb n p q).1/\I6 (Fb n p q).1/\(Fb n p q).1.Cnt=n.Cnt/\(Fb n p q).1.Bonds=n.Bonds/\(Fb n p q).1.At=n.At/\CW (Fb n p q).1 p=CW n p+1:=by
 have z:=nP hn Z aa;have hP:FD n q (Fa n q,(Ct n q n.Cnt.toNat).2):=Nv hn Z aa n.Cnt.toNat;obtain⟨x,hx⟩: ∃x,(Fa n q)[p.toNat]? =some x:=⟨_,B2 (by omega)⟩;simp only[Fb,hx,AT] at hg⊢;by_cases h:x<0
 .rw[Ai h] at hg;simp at hg
 .obtain⟨d,rfl⟩: ∃d:Nat,x=d:=⟨x.toNat,by omega⟩;rw[Af h,Bj];have hd:0<d:=by
   rcases jI d with h0|h0
   .subst h0
    have:=hP.uniq p.toNat hx
    omega
   .exact h0
  have G:=iF hn hc z hP O Q hx d (AP _);have ho:=UH hn hc z hP O Q hx (d - 1) (by omega);rw[show d - 1+1=d by omega] at ho;exact⟨G.ok,G.cap,G.cnt,G.bs,G.at_,ho⟩
abbrev kH:=Int×List Ag×Int×Int
def flC.net(a:kH):Bc:=(DR a.1 a.2.1 a.2.2.1 a.2.2.2).1
def flC.ca(a:kH):List AV:=[.im (.int .i64 a.1),.im (.sl false 3 (a.2.1.map Ag.c)),.im (.int .i64 a.2.2.1),.im (.int .i64 a.2.2.2)]
def flC.H1(a:kH):Ao:=[(0,(true,.cells 195 [.im (.int .i64 a.1),.im (.sl false 3 (a.2.1.map Ag.c)),.im (.sl false 1 ((CO a.1 a.2.1).At.map CK)),.own 2])),(2,(true,.arr 2 1 ((flC.net a).Flow.map Ak)))]
def flC.r0(a:kH):AV:= .tup [.ptr 0 0,.im (.int .i64 (DR a.1 a.2.1 a.2.2.1 a.2.2.2).2)]
def flC.pre(a:kH):Prop:=YI (a.1,a.2.1)/\P8 a.2.1/\0<=a.2.2.1/\a.2.2.1<a.1/\0<=a.2.2.2/\a.2.2.2<a.1/\a.2.2.1≠a.2.2.2
def flC.row:AE:=AL flC.ca (λ_=>[]) 0 flC.pre (λ_=>false) flC.r0 flC.H1 3010
def flC.ok:AI 112 flC.row:=by
 refine ow (tC newNC.ok (tC growC.ok tN)) Tryz.func112 (exB:=Er) (R:=λa r=>r=flC.r0 a) (λ_=>rfl)
  (λa=>by simp[flC.ca,flC.H1,Er,AD,AV.bel,Av,BB,BU,Ac.nms,Aw,AV.nms,Aj,hget]) (λa p hp=> ?_) (λa r h=>by subst h;exact Dh.refl _) ?_
 rotate_left
 intro a ab;simp only[Tryz.f112,Option.getD,flC.ca,flC.H1,Er];simp only[ZZ,simprocAttr,Ab,Ax,flC.ca,flC.H1,Er];obtain⟨G,ad,aa,ak,ac,am,ag⟩:=ab;obtain⟨Z,z⟩:=Mh G ad;have ah:=Qtg (n:=a.1) (bs:=a.2.1) a.2.2.1;refine AL.os (a.1,a.2.1) [] G (λj=>by simp[Aj,hget]) rfl rfl ?_ ?_
 .simp only[ZZ,simprocAttr,Ab,Ax,flC.ca,flC.H1,Er,newNC.ca,B5]
 .simp only[ZZ,simprocAttr,Ab,Ax,flC.ca,flC.H1,Er,newNC.H1,sub];obtain⟨F,hF⟩: ∃F,F=(a.2.1.map Ag.Strength).sum.toNat+1:=⟨_,rfl⟩;refine AY.old ⟨{k:Nat×Bc//Di k.2/\I6 k.2/\k.2.Cnt=a.1/\k.2.Bonds=a.2.1/\k.2.At=(CO a.1 a.2.1).At/\CW k.2 a.2.2.1=k.1/\k.1<=F/\DR a.1 a.2.1 a.2.2.1 a.2.2.2=((GA a.2.2.1 a.2.2.2 (F - k.1) k.2).1,(GA a.2.2.1 a.2.2.2 (F - k.1) k.2).2+k.1)},λk=>⟨[(11,.im (.int .i64 k.1.1)),(10,.ptr 0 0),(2,.im (.int .i64 a.2.2.1)),(3,.im (.int .i64 a.2.2.2))],[(0,(true,.cells 195 [.im (.int .i64 a.1),.im (.sl false 3 (a.2.1.map Ag.c)),.im (.sl false 1 ((CO a.1 a.2.1).At.map CK)),.own 2])),(2,(true,.arr 2 1 (k.1.2.Flow.map Ak)))],3010⟩,λk=>F - k.1.1,λk=>⟨by simp[ZG],AP _⟩,⟨⟨(0,CO a.1 a.2.1),Z,z,rfl,rfl,rfl,ah,Cz _,by simp[DR,hF]⟩,by simp only[ZZ,simprocAttr,Ab,Ax,flC.ca,flC.H1,Er,sub]⟩,λk=> ?_⟩;obtain⟨⟨k,N⟩,i1,i2,i3,i4,i5,i6,i7,O⟩:=k;simp only at i1 i2 i3 i4 i5 i6 i7 O;have af:=Tc i1 i2 a.2.2.1;rw[i4,i6] at af;have aj:k<F:=by omega
  have ai:F<=1000000000001:=by
   have h2: ∀(l:List Ag),(∀b∈l,b.Strength<=1000000)->(l.map Ag.Strength).sum<=1000000*(l.length:Int):=by
    intro l;induction l with
    |nil=>intro _;simp
    |cons x r ih=>
     intro h;have h3:=ih (λb hb=>h b (BK _ hb));have h4:=h x (BQ ..);simp only[Bb,Kl,Dd];omega
   have h3:=h2 a.2.1 (λb hb=>(ad b hb).2);have h4:=G.2.2.1;simp only at h4;omega
  obtain⟨m,hm⟩: ∃m,F - k=m+1:=⟨F - k - 1,by omega⟩;rw[hm,GA] at O;simp only[ZZ,simprocAttr,Ab,Ax,flC.ca,flC.H1,Er,sub,AO];refine AL.os (N,a.2.2.1,a.2.2.2) [0,2] ⟨i1,i2,aa,by simp only;omega,ac,by simp only;omega⟩ (λj=>lB _ j) rfl rfl ?_ ?_
  .simp only[ZZ,simprocAttr,Ab,Ax,flC.ca,flC.H1,Er,growC.ca,DG,FS,B5];rw[i3,i4,i5];exact⟨rfl,rfl,rfl⟩
  .simp only[ZZ,simprocAttr,Ab,Ax,flC.ca,flC.H1,Er,growC.H1,growC.r0,JB,sub,AO];refine⟨λQ=> ?_,λQ=> ?_⟩
   .rw[Ai Q] at O;obtain⟨g1,g2,g3,g4,g5,g6⟩:=LH i1 i2 aa (by omega) ac (by omega) ag Q;refine⟨⟨(k+1,(Fb N a.2.2.1 a.2.2.2).1),g1,g2,g3.trans i3,g4.trans i4,g5.trans i5,by simp only;omega,by simp only;omega,?_⟩,by simp only;omega,?_,rfl⟩
    .simp only;rw[show F - (k+1)=m by omega,O];simp only[Ea,NL];omega
    .rw[AA (by omega) (by omega)];simp only;omega
   .rw[Af Q] at O;have e:(Fb N a.2.2.1 a.2.2.2).1=N:=by
     revert Q;simp only[Fb];split
     .intro _;rfl
     .intro h;simp at h
    refine⟨?_,?_⟩
    .simp only[flC.r0,O];simp
    .rw[e];simp only[flC.net,O]
 simp[flC.H1] at hp;rcases hp with rfl|rfl
 .exact .inr ⟨by omega,by simp,rfl,rfl⟩
 .exact .inr ⟨by omega,by simp,rfl,rfl⟩
def Pw:D->Option Int
 | .int .u64 n=>some n
 |_=>none
def xE: ∀d x,Pw d=some x->Le d (.int .u64 x):=by
 intro d x h;unfold Pw at h;split at h
 .simp only[AM] at h;subst h;exact Le.refl _
 .cases h
def Qw1{a:Int}(h0:0<=a)(G:a<4294967296):W9 .u64 a 4294967295=a:=by
 simp only[W9];obtain⟨n,rfl⟩: ∃n:Nat,a=n:=⟨a.toNat,by omega⟩;have hn:n<4294967296:=by omega
 have:(BitVec.ofInt IntKind.u64.bits (n:Int) &&& BitVec.ofInt IntKind.u64.bits 4294967295).toNat=n:=by
  have e:IntKind.u64.bits=64:=rfl;rw[e];simp only[BitVec.toNat_and,BitVec.toNat_ofInt];rw[show ((n:Int) % ((2^64:Nat):Int)).toNat=n by omega,show ((4294967295:Int) % ((2^64:Nat):Int)).toNat=2^32 - 1 by decide];rw[Nat.and_two_pow_sub_one_eq_mod];omega
 rw[this];unfold IntKind.wrap;have e:IntKind.u64.bits=64:=rfl;have z:IntKind.u64.signed=false:=rfl;simp only[e,z,FP,CQ,CA];omega
def Nh{a:Int}(h0:0<=a)(G:a<18446744073709551616):IntKind.u64.wrap a=a:=by
 unfold IntKind.wrap;have e:IntKind.u64.bits=64:=rfl;have z:IntKind.u64.signed=false:=rfl;simp only[e,z,FP,CQ,CA];omega
def L4{a:Int}(h0:0<=a)(z:a<4294967296):a.fdiv (2^min 32 IntKind.u64.bits)=0:=by
 have e:IntKind.u64.bits=64:=rfl;rw[e,show (2:Int)^min 32 64=4294967296 by decide,Zer _ (by decide)];omega
def mul64.fv(a:Int×Int):Int×Int:=(λ_ y=>(0,y)) (a.1) (a.2)
def mul64.row:AE:=vK (b2 qU qU) (r2 (RK.mk (Pw) (D.int .u64) (xE)) (RK.mk (Pw) (D.int .u64) (xE))) (λa=>a.1=1/\0<=a.2/\a.2<=1000000) mul64.fv
def mul64.q:=Bg (R:=mul64.row) rfl
def mul64.ok:AI 198 mul64.row:=by
 refine vw tN Tryz.func198 ?_;intro a z;simp only[Tryz.f198,Option.getD];simp only[ZZ,simprocAttr,Ab,mul64.fv];obtain⟨O,G,Q⟩:=z;rw[O,Qw1 (by omega) (by omega),Qw1 (by omega) (by omega),L4 (by omega) (by omega),L4 G (by omega),Int.zero_mul,Int.one_mul,Int.zero_mul,Int.mul_zero];simp only[Nh G (show a.2<18446744073709551616 by omega),L4 G (show a.2<4294967296 by omega),Nh (NK 0) (by decide),Int.add_zero,L4 (NK 0) (by decide),Qw1 (NK 0) (by decide)];rfl
def mul_.fv(a:Int×Int):Int×Int:=(λ_ y=>(0,y)) (a.1) (a.2)
def mul_.row:AE:=vK (b2 qU qU) (r2 (RK.mk (Pw) (D.int .u64) (xE)) (RK.mk (Pw) (D.int .u64) (xE))) (λa=>a.1=1/\0<=a.2/\a.2<=1000000) mul_.fv
def mul_.q:=Bg (R:=mul_.row) rfl
def mul_.ok:AI 194 mul_.row:=by
 refine vw (tC mul64.ok tN) Tryz.func194 ?_;intro a z;simp only[Tryz.f194,Option.getD];simp only[ZZ,simprocAttr,Ab,mul_.fv,mul64.q,mul64.fv];exact⟨z,rfl⟩
def DH(x:Int)(m n:Nat):List (List D):=List.replicate m [.int .i64 x]++List.replicate (n - m) [.int .i64 0]
def T4(x:Int){m n:Nat}(h:m<=n):(DH x m n).length=n:=by simp[DH];omega
def T5(x:Int)(n:Nat):DH x (min 1 n) n=List.take (min 1 n) [[.int .i64 x]]++List.drop (min 1 n) (List.replicate n [.int .i64 0]):=by
 cases n with
 |zero=>rfl
 |succ n=>
  rw[show min 1 (n+1)=1 by omega];simp[DH]
def Nj(x:Int)(k m n:Nat):Bl Bo (List.take k (DH x m n)):=by
 intro r z
 have:=zB z
 rcases Bz.1 this with h|h<;>rw[NJ h]<;>rfl
def OL(x:Int){m n:Nat}(h:m<n):List.take m (DH x m n)++List.take (min m (n - m)) (List.take m (DH x m n))++List.drop (m+min m (n - m)) (DH x m n)=DH x (m+min m (n - m)) n:=by
 have e:List.take m (DH x m n)=List.replicate m [.int .i64 x]:=by simp[DH]
 rw[e];have z:List.drop (m+min m (n - m)) (DH x m n)=List.replicate (n - (m+min m (n - m))) [.int .i64 0]:=by
  simp only[DH];rw[Vr,DB (by simp),Dj,NI,List.drop_replicate];congr 1;omega
 rw[z,DH,<-List.replicate_append_replicate];congr 2;rw[List.take_replicate];congr 1;omega
def rept.ca(a:Int×Int):List AV:=[.own 0,.im (.int .i64 a.2)]
def rept.H0(a:Int×Int):Ao:=[(0,(true,.arr 3 1 [[.int .i64 a.1]]))]
def rept.H1(a:Int×Int):Ao:=[(1,(true,.arr 3 1 (List.replicate a.2.toNat [.int .i64 a.1])))]
def rept.pre(a:Int×Int):Prop:=0<=a.2/\a.2<=1000000
def rept.row:AE:=AL rept.ca rept.H0 1 rept.pre (λ_=>false) (λ_=> .own 1) rept.H1 20
def W4:=J @mul_.q @mul_.fv.eq_1
def rept.ok:AI 186 rept.row:=by
 refine Td (tC mul_.ok tN) Tryz.func186 (exB:=λj=>j==1) (R:=λa r=>r= .own 1) (λ_=>rfl)
  (λa=>by simp[rept.ca,rept.H0,rept.H1,AD,AV.bel,Av,BB,BU,Ac.nms,Aw,AV.nms,Aj,hget]) (λa p hp=> ?_) (λa r h=>by subst h;exact Dh.refl _) ?_
 rotate_left
 intro a G;simp only[Tryz.f186,Option.getD,rept.ca,rept.H0,rept.H1];simp only[ZZ,simprocAttr,Ab,W4,Br,Ax,rept.ca,rept.H0,rept.H1];obtain⟨h0,Z⟩:=G;rw[Af (by omega)];simp only[ZZ,simprocAttr,Ab,W4,Br,Ax,rept.ca,rept.H0,rept.H1,Nh (show (0:Int)<=1 by decide) (show (1:Int)<18446744073709551616 by decide),Nh h0 (show a.2<18446744073709551616 by omega)];refine⟨⟨h0,Z⟩,?_⟩;rw[Af (by omega)];simp only[ZZ,simprocAttr,Ab,W4,Br,Ax,rept.ca,rept.H0,rept.H1,AA (show -9223372036854775808<=a.2 by omega) (show a.2<=9223372036854775807 by omega)];refine⟨h0,NK _,by omega,?_⟩;obtain⟨n,hn⟩: ∃n:Nat,a.2=n:=⟨a.2.toNat,by omega⟩;obtain⟨x,hx⟩: ∃x,x=a.1:=⟨_,rfl⟩;simp only[hn,Bj,NI,<-hx];rw[hn] at h0 Z;refine AY.old ⟨{m:Nat//m<=n/\(m=0->n=0)},λm=>⟨[(8,.im (.int .i64 m.1)),(7,.own 1)],[(1,(true,.arr 3 1 (DH x m.1 n))),(0,(true,.arr 3 1 [[.int .i64 x]]))],2⟩,λm=>n - m.1,λm=>⟨by simp[ZG],by simp⟩,⟨⟨min 1 n,by omega,by omega⟩,?_⟩,λm=> ?_⟩
 .simp only[ZZ,simprocAttr,Ab,W4,Br,Ax,rept.ca,rept.H0,rept.H1,sub];exact (T5 x n).symm
 obtain⟨m,Q,ab⟩:=m;have z:=T4 x Q;simp only[ZZ,simprocAttr,Ab,W4,Br,Ax,rept.ca,rept.H0,rept.H1,sub,AO,z];intro aa;refine⟨λhm=>⟨by omega,false,?_⟩,λhm=> ?_⟩
 .simp only[ZZ,simprocAttr,Ab,W4,Br,Ax,rept.ca,rept.H0,rept.H1,z];refine⟨by omega,false,?_⟩;simp only[ZZ,simprocAttr,Ab,W4,Br,Ax,rept.ca,rept.H0,rept.H1,z,sub];obtain⟨k,hk⟩: ∃k,min (List.take ((m:Int) - 0).toNat (DH x m n)).length ((n:Int) - m).toNat=k:=⟨_,rfl⟩;have O:k=min m (n - m):=by rw[<-hk,Ck,z];omega
  rw[hk,show ((m:Int) - 0).toNat=m by omega];refine⟨Nj x _ _ _,⟨m+k,by omega,by omega⟩,by simp only;omega,by rw[AA (by omega) (by omega)];simp only;omega,?_⟩;subst O;exact OL x hm
 .refine⟨[],[],⟨[(4,.own 1)],[(1,(true,.arr 3 1 (DH x m n))),(0,(true,.arr 3 1 [[.int .i64 x]]))],2⟩,?_,by simp[ZG],by simp,?_⟩
  .simp only[Ar];simp only[ZZ,simprocAttr,Ab,W4,Br,Ax,rept.ca,rept.H0,rept.H1,AS,AR]
  .simp only[ZZ,simprocAttr,Ab,W4,Br,Ax,rept.ca,rept.H0,rept.H1]
   have:m=n:=by omega
   subst this;simp[DH]
 simp[rept.H1] at hp;subst hp;exact .inr ⟨by omega,by omega,rfl,rfl⟩
def xZ(x:Be)(u v:Int):Int:=(x.Room[u.toNat]?.getD [])[v.toNat]?.getD 0
def yI(x:Be)(u v:Int):Int:=(x.Flow[u.toNat]?.getD [])[v.toNat]?.getD 0
def Vc(x:Be)(u v:Int):Bool:=decide (yI x u v<xZ x u v)
structure Ke(x:Be)(n:Nat):Prop where
 r:x.Room.length=n
 f:x.Flow.length=n
 rr: ∀l∈x.Room,l.length=n
 ff: ∀l∈x.Flow,l.length=n
def Ha(x:Be)(u:Int)(s:List Int×List Int)(v:Nat):List Int×List Int:=
 if s.1[v]?.getD 0<0/\Vc x u v=true then (s.1.set v u,s.2++[(v:Int)]) else s
def C9(x:Be)(u:Int)(s:List Int×List Int):Nat->List Int×List Int
 |0=>s
 |k+1=>Ha x u (C9 x u s k) k
def CI(x:Be)(n:Nat)(p:Int):Nat->List Int×List Int
 |0=>((List.replicate n (-1)).set p.toNat p,[p])
 |k+1=>match (CI x n p k).2[k]? with
  |none=>CI x n p k
  |some u=>C9 x u (CI x n p k) n
structure Gz(x:Be)(n:Nat)(p:Int)(s:List Int×List Int):Prop where
 len:s.1.length=n
 q: ∀v∈s.2,0<=v/\v<n
 nd:s.2.Nodup
 hd:s.2[0]? =some p
 pp:s.1[p.toNat]? =some p
 mem: ∀(v:Nat) (y:Int),s.1[v]? =some y->(0<=y↔(v:Int)∈s.2)
 prev: ∀(i:Nat) (v:Int),s.2[i]? =some v->0<i-> ∃(j:Nat) (u:Int),j<i/\s.2[j]? =some u/\s.1[v.toNat]? =some u/\Vc x u v=true
def Qtz: ∀(n:Nat) (l:List Int),l.Nodup->(∀v∈l,0<=v/\v<n)->l.length<=n
 |0,[],_,_=>AP _
 |0,x::r,_,h=>by have:=h x (BQ ..);omega
 |n+1,l,h,G=>by
  have Q:=Qtz n (l.erase (n:Int)) (h.erase _) (λv O=>by
   have z:=(h.mem_erase_iff).1 O;have Z:=G v z.2
   have:=z.1
   omega)
  have z:=List.length_erase (a:=(n:Int)) (l:=l);split at z<;>omega
def wS{x:Be}{n:Nat}{p:Int}{s:List Int×List Int}(h:Gz x n p s):s.2.length<=n:=Qtz n s.2 h.nd h.q
def gL{x:Be}{n:Nat}{p:Int}{s:List Int×List Int}(h:Gz x n p s){u:Int}{k v:Nat}(hu:s.2[k]? =some u)(hv:v<n):Gz x n p (Ha x u s v)/\ ∃r,(Ha x u s v).2=s.2++r:=by
 simp only[Ha];split
 .rename_i hc;obtain⟨ac,ad⟩:=hc;have O:v<s.1.length:=by rw[h.len];exact hv
  obtain⟨y,hy⟩: ∃y,s.1[v]? =some y:=⟨_,B2 O⟩;rw[hy,AT] at ac;have Q:(v:Int)∉s.2:=λhm=>by have:=(h.mem v y hy).2 hm;omega
  have aa:p∈s.2:=Bf h.hd;have ah:p.toNat≠v:=by
   intro he
   have:=h.q p aa
   exact Q (by rw[show (v:Int)=p by omega];exact aa)
  have ai:=h.q u (Bf hu);refine⟨⟨by simpa using h.len,λw G=> ?_,?_,?_,?_,λw z hz=> ?_,λi w G hi=> ?_⟩,_,rfl⟩
  .rcases Bz.1 G with G|G
   .exact h.q w G
   .rw[BL] at G;subst G;omega
  .rw[Vp];refine⟨h.nd,by simp,λa ha b hb=> ?_⟩;rw[BL] at hb;subst hb;exact λhe=>Q (he▸ha)
  .have:=h.hd
   rw[H6 (Cu.1 this).1];exact this
  .simp only;rw[DL (Fz ah)];exact h.pp
  .simp only at hz⊢;rw[Bz,BL];by_cases ab:v=w
   .subst ab;rw[DC O] at hz;obtain rfl:=AB hz;exact⟨λ_=> .inr rfl,λ_=>ai.1⟩
   .rw[DL ab] at hz;rw[h.mem w z hz];constructor
    .exact .inl
    .rintro (h1|h1)
     .exact h1
     .omega
  .simp only at G⊢;by_cases ag:i<s.2.length
   .rw[H6 ag] at G;obtain⟨j,z,h1,h2,h3,h4⟩:=h.prev i w G hi;refine⟨j,z,h1,by rw[H6 (by omega)];exact h2,?_,h4⟩;have aj:=h.q w (Bf G);rw[DL]
    .exact h3
    .intro he;exact Q (by rw[show (v:Int)=w by omega];exact Bf G)
   .have af:i=s.2.length:=by
     have:=(Cu.1 G).1
     simp only[DZ,Dd,H9] at this;omega
    subst af;rw[J2 (AP _),J4,HA] at G;obtain rfl:=AB G;have Z:=(Cu.1 hu).1;refine⟨k,u,Z,by rw[H6 Z];exact hu,?_,ad⟩;rw[Bj,DC O]
 .exact⟨h,[],by simp⟩
def Qoj(x:Be)(u:Int)(s:List Int×List Int)(v w:Nat)(y:Int)(h:s.1[w]? =some y)(h0:0<=y):(Ha x u s v).1[w]? =some y:=by
 simp only[Ha];split
 .rename_i z;rw[DL]
  .exact h
  .intro G;subst G
   have:=z.1
   rw[h,AT] at this;omega
 .exact h
def Qvl(x:Be)(u:Int)(s:List Int×List Int)(w:Nat)(y:Int)(h:s.1[w]? =some y)(h0:0<=y): ∀k,(C9 x u s k).1[w]? =some y
 |0=>h
 |k+1=>Qoj x u _ k w y (Qvl x u s w y h h0 k) h0
def qK{x:Be}{n:Nat}{p:Int}{s:List Int×List Int}(h:Gz x n p s){u:Int}{i:Nat}(G:s.2[i]? =some u): ∀k,k<=n->Gz x n p (C9 x u s k)/\ ∃r,(C9 x u s k).2=s.2++r
 |0,_=>⟨h,[],by simp[C9]⟩
 |k+1,hk=>by
  obtain⟨Z,r,Q⟩:=qK h G k (by omega);have O:=(Cu.1 G).1;obtain⟨h2,r',z⟩:=gL Z (u:=u) (k:=i) (v:=k) (by rw[Q,H6 O];exact G) (by omega);exact⟨h2,r++r',by rw[C9,z,Q,J0]⟩
def Qz6{x:Be}{n:Nat}{p:Int}{s:List Int×List Int}(h:Gz x n p s){u:Int}{i:Nat}(G:s.2[i]? =some u): ∀k,k<=n-> ∀v,v<k->Vc x u v=true-> ∃y,(C9 x u s k).1[v]? =some y/\0<=y
 |0,_,v,hv,_=>by omega
 |k+1,hk,v,hv,hf=>by
  by_cases Q:v<k
  .obtain⟨y,h1,Z⟩:=Qz6 h G k (by omega) v Q hf;exact⟨y,Qoj x u _ k v y h1 Z,Z⟩
  .have:v=k:=by omega
   subst this;have hP:=(qK h G v (by omega)).1;obtain⟨y,hy⟩: ∃y,(C9 x u s v).1[v]? =some y:=⟨_,B2 (by rw[hP.len];omega)⟩;by_cases z:0<=y
   .exact⟨y,Qoj x u _ v v y hy z,z⟩
   .have O:=h.q u (Bf G);refine⟨u,?_,O.1⟩;rw[C9,Ha,Ai ⟨by rw[hy,AT];omega,hf⟩];exact DC (by rw[hP.len];omega)
def QA{x:Be}{n:Nat}{p:Int}(h0:0<=p)(Q:p<n): ∀k,Gz x n p (CI x n p k)
 |0=>by
  have hq:p.toNat<(List.replicate n (-1:Int)).length:=by rw[NI];omega
  refine⟨by simp[CI],λv z=> ?_,by simp[CI],rfl,DC hq,λv y G=> ?_,λi v z hi=> ?_⟩
  .simp only[CI,BL] at z;subst z;omega
  .simp only[CI,BL] at G⊢;by_cases O:p.toNat=v
   .subst O;rw[DC hq] at G;obtain rfl:=AB G;omega
   .rw[DL O] at G
    have:=NJ (Bf G)
    omega
  .simp only[CI] at z;cases i with
   |zero=>omega
   |succ i=>simp at z
 |k+1=>by
  have ih:=QA (x:=x) h0 Q k;simp only[CI];split
  .exact ih
  .rename_i u Z;exact (qK ih Z n (AP _)).1
def kL(x:Be)(n:Nat)(p:Int)(w:Nat)(y:Int)(h0:0<=y)(k:Nat)(h:(CI x n p k).1[w]? =some y): ∀m,(CI x n p (k+m)).1[w]? =some y
 |0=>h
 |m+1=>by
  have ih:=kL x n p w y h0 k h m;rw[show k+(m+1)=k+m+1 by omega,CI];split
  .exact ih
  .exact Qvl x _ _ w y ih h0 n
def UK(x:Be){n:Nat}{p:Int}(h0:0<=p)(z:p<n)(k:Nat): ∃r,(CI x n p (k+1)).2=(CI x n p k).2++r:=by
 rw[CI];split
 .exact⟨[],by simp⟩
 .rename_i u G;exact (qK (QA (x:=x) h0 z k) G n (AP _)).2
def MZ(x:Be)(n:Nat)(p:Int): ∀(m k:Nat),(CI x n p k).2.length<=k->CI x n p (k+m)=CI x n p k
 |0,k,_=>rfl
 |m+1,k,h=>by
  have z:CI x n p (k+1)=CI x n p k:=by
   rw[CI,HB h]
  have G:=MZ x n p m (k+1) (by rw[z];omega);rw[show k+(m+1)=k+1+m by omega,G,z]
def Qzh(x:Be){n:Nat}{p:Int}(h0:0<=p)(G:p<n): ∀(k:Nat) (j:Nat) (u:Int),j<k->(CI x n p k).2[j]? =some u-> ∀v,v<n->Vc x u v=true-> ∃y,(CI x n p k).1[v]? =some y/\0<=y
 |0,j,_,hj,_,_,_,_=>by omega
 |k+1,j,u,hj,z,v,Z,hf=>by
  obtain⟨r,hr⟩:=UK x h0 G k;by_cases Q:j<(CI x n p k).2.length
  .rw[hr,H6 Q] at z;by_cases O:j<k
   .obtain⟨y,g1,g2⟩:=Qzh x h0 G k j u O z v Z hf;exact⟨y,kL x n p v y g2 k g1 1,g2⟩
   .have:j=k:=by omega
    subst this;obtain⟨y,g1,g2⟩:=Qz6 (QA (x:=x) h0 G j) z n (AP _) v Z hf;exact⟨y,by rw[CI,z];exact g1,g2⟩
  .have e:CI x n p (k+1)=CI x n p k:=by
    rw[CI,HB (by omega)]
   rw[e] at z
   have:=(Cu.1 z).1
   omega
def B4(x:Be)(n:Nat)(p:Int):List Int×List Int:=CI x n p n
def Qww(x:Be){n:Nat}{p:Int}(h0:0<=p)(G:p<n){u v:Nat}{y:Int}(hu:(B4 x n p).1[u]? =some y)(hy:0<=y)(hv:v<n)(hf:Vc x u v=true): ∃z,(B4 x n p).1[v]? =some z/\0<=z:=by
 have O:=QA (x:=x) h0 G n;have hm:=(O.mem u y hu).1 hy;obtain⟨j,Q⟩:=Vo.1 hm;have hl:=wS O;have Z:=(Cu.1 Q).1;exact Qzh x h0 G n j u (by omega) Q v hv hf
def Dr(z:List Int)(q:Int):Nat->Int
 |0=>q
 |k+1=>z[(Dr z q k).toNat]?.getD 0
def pT(z:List Int)(p q:Int)(n:Nat):Nat:=((List.range (n+1)).find? λk=>decide (Dr z q k=p)).getD 0
def Ie(z:List Int)(q:Int)(k:Nat):List Int:=(List.range (k+1)).map (Dr z q)
def Co(x:Be)(n:Nat)(p q:Int):List Int:=
 if (B4 x n p).1[q.toNat]?.getD 0<0 then [] else (Ie (B4 x n p).1 q (pT (B4 x n p).1 p q n)).reverse
def oN{x:Be}{n:Nat}{p:Int}{s:List Int×List Int}(h:Gz x n p s){q:Int}{i:Nat}(hq:s.2[i]? =some q): ∀k,(∀j,j<k->Dr s.1 q j≠p)-> ∃j,j+k<=i/\s.2[j]? =some (Dr s.1 q k)
 |0,_=>⟨i,by omega,hq⟩
 |k+1,z=>by
  obtain⟨j,h1,G⟩:=oN h hq k (λj hj=>z j (by omega));have O:0<j:=by
   rcases jI j with h0|h0
   .subst h0;rw[h.hd] at G;exact absurd (AB G).symm (z k (by omega))
   .exact h0
  obtain⟨j',u,g1,g2,Q,Z⟩:=h.prev j _ G O;exact⟨j',by omega,by rw[Dr,Q,AT];exact g2⟩
def NR{x:Be}{n:Nat}{p:Int}{s:List Int×List Int}(h:Gz x n p s){q:Int}{i:Nat}(hq:s.2[i]? =some q){k:Nat}(z: ∀j,j<k+1->Dr s.1 q j≠p):Vc x (Dr s.1 q (k+1)) (Dr s.1 q k)=true/\ ∃y,s.1[(Dr s.1 q k).toNat]? =some y/\Dr s.1 q (k+1)=y:=by
 obtain⟨j,h1,G⟩:=oN h hq k (λj hj=>z j (by omega));have O:0<j:=by
  rcases jI j with h0|h0
  .subst h0;rw[h.hd] at G;exact absurd (AB G).symm (z k (by omega))
  .exact h0
 obtain⟨j',u,g1,g2,Q,Z⟩:=h.prev j _ G O;have e:Dr s.1 q (k+1)=u:=by rw[Dr,Q,AT]
 exact⟨by rw[e];exact Z,u,Q,e⟩
def Qq3{x:Be}{n:Nat}{p:Int}{s:List Int×List Int}(h:Gz x n p s){q:Int}{i:Nat}(hq:s.2[i]? =some q): ∃d,d<=i/\Dr s.1 q d=p/\ ∀j,j<d->Dr s.1 q j≠p:=by
 have Q: ∀m,(∃d,d<=m/\Dr s.1 q d=p/\ ∀j,j<d->Dr s.1 q j≠p)\/ ∀j,j<=m->Dr s.1 q j≠p:=by
  intro m;induction m with
  |zero=>
   by_cases h0:Dr s.1 q 0=p
   .exact .inl ⟨0,AP _,h0,λj G=>by omega⟩
   .exact .inr λj G=>by rw[show j=0 by omega];exact h0
  |succ m ih=>
   rcases ih with ⟨d,z,Z,h3⟩|ih
   .exact .inl ⟨d,by omega,Z,h3⟩
   .by_cases h0:Dr s.1 q (m+1)=p
    .exact .inl ⟨m+1,AP _,h0,λj G=>ih j (by omega)⟩
    .refine .inr λj G=> ?_
     by_cases O:j<=m
     .exact ih j O
     .rw[show j=m+1 by omega];exact h0
 rcases Q i with z|z
 .exact z
 .obtain⟨j,g1,g2⟩:=oN h hq (i+1) (λj G=>z j (by omega));omega
def Qqr{z:List Int}{p q:Int}{n d:Nat}(hd:d<=n)(G:Dr z q d=p)(O: ∀j,j<d->Dr z q j≠p):pT z p q n=d:=by
 have: ∀(m s:Nat),s<=d->d<s+m->((List.range' s m).find? λk=>decide (Dr z q k=p))=some d:=by
  intro m;induction m with
  |zero=>intro s Q Z;omega
  |succ m ih=>
   intro s Q Z;rw[List.range'_succ,zM];by_cases hs:s=d
   .subst hs;simp[G]
   .rw[show decide (Dr z q s=p)=false from PN (O s (by omega))];exact ih (s+1) (by omega) (by omega)
 rw[pT,Zef,this _ 0 (by omega) (by omega),AT]
def AJ(f:Nat->Int):Nat->Int
 |0=>0
 |n+1=>AJ f n+f n
def Fu{f g:Nat->Int}: ∀{n:Nat},(∀i,i<n->f i=g i)->AJ f n=AJ g n
 |0,_=>rfl
 |n+1,h=>by simp only[AJ];rw[Fu (λi z=>h i (by omega)),h n (by omega)]
def Qt(f g:Nat->Int): ∀n,AJ (λi=>f i+g i) n=AJ f n+AJ g n
 |0=>rfl
 |n+1=>by simp only[AJ];rw[Qt f g n];omega
def oJ(f:Nat->Int): ∀n,AJ (λi=> - f i) n= - AJ f n
 |0=>rfl
 |n+1=>by simp only[AJ];rw[oJ f n];omega
def Qr: ∀n,AJ (λ_=>0) n=0
 |0=>rfl
 |n+1=>by simp only[AJ];rw[Qr n];rfl
def Qxf{f g:Nat->Int}: ∀{n:Nat},(∀i,i<n->f i<=g i)->AJ f n<=AJ g n
 |0,_=>NK _
 |n+1,h=>by
  have z:=Qxf (f:=f) (g:=g) (n:=n) (λi O=>h i (by omega));have G:=h n (by omega);simp only[AJ];omega
def Qt3(f:Nat->Nat->Int)(m:Nat): ∀n,AJ (λi=>AJ (λj=>f i j) m) n=AJ (λj=>AJ (λi=>f i j) n) m
 |0=>by simp only[AJ];exact (Qr m).symm
 |n+1=>by simp only[AJ];rw[Qt3 f m n,<-Qt]
def Wc(k:Nat)(c:Int): ∀n,AJ (λi=>if i=k then c else 0) n=if k<n then c else 0
 |0=>rfl
 |n+1=>by
  simp only[AJ];rw[Wc k c n];by_cases z:n=k
  .subst z;rw[Af (by omega),Ai rfl,Ai (by omega)];omega
  .rw[Af z];by_cases G:k<n
   .rw[Ai G,Ai (by omega)];omega
   .rw[Af G,Af (by omega)];omega
def Pp(a:Nat->Nat->Int)(n:Nat)(h: ∀u w,u<n->w<n->a u w= - a w u):AJ (λu=>AJ (λw=>a u w) n) n=0:=by
 have O:AJ (λu=>AJ (λw=>a u w) n) n= - AJ (λu=>AJ (λw=>a u w) n) n:=by
  rw[<-oJ]
  conv=>lhs;rw[Qt3]
  refine Fu λu z=> ?_
  rw[<-oJ];exact Fu λw G=>h w u G z
 omega
structure Q4(rm fl:Nat->Nat->Int)(n p q:Nat)(v:Int):Prop where
 anti: ∀u w,u<n->w<n->fl u w= - fl w u
 cap: ∀u w,u<n->w<n->fl u w<=rm u w
 cons: ∀u,u<n->u≠p->u≠q->AJ (fl u) n=0
 val:AJ (fl p) n=v
def Ef(rm:Nat->Nat->Int)(n:Nat)(S:Nat->Bool):Int:=AJ (λu=>AJ (λw=>if S u=true/\S w=false then rm u w else 0) n) n
def kV{rm fl:Nat->Nat->Int}{n p q:Nat}{v:Int}(h:Q4 rm fl n p q v)(hp:p<n){S:Nat->Bool}(Z:S p=true)(hT:S q=false):Ef fl n S=v:=by
 have h1:AJ (λu=>AJ (λw=>if S u=true then fl u w else 0) n) n=v:=by
  have:AJ (λu=>AJ (λw=>if S u=true then fl u w else 0) n) n=AJ (λu=>if u=p then v else 0) n:=by
   refine Fu λu O=> ?_
   by_cases z:u=p
   .subst z;rw[Ai rfl,<-h.val];exact Fu λw _=>Ai Z
   .rw[Af z];cases hSu:S u with
    |false=>exact (Fu λw _=>Af (by simp)).trans (Qr n)
    |true=>
     have Q:u≠q:=λhe=>by rw[he,hT] at hSu;cases hSu
     exact (Fu λw _=>Ai rfl).trans (h.cons u O z Q)
  rw[this,Wc,Ai hp]
 have h2:AJ (λu=>AJ (λw=>if S u=true/\S w=true then fl u w else 0) n) n=0:=by
  refine Pp _ n λu w O hw=> ?_
  by_cases G:S u=true/\S w=true
  .rw[Ai G,Ai ⟨G.2,G.1⟩];exact h.anti u w O hw
  .rw[Af G,Af (λh=>G ⟨h.2,h.1⟩)];rfl
 have h3:AJ (λu=>AJ (λw=>if S u=true then fl u w else 0) n) n=AJ (λu=>AJ (λw=>if S u=true/\S w=true then fl u w else 0) n) n+Ef fl n S:=by
  rw[Ef,<-Qt];refine Fu λu _=> ?_
  rw[<-Qt];refine Fu λw _=> ?_
  cases S u<;>cases S w<;>simp
 omega
def Qw8{rm fl:Nat->Nat->Int}{n p q:Nat}{v:Int}(h:Q4 rm fl n p q v)(hp:p<n){S:Nat->Bool}(z:S p=true)(G:S q=false):v<=Ef rm n S:=by
 rw[<-kV h hp z G];refine Qxf λu O=>Qxf λw Q=> ?_
 split
 .exact h.cap u w O Q
 .exact NK _
def Qxp{rm fl:Nat->Nat->Int}{n p q:Nat}{v:Int}(h:Q4 rm fl n p q v)(hp:p<n){S:Nat->Bool}(Z:S p=true)(hT:S q=false)(z: ∀u w,u<n->w<n->S u=true->S w=false->rm u w<=fl u w):v=Ef rm n S:=by
 rw[<-kV h hp Z hT];refine Fu λu O=>Fu λw Q=> ?_
 split
 .rename_i G;have h1:=h.cap u w O Q;have h2:=z u w O Q G.1 G.2;omega
 .rfl
def Hg(L:Nat->Nat)(a b j:Nat):Int:=if L j=a/\L (j+1)=b then 1 else 0
def nI(L:Nat->Nat)(a b:Nat): ∀i,0<=AJ (Hg L a b) i
 |0=>NK _
 |i+1=>by
  have:=nI L a b i
  simp only[AJ,Hg]
  split<;>omega
def wP{L:Nat->Nat}{m:Nat}(z: ∀i j,i<=m->j<=m->L i=L j->i=j)(a b:Nat): ∀i,i<=m->AJ (Hg L a b) i<=1/\(0<AJ (Hg L a b) i-> ∃j,j<i/\L j=a/\L (j+1)=b)
 |0,_=>⟨by simp[AJ],λh=>by simp[AJ] at h⟩
 |i+1,hi=>by
  obtain⟨h1,Z⟩:=wP z a b i (by omega);have h0:=nI L a b i;simp only[AJ];by_cases O:L i=a/\L (i+1)=b
  .have hz: ¬0<AJ (Hg L a b) i:=by
    intro G;obtain⟨j,hj,Q,_⟩:=Z G
    have:=z j i (by omega) (by omega) (Q.trans O.1.symm)
    omega
   simp only[Hg] at hz h0⊢;rw[Ai O];exact⟨by omega,λ_=>⟨i,by omega,O⟩⟩
  .have e:Hg L a b i=0:=Af O;rw[e];refine⟨by omega,λG=> ?_⟩;obtain⟨j,hj,Q⟩:=Z (by omega);exact⟨j,by omega,Q⟩
def lA{L:Nat->Nat}{n m:Nat}(z: ∀i,i<=m->L i<n)(a:Nat): ∀i,i<=m->AJ (λb=>AJ (Hg L a b) i - AJ (Hg L b a) i) n=(if L 0=a then 1 else 0) - (if L i=a then 1 else 0)
 |0,_=>by simp only[AJ,Int.sub_self];exact Qr n
 |i+1,Z=>by
  have ih:=lA z a i (by omega);have e:AJ (λb=>AJ (Hg L a b) (i+1) - AJ (Hg L b a) (i+1)) n=AJ (λb=>AJ (Hg L a b) i - AJ (Hg L b a) i) n+(AJ (λb=>if b=L (i+1) then (if L i=a then 1 else 0) else 0) n+ - AJ (λb=>if b=L i then (if L (i+1)=a then 1 else 0) else 0) n):=by
   rw[<-oJ,<-Qt,<-Qt];refine Fu λb _=> ?_
   simp only[AJ,Hg];by_cases c1:L i=a<;>by_cases G:L (i+1)=a<;>by_cases O:b=L i<;>by_cases Q:b=L (i+1)<;>simp[c1,G,O,Q,eq_comm]<;>omega
  rw[e,ih,Wc,Wc,Ai (z _ Z),Ai (z _ (by omega))];omega
def Oo{rm fl Q:Nat->Nat->Int}{n p q:Nat}{v:Int}(h:Q4 rm fl n p q v){L:Nat->Nat}{m:Nat}(aa: ∀i j,i<=m->j<=m->L i=L j->i=j)(hr: ∀i,i<=m->L i<n)
 (h0:L 0=p)(hm:L m=q)(ac:p≠q)(hp:p<n)(Z: ∀i,i<m->fl (L i) (L (i+1))<rm (L i) (L (i+1)))
 (z: ∀a b,a<n->b<n->Q a b=fl a b+(AJ (Hg L a b) m - AJ (Hg L b a) m)):Q4 rm Q n p q (v+1):=by
 have O: ∀a,a<n->AJ (Q a) n=AJ (fl a) n+((if L 0=a then 1 else 0) - (if L m=a then 1 else 0)):=by
  intro a ha;rw[<-lA hr a m (AP _),<-Qt];exact Fu λb hb=>z a b ha hb
 refine⟨λu w G hw=> ?_,λu w G hw=> ?_,λu G h1 h2=> ?_,?_⟩
 .rw[z u w G hw,z w u hw G]
  have:=h.anti u w G hw
  omega
 .rw[z u w G hw];obtain⟨e1,e2⟩:=wP aa u w m (AP _);have e3:=nI L w u m;have e4:=h.cap u w G hw;by_cases ab:0<AJ (Hg L u w) m
  .obtain⟨j,hj,g1,g2⟩:=e2 ab
   have:=Z j hj
   rw[g1,g2] at this;omega
  .omega
 .rw[O u G,h.cons u G h1 h2,h0,hm,Af (Fz h1),Af (Fz h2)];rfl
 .rw[O p hp,h.val,h0,hm,Ai rfl,Af (Fz ac)];omega
def KZ(l:List (List Int))(u v:Int)(d:Int):List (List Int):=l.set u.toNat ((l[u.toNat]?.getD []).set v.toNat ((l[u.toNat]?.getD [])[v.toNat]?.getD 0+d))
def GK(l:List (List Int))(a b:Nat):Int:=(l[a]?.getD [])[b]?.getD 0
def YA(l:List (List Int))(u v d:Int):(KZ l u v d).length=l.length:=by simp[KZ]
def Y7{l:List (List Int)}{n:Nat}(h: ∀r∈l,r.length=n)(u v d:Int)(G:u.toNat<l.length): ∀r∈KZ l u v d,r.length=n:=by
 intro r z;rcases W5 z with z|z
 .exact h r z
 .subst z;rw[Fy,B2 G,AT];exact h _ (QJ G)
def bQ{l:List (List Int)}{n:Nat}(Q:l.length=n)(h: ∀r∈l,r.length=n){u v:Nat}(d:Int)(Z:u<n)(hv:v<n)(a b:Nat):GK (KZ l u v d) a b=GK l a b+if a=u/\b=v then d else 0:=by
 simp only[GK,KZ,Bj];by_cases z:u=a
 .subst z;rw[DC (by omega),AT];have O:(l[u]?.getD []).length=n:=by
   rw[B2 (by omega),AT];exact h _ (QJ (by omega))
  by_cases G:v=b
  .subst G;rw[DC (by omega),AT,Ai ⟨rfl,rfl⟩]
  .rw[DL G,Af (λh=>G h.2.symm)];omega
 .rw[DL z,Af (λh=>z h.1.symm)];omega
def Nm(x:Be)(u v:Int):Be:=⟨x.Room,KZ (KZ x.Flow u v 1) v u (-1)⟩
def Hh(x:Be)(L:List Int):Nat->Be
 |0=>x
 |i+1=>Nm (Hh x L i) (L[i]?.getD 0) (L[i+1]?.getD 0)
def Ql3(x:Be)(L:List Int): ∀i,(Hh x L i).Room=x.Room
 |0=>rfl
 |i+1=>Ql3 x L i
def Om(x:Be)(u v:Int):yI x u v=GK x.Flow u.toNat v.toNat:=rfl
def OO(x:Be)(u v:Int):xZ x u v=GK x.Room u.toNat v.toNat:=rfl
def Tq{x:Be}{n:Nat}(h:Ke x n){u v:Int}(z:u.toNat<n)(G:v.toNat<n):Ke (Nm x u v) n:=by
 refine⟨h.r,by simp only[Nm,YA];exact h.f,h.rr,?_⟩;exact Y7 (Y7 h.ff u v 1 (by rw[h.f];exact z)) v u (-1) (by rw[YA,h.f];exact G)
def vT{x:Be}{n:Nat}(h:Ke x n){L:List Int}(z: ∀y∈L,0<=y/\y<n): ∀i,i<L.length->Ke (Hh x L i) n
 |0,_=>h
 |i+1,G=>by
  have ih:=vT h z i (by omega);refine Tq ih ?_ ?_
  .rw[B2 (by omega),AT]
   have:=z _ (QJ (show i<L.length by omega))
   omega
  .rw[B2 G,AT]
   have:=z _ (QJ G)
   omega
def Lf(L:List Int)(i:Nat):Nat:=(L[i]?.getD 0).toNat
def Qso{x:Be}{n:Nat}(h:Ke x n){L:List Int}(G: ∀y∈L,0<=y/\y<n)(a b:Nat): ∀i,i<L.length->GK (Hh x L i).Flow a b=GK x.Flow a b+(AJ (Hg (Lf L) a b) i - AJ (Hg (Lf L) b a) i)
 |0,_=>by simp[Hh,AJ]
 |i+1,hi=>by
  have ih:=Qso h G a b i (by omega);have z:=vT h G i (by omega);obtain⟨u,hu⟩: ∃u,L[i]? =some u:=⟨_,B2 (by omega)⟩;obtain⟨v,hv⟩: ∃v,L[i+1]? =some v:=⟨_,B2 hi⟩;have aa:=G u (Bf hu);have ab:=G v (Bf hv);obtain⟨u',rfl⟩: ∃u':Nat,u=u':=⟨u.toNat,by omega⟩;obtain⟨v',rfl⟩: ∃v':Nat,v=v':=⟨v.toNat,by omega⟩;simp only[Hh,Nm,hu,hv,AT];rw[bQ (n:=n) (by rw[YA];exact z.f) (Y7 z.ff _ _ _ (by rw[z.f];simp;omega)) _ (by omega) (by omega),
   bQ z.f z.ff _ (by omega) (by omega),ih]
  have e1:Lf L i=u':=by simp[Lf,hu]
  have e2:Lf L (i+1)=v':=by simp[Lf,hv]
  simp only[AJ,Hg,e1,e2];by_cases c1:a=u'<;>by_cases O:b=v'<;>by_cases Q:a=v'<;>by_cases Z:b=u'<;>simp[c1,O,Q,Z,eq_comm]<;>omega
structure Sg(x:Be)(n:Nat)(p q:Int)(L:List Int):Prop where
 pos:0<L.length
 inb: ∀y∈L,0<=y/\y<n
 hd:L[0]? =some p
 lst:L[L.length - 1]? =some q
 nd: ∀i j,i<L.length->j<L.length->Lf L i=Lf L j->i=j
 free: ∀i,i+1<L.length->Vc x (L[i]?.getD 0) (L[i+1]?.getD 0)=true
def UL{x:Be}{n:Nat}{p q:Int}(an:0<=p)(ao:p<n)(a8:0<=q)(a9:q<n)(am:Co x n p q≠[]):Sg x n p q (Co x n p q):=by
 have Z:Gz x n p (B4 x n p):=QA an ao n;have ax:=Z.len;obtain⟨y,hy⟩: ∃y,(B4 x n p).1[q.toNat]? =some y:=⟨_,B2 (by omega)⟩;have av: ¬y<0:=by
  intro h;apply am;simp only[Co,hy,AT];rw[Ai h]
 have aq:q∈(B4 x n p).2:=by
  have:=(Z.mem q.toNat y hy).1 (by omega)
  rwa [show (q.toNat:Int)=q by omega] at this
 obtain⟨i,hi⟩:=Vo.1 aq;obtain⟨d,ay,ah,ab⟩:=Qq3 Z hi;have az:=(Cu.1 hi).1;have a0:=wS Z;have au:pT (B4 x n p).1 p q n=d:=Qqr (by omega) ah ab;have hW:Co x n p q=(Ie (B4 x n p).1 q d).reverse:=by
  simp only[Co,hy,AT];rw[Af av,au]
 rw[hW];have O:(Ie (B4 x n p).1 q d).length=d+1:=by simp[Ie]
 have hget: ∀k,k<=d->(Ie (B4 x n p).1 q d).reverse[k]? =some (Dr (B4 x n p).1 q (d - k)):=by
  intro k G;rw[ZeT (by rw[O];omega),O,show d+1 - 1 - k=d - k by omega,Ie,Dt,FN (by omega)];rfl
 have ac: ∀k,k<=d-> ∃j,j+k<=i/\(B4 x n p).2[j]? =some (Dr (B4 x n p).1 q k):=λk G=>oN Z hi k (λj hj=>ab j (by omega))
 have Q: ∀k,k<=d->0<=Dr (B4 x n p).1 q k/\Dr (B4 x n p).1 q k<n:=by
  intro k G;obtain⟨j,_,h2⟩:=ac k G;exact Z.q _ (Bf h2)
 have af: ∀k,k<=d-> ∀e,e<=k-> ∀j j',(B4 x n p).2[j]? =some (Dr (B4 x n p).1 q k)->(B4 x n p).2[j']? =some (Dr (B4 x n p).1 q e)->j+(k - e)<=j':=by
  intro k G e he j j' hj aj;have aw: ∀m,e+m<=d-> ∃j2,j2+m<=j'/\(B4 x n p).2[j2]? =some (Dr (B4 x n p).1 q (e+m)):=by
   intro m;induction m with
   |zero=>intro _;exact⟨j',by omega,aj⟩
   |succ m ih=>
    intro hm;obtain⟨j2,g1,g2⟩:=ih (by omega);have h0:0<j2:=by
     rcases jI j2 with h0|h0
     .subst h0;rw[Z.hd] at g2;exact absurd (AB g2).symm (ab _ (by omega))
     .exact h0
    obtain⟨j3,u,q1,q2,q3,q4⟩:=Z.prev j2 _ g2 h0;refine⟨j3,by omega,?_⟩;rw[show e+(m+1)=e+m+1 by omega,Dr,q3,AT];exact q2
  obtain⟨j2,g1,g2⟩:=aw (k - e) (by omega);rw[show e+(k - e)=k by omega] at g2
  have:=(List.getElem?_inj (Cu.1 hj).1 Z.nd).1 (hj.trans g2.symm)
  omega
 have ad: ∀k e,k<=d->e<k->Dr (B4 x n p).1 q k≠Dr (B4 x n p).1 q e:=by
  intro k e G he ai;obtain⟨j,_,h2⟩:=ac k G
  have:=af k G e (by omega) j j h2 (ai▸h2)
  omega
 have aa: ∀k,k<=d->(Ie (B4 x n p).1 q d).reverse[k]?.getD 0=Dr (B4 x n p).1 q (d - k):=λk G=>by rw[hget k G,AT]
 refine⟨by rw[jD,O];omega,λz hz=> ?_,?_,?_,λk e G he hL=> ?_,λk G=> ?_⟩
 .obtain⟨k,G⟩:=Vo.1 hz;have ak:=(Cu.1 G).1;rw[jD,O] at ak;rw[hget k (by omega)] at G;obtain rfl:=AB G;exact Q _ (by omega)
 .rw[hget 0 (by omega),jO,ah]
 .rw[jD,O,hget (d+1 - 1) (by omega),show d - (d+1 - 1)=0 by omega];rfl
 .rw[jD,O] at G he;simp only[Lf] at hL;rw[aa k (by omega),aa e (by omega)] at hL;have b1:=Q (d - k) (by omega);have b2:=Q (d - e) (by omega);have ag:Dr (B4 x n p).1 q (d - k)=Dr (B4 x n p).1 q (d - e):=by omega
  rcases rN (d - k) (d - e) with h|h|h
  .exact absurd ag.symm (ad _ _ (by omega) h)
  .omega
  .exact absurd ag (ad _ _ (by omega) h)
 .rw[jD,O] at G;rw[aa k (by omega),aa (k+1) (by omega),show d - k=d - (k+1)+1 by omega];exact (NR Z hi (λj hj=>ab j (by omega))).1
def FL(n:Nat)(p q:Int):Nat->Be->Int
 |0,_=>0
 |m+1,x=>if Co x n p q=[] then 0 else FL n p q m (Hh x (Co x n p q) ((Co x n p q).length - 1))+1
def DI(x:Be)(a b:Nat):Int:=GK x.Room a b
def JA(x:Be)(a b:Nat):Int:=GK x.Flow a b
def Qun{x:Be}{n:Nat}(h:Ke x n){p q:Int}(Z:0<=p)(aa:p<n)(ab:p≠q)(ac:0<=q){v:Int}(hf:Q4 (DI x) (JA x) n p.toNat q.toNat v){L:List Int}(z:Sg x n p q L):
 Ke (Hh x L (L.length - 1)) n/\Q4 (DI x) (JA (Hh x L (L.length - 1))) n p.toNat q.toNat (v+1):=by
 have Q:=z.pos;have O: ∀i,i<L.length->(L[i]?.getD 0).toNat=Lf L i/\Lf L i<n:=by
  intro i G;refine⟨rfl,?_⟩;simp only[Lf];rw[B2 G,AT]
  have:=z.inb _ (QJ G)
  omega
 refine⟨vT h z.inb _ (by omega),Oo (m:=L.length - 1) (L:=Lf L) hf (λi j G hj=>z.nd i j (by omega) (by omega)) (λi G=>(O i (by omega)).2) ?_ ?_ (by omega) (by omega) (λi G=> ?_) (λa b _ _=>Qso h z.inb a b _ (by omega))⟩
 .simp only[Lf,z.hd,AT]
 .simp only[Lf,z.lst,AT]
 .exact of_decide_eq_true (z.free i (by omega))
def kO{n:Nat}{p q:Int}(G:0<=p)(O:p<n)(ad:p≠q)(ab:0<=q)(af:q<n): ∀(m:Nat) (x:Be) (v:Int),Ke x n->Q4 (DI x) (JA x) n p.toNat q.toNat v->
 (FL n p q m x=m/\ ∀S:Nat->Bool,S p.toNat=true->S q.toNat=false->v+m<=Ef (DI x) n S)\/(FL n p q m x<m/\ ∃S:Nat->Bool,S p.toNat=true/\S q.toNat=false/\Ef (DI x) n S=v+FL n p q m x)
 |0,x,v,h,hf=> .inl ⟨rfl,λS h1 Z=>by have:=Qw8 hf (by omega) h1 Z;simpa using this⟩
 |m+1,x,v,h,hf=>by
  by_cases Q:Co x n p q=[]
  .refine .inr ?_;have e:FL n p q (m+1) x=0:=by simp only[FL];rw[Ai Q]
   rw[e];refine⟨by omega,λu=>decide (0<=(B4 x n p).1[u]?.getD (-1)),?_,?_,?_⟩
   .have:=(QA (x:=x) G O n).pp
    simp only[B4,this,AT,Cy];exact G
   .have aa:=(QA (x:=x) G O n).len;obtain⟨y,hy⟩: ∃y,(B4 x n p).1[q.toNat]? =some y:=⟨_,B2 (by simp only[B4];omega)⟩;simp only[hy,AT,J3];intro h0;simp only[Co,hy,AT] at Q;rw[Af (by omega)] at Q;simp[Ie] at Q
   .have:=Qxp (S:=λu=>decide (0<=(B4 x n p).1[u]?.getD (-1))) hf (by omega) ?_ ?_ ?_
    .omega
    .have:=(QA (x:=x) G O n).pp
     simp only[B4,this,AT,Cy];exact G
    .have aa:=(QA (x:=x) G O n).len;obtain⟨y,hy⟩: ∃y,(B4 x n p).1[q.toNat]? =some y:=⟨_,B2 (by simp only[B4];omega)⟩;simp only[hy,AT,J3];intro h0;simp only[Co,hy,AT] at Q;rw[Af (by omega)] at Q;simp[Ie] at Q
    .intro u w hu ah h1 Z;simp only[Cy,J3] at h1 Z;have aa:=(QA (x:=x) G O n).len;obtain⟨y,hy⟩: ∃y,(B4 x n p).1[u]? =some y:=⟨_,B2 (by simp only[B4];omega)⟩;rw[hy,AT] at h1;by_cases ac:Vc x u w=true
     .obtain⟨z,g1,g2⟩:=Qww x G O hy h1 ah ac;rw[g1,AT] at Z;omega
     .have h3: ¬(yI x u w<xZ x u w):=λh=>ac (Vl h)
      rw[Om,OO,Bj,Bj] at h3;simp only[DI,JA];omega
  .have hW:=UL G O ab af Q;obtain⟨g1,g2⟩:=Qun h G O ad ab hf hW;have ag:DI (Hh x (Co x n p q) ((Co x n p q).length - 1))=DI x:=by funext a b;simp only[DI,Ql3]
   rw[<-ag] at g2;have ih:=kO G O ad ab af m _ _ g1 g2;rw[ag] at ih;have e:FL n p q (m+1) x=FL n p q m (Hh x (Co x n p q) ((Co x n p q).length - 1))+1:=by simp only[FL];rw[Af Q]
   rw[e];rcases ih with ⟨h1,Z⟩|⟨h1,S,Z,h3,h4⟩
   .exact .inl ⟨by omega,λS hS hT=>by have:=Z S hS hT;omega⟩
   .exact .inr ⟨by omega,S,Z,h3,by omega⟩
def K8(n:Nat):Be:=⟨List.replicate n (List.replicate n 0),List.replicate n (List.replicate n 0)⟩
def Ko(x:Be)(b:Ag):Be:=⟨KZ (KZ x.Room b.A b.B b.Strength) b.B b.A b.Strength,x.Flow⟩
def BT(n:Nat)(bs:List Ag):Nat->Be
 |0=>K8 n
 |k+1=>match bs[k]? with
  |some b=>Ko (BT n bs k) b
  |none=>BT n bs k
def D2(n:Nat)(bs:List Ag):Be:=BT n bs bs.length
def Wi{n:Nat}{bs:List Ag}(Q:KW n bs): ∀k,Ke (BT n bs k) n/\(BT n bs k).Flow=List.replicate n (List.replicate n 0)
 |0=>⟨⟨by simp[BT,K8],by simp[BT,K8],λl O=>by rw[NJ O];simp,λl O=>by rw[NJ O];simp⟩,rfl⟩
 |k+1=>by
  obtain⟨ih,z⟩:=Wi Q k;simp only[BT];split
  .rename_i b G;obtain⟨b1,b2,b3,b4⟩:=Q b (Bf G);refine⟨⟨by simp only[Ko,YA];exact ih.r,ih.f,?_,ih.ff⟩,z⟩;exact Y7 (Y7 ih.rr _ _ _ (by rw[ih.r];omega)) _ _ _ (by rw[YA,ih.r];omega)
  .exact⟨ih,z⟩
def C8(S:Nat->Bool):List Ag->Int
 |[]=>0
 |b::r=>(if S b.A.toNat=S b.B.toNat then 0 else b.Strength)+C8 S r
def lJ(S:Nat->Bool): ∀(a b:List Ag),C8 S (a++b)=C8 S a+C8 S b
 |[],b=>by simp[C8]
 |x::r,b=>by simp only[BG,C8,lJ S r b];omega
def Yn(n u v:Nat)(Z:u<n)(hv:v<n)(c:Int)(g:Nat->Nat->Bool):AJ (λa=>AJ (λb=>if g a b=true then (if a=u/\b=v then c else 0) else 0) n) n=if g u v=true then c else 0:=by
 have O:AJ (λa=>AJ (λb=>if g a b=true then (if a=u/\b=v then c else 0) else 0) n) n=AJ (λa=>if a=u then (if g u v=true then c else 0) else 0) n:=by
  refine Fu λa _=> ?_
  by_cases z:a=u
  .subst z;rw[Ai rfl];have Q:AJ (λb=>if g a b=true then (if a=a/\b=v then c else 0) else 0) n=AJ (λb=>if b=v then (if g a v=true then c else 0) else 0) n:=by
    refine Fu λb _=> ?_
    by_cases G:b=v
    .subst G;simp
    .simp[G]
   rw[Q,Wc,Ai hv]
  .rw[Af z];refine (Fu λb _=> ?_).trans (Qr n);simp[z]
 rw[O,Wc,Ai Z]
def Qnz{l:List (List Int)}{n:Nat}(Z:l.length=n)(h: ∀r∈l,r.length=n){u v:Nat}(d:Int)(G:u<n)(O:v<n)(S:Nat->Bool):
 Ef (λa b=>GK (KZ l u v d) a b) n S=Ef (λa b=>GK l a b) n S+if S u=true/\S v=false then d else 0:=by
 have z:AJ (λa=>AJ (λb=>if (S a && !S b)=true then (if a=u/\b=v then d else 0) else 0) n) n=if (S u && !S v)=true then d else 0:=Yn n u v G O d (λa b=>S a && !S b)
 have Q:(if (S u && !S v)=true then d else 0)=if S u=true/\S v=false then d else 0:=by
  cases S u<;>cases S v<;>simp
 rw[Q] at z;rw[<-z,Ef,Ef,<-Qt];refine Fu λa _=> ?_
 rw[<-Qt];refine Fu λb _=> ?_
 rw[bQ Z h d G O a b];cases S a<;>cases S b<;>simp
def Lz{n:Nat}{bs:List Ag}(G:KW n bs)(S:Nat->Bool): ∀k,k<=bs.length->Ef (DI (BT n bs k)) n S=C8 S (bs.take k)
 |0,_=>by
  simp only[Eo,C8,Ef];refine (Fu λu Z=> ?_).trans (Qr n);refine (Fu λw hw=> ?_).trans (Qr n)
  have:DI (BT n bs 0) u w=0:=by
   simp only[DI,BT,K8,GK];rw[Lh,Ai Z,AT,Lh,Ai hw,AT]
  rw[this];split<;>rfl
 |k+1,Q=>by
  obtain⟨b,hbk⟩: ∃b,bs[k]? =some b:=⟨_,B2 Q⟩;have ih:=Lz G S k (by omega);obtain⟨z,_⟩:=Wi G k;obtain⟨b1,b2,b3,b4⟩:=G b (Bf hbk);have e:bs.take (k+1)=bs.take k++[b]:=by rw[IA,hbk];rfl
  rw[e,lJ,<-ih];have O:DI (BT n bs (k+1))=λx y=>GK (KZ (KZ (BT n bs k).Room (b.A.toNat:Int) (b.B.toNat:Int) b.Strength) (b.B.toNat:Int) (b.A.toNat:Int) b.Strength) x y:=by
   funext x y;simp only[DI,BT,hbk,Ko];rw[show ((b.A.toNat:Nat):Int)=b.A by omega,show ((b.B.toNat:Nat):Int)=b.B by omega]
  rw[O,Qnz (by rw[YA];exact z.r) (Y7 z.rr _ _ _ (by rw[z.r];simp;omega)) _ (by omega) (by omega),Qnz z.r z.rr _ (by omega) (by omega)];simp only[C8]
  have:Ef (λa b=>GK (BT n bs k).Room a b) n S=Ef (DI (BT n bs k)) n S:=rfl
  rw[this];cases S b.A.toNat<;>cases S b.B.toNat<;>simp<;>omega
def Rr{n:Nat}{bs:List Ag}(z:KW n bs)(S:Nat->Bool):Ef (DI (D2 n bs)) n S=C8 S bs:=by
 rw[D2,Lz z S _ (AP _),IB]
def Qpz{n:Nat}{bs:List Ag}(G:KW n bs)(hs:P8 bs)(a b:Nat): ∀k,0<=DI (BT n bs k) a b
 |0=>by
  simp only[DI,BT,K8,GK,Lh];split
  .rw[AT,Lh];split<;>simp
  .simp
 |k+1=>by
  have ih:=Qpz G hs a b k;obtain⟨z,_⟩:=Wi G k;simp only[DI,BT] at ih⊢;split
  .rename_i x O;obtain⟨b1,b2,b3,b4⟩:=G x (Bf O);have h0:=(hs x (Bf O)).1;simp only[Ko];rw[show x.A=(x.A.toNat:Int) by omega,show x.B=(x.B.toNat:Int) by omega];rw[bQ (n:=n) (by rw[YA];exact z.r) (Y7 z.rr _ _ _ (by rw[z.r];simp;omega)) _ (by omega) (by omega),bQ z.r z.rr _ (by omega) (by omega)]
   split<;>split<;>omega
  .exact ih
def kX{n:Nat}{bs:List Ag}(G:KW n bs)(hs:P8 bs)(p q:Nat):Q4 (DI (D2 n bs)) (JA (D2 n bs)) n p q 0:=by
 have z: ∀a b,JA (D2 n bs) a b=0:=by
  intro a b;simp only[JA,D2,(Wi G bs.length).2,GK,Lh];split
  .rw[AT,Lh];split<;>simp
  .simp
 refine⟨λu w _ _=>by rw[z,z];rfl,λu w _ _=> ?_,λu _ _ _=>(Fu λi _=>z u i).trans (Qr n),(Fu λi _=>z p i).trans (Qr n)⟩;rw[z];exact Qpz G hs u w bs.length
def Wl(n:Nat)(bs:List Ag)(t:Int)(k:Nat):Prop:= ∀S:Nat->Bool,S 0=true->(∃y,0<y/\y<=k/\y<n/\S y=false)->t<=C8 S bs
def Q8(n:Nat)(bs:List Ag)(t:Int):Nat->Bool
 |0=>true
 |k+1=>Q8 n bs t k && decide (t<=FL n 0 ((k:Int)+1) t.toNat (D2 n bs))
def Qtt{n:Nat}{bs:List Ag}(O:KW n bs)(hs:P8 bs){t:Int}(ht:0<=t): ∀k,k<n->(Q8 n bs t k=true↔Wl n bs t k)
 |0,_=>by
  simp only[Q8,true_iff];rintro S _ ⟨y,h1,z,_⟩;omega
 |k+1,hk=>by
  have ih:=Qtt O hs ht k (by omega);have hl:=kO (n:=n) (p:=0) (q:=(k:Int)+1) (by omega) (by omega) (by omega) (by omega) (by omega) t.toNat (D2 n bs) 0 (Wi O bs.length).1 (kX O hs _ _);simp only[Int.toNat_zero,show ((k:Int)+1).toNat=k+1 by omega,Int.zero_add,Rr O] at hl;simp only[Q8,AW,Cy,ih];rcases hl with ⟨h1,z⟩|⟨h1,S,z,h3,h4⟩
  .constructor
   .rintro⟨g1,g2⟩ S G ⟨y,Z,y2,y3,Q⟩;by_cases hy:y<=k
    .exact g1 S G ⟨y,Z,hy,y3,Q⟩
    .have:=z S G (by rw[show k+1=y by omega];exact Q)
     omega
   .intro h;exact⟨λS G ⟨y,Z,y2,y3,Q⟩=>h S G ⟨y,Z,by omega,y3,Q⟩,by omega⟩
  .constructor
   .rintro⟨_,g2⟩;omega
   .intro h
    have:=h S z ⟨k+1,by omega,by omega,hk,h3⟩
    omega
def Qt7{n:Bc}(hn:Di n)(hc:I6 n){q:Int}{st qu:List Int}(G:st.length=n.Cnt.toNat)(hP:FD n q (st,qu)){p:Int}(O:0<=p)(Q:p<n.Cnt){d:Nat}(hd:st[p.toNat]? =some (d:Int))(w:Int):
 ∀k,k<=d->CW (BP n st p k).1 w=CW n w+(if p=w then 1 else 0) - (if (BP n st p k).2=w then 1 else 0)
 |0,_=>by simp only[BP];omega
 |k+1,hk=>by
  have ih:=Qt7 hn hc G hP O Q hd w k (by omega);have hI:=iF hn hc G hP O Q hd k (by omega);obtain⟨m,r,hm,hr,hg,Z,ad⟩:=vD hn G hP (by omega) hI;have ac:(BP n st p k).1.At[m]? =some r:=by rw[hI.at_];exact hr
  have e:(BP n st p (k+1)).1=Ib (BP n st p k).1 m (GL (BP n st p k).1 st m).2:=by simp only[BP,hm]
  have e2:(BP n st p (k+1)).2=(GL (BP n st p k).1 st m).1:=by simp only[BP,hm]
  rw[e,e2,Qzc hI.ok ac hg.1,hg.2.2.1,ih,hm];have aa:=hg.2.2.2.1;rw[Bj,Z,AT] at aa;have ab:(m:Int)≠(GL (BP n st p k).1 st m).1:=by
   intro he;rw[<-he,Bj,Z,AT] at aa;omega
  obtain⟨z,hz⟩: ∃z,z=(GL (BP n st p k).1 st m).1:=⟨_,rfl⟩;rw[<-hz] at ab⊢;by_cases c1:p=w<;>by_cases c2:(m:Int)=w<;>by_cases c3:z=w<;>simp only[c1,c2,c3,B5,CA]<;>omega
def Ns(n:Bc)(p q:Int):Prop:= ∀w,w≠p->w≠q->CW n w=0
def Ow{n:Bc}(hn:Di n)(hc:I6 n){p q:Int}(G:0<=p)(O:p<n.Cnt)(Q:0<=q)(Z:q<n.Cnt)(hg:(Fb n p q).2=true)(aa:Ns n p q):Ns (Fb n p q).1 p q:=by
 have z:=nP hn Q Z;have hP:FD n q (Fa n q,(Ct n q n.Cnt.toNat).2):=Nv hn Q Z n.Cnt.toNat;obtain⟨x,hx⟩: ∃x,(Fa n q)[p.toNat]? =some x:=⟨_,B2 (by omega)⟩;intro w h1 h2;simp only[Fb,hx,AT] at hg⊢;by_cases h:x<0
 .rw[Ai h] at hg;simp at hg
 .obtain⟨d,rfl⟩: ∃d:Nat,x=d:=⟨x.toNat,by omega⟩;rw[Af h,Bj];have hI:=iF hn hc z hP G O hx d (AP _);obtain⟨m,hm,ac,ab⟩:=hI.v;have ad:m=q.toNat:=hP.uniq m (by rw[ab];congr 1;omega);have ho:=Qt7 hn hc z hP G O hx w d (AP _);rw[Af (Fz h1),hm,Af (by omega),aa w h1 h2] at ho;simpa using ho
def Que{p q:Int}(z:0<=p)(G:0<=q)(aa:p≠q): ∀(m:Nat) (n:Bc),Di n->I6 n->p<n.Cnt->q<n.Cnt->Ns n p q->Di (GA p q m n).1/\I6 (GA p q m n).1/\(GA p q m n).1.Cnt=n.Cnt/\(GA p q m n).1.Bonds=n.Bonds/\
 (GA p q m n).1.At=n.At/\Ns (GA p q m n).1 p q/\CW (GA p q m n).1 p=CW n p+(GA p q m n).2/\0<=(GA p q m n).2/\((GA p q m n).2=m\/(Fb (GA p q m n).1 p q).2=false)
 |0,n,O,Q,_,_,h5=>⟨O,Q,rfl,rfl,rfl,h5,by simp[GA],by simp[GA],.inl (by simp[GA])⟩
 |m+1,n,O,Q,h3,h4,h5=>by
  simp only[GA];by_cases Z:(Fb n p q).2=true
  .rw[Ai Z];obtain⟨g1,g2,g3,g4,g5,g6⟩:=LH O Q z h3 G h4 aa Z;have g7:=Ow O Q z h3 G h4 Z h5;obtain⟨k1,k2,k3,k4,k5,k6,k7,k8,k9⟩:=Que z G aa m _ g1 g2 (by omega) (by omega) g7;refine⟨k1,k2,k3.trans g3,k4.trans g4,k5.trans g5,k6,by simp only;omega,by simp only;omega,?_⟩;rcases k9 with h|h
   .exact .inl (by simp only;omega)
   .exact .inr h
  .rw[Af Z];exact⟨O,Q,rfl,rfl,rfl,h5,by simp,by simp,.inr (by simpa using Z)⟩
def Qu0{n:Int}{bs:List Ag}(h:YI (n,bs))(hs:P8 bs){p q:Int}(z:0<=p)(Q:0<=q)(G:p<n)(Z:q<n)(O:p≠q):Di (DR n bs p q).1/\I6 (DR n bs p q).1/\(DR n bs p q).1.Cnt=n/\(DR n bs p q).1.Bonds=bs/\
 (DR n bs p q).1.At=(CO n bs).At/\Ns (DR n bs p q).1 p q/\CW (DR n bs p q).1 p=(DR n bs p q).2/\0<=(DR n bs p q).2/\(Fb (DR n bs p q).1 p q).2=false:=by
 obtain⟨h1,h2⟩:=Mh h hs;obtain⟨k1,k2,k3,k4,k5,k6,k7,k8,k9⟩:=Que z Q O ((bs.map Ag.Strength).sum.toNat+1) (CO n bs) h1 h2 G Z (λw _ _=>Qtg w);rw[Qtg,Int.zero_add] at k7;refine⟨k1,k2,k3,k4,k5,k6,k7,k8,?_⟩;rcases k9 with h9|h9
 .exfalso;have h4:(GA p q ((bs.map Ag.Strength).sum.toNat+1) (CO n bs)).1.Bonds=bs:=k4
  have:=Tc k1 k2 p
  rw[h4] at this;omega
 .exact h9
def lK{n:Bc}(hn:Di n){v:Nat}{r:List Int}(hr:n.At[v]? =some r){y:Int}(Q:0<=y): ∀(l:List Int) (s:List Int×List Int),(∀i∈l,i∈r)->Wm n s->s.1[v]? =some y-> ∀i∈l,0<(Db n (Dq n v i) i).1-> ∃z,(l.foldl (B8 n v) s).1[(Dq n v i).toNat]? =some z/\0<=z
 |[],s,_,_,_,i,G,_=>by cases G
 |j::l,s,hl,hs,hv,i,G,O=>by
  have Z:=hl j (BQ ..);rcases Bt.1 G with rfl|G
  .obtain⟨_,_,o1,o2⟩:=cI hn hr Z;obtain⟨z,hz⟩: ∃z,s.1[(Dq n v i).toNat]? =some z:=⟨_,B2 (by rw[hs.len];omega)⟩;have aa: ∃z,(B8 n v s i).1[(Dq n v i).toNat]? =some z/\0<=z:=by
    by_cases h0:0<=z
    .exact⟨z,nR n v s i _ z hz h0,h0⟩
    .refine⟨y+1,?_,by omega⟩;simp only[B8];rw[Ai ⟨by rw[hz,AT];omega,O⟩,Bj,hv,AT];exact DC (by rw[hs.len];omega)
   obtain⟨z',g1,g2⟩:=aa;exact⟨z',Qor n v _ z' g2 l _ g1,g2⟩
  .exact lK hn hr Q l _ (λj Z=>hl j (BK _ Z)) (Qtm hn hr Z hs) (nR n v s j v y hv Q) i G O
def Qzj(n:Bc)(v:Int): ∀(l:List Int) (s:List Int×List Int),∃e,(l.foldl (B8 n v) s).2=s.2++e
 |[],s=>⟨[],by simp⟩
 |i::l,s=>by
  obtain⟨e,z⟩:=Qzj n v l (B8 n v s i);simp only[Zi,z];simp only[B8];split
  .exact⟨[Dq n v i]++e,by simp⟩
  .exact⟨e,rfl⟩
def WC(n:Bc)(q:Int)(k:Nat): ∃e,(Ct n q (k+1)).2=(Ct n q k).2++e:=by
 rw[Ct];split
 .exact⟨[],by simp⟩
 .exact Qzj n _ _ _
def NU(n:Bc)(q:Int)(u:Nat)(y:Int)(h0:0<=y)(k:Nat)(h:(Ct n q k).1[u]? =some y):(Ct n q (k+1)).1[u]? =some y:=by
 rw[Ct];split
 .exact h
 .exact Qor n _ u y h0 _ _ h
def Qzn{n:Bc}(hn:Di n){q:Int}(h0:0<=q)(Z:q<n.Cnt): ∀(k j:Nat) (v:Int),j<k->(Ct n q k).2[j]? =some v-> ∀(r:List Int),n.At[v.toNat]? =some r-> ∀i∈r,0<(Db n (Dq n v i) i).1-> ∃z,(Ct n q k).1[(Dq n v i).toNat]? =some z/\0<=z
 |0,j,v,hj,_,_,_,_,_,_=>by omega
 |k+1,j,v,hj,G,r,Q,i,hi,O=>by
  obtain⟨e,he⟩:=WC n q k;by_cases ac:j<(Ct n q k).2.length
  .rw[he,H6 ac] at G;by_cases ab:j<k
   .obtain⟨z,g1,g2⟩:=Qzn hn h0 Z k j v ab G r Q i hi O;exact⟨z,NU n q _ z g2 k g1,g2⟩
   .have:j=k:=by omega
    subst this;have hI:=Wg hn h0 Z j;have aa:=Nv hn h0 Z j;have af:=hI.q v (Bf G);obtain⟨m,rfl⟩: ∃m:Nat,v=m:=⟨v.toNat,by omega⟩;obtain⟨y,hy,ad⟩:=aa.qs _ (Bf G);rw[Bj] at hy Q;rw[Ct,G];simp only[Bj,Q,AT];exact lK hn Q ad r _ (λ_ h=>h) hI hy i hi O
  .have e1:Ct n q (k+1)=Ct n q k:=by rw[Ct,HB (by omega)]
   rw[e1] at G
   have:=(Cu.1 G).1
   omega
def QZ{n:Bc}(hn:Di n){q:Int}(h0:0<=q)(h1:q<n.Cnt): ∀(k u:Nat) (y:Int),(Ct n q k).1[u]? =some y->0<=y->(u:Int)∈(Ct n q k).2
 |0,u,y,z,G=>by
  have hq:q.toNat<n.Cnt.toNat:=by omega
  simp only[Ct] at z⊢;by_cases h:q.toNat=u
  .rw[BL];omega
  .rw[DL h] at z
   have:=NJ (Bf z)
   omega
 |k+1,u,y,z,G=>by
  have ih:=QZ hn h0 h1 k;have hI:=Wg hn h0 h1 k;have O: ∀(v:Int) (l:List Int) (s:List Int×List Int),(∀i∈l,0<=Dq n v i)->(∀(u:Nat) (y:Int),s.1[u]? =some y->0<=y->(u:Int)∈s.2)-> ∀(u:Nat) (y:Int),(l.foldl (B8 n v) s).1[u]? =some y->0<=y->(u:Int)∈(l.foldl (B8 n v) s).2:=by
   intro v l;induction l with
   |nil=>intro s _ Q;exact Q
   |cons i l aa=>
    intro s hl Q;refine aa _ (λj hj=>hl j (BK _ hj)) ?_;intro u y z G;have ho:=hl i (BQ ..);simp only[B8] at z⊢;split at z
    .rename_i Z;rw[Ai Z];simp only[Bz,BL] at z⊢;by_cases he:(Dq n v i).toNat=u
     .right;omega
     .rw[DL he] at z;exact .inl (Q u y z G)
    .rename_i Z;rw[Af Z];exact Q u y z G
  rw[Ct] at z⊢;split at z
  .exact ih u y z G
  .rename_i v hv;have ab:=hI.q v (Bf hv);obtain⟨m,rfl⟩: ∃m:Nat,v=m:=⟨v.toNat,by omega⟩;obtain⟨r,hr⟩: ∃r,n.At[m]? =some r:=⟨_,B2 (by have:=hn.al;omega)⟩;simp only[Bj,hr,AT] at z⊢;exact O m r _ (λi hi=>(cI hn hr hi).2.2.1) ih u y z G
def Qmo{n:Bc}(hn:Di n){q:Int}(h0:0<=q)(G:q<n.Cnt){v:Nat}{y:Int}(hv:(Fa n q)[v]? =some y)(hy:0<=y){r:List Int}(hr:n.At[v]? =some r){i:Int}(Z:i∈r)(O:0<(Db n (Dq n v i) i).1):
 ∃z,(Fa n q)[(Dq n v i).toNat]? =some z/\0<=z:=by
 have hm:=QZ hn h0 G n.Cnt.toNat v y hv hy;obtain⟨j,Q⟩:=Vo.1 hm;have aa:=(Cu.1 Q).1;have ab:=vL hn.c0 (Wg hn h0 G n.Cnt.toNat);exact Qzn hn h0 G n.Cnt.toNat j v (by omega) Q r (by rwa [Bj]) i Z O
def XD(n:Bc)(S:Nat->Bool):Int:=(List.zipWith (λb f=>(if S b.A.toNat=true then f else 0) - (if S b.B.toNat=true then f else 0)) n.Bonds n.Flow).sum
def lO(S:Nat->Bool)(m:Nat): ∀(bs:List Ag) (z:List Int),(∀b∈bs,0<=b.A/\b.A<m/\0<=b.B/\b.B<m/\b.A≠b.B)->
 AJ (λv=>if S v=true then (List.zipWith (J8 (v:Int)) bs z).sum else 0) m=(List.zipWith (λb f=>(if S b.A.toNat=true then f else 0) - (if S b.B.toNat=true then f else 0)) bs z).sum
 |[],z,_=>by
  simp only[List.zipWith_nil_left,zF];refine (Fu λi _=> ?_).trans (Qr m)
  split<;>rfl
 |b::bs,[],_=>by
  simp only[ZdQ,zF];refine (Fu λi _=> ?_).trans (Qr m)
  split<;>rfl
 |b::bs,f::z,h=>by
  have ih:=lO S m bs z (λx O=>h x (BK _ O));obtain⟨b1,b2,b3,b4,b5⟩:=h b (BQ ..);simp only[dQ,Kl];rw[<-ih];have e:AJ (λv=>if S v=true then J8 (v:Int) b f+(List.zipWith (J8 (v:Int)) bs z).sum else 0) m=
   (AJ (λv=>if v=b.A.toNat then (if S b.A.toNat=true then f else 0) else 0) m+ - AJ (λv=>if v=b.B.toNat then (if S b.B.toNat=true then f else 0) else 0) m)+AJ (λv=>if S v=true then (List.zipWith (J8 (v:Int)) bs z).sum else 0) m:=by
   rw[<-oJ,<-Qt,<-Qt];refine Fu λv _=> ?_
   simp only[J8];by_cases c1:v=b.A.toNat
   .have G: ¬v=b.B.toNat:=by omega
    rw[Ai (show b.A=(v:Int) by omega),Ai c1,Af G,<-c1];cases S v<;>simp
   .rw[Af (show ¬b.A=(v:Int) by omega),Af c1];by_cases G:v=b.B.toNat
    .rw[Ai (show b.B=(v:Int) by omega),Ai G,<-G];cases S v<;>simp
    .rw[Af (show ¬b.B=(v:Int) by omega),Af G];cases S v<;>simp
  rw[e,Wc,Wc,Ai (show b.A.toNat<m by omega),Ai (show b.B.toNat<m by omega)];omega
def Ms{n:Bc}(hn:Di n){p q:Int}(aa:0<=p)(ab:p<n.Cnt)(G:Ns n p q){S:Nat->Bool}(hS:S p.toNat=true)(hT:S q.toNat=false)(ac:0<=q):XD n S=CW n p:=by
 have Q:=lO S n.Cnt.toNat n.Bonds n.Flow (λb O=>by
  have:=hn.bs b O
  have:=hn.ne b O
  omega)
 rw[XD,<-Q];have Z:AJ (λv=>if S v=true then (List.zipWith (J8 (v:Int)) n.Bonds n.Flow).sum else 0) n.Cnt.toNat=AJ (λv=>if v=p.toNat then CW n p else 0) n.Cnt.toNat:=by
  refine Fu λv hv=> ?_
  by_cases z:v=p.toNat
  .subst z;rw[Ai rfl,Ai hS,show ((p.toNat:Nat):Int)=p by omega];rfl
  .rw[Af z];cases hSv:S v with
   |false=>rw[Af (by simp)]
   |true=>
    rw[Ai rfl];have ad:v≠q.toNat:=λhe=>by rw[he,hT] at hSv;cases hSv
    exact G v (by omega) (by omega)
 rw[Z,Wc,Ai (by omega)]
def Qw5(S:Nat->Bool): ∀(bs:List Ag) (O:List Int),(∀(i:Nat) b f,bs[i]? =some b->O[i]? =some f-> -b.Strength<=f/\f<=b.Strength)->(∀b∈bs,0<=b.Strength)->(List.zipWith (λb f=>(if S b.A.toNat=true then f else 0) - (if S b.B.toNat=true then f else 0)) bs O).sum<=C8 S bs
 |[],_,_,_=>by simp[C8]
 |x::r,[],_,z=>by
  have Q:=Qw5 S r [] (λi b f _ h=>by simp at h) (λb G=>z b (BK _ G));have h2:=z x (BQ ..);simp only[ZdQ,zF,C8] at Q⊢
  split<;>omega
 |x::r,y::s,Z,z=>by
  have Q:=Qw5 S r s (λi b f h h'=>Z (i+1) b f (by simpa using h) (by simpa using h')) (λb G=>z b (BK _ G));have h3:=Z 0 x y rfl rfl;simp only[dQ,Kl,C8];cases S x.A.toNat<;>cases S x.B.toNat<;>simp<;>omega
def Mr(S:Nat->Bool): ∀(bs:List Ag) (z:List Int),z.length=bs.length->(∀(i:Nat) b f,bs[i]? =some b->z[i]? =some f->(S b.A.toNat=true->S b.B.toNat=false->f=b.Strength)/\(S b.A.toNat=false->S b.B.toNat=true->f= -b.Strength))->(List.zipWith (λb f=>(if S b.A.toNat=true then f else 0) - (if S b.B.toNat=true then f else 0)) bs z).sum=C8 S bs
 |[],_,_,_=>by simp[C8]
 |x::r,[],h,_=>by simp at h
 |x::r,y::s,h,G=>by
  have O:=Mr S r s (by simpa using h) (λi b f h h'=>G (i+1) b f (by simpa using h) (by simpa using h'));obtain⟨Q,Z⟩:=G 0 x y rfl rfl;simp only[dQ,Kl,C8,O];cases hA:S x.A.toNat<;>cases hB:S x.B.toNat<;>simp
  .have:=Z hA hB;omega
  .exact Q hA hB
def RF{n:Int}{bs:List Ag}(h:YI (n,bs))(hs:P8 bs){p q:Int}(Z:0<=p)(G:0<=q)(ad:p<n)(ag:q<n)(af:p≠q):
 0<=(DR n bs p q).2/\(∀S:Nat->Bool,S p.toNat=true->S q.toNat=false->(DR n bs p q).2<=C8 S bs)/\ ∃S:Nat->Bool,S p.toNat=true/\S q.toNat=false/\C8 S bs=(DR n bs p q).2:=by
 obtain⟨k1,k2,k3,k4,k5,k6,k7,k8,k9⟩:=Qu0 h hs Z G ad ag af;obtain⟨N,hN⟩: ∃N,N=(DR n bs p q).1:=⟨_,rfl⟩;obtain⟨val,hval⟩: ∃val,val=(DR n bs p q).2:=⟨_,rfl⟩;simp only[<-hN,<-hval] at k1 k2 k3 k4 k5 k6 k7 k8 k9⊢;refine⟨k8,λS hS hT=> ?_,?_⟩
 .have h1:=Ms k1 Z (by omega) k6 hS hT G;have h2:=Qw5 S N.Bonds N.Flow k2 (λb O=>(k1.st b O).1);rw[k4] at h2;simp only[XD,k4] at h1;omega
 .have ai:=nP k1 G (by omega);obtain⟨x,hx⟩: ∃x,(Fa N q)[p.toNat]? =some x:=⟨_,B2 (by omega)⟩;have ab:x<0:=by
   simp only[Fb,hx,AT] at k9;by_cases h0:x<0
   .exact h0
   .rw[Af h0] at k9;simp at k9
  have Q:=(Nv k1 G (show q<N.Cnt by omega) N.Cnt.toNat).zero;have Q:(Fa N q)[q.toNat]? =some 0:=Q;refine⟨λv=>decide ((Fa N q)[v]?.getD 0<0),by simp only[hx,AT,Cy];exact ab,by simp[Q],?_⟩;have hS:decide ((Fa N q)[p.toNat]?.getD 0<0)=true:=by simp only[hx,AT,Cy];exact ab
  have hT:decide ((Fa N q)[q.toNat]?.getD 0<0)=false:=by simp[Q]
  have h1:=Ms (S:=λv=>decide ((Fa N q)[v]?.getD 0<0)) k1 Z (by omega) k6 hS hT G;have h2:=Mr (λv=>decide ((Fa N q)[v]?.getD 0<0)) N.Bonds N.Flow k1.fl ?_
  .simp only[XD,k4] at h1;rw[k4] at h2;omega
  .intro i b f O hf;have aj:=k1.bs b (Bf O);have ac:=k1.ne b (Bf O);obtain⟨⟨rA,a1,a2⟩,⟨rB,c1,c2⟩⟩:=k1.all i b O;have ah:=k2 i b f O hf;obtain⟨yA,hA⟩: ∃y,(Fa N q)[b.A.toNat]? =some y:=⟨_,B2 (by omega)⟩;obtain⟨yB,hB⟩: ∃y,(Fa N q)[b.B.toNat]? =some y:=⟨_,B2 (by omega)⟩;simp only[hA,hB,AT,Cy,J3];refine⟨λe1 e2=> ?_,λe1 e2=> ?_⟩
   ·
    have ho:Dq N b.B i=b.A:=by simp only[Dq,Bj,O];omega
    have hr:(Db N b.A i).1=b.Strength - f:=by simp only[Db,Bj,O,hf,AT,B5]
    by_cases aa:0<b.Strength - f
    .have:=Qmo k1 G (by omega) (v:=b.B.toNat) hB (by omega) c1 c2 (by rw[show ((b.B.toNat:Nat):Int)=b.B by omega,ho,hr];exact aa)
     rw[show ((b.B.toNat:Nat):Int)=b.B by omega,ho,hA] at this;obtain⟨z,g1,g2⟩:=this
     have:=AB g1
     omega
    .omega
   .have ho:Dq N b.A i=b.B:=by simp only[Dq,Bj,O];omega
    have hr:(Db N b.B i).1=b.Strength+f:=by simp only[Db,Bj,O,hf,AT];rw[Af ac]
    by_cases aa:0<b.Strength+f
    .have:=Qmo k1 G (by omega) (v:=b.A.toNat) hA (by omega) a1 a2 (by rw[show ((b.A.toNat:Nat):Int)=b.A by omega,ho,hr];exact aa)
     rw[show ((b.A.toNat:Nat):Int)=b.A by omega,ho,hB] at this;obtain⟨z,g1,g2⟩:=this
     have:=AB g1
     omega
    .omega
def F7(n:Int)(bs:List Ag):Nat->Int×List Int
 |0=>(-1,[])
 |k+1=>if (F7 n bs k).1<0\/Gj (DR n bs 0 (k+1)).2 (cY (DR n bs 0 (k+1)).1 (k+1)) (F7 n bs k).1 (F7 n bs k).2=true then ((DR n bs 0 (k+1)).2,cY (DR n bs 0 (k+1)).1 (k+1)) else F7 n bs k
def weakC.fv(a:Int×(List Ag)):Int×(List Int):=(λn bs=>F7 n bs (n - 1).toNat) (a.1) (a.2)
def weakC.row:AE:=vK (b2 qI (qS Ag.d_le Ag.c_n)) (r2 rI (rS GH EX)) (λa=>YI (a.1,a.2)/\P8 a.2/\1<=a.1) weakC.fv
def weakC.q:=Bg (R:=weakC.row) rfl
def Ze:=J @weakC.fv.eq_1<|J @l07Before.q<|J @l07Before.fv.eq_1<|J @sideC.q @sideC.fv.eq_1
def weakC.ok:AI 79 weakC.row:=by
 refine vw (tC l07Before.ok (tC flC.ok (tC sideC.ok tN))) Tryz.func79 ?_;intro a Q;simp only[Tryz.f79,Option.getD];simp only[ZZ,simprocAttr,Ab,Ze];obtain⟨O,Z,ac⟩:=Q;have aa:=O.2.1;simp only at aa;obtain⟨n,hn⟩: ∃n:Nat,a.1=n+1:=⟨(a.1 - 1).toNat,by omega⟩;rw[show (a.1 - 1).toNat=n by omega];refine AY.frr ⟨{k:Nat//k<=n},λk=>⟨[(8,.im (.int .i64 ((k.1:Int)+1))),(7,.im (.sl false 1 ((F7 a.1 a.2 k.1).2.map Ak))),(6,.im (.int .i64 (F7 a.1 a.2 k.1).1)),(0,.im (.int .i64 a.1)),(1,.im (.sl false 3 (a.2.map Ag.c)))],[],2⟩,λk=>n - k.1,λk=>⟨by simp[ZG],by simp⟩,⟨⟨0,by simp⟩,[1],[],?_⟩,λk=> ?_⟩
 .simp only[Ar];simp only[ZZ,simprocAttr,Ab,Ze,AS,AR,F7,BD]
  try simp
 obtain⟨k,ab⟩:=k;simp only[ZZ,simprocAttr,Ab,Ze,sub,AO];refine⟨λhk=> ?_,λhk=> ?_⟩
 .refine AL.os (a.1,a.2,0,(k:Int)+1) [] ⟨O,Z,by simp,by simp only;omega,by simp only;omega,by simp only;omega,by simp only;omega⟩ (λj=>by simp[Aj,hget]) rfl rfl ?_ ?_
  .simp only[ZZ,simprocAttr,Ab,Ze,flC.ca,B5]
  .simp only[ZZ,simprocAttr,Ab,Ze,flC.H1,flC.r0,sub,AO];obtain⟨k1,k2,k3,k4,k5,_⟩:=Qu0 (p:=0) (q:=(k:Int)+1) O Z (by omega) (by omega) (by omega) (by omega) (by omega);have G:({Cnt:=a.1,Bonds:=a.2,At:=(CO a.1 a.2).At,Flow:=(flC.net (a.1,a.2,0,(k:Int)+1)).Flow}:Bc)=(DR a.1 a.2 0 ((k:Int)+1)).1:=by
    rw[<-k5];simp only[flC.net]
    conv=>rhs;rw[show (DR a.1 a.2 0 ((k:Int)+1)).1=⟨(DR a.1 a.2 0 ((k:Int)+1)).1.Cnt,(DR a.1 a.2 0 ((k:Int)+1)).1.Bonds,(DR a.1 a.2 0 ((k:Int)+1)).1.At,(DR a.1 a.2 0 ((k:Int)+1)).1.Flow⟩ from rfl]
    rw[k3,k4]
   rw[G];have hw:IntKind.i64.wrap ((k:Int)+1+1)=(k:Int)+1+1:=AA (by omega) (by omega);have z:F7 a.1 a.2 (k+1)=if (F7 a.1 a.2 k).1<0\/Gj (DR a.1 a.2 0 ((k:Int)+1)).2 (cY (DR a.1 a.2 0 ((k:Int)+1)).1 ((k:Int)+1)) (F7 a.1 a.2 k).1 (F7 a.1 a.2 k).2=true then ((DR a.1 a.2 0 ((k:Int)+1)).2,cY (DR a.1 a.2 0 ((k:Int)+1)).1 ((k:Int)+1)) else F7 a.1 a.2 k:=rfl
   refine⟨⟨k1,by omega,by omega⟩,λh0=>⟨λh1=>⟨⟨k+1,by omega⟩,[],[],by simp only;omega,?_⟩,λh1=>⟨⟨k+1,by omega⟩,[],[],by simp only;omega,?_⟩⟩,λh0=>⟨⟨k+1,by omega⟩,[],[],by simp only;omega,?_⟩⟩
   .rw[Ai (.inr h1)] at z;simp only[Ar];simp only[ZZ,simprocAttr,Ab,Ze,AS,AR,z,hw];omega
   .rw[Af (λh=>h.elim h0 h1)] at z;simp only[Ar];simp only[ZZ,simprocAttr,Ab,Ze,AS,AR,z,hw];omega
   .rw[Ai (.inl (Gg.1 h0))] at z;simp only[Ar];simp only[ZZ,simprocAttr,Ab,Ze,AS,AR,z,hw];omega
 .have:k=n:=by omega
  rw[this]
def Qzk{n:Int}{bs:List Ag}(h:YI (n,bs))(hs:P8 bs){t:Int}(ht:0<=t): ∀k:Nat,(k:Int)<n->(0<k->0<=(F7 n bs k).1/\(t<=(F7 n bs k).1↔Wl n.toNat bs t k))
 |0,_=>λh0=>by omega
 |k+1,hk=>λ_=>by
  obtain⟨f1,f2,S,f3,f4,f5⟩:=RF h hs (p:=0) (q:=(k:Int)+1) (by omega) (by omega) (by omega) (by omega) (by omega);simp only[Int.toNat_zero,show ((k:Int)+1).toNat=k+1 by omega] at f2 f3 f4;obtain⟨v,hv⟩: ∃v,v=(DR n bs 0 ((k:Int)+1)).2:=⟨_,rfl⟩;obtain⟨sd,hsd⟩: ∃sd,sd=cY (DR n bs 0 ((k:Int)+1)).1 ((k:Int)+1):=⟨_,rfl⟩;have aa:t<=v↔ ∀S:Nat->Bool,S 0=true->S (k+1)=false->t<=C8 S bs:=by
   constructor
   .intro z S O hT
    have:=f2 S O hT
    omega
   .intro z
    have:=z S f3 f4
    omega
  have Z:Wl n.toNat bs t (k+1)↔Wl n.toNat bs t k/\t<=v:=by
   rw[aa];constructor
   .intro z;exact⟨λS O ⟨y,y1,y2,y3,y4⟩=>z S O ⟨y,y1,by omega,y3,y4⟩,λS O hT=>z S O ⟨k+1,by omega,by omega,by omega,hT⟩⟩
   .rintro⟨z,h2⟩ S O ⟨y,y1,y2,y3,y4⟩;by_cases hy:y<=k
    .exact z S O ⟨y,y1,hy,y3,y4⟩
    .exact h2 S O (by rw[show k+1=y by omega];exact y4)
  rw[Z];simp only[F7,<-hv,<-hsd];by_cases ab:k=0
  .subst ab;rw[Ai (.inl (by simp[F7]))];refine⟨by simp only;omega,?_⟩;simp only;constructor
   .intro z;exact⟨λS _ ⟨y,y1,y2,_,_⟩=>by omega,z⟩
   .exact λz=>z.2
  .obtain⟨i1,i2⟩:=Qzk h hs ht k (by omega) (by omega);rw[<-i2];by_cases G:(F7 n bs k).1<0\/Gj v sd (F7 n bs k).1 (F7 n bs k).2=true
   .rw[Ai G];have ac:v<=(F7 n bs k).1:=by
     rcases G with G|G
     .omega
     .simp only[Gj] at G;split at G
      .omega
      .simp only[Cy] at G;omega
    simp only;exact⟨by omega,by omega,by omega⟩
   .rw[Af G];have ac:(F7 n bs k).1<=v:=by
     have Q: ¬Gj v sd (F7 n bs k).1 (F7 n bs k).2=true:=λh=>G (.inr h)
     simp only[Gj] at Q;split at Q
     .omega
     .simp only[Cy] at Q;omega
    exact⟨i1,by omega,by omega⟩
end Go.Ae
