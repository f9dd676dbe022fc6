/- Lemmas. Conditions: none. -/
import Derived.Test.YtpgdfagfkjbokaaGreatDoorP08
import Derived.Lib.LaidTab
import Derived.Stop.LaidErr
import Derived.Stop.Joined
import Derived.Lay
import Derived.LaidMore
import Derived.LaidOnce
import Derived.OpenVars
import Derived.ChangeVars
import Derived.ChangeSame
set_option linter.all false
set_option maxHeartbeats 8000000
set_option maxRecDepth 100000
namespace Go.Ae
open Go Go.Proofs Go.RowKit Go.ChangeShapes Go.WideShapes
abbrev IH:List (String×DataW Unit):=Go.Proofs.YtpgdfagfkjbokaaGreatDoor.Rows.fnExactRealizeRow.laid
def gP:Tryz.prog.globalNamed "internal/strconv.uint64pow10" =some 0:=by kernel_rfl
def gPt:(Tryz.prog.globals[0]?).map (·.type)=some 307:=by kernel_rfl
def Vj{W:World}{n:String}{g:Nat}{cs:Array Value}(O:Tryz.prog.globalNamed n=some g)(h:W.var? Tryz.prog n=some cs): ∃T z,W.heap[g]? =some (.cells cs T z):=by
 unfold World.var? at h;rw[O] at h;simp only[G7] at h;split at h
 .rename_i c T z e;obtain rfl:=Ay h;exact⟨T,z,e⟩
 .cases h
def XY{W:World}{b:Nat}{o:Obj}(h:W.heap[b]? =some o):b<W.heap.size:=(Od.1 h).1
def Yh{W:World}(h:laidMetH Tryz.prog IH W):GP (λb=>b<W.heap.size) (λb=>W.heap[b]?):=by
 rw[MakeChecks.laidMetH_plain _ _ _ (by kernel_rfl)] at h;have O:Lib.TabIs Tryz.prog W "internal/strconv.uint64pow10" .u64 Lib.pow10Tab:=Lib.tabIs_of_head gP gPt Tryz.underlying307 Tryz.underlying250 (by kernel_rfl) (by kernel_rfl) h.tail.tail;obtain⟨T,z,e⟩:=Vj gP O;exact⟨XY e,T,z,e⟩
def RX(os:Os)(args:Array Value):laidMetH Tryz.prog IH ((World.laidAll Tryz.prog os IH).forCall (λ_ _=>0) ⟨#[],args,[]⟩).memory:=by
 rw[MakeChecks.laidMetH_plain _ _ _ (by kernel_rfl)];exact laidMet_laidAll _ (by kernel_rfl) (by kernel_rfl)
end Go.Ae
namespace Go.Ae
open Go.Proofs
def tq(a k:Int)(Z:1<=k):(a.tmod k<0->a.tdiv k - 1=a/k/\a.tmod k+k=a % k)/\(¬a.tmod k<0->a.tdiv k=a/k/\a.tmod k=a % k):=by
 have O:=wI a (show k≠0 by omega);have Q:=wD a (show 0<k by omega);have z:k.sign=1:=Int.sign_eq_one_of_pos (by omega);rw[Int.tdiv_eq_ediv,Int.tmod_eq_emod]
 split<;>rename_i h
 .omega
 .rw[z];omega
def fq(a k:Int)(Z:1<=k): -((-a+k - 1)/k)=a/k:=by
 have z:=wI a (show k≠0 by omega);have O:=wD a (show 0<k by omega);have Q:=Zee a k
 have:=(Int.ediv_emod_unique (a:= -a+k - 1) (b:=k) (q:= -(a/k)) (r:=k - 1 - a % k) (by omega)).2 ⟨by rw[Int.mul_neg];omega,by omega,by omega⟩
 omega
def bq(a k:Int)(z:1<=k):(0<=a->0<=a/k/\a/k<=a)/\(a<0->a<=a/k/\a/k<0):=by
 refine⟨λh=>⟨Int.ediv_nonneg h (by omega),Int.ediv_le_self k h⟩,λh=>⟨?_,Int.ediv_neg_of_neg_of_pos h (by omega)⟩⟩;refine Int.le_ediv_of_mul_le (by omega) ?_
 have:=Int.mul_le_mul_of_nonpos_left (a:=a) (b:=k) (c:=1) (by omega) (by omega)
 omega
def l26Floor.fv(a:Int×Int):Int×Int:=(λn k=>(n/k,n % k)) (a.1) (a.2)
def l26Floor.row:A7:=vK (b2 qI qI) (r2 rI rI) (λa=> -1000000000<=a.1/\a.1<=1000000000/\1<=a.2/\a.2<=1000000000) l26Floor.fv
def l26Floor.q:=AY (R:=l26Floor.row) rfl
def l26Floor.ok:AC 128 l26Floor.row:=by
 refine vw tN Tryz.func128 ?_;intro a z;simp only[Tryz.f128];simp only[ZA,simprocAttr,l26Floor.fv];obtain⟨h1,h2,h3,h4⟩:=z;have hq:=tq a.1 a.2 h3;have O:=bq a.1 a.2 h3;have hm:=wI a.1 (show a.2≠0 by omega);have aa:=wD a.1 (show 0<a.2 by omega);refine⟨by omega,by omega,?_⟩
 split<;>rename_i h
 .obtain⟨Z,Q⟩:=hq.1 h;have e3:a.1.tdiv a.2=a.1/a.2+1:=by omega
  have hl: -1000000000<=a.1/a.2/\a.1/a.2<=1000000000:=by
   rcases Zfz a.1 0 with h|h
   .have:=O.2 h;omega
   .have:=O.1 h;omega
  rw[e3,Q,AD (x:=a.1/a.2+1) (by omega) (by omega),AD (x:=a.1 % a.2) (by omega) (by omega),AD (by omega) (by omega)];omega
 .obtain⟨Z,Q⟩:=hq.2 h;have hl: -1000000000<=a.1/a.2/\a.1/a.2<=1000000000:=by
   rcases Zfz a.1 0 with h|h
   .have:=O.2 h;omega
   .have:=O.1 h;omega
  rw[Z,Q,AD (by omega) (by omega)];exact⟨rfl,rfl⟩
def floorDiv.fv(a:Int×Int):Int:=(λn k=>n/k) (a.1) (a.2)
def floorDiv.row:A7:=vK (b2 qI qI) rI (λa=> -1000000000<=a.1/\a.1<=1000000000/\1<=a.2/\a.2<=1000000000) floorDiv.fv
def floorDiv.q:=AY (R:=floorDiv.row) rfl
def floorDiv.ok:AC 103 floorDiv.row:=by
 refine vw tN Tryz.func103 ?_;intro a z;simp only[Tryz.f103];simp only[ZA,simprocAttr,floorDiv.fv];obtain⟨h1,h2,O,h4⟩:=z;have Q:=bq a.1 a.2 O
 split<;>rename_i h
 .refine⟨by omega,?_⟩;have Z:=Q.2 h;rw[AD (x:= -a.1) (by omega) (by omega),AD (x:= -a.1+a.2) (by omega) (by omega),AD (x:= -a.1+a.2 - 1) (by omega) (by omega),wB (by omega)];have h6:=fq a.1 a.2 O;rw[AD (x:=(-a.1+a.2 - 1)/a.2) (by omega) (by omega),AD (by omega) (by omega)];exact h6
 .refine⟨by omega,?_⟩;have Z:=Q.1 (by omega);rw[wB (by omega),AD (by omega) (by omega)]
def NU(p:Ac)(k:Int):Ac×Ac:=(⟨p.X/k,p.Y/k⟩,⟨p.X % k,p.Y % k⟩)
def l26Block.fv(a:Ac×Int):Ac×Ac:=(NU) (a.1) (a.2)
def l26Block.row:A7:=vK (b2 (qR Ac.d_le) qI) (r2 (rA Ac.d_le) (rA Ac.d_le)) (λa=>HE a.1/\1<=a.2/\a.2<=1000000000) l26Block.fv
def l26Block.q:=AY (R:=l26Block.row) rfl
def l26Block.ok:AC 84 l26Block.row:=by
 refine vw (tC l26Floor.ok tN) Tryz.func84 ?_;intro a z;simp only[Tryz.f84];simp only[ZA,simprocAttr,l26Block.fv,l26Floor.q,l26Floor.fv];obtain⟨⟨Z,h2,h3,h4⟩,O,Q⟩:=z;exact⟨⟨Z,h2,O,Q⟩,⟨h3,h4,O,Q⟩,rfl⟩
def blockOf.fv(a:Ac×Int):Ac×Ac:=(NU) (a.1) (a.2)
def blockOf.row:A7:=vK (b2 (qR Ac.d_le) qI) (r2 (rA Ac.d_le) (rA Ac.d_le)) (λa=>HE a.1/\1<=a.2/\a.2<=1000000000) blockOf.fv
def blockOf.q:=AY (R:=blockOf.row) rfl
def blockOf.ok:AC 60 blockOf.row:=by
 refine vw (tC floorDiv.ok tN) Tryz.func60 ?_;intro a z;simp only[Tryz.f60];simp only[ZA,simprocAttr,blockOf.fv,floorDiv.q,floorDiv.fv];obtain⟨⟨Z,h2,h3,h4⟩,O,Q⟩:=z;refine⟨⟨Z,h2,O,Q⟩,⟨h3,h4,O,Q⟩,?_⟩;have e1:=Zee a.1.X a.2;have e2:=Zee a.1.Y a.2;have m1:=wI a.1.X (show a.2≠0 by omega);have m2:=wD a.1.X (show 0<a.2 by omega);have m3:=wI a.1.Y (show a.2≠0 by omega);have m4:=wD a.1.Y (show 0<a.2 by omega);rw[AD (x:=a.2*(a.1.X/a.2)) (by omega) (by omega),AD (x:=a.2*(a.1.Y/a.2)) (by omega) (by omega),AD (by omega) (by omega),AD (by omega) (by omega)];simp only[NU,En,Ac.mk.injEq,Xp];omega
def l02Index.fv(a:Az×Int):Bool:=(λs t=>AX t 0 (s.Tiles.length - 1)) (a.1) (a.2)
def l02Index.row:A7:=vK (b2 (qP 2 Az.d_le) qI) rB (λa=>True) l02Index.fv
def l02Index.q:=AY (R:=l02Index.row) rfl
def l02Index.ok:AC 83 l02Index.row:=by
 refine vw (tC l00In.ok tN) Tryz.func83 ?_;intro a z;simp only[Tryz.f83];simp only[ZA,simprocAttr,l02Index.fv,l00In.q,l00In.fv];intro h;rw[AD (by omega) (by omega)]
def isTile.fv(a:Az×Int):Bool:=(λs t=>AX t 0 (s.Tiles.length - 1)) (a.1) (a.2)
def isTile.row:A7:=vK (b2 (qR Az.d_le) qI) rB (λa=>True) isTile.fv
def isTile.q:=AY (R:=isTile.row) rfl
def isTile.ok:AC 31 isTile.row:=by
 refine vw (tC isIndex.ok tN) Tryz.func31 ?_;intro a z;simp only[Tryz.f31];simp only[ZA,simprocAttr,isTile.fv,isIndex.q,isIndex.fv];intro h;simp only[I64];omega
def opposite_.fv(a:Int):Int:=(λd=>(d+2) % 4) a
def opposite_.row:A7:=vK (b1 qI) rI (λa=>0<=a/\a<=3) opposite_.fv
def opposite_.q:=AY (R:=opposite_.row) rfl
def opposite_.ok:AC 147 opposite_.row:=by
 refine vw tN Tryz.func147 ?_;intro a z;simp only[Tryz.f147];simp only[ZA,simprocAttr,opposite_.fv];rw[AD (by omega) (by omega)]
 have:(0:Int)<=a+2:=by omega
 rw[ZdJ this]
def l01Dir.fv(a:Int):Bool:=(λd=>AX d 0 3) a
def l01Dir.row:A7:=vK (b1 qI) rB (λa=>True) l01Dir.fv
def l01Dir.q:=AY (R:=l01Dir.row) rfl
def l01Dir.ok:AC 164 l01Dir.row:=by
 refine vw (tC l00In.ok tN) Tryz.func164 ?_;intro a z;simp only[Tryz.f164];simp only[ZA,simprocAttr,l01Dir.fv,l00In.q,l00In.fv]
def Opposite_.fv(a:Int):Int:=(λd=>(d+2) % 4) a
def Opposite_.row:A7:=vK (b1 qI) rI (λa=>0<=a/\a<=3) Opposite_.fv
def Opposite_.q:=AY (R:=Opposite_.row) rfl
def Opposite_.ok:AC 132 Opposite_.row:=by
 refine vw (tC l01Dir.ok tN) Tryz.func132 ?_;intro a z;simp only[Tryz.f132];simp only[ZA,simprocAttr,Opposite_.fv,l01Dir.q,l01Dir.fv];have h:AX a 0 3=true:=by simp[AX,z]
 rw[h,Af (by simp),AD (by omega) (by omega)]
 have:(0:Int)<=a+2:=by omega
 rw[ZdJ this]
def l07Temperature.fv(a:Int):Bool:=(λt=>AX t 1 16) a
def l07Temperature.row:A7:=vK (b1 qI) rB (λa=>True) l07Temperature.fv
def l07Temperature.q:=AY (R:=l07Temperature.row) rfl
def l07Temperature.ok:AC 126 l07Temperature.row:=by
 refine vw (tC l00In.ok tN) Tryz.func126 ?_;intro a z;simp only[Tryz.f126];simp only[ZA,simprocAttr,l07Temperature.fv,l00In.q,l00In.fv]
def isTemperature.fv(a:Int):Bool:=(λt=>AX t 1 16) a
def isTemperature.row:A7:=vK (b1 qI) rB (λa=>True) isTemperature.fv
def isTemperature.q:=AY (R:=isTemperature.row) rfl
def isTemperature.ok:AC 165 isTemperature.row:=by
 refine vw (tC within_.ok tN) Tryz.func165 ?_;intro a z;simp only[Tryz.f165];simp only[ZA,simprocAttr,isTemperature.fv,within_.q,within_.fv]
def blockSizeOk.fv(a:Int):Bool:=(λt=>AX t 1 4) a
def blockSizeOk.row:A7:=vK (b1 qI) rB (λa=>True) blockSizeOk.fv
def blockSizeOk.q:=AY (R:=blockSizeOk.row) rfl
def blockSizeOk.ok:AC 96 blockSizeOk.row:=by
 refine vw (tC within_.ok tN) Tryz.func96 ?_;intro a z;simp only[Tryz.f96];simp only[ZA,simprocAttr,blockSizeOk.fv,within_.q,within_.fv]
def Ct(s:Az):Prop:=s.Glues.length<=140737488355328/\(∀t∈s.Tiles,t.Sides.length=4/\ ∀g∈t.Sides,0<=g/\g<=s.Glues.length)/\ ∀g∈s.Glues,1<=g.Strength/\g.Strength<=4
def Ku(s:Az)(z O:Int):Int:=((((s.Tiles[z.toNat]?).map Tile.Sides).getD [])[O.toNat]?).getD 0
def Qb(s:Az)(g:Int):Int:=if 0<g then ((s.Glues[(g - 1).toNat]?).map Am.Strength).getD 0 else 0
def Km(s:Az)(a z b:Int):Int:=if Ku s a z=Ku s b ((z+2) % 4) then Qb s (Ku s a z) else 0
def FX(s:Az)(t:Int):Prop:=0<=t/\t<s.Tiles.length
def RW(d:Int):Prop:=0<=d/\d<=3
def fS{s:Az}{t d:Int}{x:Tile}{g:Int}(O:s.Tiles[t.toNat]? =some x)(z:x.Sides[d.toNat]? =some g):Ku s t d=g:=by
 simp[Ku,O,z]
def LS{s:Az}{g:Int}{x:Am}(h:0<g)(z:s.Glues[(g - 1).toNat]? =some x):Qb s g=x.Strength:=by
 simp only[Qb,Ai h,z];rfl
def LU{s:Az}{g:Int}(h: ¬0<g):Qb s g=0:=by
 simp[Qb,h]
def tQ{s:Az}(h:Ct s){t:Int}{x:Tile}(z:s.Tiles[t.toNat]? =some x):x.Sides.length=4:=(h.2.1 x (AZ z)).1
def Qvv{s:Az}(h:Ct s){t d:Int}{x:Tile}{g:Int}(O:s.Tiles[t.toNat]? =some x)(z:x.Sides[d.toNat]? =some g):0<=g/\g<=s.Glues.length:=(h.2.1 x (AZ O)).2 g (AZ z)
def l02Strength.fv(a:Az×Int):Int:=(Qb) (a.1) (a.2)
def l02Strength.row:A7:=vK (b2 (qP 2 Az.d_le) qI) rI (λa=>0<=a.2/\a.2<=a.1.Glues.length/\a.1.Glues.length<=140737488355328) l02Strength.fv
def l02Strength.q:=AY (R:=l02Strength.row) rfl
def l02Strength.ok:AC 133 l02Strength.row:=by
 refine vw tN Tryz.func133 ?_;intro a z;simp only[Tryz.f133];simp only[ZA,simprocAttr,l02Strength.fv];obtain⟨Q,Z,h3⟩:=z
 split<;>rename_i h
 .simp[Qb,h]
 .rw[AD (by omega) (by omega)];exact⟨by omega,by omega,λx O=>(LS (by omega) O).symm⟩
def strength_.fv(a:Az×Int×Int):Int:=(λs t d=>Qb s (Ku s t d)) (a.1) (a.2.1) (a.2.2)
def strength_.row:A7:=vK (b3 (qR Az.d_le) qI qI) rI (λa=>Ct a.1/\FX a.1 a.2.1/\RW a.2.2) strength_.fv
def strength_.q:=AY (R:=strength_.row) rfl
def strength_.ok:AC 148 strength_.row:=by
 refine vw tN Tryz.func148 ?_;intro a z;simp only[Tryz.f148];simp only[ZA,simprocAttr,strength_.fv];obtain⟨O,Z,h3⟩:=z;refine⟨Z.1,Z.2,λx Q=>⟨h3.1,?_,λg hg=> ?_⟩⟩
 .rw[tQ O Q];have:=h3.2;omega
 .have aa:=Qvv O Q hg
  have:=O.1
  rw[fS Q hg]
  split<;>rename_i h
  .rw[AD (by omega) (by omega)];exact⟨by omega,by omega,λy hy=>(LS h hy).symm⟩
  .exact (LU h).symm
def bond_.rc:D->Option (Int):=Ez
def bond_.re:Int->D:=D.int .i64
def bond_.rle: ∀d b,bond_.rc d=some b->Le d (bond_.re b):=Vu
def bond_.fv(a:Az×Int×Int×Int):Int:=(Km) (a.1) (a.2.1) (a.2.2.1) (a.2.2.2)
def bond_.row:A7:=vK (b4 (qR Az.d_le) qI qI qI) (RK.mk bond_.rc bond_.re bond_.rle) (λa=>Ct a.1/\FX a.1 a.2.1/\RW a.2.2.1/\FX a.1 a.2.2.2) bond_.fv
def bond_.q:=AY (R:=bond_.row) rfl
def bond_.ok:AC 108 bond_.row:=by
 refine vw (tC opposite_.ok (tC strength_.ok tN)) Tryz.func108 ?_;intro a O;simp only[Tryz.f108];simp only[ZA,simprocAttr,bond_.fv,bond_.rc,opposite_.q,opposite_.fv,strength_.q,strength_.fv];obtain⟨Q,Z,z,h4⟩:=O;have h5:=z.1;have h6:=z.2;refine⟨Z.1,Z.2,λx hx=>⟨z.1,by rw[tQ Q hx];omega,λg hg=>⟨h4.1,h4.2,λy hy=>⟨z,by omega,by rw[tQ Q hy];omega,λg' aa=> ?_⟩⟩⟩⟩;simp only[Km,fS hx hg,fS hy aa];split
 .exact⟨⟨Q,Z,z⟩,rfl⟩
 .rfl
def l02Bond.fv(a:Az×Int×Int×Int):Int:=(Km) (a.1) (a.2.1) (a.2.2.1) (a.2.2.2)
def l02Bond.row:A7:=vK (b4 (qP 2 Az.d_le) qI qI qI) rI (λa=>Ct a.1/\FX a.1 a.2.1/\RW a.2.2.1/\FX a.1 a.2.2.2) l02Bond.fv
def l02Bond.q:=AY (R:=l02Bond.row) rfl
def l02Bond.ok:AC 130 l02Bond.row:=by
 refine vw (tC Opposite_.ok (tC l02Strength.ok tN)) Tryz.func130 ?_;intro a Q;simp only[Tryz.f130];simp only[ZA,simprocAttr,l02Bond.fv,Opposite_.q,Opposite_.fv,l02Strength.q,l02Strength.fv];obtain⟨z,h2,Z,h4⟩:=Q;have h5:=Z.1;have h6:=Z.2;refine⟨h2.1,h2.2,λx hx=>⟨Z.1,by rw[tQ z hx];omega,λg hg=>⟨h4.1,h4.2,λy hy=>⟨Z,by omega,by rw[tQ z hy];omega,λg' aa=> ?_⟩⟩⟩⟩;have O:=Qvv z hx hg
 have:=z.1
 simp only[Km,fS hx hg,fS hy aa]
 split<;>rename_i h
 .first|rw[Af h]|rfl
 .rw[Ai (Ha.1 h)];exact⟨⟨O.1,O.2,z.1⟩,rfl⟩
def De:Option Ac->List Aj->Bool
 |_,[]=>true
 |q,x::r=>DA x.At && (AX x.Tile 0 159 && ((match q with|none=>true|some p=>Bl p x.At) && De (some x.At) r))
def Vw(q:Option Ac)(x:Aj)(r:List Aj):De q (x::r)=(DA x.At && (AX x.Tile 0 159 && ((match q with|none=>true|some p=>Bl p x.At) && De (some x.At) r))):=by cases q<;>rfl
def Qik(q:Option Ac):De q []=true:=by cases q<;>rfl
def G2(l:List Aj)(k:Nat):Option Ac:=if k=0 then none else (l[k - 1]?).map (·.At)
def Qn2{l:List Aj}{k:Nat}{x:Aj}(z:l[k]? =some x):G2 l (k+1)=some x.At:=by
 simp[G2,z]
def F5{A:Type}{l:List A}{k:Nat}{x:A}(z:l[k]? =some x):l.drop k=x::l.drop (k+1):=by
 have O:k<l.length:=(BW.1 z).1;rw[VF O];rw[Bi O] at z;rw[Ay z]
def hasForm_.fv(a:Ad):Bool:=(λa=>De none a.Tiles && decide (a.Tiles.length<=500)) a
def hasForm_.row:A7:=vK (b1 (qR Ad.d_le)) rB (λa=>True) hasForm_.fv
def hasForm_.q:=AY (R:=hasForm_.row) rfl
def hasForm_.ok:AC 100 hasForm_.row:=by
 refine vw (tC ValidPoint.ok (tC isIndex.ok (tC impl_LessPoint.ok tN))) Tryz.func100 ?_;intro a ab;simp only[Tryz.f100];simp only[ZA,simprocAttr,hasForm_.fv];intro aa;refine AT.old ⟨{k:Nat//k<=a.Tiles.length/\De (G2 a.Tiles k) (a.Tiles.drop k)=De none a.Tiles},λk=>⟨[(8,.im (.int .i64 k.1)),(7,.im (.int .i64 a.Tiles.length)),(6,.im (.sl false 3 (a.Tiles.map Aj.c))),(1,.ptr 0 0),(2,.im (.bool false))],[(0,(true,.cells 49 [.im (.sl false 3 (a.Tiles.map Aj.c))]))],1⟩,λk=>a.Tiles.length - k.1,λk=>⟨by simp[ZG],AL _⟩,⟨⟨0,by simp[G2]⟩,by simp only[ZA,simprocAttr,sub]⟩,λk=> ?_⟩;obtain⟨k,ac,O⟩:=k;simp only[ZA,simprocAttr,ValidPoint.q,ValidPoint.fv,isIndex.q,isIndex.fv,impl_LessPoint.q,impl_LessPoint.fv,sub,AO];refine⟨λhk=>⟨hk,λx hx=> ?_⟩,λhk=> ?_⟩
 .rw[F5 hx,Vw] at O;have Q:(DA x.At && (AX x.Tile 0 159 && (match G2 a.Tiles k with|none=>true|some p=>Bl p x.At)))=false->false=(De none a.Tiles && decide (a.Tiles.length<=500)):=by
   intro h;rw[<-O];revert h;cases DA x.At<;>cases AX x.Tile 0 159<;>cases (match G2 a.Tiles k with|none=>true|some p=>Bl p x.At)<;>simp
  have z:(DA x.At && (AX x.Tile 0 159 && (match G2 a.Tiles k with|none=>true|some p=>Bl p x.At)))=true->De (G2 a.Tiles (k+1)) (a.Tiles.drop (k+1))=De none a.Tiles:=by
   intro h;rw[<-O,Qn2 hx];simp only[AN] at h;simp[h.1,h.2.1,h.2.2]
  refine⟨λZ=>⟨by simp[I64],⟨λh2=>⟨λh3=> ?_,λh3=> ?_⟩,λh2=>Q (by simp[h2])⟩⟩,λZ=>Q (by simp[Z])⟩
  .rw[AD (x:=(k:Int) - 1) (by omega) (by omega)];refine⟨by omega,by omega,λy hy=> ?_⟩;have hp:G2 a.Tiles k=some y.At:=by
    have e:((k:Int) - 1).toNat=k - 1:=by omega
    rw[e] at hy;simp[G2,hy,show k≠0 by omega]
   rw[hp] at Q z;exact⟨λh4=>Q (by simp[h4]),λh4=>GI hk (by omega) ⟨by omega,z (by simp[Z,h2];simpa using h4)⟩⟩
  .have hp:G2 a.Tiles k=none:=by simp[G2,show k=0 by omega]
   rw[hp] at z;exact GI hk (by omega) ⟨by omega,z (by simp[Z,h2])⟩
 .rw[CS (by omega),Qik] at O;simp only[<-O,Eg]
  grind
def l03Form.fv(a:Ad):Bool:=(λa=>De none a.Tiles && decide (a.Tiles.length<=500)) a
def l03Form.row:A7:=vK (b1 (qP 1 Ad.d_le)) rB (λa=>True) l03Form.fv
def l03Form.q:=AY (R:=l03Form.row) rfl
def l03Form.ok:AC 82 l03Form.row:=by
 refine vw (tC l01Point.ok (tC l00In.ok (tC l_LessPoint.ok tN))) Tryz.func82 ?_;intro a ab;simp only[Tryz.f82];simp only[ZA,simprocAttr,l03Form.fv];intro aa;simp only[AO];refine⟨λh=> ?_,λh=> ?_⟩
 .have: ¬a.Tiles.length<=500:=by omega
  simp[this]
 refine AT.old ⟨{k:Nat//k<=a.Tiles.length/\De (G2 a.Tiles k) (a.Tiles.drop k)=De none a.Tiles},λk=>⟨[(3,.im (.int .i64 k.1)),(0,.ptr 0 0),(2,.im (.bool false))],[(0,(false,.view [.sl false 3 (a.Tiles.map Aj.c)]))],1⟩,λk=>a.Tiles.length - k.1,λk=>⟨by simp[ZG],AL _⟩,⟨⟨0,by simp[G2]⟩,by simp only[ZA,simprocAttr,sub]⟩,λk=> ?_⟩;obtain⟨k,ac,O⟩:=k;simp only[ZA,simprocAttr,l01Point.q,l01Point.fv,l00In.q,l00In.fv,l_LessPoint.q,l_LessPoint.fv,sub,AO];intro _;refine⟨λhk=>⟨hk,λx hx=> ?_⟩,λhk=> ?_⟩
 .rw[F5 hx,Vw] at O;have Q:(DA x.At && (AX x.Tile 0 159 && (match G2 a.Tiles k with|none=>true|some p=>Bl p x.At)))=false->false=(De none a.Tiles && decide (a.Tiles.length<=500)):=by
   intro h;rw[<-O];revert h;cases DA x.At<;>cases AX x.Tile 0 159<;>cases (match G2 a.Tiles k with|none=>true|some p=>Bl p x.At)<;>simp
  have z:(DA x.At && (AX x.Tile 0 159 && (match G2 a.Tiles k with|none=>true|some p=>Bl p x.At)))=true->De (G2 a.Tiles (k+1)) (a.Tiles.drop (k+1))=De none a.Tiles:=by
   intro h;rw[<-O,Qn2 hx];simp only[AN] at h;simp[h.1,h.2.1,h.2.2]
  refine⟨λZ=>⟨λh2=>⟨λh3=> ?_,λh3=> ?_⟩,λh2=>Q (by simp[h2])⟩,λZ=>Q (by simp[Z])⟩
  .rw[AD (x:=(k:Int) - 1) (by omega) (by omega)];refine⟨by omega,by omega,λy hy=> ?_⟩;have hp:G2 a.Tiles k=some y.At:=by
    have e:((k:Int) - 1).toNat=k - 1:=by omega
    rw[e] at hy;simp[G2,hy,show k≠0 by omega]
   rw[hp] at Q z;exact⟨λh4=>Q (by simp[h4]),λh4=>GI hk (by omega) ⟨by omega,z (by simp[Z,h2];simpa using h4)⟩⟩
  .have hp:G2 a.Tiles k=none:=by simp[G2,show k=0 by omega]
   rw[hp] at z;exact GI hk (by omega) ⟨by omega,z (by simp[Z,h2])⟩
 .rw[CS (by omega),Qik] at O;simp only[<-O,Eg]
  grind
def JV(a b:Ad):a=b↔a.Tiles=b.Tiles:=by
 obtain⟨x⟩:=a;obtain⟨y⟩:=b;simp
def Qrb(x y:Aj):(x.At.X==y.At.X && (x.At.Y==y.At.Y && x.Tile==y.Tile))=decide (x=y):=by
 obtain⟨⟨a,b⟩,c⟩:=x;obtain⟨⟨d,e⟩,f⟩:=y;rw[Xi];simp[gY]
def l03Same.fv(a:Ad×Ad):Bool:=(λa b=>decide (a=b)) (a.1) (a.2)
def l03Same.row:A7:=vK (b2 (qP 1 Ad.d_le) (qP 1 Ad.d_le)) rB (λa=>True) l03Same.fv
def l03Same.q:=AY (R:=l03Same.row) rfl
def l03Same.ok:AC 52 l03Same.row:=by
 refine vw tN Tryz.func52 ?_;intro a aa;simp only[Tryz.f52];simp only[ZA,simprocAttr,l03Same.fv];simp only[AO];refine⟨λO=> ?_,λO=> ?_⟩
 .have:a.1≠a.2:=λh=>O (by rw[h])
  simp[this]
 have O:a.1.Tiles.length=a.2.Tiles.length:=by omega
 refine AT.old ⟨{k:Nat//k<=a.1.Tiles.length/\a.1.Tiles.take k=a.2.Tiles.take k},λk=>⟨[(5,.im (.int .i64 k.1)),(4,.im (.bool false)),(0,.ptr 0 0),(1,.ptr 1 0)],[(0,(false,.view [.sl false 3 (a.1.Tiles.map Aj.c)])),(1,(false,.view [.sl false 3 (a.2.Tiles.map Aj.c)]))],2⟩,λk=>a.1.Tiles.length - k.1,λk=>⟨by simp[ZG],AL _⟩,⟨⟨0,by simp⟩,by simp only[ZA,simprocAttr,sub]⟩,λk=> ?_⟩;obtain⟨k,Z,z⟩:=k;simp only[ZA,simprocAttr,sub,AO];intro h1;refine⟨λQ=>⟨Q,λx hx=>⟨by omega,λy hy=> ?_⟩⟩,λQ=> ?_⟩
 .obtain⟨g1,g2⟩:=ZF O Z z hx hy;simp only[ZA,Qrb];refine⟨λh=> ?_,λh=>GI Q h1 ⟨by omega,g1 (by simpa using h)⟩⟩
  have:=g2 (by simpa using h)
  simp[JV,this]
 .rw[DE (by omega),DE (by omega)] at z;simp[JV,z]
def EqualP.fv(a:(List Aj)×(List Aj)):Bool:=(λa b=>decide (a=b)) (a.1) (a.2)
def EqualP.row:A7:=vK (b2 (qS Aj.d_le Aj.c_n) (qS Aj.d_le Aj.c_n)) rB (λa=>True) EqualP.fv
def EqualP.q:=AY (R:=EqualP.row) rfl
def EqualP.ok:AC 115 EqualP.row:=by
 refine vw tN Tryz.func115 ?_;intro a aa;simp only[Tryz.f115];simp only[ZA,simprocAttr,EqualP.fv];intro h1 h2;simp only[AO];refine⟨λO=> ?_,λO=> ?_⟩
 .have:a.1≠a.2:=λh=>O (by rw[h])
  simp[this]
 have O:a.1.length=a.2.length:=by omega
 intro _;refine AT.old ⟨{k:Nat//k<=a.1.length/\a.1.take k=a.2.take k},λk=>⟨[(13,.im (.int .i64 k.1)),(12,.im (.int .i64 a.1.length)),(11,.im (.sl false 3 (a.1.map Aj.c))),(4,.im (.bool false)),(0,.im (.sl false 3 (a.1.map Aj.c))),(1,.im (.sl false 3 (a.2.map Aj.c)))],[],0⟩,λk=>a.1.length - k.1,λk=>⟨by simp[ZG],AL _⟩,⟨⟨0,by simp⟩,by simp only[ZA,simprocAttr,sub]⟩,λk=> ?_⟩;obtain⟨k,Z,z⟩:=k;simp only[ZA,simprocAttr,sub,AO,Qrb];refine⟨λQ=>⟨Q,λx hx=>⟨by omega,λy hy=> ?_⟩⟩,λQ=> ?_⟩
 .obtain⟨g1,g2⟩:=ZF O Z z hx hy;refine⟨λh=> ?_,λh=>GI Q h1 ⟨by omega,g1 (by simpa using h)⟩⟩
  have:=g2 (by simpa using h)
  simp[this]
 .rw[DE (by omega),DE (by omega)] at z;simp[z]
def BO{A:Type}(p:A->Bool):Nat->List A->Int
 |_,[]=> -1
 |i,x::r=>if p x=true then i else BO p (i+1) r
def l02Glue.fv(a:Az×ByteArray):Int:=(λs n=>BO (λg=>decide (g.Name=n)) 0 s.Glues+1) (a.1) (a.2)
def l02Glue.row:A7:=vK (b2 (qP 2 Az.d_le) qT) rI (λa=>True) l02Glue.fv
def l02Glue.q:=AY (R:=l02Glue.row) rfl
def l02Glue.ok:AC 159 l02Glue.row:=by
 refine vw tN Tryz.func159 ?_;intro a Q;simp only[Tryz.f159];simp only[ZA,simprocAttr,l02Glue.fv];refine AT.old ⟨{k:Nat//k<=a.1.Glues.length/\BO (λg:Am=>decide (g.Name=a.2)) k (a.1.Glues.drop k)=BO (λg:Am=>decide (g.Name=a.2)) 0 a.1.Glues},λk=>⟨[(5,.im (.int .i64 k.1)),(4,.im (.int .i64 0)),(0,.ptr 0 0),(1,.im (.str a.2))],[(0,(false,.view [.sl false 2 (a.1.Glues.map Am.c),.sl false 2 (a.1.Tiles.map Tile.c)]))],1⟩,λk=>a.1.Glues.length - k.1,λk=>⟨by simp[ZG],AL _⟩,⟨⟨0,by simp⟩,by simp only[ZA,simprocAttr,sub]⟩,λk=> ?_⟩;obtain⟨k,Z,z⟩:=k;simp only[ZA,simprocAttr,sub,AO];intro hn;refine⟨λO=>⟨O,λx hx=> ?_⟩,λO=> ?_⟩
 .rw[F5 hx,BO] at z;refine⟨λh=> ?_,λh=>GI O hn ⟨by omega,by rw[<-z,Af (by simpa using h)]⟩⟩;rw[Ai (by simpa using h)] at z;rw[<-z,AD (by omega) (by omega)]
 .rw[CS (by omega),BO] at z;omega
def VA1.fv(a:Aj×Az):Bool:=(λx s=> !AX x.Tile 0 (s.Tiles.length - 1)) (a.1) (a.2)
def VA1.row:A7:=vK (b2 (qR Aj.d_le) (qP 2 Az.d_le)) rB (λa=>True) VA1.fv
def VA1.q:=AY (R:=VA1.row) rfl
def VA1.ok:AC 102 VA1.row:=by
 refine vw (tC isTile.ok tN) Tryz.func102 ?_;intro a z;simp only[Tryz.f102];simp only[ZA,simprocAttr,VA1.fv,isTile.q,isTile.fv]
def IdxVA.ar:List PK->Option ((List Aj)×Az)
 |[.val (.sl _ _ Q),.val (.fn 102 [] [.ref z])]=>(AR Aj.d Q).bind λZ=>(Az.d (z.take 2)).bind λO=>some (Z,O)
 |_=>none
def IdxVA.ae(a:(List Aj)×Az):List PK:=[.val (.sl false 3 (a.1.map Aj.c)),.val (.fn 102 [] [.ref (Az.c a.2)])]
def IdxVA.le: ∀O a,IdxVA.ar O=some a->Ca O (IdxVA.ae a):=by
 intro O a h;unfold IdxVA.ar at h;split at h
 .simp only[EP,AI] at h;obtain⟨Z,h0,Q,z,rfl⟩:=h;exact⟨Ed (DQ Aj.d_le _ _ h0) (by simp only[Bo];rintro r ⟨y,_,rfl⟩;rfl),WV ⟨WK (GB.trans_take (Az.d_le _ _ z)),trivial⟩,trivial⟩
 .cases h
def IdxVA.fv(a:(List Aj)×Az):Int:=(λl s=>BO (λx=> !AX x.Tile 0 (s.Tiles.length - 1)) 0 l) (a.1) (a.2)
def IdxVA.row:A7:=DO IdxVA.ar (λa=>True) (λa=>(D.int .i64) (IdxVA.fv a))
def IdxVA.q:=vq IdxVA.row rfl
def IdxVA.ok:AC 141 IdxVA.row:=by
 refine Zz Dd (tC VA1.ok tN) Tryz.func141 rfl (by kernel_rfl) (by kernel_rfl) (ar:=IdxVA.ar) (ae:=IdxVA.ae) IdxVA.le (n:=2) (λ_=>rfl) (by decide) (rc:=(Ez)) (re:=(D.int .i64)) (Vu) (f:=IdxVA.fv) ?_;intro a Q;simp only[Tryz.f141];simp only[ZA,simprocAttr,IdxVA.ae,IdxVA.fv];intro hn;refine AT.old ⟨{k:Nat//k<=a.1.length/\BO (λx:Aj=> !AX x.Tile 0 (a.2.Tiles.length - 1)) k (a.1.drop k)=BO (λx:Aj=> !AX x.Tile 0 (a.2.Tiles.length - 1)) 0 a.1},λk=>⟨[(8,.im (.int .i64 k.1)),(7,.im (.int .i64 a.1.length)),(6,.im (.sl false 3 (a.1.map Aj.c))),(4,.im (.int .i64 0)),(0,.im (.sl false 3 (a.1.map Aj.c))),(1,.im (.fn 102 [] [.ref (Az.c a.2)]))],[],0⟩,λk=>a.1.length - k.1,λk=>⟨by simp[ZG],AL _⟩,⟨⟨0,by simp⟩,by simp only[ZA,simprocAttr,sub]⟩,λk=> ?_⟩;obtain⟨k,Z,z⟩:=k;simp only[ZA,simprocAttr,VA1.q,VA1.fv,sub,AO];refine⟨λO=>⟨O,λx hx=> ?_⟩,λO=> ?_⟩
 .rw[F5 hx,BO] at z;refine⟨λh=> ?_,λh=>GI O hn ⟨by omega,by rw[<-z,Af (by simpa using h)]⟩⟩;rw[Ai (by simpa using h)] at z;exact z
 .rw[CS (by omega),BO] at z;exact z
def Qyg{A:Type}(p:A->Bool): ∀(l:List A) (i:Nat),(0<=BO p i l↔l.any p=true)/\ -1<=BO p i l/\BO p i l<(i+l.length:Nat)\/(l=[]/\BO p i l= -1):=by
 intro l;induction l with
 |nil=>intro i;exact .inr ⟨rfl,rfl⟩
 |cons x r ih=>
  intro i;refine .inl ?_;simp only[BO,List.any_cons,Cv]
  split<;>rename_i h
  .simp[h];omega
  .rcases ih (i+1) with ⟨O,z,Q⟩|⟨rfl,z⟩
   .simp only[Gi] at h;rw[h,xA];exact⟨O,z,by omega⟩
   .simp[z,h];omega
def Qsr{A:Type}(p:A->Bool)(l:List A):decide (0<=BO p 0 l)=l.any p:=by
 rw[Xi];rcases Qyg p l 0 with ⟨z,_⟩|⟨rfl,O⟩
 .simpa using z
 .simp[O]
def ContVA.ar:List PK->Option ((List Aj)×Az)
 |[.val (.sl _ _ Q),.val (.fn 102 [] [.ref z])]=>(AR Aj.d Q).bind λZ=>(Az.d (z.take 2)).bind λO=>some (Z,O)
 |_=>none
def ContVA.ae(a:(List Aj)×Az):List PK:=[.val (.sl false 3 (a.1.map Aj.c)),.val (.fn 102 [] [.ref (Az.c a.2)])]
def ContVA.le: ∀O a,ContVA.ar O=some a->Ca O (ContVA.ae a):=by
 intro O a h;unfold ContVA.ar at h;split at h
 .simp only[EP,AI] at h;obtain⟨Z,h0,Q,z,rfl⟩:=h;exact⟨Ed (DQ Aj.d_le _ _ h0) (by simp only[Bo];rintro r ⟨y,_,rfl⟩;rfl),WV ⟨WK (GB.trans_take (Az.d_le _ _ z)),trivial⟩,trivial⟩
 .cases h
def ContVA.fv(a:(List Aj)×Az):Bool:=(λl s=>l.any (λx=> !AX x.Tile 0 (s.Tiles.length - 1))) (a.1) (a.2)
def ContVA.row:A7:=DO ContVA.ar (λa=>True) (λa=>(D.bool) (ContVA.fv a))
def ContVA.q:=vq ContVA.row rfl
def ContVA.ok:AC 101 ContVA.row:=by
 refine Zz Dd (tC IdxVA.ok tN) Tryz.func101 rfl (by kernel_rfl) (by kernel_rfl) (ar:=ContVA.ar) (ae:=ContVA.ae) ContVA.le (n:=2) (λ_=>rfl) (by decide) (rc:=(Vv)) (re:=(D.bool)) (lE) (f:=ContVA.fv) ?_;intro a z;simp only[Tryz.f101];simp only[ZA,simprocAttr,ContVA.ae,ContVA.fv,IdxVA.q,IdxVA.ar,IdxVA.fv];exact Qsr _ _
def SameAsm.fv(a:Ad×Ad):Bool:=(λa b=>decide (a=b)) (a.1) (a.2)
def SameAsm.row:A7:=vK (b2 (qR Ad.d_le) (qR Ad.d_le)) rB (λa=>True) SameAsm.fv
def SameAsm.q:=AY (R:=SameAsm.row) rfl
def SameAsm.ok:AC 69 SameAsm.row:=by
 refine vw (tC EqualP.ok tN) Tryz.func69 ?_;intro a z;simp only[Tryz.f69];simp only[ZA,simprocAttr,SameAsm.fv,EqualP.q,EqualP.fv];simp only[JV]
def l03Ok.fv(a:Az×Ad):Bool:=(λs a=>(De none a.Tiles && decide (a.Tiles.length<=500)) && a.Tiles.all (λx=>AX x.Tile 0 (s.Tiles.length - 1))) (a.1) (a.2)
def l03Ok.row:A7:=vK (b2 (qP 2 Az.d_le) (qP 1 Ad.d_le)) rB (λa=>True) l03Ok.fv
def l03Ok.q:=AY (R:=l03Ok.row) rfl
def l03Ok.ok:AC 45 l03Ok.row:=by
 refine vw (tC l03Form.ok (tC l02Index.ok tN)) Tryz.func45 ?_;intro a Z;simp only[Tryz.f45];simp only[ZA,simprocAttr,Ad.d,l03Ok.fv,l03Form.q,l03Form.fv];simp only[AO];refine⟨λh=>by simp[h],λh=> ?_⟩;simp only[Im] at h;refine AT.old ⟨{k:Nat//k<=a.2.Tiles.length/\(a.2.Tiles.drop k).all (λx=>AX x.Tile 0 (a.1.Tiles.length - 1))=a.2.Tiles.all (λx=>AX x.Tile 0 (a.1.Tiles.length - 1))},λk=>⟨[(5,.im (.int .i64 k.1)),(4,.im (.bool false)),(0,.ptr 0 0),(1,.ptr 1 0)],[(0,(false,.view (Az.c a.1))),(1,(false,.view (Ad.c a.2)))],2⟩,λk=>a.2.Tiles.length - k.1,λk=>⟨by simp[ZG],AL _⟩,⟨⟨0,by simp⟩,by simp only[ZA,simprocAttr,sub]⟩,λk=> ?_⟩;obtain⟨k,aa,z⟩:=k;simp only[ZA,simprocAttr,l02Index.q,l02Index.fv,sub,AO];intro hn;refine⟨λQ=>⟨Q,λx hx=> ?_⟩,λQ=> ?_⟩
 .rw[F5 hx,JL] at z;refine⟨λO=> ?_,λO=>GI Q hn ⟨by omega,?_⟩⟩
  .rw[O] at z;simp only[Gf] at z;rw[h,<-z];rfl
  .simp only[Im] at O;rw[O,Eg] at z;exact z
 .rw[CS (by omega)] at z;rw[h,<-z];rfl
def eO{a b c:Ac}(z:Bl a b=true)(O:Bl b c=true):Bl a c=true:=by
 simp only[Bl,Iq,AN,Bq] at*;omega
def mE(a:Ac):Bl a a=false:=by simp[Bl]
def lJ: ∀(l:List Aj) (q:Option Ac),De q l=true->(∀p,q=some p-> ∀(i:Nat) (x:Aj),l[i]? =some x->Bl p x.At=true)/\
 ∀(i j:Nat) (x y:Aj),i<j->l[i]? =some x->l[j]? =some y->Bl x.At y.At=true
 |[],q,_=>⟨λ_ _ i x h=>by simp at h,λi j x y _ h=>by simp at h⟩
 |z::r,q,h=>by
  rw[Vw] at h;simp only[AN] at h;obtain⟨_,_,Z,h4⟩:=h;obtain⟨i1,i2⟩:=lJ r (some z.At) h4;refine⟨?_,?_⟩
  .rintro p rfl i x O;cases i with
   |zero=>
    simp only[G6,AI] at O;subst O;exact Z
   |succ i=>
    simp only[Ir] at O;exact eO Z (i1 _ rfl i x O)
  .intro i j x y aa O Q;cases j with
   |zero=>omega
   |succ j=>
    simp only[Ir] at Q;cases i with
    |zero=>
     simp only[G6,AI] at O;subst O;exact i1 _ rfl j y Q
    |succ i=>
     simp only[Ir] at O;exact i2 i j x y (by omega) O Q
def Qtf{A:Type}(p:A->Bool): ∀(l:List A) (o k:Nat) (x:A),l[k]? =some x->p x=true->(∀i y,i<k->l[i]? =some y->p y=false)->BO p o l=((o+k:Nat):Int)
 |[],o,k,x,h,_,_=>by simp at h
 |z::r,o,k,x,h,hp,hn=>by
  simp only[BO];cases k with
  |zero=>
   simp only[G6,AI] at h;subst h;rw[Ai hp];rfl
  |succ k=>
   have:=hn 0 z (by omega) (by simp)
   rw[Af (by simp[this])];rw[Qtf p r (o+1) k x (by simpa using h) hp (λi y Q O=>hn (i+1) y (by omega) (by simpa using O))];congr 1;omega
def Qrf{A:Type}(p:A->Bool): ∀(l:List A) (o:Nat),(∀(i:Nat) (y:A),l[i]? =some y->p y=false)->BO p o l= -1
 |[],o,_=>rfl
 |z::r,o,hn=>by
  simp only[BO]
  have:=hn 0 z (by simp)
  rw[Af (by simp[this])];exact Qrf p r (o+1) (λi y O=>hn (i+1) y (by simpa using O))
def l03Index.fv(a:Ad×Ac):Int:=(λa p=>BO (λx=>decide (x.At=p)) 0 a.Tiles) (a.1) (a.2)
def l03Index.row:A7:=vK (b2 (qP 1 Ad.d_le) (qR Ac.d_le)) rI (λa=>De none a.1.Tiles=true) l03Index.fv
def l03Index.q:=AY (R:=l03Index.row) rfl
def l03Index.ok:AC 87 l03Index.row:=by
 refine vw (tC l_LessPoint.ok tN) Tryz.func87 ?_;intro a ad;simp only[Tryz.f87];simp only[ZA,simprocAttr,l03Index.fv];intro hn;refine AT.old ⟨{p:Nat×Nat//p.1<=p.2/\p.2<=a.1.Tiles.length/\(∀i x,i<p.1->a.1.Tiles[i]? =some x->Bl x.At a.2=true)/\(∀i x,p.2<=i->a.1.Tiles[i]? =some x->Bl x.At a.2=false)},λp=>⟨[(5,.im (.int .i64 p.1.1)),(6,.im (.int .i64 p.1.2)),(4,.im (.int .i64 0)),(3,.ptr 1 0),(0,.ptr 0 0)],[(1,(true,.cells 56 [.im (.int .i64 a.2.X),.im (.int .i64 a.2.Y)])),(0,(false,.view [.sl false 3 (a.1.Tiles.map Aj.c)]))],2⟩,λp=>p.1.2 - p.1.1,λp=>⟨by simp[ZG],AL _⟩,⟨⟨(0,a.1.Tiles.length),by simp,by simp,by simp,?_⟩,by simp only[ZA,simprocAttr,sub]⟩,λp=> ?_⟩
 .intro i x O Z
  have:=(BW.1 Z).1
  simp only at O;omega
 obtain⟨⟨lo,O⟩,h1,h2,h3,h4⟩:=p;simp only at h1 h2 h3 h4;simp only[ZA,simprocAttr,l_LessPoint.q,l_LessPoint.fv,sub,AO];obtain⟨_,Q⟩:=lJ _ _ ad;have ac: ∀(i:Nat) (x:Aj),i<lo->a.1.Tiles[i]? =some x->x.At≠a.2:=by
  intro i x O Z he
  have:=h3 i x O Z
  rw[he,mE] at this;cases this
 refine⟨λaf=> ?_,λaf=>⟨λhl=>⟨hl,λx Z=>⟨λhe=> ?_,λhe=> ?_⟩⟩,λhl=> ?_⟩⟩
 .have hm:IntKind.wrap .i64 ((IntKind.wrap .i64 ((lo:Int)+O)).tdiv 2)=(((lo+O)/2:Nat):Int):=by
   rw[AD (x:=(lo:Int)+O) (by omega) (by omega),wB (by omega),AD (by omega) (by omega)];omega
  rw[hm];refine⟨by omega,by omega,λx Z=>⟨λhb=> ?_,λhb=> ?_⟩⟩
  .rw[B8] at Z;refine⟨⟨((lo+O)/2+1,O),by simp only;omega,h2,λi y ab z=> ?_,h4⟩,by simp only;omega,?_,rfl⟩
   .simp only at ab;rcases ER i ((lo+O)/2) with h|h
    .exact eO (Q i _ y x h z Z) hb
    .have:i=(lo+O)/2:=by omega
     subst this;rw[Z] at z;exact Ay z▸hb
   .rw[AD (by omega) (by omega)];simp only;omega
  .rw[B8] at Z;refine⟨⟨(lo,(lo+O)/2),by simp only;omega,by simp only;omega,h3,λi y ab z=> ?_⟩,by simp only;omega,rfl,rfl⟩;simp only at ab;rcases ER ((lo+O)/2) i with h|h
   .cases hl:Bl y.At a.2 with
    |false=>rfl
    |true=>exact absurd (eO (Q _ i x y h Z z) hl) hb
   .have:i=(lo+O)/2:=by omega
    subst this;rw[Z] at z;obtain rfl:=Ay z;simpa using hb
 .have ag:x.At=a.2:=by
   obtain⟨e1,e2⟩:=he;have e1:x.At.X=a.2.X:=by simpa using e1
   have e2:x.At.Y=a.2.Y:=by simpa using e2
   rw[<-Ac.eta x.At,<-Ac.eta a.2,e1,e2]
  rw[Qtf _ a.1.Tiles 0 lo x Z (by simp[ag]) (λi y O z=>by simp[ac i y O z])];simp
 .refine (Qrf _ _ _ ?_).symm;intro i y z;rcases nP i lo with h|h|h
  .simp[ac i y h z]
  .subst h;rw[Z] at z;obtain rfl:=Ay z;simp only[Iu];intro h9;exact he (by simp[h9])
  .simp only[Iu];intro h9;have aa:=Q lo i x y h Z z;rw[h9] at aa
   have:=h4 lo x (by omega) Z
   rw[this] at aa;cases aa
 .refine (Qrf _ _ _ ?_).symm;intro i y z
  have:=(BW.1 z).1
  simp[ac i y (by omega) z]
def GR(p:Ac)(t:Int):Bool->List Aj->List Aj
 |_,[]=>[]
 |false,x::r=>if Bl p x.At=true then ⟨p,t⟩::x::GR p t true r else x::GR p t false r
 |true,x::r=>x::GR p t true r
def IK(p:Ac):List Aj->Bool
 |[]=>false
 |x::r=>if Bl p x.At=true then true else IK p r
def Cg(a:Ad)(p:Ac)(t:Int):Ad:=⟨GR p t false a.Tiles++(if IK p a.Tiles=true then [] else [⟨p,t⟩])⟩
def vE(p:Ac)(t:Int): ∀(l:List Aj),GR p t true l=l
 |[]=>rfl
 |x::r=>by simp only[GR,vE p t r]
def Qiz(p:Ac)(t:Int)(x:Aj): ∀(l:List Aj),GR p t false (l++[x])=GR p t false l++(if IK p l=true then [x] else if Bl p x.At=true then [⟨p,t⟩,x] else [x])
 |[]=>by simp only[Fq,GR,IK];split<;>simp[GR]
 |y::r=>by
  simp only[CO,GR,IK];split
  .rw[vE,vE];simp
  .rw[Qiz p t x r];simp
def zX(p:Ac)(x:Aj): ∀(l:List Aj),IK p (l++[x])=(IK p l||Bl p x.At)
 |[]=>by simp only[Fq,IK];split<;>simp_all
 |y::r=>by
  simp only[CO,IK];split
  .simp
  .exact zX p x r
def Qua(p:Ac)(t:Int): ∀(l:List Aj),(GR p t false l).length<=l.length+1
 |[]=>by simp[GR]
 |y::r=>by
  simp only[GR];split
  .rw[vE];simp
  .have:=Qua p t r
   simp;omega
def l03Put.fv(a:Ad×Ac×Int):Ad:=(Cg) (a.1) (a.2.1) (a.2.2)
def l03Put.row:A7:=vK (b3 (qP 1 Ad.d_le) (qR Ac.d_le) qI) (rA Ad.d_le) (λa=>a.1.Tiles.length<=1000000) l03Put.fv
def l03Put.q:=AY (R:=l03Put.row) rfl
def l03Put.ok:AC 48 l03Put.row:=by
 refine vw (tC l_LessPoint.ok tN) Tryz.func48 ?_;intro a ac;simp only[Tryz.f48];simp only[ZA,simprocAttr,l03Put.fv];refine AT.ren ⟨{k:Nat//k<=a.1.Tiles.length},λk=>⟨[(9,.im (.int .i64 k.1)),(8,.im (.bool (IK a.2.1 (a.1.Tiles.take k.1)))),(7,.ptr 3 0),(6,.ptr 2 0),(4,.ptr 1 0),(0,.ptr 0 0),(2,.im (.int .i64 a.2.2))],[(3,(true,.cells 49 [.own 4])),(4,(true,.arr 115 3 ((GR a.2.1 a.2.2 false (a.1.Tiles.take k.1)).map Aj.c))),(2,(true,.cells 49 [.im (.sl true 0 [])])),(1,(true,.cells 56 [.im (.int .i64 a.2.1.X),.im (.int .i64 a.2.1.Y)])),(0,(false,.view [.sl false 3 (a.1.Tiles.map Aj.c)]))],5⟩,λk=>a.1.Tiles.length - k.1,λk=>⟨by simp[ZG],by simp⟩,⟨⟨0,by simp⟩,[(4,none)],?_⟩,λk=> ?_⟩
 .simp only[Aq];simp only[ZA,simprocAttr,Bs,wQ,GR,IK]
  try simp
 obtain⟨k,ad⟩:=k;simp only[ZA,simprocAttr,Ad.d,l_LessPoint.q,l_LessPoint.fv,AO];intro _;have aa:=Qua a.2.1 a.2.2 (a.1.Tiles.take k);have ab:(a.1.Tiles.take k).length<=k:=by simp;omega
 refine⟨λZ=>⟨λhd=>⟨Z,λx Q=>⟨λO=> ?_,λO=> ?_⟩⟩,λhd=> ?_⟩,λZ=> ?_⟩
 .have z:a.1.Tiles.take (k+1)=a.1.Tiles.take k++[x]:=by rw[Ip,Q];rfl
  refine⟨by simp[Ck,BT,D.one],by omega,Z,λy hy=>⟨by simp[Ck,BT,D.one],by simp;omega,⟨⟨k+1,by omega⟩,[(4,some 8)],by simp only;omega,?_⟩⟩⟩;rw[Q] at hy;obtain rfl:=Ay hy;simp only[Aq];simp only[ZA,simprocAttr];refine⟨by simp,⟨?_,?_⟩,?_⟩
  .rw[AD (by omega) (by omega)];omega
  .rw[z,zX,hd,O];rfl
  .rw[z,Qiz,hd,O];simp[Aj.c]
 .have z:a.1.Tiles.take (k+1)=a.1.Tiles.take k++[x]:=by rw[Ip,Q];rfl
  refine⟨Z,λy hy=>⟨by simp[Ck,BT,D.one],by omega,⟨⟨k+1,by omega⟩,[(4,some 6)],by simp only;omega,?_⟩⟩⟩;rw[Q] at hy;obtain rfl:=Ay hy;simp only[Gi] at O;simp only[Aq];simp only[ZA,simprocAttr];refine⟨by simp,⟨?_,?_⟩,?_⟩
  .rw[AD (by omega) (by omega)];omega
  .rw[z,zX,hd,O];rfl
  .rw[z,Qiz,hd,O];simp[Aj.c]
 .simp only[Im] at hd;refine⟨Z,λx Q=>⟨by simp[Ck,BT,D.one],by omega,⟨⟨k+1,by omega⟩,[(4,some 6)],by simp only;omega,?_⟩⟩⟩;have z:a.1.Tiles.take (k+1)=a.1.Tiles.take k++[x]:=by rw[Ip,Q];rfl
  simp only[Aq];simp only[ZA,simprocAttr];refine⟨by simp,⟨?_,?_⟩,?_⟩
  .rw[AD (by omega) (by omega)];omega
  .rw[z,zX,hd];rfl
  .rw[z,Qiz,hd];simp[Aj.c]
 .rw[DE (by omega)] at aa ab⊢;refine⟨λhd=>⟨by simp[Ck,BT,D.one],by omega,?_⟩,λhd=> ?_⟩
  .have e:List.map Aj.c (GR a.2.1 a.2.2 false a.1.Tiles)++[[D.int .i64 a.2.1.X,D.int .i64 a.2.1.Y,D.int .i64 a.2.2]]=List.map Aj.c (GR a.2.1 a.2.2 false a.1.Tiles++[⟨a.2.1,a.2.2⟩]):=by simp[Aj.c]
   rw[e,Aj.d_R];simp[Cg,hd]
  .simp only[Im] at hd;simp[Cg,hd]
def BG(a:Ad)(p:Ac):Int:=((a.Tiles.find? (λx=>decide (x.At=p))).map Aj.Tile).getD (-1)
def ZE{A:Type}(p:A->Bool): ∀(l:List A) (o:Nat),(l.find? p=none/\BO p o l= -1)\/ ∃(i:Nat) (x:A),l.find? p=some x/\BO p o l=((o+i:Nat):Int)/\l[i]? =some x
 |[],o=> .inl ⟨rfl,rfl⟩
 |z::r,o=>by
  simp only[BO,Zer];cases h:p z
  .rcases ZE p r (o+1) with ⟨O,Q⟩|⟨i,x,O,Q,Z⟩
   .exact .inl ⟨by simpa using O,by simpa using Q⟩
   .exact .inr ⟨i+1,x,by simpa using O,by simp[Q];omega,by simpa using Z⟩
  .exact .inr ⟨0,z,rfl,by simp,by simp⟩
def l03At.fv(a:Ad×Ac):Int:=(BG) (a.1) (a.2)
def l03At.row:A7:=vK (b2 (qP 1 Ad.d_le) (qR Ac.d_le)) rI (λa=>De none a.1.Tiles=true) l03At.fv
def l03At.q:=AY (R:=l03At.row) rfl
def l03At.ok:AC 85 l03At.row:=by
 refine vw (tC l03Index.ok tN) Tryz.func85 ?_;intro a z;simp only[Tryz.f85];simp only[ZA,simprocAttr,Ad.d,l03At.fv,l03Index.q,l03Index.fv];refine⟨z,?_⟩;rcases ZE (λx=>decide (x.At=a.2)) a.1.Tiles 0 with ⟨O,Q⟩|⟨i,x,O,Q,Z⟩
 .rw[Q,Ai (by omega)];simp[BG,O]
 .have hi:=(BW.1 Z).1;rw[Q,Af (by omega)];refine⟨by omega,by omega,λy hy=> ?_⟩
  have:((0+i:Nat):Int).toNat=i:=by omega
  rw[this,Z] at hy;obtain rfl:=Ay hy;simp[BG,O]
def l02Tile.fv(a:Az×ByteArray):Int:=(λs n=>BO (λg=>decide (g.Name=n)) 0 s.Tiles) (a.1) (a.2)
def l02Tile.row:A7:=vK (b2 (qP 2 Az.d_le) qT) rI (λa=>True) l02Tile.fv
def l02Tile.q:=AY (R:=l02Tile.row) rfl
def l02Tile.ok:AC 160 l02Tile.row:=by
 refine vw tN Tryz.func160 ?_;intro a Q;simp only[Tryz.f160];simp only[ZA,simprocAttr,l02Tile.fv];refine AT.old ⟨{k:Nat//k<=a.1.Tiles.length/\BO (λg:Tile=>decide (g.Name=a.2)) k (a.1.Tiles.drop k)=BO (λg:Tile=>decide (g.Name=a.2)) 0 a.1.Tiles},λk=>⟨[(5,.im (.int .i64 k.1)),(4,.im (.int .i64 0)),(0,.ptr 0 0),(1,.im (.str a.2))],[(0,(false,.view (Az.c a.1)))],1⟩,λk=>a.1.Tiles.length - k.1,λk=>⟨by simp[ZG],AL _⟩,⟨⟨0,by simp⟩,by simp only[ZA,simprocAttr,sub]⟩,λk=> ?_⟩;obtain⟨k,Z,z⟩:=k;simp only[ZA,simprocAttr,sub,AO];intro hn;refine⟨λO=>⟨O,λx hx=> ?_⟩,λO=> ?_⟩
 .rw[F5 hx,BO] at z;refine⟨λh=> ?_,λh=>GI O hn ⟨by omega,by rw[<-z,Af (by simpa using h)]⟩⟩;rw[Ai (by simpa using h)] at z;exact z
 .rw[CS (by omega),BO] at z;omega
def K0(a:Ad)(o:A9):Ad×Int:=if 500<=a.Tiles.length then (⟨[]⟩,4) else (Cg a o.At o.Tile,0)
def l08Attach.fv(a:Ad×A9):Ad×Int:=(K0) (a.1) (a.2)
def l08Attach.row:A7:=vK (b2 (qP 1 Ad.d_le) (qR A9.d_le)) (r2 (rA Ad.d_le) rI) (λa=>True) l08Attach.fv
def l08Attach.q:=AY (R:=l08Attach.row) rfl
def l08Attach.ok:AC 51 l08Attach.row:=by
 refine vw (tC l03Put.ok tN) Tryz.func51 ?_;intro a z;simp only[Tryz.f51];simp only[ZA,simprocAttr,Ad.d,l08Attach.fv,l03Put.q,l03Put.fv];intro _;simp only[AO];refine⟨λh=> ?_,λh=>⟨by omega,?_⟩⟩
 .simp only[K0];rw[Ai (by omega)]
 .simp only[K0];rw[Af (by omega)]
def Kb(s:Az)(a:Ad)(p:Ac)(t:Int)(d:Int):Int:=if 0<=BG a (Cz p d) then Km s t d (BG a (Cz p d)) else 0
def JD(s:Az)(a:Ad)(p:Ac)(t:Int):Nat->Int
 |0=>0
 |k+1=>JD s a p t k+Kb s a p t k
def Il(s:Az)(a:Ad):Prop:=De none a.Tiles=true/\ ∀x∈a.Tiles,FX s x.Tile
def Ru{s:Az}{a:Ad}(h:Il s a)(p:Ac)(h0:0<=BG a p):FX s (BG a p):=by
 simp only[BG] at h0⊢;cases hf:a.Tiles.find? (λx=>decide (x.At=p)) with
 |none=>rw[hf] at h0;simp at h0
 |some x=>exact h.2 x (nI hf)
def Qp1{s:Az}(h:Ct s)(g:Int):0<=Qb s g/\Qb s g<=4:=by
 simp only[Qb];split
 .cases hx:s.Glues[(g - 1).toNat]? with
  |none=>simp
  |some x=>have:=h.2.2 x (AZ hx);simp;omega
 .omega
def Nj{s:Az}(h:Ct s)(a:Ad)(p:Ac)(t d:Int):0<=Kb s a p t d/\Kb s a p t d<=4:=by
 simp only[Kb,Km];split
 .split
  .exact Qp1 h _
  .omega
 .omega
def L6{s:Az}(h:Ct s)(a:Ad)(p:Ac)(t:Int): ∀(k:Nat),0<=JD s a p t k/\JD s a p t k<=4*k
 |0=>by simp[JD]
 |k+1=>by
  have z:=L6 h a p t k;have O:=Nj h a p t k;simp only[JD];omega
def l06Binding.fv(a:Az×Ad×Ac×Int):Int:=(λs a p t=>JD s a p t 4) (a.1) (a.2.1) (a.2.2.1) (a.2.2.2)
def l06Binding.row:A7:=vK (b4 (qP 2 Az.d_le) (qP 1 Ad.d_le) (qR Ac.d_le) qI) rI (λa=>Ct a.1/\Il a.1 a.2.1/\HE a.2.2.1/\FX a.1 a.2.2.2) l06Binding.fv
def l06Binding.q:=AY (R:=l06Binding.row) rfl
def l06Binding.ok:AC 88 l06Binding.row:=by
 refine vw (tC l03At.ok (tC l01Step.ok (tC l02Bond.ok tN))) Tryz.func88 ?_;intro a z;simp only[Tryz.f88];simp only[ZA,simprocAttr,l06Binding.fv];obtain⟨O,Q,Z,h4⟩:=z;refine AT.old ⟨{k:Nat//k<=4},λk=>⟨[(10,.im (.int .i64 k.1)),(9,.im (.int .i64 (JD a.1 a.2.1 a.2.2.1 a.2.2.2 k.1))),(8,.im (.int .i64 0)),(6,.ptr 2 0),(0,.ptr 0 0),(1,.ptr 1 0),(3,.im (.int .i64 a.2.2.2))],[(2,(true,.cells 56 [.im (.int .i64 a.2.2.1.X),.im (.int .i64 a.2.2.1.Y)])),(0,(false,.view (Az.c a.1))),(1,(false,.view (Ad.c a.2.1)))],3⟩,λk=>4 - k.1,λk=>⟨by simp[ZG],AL _⟩,⟨⟨0,by simp⟩,by simp only[ZA,simprocAttr,sub,JD]⟩,λk=> ?_⟩;obtain⟨k,aa⟩:=k;simp only[ZA,simprocAttr,Ad.d,l03At.q,l03At.fv,l01Step.q,l01Step.fv,l02Bond.q,l02Bond.fv,sub,AO];have hb:=L6 O a.2.1 a.2.2.1 a.2.2.2 k;have ht:=Nj O a.2.1 a.2.2.1 a.2.2.2 k;refine⟨λhk=>⟨⟨Z,by omega⟩,Q.1,λhp=>⟨⟨O,h4,⟨by omega,by omega⟩,Ru Q _ hp⟩,⟨⟨k+1,by omega⟩,by simp only;omega,?_,?_⟩⟩,λhp=>⟨⟨k+1,by omega⟩,by simp only;omega,?_,?_⟩⟩,λhk=> ?_⟩
 .rw[AD (by omega) (by omega)];simp only;omega
 .simp only[JD];simp only[Kb,Ai hp] at ht⊢;rw[AD (by omega) (by omega)]
 .rw[AD (by omega) (by omega)];simp only;omega
 .simp only[JD,Kb,Af hp];omega
 .have:k=4:=by omega
  rw[this]
def Qi{p:Ac}(h:DA p=true):HE p:=by
 simp only[DA,AX,AN,Bq] at h;simp only[HE];omega
def V5: ∀(l:List Aj) (q:Option Ac),De q l=true-> ∀x∈l,DA x.At=true/\AX x.Tile 0 159=true
 |[],_,_,x,O=>by cases O
 |z::r,q,h,x,O=>by
  rw[Vw] at h;simp only[AN] at h;rcases Bh.1 O with rfl|O
  .exact⟨h.1,h.2.1⟩
  .exact V5 r _ h.2.2.2 x O
def Hj(a:Ad)(i d:Int):Int:=BO (λx=>decide (x.At=Cz ((a.Tiles[i.toNat]?.map Aj.At).getD ⟨0,0⟩) d)) 0 a.Tiles
def l06Neighbor.fv(a:Ad×Int×Int):Int:=(Hj) (a.1) (a.2.1) (a.2.2)
def l06Neighbor.row:A7:=vK (b3 (qP 1 Ad.d_le) qI qI) rI (λa=>De none a.1.Tiles=true/\0<=a.2.1/\a.2.1<a.1.Tiles.length/\0<=a.2.2/\a.2.2<=3) l06Neighbor.fv
def l06Neighbor.q:=AY (R:=l06Neighbor.row) rfl
def l06Neighbor.ok:AC 188 l06Neighbor.row:=by
 refine vw (tC l01Step.ok (tC l03Index.ok tN)) Tryz.func188 ?_;intro a z;simp only[Tryz.f188];simp only[ZA,simprocAttr,Ad.d,l06Neighbor.fv,l01Step.q,l01Step.fv,l03Index.q,l03Index.fv];obtain⟨O,Z,h3,h4,h5⟩:=z;refine⟨Z,h3,λx Q=>⟨⟨Qi (V5 _ _ O x (AZ Q)).1,h4,h5⟩,O,?_⟩⟩;simp only[Hj];rw[Q];rfl
def l08Can.fv(a:AM×Ad×A9):Bool:=(λs a o=>DA o.At && (AX o.Tile 0 (s.Set.Tiles.length - 1) && (decide (BO (λx=>decide (x.At=o.At)) 0 a.Tiles<0) && decide (s.Temperature<=JD s.Set a o.At o.Tile 4)))) (a.1) (a.2.1) (a.2.2)
def l08Can.row:A7:=vK (b3 (qP 4 AM.d_le) (qP 1 Ad.d_le) (qR A9.d_le)) rB (λa=>Ct a.1.Set/\Il a.1.Set a.2.1) l08Can.fv
def l08Can.q:=AY (R:=l08Can.row) rfl
def l08Can.ok:AC 47 l08Can.row:=by
 refine vw (tC l01Point.ok (tC l02Index.ok (tC l03Index.ok (tC l06Binding.ok tN)))) Tryz.func47 ?_;intro a z;simp only[Tryz.f47];simp only[ZA,simprocAttr,Ad.d,l08Can.fv,l01Point.q,l01Point.fv,l02Index.q,l02Index.fv,l03Index.q,l03Index.fv,l06Binding.q,l06Binding.fv];obtain⟨Q,O⟩:=z;cases e1:DA a.2.2.At
 .simp
 cases e2:AX a.2.2.Tile 0 (a.1.Set.Tiles.length - 1)
 .simp
 rw[Ai rfl,Ai rfl];refine⟨O.1,?_⟩
 split<;>rename_i h
 .refine⟨⟨Q,O,Qi e1,?_⟩,by simp[h]⟩;simp only[AX,AN,Bq] at e2;simp only[FX];omega
 .simp[h]
def Lh(s:Az):Nat->List Am->Bool
 |_,[]=>true
 |i,g::r=>(IL g.Name && (AX g.Strength 1 4 && decide (BO (λx=>decide (x.Name=g.Name)) 0 s.Glues=i))) && Lh s (i+1) r
def J9(s:Az):Nat->List Tile->Bool
 |_,[]=>true
 |i,x::r=>(IL x.Name && (decide (x.Sides.length=4) && (decide (BO (λy=>decide (y.Name=x.Name)) 0 s.Tiles=i) && x.Sides.all (λg=>AX g 0 s.Glues.length)))) && J9 s (i+1) r
def DT(s:Az):Bool:=(decide (s.Glues.length<=200) && AX s.Tiles.length 1 160) && (Lh s 0 s.Glues && J9 s 0 s.Tiles)
def l02Ok.fv(a:Az):Bool:=(DT) a
def l02Ok.row:A7:=vK (b1 (qP 2 Az.d_le)) rB (λa=>True) l02Ok.fv
def l02Ok.q:=AY (R:=l02Ok.row) rfl
def l02Ok.ok:AC 125 l02Ok.row:=by
 refine vw (tC spec_IsName.ok (tC l00In.ok (tC l02Glue.ok (tC l02Tile.ok tN)))) Tryz.func125 ?_;intro a ac;simp only[Tryz.f125];simp only[ZA,simprocAttr,l02Ok.fv];intro hg;simp only[AO];refine⟨λc1 ht=>⟨λc2 _=>⟨λc3=> ?_,λc3=> ?_⟩,λc2=> ?_⟩,λc1=> ?_⟩
 .have: ¬(a.Tiles.length:Int)<=160:=by omega
  simp[DT,AX,this]
 .have c0:DT a=(Lh a 0 a.Glues && J9 a 0 a.Tiles):=by
   have e1:a.Glues.length<=200:=by omega
   have e2:(1:Int)<=a.Tiles.length:=by omega
   have e3:(a.Tiles.length:Int)<=160:=by omega
   simp[DT,AX,e1,e2,e3]
  refine AT.old ⟨{k:Nat//k<=a.Glues.length/\Lh a k (a.Glues.drop k)=Lh a 0 a.Glues},λk=>⟨[(3,.im (.int .i64 k.1)),(2,.im (.bool false)),(0,.ptr 0 0)],[(0,(false,.view (Az.c a)))],1⟩,λk=>a.Glues.length - k.1,λk=>⟨by simp[ZG],AL _⟩,⟨⟨0,by simp⟩,by simp only[ZA,simprocAttr,sub]⟩,λk=> ?_⟩;obtain⟨k,ab,z⟩:=k;simp only[ZA,simprocAttr,spec_IsName.q,spec_IsName.fv,l00In.q,l00In.fv,l02Glue.q,l02Glue.fv,sub,AO];intro _;refine⟨λhk=>⟨hk,λx hx=> ?_⟩,λhk=> ?_⟩
  .rw[F5 hx,Lh] at z;have O:(IL x.Name && (AX x.Strength 1 4 && decide (BO (λg:Am=>decide (g.Name=x.Name)) 0 a.Glues=k)))=false->false=DT a:=by
    intro h;rw[h,Gf] at z;rw[c0,<-z];rfl
   refine⟨λh1=>⟨λh2=>⟨λZ=> ?_,λZ=>GI hk hg ⟨by omega,?_⟩⟩,λh2=>O (by simp[h2])⟩,λh1=>O (by simp[h1])⟩
   .rw[AD (by omega) (by omega)] at Z;exact O (by simp;intro _ _;omega)
   .rw[Ha,AD (by omega) (by omega)] at Z;have h4:BO (λg:Am=>decide (g.Name=x.Name)) 0 a.Glues=k:=by omega
    rw[h1,h2,h4] at z;simpa using z
  .rw[CS (by omega),Lh] at z;have c9:DT a=J9 a 0 a.Tiles:=by rw[c0,<-z,Eg]
   refine AT.old ⟨{k:Nat//k<=a.Tiles.length/\J9 a k (a.Tiles.drop k)=J9 a 0 a.Tiles},λk=>⟨[(5,.im (.int .i64 k.1)),(2,.im (.bool false)),(0,.ptr 0 0)],[(0,(false,.view (Az.c a)))],1⟩,λk=>a.Tiles.length - k.1,λk=>⟨by simp[ZG],AL _⟩,⟨⟨0,by simp⟩,by simp only[ZA,simprocAttr,sub]⟩,λk=> ?_⟩;obtain⟨k,ab,z⟩:=k;simp only[ZA,simprocAttr,spec_IsName.q,spec_IsName.fv,l02Tile.q,l02Tile.fv,AO];intro _;refine⟨λhk=>⟨hk,λx hx=> ?_⟩,λhk=> ?_⟩
   .rw[F5 hx,J9] at z;have O:(IL x.Name && (decide (x.Sides.length=4) && (decide (BO (λy:Tile=>decide (y.Name=x.Name)) 0 a.Tiles=k) && x.Sides.all (λg=>AX g 0 a.Glues.length))))=false->false=DT a:=by
     intro h;rw[h,Gf] at z;rw[c9,<-z]
    refine⟨λh1 hs=>⟨λh2=>⟨λZ=>O (by simp[Z]),λZ=> ?_⟩,λh2=>O (by simp;intro _ h9;omega)⟩,λh1=>O (by simp[h1])⟩;rw[Ha] at Z;have aa:x.Sides.length=4:=by omega
    refine AT.old ⟨{j:Nat//j<=4/\(x.Sides.drop j).all (λg=>AX g 0 a.Glues.length)=x.Sides.all (λg=>AX g 0 a.Glues.length)},λj=>⟨[(7,.im (.int .i64 j.1)),(5,.im (.int .i64 k)),(6,.ptr 1 0),(2,.im (.bool false)),(0,.ptr 0 0)],[(1,(true,.cells 208 ((Tile.c x).map .im))),(0,(false,.view (Az.c a)))],2⟩,λj=>4 - j.1,λj=>⟨by simp[ZG,Tile.c],by simp⟩,⟨⟨0,by simp⟩,by simp only[ZA,simprocAttr,sub]⟩,λj=> ?_⟩;obtain⟨j,ad,Q⟩:=j;simp only[ZA,simprocAttr,l00In.q,l00In.fv,sub,AO];refine⟨λhj=>⟨by omega,λy hy=> ?_⟩,λhj=>GI hk ht ⟨by omega,?_⟩⟩
    .rw[F5 hy,JL] at Q;refine⟨λh=>O ?_,λh=>⟨⟨j+1,by omega,?_⟩,by simp only;omega,?_⟩⟩
     .rw[h,Gf] at Q;rw[<-Q];simp
     .rw[Im] at h;rw[h,Eg] at Q;exact Q
     .rw[AD (by omega) (by omega)];simp only;omega
    .rw[CS (by omega)] at Q;rw[<-z,<-Q,h1,aa,Z];simp
   .rw[CS (by omega),J9] at z;rw[c9,<-z]
 .have: ¬(1:Int)<=a.Tiles.length:=by omega
  simp[DT,AX,this]
 .have: ¬a.Glues.length<=200:=by omega
  simp[DT,this]
def VS1.fv(a:Int×Az):Bool:=(λg s=> !AX g 0 s.Glues.length) (a.1) (a.2)
def VS1.row:A7:=vK (b2 qI (qP 2 Az.d_le)) rB (λa=>True) VS1.fv
def VS1.q:=AY (R:=VS1.row) rfl
def VS1.ok:AC 139 VS1.row:=by
 refine vw (tC within_.ok tN) Tryz.func139 ?_;intro a z;simp only[Tryz.f139];simp only[ZA,simprocAttr,VS1.fv,within_.q,within_.fv];intro _;trivial
def IdxVS.ar:List PK->Option ((List Int)×Az)
 |[.val (.sl _ _ Q),.val (.fn 139 [] [.ref z])]=>(AR Da Q).bind λZ=>(Az.d (z.take 2)).bind λO=>some (Z,O)
 |_=>none
def IdxVS.ae(a:(List Int)×Az):List PK:=[.val (.sl false 1 (a.1.map Al)),.val (.fn 139 [] [.ref (Az.c a.2)])]
def IdxVS.le: ∀O a,IdxVS.ar O=some a->Ca O (IdxVS.ae a):=by
 intro O a h;unfold IdxVS.ar at h;split at h
 .simp only[EP,AI] at h;obtain⟨Z,h0,Q,z,rfl⟩:=h;exact⟨Ed (DQ Fh _ _ h0) (by simp only[Bo];rintro r ⟨y,_,rfl⟩;rfl),WV ⟨WK (GB.trans_take (Az.d_le _ _ z)),trivial⟩,trivial⟩
 .cases h
def IdxVS.fv(a:(List Int)×Az):Int:=(λl s=>BO (λg=> !AX g 0 s.Glues.length) 0 l) (a.1) (a.2)
def IdxVS.row:A7:=DO IdxVS.ar (λa=>True) (λa=>(D.int .i64) (IdxVS.fv a))
def IdxVS.q:=vq IdxVS.row rfl
def IdxVS.ok:AC 137 IdxVS.row:=by
 refine Zz Dd (tC VS1.ok tN) Tryz.func137 rfl (by kernel_rfl) (by kernel_rfl) (ar:=IdxVS.ar) (ae:=IdxVS.ae) IdxVS.le (n:=2) (λ_=>rfl) (by decide) (rc:=(Ez)) (re:=(D.int .i64)) (Vu) (f:=IdxVS.fv) ?_;intro a Q;simp only[Tryz.f137];simp only[ZA,simprocAttr,IdxVS.ae,IdxVS.fv];intro hn;refine AT.old ⟨{k:Nat//k<=a.1.length/\BO (λg:Int=> !AX g 0 a.2.Glues.length) k (a.1.drop k)=BO (λg:Int=> !AX g 0 a.2.Glues.length) 0 a.1},λk=>⟨[(8,.im (.int .i64 k.1)),(7,.im (.int .i64 a.1.length)),(6,.im (.sl false 1 (a.1.map Al))),(4,.im (.int .i64 0)),(0,.im (.sl false 1 (a.1.map Al))),(1,.im (.fn 139 [] [.ref (Az.c a.2)]))],[],0⟩,λk=>a.1.length - k.1,λk=>⟨by simp[ZG],AL _⟩,⟨⟨0,by simp⟩,by simp only[ZA,simprocAttr,sub]⟩,λk=> ?_⟩;obtain⟨k,Z,z⟩:=k;simp only[ZA,simprocAttr,VS1.q,VS1.fv,sub,AO];refine⟨λO=>⟨O,λx hx=> ?_⟩,λO=> ?_⟩
 .rw[F5 hx,BO] at z;refine⟨λh=> ?_,λh=>GI O hn ⟨by omega,by rw[<-z,Af (by simpa using h)]⟩⟩;rw[Ai (by simpa using h)] at z;exact z
 .rw[CS (by omega),BO] at z;exact z
def ContVS.ar:List PK->Option ((List Int)×Az)
 |[.val (.sl _ _ Q),.val (.fn 139 [] [.ref z])]=>(AR Da Q).bind λZ=>(Az.d (z.take 2)).bind λO=>some (Z,O)
 |_=>none
def ContVS.ae(a:(List Int)×Az):List PK:=[.val (.sl false 1 (a.1.map Al)),.val (.fn 139 [] [.ref (Az.c a.2)])]
def ContVS.le: ∀O a,ContVS.ar O=some a->Ca O (ContVS.ae a):=by
 intro O a h;unfold ContVS.ar at h;split at h
 .simp only[EP,AI] at h;obtain⟨Z,h0,Q,z,rfl⟩:=h;exact⟨Ed (DQ Fh _ _ h0) (by simp only[Bo];rintro r ⟨y,_,rfl⟩;rfl),WV ⟨WK (GB.trans_take (Az.d_le _ _ z)),trivial⟩,trivial⟩
 .cases h
def ContVS.fv(a:(List Int)×Az):Bool:=(λl s=>l.any (λg=> !AX g 0 s.Glues.length)) (a.1) (a.2)
def ContVS.row:A7:=DO ContVS.ar (λa=>True) (λa=>(D.bool) (ContVS.fv a))
def ContVS.q:=vq ContVS.row rfl
def ContVS.ok:AC 97 ContVS.row:=by
 refine Zz Dd (tC IdxVS.ok tN) Tryz.func97 rfl (by kernel_rfl) (by kernel_rfl) (ar:=ContVS.ar) (ae:=ContVS.ae) ContVS.le (n:=2) (λ_=>rfl) (by decide) (rc:=(Vv)) (re:=(D.bool)) (lE) (f:=ContVS.fv) ?_;intro a z;simp only[Tryz.f97];simp only[ZA,simprocAttr,ContVS.ae,ContVS.fv,IdxVS.q,IdxVS.ar,IdxVS.fv];exact Qsr _ _
def JG(z:List ByteArray):List (D×D):=z.map λn=>(.str n,.bool true)
def xN(n m:ByteArray):(n==m)=decide (n=m):=by
 rw[Qpj]
def Ml(n:ByteArray): ∀(z:List ByteArray),(n∈z->lk (JG z) (.str n)=some (.bool true))/\(n∉z->lk (JG z) (.str n)=none)
 |[]=>⟨λh=>by simp at h,λ_=>rfl⟩
 |m::r=>by
  obtain⟨O,Q⟩:=Ml n r;simp only[JG] at O Q;simp only[JG,Bf,lk,D.beq,Bh,xN];by_cases h:n=m
  .simp[h]
  .simp only[h,Zfl,Bm,false_or];exact⟨O,Q⟩
def Qum(n:ByteArray)(O:List ByteArray)(Ks:D->Prop)(Kn:Prop):FS (JG O) (.str n) Ks Kn=((n∈O->Ks (.bool true))/\(n∉O->Kn)):=by
 obtain⟨i1,i2⟩:=Ml n O;apply propext;unfold FS;constructor
 .rintro⟨Q,Z⟩;exact⟨λh=>Q _ (i1 h),λh=>Z (i2 h)⟩
 .rintro⟨Q,Z⟩;by_cases h:n∈O
  .refine⟨λv z=> ?_,λz=> ?_⟩
   .rw[i1 h] at z;exact Ay z▸Q h
   .rw[i1 h] at z;cases z
  .refine⟨λv z=> ?_,λ_=>Z h⟩;rw[i2 h] at z;cases z
def Qru(n:ByteArray): ∀(z:List ByteArray),n∉z->Gy (JG z) (.str n) (.bool true)=JG (z++[n])
 |[],_=>rfl
 |m::r,h=>by
  simp only[Bh,aS] at h
  have:=Qru n r h.2
  simp only[JG] at this;simp only[JG,Bf,Gy,D.beq,xN,h.1,Zfl,Bm,CO,this]
def oT{A:Type}(f:A->ByteArray)(l:List A)(k:Nat)(x:A)(hx:l[k]? =some x):BO (λy=>decide (f y=f x)) 0 l=(k:Int)↔f x∉(l.take k).map f:=by
 constructor
 .intro h hm;obtain⟨y,hy,Q⟩:=Bo.1 hm;obtain⟨i,Z,ab⟩:=gC.1 hy;have ac:i<k:=by simp at Z;omega
  have aa:l[i]? =some y:=by
   rw[<-ab,List.getElem_take];exact Bi _
  have O: ∀(l:List A) (o i:Nat) (y:A),l[i]? =some y->(decide (f y=f x))=true->BO (λy=>decide (f y=f x)) o l<=((o+i:Nat):Int):=by
   intro l;induction l with
   |nil=>intro o i y h;simp at h
   |cons z r ih=>
    intro o i y h hp;simp only[BO];split
    .omega
    .rename_i hz;cases i with
     |zero=>
      simp only[G6,AI] at h;subst h;exact absurd hp hz
     |succ i=>
      have:=ih (o+1) i y (by simpa using h) hp
      omega
  have:=O l 0 i y aa (by simpa using Q)
  omega
 .intro h;rw[Qtf _ l 0 k x hx (by simp) ?_]
  .simp
  .intro i y Z hy;simp only[Iu];intro Q;apply h;rw[<-Q];refine Bo.2 ⟨y,?_,rfl⟩;exact AZ (i:=i) (by rw[Lv,Ai Z];exact hy)
def Qf(s:Az):Prop:=(∀g∈s.Glues,g.Name.size<=140737488355328)/\ ∀t∈s.Tiles,t.Name.size<=140737488355328
def ValidSet_.fv(a:Az):Bool:=(DT) a
def ValidSet_.row:A7:=vK (b1 (qR Az.d_le)) rB (λa=>Qf a) ValidSet_.fv
def ValidSet_.q:=AY (R:=ValidSet_.row) rfl
def ValidSet_.ok:AC 99 ValidSet_.row:=by
 refine vw (tC within_.ok (tC impl_IsName.ok (tC ContVS.ok tN))) Tryz.func99 ?_;intro a ab;simp only[Tryz.f99];simp only[ZA,simprocAttr,ValidSet_.fv,within_.q,within_.fv];obtain⟨ad,af⟩:=ab;intro hg;simp only[AO];refine⟨λc1 ht=>⟨λc2=> ?_,λc2 _=> ?_⟩,λc1=> ?_⟩
 .simp[DT,c2]
 .rw[Im] at c2;have c0:DT a=(Lh a 0 a.Glues && J9 a 0 a.Tiles):=by
   have e1:a.Glues.length<=200:=by omega
   simp[DT,e1,c2]
  refine AT.old ⟨{k:Nat//k<=a.Glues.length/\Lh a k (a.Glues.drop k)=Lh a 0 a.Glues},λk=>⟨[(24,.im (.int .i64 k.1)),(23,.im (.int .i64 a.Glues.length)),(22,.im (.sl false 2 (a.Glues.map Am.c))),(3,.mp 1),(1,.ptr 0 0),(2,.im (.bool false))],[(1,(true,.map ⟨false,[.str]⟩ (JG ((a.Glues.take k.1).map Am.Name)))),(0,(true,.cells 46 ((Az.c a).map .im)))],2⟩,λk=>a.Glues.length - k.1,λk=>⟨by simp[ZG,Az.c],AL _⟩,⟨⟨0,by simp⟩,by simp only[ZA,simprocAttr,sub,JG]⟩,λk=> ?_⟩;obtain⟨k,ac,z⟩:=k;simp only[ZA,simprocAttr,within_.q,within_.fv,impl_IsName.q,impl_IsName.fv,sub,AO,Qum];refine⟨λhk=>⟨hk,λx Z=>⟨ad x (AZ Z),?_⟩⟩,λhk _=> ?_⟩
  .rw[F5 Z,Lh] at z;have hu:=oT Am.Name a.Glues k x Z;have O:(IL x.Name && (AX x.Strength 1 4 && decide (BO (λg:Am=>decide (g.Name=x.Name)) 0 a.Glues=k)))=false->false=DT a:=by
    intro h;rw[h,Gf] at z;rw[c0,<-z];rfl
   refine⟨λh1=>⟨λQ=>O ?_,λQ=>⟨λh3=>O (by simp[h3]),λh3=>⟨⟨k+1,by omega,?_⟩,by simp only;omega,?_,?_⟩⟩⟩,λh1=>O (by simp[h1])⟩
   .simp only[Zec,Iu];exact .inr (.inr λh9=>(hu.1 h9) Q)
   .rw[Im] at h3;rw[h1,h3,hu.2 Q] at z;simpa using z
   .rw[AD (by omega) (by omega)];simp only;omega
   .rw[Qru _ _ Q,Ip,Z];simp
  .rw[CS (by omega),Lh] at z;have c9:DT a=J9 a 0 a.Tiles:=by rw[c0,<-z,Eg]
   refine AT.frz [0] ⟨{k:Nat//k<=a.Tiles.length/\J9 a k (a.Tiles.drop k)=J9 a 0 a.Tiles},λk=>⟨[(52,.im (.int .i64 k.1)),(51,.im (.int .i64 a.Tiles.length)),(50,.im (.sl false 2 (a.Tiles.map Tile.c))),(6,.mp 2),(1,.ptr 0 0),(2,.im (.bool false))],[(2,(true,.map ⟨false,[.str]⟩ (JG ((a.Tiles.take k.1).map Tile.Name)))),(0,(false,.cells 46 ((Az.c a).map .im)))],3⟩,λk=>a.Tiles.length - k.1,λk=>⟨by simp[ZG,Az.c],AL _⟩,⟨⟨0,by simp⟩,by simp only[ZA,simprocAttr,sub,JG]⟩,λk=> ?_⟩;obtain⟨k,ac,z⟩:=k;simp only[ZA,simprocAttr,impl_IsName.q,impl_IsName.fv,ContVS.q,ContVS.ar,ContVS.fv,sub,AO,Qum];refine⟨λhk=>⟨hk,λx Z=>⟨af x (AZ Z),?_⟩⟩,λhk=> ?_⟩
   .rw[F5 Z,J9] at z;have hu:=oT Tile.Name a.Tiles k x Z;have O:(IL x.Name && (decide (x.Sides.length=4) && (decide (BO (λy:Tile=>decide (y.Name=x.Name)) 0 a.Tiles=k) && x.Sides.all (λg=>AX g 0 a.Glues.length))))=false->false=DT a:=by
     intro h;rw[h,Gf] at z;rw[c9,<-z]
    have aa:(x.Sides.any λg=> !AX g 0 a.Glues.length)= !x.Sides.all (λg=>AX g 0 a.Glues.length):=by
     simp[List.not_all_eq_any_not]
    rw[aa];refine⟨λh1=>⟨λQ=>O ?_,λQ _=>⟨λh3=>O ?_,λh3=>⟨λh4=>O ?_,λh4=>⟨⟨k+1,by omega,?_⟩,by simp only;omega,?_,?_⟩⟩⟩⟩,λh1=>O (by simp[h1])⟩
    .simp only[Zec,Iu];exact .inr (.inr (.inl λh9=>(hu.1 h9) Q))
    .have: ¬x.Sides.length=4:=by omega
     simp[this]
    .simp only[Rl] at h4;simp only[h4,nL]
    .have h5:x.Sides.length=4:=by omega
     simp only[Rl,Im] at h4;rw[h1,h5,hu.2 Q,h4] at z;simpa using z
    .rw[AD (by omega) (by omega)];simp only;omega
    .rw[Qru _ _ Q,Ip,Z];simp
   .rw[CS (by omega),J9] at z;rw[c9,<-z]
 .have: ¬a.Glues.length<=200:=by omega
  simp[DT,this]
def D1(s:Az)(a:Ad):Bool:=(De none a.Tiles && decide (a.Tiles.length<=500)) && a.Tiles.all (λx=>AX x.Tile 0 (s.Tiles.length - 1))
def ValidAssembly_.fv(a:Az×Ad):Bool:=(λs a=>DT s && D1 s a) (a.1) (a.2)
def ValidAssembly_.row:A7:=vK (b2 (qR Az.d_le) (qR Ad.d_le)) rB (λa=>Qf a.1) ValidAssembly_.fv
def ValidAssembly_.q:=AY (R:=ValidAssembly_.row) rfl
def ValidAssembly_.ok:AC 58 ValidAssembly_.row:=by
 refine vw (tC ValidSet_.ok (tC hasForm_.ok (tC ContVA.ok tN))) Tryz.func58 ?_;intro a z;simp only[Tryz.f58];simp only[ZA,simprocAttr,Ad.d,ValidAssembly_.fv,ValidSet_.q,ValidSet_.fv,hasForm_.q,hasForm_.fv,ContVA.q,ContVA.ar,ContVA.fv];refine⟨z,?_⟩
 split<;>rename_i Q
 .split<;>rename_i O
  .simp[Q,D1,O.1,O.2,List.not_any_eq_all_not]
  .have Z:(De none a.2.Tiles && decide (a.2.Tiles.length<=500))=false:=by
    rw[Qr];intro h;simp only[AN,Bq] at h;exact O h
   simp[D1,Z]
 .simp[Q]
def comparePlaced.fv(a:Aj×Ac):Int:=(λa p=>Qg [Fs a.At.Y p.Y,Fs a.At.X p.X]) (a.1) (a.2)
def comparePlaced.row:A7:=vK (b2 (qR Aj.d_le) (qR Ac.d_le)) rI (λa=>True) comparePlaced.fv
def comparePlaced.q:=AY (R:=comparePlaced.row) rfl
def comparePlaced.ok:AC 72 comparePlaced.row:=by
 refine vw (tC comparePoints.ok tN) Tryz.func72 ?_;intro a z;simp only[Tryz.f72];simp only[ZA,simprocAttr,comparePlaced.fv,comparePoints.q,comparePoints.fv]
def ET(l:List Aj)(p:Ac):Nat:=(l.takeWhile (λx=>Bl x.At p)).length
def Qyx(p:Ac): ∀(l:List Aj) (lo:Nat),lo<=l.length->(∀(i:Nat) (x:Aj),i<lo->l[i]? =some x->Bl x.At p=true)->(∀(i:Nat) (x:Aj),lo<=i->l[i]? =some x->Bl x.At p=false)->ET l p=lo
 |[],lo,h,_,_=>by simp at h;simp[ET,h]
 |x::r,0,_,_,h=>by
  have:=h 0 x (by omega) (by simp)
  simp[ET,this]
 |x::r,lo+1,hl,O,Z=>by
  have h3:=O 0 x (by omega) (by simp);have Q:=Qyx p r lo (by simpa using hl) (λi y hi z=>O (i+1) y (by omega) (by simpa using z)) (λi y hi z=>Z (i+1) y (by omega) (by simpa using z));simp only[ET] at Q;simp[ET,h3,Q]
def RD(a b:Ac):(Qg [Fs a.Y b.Y,Fs a.X b.X]<0)↔Bl a b=true:=by
 simp only[Bl,Qg,Fs]
 grind
def iI(a b:Ac):(Qg [Fs a.Y b.Y,Fs a.X b.X]=0)↔a=b:=by
 obtain⟨x,y⟩:=a;obtain⟨z,w⟩:=b;simp only[Qg,Fs,Ac.mk.injEq]
 grind
def midU(lo z:Nat)(h:lo+z<=562949953421312):IntKind.wrap .i64 ((IntKind.wrap .u64 (IntKind.wrap .i64 ((lo:Int)+z))).fdiv (2^min 1 IntKind.u64.bits))=(((lo+z)/2:Nat):Int):=by
 rw[AD (x:=(lo:Int)+z) (by omega) (by omega)];have O:IntKind.wrap .u64 ((lo:Int)+z)=(lo:Int)+z:=by
  simp only[IntKind.wrap,IntKind.signed,IntKind.bits];simp;omega
 have Q:(2:Int)^min 1 IntKind.u64.bits=2:=by decide
 rw[O,Q,Zew _ (by omega),AD (by omega) (by omega)];omega
def BinP.ar:List PK->Option ((List Aj)×Ac×Unit)
 |[.val (.sl _ _ z),.val (.agg O),.val (.fn 72 [] [])]=>(AR Aj.d z).bind λQ=>(Ac.d O).bind λZ=>some (Q,Z,())
 |_=>none
def BinP.ae(a:(List Aj)×Ac×Unit):List PK:=[.val (.sl false 3 (a.1.map Aj.c)),.val (.agg (Ac.c a.2.1)),.val (.fn 72 [] [])]
def BinP.le: ∀z a,BinP.ar z=some a->Ca z (BinP.ae a):=by
 intro z a h;unfold BinP.ar at h;split at h
 .simp only[EP,AI] at h;obtain⟨Q,h0,Z,O,rfl⟩:=h;exact⟨Ed (DQ Aj.d_le _ _ h0) (by simp only[Bo];rintro r ⟨y,_,rfl⟩;rfl),sP (Ac.d_le _ _ O),C7.refl _,trivial⟩
 .cases h
def BinP.fv(a:(List Aj)×Ac×Unit):Int×Bool:=(λl p _=>((ET l p:Int),l.any (λx=>decide (x.At=p)))) (a.1) (a.2.1) (a.2.2)
def BinP.row:A7:=DO BinP.ar (λa=>De none a.1=true) (λa=>(λb=>D.tup [(D.int .i64) (b.1),(D.bool) (b.2)]) (BinP.fv a))
def BinP.q:=vq BinP.row rfl
def BinP.ok:AC 71 BinP.row:=by
 refine Zz Dd (tC comparePlaced.ok tN) Tryz.func71 rfl (by kernel_rfl) (by kernel_rfl) (ar:=BinP.ar) (ae:=BinP.ae) BinP.le (n:=3) (λ_=>rfl) (by decide) (rc:=(lO (Ez) (Vv))) (re:=(λb=>D.tup [(D.int .i64) (b.1),(D.bool) (b.2)])) (Qbz (Vu) (lE)) (f:=BinP.fv) ?_;intro a af;simp only[Tryz.f71];simp only[ZA,simprocAttr,BinP.ae,BinP.fv];intro hn;refine AT.old ⟨{p:Nat×Nat//p.1<=p.2/\p.2<=a.1.length/\(∀i x,i<p.1->a.1[i]? =some x->Bl x.At a.2.1=true)/\(∀i x,p.2<=i->a.1[i]? =some x->Bl x.At a.2.1=false)},λp=>⟨[(9,.im (.int .i64 p.1.1)),(10,.im (.int .i64 p.1.2)),(8,.im (.int .i64 a.1.length)),(6,.im (.int .i64 0)),(7,.im (.bool false)),(4,.ptr 0 0),(0,.im (.sl false 3 (a.1.map Aj.c))),(2,.im (.fn 72 [] []))],[(0,(true,.cells 56 [.im (.int .i64 a.2.1.X),.im (.int .i64 a.2.1.Y)]))],1⟩,λp=>p.1.2 - p.1.1,λp=>⟨by simp[ZG],AL _⟩,⟨⟨(0,a.1.length),by simp,by simp,by simp,?_⟩,by simp only[ZA,simprocAttr,sub]⟩,λp=> ?_⟩
 .intro i x hi Z
  have:=(BW.1 Z).1
  simp only at hi;omega
 obtain⟨⟨lo,hi⟩,h1,h2,h3,h4⟩:=p;simp only at h1 h2 h3 h4;simp only[ZA,simprocAttr,comparePlaced.q,comparePlaced.fv,sub,AO];obtain⟨_,Q⟩:=lJ _ _ af;have ad: ∀(i:Nat) (x:Aj),i<lo->a.1[i]? =some x->x.At≠a.2.1:=by
  intro i x hi Z he
  have:=h3 i x hi Z
  rw[he,mE] at this;cases this
 rw[midU lo hi (by omega)];simp only[RD,iI];refine⟨λag=> ?_,λag=>⟨λhl=>⟨hl,λx Z=> ?_⟩,λhl=> ?_⟩⟩
 .refine⟨by omega,by omega,λx Z=>⟨λhb=> ?_,λhb=> ?_⟩⟩
  .rw[B8] at Z;refine⟨⟨((lo+hi)/2+1,hi),by simp only;omega,h2,λi y O hy=> ?_,h4⟩,by simp only;omega,?_,rfl⟩
   .simp only at O;rcases ER i ((lo+hi)/2) with h|h
    .exact eO (Q i _ y x h hy Z) hb
    .have:i=(lo+hi)/2:=by omega
     subst this;rw[Z] at hy;exact Ay hy▸hb
   .rw[AD (by omega) (by omega)];simp only;omega
  .rw[B8] at Z;refine⟨⟨(lo,(lo+hi)/2),by simp only;omega,by simp only;omega,h3,λi y O hy=> ?_⟩,by simp only;omega,rfl,rfl⟩;simp only at O;rcases ER ((lo+hi)/2) i with h|h
   .cases hl:Bl y.At a.2.1 with
    |false=>rfl
    |true=>exact absurd (eO (Q _ i x y h Z hy) hl) hb
   .have:i=(lo+hi)/2:=by omega
    subst this;rw[Z] at hy;obtain rfl:=Ay hy;simpa using hb
 .have aa:=Qyx a.2.1 a.1 lo (by omega) h3 (λi y O hy=>h4 i y (by omega) hy);refine⟨by rw[aa],?_⟩;rw[Xi];simp only[Bq,List.any_eq_true];refine⟨λhe=>⟨x,AZ Z,he⟩,?_⟩;rintro⟨y,hy,he⟩;obtain⟨i,O,ac⟩:=gC.1 hy;have z:a.1[i]? =some y:=by rw[Bi O,ac]
  rcases nP i lo with h|h|h
  .exact absurd he (ad i y h z)
  .subst h;rw[Z] at z;exact Ay z▸he
  .have ab:=Q lo i x y h Z z;rw[he] at ab
   have:=h4 lo x (by omega) Z
   rw[this] at ab;cases ab
 .have aa:=Qyx a.2.1 a.1 lo (by omega) h3 (λi y O hy=>h4 i y (by omega) hy);refine⟨by rw[aa],?_⟩;symm;simp only[List.any_eq_false,Bq];intro y hy he;obtain⟨i,O,ac⟩:=gC.1 hy;have z:a.1[i]? =some y:=by rw[Bi O,ac]
  exact ad i y (by omega) z he
def Om{l:List Aj}{p:Ac}(h:De none l=true){i:Nat}{x:Aj}(Q:l[i]? =some x)(Z:x.At=p):ET l p=i:=by
 obtain⟨_,z⟩:=lJ _ _ h;have hi:=(BW.1 Q).1;refine Qyx p l i (by omega) (λj y hj O=> ?_) (λj y hj O=> ?_)
 .have:=z j i y x hj O Q
  rwa [Z] at this
 .rcases ER i j with h1|h1
  .have h2:=z i j x y h1 Q O;rw[Z] at h2;cases h3:Bl y.At p with
   |false=>rfl
   |true=>
    have:=eO h2 h3
    rw[mE] at this;cases this
  .have:j=i:=by omega
   subst this;rw[Q] at O;obtain rfl:=Ay O;rw[Z,mE]
def Rq{l:List Aj}{p:Ac}(h:De none l=true):(l.any (λx=>decide (x.At=p))=true/\ ∃x,l[ET l p]? =some x/\x.At=p/\l.find? (λx=>decide (x.At=p))=some x/\BO (λx=>decide (x.At=p)) 0 l=(ET l p:Int))\/
 (l.any (λx=>decide (x.At=p))=false/\l.find? (λx=>decide (x.At=p))=none/\BO (λx=>decide (x.At=p)) 0 l= -1):=by
 rcases ZE (λx=>decide (x.At=p)) l 0 with ⟨z,O⟩|⟨i,x,z,O,Q⟩
 .refine .inr ⟨?_,z,O⟩;simpa[aL] using z
 .have Z:x.At=p:=by simpa using gV z
  have hb:=Om h Q Z;refine .inl ⟨?_,x,by rw[hb];exact Q,Z,z,by rw[O,hb,FP]⟩;simp only[List.any_eq_true,Bq];exact⟨x,AZ Q,Z⟩
def placeAt.rc:D->Option (Int):=Ez
def placeAt.re:Int->D:=D.int .i64
def placeAt.rle: ∀d b,placeAt.rc d=some b->Le d (placeAt.re b):=Vu
def placeAt.fv(a:Ad×Ac):Int:=(λa p=>BO (λx=>decide (x.At=p)) 0 a.Tiles) (a.1) (a.2)
def placeAt.row:A7:=vK (b2 (qR Ad.d_le) (qR Ac.d_le)) (RK.mk placeAt.rc placeAt.re placeAt.rle) (λa=>De none a.1.Tiles=true) placeAt.fv
def placeAt.q:=AY (R:=placeAt.row) rfl
def placeAt.ok:AC 235 placeAt.row:=by
 refine vw (tC BinP.ok tN) Tryz.func235 ?_;intro a z;simp only[Tryz.f235];simp only[ZA,simprocAttr,placeAt.fv,placeAt.rc,BinP.q,BinP.ar,BinP.fv];refine⟨z,?_⟩;rcases Rq (p:=a.2) z with ⟨O,x,Z,Q,h4,h5⟩|⟨O,Z,Q⟩
 .rw[Ai O,h5]
 .rw[O,Af (by simp),Q]
def fO(s:AE)(g:Int):Bool:= !AX g (-1) (s.Small.Set.Tiles.length - 1)
def VM1.fv(a:Int×AE):Bool:=(λg s=>fO s g) (a.1) (a.2)
def VM1.row:A7:=vK (b2 qI (qP 10 AE.d_le)) rB (λa=>True) VM1.fv
def VM1.q:=AY (R:=VM1.row) rfl
def VM1.ok:AC 98 VM1.row:=by
 refine vw (tC within_.ok tN) Tryz.func98 ?_;intro a z;simp only[Tryz.f98];simp only[ZA,simprocAttr,VM1.fv,within_.q,within_.fv];intro h;rw[AD (by omega) (by omega)];rfl
def IdxVM.ar:List PK->Option ((List Int)×AE)
 |[.val (.sl _ _ Q),.val (.fn 98 [] [.ref z])]=>(AR Da Q).bind λZ=>(AE.d (z.take 10)).bind λO=>some (Z,O)
 |_=>none
def IdxVM.ae(a:(List Int)×AE):List PK:=[.val (.sl false 1 (a.1.map Al)),.val (.fn 98 [] [.ref (AE.c a.2)])]
def IdxVM.le: ∀O a,IdxVM.ar O=some a->Ca O (IdxVM.ae a):=by
 intro O a h;unfold IdxVM.ar at h;split at h
 .simp only[EP,AI] at h;obtain⟨Z,h0,Q,z,rfl⟩:=h;exact⟨Ed (DQ Fh _ _ h0) (by simp only[Bo];rintro r ⟨y,_,rfl⟩;rfl),WV ⟨WK (GB.trans_take (AE.d_le _ _ z)),trivial⟩,trivial⟩
 .cases h
def IdxVM.fv(a:(List Int)×AE):Int:=(λl s=>BO (fO s) 0 l) (a.1) (a.2)
def IdxVM.row:A7:=DO IdxVM.ar (λa=>True) (λa=>(D.int .i64) (IdxVM.fv a))
def IdxVM.q:=vq IdxVM.row rfl
def IdxVM.ok:AC 137 IdxVM.row:=by
 refine Zz Dd (tC VM1.ok tN) Tryz.func137 rfl (by kernel_rfl) (by kernel_rfl) (ar:=IdxVM.ar) (ae:=IdxVM.ae) IdxVM.le (n:=2) (λ_=>rfl) (by decide) (rc:=(Ez)) (re:=(D.int .i64)) (Vu) (f:=IdxVM.fv) ?_;intro a Q;simp only[Tryz.f137];simp only[ZA,simprocAttr,IdxVM.ae,IdxVM.fv];intro hn;refine AT.old ⟨{k:Nat//k<=a.1.length/\BO (fO a.2) k (a.1.drop k)=BO (fO a.2) 0 a.1},λk=>⟨[(8,.im (.int .i64 k.1)),(7,.im (.int .i64 a.1.length)),(6,.im (.sl false 1 (a.1.map Al))),(4,.im (.int .i64 0)),(0,.im (.sl false 1 (a.1.map Al))),(1,.im (.fn 98 [] [.ref (AE.c a.2)]))],[],0⟩,λk=>a.1.length - k.1,λk=>⟨by simp[ZG],AL _⟩,⟨⟨0,by simp⟩,by simp only[ZA,simprocAttr,sub]⟩,λk=> ?_⟩;obtain⟨k,Z,z⟩:=k;simp only[ZA,simprocAttr,VM1.q,VM1.fv,sub,AO];refine⟨λO=>⟨O,λx hx=> ?_⟩,λO=> ?_⟩
 .rw[F5 hx,BO] at z;refine⟨λh=> ?_,λh=>GI O hn ⟨by omega,by rw[<-z,Af (by simpa using h)]⟩⟩;rw[Ai (by simpa using h)] at z;exact z
 .rw[CS (by omega),BO] at z;exact z
def ContVM.ar:List PK->Option ((List Int)×AE)
 |[.val (.sl _ _ Q),.val (.fn 98 [] [.ref z])]=>(AR Da Q).bind λZ=>(AE.d (z.take 10)).bind λO=>some (Z,O)
 |_=>none
def ContVM.ae(a:(List Int)×AE):List PK:=[.val (.sl false 1 (a.1.map Al)),.val (.fn 98 [] [.ref (AE.c a.2)])]
def ContVM.le: ∀O a,ContVM.ar O=some a->Ca O (ContVM.ae a):=by
 intro O a h;unfold ContVM.ar at h;split at h
 .simp only[EP,AI] at h;obtain⟨Z,h0,Q,z,rfl⟩:=h;exact⟨Ed (DQ Fh _ _ h0) (by simp only[Bo];rintro r ⟨y,_,rfl⟩;rfl),WV ⟨WK (GB.trans_take (AE.d_le _ _ z)),trivial⟩,trivial⟩
 .cases h
def ContVM.fv(a:(List Int)×AE):Bool:=(λl s=>l.any (fO s)) (a.1) (a.2)
def ContVM.row:A7:=DO ContVM.ar (λa=>True) (λa=>(D.bool) (ContVM.fv a))
def ContVM.q:=vq ContVM.row rfl
def ContVM.ok:AC 97 ContVM.row:=by
 refine Zz Dd (tC IdxVM.ok tN) Tryz.func97 rfl (by kernel_rfl) (by kernel_rfl) (ar:=ContVM.ar) (ae:=ContVM.ae) ContVM.le (n:=2) (λ_=>rfl) (by decide) (rc:=(Vv)) (re:=(D.bool)) (lE) (f:=ContVM.fv) ?_;intro a z;simp only[Tryz.f97];simp only[ZA,simprocAttr,ContVM.ae,ContVM.fv,IdxVM.q,IdxVM.ar,IdxVM.fv];exact Qsr _ _
def Bx{β:Type}:List (Ac×β)->Ac->Option β
 |[],_=>none
 |(k,v)::r,p=>if p=k then some v else Bx r p
def KO(p q:Ac):D.beql (Ac.c p) (Ac.c q)=decide (p=q):=by
 cases p;cases q;simp only[Ac.c,D.beql,D.beq,Ac.mk.injEq,Fo];rw[Xi];simp
def bF{β:Type}(e:Ac×β->D×D)(g:β->D)(z: ∀p,e p=(.agg (Ac.c p.1),g p.2))(x y:Int): ∀(l:List (Ac×β)),lk (l.map e) (.agg [.int .i64 x,.int .i64 y])=(Bx l ⟨x,y⟩).map g
 |[]=>rfl
 |q::r=>by
  have O:D.beq (.agg [.int .i64 x,.int .i64 y]) (.agg (Ac.c q.1))=decide ((⟨x,y⟩:Ac)=q.1):=KO ⟨x,y⟩ q.1;obtain⟨k,v⟩:=q;simp only[Bf,z,lk,Bx,O];by_cases h:(⟨x,y⟩:Ac)=k
  .simp[h]
  .simp[h,bF e g z x y r]
def Mi{β:Type}(e:Ac×β->D×D)(g:β->D)(Z: ∀p,e p=(.agg (Ac.c p.1),g p.2))(x y:Int)(l:List (Ac×β))(Ks:D->Prop)(Kn:Prop):
 FS (l.map e) (.agg [.int .i64 x,.int .i64 y]) Ks Kn=((∀v,Bx l ⟨x,y⟩=some v->Ks (g v))/\(Bx l ⟨x,y⟩=none->Kn)):=by
 apply propext;unfold FS;rw[bF e g Z];constructor
 .rintro⟨O,Q⟩;exact⟨λv z=>O _ (by rw[z];rfl),λh=>Q (by rw[h];rfl)⟩
 .rintro⟨O,Q⟩;refine⟨λv z=> ?_,λh=>Q (by simpa using h)⟩;simp only[CT] at z;obtain⟨w,hw,rfl⟩:=z;exact O w hw
def Mh(x y:Int)(l:List (Ac×Int))(Ks:D->Prop)(Kn:Prop):FS (l.map GK) (.agg [.int .i64 x,.int .i64 y]) Ks Kn=((∀v,Bx l ⟨x,y⟩=some v->Ks (.int .i64 v))/\(Bx l ⟨x,y⟩=none->Kn)):=
 Mi GK (.int .i64) (λ_=>rfl) x y l Ks Kn
def Yl(x y:Int)(l:List (Ac×List Int))(Ks:D->Prop)(Kn:Prop):FS (l.map Ek) (.agg [.int .i64 x,.int .i64 y]) Ks Kn=((∀v,Bx l ⟨x,y⟩=some v->Ks (.sl false 1 (v.map Al)))/\(Bx l ⟨x,y⟩=none->Kn)):=
 Mi Ek (λv=> .sl false 1 (v.map Al)) (λ_=>rfl) x y l Ks Kn
def CK(l:List (Ac×Int))(p:Ac):Int:=(Bx l p).getD (-1)
def catC.fv(a:Dz×Ac):Int:=(λc p=>CK c.Tl p) (a.1) (a.2)
def catC.row:A7:=Dy (b2 (qP 6 Dz.d_le) (qR Ac.d_le)) rI (λa=>True) catC.fv
def catC.q:=CP (R:=catC.row) rfl
def catC.ok:AC 65 catC.row:=by
 refine Gz tN Tryz.func65 ?_;intro a O;simp only[Tryz.f65];simp only[ZA,simprocAttr,catC.fv,D.sc,D.scs,BC];simp only[ZA,simprocAttr,D.sc,D.scs,BC,Mh];simp only[CK];exact⟨λv z=>by rw[show Bx a.1.Tl a.2=some v from z];rfl,λz=>by rw[show Bx a.1.Tl a.2=none from z];rfl⟩
def VD(s:Az)(f:Ac->Int)(p:Ac)(t:Int)(d:Int):Int:=if 0<=f (Cz p d) then Km s t d (f (Cz p d)) else 0
def Gb(s:Az)(f:Ac->Int)(p:Ac)(t:Int):Nat->Int
 |0=>0
 |k+1=>Gb s f p t k+VD s f p t k
def cM(s:Az)(a:Ad)(p:Ac)(t:Int): ∀k,Gb s (BG a) p t k=JD s a p t k
 |0=>rfl
 |k+1=>by simp only[Gb,JD,cM s a p t k];rfl
def inF(s:Az)(f:Ac->Int):Prop:= ∀p,0<=f p->FX s (f p)
def Qxd{s:Az}(h:Ct s)(f:Ac->Int)(p:Ac)(t d:Int):0<=VD s f p t d/\VD s f p t d<=4:=by
 simp only[VD,Km];split
 .split
  .exact Qp1 h _
  .omega
 .omega
def Qwy{s:Az}(h:Ct s)(f:Ac->Int)(p:Ac)(t:Int): ∀(k:Nat),0<=Gb s f p t k/\Gb s f p t k<=4*k
 |0=>by simp[Gb]
 |k+1=>by
  have z:=Qwy h f p t k;have O:=Qxd h f p t k;simp only[Gb];omega
def bindC.ar:List PK->Option (Az×Ac×Int×Dz)
 |[.val (.agg z),.val (.agg O),.val (.int .i64 Q),.val (.fn 65 [.ref Z] [])]=>(Az.d z).bind λy0=>(Ac.d O).bind λy1=>(Dz.d (Z.take 6)).bind λy3=>some (y0,y1,Q,y3)
 |_=>none
def bindC.ae(a:Az×Ac×Int×Dz):List PK:=[.val (.agg (Az.c a.1)),.val (.agg (Ac.c a.2.1)),.val (.int .i64 a.2.2.1),.val (.fn 65 [.ref (Dz.c a.2.2.2)] [])]
def bindC.le: ∀z a,bindC.ar z=some a->Ca z (bindC.ae a):=by
 intro z a h;unfold bindC.ar at h;split at h
 .simp only[EP,AI] at h;obtain⟨Z,h0,y1,O,y3,Q,rfl⟩:=h;exact⟨sP (Az.d_le _ _ h0),sP (Ac.d_le _ _ O),C7.refl _,iV ⟨WK (GB.trans_take (Dz.d_le _ _ Q)),trivial⟩,trivial⟩
 .cases h
def bindC.fv(a:Az×Ac×Int×Dz):Int:=(λs p t c=>Gb s (CK c.Tl) p t 4) (a.1) (a.2.1) (a.2.2.1) (a.2.2.2)
def bindC.row:A7:=NT bindC.ar (λa=>Ct a.1/\inF a.1 (CK a.2.2.2.Tl)/\HE a.2.1/\FX a.1 a.2.2.1) (λa=>(D.int .i64) (bindC.fv a))
def bindC.q:=vqF bindC.row rfl
def bindC.ok:AC 66 bindC.row:=by
 refine Qbn Dd (tC step_.ok (tC bond_.ok (tC catC.ok tN))) Tryz.func66 rfl (by kernel_rfl) (by kernel_rfl) (ar:=bindC.ar) (ae:=bindC.ae) bindC.le (n:=4) (λ_=>rfl) (by decide) (rc:=(Ez)) (re:=(D.int .i64)) (Vu) (f:=bindC.fv) ?_;intro a z;simp only[Tryz.f66];simp only[ZA,simprocAttr,bindC.ae,bindC.fv];obtain⟨O,Q,Z,h4⟩:=z;refine AT.old ⟨{k:Nat//k<=4},λk=>⟨[(12,.im (.int .i64 k.1)),(9,.im (.int .i64 (Gb a.1 (CK a.2.2.2.Tl) a.2.1 a.2.2.1 k.1))),(8,.im (.int .i64 0)),(5,.ptr 1 0),(4,.ptr 0 0),(2,.im (.int .i64 a.2.2.1)),(3,.im (.fn 65 [.ref (Dz.c a.2.2.2)] []))],[(1,(true,.cells 56 [.im (.int .i64 a.2.1.X),.im (.int .i64 a.2.1.Y)])),(0,(true,.cells 46 ((Az.c a.1).map .im)))],2⟩,λk=>4 - k.1,λk=>⟨by simp[ZG,Az.c],AL _⟩,⟨⟨0,by simp⟩,by simp only[ZA,simprocAttr,sub,Gb]⟩,λk=> ?_⟩;obtain⟨k,aa⟩:=k;simp only[ZA,simprocAttr,C3,step_.q,step_.fv,step_.re,bond_.q,bond_.fv,bond_.re,catC.q,catC.fv,D.sc,D.scs,BC,sub,AO];have hb:=Qwy O (CK a.2.2.2.Tl) a.2.1 a.2.2.1 k;have ht:=Qxd O (CK a.2.2.2.Tl) a.2.1 a.2.2.1 k;refine⟨λhk=>⟨⟨Z,by omega⟩,λhp=>⟨⟨O,h4,⟨by omega,by omega⟩,Q _ hp⟩,⟨⟨k+1,by omega⟩,by simp only;omega,?_,?_⟩⟩,λhp=>⟨⟨k+1,by omega⟩,by simp only;omega,?_,?_⟩⟩,λhk=> ?_⟩
 .rw[AD (by omega) (by omega)];simp only;omega
 .simp only[Gb];simp only[VD,Ai hp] at ht⊢;rw[AD (by omega) (by omega)]
 .rw[AD (by omega) (by omega)];simp only;omega
 .simp only[Gb,VD,Af hp];omega
 .have:k=4:=by omega
  rw[this]
def binding_.row:A7:=yW bindC.row bJ
def binding_.ok:AC 66 binding_.row:=KM bindC.ok Tt
def JI(s:AM)(f:Ac->Int)(p:Ac)(t:Int):Bool:=DA p && (decide (f p<0) && decide (s.Temperature<=Gb s.Set f p t 4))
def fitsC.fv(a:Dz×Ac×Int):Bool:=(λc p t=>JI c.Sys (CK c.Tl) p t) (a.1) (a.2.1) (a.2.2)
def fitsC.row:A7:=Dy (b3 (qP 6 Dz.d_le) (qR Ac.d_le) qI) rB (λa=>Ct a.1.Sys.Set/\inF a.1.Sys.Set (CK a.1.Tl)/\FX a.1.Sys.Set a.2.2) fitsC.fv
def fitsC.q:=CP (R:=fitsC.row) rfl
def fitsC.ok:AC 33 fitsC.row:=by
 refine Gz (tC ValidPoint.ok (tC catC.ok (tC binding_.ok tN))) Tryz.func33 ?_;intro a z;simp only[Tryz.f33];simp(disch:=omega)only[ZA,simprocAttr,C3,fitsC.fv,ValidPoint.q,ValidPoint.fv,catC.q,catC.fv,binding_.row,yW,bindC.q,bindC.ar,bindC.fv,D.sc,D.scs,BC];obtain⟨O,Q,Z⟩:=z;cases e1:DA a.2.1
 .simp[JI,e1]
 .rw[Ai rfl]
  split<;>rename_i h
  .exact .inl ⟨⟨O,Q,Qi e1,Z⟩,by simp[JI,e1,h]⟩
  .simp[JI,e1,h]
def B6{β:Type}:List (Ac×β)->Ac->β->List (Ac×β)
 |[],p,v=>[(p,v)]
 |(k,w)::r,p,v=>if p=k then (p,v)::r else (k,w)::B6 r p v
def EB{β:Type}:List (Ac×β)->Ac->List (Ac×β)
 |[],_=>[]
 |(k,w)::r,p=>if p=k then r else (k,w)::EB r p
def Lb{β:Type}(e:Ac×β->D×D)(g:β->D)(z: ∀p,e p=(.agg (Ac.c p.1),g p.2))(x y:Int)(v:β): ∀(l:List (Ac×β)),Gy (l.map e) (.agg [.int .i64 x,.int .i64 y]) (g v)=(B6 l ⟨x,y⟩ v).map e
 |[]=>by simp[Gy,B6,z,Ac.c]
 |q::r=>by
  have O:D.beq (.agg [.int .i64 x,.int .i64 y]) (.agg (Ac.c q.1))=decide ((⟨x,y⟩:Ac)=q.1):=KO ⟨x,y⟩ q.1;obtain⟨k,w⟩:=q;simp only[Bf,z,Gy,B6,O];by_cases h:(⟨x,y⟩:Ac)=k
  .simp[h,z,Ac.c];exact⟨by rw[<-h],by rw[<-h]⟩
  .simp[h,z,Lb e g z x y v r]
def RV{β:Type}(e:Ac×β->D×D)(g:β->D)(z: ∀p,e p=(.agg (Ac.c p.1),g p.2))(x y:Int): ∀(l:List (Ac×β)),Ja (l.map e) (.agg [.int .i64 x,.int .i64 y])=(EB l ⟨x,y⟩).map e
 |[]=>rfl
 |q::r=>by
  have O:D.beq (.agg [.int .i64 x,.int .i64 y]) (.agg (Ac.c q.1))=decide ((⟨x,y⟩:Ac)=q.1):=KO ⟨x,y⟩ q.1;obtain⟨k,w⟩:=q;simp only[Bf,z,Ja,EB,O];by_cases h:(⟨x,y⟩:Ac)=k
  .simp[h]
  .simp[h,z,RV e g z x y r]
def lA(x y:Int)(v:List Int)(l:List (Ac×List Int)):Gy (l.map Ek) (.agg [.int .i64 x,.int .i64 y]) (.sl false 1 (v.map Al))=(B6 l ⟨x,y⟩ v).map Ek:=
 Lb Ek (λv=> .sl false 1 (v.map Al)) (λ_=>rfl) x y v l
def La(x y v:Int)(l:List (Ac×Int)):Gy (l.map GK) (.agg [.int .i64 x,.int .i64 y]) (.int .i64 v)=(B6 l ⟨x,y⟩ v).map GK:=
 Lb GK (.int .i64) (λ_=>rfl) x y v l
def iL(x y:Int)(l:List (Ac×List Int)):Ja (l.map Ek) (.agg [.int .i64 x,.int .i64 y])=(EB l ⟨x,y⟩).map Ek:=
 RV Ek (λv=> .sl false 1 (v.map Al)) (λ_=>rfl) x y l
def Gc(s:AM)(f:Ac->Int)(q:Ac):Nat->List Int
 |0=>[]
 |k+1=>Gc s f q k++(if JI s f q k=true then [(k:Int)] else [])
def Qus(s:AM)(f:Ac->Int)(q:Ac): ∀k,(Gc s f q k).length<=k
 |0=>by simp[Gc]
 |k+1=>by
  have:=Qus s f q k
  simp only[Gc,C9]
  split<;>simp<;>omega
def Kh(s:AM)(f:Ac->Int)(op:List (Ac×List Int))(q:Ac):List (Ac×List Int):=
 if Gc s f q s.Set.Tiles.length=[] then EB op q else B6 op q (Gc s f q s.Set.Tiles.length)
def GX(s:AM)(f:Ac->Int)(op:List (Ac×List Int))(p:Ac):Nat->List (Ac×List Int)
 |0=>op
 |k+1=>Kh s f (GX s f op p k) (Cz p k)
def Fb(s:AM):List AV:=[.im (.sl false 2 (s.Set.Glues.map Am.c)),.im (.sl false 2 (s.Set.Tiles.map Tile.c)),.im (.sl false 3 (s.Seed.Tiles.map Aj.c)),.im (.int .i64 s.Temperature),.mp 1,.mp 2]
def yI:KT:=⟨true,[.int .i64,.int .i64]⟩
def Hg(c:Dz):Ap:=[(0,(true,.cells 128 (Fb c.Sys))),(1,(true,.map ⟨true,[.int .i64,.int .i64]⟩ (c.Tl.map GK))),(2,(true,.map ⟨true,[.int .i64,.int .i64]⟩ (c.Op.map Ek)))]
def pS(c:Dz)(j:Nat):Ak (Hg c) j=true↔j<3:=by
 simp only[Ak,Hg,hget];by_cases h0:j=0
 .subst h0;simp
 .by_cases Z:j=1
  .subst Z;simp
  .by_cases h2:j=2
   .subst h2;simp
   .have z:(0==j)=false:=by simp;omega
    have O:(1==j)=false:=by simp;omega
    have Q:(2==j)=false:=by simp;omega
    simp[z,O,Q];omega
def RJ(c:Dz):Prop:=Ct c.Sys.Set/\inF c.Sys.Set (CK c.Tl)/\c.Sys.Set.Tiles.length<=1000000
def lookC.ca(a:Dz×Ac):List AV:=[.ptr 0 0,.im (.agg [.int .i64 a.2.X,.int .i64 a.2.Y])]
def lookC.H1(a:Dz×Ac):Ap:=[(2,(true,.map ⟨true,[.int .i64,.int .i64]⟩ ((GX a.1.Sys (CK a.1.Tl) a.1.Op a.2 4).map Ek)))]
def kl2(j:Nat):Bool:=j==2
def lookC.row:A7:=AB lookC.ca (λa=>Hg a.1) 3 (λa=>RJ a.1/\HE a.2) kl2 (λ_=> .im (.tup [])) lookC.H1 0
def lookC.ok:AC 63 lookC.row:=by
 refine ow (tC step_.ok (tC fitsC.ok tN)) Tryz.func63 (exB:=λ_=>false) (R:=λ_ r=>r= .im (.tup [])) (λ_=>rfl)
  (λa=>by simp[lookC.ca,Hg,Fb,AF,AV.bel,Aw,B9,BS,Ab.nms,AA,AV.nms,Ak,hget]) (λa p hp=> ?_) (λa r h=>by subst h;exact CU.refl _) ?_
 rotate_left
 intro a O;simp only[Tryz.f63,lookC.ca,Hg,Fb,lookC.H1];simp only[ZA,simprocAttr];obtain⟨⟨Z,aa,af⟩,z⟩:=O;refine AT.old ⟨{k:Nat//k<=4},λk=>⟨[(8,.im (.int .i64 k.1)),(3,.ptr 3 0),(0,.ptr 0 0)],[(3,(true,.cells 56 [.im (.int .i64 a.2.X),.im (.int .i64 a.2.Y)])),(0,(true,.cells 128 (Fb a.1.Sys))),(1,(true,.map ⟨true,[.int .i64,.int .i64]⟩ (a.1.Tl.map GK))),(2,(true,.map ⟨true,[.int .i64,.int .i64]⟩ ((GX a.1.Sys (CK a.1.Tl) a.1.Op a.2 k.1).map Ek)))],4⟩,λk=>4 - k.1,λk=>⟨by simp[ZG,Fb],AL _⟩,⟨⟨0,by simp⟩,by simp only[ZA,simprocAttr,Fb,sub,GX,Fb]⟩,λk=> ?_⟩;obtain⟨k,ad⟩:=k;simp only[Fb];simp only[ZA,simprocAttr,step_.q,step_.fv,step_.re,kl2,AO];have hq:HE a.2:=z;refine⟨λhk=>⟨⟨z,by omega⟩,λhn=> ?_⟩,λhk=> ?_⟩
 .refine AT.ren ⟨{j:Nat//j<=a.1.Sys.Set.Tiles.length},λj=>⟨[(21,.im (.int .i64 j.1)),(20,.im (.int .i64 a.1.Sys.Set.Tiles.length)),(6,.own 6),(5,.ptr 4 0),(8,.im (.int .i64 k)),(3,.ptr 3 0),(0,.ptr 0 0)],[(6,(true,.arr 2 1 ((Gc a.1.Sys (CK a.1.Tl) (Cz a.2 k) j.1).map Al))),(4,(true,.cells 56 [.im (.int .i64 (Cz a.2 k).X),.im (.int .i64 (Cz a.2 k).Y)])),(3,(true,.cells 56 [.im (.int .i64 a.2.X),.im (.int .i64 a.2.Y)])),(0,(true,.cells 128 (Fb a.1.Sys))),(1,(true,.map ⟨true,[.int .i64,.int .i64]⟩ (a.1.Tl.map GK))),(2,(true,.map ⟨true,[.int .i64,.int .i64]⟩ ((GX a.1.Sys (CK a.1.Tl) a.1.Op a.2 k).map Ek)))],7⟩,λj=>a.1.Sys.Set.Tiles.length - j.1,λj=>⟨by simp[ZG,Fb],by simp⟩,⟨⟨0,by simp⟩,[(6,some 5)],?_⟩,λj=> ?_⟩
  .simp only[Aq,Fb];simp only[ZA,simprocAttr,Bs,Gc]
   try simp
  obtain⟨j,ac⟩:=j;simp only[Fb];simp only[ZA,simprocAttr,C3,fitsC.q,fitsC.fv,Ec,AO,sub];have ab:=Qus a.1.Sys (CK a.1.Tl) (Cz a.2 k) j;refine⟨λhj=>⟨⟨Z,aa,by omega,by omega⟩,λhf=>⟨by omega,⟨j+1,by omega⟩,[(6,some 8)],by simp only;omega,?_⟩,λhf=>⟨⟨j+1,by omega⟩,[(6,some 6)],by simp only;omega,?_⟩⟩,λhj=> ?_⟩
  .simp only[Aq];simp only[ZA,simprocAttr,Bs];refine⟨?_,?_⟩
   .rw[AD (by omega) (by omega)];omega
   .simp[Gc,hf,Al]
  .simp only[Aq];simp only[ZA,simprocAttr,Bs];refine⟨?_,?_⟩
   .rw[AD (by omega) (by omega)];omega
   .simp[Gc,hf]
  have Q:j=a.1.Sys.Set.Tiles.length:=by omega
  subst Q;rw[lA,iL];have hl:(0:Int)<((Gc a.1.Sys (CK a.1.Tl) (Cz a.2 k) a.1.Sys.Set.Tiles.length).length:Int)↔Gc a.1.Sys (CK a.1.Tl) (Cz a.2 k) a.1.Sys.Set.Tiles.length≠[]:=by
   rw[<-gD];omega
  intro _;refine⟨λh0=>⟨⟨k+1,by omega⟩,by simp only;omega,?_,?_⟩,λh0=>⟨⟨k+1,by omega⟩,by simp only;omega,?_,?_⟩⟩
  .rw[AD (by omega) (by omega)];simp only;omega
  .simp only[GX,Kh];rw[Af (hl.1 h0)]
  .rw[AD (by omega) (by omega)];simp only;omega
  .simp only[GX,Kh];rw[Ai (Ha.1 (λh=>h0 (hl.2 h)))]
 .have:k=4:=by omega
  subst this;simp[kl2]
 simp[lookC.H1] at hp;subst hp;exact .inl ⟨by omega,rfl,rfl⟩
def mY{β:Type}(p q:Ac)(v:β): ∀(l:List (Ac×β)),Bx (B6 l p v) q=if q=p then some v else Bx l q
 |[]=>by simp[B6,Bx]
 |(k,w)::r=>by
  simp only[B6];by_cases h:p=k
  .subst h;rw[Ai rfl];simp only[Bx];by_cases z:q=p
   .rw[Ai z,Ai z]
   .rw[Af z,Af z,Af z]
  .rw[Af h];simp only[Bx,mY p q v r];by_cases z:q=k
   .rw[Ai z,Ai z,Af (λO=>h (O.symm.trans z))]
   .rw[Af z,Af z]
def CB(l:List Aj):List (Ac×Int):=l.foldl (λt x=>B6 t x.At x.Tile) []
def PI(l:List Aj)(x:Aj):CB (l++[x])=B6 (CB l) x.At x.Tile:=by simp[CB]
def HR(s:AM)(f:Ac->Int)(l:List Aj):List (Ac×List Int):=l.foldl (λo x=>GX s f o x.At 4) []
def OV(s:AM)(f:Ac->Int)(l:List Aj)(x:Aj):HR s f (l++[x])=GX s f (HR s f l) x.At 4:=by simp[HR]
def Nq{s:Az}: ∀(l:List Aj),(∀x∈l,FX s x.Tile)->inF s (CK (CB l)):=by
 intro l;have O: ∀(l:List Aj) (t:List (Ac×Int)),(∀p v,Bx t p=some v->FX s v)->(∀x∈l,FX s x.Tile)-> ∀p v,Bx (l.foldl (λt x=>B6 t x.At x.Tile) t) p=some v->FX s v:=by
  intro l;induction l with
  |nil=>intro t h _;exact h
  |cons x r ih=>
   intro t h Q;refine ih _ ?_ (λy Z=>Q y (BP _ Z));intro p v z;rw[mY] at z;split at z
   .cases z;exact Q x (BM ..)
   .exact h p v z
 intro h p hp
 have:=O l [] (by intro p v h;simp[Bx] at h) h p
 simp only[CK,CB] at hp⊢;cases hq:Bx (l.foldl (λt x=>B6 t x.At x.Tile) []) p with
 |none=>rw[hq] at hp;simp at hp
 |some v=>exact this v hq
def aI{α:Type}{l:List α}{k:Nat}{x:α}(h:l[k]? =some x):l.take (k+1)=l.take k++[x]:=by rw[Ip,h];rfl
def aC(s:AM)(a:Ad):Dz:=⟨s,CB a.Tiles,HR s (CK (CB a.Tiles)) a.Tiles⟩
def newC.ca(a:AM×Ad):List AV:=[.im (.agg (AM.c a.1)),.im (.agg (Ad.c a.2))]
def newC.H1(a:AM×Ad):Ap:=[(4,(true,.cells 128 [.im (.sl false 2 (a.1.Set.Glues.map Am.c)),.im (.sl false 2 (a.1.Set.Tiles.map Tile.c)),.im (.sl false 3 (a.1.Seed.Tiles.map Aj.c)),.im (.int .i64 a.1.Temperature),.mp 2,.mp 3])),
 (2,(true,.map ⟨true,[.int .i64,.int .i64]⟩ ((aC a.1 a.2).Tl.map GK))),(3,(true,.map ⟨true,[.int .i64,.int .i64]⟩ ((aC a.1 a.2).Op.map Ek)))]
def newC.pre(a:AM×Ad):Prop:=Ct a.1.Set/\a.1.Set.Tiles.length<=1000000/\ ∀x∈a.2.Tiles,FX a.1.Set x.Tile/\HE x.At
def newC.ex(j:Nat):Bool:=j==2||(j==3||j==4)
def noB(_:Nat):Bool:=false
def newC.row:A7:=AB newC.ca (λ_=>[]) 0 newC.pre noB (λ_=> .ptr 4 0) newC.H1 5
def newC.ok:AC 32 newC.row:=by
 refine ow (tC lookC.ok tN) Tryz.func32 (exB:=newC.ex) (R:=λ_ r=>r= .ptr 4 0) (λ_=>rfl)
  (λa=>by simp[newC.ca,AM.c,Ad.c,AF,AV.bel,Aw,B9,BS]) (λa p hp=> ?_) (λa r h=>by subst h;exact CU.refl _) ?_
 rotate_left
 intro a Q;simp only[Tryz.f32,newC.ca,newC.H1,AM.c,Ad.c];simp only[ZA,simprocAttr];obtain⟨ab,ac,O⟩:=Q;intro hn;refine AT.old ⟨{k:Nat//k<=a.2.Tiles.length},λk=>⟨[(18,.im (.int .i64 k.1)),(17,.im (.int .i64 a.2.Tiles.length)),(16,.im (.sl false 3 (a.2.Tiles.map Aj.c))),(5,.ptr 4 0),(4,.im .nilp),(3,.ptr 1 0)],[(4,(true,.cells 128 [.im (.sl false 2 (a.1.Set.Glues.map Am.c)),.im (.sl false 2 (a.1.Set.Tiles.map Tile.c)),.im (.sl false 3 (a.1.Seed.Tiles.map Aj.c)),.im (.int .i64 a.1.Temperature),.mp 2,.mp 3])),(3,(true,.map ⟨true,[.int .i64,.int .i64]⟩ ([]))),(2,(true,.map ⟨true,[.int .i64,.int .i64]⟩ ((CB (a.2.Tiles.take k.1)).map GK))),(1,(true,.cells 49 [.im (.sl false 3 (a.2.Tiles.map Aj.c))]))],5⟩,λk=>a.2.Tiles.length - k.1,λk=>⟨by simp[ZG],AL _⟩,⟨⟨0,by simp⟩,by simp only[ZA,simprocAttr,sub,CB,nM]⟩,λk=> ?_⟩;obtain⟨k,aa⟩:=k;simp only[ZA,simprocAttr,sub,AO];refine⟨λz=>⟨z,λx Z=> ?_⟩,λz=> ?_⟩
 .refine⟨⟨k+1,by omega⟩,by simp only;omega,?_,?_⟩
  .rw[AD (by omega) (by omega)];simp only;omega
  .rw[La,aI Z,PI]
 rw[DE (by omega)];intro _;refine AT.old ⟨{k:Nat//k<=a.2.Tiles.length},λk=>⟨[(34,.im (.int .i64 k.1)),(33,.im (.int .i64 a.2.Tiles.length)),(32,.im (.sl false 3 (a.2.Tiles.map Aj.c))),(5,.ptr 4 0),(4,.im .nilp),(3,.ptr 1 0)],[(4,(true,.cells 128 [.im (.sl false 2 (a.1.Set.Glues.map Am.c)),.im (.sl false 2 (a.1.Set.Tiles.map Tile.c)),.im (.sl false 3 (a.1.Seed.Tiles.map Aj.c)),.im (.int .i64 a.1.Temperature),.mp 2,.mp 3])),(3,(true,.map ⟨true,[.int .i64,.int .i64]⟩ ((HR a.1 (CK (CB a.2.Tiles)) (a.2.Tiles.take k.1)).map Ek))),(2,(true,.map ⟨true,[.int .i64,.int .i64]⟩ ((CB a.2.Tiles).map GK))),(1,(true,.cells 49 [.im (.sl false 3 (a.2.Tiles.map Aj.c))]))],5⟩,λk=>a.2.Tiles.length - k.1,λk=>⟨by simp[ZG],AL _⟩,⟨⟨0,by simp⟩,by simp only[ZA,simprocAttr,sub,HR,nM]⟩,λk=> ?_⟩;obtain⟨k,aa⟩:=k;simp only[ZA,simprocAttr,newC.ex,AO];refine⟨λz=>⟨z,λx Z=> ?_⟩,λz=> ?_⟩
 .refine AB.os (⟨a.1,CB a.2.Tiles,HR a.1 (CK (CB a.2.Tiles)) (a.2.Tiles.take k)⟩,x.At) [4,2,3] ⟨⟨ab,Nq _ (λy hy=>(O y hy).1),ac⟩,(O x (AZ Z)).2⟩ (λj=>pS _ j) rfl rfl ?_ ?_
  .simp only[ZA,simprocAttr,Ec,lookC.ca,Hg,Fb]
  .simp only[ZA,simprocAttr,Ec,lookC.H1,kl2,sub];refine⟨⟨k+1,by omega⟩,by simp only;omega,?_,?_⟩
   .rw[AD (by omega) (by omega)];simp only;omega
   .rw[aI Z,OV]
 .rw[DE (by omega)];exact⟨rfl,rfl⟩
 simp[newC.H1] at hp;rcases hp with rfl|rfl|rfl
 .exact .inr ⟨by omega,by simp,rfl,rfl⟩
 .exact .inr ⟨by omega,by simp,rfl,rfl⟩
 .exact .inr ⟨by omega,by simp,rfl,rfl⟩
def Oz{a:AM×Ad}(h:newC.pre a):RJ (aC a.1 a.2):=⟨h.1,Nq _ (λy z=>(h.2.2 y z).1),h.2.1⟩
def G1(a:Ad)(i:Int):Int:=(a.Tiles[i.toNat]?.map Aj.Tile).getD (-1)
def WX(s:Az)(a:Ad)(i:Nat)(d:Int):List Ag:=
 if 0<=Hj a i d then if 0<Km s (G1 a i) d (G1 a (Hj a i d)) then [⟨i,Hj a i d,Km s (G1 a i) d (G1 a (Hj a i d))⟩] else [] else []
def Kl(s:Az)(a:Ad)(i:Nat):Nat->List Ag
 |0=>[]
 |k+1=>Kl s a i k++WX s a i (1 - k)
def F6(s:Az)(a:Ad):Nat->List Ag
 |0=>[]
 |k+1=>F6 s a k++Kl s a k 2
def Ou(s:Az)(a:Ad)(i:Nat)(d:Int):(WX s a i d).length<=1:=by
 simp only[WX];split
 .split<;>simp
 .simp
def Ql7(s:Az)(a:Ad)(i:Nat): ∀k,(Kl s a i k).length<=k
 |0=>by simp[Kl]
 |k+1=>by
  have z:=Ql7 s a i k;have O:=Ou s a i (1 - k);simp only[Kl,C9];omega
def tF(s:Az)(a:Ad): ∀k,(F6 s a k).length<=2*k
 |0=>by simp[F6]
 |k+1=>by
  have z:=tF s a k;have O:=Ql7 s a k 2;simp only[F6,C9];omega
def iS{A:Type}(p:A->Bool)(l:List A):BO p 0 l<(l.length:Int):=by
 rcases ZE p l 0 with ⟨_,h⟩|⟨i,x,_,h,z⟩
 .omega
 .have:=(BW.1 z).1
  omega
def KH(a:Ad)(i d:Int):Hj a i d<(a.Tiles.length:Int):=iS _ _
def l06Bonds.fv(a:Az×Ad):List Ag:=(λs a=>F6 s a a.Tiles.length) (a.1) (a.2)
def l06Bonds.row:A7:=vK (b2 (qP 2 Az.d_le) (qP 1 Ad.d_le)) (rS Ag.d_le Ag.c_n) (λa=>Ct a.1/\Il a.1 a.2/\a.2.Tiles.length<=1000000) l06Bonds.fv
def l06Bonds.q:=AY (R:=l06Bonds.row) rfl
def l06Bonds.ok:AC 162 l06Bonds.row:=by
 refine vw (tC l06Neighbor.ok (tC l02Bond.ok tN)) Tryz.func162 ?_;intro a z;simp only[Tryz.f162];simp only[ZA,simprocAttr,l06Bonds.fv];obtain⟨h1,Z,h3⟩:=z;refine AT.ren ⟨{k:Nat//k<=a.2.Tiles.length},λk=>⟨[(6,.im (.int .i64 k.1)),(5,.own 4),(0,.ptr 0 0),(1,.ptr 1 0)],[(4,(true,.arr 259 3 ((F6 a.1 a.2 k.1).map Ag.c))),(0,(false,.view (Az.c a.1))),(1,(false,.view (Ad.c a.2)))],5⟩,λk=>a.2.Tiles.length - k.1,λk=>⟨by simp[ZG],by simp⟩,⟨⟨0,by simp⟩,[(4,some 3)],?_⟩,λk=> ?_⟩
 .simp only[Aq];simp only[ZA,simprocAttr,Bs,F6]
 obtain⟨k,af⟩:=k;simp only[ZA,simprocAttr,AO];intro ac;refine⟨λhk=> ?_,λhk=> ?_⟩
 .refine AT.ren ⟨{j:Nat//j<=2},λj=>⟨[(7,.im (.int .i64 (1 - (j.1:Int)))),(6,.im (.int .i64 k)),(5,.own 5),(0,.ptr 0 0),(1,.ptr 1 0)],[(5,(true,.arr 259 3 ((F6 a.1 a.2 k++Kl a.1 a.2 k j.1).map Ag.c))),(0,(false,.view (Az.c a.1))),(1,(false,.view (Ad.c a.2)))],6⟩,λj=>2 - j.1,λj=>⟨by simp[ZG],by simp⟩,⟨⟨0,by simp⟩,[(5,some 4)],?_⟩,λj=> ?_⟩
  .simp only[Aq];simp only[ZA,simprocAttr,Bs,Kl]
   try simp
  obtain⟨j,ad⟩:=j;simp only[ZA,simprocAttr,Ad.d,l06Neighbor.q,l06Neighbor.fv,l02Bond.q,l02Bond.fv,AO,NK,NI,BT,D.one];have ab:=KH a.2 k (1 - j);have ag:=tF a.1 a.2 k;have ah:=Ql7 a.1 a.2 k j;refine⟨λhd=>⟨⟨Z.1,hk,hd,by omega⟩,λhn=>⟨⟨j+1,by omega⟩,[(5,some 5)],by simp only;omega,?_⟩,λhn=>⟨hk,λx hx=>⟨by omega,ab,λy hy=>⟨⟨h1,Z.2 x (AZ hx),⟨by omega,by omega⟩,Z.2 y (AZ hy)⟩,λhb=>⟨by simp only[C9];omega,⟨j+1,by omega⟩,[(5,some 7)],by simp only;omega,?_⟩,λhb=>⟨⟨j+1,by omega⟩,[(5,some 5)],by simp only;omega,?_⟩⟩⟩⟩⟩,λhd=>⟨⟨k+1,by omega⟩,[(4,some 5)],by simp only;omega,?_⟩⟩
  .simp only[Aq];simp only[ZA,simprocAttr,Bs];refine⟨?_,?_⟩
   .rw[AD (by omega) (by omega)];omega
   .simp only[Kl,WX];rw[Af (by omega),D2]
  .simp only[Aq];simp only[ZA,simprocAttr,Bs];refine⟨?_,?_⟩
   .rw[AD (by omega) (by omega)];omega
   .have O:G1 a.2 k=x.Tile:=by simp[G1,hx]
    have Q:G1 a.2 (Hj a.2 k (1 - j))=y.Tile:=by simp only[G1];rw[hy];rfl
    simp only[Kl,WX];rw[Ai (by omega),O,Q,Ai hb];simp[Ag.c]
  .simp only[Aq];simp only[ZA,simprocAttr,Bs];refine⟨?_,?_⟩
   .rw[AD (by omega) (by omega)];omega
   .have O:G1 a.2 k=x.Tile:=by simp[G1,hx]
    have Q:G1 a.2 (Hj a.2 k (1 - j))=y.Tile:=by simp only[G1];rw[hy];rfl
    simp only[Kl,WX];rw[Ai (by omega),O,Q,Af hb,D2]
  .simp only[Aq];simp only[ZA,simprocAttr,Bs];have aa:j=2:=by omega
   subst aa;refine⟨?_,?_⟩
   .rw[AD (by omega) (by omega)];omega
   .simp only[F6]
 .have:k=a.2.Tiles.length:=by omega
  rw[this]
def IV:List Int->List Int->Bool
 |x::r,y::s=>if x=y then IV r s else decide (x<y)
 |_,_=>false
def Gk(v:Int)(l:List Int)(w:Int)(m:List Int):Bool:=if v=w then if l.length=m.length then IV l m else decide (l.length<m.length) else decide (v<w)
def l07Before.fv(a:Int×(List Int)×Int×(List Int)):Bool:=(Gk) (a.1) (a.2.1) (a.2.2.1) (a.2.2.2)
def l07Before.row:A7:=vK (b4 qI (qS Fh EN) qI (qS Fh EN)) rB (λa=>True) l07Before.fv
def l07Before.q:=AY (R:=l07Before.row) rfl
def l07Before.ok:AC 191 l07Before.row:=by
 refine vw tN Tryz.func191 ?_;intro a ab;simp only[Tryz.f191];simp only[ZA,simprocAttr,l07Before.fv]
 split<;>rename_i h
 .simp only[Gk];rw[Af h]
 intro ad af
 split<;>rename_i h2
 .intro _ _;simp only[Gk];rw[Ai (Ha.1 h),Af (by omega)]
 have hn:a.2.1.length=a.2.2.2.length:=by omega
 have hb:Gk a.1 a.2.1 a.2.2.1 a.2.2.2=IV a.2.1 a.2.2.2:=by simp only[Gk];rw[Ai (Ha.1 h),Ai hn]
 rw[hb];refine AT.old ⟨{k:Nat//k<=a.2.1.length/\IV (a.2.1.drop k) (a.2.2.2.drop k)=IV a.2.1 a.2.2.2},λk=>⟨[(9,.im (.int .i64 k.1)),(8,.im (.bool false)),(0,.im (.int .i64 a.1)),(1,.im (.sl false 1 (a.2.1.map Al))),(2,.im (.int .i64 a.2.2.1)),(3,.im (.sl false 1 (a.2.2.2.map Al)))],[],0⟩,λk=>a.2.1.length - k.1,λk=>⟨by simp[ZG],AL _⟩,⟨⟨0,by simp⟩,by simp only[ZA,simprocAttr,sub]⟩,λk=> ?_⟩;obtain⟨k,ac,z⟩:=k;simp only[ZA,simprocAttr,sub,AO];intro _;refine⟨λZ=>⟨Z,λx hx=>⟨by omega,λy hy=>⟨λaa=>⟨Z,λx' O=>⟨by omega,λy' Q=> ?_⟩⟩,λhe=> ?_⟩⟩⟩,λZ=> ?_⟩
 .rw[hx] at O;rw[hy] at Q;obtain rfl:=Ay O;obtain rfl:=Ay Q;rw[F5 hx,F5 hy,IV,Af aa] at z;exact z
 .rw[F5 hx,F5 hy,IV,Ai (Ha.1 he)] at z;refine⟨⟨k+1,by omega,z⟩,by simp only;omega,?_⟩;rw[AD (by omega) (by omega)];simp only;omega
 .rw[CS (by omega),IV] at z
  .exact z
  .intros;simp_all
def Qix{l:List Aj}(h:De none l=true):(l.map Aj.At).Nodup:=by
 have z:=(lJ _ _ h).2;clear h;revert z;induction l with
 |nil=>intro _;simp
 |cons x r ih=>
  intro z;simp only[Bf,Ly];refine⟨λhm=> ?_,ih (λi j a b aa O Q=>z (i+1) (j+1) a b (by omega) (by simpa using O) (by simpa using Q))⟩;obtain⟨y,hy,Z⟩:=Bo.1 hm;obtain⟨i,hi⟩:=JK.1 hy
  have:=z 0 (i+1) x y (by omega) rfl (by simpa using hi)
  rw[Z,mE] at this;cases this
def mW(n:Nat)(rows:List (List D)):(Be rows).all (AF n)=true:=by
 simp only[Be,List.all_map,CA,Function.comp];intro r z;clear z;induction r with
 |nil=>simp[AF]
 |cons x r ih=>simp[AF,AV.bel,ih]
def LQ(F:List Nat)(H:Ap): ∀(r:List D),DJ F H (r.map .im)=r.map .im
 |[]=>rfl
 |x::r=>by simp only[Bf,DJ,AV.fzA,LQ F H r]
def cY(F:List Nat)(H:Ap): ∀(rows:List (List D)),D5 F H (Be rows)=Be rows
 |[]=>rfl
 |x::r=>by
  have:=cY F H r
  simp only[Be] at this;simp only[Be,Bf,D5,LQ,this]
def Qzl(F:List Nat)(H:Ap): ∀(a b:List (List AV)),D5 F H (a++b)=D5 F H a++D5 F H b
 |[],b=>rfl
 |x::r,b=>by simp only[CO,D5,Qzl F H r b]
def Tk(π:List (Nat×Option Nat)): ∀(r:List D),DL π (r.map .im) (r.map .im)
 |[]=>by simp[DL]
 |x::r=>by simp only[Bf,DL,mt,Tk π r,Hb]
def mZ(π:List (Nat×Option Nat)): ∀(rows:List (List D)),Gq π (Be rows) (Be rows)
 |[]=>by simp[Gq,Be]
 |x::r=>by
  have:=mZ π r
  simp only[Be] at this;simp only[Be,Bf,Gq,Tk,this,Hb]
def Qzb(F:List Nat)(H:Ap)(rows:List (List D)):D5 F H (rows.map λr=>r.map AV.im)=rows.map λr=>r.map AV.im:=cY F H rows
def vJ(π:List (Nat×Option Nat))(rows:List (List D)):Gq π (rows.map λr=>r.map AV.im) (rows.map λr=>r.map AV.im)=True:=aT (mZ π rows)
def Ro(n:Nat)(rows:List (List D)):(rows.map λr=>r.map AV.im).all (AF n)=true:=mW n rows
def Qtl{α β:Type}{f:α->Option β}{g:β->α}(h: ∀y,f (g y)=some y): ∀(l:List β),Ar f (l.map g)=some l
 |[]=>rfl
 |x::r=>by simp only[Bf,Ar,h,Qtl h r]
def X8(h:Nat->Option Ao)(kx:Nat->Option Nat)(n:Nat)(rows:List (List D)):Ar (Ar λx=>Er (Ba h kx (n+1) x)) (rows.map λr=>r.map AV.im)=some rows:=
 Qtl (g:=λr=>r.map AV.im) (λy=>Qtl (g:=AV.im) (λ_=>rfl) y) rows
def Ie{A:Type}(f:A->A):Nat->List A->List A
 |0,l=>l
 |_+1,[]=>[]
 |k+1,x::r=>f x::Ie f k r
def Qwq{A:Type}(f:A->A): ∀(k:Nat) (l:List A),(Ie f k l).length=l.length
 |0,_=>rfl
 |_+1,[]=>rfl
 |k+1,x::r=>by simp only[Ie,Cv,Qwq f k r]
def Qoo{A:Type}(f:A->A): ∀(k:Nat) (l:List A),(Ie f k l)[k]? =l[k]?
 |0,_=>rfl
 |_+1,[]=>by simp[Ie]
 |k+1,x::r=>by simp only[Ie,Ir,Qoo f k r]
def Qn5{A:Type}(f:A->A): ∀(k:Nat) (l:List A) (x:A),l[k]? =some x->(Ie f k l).set k (f x)=Ie f (k+1) l
 |0,[],x,h=>by simp at h
 |0,y::r,x,h=>by
  simp only[G6,AI] at h;subst h;simp[Ie]
 |k+1,[],x,h=>by simp at h
 |k+1,y::r,x,h=>by
  have:=Qn5 f k r x (by simpa using h)
  rw[Ie,Ie,nO,this]
def Qabf{A:Type}(f:A->A)(k:Nat)(l:List A)(x:A)(h:l[k]? =some x)(hf:f x=x):Ie f (k+1) l=Ie f k l:=by
 rw[<-Qn5 f k l x h,hf];have z:(Ie f k l)[k]? =some x:=by rw[Qoo,h]
 obtain⟨O,Q⟩:=BW.1 z;rw[<-Q];exact List.set_getElem_self O
def Qvd{A:Type}(f:A->A): ∀(k:Nat) (l:List A),l.length<=k->Ie f k l=l.map f
 |0,[],_=>rfl
 |0,x::r,h=>by simp at h
 |_+1,[],_=>rfl
 |k+1,x::r,h=>by simp only[Ie,Bf,Qvd f k r (by simpa using h)]
def WZ:Nat->List Int
 |0=>[]
 |k+1=>WZ k++[(k:Int)]
def eT: ∀k,(WZ k).length=k
 |0=>rfl
 |k+1=>by simp[WZ,eT k]
def JC(x y v:Int):Int:=if v=Ew x y then EW x y else v
def uP(own:List Int)(b:Ag):List Int:=own.map (JC (own[b.A.toNat]?.getD 0) (own[b.B.toNat]?.getD 0))
def Cn(n:Nat)(bs:List Ag):Nat->List Int
 |0=>WZ n
 |k+1=>match bs[k]? with
  |some b=>uP (Cn n bs k) b
  |none=>Cn n bs k
def Qto(n:Nat)(bs:List Ag): ∀k,(Cn n bs k).length=n
 |0=>eT n
 |k+1=>by
  simp only[Cn];split
  .simp[uP,Qto n bs k]
  .exact Qto n bs k
def Dm(own:List Int)(i:Nat):Nat->List Int
 |0=>[]
 |k+1=>Dm own i k++(if own[i+k]? =some (i:Int) then [((i+k:Nat):Int)] else [])
def Qsd(own:List Int)(i:Nat): ∀k,(Dm own i k).length<=k
 |0=>by simp[Dm]
 |k+1=>by
  have:=Qsd own i k
  simp only[Dm,C9]
  split<;>simp<;>omega
def B7(own:List Int)(n:Nat):Nat->List (List Int)
 |0=>[]
 |k+1=>B7 own n k++(if own[k]? =some (k:Int) then [Dm own k (n - k)] else [])
def tL(own:List Int)(n:Nat): ∀k,(B7 own n k).length<=k
 |0=>by simp[B7]
 |k+1=>by
  have:=tL own n k
  simp only[B7,C9]
  split<;>simp<;>omega
def V2(n:Int)(bs:List Ag):List (List Int):=B7 (Cn n.toNat bs bs.length) n.toNat n.toNat
def Ll(n:Int)(bs:List Ag):Prop:= ∀b∈bs,0<=b.A/\b.A<n/\0<=b.B/\b.B<n
def l06Groups.fv(a:Int×(List Ag)):List (List Int):=(V2) (a.1) (a.2)
def l06Groups.row:A7:=vK (b2 qI (qS Ag.d_le Ag.c_n)) (rS tS MU) (λa=>0<=a.1/\a.1<=1000000/\Ll a.1 a.2) l06Groups.fv
def l06Groups.q:=AY (R:=l06Groups.row) rfl
def l06Groups.ok:AC 185 l06Groups.row:=by
 refine vw (tC l00Min.ok (tC l00Max.ok tN)) Tryz.func185 ?_;intro a af;simp only[Tryz.f185];simp only[ZA,simprocAttr,l06Groups.fv];obtain⟨ak,am,aa⟩:=af;obtain⟨n,hn⟩: ∃n:Nat,a.1=n:=⟨a.1.toNat,by omega⟩;simp only[V2,hn,B8];rw[hn] at ak am aa;refine AT.ren ⟨{k:Nat//k<=n},λk=>⟨[(6,.im (.int .i64 k.1)),(5,.own 2),(0,.im (.int .i64 n)),(1,.im (.sl false 3 (a.2.map Ag.c)))],[(2,(true,.arr 2 1 ((WZ k.1).map Al)))],3⟩,λk=>n - k.1,λk=>⟨by simp[ZG],by simp⟩,⟨⟨0,by simp⟩,[(2,some 1)],?_⟩,λk=> ?_⟩
 .simp only[Aq];simp only[ZA,simprocAttr,WZ]
  try simp
 obtain⟨k,Z⟩:=k;simp only[ZA,simprocAttr,AO,NK,NI,BT,D.one];have ac:=eT k;refine⟨λz=>⟨by rw[ac];omega,⟨k+1,by omega⟩,[(2,some 4)],by simp only;omega,?_⟩,λz=> ?_⟩
 .simp only[Aq];simp only[ZA,simprocAttr];refine⟨by rw[AD (by omega) (by omega)];omega,by simp[WZ,Al]⟩
 have ah:n=k:=by omega
 subst ah;clear ac z Z;refine AT.old ⟨{k:Nat//k<=a.2.length},λk=>⟨[(7,.im (.int .i64 k.1)),(5,.own 2),(0,.im (.int .i64 n)),(1,.im (.sl false 3 (a.2.map Ag.c)))],[(2,(true,.arr 2 1 ((Cn n a.2 k.1).map Al)))],3⟩,λk=>a.2.length - k.1,λk=>⟨by simp[ZG],by simp⟩,⟨⟨0,by simp⟩,by simp only[ZA,simprocAttr,sub,Cn]⟩,λk=> ?_⟩;obtain⟨k,Z⟩:=k;have O:=Qto n a.2 k;simp only[ZA,simprocAttr,AO,O];intro _;refine⟨λz=>⟨z,λb hb=> ?_⟩,λz=> ?_⟩
 .obtain⟨b1,b2,b3,b4⟩:=aa b (AZ hb);refine⟨b1,b2,by omega,λx hx=>⟨z,λb' ab=> ?_⟩⟩;rw[hb] at ab;obtain rfl:=Ay ab;refine⟨b3,b4,by omega,λy hy=> ?_⟩;refine AT.old ⟨{j:Nat//j<=n},λj=>⟨[(10,.im (.int .i64 j.1)),(9,.im (.int .i64 y)),(8,.im (.int .i64 x)),(7,.im (.int .i64 k)),(5,.own 2),(0,.im (.int .i64 n)),(1,.im (.sl false 3 (a.2.map Ag.c)))],[(2,(true,.arr 2 1 ((Ie (JC x y) j.1 (Cn n a.2 k)).map Al)))],3⟩,λj=>n - j.1,λj=>⟨by simp[ZG],by simp⟩,⟨⟨0,by simp⟩,by simp only[ZA,simprocAttr,sub,Ie]⟩,λj=> ?_⟩;obtain⟨j,aq⟩:=j;have ad:=Qwq (JC x y) j (Cn n a.2 k);rw[O] at ad;have ai:=Qoo (JC x y) j (Cn n a.2 k);simp only[ZA,simprocAttr,l00Min.q,l00Min.fv,l00Max.q,l00Max.fv,sub,AO,ad];intro _;refine⟨λhj=>⟨hj,hj,λv hv=> ?_⟩,λhj=> ?_⟩
  .have aw:=hv;rw[ai] at hv;refine⟨λQ=>⟨hj,hj,λv' av=>⟨⟨j+1,by omega⟩,by simp only;omega,by rw[AD (by omega) (by omega)];simp only;omega,?_⟩⟩,λQ=>⟨⟨j+1,by omega⟩,by simp only;omega,by rw[AD (by omega) (by omega)];simp only;omega,?_⟩⟩
   .rw[<-Qn5 _ _ _ _ hv,JM];simp only[JC,Q,BI,Al]
   .rw[Qabf _ _ _ _ hv (by simp only[JC];rw[Af Q])]
  .refine⟨⟨k+1,by omega⟩,by simp only;omega,by rw[AD (by omega) (by omega)];simp only;omega,?_⟩;rw[Qvd _ _ _ (by omega)];simp only[Cn,hb,uP,hx,hy,AP]
 have ag:k=a.2.length:=by omega
 subst ag;clear z Z aa;refine AT.frr ⟨{k:Nat//k<=n},λk=>⟨[(12,.im (.int .i64 k.1)),(11,.own 4),(5,.own 2),(0,.im (.int .i64 n))],[(4,(true,.arrA 31 1 (Be ((B7 (Cn n a.2 a.2.length) n k.1).map CX)))),(2,(true,.arr 2 1 ((Cn n a.2 a.2.length).map Al)))],5⟩,λk=>n - k.1,λk=>⟨by simp[ZG,mW],by simp⟩,⟨⟨0,by simp⟩,[],[(4,some 3)],?_⟩,λk=> ?_⟩
 .simp only[Aq];simp only[ZA,simprocAttr,Bs,B7]
  try simp
 obtain⟨k,Z⟩:=k;obtain⟨own,hown⟩: ∃own,own=Cn n a.2 a.2.length:=⟨_,rfl⟩;simp only[<-hown] at O⊢;have an:=tL own n k;simp only[ZA,simprocAttr,AO,O];refine⟨λz=>⟨z,z,λx hx=>⟨λQ=>⟨⟨k+1,by omega⟩,[],[(4,some 4)],by simp only;omega,?_⟩,λQ=> ?_⟩⟩,λz=> ?_⟩
 .have e1:B7 own n (k+1)=B7 own n k:=by
   simp only[B7];rw[Af (by rw[hx];simpa using Q),D2]
  simp only[Aq];simp only[ZA,simprocAttr,Bs,Qzb,vJ,e1];rw[AD (by omega) (by omega)];simp
 .have Q:=Ha.1 Q;refine AT.ren ⟨{m:Nat//m<=n - k},λm=>⟨[(14,.im (.int .i64 ((k+m.1:Nat):Int))),(13,.own 6),(12,.im (.int .i64 k)),(11,.own 4),(5,.own 2),(0,.im (.int .i64 n))],[(6,(true,.arr 2 1 ((Dm own k m.1).map Al))),(4,(true,.arrA 31 1 (Be ((B7 own n k).map CX)))),(2,(true,.arr 2 1 (own.map Al)))],7⟩,λm=>n - k - m.1,λm=>⟨by simp[ZG,mW],by simp⟩,⟨⟨0,by simp⟩,[(6,some 5)],?_⟩,λm=> ?_⟩
  .simp only[Aq];simp only[ZA,simprocAttr,Bs,Dm,vJ]
   try simp
  obtain⟨m,au⟩:=m;have ao:=Qsd own k m;simp only[ZA,simprocAttr,AO,O,NK,NI,BT,D.one];refine⟨λhm=>⟨hm,hm,λv hv=>⟨λh=>⟨by omega,⟨m+1,by omega⟩,[(6,some 8)],by simp only;omega,?_⟩,λh=>⟨⟨m+1,by omega⟩,[(6,some 6)],by simp only;omega,?_⟩⟩⟩,λhm=>⟨by simp[AF,AV.bel],by omega,by rw[nJ,Ro];simp[AF,AV.bel],⟨k+1,by omega⟩,[6],[(4,some 8)],by simp only;omega,?_⟩⟩
  .simp only[Aq];simp only[ZA,simprocAttr,Bs,vJ];refine⟨?_,?_⟩
   .rw[AD (by omega) (by omega)];omega
   .subst h;simp only[Dm];rw[Ai hv];simp[Al]
  .simp only[Aq];simp only[ZA,simprocAttr,Bs,vJ];refine⟨?_,?_⟩
   .rw[AD (by omega) (by omega)];omega
   .simp only[Dm];rw[Af (by rw[hv];simpa using h),D2]
  .have aj:m=n - k:=by omega
   have e1:B7 own n (k+1)=B7 own n k++[Dm own k m]:=by
    simp only[B7];rw[Ai (by rw[hx,Q]),aj]
   simp only[Aq];simp only[ZZ,simprocAttr,Bs,Qzl,Qzb,e1,ES];rw[AD (by omega) (by omega)];refine⟨by simp,?_⟩
   have:=mZ [(4,some 8)] ((B7 own n k).map CX++[[D.sl false 1 ((Dm own k m).map Al)]])
   simpa only[Be,ES,Bf,F9] using this
 .have:k=n:=by omega
  subst this;simp only[ZZ,simprocAttr,X8]
end Go.Ae
namespace Go.Ae
def AQ(b n:Nat)(f:Nat->Ao):Ap:=(List.range n).map λi=>(b+i,f i)
def O4(b n:Nat)(f:Nat->Ao):AQ b (n+1) f=AQ b n f++[(b+n,f n)]:=by
 simp only[AQ,nK,ES,Bf,F9]
def fM(b:Nat)(f:Nat->Ao)(m:Nat): ∀(n:Nat),hget (AQ b n f) m=if b<=m/\m<b+n then some (f (m - b)) else none
 |0=>by rw[Af (by omega)];rfl
 |n+1=>by
  rw[O4,Qm2,fM b f m n];simp only[hget];by_cases h:b<=m/\m<b+n
  .rw[Ai h,Ai (by omega)]
  .rw[Af h];by_cases z:b+n=m
   .subst z;rw[Ai (by omega),show b+n - b=n by omega];simp
   .have:(b+n==m)=false:=by simpa using z
    rw[this,Af (by omega)];rfl
def GL(b n:Nat)(f:Nat->Ao)(j:Nat)(h:j<n):hget (AQ b n f) (b+j)=some (f j):=by
 rw[fM,Ai (by omega),show b+j - b=j by omega]
def Qmh(b n:Nat)(f:Nat->Ao)(m:Nat)(h:m<b\/b+n<=m):hget (AQ b n f) m=none:=by
 rw[fM,Af (by omega)]
def WA(m:Nat)(ks:List Nat): ∀(x:Ap),hget (Bj x ks) m=if ks.contains m then none else hget x m
 |[]=>by simp[Bj,hget]
 |(q,e)::r=>by
  simp only[Bj];have ih:=WA m ks r;cases hq:ks.contains q
  .simp only[Bm,hget];cases hqm:q==m
   .simpa using ih
   .have:q=m:=by simpa using hqm
    subst this;simp only[BX,hq];rfl
  .simp only[BX,ih,hget];cases hqm:q==m
   .simp
   .have:q=m:=by simpa using hqm
    subst this;rw[Ai hq,Ai hq]
def Wb(b n:Nat)(f:Nat->Ao)(ks:List Nat)(h: ∀k∈ks,k<b\/b+n<=k):Bj (AQ b n f) ks=AQ b n f:=by
 have: ∀(l:List Nat),(∀i∈l,i<n)->Bj (l.map λi=>(b+i,f i)) ks=l.map λi=>(b+i,f i):=by
  intro l;induction l with
  |nil=>intro _;rfl
  |cons i r ih=>
   intro Q;have O:=Q i (BM ..);have z:ks.contains (b+i)=false:=by
    rw[Qr];intro z
    have:=h _ (FO.1 z)
    omega
   simp only[Bf,Bj,z,Bm,ih (λj Z=>Q j (BP _ Z))]
 exact this _ (λi O=>Bt.1 O)
def Qns(π:List (Nat×Option Nat))(s:Av)(y:Ap): ∀(x:Ap),GU π s (x++y)=(GU π s x/\GU π s y)
 |[]=>by simp[GU]
 |(q,(z,e))::r=>by simp only[CO,GU,Qns π s y r,gY]
def eW(π:List (Nat×Option Nat))(s:Av)(b n:Nat)(f:Nat->Ao):GU π s (AQ b n f)↔ ∀i,i<n->Et s π (f i).1 (f i).2 (pm π (b+i)):=by
 have: ∀(l:List Nat),GU π s (l.map λi=>(b+i,f i))↔ ∀i∈l,Et s π (f i).1 (f i).2 (pm π (b+i)):=by
  intro l;induction l with
  |nil=>simp[GU]
  |cons i r ih=>simp only[Bf,GU,ih,Bh,Zek]
 rw[AQ,this];simp only[Bt]
def Fl:Ap->List Nat
 |[]=>[]
 |(n,_)::r=>n::Fl r
def fD(π:List (Nat×Option Nat)): ∀(H:Ap),OD π H=(Fl H).map (pm π)
 |[]=>rfl
 |(n,e)::r=>by simp only[OD,Fl,Bf,fD π r]
def ZB(b n:Nat)(f:Nat->Ao):Fl (AQ b n f)=(List.range n).map (b+ ·):=by
 have: ∀(l:List Nat),Fl (l.map λi=>(b+i,f i))=l.map (b+ ·):=by
  intro l;induction l with
  |nil=>rfl
  |cons i r ih=>simp only[Bf,Fl,ih]
 exact this _
def fJ(g:Nat->Option Nat): ∀(l:List Nat),l.Nodup->(∀x∈l,∀y∈l,∀m,g x=some m->g y=some m->x=y)->EX (l.map g)=true
 |[],_,_=>rfl
 |x::r,h,O=>by
  simp only[Ly] at h;have ih:=fJ g r h.2 (λa Z b hb=>O a (BP _ Z) b (BP _ hb));simp only[Bf];cases hx:g x with
  |none=>simpa only[EX] using ih
  |some m=>
   simp only[EX,ih,Fo,Rl];rw[Qr];intro hc;obtain⟨y,Q,z⟩:=Bo.1 (FO.1 hc)
   have:=O x (BM ..) y (BP _ Q) m hx z
   exact h.1 (this▸Q)
def fK(π:List (Nat×Option Nat)): ∀(a b:List (List AV)),Gq π a b↔a.length=b.length/\ ∀(i:Nat) x y,a[i]? =some x->b[i]? =some y->DL π x y
 |[],[]=>by simp[Gq]
 |[],_::_=>by simp[Gq]
 |_::_,[]=>by simp[Gq]
 |x::r,y::s=>by
  simp only[Gq,fK π r s,Cv,Nat.add_right_cancel_iff];constructor
  .rintro⟨h1,Z,Q⟩;refine⟨Z,λi x' y' z O=> ?_⟩;cases i with
   |zero=>
    simp only[G6,AI] at z O;subst z;subst O;exact h1
   |succ i=>exact Q i x' y' (by simpa using z) (by simpa using O)
  .rintro⟨Z,Q⟩;exact⟨Q 0 x y rfl rfl,Z,λi x' y' z O=>Q (i+1) x' y' (by simpa using z) (by simpa using O)⟩
def QZ(nx b:Nat)(f:Nat->Ao)(hf: ∀i,Aw nx [(b+i,f i)]=true)(n:Nat):Aw nx (AQ b n f)=true:=by
 have O: ∀(x y:Ap),Aw nx (x++y)=(Aw nx x && Aw nx y):=by
  intro x y;induction x with
  |nil=>simp[Aw]
  |cons z r ih=>
   obtain⟨q,Z,e⟩:=z;cases e<;>simp[Aw,ih,ZeK]
 have: ∀(l:List Nat),Aw nx (l.map λi=>(b+i,f i))=true:=by
  intro l;induction l with
  |nil=>rfl
  |cons i r ih=>
   have Q:=O [(b+i,f i)] (r.map λi=>(b+i,f i));rw[Bf,show (b+i,f i)::(r.map λi=>(b+i,f i))=[(b+i,f i)]++(r.map λi=>(b+i,f i)) from rfl,Q,hf i,ih];rfl
 exact this _
def QP(nx b n:Nat)(f:Nat->Ao)(h:b+n<=nx):B9 nx (AQ b n f)=true:=by
 have: ∀(l:List Nat),(∀i∈l,i<n)->B9 nx (l.map λi=>(b+i,f i))=true:=by
  intro l;induction l with
  |nil=>intro _;rfl
  |cons i r ih=>
   intro z;simp only[Bf,B9,ih (λj Q=>z j (BP _ Q)),Fo];rw[E4]
   have:=z i (BM ..)
   omega
 exact this _ (λi O=>Bt.1 O)
def Jd(b n:Nat):List (Nat×Option Nat):=(List.range n).map λi=>(b+i,none)
def mJ(b n m:Nat):pm (Jd b n) m=if b<=m/\m<b+n then none else some m:=by
 have: ∀(l:List Nat),pm (l.map λi=>(b+i,none)) m=if b<=m/\m - b∈l then none else some m:=by
  intro l;induction l with
  |nil=>simp[pm]
  |cons i r ih=>
   simp only[Bf,pm,ih,Bh];by_cases h:b+i=m
   .rw[Ai h,Ai ⟨by omega,.inl (by omega)⟩]
   .rw[Af h];by_cases z:b<=m/\m - b∈r
    .rw[Ai z,Ai ⟨z.1,.inr z.2⟩]
    .rw[Af z,Af (by rintro⟨Q,O|O⟩;exact h (by omega);exact z ⟨Q,O⟩)]
 rw[Jd,this];simp only[Bt];by_cases h:b<=m/\m<b+n
 .rw[Ai h,Ai (by omega)]
 .rw[Af h,Af (by omega)]
def Sy(lo b n:Nat)(h:lo<=b):VL lo (Jd b n):=by
 have: ∀(l:List Nat),VL lo (l.map λi=>(b+i,none)):=by
  intro l;induction l with
  |nil=>trivial
  |cons i r ih=>simp only[Bf,VL];exact⟨by omega,ih⟩
 exact this _
end Go.Ae
namespace Go.Ae
open Go.Proofs
def Ds(n:Bb)(v i:Int):Int×Int:=match n.Bonds[i.toNat]? with
 |some b=>if b.A=v then (b.Strength - n.Flow[i.toNat]?.getD 0,b.B) else (b.Strength+n.Flow[i.toNat]?.getD 0,b.A)
 |none=>(0,0)
structure D0(n:Bb):Prop where
 c0:0<=n.Cnt
 c1:n.Cnt<=1000000
 fl:n.Flow.length=n.Bonds.length
 al:(n.At.length:Int)=n.Cnt
 bs:Ll n.Cnt n.Bonds
 at_: ∀(v:Nat) (r:List Int),n.At[v]? =some r-> ∀i∈r,0<=i/\ ∃b,n.Bonds[i.toNat]? =some b/\(b.A=v\/b.B=v)
 f: ∀x∈n.Flow,-1000000<=x/\x<=1000000
 st: ∀b∈n.Bonds,0<=b.Strength/\b.Strength<=1000000
 all: ∀(i:Nat) b,n.Bonds[i]? =some b->(∃r,n.At[b.A.toNat]? =some r/\(i:Int)∈r)/\ ∃r,n.At[b.B.toNat]? =some r/\(i:Int)∈r
 ne: ∀b∈n.Bonds,b.A≠b.B
def roomC.fv(a:Bb×Int×Int):Int×Int:=(Ds) (a.1) (a.2.1) (a.2.2)
def roomC.row:A7:=Dy (b3 (qP 4 Bb.d_le) qI qI) (r2 rI rI) (λa=>D0 a.1/\0<=a.2.2/\a.2.2<a.1.Bonds.length) roomC.fv
def roomC.q:=CP (R:=roomC.row) rfl
def roomC.ok:AC 230 roomC.row:=by
 refine Gz tN Tryz.func230 ?_;intro a z;simp only[Tryz.f230];simp only[ZZ,simprocAttr,roomC.fv,D.sc,D.scs,BC];obtain⟨O,Q,h3⟩:=z;have ab:=O.fl;refine⟨Q,h3,λb Z=> ?_⟩;have ac:=O.st b (AZ Z)
 split<;>rename_i h
 .refine⟨Q,by omega,λf hf=> ?_⟩;have aa:=O.f f (AZ hf);rw[AD (by omega) (by omega)];simp only[Ds,Z,hf,AP];rw[Ai h]
 .refine⟨Q,by omega,λf hf=> ?_⟩;have aa:=O.f f (AZ hf);rw[AD (by omega) (by omega)];simp only[Ds,Z,hf,AP];rw[Af h]
def D9(n:Bb)(v i:Int):Int:=match n.Bonds[i.toNat]? with
 |some b=>b.A+b.B - v
 |none=>0
def B3(n:Bb)(v:Int)(s:List Int×List Int)(i:Int):List Int×List Int:=
 if s.1[(D9 n v i).toNat]?.getD 0<0/\0<(Ds n (D9 n v i) i).1 then (s.1.set (D9 n v i).toNat (s.1[v.toNat]?.getD 0+1),s.2++[D9 n v i]) else s
def C8(n:Bb)(q:Int):Nat->List Int×List Int
 |0=>((List.replicate n.Cnt.toNat (-1)).set q.toNat 0,[q])
 |k+1=>match (C8 n q k).2[k]? with
  |none=>C8 n q k
  |some v=>(n.At[v.toNat]?.getD []).foldl (B3 n v) (C8 n q k)
def Fi(n:Bb)(q:Int):List Int:=(C8 n q n.Cnt.toNat).1
structure WQ(n:Bb)(s:List Int×List Int):Prop where
 len:s.1.length=n.Cnt.toNat
 rng: ∀x∈s.1,-1<=x/\x<=s.2.length
 q: ∀x∈s.2,0<=x/\x<n.Cnt
 cnt:(s.1.filter (λx=>decide (0<=x))).length=s.2.length
def Qlu{A:Type}(p:A->Bool): ∀(l:List A) (w:Nat) (x y:A),l[w]? =some x->p x=false->p y=true->((l.set w y).filter p).length=(l.filter p).length+1
 |[],w,x,y,h,_,_=>by simp at h
 |z::r,0,x,y,h,O,Q=>by
  simp only[G6,AI] at h;subst h;simp[O,Q]
 |z::r,w+1,x,y,h,O,Q=>by
  have:=Qlu p r w x y (by simpa using h) O Q
  simp only[nO,ZeX];split
  .simp only[Cv,this]
  .exact this
def Qkx{n:Bb}(h0:0<=n.Cnt){s:List Int×List Int}(h:WQ n s):(s.2.length:Int)<=n.Cnt:=by
 have z:=h.cnt;have O:=Zfe (λx=>decide (0<=x)) s.1;have Q:=h.len;omega
def fB{n:Bb}(hn:D0 n){v:Nat}{r:List Int}(Z:n.At[v]? =some r){i:Int}(Q:i∈r):0<=i/\i<n.Bonds.length/\0<=D9 n v i/\D9 n v i<n.Cnt:=by
 obtain⟨h0,b,z,hv⟩:=hn.at_ v r Z i Q;have O:=hn.bs b (AZ z);have hl:=(BW.1 z).1;simp only[D9,z];omega
def Qtm{n:Bb}(hn:D0 n){v:Nat}{r:List Int}(Z:n.At[v]? =some r){i:Int}(Q:i∈r){s:List Int×List Int}(hs:WQ n s):WQ n (B3 n v s i):=by
 obtain⟨_,_,o1,o2⟩:=fB hn Z Q;simp only[B3];split
 .rename_i h;have O:(D9 n v i).toNat<s.1.length:=by rw[hs.len];omega
  obtain⟨x,hx⟩: ∃x,s.1[(D9 n v i).toNat]? =some x:=⟨_,Bi O⟩;have aa:x<0:=by have:=h.1;rw[hx] at this;simpa using this
  have hvb:0<=s.1[(v:Int).toNat]?.getD 0+1/\s.1[(v:Int).toNat]?.getD 0+1<=s.2.length+1:=by
   cases hv:s.1[(v:Int).toNat]? with
   |none=>simp;omega
   |some y=>have:=hs.rng y (AZ hv);simp only[AP];omega
  refine⟨by simpa using hs.len,λy z=> ?_,λy z=> ?_,?_⟩
  .simp only[C9,Cv,FA];rcases Xk z with z|z
   .have:=hs.rng y z;omega
   .subst z;omega
  .rcases Bn.1 z with z|z
   .exact hs.q y z
   .rw[Bz] at z;subst z;exact⟨o1,o2⟩
  .rw[Qlu _ _ _ x _ hx (by rw[Iu];omega) (by rw[Bq];exact hvb.1),hs.cnt];simp
 .exact hs
def Qs1{n:Bb}(hn:D0 n){v:Nat}{r:List Int}(Q:n.At[v]? =some r): ∀(l:List Int) (s:List Int×List Int),(∀i∈l,i∈r)->WQ n s->WQ n (l.foldl (B3 n v) s)
 |[],s,_,z=>z
 |i::l,s,O,z=>Qs1 hn Q l _ (λj Z=>O j (BP _ Z)) (Qtm hn Q (O i (BM ..)) z)
def WE{n:Bb}(hn:D0 n){q:Int}(h0:0<=q)(O:q<n.Cnt): ∀k,WQ n (C8 n q k)
 |0=>by
  have hq:q.toNat<n.Cnt.toNat:=by omega
  refine⟨by simp[C8],λx z=> ?_,λx z=> ?_,?_⟩
  .simp only[C8] at z⊢;rcases Xk z with z|z
   .have:=Ob z;simp;omega
   .subst z;simp
  .simp only[C8,Bz] at z;subst z;exact⟨h0,O⟩
  .simp only[C8];rw[Qlu _ _ _ (-1) _ (by rw[Ls,Ai hq]) (by simp) (by simp)]
   have:(List.replicate n.Cnt.toNat (-1:Int)).filter (λx=>decide (0<=x))=[]:=by
    rw[ZeZ];intro x z;rw[Ob z];simp
   rw[this];rfl
 |k+1=>by
  have ih:=WE hn h0 O k;simp only[C8];split
  .exact ih
  .rename_i v Z;have aa:=ih.q v (AZ Z);obtain⟨m,rfl⟩: ∃m:Nat,v=m:=⟨v.toNat,by omega⟩;have Q:m<n.At.length:=by have:=hn.al;omega
   obtain⟨r,hr⟩: ∃r,n.At[m]? =some r:=⟨_,Bi Q⟩;simp only[B8,hr,AP];exact Qs1 hn hr r _ (λ_ h=>h) ih
def L5(n:Bb)(q:Int): ∀(m k:Nat),(C8 n q k).2.length<=k->C8 n q (k+m)=C8 n q k
 |0,k,_=>rfl
 |m+1,k,h=>by
  have z:C8 n q (k+1)=C8 n q k:=by
   rw[C8,E9 h]
  have O:=L5 n q m (k+1) (by rw[z];omega);rw[show k+(m+1)=k+1+m by omega,O,z]
def Qwn(n:Bb)(v:Int): ∀(l:List Int) (s:List Int×List Int),s.2.length<=(l.foldl (B3 n v) s).2.length
 |[],s=>AL _
 |i::l,s=>by
  have z:s.2.length<=(B3 n v s i).2.length:=by
   simp only[B3];split
   .simp
   .exact AL _
  exact DH z (Qwn n v l _)
def stepsC.fv(a:Bb×Int):List Int:=(Fi) (a.1) (a.2)
def stepsC.row:A7:=Dy (b2 (qP 4 Bb.d_le) qI) (rS Fh EN) (λa=>D0 a.1/\0<=a.2/\a.2<a.1.Cnt) stepsC.fv
def stepsC.q:=CP (R:=stepsC.row) rfl
def stepsC.ok:AC 214 stepsC.row:=by
 refine Gz (tC roomC.ok tN) Tryz.func214 ?_;intro a ah;simp only[Tryz.f214];simp only[ZZ,simprocAttr,stepsC.fv];obtain⟨hn,ai,ao⟩:=ah;have aw:=hn.c1;obtain⟨c,hc⟩: ∃c:Nat,a.1.Cnt=c:=⟨a.1.Cnt.toNat,by omega⟩;refine AT.ren ⟨{k:Nat//k<=c},λk=>⟨[(6,.im (.int .i64 k.1)),(5,.own 3),(0,.ptr 0 0),(1,.im (.int .i64 a.2))],[(3,(true,.arr 2 1 ((List.replicate k.1 (-1:Int)).map Al))),(0,(false,.view (Bb.c a.1)))],4⟩,λk=>c - k.1,λk=>⟨by simp[ZG],by simp⟩,⟨⟨0,by simp⟩,[(3,some 2)],?_⟩,λk=> ?_⟩
 .simp only[Aq];simp only[ZZ,simprocAttr,Bs,List.replicate_zero]
  try simp
 obtain⟨k,am⟩:=k;simp only[ZZ,simprocAttr,HW,AO,hc,Oc];refine⟨λhk=>⟨by omega,⟨k+1,by omega⟩,[(3,some 5)],by simp only;omega,?_⟩,λhk=> ?_⟩
 .simp only[Aq];simp only[ZA,simprocAttr,Bs];refine⟨by rw[AD (by omega) (by omega)];omega,?_⟩;rw[List.replicate_succ'];simp[Al]
 have an:c=k:=by omega
 subst an;refine⟨ai,by omega,by omega,λ_ _=> ?_⟩;have au:=hn.al;have ad:=WE hn ai ao;refine AT.ren ⟨{k:Nat//k<=(C8 a.1 a.2 k).2.length},λk=>⟨[(8,.im (.int .i64 k.1)),(7,.own 5),(5,.own 3),(0,.ptr 0 0),(1,.im (.int .i64 a.2))],[(5,(true,.arr 2 1 ((C8 a.1 a.2 k.1).2.map Al))),(3,(true,.arr 2 1 ((C8 a.1 a.2 k.1).1.map Al))),(0,(false,.view (Bb.c a.1)))],6⟩,λk=>c - k.1,λk=>⟨by simp[ZG],by simp⟩,⟨⟨0,by simp⟩,[(5,some 4)],?_⟩,λk=> ?_⟩
 .simp only[Aq];simp only[ZZ,simprocAttr,Bs,hc,C8];simp[Al,JM]
 obtain⟨k,am⟩:=k;have hi:=ad k;have ax:=hi.len;have az:=Qkx (by omega) hi;simp only[ZZ,simprocAttr,HW,D.sc,Ur,BC,AO,hc];intro _;refine⟨λhk=>⟨hk,hk,λv hv=> ?_⟩,λhk=> ?_⟩
 .have a9:=hi.q v (AZ hv);obtain⟨m,rfl⟩: ∃m:Nat,v=m:=⟨v.toNat,by omega⟩;have hm:m<a.1.At.length:=by omega
  obtain⟨r,hr⟩: ∃r,a.1.At[m]? =some r:=⟨_,Bi hm⟩;have Q:C8 a.1 a.2 (k+1)=r.foldl (B3 a.1 m) (C8 a.1 a.2 k):=by
   simp only[C8,hv,B8,hr,AP]
  refine AT.ren ⟨{j:Nat//j<=r.length},λj=>⟨[(10,.im (.int .i64 j.1)),(9,.im (.int .i64 m)),(8,.im (.int .i64 k)),(7,.own 6),(5,.own 3),(0,.ptr 0 0),(1,.im (.int .i64 a.2))],[(6,(true,.arr 2 1 (((r.take j.1).foldl (B3 a.1 m) (C8 a.1 a.2 k)).2.map Al))),(3,(true,.arr 2 1 (((r.take j.1).foldl (B3 a.1 m) (C8 a.1 a.2 k)).1.map Al))),(0,(false,.view (Bb.c a.1)))],7⟩,λj=>r.length - j.1,λj=>⟨by simp[ZG],by simp⟩,⟨⟨0,by simp⟩,[(6,some 5)],?_⟩,λj=> ?_⟩
  .simp only[Aq];simp only[ZZ,simprocAttr,Bs,hc,nM]
   try simp
  obtain⟨j,ay⟩:=j;have hs:=Qs1 hn hr (r.take j) _ (λi hi=>wP hi) hi;obtain⟨s,hsd⟩: ∃s,s=(r.take j).foldl (B3 a.1 m) (C8 a.1 a.2 k):=⟨_,rfl⟩;rw[<-hsd] at hs;have aq:=hs.len;have a8:=Qkx (by omega) hs;simp only[<-hsd];have ag:(⟨(c:Int),a.1.Bonds,a.1.At,a.1.Flow⟩:Bb)=a.1:=by rw[<-hc]
  simp only[ZZ,simprocAttr,C3,roomC.q,roomC.fv,HW,AO,hc,ag,aq,NK,NI,zO,BT,D.one];refine⟨hm,λr' O=> ?_⟩;rw[hr] at O;obtain rfl:=Ay O;intro a0;refine⟨λhj=>⟨hm,λr' O=> ?_⟩,λhj=> ?_⟩
  .rw[hr] at O;obtain rfl:=Ay O;refine⟨hj,λi ac=> ?_⟩;have aj:=AZ ac;obtain⟨i0,i1,o0,o1⟩:=fB hn hr aj;have z:(r.take (j+1)).foldl (B3 a.1 m) (C8 a.1 a.2 k)=B3 a.1 m s i:=by
    rw[Ip,ac,ZeQ,<-hsd];rfl
   refine⟨i0,i1,λb hb=>⟨i0,i1,λb' ab=> ?_⟩⟩;rw[hb] at ab;obtain rfl:=Ay ab;have av:=hn.bs b (AZ hb);have hw:IntKind.wrap .i64 (IntKind.wrap .i64 (b.A+b.B) - m)=D9 a.1 m i:=by
    rw[AD (x:=b.A+b.B) (by omega) (by omega),AD (by omega) (by omega)];simp only[D9,hb]
   rw[hw];have af:(D9 a.1 m i).toNat<c:=by omega
   refine⟨⟨hn,i0,i1⟩,o0,by omega,af,λx hx=>⟨λaa=>⟨λZ=>⟨by omega,by omega,λy hy=>⟨o0,by omega,af,λ_ _=>⟨by omega,⟨j+1,by omega⟩,[(6,some 8)],by simp only;omega,?_⟩⟩⟩,λZ=>⟨⟨j+1,by omega⟩,[(6,some 6)],by simp only;omega,?_⟩⟩,λaa=>⟨⟨j+1,by omega⟩,[(6,some 6)],by simp only;omega,?_⟩⟩⟩
   .have e1:B3 a.1 m s i=(s.1.set (D9 a.1 m i).toNat (y+1),s.2++[D9 a.1 m i]):=by
     simp only[B3];rw[Ai ⟨by rw[hx];exact aa,Z⟩,B8,hy];rfl
    have ba:=hs.rng y (AZ hy);simp only[Aq,z,e1];simp only[ZA,simprocAttr,Bs];rw[AD (x:=y+1) (by omega) (by omega)];refine⟨by rw[AD (by omega) (by omega)];omega,?_,?_⟩
    .simp[Al]
    .simp[Al,JM]
   .have e1:B3 a.1 m s i=s:=by
     simp only[B3];rw[Af (λh=>Z h.2)]
    simp only[Aq,z,e1];simp only[ZA,simprocAttr,Bs];rw[AD (by omega) (by omega)];simp
   .have e1:B3 a.1 m s i=s:=by
     simp only[B3];rw[Af (λh=>aa (by have:=h.1;rw[hx] at this;exact this))]
    simp only[Aq,z,e1];simp only[ZA,simprocAttr,Bs];rw[AD (by omega) (by omega)];simp
  .have ak:j=r.length:=by omega
   subst ak;rw[IS] at hsd;refine⟨⟨k+1,by
    have:=Qwn a.1 m r (C8 a.1 a.2 k)
    rw[Q];omega⟩,[(5,some 6)],by simp only;omega,?_⟩
   simp only[Aq,Q,<-hsd];simp only[ZA,simprocAttr,Bs];rw[AD (by omega) (by omega)];simp
 .rw[Fi,hc,B8]
  have:=L5 a.1 a.2 (c - k) k (by omega)
  rw[show k+(c - k)=c by omega] at this;rw[this]
def aJ(l:List Int):Nat->List Int
 |0=>[]
 |k+1=>aJ l k++(if 0<=l[k]?.getD (-1) then [(k:Int)] else [])
def Qu8(l:List Int): ∀k,(aJ l k).length<=k
 |0=>AL _
 |k+1=>by
  have:=Qu8 l k
  simp only[aJ,C9]
  split<;>simp<;>omega
def fX(n:Bb)(q:Int):List Int:=aJ (Fi n q) n.Cnt.toNat
def sZ{n:Bb}(hn:D0 n){q:Int}(h0:0<=q)(z:q<n.Cnt):(Fi n q).length=n.Cnt.toNat:=(WE hn h0 z _).len
def sideC.fv(a:Bb×Int):List Int:=(fX) (a.1) (a.2)
def sideC.row:A7:=Dy (b2 (qP 4 Bb.d_le) qI) (rS Fh EN) (λa=>D0 a.1/\0<=a.2/\a.2<a.1.Cnt) sideC.fv
def sideC.q:=CP (R:=sideC.row) rfl
def sideC.ok:AC 190 sideC.row:=by
 refine Gz (tC stepsC.ok tN) Tryz.func190 ?_;intro a z;simp only[Tryz.f190];simp only[ZZ,simprocAttr,C3,sideC.fv,stepsC.q,stepsC.fv];refine⟨z,?_⟩;obtain⟨hn,Q,Z⟩:=z;have aa:=hn.c1;obtain⟨c,hc⟩: ∃c:Nat,a.1.Cnt=c:=⟨a.1.Cnt.toNat,by omega⟩;have O:=sZ hn Q Z;rw[hc,B8] at O;simp only[fX,hc,B8];obtain⟨l,hl⟩: ∃l,l=Fi a.1 a.2:=⟨_,rfl⟩;simp only[<-hl] at O⊢;refine AT.ren ⟨{k:Nat//k<=c},λk=>⟨[(7,.im (.int .i64 k.1)),(6,.own 3),(5,.im (.sl false 1 (l.map Al))),(0,.ptr 0 0)],[(3,(true,.arr 2 1 ((aJ l k.1).map Al))),(0,(false,.view (Bb.c a.1)))],4⟩,λk=>c - k.1,λk=>⟨by simp[ZG],by simp⟩,⟨⟨0,by simp⟩,[(3,some 2)],?_⟩,λk=> ?_⟩
 .simp only[Aq];simp only[ZZ,simprocAttr,Bs,hc,aJ]
  try simp
 obtain⟨k,ab⟩:=k;have ac:=Qu8 l k;simp only[ZZ,simprocAttr,HW,D.sc,Ur,BC,AO,hc,O,NK,NI,zO,BT,D.one];refine⟨λhk=>⟨hk,λx hx=>⟨λh=>⟨by omega,⟨k+1,by omega⟩,[(3,some 5)],by simp only;omega,?_⟩,λh=>⟨⟨k+1,by omega⟩,[(3,some 3)],by simp only;omega,?_⟩⟩⟩,λhk=> ?_⟩
 .simp only[Aq];simp only[ZA,simprocAttr,Bs];refine⟨by rw[AD (by omega) (by omega)];omega,?_⟩;simp only[aJ,hx,AP];rw[Ai h];simp[Al]
 .simp only[Aq];simp only[ZA,simprocAttr,Bs];refine⟨by rw[AD (by omega) (by omega)];omega,?_⟩;simp only[aJ,hx,AP];rw[Af h,D2]
 .rw[show k=c by omega]
def Ic(n:Bb)(v i:Int):Bb:=⟨n.Cnt,n.Bonds,n.At,match n.Bonds[i.toNat]? with
 |some b=>n.Flow.set i.toNat (if b.A=v then n.Flow[i.toNat]?.getD 0+1 else n.Flow[i.toNat]?.getD 0 - 1)
 |none=>n.Flow⟩
def HZ(n:Bb):List AV:=[.im (.int .i64 n.Cnt),.im (.sl false 3 (n.Bonds.map Ag.c)),.im (.sl false 1 (n.At.map CX)),.own 1]
def Gr(n:Bb):Ap:=[(0,(true,.cells 290 (HZ n))),(1,(true,.arr 2 1 (n.Flow.map Al)))]
def oZ(n:Bb)(j:Nat):Ak (Gr n) j=true↔j<2:=by
 simp only[Ak,Gr,hget];by_cases h0:j=0
 .subst h0;simp
 .by_cases Q:j=1
  .subst Q;simp
  .have z:(0==j)=false:=by simp;omega
   have O:(1==j)=false:=by simp;omega
   simp[z,O];omega
def bC(j:Nat):Bool:=j==1
def pushC.ca(a:Bb×Int×Int):List AV:=[.ptr 0 0,.im (.int .i64 a.2.1),.im (.int .i64 a.2.2)]
def pushC.H1(a:Bb×Int×Int):Ap:=[(1,(true,.arr 2 1 ((Ic a.1 a.2.1 a.2.2).Flow.map Al)))]
def pushC.row:A7:=AB pushC.ca (λa=>Gr a.1) 2 (λa=>D0 a.1/\0<=a.2.2/\a.2.2<a.1.Bonds.length) bC (λ_=> .im (.tup [])) pushC.H1 0
def pushC.ok:AC 231 pushC.row:=by
 refine ow tN Tryz.func231 (exB:=λ_=>false) (R:=λ_ r=>r= .im (.tup [])) (λ_=>rfl)
  (λa=>by simp[pushC.ca,Gr,HZ,AF,AV.bel,Aw,B9,BS,Ab.nms,AA,AV.nms,Ak,hget]) (λa p hp=> ?_) (λa r h=>by subst h;exact CU.refl _) ?_
 rotate_left
 intro a z;simp only[Tryz.f231,pushC.ca,Gr,HZ,pushC.H1];simp only[ZA,simprocAttr,bC];obtain⟨hn,h0,Z⟩:=z;have aa:=hn.fl;refine⟨h0,Z,λb Q=> ?_⟩
 split<;>rename_i h
 .refine⟨h0,by omega,by omega,λf hf=>⟨h0,by omega,by omega,λ_ _=> ?_⟩⟩;have O:=hn.f f (AZ hf);rw[AD (by omega) (by omega)];simp only[Ic,Q,hf,AP,Ai h,JM];rfl
 .refine⟨h0,by omega,by omega,λf hf=>⟨h0,by omega,by omega,λ_ _=> ?_⟩⟩;have O:=hn.f f (AZ hf);rw[AD (by omega) (by omega)];simp only[Ic,Q,hf,AP,Af h,JM];rfl
 simp[pushC.H1] at hp;subst hp;exact .inl ⟨by omega,rfl,rfl⟩
structure FB(n:Bb)(q:Int)(s:List Int×List Int):Prop where
 zero:s.1[q.toNat]? =some 0
 uniq: ∀(w:Nat),s.1[w]? =some 0->w=q.toNat
 prev: ∀(w:Nat) (x:Int),s.1[w]? =some x->0<x-> ∃(v:Nat) (r:List Int) (i:Int),s.1[v]? =some (x - 1)/\n.At[v]? =some r/\i∈r/\D9 n v i=w/\0<(Ds n w i).1
 qs: ∀v∈s.2,∃y,s.1[v.toNat]? =some y/\0<=y
def tE(n:Bb)(v:Int)(s:List Int×List Int)(i:Int)(u:Nat)(y:Int)(h:s.1[u]? =some y)(h0:0<=y):(B3 n v s i).1[u]? =some y:=by
 simp only[B3];split
 .rename_i O;have z:(D9 n v i).toNat≠u:=by
   intro Q;rw[Q,h] at O
   have:=O.1
   simp at this;omega
  simp only;rw[Dw z];exact h
 .exact h
def Qor(n:Bb)(v:Int)(u:Nat)(y:Int)(h0:0<=y): ∀(l:List Int) (s:List Int×List Int),s.1[u]? =some y->(l.foldl (B3 n v) s).1[u]? =some y
 |[],_,h=>h
 |i::l,s,h=>Qor n v u y h0 l _ (tE n v s i u y h h0)
def iB{n:Bb}(hn:D0 n){q:Int}{v:Nat}{r:List Int}(hr:n.At[v]? =some r){i:Int}(hi:i∈r){s:List Int×List Int}(hs:WQ n s)(hp:FB n q s){y:Int}(hv:s.1[v]? =some y)(hy:0<=y):FB n q (B3 n v s i):=by
 obtain⟨_,_,o1,o2⟩:=fB hn hr hi;have keep:=λu z h h0=>tE n v s i u z h h0
 have aa:(D9 n v i).toNat<s.1.length:=by rw[hs.len];omega
 by_cases hc:s.1[(D9 n v i).toNat]?.getD 0<0/\0<(Ds n (D9 n v i) i).1
 .have Z:B3 n v s i=(s.1.set (D9 n v i).toNat (y+1),s.2++[D9 n v i]):=by
   simp only[B3];rw[Ai hc,B8,hv];rfl
  have hget: ∀(w:Nat) (x:Int),(B3 n v s i).1[w]? =some x->(w=(D9 n v i).toNat/\x=y+1)\/s.1[w]? =some x:=by
   intro w x O;rw[Z] at O;simp only at O;by_cases hw:(D9 n v i).toNat=w
   .subst hw;rw[CY aa] at O;exact .inl ⟨rfl,(Ay O).symm⟩
   .rw[Dw hw] at O;exact .inr O
  refine⟨keep _ _ hp.zero (by omega),λw hw=> ?_,λw x O h0=> ?_,λu Q=> ?_⟩
  .rcases hget w 0 hw with ⟨_,h⟩|h
   .omega
   .exact hp.uniq w h
  .rcases hget w x O with ⟨h1,h2⟩|h
   .refine⟨v,r,i,keep _ _ (by rw[hv];congr 1;omega) (by omega),hr,hi,by omega,?_⟩
    have:(w:Int)=D9 n v i:=by omega
    rw[this];exact hc.2
   .obtain⟨v',r',i',g1,g2,g3,g4,g5⟩:=hp.prev w x h h0;exact⟨v',r',i',keep _ _ g1 (by omega),g2,g3,g4,g5⟩
  .rw[Z] at Q;rcases Bn.1 Q with Q|Q
   .obtain⟨z,h1,h2⟩:=hp.qs u Q;exact⟨z,keep _ _ h1 h2,h2⟩
   .rw[Bz] at Q;subst Q;refine⟨y+1,?_,by omega⟩;rw[Z];exact CY aa
 .have Z:B3 n v s i=s:=by simp only[B3];rw[Af hc]
  rw[Z];exact hp
def R2{n:Bb}(hn:D0 n){q:Int}{v:Nat}{r:List Int}(O:n.At[v]? =some r){y:Int}(Q:0<=y): ∀(l:List Int) (s:List Int×List Int),(∀i∈l,i∈r)->WQ n s->FB n q s->s.1[v]? =some y->FB n q (l.foldl (B3 n v) s)
 |[],s,_,_,hp,_=>hp
 |i::l,s,z,Z,hp,hv=>R2 hn O Q l _ (λj hj=>z j (BP _ hj)) (Qtm hn O (z i (BM ..)) Z) (iB hn O (z i (BM ..)) Z hp hv Q) (tE n v s i v y hv Q)
def NH{n:Bb}(hn:D0 n){q:Int}(h0:0<=q)(h1:q<n.Cnt): ∀k,FB n q (C8 n q k)
 |0=>by
  have hq:q.toNat<n.Cnt.toNat:=by omega
  have z:q.toNat<(List.replicate n.Cnt.toNat (-1:Int)).length:=by rw[Oc];exact hq
  have hget: ∀(w:Nat) (x:Int),((List.replicate n.Cnt.toNat (-1:Int)).set q.toNat 0)[w]? =some x->(w=q.toNat/\x=0)\/x= -1:=by
   intro w x O;by_cases Z:q.toNat=w
   .subst Z;rw[CY z] at O;exact .inl ⟨rfl,(Ay O).symm⟩
   .rw[Dw Z] at O;exact .inr (Ob (AZ O))
  refine⟨CY z,λw Z=> ?_,λw x O ab=> ?_,λv Q=> ?_⟩
  .rcases hget w 0 Z with h|h
   .exact h.1
   .omega
  .rcases hget w x O with h|h<;>omega
  .simp only[C8,Bz] at Q;subst Q;exact⟨0,CY z,Oe _⟩
 |k+1=>by
  have ih:=NH hn h0 h1 k;have hi:=WE hn h0 h1 k;simp only[C8];split
  .exact ih
  .rename_i v Q;have ac:=hi.q v (AZ Q);obtain⟨m,rfl⟩: ∃m:Nat,v=m:=⟨v.toNat,by omega⟩;have hm:m<n.At.length:=by have:=hn.al;omega
   obtain⟨r,hr⟩: ∃r,n.At[m]? =some r:=⟨_,Bi hm⟩;obtain⟨y,hy,aa⟩:=ih.qs _ (AZ Q);simp only[B8,hr,AP];exact R2 hn hr aa r _ (λ_ h=>h) hi ih (by simpa using hy)
def IN(n:Bb):Prop:= ∀(i:Nat) b f,n.Bonds[i]? =some b->n.Flow[i]? =some f-> -b.Strength<=f/\f<=b.Strength
def FN(n:Bb)(st:List Int)(v:Int)(acc:Int×Int)(i:Int):Int×Int:=
 if 0<(Ds n v i).1/\st[(Ds n v i).2.toNat]?.getD 0=st[v.toNat]?.getD 0 - 1/\(acc.1<0\/(Ds n v i).2<acc.1) then ((Ds n v i).2,i) else acc
def GO(n:Bb)(st:List Int)(v:Int):Int×Int:=(n.At[v.toNat]?.getD []).foldl (FN n st v) (-1,0)
def BR(n:Bb)(st:List Int)(p:Int):Nat->Bb×Int
 |0=>(n,p)
 |k+1=>(Ic (BR n st p k).1 (BR n st p k).2 (GO (BR n st p k).1 st (BR n st p k).2).2,(GO (BR n st p k).1 st (BR n st p k).2).1)
def Fj(n:Bb)(p q:Int):Bb×Bool:=
 if (Fi n q)[p.toNat]?.getD 0<0 then (n,false) else ((BR n (Fi n q) p ((Fi n q)[p.toNat]?.getD 0).toNat).1,true)
def vL{n:Bb}(hn:D0 n){v:Nat}{r:List Int}(Z:n.At[v]? =some r){i:Int}(Q:i∈r):0<=(Ds n v i).2/\(Ds n v i).2<n.Cnt:=by
 obtain⟨h0,b,z,hv⟩:=hn.at_ v r Z i Q;have O:=hn.bs b (AZ z);simp only[Ds,z]
 split<;>simp only<;>omega
def LV(n:Bb)(st:List Int)(v:Int)(r:List Int)(w:Int×Int):Prop:=w.2∈r/\0<(Ds n v w.2).1/\(Ds n v w.2).2=w.1/\st[w.1.toNat]?.getD 0=st[v.toNat]?.getD 0 - 1/\0<=w.1
def Qq8{n:Bb}(hn:D0 n)(st:List Int){v:Nat}{r:List Int}(Q:n.At[v]? =some r): ∀(l:List Int) (acc:Int×Int),(∀i∈l,i∈r)->(acc.1<0\/LV n st v r acc)->(l.foldl (FN n st v) acc).1<0\/LV n st v r (l.foldl (FN n st v) acc)
 |[],acc,_,h=>h
 |i::l,acc,z,h=>by
  refine Qq8 hn st Q l _ (λj Z=>z j (BP _ Z)) ?_;simp only[FN];split
  .rename_i O;exact .inr ⟨z i (BM ..),O.1,rfl,O.2.1,(vL hn Q (z i (BM ..))).1⟩
  .exact h
def Pa{n:Bb}(hn:D0 n)(st:List Int){v:Nat}{r:List Int}(O:n.At[v]? =some r){i:Int}(z:i∈r)(acc:Int×Int)(h:0<=acc.1):0<=(FN n st v acc i).1:=by
 simp only[FN];split
 .exact (vL hn O z).1
 .exact h
def Qvo{n:Bb}(hn:D0 n)(st:List Int){v:Nat}{r:List Int}(O:n.At[v]? =some r): ∀(l:List Int) (acc:Int×Int),(∀i∈l,i∈r)->0<=acc.1->0<=(l.foldl (FN n st v) acc).1
 |[],_,_,h=>h
 |i::l,acc,z,h=>Qvo hn st O l _ (λj Q=>z j (BP _ Q)) (Pa hn st O (z i (BM ..)) acc h)
def Qqh{n:Bb}(hn:D0 n)(st:List Int){v:Nat}{r:List Int}(Q:n.At[v]? =some r){i:Int}(Z:0<(Ds n v i).1)(h2:st[(Ds n v i).2.toNat]?.getD 0=st[(v:Int).toNat]?.getD 0 - 1): ∀(l:List Int) (acc:Int×Int),(∀i∈l,i∈r)->i∈l->0<=(l.foldl (FN n st v) acc).1
 |[],_,_,h=>by cases h
 |j::l,acc,hl,h=>by
  simp only[Xj];have z:=λk hk=>hl k (BP _ hk)
  rcases Bh.1 h with rfl|h
  .refine Qvo hn st Q l _ z ?_;have hb:=vL hn Q (hl _ (BM ..));simp only[FN];split
   .exact hb.1
   .rename_i hc;rcases Zfz acc.1 0 with O|O
    .exact absurd ⟨Z,h2,.inl O⟩ hc
    .exact O
  .exact Qqh hn st Q Z h2 l _ z h
def Pb{n:Bb}(hn:D0 n)(st:List Int){v:Nat}{r:List Int}(z:n.At[v]? =some r){i:Int}(Z:i∈r)(O:0<(Ds n v i).1)(Q:st[(Ds n v i).2.toNat]?.getD 0=st[(v:Int).toNat]?.getD 0 - 1):LV n st v r (GO n st v):=by
 have e:GO n st v=r.foldl (FN n st v) (-1,0):=by simp only[GO,B8,z,AP]
 rw[e];have h3:=Qqh hn st z O Q r (-1,0) (λ_ h=>h) Z;rcases Qq8 hn st z r (-1,0) (λ_ h=>h) (.inl (by decide)) with h|h
 .omega
 .exact h
def Y2{n:Bb}(hn:D0 n)(hc:IN n){v:Nat}{i:Int}(h0:0<=i)(z:0<(Ds n v i).1):D0 (Ic n v i)/\IN (Ic n v i):=by
 obtain⟨m,rfl⟩: ∃m:Nat,i=m:=⟨i.toNat,by omega⟩;have Q:IN (Ic n v m):=by
  intro j b f O hf;simp only[Ic,B8] at O hf;simp only[Ds,B8] at z;cases hbm:n.Bonds[m]? with
  |none=>rw[hbm] at hf;exact hc j b f O hf
  |some b'=>
   rw[hbm] at hf z;simp only at hf z;by_cases Z:m=j
   .subst Z;rw[O] at hbm;obtain rfl:=Ay hbm;have aa:m<n.Flow.length:=by
     have:=(BW.1 hf).1
     simpa using this
    rw[CY aa] at hf;have hf:=Ay hf;obtain⟨g,hg⟩: ∃g,n.Flow[m]? =some g:=⟨_,Bi aa⟩;have ac:=hc m b g O hg;rw[hg] at hf z;simp only[AP] at hf z;split at hf<;>rename_i hA
    .rw[Ai hA] at z;simp only at z;omega
    .rw[Af hA] at z;simp only at z;omega
   .rw[Dw Z] at hf;exact hc j b f O hf
 refine⟨⟨hn.c0,hn.c1,?_,hn.al,hn.bs,hn.at_,?_,hn.st,hn.all,hn.ne⟩,Q⟩
 .have:=hn.fl
  simp only[Ic];split
  .simpa using this
  .exact this
 .intro x hx;obtain⟨j,Z⟩:=JK.1 hx;have ad:=(BW.1 Z).1;have ab:(Ic n v m).Flow.length=n.Bonds.length:=by
   rw[<-hn.fl];simp only[Ic];split
   .simp
   .rfl
  obtain⟨b,O⟩: ∃b,n.Bonds[j]? =some b:=⟨_,Bi (by omega)⟩;have h1:=Q j b x O Z;have h2:=hn.st b (AZ O);omega
def Qabc(n:Bb)(v i:Int)(j:Nat)(h:i.toNat≠j):(Ic n v i).Flow[j]? =n.Flow[j]? :=by
 simp only[Ic];split
 .exact Dw h
 .rfl
def Pn{n n':Bb}(z:n'.Bonds=n.Bonds)(i:Int)(hf:n'.Flow[i.toNat]? =n.Flow[i.toNat]?)(v:Int):Ds n' v i=Ds n v i:=by
 simp only[Ds,z,hf]
structure bW(n:Bb)(st:List Int)(p:Int)(d k:Nat):Prop where
 ok:D0 (BR n st p k).1
 cap:IN (BR n st p k).1
 cnt:(BR n st p k).1.Cnt=n.Cnt
 bs:(BR n st p k).1.Bonds=n.Bonds
 at_:(BR n st p k).1.At=n.At
 v: ∃m:Nat,(BR n st p k).2=m/\(m:Int)<n.Cnt/\st[m]? =some ((d:Int) - k)
 fl: ∀(i:Nat) b,n.Bonds[i]? =some b->st[b.A.toNat]?.getD 0<=(d:Int) - k->st[b.B.toNat]?.getD 0<=(d:Int) - k->(BR n st p k).1.Flow[i]? =n.Flow[i]?
def Qk0{n:Bb}(hn:D0 n){q:Int}{st qu:List Int}(ag:st.length=n.Cnt.toNat)(hP:FB n q (st,qu)){p:Int}{d k:Nat}(hk:k<d)(hI:bW n st p d k):
 ∃(m:Nat) (r:List Int),(BR n st p k).2=m/\n.At[m]? =some r/\LV (BR n st p k).1 st m r (GO (BR n st p k).1 st m)/\st[m]? =some ((d:Int) - k)/\(GO (BR n st p k).1 st m).1<n.Cnt:=by
 obtain⟨m,hm,aj,Q⟩:=hI.v;have af:m<n.At.length:=by have:=hn.al;omega
 obtain⟨r,hr⟩: ∃r,n.At[m]? =some r:=⟨_,Bi af⟩;have ab:(BR n st p k).1.At[m]? =some r:=by rw[hI.at_];exact hr
 obtain⟨v',r',i,g1,g2,g3,g4,g5⟩:=hP.prev m _ Q (by omega);simp only at g1;obtain⟨ai,b,hb,aa⟩:=hn.at_ v' r' g2 i g3;have ah:=hn.bs b (AZ hb);have ac:b.A+b.B - v'=m:=by simpa only[D9,hb] using g4
 have z:=hn.all i.toNat b hb;rw[show ((i.toNat:Nat):Int)=i by omega] at z;have ad:i∈r:=by
  rcases aa with h|h
  .obtain⟨r2,Z,h3⟩:=z.2;rw[show b.B.toNat=m by omega,hr] at Z;obtain rfl:=Ay Z;exact h3
  .obtain⟨r2,Z,h3⟩:=z.1;rw[show b.A.toNat=m by omega,hr] at Z;obtain rfl:=Ay Z;exact h3
 have ak:=hn.ne b (AZ hb);have O:Ds (BR n st p k).1 m i=Ds n m i:=by
  refine Pn hI.bs i (hI.fl i.toNat b hb ?_ ?_) m
  .rcases aa with h|h
   .rw[show b.A.toNat=v' by omega,g1];simp only[AP];omega
   .rw[show b.A.toNat=m by omega,Q];simp only[AP];omega
  .rcases aa with h|h
   .rw[show b.B.toNat=m by omega,Q];simp only[AP];omega
   .rw[show b.B.toNat=v' by omega,g1];simp only[AP];omega
 have Z:(Ds n m i).2=v':=by
  simp only[Ds,hb]
  split<;>simp only<;>omega
 have hg:=Pb hI.ok st ab ad (by rw[O];exact g5) (by rw[O,Z,B8,g1,B8,Q];simp only[AP]);refine⟨m,r,hm,hr,hg,Q,?_⟩
 have:=(vL hI.ok ab hg.1).2
 rw[hg.2.2.1,hI.cnt] at this;exact this
def mB{n:Bb}(hn:D0 n)(hc:IN n){q:Int}{st qu:List Int}(O:st.length=n.Cnt.toNat)(hP:FB n q (st,qu)){p:Int}(ad:0<=p)(af:p<n.Cnt){d:Nat}(hd:st[p.toNat]? =some (d:Int)): ∀k,k<=d->bW n st p d k
 |0,_=>⟨hn,hc,rfl,rfl,rfl,⟨p.toNat,by simp only[BR];omega,by omega,by rw[hd];simp⟩,λi b _ _ _=>rfl⟩
 |k+1,hk=>by
  have ih:=mB hn hc O hP ad af hd k (by omega);obtain⟨m,r,Q,hr,hg,Z,ah⟩:=Qk0 hn O hP (by omega) ih;obtain⟨h1,h2⟩:=Y2 ih.ok ih.cap (i:=(GO (BR n st p k).1 st m).2) (ih.ok.at_ m r (by rw[ih.at_];exact hr) _ hg.1).1 hg.2.1;obtain⟨j0,b,hb,ac⟩:=hn.at_ m r hr _ hg.1;have ag:=hg.2.2.2.2;have aa:=hg.2.2.2.1;rw[B8,Z,AP] at aa;obtain⟨z,hz⟩: ∃z,st[(GO (BR n st p k).1 st m).1.toNat]? =some z:=⟨_,Bi (by omega)⟩;rw[hz,AP] at aa;refine⟨?_,?_,?_,?_,?_,⟨(GO (BR n st p k).1 st m).1.toNat,?_,by omega,by rw[hz,aa];congr 1;omega⟩,?_⟩
  .simp only[BR,Q];exact h1
  .simp only[BR,Q];exact h2
  .simp only[BR,Q];exact ih.cnt
  .simp only[BR,Q];exact ih.bs
  .simp only[BR,Q];exact ih.at_
  .simp only[BR,Q];omega
  .intro i b' ab hA hB;simp only[BR,Q];rw[Qabc]
   .exact ih.fl i b' ab (by omega) (by omega)
   .intro he;rw[he,ab] at hb;obtain rfl:=Ay hb;rcases ac with h|h
    .rw[h,B8,Z] at hA;simp only[AP] at hA;omega
    .rw[h,B8,Z] at hB;simp only[AP] at hB;omega
def growC.ca(a:Bb×Int×Int):List AV:=[.ptr 0 0,.im (.int .i64 a.2.1),.im (.int .i64 a.2.2)]
def growC.H1(a:Bb×Int×Int):Ap:=[(1,(true,.arr 2 1 ((Fj a.1 a.2.1 a.2.2).1.Flow.map Al)))]
def growC.r0(a:Bb×Int×Int):AV:= .im (.bool (Fj a.1 a.2.1 a.2.2).2)
def XX(a:Bb×Int×Int):Prop:=D0 a.1/\IN a.1/\0<=a.2.1/\a.2.1<a.1.Cnt/\0<=a.2.2/\a.2.2<a.1.Cnt
def growC.row:A7:=AB growC.ca (λa=>Gr a.1) 2 XX bC growC.r0 growC.H1 0
def growC.ok:AC 213 growC.row:=by
 refine ow (tC stepsC.ok (tC roomC.ok (tC pushC.ok tN))) Tryz.func213 (exB:=λ_=>false) (R:=λa r=>r=growC.r0 a) (λ_=>rfl)
  (λa=>by simp[growC.ca,Gr,HZ,AF,AV.bel,Aw,B9,BS,Ab.nms,AA,AV.nms,Ak,hget]) (λa p hp=> ?_) (λa r h=>by subst h;exact CU.refl _) ?_
 rotate_left
 intro a ba;simp only[Tryz.f213,growC.ca,Gr,HZ,growC.H1];simp only[ZZ,simprocAttr,C3,stepsC.q,stepsC.fv,bC];obtain⟨hn,ay,a8,bj,ak,am⟩:=ba;refine⟨⟨hn,ak,am⟩,a8,?_⟩;have bo:=hn.c1;have ai:=sZ hn ak am;have hP:=NH hn ak am a.1.Cnt.toNat;have ab:=(WE hn ak am a.1.Cnt.toNat).rng;have bw:=Qkx hn.c0 (WE hn ak am a.1.Cnt.toNat);refine⟨by omega,λx hx=> ?_⟩
 split<;>rename_i aj
 .have e:Fj a.1 a.2.1 a.2.2=(a.1,false):=by simp only[Fj];rw[hx];simp only[AP];rw[Ai aj]
  exact⟨by simp only[growC.r0,e],by rw[e]⟩
 obtain⟨d,rfl⟩: ∃d:Nat,x=d:=⟨x.toNat,by omega⟩;have e:Fj a.1 a.2.1 a.2.2=((BR a.1 (Fi a.1 a.2.2) a.2.1 d).1,true):=by simp only[Fj];rw[hx];simp only[AP];rw[Af aj,B8]
 simp only[growC.r0,e];have bc:(C8 a.1 a.2.2 a.1.Cnt.toNat).1=Fi a.1 a.2.2:=rfl;have Q:FB a.1 a.2.2 (Fi a.1 a.2.2,(C8 a.1 a.2.2 a.1.Cnt.toNat).2):=hP;have bp:=ab (d:Int) (AZ hx);clear e hP aj;obtain⟨st,hst⟩: ∃st,st=Fi a.1 a.2.2:=⟨_,rfl⟩;rw[bc] at ab;simp only[<-hst] at ai Q hx ab⊢;have ax:=λk hk=>mB hn ay ai Q a8 bj hx k hk
 refine AT.old ⟨{k:Nat//k<=d},λk=>⟨[(8,.im (.int .i64 (BR a.1 st a.2.1 k.1).2)),(7,.im (.sl false 1 (st.map Al))),(0,.ptr 0 0),(1,.im (.int .i64 a.2.1)),(2,.im (.int .i64 a.2.2))],[(0,(true,.cells 290 (HZ a.1))),(1,(true,.arr 2 1 ((BR a.1 st a.2.1 k.1).1.Flow.map Al)))],2⟩,λk=>d - k.1,λk=>⟨by simp[ZG,HZ],AL _⟩,⟨⟨0,by simp⟩,by simp only[ZA,simprocAttr,HZ,sub,BR,HZ]⟩,λk=> ?_⟩;obtain⟨k,bf⟩:=k;have hI:=ax k bf;obtain⟨m,hm,bu,bb⟩:=hI.v;simp only[HZ,hm];simp only[ZA,simprocAttr,bC,AO];refine⟨λbv=> ?_,λhe=> ?_⟩
 .have bg:k<d:=by
   rcases ER k d with h|h
   .exact h
   .have:=Q.uniq m (by rw[bb];congr 1;omega)
    omega
  obtain⟨m',r,bh,hr,hg,_,bm⟩:=Qk0 hn ai Q bg hI;rw[hm] at bh;have bi:m'=m:=by omega
  subst bi;have aa:BR a.1 st a.2.1 (k+1)=(Ic (BR a.1 st a.2.1 k).1 m' (GO (BR a.1 st a.2.1 k).1 st m').2,(GO (BR a.1 st a.2.1 k).1 st m').1):=by simp only[BR,hm]
  have a9:GO (BR a.1 st a.2.1 k).1 st m'=r.foldl (FN (BR a.1 st a.2.1 k).1 st m') (-1,0):=by simp only[GO,B8,hI.at_,hr,AP]
  have Z:=hI.ok;have ag:=hI.cnt;have aw:=hI.bs;have ao:=hI.at_;obtain⟨N,hN⟩: ∃N,N=(BR a.1 st a.2.1 k).1:=⟨_,rfl⟩;simp only[<-hN] at aa a9 Z ag aw ao hg bm⊢;have av:N.At[m']? =some r:=by rw[ao];exact hr
  have a0:(⟨a.1.Cnt,a.1.Bonds,a.1.At,N.Flow⟩:Bb)=N:=by rw[<-ag,<-aw,<-ao]
  have au:m'<a.1.At.length:=(BW.1 hr).1;refine AT.old ⟨{j:Nat//j<=r.length},λj=>⟨[(11,.im (.int .i64 j.1)),(10,.im (.int .i64 ((r.take j.1).foldl (FN N st m') (-1,0)).2)),(9,.im (.int .i64 ((r.take j.1).foldl (FN N st m') (-1,0)).1)),(8,.im (.int .i64 m')),(7,.im (.sl false 1 (st.map Al))),(0,.ptr 0 0),(1,.im (.int .i64 a.2.1)),(2,.im (.int .i64 a.2.2))],[(0,(true,.cells 290 (HZ a.1))),(1,(true,.arr 2 1 (N.Flow.map Al)))],2⟩,λj=>r.length - j.1,λj=>⟨by simp[ZG,HZ],AL _⟩,⟨⟨0,by simp⟩,by simp only[ZA,simprocAttr,HZ,sub,HZ,nM]⟩,λj=> ?_⟩;obtain⟨j,bt⟩:=j;obtain⟨acc,hacc⟩: ∃acc,acc=(r.take j).foldl (FN N st m') (-1,0):=⟨_,rfl⟩;simp only[HZ,<-hacc];simp only[ZZ,simprocAttr,C3,roomC.q,roomC.fv,sub,AO,a0];refine⟨au,λr1 O=> ?_⟩;rw[hr] at O;obtain rfl:=Ay O;intro bx;refine⟨λhj=>⟨au,λr1 O=> ?_⟩,λhj=> ?_⟩
  .rw[hr] at O;obtain rfl:=Ay O;refine⟨hj,λi aq=> ?_⟩;have az:=AZ aq;obtain⟨i0,i1,_,_⟩:=fB Z av az;have bl:=vL Z av az;have z:(r.take (j+1)).foldl (FN N st m') (-1,0)=FN N st m' acc i:=by
    rw[Ip,aq,ZeQ,<-hacc];rfl
   have ac:0<(Ds N m' i).1->st[(Ds N m' i).2.toNat]?.getD 0=st[(m':Int).toNat]?.getD 0 - 1->(acc.1<0\/(Ds N m' i).2<acc.1)->FN N st m' acc i=((Ds N m' i).2,i):=by
    intro h1 h2 h3;simp only[FN];rw[Ai ⟨h1,h2,h3⟩]
   have an:IntKind.wrap .i64 ((j:Int)+1)=((j+1:Nat):Int):=by rw[AD (by omega) (by omega)];omega
   refine⟨⟨Z,i0,i1⟩,λh1=>⟨bl.1,by omega,λx' bn=>⟨by omega,λy' bd=> ?_⟩⟩,λh1=>⟨⟨j+1,by omega⟩,by simp only;omega,an,?_,?_⟩⟩
   .have bz:=ab y' (AZ bd);rw[AD (x:=y' - 1) (by omega) (by omega)];have ad:st[(Ds N m' i).2.toNat]?.getD 0=x':=by rw[bn];rfl
    have af:st[(m':Int).toNat]?.getD 0=y':=by rw[B8,bd];rfl
    refine⟨λh2=>⟨λh3=>⟨λh4=>⟨au,λr1 O=> ?_⟩,λh4=>⟨⟨j+1,by omega⟩,by simp only;omega,an,?_,?_⟩⟩,λh3=>⟨au,λr1 O=> ?_⟩⟩,λh2=>⟨⟨j+1,by omega⟩,by simp only;omega,an,?_,?_⟩⟩
    .rw[hr] at O;obtain rfl:=Ay O;refine⟨hj,λi' ah=>⟨⟨j+1,by omega⟩,by simp only;omega,an,?_,?_⟩⟩
     .rw[aq] at ah;obtain rfl:=Ay ah;simp only[z];rw[ac h1 (by rw[ad,af,h2]) (.inr h4)]
     .simp only[z];rw[ac h1 (by rw[ad,af,h2]) (.inr h4)]
    .simp only[z,FN];rw[Af (λh=>by rcases h.2.2 with h|h<;>omega)]
    .simp only[z,FN];rw[Af (λh=>by rcases h.2.2 with h|h<;>omega)]
    .rw[hr] at O;obtain rfl:=Ay O;refine⟨hj,λi' ah=>⟨⟨j+1,by omega⟩,by simp only;omega,an,?_,?_⟩⟩
     .rw[aq] at ah;obtain rfl:=Ay ah;simp only[z];rw[ac h1 (by rw[ad,af,h2]) (.inl (Ha.1 h3))]
     .simp only[z];rw[ac h1 (by rw[ad,af,h2]) (.inl (Ha.1 h3))]
    .simp only[z,FN];rw[Af (λh=>h2 (by rw[<-ad,<-af];exact h.2.1))]
    .simp only[z,FN];rw[Af (λh=>h2 (by rw[<-ad,<-af];exact h.2.1))]
   .simp only[z,FN];rw[Af (λh=>h1 h.1)]
   .simp only[z,FN];rw[Af (λh=>h1 h.1)]
  .have be:j=r.length:=by omega
   subst be;rw[IS] at hacc;rw[<-a9] at hacc;subst hacc;have br:=Z.at_ m' r av _ hg.1;obtain⟨i0,i1,_,_⟩:=fB Z av hg.1;refine AB.os (N,(m':Int),(GO N st m').2) [0,1] ⟨Z,i0,i1⟩ (λj=>oZ _ j) rfl rfl ?_ ?_
   .simp only[ZA,simprocAttr,Ec,Gr,HZ,pushC.ca,Gr,HZ];rw[ag,aw,ao];exact⟨rfl,rfl,rfl⟩
   .simp only[ZA,simprocAttr,Ec,bC,pushC.H1,bC,sub];exact⟨⟨k+1,by omega⟩,by simp only;omega,by simp only[aa],by simp only[aa]⟩
 .have:k=d:=by
   have h1:=Q.zero;rw[show a.2.2.toNat=m by omega,bb] at h1
   have:=Ay h1
   omega
  rw[this]
 simp[growC.H1] at hp;subst hp;exact .inl ⟨by omega,rfl,rfl⟩
def AW(a b:Nat)(h:a≠b):(a==b)=false:=by simpa using h
def Rd{α β γ:Type}{f:α->Option β}{g:γ->α}{k:γ->β}: ∀(l:List γ),(∀i∈l,f (g i)=some (k i))->Ar f (l.map g)=some (l.map k)
 |[],_=>rfl
 |x::r,h=>by simp only[Bf,Ar,h x (BM ..),Rd r (λi z=>h i (BP _ z))]
def XL{H:Nat->Option Ao}{kx:Nat->Option Nat}{m b n T:Nat}(f:Nat->List Int)(O: ∀i,i<n->kx (b+i)=none)(hH: ∀i,i<n->H (b+i)=some (true,.arr T 1 ((f i).map Al))):
 Ar (Ar λx=>Er (Ba H kx (m+1) x)) ((List.range n).map λi=>[AV.own (b+i)])=some (((List.range n).map f).map CX):=by
 rw[Lw];refine Rd _ (λi z=> ?_);have z:=Bt.1 z;simp only[Ar,Ba,O i z,hH i z,Qh,kp,D3,Er,AV.asD,Function.comp,CX]
def Lj(H:Ap)(a b:Nat)(h:a≠b):hget (Bj H [a]) b=hget H b:=by
 rw[WA,Af];simp;omega
def WM{α:Type}{a b:Nat}{x y:α}(h:a≠b):(if a=b then x else y)=y:=Af h
def Br: ∀(x:Ap),Bj x []=x
 |[]=>rfl
 |(m,e)::r=>by simp[Bj,Br r]
def eN(L:List Nat)(b n:Nat)(h:L.Nodup)(z: ∀x∈L,x<b):(L++(List.range n).map (b+ ·)).Nodup:=by
 rw[Xg];refine⟨h,?_,?_⟩
 .rw[Zey,List.pairwise_map];exact ZeO (λh Z=>h (by omega)) (Zey.1 List.nodup_range)
 .intro x O y Q he;obtain⟨i,_,rfl⟩:=Bo.1 Q
  have:=z x O
  omega
def Iy(bs:List Ag)(i:Nat):Nat->List Int
 |0=>[]
 |k+1=>Iy bs i k++(match bs[k]? with
  |some b=>(if b.A=i then [(k:Int)] else [])++(if b.B=i then [(k:Int)] else [])
  |none=>[])
def Qwx(bs:List Ag)(i:Nat): ∀k,(Iy bs i k).length<=2*k
 |0=>AL _
 |k+1=>by
  have:=Qwx bs i k
  simp only[Iy,C9];split
  .simp only[C9]
   split<;>split<;>simp<;>omega
  .simp;omega
def Db(n:Int)(bs:List Ag):Bb:=⟨n,bs,(List.range n.toNat).map (λi=>Iy bs i bs.length),List.replicate bs.length 0⟩
def newNC.ca(a:Int×List Ag):List AV:=[.im (.int .i64 a.1),.im (.sl false 3 (a.2.map Ag.c))]
def newNC.H1(a:Int×List Ag):Ap:=[(0,(true,.cells 290 [.im (.int .i64 a.1),.im (.sl false 3 (a.2.map Ag.c)),.im (.sl false 1 ((Db a.1 a.2).At.map CX)),.own 2])),(2,(true,.arr 2 1 ((Db a.1 a.2).Flow.map Al)))]
def ZM(a:Int×List Ag):Prop:=0<=a.1/\a.1<=1000/\a.2.length<=1000000/\Ll a.1 a.2/\ ∀b∈a.2,b.A≠b.B
def nY(j:Nat):Bool:=j==0||j==2
def newNC.row:A7:=AB newNC.ca (λ_=>[]) 0 ZM (λ_=>false) (λ_=> .ptr 0 0) newNC.H1 3010
def newNC.ok:AC 212 newNC.row:=by
 refine ow tN Tryz.func212 (exB:=nY) (R:=λ_ r=>r= .ptr 0 0) (λ_=>rfl)
  (λa=>by simp[newNC.ca,AF,AV.bel,Aw,B9,BS]) (λa p hp=> ?_) (λa r h=>by subst h;exact CU.refl _) ?_
 rotate_left
 intro a ay;simp only[Tryz.f212,newNC.ca,newNC.H1];simp(disch:=omega)only[ZA,simprocAttr];obtain⟨ax,ba,hl,an,bb⟩:=ay;refine⟨ax,Oe _,by omega,λ_=>⟨by omega,?_⟩⟩;obtain⟨n,hn⟩: ∃n:Nat,a.1=n:=⟨a.1.toNat,by omega⟩;rw[hn] at ax ba an;simp only[hn,B8];refine AT.ren ⟨{k:Nat//k<=a.2.length},λk=>⟨[(6,.im (.int .i64 k.1)),(5,.ptr 0 0),(1,.im (.sl false 3 (a.2.map Ag.c)))],(0,(true,.cells 290 [.im (.int .i64 n),.im (.sl false 3 (a.2.map Ag.c)),.own 1,.own 2]))::(2,(true,.arr 2 1 ((List.replicate a.2.length (0:Int)).map Al)))::(1,(true,.arrA 31 1 ((List.range n).map λi=>[AV.own (1000+i)])))::AQ 1000 n (λi=>(true,.arr 2 1 ((Iy a.2 i k.1).map Al))),3000⟩,λk=>a.2.length - k.1,λk=>⟨?_,by simp⟩,⟨⟨0,by simp⟩,Jd 1000 n,?_⟩,λk=> ?_⟩
 .simp only[ZG,Fo,Eg];rw[QZ _ _ _ (λi=>by simp[Aw]),QP _ _ _ _ (by omega)];simp[AF,AV.bel];omega
 .refine⟨Sy _ _ _ (by simp),?_,?_,?_⟩
  .rw[fD];simp only[Fl,ZB];refine fJ _ _ (eN [0,2,1] 1000 n (by simp) (by simp)) ?_;intro x hx y hy m O z;rw[mJ] at O z;split at O
   .cases O
   .split at z
    .cases z
    .exact (Ay O).trans (Ay z).symm
  .simp only[Qm,A8];simp(disch:=omega)only[ZA,simprocAttr,mJ,GS];simp[GS]
  .have p0:pm (Jd 1000 n) 0=some 0:=by rw[mJ,Af (by omega)]
   have p1:pm (Jd 1000 n) 1=some 1:=by rw[mJ,Af (by omega)]
   have p2:pm (Jd 1000 n) 2=some 2:=by rw[mJ,Af (by omega)]
   have pf: ∀i,i<n->pm (Jd 1000 n) (1000+i)=none:=by intro i Q;rw[mJ,Ai (by omega)]
   simp only[GU,eW];refine⟨?_,?_,?_,λi Q=> ?_⟩
   .simp(disch:=omega)only[ZA,simprocAttr,p0,p1,p2]
   .simp(disch:=omega)only[ZA,simprocAttr,p2];simp[Al]
   .simp(disch:=omega)only[ZA,simprocAttr,p1];rw[fK];refine⟨by simp,λi x y hx hy=> ?_⟩;simp only[CM,CT] at hx hy;obtain⟨i',ai,rfl⟩:=hx;obtain⟨w,hw,rfl⟩:=hy;have be:=Ob (AZ hw);subst be
    have:=Bt.1 (AZ ai)
    simp(disch:=omega)only[ZA,simprocAttr,pf i' this]
   .rw[pf i Q];simp(disch:=omega)only[ZA,simprocAttr,Iy]
 obtain⟨k,bl⟩:=k;simp(disch:=omega)only[ZA,simprocAttr,Ec,nY,AO,Br];intro _;refine⟨λhk=>⟨hk,λb hb=>⟨hk,λb' aa=> ?_⟩⟩,λhk=> ?_⟩
 .rw[hb] at aa;obtain rfl:=Ay aa;obtain⟨b1,b2,b3,b4⟩:=an b (AZ hb);have bj:=bb b (AZ hb);refine⟨b1,by rw[aM];exact b2,by rw[aM];omega,λx hx=> ?_⟩;obtain⟨az,bg⟩:=BW.1 hx;rw[aM] at az;rw[ZeE] at bg;have bt:x<n:=by omega
  refine⟨by omega,?_,?_⟩
  .simp;omega
  have bf:(1000+x<3000\/3000<=1000+x)=True:=aT (by omega);have bo:(1000+x==0)=false:=AW _ _ (by omega);have bp:(1000+x==1)=false:=AW _ _ (by omega);have br:(1000+x==2)=false:=AW _ _ (by omega);have bm:=Qwx a.2 x k;simp(disch:=omega)only[ZA,simprocAttr,WM,GL,Br,bf,AW];refine⟨by omega,by omega,?_⟩;refine⟨b1,by rw[aM];exact b2,by rw[aM];exact az,λ_ _=> ?_⟩;have Z: ∀N,3001<N->((List.map (λi=>[AV.own (1000+i)]) (List.range n)).set b.A.toNat [AV.own 3001]).all (AF N)=true:=by
   intro N hN;rw[CA];intro r hr;rcases Xk hr with hr|hr
   .obtain⟨i,Q,rfl⟩:=Bo.1 hr
    have:=Bt.1 Q
    simp[AF,AV.bel];omega
   .subst hr;simp[AF,AV.bel];omega
  refine⟨Z _ (by omega),⟨by simp,by simp,by simp⟩,hk,λb' aa=>⟨hk,λb'' ah=> ?_⟩⟩;rw[hb] at aa ah;obtain rfl:=Ay aa;obtain rfl:=Ay ah;obtain⟨y,hy⟩: ∃y:Nat,b.B=y:=⟨b.B.toNat,by omega⟩;have bu:y≠x:=by omega
  have bi:y<n:=by omega
  have a0:b.B.toNat=y:=by omega
  refine⟨b3,by simp;omega,by simp;omega,λrow ab=> ?_⟩;have am:row=[AV.own (1000+y)]:=by
   rw[a0,Dw (by omega),CM,Iw bi] at ab;exact (Ay ab).symm
  subst am;have bh:(1000+y<3002\/3002<=1000+y)=True:=aT (by omega);have bn:=Qwx a.2 y k;simp(disch:=omega)only[ZA,simprocAttr,Ec,WM,GL,Br,bh,AW,Lj];refine⟨by omega,by omega,by omega,b3,by simp;omega,by simp;omega,λrow ac=> ?_⟩;rw[ab] at ac;obtain rfl:=Ay ac;simp only[ZA,simprocAttr,Br,AW];refine⟨?_,⟨by simp,by simp,by simp⟩,⟨k+1,by omega⟩,[(1000+x,some 3001),(1000+y,some 3003)],by simp only;omega,?_⟩
  .rw[CA];intro r hr;rcases Xk hr with hr|hr
   .exact CA.1 (Z 3004 (by omega)) r hr
   .subst hr;simp[AF,AV.bel]
  obtain⟨g,hg⟩: ∃g,g=pm [(1000+x,some 3001),(1000+y,some 3003)]:=⟨_,rfl⟩;have qx:g (1000+x)=some 3001:=by rw[hg];simp[pm]
  have qy:g (1000+y)=some 3003:=by rw[hg];simp only[pm];rw[Af (by omega)];simp
  have qo: ∀u,u≠1000+x->u≠1000+y->g u=some u:=by intro u O z;rw[hg];simp only[pm];rw[Af (by omega),Af (by omega)]
  have a8: ∀i,i<n->Iy a.2 i (k+1)=if i=x\/i=y then Iy a.2 i k++[(k:Int)] else Iy a.2 i k:=by
   intro i Q;simp only[Iy,hb];by_cases O:i=x
   .subst O;rw[Ai (by omega),Af (by omega),Ai (.inl rfl),D2]
   .by_cases z:i=y
    .subst z;rw[Af (by omega),Ai (by omega),Ai (.inr rfl),Fq]
    .rw[Af (by omega),Af (by omega),Af (by omega)];simp
  refine⟨⟨by omega,by omega,trivial⟩,?_,?_,?_⟩
  .rw[fD,<-hg];simp only[Fl,ZB];refine fJ _ _ (eN [0,2,1] 1000 n (by simp) (by simp)) ?_;have au: ∀u∈[0,2,1]++(List.range n).map (1000+ ·),u<2000:=by
    intro u hu;rcases Bn.1 hu with hu|hu
    .simp at hu;omega
    .obtain⟨i,Q,rfl⟩:=Bo.1 hu
     have:=Bt.1 Q
     show 1000+i<2000;omega
   have hc: ∀u,u<2000->(u=1000+x/\g u=some 3001)\/(u=1000+y/\g u=some 3003)\/g u=some u:=by
    intro u _;by_cases O:u=1000+x
    .exact .inl ⟨O,O▸qx⟩
    .by_cases z:u=1000+y
     .exact .inr (.inl ⟨z,z▸qy⟩)
     .exact .inr (.inr (qo u O z))
   intro u hu v hv m av aw;have bc:=au u hu;have bd:=au v hv;rcases hc u bc with ⟨e1,e2⟩|⟨e1,e2⟩|e2<;>rcases hc v bd with ⟨f1,f2⟩|⟨f1,f2⟩|f2<;>rw[e2] at av<;>rw[f2] at aw<;>simp only[AI] at av aw<;>omega
  .have q0:pm [(1000+x,some 3001),(1000+y,some 3003)] 0=some 0:=by rw[<-hg];exact qo 0 (by omega) (by omega)
   simp only[Qm,A8];simp only[ZA,simprocAttr,q0];rw[AD (by omega) (by omega)];simp
  .have q0:pm [(1000+x,some 3001),(1000+y,some 3003)] 0=some 0:=by rw[<-hg];exact qo 0 (by omega) (by omega)
   have q1:pm [(1000+x,some 3001),(1000+y,some 3003)] 1=some 1:=by rw[<-hg];exact qo 1 (by omega) (by omega)
   have q2:pm [(1000+x,some 3001),(1000+y,some 3003)] 2=some 2:=by rw[<-hg];exact qo 2 (by omega) (by omega)
   have af:=qx;have ag:=qy;have ad:=qo;rw[hg] at af ag ad;simp only[GU,eW];refine⟨?_,?_,?_,λi Q=> ?_⟩
   .simp only[ZA,simprocAttr,q0,q1,q2]
   .simp only[ZA,simprocAttr,q2]
   .simp only[ZA,simprocAttr,q1];rw[fK];refine⟨by simp,λi r1 r2 O z=> ?_⟩;simp only[CM,CT] at O;obtain⟨i',ai,rfl⟩:=O;obtain⟨aq,ao⟩:=BW.1 ai;rw[aM] at aq;rw[ZeE] at ao;subst ao;rw[a0,show b.A.toNat=x by omega] at z;by_cases ak:i=y
    .subst ak;rw[CY (by simp;omega)] at z;obtain rfl:=Ay z;simp only[DL,mt,ag,FG,Hb]
    .rw[Dw (by omega)] at z;by_cases aj:i=x
     .subst aj;rw[CY (by simp;omega)] at z;obtain rfl:=Ay z;simp only[DL,mt,af,FG,Hb]
     .rw[Dw (by omega),CM,Iw aq] at z;obtain rfl:=Ay z;simp only[DL,mt,ad (1000+i) (by omega) (by omega),FG,Hb]
   .show Et _ _ true (.arr 2 1 ((Iy a.2 i (k+1)).map Al)) _;rw[a8 i Q];by_cases ak:i=y
    .subst ak;rw[ag,Ai (.inr rfl)];simp only[ZA,simprocAttr];simp[Al]
    .by_cases aj:i=x
     .subst aj;rw[af,Ai (.inl rfl)];simp only[ZA,simprocAttr];simp[Al]
     .rw[ad (1000+i) (by omega) (by omega),Af (by omega)];have e: ∀(H:Ap),hget H (1000+i)=some (true,.arr 2 1 ((Iy a.2 i k).map Al))->K4 [(1000+x,some 3001),(1000+y,some 3003)] true (.arr 2 1 ((Iy a.2 i k).map Al)) (hget H (1000+i)):=by
       intro H hH;rw[hH];exact⟨rfl,by simp only[EL]⟩
      refine e _ ?_;simp only[hget,AW _ _ (show 1≠1000+i by omega),AW _ _ (show 3003≠1000+i by omega),AW _ _ (show 3002≠1000+i by omega),AW _ _ (show 3001≠1000+i by omega),AW _ _ (show 3000≠1000+i by omega),AW _ _ (show 0≠1000+i by omega),AW _ _ (show 2≠1000+i by omega),Bm];rw[Lj _ _ _ (by omega),Lj _ _ _ (by omega),Lj _ _ _ (by omega),Lj _ _ _ (by omega),GL _ _ _ _ Q]
 .have a9:k=a.2.length:=by omega
  subst a9;rw[XL (T:=2) (λi=>Iy a.2 i a.2.length)]
  .simp[Db]
  .intro i Q;have e:nY (1000+i)=false:=by simp only[nY,AW _ _ (show 1000+i≠0 by omega),AW _ _ (show 1000+i≠2 by omega),Qo]
   simp[I5,Ak,hget,e]
  .intro i Q;simp only[hget,AW _ _ (show 1≠1000+i by omega),AW _ _ (show 0≠1000+i by omega),AW _ _ (show 2≠1000+i by omega),Bm];exact GL _ _ _ _ Q
 simp[newNC.H1] at hp;rcases hp with rfl|rfl
 .exact .inr ⟨by omega,by simp,rfl,rfl⟩
 .exact .inr ⟨by omega,by simp,rfl,rfl⟩
def JN(p:Int)(b:Ag)(f:Int):Int:=if b.A=p then f else if b.B=p then -f else 0
def Dn(n:Bb)(p:Int):Int:=(List.zipWith (JN p) n.Bonds n.Flow).sum
def N2(p:Int): ∀(bs:List Ag) (Q:List Int) (j:Nat) (b:Ag) (f f':Int),bs[j]? =some b->Q[j]? =some f->(List.zipWith (JN p) bs (Q.set j f')).sum=(List.zipWith (JN p) bs Q).sum - JN p b f+JN p b f'
 |[],_,_,_,_,_,h,_=>by simp at h
 |_::_,[],_,_,_,_,_,h=>by simp at h
 |x::r,y::s,0,b,f,f',z,O=>by
  simp only[G6,AI] at z O;subst z;subst O;simp only[gH,gM,Lz];omega
 |x::r,y::s,j+1,b,f,f',z,O=>by
  have:=N2 p r s j b f f' (by simpa using z) (by simpa using O)
  simp only[nO,gM,Lz,this];omega
def Qzc{n:Bb}(hn:D0 n){v:Nat}{r:List Int}(hr:n.At[v]? =some r){i:Int}(Q:i∈r)(p:Int):Dn (Ic n v i) p=Dn n p+(if (v:Int)=p then 1 else if (Ds n v i).2=p then -1 else 0):=by
 obtain⟨h0,b,z,hv⟩:=hn.at_ v r hr i Q;have aa:=hn.ne b (AZ z);have Z:=(BW.1 z).1;obtain⟨f,hf⟩: ∃f,n.Flow[i.toNat]? =some f:=⟨_,Bi (by rw[hn.fl];exact Z)⟩;simp only[Dn,Ic,z,Ds];rw[N2 p _ _ _ b f _ z hf,hf];simp only[AP,JN];rcases hv with h|h
 .simp only[Ai h]
  repeat' split
  all_goals omega
 .have O: ¬b.A=v:=by omega
  simp only[Af O]
  repeat' split
  all_goals omega
def Lc(p:Int): ∀(bs:List Ag) (Q:List Int),(∀(i:Nat) b f,bs[i]? =some b->Q[i]? =some f-> -b.Strength<=f/\f<=b.Strength)->(∀b∈bs,0<=b.Strength)->(List.zipWith (JN p) bs Q).sum<=(bs.map Ag.Strength).sum
 |[],_,_,_=>by simp
 |x::r,[],_,z=>by
  have Z:=Lc p r [] (λi b f _ h=>by simp at h) (λb O=>z b (BP _ O));have h2:=z x (BM ..);simp only[Zea,Zfh,Bf,Lz] at Z⊢;omega
 |x::r,y::s,hc,z=>by
  have Z:=Lc p r s (λi b f h h'=>hc (i+1) b f (by simpa using h) (by simpa using h')) (λb O=>z b (BP _ O));have h2:=z x (BM ..);have h3:=hc 0 x y rfl rfl;simp only[gM,Bf,Lz,JN];split
  .omega
  .split<;>omega
def TG{n:Bb}(hn:D0 n)(O:IN n)(p:Int):Dn n p<=(n.Bonds.map Ag.Strength).sum:=Lc p _ _ O (λb z=>(hn.st b z).1)
def Vm{n:Bb}(hn:D0 n)(hc:IN n){q:Int}{st qu:List Int}(z:st.length=n.Cnt.toNat)(hP:FB n q (st,qu)){p:Int}(aa:0<=p)(ab:p<n.Cnt){d:Nat}(hd:st[p.toNat]? =some (d:Int)): ∀k,k<d->Dn (BR n st p (k+1)).1 p=Dn n p+1:=by
 have step: ∀k,k<d->Dn (BR n st p (k+1)).1 p=Dn (BR n st p k).1 p+(if k=0 then 1 else 0):=by
  intro k Z;have hI:=mB hn hc z hP aa ab hd k (by omega);obtain⟨m,r,hm,hr,hg,O,af⟩:=Qk0 hn z hP Z hI;have ac:(BR n st p k).1.At[m]? =some r:=by rw[hI.at_];exact hr
  have e:(BR n st p (k+1)).1=Ic (BR n st p k).1 m (GO (BR n st p k).1 st m).2:=by simp only[BR,hm]
  rw[e,Qzc hI.ok ac hg.1,hg.2.2.1];have Q:=hg.2.2.2.1;rw[B8,O,AP] at Q;have ad:(GO (BR n st p k).1 st m).1≠p:=by
   intro he;rw[he,hd,AP] at Q;omega
  by_cases h0:k=0
  .subst h0
   have:(m:Int)=p:=by rw[<-hm];rfl
   rw[Ai this,Ai rfl]
  .have:(m:Int)≠p:=by
    intro he
    have:m=p.toNat:=by omega
    rw[this,hd] at O
    have:=Ay O
    omega
   rw[Af this,Af ad,Af h0]
 intro k Z;induction k with
 |zero=>rw[step 0 Z];simp[BR]
 |succ k ih=>rw[step (k+1) Z,Af (by omega),ih (by omega)];omega
def Qr2(bs:List Ag)(i:Nat)(z:Int): ∀k,z∈Iy bs i k↔ ∃(j:Nat) (b:Ag),j<k/\z=j/\bs[j]? =some b/\(b.A=i\/b.B=i)
 |0=>by simp[Iy]
 |k+1=>by
  have ih:=Qr2 bs i z k;simp only[Iy,Bn,ih];constructor
  .rintro (⟨j,b,h1,Q,Z,O⟩|h)
   .exact⟨j,b,by omega,Q,Z,O⟩
   .cases hb:bs[k]? with
    |none=>rw[hb] at h;simp at h
    |some b=>
     rw[hb] at h;simp only[Bn] at h;refine⟨k,b,by omega,?_,hb,?_⟩
     .rcases h with h|h<;>split at h<;>simp at h<;>exact h
     .rcases h with h|h
      .split at h
       .exact .inl (by assumption)
       .simp at h
      .split at h
       .exact .inr (by assumption)
       .simp at h
  .rintro⟨j,b,h1,Q,Z,O⟩;by_cases hj:j=k
   .subst hj;refine .inr ?_;rw[Z];simp only[Bn];rcases O with O|O
    .exact .inl (by rw[Ai O,Q];exact Bz.2 rfl)
    .exact .inr (by rw[Ai O,Q];exact Bz.2 rfl)
   .exact .inl ⟨j,b,by omega,Q,Z,O⟩
def Qj(bs:List Ag):Prop:= ∀b∈bs,0<=b.Strength/\b.Strength<=1000000
def Qxo{n:Int}{bs:List Ag}(v:Nat)(z:v<n.toNat):(Db n bs).At[v]? =some (Iy bs v bs.length):=by
 simp only[Db,CM,Iw z,D3]
def Mr{n:Int}{bs:List Ag}(h:ZM (n,bs))(hs:Qj bs):D0 (Db n bs)/\IN (Db n bs):=by
 obtain⟨h0,h1,h2,O,h4⟩:=h;simp only at h0 h1 h2 O h4;have hz: ∀(i:Nat) f,(Db n bs).Flow[i]? =some f->f=0:=by
  intro i f hf;exact Ob (AZ hf)
 refine⟨⟨h0,by show n<=1000000;omega,by simp[Db],by simp[Db];omega,O,?_,?_,hs,?_,h4⟩,?_⟩
 .intro v r Z i Q;have hv:v<n.toNat:=by
   have:=(BW.1 Z).1
   simpa[Db] using this
  rw[Qxo v hv] at Z;obtain rfl:=Ay Z;obtain⟨j,b,g1,g2,g3,g4⟩:=(Qr2 bs v i bs.length).1 Q;exact⟨by omega,b,by rw[g2,B8];exact g3,g4⟩
 .intro x hx;obtain⟨i,Q⟩:=JK.1 hx
  have:=hz i x Q
  omega
 .intro i b z;have hl:=(BW.1 z).1;have aa:=O b (AZ z);refine⟨⟨_,Qxo _ (by omega),(Qr2 bs _ _ _).2 ⟨i,b,hl,rfl,z,.inl (by omega)⟩⟩,⟨_,Qxo _ (by omega),(Qr2 bs _ _ _).2 ⟨i,b,hl,rfl,z,.inr (by omega)⟩⟩⟩
 .intro i b f z hf
  have:=hz i f hf
  have:=hs b (AZ z)
  omega
def Qtg{n:Int}{bs:List Ag}(p:Int):Dn (Db n bs) p=0:=by
 simp only[Dn,Db]
 have: ∀(l:List Ag) (m:Nat),(List.zipWith (JN p) l (List.replicate m 0)).sum=0:=by
  intro l;induction l with
  |nil=>intro m;simp
  |cons x r ih=>
   intro m;cases m with
   |zero=>simp
   |succ m=>
    simp only[Zet,gM,Lz,ih m,JN];split
    .rfl
    .split<;>rfl
 exact this _ _
def G5(p q:Int):Nat->Bb->Bb×Int
 |0,n=>(n,0)
 |m+1,n=>if (Fj n p q).2=true then ((G5 p q m (Fj n p q).1).1,(G5 p q m (Fj n p q).1).2+1) else (n,0)
def Ee(n:Int)(bs:List Ag)(p q:Int):Bb×Int:=G5 p q ((bs.map Ag.Strength).sum.toNat+1) (Db n bs)
def LW{n:Bb}(hn:D0 n)(hc:IN n){p q:Int}(Q:0<=p)(Z:p<n.Cnt)(aa:0<=q)(ab:q<n.Cnt)(ac:p≠q)(hg:(Fj n p q).2=true):
 D0 (Fj n p q).1/\IN (Fj n p q).1/\(Fj n p q).1.Cnt=n.Cnt/\(Fj n p q).1.Bonds=n.Bonds/\(Fj n p q).1.At=n.At/\Dn (Fj n p q).1 p=Dn n p+1:=by
 have z:=sZ hn aa ab;have hP:FB n q (Fi n q,(C8 n q n.Cnt.toNat).2):=NH hn aa ab n.Cnt.toNat;obtain⟨x,hx⟩: ∃x,(Fi n q)[p.toNat]? =some x:=⟨_,Bi (by omega)⟩;simp only[Fj,hx,AP] at hg⊢;by_cases h:x<0
 .rw[Ai h] at hg;simp at hg
 .obtain⟨d,rfl⟩: ∃d:Nat,x=d:=⟨x.toNat,by omega⟩;rw[Af h,B8];have hd:0<d:=by
   rcases gJ d with h0|h0
   .subst h0
    have:=hP.uniq p.toNat hx
    omega
   .exact h0
  have O:=mB hn hc z hP Q Z hx d (AL _);have ho:=Vm hn hc z hP Q Z hx (d - 1) (by omega);rw[show d - 1+1=d by omega] at ho;exact⟨O.ok,O.cap,O.cnt,O.bs,O.at_,ho⟩
abbrev oL:=Int×List Ag×Int×Int
def flC.net(a:oL):Bb:=(Ee a.1 a.2.1 a.2.2.1 a.2.2.2).1
def flC.ca(a:oL):List AV:=[.im (.int .i64 a.1),.im (.sl false 3 (a.2.1.map Ag.c)),.im (.int .i64 a.2.2.1),.im (.int .i64 a.2.2.2)]
def flC.H1(a:oL):Ap:=[(0,(true,.cells 290 [.im (.int .i64 a.1),.im (.sl false 3 (a.2.1.map Ag.c)),.im (.sl false 1 ((Db a.1 a.2.1).At.map CX)),.own 2])),(2,(true,.arr 2 1 ((flC.net a).Flow.map Al)))]
def flC.r0(a:oL):AV:= .tup [.ptr 0 0,.im (.int .i64 (Ee a.1 a.2.1 a.2.2.1 a.2.2.2).2)]
def flC.pre(a:oL):Prop:=ZM (a.1,a.2.1)/\Qj a.2.1/\0<=a.2.2.1/\a.2.2.1<a.1/\0<=a.2.2.2/\a.2.2.2<a.1/\a.2.2.1≠a.2.2.2
def flC.row:A7:=AB flC.ca (λ_=>[]) 0 flC.pre (λ_=>false) flC.r0 flC.H1 3010
def flC.ok:AC 189 flC.row:=by
 refine ow (tC newNC.ok (tC growC.ok tN)) Tryz.func189 (exB:=nY) (R:=λa r=>r=flC.r0 a) (λ_=>rfl)
  (λa=>by simp[flC.ca,AF,AV.bel,Aw,B9,BS]) (λa p hp=> ?_) (λa r h=>by subst h;exact CU.refl _) ?_
 rotate_left
 intro a ac;simp only[Tryz.f189,flC.ca,flC.H1];simp only[ZA,simprocAttr];obtain⟨O,af,ab,am,ad,an,ah⟩:=ac;obtain⟨aa,z⟩:=Mr O af;have ai:=Qtg (n:=a.1) (bs:=a.2.1) a.2.2.1;refine AB.os (a.1,a.2.1) [] O (λj=>by simp[Ak,hget]) rfl rfl ?_ ?_
 .simp only[ZA,simprocAttr,newNC.ca]
 .simp only[ZA,simprocAttr,newNC.H1];obtain⟨F,hF⟩: ∃F,F=(a.2.1.map Ag.Strength).sum.toNat+1:=⟨_,rfl⟩;refine AT.old ⟨{k:Nat×Bb//D0 k.2/\IN k.2/\k.2.Cnt=a.1/\k.2.Bonds=a.2.1/\k.2.At=(Db a.1 a.2.1).At/\Dn k.2 a.2.2.1=k.1/\k.1<=F/\Ee a.1 a.2.1 a.2.2.1 a.2.2.2=((G5 a.2.2.1 a.2.2.2 (F - k.1) k.2).1,(G5 a.2.2.1 a.2.2.2 (F - k.1) k.2).2+k.1)},λk=>⟨[(11,.im (.int .i64 k.1.1)),(10,.ptr 0 0),(2,.im (.int .i64 a.2.2.1)),(3,.im (.int .i64 a.2.2.2))],[(0,(true,.cells 290 [.im (.int .i64 a.1),.im (.sl false 3 (a.2.1.map Ag.c)),.im (.sl false 1 ((Db a.1 a.2.1).At.map CX)),.own 2])),(2,(true,.arr 2 1 (k.1.2.Flow.map Al)))],3010⟩,λk=>F - k.1.1,λk=>⟨by simp[ZG],AL _⟩,⟨⟨(0,Db a.1 a.2.1),aa,z,rfl,rfl,rfl,ai,CC _,by simp[Ee,hF]⟩,by simp only[ZA,simprocAttr,sub]⟩,λk=> ?_⟩;obtain⟨⟨k,N⟩,i1,i2,i3,i4,i5,i6,i7,Q⟩:=k;simp only at i1 i2 i3 i4 i5 i6 i7 Q;have ag:=TG i1 i2 a.2.2.1;rw[i4,i6] at ag;have ak:k<F:=by omega
  have aj:F<=1000000000001:=by
   have h2: ∀(l:List Ag),(∀b∈l,b.Strength<=1000000)->(l.map Ag.Strength).sum<=1000000*(l.length:Int):=by
    intro l;induction l with
    |nil=>intro _;simp
    |cons x r ih=>
     intro h;have h3:=ih (λb hb=>h b (BP _ hb));have h4:=h x (BM ..);simp only[Bf,Lz,Cv];omega
   have h3:=h2 a.2.1 (λb hb=>(af b hb).2);have h4:=O.2.2.1;simp only at h4;omega
  obtain⟨m,hm⟩: ∃m,F - k=m+1:=⟨F - k - 1,by omega⟩;rw[hm,G5] at Q;simp only[ZA,simprocAttr];refine AB.os (N,a.2.2.1,a.2.2.2) [0,2] ⟨i1,i2,ab,by simp only;omega,ad,by simp only;omega⟩ (λj=>oZ _ j) rfl rfl ?_ ?_
  .simp only[ZA,simprocAttr,Ec,growC.ca,Gr,HZ];rw[i3,i4,i5];exact⟨rfl,rfl,rfl⟩
  .simp only[ZA,simprocAttr,Ec,nY,growC.H1,growC.r0,bC,sub,AO];refine⟨λZ=> ?_,λZ=> ?_⟩
   .rw[Ai Z] at Q;obtain⟨g1,g2,g3,g4,g5,g6⟩:=LW i1 i2 ab (by omega) ad (by omega) ah Z;refine⟨⟨(k+1,(Fj N a.2.2.1 a.2.2.2).1),g1,g2,g3.trans i3,g4.trans i4,g5.trans i5,by simp only;omega,by simp only;omega,?_⟩,by simp only;omega,?_,rfl⟩
    .simp only;rw[show F - (k+1)=m by omega,Q];simp only[En,Xp];omega
    .rw[AD (by omega) (by omega)];simp only;omega
   .rw[Af Z] at Q;have e:(Fj N a.2.2.1 a.2.2.2).1=N:=by
     revert Z;simp only[Fj];split
     .intro _;rfl
     .intro h;simp at h
    refine⟨?_,?_⟩
    .simp only[flC.r0,Q];simp
    .rw[e];simp only[flC.net,Q]
 simp[flC.H1] at hp;rcases hp with rfl|rfl
 .exact .inr ⟨by omega,by simp,rfl,rfl⟩
 .exact .inr ⟨by omega,by simp,rfl,rfl⟩
def PO:D->Option Int
 | .int .u64 n=>some n
 |_=>none
def Qs3: ∀d x,PO d=some x->Le d (.int .u64 x):=by
 intro d x h;unfold PO at h;split at h
 .simp only[AI] at h;subst h;exact Le.refl _
 .cases h
def Qw1{a:Int}(h0:0<=a)(O:a<4294967296):Xr .u64 a 4294967295=a:=by
 simp only[Xr];obtain⟨n,rfl⟩: ∃n:Nat,a=n:=⟨a.toNat,by omega⟩;have hn:n<4294967296:=by omega
 have:(BitVec.ofInt IntKind.u64.bits (n:Int) &&& BitVec.ofInt IntKind.u64.bits 4294967295).toNat=n:=by
  have e:IntKind.u64.bits=64:=rfl;rw[e];simp only[BitVec.toNat_and,BitVec.toNat_ofInt];rw[show ((n:Int) % ((2^64:Nat):Int)).toNat=n by omega,show ((4294967295:Int) % ((2^64:Nat):Int)).toNat=2^32 - 1 by decide];rw[Nat.and_two_pow_sub_one_eq_mod];omega
 rw[this];unfold IntKind.wrap;have e:IntKind.u64.bits=64:=rfl;have z:IntKind.u64.signed=false:=rfl;simp only[e,z,Gf,CE,Cr];omega
def N0{a:Int}(h0:0<=a)(O:a<18446744073709551616):IntKind.u64.wrap a=a:=by
 unfold IntKind.wrap;have e:IntKind.u64.bits=64:=rfl;have z:IntKind.u64.signed=false:=rfl;simp only[e,z,Gf,CE,Cr];omega
def LJ{a:Int}(h0:0<=a)(z:a<4294967296):a.fdiv (2^min 32 IntKind.u64.bits)=0:=by
 have e:IntKind.u64.bits=64:=rfl;rw[e,show (2:Int)^min 32 64=4294967296 by decide,Zew _ (by decide)];omega
def mul64.fv(a:Int×Int):Int×Int:=(λ_ y=>(0,y)) (a.1) (a.2)
def mul64.row:A7:=vK (b2 qU qU) (r2 (RK.mk (PO) (D.int .u64) (Qs3)) (RK.mk (PO) (D.int .u64) (Qs3))) (λa=>a.1=1/\0<=a.2/\a.2<=1000000) mul64.fv
def mul64.q:=AY (R:=mul64.row) rfl
def mul64.ok:AC 245 mul64.row:=by
 refine vw tN Tryz.func245 ?_;intro a z;simp only[Tryz.f245];simp only[ZA,simprocAttr,mul64.fv];obtain⟨Q,O,Z⟩:=z;rw[Q,Qw1 (by omega) (by omega),Qw1 (by omega) (by omega),LJ (by omega) (by omega),LJ O (by omega),Int.zero_mul,Int.one_mul,Int.zero_mul,Int.mul_zero];simp only[N0 O (show a.2<18446744073709551616 by omega),LJ O (show a.2<4294967296 by omega),N0 (Oe 0) (by decide),Int.add_zero,LJ (Oe 0) (by decide),Qw1 (Oe 0) (by decide)];rfl
def mul_.fv(a:Int×Int):Int×Int:=(λ_ y=>(0,y)) (a.1) (a.2)
def mul_.row:A7:=vK (b2 qU qU) (r2 (RK.mk (PO) (D.int .u64) (Qs3)) (RK.mk (PO) (D.int .u64) (Qs3))) (λa=>a.1=1/\0<=a.2/\a.2<=1000000) mul_.fv
def mul_.q:=AY (R:=mul_.row) rfl
def mul_.ok:AC 243 mul_.row:=by
 refine vw (tC mul64.ok tN) Tryz.func243 ?_;intro a z;simp only[Tryz.f243];simp only[ZA,simprocAttr,mul_.fv,mul64.q,mul64.fv];exact⟨z,rfl⟩
def DZ(x:Int)(m n:Nat):List (List D):=List.replicate m [.int .i64 x]++List.replicate (n - m) [.int .i64 0]
def Ub(x:Int){m n:Nat}(h:m<=n):(DZ x m n).length=n:=by simp[DZ];omega
def Uc(x:Int)(n:Nat):DZ x (min 1 n) n=List.take (min 1 n) [[.int .i64 x]]++List.drop (min 1 n) (List.replicate n [.int .i64 0]):=by
 cases n with
 |zero=>rfl
 |succ n=>
  rw[show min 1 (n+1)=1 by omega];simp[DZ]
def N3(x:Int)(k m n:Nat):Ck BT (List.take k (DZ x m n)):=by
 intro r z
 have:=wP z
 rcases Bn.1 this with h|h<;>rw[Ob h]<;>rfl
def Pi(x:Int){m n:Nat}(h:m<n):List.take m (DZ x m n)++List.take (min m (n - m)) (List.take m (DZ x m n))++List.drop (m+min m (n - m)) (DZ x m n)=DZ x (m+min m (n - m)) n:=by
 have e:List.take m (DZ x m n)=List.replicate m [.int .i64 x]:=by simp[DZ]
 rw[e];have z:List.drop (m+min m (n - m)) (DZ x m n)=List.replicate (n - (m+min m (n - m))) [.int .i64 0]:=by
  simp only[DZ];rw[VI,CS (by simp),Fq,Oc,List.drop_replicate];congr 1;omega
 rw[z,DZ,<-List.replicate_append_replicate];congr 2;rw[List.take_replicate];congr 1;omega
def rept.ca(a:Int×Int):List AV:=[.own 0,.im (.int .i64 a.2)]
def rept.H0(a:Int×Int):Ap:=[(0,(true,.arr 3 1 [[.int .i64 a.1]]))]
def rept.H1(a:Int×Int):Ap:=[(1,(true,.arr 3 1 (List.replicate a.2.toNat [.int .i64 a.1])))]
def rept.pre(a:Int×Int):Prop:=0<=a.2/\a.2<=1000000
def rept.row:A7:=AB rept.ca rept.H0 1 rept.pre (λ_=>false) (λ_=> .own 1) rept.H1 20
def rept.ok:AC 240 rept.row:=by
 refine VO (tC mul_.ok tN) Tryz.func240 (exB:=λj=>j==1) (R:=λa r=>r= .own 1) (λ_=>rfl)
  (λa=>by simp[rept.ca,rept.H0,AF,AV.bel,Aw,B9,BS,Ab.nms,Ak,hget]) (λa p hp=> ?_) (λa r h=>by subst h;exact CU.refl _) ?_
 rotate_left
 intro a O;simp only[Tryz.f240,rept.ca,rept.H0,rept.H1];simp only[ZA,simprocAttr,mul_.q,mul_.fv,HW,Ef,Ht];obtain⟨h0,h1⟩:=O;rw[Af (by omega)];simp only[ZA,simprocAttr,N0 (show (0:Int)<=1 by decide) (show (1:Int)<18446744073709551616 by decide),N0 h0 (show a.2<18446744073709551616 by omega)];refine⟨⟨h0,h1⟩,?_⟩;rw[Af (by omega)];simp only[simprocAttr,AD (show -9223372036854775808<=a.2 by omega) (show a.2<=9223372036854775807 by omega)];refine⟨h0,Oe _,by omega,?_⟩;obtain⟨n,hn⟩: ∃n:Nat,a.2=n:=⟨a.2.toNat,by omega⟩;obtain⟨x,hx⟩: ∃x,x=a.1:=⟨_,rfl⟩;simp only[hn,B8,Oc,<-hx];rw[hn] at h0 h1;refine AT.old ⟨{m:Nat//m<=n/\(m=0->n=0)},λm=>⟨[(8,.im (.int .i64 m.1)),(7,.own 1)],[(1,(true,.arr 3 1 (DZ x m.1 n))),(0,(true,.arr 3 1 [[.int .i64 x]]))],2⟩,λm=>n - m.1,λm=>⟨by simp[ZG],by simp⟩,⟨⟨min 1 n,by omega,by omega⟩,?_⟩,λm=> ?_⟩
 .simp only[ZA,simprocAttr,sub];exact (Uc x n).symm
 obtain⟨m,Z,ab⟩:=m;have z:=Ub x Z;simp only[ZA,simprocAttr,FK,AO,z];intro aa;refine⟨λhm=>⟨by omega,false,?_⟩,λhm=> ?_⟩
 .simp only[ZA,simprocAttr,z];refine⟨by omega,false,?_⟩;simp only[ZA,simprocAttr,sub];obtain⟨k,hk⟩: ∃k,min (List.take ((m:Int) - 0).toNat (DZ x m n)).length ((n:Int) - m).toNat=k:=⟨_,rfl⟩;have Q:k=min m (n - m):=by rw[<-hk,BB,z];omega
  rw[hk,show ((m:Int) - 0).toNat=m by omega];refine⟨N3 x _ _ _,⟨m+k,by omega,by omega⟩,by simp only;omega,by rw[AD (by omega) (by omega)];simp only;omega,?_⟩;subst Q;exact Pi x hm
 .refine⟨[],[],⟨[(4,.own 1)],[(1,(true,.arr 3 1 (DZ x m n))),(0,(true,.arr 3 1 [[.int .i64 x]]))],2⟩,?_,by simp[ZG],by simp,?_⟩
  .simp only[Aq];simp only[ZA,simprocAttr,Bs]
  .simp only[ZA,simprocAttr]
   have:m=n:=by omega
   subst this;simp[DZ]
 simp[rept.H1] at hp;subst hp;exact .inr ⟨by omega,by omega,rfl,rfl⟩
def Qyw(x:Bd)(u v:Int):Int:=(x.Room[u.toNat]?.getD [])[v.toNat]?.getD 0
def Qzr(x:Bd)(u v:Int):Int:=(x.Flow[u.toNat]?.getD [])[v.toNat]?.getD 0
def V8(x:Bd)(u v:Int):Bool:=decide (Qzr x u v<Qyw x u v)
structure Kt(x:Bd)(n:Nat):Prop where
 r:x.Room.length=n
 f:x.Flow.length=n
 rr: ∀l∈x.Room,l.length=n
 ff: ∀l∈x.Flow,l.length=n
def Hm(x:Bd)(u:Int)(s:List Int×List Int)(v:Nat):List Int×List Int:=
 if s.1[v]?.getD 0<0/\V8 x u v=true then (s.1.set v u,s.2++[(v:Int)]) else s
def CI(x:Bd)(u:Int)(s:List Int×List Int):Nat->List Int×List Int
 |0=>s
 |k+1=>Hm x u (CI x u s k) k
def CW(x:Bd)(n:Nat)(p:Int):Nat->List Int×List Int
 |0=>((List.replicate n (-1)).set p.toNat p,[p])
 |k+1=>match (CW x n p k).2[k]? with
  |none=>CW x n p k
  |some u=>CI x u (CW x n p k) n
structure G0(x:Bd)(n:Nat)(p:Int)(s:List Int×List Int):Prop where
 len:s.1.length=n
 q: ∀v∈s.2,0<=v/\v<n
 nd:s.2.Nodup
 hd:s.2[0]? =some p
 pp:s.1[p.toNat]? =some p
 mem: ∀(v:Nat) (y:Int),s.1[v]? =some y->(0<=y↔(v:Int)∈s.2)
 prev: ∀(i:Nat) (v:Int),s.2[i]? =some v->0<i-> ∃(j:Nat) (u:Int),j<i/\s.2[j]? =some u/\s.1[v.toNat]? =some u/\V8 x u v=true
def Qtz: ∀(n:Nat) (l:List Int),l.Nodup->(∀v∈l,0<=v/\v<n)->l.length<=n
 |0,[],_,_=>AL _
 |0,x::r,_,h=>by have:=h x (BM ..);omega
 |n+1,l,h,O=>by
  have Z:=Qtz n (l.erase (n:Int)) (h.erase _) (λv Q=>by
   have z:=(h.mem_erase_iff).1 Q;have h3:=O v z.2
   have:=z.1
   omega)
  have z:=List.length_erase (a:=(n:Int)) (l:=l);split at z<;>omega
def Qr3{x:Bd}{n:Nat}{p:Int}{s:List Int×List Int}(h:G0 x n p s):s.2.length<=n:=Qtz n s.2 h.nd h.q
def lB{x:Bd}{n:Nat}{p:Int}{s:List Int×List Int}(h:G0 x n p s){u:Int}{k v:Nat}(hu:s.2[k]? =some u)(hv:v<n):G0 x n p (Hm x u s v)/\ ∃r,(Hm x u s v).2=s.2++r:=by
 simp only[Hm];split
 .rename_i hc;obtain⟨ac,ad⟩:=hc;have hvl:v<s.1.length:=by rw[h.len];exact hv
  obtain⟨y,hy⟩: ∃y,s.1[v]? =some y:=⟨_,Bi hvl⟩;rw[hy,AP] at ac;have Q:(v:Int)∉s.2:=λhm=>by have:=(h.mem v y hy).2 hm;omega
  have aa:p∈s.2:=AZ h.hd;have ah:p.toNat≠v:=by
   intro he
   have:=h.q p aa
   exact Q (by rw[show (v:Int)=p by omega];exact aa)
  have ai:=h.q u (AZ hu);refine⟨⟨by simpa using h.len,λw O=> ?_,?_,?_,?_,λw z hz=> ?_,λi w O hi=> ?_⟩,_,rfl⟩
  .rcases Bn.1 O with O|O
   .exact h.q w O
   .rw[Bz] at O;subst O;omega
  .rw[Xg];refine⟨h.nd,by simp,λa ha b hb=> ?_⟩;rw[Bz] at hb;subst hb;exact λhe=>Q (he▸ha)
  .have:=h.hd
   rw[Dj (BW.1 this).1];exact this
  .simp only;rw[Dw (E5 ah)];exact h.pp
  .simp only at hz⊢;rw[Bn,Bz];by_cases ab:v=w
   .subst ab;rw[CY hvl] at hz;obtain rfl:=Ay hz;exact⟨λ_=> .inr rfl,λ_=>ai.1⟩
   .rw[Dw ab] at hz;rw[h.mem w z hz];constructor
    .exact .inl
    .rintro (h1|h1)
     .exact h1
     .omega
  .simp only at O⊢;by_cases ag:i<s.2.length
   .rw[Dj ag] at O;obtain⟨j,z,h1,h2,h3,h4⟩:=h.prev i w O hi;refine⟨j,z,h1,by rw[Dj (by omega)];exact h2,?_,h4⟩;have aj:=h.q w (AZ O);rw[Dw]
    .exact h3
    .intro he;exact Q (by rw[show (v:Int)=w by omega];exact AZ O)
   .have af:i=s.2.length:=by
     have:=(BW.1 O).1
     simp only[C9,Cv,FA] at this;omega
    subst af;rw[E3 (AL _),Gh,G6] at O;obtain rfl:=Ay O;have Z:=(BW.1 hu).1;refine⟨k,u,Z,by rw[Dj Z];exact hu,?_,ad⟩;rw[B8,CY hvl]
 .exact⟨h,[],by simp⟩
def Qoj(x:Bd)(u:Int)(s:List Int×List Int)(v w:Nat)(y:Int)(h:s.1[w]? =some y)(h0:0<=y):(Hm x u s v).1[w]? =some y:=by
 simp only[Hm];split
 .rename_i z;rw[Dw]
  .exact h
  .intro O;subst O
   have:=z.1
   rw[h,AP] at this;omega
 .exact h
def Qvl(x:Bd)(u:Int)(s:List Int×List Int)(w:Nat)(y:Int)(h:s.1[w]? =some y)(h0:0<=y): ∀k,(CI x u s k).1[w]? =some y
 |0=>h
 |k+1=>Qoj x u _ k w y (Qvl x u s w y h h0 k) h0
def vV{x:Bd}{n:Nat}{p:Int}{s:List Int×List Int}(h:G0 x n p s){u:Int}{i:Nat}(O:s.2[i]? =some u): ∀k,k<=n->G0 x n p (CI x u s k)/\ ∃r,(CI x u s k).2=s.2++r
 |0,_=>⟨h,[],by simp[CI]⟩
 |k+1,hk=>by
  obtain⟨h1,r,Z⟩:=vV h O k (by omega);have Q:=(BW.1 O).1;obtain⟨h2,r',z⟩:=lB h1 (u:=u) (k:=i) (v:=k) (by rw[Z,Dj Q];exact O) (by omega);exact⟨h2,r++r',by rw[CI,z,Z,EK]⟩
def Qz6{x:Bd}{n:Nat}{p:Int}{s:List Int×List Int}(h:G0 x n p s){u:Int}{i:Nat}(O:s.2[i]? =some u): ∀k,k<=n-> ∀v,v<k->V8 x u v=true-> ∃y,(CI x u s k).1[v]? =some y/\0<=y
 |0,_,v,hv,_=>by omega
 |k+1,hk,v,hv,hf=>by
  by_cases Z:v<k
  .obtain⟨y,h1,h2⟩:=Qz6 h O k (by omega) v Z hf;exact⟨y,Qoj x u _ k v y h1 h2,h2⟩
  .have:v=k:=by omega
   subst this;have hP:=(vV h O v (by omega)).1;obtain⟨y,hy⟩: ∃y,(CI x u s v).1[v]? =some y:=⟨_,Bi (by rw[hP.len];omega)⟩;by_cases z:0<=y
   .exact⟨y,Qoj x u _ v v y hy z,z⟩
   .have Q:=h.q u (AZ O);refine⟨u,?_,Q.1⟩;rw[CI,Hm,Ai ⟨by rw[hy,AP];omega,hf⟩];exact CY (by rw[hP.len];omega)
def Re{x:Bd}{n:Nat}{p:Int}(h0:0<=p)(Z:p<n): ∀k,G0 x n p (CW x n p k)
 |0=>by
  have hq:p.toNat<(List.replicate n (-1:Int)).length:=by rw[Oc];omega
  refine⟨by simp[CW],λv z=> ?_,by simp[CW],rfl,CY hq,λv y O=> ?_,λi v z hi=> ?_⟩
  .simp only[CW,Bz] at z;subst z;omega
  .simp only[CW,Bz] at O⊢;by_cases Q:p.toNat=v
   .subst Q;rw[CY hq] at O;obtain rfl:=Ay O;omega
   .rw[Dw Q] at O
    have:=Ob (AZ O)
    omega
  .simp only[CW] at z;cases i with
   |zero=>omega
   |succ i=>simp at z
 |k+1=>by
  have ih:=Re (x:=x) h0 Z k;simp only[CW];split
  .exact ih
  .rename_i u hu;exact (vV ih hu n (AL _)).1
def oP(x:Bd)(n:Nat)(p:Int)(w:Nat)(y:Int)(h0:0<=y)(k:Nat)(h:(CW x n p k).1[w]? =some y): ∀m,(CW x n p (k+m)).1[w]? =some y
 |0=>h
 |m+1=>by
  have ih:=oP x n p w y h0 k h m;rw[show k+(m+1)=k+m+1 by omega,CW];split
  .exact ih
  .exact Qvl x _ _ w y ih h0 n
def Vp(x:Bd){n:Nat}{p:Int}(h0:0<=p)(z:p<n)(k:Nat): ∃r,(CW x n p (k+1)).2=(CW x n p k).2++r:=by
 rw[CW];split
 .exact⟨[],by simp⟩
 .rename_i u O;exact (vV (Re (x:=x) h0 z k) O n (AL _)).2
def Nx(x:Bd)(n:Nat)(p:Int): ∀(m k:Nat),(CW x n p k).2.length<=k->CW x n p (k+m)=CW x n p k
 |0,k,_=>rfl
 |m+1,k,h=>by
  have z:CW x n p (k+1)=CW x n p k:=by
   rw[CW,E9 h]
  have O:=Nx x n p m (k+1) (by rw[z];omega);rw[show k+(m+1)=k+1+m by omega,O,z]
def Qzh(x:Bd){n:Nat}{p:Int}(h0:0<=p)(O:p<n): ∀(k:Nat) (j:Nat) (u:Int),j<k->(CW x n p k).2[j]? =some u-> ∀v,v<n->V8 x u v=true-> ∃y,(CW x n p k).1[v]? =some y/\0<=y
 |0,j,_,hj,_,_,_,_=>by omega
 |k+1,j,u,hj,z,v,hv,hf=>by
  obtain⟨r,hr⟩:=Vp x h0 O k;by_cases Z:j<(CW x n p k).2.length
  .rw[hr,Dj Z] at z;by_cases Q:j<k
   .obtain⟨y,g1,g2⟩:=Qzh x h0 O k j u Q z v hv hf;exact⟨y,oP x n p v y g2 k g1 1,g2⟩
   .have:j=k:=by omega
    subst this;obtain⟨y,g1,g2⟩:=Qz6 (Re (x:=x) h0 O j) z n (AL _) v hv hf;exact⟨y,by rw[CW,z];exact g1,g2⟩
  .have e:CW x n p (k+1)=CW x n p k:=by
    rw[CW,E9 (by omega)]
   rw[e] at z
   have:=(BW.1 z).1
   omega
def Bu(x:Bd)(n:Nat)(p:Int):List Int×List Int:=CW x n p n
def Qww(x:Bd){n:Nat}{p:Int}(h0:0<=p)(O:p<n){u v:Nat}{y:Int}(hu:(Bu x n p).1[u]? =some y)(hy:0<=y)(hv:v<n)(hf:V8 x u v=true): ∃z,(Bu x n p).1[v]? =some z/\0<=z:=by
 have Q:=Re (x:=x) h0 O n;have hm:=(Q.mem u y hu).1 hy;obtain⟨j,Z⟩:=JK.1 hm;have hl:=Qr3 Q;have aa:=(BW.1 Z).1;exact Qzh x h0 O n j u (by omega) Z v hv hf
def DB(z:List Int)(q:Int):Nat->Int
 |0=>q
 |k+1=>z[(DB z q k).toNat]?.getD 0
def vG(z:List Int)(p q:Int)(n:Nat):Nat:=((List.range (n+1)).find? λk=>decide (DB z q k=p)).getD 0
def Ig(z:List Int)(q:Int)(k:Nat):List Int:=(List.range (k+1)).map (DB z q)
def Cy(x:Bd)(n:Nat)(p q:Int):List Int:=
 if (Bu x n p).1[q.toNat]?.getD 0<0 then [] else (Ig (Bu x n p).1 q (vG (Bu x n p).1 p q n)).reverse
def uA{x:Bd}{n:Nat}{p:Int}{s:List Int×List Int}(h:G0 x n p s){q:Int}{i:Nat}(hq:s.2[i]? =some q): ∀k,(∀j,j<k->DB s.1 q j≠p)-> ∃j,j+k<=i/\s.2[j]? =some (DB s.1 q k)
 |0,_=>⟨i,by omega,hq⟩
 |k+1,z=>by
  obtain⟨j,h1,O⟩:=uA h hq k (λj hj=>z j (by omega));have Q:0<j:=by
   rcases gJ j with h0|h0
   .subst h0;rw[h.hd] at O;exact absurd (Ay O).symm (z k (by omega))
   .exact h0
  obtain⟨j',u,g1,g2,g3,Z⟩:=h.prev j _ O Q;exact⟨j',by omega,by rw[DB,g3,AP];exact g2⟩
def Ol{x:Bd}{n:Nat}{p:Int}{s:List Int×List Int}(h:G0 x n p s){q:Int}{i:Nat}(hq:s.2[i]? =some q){k:Nat}(z: ∀j,j<k+1->DB s.1 q j≠p):V8 x (DB s.1 q (k+1)) (DB s.1 q k)=true/\ ∃y,s.1[(DB s.1 q k).toNat]? =some y/\DB s.1 q (k+1)=y:=by
 obtain⟨j,h1,O⟩:=uA h hq k (λj hj=>z j (by omega));have Q:0<j:=by
  rcases gJ j with h0|h0
  .subst h0;rw[h.hd] at O;exact absurd (Ay O).symm (z k (by omega))
  .exact h0
 obtain⟨j',u,g1,g2,g3,Z⟩:=h.prev j _ O Q;have e:DB s.1 q (k+1)=u:=by rw[DB,g3,AP]
 exact⟨by rw[e];exact Z,u,g3,e⟩
def Qq3{x:Bd}{n:Nat}{p:Int}{s:List Int×List Int}(h:G0 x n p s){q:Int}{i:Nat}(hq:s.2[i]? =some q): ∃d,d<=i/\DB s.1 q d=p/\ ∀j,j<d->DB s.1 q j≠p:=by
 have Z: ∀m,(∃d,d<=m/\DB s.1 q d=p/\ ∀j,j<d->DB s.1 q j≠p)\/ ∀j,j<=m->DB s.1 q j≠p:=by
  intro m;induction m with
  |zero=>
   by_cases h0:DB s.1 q 0=p
   .exact .inl ⟨0,AL _,h0,λj O=>by omega⟩
   .exact .inr λj O=>by rw[show j=0 by omega];exact h0
  |succ m ih=>
   rcases ih with ⟨d,z,h2,h3⟩|ih
   .exact .inl ⟨d,by omega,h2,h3⟩
   .by_cases h0:DB s.1 q (m+1)=p
    .exact .inl ⟨m+1,AL _,h0,λj O=>ih j (by omega)⟩
    .refine .inr λj O=> ?_
     by_cases Q:j<=m
     .exact ih j Q
     .rw[show j=m+1 by omega];exact h0
 rcases Z i with z|z
 .exact z
 .obtain⟨j,g1,g2⟩:=uA h hq (i+1) (λj O=>z j (by omega));omega
def Qqr{z:List Int}{p q:Int}{n d:Nat}(hd:d<=n)(O:DB z q d=p)(Q: ∀j,j<d->DB z q j≠p):vG z p q n=d:=by
 have: ∀(m s:Nat),s<=d->d<s+m->((List.range' s m).find? λk=>decide (DB z q k=p))=some d:=by
  intro m;induction m with
  |zero=>intro s Z h4;omega
  |succ m ih=>
   intro s Z h4;rw[List.range'_succ,Zer];by_cases hs:s=d
   .subst hs;simp[O]
   .rw[show decide (DB z q s=p)=false from wK (Q s (by omega))];exact ih (s+1) (by omega) (by omega)
 rw[vG,Zel,this _ 0 (by omega) (by omega),AP]
def AG(f:Nat->Int):Nat->Int
 |0=>0
 |n+1=>AG f n+f n
def Fz{f g:Nat->Int}: ∀{n:Nat},(∀i,i<n->f i=g i)->AG f n=AG g n
 |0,_=>rfl
 |n+1,h=>by simp only[AG];rw[Fz (λi z=>h i (by omega)),h n (by omega)]
def QR(f g:Nat->Int): ∀n,AG (λi=>f i+g i) n=AG f n+AG g n
 |0=>rfl
 |n+1=>by simp only[AG];rw[QR f g n];omega
def tU(f:Nat->Int): ∀n,AG (λi=> - f i) n= - AG f n
 |0=>rfl
 |n+1=>by simp only[AG];rw[tU f n];omega
def QO: ∀n,AG (λ_=>0) n=0
 |0=>rfl
 |n+1=>by simp only[AG];rw[QO n];rfl
def Qxf{f g:Nat->Int}: ∀{n:Nat},(∀i,i<n->f i<=g i)->AG f n<=AG g n
 |0,_=>Oe _
 |n+1,h=>by
  have z:=Qxf (f:=f) (g:=g) (n:=n) (λi Q=>h i (by omega));have O:=h n (by omega);simp only[AG];omega
def Qt3(f:Nat->Nat->Int)(m:Nat): ∀n,AG (λi=>AG (λj=>f i j) m) n=AG (λj=>AG (λi=>f i j) n) m
 |0=>by simp only[AG];exact (QO m).symm
 |n+1=>by simp only[AG];rw[Qt3 f m n,<-QR]
def WB(k:Nat)(c:Int): ∀n,AG (λi=>if i=k then c else 0) n=if k<n then c else 0
 |0=>rfl
 |n+1=>by
  simp only[AG];rw[WB k c n];by_cases z:n=k
  .subst z;rw[Af (by omega),Ai rfl,Ai (by omega)];omega
  .rw[Af z];by_cases O:k<n
   .rw[Ai O,Ai (by omega)];omega
   .rw[Af O,Af (by omega)];omega
def PG(a:Nat->Nat->Int)(n:Nat)(h: ∀u w,u<n->w<n->a u w= - a w u):AG (λu=>AG (λw=>a u w) n) n=0:=by
 have Q:AG (λu=>AG (λw=>a u w) n) n= - AG (λu=>AG (λw=>a u w) n) n:=by
  rw[<-tU]
  conv=>lhs;rw[Qt3]
  refine Fz λu z=> ?_
  rw[<-tU];exact Fz λw O=>h w u O z
 omega
structure QV(rm fl:Nat->Nat->Int)(n p q:Nat)(v:Int):Prop where
 anti: ∀u w,u<n->w<n->fl u w= - fl w u
 cap: ∀u w,u<n->w<n->fl u w<=rm u w
 cons: ∀u,u<n->u≠p->u≠q->AG (fl u) n=0
 val:AG (fl p) n=v
def Es(rm:Nat->Nat->Int)(n:Nat)(S:Nat->Bool):Int:=AG (λu=>AG (λw=>if S u=true/\S w=false then rm u w else 0) n) n
def oU{rm fl:Nat->Nat->Int}{n p q:Nat}{v:Int}(h:QV rm fl n p q v)(hp:p<n){S:Nat->Bool}(hS:S p=true)(hT:S q=false):Es fl n S=v:=by
 have h1:AG (λu=>AG (λw=>if S u=true then fl u w else 0) n) n=v:=by
  have:AG (λu=>AG (λw=>if S u=true then fl u w else 0) n) n=AG (λu=>if u=p then v else 0) n:=by
   refine Fz λu Q=> ?_
   by_cases z:u=p
   .subst z;rw[Ai rfl,<-h.val];exact Fz λw _=>Ai hS
   .rw[Af z];cases hSu:S u with
    |false=>exact (Fz λw _=>Af (by simp)).trans (QO n)
    |true=>
     have Z:u≠q:=λhe=>by rw[he,hT] at hSu;cases hSu
     exact (Fz λw _=>Ai rfl).trans (h.cons u Q z Z)
  rw[this,WB,Ai hp]
 have h2:AG (λu=>AG (λw=>if S u=true/\S w=true then fl u w else 0) n) n=0:=by
  refine PG _ n λu w Q hw=> ?_
  by_cases O:S u=true/\S w=true
  .rw[Ai O,Ai ⟨O.2,O.1⟩];exact h.anti u w Q hw
  .rw[Af O,Af (λh=>O ⟨h.2,h.1⟩)];rfl
 have h3:AG (λu=>AG (λw=>if S u=true then fl u w else 0) n) n=AG (λu=>AG (λw=>if S u=true/\S w=true then fl u w else 0) n) n+Es fl n S:=by
  rw[Es,<-QR];refine Fz λu _=> ?_
  rw[<-QR];refine Fz λw _=> ?_
  cases S u<;>cases S w<;>simp
 omega
def Qw8{rm fl:Nat->Nat->Int}{n p q:Nat}{v:Int}(h:QV rm fl n p q v)(hp:p<n){S:Nat->Bool}(z:S p=true)(O:S q=false):v<=Es rm n S:=by
 rw[<-oU h hp z O];refine Qxf λu Q=>Qxf λw Z=> ?_
 split
 .exact h.cap u w Q Z
 .exact Oe _
def Qxp{rm fl:Nat->Nat->Int}{n p q:Nat}{v:Int}(h:QV rm fl n p q v)(hp:p<n){S:Nat->Bool}(hS:S p=true)(hT:S q=false)(z: ∀u w,u<n->w<n->S u=true->S w=false->rm u w<=fl u w):v=Es rm n S:=by
 rw[<-oU h hp hS hT];refine Fz λu Q=>Fz λw Z=> ?_
 split
 .rename_i O;have h1:=h.cap u w Q Z;have h2:=z u w Q Z O.1 O.2;omega
 .rfl
def Hr(L:Nat->Nat)(a b j:Nat):Int:=if L j=a/\L (j+1)=b then 1 else 0
def sU(L:Nat->Nat)(a b:Nat): ∀i,0<=AG (Hr L a b) i
 |0=>Oe _
 |i+1=>by
  have:=sU L a b i
  simp only[AG,Hr]
  split<;>omega
def Qr1{L:Nat->Nat}{m:Nat}(z: ∀i j,i<=m->j<=m->L i=L j->i=j)(a b:Nat): ∀i,i<=m->AG (Hr L a b) i<=1/\(0<AG (Hr L a b) i-> ∃j,j<i/\L j=a/\L (j+1)=b)
 |0,_=>⟨by simp[AG],λh=>by simp[AG] at h⟩
 |i+1,hi=>by
  obtain⟨h1,h2⟩:=Qr1 z a b i (by omega);have h0:=sU L a b i;simp only[AG];by_cases Q:L i=a/\L (i+1)=b
  .have hz: ¬0<AG (Hr L a b) i:=by
    intro O;obtain⟨j,hj,Z,_⟩:=h2 O
    have:=z j i (by omega) (by omega) (Z.trans Q.1.symm)
    omega
   simp only[Hr] at hz h0⊢;rw[Ai Q];exact⟨by omega,λ_=>⟨i,by omega,Q⟩⟩
  .have e:Hr L a b i=0:=Af Q;rw[e];refine⟨by omega,λO=> ?_⟩;obtain⟨j,hj,Z⟩:=h2 (by omega);exact⟨j,by omega,Z⟩
def oY{L:Nat->Nat}{n m:Nat}(z: ∀i,i<=m->L i<n)(a:Nat): ∀i,i<=m->AG (λb=>AG (Hr L a b) i - AG (Hr L b a) i) n=(if L 0=a then 1 else 0) - (if L i=a then 1 else 0)
 |0,_=>by simp only[AG,Int.sub_self];exact QO n
 |i+1,hi=>by
  have ih:=oY z a i (by omega);have e:AG (λb=>AG (Hr L a b) (i+1) - AG (Hr L b a) (i+1)) n=AG (λb=>AG (Hr L a b) i - AG (Hr L b a) i) n+(AG (λb=>if b=L (i+1) then (if L i=a then 1 else 0) else 0) n+ - AG (λb=>if b=L i then (if L (i+1)=a then 1 else 0) else 0) n):=by
   rw[<-tU,<-QR,<-QR];refine Fz λb _=> ?_
   simp only[AG,Hr];by_cases c1:L i=a<;>by_cases O:L (i+1)=a<;>by_cases Q:b=L i<;>by_cases Z:b=L (i+1)<;>simp[c1,O,Q,Z,eq_comm]<;>omega
  rw[e,ih,WB,WB,Ai (z _ hi),Ai (z _ (by omega))];omega
def O7{rm fl Z:Nat->Nat->Int}{n p q:Nat}{v:Int}(h:QV rm fl n p q v){L:Nat->Nat}{m:Nat}(ab: ∀i j,i<=m->j<=m->L i=L j->i=j)(hr: ∀i,i<=m->L i<n)
 (h0:L 0=p)(hm:L m=q)(ad:p≠q)(hp:p<n)(aa: ∀i,i<m->fl (L i) (L (i+1))<rm (L i) (L (i+1)))
 (z: ∀a b,a<n->b<n->Z a b=fl a b+(AG (Hr L a b) m - AG (Hr L b a) m)):QV rm Z n p q (v+1):=by
 have Q: ∀a,a<n->AG (Z a) n=AG (fl a) n+((if L 0=a then 1 else 0) - (if L m=a then 1 else 0)):=by
  intro a ha;rw[<-oY hr a m (AL _),<-QR];exact Fz λb hb=>z a b ha hb
 refine⟨λu w O hw=> ?_,λu w O hw=> ?_,λu O h1 h2=> ?_,?_⟩
 .rw[z u w O hw,z w u hw O]
  have:=h.anti u w O hw
  omega
 .rw[z u w O hw];obtain⟨e1,e2⟩:=Qr1 ab u w m (AL _);have e3:=sU L w u m;have e4:=h.cap u w O hw;by_cases ac:0<AG (Hr L u w) m
  .obtain⟨j,hj,g1,g2⟩:=e2 ac
   have:=aa j hj
   rw[g1,g2] at this;omega
  .omega
 .rw[Q u O,h.cons u O h1 h2,h0,hm,Af (E5 h1),Af (E5 h2)];rfl
 .rw[Q p hp,h.val,h0,hm,Ai rfl,Af (E5 ad)];omega
def Lo(l:List (List Int))(u v:Int)(d:Int):List (List Int):=l.set u.toNat ((l[u.toNat]?.getD []).set v.toNat ((l[u.toNat]?.getD [])[v.toNat]?.getD 0+d))
def GN(l:List (List Int))(a b:Nat):Int:=(l[a]?.getD [])[b]?.getD 0
def Z9(l:List (List Int))(u v d:Int):(Lo l u v d).length=l.length:=by simp[Lo]
def Z1{l:List (List Int)}{n:Nat}(h: ∀r∈l,r.length=n)(u v d:Int)(O:u.toNat<l.length): ∀r∈Lo l u v d,r.length=n:=by
 intro r z;rcases Xk z with z|z
 .exact h r z
 .subst z;rw[EA,Bi O,AP];exact h _ (Rm O)
def eJ{l:List (List Int)}{n:Nat}(Z:l.length=n)(h: ∀r∈l,r.length=n){u v:Nat}(d:Int)(hu:u<n)(hv:v<n)(a b:Nat):GN (Lo l u v d) a b=GN l a b+if a=u/\b=v then d else 0:=by
 simp only[GN,Lo,B8];by_cases z:u=a
 .subst z;rw[CY (by omega),AP];have Q:(l[u]?.getD []).length=n:=by
   rw[Bi (by omega),AP];exact h _ (Rm (by omega))
  by_cases O:v=b
  .subst O;rw[CY (by omega),AP,Ai ⟨rfl,rfl⟩]
  .rw[Dw O,Af (λh=>O h.2.symm)];omega
 .rw[Dw z,Af (λh=>z h.1.symm)];omega
def N9(x:Bd)(u v:Int):Bd:=⟨x.Room,Lo (Lo x.Flow u v 1) v u (-1)⟩
def Hs(x:Bd)(L:List Int):Nat->Bd
 |0=>x
 |i+1=>N9 (Hs x L i) (L[i]?.getD 0) (L[i+1]?.getD 0)
def Ql3(x:Bd)(L:List Int): ∀i,(Hs x L i).Room=x.Room
 |0=>rfl
 |i+1=>Ql3 x L i
def O6(x:Bd)(u v:Int):Qzr x u v=GN x.Flow u.toNat v.toNat:=rfl
def Pm(x:Bd)(u v:Int):Qyw x u v=GN x.Room u.toNat v.toNat:=rfl
def TN{x:Bd}{n:Nat}(h:Kt x n){u v:Int}(z:u.toNat<n)(O:v.toNat<n):Kt (N9 x u v) n:=by
 refine⟨h.r,by simp only[N9,Z9];exact h.f,h.rr,?_⟩;exact Z1 (Z1 h.ff u v 1 (by rw[h.f];exact z)) v u (-1) (by rw[Z9,h.f];exact O)
def Qm6{x:Bd}{n:Nat}(h:Kt x n){L:List Int}(z: ∀y∈L,0<=y/\y<n): ∀i,i<L.length->Kt (Hs x L i) n
 |0,_=>h
 |i+1,O=>by
  have ih:=Qm6 h z i (by omega);refine TN ih ?_ ?_
  .rw[Bi (by omega),AP]
   have:=z _ (Rm (show i<L.length by omega))
   omega
  .rw[Bi O,AP]
   have:=z _ (Rm O)
   omega
def Lf(L:List Int)(i:Nat):Nat:=(L[i]?.getD 0).toNat
def Qso{x:Bd}{n:Nat}(h:Kt x n){L:List Int}(O: ∀y∈L,0<=y/\y<n)(a b:Nat): ∀i,i<L.length->GN (Hs x L i).Flow a b=GN x.Flow a b+(AG (Hr (Lf L) a b) i - AG (Hr (Lf L) b a) i)
 |0,_=>by simp[Hs,AG]
 |i+1,hi=>by
  have ih:=Qso h O a b i (by omega);have z:=Qm6 h O i (by omega);obtain⟨u,hu⟩: ∃u,L[i]? =some u:=⟨_,Bi (by omega)⟩;obtain⟨v,hv⟩: ∃v,L[i+1]? =some v:=⟨_,Bi hi⟩;have aa:=O u (AZ hu);have hvb:=O v (AZ hv);obtain⟨u',rfl⟩: ∃u':Nat,u=u':=⟨u.toNat,by omega⟩;obtain⟨v',rfl⟩: ∃v':Nat,v=v':=⟨v.toNat,by omega⟩;simp only[Hs,N9,hu,hv,AP];rw[eJ (n:=n) (by rw[Z9];exact z.f) (Z1 z.ff _ _ _ (by rw[z.f];simp;omega)) _ (by omega) (by omega),
   eJ z.f z.ff _ (by omega) (by omega),ih]
  have e1:Lf L i=u':=by simp[Lf,hu]
  have e2:Lf L (i+1)=v':=by simp[Lf,hv]
  simp only[AG,Hr,e1,e2];by_cases c1:a=u'<;>by_cases Q:b=v'<;>by_cases Z:a=v'<;>by_cases c4:b=u'<;>simp[c1,Q,Z,c4,eq_comm]<;>omega
structure SE(x:Bd)(n:Nat)(p q:Int)(L:List Int):Prop where
 pos:0<L.length
 inb: ∀y∈L,0<=y/\y<n
 hd:L[0]? =some p
 lst:L[L.length - 1]? =some q
 nd: ∀i j,i<L.length->j<L.length->Lf L i=Lf L j->i=j
 free: ∀i,i+1<L.length->V8 x (L[i]?.getD 0) (L[i+1]?.getD 0)=true
def Vq{x:Bd}{n:Nat}{p q:Int}(an:0<=p)(ao:p<n)(a8:0<=q)(a9:q<n)(am:Cy x n p q≠[]):SE x n p q (Cy x n p q):=by
 have hP:G0 x n p (Bu x n p):=Re an ao n;have ax:=hP.len;obtain⟨y,hy⟩: ∃y,(Bu x n p).1[q.toNat]? =some y:=⟨_,Bi (by omega)⟩;have av: ¬y<0:=by
  intro h;apply am;simp only[Cy,hy,AP];rw[Ai h]
 have aq:q∈(Bu x n p).2:=by
  have:=(hP.mem q.toNat y hy).1 (by omega)
  rwa [show (q.toNat:Int)=q by omega] at this
 obtain⟨i,hi⟩:=JK.1 aq;obtain⟨d,ay,ah,ab⟩:=Qq3 hP hi;have az:=(BW.1 hi).1;have a0:=Qr3 hP;have au:vG (Bu x n p).1 p q n=d:=Qqr (by omega) ah ab;have hW:Cy x n p q=(Ig (Bu x n p).1 q d).reverse:=by
  simp only[Cy,hy,AP];rw[Af av,au]
 rw[hW];have Q:(Ig (Bu x n p).1 q d).length=d+1:=by simp[Ig]
 have hget: ∀k,k<=d->(Ig (Bu x n p).1 q d).reverse[k]? =some (DB (Bu x n p).1 q (d - k)):=by
  intro k O;rw[Zeg (by rw[Q];omega),Q,show d+1 - 1 - k=d - k by omega,Ig,CM,Iw (by omega)];rfl
 have ac: ∀k,k<=d-> ∃j,j+k<=i/\(Bu x n p).2[j]? =some (DB (Bu x n p).1 q k):=λk O=>uA hP hi k (λj hj=>ab j (by omega))
 have Z: ∀k,k<=d->0<=DB (Bu x n p).1 q k/\DB (Bu x n p).1 q k<n:=by
  intro k O;obtain⟨j,_,h2⟩:=ac k O;exact hP.q _ (AZ h2)
 have af: ∀k,k<=d-> ∀e,e<=k-> ∀j j',(Bu x n p).2[j]? =some (DB (Bu x n p).1 q k)->(Bu x n p).2[j']? =some (DB (Bu x n p).1 q e)->j+(k - e)<=j':=by
  intro k O e he j j' hj aj;have aw: ∀m,e+m<=d-> ∃j2,j2+m<=j'/\(Bu x n p).2[j2]? =some (DB (Bu x n p).1 q (e+m)):=by
   intro m;induction m with
   |zero=>intro _;exact⟨j',by omega,aj⟩
   |succ m ih=>
    intro hm;obtain⟨j2,g1,g2⟩:=ih (by omega);have h0:0<j2:=by
     rcases gJ j2 with h0|h0
     .subst h0;rw[hP.hd] at g2;exact absurd (Ay g2).symm (ab _ (by omega))
     .exact h0
    obtain⟨j3,u,q1,q2,q3,q4⟩:=hP.prev j2 _ g2 h0;refine⟨j3,by omega,?_⟩;rw[show e+(m+1)=e+m+1 by omega,DB,q3,AP];exact q2
  obtain⟨j2,g1,g2⟩:=aw (k - e) (by omega);rw[show e+(k - e)=k by omega] at g2
  have:=(List.getElem?_inj (BW.1 hj).1 hP.nd).1 (hj.trans g2.symm)
  omega
 have ad: ∀k e,k<=d->e<k->DB (Bu x n p).1 q k≠DB (Bu x n p).1 q e:=by
  intro k e O he ai;obtain⟨j,_,h2⟩:=ac k O
  have:=af k O e (by omega) j j h2 (ai▸h2)
  omega
 have aa: ∀k,k<=d->(Ig (Bu x n p).1 q d).reverse[k]?.getD 0=DB (Bu x n p).1 q (d - k):=λk O=>by rw[hget k O,AP]
 refine⟨by rw[gE,Q];omega,λz hz=> ?_,?_,?_,λk e O he hL=> ?_,λk O=> ?_⟩
 .obtain⟨k,O⟩:=JK.1 hz;have ak:=(BW.1 O).1;rw[gE,Q] at ak;rw[hget k (by omega)] at O;obtain rfl:=Ay O;exact Z _ (by omega)
 .rw[hget 0 (by omega),nU,ah]
 .rw[gE,Q,hget (d+1 - 1) (by omega),show d - (d+1 - 1)=0 by omega];rfl
 .rw[gE,Q] at O he;simp only[Lf] at hL;rw[aa k (by omega),aa e (by omega)] at hL;have b1:=Z (d - k) (by omega);have b2:=Z (d - e) (by omega);have ag:DB (Bu x n p).1 q (d - k)=DB (Bu x n p).1 q (d - e):=by omega
  rcases nP (d - k) (d - e) with h|h|h
  .exact absurd ag.symm (ad _ _ (by omega) h)
  .omega
  .exact absurd ag (ad _ _ (by omega) h)
 .rw[gE,Q] at O;rw[aa k (by omega),aa (k+1) (by omega),show d - k=d - (k+1)+1 by omega];exact (Ol hP hi (λj hj=>ab j (by omega))).1
def FM(n:Nat)(p q:Int):Nat->Bd->Int
 |0,_=>0
 |m+1,x=>if Cy x n p q=[] then 0 else FM n p q m (Hs x (Cy x n p q) ((Cy x n p q).length - 1))+1
def Ea(x:Bd)(a b:Nat):Int:=GN x.Room a b
def JP(x:Bd)(a b:Nat):Int:=GN x.Flow a b
def Qun{x:Bd}{n:Nat}(h:Kt x n){p q:Int}(aa:0<=p)(ab:p<n)(ac:p≠q)(ad:0<=q){v:Int}(hf:QV (Ea x) (JP x) n p.toNat q.toNat v){L:List Int}(z:SE x n p q L):
 Kt (Hs x L (L.length - 1)) n/\QV (Ea x) (JP (Hs x L (L.length - 1))) n p.toNat q.toNat (v+1):=by
 have Z:=z.pos;have Q: ∀i,i<L.length->(L[i]?.getD 0).toNat=Lf L i/\Lf L i<n:=by
  intro i O;refine⟨rfl,?_⟩;simp only[Lf];rw[Bi O,AP]
  have:=z.inb _ (Rm O)
  omega
 refine⟨Qm6 h z.inb _ (by omega),O7 (m:=L.length - 1) (L:=Lf L) hf (λi j O hj=>z.nd i j (by omega) (by omega)) (λi O=>(Q i (by omega)).2) ?_ ?_ (by omega) (by omega) (λi O=> ?_) (λa b _ _=>Qso h z.inb a b _ (by omega))⟩
 .simp only[Lf,z.hd,AP]
 .simp only[Lf,z.lst,AP]
 .exact of_decide_eq_true (z.free i (by omega))
def oS{n:Nat}{p q:Int}(O:0<=p)(Q:p<n)(ad:p≠q)(ab:0<=q)(af:q<n): ∀(m:Nat) (x:Bd) (v:Int),Kt x n->QV (Ea x) (JP x) n p.toNat q.toNat v->
 (FM n p q m x=m/\ ∀S:Nat->Bool,S p.toNat=true->S q.toNat=false->v+m<=Es (Ea x) n S)\/(FM n p q m x<m/\ ∃S:Nat->Bool,S p.toNat=true/\S q.toNat=false/\Es (Ea x) n S=v+FM n p q m x)
 |0,x,v,h,hf=> .inl ⟨rfl,λS h1 h2=>by have:=Qw8 hf (by omega) h1 h2;simpa using this⟩
 |m+1,x,v,h,hf=>by
  by_cases Z:Cy x n p q=[]
  .refine .inr ?_;have e:FM n p q (m+1) x=0:=by simp only[FM];rw[Ai Z]
   rw[e];refine⟨by omega,λu=>decide (0<=(Bu x n p).1[u]?.getD (-1)),?_,?_,?_⟩
   .have:=(Re (x:=x) O Q n).pp
    simp only[Bu,this,AP,Bq];exact O
   .have aa:=(Re (x:=x) O Q n).len;obtain⟨y,hy⟩: ∃y,(Bu x n p).1[q.toNat]? =some y:=⟨_,Bi (by simp only[Bu];omega)⟩;simp only[hy,AP,Iu];intro h0;simp only[Cy,hy,AP] at Z;rw[Af (by omega)] at Z;simp[Ig] at Z
   .have:=Qxp (S:=λu=>decide (0<=(Bu x n p).1[u]?.getD (-1))) hf (by omega) ?_ ?_ ?_
    .omega
    .have:=(Re (x:=x) O Q n).pp
     simp only[Bu,this,AP,Bq];exact O
    .have aa:=(Re (x:=x) O Q n).len;obtain⟨y,hy⟩: ∃y,(Bu x n p).1[q.toNat]? =some y:=⟨_,Bi (by simp only[Bu];omega)⟩;simp only[hy,AP,Iu];intro h0;simp only[Cy,hy,AP] at Z;rw[Af (by omega)] at Z;simp[Ig] at Z
    .intro u w hu ah h1 h2;simp only[Bq,Iu] at h1 h2;have aa:=(Re (x:=x) O Q n).len;obtain⟨y,hy⟩: ∃y,(Bu x n p).1[u]? =some y:=⟨_,Bi (by simp only[Bu];omega)⟩;rw[hy,AP] at h1;by_cases ac:V8 x u w=true
     .obtain⟨z,g1,g2⟩:=Qww x O Q hy h1 ah ac;rw[g1,AP] at h2;omega
     .have h3: ¬(Qzr x u w<Qyw x u w):=λh=>ac (gO h)
      rw[O6,Pm,B8,B8] at h3;simp only[Ea,JP];omega
  .have hW:=Vq O Q ab af Z;obtain⟨g1,g2⟩:=Qun h O Q ad ab hf hW;have ag:Ea (Hs x (Cy x n p q) ((Cy x n p q).length - 1))=Ea x:=by funext a b;simp only[Ea,Ql3]
   rw[<-ag] at g2;have ih:=oS O Q ad ab af m _ _ g1 g2;rw[ag] at ih;have e:FM n p q (m+1) x=FM n p q m (Hs x (Cy x n p q) ((Cy x n p q).length - 1))+1:=by simp only[FM];rw[Af Z]
   rw[e];rcases ih with ⟨h1,h2⟩|⟨h1,S,h2,h3,h4⟩
   .exact .inl ⟨by omega,λS hS hT=>by have:=h2 S hS hT;omega⟩
   .exact .inr ⟨by omega,S,h2,h3,by omega⟩
def KI(n:Nat):Bd:=⟨List.replicate n (List.replicate n 0),List.replicate n (List.replicate n 0)⟩
def Kz(x:Bd)(b:Ag):Bd:=⟨Lo (Lo x.Room b.A b.B b.Strength) b.B b.A b.Strength,x.Flow⟩
def BZ(n:Nat)(bs:List Ag):Nat->Bd
 |0=>KI n
 |k+1=>match bs[k]? with
  |some b=>Kz (BZ n bs k) b
  |none=>BZ n bs k
def DM(n:Nat)(bs:List Ag):Bd:=BZ n bs bs.length
def WG{n:Nat}{bs:List Ag}(Z:Ll n bs): ∀k,Kt (BZ n bs k) n/\(BZ n bs k).Flow=List.replicate n (List.replicate n 0)
 |0=>⟨⟨by simp[BZ,KI],by simp[BZ,KI],λl Q=>by rw[Ob Q];simp,λl Q=>by rw[Ob Q];simp⟩,rfl⟩
 |k+1=>by
  obtain⟨ih,z⟩:=WG Z k;simp only[BZ];split
  .rename_i b O;obtain⟨b1,b2,b3,b4⟩:=Z b (AZ O);refine⟨⟨by simp only[Kz,Z9];exact ih.r,ih.f,?_,ih.ff⟩,z⟩;exact Z1 (Z1 ih.rr _ _ _ (by rw[ih.r];omega)) _ _ _ (by rw[Z9,ih.r];omega)
  .exact⟨ih,z⟩
def CG(S:Nat->Bool):List Ag->Int
 |[]=>0
 |b::r=>(if S b.A.toNat=S b.B.toNat then 0 else b.Strength)+CG S r
def pK(S:Nat->Bool): ∀(a b:List Ag),CG S (a++b)=CG S a+CG S b
 |[],b=>by simp[CG]
 |x::r,b=>by simp only[CO,CG,pK S r b];omega
def Ze(n u v:Nat)(hu:u<n)(hv:v<n)(c:Int)(g:Nat->Nat->Bool):AG (λa=>AG (λb=>if g a b=true then (if a=u/\b=v then c else 0) else 0) n) n=if g u v=true then c else 0:=by
 have Q:AG (λa=>AG (λb=>if g a b=true then (if a=u/\b=v then c else 0) else 0) n) n=AG (λa=>if a=u then (if g u v=true then c else 0) else 0) n:=by
  refine Fz λa _=> ?_
  by_cases z:a=u
  .subst z;rw[Ai rfl];have Z:AG (λb=>if g a b=true then (if a=a/\b=v then c else 0) else 0) n=AG (λb=>if b=v then (if g a v=true then c else 0) else 0) n:=by
    refine Fz λb _=> ?_
    by_cases O:b=v
    .subst O;simp
    .simp[O]
   rw[Z,WB,Ai hv]
  .rw[Af z];refine (Fz λb _=> ?_).trans (QO n);simp[z]
 rw[Q,WB,Ai hu]
def Qnz{l:List (List Int)}{n:Nat}(hl:l.length=n)(h: ∀r∈l,r.length=n){u v:Nat}(d:Int)(O:u<n)(Q:v<n)(S:Nat->Bool):
 Es (λa b=>GN (Lo l u v d) a b) n S=Es (λa b=>GN l a b) n S+if S u=true/\S v=false then d else 0:=by
 have z:AG (λa=>AG (λb=>if (S a && !S b)=true then (if a=u/\b=v then d else 0) else 0) n) n=if (S u && !S v)=true then d else 0:=Ze n u v O Q d (λa b=>S a && !S b)
 have Z:(if (S u && !S v)=true then d else 0)=if S u=true/\S v=false then d else 0:=by
  cases S u<;>cases S v<;>simp
 rw[Z] at z;rw[<-z,Es,Es,<-QR];refine Fz λa _=> ?_
 rw[<-QR];refine Fz λb _=> ?_
 rw[eJ hl h d O Q a b];cases S a<;>cases S b<;>simp
def LG{n:Nat}{bs:List Ag}(O:Ll n bs)(S:Nat->Bool): ∀k,k<=bs.length->Es (Ea (BZ n bs k)) n S=CG S (bs.take k)
 |0,_=>by
  simp only[Xo,CG,Es];refine (Fz λu hu=> ?_).trans (QO n);refine (Fz λw hw=> ?_).trans (QO n)
  have:Ea (BZ n bs 0) u w=0:=by
   simp only[Ea,BZ,KI,GN];rw[Ls,Ai hu,AP,Ls,Ai hw,AP]
  rw[this];split<;>rfl
 |k+1,Z=>by
  obtain⟨b,hbk⟩: ∃b,bs[k]? =some b:=⟨_,Bi Z⟩;have ih:=LG O S k (by omega);obtain⟨z,_⟩:=WG O k;obtain⟨b1,b2,b3,b4⟩:=O b (AZ hbk);have e:bs.take (k+1)=bs.take k++[b]:=by rw[Ip,hbk];rfl
  rw[e,pK,<-ih];have Q:Ea (BZ n bs (k+1))=λx y=>GN (Lo (Lo (BZ n bs k).Room (b.A.toNat:Int) (b.B.toNat:Int) b.Strength) (b.B.toNat:Int) (b.A.toNat:Int) b.Strength) x y:=by
   funext x y;simp only[Ea,BZ,hbk,Kz];rw[show ((b.A.toNat:Nat):Int)=b.A by omega,show ((b.B.toNat:Nat):Int)=b.B by omega]
  rw[Q,Qnz (by rw[Z9];exact z.r) (Z1 z.rr _ _ _ (by rw[z.r];simp;omega)) _ (by omega) (by omega),Qnz z.r z.rr _ (by omega) (by omega)];simp only[CG]
  have:Es (λa b=>GN (BZ n bs k).Room a b) n S=Es (Ea (BZ n bs k)) n S:=rfl
  rw[this];cases S b.A.toNat<;>cases S b.B.toNat<;>simp<;>omega
def RL{n:Nat}{bs:List Ag}(z:Ll n bs)(S:Nat->Bool):Es (Ea (DM n bs)) n S=CG S bs:=by
 rw[DM,LG z S _ (AL _),IS]
def Qpz{n:Nat}{bs:List Ag}(O:Ll n bs)(hs:Qj bs)(a b:Nat): ∀k,0<=Ea (BZ n bs k) a b
 |0=>by
  simp only[Ea,BZ,KI,GN,Ls];split
  .rw[AP,Ls];split<;>simp
  .simp
 |k+1=>by
  have ih:=Qpz O hs a b k;obtain⟨z,_⟩:=WG O k;simp only[Ea,BZ] at ih⊢;split
  .rename_i x Q;obtain⟨b1,b2,b3,b4⟩:=O x (AZ Q);have h0:=(hs x (AZ Q)).1;simp only[Kz];rw[show x.A=(x.A.toNat:Int) by omega,show x.B=(x.B.toNat:Int) by omega];rw[eJ (n:=n) (by rw[Z9];exact z.r) (Z1 z.rr _ _ _ (by rw[z.r];simp;omega)) _ (by omega) (by omega),eJ z.r z.rr _ (by omega) (by omega)]
   split<;>split<;>omega
  .exact ih
def oW{n:Nat}{bs:List Ag}(O:Ll n bs)(hs:Qj bs)(p q:Nat):QV (Ea (DM n bs)) (JP (DM n bs)) n p q 0:=by
 have z: ∀a b,JP (DM n bs) a b=0:=by
  intro a b;simp only[JP,DM,(WG O bs.length).2,GN,Ls];split
  .rw[AP,Ls];split<;>simp
  .simp
 refine⟨λu w _ _=>by rw[z,z];rfl,λu w _ _=> ?_,λu _ _ _=>(Fz λi _=>z u i).trans (QO n),(Fz λi _=>z p i).trans (QO n)⟩;rw[z];exact Qpz O hs u w bs.length
def WP(n:Nat)(bs:List Ag)(t:Int)(k:Nat):Prop:= ∀S:Nat->Bool,S 0=true->(∃y,0<y/\y<=k/\y<n/\S y=false)->t<=CG S bs
def Rb(n:Nat)(bs:List Ag)(t:Int):Nat->Bool
 |0=>true
 |k+1=>Rb n bs t k && decide (t<=FM n 0 ((k:Int)+1) t.toNat (DM n bs))
def Qtt{n:Nat}{bs:List Ag}(Q:Ll n bs)(hs:Qj bs){t:Int}(ht:0<=t): ∀k,k<n->(Rb n bs t k=true↔WP n bs t k)
 |0,_=>by
  simp only[Rb,true_iff];rintro S _ ⟨y,h1,z,_⟩;omega
 |k+1,hk=>by
  have ih:=Qtt Q hs ht k (by omega);have hl:=oS (n:=n) (p:=0) (q:=(k:Int)+1) (by omega) (by omega) (by omega) (by omega) (by omega) t.toNat (DM n bs) 0 (WG Q bs.length).1 (oW Q hs _ _);simp only[Int.toNat_zero,show ((k:Int)+1).toNat=k+1 by omega,Int.zero_add,RL Q] at hl;simp only[Rb,AN,Bq,ih];rcases hl with ⟨h1,z⟩|⟨h1,S,z,h3,h4⟩
  .constructor
   .rintro⟨g1,g2⟩ S O ⟨y,y1,y2,y3,Z⟩;by_cases hy:y<=k
    .exact g1 S O ⟨y,y1,hy,y3,Z⟩
    .have:=z S O (by rw[show k+1=y by omega];exact Z)
     omega
   .intro h;exact⟨λS O ⟨y,y1,y2,y3,Z⟩=>h S O ⟨y,y1,by omega,y3,Z⟩,by omega⟩
  .constructor
   .rintro⟨_,g2⟩;omega
   .intro h
    have:=h S z ⟨k+1,by omega,by omega,hk,h3⟩
    omega
def Qt7{n:Bb}(hn:D0 n)(hc:IN n){q:Int}{st qu:List Int}(O:st.length=n.Cnt.toNat)(hP:FB n q (st,qu)){p:Int}(Q:0<=p)(Z:p<n.Cnt){d:Nat}(hd:st[p.toNat]? =some (d:Int))(w:Int):
 ∀k,k<=d->Dn (BR n st p k).1 w=Dn n w+(if p=w then 1 else 0) - (if (BR n st p k).2=w then 1 else 0)
 |0,_=>by simp only[BR];omega
 |k+1,hk=>by
  have ih:=Qt7 hn hc O hP Q Z hd w k (by omega);have hI:=mB hn hc O hP Q Z hd k (by omega);obtain⟨m,r,hm,hr,hg,aa,af⟩:=Qk0 hn O hP (by omega) hI;have ad:(BR n st p k).1.At[m]? =some r:=by rw[hI.at_];exact hr
  have e:(BR n st p (k+1)).1=Ic (BR n st p k).1 m (GO (BR n st p k).1 st m).2:=by simp only[BR,hm]
  have e2:(BR n st p (k+1)).2=(GO (BR n st p k).1 st m).1:=by simp only[BR,hm]
  rw[e,e2,Qzc hI.ok ad hg.1,hg.2.2.1,ih,hm];have ab:=hg.2.2.2.1;rw[B8,aa,AP] at ab;have ac:(m:Int)≠(GO (BR n st p k).1 st m).1:=by
   intro he;rw[<-he,B8,aa,AP] at ab;omega
  obtain⟨z,hz⟩: ∃z,z=(GO (BR n st p k).1 st m).1:=⟨_,rfl⟩;rw[<-hz] at ac⊢;by_cases c1:p=w<;>by_cases c2:(m:Int)=w<;>by_cases c3:z=w<;>simp only[c1,c2,c3,BI,Cr]<;>omega
def NF(n:Bb)(p q:Int):Prop:= ∀w,w≠p->w≠q->Dn n w=0
def OC{n:Bb}(hn:D0 n)(hc:IN n){p q:Int}(O:0<=p)(Q:p<n.Cnt)(Z:0<=q)(aa:q<n.Cnt)(hg:(Fj n p q).2=true)(ab:NF n p q):NF (Fj n p q).1 p q:=by
 have z:=sZ hn Z aa;have hP:FB n q (Fi n q,(C8 n q n.Cnt.toNat).2):=NH hn Z aa n.Cnt.toNat;obtain⟨x,hx⟩: ∃x,(Fi n q)[p.toNat]? =some x:=⟨_,Bi (by omega)⟩;intro w h1 h2;simp only[Fj,hx,AP] at hg⊢;by_cases h:x<0
 .rw[Ai h] at hg;simp at hg
 .obtain⟨d,rfl⟩: ∃d:Nat,x=d:=⟨x.toNat,by omega⟩;rw[Af h,B8];have hI:=mB hn hc z hP O Q hx d (AL _);obtain⟨m,hm,ad,ac⟩:=hI.v;have af:m=q.toNat:=hP.uniq m (by rw[ac];congr 1;omega);have ho:=Qt7 hn hc z hP O Q hx w d (AL _);rw[Af (E5 h1),hm,Af (by omega),ab w h1 h2] at ho;simpa using ho
def Que{p q:Int}(z:0<=p)(O:0<=q)(aa:p≠q): ∀(m:Nat) (n:Bb),D0 n->IN n->p<n.Cnt->q<n.Cnt->NF n p q->D0 (G5 p q m n).1/\IN (G5 p q m n).1/\(G5 p q m n).1.Cnt=n.Cnt/\(G5 p q m n).1.Bonds=n.Bonds/\
 (G5 p q m n).1.At=n.At/\NF (G5 p q m n).1 p q/\Dn (G5 p q m n).1 p=Dn n p+(G5 p q m n).2/\0<=(G5 p q m n).2/\((G5 p q m n).2=m\/(Fj (G5 p q m n).1 p q).2=false)
 |0,n,Q,Z,_,_,h5=>⟨Q,Z,rfl,rfl,rfl,h5,by simp[G5],by simp[G5],.inl (by simp[G5])⟩
 |m+1,n,Q,Z,h3,h4,h5=>by
  simp only[G5];by_cases hg:(Fj n p q).2=true
  .rw[Ai hg];obtain⟨g1,g2,g3,g4,g5,g6⟩:=LW Q Z z h3 O h4 aa hg;have g7:=OC Q Z z h3 O h4 hg h5;obtain⟨k1,k2,k3,k4,k5,k6,k7,k8,k9⟩:=Que z O aa m _ g1 g2 (by omega) (by omega) g7;refine⟨k1,k2,k3.trans g3,k4.trans g4,k5.trans g5,k6,by simp only;omega,by simp only;omega,?_⟩;rcases k9 with h|h
   .exact .inl (by simp only;omega)
   .exact .inr h
  .rw[Af hg];exact⟨Q,Z,rfl,rfl,rfl,h5,by simp,by simp,.inr (by simpa using hg)⟩
def Qu0{n:Int}{bs:List Ag}(h:ZM (n,bs))(hs:Qj bs){p q:Int}(z:0<=p)(Z:0<=q)(O:p<n)(aa:q<n)(Q:p≠q):D0 (Ee n bs p q).1/\IN (Ee n bs p q).1/\(Ee n bs p q).1.Cnt=n/\(Ee n bs p q).1.Bonds=bs/\
 (Ee n bs p q).1.At=(Db n bs).At/\NF (Ee n bs p q).1 p q/\Dn (Ee n bs p q).1 p=(Ee n bs p q).2/\0<=(Ee n bs p q).2/\(Fj (Ee n bs p q).1 p q).2=false:=by
 obtain⟨h1,h2⟩:=Mr h hs;obtain⟨k1,k2,k3,k4,k5,k6,k7,k8,k9⟩:=Que z Z Q ((bs.map Ag.Strength).sum.toNat+1) (Db n bs) h1 h2 O aa (λw _ _=>Qtg w);rw[Qtg,Int.zero_add] at k7;refine⟨k1,k2,k3,k4,k5,k6,k7,k8,?_⟩;rcases k9 with h9|h9
 .exfalso;have h4:(G5 p q ((bs.map Ag.Strength).sum.toNat+1) (Db n bs)).1.Bonds=bs:=k4
  have:=TG k1 k2 p
  rw[h4] at this;omega
 .exact h9
def pL{n:Bb}(hn:D0 n){v:Nat}{r:List Int}(hr:n.At[v]? =some r){y:Int}(Z:0<=y): ∀(l:List Int) (s:List Int×List Int),(∀i∈l,i∈r)->WQ n s->s.1[v]? =some y-> ∀i∈l,0<(Ds n (D9 n v i) i).1-> ∃z,(l.foldl (B3 n v) s).1[(D9 n v i).toNat]? =some z/\0<=z
 |[],s,_,_,_,i,O,_=>by cases O
 |j::l,s,hl,hs,hv,i,O,Q=>by
  have hj:=hl j (BM ..);rcases Bh.1 O with rfl|O
  .obtain⟨_,_,o1,o2⟩:=fB hn hr hj;obtain⟨z,hz⟩: ∃z,s.1[(D9 n v i).toNat]? =some z:=⟨_,Bi (by rw[hs.len];omega)⟩;have aa: ∃z,(B3 n v s i).1[(D9 n v i).toNat]? =some z/\0<=z:=by
    by_cases h0:0<=z
    .exact⟨z,tE n v s i _ z hz h0,h0⟩
    .refine⟨y+1,?_,by omega⟩;simp only[B3];rw[Ai ⟨by rw[hz,AP];omega,Q⟩,B8,hv,AP];exact CY (by rw[hs.len];omega)
   obtain⟨z',g1,g2⟩:=aa;exact⟨z',Qor n v _ z' g2 l _ g1,g2⟩
  .exact pL hn hr Z l _ (λj hj=>hl j (BP _ hj)) (Qtm hn hr hj hs) (tE n v s j v y hv Z) i O Q
def Qzj(n:Bb)(v:Int): ∀(l:List Int) (s:List Int×List Int),∃e,(l.foldl (B3 n v) s).2=s.2++e
 |[],s=>⟨[],by simp⟩
 |i::l,s=>by
  obtain⟨e,z⟩:=Qzj n v l (B3 n v s i);simp only[Xj,z];simp only[B3];split
  .exact⟨[D9 n v i]++e,by simp⟩
  .exact⟨e,rfl⟩
def Xv(n:Bb)(q:Int)(k:Nat): ∃e,(C8 n q (k+1)).2=(C8 n q k).2++e:=by
 rw[C8];split
 .exact⟨[],by simp⟩
 .exact Qzj n _ _ _
def Oo(n:Bb)(q:Int)(u:Nat)(y:Int)(h0:0<=y)(k:Nat)(h:(C8 n q k).1[u]? =some y):(C8 n q (k+1)).1[u]? =some y:=by
 rw[C8];split
 .exact h
 .exact Qor n _ u y h0 _ _ h
def Qzn{n:Bb}(hn:D0 n){q:Int}(h0:0<=q)(h1:q<n.Cnt): ∀(k j:Nat) (v:Int),j<k->(C8 n q k).2[j]? =some v-> ∀(r:List Int),n.At[v.toNat]? =some r-> ∀i∈r,0<(Ds n (D9 n v i) i).1-> ∃z,(C8 n q k).1[(D9 n v i).toNat]? =some z/\0<=z
 |0,j,v,hj,_,_,_,_,_,_=>by omega
 |k+1,j,v,hj,O,r,Z,i,hi,Q=>by
  obtain⟨e,he⟩:=Xv n q k;by_cases ac:j<(C8 n q k).2.length
  .rw[he,Dj ac] at O;by_cases ab:j<k
   .obtain⟨z,g1,g2⟩:=Qzn hn h0 h1 k j v ab O r Z i hi Q;exact⟨z,Oo n q _ z g2 k g1,g2⟩
   .have:j=k:=by omega
    subst this;have hI:=WE hn h0 h1 j;have aa:=NH hn h0 h1 j;have af:=hI.q v (AZ O);obtain⟨m,rfl⟩: ∃m:Nat,v=m:=⟨v.toNat,by omega⟩;obtain⟨y,hy,ad⟩:=aa.qs _ (AZ O);rw[B8] at hy Z;rw[C8,O];simp only[B8,Z,AP];exact pL hn Z ad r _ (λ_ h=>h) hI hy i hi Q
  .have e1:C8 n q (k+1)=C8 n q k:=by rw[C8,E9 (by omega)]
   rw[e1] at O
   have:=(BW.1 O).1
   omega
def R3{n:Bb}(hn:D0 n){q:Int}(h0:0<=q)(h1:q<n.Cnt): ∀(k u:Nat) (y:Int),(C8 n q k).1[u]? =some y->0<=y->(u:Int)∈(C8 n q k).2
 |0,u,y,z,O=>by
  have hq:q.toNat<n.Cnt.toNat:=by omega
  simp only[C8] at z⊢;by_cases h:q.toNat=u
  .rw[Bz];omega
  .rw[Dw h] at z
   have:=Ob (AZ z)
   omega
 |k+1,u,y,z,O=>by
  have ih:=R3 hn h0 h1 k;have hI:=WE hn h0 h1 k;have Q: ∀(v:Int) (l:List Int) (s:List Int×List Int),(∀i∈l,0<=D9 n v i)->(∀(u:Nat) (y:Int),s.1[u]? =some y->0<=y->(u:Int)∈s.2)-> ∀(u:Nat) (y:Int),(l.foldl (B3 n v) s).1[u]? =some y->0<=y->(u:Int)∈(l.foldl (B3 n v) s).2:=by
   intro v l;induction l with
   |nil=>intro s _ Z;exact Z
   |cons i l aa=>
    intro s hl Z;refine aa _ (λj hj=>hl j (BP _ hj)) ?_;intro u y z O;have ho:=hl i (BM ..);simp only[B3] at z⊢;split at z
    .rename_i hc;rw[Ai hc];simp only[Bn,Bz] at z⊢;by_cases he:(D9 n v i).toNat=u
     .right;omega
     .rw[Dw he] at z;exact .inl (Z u y z O)
    .rename_i hc;rw[Af hc];exact Z u y z O
  rw[C8] at z⊢;split at z
  .exact ih u y z O
  .rename_i v hv;have ab:=hI.q v (AZ hv);obtain⟨m,rfl⟩: ∃m:Nat,v=m:=⟨v.toNat,by omega⟩;obtain⟨r,hr⟩: ∃r,n.At[m]? =some r:=⟨_,Bi (by have:=hn.al;omega)⟩;simp only[B8,hr,AP] at z⊢;exact Q m r _ (λi hi=>(fB hn hr hi).2.2.1) ih u y z O
def Qmo{n:Bb}(hn:D0 n){q:Int}(h0:0<=q)(O:q<n.Cnt){v:Nat}{y:Int}(hv:(Fi n q)[v]? =some y)(hy:0<=y){r:List Int}(hr:n.At[v]? =some r){i:Int}(hi:i∈r)(Q:0<(Ds n (D9 n v i) i).1):
 ∃z,(Fi n q)[(D9 n v i).toNat]? =some z/\0<=z:=by
 have hm:=R3 hn h0 O n.Cnt.toNat v y hv hy;obtain⟨j,Z⟩:=JK.1 hm;have aa:=(BW.1 Z).1;have ab:=Qkx hn.c0 (WE hn h0 O n.Cnt.toNat);exact Qzn hn h0 O n.Cnt.toNat j v (by omega) Z r (by rwa [B8]) i hi Q
def Yz(n:Bb)(S:Nat->Bool):Int:=(List.zipWith (λb f=>(if S b.A.toNat=true then f else 0) - (if S b.B.toNat=true then f else 0)) n.Bonds n.Flow).sum
def pP(S:Nat->Bool)(m:Nat): ∀(bs:List Ag) (z:List Int),(∀b∈bs,0<=b.A/\b.A<m/\0<=b.B/\b.B<m/\b.A≠b.B)->
 AG (λv=>if S v=true then (List.zipWith (JN (v:Int)) bs z).sum else 0) m=(List.zipWith (λb f=>(if S b.A.toNat=true then f else 0) - (if S b.B.toNat=true then f else 0)) bs z).sum
 |[],z,_=>by
  simp only[List.zipWith_nil_left,Zfh];refine (Fz λi _=> ?_).trans (QO m)
  split<;>rfl
 |b::bs,[],_=>by
  simp only[Zea,Zfh];refine (Fz λi _=> ?_).trans (QO m)
  split<;>rfl
 |b::bs,f::z,h=>by
  have ih:=pP S m bs z (λx Q=>h x (BP _ Q));obtain⟨b1,b2,b3,b4,b5⟩:=h b (BM ..);simp only[gM,Lz];rw[<-ih];have e:AG (λv=>if S v=true then JN (v:Int) b f+(List.zipWith (JN (v:Int)) bs z).sum else 0) m=
   (AG (λv=>if v=b.A.toNat then (if S b.A.toNat=true then f else 0) else 0) m+ - AG (λv=>if v=b.B.toNat then (if S b.B.toNat=true then f else 0) else 0) m)+AG (λv=>if S v=true then (List.zipWith (JN (v:Int)) bs z).sum else 0) m:=by
   rw[<-tU,<-QR,<-QR];refine Fz λv _=> ?_
   simp only[JN];by_cases c1:v=b.A.toNat
   .have O: ¬v=b.B.toNat:=by omega
    rw[Ai (show b.A=(v:Int) by omega),Ai c1,Af O,<-c1];cases S v<;>simp
   .rw[Af (show ¬b.A=(v:Int) by omega),Af c1];by_cases O:v=b.B.toNat
    .rw[Ai (show b.B=(v:Int) by omega),Ai O,<-O];cases S v<;>simp
    .rw[Af (show ¬b.B=(v:Int) by omega),Af O];cases S v<;>simp
  rw[e,WB,WB,Ai (show b.A.toNat<m by omega),Ai (show b.B.toNat<m by omega)];omega
def Mz{n:Bb}(hn:D0 n){p q:Int}(aa:0<=p)(ab:p<n.Cnt)(O:NF n p q){S:Nat->Bool}(hS:S p.toNat=true)(hT:S q.toNat=false)(ac:0<=q):Yz n S=Dn n p:=by
 have Z:=pP S n.Cnt.toNat n.Bonds n.Flow (λb Q=>by
  have:=hn.bs b Q
  have:=hn.ne b Q
  omega)
 rw[Yz,<-Z];have h2:AG (λv=>if S v=true then (List.zipWith (JN (v:Int)) n.Bonds n.Flow).sum else 0) n.Cnt.toNat=AG (λv=>if v=p.toNat then Dn n p else 0) n.Cnt.toNat:=by
  refine Fz λv hv=> ?_
  by_cases z:v=p.toNat
  .subst z;rw[Ai rfl,Ai hS,show ((p.toNat:Nat):Int)=p by omega];rfl
  .rw[Af z];cases hSv:S v with
   |false=>rw[Af (by simp)]
   |true=>
    rw[Ai rfl];have ad:v≠q.toNat:=λhe=>by rw[he,hT] at hSv;cases hSv
    exact O v (by omega) (by omega)
 rw[h2,WB,Ai (by omega)]
def Qw5(S:Nat->Bool): ∀(bs:List Ag) (Q:List Int),(∀(i:Nat) b f,bs[i]? =some b->Q[i]? =some f-> -b.Strength<=f/\f<=b.Strength)->(∀b∈bs,0<=b.Strength)->(List.zipWith (λb f=>(if S b.A.toNat=true then f else 0) - (if S b.B.toNat=true then f else 0)) bs Q).sum<=CG S bs
 |[],_,_,_=>by simp[CG]
 |x::r,[],_,z=>by
  have Z:=Qw5 S r [] (λi b f _ h=>by simp at h) (λb O=>z b (BP _ O));have h2:=z x (BM ..);simp only[Zea,Zfh,CG] at Z⊢
  split<;>omega
 |x::r,y::s,hc,z=>by
  have Z:=Qw5 S r s (λi b f h h'=>hc (i+1) b f (by simpa using h) (by simpa using h')) (λb O=>z b (BP _ O));have h3:=hc 0 x y rfl rfl;simp only[gM,Lz,CG];cases S x.A.toNat<;>cases S x.B.toNat<;>simp<;>omega
def My(S:Nat->Bool): ∀(bs:List Ag) (z:List Int),z.length=bs.length->(∀(i:Nat) b f,bs[i]? =some b->z[i]? =some f->(S b.A.toNat=true->S b.B.toNat=false->f=b.Strength)/\(S b.A.toNat=false->S b.B.toNat=true->f= -b.Strength))->(List.zipWith (λb f=>(if S b.A.toNat=true then f else 0) - (if S b.B.toNat=true then f else 0)) bs z).sum=CG S bs
 |[],_,_,_=>by simp[CG]
 |x::r,[],h,_=>by simp at h
 |x::r,y::s,h,O=>by
  have Q:=My S r s (by simpa using h) (λi b f h h'=>O (i+1) b f (by simpa using h) (by simpa using h'));obtain⟨Z,h3⟩:=O 0 x y rfl rfl;simp only[gM,Lz,CG,Q];cases hA:S x.A.toNat<;>cases hB:S x.B.toNat<;>simp
  .have:=h3 hA hB;omega
  .exact Z hA hB
def Sm{n:Int}{bs:List Ag}(h:ZM (n,bs))(hs:Qj bs){p q:Int}(aa:0<=p)(O:0<=q)(af:p<n)(ah:q<n)(ag:p≠q):
 0<=(Ee n bs p q).2/\(∀S:Nat->Bool,S p.toNat=true->S q.toNat=false->(Ee n bs p q).2<=CG S bs)/\ ∃S:Nat->Bool,S p.toNat=true/\S q.toNat=false/\CG S bs=(Ee n bs p q).2:=by
 obtain⟨k1,k2,k3,k4,k5,k6,k7,k8,k9⟩:=Qu0 h hs aa O af ah ag;obtain⟨N,hN⟩: ∃N,N=(Ee n bs p q).1:=⟨_,rfl⟩;obtain⟨val,hval⟩: ∃val,val=(Ee n bs p q).2:=⟨_,rfl⟩;simp only[<-hN,<-hval] at k1 k2 k3 k4 k5 k6 k7 k8 k9⊢;refine⟨k8,λS hS hT=> ?_,?_⟩
 .have h1:=Mz k1 aa (by omega) k6 hS hT O;have h2:=Qw5 S N.Bonds N.Flow k2 (λb Q=>(k1.st b Q).1);rw[k4] at h2;simp only[Yz,k4] at h1;omega
 .have aj:=sZ k1 O (by omega);obtain⟨x,hx⟩: ∃x,(Fi N q)[p.toNat]? =some x:=⟨_,Bi (by omega)⟩;have ac:x<0:=by
   simp only[Fj,hx,AP] at k9;by_cases h0:x<0
   .exact h0
   .rw[Af h0] at k9;simp at k9
  have Z:=(NH k1 O (show q<N.Cnt by omega) N.Cnt.toNat).zero;have Z:(Fi N q)[q.toNat]? =some 0:=Z;refine⟨λv=>decide ((Fi N q)[v]?.getD 0<0),by simp only[hx,AP,Bq];exact ac,by simp[Z],?_⟩;have hS:decide ((Fi N q)[p.toNat]?.getD 0<0)=true:=by simp only[hx,AP,Bq];exact ac
  have hT:decide ((Fi N q)[q.toNat]?.getD 0<0)=false:=by simp[Z]
  have h1:=Mz (S:=λv=>decide ((Fi N q)[v]?.getD 0<0)) k1 aa (by omega) k6 hS hT O;have h2:=My (λv=>decide ((Fi N q)[v]?.getD 0<0)) N.Bonds N.Flow k1.fl ?_
  .simp only[Yz,k4] at h1;rw[k4] at h2;omega
  .intro i b f Q hf;have ak:=k1.bs b (AZ Q);have ad:=k1.ne b (AZ Q);obtain⟨⟨rA,a1,a2⟩,⟨rB,c1,c2⟩⟩:=k1.all i b Q;have ai:=k2 i b f Q hf;obtain⟨yA,hA⟩: ∃y,(Fi N q)[b.A.toNat]? =some y:=⟨_,Bi (by omega)⟩;obtain⟨yB,hB⟩: ∃y,(Fi N q)[b.B.toNat]? =some y:=⟨_,Bi (by omega)⟩;simp only[hA,hB,AP,Bq,Iu];refine⟨λe1 e2=> ?_,λe1 e2=> ?_⟩
   ·
    have ho:D9 N b.B i=b.A:=by simp only[D9,B8,Q];omega
    have hr:(Ds N b.A i).1=b.Strength - f:=by simp only[Ds,B8,Q,hf,AP,BI]
    by_cases ab:0<b.Strength - f
    .have:=Qmo k1 O (by omega) (v:=b.B.toNat) hB (by omega) c1 c2 (by rw[show ((b.B.toNat:Nat):Int)=b.B by omega,ho,hr];exact ab)
     rw[show ((b.B.toNat:Nat):Int)=b.B by omega,ho,hA] at this;obtain⟨z,g1,g2⟩:=this
     have:=Ay g1
     omega
    .omega
   .have ho:D9 N b.A i=b.B:=by simp only[D9,B8,Q];omega
    have hr:(Ds N b.B i).1=b.Strength+f:=by simp only[Ds,B8,Q,hf,AP];rw[Af ad]
    by_cases ab:0<b.Strength+f
    .have:=Qmo k1 O (by omega) (v:=b.A.toNat) hA (by omega) a1 a2 (by rw[show ((b.A.toNat:Nat):Int)=b.A by omega,ho,hr];exact ab)
     rw[show ((b.A.toNat:Nat):Int)=b.A by omega,ho,hB] at this;obtain⟨z,g1,g2⟩:=this
     have:=Ay g1
     omega
    .omega
def F7(n:Int)(bs:List Ag):Nat->Int×List Int
 |0=>(-1,[])
 |k+1=>if (F7 n bs k).1<0\/Gk (Ee n bs 0 (k+1)).2 (fX (Ee n bs 0 (k+1)).1 (k+1)) (F7 n bs k).1 (F7 n bs k).2=true then ((Ee n bs 0 (k+1)).2,fX (Ee n bs 0 (k+1)).1 (k+1)) else F7 n bs k
def weakC.fv(a:Int×(List Ag)):Int×(List Int):=(λn bs=>F7 n bs (n - 1).toNat) (a.1) (a.2)
def weakC.row:A7:=vK (b2 qI (qS Ag.d_le Ag.c_n)) (r2 rI (rS Fh EN)) (λa=>ZM (a.1,a.2)/\Qj a.2/\1<=a.1) weakC.fv
def weakC.q:=AY (R:=weakC.row) rfl
def weakC.ok:AC 163 weakC.row:=by
 refine vw (tC l07Before.ok (tC flC.ok (tC sideC.ok tN))) Tryz.func163 ?_;intro a Z;simp only[Tryz.f163];simp only[ZA,simprocAttr,weakC.fv];obtain⟨Q,aa,ad⟩:=Z;have ab:=Q.2.1;simp only at ab;obtain⟨n,hn⟩: ∃n:Nat,a.1=n+1:=⟨(a.1 - 1).toNat,by omega⟩;rw[show (a.1 - 1).toNat=n by omega];refine AT.frr ⟨{k:Nat//k<=n},λk=>⟨[(8,.im (.int .i64 ((k.1:Int)+1))),(7,.im (.sl false 1 ((F7 a.1 a.2 k.1).2.map Al))),(6,.im (.int .i64 (F7 a.1 a.2 k.1).1)),(0,.im (.int .i64 a.1)),(1,.im (.sl false 3 (a.2.map Ag.c)))],[],2⟩,λk=>n - k.1,λk=>⟨by simp[ZG],by simp⟩,⟨⟨0,by simp⟩,[1],[],?_⟩,λk=> ?_⟩
 .simp only[Aq];simp only[ZA,simprocAttr,F7]
  try simp
 obtain⟨k,ac⟩:=k;simp only[ZA,simprocAttr,AO];refine⟨λhk=> ?_,λhk=> ?_⟩
 .refine AB.os (a.1,a.2,0,(k:Int)+1) [] ⟨Q,aa,by simp,by simp only;omega,by simp only;omega,by simp only;omega,by simp only;omega⟩ (λj=>by simp[Ak,hget]) rfl rfl ?_ ?_
  .simp only[ZA,simprocAttr,flC.ca]
  .simp only[ZZ,simprocAttr,C3,l07Before.q,l07Before.fv,sideC.q,sideC.fv,flC.H1,flC.r0,AO];obtain⟨k1,k2,k3,k4,k5,_⟩:=Qu0 (p:=0) (q:=(k:Int)+1) Q aa (by omega) (by omega) (by omega) (by omega) (by omega);have O:({Cnt:=a.1,Bonds:=a.2,At:=(Db a.1 a.2).At,Flow:=(flC.net (a.1,a.2,0,(k:Int)+1)).Flow}:Bb)=(Ee a.1 a.2 0 ((k:Int)+1)).1:=by
    rw[<-k5];simp only[flC.net]
    conv=>rhs;rw[show (Ee a.1 a.2 0 ((k:Int)+1)).1=⟨(Ee a.1 a.2 0 ((k:Int)+1)).1.Cnt,(Ee a.1 a.2 0 ((k:Int)+1)).1.Bonds,(Ee a.1 a.2 0 ((k:Int)+1)).1.At,(Ee a.1 a.2 0 ((k:Int)+1)).1.Flow⟩ from rfl]
    rw[k3,k4]
   rw[O];have hw:IntKind.i64.wrap ((k:Int)+1+1)=(k:Int)+1+1:=AD (by omega) (by omega);have z:F7 a.1 a.2 (k+1)=if (F7 a.1 a.2 k).1<0\/Gk (Ee a.1 a.2 0 ((k:Int)+1)).2 (fX (Ee a.1 a.2 0 ((k:Int)+1)).1 ((k:Int)+1)) (F7 a.1 a.2 k).1 (F7 a.1 a.2 k).2=true then ((Ee a.1 a.2 0 ((k:Int)+1)).2,fX (Ee a.1 a.2 0 ((k:Int)+1)).1 ((k:Int)+1)) else F7 a.1 a.2 k:=rfl
   refine⟨⟨k1,by omega,by omega⟩,λh0=>⟨λh1=>⟨⟨k+1,by omega⟩,[],[],by simp only;omega,?_⟩,λh1=>⟨⟨k+1,by omega⟩,[],[],by simp only;omega,?_⟩⟩,λh0=>⟨⟨k+1,by omega⟩,[],[],by simp only;omega,?_⟩⟩
   .rw[Ai (.inr h1)] at z;simp only[Aq];simp only[ZA,simprocAttr,z,hw];omega
   .rw[Af (λh=>h.elim h0 h1)] at z;simp only[Aq];simp only[ZA,simprocAttr,z,hw];omega
   .rw[Ai (.inl (Ha.1 h0))] at z;simp only[Aq];simp only[ZA,simprocAttr,z,hw];omega
 .have:k=n:=by omega
  rw[this]
def Qzk{n:Int}{bs:List Ag}(h:ZM (n,bs))(hs:Qj bs){t:Int}(ht:0<=t): ∀k:Nat,(k:Int)<n->(0<k->0<=(F7 n bs k).1/\(t<=(F7 n bs k).1↔WP n.toNat bs t k))
 |0,_=>λh0=>by omega
 |k+1,hk=>λ_=>by
  obtain⟨f1,f2,S,f3,f4,f5⟩:=Sm h hs (p:=0) (q:=(k:Int)+1) (by omega) (by omega) (by omega) (by omega) (by omega);simp only[Int.toNat_zero,show ((k:Int)+1).toNat=k+1 by omega] at f2 f3 f4;obtain⟨v,hv⟩: ∃v,v=(Ee n bs 0 ((k:Int)+1)).2:=⟨_,rfl⟩;obtain⟨sd,hsd⟩: ∃sd,sd=fX (Ee n bs 0 ((k:Int)+1)).1 ((k:Int)+1):=⟨_,rfl⟩;have ab:t<=v↔ ∀S:Nat->Bool,S 0=true->S (k+1)=false->t<=CG S bs:=by
   constructor
   .intro z S Q hT
    have:=f2 S Q hT
    omega
   .intro z
    have:=z S f3 f4
    omega
  have aa:WP n.toNat bs t (k+1)↔WP n.toNat bs t k/\t<=v:=by
   rw[ab];constructor
   .intro z;exact⟨λS Q ⟨y,y1,y2,y3,y4⟩=>z S Q ⟨y,y1,by omega,y3,y4⟩,λS Q hT=>z S Q ⟨k+1,by omega,by omega,by omega,hT⟩⟩
   .rintro⟨z,h2⟩ S Q ⟨y,y1,y2,y3,y4⟩;by_cases hy:y<=k
    .exact z S Q ⟨y,y1,hy,y3,y4⟩
    .exact h2 S Q (by rw[show k+1=y by omega];exact y4)
  rw[aa];simp only[F7,<-hv,<-hsd];by_cases ac:k=0
  .subst ac;rw[Ai (.inl (by simp[F7]))];refine⟨by simp only;omega,?_⟩;simp only;constructor
   .intro z;exact⟨λS _ ⟨y,y1,y2,_,_⟩=>by omega,z⟩
   .exact λz=>z.2
  .obtain⟨i1,i2⟩:=Qzk h hs ht k (by omega) (by omega);rw[<-i2];by_cases O:(F7 n bs k).1<0\/Gk v sd (F7 n bs k).1 (F7 n bs k).2=true
   .rw[Ai O];have ad:v<=(F7 n bs k).1:=by
     rcases O with O|O
     .omega
     .simp only[Gk] at O;split at O
      .omega
      .simp only[Bq] at O;omega
    simp only;exact⟨by omega,by omega,by omega⟩
   .rw[Af O];have ad:(F7 n bs k).1<=v:=by
     have Z: ¬Gk v sd (F7 n bs k).1 (F7 n bs k).2=true:=λh=>O (.inr h)
     simp only[Gk] at Z;split at Z
     .omega
     .simp only[Bq] at Z;omega
    exact⟨i1,by omega,by omega⟩
end Go.Ae
