/- Lemmas. Conditions: none. -/
import Derived.Test.YtpnmcdpbphpklaaGreatDoorP08
import Derived.Lib.LaidTab
import Derived.Stop.LaidErr
import Derived.Stop.Joined
import Derived.Lay
import Derived.LaidMore
import Derived.LaidOnce
import Derived.OpenVars
import Derived.ChangeVars
import Derived.ChangeSame
set_option linter.all false
set_option maxHeartbeats 8000000
set_option maxRecDepth 100000
namespace Go.Ae
open Go Go.Proofs Go.RowKit Go.ChangeShapes Go.WideShapes
abbrev Ip:List (String×DataW Unit):=Go.Proofs.YtpnmcdpbphpklaaGreatDoor.Rows.fnExactRealizeRow.laid
def gP:Tryz.prog.globalNamed "internal/strconv.uint64pow10" =some 0:=by kernel_rfl
def gPt:(Tryz.prog.globals[0]?).map (·.type)=some 367:=by kernel_rfl
def US{W:World}{n:String}{g:Nat}{cs:Array Value}(G:Tryz.prog.globalNamed n=some g)(h:W.var? Tryz.prog n=some cs): ∃T z,W.heap[g]? =some (.cells cs T z):=by
 unfold World.var? at h;rw[G] at h;simp only[H3] at h;split at h
 .rename_i c T z e;obtain rfl:=Aw h;exact⟨T,z,e⟩
 .cases h
def XO{W:World}{b:Nat}{o:Obj}(h:W.heap[b]? =some o):b<W.heap.size:=(NN.1 h).1
def XW{W:World}(h:laidMetH Tryz.prog Ip W):GP (λb=>b<W.heap.size) (λb=>W.heap[b]?):=by
 rw[MakeChecks.laidMetH_plain _ _ _ (by kernel_rfl)] at h;have G:Lib.TabIs Tryz.prog W "internal/strconv.uint64pow10" .u64 Lib.pow10Tab:=Lib.tabIs_of_head gP gPt Tryz.underlying367 Tryz.underlying304 (by kernel_rfl) (by kernel_rfl) h.tail.tail;obtain⟨T,z,e⟩:=US gP G;exact⟨XO e,T,z,e⟩
def RP(os:Os)(args:Array Value):laidMetH Tryz.prog Ip ((World.laidAll Tryz.prog os Ip).forCall (λ_ _=>0) ⟨#[],args,[]⟩).memory:=by
 rw[MakeChecks.laidMetH_plain _ _ _ (by kernel_rfl)];exact laidMet_laidAll _ (by kernel_rfl) (by kernel_rfl)
end Go.Ae
namespace Go.Ae
open Go.Proofs
def eB(p:Ac)(k:Int):Ac×Ac:=(⟨p.X/k,p.Y/k⟩,⟨p.X % k,p.Y % k⟩)
def l02Index.fv(a:A8×Int):Bool:=(λs t=>Bf t 0 (s.Tiles.length - 1)) (a.1) (a.2)
def l02Index.row:Ax:=vK (b2 (qP 2 A8.d_le) qI) rB (λa=>True) l02Index.fv
def l02Index.q:=AX (R:=l02Index.row) rfl
def l02Index.ok:AA 152 l02Index.row:=by
 refine vw (tC l00In.ok tN) Tryz.func152 ?_;intro a z;simp only[Tryz.f152];simp only[ZA,simprocAttr,l02Index.fv,l00In.q,l00In.fv];intro h;rw[AB (by omega) (by omega)]
def isTile.fv(a:A8×Int):Bool:=(λs t=>Bf t 0 (s.Tiles.length - 1)) (a.1) (a.2)
def isTile.row:Ax:=vK (b2 (qR A8.d_le) qI) rB (λa=>True) isTile.fv
def isTile.q:=AX (R:=isTile.row) rfl
def isTile.ok:AA 61 isTile.row:=by
 refine vw (tC isIndex.ok tN) Tryz.func61 ?_;intro a z;simp only[Tryz.f61];simp only[ZA,simprocAttr,isTile.fv,isIndex.q,isIndex.fv];intro h;simp only[I64];omega
def opposite_.fv(a:Int):Int:=(λd=>(d+2) % 4) a
def opposite_.row:Ax:=vK (b1 qI) rI (λa=>0<=a/\a<=3) opposite_.fv
def opposite_.q:=AX (R:=opposite_.row) rfl
def opposite_.ok:AA 207 opposite_.row:=by
 refine vw tN Tryz.func207 ?_;intro a z;simp only[Tryz.f207];simp only[ZA,simprocAttr,opposite_.fv];rw[AB (by omega) (by omega)]
 have:(0:Int)<=a+2:=by omega
 rw[ZeK this]
def l01Dir.fv(a:Int):Bool:=(λd=>Bf d 0 3) a
def l01Dir.row:Ax:=vK (b1 qI) rB (λa=>True) l01Dir.fv
def l01Dir.q:=AX (R:=l01Dir.row) rfl
def l01Dir.ok:AA 225 l01Dir.row:=by
 refine vw (tC l00In.ok tN) Tryz.func225 ?_;intro a z;simp only[Tryz.f225];simp only[ZA,simprocAttr,l01Dir.fv,l00In.q,l00In.fv]
def Opposite_.fv(a:Int):Int:=(λd=>(d+2) % 4) a
def Opposite_.row:Ax:=vK (b1 qI) rI (λa=>0<=a/\a<=3) Opposite_.fv
def Opposite_.q:=AX (R:=Opposite_.row) rfl
def Opposite_.ok:AA 186 Opposite_.row:=by
 refine vw (tC l01Dir.ok tN) Tryz.func186 ?_;intro a z;simp only[Tryz.f186];simp only[ZA,simprocAttr,Opposite_.fv,l01Dir.q,l01Dir.fv];have h:Bf a 0 3=true:=by simp[Bf,z]
 rw[h,Ad (by simp),AB (by omega) (by omega)]
 have:(0:Int)<=a+2:=by omega
 rw[ZeK this]
def l07Temperature.fv(a:Int):Bool:=(λt=>Bf t 1 16) a
def l07Temperature.row:Ax:=vK (b1 qI) rB (λa=>True) l07Temperature.fv
def l07Temperature.q:=AX (R:=l07Temperature.row) rfl
def l07Temperature.ok:AA 130 l07Temperature.row:=by
 refine vw (tC l00In.ok tN) Tryz.func130 ?_;intro a z;simp only[Tryz.f130];simp only[ZA,simprocAttr,l07Temperature.fv,l00In.q,l00In.fv]
def isTemperature.fv(a:Int):Bool:=(λt=>Bf t 1 16) a
def isTemperature.row:Ax:=vK (b1 qI) rB (λa=>True) isTemperature.fv
def isTemperature.q:=AX (R:=isTemperature.row) rfl
def isTemperature.ok:AA 189 isTemperature.row:=by
 refine vw (tC within_.ok tN) Tryz.func189 ?_;intro a z;simp only[Tryz.f189];simp only[ZA,simprocAttr,isTemperature.fv,within_.q,within_.fv]
def BG(s:A8):Prop:=s.Glues.length<=140737488355328/\(∀t∈s.Tiles,t.Sides.length=4/\ ∀g∈t.Sides,0<=g/\g<=s.Glues.length)/\ ∀g∈s.Glues,1<=g.Strength/\g.Strength<=4
def JK(s:A8)(z G:Int):Int:=((((s.Tiles[z.toNat]?).map Tile.Sides).getD [])[G.toNat]?).getD 0
def PP(s:A8)(g:Int):Int:=if 0<g then ((s.Glues[(g - 1).toNat]?).map Av.Strength).getD 0 else 0
def JD(s:A8)(a z b:Int):Int:=if JK s a z=JK s b ((z+2) % 4) then PP s (JK s a z) else 0
def FN(s:A8)(t:Int):Prop:=0<=t/\t<s.Tiles.length
def RO(d:Int):Prop:=0<=d/\d<=3
def eP{s:A8}{t d:Int}{x:Tile}{g:Int}(G:s.Tiles[t.toNat]? =some x)(z:x.Sides[d.toNat]? =some g):JK s t d=g:=by
 simp[JK,G,z]
def LA{s:A8}{g:Int}{x:Av}(h:0<g)(z:s.Glues[(g - 1).toNat]? =some x):PP s g=x.Strength:=by
 simp only[PP,Ai h,z];rfl
def LB{s:A8}{g:Int}(h: ¬0<g):PP s g=0:=by
 simp[PP,h]
def rP{s:A8}(h:BG s){t:Int}{x:Tile}(z:s.Tiles[t.toNat]? =some x):x.Sides.length=4:=(h.2.1 x (AP z)).1
def Qvv{s:A8}(h:BG s){t d:Int}{x:Tile}{g:Int}(G:s.Tiles[t.toNat]? =some x)(z:x.Sides[d.toNat]? =some g):0<=g/\g<=s.Glues.length:=(h.2.1 x (AP G)).2 g (AP z)
def l02Strength.fv(a:A8×Int):Int:=(PP) (a.1) (a.2)
def l02Strength.row:Ax:=vK (b2 (qP 2 A8.d_le) qI) rI (λa=>0<=a.2/\a.2<=a.1.Glues.length/\a.1.Glues.length<=140737488355328) l02Strength.fv
def l02Strength.q:=AX (R:=l02Strength.row) rfl
def l02Strength.ok:AA 187 l02Strength.row:=by
 refine vw tN Tryz.func187 ?_;intro a z;simp only[Tryz.f187];simp only[ZA,simprocAttr,l02Strength.fv];obtain⟨O,Q,Z⟩:=z
 split<;>rename_i h
 .simp[PP,h]
 .rw[AB (by omega) (by omega)];exact⟨by omega,by omega,λx G=>(LA (by omega) G).symm⟩
def strength_.fv(a:A8×Int×Int):Int:=(λs t d=>PP s (JK s t d)) (a.1) (a.2.1) (a.2.2)
def strength_.row:Ax:=vK (b3 (qR A8.d_le) qI qI) rI (λa=>BG a.1/\FN a.1 a.2.1/\RO a.2.2) strength_.fv
def strength_.q:=AX (R:=strength_.row) rfl
def strength_.ok:AA 208 strength_.row:=by
 refine vw tN Tryz.func208 ?_;intro a z;simp only[Tryz.f208];simp only[ZA,simprocAttr,strength_.fv];obtain⟨G,Q,Z⟩:=z;refine⟨Q.1,Q.2,λx O=>⟨Z.1,?_,λg hg=> ?_⟩⟩
 .rw[rP G O];have:=Z.2;omega
 .have aa:=Qvv G O hg
  have:=G.1
  rw[eP O hg]
  split<;>rename_i h
  .rw[AB (by omega) (by omega)];exact⟨by omega,by omega,λy hy=>(LA h hy).symm⟩
  .exact (LB h).symm
def bond_.rc:D->Option (Int):=DJ
def bond_.re:Int->D:=D.int .i64
def bond_.rle: ∀d b,bond_.rc d=some b->Le d (bond_.re b):=Nf
def bond_.fv(a:A8×Int×Int×Int):Int:=(JD) (a.1) (a.2.1) (a.2.2.1) (a.2.2.2)
def bond_.row:Ax:=vK (b4 (qR A8.d_le) qI qI qI) (RK.mk bond_.rc bond_.re bond_.rle) (λa=>BG a.1/\FN a.1 a.2.1/\RO a.2.2.1/\FN a.1 a.2.2.2) bond_.fv
def bond_.q:=AX (R:=bond_.row) rfl
def bond_.ok:AA 164 bond_.row:=by
 refine vw (tC opposite_.ok (tC strength_.ok tN)) Tryz.func164 ?_;intro a G;simp only[Tryz.f164];simp only[ZA,simprocAttr,bond_.fv,bond_.rc,opposite_.q,opposite_.fv,strength_.q,strength_.fv];obtain⟨O,Q,z,h4⟩:=G;have h5:=z.1;have h6:=z.2;refine⟨Q.1,Q.2,λx hx=>⟨z.1,by rw[rP O hx];omega,λg hg=>⟨h4.1,h4.2,λy hy=>⟨z,by omega,by rw[rP O hy];omega,λg' Z=> ?_⟩⟩⟩⟩;simp only[JD,eP hx hg,eP hy Z];split
 .exact⟨⟨O,Q,z⟩,rfl⟩
 .rfl
def l02Bond.fv(a:A8×Int×Int×Int):Int:=(JD) (a.1) (a.2.1) (a.2.2.1) (a.2.2.2)
def l02Bond.row:Ax:=vK (b4 (qP 2 A8.d_le) qI qI qI) rI (λa=>BG a.1/\FN a.1 a.2.1/\RO a.2.2.1/\FN a.1 a.2.2.2) l02Bond.fv
def l02Bond.q:=AX (R:=l02Bond.row) rfl
def l02Bond.ok:AA 188 l02Bond.row:=by
 refine vw (tC Opposite_.ok (tC l02Strength.ok tN)) Tryz.func188 ?_;intro a O;simp only[Tryz.f188];simp only[ZA,simprocAttr,l02Bond.fv,Opposite_.q,Opposite_.fv,l02Strength.q,l02Strength.fv];obtain⟨z,h2,Q,h4⟩:=O;have h5:=Q.1;have h6:=Q.2;refine⟨h2.1,h2.2,λx hx=>⟨Q.1,by rw[rP z hx];omega,λg hg=>⟨h4.1,h4.2,λy hy=>⟨Q,by omega,by rw[rP z hy];omega,λg' Z=> ?_⟩⟩⟩⟩;have G:=Qvv z hx hg
 have:=z.1
 simp only[JD,eP hx hg,eP hy Z]
 split<;>rename_i h
 .first|rw[Ad h]|rfl
 .rw[Ai (G8.1 h)];exact⟨⟨G.1,G.2,z.1⟩,rfl⟩
def Ck:Option Ac->List Aj->Bool
 |_,[]=>true
 |q,x::r=>Dl x.At && (Bf x.Tile 0 159 && ((match q with|none=>true|some p=>Bj p x.At) && Ck (some x.At) r))
def N8(q:Option Ac)(x:Aj)(r:List Aj):Ck q (x::r)=(Dl x.At && (Bf x.Tile 0 159 && ((match q with|none=>true|some p=>Bj p x.At) && Ck (some x.At) r))):=by cases q<;>rfl
def rO(q:Option Ac):Ck q []=true:=by cases q<;>rfl
def Gz(l:List Aj)(k:Nat):Option Ac:=if k=0 then none else (l[k - 1]?).map (·.At)
def Qn2{l:List Aj}{k:Nat}{x:Aj}(z:l[k]? =some x):Gz l (k+1)=some x.At:=by
 simp[Gz,z]
def E5{A:Type}{l:List A}{k:Nat}{x:A}(z:l[k]? =some x):l.drop k=x::l.drop (k+1):=by
 have G:k<l.length:=(BJ.1 z).1;rw[WY G];rw[Bd G] at z;rw[Aw z]
def hasForm_.fv(a:Ab):Bool:=(λa=>Ck none a.Tiles && decide (a.Tiles.length<=500)) a
def hasForm_.row:Ax:=vK (b1 (qR Ab.d_le)) rB (λa=>True) hasForm_.fv
def hasForm_.q:=AX (R:=hasForm_.row) rfl
def hasForm_.ok:AA 43 hasForm_.row:=by
 refine vw (tC ValidPoint.ok (tC isIndex.ok (tC impl_LessPoint.ok tN))) Tryz.func43 ?_;intro a ab;simp only[Tryz.f43];simp only[ZA,simprocAttr,hasForm_.fv];intro aa;refine AR.old ⟨{k:Nat//k<=a.Tiles.length/\Ck (Gz a.Tiles k) (a.Tiles.drop k)=Ck none a.Tiles},λk=>⟨[(8,.im (.int .i64 k.1)),(7,.im (.int .i64 a.Tiles.length)),(6,.im (.sl false 3 (a.Tiles.map Aj.c))),(1,.ptr 0 0),(2,.im (.bool false))],[(0,(true,.cells 41 [.im (.sl false 3 (a.Tiles.map Aj.c))]))],1⟩,λk=>a.Tiles.length - k.1,λk=>⟨by simp[ZG],AF _⟩,⟨⟨0,by simp[Gz]⟩,by simp only[ZA,simprocAttr,sub]⟩,λk=> ?_⟩;obtain⟨k,ac,G⟩:=k;simp only[ZA,simprocAttr,ValidPoint.q,ValidPoint.fv,isIndex.q,isIndex.fv,impl_LessPoint.q,impl_LessPoint.fv,sub,AM];refine⟨λhk=>⟨hk,λx hx=> ?_⟩,λhk=> ?_⟩
 .rw[E5 hx,N8] at G;have O:(Dl x.At && (Bf x.Tile 0 159 && (match Gz a.Tiles k with|none=>true|some p=>Bj p x.At)))=false->false=(Ck none a.Tiles && decide (a.Tiles.length<=500)):=by
   intro h;rw[<-G];revert h;cases Dl x.At<;>cases Bf x.Tile 0 159<;>cases (match Gz a.Tiles k with|none=>true|some p=>Bj p x.At)<;>simp
  have z:(Dl x.At && (Bf x.Tile 0 159 && (match Gz a.Tiles k with|none=>true|some p=>Bj p x.At)))=true->Ck (Gz a.Tiles (k+1)) (a.Tiles.drop (k+1))=Ck none a.Tiles:=by
   intro h;rw[<-G,Qn2 hx];simp only[AO] at h;simp[h.1,h.2.1,h.2.2]
  refine⟨λQ=>⟨by simp[I64],⟨λZ=>⟨λh3=> ?_,λh3=> ?_⟩,λZ=>O (by simp[Z])⟩⟩,λQ=>O (by simp[Q])⟩
  .rw[AB (x:=(k:Int) - 1) (by omega) (by omega)];refine⟨by omega,by omega,λy hy=> ?_⟩;have hp:Gz a.Tiles k=some y.At:=by
    have e:((k:Int) - 1).toNat=k - 1:=by omega
    rw[e] at hy;simp[Gz,hy,show k≠0 by omega]
   rw[hp] at O z;exact⟨λh4=>O (by simp[h4]),λh4=>GH hk (by omega) ⟨by omega,z (by simp[Q,Z];simpa using h4)⟩⟩
  .have hp:Gz a.Tiles k=none:=by simp[Gz,show k=0 by omega]
   rw[hp] at z;exact GH hk (by omega) ⟨by omega,z (by simp[Q,Z])⟩
 .rw[CO (by omega),rO] at G;simp only[<-G,F2]
  grind
def l03Form.fv(a:Ab):Bool:=(λa=>Ck none a.Tiles && decide (a.Tiles.length<=500)) a
def l03Form.row:Ax:=vK (b1 (qP 1 Ab.d_le)) rB (λa=>True) l03Form.fv
def l03Form.q:=AX (R:=l03Form.row) rfl
def l03Form.ok:AA 36 l03Form.row:=by
 refine vw (tC l01Point.ok (tC l00In.ok (tC l_LessPoint.ok tN))) Tryz.func36 ?_;intro a ab;simp only[Tryz.f36];simp only[ZA,simprocAttr,l03Form.fv];intro aa;simp only[AM];refine⟨λh=> ?_,λh=> ?_⟩
 .have: ¬a.Tiles.length<=500:=by omega
  simp[this]
 refine AR.old ⟨{k:Nat//k<=a.Tiles.length/\Ck (Gz a.Tiles k) (a.Tiles.drop k)=Ck none a.Tiles},λk=>⟨[(3,.im (.int .i64 k.1)),(0,.ptr 0 0),(2,.im (.bool false))],[(0,(false,.view [.sl false 3 (a.Tiles.map Aj.c)]))],1⟩,λk=>a.Tiles.length - k.1,λk=>⟨by simp[ZG],AF _⟩,⟨⟨0,by simp[Gz]⟩,by simp only[ZA,simprocAttr,sub]⟩,λk=> ?_⟩;obtain⟨k,ac,G⟩:=k;simp only[ZA,simprocAttr,l01Point.q,l01Point.fv,l00In.q,l00In.fv,l_LessPoint.q,l_LessPoint.fv,sub,AM];intro _;refine⟨λhk=>⟨hk,λx hx=> ?_⟩,λhk=> ?_⟩
 .rw[E5 hx,N8] at G;have O:(Dl x.At && (Bf x.Tile 0 159 && (match Gz a.Tiles k with|none=>true|some p=>Bj p x.At)))=false->false=(Ck none a.Tiles && decide (a.Tiles.length<=500)):=by
   intro h;rw[<-G];revert h;cases Dl x.At<;>cases Bf x.Tile 0 159<;>cases (match Gz a.Tiles k with|none=>true|some p=>Bj p x.At)<;>simp
  have z:(Dl x.At && (Bf x.Tile 0 159 && (match Gz a.Tiles k with|none=>true|some p=>Bj p x.At)))=true->Ck (Gz a.Tiles (k+1)) (a.Tiles.drop (k+1))=Ck none a.Tiles:=by
   intro h;rw[<-G,Qn2 hx];simp only[AO] at h;simp[h.1,h.2.1,h.2.2]
  refine⟨λQ=>⟨λZ=>⟨λh3=> ?_,λh3=> ?_⟩,λZ=>O (by simp[Z])⟩,λQ=>O (by simp[Q])⟩
  .rw[AB (x:=(k:Int) - 1) (by omega) (by omega)];refine⟨by omega,by omega,λy hy=> ?_⟩;have hp:Gz a.Tiles k=some y.At:=by
    have e:((k:Int) - 1).toNat=k - 1:=by omega
    rw[e] at hy;simp[Gz,hy,show k≠0 by omega]
   rw[hp] at O z;exact⟨λh4=>O (by simp[h4]),λh4=>GH hk (by omega) ⟨by omega,z (by simp[Q,Z];simpa using h4)⟩⟩
  .have hp:Gz a.Tiles k=none:=by simp[Gz,show k=0 by omega]
   rw[hp] at z;exact GH hk (by omega) ⟨by omega,z (by simp[Q,Z])⟩
 .rw[CO (by omega),rO] at G;simp only[<-G,F2]
  grind
def Qq(a b:Ab):a=b↔a.Tiles=b.Tiles:=by
 obtain⟨x⟩:=a;obtain⟨y⟩:=b;simp
def Qrb(x y:Aj):(x.At.X==y.At.X && (x.At.Y==y.At.Y && x.Tile==y.Tile))=decide (x=y):=by
 obtain⟨⟨a,b⟩,c⟩:=x;obtain⟨⟨d,e⟩,f⟩:=y;rw[V6];simp[fP]
def l03Same.fv(a:Ab×Ab):Bool:=(λa b=>decide (a=b)) (a.1) (a.2)
def l03Same.row:Ax:=vK (b2 (qP 1 Ab.d_le) (qP 1 Ab.d_le)) rB (λa=>True) l03Same.fv
def l03Same.ok:AA 106 l03Same.row:=by
 refine vw tN Tryz.func106 ?_;intro a Z;simp only[Tryz.f106];simp only[ZA,simprocAttr,l03Same.fv];simp only[AM];refine⟨λG=> ?_,λG=> ?_⟩
 .have:a.1≠a.2:=λh=>G (by rw[h])
  simp[this]
 have G:a.1.Tiles.length=a.2.Tiles.length:=by omega
 refine AR.old ⟨{k:Nat//k<=a.1.Tiles.length/\a.1.Tiles.take k=a.2.Tiles.take k},λk=>⟨[(5,.im (.int .i64 k.1)),(4,.im (.bool false)),(0,.ptr 0 0),(1,.ptr 1 0)],[(0,(false,.view [.sl false 3 (a.1.Tiles.map Aj.c)])),(1,(false,.view [.sl false 3 (a.2.Tiles.map Aj.c)]))],2⟩,λk=>a.1.Tiles.length - k.1,λk=>⟨by simp[ZG],AF _⟩,⟨⟨0,by simp⟩,by simp only[ZA,simprocAttr,sub]⟩,λk=> ?_⟩;obtain⟨k,Q,z⟩:=k;simp only[ZA,simprocAttr,sub,AM];intro h1;refine⟨λO=>⟨O,λx hx=>⟨by omega,λy hy=> ?_⟩⟩,λO=> ?_⟩
 .obtain⟨g1,g2⟩:=qO G Q z hx hy;simp only[ZA,Qrb];refine⟨λh=> ?_,λh=>GH O h1 ⟨by omega,g1 (by simpa using h)⟩⟩
  have:=g2 (by simpa using h)
  simp[Qq,this]
 .rw[DP (by omega),DP (by omega)] at z;simp[Qq,z]
def B0{A:Type}(p:A->Bool):Nat->List A->Int
 |_,[]=> -1
 |i,x::r=>if p x=true then i else B0 p (i+1) r
def l02Glue.fv(a:A8×ByteArray):Int:=(λs n=>B0 (λg=>decide (g.Name=n)) 0 s.Glues+1) (a.1) (a.2)
def l02Glue.row:Ax:=vK (b2 (qP 2 A8.d_le) qT) rI (λa=>True) l02Glue.fv
def l02Glue.q:=AX (R:=l02Glue.row) rfl
def l02Glue.ok:AA 177 l02Glue.row:=by
 refine vw tN Tryz.func177 ?_;intro a O;simp only[Tryz.f177];simp only[ZA,simprocAttr,l02Glue.fv];refine AR.old ⟨{k:Nat//k<=a.1.Glues.length/\B0 (λg:Av=>decide (g.Name=a.2)) k (a.1.Glues.drop k)=B0 (λg:Av=>decide (g.Name=a.2)) 0 a.1.Glues},λk=>⟨[(5,.im (.int .i64 k.1)),(4,.im (.int .i64 0)),(0,.ptr 0 0),(1,.im (.str a.2))],[(0,(false,.view [.sl false 2 (a.1.Glues.map Av.c),.sl false 2 (a.1.Tiles.map Tile.c)]))],1⟩,λk=>a.1.Glues.length - k.1,λk=>⟨by simp[ZG],AF _⟩,⟨⟨0,by simp⟩,by simp only[ZA,simprocAttr,sub]⟩,λk=> ?_⟩;obtain⟨k,Q,z⟩:=k;simp only[ZA,simprocAttr,sub,AM];intro hn;refine⟨λG=>⟨G,λx Z=> ?_⟩,λG=> ?_⟩
 .rw[E5 Z,B0] at z;refine⟨λh=> ?_,λh=>GH G hn ⟨by omega,by rw[<-z,Ad (by simpa using h)]⟩⟩;rw[Ai (by simpa using h)] at z;rw[<-z,AB (by omega) (by omega)]
 .rw[CO (by omega),B0] at z;omega
def VA1.fv(a:Aj×A8):Bool:=(λx s=> !Bf x.Tile 0 (s.Tiles.length - 1)) (a.1) (a.2)
def VA1.row:Ax:=vK (b2 (qR Aj.d_le) (qP 2 A8.d_le)) rB (λa=>True) VA1.fv
def VA1.q:=AX (R:=VA1.row) rfl
def VA1.ok:AA 159 VA1.row:=by
 refine vw (tC isTile.ok tN) Tryz.func159 ?_;intro a z;simp only[Tryz.f159];simp only[ZA,simprocAttr,VA1.fv,isTile.q,isTile.fv]
def IdxVA.ar:List PK->Option ((List Aj)×A8)
 |[.val (.sl _ _ O),.val (.fn 159 [] [.ref z])]=>(AQ Aj.d O).bind λQ=>(A8.d (z.take 2)).bind λG=>some (Q,G)
 |_=>none
def IdxVA.ae(a:(List Aj)×A8):List PK:=[.val (.sl false 3 (a.1.map Aj.c)),.val (.fn 159 [] [.ref (A8.c a.2)])]
def IdxVA.le: ∀G a,IdxVA.ar G=some a->BM G (IdxVA.ae a):=by
 intro G a h;unfold IdxVA.ar at h;split at h
 .simp only[EP,AI] at h;obtain⟨Q,h0,O,z,rfl⟩:=h;exact⟨E4 (Et Aj.d_le _ _ h0) (by simp only[BI];rintro r ⟨y,_,rfl⟩;rfl),WM ⟨Vo (GD.trans_take (A8.d_le _ _ z)),trivial⟩,trivial⟩
 .cases h
def IdxVA.fv(a:(List Aj)×A8):Int:=(λl s=>B0 (λx=> !Bf x.Tile 0 (s.Tiles.length - 1)) 0 l) (a.1) (a.2)
def IdxVA.row:Ax:=FH IdxVA.ar (λa=>True) (λa=>(D.int .i64) (IdxVA.fv a))
def IdxVA.q:=vq IdxVA.row rfl
def IdxVA.ok:AA 204 IdxVA.row:=by
 refine bT CS (tC VA1.ok tN) Tryz.func204 rfl (by kernel_rfl) (by kernel_rfl) (ar:=IdxVA.ar) (ae:=IdxVA.ae) IdxVA.le (n:=2) (λ_=>rfl) (by decide) (rc:=(DJ)) (re:=(D.int .i64)) (Nf) (f:=IdxVA.fv) ?_;intro a O;simp only[Tryz.f204];simp only[ZA,simprocAttr,IdxVA.ae,IdxVA.fv];intro hn;refine AR.old ⟨{k:Nat//k<=a.1.length/\B0 (λx:Aj=> !Bf x.Tile 0 (a.2.Tiles.length - 1)) k (a.1.drop k)=B0 (λx:Aj=> !Bf x.Tile 0 (a.2.Tiles.length - 1)) 0 a.1},λk=>⟨[(8,.im (.int .i64 k.1)),(7,.im (.int .i64 a.1.length)),(6,.im (.sl false 3 (a.1.map Aj.c))),(4,.im (.int .i64 0)),(0,.im (.sl false 3 (a.1.map Aj.c))),(1,.im (.fn 159 [] [.ref (A8.c a.2)]))],[],0⟩,λk=>a.1.length - k.1,λk=>⟨by simp[ZG],AF _⟩,⟨⟨0,by simp⟩,by simp only[ZA,simprocAttr,sub]⟩,λk=> ?_⟩;obtain⟨k,Q,z⟩:=k;simp only[ZA,simprocAttr,VA1.q,VA1.fv,sub,AM];refine⟨λG=>⟨G,λx Z=> ?_⟩,λG=> ?_⟩
 .rw[E5 Z,B0] at z;refine⟨λh=> ?_,λh=>GH G hn ⟨by omega,by rw[<-z,Ad (by simpa using h)]⟩⟩;rw[Ai (by simpa using h)] at z;exact z
 .rw[CO (by omega),B0] at z;exact z
def Qyg{A:Type}(p:A->Bool): ∀(l:List A) (i:Nat),(0<=B0 p i l↔l.any p=true)/\ -1<=B0 p i l/\B0 p i l<(i+l.length:Nat)\/(l=[]/\B0 p i l= -1):=by
 intro l;induction l with
 |nil=>intro i;exact .inr ⟨rfl,rfl⟩
 |cons x r ih=>
  intro i;refine .inl ?_;simp only[B0,ZfD,Cr]
  split<;>rename_i h
  .simp[h];omega
  .rcases ih (i+1) with ⟨G,z,O⟩|⟨rfl,z⟩
   .simp only[JQ] at h;rw[h,vC];exact⟨G,z,by omega⟩
   .simp[z,h];omega
def LI{A:Type}(p:A->Bool)(l:List A):decide (0<=B0 p 0 l)=l.any p:=by
 rw[V6];rcases Qyg p l 0 with ⟨z,_⟩|⟨rfl,G⟩
 .simpa using z
 .simp[G]
def ContVA.ar:List PK->Option ((List Aj)×A8)
 |[.val (.sl _ _ O),.val (.fn 159 [] [.ref z])]=>(AQ Aj.d O).bind λQ=>(A8.d (z.take 2)).bind λG=>some (Q,G)
 |_=>none
def ContVA.ae(a:(List Aj)×A8):List PK:=[.val (.sl false 3 (a.1.map Aj.c)),.val (.fn 159 [] [.ref (A8.c a.2)])]
def ContVA.le: ∀G a,ContVA.ar G=some a->BM G (ContVA.ae a):=by
 intro G a h;unfold ContVA.ar at h;split at h
 .simp only[EP,AI] at h;obtain⟨Q,h0,O,z,rfl⟩:=h;exact⟨E4 (Et Aj.d_le _ _ h0) (by simp only[BI];rintro r ⟨y,_,rfl⟩;rfl),WM ⟨Vo (GD.trans_take (A8.d_le _ _ z)),trivial⟩,trivial⟩
 .cases h
def ContVA.fv(a:(List Aj)×A8):Bool:=(λl s=>l.any (λx=> !Bf x.Tile 0 (s.Tiles.length - 1))) (a.1) (a.2)
def ContVA.row:Ax:=FH ContVA.ar (λa=>True) (λa=>(D.bool) (ContVA.fv a))
def ContVA.q:=vq ContVA.row rfl
def ContVA.ok:AA 158 ContVA.row:=by
 refine bT CS (tC IdxVA.ok tN) Tryz.func158 rfl (by kernel_rfl) (by kernel_rfl) (ar:=ContVA.ar) (ae:=ContVA.ae) ContVA.le (n:=2) (λ_=>rfl) (by decide) (rc:=(VL)) (re:=(D.bool)) (pJ) (f:=ContVA.fv) ?_;intro a z;simp only[Tryz.f158];simp only[ZA,simprocAttr,ContVA.ae,ContVA.fv,IdxVA.q,IdxVA.ar,IdxVA.fv];exact LI _ _
def l03Ok.fv(a:A8×Ab):Bool:=(λs a=>(Ck none a.Tiles && decide (a.Tiles.length<=500)) && a.Tiles.all (λx=>Bf x.Tile 0 (s.Tiles.length - 1))) (a.1) (a.2)
def l03Ok.row:Ax:=vK (b2 (qP 2 A8.d_le) (qP 1 Ab.d_le)) rB (λa=>True) l03Ok.fv
def l03Ok.q:=AX (R:=l03Ok.row) rfl
def l03Ok.ok:AA 102 l03Ok.row:=by
 refine vw (tC l03Form.ok (tC l02Index.ok tN)) Tryz.func102 ?_;intro a Q;simp only[Tryz.f102];simp only[ZA,simprocAttr,Ab.d,l03Ok.fv,l03Form.q,l03Form.fv];simp only[AM];refine⟨λh=>by simp[h],λh=> ?_⟩;simp only[I1] at h;refine AR.old ⟨{k:Nat//k<=a.2.Tiles.length/\(a.2.Tiles.drop k).all (λx=>Bf x.Tile 0 (a.1.Tiles.length - 1))=a.2.Tiles.all (λx=>Bf x.Tile 0 (a.1.Tiles.length - 1))},λk=>⟨[(5,.im (.int .i64 k.1)),(4,.im (.bool false)),(0,.ptr 0 0),(1,.ptr 1 0)],[(0,(false,.view (A8.c a.1))),(1,(false,.view (Ab.c a.2)))],2⟩,λk=>a.2.Tiles.length - k.1,λk=>⟨by simp[ZG],AF _⟩,⟨⟨0,by simp⟩,by simp only[ZA,simprocAttr,sub]⟩,λk=> ?_⟩;obtain⟨k,Z,z⟩:=k;simp only[ZA,simprocAttr,l02Index.q,l02Index.fv,sub,AM];intro hn;refine⟨λO=>⟨O,λx hx=> ?_⟩,λO=> ?_⟩
 .rw[E5 hx,KP] at z;refine⟨λG=> ?_,λG=>GH O hn ⟨by omega,?_⟩⟩
  .rw[G] at z;simp only[Gf] at z;rw[h,<-z];rfl
  .simp only[I1] at G;rw[G,F2] at z;exact z
 .rw[CO (by omega)] at z;rw[h,<-z];rfl
def dS{a b c:Ac}(z:Bj a b=true)(G:Bj b c=true):Bj a c=true:=by
 simp only[Bj,HY,AO,Bo] at*;omega
def kX(a:Ac):Bj a a=false:=by simp[Bj]
def jO: ∀(l:List Aj) (q:Option Ac),Ck q l=true->(∀p,q=some p-> ∀(i:Nat) (x:Aj),l[i]? =some x->Bj p x.At=true)/\
 ∀(i j:Nat) (x y:Aj),i<j->l[i]? =some x->l[j]? =some y->Bj x.At y.At=true
 |[],q,_=>⟨λ_ _ i x h=>by simp at h,λi j x y _ h=>by simp at h⟩
 |z::r,q,h=>by
  rw[N8] at h;simp only[AO] at h;obtain⟨_,_,Q,h4⟩:=h;obtain⟨Z,i2⟩:=jO r (some z.At) h4;refine⟨?_,?_⟩
  .rintro p rfl i x G;cases i with
   |zero=>
    simp only[G4,AI] at G;subst G;exact Q
   |succ i=>
    simp only[I2] at G;exact dS Q (Z _ rfl i x G)
  .intro i j x y aa G O;cases j with
   |zero=>omega
   |succ j=>
    simp only[I2] at O;cases i with
    |zero=>
     simp only[G4,AI] at G;subst G;exact Z _ rfl j y O
    |succ i=>
     simp only[I2] at G;exact i2 i j x y (by omega) G O
def Qtf{A:Type}(p:A->Bool): ∀(l:List A) (o k:Nat) (x:A),l[k]? =some x->p x=true->(∀i y,i<k->l[i]? =some y->p y=false)->B0 p o l=((o+k:Nat):Int)
 |[],o,k,x,h,_,_=>by simp at h
 |z::r,o,k,x,h,hp,hn=>by
  simp only[B0];cases k with
  |zero=>
   simp only[G4,AI] at h;subst h;rw[Ai hp];rfl
  |succ k=>
   have:=hn 0 z (by omega) (by simp)
   rw[Ad (by simp[this])];rw[Qtf p r (o+1) k x (by simpa using h) hp (λi y O G=>hn (i+1) y (by omega) (by simpa using G))];congr 1;omega
def Qrf{A:Type}(p:A->Bool): ∀(l:List A) (o:Nat),(∀(i:Nat) (y:A),l[i]? =some y->p y=false)->B0 p o l= -1
 |[],o,_=>rfl
 |z::r,o,hn=>by
  simp only[B0]
  have:=hn 0 z (by simp)
  rw[Ad (by simp[this])];exact Qrf p r (o+1) (λi y G=>hn (i+1) y (by simpa using G))
def l03Index.fv(a:Ab×Ac):Int:=(λa p=>B0 (λx=>decide (x.At=p)) 0 a.Tiles) (a.1) (a.2)
def l03Index.row:Ax:=vK (b2 (qP 1 Ab.d_le) (qR Ac.d_le)) rI (λa=>Ck none a.1.Tiles=true) l03Index.fv
def l03Index.q:=AX (R:=l03Index.row) rfl
def l03Index.ok:AA 132 l03Index.row:=by
 refine vw (tC l_LessPoint.ok tN) Tryz.func132 ?_;intro a ac;simp only[Tryz.f132];simp only[ZA,simprocAttr,l03Index.fv];intro hn;refine AR.old ⟨{p:Nat×Nat//p.1<=p.2/\p.2<=a.1.Tiles.length/\(∀i x,i<p.1->a.1.Tiles[i]? =some x->Bj x.At a.2=true)/\(∀i x,p.2<=i->a.1.Tiles[i]? =some x->Bj x.At a.2=false)},λp=>⟨[(5,.im (.int .i64 p.1.1)),(6,.im (.int .i64 p.1.2)),(4,.im (.int .i64 0)),(3,.ptr 1 0),(0,.ptr 0 0)],[(1,(true,.cells 70 [.im (.int .i64 a.2.X),.im (.int .i64 a.2.Y)])),(0,(false,.view [.sl false 3 (a.1.Tiles.map Aj.c)]))],2⟩,λp=>p.1.2 - p.1.1,λp=>⟨by simp[ZG],AF _⟩,⟨⟨(0,a.1.Tiles.length),by simp,by simp,by simp,?_⟩,by simp only[ZA,simprocAttr,sub]⟩,λp=> ?_⟩
 .intro i x G Q
  have:=(BJ.1 Q).1
  simp only at G;omega
 obtain⟨⟨lo,G⟩,h1,h2,h3,h4⟩:=p;simp only at h1 h2 h3 h4;simp only[ZA,simprocAttr,l_LessPoint.q,l_LessPoint.fv,sub,AM];obtain⟨_,O⟩:=jO _ _ ac;have ab: ∀(i:Nat) (x:Aj),i<lo->a.1.Tiles[i]? =some x->x.At≠a.2:=by
  intro i x G Q he
  have:=h3 i x G Q
  rw[he,kX] at this;cases this
 refine⟨λad=> ?_,λad=>⟨λhl=>⟨hl,λx Q=>⟨λhe=> ?_,λhe=> ?_⟩⟩,λhl=> ?_⟩⟩
 .have hm:IntKind.wrap .i64 ((IntKind.wrap .i64 ((lo:Int)+G)).tdiv 2)=(((lo+G)/2:Nat):Int):=by
   rw[AB (x:=(lo:Int)+G) (by omega) (by omega),ZeJ (by omega),AB (by omega) (by omega)];omega
  rw[hm];refine⟨by omega,by omega,λx Q=>⟨λhb=> ?_,λhb=> ?_⟩⟩
  .rw[BD] at Q;refine⟨⟨((lo+G)/2+1,G),by simp only;omega,h2,λi y aa z=> ?_,h4⟩,by simp only;omega,?_,rfl⟩
   .simp only at aa;rcases EI i ((lo+G)/2) with h|h
    .exact dS (O i _ y x h z Q) hb
    .have:i=(lo+G)/2:=by omega
     subst this;rw[Q] at z;exact Aw z▸hb
   .rw[AB (by omega) (by omega)];simp only;omega
  .rw[BD] at Q;refine⟨⟨(lo,(lo+G)/2),by simp only;omega,by simp only;omega,h3,λi y aa z=> ?_⟩,by simp only;omega,rfl,rfl⟩;simp only at aa;rcases EI ((lo+G)/2) i with h|h
   .cases hl:Bj y.At a.2 with
    |false=>rfl
    |true=>exact absurd (dS (O _ i x y h Q z) hl) hb
   .have:i=(lo+G)/2:=by omega
    subst this;rw[Q] at z;obtain rfl:=Aw z;simpa using hb
 .have af:x.At=a.2:=by
   obtain⟨e1,e2⟩:=he;have e1:x.At.X=a.2.X:=by simpa using e1
   have e2:x.At.Y=a.2.Y:=by simpa using e2
   rw[<-Ac.eta x.At,<-Ac.eta a.2,e1,e2]
  rw[Qtf _ a.1.Tiles 0 lo x Q (by simp[af]) (λi y G z=>by simp[ab i y G z])];simp
 .refine (Qrf _ _ _ ?_).symm;intro i y z;rcases lV i lo with h|h|h
  .simp[ab i y h z]
  .subst h;rw[Q] at z;obtain rfl:=Aw z;simp only[Ho];intro h9;exact he (by simp[h9])
  .simp only[Ho];intro h9;have Z:=O lo i x y h Q z;rw[h9] at Z
   have:=h4 lo x (by omega) Q
   rw[this] at Z;cases Z
 .refine (Qrf _ _ _ ?_).symm;intro i y z
  have:=(BJ.1 z).1
  simp[ab i y (by omega) z]
def GN(p:Ac)(t:Int):Bool->List Aj->List Aj
 |_,[]=>[]
 |false,x::r=>if Bj p x.At=true then ⟨p,t⟩::x::GN p t true r else x::GN p t false r
 |true,x::r=>x::GN p t true r
def Iw(p:Ac):List Aj->Bool
 |[]=>false
 |x::r=>if Bj p x.At=true then true else Iw p r
def Br(a:Ab)(p:Ac)(t:Int):Ab:=⟨GN p t false a.Tiles++(if Iw p a.Tiles=true then [] else [⟨p,t⟩])⟩
def tE(p:Ac)(t:Int): ∀(l:List Aj),GN p t true l=l
 |[]=>rfl
 |x::r=>by simp only[GN,tE p t r]
def yH(p:Ac)(t:Int)(x:Aj): ∀(l:List Aj),GN p t false (l++[x])=GN p t false l++(if Iw p l=true then [x] else if Bj p x.At=true then [⟨p,t⟩,x] else [x])
 |[]=>by simp only[Fb,GN,Iw];split<;>simp[GN]
 |y::r=>by
  simp only[CW,GN,Iw];split
  .rw[tE,tE];simp
  .rw[yH p t x r];simp
def xT(p:Ac)(x:Aj): ∀(l:List Aj),Iw p (l++[x])=(Iw p l||Bj p x.At)
 |[]=>by simp only[Fb,Iw];split<;>simp_all
 |y::r=>by
  simp only[CW,Iw];split
  .simp
  .exact xT p x r
def Qua(p:Ac)(t:Int): ∀(l:List Aj),(GN p t false l).length<=l.length+1
 |[]=>by simp[GN]
 |y::r=>by
  simp only[GN];split
  .rw[tE];simp
  .have:=Qua p t r
   simp;omega
def l03Put.fv(a:Ab×Ac×Int):Ab:=(Br) (a.1) (a.2.1) (a.2.2)
def l03Put.row:Ax:=vK (b3 (qP 1 Ab.d_le) (qR Ac.d_le) qI) (rA Ab.d_le) (λa=>a.1.Tiles.length<=1000000) l03Put.fv
def l03Put.q:=AX (R:=l03Put.row) rfl
def l03Put.ok:AA 91 l03Put.row:=by
 refine vw (tC l_LessPoint.ok tN) Tryz.func91 ?_;intro a ab;simp only[Tryz.f91];simp only[ZA,simprocAttr,l03Put.fv];refine AR.ren ⟨{k:Nat//k<=a.1.Tiles.length},λk=>⟨[(9,.im (.int .i64 k.1)),(8,.im (.bool (Iw a.2.1 (a.1.Tiles.take k.1)))),(7,.ptr 3 0),(6,.ptr 2 0),(4,.ptr 1 0),(0,.ptr 0 0),(2,.im (.int .i64 a.2.2))],[(3,(true,.cells 41 [.own 4])),(4,(true,.arr 119 3 ((GN a.2.1 a.2.2 false (a.1.Tiles.take k.1)).map Aj.c))),(2,(true,.cells 41 [.im (.sl true 0 [])])),(1,(true,.cells 70 [.im (.int .i64 a.2.1.X),.im (.int .i64 a.2.1.Y)])),(0,(false,.view [.sl false 3 (a.1.Tiles.map Aj.c)]))],5⟩,λk=>a.1.Tiles.length - k.1,λk=>⟨by simp[ZG],by simp⟩,⟨⟨0,by simp⟩,[(4,none)],?_⟩,λk=> ?_⟩
 .simp only[Ak];simp only[ZA,simprocAttr,AL,Bk,GN,Iw]
  try simp
 obtain⟨k,ac⟩:=k;simp only[ZA,simprocAttr,Ab.d,l_LessPoint.q,l_LessPoint.fv,AM];intro _;have Z:=Qua a.2.1 a.2.2 (a.1.Tiles.take k);have aa:(a.1.Tiles.take k).length<=k:=by simp;omega
 refine⟨λQ=>⟨λhd=>⟨Q,λx O=>⟨λG=> ?_,λG=> ?_⟩⟩,λhd=> ?_⟩,λQ=> ?_⟩
 .have z:a.1.Tiles.take (k+1)=a.1.Tiles.take k++[x]:=by rw[G9,O];rfl
  refine⟨by simp[Ce,Bn,D.one],by omega,Q,λy hy=>⟨by simp[Ce,Bn,D.one],by simp;omega,⟨⟨k+1,by omega⟩,[(4,some 8)],by simp only;omega,?_⟩⟩⟩;rw[O] at hy;obtain rfl:=Aw hy;simp only[Ak];simp only[ZA,simprocAttr];refine⟨by simp,⟨?_,?_⟩,?_⟩
  .rw[AB (by omega) (by omega)];omega
  .rw[z,xT,hd,G];rfl
  .rw[z,yH,hd,G];simp[Aj.c]
 .have z:a.1.Tiles.take (k+1)=a.1.Tiles.take k++[x]:=by rw[G9,O];rfl
  refine⟨Q,λy hy=>⟨by simp[Ce,Bn,D.one],by omega,⟨⟨k+1,by omega⟩,[(4,some 6)],by simp only;omega,?_⟩⟩⟩;rw[O] at hy;obtain rfl:=Aw hy;simp only[JQ] at G;simp only[Ak];simp only[ZA,simprocAttr];refine⟨by simp,⟨?_,?_⟩,?_⟩
  .rw[AB (by omega) (by omega)];omega
  .rw[z,xT,hd,G];rfl
  .rw[z,yH,hd,G];simp[Aj.c]
 .simp only[I1] at hd;refine⟨Q,λx O=>⟨by simp[Ce,Bn,D.one],by omega,⟨⟨k+1,by omega⟩,[(4,some 6)],by simp only;omega,?_⟩⟩⟩;have z:a.1.Tiles.take (k+1)=a.1.Tiles.take k++[x]:=by rw[G9,O];rfl
  simp only[Ak];simp only[ZA,simprocAttr];refine⟨by simp,⟨?_,?_⟩,?_⟩
  .rw[AB (by omega) (by omega)];omega
  .rw[z,xT,hd];rfl
  .rw[z,yH,hd];simp[Aj.c]
 .rw[DP (by omega)] at Z aa⊢;refine⟨λhd=>⟨by simp[Ce,Bn,D.one],by omega,?_⟩,λhd=> ?_⟩
  .have e:List.map Aj.c (GN a.2.1 a.2.2 false a.1.Tiles)++[[D.int .i64 a.2.1.X,D.int .i64 a.2.1.Y,D.int .i64 a.2.2]]=List.map Aj.c (GN a.2.1 a.2.2 false a.1.Tiles++[⟨a.2.1,a.2.2⟩]):=by simp[Aj.c]
   rw[e,Aj.d_R];simp[Br,hd]
  .simp only[I1] at hd;simp[Br,hd]
def Bq(a:Ab)(p:Ac):Int:=((a.Tiles.find? (λx=>decide (x.At=p))).map Aj.Tile).getD (-1)
def Vk{A:Type}(p:A->Bool): ∀(l:List A) (o:Nat),(l.find? p=none/\B0 p o l= -1)\/ ∃(i:Nat) (x:A),l.find? p=some x/\B0 p o l=((o+i:Nat):Int)/\l[i]? =some x
 |[],o=> .inl ⟨rfl,rfl⟩
 |z::r,o=>by
  simp only[B0,ZeB];cases h:p z
  .rcases Vk p r (o+1) with ⟨G,O⟩|⟨i,x,G,O,Q⟩
   .exact .inl ⟨by simpa using G,by simpa using O⟩
   .exact .inr ⟨i+1,x,by simpa using G,by simp[O];omega,by simpa using Q⟩
  .exact .inr ⟨0,z,rfl,by simp,by simp⟩
def l03At.fv(a:Ab×Ac):Int:=(Bq) (a.1) (a.2)
def l03At.row:Ax:=vK (b2 (qP 1 Ab.d_le) (qR Ac.d_le)) rI (λa=>Ck none a.1.Tiles=true) l03At.fv
def l03At.q:=AX (R:=l03At.row) rfl
def l03At.ok:AA 78 l03At.row:=by
 refine vw (tC l03Index.ok tN) Tryz.func78 ?_;intro a z;simp only[Tryz.f78];simp only[ZA,simprocAttr,Ab.d,l03At.fv,l03Index.q,l03Index.fv];refine⟨z,?_⟩;rcases Vk (λx=>decide (x.At=a.2)) a.1.Tiles 0 with ⟨G,O⟩|⟨i,x,G,O,Q⟩
 .rw[O,Ai (by omega)];simp[Bq,G]
 .have hi:=(BJ.1 Q).1;rw[O,Ad (by omega)];refine⟨by omega,by omega,λy Z=> ?_⟩
  have:((0+i:Nat):Int).toNat=i:=by omega
  rw[this,Q] at Z;obtain rfl:=Aw Z;simp[Bq,G]
def l02Tile.fv(a:A8×ByteArray):Int:=(λs n=>B0 (λg=>decide (g.Name=n)) 0 s.Tiles) (a.1) (a.2)
def l02Tile.row:Ax:=vK (b2 (qP 2 A8.d_le) qT) rI (λa=>True) l02Tile.fv
def l02Tile.q:=AX (R:=l02Tile.row) rfl
def l02Tile.ok:AA 178 l02Tile.row:=by
 refine vw tN Tryz.func178 ?_;intro a O;simp only[Tryz.f178];simp only[ZA,simprocAttr,l02Tile.fv];refine AR.old ⟨{k:Nat//k<=a.1.Tiles.length/\B0 (λg:Tile=>decide (g.Name=a.2)) k (a.1.Tiles.drop k)=B0 (λg:Tile=>decide (g.Name=a.2)) 0 a.1.Tiles},λk=>⟨[(5,.im (.int .i64 k.1)),(4,.im (.int .i64 0)),(0,.ptr 0 0),(1,.im (.str a.2))],[(0,(false,.view (A8.c a.1)))],1⟩,λk=>a.1.Tiles.length - k.1,λk=>⟨by simp[ZG],AF _⟩,⟨⟨0,by simp⟩,by simp only[ZA,simprocAttr,sub]⟩,λk=> ?_⟩;obtain⟨k,Q,z⟩:=k;simp only[ZA,simprocAttr,sub,AM];intro hn;refine⟨λG=>⟨G,λx Z=> ?_⟩,λG=> ?_⟩
 .rw[E5 Z,B0] at z;refine⟨λh=> ?_,λh=>GH G hn ⟨by omega,by rw[<-z,Ad (by simpa using h)]⟩⟩;rw[Ai (by simpa using h)] at z;exact z
 .rw[CO (by omega),B0] at z;omega
def Ns(s:A8)(a:Ab)(p:Ac)(t:Int)(d:Int):Int:=if 0<=Bq a (Cm p d) then JD s t d (Bq a (Cm p d)) else 0
def Jq(s:A8)(a:Ab)(p:Ac)(t:Int):Nat->Int
 |0=>0
 |k+1=>Jq s a p t k+Ns s a p t k
def Fy(s:A8)(a:Ab):Prop:=Ck none a.Tiles=true/\ ∀x∈a.Tiles,FN s x.Tile
def JV{s:A8}{a:Ab}(h:Fy s a)(p:Ac)(h0:0<=Bq a p):FN s (Bq a p):=by
 simp only[Bq] at h0⊢;cases hf:a.Tiles.find? (λx=>decide (x.At=p)) with
 |none=>rw[hf] at h0;simp at h0
 |some x=>exact h.2 x (fG hf)
def Qp1{s:A8}(h:BG s)(g:Int):0<=PP s g/\PP s g<=4:=by
 simp only[PP];split
 .cases hx:s.Glues[(g - 1).toNat]? with
  |none=>simp
  |some x=>have:=h.2.2 x (AP hx);simp;omega
 .omega
def MO{s:A8}(h:BG s)(a:Ab)(p:Ac)(t d:Int):0<=Ns s a p t d/\Ns s a p t d<=4:=by
 simp only[Ns,JD];split
 .split
  .exact Qp1 h _
  .omega
 .omega
def KZ{s:A8}(h:BG s)(a:Ab)(p:Ac)(t:Int): ∀(k:Nat),0<=Jq s a p t k/\Jq s a p t k<=4*k
 |0=>by simp[Jq]
 |k+1=>by
  have z:=KZ h a p t k;have G:=MO h a p t k;simp only[Jq];omega
def l06Binding.fv(a:A8×Ab×Ac×Int):Int:=(λs a p t=>Jq s a p t 4) (a.1) (a.2.1) (a.2.2.1) (a.2.2.2)
def l06Binding.row:Ax:=vK (b4 (qP 2 A8.d_le) (qP 1 Ab.d_le) (qR Ac.d_le) qI) rI (λa=>BG a.1/\Fy a.1 a.2.1/\GI a.2.2.1/\FN a.1 a.2.2.2) l06Binding.fv
def l06Binding.q:=AX (R:=l06Binding.row) rfl
def l06Binding.ok:AA 141 l06Binding.row:=by
 refine vw (tC l03At.ok (tC l01Step.ok (tC l02Bond.ok tN))) Tryz.func141 ?_;intro a z;simp only[Tryz.f141];simp only[ZA,simprocAttr,l06Binding.fv];obtain⟨G,O,Q,Z⟩:=z;refine AR.old ⟨{k:Nat//k<=4},λk=>⟨[(10,.im (.int .i64 k.1)),(9,.im (.int .i64 (Jq a.1 a.2.1 a.2.2.1 a.2.2.2 k.1))),(8,.im (.int .i64 0)),(6,.ptr 2 0),(0,.ptr 0 0),(1,.ptr 1 0),(3,.im (.int .i64 a.2.2.2))],[(2,(true,.cells 70 [.im (.int .i64 a.2.2.1.X),.im (.int .i64 a.2.2.1.Y)])),(0,(false,.view (A8.c a.1))),(1,(false,.view (Ab.c a.2.1)))],3⟩,λk=>4 - k.1,λk=>⟨by simp[ZG],AF _⟩,⟨⟨0,by simp⟩,by simp only[ZA,simprocAttr,sub,Jq]⟩,λk=> ?_⟩;obtain⟨k,aa⟩:=k;simp only[ZA,simprocAttr,Ab.d,l03At.q,l03At.fv,l01Step.q,l01Step.fv,l02Bond.q,l02Bond.fv,sub,AM];have hb:=KZ G a.2.1 a.2.2.1 a.2.2.2 k;have ht:=MO G a.2.1 a.2.2.1 a.2.2.2 k;refine⟨λhk=>⟨⟨Q,by omega⟩,O.1,λhp=>⟨⟨G,Z,⟨by omega,by omega⟩,JV O _ hp⟩,⟨⟨k+1,by omega⟩,by simp only;omega,?_,?_⟩⟩,λhp=>⟨⟨k+1,by omega⟩,by simp only;omega,?_,?_⟩⟩,λhk=> ?_⟩
 .rw[AB (by omega) (by omega)];simp only;omega
 .simp only[Jq];simp only[Ns,Ai hp] at ht⊢;rw[AB (by omega) (by omega)]
 .rw[AB (by omega) (by omega)];simp only;omega
 .simp only[Jq,Ns,Ad hp];omega
 .have:k=4:=by omega
  rw[this]
def PT{p:Ac}(h:Dl p=true):GI p:=by
 simp only[Dl,Bf,AO,Bo] at h;simp only[GI];omega
def Zs: ∀(l:List Aj) (q:Option Ac),Ck q l=true-> ∀x∈l,Dl x.At=true/\Bf x.Tile 0 159=true
 |[],_,_,x,G=>by cases G
 |z::r,q,h,x,G=>by
  rw[N8] at h;simp only[AO] at h;rcases Bx.1 G with rfl|G
  .exact⟨h.1,h.2.1⟩
  .exact Zs r _ h.2.2.2 x G
def Ha(a:Ab)(i d:Int):Int:=B0 (λx=>decide (x.At=Cm ((a.Tiles[i.toNat]?.map Aj.At).getD ⟨0,0⟩) d)) 0 a.Tiles
def l06Neighbor.fv(a:Ab×Int×Int):Int:=(Ha) (a.1) (a.2.1) (a.2.2)
def l06Neighbor.row:Ax:=vK (b3 (qP 1 Ab.d_le) qI qI) rI (λa=>Ck none a.1.Tiles=true/\0<=a.2.1/\a.2.1<a.1.Tiles.length/\0<=a.2.2/\a.2.2<=3) l06Neighbor.fv
def l06Neighbor.q:=AX (R:=l06Neighbor.row) rfl
def l06Neighbor.ok:AA 220 l06Neighbor.row:=by
 refine vw (tC l01Step.ok (tC l03Index.ok tN)) Tryz.func220 ?_;intro a z;simp only[Tryz.f220];simp only[ZA,simprocAttr,Ab.d,l06Neighbor.fv,l01Step.q,l01Step.fv,l03Index.q,l03Index.fv];obtain⟨G,Q,Z,h4,h5⟩:=z;refine⟨Q,Z,λx O=>⟨⟨PT (Zs _ _ G x (AP O)).1,h4,h5⟩,G,?_⟩⟩;simp only[Ha];rw[O];rfl
def K9(s:A8):Nat->List Av->Bool
 |_,[]=>true
 |i,g::r=>(Iy g.Name && (Bf g.Strength 1 4 && decide (B0 (λx=>decide (x.Name=g.Name)) 0 s.Glues=i))) && K9 s (i+1) r
def Jn(s:A8):Nat->List Tile->Bool
 |_,[]=>true
 |i,x::r=>(Iy x.Name && (decide (x.Sides.length=4) && (decide (B0 (λy=>decide (y.Name=x.Name)) 0 s.Tiles=i) && x.Sides.all (λg=>Bf g 0 s.Glues.length)))) && Jn s (i+1) r
def Eu(s:A8):Bool:=(decide (s.Glues.length<=200) && Bf s.Tiles.length 1 160) && (K9 s 0 s.Glues && Jn s 0 s.Tiles)
def l02Ok.fv(a:A8):Bool:=(Eu) a
def l02Ok.row:Ax:=vK (b1 (qP 2 A8.d_le)) rB (λa=>True) l02Ok.fv
def l02Ok.q:=AX (R:=l02Ok.row) rfl
def l02Ok.ok:AA 129 l02Ok.row:=by
 refine vw (tC spec_IsName.ok (tC l00In.ok (tC l02Glue.ok (tC l02Tile.ok tN)))) Tryz.func129 ?_;intro a ac;simp only[Tryz.f129];simp only[ZA,simprocAttr,l02Ok.fv];intro hg;simp only[AM];refine⟨λc1 ht=>⟨λc2 _=>⟨λc3=> ?_,λc3=> ?_⟩,λc2=> ?_⟩,λc1=> ?_⟩
 .have: ¬(a.Tiles.length:Int)<=160:=by omega
  simp[Eu,Bf,this]
 .have c0:Eu a=(K9 a 0 a.Glues && Jn a 0 a.Tiles):=by
   have e1:a.Glues.length<=200:=by omega
   have e2:(1:Int)<=a.Tiles.length:=by omega
   have e3:(a.Tiles.length:Int)<=160:=by omega
   simp[Eu,Bf,e1,e2,e3]
  refine AR.old ⟨{k:Nat//k<=a.Glues.length/\K9 a k (a.Glues.drop k)=K9 a 0 a.Glues},λk=>⟨[(3,.im (.int .i64 k.1)),(2,.im (.bool false)),(0,.ptr 0 0)],[(0,(false,.view (A8.c a)))],1⟩,λk=>a.Glues.length - k.1,λk=>⟨by simp[ZG],AF _⟩,⟨⟨0,by simp⟩,by simp only[ZA,simprocAttr,sub]⟩,λk=> ?_⟩;obtain⟨k,ab,z⟩:=k;simp only[ZA,simprocAttr,spec_IsName.q,spec_IsName.fv,l00In.q,l00In.fv,l02Glue.q,l02Glue.fv,sub,AM];intro _;refine⟨λhk=>⟨hk,λx hx=> ?_⟩,λhk=> ?_⟩
  .rw[E5 hx,K9] at z;have G:(Iy x.Name && (Bf x.Strength 1 4 && decide (B0 (λg:Av=>decide (g.Name=x.Name)) 0 a.Glues=k)))=false->false=Eu a:=by
    intro h;rw[h,Gf] at z;rw[c0,<-z];rfl
   refine⟨λZ=>⟨λh2=>⟨λQ=> ?_,λQ=>GH hk hg ⟨by omega,?_⟩⟩,λh2=>G (by simp[h2])⟩,λZ=>G (by simp[Z])⟩
   .rw[AB (by omega) (by omega)] at Q;exact G (by simp;intro _ _;omega)
   .rw[G8,AB (by omega) (by omega)] at Q;have h4:B0 (λg:Av=>decide (g.Name=x.Name)) 0 a.Glues=k:=by omega
    rw[Z,h2,h4] at z;simpa using z
  .rw[CO (by omega),K9] at z;have c9:Eu a=Jn a 0 a.Tiles:=by rw[c0,<-z,F2]
   refine AR.old ⟨{k:Nat//k<=a.Tiles.length/\Jn a k (a.Tiles.drop k)=Jn a 0 a.Tiles},λk=>⟨[(5,.im (.int .i64 k.1)),(2,.im (.bool false)),(0,.ptr 0 0)],[(0,(false,.view (A8.c a)))],1⟩,λk=>a.Tiles.length - k.1,λk=>⟨by simp[ZG],AF _⟩,⟨⟨0,by simp⟩,by simp only[ZA,simprocAttr,sub]⟩,λk=> ?_⟩;obtain⟨k,ab,z⟩:=k;simp only[ZA,simprocAttr,spec_IsName.q,spec_IsName.fv,l02Tile.q,l02Tile.fv,AM];intro _;refine⟨λhk=>⟨hk,λx hx=> ?_⟩,λhk=> ?_⟩
   .rw[E5 hx,Jn] at z;have G:(Iy x.Name && (decide (x.Sides.length=4) && (decide (B0 (λy:Tile=>decide (y.Name=x.Name)) 0 a.Tiles=k) && x.Sides.all (λg=>Bf g 0 a.Glues.length))))=false->false=Eu a:=by
     intro h;rw[h,Gf] at z;rw[c9,<-z]
    refine⟨λZ hs=>⟨λh2=>⟨λQ=>G (by simp[Q]),λQ=> ?_⟩,λh2=>G (by simp;intro _ h9;omega)⟩,λZ=>G (by simp[Z])⟩;rw[G8] at Q;have aa:x.Sides.length=4:=by omega
    refine AR.old ⟨{j:Nat//j<=4/\(x.Sides.drop j).all (λg=>Bf g 0 a.Glues.length)=x.Sides.all (λg=>Bf g 0 a.Glues.length)},λj=>⟨[(7,.im (.int .i64 j.1)),(5,.im (.int .i64 k)),(6,.ptr 1 0),(2,.im (.bool false)),(0,.ptr 0 0)],[(1,(true,.cells 195 ((Tile.c x).map .im))),(0,(false,.view (A8.c a)))],2⟩,λj=>4 - j.1,λj=>⟨by simp[ZG,Tile.c],by simp⟩,⟨⟨0,by simp⟩,by simp only[ZA,simprocAttr,sub]⟩,λj=> ?_⟩;obtain⟨j,ad,O⟩:=j;simp only[ZA,simprocAttr,l00In.q,l00In.fv,sub,AM];refine⟨λhj=>⟨by omega,λy hy=> ?_⟩,λhj=>GH hk ht ⟨by omega,?_⟩⟩
    .rw[E5 hy,KP] at O;refine⟨λh=>G ?_,λh=>⟨⟨j+1,by omega,?_⟩,by simp only;omega,?_⟩⟩
     .rw[h,Gf] at O;rw[<-O];simp
     .rw[I1] at h;rw[h,F2] at O;exact O
     .rw[AB (by omega) (by omega)];simp only;omega
    .rw[CO (by omega)] at O;rw[<-z,<-O,Z,aa,Q];simp
   .rw[CO (by omega),Jn] at z;rw[c9,<-z]
 .have: ¬(1:Int)<=a.Tiles.length:=by omega
  simp[Eu,Bf,this]
 .have: ¬a.Glues.length<=200:=by omega
  simp[Eu,this]
def VS1.fv(a:Int×A8):Bool:=(λg s=> !Bf g 0 s.Glues.length) (a.1) (a.2)
def VS1.row:Ax:=vK (b2 qI (qP 2 A8.d_le)) rB (λa=>True) VS1.fv
def VS1.q:=AX (R:=VS1.row) rfl
def VS1.ok:AA 203 VS1.row:=by
 refine vw (tC within_.ok tN) Tryz.func203 ?_;intro a z;simp only[Tryz.f203];simp only[ZA,simprocAttr,VS1.fv,within_.q,within_.fv];intro _;trivial
def IdxVS.ar:List PK->Option ((List Int)×A8)
 |[.val (.sl _ _ O),.val (.fn 203 [] [.ref z])]=>(AQ Dy O).bind λQ=>(A8.d (z.take 2)).bind λG=>some (Q,G)
 |_=>none
def IdxVS.ae(a:(List Int)×A8):List PK:=[.val (.sl false 1 (a.1.map Ao)),.val (.fn 203 [] [.ref (A8.c a.2)])]
def IdxVS.le: ∀G a,IdxVS.ar G=some a->BM G (IdxVS.ae a):=by
 intro G a h;unfold IdxVS.ar at h;split at h
 .simp only[EP,AI] at h;obtain⟨Q,h0,O,z,rfl⟩:=h;exact⟨E4 (Et FK _ _ h0) (by simp only[BI];rintro r ⟨y,_,rfl⟩;rfl),WM ⟨Vo (GD.trans_take (A8.d_le _ _ z)),trivial⟩,trivial⟩
 .cases h
def IdxVS.fv(a:(List Int)×A8):Int:=(λl s=>B0 (λg=> !Bf g 0 s.Glues.length) 0 l) (a.1) (a.2)
def IdxVS.row:Ax:=FH IdxVS.ar (λa=>True) (λa=>(D.int .i64) (IdxVS.fv a))
def IdxVS.q:=vq IdxVS.row rfl
def IdxVS.ok:AA 201 IdxVS.row:=by
 refine bT CS (tC VS1.ok tN) Tryz.func201 rfl (by kernel_rfl) (by kernel_rfl) (ar:=IdxVS.ar) (ae:=IdxVS.ae) IdxVS.le (n:=2) (λ_=>rfl) (by decide) (rc:=(DJ)) (re:=(D.int .i64)) (Nf) (f:=IdxVS.fv) ?_;intro a O;simp only[Tryz.f201];simp only[ZA,simprocAttr,IdxVS.ae,IdxVS.fv];intro hn;refine AR.old ⟨{k:Nat//k<=a.1.length/\B0 (λg:Int=> !Bf g 0 a.2.Glues.length) k (a.1.drop k)=B0 (λg:Int=> !Bf g 0 a.2.Glues.length) 0 a.1},λk=>⟨[(8,.im (.int .i64 k.1)),(7,.im (.int .i64 a.1.length)),(6,.im (.sl false 1 (a.1.map Ao))),(4,.im (.int .i64 0)),(0,.im (.sl false 1 (a.1.map Ao))),(1,.im (.fn 203 [] [.ref (A8.c a.2)]))],[],0⟩,λk=>a.1.length - k.1,λk=>⟨by simp[ZG],AF _⟩,⟨⟨0,by simp⟩,by simp only[ZA,simprocAttr,sub]⟩,λk=> ?_⟩;obtain⟨k,Q,z⟩:=k;simp only[ZA,simprocAttr,VS1.q,VS1.fv,sub,AM];refine⟨λG=>⟨G,λx Z=> ?_⟩,λG=> ?_⟩
 .rw[E5 Z,B0] at z;refine⟨λh=> ?_,λh=>GH G hn ⟨by omega,by rw[<-z,Ad (by simpa using h)]⟩⟩;rw[Ai (by simpa using h)] at z;exact z
 .rw[CO (by omega),B0] at z;exact z
def ContVS.ar:List PK->Option ((List Int)×A8)
 |[.val (.sl _ _ O),.val (.fn 203 [] [.ref z])]=>(AQ Dy O).bind λQ=>(A8.d (z.take 2)).bind λG=>some (Q,G)
 |_=>none
def ContVS.ae(a:(List Int)×A8):List PK:=[.val (.sl false 1 (a.1.map Ao)),.val (.fn 203 [] [.ref (A8.c a.2)])]
def ContVS.le: ∀G a,ContVS.ar G=some a->BM G (ContVS.ae a):=by
 intro G a h;unfold ContVS.ar at h;split at h
 .simp only[EP,AI] at h;obtain⟨Q,h0,O,z,rfl⟩:=h;exact⟨E4 (Et FK _ _ h0) (by simp only[BI];rintro r ⟨y,_,rfl⟩;rfl),WM ⟨Vo (GD.trans_take (A8.d_le _ _ z)),trivial⟩,trivial⟩
 .cases h
def ContVS.fv(a:(List Int)×A8):Bool:=(λl s=>l.any (λg=> !Bf g 0 s.Glues.length)) (a.1) (a.2)
def ContVS.row:Ax:=FH ContVS.ar (λa=>True) (λa=>(D.bool) (ContVS.fv a))
def ContVS.q:=vq ContVS.row rfl
def ContVS.ok:AA 155 ContVS.row:=by
 refine bT CS (tC IdxVS.ok tN) Tryz.func155 rfl (by kernel_rfl) (by kernel_rfl) (ar:=ContVS.ar) (ae:=ContVS.ae) ContVS.le (n:=2) (λ_=>rfl) (by decide) (rc:=(VL)) (re:=(D.bool)) (pJ) (f:=ContVS.fv) ?_;intro a z;simp only[Tryz.f155];simp only[ZA,simprocAttr,ContVS.ae,ContVS.fv,IdxVS.q,IdxVS.ar,IdxVS.fv];exact LI _ _
def JJ(z:List ByteArray):List (D×D):=z.map λn=>(.str n,.bool true)
def vQ(n m:ByteArray):(n==m)=decide (n=m):=by
 rw[Qpj]
def LS(n:ByteArray): ∀(z:List ByteArray),(n∈z->lk (JJ z) (.str n)=some (.bool true))/\(n∉z->lk (JJ z) (.str n)=none)
 |[]=>⟨λh=>by simp at h,λ_=>rfl⟩
 |m::r=>by
  obtain⟨G,O⟩:=LS n r;simp only[JJ] at G O;simp only[JJ,Bb,lk,D.beq,Bx,vQ];by_cases h:n=m
  .simp[h]
  .simp only[h,Zfu,Ct,false_or];exact⟨G,O⟩
def Qum(n:ByteArray)(G:List ByteArray)(Ks:D->Prop)(Kn:Prop):FX (JJ G) (.str n) Ks Kn=((n∈G->Ks (.bool true))/\(n∉G->Kn)):=by
 obtain⟨Z,i2⟩:=LS n G;apply propext;unfold FX;constructor
 .rintro⟨O,Q⟩;exact⟨λh=>O _ (Z h),λh=>Q (i2 h)⟩
 .rintro⟨O,Q⟩;by_cases h:n∈G
  .refine⟨λv z=> ?_,λz=> ?_⟩
   .rw[Z h] at z;exact Aw z▸O h
   .rw[Z h] at z;cases z
  .refine⟨λv z=> ?_,λ_=>Q h⟩;rw[i2 h] at z;cases z
def tJ(n:ByteArray): ∀(z:List ByteArray),n∉z->Gu (JJ z) (.str n) (.bool true)=JJ (z++[n])
 |[],_=>rfl
 |m::r,h=>by
  simp only[Bx,ZU] at h
  have:=tJ n r h.2
  simp only[JJ] at this;simp only[JJ,Bb,Gu,D.beq,vQ,h.1,Zfu,Ct,CW,this]
def nE{A:Type}(f:A->ByteArray)(l:List A)(k:Nat)(x:A)(hx:l[k]? =some x):B0 (λy=>decide (f y=f x)) 0 l=(k:Int)↔f x∉(l.take k).map f:=by
 constructor
 .intro h hm;obtain⟨y,hy,O⟩:=BI.1 hm;obtain⟨i,Q,aa⟩:=fE.1 hy;have ab:i<k:=by simp at Q;omega
  have Z:l[i]? =some y:=by
   rw[<-aa,List.getElem_take];exact Bd _
  have G: ∀(l:List A) (o i:Nat) (y:A),l[i]? =some y->(decide (f y=f x))=true->B0 (λy=>decide (f y=f x)) o l<=((o+i:Nat):Int):=by
   intro l;induction l with
   |nil=>intro o i y h;simp at h
   |cons z r ih=>
    intro o i y h hp;simp only[B0];split
    .omega
    .rename_i hz;cases i with
     |zero=>
      simp only[G4,AI] at h;subst h;exact absurd hp hz
     |succ i=>
      have:=ih (o+1) i y (by simpa using h) hp
      omega
  have:=G l 0 i y Z (by simpa using O)
  omega
 .intro h;rw[Qtf _ l 0 k x hx (by simp) ?_]
  .simp
  .intro i y Q hy;simp only[Ho];intro O;apply h;rw[<-O];refine BI.2 ⟨y,?_,rfl⟩;exact AP (i:=i) (by rw[KM,Ai Q];exact hy)
def Zn(s:A8):Prop:=(∀g∈s.Glues,g.Name.size<=140737488355328)/\ ∀t∈s.Tiles,t.Name.size<=140737488355328
def ValidSet_.fv(a:A8):Bool:=(Eu) a
def ValidSet_.row:Ax:=vK (b1 (qR A8.d_le)) rB (λa=>Zn a) ValidSet_.fv
def ValidSet_.q:=AX (R:=ValidSet_.row) rfl
def ValidSet_.ok:AA 157 ValidSet_.row:=by
 refine vw (tC within_.ok (tC impl_IsName.ok (tC ContVS.ok tN))) Tryz.func157 ?_;intro a ab;simp only[Tryz.f157];simp only[ZA,simprocAttr,ValidSet_.fv,within_.q,within_.fv];obtain⟨ad,af⟩:=ab;intro hg;simp only[AM];refine⟨λc1 ht=>⟨λc2=> ?_,λc2 _=> ?_⟩,λc1=> ?_⟩
 .simp[Eu,c2]
 .rw[I1] at c2;have c0:Eu a=(K9 a 0 a.Glues && Jn a 0 a.Tiles):=by
   have e1:a.Glues.length<=200:=by omega
   simp[Eu,e1,c2]
  refine AR.old ⟨{k:Nat//k<=a.Glues.length/\K9 a k (a.Glues.drop k)=K9 a 0 a.Glues},λk=>⟨[(24,.im (.int .i64 k.1)),(23,.im (.int .i64 a.Glues.length)),(22,.im (.sl false 2 (a.Glues.map Av.c))),(3,.mp 1),(1,.ptr 0 0),(2,.im (.bool false))],[(1,(true,.map ⟨false,[.str]⟩ (JJ ((a.Glues.take k.1).map Av.Name)))),(0,(true,.cells 38 ((A8.c a).map .im)))],2⟩,λk=>a.Glues.length - k.1,λk=>⟨by simp[ZG,A8.c],AF _⟩,⟨⟨0,by simp⟩,by simp only[ZA,simprocAttr,sub,JJ]⟩,λk=> ?_⟩;obtain⟨k,ac,z⟩:=k;simp only[ZA,simprocAttr,within_.q,within_.fv,impl_IsName.q,impl_IsName.fv,sub,AM,Qum];refine⟨λhk=>⟨hk,λx Q=>⟨ad x (AP Q),?_⟩⟩,λhk _=> ?_⟩
  .rw[E5 Q,K9] at z;have hu:=nE Av.Name a.Glues k x Q;have G:(Iy x.Name && (Bf x.Strength 1 4 && decide (B0 (λg:Av=>decide (g.Name=x.Name)) 0 a.Glues=k)))=false->false=Eu a:=by
    intro h;rw[h,Gf] at z;rw[c0,<-z];rfl
   refine⟨λZ=>⟨λO=>G ?_,λO=>⟨λh3=>G (by simp[h3]),λh3=>⟨⟨k+1,by omega,?_⟩,by simp only;omega,?_,?_⟩⟩⟩,λZ=>G (by simp[Z])⟩
   .simp only[Zep,Ho];exact .inr (.inr λh9=>(hu.1 h9) O)
   .rw[I1] at h3;rw[Z,h3,hu.2 O] at z;simpa using z
   .rw[AB (by omega) (by omega)];simp only;omega
   .rw[tJ _ _ O,G9,Q];simp
  .rw[CO (by omega),K9] at z;have c9:Eu a=Jn a 0 a.Tiles:=by rw[c0,<-z,F2]
   refine AR.frz [0] ⟨{k:Nat//k<=a.Tiles.length/\Jn a k (a.Tiles.drop k)=Jn a 0 a.Tiles},λk=>⟨[(52,.im (.int .i64 k.1)),(51,.im (.int .i64 a.Tiles.length)),(50,.im (.sl false 2 (a.Tiles.map Tile.c))),(6,.mp 2),(1,.ptr 0 0),(2,.im (.bool false))],[(2,(true,.map ⟨false,[.str]⟩ (JJ ((a.Tiles.take k.1).map Tile.Name)))),(0,(false,.cells 38 ((A8.c a).map .im)))],3⟩,λk=>a.Tiles.length - k.1,λk=>⟨by simp[ZG,A8.c],AF _⟩,⟨⟨0,by simp⟩,by simp only[ZA,simprocAttr,sub,JJ]⟩,λk=> ?_⟩;obtain⟨k,ac,z⟩:=k;simp only[ZA,simprocAttr,impl_IsName.q,impl_IsName.fv,ContVS.q,ContVS.ar,ContVS.fv,sub,AM,Qum];refine⟨λhk=>⟨hk,λx Q=>⟨af x (AP Q),?_⟩⟩,λhk=> ?_⟩
   .rw[E5 Q,Jn] at z;have hu:=nE Tile.Name a.Tiles k x Q;have G:(Iy x.Name && (decide (x.Sides.length=4) && (decide (B0 (λy:Tile=>decide (y.Name=x.Name)) 0 a.Tiles=k) && x.Sides.all (λg=>Bf g 0 a.Glues.length))))=false->false=Eu a:=by
     intro h;rw[h,Gf] at z;rw[c9,<-z]
    have aa:(x.Sides.any λg=> !Bf g 0 a.Glues.length)= !x.Sides.all (λg=>Bf g 0 a.Glues.length):=by
     simp[List.not_all_eq_any_not]
    rw[aa];refine⟨λZ=>⟨λO=>G ?_,λO _=>⟨λh3=>G ?_,λh3=>⟨λh4=>G ?_,λh4=>⟨⟨k+1,by omega,?_⟩,by simp only;omega,?_,?_⟩⟩⟩⟩,λZ=>G (by simp[Z])⟩
    .simp only[Zep,Ho];exact .inr (.inr (.inl λh9=>(hu.1 h9) O))
    .have: ¬x.Sides.length=4:=by omega
     simp[this]
    .simp only[JP] at h4;simp only[h4,lY]
    .have h5:x.Sides.length=4:=by omega
     simp only[JP,I1] at h4;rw[Z,h5,hu.2 O,h4] at z;simpa using z
    .rw[AB (by omega) (by omega)];simp only;omega
    .rw[tJ _ _ O,G9,Q];simp
   .rw[CO (by omega),Jn] at z;rw[c9,<-z]
 .have: ¬a.Glues.length<=200:=by omega
  simp[Eu,this]
def FM(s:A8)(a:Ab):Bool:=(Ck none a.Tiles && decide (a.Tiles.length<=500)) && a.Tiles.all (λx=>Bf x.Tile 0 (s.Tiles.length - 1))
def ValidAssembly_.fv(a:A8×Ab):Bool:=(λs a=>Eu s && FM s a) (a.1) (a.2)
def ValidAssembly_.row:Ax:=vK (b2 (qR A8.d_le) (qR Ab.d_le)) rB (λa=>Zn a.1) ValidAssembly_.fv
def ValidAssembly_.q:=AX (R:=ValidAssembly_.row) rfl
def ValidAssembly_.ok:AA 109 ValidAssembly_.row:=by
 refine vw (tC ValidSet_.ok (tC hasForm_.ok (tC ContVA.ok tN))) Tryz.func109 ?_;intro a z;simp only[Tryz.f109];simp only[ZA,simprocAttr,Ab.d,ValidAssembly_.fv,ValidSet_.q,ValidSet_.fv,hasForm_.q,hasForm_.fv,ContVA.q,ContVA.ar,ContVA.fv];refine⟨z,?_⟩
 split<;>rename_i O
 .split<;>rename_i G
  .simp[O,FM,G.1,G.2,List.not_any_eq_all_not]
  .have Q:(Ck none a.2.Tiles && decide (a.2.Tiles.length<=500))=false:=by
    rw[Rf];intro h;simp only[AO,Bo] at h;exact G h
   simp[FM,Q]
 .simp[O]
def comparePlaced.fv(a:Aj×Ac):Int:=(λa p=>HQ [CD a.At.Y p.Y,CD a.At.X p.X]) (a.1) (a.2)
def comparePlaced.row:Ax:=vK (b2 (qR Aj.d_le) (qR Ac.d_le)) rI (λa=>True) comparePlaced.fv
def comparePlaced.q:=AX (R:=comparePlaced.row) rfl
def comparePlaced.ok:AA 120 comparePlaced.row:=by
 refine vw (tC comparePoints.ok tN) Tryz.func120 ?_;intro a z;simp only[Tryz.f120];simp only[ZA,simprocAttr,comparePlaced.fv,comparePoints.q,comparePoints.fv]
def ER(l:List Aj)(p:Ac):Nat:=(l.takeWhile (λx=>Bj x.At p)).length
def Qyx(p:Ac): ∀(l:List Aj) (lo:Nat),lo<=l.length->(∀(i:Nat) (x:Aj),i<lo->l[i]? =some x->Bj x.At p=true)->(∀(i:Nat) (x:Aj),lo<=i->l[i]? =some x->Bj x.At p=false)->ER l p=lo
 |[],lo,h,_,_=>by simp at h;simp[ER,h]
 |x::r,0,_,_,h=>by
  have:=h 0 x (by omega) (by simp)
  simp[ER,this]
 |x::r,lo+1,hl,G,Q=>by
  have Z:=G 0 x (by omega) (by simp);have O:=Qyx p r lo (by simpa using hl) (λi y hi z=>G (i+1) y (by omega) (by simpa using z)) (λi y hi z=>Q (i+1) y (by omega) (by simpa using z));simp only[ER] at O;simp[ER,Z,O]
def R8(a b:Ac):(HQ [CD a.Y b.Y,CD a.X b.X]<0)↔Bj a b=true:=by
 simp only[Bj,HQ,CD]
 grind
def gB(a b:Ac):(HQ [CD a.Y b.Y,CD a.X b.X]=0)↔a=b:=by
 obtain⟨x,y⟩:=a;obtain⟨z,w⟩:=b;simp only[HQ,CD,Ac.mk.injEq]
 grind
def midU(lo z:Nat)(h:lo+z<=562949953421312):IntKind.wrap .i64 ((IntKind.wrap .u64 (IntKind.wrap .i64 ((lo:Int)+z))).fdiv (2^min 1 IntKind.u64.bits))=(((lo+z)/2:Nat):Int):=by
 rw[AB (x:=(lo:Int)+z) (by omega) (by omega)];have G:IntKind.wrap .u64 ((lo:Int)+z)=(lo:Int)+z:=by
  simp only[IntKind.wrap,IntKind.signed,IntKind.bits];simp;omega
 have O:(2:Int)^min 1 IntKind.u64.bits=2:=by decide
 rw[G,O,ZeI _ (by omega),AB (by omega) (by omega)];omega
def BinP.ar:List PK->Option ((List Aj)×Ac×Unit)
 |[.val (.sl _ _ z),.val (.agg G),.val (.fn 120 [] [])]=>(AQ Aj.d z).bind λO=>(Ac.d G).bind λQ=>some (O,Q,())
 |_=>none
def BinP.ae(a:(List Aj)×Ac×Unit):List PK:=[.val (.sl false 3 (a.1.map Aj.c)),.val (.agg (Ac.c a.2.1)),.val (.fn 120 [] [])]
def BinP.le: ∀z a,BinP.ar z=some a->BM z (BinP.ae a):=by
 intro z a h;unfold BinP.ar at h;split at h
 .simp only[EP,AI] at h;obtain⟨O,h0,Q,G,rfl⟩:=h;exact⟨E4 (Et Aj.d_le _ _ h0) (by simp only[BI];rintro r ⟨y,_,rfl⟩;rfl),Zf (Ac.d_le _ _ G),C9.refl _,trivial⟩
 .cases h
def BinP.fv(a:(List Aj)×Ac×Unit):Int×Bool:=(λl p _=>((ER l p:Int),l.any (λx=>decide (x.At=p)))) (a.1) (a.2.1) (a.2.2)
def BinP.row:Ax:=FH BinP.ar (λa=>Ck none a.1=true) (λa=>(λb=>D.tup [(D.int .i64) (b.1),(D.bool) (b.2)]) (BinP.fv a))
def BinP.q:=vq BinP.row rfl
def BinP.ok:AA 119 BinP.row:=by
 refine bT CS (tC comparePlaced.ok tN) Tryz.func119 rfl (by kernel_rfl) (by kernel_rfl) (ar:=BinP.ar) (ae:=BinP.ae) BinP.le (n:=3) (λ_=>rfl) (by decide) (rc:=(jT (DJ) (VL))) (re:=(λb=>D.tup [(D.int .i64) (b.1),(D.bool) (b.2)])) (Qbz (Nf) (pJ)) (f:=BinP.fv) ?_;intro a af;simp only[Tryz.f119];simp only[ZA,simprocAttr,BinP.ae,BinP.fv];intro hn;refine AR.old ⟨{p:Nat×Nat//p.1<=p.2/\p.2<=a.1.length/\(∀i x,i<p.1->a.1[i]? =some x->Bj x.At a.2.1=true)/\(∀i x,p.2<=i->a.1[i]? =some x->Bj x.At a.2.1=false)},λp=>⟨[(9,.im (.int .i64 p.1.1)),(10,.im (.int .i64 p.1.2)),(8,.im (.int .i64 a.1.length)),(6,.im (.int .i64 0)),(7,.im (.bool false)),(4,.ptr 0 0),(0,.im (.sl false 3 (a.1.map Aj.c))),(2,.im (.fn 120 [] []))],[(0,(true,.cells 70 [.im (.int .i64 a.2.1.X),.im (.int .i64 a.2.1.Y)]))],1⟩,λp=>p.1.2 - p.1.1,λp=>⟨by simp[ZG],AF _⟩,⟨⟨(0,a.1.length),by simp,by simp,by simp,?_⟩,by simp only[ZA,simprocAttr,sub]⟩,λp=> ?_⟩
 .intro i x hi Q
  have:=(BJ.1 Q).1
  simp only at hi;omega
 obtain⟨⟨lo,hi⟩,h1,h2,h3,h4⟩:=p;simp only at h1 h2 h3 h4;simp only[ZA,simprocAttr,comparePlaced.q,comparePlaced.fv,sub,AM];obtain⟨_,O⟩:=jO _ _ af;have ad: ∀(i:Nat) (x:Aj),i<lo->a.1[i]? =some x->x.At≠a.2.1:=by
  intro i x hi Q he
  have:=h3 i x hi Q
  rw[he,kX] at this;cases this
 rw[midU lo hi (by omega)];simp only[R8,gB];refine⟨λag=> ?_,λag=>⟨λhl=>⟨hl,λx Q=> ?_⟩,λhl=> ?_⟩⟩
 .refine⟨by omega,by omega,λx Q=>⟨λhb=> ?_,λhb=> ?_⟩⟩
  .rw[BD] at Q;refine⟨⟨((lo+hi)/2+1,hi),by simp only;omega,h2,λi y G Z=> ?_,h4⟩,by simp only;omega,?_,rfl⟩
   .simp only at G;rcases EI i ((lo+hi)/2) with h|h
    .exact dS (O i _ y x h Z Q) hb
    .have:i=(lo+hi)/2:=by omega
     subst this;rw[Q] at Z;exact Aw Z▸hb
   .rw[AB (by omega) (by omega)];simp only;omega
  .rw[BD] at Q;refine⟨⟨(lo,(lo+hi)/2),by simp only;omega,by simp only;omega,h3,λi y G Z=> ?_⟩,by simp only;omega,rfl,rfl⟩;simp only at G;rcases EI ((lo+hi)/2) i with h|h
   .cases hl:Bj y.At a.2.1 with
    |false=>rfl
    |true=>exact absurd (dS (O _ i x y h Q Z) hl) hb
   .have:i=(lo+hi)/2:=by omega
    subst this;rw[Q] at Z;obtain rfl:=Aw Z;simpa using hb
 .have aa:=Qyx a.2.1 a.1 lo (by omega) h3 (λi y G Z=>h4 i y (by omega) Z);refine⟨by rw[aa],?_⟩;rw[V6];simp only[Bo,uK];refine⟨λhe=>⟨x,AP Q,he⟩,?_⟩;rintro⟨y,Z,he⟩;obtain⟨i,G,ac⟩:=fE.1 Z;have z:a.1[i]? =some y:=by rw[Bd G,ac]
  rcases lV i lo with h|h|h
  .exact absurd he (ad i y h z)
  .subst h;rw[Q] at z;exact Aw z▸he
  .have ab:=O lo i x y h Q z;rw[he] at ab
   have:=h4 lo x (by omega) Q
   rw[this] at ab;cases ab
 .have aa:=Qyx a.2.1 a.1 lo (by omega) h3 (λi y G Z=>h4 i y (by omega) Z);refine⟨by rw[aa],?_⟩;symm;simp only[List.any_eq_false,Bo];intro y Z he;obtain⟨i,G,ac⟩:=fE.1 Z;have z:a.1[i]? =some y:=by rw[Bd G,ac]
  exact ad i y (by omega) z he
def Oa{l:List Aj}{p:Ac}(h:Ck none l=true){i:Nat}{x:Aj}(O:l[i]? =some x)(Q:x.At=p):ER l p=i:=by
 obtain⟨_,z⟩:=jO _ _ h;have hi:=(BJ.1 O).1;refine Qyx p l i (by omega) (λj y hj G=> ?_) (λj y hj G=> ?_)
 .have:=z j i y x hj G O
  rwa [Q] at this
 .rcases EI i j with Z|Z
  .have h2:=z i j x y Z O G;rw[Q] at h2;cases h3:Bj y.At p with
   |false=>rfl
   |true=>
    have:=dS h2 h3
    rw[kX] at this;cases this
  .have:j=i:=by omega
   subst this;rw[O] at G;obtain rfl:=Aw G;rw[Q,kX]
def Qz4{l:List Aj}{p:Ac}(h:Ck none l=true):(l.any (λx=>decide (x.At=p))=true/\ ∃x,l[ER l p]? =some x/\x.At=p/\l.find? (λx=>decide (x.At=p))=some x/\B0 (λx=>decide (x.At=p)) 0 l=(ER l p:Int))\/
 (l.any (λx=>decide (x.At=p))=false/\l.find? (λx=>decide (x.At=p))=none/\B0 (λx=>decide (x.At=p)) 0 l= -1):=by
 rcases Vk (λx=>decide (x.At=p)) l 0 with ⟨z,G⟩|⟨i,x,z,G,O⟩
 .refine .inr ⟨?_,z,G⟩;simpa[Re] using z
 .have Q:x.At=p:=by simpa using V8 z
  have Z:=Oa h O Q;refine .inl ⟨?_,x,by rw[Z];exact O,Q,z,by rw[G,Z,Fj]⟩;simp only[uK,Bo];exact⟨x,AP O,Q⟩
def at_.fv(a:Ab×Ac):Int:=(Bq) (a.1) (a.2)
def at_.row:Ax:=vK (b2 (qR Ab.d_le) (qR Ac.d_le)) rI (λa=>Ck none a.1.Tiles=true) at_.fv
def at_.q:=AX (R:=at_.row) rfl
def at_.ok:AA 85 at_.row:=by
 refine vw (tC BinP.ok tN) Tryz.func85 ?_;intro a z;simp only[Tryz.f85];simp only[ZA,simprocAttr,at_.fv,BinP.q,BinP.ar,BinP.fv];refine⟨z,?_⟩;rcases Qz4 (p:=a.2) z with ⟨O,x,G,Z,h4,h5⟩|⟨O,G,Z⟩
 .rw[Ai O];refine⟨(BJ.1 G).1,λy Q=> ?_⟩;rw[G] at Q;obtain rfl:=Aw Q;simp[Bq,h4]
 .rw[O,Ad (by simp)];simp[Bq,G]
def placeAt.rc:D->Option (Int):=DJ
def placeAt.re:Int->D:=D.int .i64
def placeAt.rle: ∀d b,placeAt.rc d=some b->Le d (placeAt.re b):=Nf
def placeAt.fv(a:Ab×Ac):Int:=(λa p=>B0 (λx=>decide (x.At=p)) 0 a.Tiles) (a.1) (a.2)
def placeAt.row:Ax:=vK (b2 (qR Ab.d_le) (qR Ac.d_le)) (RK.mk placeAt.rc placeAt.re placeAt.rle) (λa=>Ck none a.1.Tiles=true) placeAt.fv
def placeAt.q:=AX (R:=placeAt.row) rfl
def placeAt.ok:AA 295 placeAt.row:=by
 refine vw (tC BinP.ok tN) Tryz.func295 ?_;intro a z;simp only[Tryz.f295];simp only[ZA,simprocAttr,placeAt.fv,placeAt.rc,BinP.q,BinP.ar,BinP.fv];refine⟨z,?_⟩;rcases Qz4 (p:=a.2) z with ⟨G,x,Q,O,h4,Z⟩|⟨G,Q,O⟩
 .rw[Ai G,Z]
 .rw[G,Ad (by simp),O]
def B6{β:Type}:List (Ac×β)->Ac->Option β
 |[],_=>none
 |(k,v)::r,p=>if p=k then some v else B6 r p
def Kw(p q:Ac):D.beql (Ac.c p) (Ac.c q)=decide (p=q):=by
 cases p;cases q;simp only[Ac.c,D.beql,D.beq,Ac.mk.injEq,F1];rw[V6];simp
def aN{β:Type}(e:Ac×β->D×D)(g:β->D)(z: ∀p,e p=(.agg (Ac.c p.1),g p.2))(x y:Int): ∀(l:List (Ac×β)),lk (l.map e) (.agg [.int .i64 x,.int .i64 y])=(B6 l ⟨x,y⟩).map g
 |[]=>rfl
 |q::r=>by
  have G:D.beq (.agg [.int .i64 x,.int .i64 y]) (.agg (Ac.c q.1))=decide ((⟨x,y⟩:Ac)=q.1):=Kw ⟨x,y⟩ q.1;obtain⟨k,v⟩:=q;simp only[Bb,z,lk,B6,G];by_cases h:(⟨x,y⟩:Ac)=k
  .simp[h]
  .simp[h,aN e g z x y r]
def LP{β:Type}(e:Ac×β->D×D)(g:β->D)(Q: ∀p,e p=(.agg (Ac.c p.1),g p.2))(x y:Int)(l:List (Ac×β))(Ks:D->Prop)(Kn:Prop):
 FX (l.map e) (.agg [.int .i64 x,.int .i64 y]) Ks Kn=((∀v,B6 l ⟨x,y⟩=some v->Ks (g v))/\(B6 l ⟨x,y⟩=none->Kn)):=by
 apply propext;unfold FX;rw[aN e g Q];constructor
 .rintro⟨G,O⟩;exact⟨λv z=>G _ (by rw[z];rfl),λh=>O (by rw[h];rfl)⟩
 .rintro⟨G,O⟩;refine⟨λv z=> ?_,λh=>O (by simpa using h)⟩;simp only[CX] at z;obtain⟨w,Z,rfl⟩:=z;exact G w Z
def Ya(x y:Int)(l:List (Ac×Int))(Ks:D->Prop)(Kn:Prop):FX (l.map Gx) (.agg [.int .i64 x,.int .i64 y]) Ks Kn=((∀v,B6 l ⟨x,y⟩=some v->Ks (.int .i64 v))/\(B6 l ⟨x,y⟩=none->Kn)):=
 LP Gx (.int .i64) (λ_=>rfl) x y l Ks Kn
def Yb(x y:Int)(l:List (Ac×List Int))(Ks:D->Prop)(Kn:Prop):FX (l.map DL) (.agg [.int .i64 x,.int .i64 y]) Ks Kn=((∀v,B6 l ⟨x,y⟩=some v->Ks (.sl false 1 (v.map Ao)))/\(B6 l ⟨x,y⟩=none->Kn)):=
 LP DL (λv=> .sl false 1 (v.map Ao)) (λ_=>rfl) x y l Ks Kn
def Cl(l:List (Ac×Int))(p:Ac):Int:=(B6 l p).getD (-1)
def catC.fv(a:AW×Ac):Int:=(λc p=>Cl c.Tl p) (a.1) (a.2)
def catC.row:Ax:=Fv (b2 (qP 6 AW.d_le) (qR Ac.d_le)) rI (λa=>True) catC.fv
def catC.q:=CR (R:=catC.row) rfl
def catC.ok:AA 113 catC.row:=by
 refine HJ tN Tryz.func113 ?_;intro a G;simp only[Tryz.f113];simp only[ZA,simprocAttr,catC.fv,D.sc,D.scs,Bt];simp only[ZA,simprocAttr,D.sc,D.scs,Bt,Ya];simp only[Cl];exact⟨λv z=>by rw[show B6 a.1.Tl a.2=some v from z];rfl,λz=>by rw[show B6 a.1.Tl a.2=none from z];rfl⟩
def PW(s:A8)(f:Ac->Int)(p:Ac)(t:Int)(d:Int):Int:=if 0<=f (Cm p d) then JD s t d (f (Cm p d)) else 0
def EO(s:A8)(f:Ac->Int)(p:Ac)(t:Int):Nat->Int
 |0=>0
 |k+1=>EO s f p t k+PW s f p t k
def Qy(s:A8)(a:Ab)(p:Ac)(t:Int): ∀k,EO s (Bq a) p t k=Jq s a p t k
 |0=>rfl
 |k+1=>by simp only[EO,Jq,Qy s a p t k];rfl
def aE(s:A8)(f:Ac->Int):Prop:= ∀p,0<=f p->FN s (f p)
def Qxd{s:A8}(h:BG s)(f:Ac->Int)(p:Ac)(t d:Int):0<=PW s f p t d/\PW s f p t d<=4:=by
 simp only[PW,JD];split
 .split
  .exact Qp1 h _
  .omega
 .omega
def Qwy{s:A8}(h:BG s)(f:Ac->Int)(p:Ac)(t:Int): ∀(k:Nat),0<=EO s f p t k/\EO s f p t k<=4*k
 |0=>by simp[EO]
 |k+1=>by
  have z:=Qwy h f p t k;have G:=Qxd h f p t k;simp only[EO];omega
def bindC.ar:List PK->Option (A8×Ac×Int×AW)
 |[.val (.agg z),.val (.agg G),.val (.int .i64 O),.val (.fn 113 [.ref Q] [])]=>(A8.d z).bind λZ=>(Ac.d G).bind λy1=>(AW.d (Q.take 6)).bind λy3=>some (Z,y1,O,y3)
 |_=>none
def bindC.ae(a:A8×Ac×Int×AW):List PK:=[.val (.agg (A8.c a.1)),.val (.agg (Ac.c a.2.1)),.val (.int .i64 a.2.2.1),.val (.fn 113 [.ref (AW.c a.2.2.2)] [])]
def bindC.le: ∀z a,bindC.ar z=some a->BM z (bindC.ae a):=by
 intro z a h;unfold bindC.ar at h;split at h
 .simp only[EP,AI] at h;obtain⟨Q,h0,Z,G,y3,O,rfl⟩:=h;exact⟨Zf (A8.d_le _ _ h0),Zf (Ac.d_le _ _ G),C9.refl _,SQ ⟨Vo (GD.trans_take (AW.d_le _ _ O)),trivial⟩,trivial⟩
 .cases h
def bindC.fv(a:A8×Ac×Int×AW):Int:=(λs p t c=>EO s (Cl c.Tl) p t 4) (a.1) (a.2.1) (a.2.2.1) (a.2.2.2)
def bindC.row:Ax:=KE bindC.ar (λa=>BG a.1/\aE a.1 (Cl a.2.2.2.Tl)/\GI a.2.1/\FN a.1 a.2.2.1) (λa=>(D.int .i64) (bindC.fv a))
def bindC.q:=mS bindC.row rfl
def bindC.ok:AA 114 bindC.row:=by
 refine jJ CS (tC step_.ok (tC bond_.ok (tC catC.ok tN))) Tryz.func114 rfl (by kernel_rfl) (by kernel_rfl) (ar:=bindC.ar) (ae:=bindC.ae) bindC.le (n:=4) (λ_=>rfl) (by decide) (rc:=(DJ)) (re:=(D.int .i64)) (Nf) (f:=bindC.fv) ?_;intro a z;simp only[Tryz.f114];simp only[ZA,simprocAttr,bindC.ae,bindC.fv];obtain⟨G,O,Q,Z⟩:=z;refine AR.old ⟨{k:Nat//k<=4},λk=>⟨[(12,.im (.int .i64 k.1)),(9,.im (.int .i64 (EO a.1 (Cl a.2.2.2.Tl) a.2.1 a.2.2.1 k.1))),(8,.im (.int .i64 0)),(5,.ptr 1 0),(4,.ptr 0 0),(2,.im (.int .i64 a.2.2.1)),(3,.im (.fn 113 [.ref (AW.c a.2.2.2)] []))],[(1,(true,.cells 70 [.im (.int .i64 a.2.1.X),.im (.int .i64 a.2.1.Y)])),(0,(true,.cells 38 ((A8.c a.1).map .im)))],2⟩,λk=>4 - k.1,λk=>⟨by simp[ZG,A8.c],AF _⟩,⟨⟨0,by simp⟩,by simp only[ZA,simprocAttr,sub,EO]⟩,λk=> ?_⟩;obtain⟨k,aa⟩:=k;simp only[ZA,simprocAttr,rch,step_.q,step_.fv,step_.re,bond_.q,bond_.fv,bond_.re,catC.q,catC.fv,D.sc,D.scs,Bt,sub,AM];have hb:=Qwy G (Cl a.2.2.2.Tl) a.2.1 a.2.2.1 k;have ht:=Qxd G (Cl a.2.2.2.Tl) a.2.1 a.2.2.1 k;refine⟨λhk=>⟨⟨Q,by omega⟩,λhp=>⟨⟨G,Z,⟨by omega,by omega⟩,O _ hp⟩,⟨⟨k+1,by omega⟩,by simp only;omega,?_,?_⟩⟩,λhp=>⟨⟨k+1,by omega⟩,by simp only;omega,?_,?_⟩⟩,λhk=> ?_⟩
 .rw[AB (by omega) (by omega)];simp only;omega
 .simp only[EO];simp only[PW,Ai hp] at ht⊢;rw[AB (by omega) (by omega)]
 .rw[AB (by omega) (by omega)];simp only;omega
 .simp only[EO,PW,Ad hp];omega
 .have:k=4:=by omega
  rw[this]
def bindA.ar:List PK->Option (A8×Ac×Int×Ab)
 |[.val (.agg z),.val (.agg G),.val (.int .i64 O),.val (.fn 85 [.agg Q] [])]=>(A8.d z).bind λZ=>(Ac.d G).bind λy1=>(Ab.d Q).bind λy3=>some (Z,y1,O,y3)
 |_=>none
def bindA.ae(a:A8×Ac×Int×Ab):List PK:=[.val (.agg (A8.c a.1)),.val (.agg (Ac.c a.2.1)),.val (.int .i64 a.2.2.1),.val (.fn 85 [.agg (Ab.c a.2.2.2)] [])]
def bindA.le: ∀z a,bindA.ar z=some a->BM z (bindA.ae a):=by
 intro z a h;unfold bindA.ar at h;split at h
 .simp only[EP,AI] at h;obtain⟨Q,h0,Z,G,y3,O,rfl⟩:=h;exact⟨Zf (A8.d_le _ _ h0),Zf (Ac.d_le _ _ G),C9.refl _,SQ ⟨Zf (Ab.d_le _ _ O),trivial⟩,trivial⟩
 .cases h
def bindA.fv(a:A8×Ac×Int×Ab):Int:=(λs p t c=>EO s (Bq c) p t 4) (a.1) (a.2.1) (a.2.2.1) (a.2.2.2)
def bindA.row:Ax:=KE bindA.ar (λa=>BG a.1/\aE a.1 (Bq a.2.2.2)/\GI a.2.1/\FN a.1 a.2.2.1/\Ck none a.2.2.2.Tiles=true) (λa=>(D.int .i64) (bindA.fv a))
def bindA.q:=mS bindA.row rfl
def bindA.ok:AA 114 bindA.row:=by
 refine jJ CS (tC step_.ok (tC bond_.ok (tC at_.ok tN))) Tryz.func114 rfl (by kernel_rfl) (by kernel_rfl) (ar:=bindA.ar) (ae:=bindA.ae) bindA.le (n:=4) (λ_=>rfl) (by decide) (rc:=(DJ)) (re:=(D.int .i64)) (Nf) (f:=bindA.fv) ?_;intro a z;simp only[Tryz.f114];simp only[ZA,simprocAttr,bindA.ae,bindA.fv];obtain⟨G,O,Q,Z,h5⟩:=z;refine AR.old ⟨{k:Nat//k<=4},λk=>⟨[(12,.im (.int .i64 k.1)),(9,.im (.int .i64 (EO a.1 (Bq a.2.2.2) a.2.1 a.2.2.1 k.1))),(8,.im (.int .i64 0)),(5,.ptr 1 0),(4,.ptr 0 0),(2,.im (.int .i64 a.2.2.1)),(3,.im (.fn 85 [.agg (Ab.c a.2.2.2)] []))],[(1,(true,.cells 70 [.im (.int .i64 a.2.1.X),.im (.int .i64 a.2.1.Y)])),(0,(true,.cells 38 ((A8.c a.1).map .im)))],2⟩,λk=>4 - k.1,λk=>⟨by simp[ZG,A8.c],AF _⟩,⟨⟨0,by simp⟩,by simp only[ZA,simprocAttr,sub,EO]⟩,λk=> ?_⟩;obtain⟨k,aa⟩:=k;simp only[ZA,simprocAttr,Ab.d,step_.q,step_.fv,step_.re,bond_.q,bond_.fv,bond_.re,at_.q,at_.fv,D.sc,D.scs,Bt,sub,AM];have hb:=Qwy G (Bq a.2.2.2) a.2.1 a.2.2.1 k;have ht:=Qxd G (Bq a.2.2.2) a.2.1 a.2.2.1 k;refine⟨λhk=>⟨⟨Q,by omega⟩,h5,λhp=>⟨⟨G,Z,⟨by omega,by omega⟩,O _ hp⟩,⟨⟨k+1,by omega⟩,by simp only;omega,?_,?_⟩⟩,λhp=>⟨⟨k+1,by omega⟩,by simp only;omega,?_,?_⟩⟩,λhk=> ?_⟩
 .rw[AB (by omega) (by omega)];simp only;omega
 .simp only[EO];simp only[PW,Ai hp] at ht⊢;rw[AB (by omega) (by omega)]
 .rw[AB (by omega) (by omega)];simp only;omega
 .simp only[EO,PW,Ad hp];omega
 .have:k=4:=by omega
  rw[this]
def binding_.row:Ax:=mQ bindC.row bindA.row
def binding_.ok:AA 114 binding_.row:=T3 bindC.ok bindA.ok
def Jt(s:Am)(f:Ac->Int)(p:Ac)(t:Int):Bool:=Dl p && (decide (f p<0) && decide (s.Temperature<=EO s.Set f p t 4))
def fitsC.fv(a:AW×Ac×Int):Bool:=(λc p t=>Jt c.Sys (Cl c.Tl) p t) (a.1) (a.2.1) (a.2.2)
def fitsC.row:Ax:=Fv (b3 (qP 6 AW.d_le) (qR Ac.d_le) qI) rB (λa=>BG a.1.Sys.Set/\aE a.1.Sys.Set (Cl a.1.Tl)/\FN a.1.Sys.Set a.2.2) fitsC.fv
def fitsC.q:=CR (R:=fitsC.row) rfl
def fitsC.ok:AA 63 fitsC.row:=by
 refine HJ (tC ValidPoint.ok (tC catC.ok (tC binding_.ok tN))) Tryz.func63 ?_;intro a z;simp only[Tryz.f63];simp(disch:=omega)only[ZA,simprocAttr,Ab.d,rch,fitsC.fv,ValidPoint.q,ValidPoint.fv,catC.q,catC.fv,binding_.row,mQ,bindC.q,bindC.ar,bindC.fv,bindA.q,bindA.ar,bindA.fv,D.sc,D.scs,Bt];obtain⟨G,O,Q⟩:=z;cases e1:Dl a.2.1
 .simp[Jt,e1]
 .rw[Ai rfl]
  split<;>rename_i h
  .exact .inl ⟨⟨G,O,PT e1,Q⟩,by simp[Jt,e1,h]⟩
  .simp[Jt,e1,h]
def Bs{β:Type}:List (Ac×β)->Ac->β->List (Ac×β)
 |[],p,v=>[(p,v)]
 |(k,w)::r,p,v=>if p=k then (p,v)::r else (k,w)::Bs r p v
def EB{β:Type}:List (Ac×β)->Ac->List (Ac×β)
 |[],_=>[]
 |(k,w)::r,p=>if p=k then r else (k,w)::EB r p
def K5{β:Type}(e:Ac×β->D×D)(g:β->D)(z: ∀p,e p=(.agg (Ac.c p.1),g p.2))(x y:Int)(v:β): ∀(l:List (Ac×β)),Gu (l.map e) (.agg [.int .i64 x,.int .i64 y]) (g v)=(Bs l ⟨x,y⟩ v).map e
 |[]=>by simp[Gu,Bs,z,Ac.c]
 |q::r=>by
  have G:D.beq (.agg [.int .i64 x,.int .i64 y]) (.agg (Ac.c q.1))=decide ((⟨x,y⟩:Ac)=q.1):=Kw ⟨x,y⟩ q.1;obtain⟨k,w⟩:=q;simp only[Bb,z,Gu,Bs,G];by_cases h:(⟨x,y⟩:Ac)=k
  .simp[h,z,Ac.c];exact⟨by rw[<-h],by rw[<-h]⟩
  .simp[h,z,K5 e g z x y v r]
def RN{β:Type}(e:Ac×β->D×D)(g:β->D)(z: ∀p,e p=(.agg (Ac.c p.1),g p.2))(x y:Int): ∀(l:List (Ac×β)),IC (l.map e) (.agg [.int .i64 x,.int .i64 y])=(EB l ⟨x,y⟩).map e
 |[]=>rfl
 |q::r=>by
  have G:D.beq (.agg [.int .i64 x,.int .i64 y]) (.agg (Ac.c q.1))=decide ((⟨x,y⟩:Ac)=q.1):=Kw ⟨x,y⟩ q.1;obtain⟨k,w⟩:=q;simp only[Bb,z,IC,EB,G];by_cases h:(⟨x,y⟩:Ac)=k
  .simp[h]
  .simp[h,z,RN e g z x y r]
def jF(x y:Int)(v:List Int)(l:List (Ac×List Int)):Gu (l.map DL) (.agg [.int .i64 x,.int .i64 y]) (.sl false 1 (v.map Ao))=(Bs l ⟨x,y⟩ v).map DL:=
 K5 DL (λv=> .sl false 1 (v.map Ao)) (λ_=>rfl) x y v l
def jE(x y v:Int)(l:List (Ac×Int)):Gu (l.map Gx) (.agg [.int .i64 x,.int .i64 y]) (.int .i64 v)=(Bs l ⟨x,y⟩ v).map Gx:=
 K5 Gx (.int .i64) (λ_=>rfl) x y v l
def gF(x y:Int)(l:List (Ac×List Int)):IC (l.map DL) (.agg [.int .i64 x,.int .i64 y])=(EB l ⟨x,y⟩).map DL:=
 RN DL (λv=> .sl false 1 (v.map Ao)) (λ_=>rfl) x y l
def Fx(s:Am)(f:Ac->Int)(q:Ac):Nat->List Int
 |0=>[]
 |k+1=>Fx s f q k++(if Jt s f q k=true then [(k:Int)] else [])
def Qus(s:Am)(f:Ac->Int)(q:Ac): ∀k,(Fx s f q k).length<=k
 |0=>by simp[Fx]
 |k+1=>by
  have:=Qus s f q k
  simp only[Fx,BQ]
  split<;>simp<;>omega
def J5(s:Am)(f:Ac->Int)(op:List (Ac×List Int))(q:Ac):List (Ac×List Int):=
 if Fx s f q s.Set.Tiles.length=[] then EB op q else Bs op q (Fx s f q s.Set.Tiles.length)
def GQ(s:Am)(f:Ac->Int)(op:List (Ac×List Int))(p:Ac):Nat->List (Ac×List Int)
 |0=>op
 |k+1=>J5 s f (GQ s f op p k) (Cm p k)
def D7(s:Am):List AV:=[.im (.sl false 2 (s.Set.Glues.map Av.c)),.im (.sl false 2 (s.Set.Tiles.map Tile.c)),.im (.sl false 3 (s.Seed.Tiles.map Aj.c)),.im (.int .i64 s.Temperature),.mp 1,.mp 2]
def wK:KT:=⟨true,[.int .i64,.int .i64]⟩
def DR(c:AW):Ar:=[(0,(true,.cells 166 (D7 c.Sys))),(1,(true,.map ⟨true,[.int .i64,.int .i64]⟩ (c.Tl.map Gx))),(2,(true,.map ⟨true,[.int .i64,.int .i64]⟩ (c.Op.map DL)))]
def bP(c:AW)(j:Nat):An (DR c) j=true↔j<3:=by
 simp only[An,DR,hget];by_cases h0:j=0
 .subst h0;simp
 .by_cases Q:j=1
  .subst Q;simp
  .by_cases Z:j=2
   .subst Z;simp
   .have z:(0==j)=false:=by simp;omega
    have G:(1==j)=false:=by simp;omega
    have O:(2==j)=false:=by simp;omega
    simp[z,G,O];omega
def gC(c:AW):Prop:=BG c.Sys.Set/\aE c.Sys.Set (Cl c.Tl)/\c.Sys.Set.Tiles.length<=1000000
def lookC.ca(a:AW×Ac):List AV:=[.ptr 0 0,.im (.agg [.int .i64 a.2.X,.int .i64 a.2.Y])]
def lookC.H1(a:AW×Ac):Ar:=[(2,(true,.map ⟨true,[.int .i64,.int .i64]⟩ ((GQ a.1.Sys (Cl a.1.Tl) a.1.Op a.2 4).map DL)))]
def kl2(j:Nat):Bool:=j==2
def lookC.row:Ax:=AE lookC.ca (λa=>DR a.1) 3 (λa=>gC a.1/\GI a.2) kl2 (λ_=> .im (.tup [])) lookC.H1 0
def lookC.ok:AA 112 lookC.row:=by
 refine ow (tC step_.ok (tC fitsC.ok tN)) Tryz.func112 (exB:=λ_=>false) (R:=λ_ r=>r= .im (.tup [])) (λ_=>rfl)
  (λa=>by simp[lookC.ca,DR,D7,AN,AV.bel,AD,Cg,Cx,Ag.nms,A9,AV.nms,An,hget]) (λa p hp=> ?_) (λa r h=>by subst h;exact DK.refl _) ?_
 rotate_left
 intro a G;simp only[Tryz.f112,lookC.ca,DR,D7,lookC.H1];simp only[ZA,simprocAttr];obtain⟨⟨Q,Z,ad⟩,z⟩:=G;refine AR.old ⟨{k:Nat//k<=4},λk=>⟨[(8,.im (.int .i64 k.1)),(3,.ptr 3 0),(0,.ptr 0 0)],[(3,(true,.cells 70 [.im (.int .i64 a.2.X),.im (.int .i64 a.2.Y)])),(0,(true,.cells 166 (D7 a.1.Sys))),(1,(true,.map ⟨true,[.int .i64,.int .i64]⟩ (a.1.Tl.map Gx))),(2,(true,.map ⟨true,[.int .i64,.int .i64]⟩ ((GQ a.1.Sys (Cl a.1.Tl) a.1.Op a.2 k.1).map DL)))],4⟩,λk=>4 - k.1,λk=>⟨by simp[ZG,D7],AF _⟩,⟨⟨0,by simp⟩,by simp only[ZA,simprocAttr,D7,sub,GQ,D7]⟩,λk=> ?_⟩;obtain⟨k,ac⟩:=k;simp only[D7];simp only[ZA,simprocAttr,step_.q,step_.fv,step_.re,kl2,AM];have hq:GI a.2:=z;refine⟨λhk=>⟨⟨z,by omega⟩,λhn=> ?_⟩,λhk=> ?_⟩
 .refine AR.ren ⟨{j:Nat//j<=a.1.Sys.Set.Tiles.length},λj=>⟨[(21,.im (.int .i64 j.1)),(20,.im (.int .i64 a.1.Sys.Set.Tiles.length)),(6,.own 6),(5,.ptr 4 0),(8,.im (.int .i64 k)),(3,.ptr 3 0),(0,.ptr 0 0)],[(6,(true,.arr 2 1 ((Fx a.1.Sys (Cl a.1.Tl) (Cm a.2 k) j.1).map Ao))),(4,(true,.cells 70 [.im (.int .i64 (Cm a.2 k).X),.im (.int .i64 (Cm a.2 k).Y)])),(3,(true,.cells 70 [.im (.int .i64 a.2.X),.im (.int .i64 a.2.Y)])),(0,(true,.cells 166 (D7 a.1.Sys))),(1,(true,.map ⟨true,[.int .i64,.int .i64]⟩ (a.1.Tl.map Gx))),(2,(true,.map ⟨true,[.int .i64,.int .i64]⟩ ((GQ a.1.Sys (Cl a.1.Tl) a.1.Op a.2 k).map DL)))],7⟩,λj=>a.1.Sys.Set.Tiles.length - j.1,λj=>⟨by simp[ZG,D7],by simp⟩,⟨⟨0,by simp⟩,[(6,some 5)],?_⟩,λj=> ?_⟩
  .simp only[Ak,D7];simp only[ZA,simprocAttr,AL,Fx]
   try simp
  obtain⟨j,ab⟩:=j;simp only[D7];simp only[ZA,simprocAttr,rch,fitsC.q,fitsC.fv,AC,AM,sub];have aa:=Qus a.1.Sys (Cl a.1.Tl) (Cm a.2 k) j;refine⟨λhj=>⟨⟨Q,Z,by omega,by omega⟩,λhf=>⟨by omega,⟨j+1,by omega⟩,[(6,some 8)],by simp only;omega,?_⟩,λhf=>⟨⟨j+1,by omega⟩,[(6,some 6)],by simp only;omega,?_⟩⟩,λhj=> ?_⟩
  .simp only[Ak];simp only[ZA,simprocAttr,AL];refine⟨?_,?_⟩
   .rw[AB (by omega) (by omega)];omega
   .simp[Fx,hf,Ao]
  .simp only[Ak];simp only[ZA,simprocAttr,AL];refine⟨?_,?_⟩
   .rw[AB (by omega) (by omega)];omega
   .simp[Fx,hf]
  have O:j=a.1.Sys.Set.Tiles.length:=by omega
  subst O;rw[jF,gF];have hl:(0:Int)<((Fx a.1.Sys (Cl a.1.Tl) (Cm a.2 k) a.1.Sys.Set.Tiles.length).length:Int)↔Fx a.1.Sys (Cl a.1.Tl) (Cm a.2 k) a.1.Sys.Set.Tiles.length≠[]:=by
   rw[<-fL];omega
  intro _;refine⟨λh0=>⟨⟨k+1,by omega⟩,by simp only;omega,?_,?_⟩,λh0=>⟨⟨k+1,by omega⟩,by simp only;omega,?_,?_⟩⟩
  .rw[AB (by omega) (by omega)];simp only;omega
  .simp only[GQ,J5];rw[Ad (hl.1 h0)]
  .rw[AB (by omega) (by omega)];simp only;omega
  .simp only[GQ,J5];rw[Ai (G8.1 (λh=>h0 (hl.2 h)))]
 .have:k=4:=by omega
  subst this;simp[kl2]
 simp[lookC.H1] at hp;subst hp;exact .inl ⟨by omega,rfl,rfl⟩
def lS{β:Type}(p q:Ac)(v:β): ∀(l:List (Ac×β)),B6 (Bs l p v) q=if q=p then some v else B6 l q
 |[]=>by simp[Bs,B6]
 |(k,w)::r=>by
  simp only[Bs];by_cases h:p=k
  .subst h;rw[Ai rfl];simp only[B6];by_cases z:q=p
   .rw[Ai z,Ai z]
   .rw[Ad z,Ad z,Ad z]
  .rw[Ad h];simp only[B6,lS p q v r];by_cases z:q=k
   .rw[Ai z,Ai z,Ad (λG=>h (G.symm.trans z))]
   .rw[Ad z,Ad z]
def BT(l:List Aj):List (Ac×Int):=l.foldl (λt x=>Bs t x.At x.Tile) []
def P7(l:List Aj)(x:Aj):BT (l++[x])=Bs (BT l) x.At x.Tile:=by simp[BT]
def HE(s:Am)(f:Ac->Int)(l:List Aj):List (Ac×List Int):=l.foldl (λo x=>GQ s f o x.At 4) []
def OI(s:Am)(f:Ac->Int)(l:List Aj)(x:Aj):HE s f (l++[x])=GQ s f (HE s f l) x.At 4:=by simp[HE]
def MQ{s:A8}: ∀(l:List Aj),(∀x∈l,FN s x.Tile)->aE s (Cl (BT l)):=by
 intro l;have G: ∀(l:List Aj) (t:List (Ac×Int)),(∀p v,B6 t p=some v->FN s v)->(∀x∈l,FN s x.Tile)-> ∀p v,B6 (l.foldl (λt x=>Bs t x.At x.Tile) t) p=some v->FN s v:=by
  intro l;induction l with
  |nil=>intro t h _;exact h
  |cons x r ih=>
   intro t h O;refine ih _ ?_ (λy Q=>O y (BZ _ Q));intro p v z;rw[lS] at z;split at z
   .cases z;exact O x (Cb ..)
   .exact h p v z
 intro h p hp
 have:=G l [] (by intro p v h;simp[B6] at h) h p
 simp only[Cl,BT] at hp⊢;cases hq:B6 (l.foldl (λt x=>Bs t x.At x.Tile) []) p with
 |none=>rw[hq] at hp;simp at hp
 |some v=>exact this v hq
def HX{α:Type}{l:List α}{k:Nat}{x:α}(h:l[k]? =some x):l.take (k+1)=l.take k++[x]:=by rw[G9,h];rfl
def Gd(s:Am)(a:Ab):AW:=⟨s,BT a.Tiles,HE s (Cl (BT a.Tiles)) a.Tiles⟩
def newC.ca(a:Am×Ab):List AV:=[.im (.agg (Am.c a.1)),.im (.agg (Ab.c a.2))]
def newC.H1(a:Am×Ab):Ar:=[(4,(true,.cells 166 [.im (.sl false 2 (a.1.Set.Glues.map Av.c)),.im (.sl false 2 (a.1.Set.Tiles.map Tile.c)),.im (.sl false 3 (a.1.Seed.Tiles.map Aj.c)),.im (.int .i64 a.1.Temperature),.mp 2,.mp 3])),
 (2,(true,.map ⟨true,[.int .i64,.int .i64]⟩ ((Gd a.1 a.2).Tl.map Gx))),(3,(true,.map ⟨true,[.int .i64,.int .i64]⟩ ((Gd a.1 a.2).Op.map DL)))]
def newC.pre(a:Am×Ab):Prop:=BG a.1.Set/\a.1.Set.Tiles.length<=1000000/\ ∀x∈a.2.Tiles,FN a.1.Set x.Tile/\GI x.At
def newC.ex(j:Nat):Bool:=j==2||(j==3||j==4)
def noB(_:Nat):Bool:=false
def newC.row:Ax:=AE newC.ca (λ_=>[]) 0 newC.pre noB (λ_=> .ptr 4 0) newC.H1 5
def newC.ok:AA 62 newC.row:=by
 refine ow (tC lookC.ok tN) Tryz.func62 (exB:=newC.ex) (R:=λ_ r=>r= .ptr 4 0) (λ_=>rfl)
  (λa=>by simp[newC.ca,Am.c,Ab.c,AN,AV.bel,AD,Cg,Cx]) (λa p hp=> ?_) (λa r h=>by subst h;exact DK.refl _) ?_
 rotate_left
 intro a O;simp only[Tryz.f62,newC.ca,newC.H1,Am.c,Ab.c];simp only[ZA,simprocAttr];obtain⟨aa,ab,G⟩:=O;intro hn;refine AR.old ⟨{k:Nat//k<=a.2.Tiles.length},λk=>⟨[(18,.im (.int .i64 k.1)),(17,.im (.int .i64 a.2.Tiles.length)),(16,.im (.sl false 3 (a.2.Tiles.map Aj.c))),(5,.ptr 4 0),(4,.im .nilp),(3,.ptr 1 0)],[(4,(true,.cells 166 [.im (.sl false 2 (a.1.Set.Glues.map Av.c)),.im (.sl false 2 (a.1.Set.Tiles.map Tile.c)),.im (.sl false 3 (a.1.Seed.Tiles.map Aj.c)),.im (.int .i64 a.1.Temperature),.mp 2,.mp 3])),(3,(true,.map ⟨true,[.int .i64,.int .i64]⟩ ([]))),(2,(true,.map ⟨true,[.int .i64,.int .i64]⟩ ((BT (a.2.Tiles.take k.1)).map Gx))),(1,(true,.cells 41 [.im (.sl false 3 (a.2.Tiles.map Aj.c))]))],5⟩,λk=>a.2.Tiles.length - k.1,λk=>⟨by simp[ZG],AF _⟩,⟨⟨0,by simp⟩,by simp only[ZA,simprocAttr,sub,BT,Rd]⟩,λk=> ?_⟩;obtain⟨k,Z⟩:=k;simp only[ZA,simprocAttr,sub,AM];refine⟨λz=>⟨z,λx Q=> ?_⟩,λz=> ?_⟩
 .refine⟨⟨k+1,by omega⟩,by simp only;omega,?_,?_⟩
  .rw[AB (by omega) (by omega)];simp only;omega
  .rw[jE,HX Q,P7]
 rw[DP (by omega)];intro _;refine AR.old ⟨{k:Nat//k<=a.2.Tiles.length},λk=>⟨[(34,.im (.int .i64 k.1)),(33,.im (.int .i64 a.2.Tiles.length)),(32,.im (.sl false 3 (a.2.Tiles.map Aj.c))),(5,.ptr 4 0),(4,.im .nilp),(3,.ptr 1 0)],[(4,(true,.cells 166 [.im (.sl false 2 (a.1.Set.Glues.map Av.c)),.im (.sl false 2 (a.1.Set.Tiles.map Tile.c)),.im (.sl false 3 (a.1.Seed.Tiles.map Aj.c)),.im (.int .i64 a.1.Temperature),.mp 2,.mp 3])),(3,(true,.map ⟨true,[.int .i64,.int .i64]⟩ ((HE a.1 (Cl (BT a.2.Tiles)) (a.2.Tiles.take k.1)).map DL))),(2,(true,.map ⟨true,[.int .i64,.int .i64]⟩ ((BT a.2.Tiles).map Gx))),(1,(true,.cells 41 [.im (.sl false 3 (a.2.Tiles.map Aj.c))]))],5⟩,λk=>a.2.Tiles.length - k.1,λk=>⟨by simp[ZG],AF _⟩,⟨⟨0,by simp⟩,by simp only[ZA,simprocAttr,sub,HE,Rd]⟩,λk=> ?_⟩;obtain⟨k,Z⟩:=k;simp only[ZA,simprocAttr,newC.ex,AM];refine⟨λz=>⟨z,λx Q=> ?_⟩,λz=> ?_⟩
 .refine AE.os (⟨a.1,BT a.2.Tiles,HE a.1 (Cl (BT a.2.Tiles)) (a.2.Tiles.take k)⟩,x.At) [4,2,3] ⟨⟨aa,MQ _ (λy hy=>(G y hy).1),ab⟩,(G x (AP Q)).2⟩ (λj=>bP _ j) rfl rfl ?_ ?_
  .simp only[ZA,simprocAttr,AC,lookC.ca,DR,D7]
  .simp only[ZA,simprocAttr,AC,lookC.H1,kl2,sub];refine⟨⟨k+1,by omega⟩,by simp only;omega,?_,?_⟩
   .rw[AB (by omega) (by omega)];simp only;omega
   .rw[HX Q,OI]
 .rw[DP (by omega)];exact⟨rfl,rfl⟩
 simp[newC.H1] at hp;rcases hp with rfl|rfl|rfl
 .exact .inr ⟨by omega,by simp,rfl,rfl⟩
 .exact .inr ⟨by omega,by simp,rfl,rfl⟩
 .exact .inr ⟨by omega,by simp,rfl,rfl⟩
def Gy(a:Ab)(i:Int):Int:=(a.Tiles[i.toNat]?.map Aj.Tile).getD (-1)
def WO(s:A8)(a:Ab)(i:Nat)(d:Int):List Af:=
 if 0<=Ha a i d then if 0<JD s (Gy a i) d (Gy a (Ha a i d)) then [⟨i,Ha a i d,JD s (Gy a i) d (Gy a (Ha a i d))⟩] else [] else []
def JC(s:A8)(a:Ab)(i:Nat):Nat->List Af
 |0=>[]
 |k+1=>JC s a i k++WO s a i (1 - k)
def F7(s:A8)(a:Ab):Nat->List Af
 |0=>[]
 |k+1=>F7 s a k++JC s a k 2
def Oe(s:A8)(a:Ab)(i:Nat)(d:Int):(WO s a i d).length<=1:=by
 simp only[WO];split
 .split<;>simp
 .simp
def Ql7(s:A8)(a:Ab)(i:Nat): ∀k,(JC s a i k).length<=k
 |0=>by simp[JC]
 |k+1=>by
  have z:=Ql7 s a i k;have G:=Oe s a i (1 - k);simp only[JC,BQ];omega
def rE(s:A8)(a:Ab): ∀k,(F7 s a k).length<=2*k
 |0=>by simp[F7]
 |k+1=>by
  have z:=rE s a k;have G:=Ql7 s a k 2;simp only[F7,BQ];omega
def gN{A:Type}(p:A->Bool)(l:List A):B0 p 0 l<(l.length:Int):=by
 rcases Vk p l 0 with ⟨_,h⟩|⟨i,x,_,h,z⟩
 .omega
 .have:=(BJ.1 z).1
  omega
def Kq(a:Ab)(i d:Int):Ha a i d<(a.Tiles.length:Int):=gN _ _
def l06Bonds.fv(a:A8×Ab):List Af:=(λs a=>F7 s a a.Tiles.length) (a.1) (a.2)
def l06Bonds.row:Ax:=vK (b2 (qP 2 A8.d_le) (qP 1 Ab.d_le)) (rS Af.d_le Af.c_n) (λa=>BG a.1/\Fy a.1 a.2/\a.2.Tiles.length<=1000000) l06Bonds.fv
def l06Bonds.q:=AX (R:=l06Bonds.row) rfl
def l06Bonds.ok:AA 180 l06Bonds.row:=by
 refine vw (tC l06Neighbor.ok (tC l02Bond.ok tN)) Tryz.func180 ?_;intro a z;simp only[Tryz.f180];simp only[ZA,simprocAttr,l06Bonds.fv];obtain⟨h1,Q,h3⟩:=z;refine AR.ren ⟨{k:Nat//k<=a.2.Tiles.length},λk=>⟨[(6,.im (.int .i64 k.1)),(5,.own 4),(0,.ptr 0 0),(1,.ptr 1 0)],[(4,(true,.arr 277 3 ((F7 a.1 a.2 k.1).map Af.c))),(0,(false,.view (A8.c a.1))),(1,(false,.view (Ab.c a.2)))],5⟩,λk=>a.2.Tiles.length - k.1,λk=>⟨by simp[ZG],by simp⟩,⟨⟨0,by simp⟩,[(4,some 3)],?_⟩,λk=> ?_⟩
 .simp only[Ak];simp only[ZA,simprocAttr,AL,F7]
 obtain⟨k,af⟩:=k;simp only[ZA,simprocAttr,AM];intro ac;refine⟨λhk=> ?_,λhk=> ?_⟩
 .refine AR.ren ⟨{j:Nat//j<=2},λj=>⟨[(7,.im (.int .i64 (1 - (j.1:Int)))),(6,.im (.int .i64 k)),(5,.own 5),(0,.ptr 0 0),(1,.ptr 1 0)],[(5,(true,.arr 277 3 ((F7 a.1 a.2 k++JC a.1 a.2 k j.1).map Af.c))),(0,(false,.view (A8.c a.1))),(1,(false,.view (Ab.c a.2)))],6⟩,λj=>2 - j.1,λj=>⟨by simp[ZG],by simp⟩,⟨⟨0,by simp⟩,[(5,some 4)],?_⟩,λj=> ?_⟩
  .simp only[Ak];simp only[ZA,simprocAttr,AL,JC]
   try simp
  obtain⟨j,ad⟩:=j;simp only[ZA,simprocAttr,Ab.d,l06Neighbor.q,l06Neighbor.fv,l02Bond.q,l02Bond.fv,AM,FJ,FI,Bn,D.one];have ab:=Kq a.2 k (1 - j);have ag:=rE a.1 a.2 k;have ah:=Ql7 a.1 a.2 k j;refine⟨λhd=>⟨⟨Q.1,hk,hd,by omega⟩,λhn=>⟨⟨j+1,by omega⟩,[(5,some 5)],by simp only;omega,?_⟩,λhn=>⟨hk,λx hx=>⟨by omega,ab,λy hy=>⟨⟨h1,Q.2 x (AP hx),⟨by omega,by omega⟩,Q.2 y (AP hy)⟩,λZ=>⟨by simp only[BQ];omega,⟨j+1,by omega⟩,[(5,some 7)],by simp only;omega,?_⟩,λZ=>⟨⟨j+1,by omega⟩,[(5,some 5)],by simp only;omega,?_⟩⟩⟩⟩⟩,λhd=>⟨⟨k+1,by omega⟩,[(4,some 5)],by simp only;omega,?_⟩⟩
  .simp only[Ak];simp only[ZA,simprocAttr,AL];refine⟨?_,?_⟩
   .rw[AB (by omega) (by omega)];omega
   .simp only[JC,WO];rw[Ad (by omega),CC]
  .simp only[Ak];simp only[ZA,simprocAttr,AL];refine⟨?_,?_⟩
   .rw[AB (by omega) (by omega)];omega
   .have G:Gy a.2 k=x.Tile:=by simp[Gy,hx]
    have O:Gy a.2 (Ha a.2 k (1 - j))=y.Tile:=by simp only[Gy];rw[hy];rfl
    simp only[JC,WO];rw[Ai (by omega),G,O,Ai Z];simp[Af.c]
  .simp only[Ak];simp only[ZA,simprocAttr,AL];refine⟨?_,?_⟩
   .rw[AB (by omega) (by omega)];omega
   .have G:Gy a.2 k=x.Tile:=by simp[Gy,hx]
    have O:Gy a.2 (Ha a.2 k (1 - j))=y.Tile:=by simp only[Gy];rw[hy];rfl
    simp only[JC,WO];rw[Ai (by omega),G,O,Ad Z,CC]
  .simp only[Ak];simp only[ZA,simprocAttr,AL];have aa:j=2:=by omega
   subst aa;refine⟨?_,?_⟩
   .rw[AB (by omega) (by omega)];omega
   .simp only[F7]
 .have:k=a.2.Tiles.length:=by omega
  rw[this]
def I7:List Int->List Int->Bool
 |x::r,y::s=>if x=y then I7 r s else decide (x<y)
 |_,_=>false
def Gh(v:Int)(l:List Int)(w:Int)(m:List Int):Bool:=if v=w then if l.length=m.length then I7 l m else decide (l.length<m.length) else decide (v<w)
def l07Before.fv(a:Int×(List Int)×Int×(List Int)):Bool:=(Gh) (a.1) (a.2.1) (a.2.2.1) (a.2.2.2)
def l07Before.row:Ax:=vK (b4 qI (qS FK EM) qI (qS FK EM)) rB (λa=>True) l07Before.fv
def l07Before.q:=AX (R:=l07Before.row) rfl
def l07Before.ok:AA 223 l07Before.row:=by
 refine vw tN Tryz.func223 ?_;intro a aa;simp only[Tryz.f223];simp only[ZA,simprocAttr,l07Before.fv]
 split<;>rename_i h
 .simp only[Gh];rw[Ad h]
 intro ac ad
 split<;>rename_i h2
 .intro _ _;simp only[Gh];rw[Ai (G8.1 h),Ad (by omega)]
 have hn:a.2.1.length=a.2.2.2.length:=by omega
 have hb:Gh a.1 a.2.1 a.2.2.1 a.2.2.2=I7 a.2.1 a.2.2.2:=by simp only[Gh];rw[Ai (G8.1 h),Ai hn]
 rw[hb];refine AR.old ⟨{k:Nat//k<=a.2.1.length/\I7 (a.2.1.drop k) (a.2.2.2.drop k)=I7 a.2.1 a.2.2.2},λk=>⟨[(9,.im (.int .i64 k.1)),(8,.im (.bool false)),(0,.im (.int .i64 a.1)),(1,.im (.sl false 1 (a.2.1.map Ao))),(2,.im (.int .i64 a.2.2.1)),(3,.im (.sl false 1 (a.2.2.2.map Ao)))],[],0⟩,λk=>a.2.1.length - k.1,λk=>⟨by simp[ZG],AF _⟩,⟨⟨0,by simp⟩,by simp only[ZA,simprocAttr,sub]⟩,λk=> ?_⟩;obtain⟨k,ab,z⟩:=k;simp only[ZA,simprocAttr,sub,AM];intro _;refine⟨λQ=>⟨Q,λx hx=>⟨by omega,λy hy=>⟨λZ=>⟨Q,λx' G=>⟨by omega,λy' O=> ?_⟩⟩,λhe=> ?_⟩⟩⟩,λQ=> ?_⟩
 .rw[hx] at G;rw[hy] at O;obtain rfl:=Aw G;obtain rfl:=Aw O;rw[E5 hx,E5 hy,I7,Ad Z] at z;exact z
 .rw[E5 hx,E5 hy,I7,Ai (G8.1 he)] at z;refine⟨⟨k+1,by omega,z⟩,by simp only;omega,?_⟩;rw[AB (by omega) (by omega)];simp only;omega
 .rw[CO (by omega),I7] at z
  .exact z
  .intros;simp_all
def eJ{l:List Aj}(h:Ck none l=true):(l.map Aj.At).Nodup:=by
 have z:=(jO _ _ h).2;clear h;revert z;induction l with
 |nil=>intro _;simp
 |cons x r ih=>
  intro z;simp only[Bb,Hn];refine⟨λhm=> ?_,ih (λi j a b aa G O=>z (i+1) (j+1) a b (by omega) (by simpa using G) (by simpa using O))⟩;obtain⟨y,hy,Q⟩:=BI.1 hm;obtain⟨i,Z⟩:=GV.1 hy
  have:=z 0 (i+1) x y (by omega) rfl (by simpa using Z)
  rw[Q,kX] at this;cases this
def Qxu(n:Nat)(rows:List (List D)):(Bm rows).all (AN n)=true:=by
 simp only[Bm,List.all_map,DV,Function.comp];intro r z;clear z;induction r with
 |nil=>simp[AN]
 |cons x r ih=>simp[AN,AV.bel,ih]
def L7(F:List Nat)(H:Ar): ∀(r:List D),DB F H (r.map .im)=r.map .im
 |[]=>rfl
 |x::r=>by simp only[Bb,DB,AV.fzA,L7 F H r]
def L8(F:List Nat)(H:Ar): ∀(rows:List (List D)),DC F H (Bm rows)=Bm rows
 |[]=>rfl
 |x::r=>by
  have:=L8 F H r
  simp only[Bm] at this;simp only[Bm,Bb,DC,L7,this]
def Qzl(F:List Nat)(H:Ar): ∀(a b:List (List AV)),DC F H (a++b)=DC F H a++DC F H b
 |[],b=>rfl
 |x::r,b=>by simp only[CW,DC,Qzl F H r b]
def Th(π:List (Nat×Option Nat)): ∀(r:List D),DZ π (r.map .im) (r.map .im)
 |[]=>by simp[DZ]
 |x::r=>by simp only[Bb,DZ,mt,Th π r,F4]
def Qzo(π:List (Nat×Option Nat)): ∀(rows:List (List D)),GB π (Bm rows) (Bm rows)
 |[]=>by simp[GB,Bm]
 |x::r=>by
  have:=Qzo π r
  simp only[Bm] at this;simp only[Bm,Bb,GB,Th,this,F4]
def Qzb(F:List Nat)(H:Ar)(rows:List (List D)):DC F H (rows.map λr=>r.map AV.im)=rows.map λr=>r.map AV.im:=L8 F H rows
def Qsg(π:List (Nat×Option Nat))(rows:List (List D)):GB π (rows.map λr=>r.map AV.im) (rows.map λr=>r.map AV.im)=True:=ZS (Qzo π rows)
def Ro(n:Nat)(rows:List (List D)):(rows.map λr=>r.map AV.im).all (AN n)=true:=Qxu n rows
def Qtl{α β:Type}{f:α->Option β}{g:β->α}(h: ∀y,f (g y)=some y): ∀(l:List β),A7 f (l.map g)=some l
 |[]=>rfl
 |x::r=>by simp only[Bb,A7,h,Qtl h r]
def Xx(h:Nat->Option Ap)(kx:Nat->Option Nat)(n:Nat)(rows:List (List D)):A7 (A7 λx=>Em (Bl h kx (n+1) x)) (rows.map λr=>r.map AV.im)=some rows:=
 Qtl (g:=λr=>r.map AV.im) (λy=>Qtl (g:=AV.im) (λ_=>rfl) y) rows
def HS{A:Type}(f:A->A):Nat->List A->List A
 |0,l=>l
 |_+1,[]=>[]
 |k+1,x::r=>f x::HS f k r
def Qwq{A:Type}(f:A->A): ∀(k:Nat) (l:List A),(HS f k l).length=l.length
 |0,_=>rfl
 |_+1,[]=>rfl
 |k+1,x::r=>by simp only[HS,Cr,Qwq f k r]
def Qoo{A:Type}(f:A->A): ∀(k:Nat) (l:List A),(HS f k l)[k]? =l[k]?
 |0,_=>rfl
 |_+1,[]=>by simp[HS]
 |k+1,x::r=>by simp only[HS,I2,Qoo f k r]
def Qn5{A:Type}(f:A->A): ∀(k:Nat) (l:List A) (x:A),l[k]? =some x->(HS f k l).set k (f x)=HS f (k+1) l
 |0,[],x,h=>by simp at h
 |0,y::r,x,h=>by
  simp only[G4,AI] at h;subst h;simp[HS]
 |k+1,[],x,h=>by simp at h
 |k+1,y::r,x,h=>by
  have:=Qn5 f k r x (by simpa using h)
  rw[HS,HS,mE,this]
def Qabf{A:Type}(f:A->A)(k:Nat)(l:List A)(x:A)(h:l[k]? =some x)(hf:f x=x):HS f (k+1) l=HS f k l:=by
 rw[<-Qn5 f k l x h,hf];have z:(HS f k l)[k]? =some x:=by rw[Qoo,h]
 obtain⟨G,O⟩:=BJ.1 z;rw[<-O];exact List.set_getElem_self G
def Qvd{A:Type}(f:A->A): ∀(k:Nat) (l:List A),l.length<=k->HS f k l=l.map f
 |0,[],_=>rfl
 |0,x::r,h=>by simp at h
 |_+1,[],_=>rfl
 |k+1,x::r,h=>by simp only[HS,Bb,Qvd f k r (by simpa using h)]
def WQ:Nat->List Int
 |0=>[]
 |k+1=>WQ k++[(k:Int)]
def dX: ∀k,(WQ k).length=k
 |0=>rfl
 |k+1=>by simp[WQ,dX k]
def Jp(x y v:Int):Int:=if v=DF x y then EV x y else v
def sM(own:List Int)(b:Af):List Int:=own.map (Jp (own[b.A.toNat]?.getD 0) (own[b.B.toNat]?.getD 0))
def Co(n:Nat)(bs:List Af):Nat->List Int
 |0=>WQ n
 |k+1=>match bs[k]? with
  |some b=>sM (Co n bs k) b
  |none=>Co n bs k
def Qto(n:Nat)(bs:List Af): ∀k,(Co n bs k).length=n
 |0=>dX n
 |k+1=>by
  simp only[Co];split
  .simp[sM,Qto n bs k]
  .exact Qto n bs k
def Dp(own:List Int)(i:Nat):Nat->List Int
 |0=>[]
 |k+1=>Dp own i k++(if own[i+k]? =some (i:Int) then [((i+k:Nat):Int)] else [])
def Qsd(own:List Int)(i:Nat): ∀k,(Dp own i k).length<=k
 |0=>by simp[Dp]
 |k+1=>by
  have:=Qsd own i k
  simp only[Dp,BQ]
  split<;>simp<;>omega
def BC(own:List Int)(n:Nat):Nat->List (List Int)
 |0=>[]
 |k+1=>BC own n k++(if own[k]? =some (k:Int) then [Dp own k (n - k)] else [])
def rL(own:List Int)(n:Nat): ∀k,(BC own n k).length<=k
 |0=>by simp[BC]
 |k+1=>by
  have:=rL own n k
  simp only[BC,BQ]
  split<;>simp<;>omega
def Vl(n:Int)(bs:List Af):List (List Int):=BC (Co n.toNat bs bs.length) n.toNat n.toNat
def KD(n:Int)(bs:List Af):Prop:= ∀b∈bs,0<=b.A/\b.A<n/\0<=b.B/\b.B<n
def l06Groups.fv(a:Int×(List Af)):List (List Int):=(Vl) (a.1) (a.2)
def l06Groups.row:Ax:=vK (b2 qI (qS Af.d_le Af.c_n)) (rS rQ MB) (λa=>0<=a.1/\a.1<=1000000/\KD a.1 a.2) l06Groups.fv
def l06Groups.q:=AX (R:=l06Groups.row) rfl
def l06Groups.ok:AA 218 l06Groups.row:=by
 refine vw (tC l00Min.ok (tC l00Max.ok tN)) Tryz.func218 ?_;intro a ad;simp only[Tryz.f218];simp only[ZA,simprocAttr,l06Groups.fv];obtain⟨aj,ak,Z⟩:=ad;obtain⟨n,hn⟩: ∃n:Nat,a.1=n:=⟨a.1.toNat,by omega⟩;simp only[Vl,hn,BD];rw[hn] at aj ak Z;refine AR.ren ⟨{k:Nat//k<=n},λk=>⟨[(6,.im (.int .i64 k.1)),(5,.own 2),(0,.im (.int .i64 n)),(1,.im (.sl false 3 (a.2.map Af.c)))],[(2,(true,.arr 2 1 ((WQ k.1).map Ao)))],3⟩,λk=>n - k.1,λk=>⟨by simp[ZG],by simp⟩,⟨⟨0,by simp⟩,[(2,some 1)],?_⟩,λk=> ?_⟩
 .simp only[Ak];simp only[ZA,simprocAttr,WQ]
  try simp
 obtain⟨k,Q⟩:=k;simp only[ZA,simprocAttr,AM,FJ,FI,Bn,D.one];have ab:=dX k;refine⟨λz=>⟨by rw[ab];omega,⟨k+1,by omega⟩,[(2,some 4)],by simp only;omega,?_⟩,λz=> ?_⟩
 .simp only[Ak];simp only[ZA,simprocAttr];refine⟨by rw[AB (by omega) (by omega)];omega,by simp[WQ,Ao]⟩
 have ag:n=k:=by omega
 subst ag;clear ab z Q;refine AR.old ⟨{k:Nat//k<=a.2.length},λk=>⟨[(7,.im (.int .i64 k.1)),(5,.own 2),(0,.im (.int .i64 n)),(1,.im (.sl false 3 (a.2.map Af.c)))],[(2,(true,.arr 2 1 ((Co n a.2 k.1).map Ao)))],3⟩,λk=>a.2.length - k.1,λk=>⟨by simp[ZG],by simp⟩,⟨⟨0,by simp⟩,by simp only[ZA,simprocAttr,sub,Co]⟩,λk=> ?_⟩;obtain⟨k,Q⟩:=k;have G:=Qto n a.2 k;simp only[ZA,simprocAttr,AM,G];intro _;refine⟨λz=>⟨z,λb hb=> ?_⟩,λz=> ?_⟩
 .obtain⟨b1,b2,b3,b4⟩:=Z b (AP hb);refine⟨b1,b2,by omega,λx hx=>⟨z,λb' aa=> ?_⟩⟩;rw[hb] at aa;obtain rfl:=Aw aa;refine⟨b3,b4,by omega,λy hy=> ?_⟩;refine AR.old ⟨{j:Nat//j<=n},λj=>⟨[(10,.im (.int .i64 j.1)),(9,.im (.int .i64 y)),(8,.im (.int .i64 x)),(7,.im (.int .i64 k)),(5,.own 2),(0,.im (.int .i64 n)),(1,.im (.sl false 3 (a.2.map Af.c)))],[(2,(true,.arr 2 1 ((HS (Jp x y) j.1 (Co n a.2 k)).map Ao)))],3⟩,λj=>n - j.1,λj=>⟨by simp[ZG],by simp⟩,⟨⟨0,by simp⟩,by simp only[ZA,simprocAttr,sub,HS]⟩,λj=> ?_⟩;obtain⟨j,ao⟩:=j;have ac:=Qwq (Jp x y) j (Co n a.2 k);rw[G] at ac;have ah:=Qoo (Jp x y) j (Co n a.2 k);simp only[ZA,simprocAttr,l00Min.q,l00Min.fv,l00Max.q,l00Max.fv,sub,AM,ac];intro _;refine⟨λhj=>⟨hj,hj,λv hv=> ?_⟩,λhj=> ?_⟩
  .have av:=hv;rw[ah] at hv;refine⟨λO=>⟨hj,hj,λv' au=>⟨⟨j+1,by omega⟩,by simp only;omega,by rw[AB (by omega) (by omega)];simp only;omega,?_⟩⟩,λO=>⟨⟨j+1,by omega⟩,by simp only;omega,by rw[AB (by omega) (by omega)];simp only;omega,?_⟩⟩
   .rw[<-Qn5 _ _ _ _ hv,KN];simp only[Jp,O,BF,Ao]
   .rw[Qabf _ _ _ _ hv (by simp only[Jp];rw[Ad O])]
  .refine⟨⟨k+1,by omega⟩,by simp only;omega,by rw[AB (by omega) (by omega)];simp only;omega,?_⟩;rw[Qvd _ _ _ (by omega)];simp only[Co,hb,sM,hx,hy,AS]
 have af:k=a.2.length:=by omega
 subst af;clear z Q Z;refine AR.frr ⟨{k:Nat//k<=n},λk=>⟨[(12,.im (.int .i64 k.1)),(11,.own 4),(5,.own 2),(0,.im (.int .i64 n))],[(4,(true,.arrA 56 1 (Bm ((BC (Co n a.2 a.2.length) n k.1).map Du)))),(2,(true,.arr 2 1 ((Co n a.2 a.2.length).map Ao)))],5⟩,λk=>n - k.1,λk=>⟨by simp[ZG,Qxu],by simp⟩,⟨⟨0,by simp⟩,[],[(4,some 3)],?_⟩,λk=> ?_⟩
 .simp only[Ak];simp only[ZA,simprocAttr,AL,BC]
  try simp
 obtain⟨k,Q⟩:=k;obtain⟨own,hown⟩: ∃own,own=Co n a.2 a.2.length:=⟨_,rfl⟩;simp only[<-hown] at G⊢;have am:=rL own n k;simp only[ZA,simprocAttr,AM,G];refine⟨λz=>⟨z,z,λx hx=>⟨λO=>⟨⟨k+1,by omega⟩,[],[(4,some 4)],by simp only;omega,?_⟩,λO=> ?_⟩⟩,λz=> ?_⟩
 .have e1:BC own n (k+1)=BC own n k:=by
   simp only[BC];rw[Ad (by rw[hx];simpa using O),CC]
  simp only[Ak];simp only[ZA,simprocAttr,AL,Qzb,Qsg,e1];rw[AB (by omega) (by omega)];simp
 .have O:=G8.1 O;refine AR.ren ⟨{m:Nat//m<=n - k},λm=>⟨[(14,.im (.int .i64 ((k+m.1:Nat):Int))),(13,.own 6),(12,.im (.int .i64 k)),(11,.own 4),(5,.own 2),(0,.im (.int .i64 n))],[(6,(true,.arr 2 1 ((Dp own k m.1).map Ao))),(4,(true,.arrA 56 1 (Bm ((BC own n k).map Du)))),(2,(true,.arr 2 1 (own.map Ao)))],7⟩,λm=>n - k - m.1,λm=>⟨by simp[ZG,Qxu],by simp⟩,⟨⟨0,by simp⟩,[(6,some 5)],?_⟩,λm=> ?_⟩
  .simp only[Ak];simp only[ZA,simprocAttr,AL,Dp,Qsg]
   try simp
  obtain⟨m,aq⟩:=m;have an:=Qsd own k m;simp only[ZA,simprocAttr,AM,G,FJ,FI,Bn,D.one];refine⟨λhm=>⟨hm,hm,λv hv=>⟨λh=>⟨by omega,⟨m+1,by omega⟩,[(6,some 8)],by simp only;omega,?_⟩,λh=>⟨⟨m+1,by omega⟩,[(6,some 6)],by simp only;omega,?_⟩⟩⟩,λhm=>⟨by simp[AN,AV.bel],by omega,by rw[uZ,Ro];simp[AN,AV.bel],⟨k+1,by omega⟩,[6],[(4,some 8)],by simp only;omega,?_⟩⟩
  .simp only[Ak];simp only[ZA,simprocAttr,AL,Qsg];refine⟨?_,?_⟩
   .rw[AB (by omega) (by omega)];omega
   .subst h;simp only[Dp];rw[Ai hv];simp[Ao]
  .simp only[Ak];simp only[ZA,simprocAttr,AL,Qsg];refine⟨?_,?_⟩
   .rw[AB (by omega) (by omega)];omega
   .simp only[Dp];rw[Ad (by rw[hv];simpa using h),CC]
  .have ai:m=n - k:=by omega
   have e1:BC own n (k+1)=BC own n k++[Dp own k m]:=by
    simp only[BC];rw[Ai (by rw[hx,O]),ai]
   simp only[Ak];simp only[ZZ,simprocAttr,AL,Qzl,Qzb,e1,Ei];rw[AB (by omega) (by omega)];refine⟨by simp,?_⟩
   have:=Qzo [(4,some 8)] ((BC own n k).map Du++[[D.sl false 1 ((Dp own k m).map Ao)]])
   simpa only[Bm,Ei,Bb,Cs] using this
 .have:k=n:=by omega
  subst this;simp only[ZZ,simprocAttr,Xx]
end Go.Ae
namespace Go.Ae
def CA(b n:Nat)(f:Nat->Ap):Ar:=(List.range n).map λi=>(b+i,f i)
def Ot(b n:Nat)(f:Nat->Ap):CA b (n+1) f=CA b n f++[(b+n,f n)]:=by
 simp only[CA,ZeD,Ei,Bb,Cs]
def zF(b:Nat)(f:Nat->Ap)(m:Nat): ∀(n:Nat),hget (CA b n f) m=if b<=m/\m<b+n then some (f (m - b)) else none
 |0=>by rw[Ad (by omega)];rfl
 |n+1=>by
  rw[Ot,zE,zF b f m n];simp only[hget];by_cases h:b<=m/\m<b+n
  .rw[Ai h,Ai (by omega)]
  .rw[Ad h];by_cases z:b+n=m
   .subst z;rw[Ai (by omega),show b+n - b=n by omega];simp
   .have:(b+n==m)=false:=by simpa using z
    rw[this,Ad (by omega)];rfl
def dJ(b n:Nat)(f:Nat->Ap)(j:Nat)(h:j<n):hget (CA b n f) (b+j)=some (f j):=by
 rw[zF,Ai (by omega),show b+j - b=j by omega]
def Qmh(b n:Nat)(f:Nat->Ap)(m:Nat)(h:m<b\/b+n<=m):hget (CA b n f) m=none:=by
 rw[zF,Ad (by omega)]
def Zm(m:Nat)(ks:List Nat): ∀(x:Ar),hget (Cn x ks) m=if ks.contains m then none else hget x m
 |[]=>by simp[Cn,hget]
 |(q,e)::r=>by
  simp only[Cn];have ih:=Zm m ks r;cases hq:ks.contains q
  .simp only[Ct,hget];cases hqm:q==m
   .simpa using ih
   .have:q=m:=by simpa using hqm
    subst this;simp only[C3,hq];rfl
  .simp only[C3,ih,hget];cases hqm:q==m
   .simp
   .have:q=m:=by simpa using hqm
    subst this;rw[Ai hq,Ai hq]
def Qns(π:List (Nat×Option Nat))(s:Az)(y:Ar): ∀(x:Ar),Hj π s (x++y)=(Hj π s x/\Hj π s y)
 |[]=>by simp[Hj]
 |(q,(z,e))::r=>by simp only[CW,Hj,Qns π s y r,fP]
def kF(π:List (Nat×Option Nat))(s:Az)(b n:Nat)(f:Nat->Ap):Hj π s (CA b n f)↔ ∀i,i<n->EC s π (f i).1 (f i).2 (pm π (b+i)):=by
 have: ∀(l:List Nat),Hj π s (l.map λi=>(b+i,f i))↔ ∀i∈l,EC s π (f i).1 (f i).2 (pm π (b+i)):=by
  intro l;induction l with
  |nil=>simp[Hj]
  |cons i r ih=>simp only[Bb,Hj,ih,Bx,Zfh]
 rw[CA,this];simp only[Dt]
def Hx:Ar->List Nat
 |[]=>[]
 |(n,_)::r=>n::Hx r
def kO(π:List (Nat×Option Nat)): ∀(H:Ar),O4 π H=(Hx H).map (pm π)
 |[]=>rfl
 |(n,e)::r=>by simp only[O4,Hx,Bb,kO π r]
def dO(b n:Nat)(f:Nat->Ap):Hx (CA b n f)=(List.range n).map (b+ ·):=by
 have: ∀(l:List Nat),Hx (l.map λi=>(b+i,f i))=l.map (b+ ·):=by
  intro l;induction l with
  |nil=>rfl
  |cons i r ih=>simp only[Bb,Hx,ih]
 exact this _
def kZ(g:Nat->Option Nat): ∀(l:List Nat),l.Nodup->(∀x∈l,∀y∈l,∀m,g x=some m->g y=some m->x=y)->EW (l.map g)=true
 |[],_,_=>rfl
 |x::r,h,G=>by
  simp only[Hn] at h;have ih:=kZ g r h.2 (λa Q b Z=>G a (BZ _ Q) b (BZ _ Z));simp only[Bb];cases hx:g x with
  |none=>simpa only[EW] using ih
  |some m=>
   simp only[EW,ih,F1,JP];rw[Rf];intro hc;obtain⟨y,O,z⟩:=BI.1 (G6.1 hc)
   have:=G x (Cb ..) y (BZ _ O) m hx z
   exact h.1 (this▸O)
def lA(π:List (Nat×Option Nat)): ∀(a b:List (List AV)),GB π a b↔a.length=b.length/\ ∀(i:Nat) x y,a[i]? =some x->b[i]? =some y->DZ π x y
 |[],[]=>by simp[GB]
 |[],_::_=>by simp[GB]
 |_::_,[]=>by simp[GB]
 |x::r,y::s=>by
  simp only[GB,lA π r s,Cr,Nat.add_right_cancel_iff];constructor
  .rintro⟨Z,Q,O⟩;refine⟨Q,λi x' y' z G=> ?_⟩;cases i with
   |zero=>
    simp only[G4,AI] at z G;subst z;subst G;exact Z
   |succ i=>exact O i x' y' (by simpa using z) (by simpa using G)
  .rintro⟨Q,O⟩;exact⟨O 0 x y rfl rfl,Q,λi x' y' z G=>O (i+1) x' y' (by simpa using z) (by simpa using G)⟩
def kK(nx b:Nat)(f:Nat->Ap)(hf: ∀i,AD nx [(b+i,f i)]=true)(n:Nat):AD nx (CA b n f)=true:=by
 have G: ∀(x y:Ar),AD nx (x++y)=(AD nx x && AD nx y):=by
  intro x y;induction x with
  |nil=>simp[AD]
  |cons z r ih=>
   obtain⟨q,Q,e⟩:=z;cases e<;>simp[AD,ih,ZeV]
 have: ∀(l:List Nat),AD nx (l.map λi=>(b+i,f i))=true:=by
  intro l;induction l with
  |nil=>rfl
  |cons i r ih=>
   have O:=G [(b+i,f i)] (r.map λi=>(b+i,f i));rw[Bb,show (b+i,f i)::(r.map λi=>(b+i,f i))=[(b+i,f i)]++(r.map λi=>(b+i,f i)) from rfl,O,hf i,ih];rfl
 exact this _
def dM(nx b n:Nat)(f:Nat->Ap)(h:b+n<=nx):Cg nx (CA b n f)=true:=by
 have: ∀(l:List Nat),(∀i∈l,i<n)->Cg nx (l.map λi=>(b+i,f i))=true:=by
  intro l;induction l with
  |nil=>intro _;rfl
  |cons i r ih=>
   intro z;simp only[Bb,Cg,ih (λj O=>z j (BZ _ O)),F1];rw[H5]
   have:=z i (Cb ..)
   omega
 exact this _ (λi G=>Dt.1 G)
def IG(b n:Nat):List (Nat×Option Nat):=(List.range n).map λi=>(b+i,none)
def lD(b n m:Nat):pm (IG b n) m=if b<=m/\m<b+n then none else some m:=by
 have: ∀(l:List Nat),pm (l.map λi=>(b+i,none)) m=if b<=m/\m - b∈l then none else some m:=by
  intro l;induction l with
  |nil=>simp[pm]
  |cons i r ih=>
   simp only[Bb,pm,ih,Bx];by_cases h:b+i=m
   .rw[Ai h,Ai ⟨by omega,.inl (by omega)⟩]
   .rw[Ad h];by_cases z:b<=m/\m - b∈r
    .rw[Ai z,Ai ⟨z.1,.inr z.2⟩]
    .rw[Ad z,Ad (by rintro⟨O,G|G⟩;exact h (by omega);exact z ⟨O,G⟩)]
 rw[IG,this];simp only[Dt];by_cases h:b<=m/\m<b+n
 .rw[Ai h,Ai (by omega)]
 .rw[Ad h,Ad (by omega)]
def Sv(lo b n:Nat)(h:lo<=b):VD lo (IG b n):=by
 have: ∀(l:List Nat),VD lo (l.map λi=>(b+i,none)):=by
  intro l;induction l with
  |nil=>trivial
  |cons i r ih=>simp only[Bb,VD];exact⟨by omega,ih⟩
 exact this _
end Go.Ae
namespace Go.Ae
open Go.Proofs
def Ds(n:Bc)(v i:Int):Int×Int:=match n.Bonds[i.toNat]? with
 |some b=>if b.A=v then (b.Strength - n.Flow[i.toNat]?.getD 0,b.B) else (b.Strength+n.Flow[i.toNat]?.getD 0,b.A)
 |none=>(0,0)
structure Dv(n:Bc):Prop where
 c0:0<=n.Cnt
 c1:n.Cnt<=1000000
 fl:n.Flow.length=n.Bonds.length
 al:(n.At.length:Int)=n.Cnt
 bs:KD n.Cnt n.Bonds
 at_: ∀(v:Nat) (r:List Int),n.At[v]? =some r-> ∀i∈r,0<=i/\ ∃b,n.Bonds[i.toNat]? =some b/\(b.A=v\/b.B=v)
 f: ∀x∈n.Flow,-1000000<=x/\x<=1000000
 st: ∀b∈n.Bonds,0<=b.Strength/\b.Strength<=1000000
 all: ∀(i:Nat) b,n.Bonds[i]? =some b->(∃r,n.At[b.A.toNat]? =some r/\(i:Int)∈r)/\ ∃r,n.At[b.B.toNat]? =some r/\(i:Int)∈r
 ne: ∀b∈n.Bonds,b.A≠b.B
def roomC.fv(a:Bc×Int×Int):Int×Int:=(Ds) (a.1) (a.2.1) (a.2.2)
def roomC.row:Ax:=Fv (b3 (qP 4 Bc.d_le) qI qI) (r2 rI rI) (λa=>Dv a.1/\0<=a.2.2/\a.2.2<a.1.Bonds.length) roomC.fv
def roomC.q:=CR (R:=roomC.row) rfl
def roomC.ok:AA 290 roomC.row:=by
 refine HJ tN Tryz.func290 ?_;intro a z;simp only[Tryz.f290];simp only[ZZ,simprocAttr,roomC.fv,D.sc,D.scs,Bt];obtain⟨G,O,h3⟩:=z;have aa:=G.fl;refine⟨O,h3,λb Q=> ?_⟩;have ab:=G.st b (AP Q)
 split<;>rename_i h
 .refine⟨O,by omega,λf hf=> ?_⟩;have Z:=G.f f (AP hf);rw[AB (by omega) (by omega)];simp only[Ds,Q,hf,AS];rw[Ai h]
 .refine⟨O,by omega,λf hf=> ?_⟩;have Z:=G.f f (AP hf);rw[AB (by omega) (by omega)];simp only[Ds,Q,hf,AS];rw[Ad h]
def D0(n:Bc)(v i:Int):Int:=match n.Bonds[i.toNat]? with
 |some b=>b.A+b.B - v
 |none=>0
def B9(n:Bc)(v:Int)(s:List Int×List Int)(i:Int):List Int×List Int:=
 if s.1[(D0 n v i).toNat]?.getD 0<0/\0<(Ds n (D0 n v i) i).1 then (s.1.set (D0 n v i).toNat (s.1[v.toNat]?.getD 0+1),s.2++[D0 n v i]) else s
def CB(n:Bc)(q:Int):Nat->List Int×List Int
 |0=>((List.replicate n.Cnt.toNat (-1)).set q.toNat 0,[q])
 |k+1=>match (CB n q k).2[k]? with
  |none=>CB n q k
  |some v=>(n.At[v.toNat]?.getD []).foldl (B9 n v) (CB n q k)
def Fg(n:Bc)(q:Int):List Int:=(CB n q n.Cnt.toNat).1
structure WH(n:Bc)(s:List Int×List Int):Prop where
 len:s.1.length=n.Cnt.toNat
 rng: ∀x∈s.1,-1<=x/\x<=s.2.length
 q: ∀x∈s.2,0<=x/\x<n.Cnt
 cnt:(s.1.filter (λx=>decide (0<=x))).length=s.2.length
def Qlu{A:Type}(p:A->Bool): ∀(l:List A) (w:Nat) (x y:A),l[w]? =some x->p x=false->p y=true->((l.set w y).filter p).length=(l.filter p).length+1
 |[],w,x,y,h,_,_=>by simp at h
 |z::r,0,x,y,h,G,O=>by
  simp only[G4,AI] at h;subst h;simp[G,O]
 |z::r,w+1,x,y,h,G,O=>by
  have:=Qlu p r w x y (by simpa using h) G O
  simp only[mE,lW];split
  .simp only[Cr,this]
  .exact this
def yV{n:Bc}(h0:0<=n.Cnt){s:List Int×List Int}(h:WH n s):(s.2.length:Int)<=n.Cnt:=by
 have z:=h.cnt;have G:=fC (λx=>decide (0<=x)) s.1;have O:=h.len;omega
def eH{n:Bc}(hn:Dv n){v:Nat}{r:List Int}(Q:n.At[v]? =some r){i:Int}(O:i∈r):0<=i/\i<n.Bonds.length/\0<=D0 n v i/\D0 n v i<n.Cnt:=by
 obtain⟨h0,b,z,hv⟩:=hn.at_ v r Q i O;have G:=hn.bs b (AP z);have Z:=(BJ.1 z).1;simp only[D0,z];omega
def Qtm{n:Bc}(hn:Dv n){v:Nat}{r:List Int}(Q:n.At[v]? =some r){i:Int}(O:i∈r){s:List Int×List Int}(hs:WH n s):WH n (B9 n v s i):=by
 obtain⟨_,_,o1,o2⟩:=eH hn Q O;simp only[B9];split
 .rename_i h;have G:(D0 n v i).toNat<s.1.length:=by rw[hs.len];omega
  obtain⟨x,hx⟩: ∃x,s.1[(D0 n v i).toNat]? =some x:=⟨_,Bd G⟩;have Z:x<0:=by have:=h.1;rw[hx] at this;simpa using this
  have hvb:0<=s.1[(v:Int).toNat]?.getD 0+1/\s.1[(v:Int).toNat]?.getD 0+1<=s.2.length+1:=by
   cases hv:s.1[(v:Int).toNat]? with
   |none=>simp;omega
   |some y=>have:=hs.rng y (AP hv);simp only[AS];omega
  refine⟨by simpa using hs.len,λy z=> ?_,λy z=> ?_,?_⟩
  .simp only[BQ,Cr,F3];rcases ZM z with z|z
   .have:=hs.rng y z;omega
   .subst z;omega
  .rcases Bp.1 z with z|z
   .exact hs.q y z
   .rw[B4] at z;subst z;exact⟨o1,o2⟩
  .rw[Qlu _ _ _ x _ hx (by rw[Ho];omega) (by rw[Bo];exact hvb.1),hs.cnt];simp
 .exact hs
def Qs1{n:Bc}(hn:Dv n){v:Nat}{r:List Int}(O:n.At[v]? =some r): ∀(l:List Int) (s:List Int×List Int),(∀i∈l,i∈r)->WH n s->WH n (l.foldl (B9 n v) s)
 |[],s,_,z=>z
 |i::l,s,G,z=>Qs1 hn O l _ (λj Q=>G j (BZ _ Q)) (Qtm hn O (G i (Cb ..)) z)
def W8{n:Bc}(hn:Dv n){q:Int}(h0:0<=q)(G:q<n.Cnt): ∀k,WH n (CB n q k)
 |0=>by
  have hq:q.toNat<n.Cnt.toNat:=by omega
  refine⟨by simp[CB],λx z=> ?_,λx z=> ?_,?_⟩
  .simp only[CB] at z⊢;rcases ZM z with z|z
   .have:=PY z;simp;omega
   .subst z;simp
  .simp only[CB,B4] at z;subst z;exact⟨h0,G⟩
  .simp only[CB];rw[Qlu _ _ _ (-1) _ (by rw[NL,Ai hq]) (by simp) (by simp)]
   have:(List.replicate n.Cnt.toNat (-1:Int)).filter (λx=>decide (0<=x))=[]:=by
    rw[Zfj];intro x z;rw[PY z];simp
   rw[this];rfl
 |k+1=>by
  have ih:=W8 hn h0 G k;simp only[CB];split
  .exact ih
  .rename_i v Q;have Z:=ih.q v (AP Q);obtain⟨m,rfl⟩: ∃m:Nat,v=m:=⟨v.toNat,by omega⟩;have O:m<n.At.length:=by have:=hn.al;omega
   obtain⟨r,hr⟩: ∃r,n.At[m]? =some r:=⟨_,Bd O⟩;simp only[BD,hr,AS];exact Qs1 hn hr r _ (λ_ h=>h) ih
def KY(n:Bc)(q:Int): ∀(m k:Nat),(CB n q k).2.length<=k->CB n q (k+m)=CB n q k
 |0,k,_=>rfl
 |m+1,k,h=>by
  have z:CB n q (k+1)=CB n q k:=by
   rw[CB,Fz h]
  have G:=KY n q m (k+1) (by rw[z];omega);rw[show k+(m+1)=k+1+m by omega,G,z]
def Qwn(n:Bc)(v:Int): ∀(l:List Int) (s:List Int×List Int),s.2.length<=(l.foldl (B9 n v) s).2.length
 |[],s=>AF _
 |i::l,s=>by
  have z:s.2.length<=(B9 n v s i).2.length:=by
   simp only[B9];split
   .simp
   .exact AF _
  exact BR z (Qwn n v l _)
def stepsC.fv(a:Bc×Int):List Int:=(Fg) (a.1) (a.2)
def stepsC.row:Ax:=Fv (b2 (qP 4 Bc.d_le) qI) (rS FK EM) (λa=>Dv a.1/\0<=a.2/\a.2<a.1.Cnt) stepsC.fv
def stepsC.q:=CR (R:=stepsC.row) rfl
def stepsC.ok:AA 259 stepsC.row:=by
 refine HJ (tC roomC.ok tN) Tryz.func259 ?_;intro a ag;simp only[Tryz.f259];simp only[ZZ,simprocAttr,stepsC.fv];obtain⟨hn,ah,an⟩:=ag;have av:=hn.c1;obtain⟨c,hc⟩: ∃c:Nat,a.1.Cnt=c:=⟨a.1.Cnt.toNat,by omega⟩;refine AR.ren ⟨{k:Nat//k<=c},λk=>⟨[(6,.im (.int .i64 k.1)),(5,.own 3),(0,.ptr 0 0),(1,.im (.int .i64 a.2))],[(3,(true,.arr 2 1 ((List.replicate k.1 (-1:Int)).map Ao))),(0,(false,.view (Bc.c a.1)))],4⟩,λk=>c - k.1,λk=>⟨by simp[ZG],by simp⟩,⟨⟨0,by simp⟩,[(3,some 2)],?_⟩,λk=> ?_⟩
 .simp only[Ak];simp only[ZZ,simprocAttr,AL,List.replicate_zero]
  try simp
 obtain⟨k,ak⟩:=k;simp only[ZZ,simprocAttr,Eb,AM,hc,NM];refine⟨λhk=>⟨by omega,⟨k+1,by omega⟩,[(3,some 5)],by simp only;omega,?_⟩,λhk=> ?_⟩
 .simp only[Ak];simp only[ZA,simprocAttr,AL];refine⟨by rw[AB (by omega) (by omega)];omega,?_⟩;rw[List.replicate_succ'];simp[Ao]
 have am:c=k:=by omega
 subst am;refine⟨ah,by omega,by omega,λ_ _=> ?_⟩;have aq:=hn.al;have ac:=W8 hn ah an;refine AR.ren ⟨{k:Nat//k<=(CB a.1 a.2 k).2.length},λk=>⟨[(8,.im (.int .i64 k.1)),(7,.own 5),(5,.own 3),(0,.ptr 0 0),(1,.im (.int .i64 a.2))],[(5,(true,.arr 2 1 ((CB a.1 a.2 k.1).2.map Ao))),(3,(true,.arr 2 1 ((CB a.1 a.2 k.1).1.map Ao))),(0,(false,.view (Bc.c a.1)))],6⟩,λk=>c - k.1,λk=>⟨by simp[ZG],by simp⟩,⟨⟨0,by simp⟩,[(5,some 4)],?_⟩,λk=> ?_⟩
 .simp only[Ak];simp only[ZZ,simprocAttr,AL,hc,CB];simp[Ao,KN]
 obtain⟨k,ak⟩:=k;have hi:=ac k;have aw:=hi.len;have ay:=yV (by omega) hi;simp only[ZZ,simprocAttr,Eb,D.sc,Fc,Bt,AM,hc];intro _;refine⟨λhk=>⟨hk,hk,λv hv=> ?_⟩,λhk=> ?_⟩
 .have a8:=hi.q v (AP hv);obtain⟨m,rfl⟩: ∃m:Nat,v=m:=⟨v.toNat,by omega⟩;have hm:m<a.1.At.length:=by omega
  obtain⟨r,hr⟩: ∃r,a.1.At[m]? =some r:=⟨_,Bd hm⟩;have O:CB a.1 a.2 (k+1)=r.foldl (B9 a.1 m) (CB a.1 a.2 k):=by
   simp only[CB,hv,BD,hr,AS]
  refine AR.ren ⟨{j:Nat//j<=r.length},λj=>⟨[(10,.im (.int .i64 j.1)),(9,.im (.int .i64 m)),(8,.im (.int .i64 k)),(7,.own 6),(5,.own 3),(0,.ptr 0 0),(1,.im (.int .i64 a.2))],[(6,(true,.arr 2 1 (((r.take j.1).foldl (B9 a.1 m) (CB a.1 a.2 k)).2.map Ao))),(3,(true,.arr 2 1 (((r.take j.1).foldl (B9 a.1 m) (CB a.1 a.2 k)).1.map Ao))),(0,(false,.view (Bc.c a.1)))],7⟩,λj=>r.length - j.1,λj=>⟨by simp[ZG],by simp⟩,⟨⟨0,by simp⟩,[(6,some 5)],?_⟩,λj=> ?_⟩
  .simp only[Ak];simp only[ZZ,simprocAttr,AL,hc,Rd]
   try simp
  obtain⟨j,ax⟩:=j;have hs:=Qs1 hn hr (r.take j) _ (λi hi=>uV hi) hi;obtain⟨s,hsd⟩: ∃s,s=(r.take j).foldl (B9 a.1 m) (CB a.1 a.2 k):=⟨_,rfl⟩;rw[<-hsd] at hs;have ao:=hs.len;have a0:=yV (by omega) hs;simp only[<-hsd];have af:(⟨(c:Int),a.1.Bonds,a.1.At,a.1.Flow⟩:Bc)=a.1:=by rw[<-hc]
  simp only[ZZ,simprocAttr,rch,roomC.q,roomC.fv,Eb,AM,hc,af,ao,FJ,FI,PL,Bn,D.one];refine⟨hm,λr' G=> ?_⟩;rw[hr] at G;obtain rfl:=Aw G;intro az;refine⟨λhj=>⟨hm,λr' G=> ?_⟩,λhj=> ?_⟩
  .rw[hr] at G;obtain rfl:=Aw G;refine⟨hj,λi ab=> ?_⟩;have ai:=AP ab;obtain⟨i0,i1,o0,o1⟩:=eH hn hr ai;have z:(r.take (j+1)).foldl (B9 a.1 m) (CB a.1 a.2 k)=B9 a.1 m s i:=by
    rw[G9,ab,uJ,<-hsd];rfl
   refine⟨i0,i1,λb hb=>⟨i0,i1,λb' aa=> ?_⟩⟩;rw[hb] at aa;obtain rfl:=Aw aa;have au:=hn.bs b (AP hb);have hw:IntKind.wrap .i64 (IntKind.wrap .i64 (b.A+b.B) - m)=D0 a.1 m i:=by
    rw[AB (x:=b.A+b.B) (by omega) (by omega),AB (by omega) (by omega)];simp only[D0,hb]
   rw[hw];have ad:(D0 a.1 m i).toNat<c:=by omega
   refine⟨⟨hn,i0,i1⟩,o0,by omega,ad,λx hx=>⟨λZ=>⟨λQ=>⟨by omega,by omega,λy hy=>⟨o0,by omega,ad,λ_ _=>⟨by omega,⟨j+1,by omega⟩,[(6,some 8)],by simp only;omega,?_⟩⟩⟩,λQ=>⟨⟨j+1,by omega⟩,[(6,some 6)],by simp only;omega,?_⟩⟩,λZ=>⟨⟨j+1,by omega⟩,[(6,some 6)],by simp only;omega,?_⟩⟩⟩
   .have e1:B9 a.1 m s i=(s.1.set (D0 a.1 m i).toNat (y+1),s.2++[D0 a.1 m i]):=by
     simp only[B9];rw[Ai ⟨by rw[hx];exact Z,Q⟩,BD,hy];rfl
    have a9:=hs.rng y (AP hy);simp only[Ak,z,e1];simp only[ZA,simprocAttr,AL];rw[AB (x:=y+1) (by omega) (by omega)];refine⟨by rw[AB (by omega) (by omega)];omega,?_,?_⟩
    .simp[Ao]
    .simp[Ao,KN]
   .have e1:B9 a.1 m s i=s:=by
     simp only[B9];rw[Ad (λh=>Q h.2)]
    simp only[Ak,z,e1];simp only[ZA,simprocAttr,AL];rw[AB (by omega) (by omega)];simp
   .have e1:B9 a.1 m s i=s:=by
     simp only[B9];rw[Ad (λh=>Z (by have:=h.1;rw[hx] at this;exact this))]
    simp only[Ak,z,e1];simp only[ZA,simprocAttr,AL];rw[AB (by omega) (by omega)];simp
  .have aj:j=r.length:=by omega
   subst aj;rw[El] at hsd;refine⟨⟨k+1,by
    have:=Qwn a.1 m r (CB a.1 a.2 k)
    rw[O];omega⟩,[(5,some 6)],by simp only;omega,?_⟩
   simp only[Ak,O,<-hsd];simp only[ZA,simprocAttr,AL];rw[AB (by omega) (by omega)];simp
 .rw[Fg,hc,BD]
  have:=KY a.1 a.2 (c - k) k (by omega)
  rw[show k+(c - k)=c by omega] at this;rw[this]
def ZD(l:List Int):Nat->List Int
 |0=>[]
 |k+1=>ZD l k++(if 0<=l[k]?.getD (-1) then [(k:Int)] else [])
def Qu8(l:List Int): ∀k,(ZD l k).length<=k
 |0=>AF _
 |k+1=>by
  have:=Qu8 l k
  simp only[ZD,BQ]
  split<;>simp<;>omega
def eV(n:Bc)(q:Int):List Int:=ZD (Fg n q) n.Cnt.toNat
def qZ{n:Bc}(hn:Dv n){q:Int}(h0:0<=q)(z:q<n.Cnt):(Fg n q).length=n.Cnt.toNat:=(W8 hn h0 z _).len
def sideC.fv(a:Bc×Int):List Int:=(eV) (a.1) (a.2)
def sideC.row:Ax:=Fv (b2 (qP 4 Bc.d_le) qI) (rS FK EM) (λa=>Dv a.1/\0<=a.2/\a.2<a.1.Cnt) sideC.fv
def sideC.q:=CR (R:=sideC.row) rfl
def sideC.ok:AA 222 sideC.row:=by
 refine HJ (tC stepsC.ok tN) Tryz.func222 ?_;intro a z;simp only[Tryz.f222];simp only[ZZ,simprocAttr,rch,sideC.fv,stepsC.q,stepsC.fv];refine⟨z,?_⟩;obtain⟨hn,O,Q⟩:=z;have aa:=hn.c1;obtain⟨c,hc⟩: ∃c:Nat,a.1.Cnt=c:=⟨a.1.Cnt.toNat,by omega⟩;have G:=qZ hn O Q;rw[hc,BD] at G;simp only[eV,hc,BD];obtain⟨l,hl⟩: ∃l,l=Fg a.1 a.2:=⟨_,rfl⟩;simp only[<-hl] at G⊢;refine AR.ren ⟨{k:Nat//k<=c},λk=>⟨[(7,.im (.int .i64 k.1)),(6,.own 3),(5,.im (.sl false 1 (l.map Ao))),(0,.ptr 0 0)],[(3,(true,.arr 2 1 ((ZD l k.1).map Ao))),(0,(false,.view (Bc.c a.1)))],4⟩,λk=>c - k.1,λk=>⟨by simp[ZG],by simp⟩,⟨⟨0,by simp⟩,[(3,some 2)],?_⟩,λk=> ?_⟩
 .simp only[Ak];simp only[ZZ,simprocAttr,AL,hc,ZD]
  try simp
 obtain⟨k,ab⟩:=k;have ac:=Qu8 l k;simp only[ZZ,simprocAttr,Eb,D.sc,Fc,Bt,AM,hc,G,FJ,FI,PL,Bn,D.one];refine⟨λZ=>⟨Z,λx hx=>⟨λh=>⟨by omega,⟨k+1,by omega⟩,[(3,some 5)],by simp only;omega,?_⟩,λh=>⟨⟨k+1,by omega⟩,[(3,some 3)],by simp only;omega,?_⟩⟩⟩,λZ=> ?_⟩
 .simp only[Ak];simp only[ZA,simprocAttr,AL];refine⟨by rw[AB (by omega) (by omega)];omega,?_⟩;simp only[ZD,hx,AS];rw[Ai h];simp[Ao]
 .simp only[Ak];simp only[ZA,simprocAttr,AL];refine⟨by rw[AB (by omega) (by omega)];omega,?_⟩;simp only[ZD,hx,AS];rw[Ad h,CC]
 .rw[show k=c by omega]
def HR(n:Bc)(v i:Int):Bc:=⟨n.Cnt,n.Bonds,n.At,match n.Bonds[i.toNat]? with
 |some b=>n.Flow.set i.toNat (if b.A=v then n.Flow[i.toNat]?.getD 0+1 else n.Flow[i.toNat]?.getD 0 - 1)
 |none=>n.Flow⟩
def HL(n:Bc):List AV:=[.im (.int .i64 n.Cnt),.im (.sl false 3 (n.Bonds.map Af.c)),.im (.sl false 1 (n.At.map Du)),.own 1]
def Gp(n:Bc):Ar:=[(0,(true,.cells 319 (HL n))),(1,(true,.arr 2 1 (n.Flow.map Ao)))]
def nL(n:Bc)(j:Nat):An (Gp n) j=true↔j<2:=by
 simp only[An,Gp,hget];by_cases h0:j=0
 .subst h0;simp
 .by_cases O:j=1
  .subst O;simp
  .have z:(0==j)=false:=by simp;omega
   have G:(1==j)=false:=by simp;omega
   simp[z,G];omega
def aJ(j:Nat):Bool:=j==1
def pushC.ca(a:Bc×Int×Int):List AV:=[.ptr 0 0,.im (.int .i64 a.2.1),.im (.int .i64 a.2.2)]
def pushC.H1(a:Bc×Int×Int):Ar:=[(1,(true,.arr 2 1 ((HR a.1 a.2.1 a.2.2).Flow.map Ao)))]
def pushC.row:Ax:=AE pushC.ca (λa=>Gp a.1) 2 (λa=>Dv a.1/\0<=a.2.2/\a.2.2<a.1.Bonds.length) aJ (λ_=> .im (.tup [])) pushC.H1 0
def pushC.ok:AA 291 pushC.row:=by
 refine ow tN Tryz.func291 (exB:=λ_=>false) (R:=λ_ r=>r= .im (.tup [])) (λ_=>rfl)
  (λa=>by simp[pushC.ca,Gp,HL,AN,AV.bel,AD,Cg,Cx,Ag.nms,A9,AV.nms,An,hget]) (λa p hp=> ?_) (λa r h=>by subst h;exact DK.refl _) ?_
 rotate_left
 intro a z;simp only[Tryz.f291,pushC.ca,Gp,HL,pushC.H1];simp only[ZA,simprocAttr,aJ];obtain⟨hn,h0,Q⟩:=z;have Z:=hn.fl;refine⟨h0,Q,λb O=> ?_⟩
 split<;>rename_i h
 .refine⟨h0,by omega,by omega,λf hf=>⟨h0,by omega,by omega,λ_ _=> ?_⟩⟩;have G:=hn.f f (AP hf);rw[AB (by omega) (by omega)];simp only[HR,O,hf,AS,Ai h,KN];rfl
 .refine⟨h0,by omega,by omega,λf hf=>⟨h0,by omega,by omega,λ_ _=> ?_⟩⟩;have G:=hn.f f (AP hf);rw[AB (by omega) (by omega)];simp only[HR,O,hf,AS,Ad h,KN];rfl
 simp[pushC.H1] at hp;subst hp;exact .inl ⟨by omega,rfl,rfl⟩
structure F9(n:Bc)(q:Int)(s:List Int×List Int):Prop where
 zero:s.1[q.toNat]? =some 0
 uniq: ∀(w:Nat),s.1[w]? =some 0->w=q.toNat
 prev: ∀(w:Nat) (x:Int),s.1[w]? =some x->0<x-> ∃(v:Nat) (r:List Int) (i:Int),s.1[v]? =some (x - 1)/\n.At[v]? =some r/\i∈r/\D0 n v i=w/\0<(Ds n w i).1
 qs: ∀v∈s.2,∃y,s.1[v.toNat]? =some y/\0<=y
def rD(n:Bc)(v:Int)(s:List Int×List Int)(i:Int)(u:Nat)(y:Int)(h:s.1[u]? =some y)(h0:0<=y):(B9 n v s i).1[u]? =some y:=by
 simp only[B9];split
 .rename_i G;have z:(D0 n v i).toNat≠u:=by
   intro O;rw[O,h] at G
   have:=G.1
   simp at this;omega
  simp only;rw[DM z];exact h
 .exact h
def Qor(n:Bc)(v:Int)(u:Nat)(y:Int)(h0:0<=y): ∀(l:List Int) (s:List Int×List Int),s.1[u]? =some y->(l.foldl (B9 n v) s).1[u]? =some y
 |[],_,h=>h
 |i::l,s,h=>Qor n v u y h0 l _ (rD n v s i u y h h0)
def fU{n:Bc}(hn:Dv n){q:Int}{v:Nat}{r:List Int}(hr:n.At[v]? =some r){i:Int}(hi:i∈r){s:List Int×List Int}(hs:WH n s)(hp:F9 n q s){y:Int}(hv:s.1[v]? =some y)(hy:0<=y):F9 n q (B9 n v s i):=by
 obtain⟨_,_,o1,o2⟩:=eH hn hr hi;have keep:=λu z h h0=>rD n v s i u z h h0
 have Z:(D0 n v i).toNat<s.1.length:=by rw[hs.len];omega
 by_cases hc:s.1[(D0 n v i).toNat]?.getD 0<0/\0<(Ds n (D0 n v i) i).1
 .have Q:B9 n v s i=(s.1.set (D0 n v i).toNat (y+1),s.2++[D0 n v i]):=by
   simp only[B9];rw[Ai hc,BD,hv];rfl
  have hget: ∀(w:Nat) (x:Int),(B9 n v s i).1[w]? =some x->(w=(D0 n v i).toNat/\x=y+1)\/s.1[w]? =some x:=by
   intro w x G;rw[Q] at G;simp only at G;by_cases hw:(D0 n v i).toNat=w
   .subst hw;rw[Ee Z] at G;exact .inl ⟨rfl,(Aw G).symm⟩
   .rw[DM hw] at G;exact .inr G
  refine⟨keep _ _ hp.zero (by omega),λw hw=> ?_,λw x G h0=> ?_,λu O=> ?_⟩
  .rcases hget w 0 hw with ⟨_,h⟩|h
   .omega
   .exact hp.uniq w h
  .rcases hget w x G with ⟨h1,h2⟩|h
   .refine⟨v,r,i,keep _ _ (by rw[hv];congr 1;omega) (by omega),hr,hi,by omega,?_⟩
    have:(w:Int)=D0 n v i:=by omega
    rw[this];exact hc.2
   .obtain⟨v',r',i',g1,g2,g3,g4,g5⟩:=hp.prev w x h h0;exact⟨v',r',i',keep _ _ g1 (by omega),g2,g3,g4,g5⟩
  .rw[Q] at O;rcases Bp.1 O with O|O
   .obtain⟨z,h1,h2⟩:=hp.qs u O;exact⟨z,keep _ _ h1 h2,h2⟩
   .rw[B4] at O;subst O;refine⟨y+1,?_,by omega⟩;rw[Q];exact Ee Z
 .have Q:B9 n v s i=s:=by simp only[B9];rw[Ad hc]
  rw[Q];exact hp
def Rx{n:Bc}(hn:Dv n){q:Int}{v:Nat}{r:List Int}(G:n.At[v]? =some r){y:Int}(O:0<=y): ∀(l:List Int) (s:List Int×List Int),(∀i∈l,i∈r)->WH n s->F9 n q s->s.1[v]? =some y->F9 n q (l.foldl (B9 n v) s)
 |[],s,_,_,hp,_=>hp
 |i::l,s,z,Q,hp,Z=>Rx hn G O l _ (λj hj=>z j (BZ _ hj)) (Qtm hn G (z i (Cb ..)) Q) (fU hn G (z i (Cb ..)) Q hp Z O) (rD n v s i v y Z O)
def Nr{n:Bc}(hn:Dv n){q:Int}(h0:0<=q)(h1:q<n.Cnt): ∀k,F9 n q (CB n q k)
 |0=>by
  have hq:q.toNat<n.Cnt.toNat:=by omega
  have z:q.toNat<(List.replicate n.Cnt.toNat (-1:Int)).length:=by rw[NM];exact hq
  have hget: ∀(w:Nat) (x:Int),((List.replicate n.Cnt.toNat (-1:Int)).set q.toNat 0)[w]? =some x->(w=q.toNat/\x=0)\/x= -1:=by
   intro w x G;by_cases Q:q.toNat=w
   .subst Q;rw[Ee z] at G;exact .inl ⟨rfl,(Aw G).symm⟩
   .rw[DM Q] at G;exact .inr (PY (AP G))
  refine⟨Ee z,λw Q=> ?_,λw x G aa=> ?_,λv O=> ?_⟩
  .rcases hget w 0 Q with h|h
   .exact h.1
   .omega
  .rcases hget w x G with h|h<;>omega
  .simp only[CB,B4] at O;subst O;exact⟨0,Ee z,Qe _⟩
 |k+1=>by
  have ih:=Nr hn h0 h1 k;have hi:=W8 hn h0 h1 k;simp only[CB];split
  .exact ih
  .rename_i v O;have ab:=hi.q v (AP O);obtain⟨m,rfl⟩: ∃m:Nat,v=m:=⟨v.toNat,by omega⟩;have hm:m<n.At.length:=by have:=hn.al;omega
   obtain⟨r,hr⟩: ∃r,n.At[m]? =some r:=⟨_,Bd hm⟩;obtain⟨y,hy,Z⟩:=ih.qs _ (AP O);simp only[BD,hr,AS];exact Rx hn hr Z r _ (λ_ h=>h) hi ih (by simpa using hy)
def I0(n:Bc):Prop:= ∀(i:Nat) b f,n.Bonds[i]? =some b->n.Flow[i]? =some f-> -b.Strength<=f/\f<=b.Strength
def FQ(n:Bc)(st:List Int)(v:Int)(acc:Int×Int)(i:Int):Int×Int:=
 if 0<(Ds n v i).1/\st[(Ds n v i).2.toNat]?.getD 0=st[v.toNat]?.getD 0 - 1/\(acc.1<0\/(Ds n v i).2<acc.1) then ((Ds n v i).2,i) else acc
def GL(n:Bc)(st:List Int)(v:Int):Int×Int:=(n.At[v.toNat]?.getD []).foldl (FQ n st v) (-1,0)
def BU(n:Bc)(st:List Int)(p:Int):Nat->Bc×Int
 |0=>(n,p)
 |k+1=>(HR (BU n st p k).1 (BU n st p k).2 (GL (BU n st p k).1 st (BU n st p k).2).2,(GL (BU n st p k).1 st (BU n st p k).2).1)
def Fh(n:Bc)(p q:Int):Bc×Bool:=
 if (Fg n q)[p.toNat]?.getD 0<0 then (n,false) else ((BU n (Fg n q) p ((Fg n q)[p.toNat]?.getD 0).toNat).1,true)
def tL{n:Bc}(hn:Dv n){v:Nat}{r:List Int}(Q:n.At[v]? =some r){i:Int}(O:i∈r):0<=(Ds n v i).2/\(Ds n v i).2<n.Cnt:=by
 obtain⟨h0,b,z,Z⟩:=hn.at_ v r Q i O;have G:=hn.bs b (AP z);simp only[Ds,z]
 split<;>simp only<;>omega
def LC(n:Bc)(st:List Int)(v:Int)(r:List Int)(w:Int×Int):Prop:=w.2∈r/\0<(Ds n v w.2).1/\(Ds n v w.2).2=w.1/\st[w.1.toNat]?.getD 0=st[v.toNat]?.getD 0 - 1/\0<=w.1
def Qq8{n:Bc}(hn:Dv n)(st:List Int){v:Nat}{r:List Int}(O:n.At[v]? =some r): ∀(l:List Int) (acc:Int×Int),(∀i∈l,i∈r)->(acc.1<0\/LC n st v r acc)->(l.foldl (FQ n st v) acc).1<0\/LC n st v r (l.foldl (FQ n st v) acc)
 |[],acc,_,h=>h
 |i::l,acc,z,h=>by
  refine Qq8 hn st O l _ (λj Q=>z j (BZ _ Q)) ?_;simp only[FQ];split
  .rename_i G;exact .inr ⟨z i (Cb ..),G.1,rfl,G.2.1,(tL hn O (z i (Cb ..))).1⟩
  .exact h
def OO{n:Bc}(hn:Dv n)(st:List Int){v:Nat}{r:List Int}(G:n.At[v]? =some r){i:Int}(z:i∈r)(acc:Int×Int)(h:0<=acc.1):0<=(FQ n st v acc i).1:=by
 simp only[FQ];split
 .exact (tL hn G z).1
 .exact h
def Qvo{n:Bc}(hn:Dv n)(st:List Int){v:Nat}{r:List Int}(G:n.At[v]? =some r): ∀(l:List Int) (acc:Int×Int),(∀i∈l,i∈r)->0<=acc.1->0<=(l.foldl (FQ n st v) acc).1
 |[],_,_,h=>h
 |i::l,acc,z,h=>Qvo hn st G l _ (λj O=>z j (BZ _ O)) (OO hn st G (z i (Cb ..)) acc h)
def Qqh{n:Bc}(hn:Dv n)(st:List Int){v:Nat}{r:List Int}(O:n.At[v]? =some r){i:Int}(Q:0<(Ds n v i).1)(Z:st[(Ds n v i).2.toNat]?.getD 0=st[(v:Int).toNat]?.getD 0 - 1): ∀(l:List Int) (acc:Int×Int),(∀i∈l,i∈r)->i∈l->0<=(l.foldl (FQ n st v) acc).1
 |[],_,_,h=>by cases h
 |j::l,acc,hl,h=>by
  simp only[NQ];have z:=λk hk=>hl k (BZ _ hk)
  rcases Bx.1 h with rfl|h
  .refine Qvo hn st O l _ z ?_;have hb:=tL hn O (hl _ (Cb ..));simp only[FQ];split
   .exact hb.1
   .rename_i hc;rcases Int.lt_or_le acc.1 0 with G|G
    .exact absurd ⟨Q,Z,.inl G⟩ hc
    .exact G
  .exact Qqh hn st O Q Z l _ z h
def OP{n:Bc}(hn:Dv n)(st:List Int){v:Nat}{r:List Int}(z:n.At[v]? =some r){i:Int}(Q:i∈r)(G:0<(Ds n v i).1)(O:st[(Ds n v i).2.toNat]?.getD 0=st[(v:Int).toNat]?.getD 0 - 1):LC n st v r (GL n st v):=by
 have e:GL n st v=r.foldl (FQ n st v) (-1,0):=by simp only[GL,BD,z,AS]
 rw[e];have Z:=Qqh hn st z G O r (-1,0) (λ_ h=>h) Q;rcases Qq8 hn st z r (-1,0) (λ_ h=>h) (.inl (by decide)) with h|h
 .omega
 .exact h
def Yt{n:Bc}(hn:Dv n)(hc:I0 n){v:Nat}{i:Int}(h0:0<=i)(z:0<(Ds n v i).1):Dv (HR n v i)/\I0 (HR n v i):=by
 obtain⟨m,rfl⟩: ∃m:Nat,i=m:=⟨i.toNat,by omega⟩;have O:I0 (HR n v m):=by
  intro j b f G hf;simp only[HR,BD] at G hf;simp only[Ds,BD] at z;cases hbm:n.Bonds[m]? with
  |none=>rw[hbm] at hf;exact hc j b f G hf
  |some b'=>
   rw[hbm] at hf z;simp only at hf z;by_cases Q:m=j
   .subst Q;rw[G] at hbm;obtain rfl:=Aw hbm;have Z:m<n.Flow.length:=by
     have:=(BJ.1 hf).1
     simpa using this
    rw[Ee Z] at hf;have hf:=Aw hf;obtain⟨g,hg⟩: ∃g,n.Flow[m]? =some g:=⟨_,Bd Z⟩;have ab:=hc m b g G hg;rw[hg] at hf z;simp only[AS] at hf z;split at hf<;>rename_i hA
    .rw[Ai hA] at z;simp only at z;omega
    .rw[Ad hA] at z;simp only at z;omega
   .rw[DM Q] at hf;exact hc j b f G hf
 refine⟨⟨hn.c0,hn.c1,?_,hn.al,hn.bs,hn.at_,?_,hn.st,hn.all,hn.ne⟩,O⟩
 .have:=hn.fl
  simp only[HR];split
  .simpa using this
  .exact this
 .intro x hx;obtain⟨j,Q⟩:=GV.1 hx;have ac:=(BJ.1 Q).1;have aa:(HR n v m).Flow.length=n.Bonds.length:=by
   rw[<-hn.fl];simp only[HR];split
   .simp
   .rfl
  obtain⟨b,G⟩: ∃b,n.Bonds[j]? =some b:=⟨_,Bd (by omega)⟩;have h1:=O j b x G Q;have h2:=hn.st b (AP G);omega
def Qabc(n:Bc)(v i:Int)(j:Nat)(h:i.toNat≠j):(HR n v i).Flow[j]? =n.Flow[j]? :=by
 simp only[HR];split
 .exact DM h
 .rfl
def Pa{n n':Bc}(z:n'.Bonds=n.Bonds)(i:Int)(hf:n'.Flow[i.toNat]? =n.Flow[i.toNat]?)(v:Int):Ds n' v i=Ds n v i:=by
 simp only[Ds,z,hf]
structure bB(n:Bc)(st:List Int)(p:Int)(d k:Nat):Prop where
 ok:Dv (BU n st p k).1
 cap:I0 (BU n st p k).1
 cnt:(BU n st p k).1.Cnt=n.Cnt
 bs:(BU n st p k).1.Bonds=n.Bonds
 at_:(BU n st p k).1.At=n.At
 v: ∃m:Nat,(BU n st p k).2=m/\(m:Int)<n.Cnt/\st[m]? =some ((d:Int) - k)
 fl: ∀(i:Nat) b,n.Bonds[i]? =some b->st[b.A.toNat]?.getD 0<=(d:Int) - k->st[b.B.toNat]?.getD 0<=(d:Int) - k->(BU n st p k).1.Flow[i]? =n.Flow[i]?
def yN{n:Bc}(hn:Dv n){q:Int}{st qu:List Int}(ag:st.length=n.Cnt.toNat)(hP:F9 n q (st,qu)){p:Int}{d k:Nat}(hk:k<d)(Z:bB n st p d k):
 ∃(m:Nat) (r:List Int),(BU n st p k).2=m/\n.At[m]? =some r/\LC (BU n st p k).1 st m r (GL (BU n st p k).1 st m)/\st[m]? =some ((d:Int) - k)/\(GL (BU n st p k).1 st m).1<n.Cnt:=by
 obtain⟨m,hm,aj,O⟩:=Z.v;have af:m<n.At.length:=by have:=hn.al;omega
 obtain⟨r,hr⟩: ∃r,n.At[m]? =some r:=⟨_,Bd af⟩;have ab:(BU n st p k).1.At[m]? =some r:=by rw[Z.at_];exact hr
 obtain⟨v',r',i,g1,g2,g3,g4,g5⟩:=hP.prev m _ O (by omega);simp only at g1;obtain⟨ai,b,hb,aa⟩:=hn.at_ v' r' g2 i g3;have ah:=hn.bs b (AP hb);have ac:b.A+b.B - v'=m:=by simpa only[D0,hb] using g4
 have z:=hn.all i.toNat b hb;rw[show ((i.toNat:Nat):Int)=i by omega] at z;have ad:i∈r:=by
  rcases aa with h|h
  .obtain⟨r2,Q,h3⟩:=z.2;rw[show b.B.toNat=m by omega,hr] at Q;obtain rfl:=Aw Q;exact h3
  .obtain⟨r2,Q,h3⟩:=z.1;rw[show b.A.toNat=m by omega,hr] at Q;obtain rfl:=Aw Q;exact h3
 have ak:=hn.ne b (AP hb);have G:Ds (BU n st p k).1 m i=Ds n m i:=by
  refine Pa Z.bs i (Z.fl i.toNat b hb ?_ ?_) m
  .rcases aa with h|h
   .rw[show b.A.toNat=v' by omega,g1];simp only[AS];omega
   .rw[show b.A.toNat=m by omega,O];simp only[AS];omega
  .rcases aa with h|h
   .rw[show b.B.toNat=m by omega,O];simp only[AS];omega
   .rw[show b.B.toNat=v' by omega,g1];simp only[AS];omega
 have Q:(Ds n m i).2=v':=by
  simp only[Ds,hb]
  split<;>simp only<;>omega
 have hg:=OP Z.ok st ab ad (by rw[G];exact g5) (by rw[G,Q,BD,g1,BD,O];simp only[AS]);refine⟨m,r,hm,hr,hg,O,?_⟩
 have:=(tL Z.ok ab hg.1).2
 rw[hg.2.2.1,Z.cnt] at this;exact this
def kN{n:Bc}(hn:Dv n)(hc:I0 n){q:Int}{st qu:List Int}(G:st.length=n.Cnt.toNat)(hP:F9 n q (st,qu)){p:Int}(ac:0<=p)(ad:p<n.Cnt){d:Nat}(hd:st[p.toNat]? =some (d:Int)): ∀k,k<=d->bB n st p d k
 |0,_=>⟨hn,hc,rfl,rfl,rfl,⟨p.toNat,by simp only[BU];omega,by omega,by rw[hd];simp⟩,λi b _ _ _=>rfl⟩
 |k+1,hk=>by
  have ih:=kN hn hc G hP ac ad hd k (by omega);obtain⟨m,r,O,hr,hg,Q,ag⟩:=yN hn G hP (by omega) ih;obtain⟨h1,h2⟩:=Yt ih.ok ih.cap (i:=(GL (BU n st p k).1 st m).2) (ih.ok.at_ m r (by rw[ih.at_];exact hr) _ hg.1).1 hg.2.1;obtain⟨j0,b,hb,ab⟩:=hn.at_ m r hr _ hg.1;have af:=hg.2.2.2.2;have Z:=hg.2.2.2.1;rw[BD,Q,AS] at Z;obtain⟨z,hz⟩: ∃z,st[(GL (BU n st p k).1 st m).1.toNat]? =some z:=⟨_,Bd (by omega)⟩;rw[hz,AS] at Z;refine⟨?_,?_,?_,?_,?_,⟨(GL (BU n st p k).1 st m).1.toNat,?_,by omega,by rw[hz,Z];congr 1;omega⟩,?_⟩
  .simp only[BU,O];exact h1
  .simp only[BU,O];exact h2
  .simp only[BU,O];exact ih.cnt
  .simp only[BU,O];exact ih.bs
  .simp only[BU,O];exact ih.at_
  .simp only[BU,O];omega
  .intro i b' aa hA hB;simp only[BU,O];rw[Qabc]
   .exact ih.fl i b' aa (by omega) (by omega)
   .intro he;rw[he,aa] at hb;obtain rfl:=Aw hb;rcases ab with h|h
    .rw[h,BD,Q] at hA;simp only[AS] at hA;omega
    .rw[h,BD,Q] at hB;simp only[AS] at hB;omega
def growC.ca(a:Bc×Int×Int):List AV:=[.ptr 0 0,.im (.int .i64 a.2.1),.im (.int .i64 a.2.2)]
def growC.H1(a:Bc×Int×Int):Ar:=[(1,(true,.arr 2 1 ((Fh a.1 a.2.1 a.2.2).1.Flow.map Ao)))]
def growC.r0(a:Bc×Int×Int):AV:= .im (.bool (Fh a.1 a.2.1 a.2.2).2)
def XN(a:Bc×Int×Int):Prop:=Dv a.1/\I0 a.1/\0<=a.2.1/\a.2.1<a.1.Cnt/\0<=a.2.2/\a.2.2<a.1.Cnt
def growC.row:Ax:=AE growC.ca (λa=>Gp a.1) 2 XN aJ growC.r0 growC.H1 0
def growC.ok:AA 258 growC.row:=by
 refine ow (tC stepsC.ok (tC roomC.ok (tC pushC.ok tN))) Tryz.func258 (exB:=λ_=>false) (R:=λa r=>r=growC.r0 a) (λ_=>rfl)
  (λa=>by simp[growC.ca,Gp,HL,AN,AV.bel,AD,Cg,Cx,Ag.nms,A9,AV.nms,An,hget]) (λa p hp=> ?_) (λa r h=>by subst h;exact DK.refl _) ?_
 rotate_left
 intro a a9;simp only[Tryz.f258,growC.ca,Gp,HL,growC.H1];simp only[ZZ,simprocAttr,rch,stepsC.q,stepsC.fv,aJ];obtain⟨hn,ax,a0,bi,aj,ak⟩:=a9;refine⟨⟨hn,aj,ak⟩,a0,?_⟩;have bn:=hn.c1;have ah:=qZ hn aj ak;have hP:=Nr hn aj ak a.1.Cnt.toNat;have aa:=(W8 hn aj ak a.1.Cnt.toNat).rng;have bu:=yV hn.c0 (W8 hn aj ak a.1.Cnt.toNat);refine⟨by omega,λx hx=> ?_⟩
 split<;>rename_i ai
 .have e:Fh a.1 a.2.1 a.2.2=(a.1,false):=by simp only[Fh];rw[hx];simp only[AS];rw[Ai ai]
  exact⟨by simp only[growC.r0,e],by rw[e]⟩
 obtain⟨d,rfl⟩: ∃d:Nat,x=d:=⟨x.toNat,by omega⟩;have e:Fh a.1 a.2.1 a.2.2=((BU a.1 (Fg a.1 a.2.2) a.2.1 d).1,true):=by simp only[Fh];rw[hx];simp only[AS];rw[Ad ai,BD]
 simp only[growC.r0,e];have bb:(CB a.1 a.2.2 a.1.Cnt.toNat).1=Fg a.1 a.2.2:=rfl;have O:F9 a.1 a.2.2 (Fg a.1 a.2.2,(CB a.1 a.2.2 a.1.Cnt.toNat).2):=hP;have bo:=aa (d:Int) (AP hx);clear e hP ai;obtain⟨st,hst⟩: ∃st,st=Fg a.1 a.2.2:=⟨_,rfl⟩;rw[bb] at aa;simp only[<-hst] at ah O hx aa⊢;have aw:=λk hk=>kN hn ax ah O a0 bi hx k hk
 refine AR.old ⟨{k:Nat//k<=d},λk=>⟨[(8,.im (.int .i64 (BU a.1 st a.2.1 k.1).2)),(7,.im (.sl false 1 (st.map Ao))),(0,.ptr 0 0),(1,.im (.int .i64 a.2.1)),(2,.im (.int .i64 a.2.2))],[(0,(true,.cells 319 (HL a.1))),(1,(true,.arr 2 1 ((BU a.1 st a.2.1 k.1).1.Flow.map Ao)))],2⟩,λk=>d - k.1,λk=>⟨by simp[ZG,HL],AF _⟩,⟨⟨0,by simp⟩,by simp only[ZA,simprocAttr,HL,sub,BU,HL]⟩,λk=> ?_⟩;obtain⟨k,be⟩:=k;have hI:=aw k be;obtain⟨m,hm,br,ba⟩:=hI.v;simp only[HL,hm];simp only[ZA,simprocAttr,aJ,AM];refine⟨λbt=> ?_,λhe=> ?_⟩
 .have bf:k<d:=by
   rcases EI k d with h|h
   .exact h
   .have:=O.uniq m (by rw[ba];congr 1;omega)
    omega
  obtain⟨m',r,bg,hr,hg,_,bl⟩:=yN hn ah O bf hI;rw[hm] at bg;have bh:m'=m:=by omega
  subst bh;have Z:BU a.1 st a.2.1 (k+1)=(HR (BU a.1 st a.2.1 k).1 m' (GL (BU a.1 st a.2.1 k).1 st m').2,(GL (BU a.1 st a.2.1 k).1 st m').1):=by simp only[BU,hm]
  have a8:GL (BU a.1 st a.2.1 k).1 st m'=r.foldl (FQ (BU a.1 st a.2.1 k).1 st m') (-1,0):=by simp only[GL,BD,hI.at_,hr,AS]
  have Q:=hI.ok;have af:=hI.cnt;have av:=hI.bs;have an:=hI.at_;obtain⟨N,hN⟩: ∃N,N=(BU a.1 st a.2.1 k).1:=⟨_,rfl⟩;simp only[<-hN] at Z a8 Q af av an hg bl⊢;have au:N.At[m']? =some r:=by rw[an];exact hr
  have az:(⟨a.1.Cnt,a.1.Bonds,a.1.At,N.Flow⟩:Bc)=N:=by rw[<-af,<-av,<-an]
  have aq:m'<a.1.At.length:=(BJ.1 hr).1;refine AR.old ⟨{j:Nat//j<=r.length},λj=>⟨[(11,.im (.int .i64 j.1)),(10,.im (.int .i64 ((r.take j.1).foldl (FQ N st m') (-1,0)).2)),(9,.im (.int .i64 ((r.take j.1).foldl (FQ N st m') (-1,0)).1)),(8,.im (.int .i64 m')),(7,.im (.sl false 1 (st.map Ao))),(0,.ptr 0 0),(1,.im (.int .i64 a.2.1)),(2,.im (.int .i64 a.2.2))],[(0,(true,.cells 319 (HL a.1))),(1,(true,.arr 2 1 (N.Flow.map Ao)))],2⟩,λj=>r.length - j.1,λj=>⟨by simp[ZG,HL],AF _⟩,⟨⟨0,by simp⟩,by simp only[ZA,simprocAttr,HL,sub,HL,Rd]⟩,λj=> ?_⟩;obtain⟨j,bq⟩:=j;obtain⟨acc,hacc⟩: ∃acc,acc=(r.take j).foldl (FQ N st m') (-1,0):=⟨_,rfl⟩;simp only[HL,<-hacc];simp only[ZZ,simprocAttr,rch,roomC.q,roomC.fv,sub,AM,az];refine⟨aq,λr1 G=> ?_⟩;rw[hr] at G;obtain rfl:=Aw G;intro bv;refine⟨λhj=>⟨aq,λr1 G=> ?_⟩,λhj=> ?_⟩
  .rw[hr] at G;obtain rfl:=Aw G;refine⟨hj,λi ao=> ?_⟩;have ay:=AP ao;obtain⟨i0,i1,_,_⟩:=eH Q au ay;have bj:=tL Q au ay;have z:(r.take (j+1)).foldl (FQ N st m') (-1,0)=FQ N st m' acc i:=by
    rw[G9,ao,uJ,<-hacc];rfl
   have ab:0<(Ds N m' i).1->st[(Ds N m' i).2.toNat]?.getD 0=st[(m':Int).toNat]?.getD 0 - 1->(acc.1<0\/(Ds N m' i).2<acc.1)->FQ N st m' acc i=((Ds N m' i).2,i):=by
    intro h1 h2 h3;simp only[FQ];rw[Ai ⟨h1,h2,h3⟩]
   have am:IntKind.wrap .i64 ((j:Int)+1)=((j+1:Nat):Int):=by rw[AB (by omega) (by omega)];omega
   refine⟨⟨Q,i0,i1⟩,λh1=>⟨bj.1,by omega,λx' bm=>⟨by omega,λy' bc=> ?_⟩⟩,λh1=>⟨⟨j+1,by omega⟩,by simp only;omega,am,?_,?_⟩⟩
   .have bw:=aa y' (AP bc);rw[AB (x:=y' - 1) (by omega) (by omega)];have ac:st[(Ds N m' i).2.toNat]?.getD 0=x':=by rw[bm];rfl
    have ad:st[(m':Int).toNat]?.getD 0=y':=by rw[BD,bc];rfl
    refine⟨λh2=>⟨λh3=>⟨λh4=>⟨aq,λr1 G=> ?_⟩,λh4=>⟨⟨j+1,by omega⟩,by simp only;omega,am,?_,?_⟩⟩,λh3=>⟨aq,λr1 G=> ?_⟩⟩,λh2=>⟨⟨j+1,by omega⟩,by simp only;omega,am,?_,?_⟩⟩
    .rw[hr] at G;obtain rfl:=Aw G;refine⟨hj,λi' ag=>⟨⟨j+1,by omega⟩,by simp only;omega,am,?_,?_⟩⟩
     .rw[ao] at ag;obtain rfl:=Aw ag;simp only[z];rw[ab h1 (by rw[ac,ad,h2]) (.inr h4)]
     .simp only[z];rw[ab h1 (by rw[ac,ad,h2]) (.inr h4)]
    .simp only[z,FQ];rw[Ad (λh=>by rcases h.2.2 with h|h<;>omega)]
    .simp only[z,FQ];rw[Ad (λh=>by rcases h.2.2 with h|h<;>omega)]
    .rw[hr] at G;obtain rfl:=Aw G;refine⟨hj,λi' ag=>⟨⟨j+1,by omega⟩,by simp only;omega,am,?_,?_⟩⟩
     .rw[ao] at ag;obtain rfl:=Aw ag;simp only[z];rw[ab h1 (by rw[ac,ad,h2]) (.inl (G8.1 h3))]
     .simp only[z];rw[ab h1 (by rw[ac,ad,h2]) (.inl (G8.1 h3))]
    .simp only[z,FQ];rw[Ad (λh=>h2 (by rw[<-ac,<-ad];exact h.2.1))]
    .simp only[z,FQ];rw[Ad (λh=>h2 (by rw[<-ac,<-ad];exact h.2.1))]
   .simp only[z,FQ];rw[Ad (λh=>h1 h.1)]
   .simp only[z,FQ];rw[Ad (λh=>h1 h.1)]
  .have bd:j=r.length:=by omega
   subst bd;rw[El] at hacc;rw[<-a8] at hacc;subst hacc;have bp:=Q.at_ m' r au _ hg.1;obtain⟨i0,i1,_,_⟩:=eH Q au hg.1;refine AE.os (N,(m':Int),(GL N st m').2) [0,1] ⟨Q,i0,i1⟩ (λj=>nL _ j) rfl rfl ?_ ?_
   .simp only[ZA,simprocAttr,AC,Gp,HL,pushC.ca,Gp,HL];rw[af,av,an];exact⟨rfl,rfl,rfl⟩
   .simp only[ZA,simprocAttr,AC,aJ,pushC.H1,aJ,sub];exact⟨⟨k+1,by omega⟩,by simp only;omega,by simp only[Z],by simp only[Z]⟩
 .have:k=d:=by
   have h1:=O.zero;rw[show a.2.2.toNat=m by omega,ba] at h1
   have:=Aw h1
   omega
  rw[this]
 simp[growC.H1] at hp;subst hp;exact .inl ⟨by omega,rfl,rfl⟩
def Cw(a b:Nat)(h:a≠b):(a==b)=false:=by simpa using h
def zU{α β γ:Type}{f:α->Option β}{g:γ->α}{k:γ->β}: ∀(l:List γ),(∀i∈l,f (g i)=some (k i))->A7 f (l.map g)=some (l.map k)
 |[],_=>rfl
 |x::r,h=>by simp only[Bb,A7,h x (Cb ..),zU r (λi z=>h i (BZ _ z))]
def XB{H:Nat->Option Ap}{kx:Nat->Option Nat}{m b n T:Nat}(f:Nat->List Int)(G: ∀i,i<n->kx (b+i)=none)(hH: ∀i,i<n->H (b+i)=some (true,.arr T 1 ((f i).map Ao))):
 A7 (A7 λx=>Em (Bl H kx (m+1) x)) ((List.range n).map λi=>[AV.own (b+i)])=some (((List.range n).map f).map Du):=by
 rw[mH];refine zU _ (λi z=> ?_);have z:=Dt.1 z;simp only[A7,Bl,G i z,hH i z,PS,kp,DW,Em,AV.asD,Function.comp,Du]
def Vf(H:Ar)(a b:Nat)(h:a≠b):hget (Cn H [a]) b=hget H b:=by
 rw[Zm,Ad];simp;omega
def eK{α:Type}{a b:Nat}{x y:α}(h:a≠b):(if a=b then x else y)=y:=Ad h
def Da: ∀(x:Ar),Cn x []=x
 |[]=>rfl
 |(m,e)::r=>by simp[Cn,Da r]
def jQ(L:List Nat)(b n:Nat)(h:L.Nodup)(z: ∀x∈L,x<b):(L++(List.range n).map (b+ ·)).Nodup:=by
 rw[Rg];refine⟨h,?_,?_⟩
 .rw[ZeL,List.pairwise_map];exact uI (λh Q=>h (by omega)) (ZeL.1 List.nodup_range)
 .intro x G y O Z;obtain⟨i,_,rfl⟩:=BI.1 O
  have:=z x G
  omega
def Ia(bs:List Af)(i:Nat):Nat->List Int
 |0=>[]
 |k+1=>Ia bs i k++(match bs[k]? with
  |some b=>(if b.A=i then [(k:Int)] else [])++(if b.B=i then [(k:Int)] else [])
  |none=>[])
def Qwx(bs:List Af)(i:Nat): ∀k,(Ia bs i k).length<=2*k
 |0=>AF _
 |k+1=>by
  have:=Qwx bs i k
  simp only[Ia,BQ];split
  .simp only[BQ]
   split<;>split<;>simp<;>omega
  .simp;omega
def De(n:Int)(bs:List Af):Bc:=⟨n,bs,(List.range n.toNat).map (λi=>Ia bs i bs.length),List.replicate bs.length 0⟩
def newNC.ca(a:Int×List Af):List AV:=[.im (.int .i64 a.1),.im (.sl false 3 (a.2.map Af.c))]
def newNC.H1(a:Int×List Af):Ar:=[(0,(true,.cells 319 [.im (.int .i64 a.1),.im (.sl false 3 (a.2.map Af.c)),.im (.sl false 1 ((De a.1 a.2).At.map Du)),.own 2])),(2,(true,.arr 2 1 ((De a.1 a.2).Flow.map Ao)))]
def Zt(a:Int×List Af):Prop:=0<=a.1/\a.1<=1000/\a.2.length<=1000000/\KD a.1 a.2/\ ∀b∈a.2,b.A≠b.B
def mL(j:Nat):Bool:=j==0||j==2
def newNC.row:Ax:=AE newNC.ca (λ_=>[]) 0 Zt (λ_=>false) (λ_=> .ptr 0 0) newNC.H1 3010
def newNC.ok:AA 257 newNC.row:=by
 refine ow tN Tryz.func257 (exB:=mL) (R:=λ_ r=>r= .ptr 0 0) (λ_=>rfl)
  (λa=>by simp[newNC.ca,AN,AV.bel,AD,Cg,Cx]) (λa p hp=> ?_) (λa r h=>by subst h;exact DK.refl _) ?_
 rotate_left
 intro a ax;simp only[Tryz.f257,newNC.ca,newNC.H1];simp(disch:=omega)only[ZA,simprocAttr];obtain⟨aw,a9,hl,am,ba⟩:=ax;refine⟨aw,Qe _,by omega,λ_=>⟨by omega,?_⟩⟩;obtain⟨n,hn⟩: ∃n:Nat,a.1=n:=⟨a.1.toNat,by omega⟩;rw[hn] at aw a9 am;simp only[hn,BD];refine AR.ren ⟨{k:Nat//k<=a.2.length},λk=>⟨[(6,.im (.int .i64 k.1)),(5,.ptr 0 0),(1,.im (.sl false 3 (a.2.map Af.c)))],(0,(true,.cells 319 [.im (.int .i64 n),.im (.sl false 3 (a.2.map Af.c)),.own 1,.own 2]))::(2,(true,.arr 2 1 ((List.replicate a.2.length (0:Int)).map Ao)))::(1,(true,.arrA 56 1 ((List.range n).map λi=>[AV.own (1000+i)])))::CA 1000 n (λi=>(true,.arr 2 1 ((Ia a.2 i k.1).map Ao))),3000⟩,λk=>a.2.length - k.1,λk=>⟨?_,by simp⟩,⟨⟨0,by simp⟩,IG 1000 n,?_⟩,λk=> ?_⟩
 .simp only[ZG,F1,F2];rw[kK _ _ _ (λi=>by simp[AD]),dM _ _ _ _ (by omega)];simp[AN,AV.bel];omega
 .refine⟨Sv _ _ _ (by simp),?_,?_,?_⟩
  .rw[kO];simp only[Hx,dO];refine kZ _ _ (jQ [0,2,1] 1000 n (by simp) (by simp)) ?_;intro x hx y hy m G z;rw[lD] at G z;split at G
   .cases G
   .split at z
    .cases z
    .exact (Aw G).trans (Aw z).symm
  .simp only[QW,Ay];simp(disch:=omega)only[ZA,simprocAttr,lD,GO];simp[GO]
  .have p0:pm (IG 1000 n) 0=some 0:=by rw[lD,Ad (by omega)]
   have p1:pm (IG 1000 n) 1=some 1:=by rw[lD,Ad (by omega)]
   have p2:pm (IG 1000 n) 2=some 2:=by rw[lD,Ad (by omega)]
   have pf: ∀i,i<n->pm (IG 1000 n) (1000+i)=none:=by intro i O;rw[lD,Ai (by omega)]
   simp only[Hj,kF];refine⟨?_,?_,?_,λi O=> ?_⟩
   .simp(disch:=omega)only[ZA,simprocAttr,p0,p1,p2]
   .simp(disch:=omega)only[ZA,simprocAttr,p2];simp[Ao]
   .simp(disch:=omega)only[ZA,simprocAttr,p1];rw[lA];refine⟨by simp,λi x y hx hy=> ?_⟩;simp only[Ef,CX] at hx hy;obtain⟨i',ah,rfl⟩:=hx;obtain⟨w,hw,rfl⟩:=hy;have bd:=PY (AP hw);subst bd
    have:=Dt.1 (AP ah)
    simp(disch:=omega)only[ZA,simprocAttr,pf i' this]
   .rw[pf i O];simp(disch:=omega)only[ZA,simprocAttr,Ia]
 obtain⟨k,bj⟩:=k;simp(disch:=omega)only[ZA,simprocAttr,AC,mL,AM,Da];intro _;refine⟨λhk=>⟨hk,λb hb=>⟨hk,λb' Z=> ?_⟩⟩,λhk=> ?_⟩
 .rw[hb] at Z;obtain rfl:=Aw Z;obtain⟨b1,b2,b3,b4⟩:=am b (AP hb);have bi:=ba b (AP hb);refine⟨b1,by rw[Xa];exact b2,by rw[Xa];omega,λx hx=> ?_⟩;obtain⟨ay,bf⟩:=BJ.1 hx;rw[Xa] at ay;rw[ZeR] at bf;have bq:x<n:=by omega
  refine⟨by omega,?_,?_⟩
  .simp;omega
  have be:(1000+x<3000\/3000<=1000+x)=True:=ZS (by omega);have bn:(1000+x==0)=false:=Cw _ _ (by omega);have bo:(1000+x==1)=false:=Cw _ _ (by omega);have bp:(1000+x==2)=false:=Cw _ _ (by omega);have bl:=Qwx a.2 x k;simp(disch:=omega)only[ZA,simprocAttr,eK,dJ,Da,be,Cw];refine⟨by omega,by omega,?_⟩;refine⟨b1,by rw[Xa];exact b2,by rw[Xa];exact ay,λ_ _=> ?_⟩;have Q: ∀N,3001<N->((List.map (λi=>[AV.own (1000+i)]) (List.range n)).set b.A.toNat [AV.own 3001]).all (AN N)=true:=by
   intro N hN;rw[DV];intro r hr;rcases ZM hr with hr|hr
   .obtain⟨i,O,rfl⟩:=BI.1 hr
    have:=Dt.1 O
    simp[AN,AV.bel];omega
   .subst hr;simp[AN,AV.bel];omega
  refine⟨Q _ (by omega),⟨by simp,by simp,by simp⟩,hk,λb' Z=>⟨hk,λb'' ag=> ?_⟩⟩;rw[hb] at Z ag;obtain rfl:=Aw Z;obtain rfl:=Aw ag;obtain⟨y,hy⟩: ∃y:Nat,b.B=y:=⟨b.B.toNat,by omega⟩;have br:y≠x:=by omega
  have bh:y<n:=by omega
  have az:b.B.toNat=y:=by omega
  refine⟨b3,by simp;omega,by simp;omega,λrow aa=> ?_⟩;have ak:row=[AV.own (1000+y)]:=by
   rw[az,DM (by omega),Ef,Qa bh] at aa;exact (Aw aa).symm
  subst ak;have bg:(1000+y<3002\/3002<=1000+y)=True:=ZS (by omega);have bm:=Qwx a.2 y k;simp(disch:=omega)only[ZA,simprocAttr,AC,eK,dJ,Da,bg,Cw,Vf];refine⟨by omega,by omega,by omega,b3,by simp;omega,by simp;omega,λrow ab=> ?_⟩;rw[aa] at ab;obtain rfl:=Aw ab;simp only[ZA,simprocAttr,Da,Cw];refine⟨?_,⟨by simp,by simp,by simp⟩,⟨k+1,by omega⟩,[(1000+x,some 3001),(1000+y,some 3003)],by simp only;omega,?_⟩
  .rw[DV];intro r hr;rcases ZM hr with hr|hr
   .exact DV.1 (Q 3004 (by omega)) r hr
   .subst hr;simp[AN,AV.bel]
  obtain⟨g,hg⟩: ∃g,g=pm [(1000+x,some 3001),(1000+y,some 3003)]:=⟨_,rfl⟩;have qx:g (1000+x)=some 3001:=by rw[hg];simp[pm]
  have qy:g (1000+y)=some 3003:=by rw[hg];simp only[pm];rw[Ad (by omega)];simp
  have qo: ∀u,u≠1000+x->u≠1000+y->g u=some u:=by intro u G z;rw[hg];simp only[pm];rw[Ad (by omega),Ad (by omega)]
  have a0: ∀i,i<n->Ia a.2 i (k+1)=if i=x\/i=y then Ia a.2 i k++[(k:Int)] else Ia a.2 i k:=by
   intro i O;simp only[Ia,hb];by_cases G:i=x
   .subst G;rw[Ai (by omega),Ad (by omega),Ai (.inl rfl),CC]
   .by_cases z:i=y
    .subst z;rw[Ad (by omega),Ai (by omega),Ai (.inr rfl),Fb]
    .rw[Ad (by omega),Ad (by omega),Ad (by omega)];simp
  refine⟨⟨by omega,by omega,trivial⟩,?_,?_,?_⟩
  .rw[kO,<-hg];simp only[Hx,dO];refine kZ _ _ (jQ [0,2,1] 1000 n (by simp) (by simp)) ?_;have aq: ∀u∈[0,2,1]++(List.range n).map (1000+ ·),u<2000:=by
    intro u hu;rcases Bp.1 hu with hu|hu
    .simp at hu;omega
    .obtain⟨i,O,rfl⟩:=BI.1 hu
     have:=Dt.1 O
     show 1000+i<2000;omega
   have hc: ∀u,u<2000->(u=1000+x/\g u=some 3001)\/(u=1000+y/\g u=some 3003)\/g u=some u:=by
    intro u _;by_cases G:u=1000+x
    .exact .inl ⟨G,G▸qx⟩
    .by_cases z:u=1000+y
     .exact .inr (.inl ⟨z,z▸qy⟩)
     .exact .inr (.inr (qo u G z))
   intro u hu v hv m au av;have bb:=aq u hu;have bc:=aq v hv;rcases hc u bb with ⟨e1,e2⟩|⟨e1,e2⟩|e2<;>rcases hc v bc with ⟨f1,f2⟩|⟨f1,f2⟩|f2<;>rw[e2] at au<;>rw[f2] at av<;>simp only[AI] at au av<;>omega
  .have q0:pm [(1000+x,some 3001),(1000+y,some 3003)] 0=some 0:=by rw[<-hg];exact qo 0 (by omega) (by omega)
   simp only[QW,Ay];simp only[ZA,simprocAttr,q0];rw[AB (by omega) (by omega)];simp
  .have q0:pm [(1000+x,some 3001),(1000+y,some 3003)] 0=some 0:=by rw[<-hg];exact qo 0 (by omega) (by omega)
   have q1:pm [(1000+x,some 3001),(1000+y,some 3003)] 1=some 1:=by rw[<-hg];exact qo 1 (by omega) (by omega)
   have q2:pm [(1000+x,some 3001),(1000+y,some 3003)] 2=some 2:=by rw[<-hg];exact qo 2 (by omega) (by omega)
   have ad:=qx;have af:=qy;have ac:=qo;rw[hg] at ad af ac;simp only[Hj,kF];refine⟨?_,?_,?_,λi O=> ?_⟩
   .simp only[ZA,simprocAttr,q0,q1,q2]
   .simp only[ZA,simprocAttr,q2]
   .simp only[ZA,simprocAttr,q1];rw[lA];refine⟨by simp,λi r1 r2 G z=> ?_⟩;simp only[Ef,CX] at G;obtain⟨i',ah,rfl⟩:=G;obtain⟨ao,an⟩:=BJ.1 ah;rw[Xa] at ao;rw[ZeR] at an;subst an;rw[az,show b.A.toNat=x by omega] at z;by_cases aj:i=y
    .subst aj;rw[Ee (by simp;omega)] at z;obtain rfl:=Aw z;simp only[DZ,mt,af,He,F4]
    .rw[DM (by omega)] at z;by_cases ai:i=x
     .subst ai;rw[Ee (by simp;omega)] at z;obtain rfl:=Aw z;simp only[DZ,mt,ad,He,F4]
     .rw[DM (by omega),Ef,Qa ao] at z;obtain rfl:=Aw z;simp only[DZ,mt,ac (1000+i) (by omega) (by omega),He,F4]
   .show EC _ _ true (.arr 2 1 ((Ia a.2 i (k+1)).map Ao)) _;rw[a0 i O];by_cases aj:i=y
    .subst aj;rw[af,Ai (.inr rfl)];simp only[ZA,simprocAttr];simp[Ao]
    .by_cases ai:i=x
     .subst ai;rw[ad,Ai (.inl rfl)];simp only[ZA,simprocAttr];simp[Ao]
     .rw[ac (1000+i) (by omega) (by omega),Ad (by omega)];have e: ∀(H:Ar),hget H (1000+i)=some (true,.arr 2 1 ((Ia a.2 i k).map Ao))->Ka [(1000+x,some 3001),(1000+y,some 3003)] true (.arr 2 1 ((Ia a.2 i k).map Ao)) (hget H (1000+i)):=by
       intro H hH;rw[hH];exact⟨rfl,by simp only[EK]⟩
      refine e _ ?_;simp only[hget,Cw _ _ (show 1≠1000+i by omega),Cw _ _ (show 3003≠1000+i by omega),Cw _ _ (show 3002≠1000+i by omega),Cw _ _ (show 3001≠1000+i by omega),Cw _ _ (show 3000≠1000+i by omega),Cw _ _ (show 0≠1000+i by omega),Cw _ _ (show 2≠1000+i by omega),Ct];rw[Vf _ _ _ (by omega),Vf _ _ _ (by omega),Vf _ _ _ (by omega),Vf _ _ _ (by omega),dJ _ _ _ _ O]
 .have a8:k=a.2.length:=by omega
  subst a8;rw[XB (T:=2) (λi=>Ia a.2 i a.2.length)]
  .simp[De]
  .intro i O;have e:mL (1000+i)=false:=by simp only[mL,Cw _ _ (show 1000+i≠0 by omega),Cw _ _ (show 1000+i≠2 by omega),JT]
   simp[XV,An,hget,e]
  .intro i O;simp only[hget,Cw _ _ (show 1≠1000+i by omega),Cw _ _ (show 0≠1000+i by omega),Cw _ _ (show 2≠1000+i by omega),Ct];exact dJ _ _ _ _ O
 simp[newNC.H1] at hp;rcases hp with rfl|rfl
 .exact .inr ⟨by omega,by simp,rfl,rfl⟩
 .exact .inr ⟨by omega,by simp,rfl,rfl⟩
def Ju(p:Int)(b:Af)(f:Int):Int:=if b.A=p then f else if b.B=p then -f else 0
def Dq(n:Bc)(p:Int):Int:=(List.zipWith (Ju p) n.Bonds n.Flow).sum
def Nb(p:Int): ∀(bs:List Af) (O:List Int) (j:Nat) (b:Af) (f f':Int),bs[j]? =some b->O[j]? =some f->(List.zipWith (Ju p) bs (O.set j f')).sum=(List.zipWith (Ju p) bs O).sum - Ju p b f+Ju p b f'
 |[],_,_,_,_,_,h,_=>by simp at h
 |_::_,[],_,_,_,_,_,h=>by simp at h
 |x::r,y::s,0,b,f,f',z,G=>by
  simp only[G4,AI] at z G;subst z;subst G;simp only[ZL,fA,NO];omega
 |x::r,y::s,j+1,b,f,f',z,G=>by
  have:=Nb p r s j b f f' (by simpa using z) (by simpa using G)
  simp only[mE,fA,NO,this];omega
def Qzc{n:Bc}(hn:Dv n){v:Nat}{r:List Int}(hr:n.At[v]? =some r){i:Int}(O:i∈r)(p:Int):Dq (HR n v i) p=Dq n p+(if (v:Int)=p then 1 else if (Ds n v i).2=p then -1 else 0):=by
 obtain⟨h0,b,z,hv⟩:=hn.at_ v r hr i O;have Z:=hn.ne b (AP z);have Q:=(BJ.1 z).1;obtain⟨f,hf⟩: ∃f,n.Flow[i.toNat]? =some f:=⟨_,Bd (by rw[hn.fl];exact Q)⟩;simp only[Dq,HR,z,Ds];rw[Nb p _ _ _ b f _ z hf,hf];simp only[AS,Ju];rcases hv with h|h
 .simp only[Ai h]
  repeat' split
  all_goals omega
 .have G: ¬b.A=v:=by omega
  simp only[Ad G]
  repeat' split
  all_goals omega
def K7(p:Int): ∀(bs:List Af) (O:List Int),(∀(i:Nat) b f,bs[i]? =some b->O[i]? =some f-> -b.Strength<=f/\f<=b.Strength)->(∀b∈bs,0<=b.Strength)->(List.zipWith (Ju p) bs O).sum<=(bs.map Af.Strength).sum
 |[],_,_,_=>by simp
 |x::r,[],_,z=>by
  have Q:=K7 p r [] (λi b f _ h=>by simp at h) (λb G=>z b (BZ _ G));have h2:=z x (Cb ..);simp only[Zem,Zfr,Bb,NO] at Q⊢;omega
 |x::r,y::s,Z,z=>by
  have Q:=K7 p r s (λi b f h h'=>Z (i+1) b f (by simpa using h) (by simpa using h')) (λb G=>z b (BZ _ G));have h2:=z x (Cb ..);have h3:=Z 0 x y rfl rfl;simp only[fA,Bb,NO,Ju];split
  .omega
  .split<;>omega
def T8{n:Bc}(hn:Dv n)(G:I0 n)(p:Int):Dq n p<=(n.Bonds.map Af.Strength).sum:=K7 p _ _ G (λb z=>(hn.st b z).1)
def UW{n:Bc}(hn:Dv n)(hc:I0 n){q:Int}{st qu:List Int}(z:st.length=n.Cnt.toNat)(hP:F9 n q (st,qu)){p:Int}(aa:0<=p)(ab:p<n.Cnt){d:Nat}(hd:st[p.toNat]? =some (d:Int)): ∀k,k<d->Dq (BU n st p (k+1)).1 p=Dq n p+1:=by
 have step: ∀k,k<d->Dq (BU n st p (k+1)).1 p=Dq (BU n st p k).1 p+(if k=0 then 1 else 0):=by
  intro k Q;have Z:=kN hn hc z hP aa ab hd k (by omega);obtain⟨m,r,hm,hr,hg,G,af⟩:=yN hn z hP Q Z;have ac:(BU n st p k).1.At[m]? =some r:=by rw[Z.at_];exact hr
  have e:(BU n st p (k+1)).1=HR (BU n st p k).1 m (GL (BU n st p k).1 st m).2:=by simp only[BU,hm]
  rw[e,Qzc Z.ok ac hg.1,hg.2.2.1];have O:=hg.2.2.2.1;rw[BD,G,AS] at O;have ad:(GL (BU n st p k).1 st m).1≠p:=by
   intro he;rw[he,hd,AS] at O;omega
  by_cases h0:k=0
  .subst h0
   have:(m:Int)=p:=by rw[<-hm];rfl
   rw[Ai this,Ai rfl]
  .have:(m:Int)≠p:=by
    intro he
    have:m=p.toNat:=by omega
    rw[this,hd] at G
    have:=Aw G
    omega
   rw[Ad this,Ad ad,Ad h0]
 intro k Q;induction k with
 |zero=>rw[step 0 Q];simp[BU]
 |succ k ih=>rw[step (k+1) Q,Ad (by omega),ih (by omega)];omega
def Qr2(bs:List Af)(i:Nat)(z:Int): ∀k,z∈Ia bs i k↔ ∃(j:Nat) (b:Af),j<k/\z=j/\bs[j]? =some b/\(b.A=i\/b.B=i)
 |0=>by simp[Ia]
 |k+1=>by
  have ih:=Qr2 bs i z k;simp only[Ia,Bp,ih];constructor
  .rintro (⟨j,b,Z,O,Q,G⟩|h)
   .exact⟨j,b,by omega,O,Q,G⟩
   .cases hb:bs[k]? with
    |none=>rw[hb] at h;simp at h
    |some b=>
     rw[hb] at h;simp only[Bp] at h;refine⟨k,b,by omega,?_,hb,?_⟩
     .rcases h with h|h<;>split at h<;>simp at h<;>exact h
     .rcases h with h|h
      .split at h
       .exact .inl (by assumption)
       .simp at h
      .split at h
       .exact .inr (by assumption)
       .simp at h
  .rintro⟨j,b,Z,O,Q,G⟩;by_cases hj:j=k
   .subst hj;refine .inr ?_;rw[Q];simp only[Bp];rcases G with G|G
    .exact .inl (by rw[Ai G,O];exact B4.2 rfl)
    .exact .inr (by rw[Ai G,O];exact B4.2 rfl)
   .exact .inl ⟨j,b,by omega,O,Q,G⟩
def PU(bs:List Af):Prop:= ∀b∈bs,0<=b.Strength/\b.Strength<=1000000
def Qxo{n:Int}{bs:List Af}(v:Nat)(z:v<n.toNat):(De n bs).At[v]? =some (Ia bs v bs.length):=by
 simp only[De,Ef,Qa z,DW]
def Ma{n:Int}{bs:List Af}(h:Zt (n,bs))(hs:PU bs):Dv (De n bs)/\I0 (De n bs):=by
 obtain⟨h0,h1,h2,G,Z⟩:=h;simp only at h0 h1 h2 G Z;have hz: ∀(i:Nat) f,(De n bs).Flow[i]? =some f->f=0:=by
  intro i f hf;exact PY (AP hf)
 refine⟨⟨h0,by show n<=1000000;omega,by simp[De],by simp[De];omega,G,?_,?_,hs,?_,Z⟩,?_⟩
 .intro v r Q i O;have hv:v<n.toNat:=by
   have:=(BJ.1 Q).1
   simpa[De] using this
  rw[Qxo v hv] at Q;obtain rfl:=Aw Q;obtain⟨j,b,g1,g2,g3,g4⟩:=(Qr2 bs v i bs.length).1 O;exact⟨by omega,b,by rw[g2,BD];exact g3,g4⟩
 .intro x hx;obtain⟨i,O⟩:=GV.1 hx
  have:=hz i x O
  omega
 .intro i b z;have hl:=(BJ.1 z).1;have aa:=G b (AP z);refine⟨⟨_,Qxo _ (by omega),(Qr2 bs _ _ _).2 ⟨i,b,hl,rfl,z,.inl (by omega)⟩⟩,⟨_,Qxo _ (by omega),(Qr2 bs _ _ _).2 ⟨i,b,hl,rfl,z,.inr (by omega)⟩⟩⟩
 .intro i b f z hf
  have:=hz i f hf
  have:=hs b (AP z)
  omega
def Qtg{n:Int}{bs:List Af}(p:Int):Dq (De n bs) p=0:=by
 simp only[Dq,De]
 have: ∀(l:List Af) (m:Nat),(List.zipWith (Ju p) l (List.replicate m 0)).sum=0:=by
  intro l;induction l with
  |nil=>intro m;simp
  |cons x r ih=>
   intro m;cases m with
   |zero=>simp
   |succ m=>
    simp only[ZeF,fA,NO,ih m,Ju];split
    .rfl
    .split<;>rfl
 exact this _ _
def G1(p q:Int):Nat->Bc->Bc×Int
 |0,n=>(n,0)
 |m+1,n=>if (Fh n p q).2=true then ((G1 p q m (Fh n p q).1).1,(G1 p q m (Fh n p q).1).2+1) else (n,0)
def Ed(n:Int)(bs:List Af)(p q:Int):Bc×Int:=G1 p q ((bs.map Af.Strength).sum.toNat+1) (De n bs)
def LD{n:Bc}(hn:Dv n)(hc:I0 n){p q:Int}(O:0<=p)(Q:p<n.Cnt)(Z:0<=q)(aa:q<n.Cnt)(ab:p≠q)(hg:(Fh n p q).2=true):
 Dv (Fh n p q).1/\I0 (Fh n p q).1/\(Fh n p q).1.Cnt=n.Cnt/\(Fh n p q).1.Bonds=n.Bonds/\(Fh n p q).1.At=n.At/\Dq (Fh n p q).1 p=Dq n p+1:=by
 have z:=qZ hn Z aa;have hP:F9 n q (Fg n q,(CB n q n.Cnt.toNat).2):=Nr hn Z aa n.Cnt.toNat;obtain⟨x,hx⟩: ∃x,(Fg n q)[p.toNat]? =some x:=⟨_,Bd (by omega)⟩;simp only[Fh,hx,AS] at hg⊢;by_cases h:x<0
 .rw[Ai h] at hg;simp at hg
 .obtain⟨d,rfl⟩: ∃d:Nat,x=d:=⟨x.toNat,by omega⟩;rw[Ad h,BD];have hd:0<d:=by
   rcases mF d with h0|h0
   .subst h0
    have:=hP.uniq p.toNat hx
    omega
   .exact h0
  have G:=kN hn hc z hP O Q hx d (AF _);have ho:=UW hn hc z hP O Q hx (d - 1) (by omega);rw[show d - 1+1=d by omega] at ho;exact⟨G.ok,G.cap,G.cnt,G.bs,G.at_,ho⟩
abbrev mW:=Int×List Af×Int×Int
def flC.net(a:mW):Bc:=(Ed a.1 a.2.1 a.2.2.1 a.2.2.2).1
def flC.ca(a:mW):List AV:=[.im (.int .i64 a.1),.im (.sl false 3 (a.2.1.map Af.c)),.im (.int .i64 a.2.2.1),.im (.int .i64 a.2.2.2)]
def flC.H1(a:mW):Ar:=[(0,(true,.cells 319 [.im (.int .i64 a.1),.im (.sl false 3 (a.2.1.map Af.c)),.im (.sl false 1 ((De a.1 a.2.1).At.map Du)),.own 2])),(2,(true,.arr 2 1 ((flC.net a).Flow.map Ao)))]
def flC.r0(a:mW):AV:= .tup [.ptr 0 0,.im (.int .i64 (Ed a.1 a.2.1 a.2.2.1 a.2.2.2).2)]
def flC.pre(a:mW):Prop:=Zt (a.1,a.2.1)/\PU a.2.1/\0<=a.2.2.1/\a.2.2.1<a.1/\0<=a.2.2.2/\a.2.2.2<a.1/\a.2.2.1≠a.2.2.2
def flC.row:Ax:=AE flC.ca (λ_=>[]) 0 flC.pre (λ_=>false) flC.r0 flC.H1 3010
def flC.ok:AA 221 flC.row:=by
 refine ow (tC newNC.ok (tC growC.ok tN)) Tryz.func221 (exB:=mL) (R:=λa r=>r=flC.r0 a) (λ_=>rfl)
  (λa=>by simp[flC.ca,AN,AV.bel,AD,Cg,Cx]) (λa p hp=> ?_) (λa r h=>by subst h;exact DK.refl _) ?_
 rotate_left
 intro a ab;simp only[Tryz.f221,flC.ca,flC.H1];simp only[ZA,simprocAttr];obtain⟨G,ad,aa,ak,ac,am,ag⟩:=ab;obtain⟨Z,z⟩:=Ma G ad;have ah:=Qtg (n:=a.1) (bs:=a.2.1) a.2.2.1;refine AE.os (a.1,a.2.1) [] G (λj=>by simp[An,hget]) rfl rfl ?_ ?_
 .simp only[ZA,simprocAttr,newNC.ca]
 .simp only[ZA,simprocAttr,newNC.H1];obtain⟨F,hF⟩: ∃F,F=(a.2.1.map Af.Strength).sum.toNat+1:=⟨_,rfl⟩;refine AR.old ⟨{k:Nat×Bc//Dv k.2/\I0 k.2/\k.2.Cnt=a.1/\k.2.Bonds=a.2.1/\k.2.At=(De a.1 a.2.1).At/\Dq k.2 a.2.2.1=k.1/\k.1<=F/\Ed a.1 a.2.1 a.2.2.1 a.2.2.2=((G1 a.2.2.1 a.2.2.2 (F - k.1) k.2).1,(G1 a.2.2.1 a.2.2.2 (F - k.1) k.2).2+k.1)},λk=>⟨[(11,.im (.int .i64 k.1.1)),(10,.ptr 0 0),(2,.im (.int .i64 a.2.2.1)),(3,.im (.int .i64 a.2.2.2))],[(0,(true,.cells 319 [.im (.int .i64 a.1),.im (.sl false 3 (a.2.1.map Af.c)),.im (.sl false 1 ((De a.1 a.2.1).At.map Du)),.own 2])),(2,(true,.arr 2 1 (k.1.2.Flow.map Ao)))],3010⟩,λk=>F - k.1.1,λk=>⟨by simp[ZG],AF _⟩,⟨⟨(0,De a.1 a.2.1),Z,z,rfl,rfl,rfl,ah,BP _,by simp[Ed,hF]⟩,by simp only[ZA,simprocAttr,sub]⟩,λk=> ?_⟩;obtain⟨⟨k,N⟩,i1,i2,i3,i4,i5,i6,i7,O⟩:=k;simp only at i1 i2 i3 i4 i5 i6 i7 O;have af:=T8 i1 i2 a.2.2.1;rw[i4,i6] at af;have aj:k<F:=by omega
  have ai:F<=1000000000001:=by
   have h2: ∀(l:List Af),(∀b∈l,b.Strength<=1000000)->(l.map Af.Strength).sum<=1000000*(l.length:Int):=by
    intro l;induction l with
    |nil=>intro _;simp
    |cons x r ih=>
     intro h;have h3:=ih (λb hb=>h b (BZ _ hb));have h4:=h x (Cb ..);simp only[Bb,NO,Cr];omega
   have h3:=h2 a.2.1 (λb hb=>(ad b hb).2);have h4:=G.2.2.1;simp only at h4;omega
  obtain⟨m,hm⟩: ∃m,F - k=m+1:=⟨F - k - 1,by omega⟩;rw[hm,G1] at O;simp only[ZA,simprocAttr];refine AE.os (N,a.2.2.1,a.2.2.2) [0,2] ⟨i1,i2,aa,by simp only;omega,ac,by simp only;omega⟩ (λj=>nL _ j) rfl rfl ?_ ?_
  .simp only[ZA,simprocAttr,AC,growC.ca,Gp,HL];rw[i3,i4,i5];exact⟨rfl,rfl,rfl⟩
  .simp only[ZA,simprocAttr,AC,mL,growC.H1,growC.r0,aJ,sub,AM];refine⟨λQ=> ?_,λQ=> ?_⟩
   .rw[Ai Q] at O;obtain⟨g1,g2,g3,g4,g5,g6⟩:=LD i1 i2 aa (by omega) ac (by omega) ag Q;refine⟨⟨(k+1,(Fh N a.2.2.1 a.2.2.2).1),g1,g2,g3.trans i3,g4.trans i4,g5.trans i5,by simp only;omega,by simp only;omega,?_⟩,by simp only;omega,?_,rfl⟩
    .simp only;rw[show F - (k+1)=m by omega,O];simp only[Ej,KR];omega
    .rw[AB (by omega) (by omega)];simp only;omega
   .rw[Ad Q] at O;have e:(Fh N a.2.2.1 a.2.2.2).1=N:=by
     revert Q;simp only[Fh];split
     .intro _;rfl
     .intro h;simp at h
    refine⟨?_,?_⟩
    .simp only[flC.r0,O];simp
    .rw[e];simp only[flC.net,O]
 simp[flC.H1] at hp;rcases hp with rfl|rfl
 .exact .inr ⟨by omega,by simp,rfl,rfl⟩
 .exact .inr ⟨by omega,by simp,rfl,rfl⟩
def PC:D->Option Int
 | .int .u64 n=>some n
 |_=>none
def Qs3: ∀d x,PC d=some x->Le d (.int .u64 x):=by
 intro d x h;unfold PC at h;split at h
 .simp only[AI] at h;subst h;exact Le.refl _
 .cases h
def Qw1{a:Int}(h0:0<=a)(G:a<4294967296):Xg .u64 a 4294967295=a:=by
 simp only[Xg];obtain⟨n,rfl⟩: ∃n:Nat,a=n:=⟨a.toNat,by omega⟩;have hn:n<4294967296:=by omega
 have:(BitVec.ofInt IntKind.u64.bits (n:Int) &&& BitVec.ofInt IntKind.u64.bits 4294967295).toNat=n:=by
  have e:IntKind.u64.bits=64:=rfl;rw[e];simp only[BitVec.toNat_and,BitVec.toNat_ofInt];rw[show ((n:Int) % ((2^64:Nat):Int)).toNat=n by omega,show ((4294967295:Int) % ((2^64:Nat):Int)).toNat=2^32 - 1 by decide];rw[Nat.and_two_pow_sub_one_eq_mod];omega
 rw[this];unfold IntKind.wrap;have e:IntKind.u64.bits=64:=rfl;have z:IntKind.u64.signed=false:=rfl;simp only[e,z,Gf,CN,Cu];omega
def Na{a:Int}(h0:0<=a)(G:a<18446744073709551616):IntKind.u64.wrap a=a:=by
 unfold IntKind.wrap;have e:IntKind.u64.bits=64:=rfl;have z:IntKind.u64.signed=false:=rfl;simp only[e,z,Gf,CN,Cu];omega
def Lw{a:Int}(h0:0<=a)(z:a<4294967296):a.fdiv (2^min 32 IntKind.u64.bits)=0:=by
 have e:IntKind.u64.bits=64:=rfl;rw[e,show (2:Int)^min 32 64=4294967296 by decide,ZeI _ (by decide)];omega
def mul64.fv(a:Int×Int):Int×Int:=(λ_ y=>(0,y)) (a.1) (a.2)
def mul64.row:Ax:=vK (b2 qU qU) (r2 (RK.mk (PC) (D.int .u64) (Qs3)) (RK.mk (PC) (D.int .u64) (Qs3))) (λa=>a.1=1/\0<=a.2/\a.2<=1000000) mul64.fv
def mul64.q:=AX (R:=mul64.row) rfl
def mul64.ok:AA 314 mul64.row:=by
 refine vw tN Tryz.func314 ?_;intro a z;simp only[Tryz.f314];simp only[ZA,simprocAttr,mul64.fv];obtain⟨O,G,Q⟩:=z;rw[O,Qw1 (by omega) (by omega),Qw1 (by omega) (by omega),Lw (by omega) (by omega),Lw G (by omega),Int.zero_mul,Int.one_mul,Int.zero_mul,Int.mul_zero];simp only[Na G (show a.2<18446744073709551616 by omega),Lw G (show a.2<4294967296 by omega),Na (Qe 0) (by decide),Int.add_zero,Lw (Qe 0) (by decide),Qw1 (Qe 0) (by decide)];rfl
def mul_.fv(a:Int×Int):Int×Int:=(λ_ y=>(0,y)) (a.1) (a.2)
def mul_.row:Ax:=vK (b2 qU qU) (r2 (RK.mk (PC) (D.int .u64) (Qs3)) (RK.mk (PC) (D.int .u64) (Qs3))) (λa=>a.1=1/\0<=a.2/\a.2<=1000000) mul_.fv
def mul_.q:=AX (R:=mul_.row) rfl
def mul_.ok:AA 312 mul_.row:=by
 refine vw (tC mul64.ok tN) Tryz.func312 ?_;intro a z;simp only[Tryz.f312];simp only[ZA,simprocAttr,mul_.fv,mul64.q,mul64.fv];exact⟨z,rfl⟩
def DT(x:Int)(m n:Nat):List (List D):=List.replicate m [.int .i64 x]++List.replicate (n - m) [.int .i64 0]
def TU(x:Int){m n:Nat}(h:m<=n):(DT x m n).length=n:=by simp[DT];omega
def TV(x:Int)(n:Nat):DT x (min 1 n) n=List.take (min 1 n) [[.int .i64 x]]++List.drop (min 1 n) (List.replicate n [.int .i64 0]):=by
 cases n with
 |zero=>rfl
 |succ n=>
  rw[show min 1 (n+1)=1 by omega];simp[DT]
def Nc(x:Int)(k m n:Nat):Ce Bn (List.take k (DT x m n)):=by
 intro r z
 have:=uV z
 rcases Bp.1 this with h|h<;>rw[PY h]<;>rfl
def OV(x:Int){m n:Nat}(h:m<n):List.take m (DT x m n)++List.take (min m (n - m)) (List.take m (DT x m n))++List.drop (m+min m (n - m)) (DT x m n)=DT x (m+min m (n - m)) n:=by
 have e:List.take m (DT x m n)=List.replicate m [.int .i64 x]:=by simp[DT]
 rw[e];have z:List.drop (m+min m (n - m)) (DT x m n)=List.replicate (n - (m+min m (n - m))) [.int .i64 0]:=by
  simp only[DT];rw[V4,CO (by simp),Fb,NM,List.drop_replicate];congr 1;omega
 rw[z,DT,<-List.replicate_append_replicate];congr 2;rw[List.take_replicate];congr 1;omega
def rept.ca(a:Int×Int):List AV:=[.own 0,.im (.int .i64 a.2)]
def rept.H0(a:Int×Int):Ar:=[(0,(true,.arr 3 1 [[.int .i64 a.1]]))]
def rept.H1(a:Int×Int):Ar:=[(1,(true,.arr 3 1 (List.replicate a.2.toNat [.int .i64 a.1])))]
def rept.pre(a:Int×Int):Prop:=0<=a.2/\a.2<=1000000
def rept.row:Ax:=AE rept.ca rept.H0 1 rept.pre (λ_=>false) (λ_=> .own 1) rept.H1 20
def rept.ok:AA 306 rept.row:=by
 refine Hd (tC mul_.ok tN) Tryz.func306 (exB:=λj=>j==1) (R:=λa r=>r= .own 1) (λ_=>rfl)
  (λa=>by simp[rept.ca,rept.H0,AN,AV.bel,AD,Cg,Cx,Ag.nms,An,hget]) (λa p hp=> ?_) (λa r h=>by subst h;exact DK.refl _) ?_
 rotate_left
 intro a G;simp only[Tryz.f306,rept.ca,rept.H0,rept.H1];simp only[ZA,simprocAttr,mul_.q,mul_.fv,Eb,Cz,D4];obtain⟨h0,Z⟩:=G;rw[Ad (by omega)];simp only[ZA,simprocAttr,Na (show (0:Int)<=1 by decide) (show (1:Int)<18446744073709551616 by decide),Na h0 (show a.2<18446744073709551616 by omega)];refine⟨⟨h0,Z⟩,?_⟩;rw[Ad (by omega)];simp only[simprocAttr,AB (show -9223372036854775808<=a.2 by omega) (show a.2<=9223372036854775807 by omega)];refine⟨h0,Qe _,by omega,?_⟩;obtain⟨n,hn⟩: ∃n:Nat,a.2=n:=⟨a.2.toNat,by omega⟩;obtain⟨x,hx⟩: ∃x,x=a.1:=⟨_,rfl⟩;simp only[hn,BD,NM,<-hx];rw[hn] at h0 Z;refine AR.old ⟨{m:Nat//m<=n/\(m=0->n=0)},λm=>⟨[(8,.im (.int .i64 m.1)),(7,.own 1)],[(1,(true,.arr 3 1 (DT x m.1 n))),(0,(true,.arr 3 1 [[.int .i64 x]]))],2⟩,λm=>n - m.1,λm=>⟨by simp[ZG],by simp⟩,⟨⟨min 1 n,by omega,by omega⟩,?_⟩,λm=> ?_⟩
 .simp only[ZA,simprocAttr,sub];exact (TV x n).symm
 obtain⟨m,Q,ab⟩:=m;have z:=TU x Q;simp only[ZA,simprocAttr,AG,AM,z];intro aa;refine⟨λhm=>⟨by omega,false,?_⟩,λhm=> ?_⟩
 .simp only[ZA,simprocAttr,z];refine⟨by omega,false,?_⟩;simp only[ZA,simprocAttr,sub];obtain⟨k,hk⟩: ∃k,min (List.take ((m:Int) - 0).toNat (DT x m n)).length ((n:Int) - m).toNat=k:=⟨_,rfl⟩;have O:k=min m (n - m):=by rw[<-hk,Bw,z];omega
  rw[hk,show ((m:Int) - 0).toNat=m by omega];refine⟨Nc x _ _ _,⟨m+k,by omega,by omega⟩,by simp only;omega,by rw[AB (by omega) (by omega)];simp only;omega,?_⟩;subst O;exact OV x hm
 .refine⟨[],[],⟨[(4,.own 1)],[(1,(true,.arr 3 1 (DT x m n))),(0,(true,.arr 3 1 [[.int .i64 x]]))],2⟩,?_,by simp[ZG],by simp,?_⟩
  .simp only[Ak];simp only[ZA,simprocAttr,AL]
  .simp only[ZA,simprocAttr]
   have:m=n:=by omega
   subst this;simp[DT]
 simp[rept.H1] at hp;subst hp;exact .inr ⟨by omega,by omega,rfl,rfl⟩
def Qyw(x:Be)(u v:Int):Int:=(x.Room[u.toNat]?.getD [])[v.toNat]?.getD 0
def Qzr(x:Be)(u v:Int):Int:=(x.Flow[u.toNat]?.getD [])[v.toNat]?.getD 0
def Vr(x:Be)(u v:Int):Bool:=decide (Qzr x u v<Qyw x u v)
structure JI(x:Be)(n:Nat):Prop where
 r:x.Room.length=n
 f:x.Flow.length=n
 rr: ∀l∈x.Room,l.length=n
 ff: ∀l∈x.Flow,l.length=n
def Hf(x:Be)(u:Int)(s:List Int×List Int)(v:Nat):List Int×List Int:=
 if s.1[v]?.getD 0<0/\Vr x u v=true then (s.1.set v u,s.2++[(v:Int)]) else s
def CL(x:Be)(u:Int)(s:List Int×List Int):Nat->List Int×List Int
 |0=>s
 |k+1=>Hf x u (CL x u s k) k
def CZ(x:Be)(n:Nat)(p:Int):Nat->List Int×List Int
 |0=>((List.replicate n (-1)).set p.toNat p,[p])
 |k+1=>match (CZ x n p k).2[k]? with
  |none=>CZ x n p k
  |some u=>CL x u (CZ x n p k) n
structure Gv(x:Be)(n:Nat)(p:Int)(s:List Int×List Int):Prop where
 len:s.1.length=n
 q: ∀v∈s.2,0<=v/\v<n
 nd:s.2.Nodup
 hd:s.2[0]? =some p
 pp:s.1[p.toNat]? =some p
 mem: ∀(v:Nat) (y:Int),s.1[v]? =some y->(0<=y↔(v:Int)∈s.2)
 prev: ∀(i:Nat) (v:Int),s.2[i]? =some v->0<i-> ∃(j:Nat) (u:Int),j<i/\s.2[j]? =some u/\s.1[v.toNat]? =some u/\Vr x u v=true
def Qtz: ∀(n:Nat) (l:List Int),l.Nodup->(∀v∈l,0<=v/\v<n)->l.length<=n
 |0,[],_,_=>AF _
 |0,x::r,_,h=>by have:=h x (Cb ..);omega
 |n+1,l,h,G=>by
  have Q:=Qtz n (l.erase (n:Int)) (h.erase _) (λv O=>by
   have z:=(h.mem_erase_iff).1 O;have Z:=G v z.2
   have:=z.1
   omega)
  have z:=List.length_erase (a:=(n:Int)) (l:=l);split at z<;>omega
def Qr3{x:Be}{n:Nat}{p:Int}{s:List Int×List Int}(h:Gv x n p s):s.2.length<=n:=Qtz n s.2 h.nd h.q
def jG{x:Be}{n:Nat}{p:Int}{s:List Int×List Int}(h:Gv x n p s){u:Int}{k v:Nat}(hu:s.2[k]? =some u)(hv:v<n):Gv x n p (Hf x u s v)/\ ∃r,(Hf x u s v).2=s.2++r:=by
 simp only[Hf];split
 .rename_i hc;obtain⟨ab,ac⟩:=hc;have hvl:v<s.1.length:=by rw[h.len];exact hv
  obtain⟨y,hy⟩: ∃y,s.1[v]? =some y:=⟨_,Bd hvl⟩;rw[hy,AS] at ab;have O:(v:Int)∉s.2:=λhm=>by have:=(h.mem v y hy).2 hm;omega
  have Z:p∈s.2:=AP h.hd;have ag:p.toNat≠v:=by
   intro he
   have:=h.q p Z
   exact O (by rw[show (v:Int)=p by omega];exact Z)
  have ah:=h.q u (AP hu);refine⟨⟨by simpa using h.len,λw G=> ?_,?_,?_,?_,λw z hz=> ?_,λi w G hi=> ?_⟩,_,rfl⟩
  .rcases Bp.1 G with G|G
   .exact h.q w G
   .rw[B4] at G;subst G;omega
  .rw[Rg];refine⟨h.nd,by simp,λa ha b hb=> ?_⟩;rw[B4] at hb;subst hb;exact λhe=>O (he▸ha)
  .have:=h.hd
   rw[DQ (BJ.1 this).1];exact this
  .simp only;rw[DM (E3 ag)];exact h.pp
  .simp only at hz⊢;rw[Bp,B4];by_cases aa:v=w
   .subst aa;rw[Ee hvl] at hz;obtain rfl:=Aw hz;exact⟨λ_=> .inr rfl,λ_=>ah.1⟩
   .rw[DM aa] at hz;rw[h.mem w z hz];constructor
    .exact .inl
    .rintro (h1|h1)
     .exact h1
     .omega
  .simp only at G⊢;by_cases af:i<s.2.length
   .rw[DQ af] at G;obtain⟨j,z,h1,h2,h3,h4⟩:=h.prev i w G hi;refine⟨j,z,h1,by rw[DQ (by omega)];exact h2,?_,h4⟩;have ai:=h.q w (AP G);rw[DM]
    .exact h3
    .intro he;exact O (by rw[show (v:Int)=w by omega];exact AP G)
   .have ad:i=s.2.length:=by
     have:=(BJ.1 G).1
     simp only[BQ,Cr,F3] at this;omega
    subst ad;rw[E7 (AF _),G5,G4] at G;obtain rfl:=Aw G;have Q:=(BJ.1 hu).1;refine⟨k,u,Q,by rw[DQ Q];exact hu,?_,ac⟩;rw[BD,Ee hvl]
 .exact⟨h,[],by simp⟩
def Qoj(x:Be)(u:Int)(s:List Int×List Int)(v w:Nat)(y:Int)(h:s.1[w]? =some y)(h0:0<=y):(Hf x u s v).1[w]? =some y:=by
 simp only[Hf];split
 .rename_i z;rw[DM]
  .exact h
  .intro G;subst G
   have:=z.1
   rw[h,AS] at this;omega
 .exact h
def Qvl(x:Be)(u:Int)(s:List Int×List Int)(w:Nat)(y:Int)(h:s.1[w]? =some y)(h0:0<=y): ∀k,(CL x u s k).1[w]? =some y
 |0=>h
 |k+1=>Qoj x u _ k w y (Qvl x u s w y h h0 k) h0
def tU{x:Be}{n:Nat}{p:Int}{s:List Int×List Int}(h:Gv x n p s){u:Int}{i:Nat}(G:s.2[i]? =some u): ∀k,k<=n->Gv x n p (CL x u s k)/\ ∃r,(CL x u s k).2=s.2++r
 |0,_=>⟨h,[],by simp[CL]⟩
 |k+1,hk=>by
  obtain⟨Z,r,Q⟩:=tU h G k (by omega);have O:=(BJ.1 G).1;obtain⟨h2,r',z⟩:=jG Z (u:=u) (k:=i) (v:=k) (by rw[Q,DQ O];exact G) (by omega);exact⟨h2,r++r',by rw[CL,z,Q,E0]⟩
def Qz6{x:Be}{n:Nat}{p:Int}{s:List Int×List Int}(h:Gv x n p s){u:Int}{i:Nat}(G:s.2[i]? =some u): ∀k,k<=n-> ∀v,v<k->Vr x u v=true-> ∃y,(CL x u s k).1[v]? =some y/\0<=y
 |0,_,v,hv,_=>by omega
 |k+1,hk,v,hv,hf=>by
  by_cases Q:v<k
  .obtain⟨y,h1,Z⟩:=Qz6 h G k (by omega) v Q hf;exact⟨y,Qoj x u _ k v y h1 Z,Z⟩
  .have:v=k:=by omega
   subst this;have hP:=(tU h G v (by omega)).1;obtain⟨y,hy⟩: ∃y,(CL x u s v).1[v]? =some y:=⟨_,Bd (by rw[hP.len];omega)⟩;by_cases z:0<=y
   .exact⟨y,Qoj x u _ v v y hy z,z⟩
   .have O:=h.q u (AP G);refine⟨u,?_,O.1⟩;rw[CL,Hf,Ai ⟨by rw[hy,AS];omega,hf⟩];exact Ee (by rw[hP.len];omega)
def QT{x:Be}{n:Nat}{p:Int}(h0:0<=p)(Q:p<n): ∀k,Gv x n p (CZ x n p k)
 |0=>by
  have hq:p.toNat<(List.replicate n (-1:Int)).length:=by rw[NM];omega
  refine⟨by simp[CZ],λv z=> ?_,by simp[CZ],rfl,Ee hq,λv y G=> ?_,λi v z hi=> ?_⟩
  .simp only[CZ,B4] at z;subst z;omega
  .simp only[CZ,B4] at G⊢;by_cases O:p.toNat=v
   .subst O;rw[Ee hq] at G;obtain rfl:=Aw G;omega
   .rw[DM O] at G
    have:=PY (AP G)
    omega
  .simp only[CZ] at z;cases i with
   |zero=>omega
   |succ i=>simp at z
 |k+1=>by
  have ih:=QT (x:=x) h0 Q k;simp only[CZ];split
  .exact ih
  .rename_i u Z;exact (tU ih Z n (AF _)).1
def nA(x:Be)(n:Nat)(p:Int)(w:Nat)(y:Int)(h0:0<=y)(k:Nat)(h:(CZ x n p k).1[w]? =some y): ∀m,(CZ x n p (k+m)).1[w]? =some y
 |0=>h
 |m+1=>by
  have ih:=nA x n p w y h0 k h m;rw[show k+(m+1)=k+m+1 by omega,CZ];split
  .exact ih
  .exact Qvl x _ _ w y ih h0 n
def UZ(x:Be){n:Nat}{p:Int}(h0:0<=p)(z:p<n)(k:Nat): ∃r,(CZ x n p (k+1)).2=(CZ x n p k).2++r:=by
 rw[CZ];split
 .exact⟨[],by simp⟩
 .rename_i u G;exact (tU (QT (x:=x) h0 z k) G n (AF _)).2
def MW(x:Be)(n:Nat)(p:Int): ∀(m k:Nat),(CZ x n p k).2.length<=k->CZ x n p (k+m)=CZ x n p k
 |0,k,_=>rfl
 |m+1,k,h=>by
  have z:CZ x n p (k+1)=CZ x n p k:=by
   rw[CZ,Fz h]
  have G:=MW x n p m (k+1) (by rw[z];omega);rw[show k+(m+1)=k+1+m by omega,G,z]
def Qzh(x:Be){n:Nat}{p:Int}(h0:0<=p)(G:p<n): ∀(k:Nat) (j:Nat) (u:Int),j<k->(CZ x n p k).2[j]? =some u-> ∀v,v<n->Vr x u v=true-> ∃y,(CZ x n p k).1[v]? =some y/\0<=y
 |0,j,_,hj,_,_,_,_=>by omega
 |k+1,j,u,hj,z,v,Z,hf=>by
  obtain⟨r,hr⟩:=UZ x h0 G k;by_cases Q:j<(CZ x n p k).2.length
  .rw[hr,DQ Q] at z;by_cases O:j<k
   .obtain⟨y,g1,g2⟩:=Qzh x h0 G k j u O z v Z hf;exact⟨y,nA x n p v y g2 k g1 1,g2⟩
   .have:j=k:=by omega
    subst this;obtain⟨y,g1,g2⟩:=Qz6 (QT (x:=x) h0 G j) z n (AF _) v Z hf;exact⟨y,by rw[CZ,z];exact g1,g2⟩
  .have e:CZ x n p (k+1)=CZ x n p k:=by
    rw[CZ,Fz (by omega)]
   rw[e] at z
   have:=(BJ.1 z).1
   omega
def B2(x:Be)(n:Nat)(p:Int):List Int×List Int:=CZ x n p n
def Qww(x:Be){n:Nat}{p:Int}(h0:0<=p)(G:p<n){u v:Nat}{y:Int}(hu:(B2 x n p).1[u]? =some y)(hy:0<=y)(hv:v<n)(hf:Vr x u v=true): ∃z,(B2 x n p).1[v]? =some z/\0<=z:=by
 have O:=QT (x:=x) h0 G n;have hm:=(O.mem u y hu).1 hy;obtain⟨j,Q⟩:=GV.1 hm;have hl:=Qr3 O;have Z:=(BJ.1 Q).1;exact Qzh x h0 G n j u (by omega) Q v hv hf
def D1(z:List Int)(q:Int):Nat->Int
 |0=>q
 |k+1=>z[(D1 z q k).toNat]?.getD 0
def tF(z:List Int)(p q:Int)(n:Nat):Nat:=((List.range (n+1)).find? λk=>decide (D1 z q k=p)).getD 0
def HT(z:List Int)(q:Int)(k:Nat):List Int:=(List.range (k+1)).map (D1 z q)
def C8(x:Be)(n:Nat)(p q:Int):List Int:=
 if (B2 x n p).1[q.toNat]?.getD 0<0 then [] else (HT (B2 x n p).1 q (tF (B2 x n p).1 p q n)).reverse
def rZ{x:Be}{n:Nat}{p:Int}{s:List Int×List Int}(h:Gv x n p s){q:Int}{i:Nat}(hq:s.2[i]? =some q): ∀k,(∀j,j<k->D1 s.1 q j≠p)-> ∃j,j+k<=i/\s.2[j]? =some (D1 s.1 q k)
 |0,_=>⟨i,by omega,hq⟩
 |k+1,z=>by
  obtain⟨j,Z,G⟩:=rZ h hq k (λj hj=>z j (by omega));have O:0<j:=by
   rcases mF j with h0|h0
   .subst h0;rw[h.hd] at G;exact absurd (Aw G).symm (z k (by omega))
   .exact h0
  obtain⟨j',u,g1,g2,g3,Q⟩:=h.prev j _ G O;exact⟨j',by omega,by rw[D1,g3,AS];exact g2⟩
def NY{x:Be}{n:Nat}{p:Int}{s:List Int×List Int}(h:Gv x n p s){q:Int}{i:Nat}(hq:s.2[i]? =some q){k:Nat}(z: ∀j,j<k+1->D1 s.1 q j≠p):Vr x (D1 s.1 q (k+1)) (D1 s.1 q k)=true/\ ∃y,s.1[(D1 s.1 q k).toNat]? =some y/\D1 s.1 q (k+1)=y:=by
 obtain⟨j,Z,G⟩:=rZ h hq k (λj hj=>z j (by omega));have O:0<j:=by
  rcases mF j with h0|h0
  .subst h0;rw[h.hd] at G;exact absurd (Aw G).symm (z k (by omega))
  .exact h0
 obtain⟨j',u,g1,g2,g3,Q⟩:=h.prev j _ G O;have e:D1 s.1 q (k+1)=u:=by rw[D1,g3,AS]
 exact⟨by rw[e];exact Q,u,g3,e⟩
def Qq3{x:Be}{n:Nat}{p:Int}{s:List Int×List Int}(h:Gv x n p s){q:Int}{i:Nat}(hq:s.2[i]? =some q): ∃d,d<=i/\D1 s.1 q d=p/\ ∀j,j<d->D1 s.1 q j≠p:=by
 have Q: ∀m,(∃d,d<=m/\D1 s.1 q d=p/\ ∀j,j<d->D1 s.1 q j≠p)\/ ∀j,j<=m->D1 s.1 q j≠p:=by
  intro m;induction m with
  |zero=>
   by_cases h0:D1 s.1 q 0=p
   .exact .inl ⟨0,AF _,h0,λj G=>by omega⟩
   .exact .inr λj G=>by rw[show j=0 by omega];exact h0
  |succ m ih=>
   rcases ih with ⟨d,z,Z,h3⟩|ih
   .exact .inl ⟨d,by omega,Z,h3⟩
   .by_cases h0:D1 s.1 q (m+1)=p
    .exact .inl ⟨m+1,AF _,h0,λj G=>ih j (by omega)⟩
    .refine .inr λj G=> ?_
     by_cases O:j<=m
     .exact ih j O
     .rw[show j=m+1 by omega];exact h0
 rcases Q i with z|z
 .exact z
 .obtain⟨j,g1,g2⟩:=rZ h hq (i+1) (λj G=>z j (by omega));omega
def Qqr{z:List Int}{p q:Int}{n d:Nat}(hd:d<=n)(G:D1 z q d=p)(O: ∀j,j<d->D1 z q j≠p):tF z p q n=d:=by
 have: ∀(m s:Nat),s<=d->d<s+m->((List.range' s m).find? λk=>decide (D1 z q k=p))=some d:=by
  intro m;induction m with
  |zero=>intro s Q Z;omega
  |succ m ih=>
   intro s Q Z;rw[List.range'_succ,ZeB];by_cases hs:s=d
   .subst hs;simp[G]
   .rw[show decide (D1 z q s=p)=false from KO (O s (by omega))];exact ih (s+1) (by omega) (by omega)
 rw[tF,Zev,this _ 0 (by omega) (by omega),AS]
def AH(f:Nat->Int):Nat->Int
 |0=>0
 |n+1=>AH f n+f n
def Fw{f g:Nat->Int}: ∀{n:Nat},(∀i,i<n->f i=g i)->AH f n=AH g n
 |0,_=>rfl
 |n+1,h=>by simp only[AH];rw[Fw (λi z=>h i (by omega)),h n (by omega)]
def QH(f g:Nat->Int): ∀n,AH (λi=>f i+g i) n=AH f n+AH g n
 |0=>rfl
 |n+1=>by simp only[AH];rw[QH f g n];omega
def rV(f:Nat->Int): ∀n,AH (λi=> - f i) n= - AH f n
 |0=>rfl
 |n+1=>by simp only[AH];rw[rV f n];omega
def QF: ∀n,AH (λ_=>0) n=0
 |0=>rfl
 |n+1=>by simp only[AH];rw[QF n];rfl
def Qxf{f g:Nat->Int}: ∀{n:Nat},(∀i,i<n->f i<=g i)->AH f n<=AH g n
 |0,_=>Qe _
 |n+1,h=>by
  have z:=Qxf (f:=f) (g:=g) (n:=n) (λi O=>h i (by omega));have G:=h n (by omega);simp only[AH];omega
def Qt3(f:Nat->Nat->Int)(m:Nat): ∀n,AH (λi=>AH (λj=>f i j) m) n=AH (λj=>AH (λi=>f i j) n) m
 |0=>by simp only[AH];exact (QF m).symm
 |n+1=>by simp only[AH];rw[Qt3 f m n,<-QH]
def W5(k:Nat)(c:Int): ∀n,AH (λi=>if i=k then c else 0) n=if k<n then c else 0
 |0=>rfl
 |n+1=>by
  simp only[AH];rw[W5 k c n];by_cases z:n=k
  .subst z;rw[Ad (by omega),Ai rfl,Ai (by omega)];omega
  .rw[Ad z];by_cases G:k<n
   .rw[Ai G,Ai (by omega)];omega
   .rw[Ad G,Ad (by omega)];omega
def P5(a:Nat->Nat->Int)(n:Nat)(h: ∀u w,u<n->w<n->a u w= - a w u):AH (λu=>AH (λw=>a u w) n) n=0:=by
 have O:AH (λu=>AH (λw=>a u w) n) n= - AH (λu=>AH (λw=>a u w) n) n:=by
  rw[<-rV]
  conv=>lhs;rw[Qt3]
  refine Fw λu z=> ?_
  rw[<-rV];exact Fw λw G=>h w u G z
 omega
structure QN(rm fl:Nat->Nat->Int)(n p q:Nat)(v:Int):Prop where
 anti: ∀u w,u<n->w<n->fl u w= - fl w u
 cap: ∀u w,u<n->w<n->fl u w<=rm u w
 cons: ∀u,u<n->u≠p->u≠q->AH (fl u) n=0
 val:AH (fl p) n=v
def En(rm:Nat->Nat->Int)(n:Nat)(S:Nat->Bool):Int:=AH (λu=>AH (λw=>if S u=true/\S w=false then rm u w else 0) n) n
def nG{rm fl:Nat->Nat->Int}{n p q:Nat}{v:Int}(h:QN rm fl n p q v)(hp:p<n){S:Nat->Bool}(Z:S p=true)(hT:S q=false):En fl n S=v:=by
 have h1:AH (λu=>AH (λw=>if S u=true then fl u w else 0) n) n=v:=by
  have:AH (λu=>AH (λw=>if S u=true then fl u w else 0) n) n=AH (λu=>if u=p then v else 0) n:=by
   refine Fw λu O=> ?_
   by_cases z:u=p
   .subst z;rw[Ai rfl,<-h.val];exact Fw λw _=>Ai Z
   .rw[Ad z];cases hSu:S u with
    |false=>exact (Fw λw _=>Ad (by simp)).trans (QF n)
    |true=>
     have Q:u≠q:=λhe=>by rw[he,hT] at hSu;cases hSu
     exact (Fw λw _=>Ai rfl).trans (h.cons u O z Q)
  rw[this,W5,Ai hp]
 have h2:AH (λu=>AH (λw=>if S u=true/\S w=true then fl u w else 0) n) n=0:=by
  refine P5 _ n λu w O hw=> ?_
  by_cases G:S u=true/\S w=true
  .rw[Ai G,Ai ⟨G.2,G.1⟩];exact h.anti u w O hw
  .rw[Ad G,Ad (λh=>G ⟨h.2,h.1⟩)];rfl
 have h3:AH (λu=>AH (λw=>if S u=true then fl u w else 0) n) n=AH (λu=>AH (λw=>if S u=true/\S w=true then fl u w else 0) n) n+En fl n S:=by
  rw[En,<-QH];refine Fw λu _=> ?_
  rw[<-QH];refine Fw λw _=> ?_
  cases S u<;>cases S w<;>simp
 omega
def Qw8{rm fl:Nat->Nat->Int}{n p q:Nat}{v:Int}(h:QN rm fl n p q v)(hp:p<n){S:Nat->Bool}(z:S p=true)(G:S q=false):v<=En rm n S:=by
 rw[<-nG h hp z G];refine Qxf λu O=>Qxf λw Q=> ?_
 split
 .exact h.cap u w O Q
 .exact Qe _
def Qxp{rm fl:Nat->Nat->Int}{n p q:Nat}{v:Int}(h:QN rm fl n p q v)(hp:p<n){S:Nat->Bool}(Z:S p=true)(hT:S q=false)(z: ∀u w,u<n->w<n->S u=true->S w=false->rm u w<=fl u w):v=En rm n S:=by
 rw[<-nG h hp Z hT];refine Fw λu O=>Fw λw Q=> ?_
 split
 .rename_i G;have h1:=h.cap u w O Q;have h2:=z u w O Q G.1 G.2;omega
 .rfl
def Hk(L:Nat->Nat)(a b j:Nat):Int:=if L j=a/\L (j+1)=b then 1 else 0
def qQ(L:Nat->Nat)(a b:Nat): ∀i,0<=AH (Hk L a b) i
 |0=>Qe _
 |i+1=>by
  have:=qQ L a b i
  simp only[AH,Hk]
  split<;>omega
def Qr1{L:Nat->Nat}{m:Nat}(z: ∀i j,i<=m->j<=m->L i=L j->i=j)(a b:Nat): ∀i,i<=m->AH (Hk L a b) i<=1/\(0<AH (Hk L a b) i-> ∃j,j<i/\L j=a/\L (j+1)=b)
 |0,_=>⟨by simp[AH],λh=>by simp[AH] at h⟩
 |i+1,hi=>by
  obtain⟨h1,Z⟩:=Qr1 z a b i (by omega);have h0:=qQ L a b i;simp only[AH];by_cases O:L i=a/\L (i+1)=b
  .have hz: ¬0<AH (Hk L a b) i:=by
    intro G;obtain⟨j,hj,Q,_⟩:=Z G
    have:=z j i (by omega) (by omega) (Q.trans O.1.symm)
    omega
   simp only[Hk] at hz h0⊢;rw[Ai O];exact⟨by omega,λ_=>⟨i,by omega,O⟩⟩
  .have e:Hk L a b i=0:=Ad O;rw[e];refine⟨by omega,λG=> ?_⟩;obtain⟨j,hj,Q⟩:=Z (by omega);exact⟨j,by omega,Q⟩
def nK{L:Nat->Nat}{n m:Nat}(z: ∀i,i<=m->L i<n)(a:Nat): ∀i,i<=m->AH (λb=>AH (Hk L a b) i - AH (Hk L b a) i) n=(if L 0=a then 1 else 0) - (if L i=a then 1 else 0)
 |0,_=>by simp only[AH,Int.sub_self];exact QF n
 |i+1,Z=>by
  have ih:=nK z a i (by omega);have e:AH (λb=>AH (Hk L a b) (i+1) - AH (Hk L b a) (i+1)) n=AH (λb=>AH (Hk L a b) i - AH (Hk L b a) i) n+(AH (λb=>if b=L (i+1) then (if L i=a then 1 else 0) else 0) n+ - AH (λb=>if b=L i then (if L (i+1)=a then 1 else 0) else 0) n):=by
   rw[<-rV,<-QH,<-QH];refine Fw λb _=> ?_
   simp only[AH,Hk];by_cases c1:L i=a<;>by_cases G:L (i+1)=a<;>by_cases O:b=L i<;>by_cases Q:b=L (i+1)<;>simp[c1,G,O,Q,eq_comm]<;>omega
  rw[e,ih,W5,W5,Ai (z _ Z),Ai (z _ (by omega))];omega
def Ow{rm fl Q:Nat->Nat->Int}{n p q:Nat}{v:Int}(h:QN rm fl n p q v){L:Nat->Nat}{m:Nat}(aa: ∀i j,i<=m->j<=m->L i=L j->i=j)(hr: ∀i,i<=m->L i<n)
 (h0:L 0=p)(hm:L m=q)(ac:p≠q)(hp:p<n)(Z: ∀i,i<m->fl (L i) (L (i+1))<rm (L i) (L (i+1)))
 (z: ∀a b,a<n->b<n->Q a b=fl a b+(AH (Hk L a b) m - AH (Hk L b a) m)):QN rm Q n p q (v+1):=by
 have O: ∀a,a<n->AH (Q a) n=AH (fl a) n+((if L 0=a then 1 else 0) - (if L m=a then 1 else 0)):=by
  intro a ha;rw[<-nK hr a m (AF _),<-QH];exact Fw λb hb=>z a b ha hb
 refine⟨λu w G hw=> ?_,λu w G hw=> ?_,λu G h1 h2=> ?_,?_⟩
 .rw[z u w G hw,z w u hw G]
  have:=h.anti u w G hw
  omega
 .rw[z u w G hw];obtain⟨e1,e2⟩:=Qr1 aa u w m (AF _);have e3:=qQ L w u m;have e4:=h.cap u w G hw;by_cases ab:0<AH (Hk L u w) m
  .obtain⟨j,hj,g1,g2⟩:=e2 ab
   have:=Z j hj
   rw[g1,g2] at this;omega
  .omega
 .rw[O u G,h.cons u G h1 h2,h0,hm,Ad (E3 h1),Ad (E3 h2)];rfl
 .rw[O p hp,h.val,h0,hm,Ai rfl,Ad (E3 ac)];omega
def KG(l:List (List Int))(u v:Int)(d:Int):List (List Int):=l.set u.toNat ((l[u.toNat]?.getD []).set v.toNat ((l[u.toNat]?.getD [])[v.toNat]?.getD 0+d))
def GK(l:List (List Int))(a b:Nat):Int:=(l[a]?.getD [])[b]?.getD 0
def Zj(l:List (List Int))(u v d:Int):(KG l u v d).length=l.length:=by simp[KG]
def Zh{l:List (List Int)}{n:Nat}(h: ∀r∈l,r.length=n)(u v d:Int)(G:u.toNat<l.length): ∀r∈KG l u v d,r.length=n:=by
 intro r z;rcases ZM z with z|z
 .exact h r z
 .subst z;rw[JR,Bd G,AS];exact h _ (Rh G)
def dP{l:List (List Int)}{n:Nat}(Q:l.length=n)(h: ∀r∈l,r.length=n){u v:Nat}(d:Int)(Z:u<n)(hv:v<n)(a b:Nat):GK (KG l u v d) a b=GK l a b+if a=u/\b=v then d else 0:=by
 simp only[GK,KG,BD];by_cases z:u=a
 .subst z;rw[Ee (by omega),AS];have O:(l[u]?.getD []).length=n:=by
   rw[Bd (by omega),AS];exact h _ (Rh (by omega))
  by_cases G:v=b
  .subst G;rw[Ee (by omega),AS,Ai ⟨rfl,rfl⟩]
  .rw[DM G,Ad (λh=>G h.2.symm)];omega
 .rw[DM z,Ad (λh=>z h.1.symm)];omega
def Nj(x:Be)(u v:Int):Be:=⟨x.Room,KG (KG x.Flow u v 1) v u (-1)⟩
def Hl(x:Be)(L:List Int):Nat->Be
 |0=>x
 |i+1=>Nj (Hl x L i) (L[i]?.getD 0) (L[i+1]?.getD 0)
def Ql3(x:Be)(L:List Int): ∀i,(Hl x L i).Room=x.Room
 |0=>rfl
 |i+1=>Ql3 x L i
def Ov(x:Be)(u v:Int):Qzr x u v=GK x.Flow u.toNat v.toNat:=rfl
def OZ(x:Be)(u v:Int):Qyw x u v=GK x.Room u.toNat v.toNat:=rfl
def TF{x:Be}{n:Nat}(h:JI x n){u v:Int}(z:u.toNat<n)(G:v.toNat<n):JI (Nj x u v) n:=by
 refine⟨h.r,by simp only[Nj,Zj];exact h.f,h.rr,?_⟩;exact Zh (Zh h.ff u v 1 (by rw[h.f];exact z)) v u (-1) (by rw[Zj,h.f];exact G)
def zG{x:Be}{n:Nat}(h:JI x n){L:List Int}(z: ∀y∈L,0<=y/\y<n): ∀i,i<L.length->JI (Hl x L i) n
 |0,_=>h
 |i+1,G=>by
  have ih:=zG h z i (by omega);refine TF ih ?_ ?_
  .rw[Bd (by omega),AS]
   have:=z _ (Rh (show i<L.length by omega))
   omega
  .rw[Bd G,AS]
   have:=z _ (Rh G)
   omega
def Lf(L:List Int)(i:Nat):Nat:=(L[i]?.getD 0).toNat
def Qso{x:Be}{n:Nat}(h:JI x n){L:List Int}(G: ∀y∈L,0<=y/\y<n)(a b:Nat): ∀i,i<L.length->GK (Hl x L i).Flow a b=GK x.Flow a b+(AH (Hk (Lf L) a b) i - AH (Hk (Lf L) b a) i)
 |0,_=>by simp[Hl,AH]
 |i+1,hi=>by
  have ih:=Qso h G a b i (by omega);have z:=zG h G i (by omega);obtain⟨u,hu⟩: ∃u,L[i]? =some u:=⟨_,Bd (by omega)⟩;obtain⟨v,hv⟩: ∃v,L[i+1]? =some v:=⟨_,Bd hi⟩;have aa:=G u (AP hu);have hvb:=G v (AP hv);obtain⟨u',rfl⟩: ∃u':Nat,u=u':=⟨u.toNat,by omega⟩;obtain⟨v',rfl⟩: ∃v':Nat,v=v':=⟨v.toNat,by omega⟩;simp only[Hl,Nj,hu,hv,AS];rw[dP (n:=n) (by rw[Zj];exact z.f) (Zh z.ff _ _ _ (by rw[z.f];simp;omega)) _ (by omega) (by omega),
   dP z.f z.ff _ (by omega) (by omega),ih]
  have e1:Lf L i=u':=by simp[Lf,hu]
  have e2:Lf L (i+1)=v':=by simp[Lf,hv]
  simp only[AH,Hk,e1,e2];by_cases c1:a=u'<;>by_cases O:b=v'<;>by_cases Q:a=v'<;>by_cases Z:b=u'<;>simp[c1,O,Q,Z,eq_comm]<;>omega
structure SC(x:Be)(n:Nat)(p q:Int)(L:List Int):Prop where
 pos:0<L.length
 inb: ∀y∈L,0<=y/\y<n
 hd:L[0]? =some p
 lst:L[L.length - 1]? =some q
 nd: ∀i j,i<L.length->j<L.length->Lf L i=Lf L j->i=j
 free: ∀i,i+1<L.length->Vr x (L[i]?.getD 0) (L[i+1]?.getD 0)=true
def Va{x:Be}{n:Nat}{p q:Int}(an:0<=p)(ao:p<n)(a8:0<=q)(a9:q<n)(am:C8 x n p q≠[]):SC x n p q (C8 x n p q):=by
 have Z:Gv x n p (B2 x n p):=QT an ao n;have ax:=Z.len;obtain⟨y,hy⟩: ∃y,(B2 x n p).1[q.toNat]? =some y:=⟨_,Bd (by omega)⟩;have av: ¬y<0:=by
  intro h;apply am;simp only[C8,hy,AS];rw[Ai h]
 have aq:q∈(B2 x n p).2:=by
  have:=(Z.mem q.toNat y hy).1 (by omega)
  rwa [show (q.toNat:Int)=q by omega] at this
 obtain⟨i,hi⟩:=GV.1 aq;obtain⟨d,ay,ah,ab⟩:=Qq3 Z hi;have az:=(BJ.1 hi).1;have a0:=Qr3 Z;have au:tF (B2 x n p).1 p q n=d:=Qqr (by omega) ah ab;have hW:C8 x n p q=(HT (B2 x n p).1 q d).reverse:=by
  simp only[C8,hy,AS];rw[Ad av,au]
 rw[hW];have O:(HT (B2 x n p).1 q d).length=d+1:=by simp[HT]
 have hget: ∀k,k<=d->(HT (B2 x n p).1 q d).reverse[k]? =some (D1 (B2 x n p).1 q (d - k)):=by
  intro k G;rw[Zfo (by rw[O];omega),O,show d+1 - 1 - k=d - k by omega,HT,Ef,Qa (by omega)];rfl
 have ac: ∀k,k<=d-> ∃j,j+k<=i/\(B2 x n p).2[j]? =some (D1 (B2 x n p).1 q k):=λk G=>rZ Z hi k (λj hj=>ab j (by omega))
 have Q: ∀k,k<=d->0<=D1 (B2 x n p).1 q k/\D1 (B2 x n p).1 q k<n:=by
  intro k G;obtain⟨j,_,h2⟩:=ac k G;exact Z.q _ (AP h2)
 have af: ∀k,k<=d-> ∀e,e<=k-> ∀j j',(B2 x n p).2[j]? =some (D1 (B2 x n p).1 q k)->(B2 x n p).2[j']? =some (D1 (B2 x n p).1 q e)->j+(k - e)<=j':=by
  intro k G e he j j' hj aj;have aw: ∀m,e+m<=d-> ∃j2,j2+m<=j'/\(B2 x n p).2[j2]? =some (D1 (B2 x n p).1 q (e+m)):=by
   intro m;induction m with
   |zero=>intro _;exact⟨j',by omega,aj⟩
   |succ m ih=>
    intro hm;obtain⟨j2,g1,g2⟩:=ih (by omega);have h0:0<j2:=by
     rcases mF j2 with h0|h0
     .subst h0;rw[Z.hd] at g2;exact absurd (Aw g2).symm (ab _ (by omega))
     .exact h0
    obtain⟨j3,u,q1,q2,q3,q4⟩:=Z.prev j2 _ g2 h0;refine⟨j3,by omega,?_⟩;rw[show e+(m+1)=e+m+1 by omega,D1,q3,AS];exact q2
  obtain⟨j2,g1,g2⟩:=aw (k - e) (by omega);rw[show e+(k - e)=k by omega] at g2
  have:=(List.getElem?_inj (BJ.1 hj).1 Z.nd).1 (hj.trans g2.symm)
  omega
 have ad: ∀k e,k<=d->e<k->D1 (B2 x n p).1 q k≠D1 (B2 x n p).1 q e:=by
  intro k e G he ai;obtain⟨j,_,h2⟩:=ac k G
  have:=af k G e (by omega) j j h2 (ai▸h2)
  omega
 have aa: ∀k,k<=d->(HT (B2 x n p).1 q d).reverse[k]?.getD 0=D1 (B2 x n p).1 q (d - k):=λk G=>by rw[hget k G,AS]
 refine⟨by rw[mD,O];omega,λz hz=> ?_,?_,?_,λk e G he hL=> ?_,λk G=> ?_⟩
 .obtain⟨k,G⟩:=GV.1 hz;have ak:=(BJ.1 G).1;rw[mD,O] at ak;rw[hget k (by omega)] at G;obtain rfl:=Aw G;exact Q _ (by omega)
 .rw[hget 0 (by omega),mI,ah]
 .rw[mD,O,hget (d+1 - 1) (by omega),show d - (d+1 - 1)=0 by omega];rfl
 .rw[mD,O] at G he;simp only[Lf] at hL;rw[aa k (by omega),aa e (by omega)] at hL;have b1:=Q (d - k) (by omega);have b2:=Q (d - e) (by omega);have ag:D1 (B2 x n p).1 q (d - k)=D1 (B2 x n p).1 q (d - e):=by omega
  rcases lV (d - k) (d - e) with h|h|h
  .exact absurd ag.symm (ad _ _ (by omega) h)
  .omega
  .exact absurd ag (ad _ _ (by omega) h)
 .rw[mD,O] at G;rw[aa k (by omega),aa (k+1) (by omega),show d - k=d - (k+1)+1 by omega];exact (NY Z hi (λj hj=>ab j (by omega))).1
def FP(n:Nat)(p q:Int):Nat->Be->Int
 |0,_=>0
 |m+1,x=>if C8 x n p q=[] then 0 else FP n p q m (Hl x (C8 x n p q) ((C8 x n p q).length - 1))+1
def DU(x:Be)(a b:Nat):Int:=GK x.Room a b
def Jw(x:Be)(a b:Nat):Int:=GK x.Flow a b
def Qun{x:Be}{n:Nat}(h:JI x n){p q:Int}(Z:0<=p)(aa:p<n)(ab:p≠q)(ac:0<=q){v:Int}(hf:QN (DU x) (Jw x) n p.toNat q.toNat v){L:List Int}(z:SC x n p q L):
 JI (Hl x L (L.length - 1)) n/\QN (DU x) (Jw (Hl x L (L.length - 1))) n p.toNat q.toNat (v+1):=by
 have Q:=z.pos;have O: ∀i,i<L.length->(L[i]?.getD 0).toNat=Lf L i/\Lf L i<n:=by
  intro i G;refine⟨rfl,?_⟩;simp only[Lf];rw[Bd G,AS]
  have:=z.inb _ (Rh G)
  omega
 refine⟨zG h z.inb _ (by omega),Ow (m:=L.length - 1) (L:=Lf L) hf (λi j G hj=>z.nd i j (by omega) (by omega)) (λi G=>(O i (by omega)).2) ?_ ?_ (by omega) (by omega) (λi G=> ?_) (λa b _ _=>Qso h z.inb a b _ (by omega))⟩
 .simp only[Lf,z.hd,AS]
 .simp only[Lf,z.lst,AS]
 .exact of_decide_eq_true (z.free i (by omega))
def nC{n:Nat}{p q:Int}(G:0<=p)(O:p<n)(ad:p≠q)(ab:0<=q)(af:q<n): ∀(m:Nat) (x:Be) (v:Int),JI x n->QN (DU x) (Jw x) n p.toNat q.toNat v->
 (FP n p q m x=m/\ ∀S:Nat->Bool,S p.toNat=true->S q.toNat=false->v+m<=En (DU x) n S)\/(FP n p q m x<m/\ ∃S:Nat->Bool,S p.toNat=true/\S q.toNat=false/\En (DU x) n S=v+FP n p q m x)
 |0,x,v,h,hf=> .inl ⟨rfl,λS h1 Z=>by have:=Qw8 hf (by omega) h1 Z;simpa using this⟩
 |m+1,x,v,h,hf=>by
  by_cases Q:C8 x n p q=[]
  .refine .inr ?_;have e:FP n p q (m+1) x=0:=by simp only[FP];rw[Ai Q]
   rw[e];refine⟨by omega,λu=>decide (0<=(B2 x n p).1[u]?.getD (-1)),?_,?_,?_⟩
   .have:=(QT (x:=x) G O n).pp
    simp only[B2,this,AS,Bo];exact G
   .have aa:=(QT (x:=x) G O n).len;obtain⟨y,hy⟩: ∃y,(B2 x n p).1[q.toNat]? =some y:=⟨_,Bd (by simp only[B2];omega)⟩;simp only[hy,AS,Ho];intro h0;simp only[C8,hy,AS] at Q;rw[Ad (by omega)] at Q;simp[HT] at Q
   .have:=Qxp (S:=λu=>decide (0<=(B2 x n p).1[u]?.getD (-1))) hf (by omega) ?_ ?_ ?_
    .omega
    .have:=(QT (x:=x) G O n).pp
     simp only[B2,this,AS,Bo];exact G
    .have aa:=(QT (x:=x) G O n).len;obtain⟨y,hy⟩: ∃y,(B2 x n p).1[q.toNat]? =some y:=⟨_,Bd (by simp only[B2];omega)⟩;simp only[hy,AS,Ho];intro h0;simp only[C8,hy,AS] at Q;rw[Ad (by omega)] at Q;simp[HT] at Q
    .intro u w hu ah h1 Z;simp only[Bo,Ho] at h1 Z;have aa:=(QT (x:=x) G O n).len;obtain⟨y,hy⟩: ∃y,(B2 x n p).1[u]? =some y:=⟨_,Bd (by simp only[B2];omega)⟩;rw[hy,AS] at h1;by_cases ac:Vr x u w=true
     .obtain⟨z,g1,g2⟩:=Qww x G O hy h1 ah ac;rw[g1,AS] at Z;omega
     .have h3: ¬(Qzr x u w<Qyw x u w):=λh=>ac (JS h)
      rw[Ov,OZ,BD,BD] at h3;simp only[DU,Jw];omega
  .have hW:=Va G O ab af Q;obtain⟨g1,g2⟩:=Qun h G O ad ab hf hW;have ag:DU (Hl x (C8 x n p q) ((C8 x n p q).length - 1))=DU x:=by funext a b;simp only[DU,Ql3]
   rw[<-ag] at g2;have ih:=nC G O ad ab af m _ _ g1 g2;rw[ag] at ih;have e:FP n p q (m+1) x=FP n p q m (Hl x (C8 x n p q) ((C8 x n p q).length - 1))+1:=by simp only[FP];rw[Ad Q]
   rw[e];rcases ih with ⟨h1,Z⟩|⟨h1,S,Z,h3,h4⟩
   .exact .inl ⟨by omega,λS hS hT=>by have:=Z S hS hT;omega⟩
   .exact .inr ⟨by omega,S,Z,h3,by omega⟩
def Kr(n:Nat):Be:=⟨List.replicate n (List.replicate n 0),List.replicate n (List.replicate n 0)⟩
def JU(x:Be)(b:Af):Be:=⟨KG (KG x.Room b.A b.B b.Strength) b.B b.A b.Strength,x.Flow⟩
def Cd(n:Nat)(bs:List Af):Nat->Be
 |0=>Kr n
 |k+1=>match bs[k]? with
  |some b=>JU (Cd n bs k) b
  |none=>Cd n bs k
def DG(n:Nat)(bs:List Af):Be:=Cd n bs bs.length
def WA{n:Nat}{bs:List Af}(Q:KD n bs): ∀k,JI (Cd n bs k) n/\(Cd n bs k).Flow=List.replicate n (List.replicate n 0)
 |0=>⟨⟨by simp[Cd,Kr],by simp[Cd,Kr],λl O=>by rw[PY O];simp,λl O=>by rw[PY O];simp⟩,rfl⟩
 |k+1=>by
  obtain⟨ih,z⟩:=WA Q k;simp only[Cd];split
  .rename_i b G;obtain⟨b1,b2,b3,b4⟩:=Q b (AP G);refine⟨⟨by simp only[JU,Zj];exact ih.r,ih.f,?_,ih.ff⟩,z⟩;exact Zh (Zh ih.rr _ _ _ (by rw[ih.r];omega)) _ _ _ (by rw[Zj,ih.r];omega)
  .exact⟨ih,z⟩
def CI(S:Nat->Bool):List Af->Int
 |[]=>0
 |b::r=>(if S b.A.toNat=S b.B.toNat then 0 else b.Strength)+CI S r
def nT(S:Nat->Bool): ∀(a b:List Af),CI S (a++b)=CI S a+CI S b
 |[],b=>by simp[CI]
 |x::r,b=>by simp only[CW,CI,nT S r b];omega
def YS(n u v:Nat)(Z:u<n)(hv:v<n)(c:Int)(g:Nat->Nat->Bool):AH (λa=>AH (λb=>if g a b=true then (if a=u/\b=v then c else 0) else 0) n) n=if g u v=true then c else 0:=by
 have O:AH (λa=>AH (λb=>if g a b=true then (if a=u/\b=v then c else 0) else 0) n) n=AH (λa=>if a=u then (if g u v=true then c else 0) else 0) n:=by
  refine Fw λa _=> ?_
  by_cases z:a=u
  .subst z;rw[Ai rfl];have Q:AH (λb=>if g a b=true then (if a=a/\b=v then c else 0) else 0) n=AH (λb=>if b=v then (if g a v=true then c else 0) else 0) n:=by
    refine Fw λb _=> ?_
    by_cases G:b=v
    .subst G;simp
    .simp[G]
   rw[Q,W5,Ai hv]
  .rw[Ad z];refine (Fw λb _=> ?_).trans (QF n);simp[z]
 rw[O,W5,Ai Z]
def Qnz{l:List (List Int)}{n:Nat}(Z:l.length=n)(h: ∀r∈l,r.length=n){u v:Nat}(d:Int)(G:u<n)(O:v<n)(S:Nat->Bool):
 En (λa b=>GK (KG l u v d) a b) n S=En (λa b=>GK l a b) n S+if S u=true/\S v=false then d else 0:=by
 have z:AH (λa=>AH (λb=>if (S a && !S b)=true then (if a=u/\b=v then d else 0) else 0) n) n=if (S u && !S v)=true then d else 0:=YS n u v G O d (λa b=>S a && !S b)
 have Q:(if (S u && !S v)=true then d else 0)=if S u=true/\S v=false then d else 0:=by
  cases S u<;>cases S v<;>simp
 rw[Q] at z;rw[<-z,En,En,<-QH];refine Fw λa _=> ?_
 rw[<-QH];refine Fw λb _=> ?_
 rw[dP Z h d G O a b];cases S a<;>cases S b<;>simp
def Lp{n:Nat}{bs:List Af}(G:KD n bs)(S:Nat->Bool): ∀k,k<=bs.length->En (DU (Cd n bs k)) n S=CI S (bs.take k)
 |0,_=>by
  simp only[GS,CI,En];refine (Fw λu Z=> ?_).trans (QF n);refine (Fw λw hw=> ?_).trans (QF n)
  have:DU (Cd n bs 0) u w=0:=by
   simp only[DU,Cd,Kr,GK];rw[NL,Ai Z,AS,NL,Ai hw,AS]
  rw[this];split<;>rfl
 |k+1,Q=>by
  obtain⟨b,hbk⟩: ∃b,bs[k]? =some b:=⟨_,Bd Q⟩;have ih:=Lp G S k (by omega);obtain⟨z,_⟩:=WA G k;obtain⟨b1,b2,b3,b4⟩:=G b (AP hbk);have e:bs.take (k+1)=bs.take k++[b]:=by rw[G9,hbk];rfl
  rw[e,nT,<-ih];have O:DU (Cd n bs (k+1))=λx y=>GK (KG (KG (Cd n bs k).Room (b.A.toNat:Int) (b.B.toNat:Int) b.Strength) (b.B.toNat:Int) (b.A.toNat:Int) b.Strength) x y:=by
   funext x y;simp only[DU,Cd,hbk,JU];rw[show ((b.A.toNat:Nat):Int)=b.A by omega,show ((b.B.toNat:Nat):Int)=b.B by omega]
  rw[O,Qnz (by rw[Zj];exact z.r) (Zh z.rr _ _ _ (by rw[z.r];simp;omega)) _ (by omega) (by omega),Qnz z.r z.rr _ (by omega) (by omega)];simp only[CI]
  have:En (λa b=>GK (Cd n bs k).Room a b) n S=En (DU (Cd n bs k)) n S:=rfl
  rw[this];cases S b.A.toNat<;>cases S b.B.toNat<;>simp<;>omega
def RD{n:Nat}{bs:List Af}(z:KD n bs)(S:Nat->Bool):En (DU (DG n bs)) n S=CI S bs:=by
 rw[DG,Lp z S _ (AF _),El]
def Qpz{n:Nat}{bs:List Af}(G:KD n bs)(hs:PU bs)(a b:Nat): ∀k,0<=DU (Cd n bs k) a b
 |0=>by
  simp only[DU,Cd,Kr,GK,NL];split
  .rw[AS,NL];split<;>simp
  .simp
 |k+1=>by
  have ih:=Qpz G hs a b k;obtain⟨z,_⟩:=WA G k;simp only[DU,Cd] at ih⊢;split
  .rename_i x O;obtain⟨b1,b2,b3,b4⟩:=G x (AP O);have h0:=(hs x (AP O)).1;simp only[JU];rw[show x.A=(x.A.toNat:Int) by omega,show x.B=(x.B.toNat:Int) by omega];rw[dP (n:=n) (by rw[Zj];exact z.r) (Zh z.rr _ _ _ (by rw[z.r];simp;omega)) _ (by omega) (by omega),dP z.r z.rr _ (by omega) (by omega)]
   split<;>split<;>omega
  .exact ih
def nI{n:Nat}{bs:List Af}(G:KD n bs)(hs:PU bs)(p q:Nat):QN (DU (DG n bs)) (Jw (DG n bs)) n p q 0:=by
 have z: ∀a b,Jw (DG n bs) a b=0:=by
  intro a b;simp only[Jw,DG,(WA G bs.length).2,GK,NL];split
  .rw[AS,NL];split<;>simp
  .simp
 refine⟨λu w _ _=>by rw[z,z];rfl,λu w _ _=> ?_,λu _ _ _=>(Fw λi _=>z u i).trans (QF n),(Fw λi _=>z p i).trans (QF n)⟩;rw[z];exact Qpz G hs u w bs.length
def WG(n:Nat)(bs:List Af)(t:Int)(k:Nat):Prop:= ∀S:Nat->Bool,S 0=true->(∃y,0<y/\y<=k/\y<n/\S y=false)->t<=CI S bs
def QR(n:Nat)(bs:List Af)(t:Int):Nat->Bool
 |0=>true
 |k+1=>QR n bs t k && decide (t<=FP n 0 ((k:Int)+1) t.toNat (DG n bs))
def Qtt{n:Nat}{bs:List Af}(O:KD n bs)(hs:PU bs){t:Int}(ht:0<=t): ∀k,k<n->(QR n bs t k=true↔WG n bs t k)
 |0,_=>by
  simp only[QR,true_iff];rintro S _ ⟨y,h1,z,_⟩;omega
 |k+1,hk=>by
  have ih:=Qtt O hs ht k (by omega);have hl:=nC (n:=n) (p:=0) (q:=(k:Int)+1) (by omega) (by omega) (by omega) (by omega) (by omega) t.toNat (DG n bs) 0 (WA O bs.length).1 (nI O hs _ _);simp only[Int.toNat_zero,show ((k:Int)+1).toNat=k+1 by omega,Int.zero_add,RD O] at hl;simp only[QR,AO,Bo,ih];rcases hl with ⟨h1,z⟩|⟨h1,S,z,h3,h4⟩
  .constructor
   .rintro⟨g1,g2⟩ S G ⟨y,Z,y2,y3,Q⟩;by_cases hy:y<=k
    .exact g1 S G ⟨y,Z,hy,y3,Q⟩
    .have:=z S G (by rw[show k+1=y by omega];exact Q)
     omega
   .intro h;exact⟨λS G ⟨y,Z,y2,y3,Q⟩=>h S G ⟨y,Z,by omega,y3,Q⟩,by omega⟩
  .constructor
   .rintro⟨_,g2⟩;omega
   .intro h
    have:=h S z ⟨k+1,by omega,by omega,hk,h3⟩
    omega
def Qt7{n:Bc}(hn:Dv n)(hc:I0 n){q:Int}{st qu:List Int}(G:st.length=n.Cnt.toNat)(hP:F9 n q (st,qu)){p:Int}(O:0<=p)(Q:p<n.Cnt){d:Nat}(hd:st[p.toNat]? =some (d:Int))(w:Int):
 ∀k,k<=d->Dq (BU n st p k).1 w=Dq n w+(if p=w then 1 else 0) - (if (BU n st p k).2=w then 1 else 0)
 |0,_=>by simp only[BU];omega
 |k+1,hk=>by
  have ih:=Qt7 hn hc G hP O Q hd w k (by omega);have hI:=kN hn hc G hP O Q hd k (by omega);obtain⟨m,r,hm,hr,hg,Z,ad⟩:=yN hn G hP (by omega) hI;have ac:(BU n st p k).1.At[m]? =some r:=by rw[hI.at_];exact hr
  have e:(BU n st p (k+1)).1=HR (BU n st p k).1 m (GL (BU n st p k).1 st m).2:=by simp only[BU,hm]
  have e2:(BU n st p (k+1)).2=(GL (BU n st p k).1 st m).1:=by simp only[BU,hm]
  rw[e,e2,Qzc hI.ok ac hg.1,hg.2.2.1,ih,hm];have aa:=hg.2.2.2.1;rw[BD,Z,AS] at aa;have ab:(m:Int)≠(GL (BU n st p k).1 st m).1:=by
   intro he;rw[<-he,BD,Z,AS] at aa;omega
  obtain⟨z,hz⟩: ∃z,z=(GL (BU n st p k).1 st m).1:=⟨_,rfl⟩;rw[<-hz] at ab⊢;by_cases c1:p=w<;>by_cases c2:(m:Int)=w<;>by_cases c3:z=w<;>simp only[c1,c2,c3,BF,Cu]<;>omega
def Np(n:Bc)(p q:Int):Prop:= ∀w,w≠p->w≠q->Dq n w=0
def O2{n:Bc}(hn:Dv n)(hc:I0 n){p q:Int}(G:0<=p)(O:p<n.Cnt)(Q:0<=q)(Z:q<n.Cnt)(hg:(Fh n p q).2=true)(aa:Np n p q):Np (Fh n p q).1 p q:=by
 have z:=qZ hn Q Z;have hP:F9 n q (Fg n q,(CB n q n.Cnt.toNat).2):=Nr hn Q Z n.Cnt.toNat;obtain⟨x,hx⟩: ∃x,(Fg n q)[p.toNat]? =some x:=⟨_,Bd (by omega)⟩;intro w h1 h2;simp only[Fh,hx,AS] at hg⊢;by_cases h:x<0
 .rw[Ai h] at hg;simp at hg
 .obtain⟨d,rfl⟩: ∃d:Nat,x=d:=⟨x.toNat,by omega⟩;rw[Ad h,BD];have hI:=kN hn hc z hP G O hx d (AF _);obtain⟨m,hm,ac,ab⟩:=hI.v;have ad:m=q.toNat:=hP.uniq m (by rw[ab];congr 1;omega);have ho:=Qt7 hn hc z hP G O hx w d (AF _);rw[Ad (E3 h1),hm,Ad (by omega),aa w h1 h2] at ho;simpa using ho
def Que{p q:Int}(z:0<=p)(G:0<=q)(aa:p≠q): ∀(m:Nat) (n:Bc),Dv n->I0 n->p<n.Cnt->q<n.Cnt->Np n p q->Dv (G1 p q m n).1/\I0 (G1 p q m n).1/\(G1 p q m n).1.Cnt=n.Cnt/\(G1 p q m n).1.Bonds=n.Bonds/\
 (G1 p q m n).1.At=n.At/\Np (G1 p q m n).1 p q/\Dq (G1 p q m n).1 p=Dq n p+(G1 p q m n).2/\0<=(G1 p q m n).2/\((G1 p q m n).2=m\/(Fh (G1 p q m n).1 p q).2=false)
 |0,n,O,Q,_,_,h5=>⟨O,Q,rfl,rfl,rfl,h5,by simp[G1],by simp[G1],.inl (by simp[G1])⟩
 |m+1,n,O,Q,h3,h4,h5=>by
  simp only[G1];by_cases Z:(Fh n p q).2=true
  .rw[Ai Z];obtain⟨g1,g2,g3,g4,g5,g6⟩:=LD O Q z h3 G h4 aa Z;have g7:=O2 O Q z h3 G h4 Z h5;obtain⟨k1,k2,k3,k4,k5,k6,k7,k8,k9⟩:=Que z G aa m _ g1 g2 (by omega) (by omega) g7;refine⟨k1,k2,k3.trans g3,k4.trans g4,k5.trans g5,k6,by simp only;omega,by simp only;omega,?_⟩;rcases k9 with h|h
   .exact .inl (by simp only;omega)
   .exact .inr h
  .rw[Ad Z];exact⟨O,Q,rfl,rfl,rfl,h5,by simp,by simp,.inr (by simpa using Z)⟩
def Qu0{n:Int}{bs:List Af}(h:Zt (n,bs))(hs:PU bs){p q:Int}(z:0<=p)(Q:0<=q)(G:p<n)(Z:q<n)(O:p≠q):Dv (Ed n bs p q).1/\I0 (Ed n bs p q).1/\(Ed n bs p q).1.Cnt=n/\(Ed n bs p q).1.Bonds=bs/\
 (Ed n bs p q).1.At=(De n bs).At/\Np (Ed n bs p q).1 p q/\Dq (Ed n bs p q).1 p=(Ed n bs p q).2/\0<=(Ed n bs p q).2/\(Fh (Ed n bs p q).1 p q).2=false:=by
 obtain⟨h1,h2⟩:=Ma h hs;obtain⟨k1,k2,k3,k4,k5,k6,k7,k8,k9⟩:=Que z Q O ((bs.map Af.Strength).sum.toNat+1) (De n bs) h1 h2 G Z (λw _ _=>Qtg w);rw[Qtg,Int.zero_add] at k7;refine⟨k1,k2,k3,k4,k5,k6,k7,k8,?_⟩;rcases k9 with h9|h9
 .exfalso;have h4:(G1 p q ((bs.map Af.Strength).sum.toNat+1) (De n bs)).1.Bonds=bs:=k4
  have:=T8 k1 k2 p
  rw[h4] at this;omega
 .exact h9
def nU{n:Bc}(hn:Dv n){v:Nat}{r:List Int}(hr:n.At[v]? =some r){y:Int}(Q:0<=y): ∀(l:List Int) (s:List Int×List Int),(∀i∈l,i∈r)->WH n s->s.1[v]? =some y-> ∀i∈l,0<(Ds n (D0 n v i) i).1-> ∃z,(l.foldl (B9 n v) s).1[(D0 n v i).toNat]? =some z/\0<=z
 |[],s,_,_,_,i,G,_=>by cases G
 |j::l,s,hl,hs,hv,i,G,O=>by
  have Z:=hl j (Cb ..);rcases Bx.1 G with rfl|G
  .obtain⟨_,_,o1,o2⟩:=eH hn hr Z;obtain⟨z,hz⟩: ∃z,s.1[(D0 n v i).toNat]? =some z:=⟨_,Bd (by rw[hs.len];omega)⟩;have aa: ∃z,(B9 n v s i).1[(D0 n v i).toNat]? =some z/\0<=z:=by
    by_cases h0:0<=z
    .exact⟨z,rD n v s i _ z hz h0,h0⟩
    .refine⟨y+1,?_,by omega⟩;simp only[B9];rw[Ai ⟨by rw[hz,AS];omega,O⟩,BD,hv,AS];exact Ee (by rw[hs.len];omega)
   obtain⟨z',g1,g2⟩:=aa;exact⟨z',Qor n v _ z' g2 l _ g1,g2⟩
  .exact nU hn hr Q l _ (λj Z=>hl j (BZ _ Z)) (Qtm hn hr Z hs) (rD n v s j v y hv Q) i G O
def Qzj(n:Bc)(v:Int): ∀(l:List Int) (s:List Int×List Int),∃e,(l.foldl (B9 n v) s).2=s.2++e
 |[],s=>⟨[],by simp⟩
 |i::l,s=>by
  obtain⟨e,z⟩:=Qzj n v l (B9 n v s i);simp only[NQ,z];simp only[B9];split
  .exact⟨[D0 n v i]++e,by simp⟩
  .exact⟨e,rfl⟩
def Xk(n:Bc)(q:Int)(k:Nat): ∃e,(CB n q (k+1)).2=(CB n q k).2++e:=by
 rw[CB];split
 .exact⟨[],by simp⟩
 .exact Qzj n _ _ _
def Ob(n:Bc)(q:Int)(u:Nat)(y:Int)(h0:0<=y)(k:Nat)(h:(CB n q k).1[u]? =some y):(CB n q (k+1)).1[u]? =some y:=by
 rw[CB];split
 .exact h
 .exact Qor n _ u y h0 _ _ h
def Qzn{n:Bc}(hn:Dv n){q:Int}(h0:0<=q)(Z:q<n.Cnt): ∀(k j:Nat) (v:Int),j<k->(CB n q k).2[j]? =some v-> ∀(r:List Int),n.At[v.toNat]? =some r-> ∀i∈r,0<(Ds n (D0 n v i) i).1-> ∃z,(CB n q k).1[(D0 n v i).toNat]? =some z/\0<=z
 |0,j,v,hj,_,_,_,_,_,_=>by omega
 |k+1,j,v,hj,G,r,Q,i,hi,O=>by
  obtain⟨e,he⟩:=Xk n q k;by_cases ac:j<(CB n q k).2.length
  .rw[he,DQ ac] at G;by_cases ab:j<k
   .obtain⟨z,g1,g2⟩:=Qzn hn h0 Z k j v ab G r Q i hi O;exact⟨z,Ob n q _ z g2 k g1,g2⟩
   .have:j=k:=by omega
    subst this;have hI:=W8 hn h0 Z j;have aa:=Nr hn h0 Z j;have af:=hI.q v (AP G);obtain⟨m,rfl⟩: ∃m:Nat,v=m:=⟨v.toNat,by omega⟩;obtain⟨y,hy,ad⟩:=aa.qs _ (AP G);rw[BD] at hy Q;rw[CB,G];simp only[BD,Q,AS];exact nU hn Q ad r _ (λ_ h=>h) hI hy i hi O
  .have e1:CB n q (k+1)=CB n q k:=by rw[CB,Fz (by omega)]
   rw[e1] at G
   have:=(BJ.1 G).1
   omega
def Ry{n:Bc}(hn:Dv n){q:Int}(h0:0<=q)(h1:q<n.Cnt): ∀(k u:Nat) (y:Int),(CB n q k).1[u]? =some y->0<=y->(u:Int)∈(CB n q k).2
 |0,u,y,z,G=>by
  have hq:q.toNat<n.Cnt.toNat:=by omega
  simp only[CB] at z⊢;by_cases h:q.toNat=u
  .rw[B4];omega
  .rw[DM h] at z
   have:=PY (AP z)
   omega
 |k+1,u,y,z,G=>by
  have ih:=Ry hn h0 h1 k;have hI:=W8 hn h0 h1 k;have O: ∀(v:Int) (l:List Int) (s:List Int×List Int),(∀i∈l,0<=D0 n v i)->(∀(u:Nat) (y:Int),s.1[u]? =some y->0<=y->(u:Int)∈s.2)-> ∀(u:Nat) (y:Int),(l.foldl (B9 n v) s).1[u]? =some y->0<=y->(u:Int)∈(l.foldl (B9 n v) s).2:=by
   intro v l;induction l with
   |nil=>intro s _ Q;exact Q
   |cons i l aa=>
    intro s hl Q;refine aa _ (λj hj=>hl j (BZ _ hj)) ?_;intro u y z G;have ho:=hl i (Cb ..);simp only[B9] at z⊢;split at z
    .rename_i Z;rw[Ai Z];simp only[Bp,B4] at z⊢;by_cases he:(D0 n v i).toNat=u
     .right;omega
     .rw[DM he] at z;exact .inl (Q u y z G)
    .rename_i Z;rw[Ad Z];exact Q u y z G
  rw[CB] at z⊢;split at z
  .exact ih u y z G
  .rename_i v hv;have ab:=hI.q v (AP hv);obtain⟨m,rfl⟩: ∃m:Nat,v=m:=⟨v.toNat,by omega⟩;obtain⟨r,hr⟩: ∃r,n.At[m]? =some r:=⟨_,Bd (by have:=hn.al;omega)⟩;simp only[BD,hr,AS] at z⊢;exact O m r _ (λi hi=>(eH hn hr hi).2.2.1) ih u y z G
def Qmo{n:Bc}(hn:Dv n){q:Int}(h0:0<=q)(G:q<n.Cnt){v:Nat}{y:Int}(hv:(Fg n q)[v]? =some y)(hy:0<=y){r:List Int}(hr:n.At[v]? =some r){i:Int}(Z:i∈r)(O:0<(Ds n (D0 n v i) i).1):
 ∃z,(Fg n q)[(D0 n v i).toNat]? =some z/\0<=z:=by
 have hm:=Ry hn h0 G n.Cnt.toNat v y hv hy;obtain⟨j,Q⟩:=GV.1 hm;have aa:=(BJ.1 Q).1;have ab:=yV hn.c0 (W8 hn h0 G n.Cnt.toNat);exact Qzn hn h0 G n.Cnt.toNat j v (by omega) Q r (by rwa [BD]) i Z O
def Yr(n:Bc)(S:Nat->Bool):Int:=(List.zipWith (λb f=>(if S b.A.toNat=true then f else 0) - (if S b.B.toNat=true then f else 0)) n.Bonds n.Flow).sum
def nY(S:Nat->Bool)(m:Nat): ∀(bs:List Af) (z:List Int),(∀b∈bs,0<=b.A/\b.A<m/\0<=b.B/\b.B<m/\b.A≠b.B)->
 AH (λv=>if S v=true then (List.zipWith (Ju (v:Int)) bs z).sum else 0) m=(List.zipWith (λb f=>(if S b.A.toNat=true then f else 0) - (if S b.B.toNat=true then f else 0)) bs z).sum
 |[],z,_=>by
  simp only[List.zipWith_nil_left,Zfr];refine (Fw λi _=> ?_).trans (QF m)
  split<;>rfl
 |b::bs,[],_=>by
  simp only[Zem,Zfr];refine (Fw λi _=> ?_).trans (QF m)
  split<;>rfl
 |b::bs,f::z,h=>by
  have ih:=nY S m bs z (λx O=>h x (BZ _ O));obtain⟨b1,b2,b3,b4,b5⟩:=h b (Cb ..);simp only[fA,NO];rw[<-ih];have e:AH (λv=>if S v=true then Ju (v:Int) b f+(List.zipWith (Ju (v:Int)) bs z).sum else 0) m=
   (AH (λv=>if v=b.A.toNat then (if S b.A.toNat=true then f else 0) else 0) m+ - AH (λv=>if v=b.B.toNat then (if S b.B.toNat=true then f else 0) else 0) m)+AH (λv=>if S v=true then (List.zipWith (Ju (v:Int)) bs z).sum else 0) m:=by
   rw[<-rV,<-QH,<-QH];refine Fw λv _=> ?_
   simp only[Ju];by_cases c1:v=b.A.toNat
   .have G: ¬v=b.B.toNat:=by omega
    rw[Ai (show b.A=(v:Int) by omega),Ai c1,Ad G,<-c1];cases S v<;>simp
   .rw[Ad (show ¬b.A=(v:Int) by omega),Ad c1];by_cases G:v=b.B.toNat
    .rw[Ai (show b.B=(v:Int) by omega),Ai G,<-G];cases S v<;>simp
    .rw[Ad (show ¬b.B=(v:Int) by omega),Ad G];cases S v<;>simp
  rw[e,W5,W5,Ai (show b.A.toNat<m by omega),Ai (show b.B.toNat<m by omega)];omega
def Mh{n:Bc}(hn:Dv n){p q:Int}(aa:0<=p)(ab:p<n.Cnt)(G:Np n p q){S:Nat->Bool}(hS:S p.toNat=true)(hT:S q.toNat=false)(ac:0<=q):Yr n S=Dq n p:=by
 have Q:=nY S n.Cnt.toNat n.Bonds n.Flow (λb O=>by
  have:=hn.bs b O
  have:=hn.ne b O
  omega)
 rw[Yr,<-Q];have Z:AH (λv=>if S v=true then (List.zipWith (Ju (v:Int)) n.Bonds n.Flow).sum else 0) n.Cnt.toNat=AH (λv=>if v=p.toNat then Dq n p else 0) n.Cnt.toNat:=by
  refine Fw λv hv=> ?_
  by_cases z:v=p.toNat
  .subst z;rw[Ai rfl,Ai hS,show ((p.toNat:Nat):Int)=p by omega];rfl
  .rw[Ad z];cases hSv:S v with
   |false=>rw[Ad (by simp)]
   |true=>
    rw[Ai rfl];have ad:v≠q.toNat:=λhe=>by rw[he,hT] at hSv;cases hSv
    exact G v (by omega) (by omega)
 rw[Z,W5,Ai (by omega)]
def Qw5(S:Nat->Bool): ∀(bs:List Af) (O:List Int),(∀(i:Nat) b f,bs[i]? =some b->O[i]? =some f-> -b.Strength<=f/\f<=b.Strength)->(∀b∈bs,0<=b.Strength)->(List.zipWith (λb f=>(if S b.A.toNat=true then f else 0) - (if S b.B.toNat=true then f else 0)) bs O).sum<=CI S bs
 |[],_,_,_=>by simp[CI]
 |x::r,[],_,z=>by
  have Q:=Qw5 S r [] (λi b f _ h=>by simp at h) (λb G=>z b (BZ _ G));have h2:=z x (Cb ..);simp only[Zem,Zfr,CI] at Q⊢
  split<;>omega
 |x::r,y::s,Z,z=>by
  have Q:=Qw5 S r s (λi b f h h'=>Z (i+1) b f (by simpa using h) (by simpa using h')) (λb G=>z b (BZ _ G));have h3:=Z 0 x y rfl rfl;simp only[fA,NO,CI];cases S x.A.toNat<;>cases S x.B.toNat<;>simp<;>omega
def Mg(S:Nat->Bool): ∀(bs:List Af) (z:List Int),z.length=bs.length->(∀(i:Nat) b f,bs[i]? =some b->z[i]? =some f->(S b.A.toNat=true->S b.B.toNat=false->f=b.Strength)/\(S b.A.toNat=false->S b.B.toNat=true->f= -b.Strength))->(List.zipWith (λb f=>(if S b.A.toNat=true then f else 0) - (if S b.B.toNat=true then f else 0)) bs z).sum=CI S bs
 |[],_,_,_=>by simp[CI]
 |x::r,[],h,_=>by simp at h
 |x::r,y::s,h,G=>by
  have O:=Mg S r s (by simpa using h) (λi b f h h'=>G (i+1) b f (by simpa using h) (by simpa using h'));obtain⟨Q,Z⟩:=G 0 x y rfl rfl;simp only[fA,NO,CI,O];cases hA:S x.A.toNat<;>cases hB:S x.B.toNat<;>simp
  .have:=Z hA hB;omega
  .exact Q hA hB
def Sh{n:Int}{bs:List Af}(h:Zt (n,bs))(hs:PU bs){p q:Int}(Z:0<=p)(G:0<=q)(ad:p<n)(ag:q<n)(af:p≠q):
 0<=(Ed n bs p q).2/\(∀S:Nat->Bool,S p.toNat=true->S q.toNat=false->(Ed n bs p q).2<=CI S bs)/\ ∃S:Nat->Bool,S p.toNat=true/\S q.toNat=false/\CI S bs=(Ed n bs p q).2:=by
 obtain⟨k1,k2,k3,k4,k5,k6,k7,k8,k9⟩:=Qu0 h hs Z G ad ag af;obtain⟨N,hN⟩: ∃N,N=(Ed n bs p q).1:=⟨_,rfl⟩;obtain⟨val,hval⟩: ∃val,val=(Ed n bs p q).2:=⟨_,rfl⟩;simp only[<-hN,<-hval] at k1 k2 k3 k4 k5 k6 k7 k8 k9⊢;refine⟨k8,λS hS hT=> ?_,?_⟩
 .have h1:=Mh k1 Z (by omega) k6 hS hT G;have h2:=Qw5 S N.Bonds N.Flow k2 (λb O=>(k1.st b O).1);rw[k4] at h2;simp only[Yr,k4] at h1;omega
 .have ai:=qZ k1 G (by omega);obtain⟨x,hx⟩: ∃x,(Fg N q)[p.toNat]? =some x:=⟨_,Bd (by omega)⟩;have ab:x<0:=by
   simp only[Fh,hx,AS] at k9;by_cases h0:x<0
   .exact h0
   .rw[Ad h0] at k9;simp at k9
  have Q:=(Nr k1 G (show q<N.Cnt by omega) N.Cnt.toNat).zero;have Q:(Fg N q)[q.toNat]? =some 0:=Q;refine⟨λv=>decide ((Fg N q)[v]?.getD 0<0),by simp only[hx,AS,Bo];exact ab,by simp[Q],?_⟩;have hS:decide ((Fg N q)[p.toNat]?.getD 0<0)=true:=by simp only[hx,AS,Bo];exact ab
  have hT:decide ((Fg N q)[q.toNat]?.getD 0<0)=false:=by simp[Q]
  have h1:=Mh (S:=λv=>decide ((Fg N q)[v]?.getD 0<0)) k1 Z (by omega) k6 hS hT G;have h2:=Mg (λv=>decide ((Fg N q)[v]?.getD 0<0)) N.Bonds N.Flow k1.fl ?_
  .simp only[Yr,k4] at h1;rw[k4] at h2;omega
  .intro i b f O hf;have aj:=k1.bs b (AP O);have ac:=k1.ne b (AP O);obtain⟨⟨rA,a1,a2⟩,⟨rB,c1,c2⟩⟩:=k1.all i b O;have ah:=k2 i b f O hf;obtain⟨yA,hA⟩: ∃y,(Fg N q)[b.A.toNat]? =some y:=⟨_,Bd (by omega)⟩;obtain⟨yB,hB⟩: ∃y,(Fg N q)[b.B.toNat]? =some y:=⟨_,Bd (by omega)⟩;simp only[hA,hB,AS,Bo,Ho];refine⟨λe1 e2=> ?_,λe1 e2=> ?_⟩
   ·
    have ho:D0 N b.B i=b.A:=by simp only[D0,BD,O];omega
    have hr:(Ds N b.A i).1=b.Strength - f:=by simp only[Ds,BD,O,hf,AS,BF]
    by_cases aa:0<b.Strength - f
    .have:=Qmo k1 G (by omega) (v:=b.B.toNat) hB (by omega) c1 c2 (by rw[show ((b.B.toNat:Nat):Int)=b.B by omega,ho,hr];exact aa)
     rw[show ((b.B.toNat:Nat):Int)=b.B by omega,ho,hA] at this;obtain⟨z,g1,g2⟩:=this
     have:=Aw g1
     omega
    .omega
   .have ho:D0 N b.A i=b.B:=by simp only[D0,BD,O];omega
    have hr:(Ds N b.B i).1=b.Strength+f:=by simp only[Ds,BD,O,hf,AS];rw[Ad ac]
    by_cases aa:0<b.Strength+f
    .have:=Qmo k1 G (by omega) (v:=b.A.toNat) hA (by omega) a1 a2 (by rw[show ((b.A.toNat:Nat):Int)=b.A by omega,ho,hr];exact aa)
     rw[show ((b.A.toNat:Nat):Int)=b.A by omega,ho,hB] at this;obtain⟨z,g1,g2⟩:=this
     have:=Aw g1
     omega
    .omega
def F8(n:Int)(bs:List Af):Nat->Int×List Int
 |0=>(-1,[])
 |k+1=>if (F8 n bs k).1<0\/Gh (Ed n bs 0 (k+1)).2 (eV (Ed n bs 0 (k+1)).1 (k+1)) (F8 n bs k).1 (F8 n bs k).2=true then ((Ed n bs 0 (k+1)).2,eV (Ed n bs 0 (k+1)).1 (k+1)) else F8 n bs k
def weakC.fv(a:Int×(List Af)):Int×(List Int):=(λn bs=>F8 n bs (n - 1).toNat) (a.1) (a.2)
def weakC.row:Ax:=vK (b2 qI (qS Af.d_le Af.c_n)) (r2 rI (rS FK EM)) (λa=>Zt (a.1,a.2)/\PU a.2/\1<=a.1) weakC.fv
def weakC.q:=AX (R:=weakC.row) rfl
def weakC.ok:AA 181 weakC.row:=by
 refine vw (tC l07Before.ok (tC flC.ok (tC sideC.ok tN))) Tryz.func181 ?_;intro a Q;simp only[Tryz.f181];simp only[ZA,simprocAttr,weakC.fv];obtain⟨O,Z,ac⟩:=Q;have aa:=O.2.1;simp only at aa;obtain⟨n,hn⟩: ∃n:Nat,a.1=n+1:=⟨(a.1 - 1).toNat,by omega⟩;rw[show (a.1 - 1).toNat=n by omega];refine AR.frr ⟨{k:Nat//k<=n},λk=>⟨[(8,.im (.int .i64 ((k.1:Int)+1))),(7,.im (.sl false 1 ((F8 a.1 a.2 k.1).2.map Ao))),(6,.im (.int .i64 (F8 a.1 a.2 k.1).1)),(0,.im (.int .i64 a.1)),(1,.im (.sl false 3 (a.2.map Af.c)))],[],2⟩,λk=>n - k.1,λk=>⟨by simp[ZG],by simp⟩,⟨⟨0,by simp⟩,[1],[],?_⟩,λk=> ?_⟩
 .simp only[Ak];simp only[ZA,simprocAttr,F8]
  try simp
 obtain⟨k,ab⟩:=k;simp only[ZA,simprocAttr,AM];refine⟨λhk=> ?_,λhk=> ?_⟩
 .refine AE.os (a.1,a.2,0,(k:Int)+1) [] ⟨O,Z,by simp,by simp only;omega,by simp only;omega,by simp only;omega,by simp only;omega⟩ (λj=>by simp[An,hget]) rfl rfl ?_ ?_
  .simp only[ZA,simprocAttr,flC.ca]
  .simp only[ZZ,simprocAttr,rch,l07Before.q,l07Before.fv,sideC.q,sideC.fv,flC.H1,flC.r0,AM];obtain⟨k1,k2,k3,k4,k5,_⟩:=Qu0 (p:=0) (q:=(k:Int)+1) O Z (by omega) (by omega) (by omega) (by omega) (by omega);have G:({Cnt:=a.1,Bonds:=a.2,At:=(De a.1 a.2).At,Flow:=(flC.net (a.1,a.2,0,(k:Int)+1)).Flow}:Bc)=(Ed a.1 a.2 0 ((k:Int)+1)).1:=by
    rw[<-k5];simp only[flC.net]
    conv=>rhs;rw[show (Ed a.1 a.2 0 ((k:Int)+1)).1=⟨(Ed a.1 a.2 0 ((k:Int)+1)).1.Cnt,(Ed a.1 a.2 0 ((k:Int)+1)).1.Bonds,(Ed a.1 a.2 0 ((k:Int)+1)).1.At,(Ed a.1 a.2 0 ((k:Int)+1)).1.Flow⟩ from rfl]
    rw[k3,k4]
   rw[G];have hw:IntKind.i64.wrap ((k:Int)+1+1)=(k:Int)+1+1:=AB (by omega) (by omega);have z:F8 a.1 a.2 (k+1)=if (F8 a.1 a.2 k).1<0\/Gh (Ed a.1 a.2 0 ((k:Int)+1)).2 (eV (Ed a.1 a.2 0 ((k:Int)+1)).1 ((k:Int)+1)) (F8 a.1 a.2 k).1 (F8 a.1 a.2 k).2=true then ((Ed a.1 a.2 0 ((k:Int)+1)).2,eV (Ed a.1 a.2 0 ((k:Int)+1)).1 ((k:Int)+1)) else F8 a.1 a.2 k:=rfl
   refine⟨⟨k1,by omega,by omega⟩,λh0=>⟨λh1=>⟨⟨k+1,by omega⟩,[],[],by simp only;omega,?_⟩,λh1=>⟨⟨k+1,by omega⟩,[],[],by simp only;omega,?_⟩⟩,λh0=>⟨⟨k+1,by omega⟩,[],[],by simp only;omega,?_⟩⟩
   .rw[Ai (.inr h1)] at z;simp only[Ak];simp only[ZA,simprocAttr,z,hw];omega
   .rw[Ad (λh=>h.elim h0 h1)] at z;simp only[Ak];simp only[ZA,simprocAttr,z,hw];omega
   .rw[Ai (.inl (G8.1 h0))] at z;simp only[Ak];simp only[ZA,simprocAttr,z,hw];omega
 .have:k=n:=by omega
  rw[this]
def Qzk{n:Int}{bs:List Af}(h:Zt (n,bs))(hs:PU bs){t:Int}(ht:0<=t): ∀k:Nat,(k:Int)<n->(0<k->0<=(F8 n bs k).1/\(t<=(F8 n bs k).1↔WG n.toNat bs t k))
 |0,_=>λh0=>by omega
 |k+1,hk=>λ_=>by
  obtain⟨f1,f2,S,f3,f4,f5⟩:=Sh h hs (p:=0) (q:=(k:Int)+1) (by omega) (by omega) (by omega) (by omega) (by omega);simp only[Int.toNat_zero,show ((k:Int)+1).toNat=k+1 by omega] at f2 f3 f4;obtain⟨v,hv⟩: ∃v,v=(Ed n bs 0 ((k:Int)+1)).2:=⟨_,rfl⟩;obtain⟨sd,hsd⟩: ∃sd,sd=eV (Ed n bs 0 ((k:Int)+1)).1 ((k:Int)+1):=⟨_,rfl⟩;have aa:t<=v↔ ∀S:Nat->Bool,S 0=true->S (k+1)=false->t<=CI S bs:=by
   constructor
   .intro z S O hT
    have:=f2 S O hT
    omega
   .intro z
    have:=z S f3 f4
    omega
  have Z:WG n.toNat bs t (k+1)↔WG n.toNat bs t k/\t<=v:=by
   rw[aa];constructor
   .intro z;exact⟨λS O ⟨y,y1,y2,y3,y4⟩=>z S O ⟨y,y1,by omega,y3,y4⟩,λS O hT=>z S O ⟨k+1,by omega,by omega,by omega,hT⟩⟩
   .rintro⟨z,h2⟩ S O ⟨y,y1,y2,y3,y4⟩;by_cases hy:y<=k
    .exact z S O ⟨y,y1,hy,y3,y4⟩
    .exact h2 S O (by rw[show k+1=y by omega];exact y4)
  rw[Z];simp only[F8,<-hv,<-hsd];by_cases ab:k=0
  .subst ab;rw[Ai (.inl (by simp[F8]))];refine⟨by simp only;omega,?_⟩;simp only;constructor
   .intro z;exact⟨λS _ ⟨y,y1,y2,_,_⟩=>by omega,z⟩
   .exact λz=>z.2
  .obtain⟨i1,i2⟩:=Qzk h hs ht k (by omega) (by omega);rw[<-i2];by_cases G:(F8 n bs k).1<0\/Gh v sd (F8 n bs k).1 (F8 n bs k).2=true
   .rw[Ai G];have ac:v<=(F8 n bs k).1:=by
     rcases G with G|G
     .omega
     .simp only[Gh] at G;split at G
      .omega
      .simp only[Bo] at G;omega
    simp only;exact⟨by omega,by omega,by omega⟩
   .rw[Ad G];have ac:(F8 n bs k).1<=v:=by
     have Q: ¬Gh v sd (F8 n bs k).1 (F8 n bs k).2=true:=λh=>G (.inr h)
     simp only[Gh] at Q;split at Q
     .omega
     .simp only[Bo] at Q;omega
    exact⟨i1,by omega,by omega⟩
def EZ(l:List Int):Nat->List Int
 |0=>l
 |i+1=>((EZ l i).set i ((EZ l i)[l.length - 1 - i]?.getD 0)).set (l.length - 1 - i) ((EZ l i)[i]?.getD 0)
def zP(l:List Int): ∀i,(EZ l i).length=l.length
 |0=>rfl
 |i+1=>by simp only[EZ,JR,zP l i]
def nR(l:List Int): ∀i,2*i<=l.length-> ∀k,k<l.length->(EZ l i)[k]? =if k<i\/l.length - i<=k then l[l.length - 1 - k]? else l[k]?
 |0,_,k,Q=>by simp only[EZ];rw[Ad (by omega)]
 |i+1,hi,k,Q=>by
  have ih:=nR l i (by omega);have Z:=zP l i;have g1:(EZ l i)[l.length - 1 - i]?.getD 0=l[l.length - 1 - i]?.getD 0:=by rw[ih _ (by omega),Ad (by omega)]
  have g2:(EZ l i)[i]?.getD 0=l[i]?.getD 0:=by rw[ih _ (by omega),Ad (by omega)]
  have gd: ∀j,j<l.length->some (l[j]?.getD 0)=l[j]? :=λj hj=>by rw[Bd hj];rfl
  rw[EZ,g1,g2];by_cases z:l.length - 1 - i=k
  .subst z;rw[Ee (by rw[JR,Z];omega),Ai (by omega),gd _ (by omega)];congr 1;omega
  .rw[DM z];by_cases G:i=k
   .subst G;rw[Ee (by rw[Z];omega),Ai (by omega),gd _ (by omega)]
   .rw[DM G,ih k Q];by_cases O:k<i\/l.length - i<=k
    .rw[Ai O,Ai (by omega)]
    .rw[Ad O,Ad (by omega)]
def Ub(l:List Int){i:Nat}(G:2*i<=l.length)(O:l.length<=2*i+1):EZ l i=l.reverse:=by
 apply NP;intro k;by_cases z:k<l.length
 .rw[nR l i G k z,Zfo z];by_cases h:k<i\/l.length - i<=k
  .rw[Ai h]
  .rw[Ad h];congr 1;omega
 .rw[Fz (by rw[zP];omega),Fz (by rw[mD];omega)]
def dN(l:List Int)(i:Nat)(x:Int):(l.map Ao).set i [.int .i64 x]=(l.set i x).map Ao:=by rw[KN];rfl
def revC.ca(_:List Int):List AV:=[.own 0]
def revC.H0(a:List Int):Ar:=[(0,(true,.arr 3 1 (a.map Ao)))]
def revC.H1(a:List Int):Ar:=[(0,(true,.arr 3 1 (a.reverse.map Ao)))]
def revC.row:Ax:=AE revC.ca revC.H0 1 (λ_=>True) (λj=>j==0) (λ_=> .im (.tup [])) revC.H1 0
def revC.ok:AA 308 revC.row:=by
 refine ow tN Tryz.func308 (exB:=λ_=>false) (R:=λ_ r=>r= .im (.tup [])) (λ_=>rfl)
  (λa=>by simp[revC.ca,revC.H0,AN,AV.bel,AD,Cg,Cx,Ag.nms,An,hget]) (λa p hp=> ?_) (λa r h=>by subst h;exact DK.refl _) ?_
 rotate_left
 intro a Q;simp only[Tryz.f308,revC.ca,revC.H0,revC.H1];simp only[ZA,simprocAttr];intro aa;rw[AB (by omega) (by omega)];refine AR.old ⟨{i:Nat//2*i<=a.length},λi=>⟨[(2,.im (.int .i64 i.1)),(3,.im (.int .i64 ((a.length:Int) - 1 - i.1))),(0,.own 0)],[(0,(true,.arr 3 1 ((EZ a i.1).map Ao)))],1⟩,λi=>a.length - i.1,λi=>⟨by simp[ZG],by simp⟩,⟨⟨0,by simp⟩,?_⟩,λi=> ?_⟩
 .simp only[ZA,simprocAttr,sub];exact⟨by omega,by rw[EZ]⟩
 obtain⟨i,Z⟩:=i;have O:=zP a i;simp only[ZA,simprocAttr,sub,AM,O,dN,JR];refine⟨λG=>⟨by omega,by omega,by omega,λx hx=>⟨by omega,by omega,λy hy=>⟨by omega,by omega,λz hz=>⟨by omega,by omega,by omega,λu hu=> ?_⟩⟩⟩⟩,λG=> ?_⟩
 .refine⟨⟨i+1,by omega⟩,by simp only;omega,?_⟩;have w1:IntKind.i64.wrap ((a.length:Int) - 1 - i - 1)=(a.length:Int) - 1 - i - 1:=AB (by omega) (by omega);have w2:IntKind.i64.wrap ((i:Int)+1)=(i:Int)+1:=AB (by omega) (by omega);simp only[w1,w2];refine⟨⟨by omega,by omega⟩,?_⟩;simp only[EZ];rw[show a.length - 1 - i=((a.length:Int) - 1 - i).toNat by omega,hx,hy];rfl
 .rw[Ub a Z (by omega)]
 simp[revC.H1] at hp;subst hp;exact .inl ⟨by omega,rfl,rfl⟩
def clonC.ca(a:List Aj):List AV:=[.im (.sl false 3 (a.map Aj.c))]
def clonC.H1(a:List Aj):Ar:=[(0,(true,.arr 119 3 (a.map Aj.c)))]
def clonC.row:Ax:=AE clonC.ca (λ_=>[]) 0 (λa=>a.length<=1000000) (λ_=>false) (λ_=> .own 0) clonC.H1 20
def clonC.ok:AA 122 clonC.row:=by
 refine Hd tN Tryz.func122 (exB:=λj=>j==0) (R:=λ_ r=>r= .own 0) (λ_=>rfl)
  (λa=>by simp[clonC.ca,AN,AV.bel,AD,Cg,Cx]) (λa p hp=> ?_) (λa r h=>by subst h;exact DK.refl _) ?_
 rotate_left
 intro a z;simp only[Tryz.f122,clonC.ca,clonC.H1];simp only[ZA,simprocAttr,AG,Eb,Cz,D4];intro b G;split
 .rename_i h;have h0:=G h;refine⟨[],[(0,some 1)],⟨[(2,.own 0)],clonC.H1 a,1⟩,?_,by simp[clonC.H1,ZG],by simp,?_⟩
  .simp only[Ak,clonC.H1,h0];simp only[ZA,simprocAttr]
  .simp only[ZA,simprocAttr,clonC.H1]
 .refine⟨by omega,[],[(0,some 2)],⟨[(2,.own 0)],clonC.H1 a,1⟩,?_,by simp[clonC.H1,ZG],by simp,?_⟩
  .simp only[Ak,clonC.H1];simp only[ZA,simprocAttr]
  .simp only[ZA,simprocAttr,clonC.H1]
 simp[clonC.H1] at hp;subst hp;exact .inr ⟨by omega,by omega,rfl,rfl⟩
def clobC.ca(a:List Af):List AV:=[.im (.sl false 3 (a.map Af.c))]
def clobC.H1(a:List Af):Ar:=[(0,(true,.arr 277 3 (a.map Af.c)))]
def clobC.row:Ax:=AE clobC.ca (λ_=>[]) 0 (λa=>a.length<=1000000) (λ_=>false) (λ_=> .own 0) clobC.H1 20
def clobC.ok:AA 262 clobC.row:=by
 refine Hd tN Tryz.func262 (exB:=λj=>j==0) (R:=λ_ r=>r= .own 0) (λ_=>rfl)
  (λa=>by simp[clobC.ca,AN,AV.bel,AD,Cg,Cx]) (λa p hp=> ?_) (λa r h=>by subst h;exact DK.refl _) ?_
 rotate_left
 intro a z;simp only[Tryz.f262,clobC.ca,clobC.H1];simp only[ZA,simprocAttr,AG,Eb,Cz,D4];intro b G;split
 .rename_i h;have h0:=G h;refine⟨[],[(0,some 1)],⟨[(2,.own 0)],clobC.H1 a,1⟩,?_,by simp[clobC.H1,ZG],by simp,?_⟩
  .simp only[Ak,clobC.H1,h0];simp only[ZA,simprocAttr]
  .simp only[ZA,simprocAttr,clobC.H1]
 .refine⟨by omega,[],[(0,some 2)],⟨[(2,.own 0)],clobC.H1 a,1⟩,?_,by simp[clobC.H1,ZG],by simp,?_⟩
  .simp only[Ak,clobC.H1];simp only[ZA,simprocAttr]
  .simp only[ZA,simprocAttr,clobC.H1]
 simp[clobC.H1] at hp;subst hp;exact .inr ⟨by omega,by omega,rfl,rfl⟩
def freeC.fv(a:Be×Int×Int):Bool:=(Vr) (a.1) (a.2.1) (a.2.2)
def freeC.row:Ax:=Fv (b3 (qP 2 Be.d_le) qI qI) rB (λa=>JI a.1 a.1.Room.length/\0<=a.2.1/\a.2.1<a.1.Room.length/\0<=a.2.2/\a.2.2<a.1.Room.length) freeC.fv
def freeC.q:=CR (R:=freeC.row) rfl
def freeC.ok:AA 307 freeC.row:=by
 refine HJ tN Tryz.func307 ?_;intro a z;simp only[Tryz.f307];simp only[ZZ,simprocAttr,freeC.fv,D.sc,D.scs,Bt];obtain⟨G,O,h3,Q,Z⟩:=z;have hf:=G.f;refine⟨O,h3,λr hr=>⟨Q,by rw[G.rr r (AP hr)];exact Z,λx hx=>⟨O,by omega,λs hs=>⟨Q,by rw[G.ff s (AP hs)];exact Z,λy hy=> ?_⟩⟩⟩⟩;simp only[Vr,Qyw,Qzr,hr,hs,hx,hy,AS]
def Za:D->Option (List Int)
 | .sl true _ rows=>AQ Dy rows
 | .sl false _ (r::rows)=>AQ Dy (r::rows)
 |_=>none
def Zb: ∀d x,Za d=some x->Le d (.sl true 1 (x.map Ao)):=by
 intro d x h;unfold Za at h;split at h
 .rename_i k rows;have h1:=E4 (nz:=true) (k:=k) (Et FK _ _ h) (k':=1) (by simp[Ao]);intro ok hp v Q;have O:=h1 ok hp v Q;simp only[Ae.rd] at O Q⊢;rcases O with O|⟨b,p,cap,vs,T,fr,g1,g2,g3,g4,g5,g6,g7⟩
  .rcases Q with ⟨q1,G⟩|⟨b',p',z,aa,T',Z,q1,G,q3,q4,q5,q6,q7⟩
   .exact .inl ⟨q1,O.2⟩
   .obtain⟨ao,e⟩:=lK O.1;rw[e] at q1;simp only[Value.slice.injEq] at q1;exact absurd (Ra.1 q1.2.1.symm) (G trivial)
  .rcases Q with ⟨q1,G⟩|⟨b',p',z,aa,T',Z,q1,G,q3,q4,q5,q6,q7⟩
   .rw[Qr7 q1] at g1;cases g1
   .refine .inr ⟨b,p,cap,vs,T,fr,g1,λ_ h0=> ?_,g3,g4,g5,g6,g7⟩;rw[q1] at g1;simp only[Value.slice.injEq] at g1;rw[h0,F3] at g1;exact G trivial (Ra.1 g1.2.1)
 .rename_i k r rows;have h1:=E4 (nz:=false) (k:=k) (Et FK _ _ h) (k':=1) (by simp[Ao]);intro ok hp v Q;have O:=h1 ok hp v Q;simp only[Ae.rd] at O Q⊢;rcases O with O|⟨b,p,cap,vs,T,fr,g1,g2,g3,g4,g5,g6,g7⟩
  .rcases Q with ⟨q1,G⟩|⟨b',p',z,aa,T',Z,q1,G,q3,q4,q5,q6,q7⟩
   .cases G
   .obtain⟨ao,e⟩:=lK O.1;rw[e] at q1;simp only[Value.slice.injEq,Cr] at q1;omega
  .rcases Q with ⟨q1,G⟩|⟨b',p',z,aa,T',Z,q1,G,q3,q4,q5,q6,q7⟩
   .cases G
   .refine .inr ⟨b,p,cap,vs,T,fr,g1,λ_ h0=> ?_,g3,g4,g5,g6,g7⟩;rw[q1] at g1;simp only[Value.slice.injEq,Cr] at g1;rw[h0,F3] at g1;omega
 .cases h
def sU(n:Nat)(x:Int):List.replicate n [D.int .i64 x]=(List.replicate n x).map Ao:=by rw[List.map_replicate];rfl
def UX{k:Nat}{l:List Int}(h:l≠[]):Za (.sl false k (l.map Ao))=some l:=by
 cases l with
 |nil=>exact absurd rfl h
 |cons x r=>exact lH (x::r)
def dI(v:Int):D:= .int .i64 v
def rept.H0_dom(a:Int×Int)(j:Nat):An (rept.H0 a) j=true↔j<1:=by
 simp only[An,rept.H0,hget];by_cases h0:j=0
 .subst h0;simp
 .have z:(0==j)=false:=by simp;omega
  simp[z];omega
def revC.H0_dom(a:List Int)(j:Nat):An (revC.H0 a) j=true↔j<1:=by
 simp only[An,revC.H0,hget];by_cases h0:j=0
 .subst h0;simp
 .have z:(0==j)=false:=by simp;omega
  simp[z];omega
def CYc:Vt Tryz.prog 372=some 3:=by kernel_rfl
def wayC.rc:D->Option (List Int):=Za
def wayC.re:(List Int)->D:=λb=>D.sl true 1 (b.map Ao)
def wayC.rle: ∀d b,wayC.rc d=some b->Le d (wayC.re b):=Zb
def wayC.fv(a:Be×Int×Int):List Int:=(λx p q=>C8 x x.Room.length p q) (a.1) (a.2.1) (a.2.2)
def wayC.row:Ax:=Fv (b3 (qP 2 Be.d_le) qI qI) (RK.mk wayC.rc wayC.re wayC.rle) (λa=>JI a.1 a.1.Room.length/\a.1.Room.length<=1000/\0<=a.2.1/\a.2.1<a.1.Room.length/\0<=a.2.2/\a.2.2<a.1.Room.length) wayC.fv
def wayC.q:=CR (R:=wayC.row) rfl
def wayC.ok:AA 296 wayC.row:=by
 refine HJ (tC freeC.ok (tC rept.ok (tC revC.ok tN))) Tryz.func296 ?_;intro a ak;simp only[Tryz.f296];simp only[ZZ,simprocAttr,wayC.fv,wayC.rc];obtain⟨aj,hn,ad,af,am,ax⟩:=ak;obtain⟨x,hx⟩: ∃x,x=a.1:=⟨_,rfl⟩;obtain⟨p,hp⟩: ∃p,p=a.2.1:=⟨_,rfl⟩;obtain⟨q,hq⟩: ∃q,q=a.2.2:=⟨_,rfl⟩;obtain⟨n,hnn⟩: ∃n,n=x.Room.length:=⟨_,rfl⟩;simp only[<-hx,<-hp,<-hq,<-hnn] at aj hn ad af am ax⊢;intro bf;refine AE.os (-1,(n:Int)) [1] ⟨by simp only;omega,by simp only;omega⟩ (λj=>rept.H0_dom _ j) rfl rfl ?_ ?_
 .simp only[ZA,simprocAttr,Eb,rept.ca,rept.H0,Cz]
 simp only[ZA,simprocAttr,CYc,rept.H1,NM,dN,sU];refine⟨by omega,by omega,ad,af,by omega,λ_ _=> ?_⟩;refine AR.old ⟨{k:Nat//k<=(CZ x n p k).2.length},λk=>⟨[(9,.ch 22),(8,.own 2),(7,.im (.int .i64 n)),(0,.ptr 0 0),(1,.im (.int .i64 p)),(2,.im (.int .i64 q))],[(2,(true,.arr 3 1 ((CZ x n p k.1).1.map Ao))),(22,(true,.chan (((CZ x n p k.1).2.drop k.1).map dI) n)),(0,(false,.view [.sl false 1 (x.Room.map Du),.sl false 1 (x.Flow.map Du)]))],23⟩,λk=>n - k.1,λk=>⟨by simp[ZG],by simp⟩,⟨⟨0,by simp⟩,?_⟩,λk=> ?_⟩
 .simp only[ZA,simprocAttr,sub];simp[CZ,dI]
 obtain⟨k,hk⟩:=k;have Z:=QT (x:=x) ad af k;have bg:=Qr3 Z;simp only[ZA,simprocAttr,D.sc,D.scs,Bt,CYc,AM,Ch];refine⟨λav=> ?_,λav=> ?_⟩
 .have aw:k<(CZ x n p k).2.length:=by omega
  obtain⟨u,hu⟩: ∃u,(CZ x n p k).2[k]? =some u:=⟨_,Bd aw⟩;have a8:=Z.q u (AP hu);rw[E5 hu];refine⟨by simp,λd r ag=> ?_⟩;simp only[Bb,V7] at ag;obtain⟨rfl,rfl⟩:=ag;simp only[dI];obtain⟨s,hs⟩: ∃s,s=CZ x n p k:=⟨_,rfl⟩;simp only[<-hs] at hu Z⊢;refine AR.old ⟨{i:Nat//i<=n},λi=>⟨[(36,.im (.int .i64 i.1)),(35,.im (.int .i64 n)),(10,.im (.int .i64 u)),(9,.ch 22),(8,.own 2),(7,.im (.int .i64 n)),(0,.ptr 0 0),(1,.im (.int .i64 p)),(2,.im (.int .i64 q))],[(2,(true,.arr 3 1 ((CL x u s i.1).1.map Ao))),(22,(true,.chan (((CL x u s i.1).2.drop (k+1)).map dI) n)),(0,(false,.view [.sl false 1 (x.Room.map Du),.sl false 1 (x.Flow.map Du)]))],23⟩,λi=>n - i.1,λi=>⟨by simp[ZG],by simp⟩,⟨⟨0,by simp⟩,?_⟩,λi=> ?_⟩
  .simp only[ZA,simprocAttr,sub,CL]
  obtain⟨i,hi⟩:=i;obtain⟨hQ,e,he⟩:=tU Z hu i hi;have a9:=Qr3 hQ;have ay:=hQ.len;simp only[ZZ,simprocAttr,rch,freeC.q,freeC.fv,sub,AM,Ch,ay,dN];refine⟨λaq=>⟨by omega,by omega,λy hy=>⟨λO=>⟨⟨hnn▸aj,a8.1,by omega,by omega⟩,λhf=>⟨by omega,by omega,λy2 _=>⟨by omega,⟨i+1,by omega⟩,by simp only;omega,by rw[AB (by omega) (by omega)];simp only;omega,?_⟩⟩,λhf=>⟨⟨i+1,by omega⟩,by simp only;omega,by rw[AB (by omega) (by omega)];simp only;omega,?_⟩⟩,λO=>⟨⟨i+1,by omega⟩,by simp only;omega,by rw[AB (by omega) (by omega)];simp only;omega,?_⟩⟩⟩,λaq=> ?_⟩
  .have Q:CL x u s (i+1)=((CL x u s i).1.set i u,(CL x u s i).2++[(i:Int)]):=by
    rw[CL,Hf,Ai ⟨by rw[hy,AS];exact O,hf⟩]
   have bd:=(BJ.1 hu).1;simp only[Q];refine⟨trivial,?_⟩;rw[fF (by rw[he,BQ];omega),Ei];rfl
  .have Q:CL x u s (i+1)=CL x u s i:=by
    rw[CL,Hf,Ad (λh=>hf h.2)]
   simp only[Q];exact⟨trivial,trivial⟩
  .have Q:CL x u s (i+1)=CL x u s i:=by
    rw[CL,Hf,Ad (λh=>O (by have:=h.1;rw[hy,AS] at this;exact this))]
   simp only[Q];exact⟨trivial,trivial⟩
  .have au:i=n:=by omega
   have Q:CZ x n p (k+1)=CL x u s i:=by rw[CZ,<-hs,hu,au]
   refine⟨⟨k+1,by rw[Q,he,BQ];have:=(BJ.1 hu).1;omega⟩,by simp only;omega,?_⟩;simp only[Q];exact⟨trivial,trivial⟩
 .have be:(CZ x n p k).2.length=k:=by omega
  have hE:CZ x n p k=B2 x n p:=by
   have:=MW x n p (n - k) k (by omega)
   rw[show k+(n - k)=n by omega] at this;exact this.symm
  have ai:=Z.len;refine⟨am,by omega,by omega,λy hy=>⟨λO=> ?_,λO=> ?_⟩⟩
  .simp only[C8,<-hE,hy,AS];rw[Ai O];rfl
  have az:q∈(CZ x n p k).2:=by
   have:=(Z.mem q.toNat y hy).1 (by omega)
   rwa [show (q.toNat:Int)=q by omega] at this
  obtain⟨i,hi⟩:=GV.1 az;obtain⟨d,ba,ab,aa⟩:=Qq3 Z hi;have bb:=(BJ.1 hi).1;have a0:tF (CZ x n p k).1 p q n=d:=Qqr (by omega) ab aa;have hW:C8 x n p q=(HT (CZ x n p k).1 q d).reverse:=by
   simp only[C8,<-hE,hy,AS];rw[Ad O,a0]
  obtain⟨G,hpar⟩: ∃G,G=(CZ x n p k).1:=⟨_,rfl⟩;simp only[<-hpar] at ai ab aa hW⊢;refine AR.ren ⟨{j:Nat//j<=d},λj=>⟨[(13,.im (.int .i64 (D1 G q j.1))),(12,.own 24),(8,.own 2),(1,.im (.int .i64 p))],[(24,(true,.arr 3 1 ((HT G q j.1).map Ao))),(2,(true,.arr 3 1 (G.map Ao)))],25⟩,λj=>d - j.1,λj=>⟨by simp[ZG],by simp⟩,⟨⟨0,by omega⟩,[(24,some 23)],?_⟩,λj=> ?_⟩
  .simp only[Ak];simp only[ZA,simprocAttr,AL];exact⟨rfl,rfl⟩
  obtain⟨j,hj⟩:=j;have ao:(HT G q j).length=j+1:=by simp[HT]
  simp only[ZA,simprocAttr,Eb,AM,ao];refine⟨λac=> ?_,λac=> ?_⟩
  .have ah:j<d:=by
    rcases EI j d with h|h
    .exact h
    .exact absurd (by rw[show j=d by omega];exact ab) ac
   obtain⟨j2,g1,g2⟩:=rZ Z hi j (λj' bc=>by rw[<-hpar];exact aa j' (by omega));rw[<-hpar] at g2;have an:=Z.q _ (AP g2);refine⟨an.1,by omega,by omega,λz hz=>⟨by omega,⟨j+1,by omega⟩,[(24,some 26)],by simp only;omega,?_⟩⟩;have Q:D1 G q (j+1)=z:=by rw[D1,hz,AS]
   have e2:HT G q (j+1)=HT G q j++[z]:=by
    simp only[HT];rw[ZeD,Ei,Bb,Cs,Q]
   simp only[Ak];simp only[ZA,simprocAttr,AL,Q,e2,Ei]
  .have ah:j=d:=by
    have h1:=G8.1 ac;rcases EI j d with h|h
    .exact absurd h1 (aa j h)
    .omega
   subst ah;refine AE.os (HT G q j) [24] trivial (λi=>revC.H0_dom _ i) rfl rfl ?_ ?_
   .simp only[ZA,simprocAttr,Eb,revC.ca,revC.H0,Cz]
   .simp only[ZA,simprocAttr,Eb,D.sc,Fc,Bt,revC.H1,Cz];rw[hW];exact UX (by simp[HT])
end Go.Ae
