/- Lemmas. Conditions: none. -/
import Derived.Test.YtogafbdeamcpnaaGreatDoorP08
import Derived.Test.YtogafbdeamcpnaaGreatDoorChecked
import Derived.LaidEql
import Derived.Stop.Asserts
import Derived.RowKitTokens
import Derived.Stop.LaidTwo
import Derived.LaidMore
import Derived.LaidOnce
import Derived.ChangeVars
import Derived.ChangeSame
import Derived.Stop.LaidErr
import Derived.LaidMore
import Derived.Stop.Joined
set_option linter.all false
set_option maxHeartbeats 8000000
set_option maxRecDepth 100000
namespace Go.Ae
open Go Go.Proofs Go.RowKit Go.Extern.Stop Go.Stop Go.Extern
def rC(v:Value)(w:World):(Extern.ReflectliteType.typeOf #[.iface 392 v]).run Tryz.prog w= .ok (.iface 264 (.agg #[.pointer (some ⟨2,392,none⟩)])) w:=by kernel_rfl
def gY:Array Value->Sem Value:=Extern.ReflectliteType.method λt=>do Extern.Rtype.noPackHeld "Comparable" t;pure (.bool (<-typeInfo t).comparable)
def rP(w:World):(gY #[.agg #[.pointer (some ⟨2,392,none⟩)]]).run Tryz.prog w= .ok (.bool true) w:=by kernel_rfl
def rD(v:Value)(w:World):(Go.method 534 264 v "Comparable").run Tryz.prog w= .ok (323,v) w:=by kernel_rfl
def LD:(Tryz.prog.info? 392).map (·.comparable)=some true:=by kernel_rfl
def LF:(Tryz.prog.info? 419).map (·.size)=some 1:=by kernel_rfl
def XI(v:Value)(z:TypeId)(w:World):(Instr.typeAssert (.iface 392 v) z 266 true).run Tryz.prog w= .ok (.tuple #[.nilIface,.bool false]) w:=run_typeAssert_lacksB Tryz.underlying266 (by kernel_rfl) (by kernel_rfl) v z w
def Qaoa(v:Value)(z:TypeId)(w:World):(Instr.typeAssert (.iface 392 v) z 269 true).run Tryz.prog w= .ok (.tuple #[.nilIface,.bool false]) w:=run_typeAssert_lacksB Tryz.underlying269 (by kernel_rfl) (by kernel_rfl) v z w
def Qan5(v:Value)(z:TypeId)(w:World):(Instr.typeAssert (.iface 392 v) z 271 true).run Tryz.prog w= .ok (.tuple #[.nilIface,.bool false]) w:=run_typeAssert_lacksB Tryz.underlying271 (by kernel_rfl) (by kernel_rfl) v z w
def XJ(a:Addr)(w:World):Calls Tryz.prog 110 #[.iface 392 (.pointer (some a)),.iface 392 (.pointer (some a))] w λe w'=>e= .returned (.bool true)/\w'=w:=by
 obtain⟨i,Q,z⟩:=D4.1 LD;obtain⟨j,Z,aa⟩:=D4.1 LF;have h8:= @run_callFunc_extern Tryz.prog 157 _ Extern.ReflectliteType.typeOf Tryz.func157 (by kernel_rfl) (by kernel_rfl) (by kernel_rfl) (by kernel_rfl);have G:= @run_callFunc_extern Tryz.prog 323 _ gY Tryz.func323 (by kernel_rfl) (by kernel_rfl) (by kernel_rfl) (by kernel_rfl);have tT:=rC;have cT:=rP;have mR:=rD;have O:=run_eql_iface_ptr_same (P:=Tryz.prog) w a Tryz.underlying164 Tryz.underlying392 Q z Z
 go_enter Tryz.func110,Tryz.ntmps110
 go_wp2
 refine wp_loop_rounds 1 ?_;rw[rounds_succ]
 go_wp2
 go_ret
 exact⟨rfl,rfl⟩
def iD(b:Addr)(w:World):Calls Tryz.prog 110 #[.nilIface,.iface 392 (.pointer (some b))] w λe w'=>e= .returned (.bool false)/\w'=w:=by
 have hn:=run_eql_iface_nil_left (P:=Tryz.prog) w 392 (.pointer (some b)) Tryz.underlying164
 go_enter Tryz.func110,Tryz.ntmps110
 go_wp2
 go_ret
 exact⟨rfl,rfl⟩
def Sk(a b:Addr)(ca Q:Array Value)(ta tb:TypeId)(w:World)(O:a≠b)(ha:w.heap[a.block]? =some (.cells ca ta (0,0)))(hb:w.heap[b.block]? =some (.cells Q tb (0,0))):
 Calls Tryz.prog 110 #[.iface 392 (.pointer (some a)),.iface 392 (.pointer (some b))] w λe w'=>e= .returned (.bool false)/\w'=w:=by
 obtain⟨i,hi,z⟩:=D4.1 LD;obtain⟨j,hj,G⟩:=D4.1 LF;have h8:= @run_callFunc_extern Tryz.prog 157 _ Extern.ReflectliteType.typeOf Tryz.func157 (by kernel_rfl) (by kernel_rfl) (by kernel_rfl) (by kernel_rfl);have Z:= @run_callFunc_extern Tryz.prog 323 _ gY Tryz.func323 (by kernel_rfl) (by kernel_rfl) (by kernel_rfl) (by kernel_rfl);have tT:=rC;have cT:=rP;have mR:=rD;have nE:=XI;have uE:=Qaoa;have vE:=Qan5;have aa:=run_eql_iface_ptr_other (P:=Tryz.prog) w Tryz.underlying164 Tryz.underlying392 hi z hj (by rw[G];decide) O ha hb
 go_enter Tryz.func110,Tryz.ntmps110
 go_wp2
 refine wp_loop_rounds 1 ?_;rw[rounds_succ]
 go_wp2
 go_ret
 exact⟨rfl,rfl⟩
def NU(K:Ah):List AV->Prop
 |[.im .nili,.im (.tok g)]=>Mg g=true/\K (.im (.bool false)) {}
 |[.im (.tok a),.im (.tok g)]=>Mg a=true/\Mg g=true/\K (.im (.bool (a==g))) {}
 |_=>False
def errIs.row:AA:=λargs _ _ K=>NU K args
def errIs.q(args:List AV)(h:Nat->Option Au)(nx:Nat)(K:Ah):errIs.row args h nx K=NU K args:=rfl
def dR{ok:Nat->Prop}{hp:Nat->Option Obj}{g:Nat}{a:Addr}{v:Value}(h:GE ok hp g a)(O:rd ok hp (.tok g) v):v= .iface 392 (.pointer (some a)):=by
 simp only[rd] at O;obtain⟨_,_,T,fr,Z⟩:=O;obtain⟨_,⟨T2,Q,z⟩,_⟩:=h;rw[Z] at z;have G:=AD z;simp only[Obj.cells.injEq] at G;simpa using G.1
def errIs.ok:AB Tryz.prog 110 errIs.row:=by
 intro args h nx K G;have hE: ∀S:A9,S.h=({}:Br).appf S.h:=λS=>by funext m;simp[Br.appf,hget]
 rw[errIs.q] at G;unfold NU at G;split at G
 .rename_i g;obtain⟨hg,hK⟩:=G;refine⟨Oa (by kernel_rfl),_,_,?_,hK⟩;intro C S vs R hW ad Q Z z O;simp only[AN,Aa] at z;obtain⟨v0,r0,hv,h0,v1,r1,aa,h1,ab⟩:=z;obtain⟨a,ga,gn⟩:=hW.gp;have e1:=dR (ga g hg) h1;simp only[rd] at h0;subst ab aa e1 h0;have ac:vs= #[.nilIface,.iface 392 (.pointer (some (a g)))]:=by apply Oo;simpa using hv
  subst ac;refine (iD (a g) S.w).mono ?_;rintro e w' ⟨rfl,rfl⟩;exact O _ S hW (hE S) (B3.refl _ _) (by simp only[Aa,rd])
 .rename_i b g;obtain⟨hb,hg,hK⟩:=G;refine⟨Oa (by kernel_rfl),_,_,?_,hK⟩;intro C S vs R hW ad Q Z z O;simp only[AN,Aa] at z;obtain⟨v0,r0,hv,h0,v1,r1,aa,h1,ab⟩:=z;obtain⟨a,ga,gn⟩:=hW.gp;have e1:=dR (ga g hg) h1;have e0:=dR (ga b hb) h0;subst ab aa e1 e0;have ac:vs= #[.iface 392 (.pointer (some (a b))),.iface 392 (.pointer (some (a g)))]:=by apply Oo;simpa using hv
  subst ac;by_cases c:b=g
  .subst c;refine (XJ (a b) S.w).mono ?_;rintro e w' ⟨rfl,rfl⟩;exact O _ S hW (hE S) (B3.refl _ _) (by simp only[Aa,rd,vO])
  .obtain⟨_,_,_,cb,tb,k1⟩:=ga b hb;obtain⟨_,_,_,cg,tg,k2⟩:=ga g hg;refine (Sk (a b) (a g) cb cg tb tg S.w (gn b g hb hg c) k1 k2).mono ?_;rintro e w' ⟨rfl,rfl⟩;exact O _ S hW (hE S) (B3.refl _ _) (by simp only[Aa,rd];simp[c])
 .exact G.elim
end Go.Ae
namespace Go.Ae
open Go Go.Proofs Go.RowKit Go.ChangeShapes Go.WideShapes
abbrev Ka:List (String×DataW Unit):=[("loop.example/g01081/impl.errTerminal",Go.Proofs.YtogafbdeamcpnaaGreatDoor.Rows.laid_loop_example_g01081_impl_errTerminal),("loop.example/g01081/impl.errNoSpace",Go.Proofs.YtogafbdeamcpnaaGreatDoor.Rows.laid_loop_example_g01081_impl_errNoSpace)]
def gT:Tryz.prog.globalNamed "loop.example/g01081/impl.errTerminal" =some 0:=by kernel_rfl
def gN:Tryz.prog.globalNamed "loop.example/g01081/impl.errNoSpace" =some 1:=by kernel_rfl
def gTt:(Tryz.prog.globals[0]?).map (·.type)=some 164:=by kernel_rfl
def gNt:(Tryz.prog.globals[1]?).map (·.type)=some 164:=by kernel_rfl
def bO: "*" ++ "errors.errorString" = "*errors.errorString" :=by decide
def xV(u:TypeId)(h:Tryz.prog.typeName? 3 u=some "*errors.errorString"):u=392:=
 typeName_ptr_named (nm:= "errors.errorString") (by rw[bO];kernel_rfl) (by kernel_rfl) (by decide) u (by rw[bO];exact h)
def dQ{W:World}{n:String}{g:Nat}{cs:Array Value}(G:Tryz.prog.globalNamed n=some g)(h:W.var? Tryz.prog n=some cs): ∃T z,W.heap[g]? =some (.cells cs T z):=by
 unfold World.var? at h;rw[G] at h;simp only[Eg] at h;split at h
 .rename_i c T z e;obtain rfl:=AD h;exact⟨T,z,e⟩
 .cases h
def QM{W:World}{b:Nat}{o:Obj}(h:W.heap[b]? =some o):b<W.heap.size:=(Rm.1 h).1
def Yk{W:World}(h:laidMetH Tryz.prog Ka W):GP (λb=>b<W.heap.size) (λb=>W.heap[b]?):=by
 rw[MakeChecks.laidMetH_plain _ _ _ (by kernel_rfl)] at h;obtain⟨a0,a1,s0,s1,c0,c1,t0,t1,aa,ab,ac,af,ah,ad,ag,ai,Z,z,G⟩:=laid_sentinels2 h gT gTt gN gNt Tryz.underlying164 xV Tryz.underlying392 Tryz.underlying419 rfl rfl Tryz.underlying9 (by kernel_rfl) (by kernel_rfl);obtain⟨T0,f0,g0⟩:=dQ gT aa;obtain⟨T1,f1,g1⟩:=dQ gN ab;refine⟨λg=>if g=0 then a0 else a1,λg O=> ?_,λg g' O Q hn=> ?_⟩
 .simp only[Mg,Hd,Qu] at O;rcases O with rfl|rfl
  .exact⟨QM g0,⟨T0,f0,g0⟩,QM z,c0,t0,z⟩
  .exact⟨QM g1,⟨T1,f1,g1⟩,QM G,c1,t1,G⟩
 .simp only[Mg,Hd,Qu] at O Q;rcases O with rfl|rfl<;>rcases Q with rfl|rfl
  .exact absurd rfl hn
  .exact Z
  .exact λe=>Z e.symm
  .exact absurd rfl hn
abbrev yF:List String:=["loop.example/g01081/impl.errTerminal", "loop.example/g01081/impl.errNoSpace"]
def PT{H:Type}{enc:TypeId×Value->H}{W:World}{sp:Nat->Bool}{gs:List (DataW H)}{q:List MemPlace}(h:laidMetH Tryz.prog Ka W)(hV:DataW.TrodVars enc Tryz.prog W sp yF gs q):
 ∃O Q:Value,IsIface O/\IsIface Q/\W.var? Tryz.prog "loop.example/g01081/impl.errTerminal" =some #[O]/\W.var? Tryz.prog "loop.example/g01081/impl.errNoSpace" =some #[Q]/\gs=[tok enc O,tok enc Q]/\q=[.cell 0 0,.cell 1 0]:=by
 rw[MakeChecks.laidMetH_plain _ _ _ (by kernel_rfl)] at h;obtain⟨Z,a1,s0,s1,c0,c1,t0,t1,z,G,_⟩:=laid_sentinels2 h gT gTt gN gNt Tryz.underlying164 xV Tryz.underlying392 Tryz.underlying419 rfl rfl Tryz.underlying9 (by kernel_rfl) (by kernel_rfl);obtain⟨r1,r2⟩:=hV.unique (vars_read2 enc gT gTt Tryz.underlying164 z trivial gN gNt Tryz.underlying164 G trivial _);exact⟨.iface _ (.pointer (some Z)),.iface _ (.pointer (some a1)),trivial,trivial,z,G,r1,r2⟩
def rE{W W':World}(O:Below W.heap.size W W'){n:String}{g:Nat}{cs:Array Value}(z:Tryz.prog.globalNamed n=some g)(h:W.var? Tryz.prog n=some cs):W'.var? Tryz.prog n=some cs:=by
 obtain⟨T,Q,e⟩:=dQ z h;have G:=(O.block g (QM e)).trans e;unfold World.var?;rw[z];simp only[Eg,G]
def Zv{H:Type}(enc:TypeId×Value->H){W W':World}(O:Below W.heap.size W W'){z G:Value}(i0:IsIface z)(i1:IsIface G)(h0:W.var? Tryz.prog "loop.example/g01081/impl.errTerminal" =some #[z])(Z:W.var? Tryz.prog "loop.example/g01081/impl.errNoSpace" =some #[G])(Q:Nat->Bool):
 DataW.TrodVars enc Tryz.prog W' Q yF [tok enc z,tok enc G] [.cell 0 0,.cell 1 0]:=
 vars_read2 enc gT gTt Tryz.underlying164 (rE O gT h0) i0 gN gNt Tryz.underlying164 (rE O gN Z) i1 Q
def RZ(os:Os)(args:Array Value):laidMetH Tryz.prog Ka ((World.doorLaid Tryz.prog 47 os).forCall (λ_ _=>0) ⟨#[],args,[]⟩).memory:=
 laidMetH_of_parts3 (fuel:=8) (laidMet_of_run' 8 (by kernel_rfl) (by kernel_rfl)) (by kernel_rfl) (by kernel_rfl)
end Go.Ae
namespace Go.Ae
open Go.Proofs
def eM(p:Ab)(k:Int):Ab×Ab:=(⟨p.X/k,p.Y/k⟩,⟨p.X % k,p.Y % k⟩)
def l02Index.fv(a:AC×Int):Bool:=(λs t=>Bj t 0 (s.Tiles.length - 1)) (a.1) (a.2)
def l02Index.row:AA:=vK (b2 (qP 2 AC.d_le) qI) rB (λa=>True) l02Index.fv
def l02Index.q:=AT (R:=l02Index.row) rfl
def l02Index.ok:AB Tryz.prog 178 l02Index.row:=by
 refine vw (tC l00In.ok tN) Tryz.func178 rfl (by kernel_rfl) ?_;intro a z;simp only[Tryz.f178];simp(disch:=omega)only[ZA,simprocAttr,l02Index.fv,l00In.q,l00In.fv];intro h;rw[AG (by omega) (by omega)]
def isTile.fv(a:AC×Int):Bool:=(λs t=>Bj t 0 (s.Tiles.length - 1)) (a.1) (a.2)
def isTile.row:AA:=vK (b2 (qR AC.d_le) qI) rB (λa=>True) isTile.fv
def isTile.q:=AT (R:=isTile.row) rfl
def isTile.ok:AB Tryz.prog 220 isTile.row:=by
 refine vw (tC isIndex.ok tN) Tryz.func220 rfl (by kernel_rfl) ?_;intro a z;simp only[Tryz.f220];simp(disch:=omega)only[ZA,simprocAttr,isTile.fv,isIndex.q,isIndex.fv];intro h;simp only[I64];omega
def opposite_.fv(a:Int):Int:=(λd=>(d+2) % 4) a
def opposite_.row:AA:=vK (b1 qI) rI (λa=>0<=a/\a<=3) opposite_.fv
def opposite_.q:=AT (R:=opposite_.row) rfl
def opposite_.ok:AB Tryz.prog 248 opposite_.row:=by
 refine vw tN Tryz.func248 rfl (by kernel_rfl) ?_;intro a z;simp only[Tryz.f248];simp(disch:=omega)only[ZA,simprocAttr,opposite_.fv];rw[AG (by omega) (by omega)]
 have:(0:Int)<=a+2:=by omega
 rw[fX this]
def l01Dir.fv(a:Int):Bool:=(λd=>Bj d 0 3) a
def l01Dir.row:AA:=vK (b1 qI) rB (λa=>True) l01Dir.fv
def l01Dir.q:=AT (R:=l01Dir.row) rfl
def l01Dir.ok:AB Tryz.prog 209 l01Dir.row:=by
 refine vw (tC l00In.ok tN) Tryz.func209 rfl (by kernel_rfl) ?_;intro a z;simp only[Tryz.f209];simp(disch:=omega)only[ZA,simprocAttr,l01Dir.fv,l00In.q,l00In.fv]
def Opposite_.fv(a:Int):Int:=(λd=>(d+2) % 4) a
def Opposite_.row:AA:=vK (b1 qI) rI (λa=>0<=a/\a<=3) Opposite_.fv
def Opposite_.q:=AT (R:=Opposite_.row) rfl
def Opposite_.ok:AB Tryz.prog 171 Opposite_.row:=by
 refine vw (tC l01Dir.ok tN) Tryz.func171 rfl (by kernel_rfl) ?_;intro a z;simp only[Tryz.f171];simp(disch:=omega)only[ZA,simprocAttr,Opposite_.fv,l01Dir.q,l01Dir.fv];have h:Bj a 0 3=true:=by simp[Bj,z]
 rw[h,Af (by simp),AG (by omega) (by omega)]
 have:(0:Int)<=a+2:=by omega
 rw[fX this]
def l07Temperature.fv(a:Int):Bool:=(λt=>Bj t 1 16) a
def l07Temperature.row:AA:=vK (b1 qI) rB (λa=>True) l07Temperature.fv
def l07Temperature.q:=AT (R:=l07Temperature.row) rfl
def l07Temperature.ok:AB Tryz.prog 166 l07Temperature.row:=by
 refine vw (tC l00In.ok tN) Tryz.func166 rfl (by kernel_rfl) ?_;intro a z;simp only[Tryz.f166];simp(disch:=omega)only[ZA,simprocAttr,l07Temperature.fv,l00In.q,l00In.fv]
def isTemperature.fv(a:Int):Bool:=(λt=>Bj t 1 16) a
def isTemperature.row:AA:=vK (b1 qI) rB (λa=>True) isTemperature.fv
def isTemperature.q:=AT (R:=isTemperature.row) rfl
def isTemperature.ok:AB Tryz.prog 210 isTemperature.row:=by
 refine vw (tC within_.ok tN) Tryz.func210 rfl (by kernel_rfl) ?_;intro a z;simp only[Tryz.f210];simp(disch:=omega)only[ZA,simprocAttr,isTemperature.fv,within_.q,within_.fv]
def BF(s:AC):Prop:=s.Glues.length<=140737488355328/\(∀t∈s.Tiles,t.Sides.length=4/\ ∀g∈t.Sides,0<=g/\g<=s.Glues.length)/\ ∀g∈s.Glues,1<=g.Strength/\g.Strength<=4
def Kj(s:AC)(z G:Int):Int:=((((s.Tiles[z.toNat]?).map Tile.Sides).getD [])[G.toNat]?).getD 0
def Qc(s:AC)(g:Int):Int:=if 0<g then ((s.Glues[(g - 1).toNat]?).map Ar.Strength).getD 0 else 0
def Gk(s:AC)(a z b:Int):Int:=if Kj s a z=Kj s b ((z+2) % 4) then Qc s (Kj s a z) else 0
def FR(s:AC)(t:Int):Prop:=0<=t/\t<s.Tiles.length
def RY(d:Int):Prop:=0<=d/\d<=3
def fJ{s:AC}{t d:Int}{x:Tile}{g:Int}(G:s.Tiles[t.toNat]? =some x)(z:x.Sides[d.toNat]? =some g):Kj s t d=g:=by
 simp[Kj,G,z]
def LU{s:AC}{g:Int}{x:Ar}(h:0<g)(z:s.Glues[(g - 1).toNat]? =some x):Qc s g=x.Strength:=by
 simp only[Qc,An h,z];rfl
def LV{s:AC}{g:Int}(h: ¬0<g):Qc s g=0:=by
 simp[Qc,h]
def sV{s:AC}(h:BF s){t:Int}{x:Tile}(z:s.Tiles[t.toNat]? =some x):x.Sides.length=4:=(h.2.1 x (AZ z)).1
def Qvv{s:AC}(h:BF s){t d:Int}{x:Tile}{g:Int}(G:s.Tiles[t.toNat]? =some x)(z:x.Sides[d.toNat]? =some g):0<=g/\g<=s.Glues.length:=(h.2.1 x (AZ G)).2 g (AZ z)
def l02Strength.fv(a:AC×Int):Int:=(Qc) (a.1) (a.2)
def l02Strength.row:AA:=vK (b2 (qP 2 AC.d_le) qI) rI (λa=>0<=a.2/\a.2<=a.1.Glues.length/\a.1.Glues.length<=140737488355328) l02Strength.fv
def l02Strength.q:=AT (R:=l02Strength.row) rfl
def l02Strength.ok:AB Tryz.prog 172 l02Strength.row:=by
 refine vw tN Tryz.func172 rfl (by kernel_rfl) ?_;intro a z;simp only[Tryz.f172];simp(disch:=omega)only[ZA,simprocAttr,l02Strength.fv];obtain⟨O,Q,Z⟩:=z
 split<;>rename_i h
 .simp[Qc,h]
 .rw[AG (by omega) (by omega)];exact⟨by omega,by omega,λx G=>(LU (by omega) G).symm⟩
def strength_.fv(a:AC×Int×Int):Int:=(λs t d=>Qc s (Kj s t d)) (a.1) (a.2.1) (a.2.2)
def strength_.row:AA:=vK (b3 (qR AC.d_le) qI qI) rI (λa=>BF a.1/\FR a.1 a.2.1/\RY a.2.2) strength_.fv
def strength_.q:=AT (R:=strength_.row) rfl
def strength_.ok:AB Tryz.prog 249 strength_.row:=by
 refine vw tN Tryz.func249 rfl (by kernel_rfl) ?_;intro a z;simp only[Tryz.f249];simp(disch:=omega)only[ZA,simprocAttr,strength_.fv];obtain⟨G,Q,Z⟩:=z;refine⟨Q.1,Q.2,λx O=>⟨Z.1,?_,λg hg=> ?_⟩⟩
 .rw[sV G O];have:=Z.2;omega
 .have aa:=Qvv G O hg
  have:=G.1
  rw[fJ O hg]
  split<;>rename_i h
  .rw[AG (by omega) (by omega)];exact⟨by omega,by omega,λy hy=>(LU h hy).symm⟩
  .exact (LV h).symm
def bond_.rc:D->Option (Int):=DJ
def bond_.re:Int->D:=D.int .i64
def bond_.rle: ∀d b,bond_.rc d=some b->Le d (bond_.re b):=N7
def bond_.fv(a:AC×Int×Int×Int):Int:=(Gk) (a.1) (a.2.1) (a.2.2.1) (a.2.2.2)
def bond_.row:AA:=vK (b4 (qR AC.d_le) qI qI qI) (RK.mk bond_.rc bond_.re bond_.rle) (λa=>BF a.1/\FR a.1 a.2.1/\RY a.2.2.1/\FR a.1 a.2.2.2) bond_.fv
def bond_.q:=AT (R:=bond_.row) rfl
def bond_.ok:AB Tryz.prog 213 bond_.row:=by
 refine vw (tC opposite_.ok (tC strength_.ok tN)) Tryz.func213 rfl (by kernel_rfl) ?_;intro a G;simp only[Tryz.f213];simp(disch:=omega)only[ZA,simprocAttr,bond_.fv,bond_.rc,opposite_.q,opposite_.fv,strength_.q,strength_.fv];obtain⟨O,Q,z,h4⟩:=G;have h5:=z.1;have h6:=z.2;refine⟨Q.1,Q.2,λx hx=>⟨z.1,by rw[sV O hx];omega,λg hg=>⟨h4.1,h4.2,λy hy=>⟨z,by omega,by rw[sV O hy];omega,λg' Z=> ?_⟩⟩⟩⟩;simp only[Gk,fJ hx hg,fJ hy Z];split
 .exact⟨⟨O,Q,z⟩,rfl⟩
 .rfl
def l02Bond.fv(a:AC×Int×Int×Int):Int:=(Gk) (a.1) (a.2.1) (a.2.2.1) (a.2.2.2)
def l02Bond.row:AA:=vK (b4 (qP 2 AC.d_le) qI qI qI) rI (λa=>BF a.1/\FR a.1 a.2.1/\RY a.2.2.1/\FR a.1 a.2.2.2) l02Bond.fv
def l02Bond.q:=AT (R:=l02Bond.row) rfl
def l02Bond.ok:AB Tryz.prog 169 l02Bond.row:=by
 refine vw (tC Opposite_.ok (tC l02Strength.ok tN)) Tryz.func169 rfl (by kernel_rfl) ?_;intro a O;simp only[Tryz.f169];simp(disch:=omega)only[ZA,simprocAttr,l02Bond.fv,Opposite_.q,Opposite_.fv,l02Strength.q,l02Strength.fv];obtain⟨z,h2,Q,h4⟩:=O;have h5:=Q.1;have h6:=Q.2;refine⟨h2.1,h2.2,λx hx=>⟨Q.1,by rw[sV z hx];omega,λg hg=>⟨h4.1,h4.2,λy hy=>⟨Q,by omega,by rw[sV z hy];omega,λg' Z=> ?_⟩⟩⟩⟩;have G:=Qvv z hx hg
 have:=z.1
 simp only[Gk,fJ hx hg,fJ hy Z]
 split<;>rename_i h
 .first|rw[Af h]|rfl
 .rw[An (FX.1 h)];exact⟨⟨G.1,G.2,z.1⟩,rfl⟩
def Dl:Option Ab->List Al->Bool
 |_,[]=>true
 |q,x::r=>E3 x.At && (Bj x.Tile 0 159 && ((match q with|none=>true|some p=>Bt p x.At) && Dl (some x.At) r))
def PY(q:Option Ab)(x:Al)(r:List Al):Dl q (x::r)=(E3 x.At && (Bj x.Tile 0 159 && ((match q with|none=>true|some p=>Bt p x.At) && Dl (some x.At) r))):=by cases q<;>rfl
def sU(q:Option Ab):Dl q []=true:=by cases q<;>rfl
def GB(l:List Al)(k:Nat):Option Ab:=if k=0 then none else (l[k - 1]?).map (·.At)
def Qn2{l:List Al}{k:Nat}{x:Al}(z:l[k]? =some x):GB l (k+1)=some x.At:=by
 simp[GB,z]
def EW{A:Type}{l:List A}{k:Nat}{x:A}(z:l[k]? =some x):l.drop k=x::l.drop (k+1):=by
 have G:k<l.length:=(Ce.1 z).1;rw[VK G];rw[Bk G] at z;rw[AD z]
def hasForm_.fv(a:Ak):Bool:=(λa=>Dl none a.Tiles && decide (a.Tiles.length<=500)) a
def hasForm_.row:AA:=vK (b1 (qR Ak.d_le)) rB (λa=>True) hasForm_.fv
def hasForm_.q:=AT (R:=hasForm_.row) rfl
def hasForm_.ok:AB Tryz.prog 191 hasForm_.row:=by
 refine vw (tC ValidPoint.ok (tC isIndex.ok (tC impl_LessPoint.ok tN))) Tryz.func191 rfl (by kernel_rfl) ?_;intro a ab;simp only[Tryz.f191];simp(disch:=omega)only[ZA,simprocAttr,hasForm_.fv];intro aa;refine AP.old ⟨{k:Nat//k<=a.Tiles.length/\Dl (GB a.Tiles k) (a.Tiles.drop k)=Dl none a.Tiles},λk=>⟨[(8,.im (.int .i64 k.1)),(7,.im (.int .i64 a.Tiles.length)),(6,.im (.sl false 3 (a.Tiles.map Al.c))),(1,.ptr 0 0),(2,.im (.bool false))],[(0,(true,.cells 39 [.im (.sl false 3 (a.Tiles.map Al.c))]))],1⟩,λk=>a.Tiles.length - k.1,λk=>⟨by simp[Ai.good,Am,Ac,A8,AV.bel,Aq],AQ _⟩,⟨⟨0,by simp[GB]⟩,by simp(disch:=omega)only[ZA,simprocAttr,sub]⟩,λk=> ?_⟩;obtain⟨k,ac,G⟩:=k;simp(disch:=omega)only[ZA,simprocAttr,ValidPoint.q,ValidPoint.fv,isIndex.q,isIndex.fv,impl_LessPoint.q,impl_LessPoint.fv,sub,AO];refine⟨λhk=>⟨hk,λx hx=> ?_⟩,λhk=> ?_⟩
 .rw[EW hx,PY] at G;have O:(E3 x.At && (Bj x.Tile 0 159 && (match GB a.Tiles k with|none=>true|some p=>Bt p x.At)))=false->false=(Dl none a.Tiles && decide (a.Tiles.length<=500)):=by
   intro h;rw[<-G];revert h;cases E3 x.At<;>cases Bj x.Tile 0 159<;>cases (match GB a.Tiles k with|none=>true|some p=>Bt p x.At)<;>simp
  have z:(E3 x.At && (Bj x.Tile 0 159 && (match GB a.Tiles k with|none=>true|some p=>Bt p x.At)))=true->Dl (GB a.Tiles (k+1)) (a.Tiles.drop (k+1))=Dl none a.Tiles:=by
   intro h;rw[<-G,Qn2 hx];simp only[AS] at h;simp[h.1,h.2.1,h.2.2]
  refine⟨λQ=>⟨by simp[I64],⟨λZ=>⟨λh3=> ?_,λh3=> ?_⟩,λZ=>O (by simp[Z])⟩⟩,λQ=>O (by simp[Q])⟩
  .rw[AG (x:=(k:Int) - 1) (by omega) (by omega)];refine⟨by omega,by omega,λy hy=> ?_⟩;have hp:GB a.Tiles k=some y.At:=by
    have e:((k:Int) - 1).toNat=k - 1:=by omega
    rw[e] at hy;simp[GB,hy,show k≠0 by omega]
   rw[hp] at O z;exact⟨λh4=>O (by simp[h4]),λh4=>Gi hk (by omega) ⟨by omega,z (by simp[Q,Z];simpa using h4)⟩⟩
  .have hp:GB a.Tiles k=none:=by simp[GB,show k=0 by omega]
   rw[hp] at z;exact Gi hk (by omega) ⟨by omega,z (by simp[Q,Z])⟩
 .rw[Dr (by omega),sU] at G;simp only[<-G,Eb]
  grind
def l03Form.fv(a:Ak):Bool:=(λa=>Dl none a.Tiles && decide (a.Tiles.length<=500)) a
def l03Form.row:AA:=vK (b1 (qP 1 Ak.d_le)) rB (λa=>True) l03Form.fv
def l03Form.q:=AT (R:=l03Form.row) rfl
def l03Form.ok:AB Tryz.prog 188 l03Form.row:=by
 refine vw (tC l01Point.ok (tC l00In.ok (tC l_LessPoint.ok tN))) Tryz.func188 rfl (by kernel_rfl) ?_;intro a ab;simp only[Tryz.f188];simp(disch:=omega)only[ZA,simprocAttr,l03Form.fv];intro aa;simp only[AO];refine⟨λh=> ?_,λh=> ?_⟩
 .have: ¬a.Tiles.length<=500:=by omega
  simp[this]
 refine AP.old ⟨{k:Nat//k<=a.Tiles.length/\Dl (GB a.Tiles k) (a.Tiles.drop k)=Dl none a.Tiles},λk=>⟨[(3,.im (.int .i64 k.1)),(0,.ptr 0 0),(2,.im (.bool false))],[(0,(false,.view [.sl false 3 (a.Tiles.map Al.c)]))],1⟩,λk=>a.Tiles.length - k.1,λk=>⟨by simp[Ai.good,Am,Ac,A8,AV.bel],AQ _⟩,⟨⟨0,by simp[GB]⟩,by simp(disch:=omega)only[ZA,simprocAttr,sub]⟩,λk=> ?_⟩;obtain⟨k,ac,G⟩:=k;simp(disch:=omega)only[ZA,simprocAttr,l01Point.q,l01Point.fv,l00In.q,l00In.fv,l_LessPoint.q,l_LessPoint.fv,sub,AO];intro _;refine⟨λhk=>⟨hk,λx hx=> ?_⟩,λhk=> ?_⟩
 .rw[EW hx,PY] at G;have O:(E3 x.At && (Bj x.Tile 0 159 && (match GB a.Tiles k with|none=>true|some p=>Bt p x.At)))=false->false=(Dl none a.Tiles && decide (a.Tiles.length<=500)):=by
   intro h;rw[<-G];revert h;cases E3 x.At<;>cases Bj x.Tile 0 159<;>cases (match GB a.Tiles k with|none=>true|some p=>Bt p x.At)<;>simp
  have z:(E3 x.At && (Bj x.Tile 0 159 && (match GB a.Tiles k with|none=>true|some p=>Bt p x.At)))=true->Dl (GB a.Tiles (k+1)) (a.Tiles.drop (k+1))=Dl none a.Tiles:=by
   intro h;rw[<-G,Qn2 hx];simp only[AS] at h;simp[h.1,h.2.1,h.2.2]
  refine⟨λQ=>⟨λZ=>⟨λh3=> ?_,λh3=> ?_⟩,λZ=>O (by simp[Z])⟩,λQ=>O (by simp[Q])⟩
  .rw[AG (x:=(k:Int) - 1) (by omega) (by omega)];refine⟨by omega,by omega,λy hy=> ?_⟩;have hp:GB a.Tiles k=some y.At:=by
    have e:((k:Int) - 1).toNat=k - 1:=by omega
    rw[e] at hy;simp[GB,hy,show k≠0 by omega]
   rw[hp] at O z;exact⟨λh4=>O (by simp[h4]),λh4=>Gi hk (by omega) ⟨by omega,z (by simp[Q,Z];simpa using h4)⟩⟩
  .have hp:GB a.Tiles k=none:=by simp[GB,show k=0 by omega]
   rw[hp] at z;exact Gi hk (by omega) ⟨by omega,z (by simp[Q,Z])⟩
 .rw[Dr (by omega),sU] at G;simp only[<-G,Eb]
  grind
def Bs{A:Type}(p:A->Bool):Nat->List A->Int
 |_,[]=> -1
 |i,x::r=>if p x=true then i else Bs p (i+1) r
def l02Glue.fv(a:AC×ByteArray):Int:=(λs n=>Bs (λg=>decide (g.Name=n)) 0 s.Glues+1) (a.1) (a.2)
def l02Glue.row:AA:=vK (b2 (qP 2 AC.d_le) qT) rI (λa=>True) l02Glue.fv
def l02Glue.q:=AT (R:=l02Glue.row) rfl
def l02Glue.ok:AB Tryz.prog 204 l02Glue.row:=by
 refine vw tN Tryz.func204 rfl (by kernel_rfl) ?_;intro a O;simp only[Tryz.f204];simp(disch:=omega)only[ZA,simprocAttr,l02Glue.fv];refine AP.old ⟨{k:Nat//k<=a.1.Glues.length/\Bs (λg:Ar=>decide (g.Name=a.2)) k (a.1.Glues.drop k)=Bs (λg:Ar=>decide (g.Name=a.2)) 0 a.1.Glues},λk=>⟨[(5,.im (.int .i64 k.1)),(4,.im (.int .i64 0)),(0,.ptr 0 0),(1,.im (.str a.2))],[(0,(false,.view [.sl false 2 (a.1.Glues.map Ar.c),.sl false 2 (a.1.Tiles.map Tile.c)]))],1⟩,λk=>a.1.Glues.length - k.1,λk=>⟨by simp[Ai.good,Am,Ac,A8,AV.bel],AQ _⟩,⟨⟨0,by simp⟩,by simp(disch:=omega)only[ZA,simprocAttr,sub]⟩,λk=> ?_⟩;obtain⟨k,Q,z⟩:=k;simp(disch:=omega)only[ZA,simprocAttr,sub,AO];intro hn;refine⟨λG=>⟨G,λx Z=> ?_⟩,λG=> ?_⟩
 .rw[EW Z,Bs] at z;refine⟨λh=> ?_,λh=>Gi G hn ⟨by omega,by rw[<-z,Af (by simpa using h)]⟩⟩;rw[An (by simpa using h)] at z;rw[<-z,AG (by omega) (by omega)]
 .rw[Dr (by omega),Bs] at z;omega
def VA1.fv(a:Al×AC):Bool:=(λx s=> !Bj x.Tile 0 (s.Tiles.length - 1)) (a.1) (a.2)
def VA1.row:AA:=vK (b2 (qR Al.d_le) (qP 2 AC.d_le)) rB (λa=>True) VA1.fv
def VA1.q:=AT (R:=VA1.row) rfl
def VA1.ok:AB Tryz.prog 219 VA1.row:=by
 refine vw (tC isTile.ok tN) Tryz.func219 rfl (by kernel_rfl) ?_;intro a z;simp only[Tryz.f219];simp(disch:=omega)only[ZA,simprocAttr,VA1.fv,isTile.q,isTile.fv]
def IdxVA.ar:List PK->Option ((List Al)×AC)
 |[.val (.sl _ _ O),.val (.fn 219 [] [.ref z])]=>(AR Al.d O).bind λQ=>(AC.d (z.take 2)).bind λG=>some (Q,G)
 |_=>none
def IdxVA.ae(a:(List Al)×AC):List PK:=[.val (.sl false 3 (a.1.map Al.c)),.val (.fn 219 [] [.ref (AC.c a.2)])]
def IdxVA.le: ∀G a,IdxVA.ar G=some a->BN G (IdxVA.ae a):=by
 intro G a h;unfold IdxVA.ar at h;split at h
 .simp only[Ef,AJ] at h;obtain⟨Q,h0,O,z,rfl⟩:=h;exact⟨Dn (Dd Al.d_le _ _ h0) (by simp only[Bv];rintro r ⟨y,_,rfl⟩;rfl),VF ⟨Rd (G9.trans_take (AC.d_le _ _ z)),trivial⟩,trivial⟩
 .cases h
def IdxVA.fv(a:(List Al)×AC):Int:=(λl s=>Bs (λx=> !Bj x.Tile 0 (s.Tiles.length - 1)) 0 l) (a.1) (a.2)
def IdxVA.row:AA:=Ee IdxVA.ar (λa=>True) (λa=>(D.int .i64) (IdxVA.fv a))
def IdxVA.q:=vq IdxVA.row rfl
def IdxVA.ok:AB Tryz.prog 152 IdxVA.row:=by
 refine Ww CZ (tC VA1.ok tN) Tryz.func152 rfl (by kernel_rfl) (by kernel_rfl) (ar:=IdxVA.ar) (ae:=IdxVA.ae) IdxVA.le (n:=2) (λ_=>rfl) (by decide) (rc:=(DJ)) (re:=(D.int .i64)) (N7) (f:=IdxVA.fv) ?_;intro a O;simp only[Tryz.f152];simp(disch:=omega)only[ZA,simprocAttr,IdxVA.ae,IdxVA.fv];intro hn;refine AP.old ⟨{k:Nat//k<=a.1.length/\Bs (λx:Al=> !Bj x.Tile 0 (a.2.Tiles.length - 1)) k (a.1.drop k)=Bs (λx:Al=> !Bj x.Tile 0 (a.2.Tiles.length - 1)) 0 a.1},λk=>⟨[(8,.im (.int .i64 k.1)),(7,.im (.int .i64 a.1.length)),(6,.im (.sl false 3 (a.1.map Al.c))),(4,.im (.int .i64 0)),(0,.im (.sl false 3 (a.1.map Al.c))),(1,.im (.fn 219 [] [.ref (AC.c a.2)]))],[],0⟩,λk=>a.1.length - k.1,λk=>⟨by simp[Ai.good,Am,Ac,A8,AV.bel],AQ _⟩,⟨⟨0,by simp⟩,by simp(disch:=omega)only[ZA,simprocAttr,sub]⟩,λk=> ?_⟩;obtain⟨k,Q,z⟩:=k;simp(disch:=omega)only[ZA,simprocAttr,VA1.q,VA1.fv,sub,AO];refine⟨λG=>⟨G,λx Z=> ?_⟩,λG=> ?_⟩
 .rw[EW Z,Bs] at z;refine⟨λh=> ?_,λh=>Gi G hn ⟨by omega,by rw[<-z,Af (by simpa using h)]⟩⟩;rw[An (by simpa using h)] at z;exact z
 .rw[Dr (by omega),Bs] at z;exact z
def Qyg{A:Type}(p:A->Bool): ∀(l:List A) (i:Nat),(0<=Bs p i l↔l.any p=true)/\ -1<=Bs p i l/\Bs p i l<(i+l.length:Nat)\/(l=[]/\Bs p i l= -1):=by
 intro l;induction l with
 |nil=>intro i;exact .inr ⟨rfl,rfl⟩
 |cons x r ih=>
  intro i;refine .inl ?_;simp only[Bs,List.any_cons,CP]
  split<;>rename_i h
  .simp[h];omega
  .rcases ih (i+1) with ⟨G,z,O⟩|⟨rfl,z⟩
   .simp only[Lv] at h;rw[h,aL];exact⟨G,z,by omega⟩
   .simp[z,h];omega
def Qsr{A:Type}(p:A->Bool)(l:List A):decide (0<=Bs p 0 l)=l.any p:=by
 rw[VQ];rcases Qyg p l 0 with ⟨z,_⟩|⟨rfl,G⟩
 .simpa using z
 .simp[G]
def ContVA.ar:List PK->Option ((List Al)×AC)
 |[.val (.sl _ _ O),.val (.fn 219 [] [.ref z])]=>(AR Al.d O).bind λQ=>(AC.d (z.take 2)).bind λG=>some (Q,G)
 |_=>none
def ContVA.ae(a:(List Al)×AC):List PK:=[.val (.sl false 3 (a.1.map Al.c)),.val (.fn 219 [] [.ref (AC.c a.2)])]
def ContVA.le: ∀G a,ContVA.ar G=some a->BN G (ContVA.ae a):=by
 intro G a h;unfold ContVA.ar at h;split at h
 .simp only[Ef,AJ] at h;obtain⟨Q,h0,O,z,rfl⟩:=h;exact⟨Dn (Dd Al.d_le _ _ h0) (by simp only[Bv];rintro r ⟨y,_,rfl⟩;rfl),VF ⟨Rd (G9.trans_take (AC.d_le _ _ z)),trivial⟩,trivial⟩
 .cases h
def ContVA.fv(a:(List Al)×AC):Bool:=(λl s=>l.any (λx=> !Bj x.Tile 0 (s.Tiles.length - 1))) (a.1) (a.2)
def ContVA.row:AA:=Ee ContVA.ar (λa=>True) (λa=>(D.bool) (ContVA.fv a))
def ContVA.q:=vq ContVA.row rfl
def ContVA.ok:AB Tryz.prog 192 ContVA.row:=by
 refine Ww CZ (tC IdxVA.ok tN) Tryz.func192 rfl (by kernel_rfl) (by kernel_rfl) (ar:=ContVA.ar) (ae:=ContVA.ae) ContVA.le (n:=2) (λ_=>rfl) (by decide) (rc:=(V4)) (re:=(D.bool)) (kN) (f:=ContVA.fv) ?_;intro a z;simp only[Tryz.f192];simp(disch:=omega)only[ZA,simprocAttr,ContVA.ae,ContVA.fv,IdxVA.q,IdxVA.ar,IdxVA.fv];exact Qsr _ _
def l03Ok.fv(a:AC×Ak):Bool:=(λs a=>(Dl none a.Tiles && decide (a.Tiles.length<=500)) && a.Tiles.all (λx=>Bj x.Tile 0 (s.Tiles.length - 1))) (a.1) (a.2)
def l03Ok.row:AA:=vK (b2 (qP 2 AC.d_le) (qP 1 Ak.d_le)) rB (λa=>True) l03Ok.fv
def l03Ok.q:=AT (R:=l03Ok.row) rfl
def l03Ok.ok:AB Tryz.prog 140 l03Ok.row:=by
 refine vw (tC l03Form.ok (tC l02Index.ok tN)) Tryz.func140 rfl (by kernel_rfl) ?_;intro a Q;simp only[Tryz.f140];simp(disch:=omega)only[ZA,simprocAttr,Ak.d,l03Ok.fv,l03Form.q,l03Form.fv];simp only[AO];refine⟨λh=>by simp[h],λh=> ?_⟩;simp only[FW] at h;refine AP.old ⟨{k:Nat//k<=a.2.Tiles.length/\(a.2.Tiles.drop k).all (λx=>Bj x.Tile 0 (a.1.Tiles.length - 1))=a.2.Tiles.all (λx=>Bj x.Tile 0 (a.1.Tiles.length - 1))},λk=>⟨[(5,.im (.int .i64 k.1)),(4,.im (.bool false)),(0,.ptr 0 0),(1,.ptr 1 0)],[(0,(false,.view (AC.c a.1))),(1,(false,.view (Ak.c a.2)))],2⟩,λk=>a.2.Tiles.length - k.1,λk=>⟨by simp[Ai.good,Am,Ac,A8,AV.bel],AQ _⟩,⟨⟨0,by simp⟩,by simp(disch:=omega)only[ZA,simprocAttr,sub]⟩,λk=> ?_⟩;obtain⟨k,Z,z⟩:=k;simp(disch:=omega)only[ZA,simprocAttr,l02Index.q,l02Index.fv,sub,AO];intro hn;refine⟨λO=>⟨O,λx hx=> ?_⟩,λO=> ?_⟩
 .rw[EW hx,Lw] at z;refine⟨λG=> ?_,λG=>Gi O hn ⟨by omega,?_⟩⟩
  .rw[G] at z;simp only[F6] at z;rw[h,<-z];rfl
  .simp only[FW] at G;rw[G,Eb] at z;exact z
 .rw[Dr (by omega)] at z;rw[h,<-z];rfl
def kW{a b c:Ab}(z:Bt a b=true)(G:Bt b c=true):Bt a c=true:=by
 simp only[Bt,Hd,AS,BL] at*;omega
def tF(a:Ab):Bt a a=false:=by simp[Bt]
def kQ: ∀(l:List Al) (q:Option Ab),Dl q l=true->(∀p,q=some p-> ∀(i:Nat) (x:Al),l[i]? =some x->Bt p x.At=true)/\
 ∀(i j:Nat) (x y:Al),i<j->l[i]? =some x->l[j]? =some y->Bt x.At y.At=true
 |[],q,_=>⟨λ_ _ i x h=>by simp at h,λi j x y _ h=>by simp at h⟩
 |z::r,q,h=>by
  rw[PY] at h;simp only[AS] at h;obtain⟨_,_,Q,h4⟩:=h;obtain⟨Z,i2⟩:=kQ r (some z.At) h4;refine⟨?_,?_⟩
  .rintro p rfl i x G;cases i with
   |zero=>
    simp only[GF,AJ] at G;subst G;exact Q
   |succ i=>
    simp only[HJ] at G;exact kW Q (Z _ rfl i x G)
  .intro i j x y aa G O;cases j with
   |zero=>omega
   |succ j=>
    simp only[HJ] at O;cases i with
    |zero=>
     simp only[GF,AJ] at G;subst G;exact Z _ rfl j y O
    |succ i=>
     simp only[HJ] at G;exact i2 i j x y (by omega) G O
def Qtf{A:Type}(p:A->Bool): ∀(l:List A) (o k:Nat) (x:A),l[k]? =some x->p x=true->(∀i y,i<k->l[i]? =some y->p y=false)->Bs p o l=((o+k:Nat):Int)
 |[],o,k,x,h,_,_=>by simp at h
 |z::r,o,k,x,h,hp,hn=>by
  simp only[Bs];cases k with
  |zero=>
   simp only[GF,AJ] at h;subst h;rw[An hp];rfl
  |succ k=>
   have:=hn 0 z (by omega) (by simp)
   rw[Af (by simp[this])];rw[Qtf p r (o+1) k x (by simpa using h) hp (λi y O G=>hn (i+1) y (by omega) (by simpa using G))];congr 1;omega
def Qrf{A:Type}(p:A->Bool): ∀(l:List A) (o:Nat),(∀(i:Nat) (y:A),l[i]? =some y->p y=false)->Bs p o l= -1
 |[],o,_=>rfl
 |z::r,o,hn=>by
  simp only[Bs]
  have:=hn 0 z (by simp)
  rw[Af (by simp[this])];exact Qrf p r (o+1) (λi y G=>hn (i+1) y (by simpa using G))
def l03Index.fv(a:Ak×Ab):Int:=(λa p=>Bs (λx=>decide (x.At=p)) 0 a.Tiles) (a.1) (a.2)
def l03Index.row:AA:=vK (b2 (qP 1 Ak.d_le) (qR Ab.d_le)) rI (λa=>Dl none a.1.Tiles=true) l03Index.fv
def l03Index.q:=AT (R:=l03Index.row) rfl
def l03Index.ok:AB Tryz.prog 88 l03Index.row:=by
 refine vw (tC l_LessPoint.ok tN) Tryz.func88 rfl (by kernel_rfl) ?_;intro a ac;simp only[Tryz.f88];simp(disch:=omega)only[ZA,simprocAttr,l03Index.fv];intro hn;refine AP.old ⟨{p:Nat×Nat//p.1<=p.2/\p.2<=a.1.Tiles.length/\(∀i x,i<p.1->a.1.Tiles[i]? =some x->Bt x.At a.2=true)/\(∀i x,p.2<=i->a.1.Tiles[i]? =some x->Bt x.At a.2=false)},λp=>⟨[(5,.im (.int .i64 p.1.1)),(6,.im (.int .i64 p.1.2)),(4,.im (.int .i64 0)),(3,.ptr 1 0),(0,.ptr 0 0)],[(1,(true,.cells 96 [.im (.int .i64 a.2.X),.im (.int .i64 a.2.Y)])),(0,(false,.view [.sl false 3 (a.1.Tiles.map Al.c)]))],2⟩,λp=>p.1.2 - p.1.1,λp=>⟨by simp[Ai.good,Am,Ac,A8,AV.bel,Aq],AQ _⟩,⟨⟨(0,a.1.Tiles.length),by simp,by simp,by simp,?_⟩,by simp(disch:=omega)only[ZA,simprocAttr,sub]⟩,λp=> ?_⟩
 .intro i x G Q
  have:=(Ce.1 Q).1
  simp only at G;omega
 obtain⟨⟨lo,G⟩,h1,h2,h3,h4⟩:=p;simp only at h1 h2 h3 h4;simp(disch:=omega)only[ZA,simprocAttr,l_LessPoint.q,l_LessPoint.fv,sub,AO];obtain⟨_,O⟩:=kQ _ _ ac;have ab: ∀(i:Nat) (x:Al),i<lo->a.1.Tiles[i]? =some x->x.At≠a.2:=by
  intro i x G Q he
  have:=h3 i x G Q
  rw[he,tF] at this;cases this
 refine⟨λad=> ?_,λad=>⟨λhl=>⟨hl,λx Q=>⟨λhe=> ?_,λhe=> ?_⟩⟩,λhl=> ?_⟩⟩
 .have hm:IntKind.wrap .i64 ((IntKind.wrap .i64 ((lo:Int)+G)).tdiv 2)=(((lo+G)/2:Nat):Int):=by
   rw[AG (x:=(lo:Int)+G) (by omega) (by omega),Zep (by omega),AG (by omega) (by omega)];omega
  rw[hm];refine⟨by omega,by omega,λx Q=>⟨λhb=> ?_,λhb=> ?_⟩⟩
  .rw[B0] at Q;refine⟨⟨((lo+G)/2+1,G),by simp only;omega,h2,λi y aa z=> ?_,h4⟩,by simp only;omega,?_,rfl⟩
   .simp only at aa;rcases Fj i ((lo+G)/2) with h|h
    .exact kW (O i _ y x h z Q) hb
    .have:i=(lo+G)/2:=by omega
     subst this;rw[Q] at z;exact AD z▸hb
   .rw[AG (by omega) (by omega)];simp only;omega
  .rw[B0] at Q;refine⟨⟨(lo,(lo+G)/2),by simp only;omega,by simp only;omega,h3,λi y aa z=> ?_⟩,by simp only;omega,rfl,rfl⟩;simp only at aa;rcases Fj ((lo+G)/2) i with h|h
   .cases hl:Bt y.At a.2 with
    |false=>rfl
    |true=>exact absurd (kW (O _ i x y h Q z) hl) hb
   .have:i=(lo+G)/2:=by omega
    subst this;rw[Q] at z;obtain rfl:=AD z;simpa using hb
 .have af:x.At=a.2:=by
   obtain⟨e1,e2⟩:=he;have e1:x.At.X=a.2.X:=by simpa using e1
   have e2:x.At.Y=a.2.Y:=by simpa using e2
   rw[<-Ab.eta x.At,<-Ab.eta a.2,e1,e2]
  rw[Qtf _ a.1.Tiles 0 lo x Q (by simp[af]) (λi y G z=>by simp[ab i y G z])];simp
 .refine (Qrf _ _ _ ?_).symm;intro i y z;rcases vM i lo with h|h|h
  .simp[ab i y h z]
  .subst h;rw[Q] at z;obtain rfl:=AD z;simp only[Kt];intro h9;exact he (by simp[h9])
  .simp only[Kt];intro h9;have Z:=O lo i x y h Q z;rw[h9] at Z
   have:=h4 lo x (by omega) Q
   rw[this] at Z;cases Z
 .refine (Qrf _ _ _ ?_).symm;intro i y z
  have:=(Ce.1 z).1
  simp[ab i y (by omega) z]
def GY(p:Ab)(t:Int):Bool->List Al->List Al
 |_,[]=>[]
 |false,x::r=>if Bt p x.At=true then ⟨p,t⟩::x::GY p t true r else x::GY p t false r
 |true,x::r=>x::GY p t true r
def IC(p:Ab):List Al->Bool
 |[]=>false
 |x::r=>if Bt p x.At=true then true else IC p r
def BU(a:Ak)(p:Ab)(t:Int):Ak:=⟨GY p t false a.Tiles++(if IC p a.Tiles=true then [] else [⟨p,t⟩])⟩
def uK(p:Ab)(t:Int): ∀(l:List Al),GY p t true l=l
 |[]=>rfl
 |x::r=>by simp only[GY,uK p t r]
def zE(p:Ab)(t:Int)(x:Al): ∀(l:List Al),GY p t false (l++[x])=GY p t false l++(if IC p l=true then [x] else if Bt p x.At=true then [⟨p,t⟩,x] else [x])
 |[]=>by simp only[Hg,GY,IC];split<;>simp[GY]
 |y::r=>by
  simp only[CT,GY,IC];split
  .rw[uK,uK];simp
  .rw[zE p t x r];simp
def yR(p:Ab)(x:Al): ∀(l:List Al),IC p (l++[x])=(IC p l||Bt p x.At)
 |[]=>by simp only[Hg,IC];split<;>simp_all
 |y::r=>by
  simp only[CT,IC];split
  .simp
  .exact yR p x r
def Qua(p:Ab)(t:Int): ∀(l:List Al),(GY p t false l).length<=l.length+1
 |[]=>by simp[GY]
 |y::r=>by
  simp only[GY];split
  .rw[uK];simp
  .have:=Qua p t r
   simp;omega
def l03Put.fv(a:Ak×Ab×Int):Ak:=(BU) (a.1) (a.2.1) (a.2.2)
def l03Put.row:AA:=vK (b3 (qP 1 Ak.d_le) (qR Ab.d_le) qI) (rA Ak.d_le) (λa=>a.1.Tiles.length<=1000000) l03Put.fv
def l03Put.q:=AT (R:=l03Put.row) rfl
def l03Put.ok:AB Tryz.prog 73 l03Put.row:=by
 refine vw (tC l_LessPoint.ok tN) Tryz.func73 rfl (by kernel_rfl) ?_;intro a ab;simp only[Tryz.f73];simp(disch:=omega)only[ZA,simprocAttr,l03Put.fv];refine AP.ren ⟨{k:Nat//k<=a.1.Tiles.length},λk=>⟨[(9,.im (.int .i64 k.1)),(8,.im (.bool (IC a.2.1 (a.1.Tiles.take k.1)))),(7,.ptr 3 0),(6,.ptr 2 0),(4,.ptr 1 0),(0,.ptr 0 0),(2,.im (.int .i64 a.2.2))],[(3,(true,.cells 39 [.own 4])),(4,(true,.arr 137 3 ((GY a.2.1 a.2.2 false (a.1.Tiles.take k.1)).map Al.c))),(2,(true,.cells 39 [.im (.sl true 0 [])])),(1,(true,.cells 96 [.im (.int .i64 a.2.1.X),.im (.int .i64 a.2.1.Y)])),(0,(false,.view [.sl false 3 (a.1.Tiles.map Al.c)]))],5⟩,λk=>a.1.Tiles.length - k.1,λk=>⟨by simp[Ai.good,Am,Ac,A8,AV.bel,Aq],by simp⟩,⟨⟨0,by simp⟩,[(4,none)],?_⟩,λk=> ?_⟩
 .simp only[Ay];simp(disch:=omega)only[ZA,simprocAttr,Bp,VL,GY,IC]
  try simp
 obtain⟨k,ac⟩:=k;simp(disch:=omega)only[ZA,simprocAttr,Ak.d,l_LessPoint.q,l_LessPoint.fv,AO];intro _;have Z:=Qua a.2.1 a.2.2 (a.1.Tiles.take k);have aa:(a.1.Tiles.take k).length<=k:=by simp;omega
 refine⟨λQ=>⟨λhd=>⟨Q,λx O=>⟨λG=> ?_,λG=> ?_⟩⟩,λhd=> ?_⟩,λQ=> ?_⟩
 .have z:a.1.Tiles.take (k+1)=a.1.Tiles.take k++[x]:=by rw[Iq,O];rfl
  refine⟨by simp[BE,B1,D.one],by omega,Q,λy hy=>⟨by simp[BE,B1,D.one],by simp;omega,⟨⟨k+1,by omega⟩,[(4,some 8)],by simp only;omega,?_⟩⟩⟩;rw[O] at hy;obtain rfl:=AD hy;simp only[Ay];simp(disch:=omega)only[ZA,simprocAttr];refine⟨by simp,⟨?_,?_⟩,?_⟩
  .rw[AG (by omega) (by omega)];omega
  .rw[z,yR,hd,G];rfl
  .rw[z,zE,hd,G];simp[Al.c]
 .have z:a.1.Tiles.take (k+1)=a.1.Tiles.take k++[x]:=by rw[Iq,O];rfl
  refine⟨Q,λy hy=>⟨by simp[BE,B1,D.one],by omega,⟨⟨k+1,by omega⟩,[(4,some 6)],by simp only;omega,?_⟩⟩⟩;rw[O] at hy;obtain rfl:=AD hy;simp only[Lv] at G;simp only[Ay];simp(disch:=omega)only[ZA,simprocAttr];refine⟨by simp,⟨?_,?_⟩,?_⟩
  .rw[AG (by omega) (by omega)];omega
  .rw[z,yR,hd,G];rfl
  .rw[z,zE,hd,G];simp[Al.c]
 .simp only[FW] at hd;refine⟨Q,λx O=>⟨by simp[BE,B1,D.one],by omega,⟨⟨k+1,by omega⟩,[(4,some 6)],by simp only;omega,?_⟩⟩⟩;have z:a.1.Tiles.take (k+1)=a.1.Tiles.take k++[x]:=by rw[Iq,O];rfl
  simp only[Ay];simp(disch:=omega)only[ZA,simprocAttr];refine⟨by simp,⟨?_,?_⟩,?_⟩
  .rw[AG (by omega) (by omega)];omega
  .rw[z,yR,hd];rfl
  .rw[z,zE,hd];simp[Al.c]
 .rw[DQ (by omega)] at Z aa⊢;refine⟨λhd=>⟨by simp[BE,B1,D.one],by omega,?_⟩,λhd=> ?_⟩
  .have e:List.map Al.c (GY a.2.1 a.2.2 false a.1.Tiles)++[[D.int .i64 a.2.1.X,D.int .i64 a.2.1.Y,D.int .i64 a.2.2]]=List.map Al.c (GY a.2.1 a.2.2 false a.1.Tiles++[⟨a.2.1,a.2.2⟩]):=by simp[Al.c]
   rw[e,Al.d_R];simp[BU,hd]
  .simp only[FW] at hd;simp[BU,hd]
def Bb(a:Ak)(p:Ab):Int:=((a.Tiles.find? (λx=>decide (x.At=p))).map Al.Tile).getD (-1)
def QW{A:Type}(p:A->Bool): ∀(l:List A) (o:Nat),(l.find? p=none/\Bs p o l= -1)\/ ∃(i:Nat) (x:A),l.find? p=some x/\Bs p o l=((o+i:Nat):Int)/\l[i]? =some x
 |[],o=> .inl ⟨rfl,rfl⟩
 |z::r,o=>by
  simp only[Bs,Zel];cases h:p z
  .rcases QW p r (o+1) with ⟨G,O⟩|⟨i,x,G,O,Q⟩
   .exact .inl ⟨by simpa using G,by simpa using O⟩
   .exact .inr ⟨i+1,x,by simpa using G,by simp[O];omega,by simpa using Q⟩
  .exact .inr ⟨0,z,rfl,by simp,by simp⟩
def l03At.fv(a:Ak×Ab):Int:=(Bb) (a.1) (a.2)
def l03At.row:AA:=vK (b2 (qP 1 Ak.d_le) (qR Ab.d_le)) rI (λa=>Dl none a.1.Tiles=true) l03At.fv
def l03At.q:=AT (R:=l03At.row) rfl
def l03At.ok:AB Tryz.prog 141 l03At.row:=by
 refine vw (tC l03Index.ok tN) Tryz.func141 rfl (by kernel_rfl) ?_;intro a z;simp only[Tryz.f141];simp(disch:=omega)only[ZA,simprocAttr,Ak.d,l03At.fv,l03Index.q,l03Index.fv];refine⟨z,?_⟩;rcases QW (λx=>decide (x.At=a.2)) a.1.Tiles 0 with ⟨G,O⟩|⟨i,x,G,O,Q⟩
 .rw[O,An (by omega)];simp[Bb,G]
 .have hi:=(Ce.1 Q).1;rw[O,Af (by omega)];refine⟨by omega,by omega,λy Z=> ?_⟩
  have:((0+i:Nat):Int).toNat=i:=by omega
  rw[this,Q] at Z;obtain rfl:=AD Z;simp[Bb,G]
def l02Tile.fv(a:AC×ByteArray):Int:=(λs n=>Bs (λg=>decide (g.Name=n)) 0 s.Tiles) (a.1) (a.2)
def l02Tile.row:AA:=vK (b2 (qP 2 AC.d_le) qT) rI (λa=>True) l02Tile.fv
def l02Tile.q:=AT (R:=l02Tile.row) rfl
def l02Tile.ok:AB Tryz.prog 205 l02Tile.row:=by
 refine vw tN Tryz.func205 rfl (by kernel_rfl) ?_;intro a O;simp only[Tryz.f205];simp(disch:=omega)only[ZA,simprocAttr,l02Tile.fv];refine AP.old ⟨{k:Nat//k<=a.1.Tiles.length/\Bs (λg:Tile=>decide (g.Name=a.2)) k (a.1.Tiles.drop k)=Bs (λg:Tile=>decide (g.Name=a.2)) 0 a.1.Tiles},λk=>⟨[(5,.im (.int .i64 k.1)),(4,.im (.int .i64 0)),(0,.ptr 0 0),(1,.im (.str a.2))],[(0,(false,.view (AC.c a.1)))],1⟩,λk=>a.1.Tiles.length - k.1,λk=>⟨by simp[Ai.good,Am,Ac,A8,AV.bel],AQ _⟩,⟨⟨0,by simp⟩,by simp(disch:=omega)only[ZA,simprocAttr,sub]⟩,λk=> ?_⟩;obtain⟨k,Q,z⟩:=k;simp(disch:=omega)only[ZA,simprocAttr,sub,AO];intro hn;refine⟨λG=>⟨G,λx Z=> ?_⟩,λG=> ?_⟩
 .rw[EW Z,Bs] at z;refine⟨λh=> ?_,λh=>Gi G hn ⟨by omega,by rw[<-z,Af (by simpa using h)]⟩⟩;rw[An (by simpa using h)] at z;exact z
 .rw[Dr (by omega),Bs] at z;omega
def Gv(a:Ak)(o:Ap):Ak×Int:=if 500<=a.Tiles.length then (⟨[]⟩,4) else (BU a o.At o.Tile,0)
def l08Attach.fv(a:Ak×Ap):Ak×Int:=(Gv) (a.1) (a.2)
def l08Attach.row:AA:=vK (b2 (qP 1 Ak.d_le) (qR Ap.d_le)) (r2 (rA Ak.d_le) rI) (λa=>True) l08Attach.fv
def l08Attach.q:=AT (R:=l08Attach.row) rfl
def l08Attach.ok:AB Tryz.prog 94 l08Attach.row:=by
 refine vw (tC l03Put.ok tN) Tryz.func94 rfl (by kernel_rfl) ?_;intro a z;simp only[Tryz.f94];simp(disch:=omega)only[ZA,simprocAttr,Ak.d,l08Attach.fv,l03Put.q,l03Put.fv];intro _;simp only[AO];refine⟨λh=> ?_,λh=>⟨by omega,?_⟩⟩
 .simp only[Gv];rw[An (by omega)]
 .simp only[Gv];rw[Af (by omega)]
def NI(s:AC)(a:Ak)(p:Ab)(t:Int)(d:Int):Int:=if 0<=Bb a (Bu p d) then Gk s t d (Bb a (Bu p d)) else 0
def J4(s:AC)(a:Ak)(p:Ab)(t:Int):Nat->Int
 |0=>0
 |k+1=>J4 s a p t k+NI s a p t k
def DP(s:AC)(a:Ak):Prop:=Dl none a.Tiles=true/\ ∀x∈a.Tiles,FR s x.Tile
def JW{s:AC}{a:Ak}(h:DP s a)(p:Ab)(h0:0<=Bb a p):FR s (Bb a p):=by
 simp only[Bb] at h0⊢;cases hf:a.Tiles.find? (λx=>decide (x.At=p)) with
 |none=>rw[hf] at h0;simp at h0
 |some x=>exact h.2 x (mN hf)
def Qp1{s:AC}(h:BF s)(g:Int):0<=Qc s g/\Qc s g<=4:=by
 simp only[Qc];split
 .cases hx:s.Glues[(g - 1).toNat]? with
  |none=>simp
  |some x=>have:=h.2.2 x (AZ hx);simp;omega
 .omega
def Np{s:AC}(h:BF s)(a:Ak)(p:Ab)(t d:Int):0<=NI s a p t d/\NI s a p t d<=4:=by
 simp only[NI,Gk];split
 .split
  .exact Qp1 h _
  .omega
 .omega
def L5{s:AC}(h:BF s)(a:Ak)(p:Ab)(t:Int): ∀(k:Nat),0<=J4 s a p t k/\J4 s a p t k<=4*k
 |0=>by simp[J4]
 |k+1=>by
  have z:=L5 h a p t k;have G:=Np h a p t k;simp only[J4];omega
def l06Binding.fv(a:AC×Ak×Ab×Int):Int:=(λs a p t=>J4 s a p t 4) (a.1) (a.2.1) (a.2.2.1) (a.2.2.2)
def l06Binding.row:AA:=vK (b4 (qP 2 AC.d_le) (qP 1 Ak.d_le) (qR Ab.d_le) qI) rI (λa=>BF a.1/\DP a.1 a.2.1/\FD a.2.2.1/\FR a.1 a.2.2.2) l06Binding.fv
def l06Binding.q:=AT (R:=l06Binding.row) rfl
def l06Binding.ok:AB Tryz.prog 170 l06Binding.row:=by
 refine vw (tC l03At.ok (tC l01Step.ok (tC l02Bond.ok tN))) Tryz.func170 rfl (by kernel_rfl) ?_;intro a z;simp only[Tryz.f170];simp(disch:=omega)only[ZA,simprocAttr,l06Binding.fv];obtain⟨G,O,Q,Z⟩:=z;refine AP.old ⟨{k:Nat//k<=4},λk=>⟨[(10,.im (.int .i64 k.1)),(9,.im (.int .i64 (J4 a.1 a.2.1 a.2.2.1 a.2.2.2 k.1))),(8,.im (.int .i64 0)),(6,.ptr 2 0),(0,.ptr 0 0),(1,.ptr 1 0),(3,.im (.int .i64 a.2.2.2))],[(2,(true,.cells 96 [.im (.int .i64 a.2.2.1.X),.im (.int .i64 a.2.2.1.Y)])),(0,(false,.view (AC.c a.1))),(1,(false,.view (Ak.c a.2.1)))],3⟩,λk=>4 - k.1,λk=>⟨by simp[Ai.good,Am,Ac,A8,AV.bel,Aq],AQ _⟩,⟨⟨0,by simp⟩,by simp(disch:=omega)only[ZA,simprocAttr,sub,J4]⟩,λk=> ?_⟩;obtain⟨k,aa⟩:=k;simp(disch:=omega)only[ZA,simprocAttr,Ak.d,l03At.q,l03At.fv,l01Step.q,l01Step.fv,l02Bond.q,l02Bond.fv,sub,AO];have hb:=L5 G a.2.1 a.2.2.1 a.2.2.2 k;have ht:=Np G a.2.1 a.2.2.1 a.2.2.2 k;refine⟨λhk=>⟨⟨Q,by omega⟩,O.1,λhp=>⟨⟨G,Z,⟨by omega,by omega⟩,JW O _ hp⟩,⟨⟨k+1,by omega⟩,by simp only;omega,?_,?_⟩⟩,λhp=>⟨⟨k+1,by omega⟩,by simp only;omega,?_,?_⟩⟩,λhk=> ?_⟩
 .rw[AG (by omega) (by omega)];simp only;omega
 .simp only[J4];simp only[NI,An hp] at ht⊢;rw[AG (by omega) (by omega)]
 .rw[AG (by omega) (by omega)];simp only;omega
 .simp only[J4,NI,Af hp];omega
 .have:k=4:=by omega
  rw[this]
def ZJ{p:Ab}(h:E3 p=true):FD p:=by
 simp only[E3,Bj,AS,BL] at h;simp only[FD];omega
def sJ: ∀(l:List Al) (q:Option Ab),Dl q l=true-> ∀x∈l,E3 x.At=true/\Bj x.Tile 0 159=true
 |[],_,_,x,G=>by cases G
 |z::r,q,h,x,G=>by
  rw[PY] at h;simp only[AS] at h;rcases Bm.1 G with rfl|G
  .exact⟨h.1,h.2.1⟩
  .exact sJ r _ h.2.2.2 x G
def Hm(a:Ak)(i d:Int):Int:=Bs (λx=>decide (x.At=Bu ((a.Tiles[i.toNat]?.map Al.At).getD ⟨0,0⟩) d)) 0 a.Tiles
def l06Neighbor.fv(a:Ak×Int×Int):Int:=(Hm) (a.1) (a.2.1) (a.2.2)
def l06Neighbor.row:AA:=vK (b3 (qP 1 Ak.d_le) qI qI) rI (λa=>Dl none a.1.Tiles=true/\0<=a.2.1/\a.2.1<a.1.Tiles.length/\0<=a.2.2/\a.2.2<=3) l06Neighbor.fv
def l06Neighbor.q:=AT (R:=l06Neighbor.row) rfl
def l06Neighbor.ok:AB Tryz.prog 241 l06Neighbor.row:=by
 refine vw (tC l01Step.ok (tC l03Index.ok tN)) Tryz.func241 rfl (by kernel_rfl) ?_;intro a z;simp only[Tryz.f241];simp(disch:=omega)only[ZA,simprocAttr,Ak.d,l06Neighbor.fv,l01Step.q,l01Step.fv,l03Index.q,l03Index.fv];obtain⟨G,Q,Z,h4,h5⟩:=z;refine⟨Q,Z,λx O=>⟨⟨ZJ (sJ _ _ G x (AZ O)).1,h4,h5⟩,G,?_⟩⟩;simp only[Hm];rw[O];rfl
def l08Can.fv(a:Ax×Ak×Ap):Bool:=(λs a o=>E3 o.At && (Bj o.Tile 0 (s.Set.Tiles.length - 1) && (decide (Bs (λx=>decide (x.At=o.At)) 0 a.Tiles<0) && decide (s.Temperature<=J4 s.Set a o.At o.Tile 4)))) (a.1) (a.2.1) (a.2.2)
def l08Can.row:AA:=vK (b3 (qP 4 Ax.d_le) (qP 1 Ak.d_le) (qR Ap.d_le)) rB (λa=>BF a.1.Set/\DP a.1.Set a.2.1) l08Can.fv
def l08Can.q:=AT (R:=l08Can.row) rfl
def l08Can.ok:AB Tryz.prog 128 l08Can.row:=by
 refine vw (tC l01Point.ok (tC l02Index.ok (tC l03Index.ok (tC l06Binding.ok tN)))) Tryz.func128 rfl (by kernel_rfl) ?_;intro a z;simp only[Tryz.f128];simp(disch:=omega)only[ZA,simprocAttr,Ak.d,l08Can.fv,l01Point.q,l01Point.fv,l02Index.q,l02Index.fv,l03Index.q,l03Index.fv,l06Binding.q,l06Binding.fv];obtain⟨O,G⟩:=z;cases e1:E3 a.2.2.At
 .simp
 cases e2:Bj a.2.2.Tile 0 (a.1.Set.Tiles.length - 1)
 .simp
 rw[An rfl,An rfl];refine⟨G.1,?_⟩
 split<;>rename_i h
 .refine⟨⟨O,G,ZJ e1,?_⟩,by simp[h]⟩;simp only[Bj,AS,BL] at e2;simp only[FR];omega
 .simp[h]
def Ld(s:AC):Nat->List Ar->Bool
 |_,[]=>true
 |i,g::r=>(ID g.Name && (Bj g.Strength 1 4 && decide (Bs (λx=>decide (x.Name=g.Name)) 0 s.Glues=i))) && Ld s (i+1) r
def Jy(s:AC):Nat->List Tile->Bool
 |_,[]=>true
 |i,x::r=>(ID x.Name && (decide (x.Sides.length=4) && (decide (Bs (λy=>decide (y.Name=x.Name)) 0 s.Tiles=i) && x.Sides.all (λg=>Bj g 0 s.Glues.length)))) && Jy s (i+1) r
def F1(s:AC):Bool:=(decide (s.Glues.length<=200) && Bj s.Tiles.length 1 160) && (Ld s 0 s.Glues && Jy s 0 s.Tiles)
def l02Ok.fv(a:AC):Bool:=(F1) a
def l02Ok.row:AA:=vK (b1 (qP 2 AC.d_le)) rB (λa=>True) l02Ok.fv
def l02Ok.q:=AT (R:=l02Ok.row) rfl
def l02Ok.ok:AB Tryz.prog 165 l02Ok.row:=by
 refine vw (tC spec_IsName.ok (tC l00In.ok (tC l02Glue.ok (tC l02Tile.ok tN)))) Tryz.func165 rfl (by kernel_rfl) ?_;intro a ac;simp only[Tryz.f165];simp(disch:=omega)only[ZA,simprocAttr,l02Ok.fv];intro hg;simp only[AO];refine⟨λc1 ht=>⟨λc2 _=>⟨λc3=> ?_,λc3=> ?_⟩,λc2=> ?_⟩,λc1=> ?_⟩
 .have: ¬(a.Tiles.length:Int)<=160:=by omega
  simp[F1,Bj,this]
 .have c0:F1 a=(Ld a 0 a.Glues && Jy a 0 a.Tiles):=by
   have e1:a.Glues.length<=200:=by omega
   have e2:(1:Int)<=a.Tiles.length:=by omega
   have e3:(a.Tiles.length:Int)<=160:=by omega
   simp[F1,Bj,e1,e2,e3]
  refine AP.old ⟨{k:Nat//k<=a.Glues.length/\Ld a k (a.Glues.drop k)=Ld a 0 a.Glues},λk=>⟨[(3,.im (.int .i64 k.1)),(2,.im (.bool false)),(0,.ptr 0 0)],[(0,(false,.view (AC.c a)))],1⟩,λk=>a.Glues.length - k.1,λk=>⟨by simp[Ai.good,Am,Ac,A8,AV.bel],AQ _⟩,⟨⟨0,by simp⟩,by simp(disch:=omega)only[ZA,simprocAttr,sub]⟩,λk=> ?_⟩;obtain⟨k,ab,z⟩:=k;simp(disch:=omega)only[ZA,simprocAttr,spec_IsName.q,spec_IsName.fv,l00In.q,l00In.fv,l02Glue.q,l02Glue.fv,sub,AO];intro _;refine⟨λhk=>⟨hk,λx hx=> ?_⟩,λhk=> ?_⟩
  .rw[EW hx,Ld] at z;have G:(ID x.Name && (Bj x.Strength 1 4 && decide (Bs (λg:Ar=>decide (g.Name=x.Name)) 0 a.Glues=k)))=false->false=F1 a:=by
    intro h;rw[h,F6] at z;rw[c0,<-z];rfl
   refine⟨λZ=>⟨λh2=>⟨λQ=> ?_,λQ=>Gi hk hg ⟨by omega,?_⟩⟩,λh2=>G (by simp[h2])⟩,λZ=>G (by simp[Z])⟩
   .rw[AG (by omega) (by omega)] at Q;exact G (by simp;intro _ _;omega)
   .rw[FX,AG (by omega) (by omega)] at Q;have h4:Bs (λg:Ar=>decide (g.Name=x.Name)) 0 a.Glues=k:=by omega
    rw[Z,h2,h4] at z;simpa using z
  .rw[Dr (by omega),Ld] at z;have c9:F1 a=Jy a 0 a.Tiles:=by rw[c0,<-z,Eb]
   refine AP.old ⟨{k:Nat//k<=a.Tiles.length/\Jy a k (a.Tiles.drop k)=Jy a 0 a.Tiles},λk=>⟨[(5,.im (.int .i64 k.1)),(2,.im (.bool false)),(0,.ptr 0 0)],[(0,(false,.view (AC.c a)))],1⟩,λk=>a.Tiles.length - k.1,λk=>⟨by simp[Ai.good,Am,Ac,A8,AV.bel],AQ _⟩,⟨⟨0,by simp⟩,by simp(disch:=omega)only[ZA,simprocAttr,sub]⟩,λk=> ?_⟩;obtain⟨k,ab,z⟩:=k;simp(disch:=omega)only[ZA,simprocAttr,spec_IsName.q,spec_IsName.fv,l02Tile.q,l02Tile.fv,AO];intro _;refine⟨λhk=>⟨hk,λx hx=> ?_⟩,λhk=> ?_⟩
   .rw[EW hx,Jy] at z;have G:(ID x.Name && (decide (x.Sides.length=4) && (decide (Bs (λy:Tile=>decide (y.Name=x.Name)) 0 a.Tiles=k) && x.Sides.all (λg=>Bj g 0 a.Glues.length))))=false->false=F1 a:=by
     intro h;rw[h,F6] at z;rw[c9,<-z]
    refine⟨λZ hs=>⟨λh2=>⟨λQ=>G (by simp[Q]),λQ=> ?_⟩,λh2=>G (by simp;intro _ h9;omega)⟩,λZ=>G (by simp[Z])⟩;rw[FX] at Q;have aa:x.Sides.length=4:=by omega
    refine AP.old ⟨{j:Nat//j<=4/\(x.Sides.drop j).all (λg=>Bj g 0 a.Glues.length)=x.Sides.all (λg=>Bj g 0 a.Glues.length)},λj=>⟨[(7,.im (.int .i64 j.1)),(5,.im (.int .i64 k)),(6,.ptr 1 0),(2,.im (.bool false)),(0,.ptr 0 0)],[(1,(true,.cells 206 ((Tile.c x).map .im))),(0,(false,.view (AC.c a)))],2⟩,λj=>4 - j.1,λj=>⟨by simp[Ai.good,Am,Ac,A8,AV.bel,Aq,Tile.c],by simp⟩,⟨⟨0,by simp⟩,by simp(disch:=omega)only[ZA,simprocAttr,sub]⟩,λj=> ?_⟩;obtain⟨j,ad,O⟩:=j;simp(disch:=omega)only[ZA,simprocAttr,l00In.q,l00In.fv,sub,AO];refine⟨λhj=>⟨by omega,λy hy=> ?_⟩,λhj=>Gi hk ht ⟨by omega,?_⟩⟩
    .rw[EW hy,Lw] at O;refine⟨λh=>G ?_,λh=>⟨⟨j+1,by omega,?_⟩,by simp only;omega,?_⟩⟩
     .rw[h,F6] at O;rw[<-O];simp
     .rw[FW] at h;rw[h,Eb] at O;exact O
     .rw[AG (by omega) (by omega)];simp only;omega
    .rw[Dr (by omega)] at O;rw[<-z,<-O,Z,aa,Q];simp
   .rw[Dr (by omega),Jy] at z;rw[c9,<-z]
 .have: ¬(1:Int)<=a.Tiles.length:=by omega
  simp[F1,Bj,this]
 .have: ¬a.Glues.length<=200:=by omega
  simp[F1,this]
def VS1.fv(a:Int×AC):Bool:=(λg s=> !Bj g 0 s.Glues.length) (a.1) (a.2)
def VS1.row:AA:=vK (b2 qI (qP 2 AC.d_le)) rB (λa=>True) VS1.fv
def VS1.q:=AT (R:=VS1.row) rfl
def VS1.ok:AB Tryz.prog 254 VS1.row:=by
 refine vw (tC within_.ok tN) Tryz.func254 rfl (by kernel_rfl) ?_;intro a z;simp only[Tryz.f254];simp(disch:=omega)only[ZA,simprocAttr,VS1.fv,within_.q,within_.fv];intro _;trivial
def IdxVS.ar:List PK->Option ((List Int)×AC)
 |[.val (.sl _ _ O),.val (.fn 254 [] [.ref z])]=>(AR Cu O).bind λQ=>(AC.d (z.take 2)).bind λG=>some (Q,G)
 |_=>none
def IdxVS.ae(a:(List Int)×AC):List PK:=[.val (.sl false 1 (a.1.map Aj)),.val (.fn 254 [] [.ref (AC.c a.2)])]
def IdxVS.le: ∀G a,IdxVS.ar G=some a->BN G (IdxVS.ae a):=by
 intro G a h;unfold IdxVS.ar at h;split at h
 .simp only[Ef,AJ] at h;obtain⟨Q,h0,O,z,rfl⟩:=h;exact⟨Dn (Dd Da _ _ h0) (by simp only[Bv];rintro r ⟨y,_,rfl⟩;rfl),VF ⟨Rd (G9.trans_take (AC.d_le _ _ z)),trivial⟩,trivial⟩
 .cases h
def IdxVS.fv(a:(List Int)×AC):Int:=(λl s=>Bs (λg=> !Bj g 0 s.Glues.length) 0 l) (a.1) (a.2)
def IdxVS.row:AA:=Ee IdxVS.ar (λa=>True) (λa=>(D.int .i64) (IdxVS.fv a))
def IdxVS.q:=vq IdxVS.row rfl
def IdxVS.ok:AB Tryz.prog 150 IdxVS.row:=by
 refine Ww CZ (tC VS1.ok tN) Tryz.func150 rfl (by kernel_rfl) (by kernel_rfl) (ar:=IdxVS.ar) (ae:=IdxVS.ae) IdxVS.le (n:=2) (λ_=>rfl) (by decide) (rc:=(DJ)) (re:=(D.int .i64)) (N7) (f:=IdxVS.fv) ?_;intro a O;simp only[Tryz.f150];simp(disch:=omega)only[ZA,simprocAttr,IdxVS.ae,IdxVS.fv];intro hn;refine AP.old ⟨{k:Nat//k<=a.1.length/\Bs (λg:Int=> !Bj g 0 a.2.Glues.length) k (a.1.drop k)=Bs (λg:Int=> !Bj g 0 a.2.Glues.length) 0 a.1},λk=>⟨[(8,.im (.int .i64 k.1)),(7,.im (.int .i64 a.1.length)),(6,.im (.sl false 1 (a.1.map Aj))),(4,.im (.int .i64 0)),(0,.im (.sl false 1 (a.1.map Aj))),(1,.im (.fn 254 [] [.ref (AC.c a.2)]))],[],0⟩,λk=>a.1.length - k.1,λk=>⟨by simp[Ai.good,Am,Ac,A8,AV.bel],AQ _⟩,⟨⟨0,by simp⟩,by simp(disch:=omega)only[ZA,simprocAttr,sub]⟩,λk=> ?_⟩;obtain⟨k,Q,z⟩:=k;simp(disch:=omega)only[ZA,simprocAttr,VS1.q,VS1.fv,sub,AO];refine⟨λG=>⟨G,λx Z=> ?_⟩,λG=> ?_⟩
 .rw[EW Z,Bs] at z;refine⟨λh=> ?_,λh=>Gi G hn ⟨by omega,by rw[<-z,Af (by simpa using h)]⟩⟩;rw[An (by simpa using h)] at z;exact z
 .rw[Dr (by omega),Bs] at z;exact z
def ContVS.ar:List PK->Option ((List Int)×AC)
 |[.val (.sl _ _ O),.val (.fn 254 [] [.ref z])]=>(AR Cu O).bind λQ=>(AC.d (z.take 2)).bind λG=>some (Q,G)
 |_=>none
def ContVS.ae(a:(List Int)×AC):List PK:=[.val (.sl false 1 (a.1.map Aj)),.val (.fn 254 [] [.ref (AC.c a.2)])]
def ContVS.le: ∀G a,ContVS.ar G=some a->BN G (ContVS.ae a):=by
 intro G a h;unfold ContVS.ar at h;split at h
 .simp only[Ef,AJ] at h;obtain⟨Q,h0,O,z,rfl⟩:=h;exact⟨Dn (Dd Da _ _ h0) (by simp only[Bv];rintro r ⟨y,_,rfl⟩;rfl),VF ⟨Rd (G9.trans_take (AC.d_le _ _ z)),trivial⟩,trivial⟩
 .cases h
def ContVS.fv(a:(List Int)×AC):Bool:=(λl s=>l.any (λg=> !Bj g 0 s.Glues.length)) (a.1) (a.2)
def ContVS.row:AA:=Ee ContVS.ar (λa=>True) (λa=>(D.bool) (ContVS.fv a))
def ContVS.q:=vq ContVS.row rfl
def ContVS.ok:AB Tryz.prog 100 ContVS.row:=by
 refine Ww CZ (tC IdxVS.ok tN) Tryz.func100 rfl (by kernel_rfl) (by kernel_rfl) (ar:=ContVS.ar) (ae:=ContVS.ae) ContVS.le (n:=2) (λ_=>rfl) (by decide) (rc:=(V4)) (re:=(D.bool)) (kN) (f:=ContVS.fv) ?_;intro a z;simp only[Tryz.f100];simp(disch:=omega)only[ZA,simprocAttr,ContVS.ae,ContVS.fv,IdxVS.q,IdxVS.ar,IdxVS.fv];exact Qsr _ _
def Ob(z:List ByteArray):List (D×D):=z.map λn=>(.str n,.bool true)
def wI(n m:ByteArray):(n==m)=decide (n=m):=by
 rw[Qpj]
def Ms(n:ByteArray): ∀(z:List ByteArray),(n∈z->lk (Ob z) (.str n)=some (.bool true))/\(n∉z->lk (Ob z) (.str n)=none)
 |[]=>⟨λh=>by simp at h,λ_=>rfl⟩
 |m::r=>by
  obtain⟨G,O⟩:=Ms n r;simp only[Ob] at G O;simp only[Ob,Bd,lk,D.beq,Bm,wI];by_cases h:n=m
  .simp[h]
  .simp only[h,ZeZ,BC,false_or];exact⟨G,O⟩
def Qum(n:ByteArray)(G:List ByteArray)(Ks:D->Prop)(Kn:Prop):Gb (Ob G) (.str n) Ks Kn=((n∈G->Ks (.bool true))/\(n∉G->Kn)):=by
 obtain⟨Z,i2⟩:=Ms n G;apply propext;unfold Gb;constructor
 .rintro⟨O,Q⟩;exact⟨λh=>O _ (Z h),λh=>Q (i2 h)⟩
 .rintro⟨O,Q⟩;by_cases h:n∈G
  .refine⟨λv z=> ?_,λz=> ?_⟩
   .rw[Z h] at z;exact AD z▸O h
   .rw[Z h] at z;cases z
  .refine⟨λv z=> ?_,λ_=>Q h⟩;rw[i2 h] at z;cases z
def Qru(n:ByteArray): ∀(z:List ByteArray),n∉z->G7 (Ob z) (.str n) (.bool true)=Ob (z++[n])
 |[],_=>rfl
 |m::r,h=>by
  simp only[Bm,aN] at h
  have:=Qru n r h.2
  simp only[Ob] at this;simp only[Ob,Bd,G7,D.beq,wI,h.1,ZeZ,BC,CT,this]
def nW{A:Type}(f:A->ByteArray)(l:List A)(k:Nat)(x:A)(hx:l[k]? =some x):Bs (λy=>decide (f y=f x)) 0 l=(k:Int)↔f x∉(l.take k).map f:=by
 constructor
 .intro h hm;obtain⟨y,hy,O⟩:=Bv.1 hm;obtain⟨i,Q,aa⟩:=fU.1 hy;have ab:i<k:=by simp at Q;omega
  have Z:l[i]? =some y:=by
   rw[<-aa,List.getElem_take];exact Bk _
  have G: ∀(l:List A) (o i:Nat) (y:A),l[i]? =some y->(decide (f y=f x))=true->Bs (λy=>decide (f y=f x)) o l<=((o+i:Nat):Int):=by
   intro l;induction l with
   |nil=>intro o i y h;simp at h
   |cons z r ih=>
    intro o i y h hp;simp only[Bs];split
    .omega
    .rename_i hz;cases i with
     |zero=>
      simp only[GF,AJ] at h;subst h;exact absurd hp hz
     |succ i=>
      have:=ih (o+1) i y (by simpa using h) hp
      omega
  have:=G l 0 i y Z (by simpa using O)
  omega
 .intro h;rw[Qtf _ l 0 k x hx (by simp) ?_]
  .simp
  .intro i y Q hy;simp only[Kt];intro O;apply h;rw[<-O];refine Bv.2 ⟨y,?_,rfl⟩;exact AZ (i:=i) (by rw[aC,An Q];exact hy)
def Qf(s:AC):Prop:=(∀g∈s.Glues,g.Name.size<=140737488355328)/\ ∀t∈s.Tiles,t.Name.size<=140737488355328
def ValidSet_.fv(a:AC):Bool:=(F1) a
def ValidSet_.row:AA:=vK (b1 (qR AC.d_le)) rB (λa=>Qf a) ValidSet_.fv
def ValidSet_.q:=AT (R:=ValidSet_.row) rfl
def ValidSet_.ok:AB Tryz.prog 218 ValidSet_.row:=by
 refine vw (tC within_.ok (tC impl_IsName.ok (tC ContVS.ok tN))) Tryz.func218 rfl (by kernel_rfl) ?_;intro a ab;simp only[Tryz.f218];simp(disch:=omega)only[ZA,simprocAttr,ValidSet_.fv,within_.q,within_.fv];obtain⟨ad,af⟩:=ab;intro hg;simp only[AO];refine⟨λc1 ht=>⟨λc2=> ?_,λc2 _=> ?_⟩,λc1=> ?_⟩
 .simp[F1,c2]
 .rw[FW] at c2;have c0:F1 a=(Ld a 0 a.Glues && Jy a 0 a.Tiles):=by
   have e1:a.Glues.length<=200:=by omega
   simp[F1,e1,c2]
  refine AP.old ⟨{k:Nat//k<=a.Glues.length/\Ld a k (a.Glues.drop k)=Ld a 0 a.Glues},λk=>⟨[(24,.im (.int .i64 k.1)),(23,.im (.int .i64 a.Glues.length)),(22,.im (.sl false 2 (a.Glues.map Ar.c))),(3,.mp 1),(1,.ptr 0 0),(2,.im (.bool false))],[(1,(true,.map ⟨false,[.str]⟩ (Ob ((a.Glues.take k.1).map Ar.Name)))),(0,(true,.cells 45 ((AC.c a).map .im)))],2⟩,λk=>a.Glues.length - k.1,λk=>⟨by simp[Ai.good,Am,Ac,A8,AV.bel,Aq,AC.c],AQ _⟩,⟨⟨0,by simp⟩,by simp(disch:=omega)only[ZA,simprocAttr,sub,Ob]⟩,λk=> ?_⟩;obtain⟨k,ac,z⟩:=k;simp(disch:=omega)only[ZA,simprocAttr,within_.q,within_.fv,impl_IsName.q,impl_IsName.fv,sub,AO,Qum];refine⟨λhk=>⟨hk,λx Q=>⟨ad x (AZ Q),?_⟩⟩,λhk _=> ?_⟩
  .rw[EW Q,Ld] at z;have hu:=nW Ar.Name a.Glues k x Q;have G:(ID x.Name && (Bj x.Strength 1 4 && decide (Bs (λg:Ar=>decide (g.Name=x.Name)) 0 a.Glues=k)))=false->false=F1 a:=by
    intro h;rw[h,F6] at z;rw[c0,<-z];rfl
   refine⟨λZ=>⟨λO=>G ?_,λO=>⟨λh3=>G (by simp[h3]),λh3=>⟨⟨k+1,by omega,?_⟩,by simp only;omega,?_,?_⟩⟩⟩,λZ=>G (by simp[Z])⟩
   .simp only[vS,Kt];exact .inr (.inr λh9=>(hu.1 h9) O)
   .rw[FW] at h3;rw[Z,h3,hu.2 O] at z;simpa using z
   .rw[AG (by omega) (by omega)];simp only;omega
   .rw[Qru _ _ O,Iq,Q];simp
  .rw[Dr (by omega),Ld] at z;have c9:F1 a=Jy a 0 a.Tiles:=by rw[c0,<-z,Eb]
   refine AP.frz [0] ⟨{k:Nat//k<=a.Tiles.length/\Jy a k (a.Tiles.drop k)=Jy a 0 a.Tiles},λk=>⟨[(52,.im (.int .i64 k.1)),(51,.im (.int .i64 a.Tiles.length)),(50,.im (.sl false 2 (a.Tiles.map Tile.c))),(6,.mp 2),(1,.ptr 0 0),(2,.im (.bool false))],[(2,(true,.map ⟨false,[.str]⟩ (Ob ((a.Tiles.take k.1).map Tile.Name)))),(0,(false,.cells 45 ((AC.c a).map .im)))],3⟩,λk=>a.Tiles.length - k.1,λk=>⟨by simp[Ai.good,Am,Ac,A8,AV.bel,Aq,AC.c],AQ _⟩,⟨⟨0,by simp⟩,by simp(disch:=omega)only[ZA,simprocAttr,sub,Ob]⟩,λk=> ?_⟩;obtain⟨k,ac,z⟩:=k;simp(disch:=omega)only[ZA,simprocAttr,impl_IsName.q,impl_IsName.fv,ContVS.q,ContVS.ar,ContVS.fv,sub,AO,Qum];refine⟨λhk=>⟨hk,λx Q=>⟨af x (AZ Q),?_⟩⟩,λhk=> ?_⟩
   .rw[EW Q,Jy] at z;have hu:=nW Tile.Name a.Tiles k x Q;have G:(ID x.Name && (decide (x.Sides.length=4) && (decide (Bs (λy:Tile=>decide (y.Name=x.Name)) 0 a.Tiles=k) && x.Sides.all (λg=>Bj g 0 a.Glues.length))))=false->false=F1 a:=by
     intro h;rw[h,F6] at z;rw[c9,<-z]
    have aa:(x.Sides.any λg=> !Bj g 0 a.Glues.length)= !x.Sides.all (λg=>Bj g 0 a.Glues.length):=by
     simp[List.not_all_eq_any_not]
    rw[aa];refine⟨λZ=>⟨λO=>G ?_,λO _=>⟨λh3=>G ?_,λh3=>⟨λh4=>G ?_,λh4=>⟨⟨k+1,by omega,?_⟩,by simp only;omega,?_,?_⟩⟩⟩⟩,λZ=>G (by simp[Z])⟩
    .simp only[vS,Kt];exact .inr (.inr (.inl λh9=>(hu.1 h9) O))
    .have: ¬x.Sides.length=4:=by omega
     simp[this]
    .simp only[Kq] at h4;simp only[h4,gK]
    .have h5:x.Sides.length=4:=by omega
     simp only[Kq,FW] at h4;rw[Z,h5,hu.2 O,h4] at z;simpa using z
    .rw[AG (by omega) (by omega)];simp only;omega
    .rw[Qru _ _ O,Iq,Q];simp
   .rw[Dr (by omega),Jy] at z;rw[c9,<-z]
 .have: ¬a.Glues.length<=200:=by omega
  simp[F1,this]
def Kb(s:AC)(a:Ak):Bool:=(Dl none a.Tiles && decide (a.Tiles.length<=500)) && a.Tiles.all (λx=>Bj x.Tile 0 (s.Tiles.length - 1))
def ValidAssembly_.fv(a:AC×Ak):Bool:=(λs a=>F1 s && Kb s a) (a.1) (a.2)
def ValidAssembly_.row:AA:=vK (b2 (qR AC.d_le) (qR Ak.d_le)) rB (λa=>Qf a.1) ValidAssembly_.fv
def ValidAssembly_.q:=AT (R:=ValidAssembly_.row) rfl
def ValidAssembly_.ok:AB Tryz.prog 190 ValidAssembly_.row:=by
 refine vw (tC ValidSet_.ok (tC hasForm_.ok (tC ContVA.ok tN))) Tryz.func190 rfl (by kernel_rfl) ?_;intro a z;simp only[Tryz.f190];simp(disch:=omega)only[ZA,simprocAttr,Ak.d,ValidAssembly_.fv,ValidSet_.q,ValidSet_.fv,hasForm_.q,hasForm_.fv,ContVA.q,ContVA.ar,ContVA.fv];refine⟨z,?_⟩
 split<;>rename_i O
 .split<;>rename_i G
  .simp[O,Kb,G.1,G.2,List.not_any_eq_all_not]
  .have Q:(Dl none a.2.Tiles && decide (a.2.Tiles.length<=500))=false:=by
    rw[Qs];intro h;simp only[AS,BL] at h;exact G h
   simp[Kb,Q]
 .simp[O]
def comparePlaced.fv(a:Al×Ab):Int:=(λa p=>Qg [Fk a.At.Y p.Y,Fk a.At.X p.X]) (a.1) (a.2)
def comparePlaced.row:AA:=vK (b2 (qR Al.d_le) (qR Ab.d_le)) rI (λa=>True) comparePlaced.fv
def comparePlaced.q:=AT (R:=comparePlaced.row) rfl
def comparePlaced.ok:AB Tryz.prog 134 comparePlaced.row:=by
 refine vw (tC comparePoints.ok tN) Tryz.func134 rfl (by kernel_rfl) ?_;intro a z;simp only[Tryz.f134];simp(disch:=omega)only[ZA,simprocAttr,comparePlaced.fv,comparePoints.q,comparePoints.fv]
def HO(l:List Al)(p:Ab):Nat:=(l.takeWhile (λx=>Bt x.At p)).length
def Qyx(p:Ab): ∀(l:List Al) (lo:Nat),lo<=l.length->(∀(i:Nat) (x:Al),i<lo->l[i]? =some x->Bt x.At p=true)->(∀(i:Nat) (x:Al),lo<=i->l[i]? =some x->Bt x.At p=false)->HO l p=lo
 |[],lo,h,_,_=>by simp at h;simp[HO,h]
 |x::r,0,_,_,h=>by
  have:=h 0 x (by omega) (by simp)
  simp[HO,this]
 |x::r,lo+1,hl,G,Q=>by
  have Z:=G 0 x (by omega) (by simp);have O:=Qyx p r lo (by simpa using hl) (λi y hi z=>G (i+1) y (by omega) (by simpa using z)) (λi y hi z=>Q (i+1) y (by omega) (by simpa using z));simp only[HO] at O;simp[HO,Z,O]
def RF(a b:Ab):(Qg [Fk a.Y b.Y,Fk a.X b.X]<0)↔Bt a b=true:=by
 simp only[Bt,Qg,Fk]
 grind
def gZ(a b:Ab):(Qg [Fk a.Y b.Y,Fk a.X b.X]=0)↔a=b:=by
 obtain⟨x,y⟩:=a;obtain⟨z,w⟩:=b;simp only[Qg,Fk,Ab.mk.injEq]
 grind
def midU(lo z:Nat)(h:lo+z<=562949953421312):IntKind.wrap .i64 ((IntKind.wrap .u64 (IntKind.wrap .i64 ((lo:Int)+z))).fdiv (2^min 1 IntKind.u64.bits))=(((lo+z)/2:Nat):Int):=by
 rw[AG (x:=(lo:Int)+z) (by omega) (by omega)];have G:IntKind.wrap .u64 ((lo:Int)+z)=(lo:Int)+z:=by
  simp only[IntKind.wrap,IntKind.signed,IntKind.bits];simp;omega
 have O:(2:Int)^min 1 IntKind.u64.bits=2:=by decide
 rw[G,O,Zeo _ (by omega),AG (by omega) (by omega)];omega
def BinP.ar:List PK->Option ((List Al)×Ab×Unit)
 |[.val (.sl _ _ z),.val (.agg G),.val (.fn 134 [] [])]=>(AR Al.d z).bind λO=>(Ab.d G).bind λQ=>some (O,Q,())
 |_=>none
def BinP.ae(a:(List Al)×Ab×Unit):List PK:=[.val (.sl false 3 (a.1.map Al.c)),.val (.agg (Ab.c a.2.1)),.val (.fn 134 [] [])]
def BinP.le: ∀z a,BinP.ar z=some a->BN z (BinP.ae a):=by
 intro z a h;unfold BinP.ar at h;split at h
 .simp only[Ef,AJ] at h;obtain⟨O,h0,Q,G,rfl⟩:=h;exact⟨Dn (Dd Al.d_le _ _ h0) (by simp only[Bv];rintro r ⟨y,_,rfl⟩;rfl),QO (Ab.d_le _ _ G),Cr.refl _,trivial⟩
 .cases h
def BinP.fv(a:(List Al)×Ab×Unit):Int×Bool:=(λl p _=>((HO l p:Int),l.any (λx=>decide (x.At=p)))) (a.1) (a.2.1) (a.2.2)
def BinP.row:AA:=Ee BinP.ar (λa=>Dl none a.1=true) (λa=>(λb=>D.tup [(D.int .i64) (b.1),(D.bool) (b.2)]) (BinP.fv a))
def BinP.q:=vq BinP.row rfl
def BinP.ok:AB Tryz.prog 133 BinP.row:=by
 refine Ww CZ (tC comparePlaced.ok tN) Tryz.func133 rfl (by kernel_rfl) (by kernel_rfl) (ar:=BinP.ar) (ae:=BinP.ae) BinP.le (n:=3) (λ_=>rfl) (by decide) (rc:=(lA (DJ) (V4))) (re:=(λb=>D.tup [(D.int .i64) (b.1),(D.bool) (b.2)])) (Qbz (N7) (kN)) (f:=BinP.fv) ?_;intro a af;simp only[Tryz.f133];simp(disch:=omega)only[ZA,simprocAttr,BinP.ae,BinP.fv];intro hn;refine AP.old ⟨{p:Nat×Nat//p.1<=p.2/\p.2<=a.1.length/\(∀i x,i<p.1->a.1[i]? =some x->Bt x.At a.2.1=true)/\(∀i x,p.2<=i->a.1[i]? =some x->Bt x.At a.2.1=false)},λp=>⟨[(9,.im (.int .i64 p.1.1)),(10,.im (.int .i64 p.1.2)),(8,.im (.int .i64 a.1.length)),(6,.im (.int .i64 0)),(7,.im (.bool false)),(4,.ptr 0 0),(0,.im (.sl false 3 (a.1.map Al.c))),(2,.im (.fn 134 [] []))],[(0,(true,.cells 96 [.im (.int .i64 a.2.1.X),.im (.int .i64 a.2.1.Y)]))],1⟩,λp=>p.1.2 - p.1.1,λp=>⟨by simp[Ai.good,Am,Ac,A8,AV.bel,Aq],AQ _⟩,⟨⟨(0,a.1.length),by simp,by simp,by simp,?_⟩,by simp(disch:=omega)only[ZA,simprocAttr,sub]⟩,λp=> ?_⟩
 .intro i x hi Q
  have:=(Ce.1 Q).1
  simp only at hi;omega
 obtain⟨⟨lo,hi⟩,h1,h2,h3,h4⟩:=p;simp only at h1 h2 h3 h4;simp(disch:=omega)only[ZA,simprocAttr,comparePlaced.q,comparePlaced.fv,sub,AO];obtain⟨_,O⟩:=kQ _ _ af;have ad: ∀(i:Nat) (x:Al),i<lo->a.1[i]? =some x->x.At≠a.2.1:=by
  intro i x hi Q he
  have:=h3 i x hi Q
  rw[he,tF] at this;cases this
 rw[midU lo hi (by omega)];simp only[RF,gZ];refine⟨λag=> ?_,λag=>⟨λhl=>⟨hl,λx Q=> ?_⟩,λhl=> ?_⟩⟩
 .refine⟨by omega,by omega,λx Q=>⟨λhb=> ?_,λhb=> ?_⟩⟩
  .rw[B0] at Q;refine⟨⟨((lo+hi)/2+1,hi),by simp only;omega,h2,λi y G Z=> ?_,h4⟩,by simp only;omega,?_,rfl⟩
   .simp only at G;rcases Fj i ((lo+hi)/2) with h|h
    .exact kW (O i _ y x h Z Q) hb
    .have:i=(lo+hi)/2:=by omega
     subst this;rw[Q] at Z;exact AD Z▸hb
   .rw[AG (by omega) (by omega)];simp only;omega
  .rw[B0] at Q;refine⟨⟨(lo,(lo+hi)/2),by simp only;omega,by simp only;omega,h3,λi y G Z=> ?_⟩,by simp only;omega,rfl,rfl⟩;simp only at G;rcases Fj ((lo+hi)/2) i with h|h
   .cases hl:Bt y.At a.2.1 with
    |false=>rfl
    |true=>exact absurd (kW (O _ i x y h Q Z) hl) hb
   .have:i=(lo+hi)/2:=by omega
    subst this;rw[Q] at Z;obtain rfl:=AD Z;simpa using hb
 .have aa:=Qyx a.2.1 a.1 lo (by omega) h3 (λi y G Z=>h4 i y (by omega) Z);refine⟨by rw[aa],?_⟩;rw[VQ];simp only[BL,Zeb];refine⟨λhe=>⟨x,AZ Q,he⟩,?_⟩;rintro⟨y,Z,he⟩;obtain⟨i,G,ac⟩:=fU.1 Z;have z:a.1[i]? =some y:=by rw[Bk G,ac]
  rcases vM i lo with h|h|h
  .exact absurd he (ad i y h z)
  .subst h;rw[Q] at z;exact AD z▸he
  .have ab:=O lo i x y h Q z;rw[he] at ab
   have:=h4 lo x (by omega) Q
   rw[this] at ab;cases ab
 .have aa:=Qyx a.2.1 a.1 lo (by omega) h3 (λi y G Z=>h4 i y (by omega) Z);refine⟨by rw[aa],?_⟩;symm;simp only[List.any_eq_false,BL];intro y Z he;obtain⟨i,G,ac⟩:=fU.1 Z;have z:a.1[i]? =some y:=by rw[Bk G,ac]
  exact ad i y (by omega) z he
def Oz{l:List Al}{p:Ab}(h:Dl none l=true){i:Nat}{x:Al}(O:l[i]? =some x)(Q:x.At=p):HO l p=i:=by
 obtain⟨_,z⟩:=kQ _ _ h;have hi:=(Ce.1 O).1;refine Qyx p l i (by omega) (λj y hj G=> ?_) (λj y hj G=> ?_)
 .have:=z j i y x hj G O
  rwa [Q] at this
 .rcases Fj i j with Z|Z
  .have h2:=z i j x y Z O G;rw[Q] at h2;cases h3:Bt y.At p with
   |false=>rfl
   |true=>
    have:=kW h2 h3
    rw[tF] at this;cases this
  .have:j=i:=by omega
   subst this;rw[O] at G;obtain rfl:=AD G;rw[Q,tF]
def Qz4{l:List Al}{p:Ab}(h:Dl none l=true):(l.any (λx=>decide (x.At=p))=true/\ ∃x,l[HO l p]? =some x/\x.At=p/\l.find? (λx=>decide (x.At=p))=some x/\Bs (λx=>decide (x.At=p)) 0 l=(HO l p:Int))\/
 (l.any (λx=>decide (x.At=p))=false/\l.find? (λx=>decide (x.At=p))=none/\Bs (λx=>decide (x.At=p)) 0 l= -1):=by
 rcases QW (λx=>decide (x.At=p)) l 0 with ⟨z,G⟩|⟨i,x,z,G,O⟩
 .refine .inr ⟨?_,z,G⟩;simpa[aB] using z
 .have Q:x.At=p:=by simpa using Rp z
  have hb:=Oz h O Q;refine .inl ⟨?_,x,by rw[hb];exact O,Q,z,by rw[G,hb,FV]⟩;simp only[Zeb,BL];exact⟨x,AZ O,Q⟩
def at_.fv(a:Ak×Ab):Int:=(Bb) (a.1) (a.2)
def at_.row:AA:=vK (b2 (qR Ak.d_le) (qR Ab.d_le)) rI (λa=>Dl none a.1.Tiles=true) at_.fv
def at_.q:=AT (R:=at_.row) rfl
def at_.ok:AB Tryz.prog 184 at_.row:=by
 refine vw (tC BinP.ok tN) Tryz.func184 rfl (by kernel_rfl) ?_;intro a z;simp only[Tryz.f184];simp(disch:=omega)only[ZA,simprocAttr,at_.fv,BinP.q,BinP.ar,BinP.fv];refine⟨z,?_⟩;rcases Qz4 (p:=a.2) z with ⟨O,x,G,Z,h4,h5⟩|⟨O,G,Z⟩
 .rw[An O];refine⟨(Ce.1 G).1,λy Q=> ?_⟩;rw[G] at Q;obtain rfl:=AD Q;simp[Bb,h4]
 .rw[O,Af (by simp)];simp[Bb,G]
def placeAt.rc:D->Option (Int):=DJ
def placeAt.re:Int->D:=D.int .i64
def placeAt.rle: ∀d b,placeAt.rc d=some b->Le d (placeAt.re b):=N7
def placeAt.fv(a:Ak×Ab):Int:=(λa p=>Bs (λx=>decide (x.At=p)) 0 a.Tiles) (a.1) (a.2)
def placeAt.row:AA:=vK (b2 (qR Ak.d_le) (qR Ab.d_le)) (RK.mk placeAt.rc placeAt.re placeAt.rle) (λa=>Dl none a.1.Tiles=true) placeAt.fv
def placeAt.q:=AT (R:=placeAt.row) rfl
def placeAt.ok:AB Tryz.prog 287 placeAt.row:=by
 refine vw (tC BinP.ok tN) Tryz.func287 rfl (by kernel_rfl) ?_;intro a z;simp only[Tryz.f287];simp(disch:=omega)only[ZA,simprocAttr,placeAt.fv,placeAt.rc,BinP.q,BinP.ar,BinP.fv];refine⟨z,?_⟩;rcases Qz4 (p:=a.2) z with ⟨G,x,Q,O,h4,Z⟩|⟨G,Q,O⟩
 .rw[An G,Z]
 .rw[G,Af (by simp),O]
def B9{β:Type}:List (Ab×β)->Ab->Option β
 |[],_=>none
 |(k,v)::r,p=>if p=k then some v else B9 r p
def KM(p q:Ab):D.beql (Ab.c p) (Ab.c q)=decide (p=q):=by
 cases p;cases q;simp only[Ab.c,D.beql,D.beq,Ab.mk.injEq,F7];rw[VQ];simp
def bA{β:Type}(e:Ab×β->D×D)(g:β->D)(z: ∀p,e p=(.agg (Ab.c p.1),g p.2))(x y:Int): ∀(l:List (Ab×β)),lk (l.map e) (.agg [.int .i64 x,.int .i64 y])=(B9 l ⟨x,y⟩).map g
 |[]=>rfl
 |q::r=>by
  have G:D.beq (.agg [.int .i64 x,.int .i64 y]) (.agg (Ab.c q.1))=decide ((⟨x,y⟩:Ab)=q.1):=KM ⟨x,y⟩ q.1;obtain⟨k,v⟩:=q;simp only[Bd,z,lk,B9,G];by_cases h:(⟨x,y⟩:Ab)=k
  .simp[h]
  .simp[h,bA e g z x y r]
def Mp{β:Type}(e:Ab×β->D×D)(g:β->D)(Q: ∀p,e p=(.agg (Ab.c p.1),g p.2))(x y:Int)(l:List (Ab×β))(Ks:D->Prop)(Kn:Prop):
 Gb (l.map e) (.agg [.int .i64 x,.int .i64 y]) Ks Kn=((∀v,B9 l ⟨x,y⟩=some v->Ks (g v))/\(B9 l ⟨x,y⟩=none->Kn)):=by
 apply propext;unfold Gb;rw[bA e g Q];constructor
 .rintro⟨G,O⟩;exact⟨λv z=>G _ (by rw[z];rfl),λh=>O (by rw[h];rfl)⟩
 .rintro⟨G,O⟩;refine⟨λv z=> ?_,λh=>O (by simpa using h)⟩;simp only[D4] at z;obtain⟨w,Z,rfl⟩:=z;exact G w Z
def Yo(x y:Int)(l:List (Ab×Int))(Ks:D->Prop)(Kn:Prop):Gb (l.map DM) (.agg [.int .i64 x,.int .i64 y]) Ks Kn=((∀v,B9 l ⟨x,y⟩=some v->Ks (.int .i64 v))/\(B9 l ⟨x,y⟩=none->Kn)):=
 Mp DM (.int .i64) (λ_=>rfl) x y l Ks Kn
def Yp(x y:Int)(l:List (Ab×List Int))(Ks:D->Prop)(Kn:Prop):Gb (l.map CN) (.agg [.int .i64 x,.int .i64 y]) Ks Kn=((∀v,B9 l ⟨x,y⟩=some v->Ks (.sl false 1 (v.map Aj)))/\(B9 l ⟨x,y⟩=none->Kn)):=
 Mp CN (λv=> .sl false 1 (v.map Aj)) (λ_=>rfl) x y l Ks Kn
def Cs(l:List (Ab×Int))(p:Ab):Int:=(B9 l p).getD (-1)
def catC.fv(a:Cj×Ab):Int:=(λc p=>Cs c.Tl p) (a.1) (a.2)
def catC.row:AA:=CR (b2 (qP 6 Cj.d_le) (qR Ab.d_le)) rI (λa=>True) catC.fv
def catC.q:=CY (R:=catC.row) rfl
def catC.ok:AB Tryz.prog 186 catC.row:=by
 refine Fy tN Tryz.func186 rfl (by kernel_rfl) ?_;intro a G;simp only[Tryz.f186];simp(disch:=omega)only[ZA,simprocAttr,catC.fv,D.sc,D.scs,Bn];simp(disch:=omega)only[ZA,simprocAttr,D.sc,D.scs,Bn,Yo];simp only[Cs];exact⟨λv z=>by rw[show B9 a.1.Tl a.2=some v from z];rfl,λz=>by rw[show B9 a.1.Tl a.2=none from z];rfl⟩
def Gp(s:AC)(f:Ab->Int)(p:Ab)(t:Int)(d:Int):Int:=if 0<=f (Bu p d) then Gk s t d (f (Bu p d)) else 0
def C9(s:AC)(f:Ab->Int)(p:Ab)(t:Int):Nat->Int
 |0=>0
 |k+1=>C9 s f p t k+Gp s f p t k
def Wq(s:AC)(a:Ak)(p:Ab)(t:Int): ∀k,C9 s (Bb a) p t k=J4 s a p t k
 |0=>rfl
 |k+1=>by simp only[C9,J4,Wq s a p t k];rfl
def SM(s:AC)(f:Ab->Int):Prop:= ∀p,0<=f p->FR s (f p)
def fR{s:AC}(h:BF s)(f:Ab->Int)(p:Ab)(t d:Int):0<=Gp s f p t d/\Gp s f p t d<=4:=by
 simp only[Gp,Gk];split
 .split
  .exact Qp1 h _
  .omega
 .omega
def vC{s:AC}(h:BF s)(f:Ab->Int)(p:Ab)(t:Int): ∀(k:Nat),0<=C9 s f p t k/\C9 s f p t k<=4*k
 |0=>by simp[C9]
 |k+1=>by
  have z:=vC h f p t k;have G:=fR h f p t k;simp only[C9];omega
def bindC.ar:List PK->Option (AC×Ab×Int×Cj)
 |[.val (.agg z),.val (.agg G),.val (.int .i64 O),.val (.fn 186 [.ref Q] [])]=>(AC.d z).bind λZ=>(Ab.d G).bind λy1=>(Cj.d (Q.take 6)).bind λy3=>some (Z,y1,O,y3)
 |_=>none
def bindC.ae(a:AC×Ab×Int×Cj):List PK:=[.val (.agg (AC.c a.1)),.val (.agg (Ab.c a.2.1)),.val (.int .i64 a.2.2.1),.val (.fn 186 [.ref (Cj.c a.2.2.2)] [])]
def bindC.le: ∀z a,bindC.ar z=some a->BN z (bindC.ae a):=by
 intro z a h;unfold bindC.ar at h;split at h
 .simp only[Ef,AJ] at h;obtain⟨Q,h0,Z,G,y3,O,rfl⟩:=h;exact⟨QO (AC.d_le _ _ h0),QO (Ab.d_le _ _ G),Cr.refl _,Te ⟨Rd (G9.trans_take (Cj.d_le _ _ O)),trivial⟩,trivial⟩
 .cases h
def bindC.fv(a:AC×Ab×Int×Cj):Int:=(λs p t c=>C9 s (Cs c.Tl) p t 4) (a.1) (a.2.1) (a.2.2.1) (a.2.2.2)
def bindC.row:AA:=Lm bindC.ar (λa=>BF a.1/\SM a.1 (Cs a.2.2.2.Tl)/\FD a.2.1/\FR a.1 a.2.2.1) (λa=>(D.int .i64) (bindC.fv a))
def bindC.q:=yG bindC.row rfl
def bindC.ok:AB Tryz.prog 187 bindC.row:=by
 refine rX CZ (tC step_.ok (tC bond_.ok (tC catC.ok tN))) Tryz.func187 rfl (by kernel_rfl) (by kernel_rfl) (ar:=bindC.ar) (ae:=bindC.ae) bindC.le (n:=4) (λ_=>rfl) (by decide) (rc:=(DJ)) (re:=(D.int .i64)) (N7) (f:=bindC.fv) ?_;intro a z;simp only[Tryz.f187];simp(disch:=omega)only[ZA,simprocAttr,bindC.ae,bindC.fv];obtain⟨G,O,Q,Z⟩:=z;refine AP.old ⟨{k:Nat//k<=4},λk=>⟨[(12,.im (.int .i64 k.1)),(9,.im (.int .i64 (C9 a.1 (Cs a.2.2.2.Tl) a.2.1 a.2.2.1 k.1))),(8,.im (.int .i64 0)),(5,.ptr 1 0),(4,.ptr 0 0),(2,.im (.int .i64 a.2.2.1)),(3,.im (.fn 186 [.ref (Cj.c a.2.2.2)] []))],[(1,(true,.cells 96 [.im (.int .i64 a.2.1.X),.im (.int .i64 a.2.1.Y)])),(0,(true,.cells 45 ((AC.c a.1).map .im)))],2⟩,λk=>4 - k.1,λk=>⟨by simp[Ai.good,Am,Ac,A8,AV.bel,Aq,AC.c],AQ _⟩,⟨⟨0,by simp⟩,by simp(disch:=omega)only[ZA,simprocAttr,sub,C9]⟩,λk=> ?_⟩;obtain⟨k,aa⟩:=k;simp(disch:=omega)only[ZA,simprocAttr,Cl,step_.q,step_.fv,step_.re,bond_.q,bond_.fv,bond_.re,catC.q,catC.fv,D.sc,D.scs,Bn,sub,AO];have hb:=vC G (Cs a.2.2.2.Tl) a.2.1 a.2.2.1 k;have ht:=fR G (Cs a.2.2.2.Tl) a.2.1 a.2.2.1 k;refine⟨λhk=>⟨⟨Q,by omega⟩,λhp=>⟨⟨G,Z,⟨by omega,by omega⟩,O _ hp⟩,⟨⟨k+1,by omega⟩,by simp only;omega,?_,?_⟩⟩,λhp=>⟨⟨k+1,by omega⟩,by simp only;omega,?_,?_⟩⟩,λhk=> ?_⟩
 .rw[AG (by omega) (by omega)];simp only;omega
 .simp only[C9];simp only[Gp,An hp] at ht⊢;rw[AG (by omega) (by omega)]
 .rw[AG (by omega) (by omega)];simp only;omega
 .simp only[C9,Gp,Af hp];omega
 .have:k=4:=by omega
  rw[this]
def bindA.ar:List PK->Option (AC×Ab×Int×Ak)
 |[.val (.agg z),.val (.agg G),.val (.int .i64 O),.val (.fn 184 [.agg Q] [])]=>(AC.d z).bind λZ=>(Ab.d G).bind λy1=>(Ak.d Q).bind λy3=>some (Z,y1,O,y3)
 |_=>none
def bindA.ae(a:AC×Ab×Int×Ak):List PK:=[.val (.agg (AC.c a.1)),.val (.agg (Ab.c a.2.1)),.val (.int .i64 a.2.2.1),.val (.fn 184 [.agg (Ak.c a.2.2.2)] [])]
def bindA.le: ∀z a,bindA.ar z=some a->BN z (bindA.ae a):=by
 intro z a h;unfold bindA.ar at h;split at h
 .simp only[Ef,AJ] at h;obtain⟨Q,h0,Z,G,y3,O,rfl⟩:=h;exact⟨QO (AC.d_le _ _ h0),QO (Ab.d_le _ _ G),Cr.refl _,Te ⟨QO (Ak.d_le _ _ O),trivial⟩,trivial⟩
 .cases h
def bindA.fv(a:AC×Ab×Int×Ak):Int:=(λs p t c=>C9 s (Bb c) p t 4) (a.1) (a.2.1) (a.2.2.1) (a.2.2.2)
def bindA.row:AA:=Lm bindA.ar (λa=>BF a.1/\SM a.1 (Bb a.2.2.2)/\FD a.2.1/\FR a.1 a.2.2.1/\Dl none a.2.2.2.Tiles=true) (λa=>(D.int .i64) (bindA.fv a))
def bindA.q:=yG bindA.row rfl
def bindA.ok:AB Tryz.prog 187 bindA.row:=by
 refine rX CZ (tC step_.ok (tC bond_.ok (tC at_.ok tN))) Tryz.func187 rfl (by kernel_rfl) (by kernel_rfl) (ar:=bindA.ar) (ae:=bindA.ae) bindA.le (n:=4) (λ_=>rfl) (by decide) (rc:=(DJ)) (re:=(D.int .i64)) (N7) (f:=bindA.fv) ?_;intro a z;simp only[Tryz.f187];simp(disch:=omega)only[ZA,simprocAttr,bindA.ae,bindA.fv];obtain⟨G,O,Q,Z,h5⟩:=z;refine AP.old ⟨{k:Nat//k<=4},λk=>⟨[(12,.im (.int .i64 k.1)),(9,.im (.int .i64 (C9 a.1 (Bb a.2.2.2) a.2.1 a.2.2.1 k.1))),(8,.im (.int .i64 0)),(5,.ptr 1 0),(4,.ptr 0 0),(2,.im (.int .i64 a.2.2.1)),(3,.im (.fn 184 [.agg (Ak.c a.2.2.2)] []))],[(1,(true,.cells 96 [.im (.int .i64 a.2.1.X),.im (.int .i64 a.2.1.Y)])),(0,(true,.cells 45 ((AC.c a.1).map .im)))],2⟩,λk=>4 - k.1,λk=>⟨by simp[Ai.good,Am,Ac,A8,AV.bel,Aq,AC.c],AQ _⟩,⟨⟨0,by simp⟩,by simp(disch:=omega)only[ZA,simprocAttr,sub,C9]⟩,λk=> ?_⟩;obtain⟨k,aa⟩:=k;simp(disch:=omega)only[ZA,simprocAttr,Ak.d,step_.q,step_.fv,step_.re,bond_.q,bond_.fv,bond_.re,at_.q,at_.fv,D.sc,D.scs,Bn,sub,AO];have hb:=vC G (Bb a.2.2.2) a.2.1 a.2.2.1 k;have ht:=fR G (Bb a.2.2.2) a.2.1 a.2.2.1 k;refine⟨λhk=>⟨⟨Q,by omega⟩,h5,λhp=>⟨⟨G,Z,⟨by omega,by omega⟩,O _ hp⟩,⟨⟨k+1,by omega⟩,by simp only;omega,?_,?_⟩⟩,λhp=>⟨⟨k+1,by omega⟩,by simp only;omega,?_,?_⟩⟩,λhk=> ?_⟩
 .rw[AG (by omega) (by omega)];simp only;omega
 .simp only[C9];simp only[Gp,An hp] at ht⊢;rw[AG (by omega) (by omega)]
 .rw[AG (by omega) (by omega)];simp only;omega
 .simp only[C9,Gp,Af hp];omega
 .have:k=4:=by omega
  rw[this]
def binding_.row:AA:=nH bindC.row bindA.row
def binding_.ok:AB Tryz.prog 187 binding_.row:=W5 bindC.ok bindA.ok
def Ip(s:Ax)(f:Ab->Int)(p:Ab)(t:Int):Bool:=E3 p && (decide (f p<0) && decide (s.Temperature<=C9 s.Set f p t 4))
def fitsC.fv(a:Cj×Ab×Int):Bool:=(λc p t=>Ip c.Sys (Cs c.Tl) p t) (a.1) (a.2.1) (a.2.2)
def fitsC.row:AA:=CR (b3 (qP 6 Cj.d_le) (qR Ab.d_le) qI) rB (λa=>BF a.1.Sys.Set/\SM a.1.Sys.Set (Cs a.1.Tl)/\FR a.1.Sys.Set a.2.2) fitsC.fv
def fitsC.q:=CY (R:=fitsC.row) rfl
def fitsC.ok:AB Tryz.prog 137 fitsC.row:=by
 refine Fy (tC ValidPoint.ok (tC catC.ok (tC binding_.ok tN))) Tryz.func137 rfl (by kernel_rfl) ?_;intro a z;simp only[Tryz.f137];simp(disch:=omega)only[ZA,simprocAttr,Ak.d,Cl,fitsC.fv,ValidPoint.q,ValidPoint.fv,catC.q,catC.fv,binding_.row,nH,bindC.q,bindC.ar,bindC.fv,bindA.q,bindA.ar,bindA.fv,D.sc,D.scs,Bn];obtain⟨G,O,Q⟩:=z;cases e1:E3 a.2.1
 .simp[Ip,e1]
 .rw[An rfl]
  split<;>rename_i h
  .exact .inl ⟨⟨G,O,ZJ e1,Q⟩,by simp[Ip,e1,h]⟩
  .simp[Ip,e1,h]
def Bf{β:Type}:List (Ab×β)->Ab->β->List (Ab×β)
 |[],p,v=>[(p,v)]
 |(k,w)::r,p,v=>if p=k then (p,v)::r else (k,w)::Bf r p v
def DA{β:Type}:List (Ab×β)->Ab->List (Ab×β)
 |[],_=>[]
 |(k,w)::r,p=>if p=k then r else (k,w)::DA r p
def KY{β:Type}(e:Ab×β->D×D)(g:β->D)(z: ∀p,e p=(.agg (Ab.c p.1),g p.2))(x y:Int)(v:β): ∀(l:List (Ab×β)),G7 (l.map e) (.agg [.int .i64 x,.int .i64 y]) (g v)=(Bf l ⟨x,y⟩ v).map e
 |[]=>by simp[G7,Bf,z,Ab.c]
 |q::r=>by
  have G:D.beq (.agg [.int .i64 x,.int .i64 y]) (.agg (Ab.c q.1))=decide ((⟨x,y⟩:Ab)=q.1):=KM ⟨x,y⟩ q.1;obtain⟨k,w⟩:=q;simp only[Bd,z,G7,Bf,G];by_cases h:(⟨x,y⟩:Ab)=k
  .simp[h,z,Ab.c];exact⟨by rw[<-h],by rw[<-h]⟩
  .simp[h,z,KY e g z x y v r]
def RX{β:Type}(e:Ab×β->D×D)(g:β->D)(z: ∀p,e p=(.agg (Ab.c p.1),g p.2))(x y:Int): ∀(l:List (Ab×β)),IR (l.map e) (.agg [.int .i64 x,.int .i64 y])=(DA l ⟨x,y⟩).map e
 |[]=>rfl
 |q::r=>by
  have G:D.beq (.agg [.int .i64 x,.int .i64 y]) (.agg (Ab.c q.1))=decide ((⟨x,y⟩:Ab)=q.1):=KM ⟨x,y⟩ q.1;obtain⟨k,w⟩:=q;simp only[Bd,z,IR,DA,G];by_cases h:(⟨x,y⟩:Ab)=k
  .simp[h]
  .simp[h,z,RX e g z x y r]
def kK(x y:Int)(v:List Int)(l:List (Ab×List Int)):G7 (l.map CN) (.agg [.int .i64 x,.int .i64 y]) (.sl false 1 (v.map Aj))=(Bf l ⟨x,y⟩ v).map CN:=
 KY CN (λv=> .sl false 1 (v.map Aj)) (λ_=>rfl) x y v l
def Vs(x y v:Int)(l:List (Ab×Int)):G7 (l.map DM) (.agg [.int .i64 x,.int .i64 y]) (.int .i64 v)=(Bf l ⟨x,y⟩ v).map DM:=
 KY DM (.int .i64) (λ_=>rfl) x y v l
def RW(x y:Int)(l:List (Ab×List Int)):IR (l.map CN) (.agg [.int .i64 x,.int .i64 y])=(DA l ⟨x,y⟩).map CN:=
 RX CN (λv=> .sl false 1 (v.map Aj)) (λ_=>rfl) x y l
def Gm(s:Ax)(f:Ab->Int)(q:Ab):Nat->List Int
 |0=>[]
 |k+1=>Gm s f q k++(if Ip s f q k=true then [(k:Int)] else [])
def Qus(s:Ax)(f:Ab->Int)(q:Ab): ∀k,(Gm s f q k).length<=k
 |0=>by simp[Gm]
 |k+1=>by
  have:=Qus s f q k
  simp only[Gm,Dq]
  split<;>simp<;>omega
def JY(s:Ax)(f:Ab->Int)(op:List (Ab×List Int))(q:Ab):List (Ab×List Int):=
 if Gm s f q s.Set.Tiles.length=[] then DA op q else Bf op q (Gm s f q s.Set.Tiles.length)
def Gn(s:Ax)(f:Ab->Int)(op:List (Ab×List Int))(p:Ab):Nat->List (Ab×List Int)
 |0=>op
 |k+1=>JY s f (Gn s f op p k) (Bu p k)
def BV(s:Ax):List AV:=[.im (.sl false 2 (s.Set.Glues.map Ar.c)),.im (.sl false 2 (s.Set.Tiles.map Tile.c)),.im (.sl false 3 (s.Seed.Tiles.map Al.c)),.im (.int .i64 s.Temperature),.mp 1,.mp 2]
def xF:KT:=⟨true,[.int .i64,.int .i64]⟩
def B5(c:Cj):Av:=[(0,(true,.cells 155 (BV c.Sys))),(1,(true,.map ⟨true,[.int .i64,.int .i64]⟩ (c.Tl.map DM))),(2,(true,.map ⟨true,[.int .i64,.int .i64]⟩ (c.Op.map CN)))]
def Gd(c:Cj)(j:Nat):Ao (B5 c) j=true↔j<3:=by
 simp only[Ao,B5,hget];by_cases h0:j=0
 .subst h0;simp
 .by_cases Q:j=1
  .subst Q;simp
  .by_cases Z:j=2
   .subst Z;simp
   .have z:(0==j)=false:=by simp;omega
    have G:(1==j)=false:=by simp;omega
    have O:(2==j)=false:=by simp;omega
    simp[z,G,O];omega
def NK(c:Cj):Prop:=BF c.Sys.Set/\SM c.Sys.Set (Cs c.Tl)/\c.Sys.Set.Tiles.length<=1000000
def lookC.ca(a:Cj×Ab):List AV:=[.ptr 0 0,.im (.agg [.int .i64 a.2.X,.int .i64 a.2.Y])]
def lookC.H1(a:Cj×Ab):Av:=[(2,(true,.map ⟨true,[.int .i64,.int .i64]⟩ ((Gn a.1.Sys (Cs a.1.Tl) a.1.Op a.2 4).map CN)))]
def xE(j:Nat):Bool:=j==2
def lookC.row:AA:=AE lookC.ca (λa=>B5 a.1) 3 (λa=>NK a.1/\FD a.2) xE (λ_=> .im (.tup [])) lookC.H1 0
def lookC.ok:AB Tryz.prog 103 lookC.row:=by
 refine ow (tC step_.ok (tC fitsC.ok tN)) Tryz.func103 rfl (by kernel_rfl) (exB:=λ_=>false) (R:=λ_ r=>r= .im (.tup [])) (λ_=>rfl)
  (λa=>by simp[lookC.ca,B5,BV,Aq,AV.bel,Ac,A8,BO,Ad.nms,AH,AV.nms,Ao,hget]) (λa p hp=> ?_) (λa r h=>by subst h;exact CF.refl _) ?_
 rotate_left
 intro a G;simp only[Tryz.f103,lookC.ca,B5,BV,lookC.H1];simp(disch:=omega)only[ZA,simprocAttr];obtain⟨⟨Q,Z,ad⟩,z⟩:=G;refine AP.old ⟨{k:Nat//k<=4},λk=>⟨[(8,.im (.int .i64 k.1)),(3,.ptr 3 0),(0,.ptr 0 0)],[(3,(true,.cells 96 [.im (.int .i64 a.2.X),.im (.int .i64 a.2.Y)])),(0,(true,.cells 155 (BV a.1.Sys))),(1,(true,.map ⟨true,[.int .i64,.int .i64]⟩ (a.1.Tl.map DM))),(2,(true,.map ⟨true,[.int .i64,.int .i64]⟩ ((Gn a.1.Sys (Cs a.1.Tl) a.1.Op a.2 k.1).map CN)))],4⟩,λk=>4 - k.1,λk=>⟨by simp[Ai.good,Am,Ac,A8,AV.bel,Aq,BV],AQ _⟩,⟨⟨0,by simp⟩,by simp(disch:=omega)only[ZA,simprocAttr,BV,sub,Gn,BV]⟩,λk=> ?_⟩;obtain⟨k,ac⟩:=k;simp only[BV];simp(disch:=omega)only[ZA,simprocAttr,step_.q,step_.fv,step_.re,xE,AO];have hq:FD a.2:=z;refine⟨λhk=>⟨⟨z,by omega⟩,λhn=> ?_⟩,λhk=> ?_⟩
 .refine AP.ren ⟨{j:Nat//j<=a.1.Sys.Set.Tiles.length},λj=>⟨[(21,.im (.int .i64 j.1)),(20,.im (.int .i64 a.1.Sys.Set.Tiles.length)),(6,.own 6),(5,.ptr 4 0),(8,.im (.int .i64 k)),(3,.ptr 3 0),(0,.ptr 0 0)],[(6,(true,.arr 2 1 ((Gm a.1.Sys (Cs a.1.Tl) (Bu a.2 k) j.1).map Aj))),(4,(true,.cells 96 [.im (.int .i64 (Bu a.2 k).X),.im (.int .i64 (Bu a.2 k).Y)])),(3,(true,.cells 96 [.im (.int .i64 a.2.X),.im (.int .i64 a.2.Y)])),(0,(true,.cells 155 (BV a.1.Sys))),(1,(true,.map ⟨true,[.int .i64,.int .i64]⟩ (a.1.Tl.map DM))),(2,(true,.map ⟨true,[.int .i64,.int .i64]⟩ ((Gn a.1.Sys (Cs a.1.Tl) a.1.Op a.2 k).map CN)))],7⟩,λj=>a.1.Sys.Set.Tiles.length - j.1,λj=>⟨by simp[Ai.good,Am,Ac,A8,AV.bel,Aq,BV],by simp⟩,⟨⟨0,by simp⟩,[(6,some 5)],?_⟩,λj=> ?_⟩
  .simp only[Ay,BV];simp(disch:=omega)only[ZA,simprocAttr,Bp,Gm]
   try simp
  obtain⟨j,ab⟩:=j;simp only[BV];simp(disch:=omega)only[ZA,simprocAttr,Cl,fitsC.q,fitsC.fv,D6,AO,sub];have aa:=Qus a.1.Sys (Cs a.1.Tl) (Bu a.2 k) j;refine⟨λhj=>⟨⟨Q,Z,by omega,by omega⟩,λhf=>⟨by omega,⟨j+1,by omega⟩,[(6,some 8)],by simp only;omega,?_⟩,λhf=>⟨⟨j+1,by omega⟩,[(6,some 6)],by simp only;omega,?_⟩⟩,λhj=> ?_⟩
  .simp only[Ay];simp(disch:=omega)only[ZA,simprocAttr,Bp];refine⟨?_,?_⟩
   .rw[AG (by omega) (by omega)];omega
   .simp[Gm,hf,Aj]
  .simp only[Ay];simp(disch:=omega)only[ZA,simprocAttr,Bp];refine⟨?_,?_⟩
   .rw[AG (by omega) (by omega)];omega
   .simp[Gm,hf]
  have O:j=a.1.Sys.Set.Tiles.length:=by omega
  subst O;rw[kK,RW];have hl:(0:Int)<((Gm a.1.Sys (Cs a.1.Tl) (Bu a.2 k) a.1.Sys.Set.Tiles.length).length:Int)↔Gm a.1.Sys (Cs a.1.Tl) (Bu a.2 k) a.1.Sys.Set.Tiles.length≠[]:=by
   rw[<-fV];omega
  intro _;refine⟨λh0=>⟨⟨k+1,by omega⟩,by simp only;omega,?_,?_⟩,λh0=>⟨⟨k+1,by omega⟩,by simp only;omega,?_,?_⟩⟩
  .rw[AG (by omega) (by omega)];simp only;omega
  .simp only[Gn,JY];rw[Af (hl.1 h0)]
  .rw[AG (by omega) (by omega)];simp only;omega
  .simp only[Gn,JY];rw[An (FX.1 (λh=>h0 (hl.2 h)))]
 .have:k=4:=by omega
  subst this;simp[xE]
 simp[lookC.H1] at hp;subst hp;exact .inl ⟨by omega,rfl,rfl⟩
def mG{β:Type}(p q:Ab)(v:β): ∀(l:List (Ab×β)),B9 (Bf l p v) q=if q=p then some v else B9 l q
 |[]=>by simp[Bf,B9]
 |(k,w)::r=>by
  simp only[Bf];by_cases h:p=k
  .subst h;rw[An rfl];simp only[B9];by_cases z:q=p
   .rw[An z,An z]
   .rw[Af z,Af z,Af z]
  .rw[Af h];simp only[B9,mG p q v r];by_cases z:q=k
   .rw[An z,An z,Af (λG=>h (G.symm.trans z))]
   .rw[Af z,Af z]
def Ci(l:List Al):List (Ab×Int):=l.foldl (λt x=>Bf t x.At x.Tile) []
def PN(l:List Al)(x:Al):Ci (l++[x])=Bf (Ci l) x.At x.Tile:=by simp[Ci]
def HY(s:Ax)(f:Ab->Int)(l:List Al):List (Ab×List Int):=l.foldl (λo x=>Gn s f o x.At 4) []
def Pd(s:Ax)(f:Ab->Int)(l:List Al)(x:Al):HY s f (l++[x])=Gn s f (HY s f l) x.At 4:=by simp[HY]
def Nw{s:AC}: ∀(l:List Al),(∀x∈l,FR s x.Tile)->SM s (Cs (Ci l)):=by
 intro l;have G: ∀(l:List Al) (t:List (Ab×Int)),(∀p v,B9 t p=some v->FR s v)->(∀x∈l,FR s x.Tile)-> ∀p v,B9 (l.foldl (λt x=>Bf t x.At x.Tile) t) p=some v->FR s v:=by
  intro l;induction l with
  |nil=>intro t h _;exact h
  |cons x r ih=>
   intro t h O;refine ih _ ?_ (λy Q=>O y (BX _ Q));intro p v z;rw[mG] at z;split at z
   .cases z;exact O x (BT ..)
   .exact h p v z
 intro h p hp
 have:=G l [] (by intro p v h;simp[B9] at h) h p
 simp only[Cs,Ci] at hp⊢;cases hq:B9 (l.foldl (λt x=>Bf t x.At x.Tile) []) p with
 |none=>rw[hq] at hp;simp at hp
 |some v=>exact this v hq
def Kl{α:Type}{l:List α}{k:Nat}{x:α}(h:l[k]? =some x):l.take (k+1)=l.take k++[x]:=by rw[Iq,h];rfl
def Kk(s:Ax)(a:Ak):Cj:=⟨s,Ci a.Tiles,HY s (Cs (Ci a.Tiles)) a.Tiles⟩
def newC.ca(a:Ax×Ak):List AV:=[.im (.agg (Ax.c a.1)),.im (.agg (Ak.c a.2))]
def newC.H1(a:Ax×Ak):Av:=[(4,(true,.cells 155 [.im (.sl false 2 (a.1.Set.Glues.map Ar.c)),.im (.sl false 2 (a.1.Set.Tiles.map Tile.c)),.im (.sl false 3 (a.1.Seed.Tiles.map Al.c)),.im (.int .i64 a.1.Temperature),.mp 2,.mp 3])),
 (2,(true,.map ⟨true,[.int .i64,.int .i64]⟩ ((Kk a.1 a.2).Tl.map DM))),(3,(true,.map ⟨true,[.int .i64,.int .i64]⟩ ((Kk a.1 a.2).Op.map CN)))]
def newC.pre(a:Ax×Ak):Prop:=BF a.1.Set/\a.1.Set.Tiles.length<=1000000/\ ∀x∈a.2.Tiles,FR a.1.Set x.Tile/\FD x.At
def newC.ex(j:Nat):Bool:=j==2||(j==3||j==4)
def noB(_:Nat):Bool:=false
def newC.row:AA:=AE newC.ca (λ_=>[]) 0 newC.pre noB (λ_=> .ptr 4 0) newC.H1 5
def newC.ok:AB Tryz.prog 53 newC.row:=by
 refine ow (tC lookC.ok tN) Tryz.func53 rfl (by kernel_rfl) (exB:=newC.ex) (R:=λ_ r=>r= .ptr 4 0) (λ_=>rfl)
  (λa=>by simp[newC.ca,Ax.c,Ak.c,Aq,AV.bel,Ac,A8,BO]) (λa p hp=> ?_) (λa r h=>by subst h;exact CF.refl _) ?_
 rotate_left
 intro a O;simp only[Tryz.f53,newC.ca,newC.H1,Ax.c,Ak.c];simp(disch:=omega)only[ZA,simprocAttr];obtain⟨aa,ab,G⟩:=O;intro hn;refine AP.old ⟨{k:Nat//k<=a.2.Tiles.length},λk=>⟨[(18,.im (.int .i64 k.1)),(17,.im (.int .i64 a.2.Tiles.length)),(16,.im (.sl false 3 (a.2.Tiles.map Al.c))),(5,.ptr 4 0),(4,.im .nilp),(3,.ptr 1 0)],[(4,(true,.cells 155 [.im (.sl false 2 (a.1.Set.Glues.map Ar.c)),.im (.sl false 2 (a.1.Set.Tiles.map Tile.c)),.im (.sl false 3 (a.1.Seed.Tiles.map Al.c)),.im (.int .i64 a.1.Temperature),.mp 2,.mp 3])),(3,(true,.map ⟨true,[.int .i64,.int .i64]⟩ ([]))),(2,(true,.map ⟨true,[.int .i64,.int .i64]⟩ ((Ci (a.2.Tiles.take k.1)).map DM))),(1,(true,.cells 39 [.im (.sl false 3 (a.2.Tiles.map Al.c))]))],5⟩,λk=>a.2.Tiles.length - k.1,λk=>⟨by simp[Ai.good,Am,Ac,A8,AV.bel,Aq],AQ _⟩,⟨⟨0,by simp⟩,by simp(disch:=omega)only[ZA,simprocAttr,sub,Ci,ZeA]⟩,λk=> ?_⟩;obtain⟨k,Z⟩:=k;simp(disch:=omega)only[ZA,simprocAttr,sub,AO];refine⟨λz=>⟨z,λx Q=> ?_⟩,λz=> ?_⟩
 .refine⟨⟨k+1,by omega⟩,by simp only;omega,?_,?_⟩
  .rw[AG (by omega) (by omega)];simp only;omega
  .rw[Vs,Kl Q,PN]
 rw[DQ (by omega)];intro _;refine AP.old ⟨{k:Nat//k<=a.2.Tiles.length},λk=>⟨[(34,.im (.int .i64 k.1)),(33,.im (.int .i64 a.2.Tiles.length)),(32,.im (.sl false 3 (a.2.Tiles.map Al.c))),(5,.ptr 4 0),(4,.im .nilp),(3,.ptr 1 0)],[(4,(true,.cells 155 [.im (.sl false 2 (a.1.Set.Glues.map Ar.c)),.im (.sl false 2 (a.1.Set.Tiles.map Tile.c)),.im (.sl false 3 (a.1.Seed.Tiles.map Al.c)),.im (.int .i64 a.1.Temperature),.mp 2,.mp 3])),(3,(true,.map ⟨true,[.int .i64,.int .i64]⟩ ((HY a.1 (Cs (Ci a.2.Tiles)) (a.2.Tiles.take k.1)).map CN))),(2,(true,.map ⟨true,[.int .i64,.int .i64]⟩ ((Ci a.2.Tiles).map DM))),(1,(true,.cells 39 [.im (.sl false 3 (a.2.Tiles.map Al.c))]))],5⟩,λk=>a.2.Tiles.length - k.1,λk=>⟨by simp[Ai.good,Am,Ac,A8,AV.bel,Aq],AQ _⟩,⟨⟨0,by simp⟩,by simp(disch:=omega)only[ZA,simprocAttr,sub,HY,ZeA]⟩,λk=> ?_⟩;obtain⟨k,Z⟩:=k;simp(disch:=omega)only[ZA,simprocAttr,newC.ex,AO];refine⟨λz=>⟨z,λx Q=> ?_⟩,λz=> ?_⟩
 .refine AE.os (⟨a.1,Ci a.2.Tiles,HY a.1 (Cs (Ci a.2.Tiles)) (a.2.Tiles.take k)⟩,x.At) [4,2,3] ⟨⟨aa,Nw _ (λy hy=>(G y hy).1),ab⟩,(G x (AZ Q)).2⟩ (λj=>Gd _ j) rfl rfl ?_ ?_
  .simp(disch:=omega)only[ZA,simprocAttr,D6,lookC.ca,B5,BV]
  .simp(disch:=omega)only[ZA,simprocAttr,D6,lookC.H1,xE,sub];refine⟨⟨k+1,by omega⟩,by simp only;omega,?_,?_⟩
   .rw[AG (by omega) (by omega)];simp only;omega
   .rw[Kl Q,Pd]
 .rw[DQ (by omega)];exact⟨rfl,rfl⟩
 simp[newC.H1] at hp;rcases hp with rfl|rfl|rfl
 .exact .inr ⟨by omega,by simp,rfl,rfl⟩
 .exact .inr ⟨by omega,by simp,rfl,rfl⟩
 .exact .inr ⟨by omega,by simp,rfl,rfl⟩
def O5{a:Ax×Ak}(h:newC.pre a):NK (Kk a.1 a.2):=⟨h.1,Nw _ (λy z=>(h.2.2 y z).1),h.2.1⟩
def GA(a:Ak)(i:Int):Int:=(a.Tiles[i.toNat]?.map Al.Tile).getD (-1)
def Xe(s:AC)(a:Ak)(i:Nat)(d:Int):List Ag:=
 if 0<=Hm a i d then if 0<Gk s (GA a i) d (GA a (Hm a i d)) then [⟨i,Hm a i d,Gk s (GA a i) d (GA a (Hm a i d))⟩] else [] else []
def Kd(s:AC)(a:Ak)(i:Nat):Nat->List Ag
 |0=>[]
 |k+1=>Kd s a i k++Xe s a i (1 - k)
def FE(s:AC)(a:Ak):Nat->List Ag
 |0=>[]
 |k+1=>FE s a k++Kd s a k 2
def O1(s:AC)(a:Ak)(i:Nat)(d:Int):(Xe s a i d).length<=1:=by
 simp only[Xe];split
 .split<;>simp
 .simp
def Ql7(s:AC)(a:Ak)(i:Nat): ∀k,(Kd s a i k).length<=k
 |0=>by simp[Kd]
 |k+1=>by
  have z:=Ql7 s a i k;have G:=O1 s a i (1 - k);simp only[Kd,Dq];omega
def sI(s:AC)(a:Ak): ∀k,(FE s a k).length<=2*k
 |0=>by simp[FE]
 |k+1=>by
  have z:=sI s a k;have G:=Ql7 s a k 2;simp only[FE,Dq];omega
def iP{A:Type}(p:A->Bool)(l:List A):Bs p 0 l<(l.length:Int):=by
 rcases QW p l 0 with ⟨_,h⟩|⟨i,x,_,h,z⟩
 .omega
 .have:=(Ce.1 z).1
  omega
def KF(a:Ak)(i d:Int):Hm a i d<(a.Tiles.length:Int):=iP _ _
def l06Bonds.fv(a:AC×Ak):List Ag:=(λs a=>FE s a a.Tiles.length) (a.1) (a.2)
def l06Bonds.row:AA:=vK (b2 (qP 2 AC.d_le) (qP 1 Ak.d_le)) (rS Ag.d_le Ag.c_n) (λa=>BF a.1/\DP a.1 a.2/\a.2.Tiles.length<=1000000) l06Bonds.fv
def l06Bonds.q:=AT (R:=l06Bonds.row) rfl
def l06Bonds.ok:AB Tryz.prog 207 l06Bonds.row:=by
 refine vw (tC l06Neighbor.ok (tC l02Bond.ok tN)) Tryz.func207 rfl (by kernel_rfl) ?_;intro a z;simp only[Tryz.f207];simp(disch:=omega)only[ZA,simprocAttr,l06Bonds.fv];obtain⟨h1,Q,h3⟩:=z;refine AP.ren ⟨{k:Nat//k<=a.2.Tiles.length},λk=>⟨[(6,.im (.int .i64 k.1)),(5,.own 4),(0,.ptr 0 0),(1,.ptr 1 0)],[(4,(true,.arr 318 3 ((FE a.1 a.2 k.1).map Ag.c))),(0,(false,.view (AC.c a.1))),(1,(false,.view (Ak.c a.2)))],5⟩,λk=>a.2.Tiles.length - k.1,λk=>⟨by simp[Ai.good,Am,Ac,A8,AV.bel],by simp⟩,⟨⟨0,by simp⟩,[(4,some 3)],?_⟩,λk=> ?_⟩
 .simp only[Ay];simp(disch:=omega)only[ZA,simprocAttr,Bp,FE]
 obtain⟨k,ad⟩:=k;simp(disch:=omega)only[ZA,simprocAttr,AO];intro ab;refine⟨λhk=> ?_,λhk=> ?_⟩
 .refine AP.ren ⟨{j:Nat//j<=2},λj=>⟨[(7,.im (.int .i64 (1 - (j.1:Int)))),(6,.im (.int .i64 k)),(5,.own 5),(0,.ptr 0 0),(1,.ptr 1 0)],[(5,(true,.arr 318 3 ((FE a.1 a.2 k++Kd a.1 a.2 k j.1).map Ag.c))),(0,(false,.view (AC.c a.1))),(1,(false,.view (Ak.c a.2)))],6⟩,λj=>2 - j.1,λj=>⟨by simp[Ai.good,Am,Ac,A8,AV.bel],by simp⟩,⟨⟨0,by simp⟩,[(5,some 4)],?_⟩,λj=> ?_⟩
  .simp only[Ay];simp(disch:=omega)only[ZA,simprocAttr,Bp,Kd]
   try simp
  obtain⟨j,ac⟩:=j;simp(disch:=omega)only[ZA,simprocAttr,Ak.d,l06Neighbor.q,l06Neighbor.fv,l02Bond.q,l02Bond.fv,AO,NN,NJ,B1,D.one];have aa:=KF a.2 k (1 - j);have af:=sI a.1 a.2 k;have ag:=Ql7 a.1 a.2 k j;refine⟨λhd=>⟨⟨Q.1,hk,hd,by omega⟩,λhn=>⟨⟨j+1,by omega⟩,[(5,some 5)],by simp only;omega,?_⟩,λhn=>⟨hk,λx hx=>⟨by omega,aa,λy hy=>⟨⟨h1,Q.2 x (AZ hx),⟨by omega,by omega⟩,Q.2 y (AZ hy)⟩,λhb=>⟨by simp only[Dq];omega,⟨j+1,by omega⟩,[(5,some 7)],by simp only;omega,?_⟩,λhb=>⟨⟨j+1,by omega⟩,[(5,some 5)],by simp only;omega,?_⟩⟩⟩⟩⟩,λhd=>⟨⟨k+1,by omega⟩,[(4,some 5)],by simp only;omega,?_⟩⟩
  .simp only[Ay];simp(disch:=omega)only[ZA,simprocAttr,Bp];refine⟨?_,?_⟩
   .rw[AG (by omega) (by omega)];omega
   .simp only[Kd,Xe];rw[Af (by omega),D8]
  .simp only[Ay];simp(disch:=omega)only[ZA,simprocAttr,Bp];refine⟨?_,?_⟩
   .rw[AG (by omega) (by omega)];omega
   .have G:GA a.2 k=x.Tile:=by simp[GA,hx]
    have O:GA a.2 (Hm a.2 k (1 - j))=y.Tile:=by simp only[GA];rw[hy];rfl
    simp only[Kd,Xe];rw[An (by omega),G,O,An hb];simp[Ag.c]
  .simp only[Ay];simp(disch:=omega)only[ZA,simprocAttr,Bp];refine⟨?_,?_⟩
   .rw[AG (by omega) (by omega)];omega
   .have G:GA a.2 k=x.Tile:=by simp[GA,hx]
    have O:GA a.2 (Hm a.2 k (1 - j))=y.Tile:=by simp only[GA];rw[hy];rfl
    simp only[Kd,Xe];rw[An (by omega),G,O,Af hb,D8]
  .simp only[Ay];simp(disch:=omega)only[ZA,simprocAttr,Bp];have Z:j=2:=by omega
   subst Z;refine⟨?_,?_⟩
   .rw[AG (by omega) (by omega)];omega
   .simp only[FE]
 .have:k=a.2.Tiles.length:=by omega
  rw[this]
def IK:List Int->List Int->Bool
 |x::r,y::s=>if x=y then IK r s else decide (x<y)
 |_,_=>false
def Gw(v:Int)(l:List Int)(w:Int)(m:List Int):Bool:=if v=w then if l.length=m.length then IK l m else decide (l.length<m.length) else decide (v<w)
def l07Before.fv(a:Int×(List Int)×Int×(List Int)):Bool:=(Gw) (a.1) (a.2.1) (a.2.2.1) (a.2.2.2)
def l07Before.row:AA:=vK (b4 qI (qS Da Cp) qI (qS Da Cp)) rB (λa=>True) l07Before.fv
def l07Before.q:=AT (R:=l07Before.row) rfl
def l07Before.ok:AB Tryz.prog 244 l07Before.row:=by
 refine vw tN Tryz.func244 rfl (by kernel_rfl) ?_;intro a aa;simp only[Tryz.f244];simp(disch:=omega)only[ZA,simprocAttr,l07Before.fv]
 split<;>rename_i h
 .simp only[Gw];rw[Af h]
 intro ac ad
 split<;>rename_i h2
 .intro _ _;simp only[Gw];rw[An (FX.1 h),Af (by omega)]
 have hn:a.2.1.length=a.2.2.2.length:=by omega
 have hb:Gw a.1 a.2.1 a.2.2.1 a.2.2.2=IK a.2.1 a.2.2.2:=by simp only[Gw];rw[An (FX.1 h),An hn]
 rw[hb];refine AP.old ⟨{k:Nat//k<=a.2.1.length/\IK (a.2.1.drop k) (a.2.2.2.drop k)=IK a.2.1 a.2.2.2},λk=>⟨[(9,.im (.int .i64 k.1)),(8,.im (.bool false)),(0,.im (.int .i64 a.1)),(1,.im (.sl false 1 (a.2.1.map Aj))),(2,.im (.int .i64 a.2.2.1)),(3,.im (.sl false 1 (a.2.2.2.map Aj)))],[],0⟩,λk=>a.2.1.length - k.1,λk=>⟨by simp[Ai.good,Am,Ac,A8,AV.bel],AQ _⟩,⟨⟨0,by simp⟩,by simp(disch:=omega)only[ZA,simprocAttr,sub]⟩,λk=> ?_⟩;obtain⟨k,ab,z⟩:=k;simp(disch:=omega)only[ZA,simprocAttr,sub,AO];intro _;refine⟨λQ=>⟨Q,λx hx=>⟨by omega,λy hy=>⟨λZ=>⟨Q,λx' G=>⟨by omega,λy' O=> ?_⟩⟩,λhe=> ?_⟩⟩⟩,λQ=> ?_⟩
 .rw[hx] at G;rw[hy] at O;obtain rfl:=AD G;obtain rfl:=AD O;rw[EW hx,EW hy,IK,Af Z] at z;exact z
 .rw[EW hx,EW hy,IK,An (FX.1 he)] at z;refine⟨⟨k+1,by omega,z⟩,by simp only;omega,?_⟩;rw[AG (by omega) (by omega)];simp only;omega
 .rw[Dr (by omega),IK] at z
  .exact z
  .intros;simp_all
def Qix{l:List Al}(h:Dl none l=true):(l.map Al.At).Nodup:=by
 have z:=(kQ _ _ h).2;clear h;revert z;induction l with
 |nil=>intro _;simp
 |cons x r ih=>
  intro z;simp only[Bd,Ir];refine⟨λhm=> ?_,ih (λi j a b Z G hb=>z (i+1) (j+1) a b (by omega) (by simpa using G) (by simpa using hb))⟩;obtain⟨y,hy,O⟩:=Bv.1 hm;obtain⟨i,Q⟩:=Ku.1 hy
  have:=z 0 (i+1) x y (by omega) rfl (by simpa using Q)
  rw[O,tF] at this;cases this
def Qxu(n:Nat)(rows:List (List D)):(Bq rows).all (Aq n)=true:=by
 simp only[Bq,List.all_map,D3,Function.comp];intro r z;clear z;induction r with
 |nil=>simp[Aq]
 |cons x r ih=>simp[Aq,AV.bel,ih]
def LQ(F:List Nat)(H:Av): ∀(r:List D),DE F H (r.map .im)=r.map .im
 |[]=>rfl
 |x::r=>by simp only[Bd,DE,AV.fzA,LQ F H r]
def LR(F:List Nat)(H:Av): ∀(rows:List (List D)),DF F H (Bq rows)=Bq rows
 |[]=>rfl
 |x::r=>by
  have:=LR F H r
  simp only[Bq] at this;simp only[Bq,Bd,DF,LQ,this]
def Qzl(F:List Nat)(H:Av): ∀(a b:List (List AV)),DF F H (a++b)=DF F H a++DF F H b
 |[],b=>rfl
 |x::r,b=>by simp only[CT,DF,Qzl F H r b]
def Tx(π:List (Nat×Option Nat)): ∀(r:List D),DG π (r.map .im) (r.map .im)
 |[]=>by simp[DG]
 |x::r=>by simp only[Bd,DG,mt,Tx π r,Hx]
def Qzo(π:List (Nat×Option Nat)): ∀(rows:List (List D)),GJ π (Bq rows) (Bq rows)
 |[]=>by simp[GJ,Bq]
 |x::r=>by
  have:=Qzo π r
  simp only[Bq] at this;simp only[Bq,Bd,GJ,Tx,this,Hx]
def Qzb(F:List Nat)(H:Av)(rows:List (List D)):DF F H (rows.map λr=>r.map AV.im)=rows.map λr=>r.map AV.im:=LR F H rows
def uP(π:List (Nat×Option Nat))(rows:List (List D)):GJ π (rows.map λr=>r.map AV.im) (rows.map λr=>r.map AV.im)=True:=aM (Qzo π rows)
def Rt(n:Nat)(rows:List (List D)):(rows.map λr=>r.map AV.im).all (Aq n)=true:=Qxu n rows
def Qtl{α β:Type}{f:α->Option β}{g:β->α}(h: ∀y,f (g y)=some y): ∀(l:List β),A7 f (l.map g)=some l
 |[]=>rfl
 |x::r=>by simp only[Bd,A7,h,Qtl h r]
def X6(h:Nat->Option Au)(kx:Nat->Option Nat)(n:Nat)(rows:List (List D)):A7 (A7 λx=>Ek (Be h kx (n+1) x)) (rows.map λr=>r.map AV.im)=some rows:=
 Qtl (g:=λr=>r.map AV.im) (λy=>Qtl (g:=AV.im) (λ_=>rfl) y) rows
def Il{A:Type}(f:A->A):Nat->List A->List A
 |0,l=>l
 |_+1,[]=>[]
 |k+1,x::r=>f x::Il f k r
def Qwq{A:Type}(f:A->A): ∀(k:Nat) (l:List A),(Il f k l).length=l.length
 |0,_=>rfl
 |_+1,[]=>rfl
 |k+1,x::r=>by simp only[Il,CP,Qwq f k r]
def Qoo{A:Type}(f:A->A): ∀(k:Nat) (l:List A),(Il f k l)[k]? =l[k]?
 |0,_=>rfl
 |_+1,[]=>by simp[Il]
 |k+1,x::r=>by simp only[Il,HJ,Qoo f k r]
def Qn5{A:Type}(f:A->A): ∀(k:Nat) (l:List A) (x:A),l[k]? =some x->(Il f k l).set k (f x)=Il f (k+1) l
 |0,[],x,h=>by simp at h
 |0,y::r,x,h=>by
  simp only[GF,AJ] at h;subst h;simp[Il]
 |k+1,[],x,h=>by simp at h
 |k+1,y::r,x,h=>by
  have:=Qn5 f k r x (by simpa using h)
  rw[Il,Il,mS,this]
def Qabf{A:Type}(f:A->A)(k:Nat)(l:List A)(x:A)(h:l[k]? =some x)(hf:f x=x):Il f (k+1) l=Il f k l:=by
 rw[<-Qn5 f k l x h,hf];have z:(Il f k l)[k]? =some x:=by rw[Qoo,h]
 obtain⟨G,O⟩:=Ce.1 z;rw[<-O];exact List.set_getElem_self G
def Qvd{A:Type}(f:A->A): ∀(k:Nat) (l:List A),l.length<=k->Il f k l=l.map f
 |0,[],_=>rfl
 |0,x::r,h=>by simp at h
 |_+1,[],_=>rfl
 |k+1,x::r,h=>by simp only[Il,Bd,Qvd f k r (by simpa using h)]
def Xg:Nat->List Int
 |0=>[]
 |k+1=>Xg k++[(k:Int)]
def eG: ∀k,(Xg k).length=k
 |0=>rfl
 |k+1=>by simp[Xg,eG k]
def J2(x y v:Int):Int:=if v=Et x y then EO x y else v
def tS(own:List Int)(b:Ag):List Int:=own.map (J2 (own[b.A.toNat]?.getD 0) (own[b.B.toNat]?.getD 0))
def Cg(n:Nat)(bs:List Ag):Nat->List Int
 |0=>Xg n
 |k+1=>match bs[k]? with
  |some b=>tS (Cg n bs k) b
  |none=>Cg n bs k
def Qto(n:Nat)(bs:List Ag): ∀k,(Cg n bs k).length=n
 |0=>eG n
 |k+1=>by
  simp only[Cg];split
  .simp[tS,Qto n bs k]
  .exact Qto n bs k
def Dg(own:List Int)(i:Nat):Nat->List Int
 |0=>[]
 |k+1=>Dg own i k++(if own[i+k]? =some (i:Int) then [((i+k:Nat):Int)] else [])
def Qsd(own:List Int)(i:Nat): ∀k,(Dg own i k).length<=k
 |0=>by simp[Dg]
 |k+1=>by
  have:=Qsd own i k
  simp only[Dg,Dq]
  split<;>simp<;>omega
def B8(own:List Int)(n:Nat):Nat->List (List Int)
 |0=>[]
 |k+1=>B8 own n k++(if own[k]? =some (k:Int) then [Dg own k (n - k)] else [])
def sP(own:List Int)(n:Nat): ∀k,(B8 own n k).length<=k
 |0=>by simp[B8]
 |k+1=>by
  have:=sP own n k
  simp only[B8,Dq]
  split<;>simp<;>omega
def VA(n:Int)(bs:List Ag):List (List Int):=B8 (Cg n.toNat bs bs.length) n.toNat n.toNat
def Lk(n:Int)(bs:List Ag):Prop:= ∀b∈bs,0<=b.A/\b.A<n/\0<=b.B/\b.B<n
def l06Groups.fv(a:Int×(List Ag)):List (List Int):=(VA) (a.1) (a.2)
def l06Groups.row:AA:=vK (b2 qI (qS Ag.d_le Ag.c_n)) (rS Qi NW) (λa=>0<=a.1/\a.1<=1000000/\Lk a.1 a.2) l06Groups.fv
def l06Groups.q:=AT (R:=l06Groups.row) rfl
def l06Groups.ok:AB Tryz.prog 238 l06Groups.row:=by
 refine vw (tC l00Min.ok (tC l00Max.ok tN)) Tryz.func238 rfl (by kernel_rfl) ?_;intro a ad;simp only[Tryz.f238];simp(disch:=omega)only[ZA,simprocAttr,l06Groups.fv];obtain⟨aj,ak,Z⟩:=ad;obtain⟨n,hn⟩: ∃n:Nat,a.1=n:=⟨a.1.toNat,by omega⟩;simp only[VA,hn,B0];rw[hn] at aj ak Z;refine AP.ren ⟨{k:Nat//k<=n},λk=>⟨[(6,.im (.int .i64 k.1)),(5,.own 2),(0,.im (.int .i64 n)),(1,.im (.sl false 3 (a.2.map Ag.c)))],[(2,(true,.arr 2 1 ((Xg k.1).map Aj)))],3⟩,λk=>n - k.1,λk=>⟨by simp[Ai.good,Am,Ac,A8,AV.bel],by simp⟩,⟨⟨0,by simp⟩,[(2,some 1)],?_⟩,λk=> ?_⟩
 .simp only[Ay];simp(disch:=omega)only[ZA,simprocAttr,Xg]
  try simp
 obtain⟨k,Q⟩:=k;simp(disch:=omega)only[ZA,simprocAttr,AO,NN,NJ,B1,D.one];have ab:=eG k;refine⟨λz=>⟨by rw[ab];omega,⟨k+1,by omega⟩,[(2,some 4)],by simp only;omega,?_⟩,λz=> ?_⟩
 .simp only[Ay];simp(disch:=omega)only[ZA,simprocAttr];refine⟨by rw[AG (by omega) (by omega)];omega,by simp[Xg,Aj]⟩
 have ag:n=k:=by omega
 subst ag;clear ab z Q;refine AP.old ⟨{k:Nat//k<=a.2.length},λk=>⟨[(7,.im (.int .i64 k.1)),(5,.own 2),(0,.im (.int .i64 n)),(1,.im (.sl false 3 (a.2.map Ag.c)))],[(2,(true,.arr 2 1 ((Cg n a.2 k.1).map Aj)))],3⟩,λk=>a.2.length - k.1,λk=>⟨by simp[Ai.good,Am,Ac,A8,AV.bel],by simp⟩,⟨⟨0,by simp⟩,by simp(disch:=omega)only[ZA,simprocAttr,sub,Cg]⟩,λk=> ?_⟩;obtain⟨k,Q⟩:=k;have G:=Qto n a.2 k;simp(disch:=omega)only[ZA,simprocAttr,AO,G];intro _;refine⟨λz=>⟨z,λb hb=> ?_⟩,λz=> ?_⟩
 .obtain⟨b1,b2,b3,b4⟩:=Z b (AZ hb);refine⟨b1,b2,by omega,λx hx=>⟨z,λb' aa=> ?_⟩⟩;rw[hb] at aa;obtain rfl:=AD aa;refine⟨b3,b4,by omega,λy hy=> ?_⟩;refine AP.old ⟨{j:Nat//j<=n},λj=>⟨[(10,.im (.int .i64 j.1)),(9,.im (.int .i64 y)),(8,.im (.int .i64 x)),(7,.im (.int .i64 k)),(5,.own 2),(0,.im (.int .i64 n)),(1,.im (.sl false 3 (a.2.map Ag.c)))],[(2,(true,.arr 2 1 ((Il (J2 x y) j.1 (Cg n a.2 k)).map Aj)))],3⟩,λj=>n - j.1,λj=>⟨by simp[Ai.good,Am,Ac,A8,AV.bel],by simp⟩,⟨⟨0,by simp⟩,by simp(disch:=omega)only[ZA,simprocAttr,sub,Il]⟩,λj=> ?_⟩;obtain⟨j,ao⟩:=j;have ac:=Qwq (J2 x y) j (Cg n a.2 k);rw[G] at ac;have ah:=Qoo (J2 x y) j (Cg n a.2 k);simp(disch:=omega)only[ZA,simprocAttr,l00Min.q,l00Min.fv,l00Max.q,l00Max.fv,sub,AO,ac];intro _;refine⟨λhj=>⟨hj,hj,λv hv=> ?_⟩,λhj=> ?_⟩
  .have av:=hv;rw[ah] at hv;refine⟨λO=>⟨hj,hj,λv' au=>⟨⟨j+1,by omega⟩,by simp only;omega,by rw[AG (by omega) (by omega)];simp only;omega,?_⟩⟩,λO=>⟨⟨j+1,by omega⟩,by simp only;omega,by rw[AG (by omega) (by omega)];simp only;omega,?_⟩⟩
   .rw[<-Qn5 _ _ _ _ hv,Ly];simp only[J2,O,BM,Aj]
   .rw[Qabf _ _ _ _ hv (by simp only[J2];rw[Af O])]
  .refine⟨⟨k+1,by omega⟩,by simp only;omega,by rw[AG (by omega) (by omega)];simp only;omega,?_⟩;rw[Qvd _ _ _ (by omega)];simp only[Cg,hb,tS,hx,hy,AM]
 have af:k=a.2.length:=by omega
 subst af;clear z Q Z;refine AP.frr ⟨{k:Nat//k<=n},λk=>⟨[(12,.im (.int .i64 k.1)),(11,.own 4),(5,.own 2),(0,.im (.int .i64 n))],[(4,(true,.arrA 32 1 (Bq ((B8 (Cg n a.2 a.2.length) n k.1).map C8)))),(2,(true,.arr 2 1 ((Cg n a.2 a.2.length).map Aj)))],5⟩,λk=>n - k.1,λk=>⟨by simp[Ai.good,Am,Ac,A8,AV.bel,Qxu],by simp⟩,⟨⟨0,by simp⟩,[],[(4,some 3)],?_⟩,λk=> ?_⟩
 .simp only[Ay];simp(disch:=omega)only[ZA,simprocAttr,Bp,B8]
  try simp
 obtain⟨k,Q⟩:=k;obtain⟨own,hown⟩: ∃own,own=Cg n a.2 a.2.length:=⟨_,rfl⟩;simp only[<-hown] at G⊢;have am:=sP own n k;simp(disch:=omega)only[ZA,simprocAttr,AO,G];refine⟨λz=>⟨z,z,λx hx=>⟨λO=>⟨⟨k+1,by omega⟩,[],[(4,some 4)],by simp only;omega,?_⟩,λO=> ?_⟩⟩,λz=> ?_⟩
 .have e1:B8 own n (k+1)=B8 own n k:=by
   simp only[B8];rw[Af (by rw[hx];simpa using O),D8]
  simp only[Ay];simp(disch:=omega)only[ZA,simprocAttr,Bp,Qzb,uP,e1];rw[AG (by omega) (by omega)];simp
 .have O:=FX.1 O;refine AP.ren ⟨{m:Nat//m<=n - k},λm=>⟨[(14,.im (.int .i64 ((k+m.1:Nat):Int))),(13,.own 6),(12,.im (.int .i64 k)),(11,.own 4),(5,.own 2),(0,.im (.int .i64 n))],[(6,(true,.arr 2 1 ((Dg own k m.1).map Aj))),(4,(true,.arrA 32 1 (Bq ((B8 own n k).map C8)))),(2,(true,.arr 2 1 (own.map Aj)))],7⟩,λm=>n - k - m.1,λm=>⟨by simp[Ai.good,Am,Ac,A8,AV.bel,Qxu],by simp⟩,⟨⟨0,by simp⟩,[(6,some 5)],?_⟩,λm=> ?_⟩
  .simp only[Ay];simp(disch:=omega)only[ZA,simprocAttr,Bp,Dg,uP]
   try simp
  obtain⟨m,aq⟩:=m;have an:=Qsd own k m;simp(disch:=omega)only[ZA,simprocAttr,AO,G,NN,NJ,B1,D.one];refine⟨λhm=>⟨hm,hm,λv hv=>⟨λh=>⟨by omega,⟨m+1,by omega⟩,[(6,some 8)],by simp only;omega,?_⟩,λh=>⟨⟨m+1,by omega⟩,[(6,some 6)],by simp only;omega,?_⟩⟩⟩,λhm=>⟨by simp[Aq,AV.bel],by omega,by rw[vP,Rt];simp[Aq,AV.bel],⟨k+1,by omega⟩,[6],[(4,some 8)],by simp only;omega,?_⟩⟩
  .simp only[Ay];simp(disch:=omega)only[ZA,simprocAttr,Bp,uP];refine⟨?_,?_⟩
   .rw[AG (by omega) (by omega)];omega
   .subst h;simp only[Dg];rw[An hv];simp[Aj]
  .simp only[Ay];simp(disch:=omega)only[ZA,simprocAttr,Bp,uP];refine⟨?_,?_⟩
   .rw[AG (by omega) (by omega)];omega
   .simp only[Dg];rw[Af (by rw[hv];simpa using h),D8]
  .have ai:m=n - k:=by omega
   have e1:B8 own n (k+1)=B8 own n k++[Dg own k m]:=by
    simp only[B8];rw[An (by rw[hx,O]),ai]
   simp only[Ay];simp(disch:=omega)only[ZZ,simprocAttr,Bp,Qzl,Qzb,e1,GH];rw[AG (by omega) (by omega)];refine⟨by simp,?_⟩
   have:=Qzo [(4,some 8)] ((B8 own n k).map C8++[[D.sl false 1 ((Dg own k m).map Aj)]])
   simpa only[Bq,GH,Bd,Gq] using this
 .have:k=n:=by omega
  subst this;simp(disch:=omega)only[ZZ,simprocAttr,X6]
end Go.Ae
namespace Go.Ae
def AU(b n:Nat)(f:Nat->Au):Av:=(List.range n).map λi=>(b+i,f i)
def OA(b n:Nat)(f:Nat->Au):AU b (n+1) f=AU b n f++[(b+n,f n)]:=by
 simp only[AU,mO,GH,Bd,Gq]
def lW(b:Nat)(f:Nat->Au)(m:Nat): ∀(n:Nat),hget (AU b n f) m=if b<=m/\m<b+n then some (f (m - b)) else none
 |0=>by rw[Af (by omega)];rfl
 |n+1=>by
  rw[OA,zU,lW b f m n];simp only[hget];by_cases h:b<=m/\m<b+n
  .rw[An h,An (by omega)]
  .rw[Af h];by_cases z:b+n=m
   .subst z;rw[An (by omega),show b+n - b=n by omega];simp
   .have:(b+n==m)=false:=by simpa using z
    rw[this,Af (by omega)];rfl
def HE(b n:Nat)(f:Nat->Au)(j:Nat)(h:j<n):hget (AU b n f) (b+j)=some (f j):=by
 rw[lW,An (by omega),show b+j - b=j by omega]
def Qmh(b n:Nat)(f:Nat->Au)(m:Nat)(h:m<b\/b+n<=m):hget (AU b n f) m=none:=by
 rw[lW,Af (by omega)]
def WM(m:Nat)(ks:List Nat): ∀(x:Av),hget (Bh x ks) m=if ks.contains m then none else hget x m
 |[]=>by simp[Bh,hget]
 |(q,e)::r=>by
  simp only[Bh];have ih:=WM m ks r;cases hq:ks.contains q
  .simp only[BC,hget];cases hqm:q==m
   .simpa using ih
   .have:q=m:=by simpa using hqm
    subst this;simp only[Ck,hq];rfl
  .simp only[Ck,ih,hget];cases hqm:q==m
   .simp
   .have:q=m:=by simpa using hqm
    subst this;rw[An hq,An hq]
def Wl(b n:Nat)(f:Nat->Au)(ks:List Nat)(h: ∀k∈ks,k<b\/b+n<=k):Bh (AU b n f) ks=AU b n f:=by
 have: ∀(l:List Nat),(∀i∈l,i<n)->Bh (l.map λi=>(b+i,f i)) ks=l.map λi=>(b+i,f i):=by
  intro l;induction l with
  |nil=>intro _;rfl
  |cons i r ih=>
   intro G;have z:=G i (BT ..);have hc:ks.contains (b+i)=false:=by
    rw[Qs];intro hc
    have:=h _ (HK.1 hc)
    omega
   simp only[Bd,Bh,hc,BC,ih (λj O=>G j (BX _ O))]
 exact this _ (λi z=>BD.1 z)
def Qns(π:List (Nat×Option Nat))(s:Ai)(y:Av): ∀(x:Av),Ha π s (x++y)=(Ha π s x/\Ha π s y)
 |[]=>by simp[Ha]
 |(q,(z,e))::r=>by simp only[CT,Ha,Qns π s y r,mV]
def eL(π:List (Nat×Option Nat))(s:Ai)(b n:Nat)(f:Nat->Au):Ha π s (AU b n f)↔ ∀i,i<n->Ep s π (f i).1 (f i).2 (pm π (b+i)):=by
 have: ∀(l:List Nat),Ha π s (l.map λi=>(b+i,f i))↔ ∀i∈l,Ep s π (f i).1 (f i).2 (pm π (b+i)):=by
  intro l;induction l with
  |nil=>simp[Ha]
  |cons i r ih=>simp only[Bd,Ha,ih,Bm,Zed]
 rw[AU,this];simp only[BD]
def Fh:Av->List Nat
 |[]=>[]
 |(n,_)::r=>n::Fh r
def eV(π:List (Nat×Option Nat)): ∀(H:Av),OM π H=(Fh H).map (pm π)
 |[]=>rfl
 |(n,e)::r=>by simp only[OM,Fh,Bd,eV π r]
def Z6(b n:Nat)(f:Nat->Au):Fh (AU b n f)=(List.range n).map (b+ ·):=by
 have: ∀(l:List Nat),Fh (l.map λi=>(b+i,f i))=l.map (b+ ·):=by
  intro l;induction l with
  |nil=>rfl
  |cons i r ih=>simp only[Bd,Fh,ih]
 exact this _
def fC(g:Nat->Option Nat): ∀(l:List Nat),l.Nodup->(∀x∈l,∀y∈l,∀m,g x=some m->g y=some m->x=y)->EP (l.map g)=true
 |[],_,_=>rfl
 |x::r,h,G=>by
  simp only[Ir] at h;have ih:=fC g r h.2 (λa Q b hb=>G a (BX _ Q) b (BX _ hb));simp only[Bd];cases hx:g x with
  |none=>simpa only[EP] using ih
  |some m=>
   simp only[EP,ih,F7,Kq];rw[Qs];intro hc;obtain⟨y,O,z⟩:=Bv.1 (HK.1 hc)
   have:=G x (BT ..) y (BX _ O) m hx z
   exact h.1 (this▸O)
def fD(π:List (Nat×Option Nat)): ∀(a b:List (List AV)),GJ π a b↔a.length=b.length/\ ∀(i:Nat) x y,a[i]? =some x->b[i]? =some y->DG π x y
 |[],[]=>by simp[GJ]
 |[],_::_=>by simp[GJ]
 |_::_,[]=>by simp[GJ]
 |x::r,y::s=>by
  simp only[GJ,fD π r s,CP,Nat.add_right_cancel_iff];constructor
  .rintro⟨Z,Q,O⟩;refine⟨Q,λi x' y' z G=> ?_⟩;cases i with
   |zero=>
    simp only[GF,AJ] at z G;subst z;subst G;exact Z
   |succ i=>exact O i x' y' (by simpa using z) (by simpa using G)
  .rintro⟨Q,O⟩;exact⟨O 0 x y rfl rfl,Q,λi x' y' z G=>O (i+1) x' y' (by simpa using z) (by simpa using G)⟩
def Rb(nx b:Nat)(f:Nat->Au)(hf: ∀i,Ac nx [(b+i,f i)]=true)(n:Nat):Ac nx (AU b n f)=true:=by
 have G: ∀(x y:Av),Ac nx (x++y)=(Ac nx x && Ac nx y):=by
  intro x y;induction x with
  |nil=>simp[Ac]
  |cons z r ih=>
   obtain⟨q,Q,e⟩:=z;cases e<;>simp[Ac,ih,Zez]
 have: ∀(l:List Nat),Ac nx (l.map λi=>(b+i,f i))=true:=by
  intro l;induction l with
  |nil=>rfl
  |cons i r ih=>
   have O:=G [(b+i,f i)] (r.map λi=>(b+i,f i));rw[Bd,show (b+i,f i)::(r.map λi=>(b+i,f i))=[(b+i,f i)]++(r.map λi=>(b+i,f i)) from rfl,O,hf i,ih];rfl
 exact this _
def QQ(nx b n:Nat)(f:Nat->Au)(h:b+n<=nx):A8 nx (AU b n f)=true:=by
 have: ∀(l:List Nat),(∀i∈l,i<n)->A8 nx (l.map λi=>(b+i,f i))=true:=by
  intro l;induction l with
  |nil=>intro _;rfl
  |cons i r ih=>
   intro z;simp only[Bd,A8,ih (λj O=>z j (BX _ O)),F7];rw[E4]
   have:=z i (BT ..)
   omega
 exact this _ (λi G=>BD.1 G)
def IU(b n:Nat):List (Nat×Option Nat):=(List.range n).map λi=>(b+i,none)
def lU(b n m:Nat):pm (IU b n) m=if b<=m/\m<b+n then none else some m:=by
 have: ∀(l:List Nat),pm (l.map λi=>(b+i,none)) m=if b<=m/\m - b∈l then none else some m:=by
  intro l;induction l with
  |nil=>simp[pm]
  |cons i r ih=>
   simp only[Bd,pm,ih,Bm];by_cases h:b+i=m
   .rw[An h,An ⟨by omega,.inl (by omega)⟩]
   .rw[Af h];by_cases z:b<=m/\m - b∈r
    .rw[An z,An ⟨z.1,.inr z.2⟩]
    .rw[Af z,Af (by rintro⟨O,G|G⟩;exact h (by omega);exact z ⟨O,G⟩)]
 rw[IU,this];simp only[BD];by_cases h:b<=m/\m<b+n
 .rw[An h,An (by omega)]
 .rw[Af h,Af (by omega)]
def S7(lo b n:Nat)(h:lo<=b):VS lo (IU b n):=by
 have: ∀(l:List Nat),VS lo (l.map λi=>(b+i,none)):=by
  intro l;induction l with
  |nil=>trivial
  |cons i r ih=>simp only[Bd,VS];exact⟨by omega,ih⟩
 exact this _
end Go.Ae
namespace Go.Ae
open Go.Proofs
def Dm(n:Ba)(v i:Int):Int×Int:=match n.Bonds[i.toNat]? with
 |some b=>if b.A=v then (b.Strength - n.Flow[i.toNat]?.getD 0,b.B) else (b.Strength+n.Flow[i.toNat]?.getD 0,b.A)
 |none=>(0,0)
structure Ds(n:Ba):Prop where
 c0:0<=n.Cnt
 c1:n.Cnt<=1000000
 fl:n.Flow.length=n.Bonds.length
 al:(n.At.length:Int)=n.Cnt
 bs:Lk n.Cnt n.Bonds
 at_: ∀(v:Nat) (r:List Int),n.At[v]? =some r-> ∀i∈r,0<=i/\ ∃b,n.Bonds[i.toNat]? =some b/\(b.A=v\/b.B=v)
 f: ∀x∈n.Flow,-1000000<=x/\x<=1000000
 st: ∀b∈n.Bonds,0<=b.Strength/\b.Strength<=1000000
 all: ∀(i:Nat) b,n.Bonds[i]? =some b->(∃r,n.At[b.A.toNat]? =some r/\(i:Int)∈r)/\ ∃r,n.At[b.B.toNat]? =some r/\(i:Int)∈r
 ne: ∀b∈n.Bonds,b.A≠b.B
def roomC.fv(a:Ba×Int×Int):Int×Int:=(Dm) (a.1) (a.2.1) (a.2.2)
def roomC.row:AA:=CR (b3 (qP 4 Ba.d_le) qI qI) (r2 rI rI) (λa=>Ds a.1/\0<=a.2.2/\a.2.2<a.1.Bonds.length) roomC.fv
def roomC.q:=CY (R:=roomC.row) rfl
def roomC.ok:AB Tryz.prog 282 roomC.row:=by
 refine Fy tN Tryz.func282 rfl (by kernel_rfl) ?_;intro a z;simp only[Tryz.f282];simp(disch:=omega)only[ZZ,simprocAttr,roomC.fv,D.sc,D.scs,Bn];obtain⟨G,O,Z⟩:=z;have aa:=G.fl;refine⟨O,Z,λb hb=> ?_⟩;have ab:=G.st b (AZ hb)
 split<;>rename_i h
 .refine⟨O,by omega,λf hf=> ?_⟩;have Q:=G.f f (AZ hf);rw[AG (by omega) (by omega)];simp only[Dm,hb,hf,AM];rw[An h]
 .refine⟨O,by omega,λf hf=> ?_⟩;have Q:=G.f f (AZ hf);rw[AG (by omega) (by omega)];simp only[Dm,hb,hf,AM];rw[Af h]
def D0(n:Ba)(v i:Int):Int:=match n.Bonds[i.toNat]? with
 |some b=>b.A+b.B - v
 |none=>0
def B4(n:Ba)(v:Int)(s:List Int×List Int)(i:Int):List Int×List Int:=
 if s.1[(D0 n v i).toNat]?.getD 0<0/\0<(Dm n (D0 n v i) i).1 then (s.1.set (D0 n v i).toNat (s.1[v.toNat]?.getD 0+1),s.2++[D0 n v i]) else s
def C7(n:Ba)(q:Int):Nat->List Int×List Int
 |0=>((List.replicate n.Cnt.toNat (-1)).set q.toNat 0,[q])
 |k+1=>match (C7 n q k).2[k]? with
  |none=>C7 n q k
  |some v=>(n.At[v.toNat]?.getD []).foldl (B4 n v) (C7 n q k)
def Ff(n:Ba)(q:Int):List Int:=(C7 n q n.Cnt.toNat).1
structure WY(n:Ba)(s:List Int×List Int):Prop where
 len:s.1.length=n.Cnt.toNat
 rng: ∀x∈s.1,-1<=x/\x<=s.2.length
 q: ∀x∈s.2,0<=x/\x<n.Cnt
 cnt:(s.1.filter (λx=>decide (0<=x))).length=s.2.length
def Qlu{A:Type}(p:A->Bool): ∀(l:List A) (w:Nat) (x y:A),l[w]? =some x->p x=false->p y=true->((l.set w y).filter p).length=(l.filter p).length+1
 |[],w,x,y,h,_,_=>by simp at h
 |z::r,0,x,y,h,G,O=>by
  simp only[GF,AJ] at h;subst h;simp[G,O]
 |z::r,w+1,x,y,h,G,O=>by
  have:=Qlu p r w x y (by simpa using h) G O
  simp only[mS,Zec];split
  .simp only[CP,this]
  .exact this
def zP{n:Ba}(h0:0<=n.Cnt){s:List Int×List Int}(h:WY n s):(s.2.length:Int)<=n.Cnt:=by
 have z:=h.cnt;have G:=Zdy (λx=>decide (0<=x)) s.1;have O:=h.len;omega
def eS{n:Ba}(hn:Ds n){v:Nat}{r:List Int}(O:n.At[v]? =some r){i:Int}(G:i∈r):0<=i/\i<n.Bonds.length/\0<=D0 n v i/\D0 n v i<n.Cnt:=by
 obtain⟨h0,b,hb,Z⟩:=hn.at_ v r O i G;have z:=hn.bs b (AZ hb);have Q:=(Ce.1 hb).1;simp only[D0,hb];omega
def Qtm{n:Ba}(hn:Ds n){v:Nat}{r:List Int}(Z:n.At[v]? =some r){i:Int}(Q:i∈r){s:List Int×List Int}(hs:WY n s):WY n (B4 n v s i):=by
 obtain⟨_,_,o1,o2⟩:=eS hn Z Q;simp only[B4];split
 .rename_i h;have G:(D0 n v i).toNat<s.1.length:=by rw[hs.len];omega
  obtain⟨x,hx⟩: ∃x,s.1[(D0 n v i).toNat]? =some x:=⟨_,Bk G⟩;have aa:x<0:=by have:=h.1;rw[hx] at this;simpa using this
  have O:0<=s.1[(v:Int).toNat]?.getD 0+1/\s.1[(v:Int).toNat]?.getD 0+1<=s.2.length+1:=by
   cases hv:s.1[(v:Int).toNat]? with
   |none=>simp;omega
   |some y=>have:=hs.rng y (AZ hv);simp only[AM];omega
  refine⟨by simpa using hs.len,λy z=> ?_,λy z=> ?_,?_⟩
  .simp only[Dq,CP,Hf];rcases Xm z with z|z
   .have:=hs.rng y z;omega
   .subst z;omega
  .rcases Bx.1 z with z|z
   .exact hs.q y z
   .rw[BK] at z;subst z;exact⟨o1,o2⟩
  .rw[Qlu _ _ _ x _ hx (by rw[Kt];omega) (by rw[BL];exact O.1),hs.cnt];simp
 .exact hs
def Qs1{n:Ba}(hn:Ds n){v:Nat}{r:List Int}(O:n.At[v]? =some r): ∀(l:List Int) (s:List Int×List Int),(∀i∈l,i∈r)->WY n s->WY n (l.foldl (B4 n v) s)
 |[],s,_,z=>z
 |i::l,s,G,z=>Qs1 hn O l _ (λj Q=>G j (BX _ Q)) (Qtm hn O (G i (BT ..)) z)
def WP{n:Ba}(hn:Ds n){q:Int}(h0:0<=q)(G:q<n.Cnt): ∀k,WY n (C7 n q k)
 |0=>by
  have hq:q.toNat<n.Cnt.toNat:=by omega
  refine⟨by simp[C7],λx z=> ?_,λx z=> ?_,?_⟩
  .simp only[C7] at z⊢;rcases Xm z with z|z
   .have:=Ol z;simp;omega
   .subst z;simp
  .simp only[C7,BK] at z;subst z;exact⟨h0,G⟩
  .simp only[C7];rw[Qlu _ _ _ (-1) _ (by rw[Ls,An hq]) (by simp) (by simp)]
   have:(List.replicate n.Cnt.toNat (-1:Int)).filter (λx=>decide (0<=x))=[]:=by
    rw[List.filter_eq_nil_iff];intro x z;rw[Ol z];simp
   rw[this];rfl
 |k+1=>by
  have ih:=WP hn h0 G k;simp only[C7];split
  .exact ih
  .rename_i v Q;have Z:=ih.q v (AZ Q);obtain⟨m,rfl⟩: ∃m:Nat,v=m:=⟨v.toNat,by omega⟩;have O:m<n.At.length:=by have:=hn.al;omega
   obtain⟨r,hr⟩: ∃r,n.At[m]? =some r:=⟨_,Bk O⟩;simp only[B0,hr,AM];exact Qs1 hn hr r _ (λ_ h=>h) ih
def L3(n:Ba)(q:Int): ∀(m k:Nat),(C7 n q k).2.length<=k->C7 n q (k+m)=C7 n q k
 |0,k,_=>rfl
 |m+1,k,h=>by
  have z:C7 n q (k+1)=C7 n q k:=by
   rw[C7,FG h]
  have G:=L3 n q m (k+1) (by rw[z];omega);rw[show k+(m+1)=k+1+m by omega,G,z]
def Qwn(n:Ba)(v:Int): ∀(l:List Int) (s:List Int×List Int),s.2.length<=(l.foldl (B4 n v) s).2.length
 |[],s=>AQ _
 |i::l,s=>by
  have z:s.2.length<=(B4 n v s i).2.length:=by
   simp only[B4];split
   .simp
   .exact AQ _
  exact D9 z (Qwn n v l _)
def stepsC.fv(a:Ba×Int):List Int:=(Ff) (a.1) (a.2)
def stepsC.row:AA:=CR (b2 (qP 4 Ba.d_le) qI) (rS Da Cp) (λa=>Ds a.1/\0<=a.2/\a.2<a.1.Cnt) stepsC.fv
def stepsC.q:=CY (R:=stepsC.row) rfl
def stepsC.ok:AB Tryz.prog 264 stepsC.row:=by
 refine Fy (tC roomC.ok tN) Tryz.func264 rfl (by kernel_rfl) ?_;intro a ag;simp only[Tryz.f264];simp(disch:=omega)only[ZZ,simprocAttr,stepsC.fv];obtain⟨hn,ah,an⟩:=ag;have av:=hn.c1;obtain⟨c,hc⟩: ∃c:Nat,a.1.Cnt=c:=⟨a.1.Cnt.toNat,by omega⟩;refine AP.ren ⟨{k:Nat//k<=c},λk=>⟨[(6,.im (.int .i64 k.1)),(5,.own 3),(0,.ptr 0 0),(1,.im (.int .i64 a.2))],[(3,(true,.arr 2 1 ((List.replicate k.1 (-1:Int)).map Aj))),(0,(false,.view (Ba.c a.1)))],4⟩,λk=>c - k.1,λk=>⟨by simp[Ai.good,Am,Ac,A8,AV.bel],by simp⟩,⟨⟨0,by simp⟩,[(3,some 2)],?_⟩,λk=> ?_⟩
 .simp only[Ay];simp(disch:=omega)only[ZZ,simprocAttr,Bp,List.replicate_zero]
  try simp
 obtain⟨k,ak⟩:=k;simp(disch:=omega)only[ZZ,simprocAttr,GM,AO,hc,Oh];refine⟨λhk=>⟨by omega,⟨k+1,by omega⟩,[(3,some 5)],by simp only;omega,?_⟩,λhk=> ?_⟩
 .simp only[Ay];simp(disch:=omega)only[ZA,simprocAttr,Bp];refine⟨by rw[AG (by omega) (by omega)];omega,?_⟩;rw[List.replicate_succ'];simp[Aj]
 have am:c=k:=by omega
 subst am;refine⟨ah,by omega,by omega,λ_ _=> ?_⟩;have aq:=hn.al;have ac:=WP hn ah an;refine AP.ren ⟨{k:Nat//k<=(C7 a.1 a.2 k).2.length},λk=>⟨[(8,.im (.int .i64 k.1)),(7,.own 5),(5,.own 3),(0,.ptr 0 0),(1,.im (.int .i64 a.2))],[(5,(true,.arr 2 1 ((C7 a.1 a.2 k.1).2.map Aj))),(3,(true,.arr 2 1 ((C7 a.1 a.2 k.1).1.map Aj))),(0,(false,.view (Ba.c a.1)))],6⟩,λk=>c - k.1,λk=>⟨by simp[Ai.good,Am,Ac,A8,AV.bel],by simp⟩,⟨⟨0,by simp⟩,[(5,some 4)],?_⟩,λk=> ?_⟩
 .simp only[Ay];simp(disch:=omega)only[ZZ,simprocAttr,Bp,hc,C7];simp[Aj,Ly]
 obtain⟨k,ak⟩:=k;have hi:=ac k;have aw:=hi.len;have ay:=zP (by omega) hi;simp(disch:=omega)only[ZZ,simprocAttr,GM,D.sc,JH,Bn,AO,hc];intro _;refine⟨λhk=>⟨hk,hk,λv hv=> ?_⟩,λhk=> ?_⟩
 .have a8:=hi.q v (AZ hv);obtain⟨m,rfl⟩: ∃m:Nat,v=m:=⟨v.toNat,by omega⟩;have hm:m<a.1.At.length:=by omega
  obtain⟨r,hr⟩: ∃r,a.1.At[m]? =some r:=⟨_,Bk hm⟩;have O:C7 a.1 a.2 (k+1)=r.foldl (B4 a.1 m) (C7 a.1 a.2 k):=by
   simp only[C7,hv,B0,hr,AM]
  refine AP.ren ⟨{j:Nat//j<=r.length},λj=>⟨[(10,.im (.int .i64 j.1)),(9,.im (.int .i64 m)),(8,.im (.int .i64 k)),(7,.own 6),(5,.own 3),(0,.ptr 0 0),(1,.im (.int .i64 a.2))],[(6,(true,.arr 2 1 (((r.take j.1).foldl (B4 a.1 m) (C7 a.1 a.2 k)).2.map Aj))),(3,(true,.arr 2 1 (((r.take j.1).foldl (B4 a.1 m) (C7 a.1 a.2 k)).1.map Aj))),(0,(false,.view (Ba.c a.1)))],7⟩,λj=>r.length - j.1,λj=>⟨by simp[Ai.good,Am,Ac,A8,AV.bel],by simp⟩,⟨⟨0,by simp⟩,[(6,some 5)],?_⟩,λj=> ?_⟩
  .simp only[Ay];simp(disch:=omega)only[ZZ,simprocAttr,Bp,hc,ZeA]
   try simp
  obtain⟨j,ax⟩:=j;have hs:=Qs1 hn hr (r.take j) _ (λi hi=>ZdJ hi) hi;obtain⟨s,hsd⟩: ∃s,s=(r.take j).foldl (B4 a.1 m) (C7 a.1 a.2 k):=⟨_,rfl⟩;rw[<-hsd] at hs;have ao:=hs.len;have a0:=zP (by omega) hs;simp only[<-hsd];have af:(⟨(c:Int),a.1.Bonds,a.1.At,a.1.Flow⟩:Ba)=a.1:=by rw[<-hc]
  simp(disch:=omega)only[ZZ,simprocAttr,Cl,roomC.q,roomC.fv,GM,AO,hc,af,ao,NN,NJ,yK,B1,D.one];refine⟨hm,λr' G=> ?_⟩;rw[hr] at G;obtain rfl:=AD G;intro az;refine⟨λhj=>⟨hm,λr' G=> ?_⟩,λhj=> ?_⟩
  .rw[hr] at G;obtain rfl:=AD G;refine⟨hj,λi ab=> ?_⟩;have ai:=AZ ab;obtain⟨i0,i1,o0,o1⟩:=eS hn hr ai;have z:(r.take (j+1)).foldl (B4 a.1 m) (C7 a.1 a.2 k)=B4 a.1 m s i:=by
    rw[Iq,ab,List.foldl_append,<-hsd];rfl
   refine⟨i0,i1,λb hb=>⟨i0,i1,λb' aa=> ?_⟩⟩;rw[hb] at aa;obtain rfl:=AD aa;have au:=hn.bs b (AZ hb);have hw:IntKind.wrap .i64 (IntKind.wrap .i64 (b.A+b.B) - m)=D0 a.1 m i:=by
    rw[AG (x:=b.A+b.B) (by omega) (by omega),AG (by omega) (by omega)];simp only[D0,hb]
   rw[hw];have ad:(D0 a.1 m i).toNat<c:=by omega
   refine⟨⟨hn,i0,i1⟩,o0,by omega,ad,λx hx=>⟨λZ=>⟨λQ=>⟨by omega,by omega,λy hy=>⟨o0,by omega,ad,λ_ _=>⟨by omega,⟨j+1,by omega⟩,[(6,some 8)],by simp only;omega,?_⟩⟩⟩,λQ=>⟨⟨j+1,by omega⟩,[(6,some 6)],by simp only;omega,?_⟩⟩,λZ=>⟨⟨j+1,by omega⟩,[(6,some 6)],by simp only;omega,?_⟩⟩⟩
   .have e1:B4 a.1 m s i=(s.1.set (D0 a.1 m i).toNat (y+1),s.2++[D0 a.1 m i]):=by
     simp only[B4];rw[An ⟨by rw[hx];exact Z,Q⟩,B0,hy];rfl
    have a9:=hs.rng y (AZ hy);simp only[Ay,z,e1];simp(disch:=omega)only[ZA,simprocAttr,Bp];rw[AG (x:=y+1) (by omega) (by omega)];refine⟨by rw[AG (by omega) (by omega)];omega,?_,?_⟩
    .simp[Aj]
    .simp[Aj,Ly]
   .have e1:B4 a.1 m s i=s:=by
     simp only[B4];rw[Af (λh=>Q h.2)]
    simp only[Ay,z,e1];simp(disch:=omega)only[ZA,simprocAttr,Bp];rw[AG (by omega) (by omega)];simp
   .have e1:B4 a.1 m s i=s:=by
     simp only[B4];rw[Af (λh=>Z (by have:=h.1;rw[hx] at this;exact this))]
    simp only[Ay,z,e1];simp(disch:=omega)only[ZA,simprocAttr,Bp];rw[AG (by omega) (by omega)];simp
  .have aj:j=r.length:=by omega
   subst aj;rw[Gs] at hsd;refine⟨⟨k+1,by
    have:=Qwn a.1 m r (C7 a.1 a.2 k)
    rw[O];omega⟩,[(5,some 6)],by simp only;omega,?_⟩
   simp only[Ay,O,<-hsd];simp(disch:=omega)only[ZA,simprocAttr,Bp];rw[AG (by omega) (by omega)];simp
 .rw[Ff,hc,B0]
  have:=L3 a.1 a.2 (c - k) k (by omega)
  rw[show k+(c - k)=c by omega] at this;rw[this]
def ZX(l:List Int):Nat->List Int
 |0=>[]
 |k+1=>ZX l k++(if 0<=l[k]?.getD (-1) then [(k:Int)] else [])
def Qu8(l:List Int): ∀k,(ZX l k).length<=k
 |0=>AQ _
 |k+1=>by
  have:=Qu8 l k
  simp only[ZX,Dq]
  split<;>simp<;>omega
def fO(n:Ba)(q:Int):List Int:=ZX (Ff n q) n.Cnt.toNat
def sF{n:Ba}(hn:Ds n){q:Int}(h0:0<=q)(z:q<n.Cnt):(Ff n q).length=n.Cnt.toNat:=(WP hn h0 z _).len
def sideC.fv(a:Ba×Int):List Int:=(fO) (a.1) (a.2)
def sideC.row:AA:=CR (b2 (qP 4 Ba.d_le) qI) (rS Da Cp) (λa=>Ds a.1/\0<=a.2/\a.2<a.1.Cnt) sideC.fv
def sideC.q:=CY (R:=sideC.row) rfl
def sideC.ok:AB Tryz.prog 243 sideC.row:=by
 refine Fy (tC stepsC.ok tN) Tryz.func243 rfl (by kernel_rfl) ?_;intro a z;simp only[Tryz.f243];simp(disch:=omega)only[ZZ,simprocAttr,Cl,sideC.fv,stepsC.q,stepsC.fv];refine⟨z,?_⟩;obtain⟨hn,O,Q⟩:=z;have aa:=hn.c1;obtain⟨c,hc⟩: ∃c:Nat,a.1.Cnt=c:=⟨a.1.Cnt.toNat,by omega⟩;have G:=sF hn O Q;rw[hc,B0] at G;simp only[fO,hc,B0];obtain⟨l,hl⟩: ∃l,l=Ff a.1 a.2:=⟨_,rfl⟩;simp only[<-hl] at G⊢;refine AP.ren ⟨{k:Nat//k<=c},λk=>⟨[(7,.im (.int .i64 k.1)),(6,.own 3),(5,.im (.sl false 1 (l.map Aj))),(0,.ptr 0 0)],[(3,(true,.arr 2 1 ((ZX l k.1).map Aj))),(0,(false,.view (Ba.c a.1)))],4⟩,λk=>c - k.1,λk=>⟨by simp[Ai.good,Am,Ac,A8,AV.bel],by simp⟩,⟨⟨0,by simp⟩,[(3,some 2)],?_⟩,λk=> ?_⟩
 .simp only[Ay];simp(disch:=omega)only[ZZ,simprocAttr,Bp,hc,ZX]
  try simp
 obtain⟨k,ab⟩:=k;have ac:=Qu8 l k;simp(disch:=omega)only[ZZ,simprocAttr,GM,D.sc,JH,Bn,AO,hc,G,NN,NJ,yK,B1,D.one];refine⟨λZ=>⟨Z,λx hx=>⟨λh=>⟨by omega,⟨k+1,by omega⟩,[(3,some 5)],by simp only;omega,?_⟩,λh=>⟨⟨k+1,by omega⟩,[(3,some 3)],by simp only;omega,?_⟩⟩⟩,λZ=> ?_⟩
 .simp only[Ay];simp(disch:=omega)only[ZA,simprocAttr,Bp];refine⟨by rw[AG (by omega) (by omega)];omega,?_⟩;simp only[ZX,hx,AM];rw[An h];simp[Aj]
 .simp only[Ay];simp(disch:=omega)only[ZA,simprocAttr,Bp];refine⟨by rw[AG (by omega) (by omega)];omega,?_⟩;simp only[ZX,hx,AM];rw[Af h,D8]
 .rw[show k=c by omega]
def Ik(n:Ba)(v i:Int):Ba:=⟨n.Cnt,n.Bonds,n.At,match n.Bonds[i.toNat]? with
 |some b=>n.Flow.set i.toNat (if b.A=v then n.Flow[i.toNat]?.getD 0+1 else n.Flow[i.toNat]?.getD 0 - 1)
 |none=>n.Flow⟩
def Ie(n:Ba):List AV:=[.im (.int .i64 n.Cnt),.im (.sl false 3 (n.Bonds.map Ag.c)),.im (.sl false 1 (n.At.map C8)),.own 1]
def G1(n:Ba):Av:=[(0,(true,.cells 344 (Ie n))),(1,(true,.arr 2 1 (n.Flow.map Aj)))]
def oC(n:Ba)(j:Nat):Ao (G1 n) j=true↔j<2:=by
 simp only[Ao,G1,hget];by_cases h0:j=0
 .subst h0;simp
 .by_cases O:j=1
  .subst O;simp
  .have z:(0==j)=false:=by simp;omega
   have G:(1==j)=false:=by simp;omega
   simp[z,G];omega
def aX(j:Nat):Bool:=j==1
def pushC.ca(a:Ba×Int×Int):List AV:=[.ptr 0 0,.im (.int .i64 a.2.1),.im (.int .i64 a.2.2)]
def pushC.H1(a:Ba×Int×Int):Av:=[(1,(true,.arr 2 1 ((Ik a.1 a.2.1 a.2.2).Flow.map Aj)))]
def pushC.row:AA:=AE pushC.ca (λa=>G1 a.1) 2 (λa=>Ds a.1/\0<=a.2.2/\a.2.2<a.1.Bonds.length) aX (λ_=> .im (.tup [])) pushC.H1 0
def pushC.ok:AB Tryz.prog 283 pushC.row:=by
 refine ow tN Tryz.func283 rfl (by kernel_rfl) (exB:=λ_=>false) (R:=λ_ r=>r= .im (.tup [])) (λ_=>rfl)
  (λa=>by simp[pushC.ca,G1,Ie,Aq,AV.bel,Ac,A8,BO,Ad.nms,AH,AV.nms,Ao,hget]) (λa p hp=> ?_) (λa r h=>by subst h;exact CF.refl _) ?_
 rotate_left
 intro a z;simp only[Tryz.f283,pushC.ca,G1,Ie,pushC.H1];simp(disch:=omega)only[ZA,simprocAttr,aX];obtain⟨hn,h0,O⟩:=z;have Q:=hn.fl;refine⟨h0,O,λb hb=> ?_⟩
 split<;>rename_i h
 .refine⟨h0,by omega,by omega,λf hf=>⟨h0,by omega,by omega,λ_ _=> ?_⟩⟩;have G:=hn.f f (AZ hf);rw[AG (by omega) (by omega)];simp only[Ik,hb,hf,AM,An h,Ly];rfl
 .refine⟨h0,by omega,by omega,λf hf=>⟨h0,by omega,by omega,λ_ _=> ?_⟩⟩;have G:=hn.f f (AZ hf);rw[AG (by omega) (by omega)];simp only[Ik,hb,hf,AM,Af h,Ly];rfl
 simp[pushC.H1] at hp;subst hp;exact .inl ⟨by omega,rfl,rfl⟩
structure FH(n:Ba)(q:Int)(s:List Int×List Int):Prop where
 zero:s.1[q.toNat]? =some 0
 uniq: ∀(w:Nat),s.1[w]? =some 0->w=q.toNat
 prev: ∀(w:Nat) (x:Int),s.1[w]? =some x->0<x-> ∃(v:Nat) (r:List Int) (i:Int),s.1[v]? =some (x - 1)/\n.At[v]? =some r/\i∈r/\D0 n v i=w/\0<(Dm n w i).1
 qs: ∀v∈s.2,∃y,s.1[v.toNat]? =some y/\0<=y
def sH(n:Ba)(v:Int)(s:List Int×List Int)(i:Int)(u:Nat)(y:Int)(h:s.1[u]? =some y)(h0:0<=y):(B4 n v s i).1[u]? =some y:=by
 simp only[B4];split
 .rename_i hc;have z:(D0 n v i).toNat≠u:=by
   intro G;rw[G,h] at hc
   have:=hc.1
   simp at this;omega
  simp only;rw[DK z];exact h
 .exact h
def Qor(n:Ba)(v:Int)(u:Nat)(y:Int)(h0:0<=y): ∀(l:List Int) (s:List Int×List Int),s.1[u]? =some y->(l.foldl (B4 n v) s).1[u]? =some y
 |[],_,h=>h
 |i::l,s,h=>Qor n v u y h0 l _ (sH n v s i u y h h0)
def gU{n:Ba}(hn:Ds n){q:Int}{v:Nat}{r:List Int}(hr:n.At[v]? =some r){i:Int}(hi:i∈r){s:List Int×List Int}(hs:WY n s)(hp:FH n q s){y:Int}(hv:s.1[v]? =some y)(hy:0<=y):FH n q (B4 n v s i):=by
 obtain⟨_,_,o1,o2⟩:=eS hn hr hi;have keep:=λu z h h0=>sH n v s i u z h h0
 have Z:(D0 n v i).toNat<s.1.length:=by rw[hs.len];omega
 by_cases hc:s.1[(D0 n v i).toNat]?.getD 0<0/\0<(Dm n (D0 n v i) i).1
 .have Q:B4 n v s i=(s.1.set (D0 n v i).toNat (y+1),s.2++[D0 n v i]):=by
   simp only[B4];rw[An hc,B0,hv];rfl
  have hget: ∀(w:Nat) (x:Int),(B4 n v s i).1[w]? =some x->(w=(D0 n v i).toNat/\x=y+1)\/s.1[w]? =some x:=by
   intro w x G;rw[Q] at G;simp only at G;by_cases hw:(D0 n v i).toNat=w
   .subst hw;rw[Du Z] at G;exact .inl ⟨rfl,(AD G).symm⟩
   .rw[DK hw] at G;exact .inr G
  refine⟨keep _ _ hp.zero (by omega),λw hw=> ?_,λw x G h0=> ?_,λu O=> ?_⟩
  .rcases hget w 0 hw with ⟨_,h⟩|h
   .omega
   .exact hp.uniq w h
  .rcases hget w x G with ⟨h1,h2⟩|h
   .refine⟨v,r,i,keep _ _ (by rw[hv];congr 1;omega) (by omega),hr,hi,by omega,?_⟩
    have:(w:Int)=D0 n v i:=by omega
    rw[this];exact hc.2
   .obtain⟨v',r',i',g1,g2,g3,g4,g5⟩:=hp.prev w x h h0;exact⟨v',r',i',keep _ _ g1 (by omega),g2,g3,g4,g5⟩
  .rw[Q] at O;rcases Bx.1 O with O|O
   .obtain⟨z,h1,h2⟩:=hp.qs u O;exact⟨z,keep _ _ h1 h2,h2⟩
   .rw[BK] at O;subst O;refine⟨y+1,?_,by omega⟩;rw[Q];exact Du Z
 .have Q:B4 n v s i=s:=by simp only[B4];rw[Af hc]
  rw[Q];exact hp
def R3{n:Ba}(hn:Ds n){q:Int}{v:Nat}{r:List Int}(G:n.At[v]? =some r){y:Int}(O:0<=y): ∀(l:List Int) (s:List Int×List Int),(∀i∈l,i∈r)->WY n s->FH n q s->s.1[v]? =some y->FH n q (l.foldl (B4 n v) s)
 |[],s,_,_,hp,_=>hp
 |i::l,s,z,Q,hp,Z=>R3 hn G O l _ (λj hj=>z j (BX _ hj)) (Qtm hn G (z i (BT ..)) Q) (gU hn G (z i (BT ..)) Q hp Z O) (sH n v s i v y Z O)
def NH{n:Ba}(hn:Ds n){q:Int}(h0:0<=q)(h1:q<n.Cnt): ∀k,FH n q (C7 n q k)
 |0=>by
  have hq:q.toNat<n.Cnt.toNat:=by omega
  have z:q.toNat<(List.replicate n.Cnt.toNat (-1:Int)).length:=by rw[Oh];exact hq
  have hget: ∀(w:Nat) (x:Int),((List.replicate n.Cnt.toNat (-1:Int)).set q.toNat 0)[w]? =some x->(w=q.toNat/\x=0)\/x= -1:=by
   intro w x G;by_cases Q:q.toNat=w
   .subst Q;rw[Du z] at G;exact .inl ⟨rfl,(AD G).symm⟩
   .rw[DK Q] at G;exact .inr (Ol (AZ G))
  refine⟨Du z,λw Q=> ?_,λw x G aa=> ?_,λv O=> ?_⟩
  .rcases hget w 0 Q with h|h
   .exact h.1
   .omega
  .rcases hget w x G with h|h<;>omega
  .simp only[C7,BK] at O;subst O;exact⟨0,Du z,Lu _⟩
 |k+1=>by
  have ih:=NH hn h0 h1 k;have hi:=WP hn h0 h1 k;simp only[C7];split
  .exact ih
  .rename_i v O;have ab:=hi.q v (AZ O);obtain⟨m,rfl⟩: ∃m:Nat,v=m:=⟨v.toNat,by omega⟩;have hm:m<n.At.length:=by have:=hn.al;omega
   obtain⟨r,hr⟩: ∃r,n.At[m]? =some r:=⟨_,Bk hm⟩;obtain⟨y,hy,Z⟩:=ih.qs _ (AZ O);simp only[B0,hr,AM];exact R3 hn hr Z r _ (λ_ h=>h) hi ih (by simpa using hy)
def IF(n:Ba):Prop:= ∀(i:Nat) b f,n.Bonds[i]? =some b->n.Flow[i]? =some f-> -b.Strength<=f/\f<=b.Strength
def FU(n:Ba)(st:List Int)(v:Int)(acc:Int×Int)(i:Int):Int×Int:=
 if 0<(Dm n v i).1/\st[(Dm n v i).2.toNat]?.getD 0=st[v.toNat]?.getD 0 - 1/\(acc.1<0\/(Dm n v i).2<acc.1) then ((Dm n v i).2,i) else acc
def GW(n:Ba)(st:List Int)(v:Int):Int×Int:=(n.At[v.toNat]?.getD []).foldl (FU n st v) (-1,0)
def BR(n:Ba)(st:List Int)(p:Int):Nat->Ba×Int
 |0=>(n,p)
 |k+1=>(Ik (BR n st p k).1 (BR n st p k).2 (GW (BR n st p k).1 st (BR n st p k).2).2,(GW (BR n st p k).1 st (BR n st p k).2).1)
def Fg(n:Ba)(p q:Int):Ba×Bool:=
 if (Ff n q)[p.toNat]?.getD 0<0 then (n,false) else ((BR n (Ff n q) p ((Ff n q)[p.toNat]?.getD 0).toNat).1,true)
def uQ{n:Ba}(hn:Ds n){v:Nat}{r:List Int}(O:n.At[v]? =some r){i:Int}(G:i∈r):0<=(Dm n v i).2/\(Dm n v i).2<n.Cnt:=by
 obtain⟨h0,b,hb,Q⟩:=hn.at_ v r O i G;have z:=hn.bs b (AZ hb);simp only[Dm,hb]
 split<;>simp only<;>omega
def LW(n:Ba)(st:List Int)(v:Int)(r:List Int)(w:Int×Int):Prop:=w.2∈r/\0<(Dm n v w.2).1/\(Dm n v w.2).2=w.1/\st[w.1.toNat]?.getD 0=st[v.toNat]?.getD 0 - 1/\0<=w.1
def Qq8{n:Ba}(hn:Ds n)(st:List Int){v:Nat}{r:List Int}(G:n.At[v]? =some r): ∀(l:List Int) (acc:Int×Int),(∀i∈l,i∈r)->(acc.1<0\/LW n st v r acc)->(l.foldl (FU n st v) acc).1<0\/LW n st v r (l.foldl (FU n st v) acc)
 |[],acc,_,h=>h
 |i::l,acc,z,h=>by
  refine Qq8 hn st G l _ (λj O=>z j (BX _ O)) ?_;simp only[FU];split
  .rename_i hc;exact .inr ⟨z i (BT ..),hc.1,rfl,hc.2.1,(uQ hn G (z i (BT ..))).1⟩
  .exact h
def Ph{n:Ba}(hn:Ds n)(st:List Int){v:Nat}{r:List Int}(G:n.At[v]? =some r){i:Int}(z:i∈r)(acc:Int×Int)(h:0<=acc.1):0<=(FU n st v acc i).1:=by
 simp only[FU];split
 .exact (uQ hn G z).1
 .exact h
def Qvo{n:Ba}(hn:Ds n)(st:List Int){v:Nat}{r:List Int}(G:n.At[v]? =some r): ∀(l:List Int) (acc:Int×Int),(∀i∈l,i∈r)->0<=acc.1->0<=(l.foldl (FU n st v) acc).1
 |[],_,_,h=>h
 |i::l,acc,z,h=>Qvo hn st G l _ (λj O=>z j (BX _ O)) (Ph hn st G (z i (BT ..)) acc h)
def Qqh{n:Ba}(hn:Ds n)(st:List Int){v:Nat}{r:List Int}(O:n.At[v]? =some r){i:Int}(Q:0<(Dm n v i).1)(Z:st[(Dm n v i).2.toNat]?.getD 0=st[(v:Int).toNat]?.getD 0 - 1): ∀(l:List Int) (acc:Int×Int),(∀i∈l,i∈r)->i∈l->0<=(l.foldl (FU n st v) acc).1
 |[],_,_,h=>by cases h
 |j::l,acc,hl,h=>by
  simp only[gJ];have z:=λk hk=>hl k (BX _ hk)
  rcases Bm.1 h with rfl|h
  .refine Qvo hn st O l _ z ?_;have hb:=uQ hn O (hl _ (BT ..));simp only[FU];split
   .exact hb.1
   .rename_i hc;rcases Int.lt_or_le acc.1 0 with G|G
    .exact absurd ⟨Q,Z,.inl G⟩ hc
    .exact G
  .exact Qqh hn st O Q Z l _ z h
def Pi{n:Ba}(hn:Ds n)(st:List Int){v:Nat}{r:List Int}(z:n.At[v]? =some r){i:Int}(Q:i∈r)(G:0<(Dm n v i).1)(O:st[(Dm n v i).2.toNat]?.getD 0=st[(v:Int).toNat]?.getD 0 - 1):LW n st v r (GW n st v):=by
 have e:GW n st v=r.foldl (FU n st v) (-1,0):=by simp only[GW,B0,z,AM]
 rw[e];have Z:=Qqh hn st z G O r (-1,0) (λ_ h=>h) Q;rcases Qq8 hn st z r (-1,0) (λ_ h=>h) (.inl (by decide)) with h|h
 .omega
 .exact h
def YC{n:Ba}(hn:Ds n)(hc:IF n){v:Nat}{i:Int}(h0:0<=i)(z:0<(Dm n v i).1):Ds (Ik n v i)/\IF (Ik n v i):=by
 obtain⟨m,rfl⟩: ∃m:Nat,i=m:=⟨i.toNat,by omega⟩;have G:IF (Ik n v m):=by
  intro j b f hb hf;simp only[Ik,B0] at hb hf;simp only[Dm,B0] at z;cases hbm:n.Bonds[m]? with
  |none=>rw[hbm] at hf;exact hc j b f hb hf
  |some b'=>
   rw[hbm] at hf z;simp only at hf z;by_cases O:m=j
   .subst O;rw[hb] at hbm;obtain rfl:=AD hbm;have Q:m<n.Flow.length:=by
     have:=(Ce.1 hf).1
     simpa using this
    rw[Du Q] at hf;have hf:=AD hf;obtain⟨g,hg⟩: ∃g,n.Flow[m]? =some g:=⟨_,Bk Q⟩;have ab:=hc m b g hb hg;rw[hg] at hf z;simp only[AM] at hf z;split at hf<;>rename_i Z
    .rw[An Z] at z;simp only at z;omega
    .rw[Af Z] at z;simp only at z;omega
   .rw[DK O] at hf;exact hc j b f hb hf
 refine⟨⟨hn.c0,hn.c1,?_,hn.al,hn.bs,hn.at_,?_,hn.st,hn.all,hn.ne⟩,G⟩
 .have:=hn.fl
  simp only[Ik];split
  .simpa using this
  .exact this
 .intro x hx;obtain⟨j,O⟩:=Ku.1 hx;have ac:=(Ce.1 O).1;have aa:(Ik n v m).Flow.length=n.Bonds.length:=by
   rw[<-hn.fl];simp only[Ik];split
   .simp
   .rfl
  obtain⟨b,hb⟩: ∃b,n.Bonds[j]? =some b:=⟨_,Bk (by omega)⟩;have h1:=G j b x hb O;have h2:=hn.st b (AZ hb);omega
def Qabc(n:Ba)(v i:Int)(j:Nat)(h:i.toNat≠j):(Ik n v i).Flow[j]? =n.Flow[j]? :=by
 simp only[Ik];split
 .exact DK h
 .rfl
def Pu{n n':Ba}(hb:n'.Bonds=n.Bonds)(i:Int)(hf:n'.Flow[i.toNat]? =n.Flow[i.toNat]?)(v:Int):Dm n' v i=Dm n v i:=by
 simp only[Dm,hb,hf]
structure bP(n:Ba)(st:List Int)(p:Int)(d k:Nat):Prop where
 ok:Ds (BR n st p k).1
 cap:IF (BR n st p k).1
 cnt:(BR n st p k).1.Cnt=n.Cnt
 bs:(BR n st p k).1.Bonds=n.Bonds
 at_:(BR n st p k).1.At=n.At
 v: ∃m:Nat,(BR n st p k).2=m/\(m:Int)<n.Cnt/\st[m]? =some ((d:Int) - k)
 fl: ∀(i:Nat) b,n.Bonds[i]? =some b->st[b.A.toNat]?.getD 0<=(d:Int) - k->st[b.B.toNat]?.getD 0<=(d:Int) - k->(BR n st p k).1.Flow[i]? =n.Flow[i]?
def zJ{n:Ba}(hn:Ds n){q:Int}{st qu:List Int}(ag:st.length=n.Cnt.toNat)(hP:FH n q (st,qu)){p:Int}{d k:Nat}(hk:k<d)(Z:bP n st p d k):
 ∃(m:Nat) (r:List Int),(BR n st p k).2=m/\n.At[m]? =some r/\LW (BR n st p k).1 st m r (GW (BR n st p k).1 st m)/\st[m]? =some ((d:Int) - k)/\(GW (BR n st p k).1 st m).1<n.Cnt:=by
 obtain⟨m,hm,aj,O⟩:=Z.v;have af:m<n.At.length:=by have:=hn.al;omega
 obtain⟨r,hr⟩: ∃r,n.At[m]? =some r:=⟨_,Bk af⟩;have ab:(BR n st p k).1.At[m]? =some r:=by rw[Z.at_];exact hr
 obtain⟨v',r',i,g1,g2,g3,g4,g5⟩:=hP.prev m _ O (by omega);simp only at g1;obtain⟨ai,b,hb,aa⟩:=hn.at_ v' r' g2 i g3;have ah:=hn.bs b (AZ hb);have ac:b.A+b.B - v'=m:=by simpa only[D0,hb] using g4
 have z:=hn.all i.toNat b hb;rw[show ((i.toNat:Nat):Int)=i by omega] at z;have ad:i∈r:=by
  rcases aa with h|h
  .obtain⟨r2,Q,h3⟩:=z.2;rw[show b.B.toNat=m by omega,hr] at Q;obtain rfl:=AD Q;exact h3
  .obtain⟨r2,Q,h3⟩:=z.1;rw[show b.A.toNat=m by omega,hr] at Q;obtain rfl:=AD Q;exact h3
 have ak:=hn.ne b (AZ hb);have G:Dm (BR n st p k).1 m i=Dm n m i:=by
  refine Pu Z.bs i (Z.fl i.toNat b hb ?_ ?_) m
  .rcases aa with h|h
   .rw[show b.A.toNat=v' by omega,g1];simp only[AM];omega
   .rw[show b.A.toNat=m by omega,O];simp only[AM];omega
  .rcases aa with h|h
   .rw[show b.B.toNat=m by omega,O];simp only[AM];omega
   .rw[show b.B.toNat=v' by omega,g1];simp only[AM];omega
 have Q:(Dm n m i).2=v':=by
  simp only[Dm,hb]
  split<;>simp only<;>omega
 have hg:=Pi Z.ok st ab ad (by rw[G];exact g5) (by rw[G,Q,B0,g1,B0,O];simp only[AM]);refine⟨m,r,hm,hr,hg,O,?_⟩
 have:=(uQ Z.ok ab hg.1).2
 rw[hg.2.2.1,Z.cnt] at this;exact this
def lN{n:Ba}(hn:Ds n)(hc:IF n){q:Int}{st qu:List Int}(G:st.length=n.Cnt.toNat)(hP:FH n q (st,qu)){p:Int}(ac:0<=p)(ad:p<n.Cnt){d:Nat}(hd:st[p.toNat]? =some (d:Int)): ∀k,k<=d->bP n st p d k
 |0,_=>⟨hn,hc,rfl,rfl,rfl,⟨p.toNat,by simp only[BR];omega,by omega,by rw[hd];simp⟩,λi b _ _ _=>rfl⟩
 |k+1,hk=>by
  have ih:=lN hn hc G hP ac ad hd k (by omega);obtain⟨m,r,O,hr,hg,Q,ag⟩:=zJ hn G hP (by omega) ih;obtain⟨h1,h2⟩:=YC ih.ok ih.cap (i:=(GW (BR n st p k).1 st m).2) (ih.ok.at_ m r (by rw[ih.at_];exact hr) _ hg.1).1 hg.2.1;obtain⟨j0,b,hb,ab⟩:=hn.at_ m r hr _ hg.1;have af:=hg.2.2.2.2;have Z:=hg.2.2.2.1;rw[B0,Q,AM] at Z;obtain⟨z,hz⟩: ∃z,st[(GW (BR n st p k).1 st m).1.toNat]? =some z:=⟨_,Bk (by omega)⟩;rw[hz,AM] at Z;refine⟨?_,?_,?_,?_,?_,⟨(GW (BR n st p k).1 st m).1.toNat,?_,by omega,by rw[hz,Z];congr 1;omega⟩,?_⟩
  .simp only[BR,O];exact h1
  .simp only[BR,O];exact h2
  .simp only[BR,O];exact ih.cnt
  .simp only[BR,O];exact ih.bs
  .simp only[BR,O];exact ih.at_
  .simp only[BR,O];omega
  .intro i b' aa hA hB;simp only[BR,O];rw[Qabc]
   .exact ih.fl i b' aa (by omega) (by omega)
   .intro he;rw[he,aa] at hb;obtain rfl:=AD hb;rcases ab with h|h
    .rw[h,B0,Q] at hA;simp only[AM] at hA;omega
    .rw[h,B0,Q] at hB;simp only[AM] at hB;omega
def growC.ca(a:Ba×Int×Int):List AV:=[.ptr 0 0,.im (.int .i64 a.2.1),.im (.int .i64 a.2.2)]
def growC.H1(a:Ba×Int×Int):Av:=[(1,(true,.arr 2 1 ((Fg a.1 a.2.1 a.2.2).1.Flow.map Aj)))]
def growC.r0(a:Ba×Int×Int):AV:= .im (.bool (Fg a.1 a.2.1 a.2.2).2)
def Yb(a:Ba×Int×Int):Prop:=Ds a.1/\IF a.1/\0<=a.2.1/\a.2.1<a.1.Cnt/\0<=a.2.2/\a.2.2<a.1.Cnt
def growC.row:AA:=AE growC.ca (λa=>G1 a.1) 2 Yb aX growC.r0 growC.H1 0
def growC.ok:AB Tryz.prog 263 growC.row:=by
 refine ow (tC stepsC.ok (tC roomC.ok (tC pushC.ok tN))) Tryz.func263 rfl (by kernel_rfl) (exB:=λ_=>false) (R:=λa r=>r=growC.r0 a) (λ_=>rfl)
  (λa=>by simp[growC.ca,G1,Ie,Aq,AV.bel,Ac,A8,BO,Ad.nms,AH,AV.nms,Ao,hget]) (λa p hp=> ?_) (λa r h=>by subst h;exact CF.refl _) ?_
 rotate_left
 intro a a9;simp only[Tryz.f263,growC.ca,G1,Ie,growC.H1];simp(disch:=omega)only[ZZ,simprocAttr,Cl,stepsC.q,stepsC.fv,aX];obtain⟨hn,ax,a0,bi,aj,ak⟩:=a9;refine⟨⟨hn,aj,ak⟩,a0,?_⟩;have bn:=hn.c1;have ah:=sF hn aj ak;have hP:=NH hn aj ak a.1.Cnt.toNat;have aa:=(WP hn aj ak a.1.Cnt.toNat).rng;have bu:=zP hn.c0 (WP hn aj ak a.1.Cnt.toNat);refine⟨by omega,λx hx=> ?_⟩
 split<;>rename_i ai
 .have e:Fg a.1 a.2.1 a.2.2=(a.1,false):=by simp only[Fg];rw[hx];simp only[AM];rw[An ai]
  exact⟨by simp only[growC.r0,e],by rw[e]⟩
 obtain⟨d,rfl⟩: ∃d:Nat,x=d:=⟨x.toNat,by omega⟩;have e:Fg a.1 a.2.1 a.2.2=((BR a.1 (Ff a.1 a.2.2) a.2.1 d).1,true):=by simp only[Fg];rw[hx];simp only[AM];rw[Af ai,B0]
 simp only[growC.r0,e];have bb:(C7 a.1 a.2.2 a.1.Cnt.toNat).1=Ff a.1 a.2.2:=rfl;have O:FH a.1 a.2.2 (Ff a.1 a.2.2,(C7 a.1 a.2.2 a.1.Cnt.toNat).2):=hP;have bo:=aa (d:Int) (AZ hx);clear e hP ai;obtain⟨st,hst⟩: ∃st,st=Ff a.1 a.2.2:=⟨_,rfl⟩;rw[bb] at aa;simp only[<-hst] at ah O hx aa⊢;have aw:=λk hk=>lN hn ax ah O a0 bi hx k hk
 refine AP.old ⟨{k:Nat//k<=d},λk=>⟨[(8,.im (.int .i64 (BR a.1 st a.2.1 k.1).2)),(7,.im (.sl false 1 (st.map Aj))),(0,.ptr 0 0),(1,.im (.int .i64 a.2.1)),(2,.im (.int .i64 a.2.2))],[(0,(true,.cells 344 (Ie a.1))),(1,(true,.arr 2 1 ((BR a.1 st a.2.1 k.1).1.Flow.map Aj)))],2⟩,λk=>d - k.1,λk=>⟨by simp[Ai.good,Am,Ac,A8,AV.bel,Aq,Ie],AQ _⟩,⟨⟨0,by simp⟩,by simp(disch:=omega)only[ZA,simprocAttr,Ie,sub,BR,Ie]⟩,λk=> ?_⟩;obtain⟨k,be⟩:=k;have hI:=aw k be;obtain⟨m,hm,br,ba⟩:=hI.v;simp only[Ie,hm];simp(disch:=omega)only[ZA,simprocAttr,aX,AO];refine⟨λbt=> ?_,λhe=> ?_⟩
 .have bf:k<d:=by
   rcases Fj k d with h|h
   .exact h
   .have:=O.uniq m (by rw[ba];congr 1;omega)
    omega
  obtain⟨m',r,bg,hr,hg,_,bl⟩:=zJ hn ah O bf hI;rw[hm] at bg;have bh:m'=m:=by omega
  subst bh;have Z:BR a.1 st a.2.1 (k+1)=(Ik (BR a.1 st a.2.1 k).1 m' (GW (BR a.1 st a.2.1 k).1 st m').2,(GW (BR a.1 st a.2.1 k).1 st m').1):=by simp only[BR,hm]
  have a8:GW (BR a.1 st a.2.1 k).1 st m'=r.foldl (FU (BR a.1 st a.2.1 k).1 st m') (-1,0):=by simp only[GW,B0,hI.at_,hr,AM]
  have Q:=hI.ok;have af:=hI.cnt;have av:=hI.bs;have an:=hI.at_;obtain⟨N,hN⟩: ∃N,N=(BR a.1 st a.2.1 k).1:=⟨_,rfl⟩;simp only[<-hN] at Z a8 Q af av an hg bl⊢;have au:N.At[m']? =some r:=by rw[an];exact hr
  have az:(⟨a.1.Cnt,a.1.Bonds,a.1.At,N.Flow⟩:Ba)=N:=by rw[<-af,<-av,<-an]
  have aq:m'<a.1.At.length:=(Ce.1 hr).1;refine AP.old ⟨{j:Nat//j<=r.length},λj=>⟨[(11,.im (.int .i64 j.1)),(10,.im (.int .i64 ((r.take j.1).foldl (FU N st m') (-1,0)).2)),(9,.im (.int .i64 ((r.take j.1).foldl (FU N st m') (-1,0)).1)),(8,.im (.int .i64 m')),(7,.im (.sl false 1 (st.map Aj))),(0,.ptr 0 0),(1,.im (.int .i64 a.2.1)),(2,.im (.int .i64 a.2.2))],[(0,(true,.cells 344 (Ie a.1))),(1,(true,.arr 2 1 (N.Flow.map Aj)))],2⟩,λj=>r.length - j.1,λj=>⟨by simp[Ai.good,Am,Ac,A8,AV.bel,Aq,Ie],AQ _⟩,⟨⟨0,by simp⟩,by simp(disch:=omega)only[ZA,simprocAttr,Ie,sub,Ie,ZeA]⟩,λj=> ?_⟩;obtain⟨j,bq⟩:=j;obtain⟨acc,hacc⟩: ∃acc,acc=(r.take j).foldl (FU N st m') (-1,0):=⟨_,rfl⟩;simp only[Ie,<-hacc];simp(disch:=omega)only[ZZ,simprocAttr,Cl,roomC.q,roomC.fv,sub,AO,az];refine⟨aq,λr1 G=> ?_⟩;rw[hr] at G;obtain rfl:=AD G;intro bv;refine⟨λhj=>⟨aq,λr1 G=> ?_⟩,λhj=> ?_⟩
  .rw[hr] at G;obtain rfl:=AD G;refine⟨hj,λi ao=> ?_⟩;have ay:=AZ ao;obtain⟨i0,i1,_,_⟩:=eS Q au ay;have bj:=uQ Q au ay;have z:(r.take (j+1)).foldl (FU N st m') (-1,0)=FU N st m' acc i:=by
    rw[Iq,ao,List.foldl_append,<-hacc];rfl
   have ab:0<(Dm N m' i).1->st[(Dm N m' i).2.toNat]?.getD 0=st[(m':Int).toNat]?.getD 0 - 1->(acc.1<0\/(Dm N m' i).2<acc.1)->FU N st m' acc i=((Dm N m' i).2,i):=by
    intro h1 h2 h3;simp only[FU];rw[An ⟨h1,h2,h3⟩]
   have am:IntKind.wrap .i64 ((j:Int)+1)=((j+1:Nat):Int):=by rw[AG (by omega) (by omega)];omega
   refine⟨⟨Q,i0,i1⟩,λh1=>⟨bj.1,by omega,λx' bm=>⟨by omega,λy' bc=> ?_⟩⟩,λh1=>⟨⟨j+1,by omega⟩,by simp only;omega,am,?_,?_⟩⟩
   .have bw:=aa y' (AZ bc);rw[AG (x:=y' - 1) (by omega) (by omega)];have ac:st[(Dm N m' i).2.toNat]?.getD 0=x':=by rw[bm];rfl
    have ad:st[(m':Int).toNat]?.getD 0=y':=by rw[B0,bc];rfl
    refine⟨λh2=>⟨λh3=>⟨λh4=>⟨aq,λr1 G=> ?_⟩,λh4=>⟨⟨j+1,by omega⟩,by simp only;omega,am,?_,?_⟩⟩,λh3=>⟨aq,λr1 G=> ?_⟩⟩,λh2=>⟨⟨j+1,by omega⟩,by simp only;omega,am,?_,?_⟩⟩
    .rw[hr] at G;obtain rfl:=AD G;refine⟨hj,λi' ag=>⟨⟨j+1,by omega⟩,by simp only;omega,am,?_,?_⟩⟩
     .rw[ao] at ag;obtain rfl:=AD ag;simp only[z];rw[ab h1 (by rw[ac,ad,h2]) (.inr h4)]
     .simp only[z];rw[ab h1 (by rw[ac,ad,h2]) (.inr h4)]
    .simp only[z,FU];rw[Af (λh=>by rcases h.2.2 with h|h<;>omega)]
    .simp only[z,FU];rw[Af (λh=>by rcases h.2.2 with h|h<;>omega)]
    .rw[hr] at G;obtain rfl:=AD G;refine⟨hj,λi' ag=>⟨⟨j+1,by omega⟩,by simp only;omega,am,?_,?_⟩⟩
     .rw[ao] at ag;obtain rfl:=AD ag;simp only[z];rw[ab h1 (by rw[ac,ad,h2]) (.inl (FX.1 h3))]
     .simp only[z];rw[ab h1 (by rw[ac,ad,h2]) (.inl (FX.1 h3))]
    .simp only[z,FU];rw[Af (λh=>h2 (by rw[<-ac,<-ad];exact h.2.1))]
    .simp only[z,FU];rw[Af (λh=>h2 (by rw[<-ac,<-ad];exact h.2.1))]
   .simp only[z,FU];rw[Af (λh=>h1 h.1)]
   .simp only[z,FU];rw[Af (λh=>h1 h.1)]
  .have bd:j=r.length:=by omega
   subst bd;rw[Gs] at hacc;rw[<-a8] at hacc;subst hacc;have bp:=Q.at_ m' r au _ hg.1;obtain⟨i0,i1,_,_⟩:=eS Q au hg.1;refine AE.os (N,(m':Int),(GW N st m').2) [0,1] ⟨Q,i0,i1⟩ (λj=>oC _ j) rfl rfl ?_ ?_
   .simp(disch:=omega)only[ZA,simprocAttr,D6,G1,Ie,pushC.ca,G1,Ie];rw[af,av,an];exact⟨rfl,rfl,rfl⟩
   .simp(disch:=omega)only[ZA,simprocAttr,D6,aX,pushC.H1,aX,sub];exact⟨⟨k+1,by omega⟩,by simp only;omega,by simp only[Z],by simp only[Z]⟩
 .have:k=d:=by
   have h1:=O.zero;rw[show a.2.2.toNat=m by omega,ba] at h1
   have:=AD h1
   omega
  rw[this]
 simp[growC.H1] at hp;subst hp;exact .inl ⟨by omega,rfl,rfl⟩
def Bi(a b:Nat)(h:a≠b):(a==b)=false:=by simpa using h
def VE{α β γ:Type}{f:α->Option β}{g:γ->α}{k:γ->β}: ∀(l:List γ),(∀i∈l,f (g i)=some (k i))->A7 f (l.map g)=some (l.map k)
 |[],_=>rfl
 |x::r,h=>by simp only[Bd,A7,h x (BT ..),VE r (λi z=>h i (BX _ z))]
def XN{H:Nat->Option Au}{kx:Nat->Option Nat}{m b n T:Nat}(f:Nat->List Int)(G: ∀i,i<n->kx (b+i)=none)(hH: ∀i,i<n->H (b+i)=some (true,.arr T 1 ((f i).map Aj))):
 A7 (A7 λx=>Ek (Be H kx (m+1) x)) ((List.range n).map λi=>[AV.own (b+i)])=some (((List.range n).map f).map C8):=by
 rw[Rn];refine VE _ (λi z=> ?_);have z:=BD.1 z;simp only[A7,Be,G i z,hH i z,Qh,kp,CQ,Ek,AV.asD,Function.comp,C8]
def Lh(H:Av)(a b:Nat)(h:a≠b):hget (Bh H [a]) b=hget H b:=by
 rw[WM,Af];simp;omega
def WW{α:Type}{a b:Nat}{x y:α}(h:a≠b):(if a=b then x else y)=y:=Af h
def BB: ∀(x:Av),Bh x []=x
 |[]=>rfl
 |(m,e)::r=>by simp[Bh,BB r]
def eB(L:List Nat)(b n:Nat)(h:L.Nodup)(hb: ∀x∈L,x<b):(L++(List.range n).map (b+ ·)).Nodup:=by
 rw[VN];refine⟨h,?_,?_⟩
 .rw[ZdI,List.pairwise_map];exact ZeE (λh O=>h (by omega)) (ZdI.1 List.nodup_range)
 .intro x z y G Q;obtain⟨i,_,rfl⟩:=Bv.1 G
  have:=hb x z
  omega
def Iw(bs:List Ag)(i:Nat):Nat->List Int
 |0=>[]
 |k+1=>Iw bs i k++(match bs[k]? with
  |some b=>(if b.A=i then [(k:Int)] else [])++(if b.B=i then [(k:Int)] else [])
  |none=>[])
def Qwx(bs:List Ag)(i:Nat): ∀k,(Iw bs i k).length<=2*k
 |0=>AQ _
 |k+1=>by
  have:=Qwx bs i k
  simp only[Iw,Dq];split
  .simp only[Dq]
   split<;>split<;>simp<;>omega
  .simp;omega
def CX(n:Int)(bs:List Ag):Ba:=⟨n,bs,(List.range n.toNat).map (λi=>Iw bs i bs.length),List.replicate bs.length 0⟩
def newNC.ca(a:Int×List Ag):List AV:=[.im (.int .i64 a.1),.im (.sl false 3 (a.2.map Ag.c))]
def newNC.H1(a:Int×List Ag):Av:=[(0,(true,.cells 344 [.im (.int .i64 a.1),.im (.sl false 3 (a.2.map Ag.c)),.im (.sl false 1 ((CX a.1 a.2).At.map C8)),.own 2])),(2,(true,.arr 2 1 ((CX a.1 a.2).Flow.map Aj)))]
def ZF(a:Int×List Ag):Prop:=0<=a.1/\a.1<=1000/\a.2.length<=1000000/\Lk a.1 a.2/\ ∀b∈a.2,b.A≠b.B
def mZ(j:Nat):Bool:=j==0||j==2
def newNC.row:AA:=AE newNC.ca (λ_=>[]) 0 ZF (λ_=>false) (λ_=> .ptr 0 0) newNC.H1 3010
def newNC.ok:AB Tryz.prog 262 newNC.row:=by
 refine ow tN Tryz.func262 rfl (by kernel_rfl) (exB:=mZ) (R:=λ_ r=>r= .ptr 0 0) (λ_=>rfl)
  (λa=>by simp[newNC.ca,Aq,AV.bel,Ac,A8,BO]) (λa p hp=> ?_) (λa r h=>by subst h;exact CF.refl _) ?_
 rotate_left
 intro a ax;simp only[Tryz.f262,newNC.ca,newNC.H1];simp(disch:=omega)only[ZA,simprocAttr];obtain⟨aw,a9,hl,am,ba⟩:=ax;refine⟨aw,Lu _,by omega,λ_=>⟨by omega,?_⟩⟩;obtain⟨n,hn⟩: ∃n:Nat,a.1=n:=⟨a.1.toNat,by omega⟩;rw[hn] at aw a9 am;simp only[hn,B0];refine AP.ren ⟨{k:Nat//k<=a.2.length},λk=>⟨[(6,.im (.int .i64 k.1)),(5,.ptr 0 0),(1,.im (.sl false 3 (a.2.map Ag.c)))],(0,(true,.cells 344 [.im (.int .i64 n),.im (.sl false 3 (a.2.map Ag.c)),.own 1,.own 2]))::(2,(true,.arr 2 1 ((List.replicate a.2.length (0:Int)).map Aj)))::(1,(true,.arrA 32 1 ((List.range n).map λi=>[AV.own (1000+i)])))::AU 1000 n (λi=>(true,.arr 2 1 ((Iw a.2 i k.1).map Aj))),3000⟩,λk=>a.2.length - k.1,λk=>⟨?_,by simp⟩,⟨⟨0,by simp⟩,IU 1000 n,?_⟩,λk=> ?_⟩
 .simp only[Ai.good,Am,Ac,A8,AV.bel,Aq,F7,Eb];rw[Rb _ _ _ (λi=>by simp[Ac]),QQ _ _ _ _ (by omega)];simp[Aq,AV.bel];omega
 .refine⟨S7 _ _ _ (by simp),?_,?_,?_⟩
  .rw[eV];simp only[Fh,Z6];refine fC _ _ (eB [0,2,1] 1000 n (by simp) (by simp)) ?_;intro x hx y hy m G z;rw[lU] at G z;split at G
   .cases G
   .split at z
    .cases z
    .exact (AD G).trans (AD z).symm
  .simp only[Qn,AF];simp(disch:=omega)only[ZA,simprocAttr,lU,GZ];simp[GZ]
  .have p0:pm (IU 1000 n) 0=some 0:=by rw[lU,Af (by omega)]
   have p1:pm (IU 1000 n) 1=some 1:=by rw[lU,Af (by omega)]
   have p2:pm (IU 1000 n) 2=some 2:=by rw[lU,Af (by omega)]
   have pf: ∀i,i<n->pm (IU 1000 n) (1000+i)=none:=by intro i O;rw[lU,An (by omega)]
   simp only[Ha,eL];refine⟨?_,?_,?_,λi O=> ?_⟩
   .simp(disch:=omega)only[ZA,simprocAttr,p0,p1,p2]
   .simp(disch:=omega)only[ZA,simprocAttr,p2];simp[Aj]
   .simp(disch:=omega)only[ZA,simprocAttr,p1];rw[fD];refine⟨by simp,λi x y hx hy=> ?_⟩;simp only[D2,D4] at hx hy;obtain⟨i',ah,rfl⟩:=hx;obtain⟨w,hw,rfl⟩:=hy;have bd:=Ol (AZ hw);subst bd
    have:=BD.1 (AZ ah)
    simp(disch:=omega)only[ZA,simprocAttr,pf i' this]
   .rw[pf i O];simp(disch:=omega)only[ZA,simprocAttr,Iw]
 obtain⟨k,bj⟩:=k;simp(disch:=omega)only[ZA,simprocAttr,D6,mZ,AO,BB];intro _;refine⟨λhk=>⟨hk,λb hb=>⟨hk,λb' Z=> ?_⟩⟩,λhk=> ?_⟩
 .rw[hb] at Z;obtain rfl:=AD Z;obtain⟨b1,b2,b3,b4⟩:=am b (AZ hb);have bi:=ba b (AZ hb);refine⟨b1,by rw[aH];exact b2,by rw[aH];omega,λx hx=> ?_⟩;obtain⟨ay,bf⟩:=Ce.1 hx;rw[aH] at ay;rw[Zev] at bf;have bq:x<n:=by omega
  refine⟨by omega,?_,?_⟩
  .simp;omega
  have be:(1000+x<3000\/3000<=1000+x)=True:=aM (by omega);have bn:(1000+x==0)=false:=Bi _ _ (by omega);have bo:(1000+x==1)=false:=Bi _ _ (by omega);have bp:(1000+x==2)=false:=Bi _ _ (by omega);have bl:=Qwx a.2 x k;simp(disch:=omega)only[ZA,simprocAttr,WW,HE,BB,be,Bi];refine⟨by omega,by omega,?_⟩;refine⟨b1,by rw[aH];exact b2,by rw[aH];exact ay,λ_ _=> ?_⟩;have Q: ∀N,3001<N->((List.map (λi=>[AV.own (1000+i)]) (List.range n)).set b.A.toNat [AV.own 3001]).all (Aq N)=true:=by
   intro N hN;rw[D3];intro r hr;rcases Xm hr with hr|hr
   .obtain⟨i,O,rfl⟩:=Bv.1 hr
    have:=BD.1 O
    simp[Aq,AV.bel];omega
   .subst hr;simp[Aq,AV.bel];omega
  refine⟨Q _ (by omega),⟨by simp,by simp,by simp⟩,hk,λb' Z=>⟨hk,λb'' ag=> ?_⟩⟩;rw[hb] at Z ag;obtain rfl:=AD Z;obtain rfl:=AD ag;obtain⟨y,hy⟩: ∃y:Nat,b.B=y:=⟨b.B.toNat,by omega⟩;have br:y≠x:=by omega
  have bh:y<n:=by omega
  have az:b.B.toNat=y:=by omega
  refine⟨b3,by simp;omega,by simp;omega,λrow aa=> ?_⟩;have ak:row=[AV.own (1000+y)]:=by
   rw[az,DK (by omega),D2,HN bh] at aa;exact (AD aa).symm
  subst ak;have bg:(1000+y<3002\/3002<=1000+y)=True:=aM (by omega);have bm:=Qwx a.2 y k;simp(disch:=omega)only[ZA,simprocAttr,D6,WW,HE,BB,bg,Bi,Lh];refine⟨by omega,by omega,by omega,b3,by simp;omega,by simp;omega,λrow ab=> ?_⟩;rw[aa] at ab;obtain rfl:=AD ab;simp(disch:=omega)only[ZA,simprocAttr,BB,Bi];refine⟨?_,⟨by simp,by simp,by simp⟩,⟨k+1,by omega⟩,[(1000+x,some 3001),(1000+y,some 3003)],by simp only;omega,?_⟩
  .rw[D3];intro r hr;rcases Xm hr with hr|hr
   .exact D3.1 (Q 3004 (by omega)) r hr
   .subst hr;simp[Aq,AV.bel]
  obtain⟨g,hg⟩: ∃g,g=pm [(1000+x,some 3001),(1000+y,some 3003)]:=⟨_,rfl⟩;have qx:g (1000+x)=some 3001:=by rw[hg];simp[pm]
  have qy:g (1000+y)=some 3003:=by rw[hg];simp only[pm];rw[Af (by omega)];simp
  have qo: ∀u,u≠1000+x->u≠1000+y->g u=some u:=by intro u G z;rw[hg];simp only[pm];rw[Af (by omega),Af (by omega)]
  have a0: ∀i,i<n->Iw a.2 i (k+1)=if i=x\/i=y then Iw a.2 i k++[(k:Int)] else Iw a.2 i k:=by
   intro i O;simp only[Iw,hb];by_cases G:i=x
   .subst G;rw[An (by omega),Af (by omega),An (.inl rfl),D8]
   .by_cases z:i=y
    .subst z;rw[Af (by omega),An (by omega),An (.inr rfl),Hg]
    .rw[Af (by omega),Af (by omega),Af (by omega)];simp
  refine⟨⟨by omega,by omega,trivial⟩,?_,?_,?_⟩
  .rw[eV,<-hg];simp only[Fh,Z6];refine fC _ _ (eB [0,2,1] 1000 n (by simp) (by simp)) ?_;have aq: ∀u∈[0,2,1]++(List.range n).map (1000+ ·),u<2000:=by
    intro u hu;rcases Bx.1 hu with hu|hu
    .simp at hu;omega
    .obtain⟨i,O,rfl⟩:=Bv.1 hu
     have:=BD.1 O
     show 1000+i<2000;omega
   have hc: ∀u,u<2000->(u=1000+x/\g u=some 3001)\/(u=1000+y/\g u=some 3003)\/g u=some u:=by
    intro u _;by_cases G:u=1000+x
    .exact .inl ⟨G,G▸qx⟩
    .by_cases z:u=1000+y
     .exact .inr (.inl ⟨z,z▸qy⟩)
     .exact .inr (.inr (qo u G z))
   intro u hu v hv m au av;have bb:=aq u hu;have bc:=aq v hv;rcases hc u bb with ⟨e1,e2⟩|⟨e1,e2⟩|e2<;>rcases hc v bc with ⟨f1,f2⟩|⟨f1,f2⟩|f2<;>rw[e2] at au<;>rw[f2] at av<;>simp only[AJ] at au av<;>omega
  .have q0:pm [(1000+x,some 3001),(1000+y,some 3003)] 0=some 0:=by rw[<-hg];exact qo 0 (by omega) (by omega)
   simp only[Qn,AF];simp(disch:=omega)only[ZA,simprocAttr,q0];rw[AG (by omega) (by omega)];simp
  .have q0:pm [(1000+x,some 3001),(1000+y,some 3003)] 0=some 0:=by rw[<-hg];exact qo 0 (by omega) (by omega)
   have q1:pm [(1000+x,some 3001),(1000+y,some 3003)] 1=some 1:=by rw[<-hg];exact qo 1 (by omega) (by omega)
   have q2:pm [(1000+x,some 3001),(1000+y,some 3003)] 2=some 2:=by rw[<-hg];exact qo 2 (by omega) (by omega)
   have ad:=qx;have af:=qy;have ac:=qo;rw[hg] at ad af ac;simp only[Ha,eL];refine⟨?_,?_,?_,λi O=> ?_⟩
   .simp(disch:=omega)only[ZA,simprocAttr,q0,q1,q2]
   .simp(disch:=omega)only[ZA,simprocAttr,q2]
   .simp(disch:=omega)only[ZA,simprocAttr,q1];rw[fD];refine⟨by simp,λi r1 r2 G z=> ?_⟩;simp only[D2,D4] at G;obtain⟨i',ah,rfl⟩:=G;obtain⟨ao,an⟩:=Ce.1 ah;rw[aH] at ao;rw[Zev] at an;subst an;rw[az,show b.A.toNat=x by omega] at z;by_cases aj:i=y
    .subst aj;rw[Du (by simp;omega)] at z;obtain rfl:=AD z;simp only[DG,mt,af,FN,Hx]
    .rw[DK (by omega)] at z;by_cases ai:i=x
     .subst ai;rw[Du (by simp;omega)] at z;obtain rfl:=AD z;simp only[DG,mt,ad,FN,Hx]
     .rw[DK (by omega),D2,HN ao] at z;obtain rfl:=AD z;simp only[DG,mt,ac (1000+i) (by omega) (by omega),FN,Hx]
   .show Ep _ _ true (.arr 2 1 ((Iw a.2 i (k+1)).map Aj)) _;rw[a0 i O];by_cases aj:i=y
    .subst aj;rw[af,An (.inr rfl)];simp(disch:=omega)only[ZA,simprocAttr];simp[Aj]
    .by_cases ai:i=x
     .subst ai;rw[ad,An (.inl rfl)];simp(disch:=omega)only[ZA,simprocAttr];simp[Aj]
     .rw[ac (1000+i) (by omega) (by omega),Af (by omega)];have e: ∀(H:Av),hget H (1000+i)=some (true,.arr 2 1 ((Iw a.2 i k).map Aj))->K0 [(1000+x,some 3001),(1000+y,some 3003)] true (.arr 2 1 ((Iw a.2 i k).map Aj)) (hget H (1000+i)):=by
       intro H hH;rw[hH];exact⟨rfl,by simp only[EG]⟩
      refine e _ ?_;simp only[hget,Bi _ _ (show 1≠1000+i by omega),Bi _ _ (show 3003≠1000+i by omega),Bi _ _ (show 3002≠1000+i by omega),Bi _ _ (show 3001≠1000+i by omega),Bi _ _ (show 3000≠1000+i by omega),Bi _ _ (show 0≠1000+i by omega),Bi _ _ (show 2≠1000+i by omega),BC];rw[Lh _ _ _ (by omega),Lh _ _ _ (by omega),Lh _ _ _ (by omega),Lh _ _ _ (by omega),HE _ _ _ _ O]
 .have a8:k=a.2.length:=by omega
  subst a8;rw[XN (T:=2) (λi=>Iw a.2 i a.2.length)]
  .simp[CX]
  .intro i O;have e:mZ (1000+i)=false:=by simp only[mZ,Bi _ _ (show 1000+i≠0 by omega),Bi _ _ (show 1000+i≠2 by omega),Qt]
   simp[IZ,Ao,hget,e]
  .intro i O;simp only[hget,Bi _ _ (show 1≠1000+i by omega),Bi _ _ (show 0≠1000+i by omega),Bi _ _ (show 2≠1000+i by omega),BC];exact HE _ _ _ _ O
 simp[newNC.H1] at hp;rcases hp with rfl|rfl
 .exact .inr ⟨by omega,by simp,rfl,rfl⟩
 .exact .inr ⟨by omega,by simp,rfl,rfl⟩
def J9(p:Int)(b:Ag)(f:Int):Int:=if b.A=p then f else if b.B=p then -f else 0
def Dh(n:Ba)(p:Int):Int:=(List.zipWith (J9 p) n.Bonds n.Flow).sum
def N5(p:Int): ∀(bs:List Ag) (O:List Int) (j:Nat) (b:Ag) (f f':Int),bs[j]? =some b->O[j]? =some f->(List.zipWith (J9 p) bs (O.set j f')).sum=(List.zipWith (J9 p) bs O).sum - J9 p b f+J9 p b f'
 |[],_,_,_,_,_,h,_=>by simp at h
 |_::_,[],_,_,_,_,_,h=>by simp at h
 |x::r,y::s,0,b,f,f',z,G=>by
  simp only[GF,AJ] at z G;subst z;subst G;simp only[aD,gA,Lx];omega
 |x::r,y::s,j+1,b,f,f',z,G=>by
  have:=N5 p r s j b f f' (by simpa using z) (by simpa using G)
  simp only[mS,gA,Lx,this];omega
def Qzc{n:Ba}(hn:Ds n){v:Nat}{r:List Int}(Z:n.At[v]? =some r){i:Int}(G:i∈r)(p:Int):Dh (Ik n v i) p=Dh n p+(if (v:Int)=p then 1 else if (Dm n v i).2=p then -1 else 0):=by
 obtain⟨h0,b,hb,hv⟩:=hn.at_ v r Z i G;have Q:=hn.ne b (AZ hb);have O:=(Ce.1 hb).1;obtain⟨f,hf⟩: ∃f,n.Flow[i.toNat]? =some f:=⟨_,Bk (by rw[hn.fl];exact O)⟩;simp only[Dh,Ik,hb,Dm];rw[N5 p _ _ _ b f _ hb hf,hf];simp only[AM,J9];rcases hv with h|h
 .simp only[An h]
  repeat' split
  all_goals omega
 .have z: ¬b.A=v:=by omega
  simp only[Af z]
  repeat' split
  all_goals omega
def La(p:Int): ∀(bs:List Ag) (G:List Int),(∀(i:Nat) b f,bs[i]? =some b->G[i]? =some f-> -b.Strength<=f/\f<=b.Strength)->(∀b∈bs,0<=b.Strength)->(List.zipWith (J9 p) bs G).sum<=(bs.map Ag.Strength).sum
 |[],_,_,_=>by simp
 |x::r,[],_,z=>by
  have O:=La p r [] (λi b f _ h=>by simp at h) (λb hb=>z b (BX _ hb));have Q:=z x (BT ..);simp only[ZdV,ZeU,Bd,Lx] at O⊢;omega
 |x::r,y::s,hc,z=>by
  have O:=La p r s (λi b f h h'=>hc (i+1) b f (by simpa using h) (by simpa using h')) (λb hb=>z b (BX _ hb));have Q:=z x (BT ..);have Z:=hc 0 x y rfl rfl;simp only[gA,Bd,Lx,J9];split
  .omega
  .split<;>omega
def TT{n:Ba}(hn:Ds n)(hc:IF n)(p:Int):Dh n p<=(n.Bonds.map Ag.Strength).sum:=La p _ _ hc (λb hb=>(hn.st b hb).1)
def Vx{n:Ba}(hn:Ds n)(hc:IF n){q:Int}{st qu:List Int}(z:st.length=n.Cnt.toNat)(hP:FH n q (st,qu)){p:Int}(aa:0<=p)(ab:p<n.Cnt){d:Nat}(hd:st[p.toNat]? =some (d:Int)): ∀k,k<d->Dh (BR n st p (k+1)).1 p=Dh n p+1:=by
 have step: ∀k,k<d->Dh (BR n st p (k+1)).1 p=Dh (BR n st p k).1 p+(if k=0 then 1 else 0):=by
  intro k Q;have Z:=lN hn hc z hP aa ab hd k (by omega);obtain⟨m,r,hm,hr,hg,G,af⟩:=zJ hn z hP Q Z;have ac:(BR n st p k).1.At[m]? =some r:=by rw[Z.at_];exact hr
  have e:(BR n st p (k+1)).1=Ik (BR n st p k).1 m (GW (BR n st p k).1 st m).2:=by simp only[BR,hm]
  rw[e,Qzc Z.ok ac hg.1,hg.2.2.1];have O:=hg.2.2.2.1;rw[B0,G,AM] at O;have ad:(GW (BR n st p k).1 st m).1≠p:=by
   intro he;rw[he,hd,AM] at O;omega
  by_cases h0:k=0
  .subst h0
   have:(m:Int)=p:=by rw[<-hm];rfl
   rw[An this,An rfl]
  .have:(m:Int)≠p:=by
    intro he
    have:m=p.toNat:=by omega
    rw[this,hd] at G
    have:=AD G
    omega
   rw[Af this,Af ad,Af h0]
 intro k Q;induction k with
 |zero=>rw[step 0 Q];simp[BR]
 |succ k ih=>rw[step (k+1) Q,Af (by omega),ih (by omega)];omega
def Qr2(bs:List Ag)(i:Nat)(z:Int): ∀k,z∈Iw bs i k↔ ∃(j:Nat) (b:Ag),j<k/\z=j/\bs[j]? =some b/\(b.A=i\/b.B=i)
 |0=>by simp[Iw]
 |k+1=>by
  have ih:=Qr2 bs i z k;simp only[Iw,Bx,ih];constructor
  .rintro (⟨j,b,Z,O,Q,G⟩|h)
   .exact⟨j,b,by omega,O,Q,G⟩
   .cases hb:bs[k]? with
    |none=>rw[hb] at h;simp at h
    |some b=>
     rw[hb] at h;simp only[Bx] at h;refine⟨k,b,by omega,?_,hb,?_⟩
     .rcases h with h|h<;>split at h<;>simp at h<;>exact h
     .rcases h with h|h
      .split at h
       .exact .inl (by assumption)
       .simp at h
      .split at h
       .exact .inr (by assumption)
       .simp at h
  .rintro⟨j,b,Z,O,Q,G⟩;by_cases hj:j=k
   .subst hj;refine .inr ?_;rw[Q];simp only[Bx];rcases G with G|G
    .exact .inl (by rw[An G,O];exact BK.2 rfl)
    .exact .inr (by rw[An G,O];exact BK.2 rfl)
   .exact .inl ⟨j,b,by omega,O,Q,G⟩
def Qj(bs:List Ag):Prop:= ∀b∈bs,0<=b.Strength/\b.Strength<=1000000
def Qxo{n:Int}{bs:List Ag}(v:Nat)(z:v<n.toNat):(CX n bs).At[v]? =some (Iw bs v bs.length):=by
 simp only[CX,D2,HN z,CQ]
def Mz{n:Int}{bs:List Ag}(h:ZF (n,bs))(hs:Qj bs):Ds (CX n bs)/\IF (CX n bs):=by
 obtain⟨h0,h1,h2,z,Q⟩:=h;simp only at h0 h1 h2 z Q;have hz: ∀(i:Nat) f,(CX n bs).Flow[i]? =some f->f=0:=by
  intro i f hf;exact Ol (AZ hf)
 refine⟨⟨h0,by show n<=1000000;omega,by simp[CX],by simp[CX];omega,z,?_,?_,hs,?_,Q⟩,?_⟩
 .intro v r O i G;have hv:v<n.toNat:=by
   have:=(Ce.1 O).1
   simpa[CX] using this
  rw[Qxo v hv] at O;obtain rfl:=AD O;obtain⟨j,b,g1,g2,g3,g4⟩:=(Qr2 bs v i bs.length).1 G;exact⟨by omega,b,by rw[g2,B0];exact g3,g4⟩
 .intro x hx;obtain⟨i,G⟩:=Ku.1 hx
  have:=hz i x G
  omega
 .intro i b hb;have Z:=(Ce.1 hb).1;have aa:=z b (AZ hb);refine⟨⟨_,Qxo _ (by omega),(Qr2 bs _ _ _).2 ⟨i,b,Z,rfl,hb,.inl (by omega)⟩⟩,⟨_,Qxo _ (by omega),(Qr2 bs _ _ _).2 ⟨i,b,Z,rfl,hb,.inr (by omega)⟩⟩⟩
 .intro i b f hb hf
  have:=hz i f hf
  have:=hs b (AZ hb)
  omega
def Qtg{n:Int}{bs:List Ag}(p:Int):Dh (CX n bs) p=0:=by
 simp only[Dh,CX]
 have: ∀(l:List Ag) (m:Nat),(List.zipWith (J9 p) l (List.replicate m 0)).sum=0:=by
  intro l;induction l with
  |nil=>intro m;simp
  |cons x r ih=>
   intro m;cases m with
   |zero=>simp
   |succ m=>
    simp only[Zem,gA,Lx,ih m,J9];split
    .rfl
    .split<;>rfl
 exact this _ _
def GD(p q:Int):Nat->Ba->Ba×Int
 |0,n=>(n,0)
 |m+1,n=>if (Fg n p q).2=true then ((GD p q m (Fg n p q).1).1,(GD p q m (Fg n p q).1).2+1) else (n,0)
def Ea(n:Int)(bs:List Ag)(p q:Int):Ba×Int:=GD p q ((bs.map Ag.Strength).sum.toNat+1) (CX n bs)
def LZ{n:Ba}(hn:Ds n)(hc:IF n){p q:Int}(O:0<=p)(Q:p<n.Cnt)(Z:0<=q)(aa:q<n.Cnt)(ab:p≠q)(hg:(Fg n p q).2=true):
 Ds (Fg n p q).1/\IF (Fg n p q).1/\(Fg n p q).1.Cnt=n.Cnt/\(Fg n p q).1.Bonds=n.Bonds/\(Fg n p q).1.At=n.At/\Dh (Fg n p q).1 p=Dh n p+1:=by
 have z:=sF hn Z aa;have hP:FH n q (Ff n q,(C7 n q n.Cnt.toNat).2):=NH hn Z aa n.Cnt.toNat;obtain⟨x,hx⟩: ∃x,(Ff n q)[p.toNat]? =some x:=⟨_,Bk (by omega)⟩;simp only[Fg,hx,AM] at hg⊢;by_cases h:x<0
 .rw[An h] at hg;simp at hg
 .obtain⟨d,rfl⟩: ∃d:Nat,x=d:=⟨x.toNat,by omega⟩;rw[Af h,B0];have hd:0<d:=by
   rcases mT d with h0|h0
   .subst h0
    have:=hP.uniq p.toNat hx
    omega
   .exact h0
  have G:=lN hn hc z hP O Q hx d (AQ _);have ho:=Vx hn hc z hP O Q hx (d - 1) (by omega);rw[show d - 1+1=d by omega] at ho;exact⟨G.ok,G.cap,G.cnt,G.bs,G.at_,ho⟩
abbrev nO:=Int×List Ag×Int×Int
def flC.net(a:nO):Ba:=(Ea a.1 a.2.1 a.2.2.1 a.2.2.2).1
def flC.ca(a:nO):List AV:=[.im (.int .i64 a.1),.im (.sl false 3 (a.2.1.map Ag.c)),.im (.int .i64 a.2.2.1),.im (.int .i64 a.2.2.2)]
def flC.H1(a:nO):Av:=[(0,(true,.cells 344 [.im (.int .i64 a.1),.im (.sl false 3 (a.2.1.map Ag.c)),.im (.sl false 1 ((CX a.1 a.2.1).At.map C8)),.own 2])),(2,(true,.arr 2 1 ((flC.net a).Flow.map Aj)))]
def flC.r0(a:nO):AV:= .tup [.ptr 0 0,.im (.int .i64 (Ea a.1 a.2.1 a.2.2.1 a.2.2.2).2)]
def flC.pre(a:nO):Prop:=ZF (a.1,a.2.1)/\Qj a.2.1/\0<=a.2.2.1/\a.2.2.1<a.1/\0<=a.2.2.2/\a.2.2.2<a.1/\a.2.2.1≠a.2.2.2
def flC.row:AA:=AE flC.ca (λ_=>[]) 0 flC.pre (λ_=>false) flC.r0 flC.H1 3010
def flC.ok:AB Tryz.prog 242 flC.row:=by
 refine ow (tC newNC.ok (tC growC.ok tN)) Tryz.func242 rfl (by kernel_rfl) (exB:=mZ) (R:=λa r=>r=flC.r0 a) (λ_=>rfl)
  (λa=>by simp[flC.ca,Aq,AV.bel,Ac,A8,BO]) (λa p hp=> ?_) (λa r h=>by subst h;exact CF.refl _) ?_
 rotate_left
 intro a ab;simp only[Tryz.f242,flC.ca,flC.H1];simp(disch:=omega)only[ZA,simprocAttr];obtain⟨G,ad,aa,ak,ac,am,ag⟩:=ab;obtain⟨Z,z⟩:=Mz G ad;have ah:=Qtg (n:=a.1) (bs:=a.2.1) a.2.2.1;refine AE.os (a.1,a.2.1) [] G (λj=>by simp[Ao,hget]) rfl rfl ?_ ?_
 .simp(disch:=omega)only[ZA,simprocAttr,newNC.ca]
 .simp(disch:=omega)only[ZA,simprocAttr,newNC.H1];obtain⟨F,hF⟩: ∃F,F=(a.2.1.map Ag.Strength).sum.toNat+1:=⟨_,rfl⟩;refine AP.old ⟨{k:Nat×Ba//Ds k.2/\IF k.2/\k.2.Cnt=a.1/\k.2.Bonds=a.2.1/\k.2.At=(CX a.1 a.2.1).At/\Dh k.2 a.2.2.1=k.1/\k.1<=F/\Ea a.1 a.2.1 a.2.2.1 a.2.2.2=((GD a.2.2.1 a.2.2.2 (F - k.1) k.2).1,(GD a.2.2.1 a.2.2.2 (F - k.1) k.2).2+k.1)},λk=>⟨[(11,.im (.int .i64 k.1.1)),(10,.ptr 0 0),(2,.im (.int .i64 a.2.2.1)),(3,.im (.int .i64 a.2.2.2))],[(0,(true,.cells 344 [.im (.int .i64 a.1),.im (.sl false 3 (a.2.1.map Ag.c)),.im (.sl false 1 ((CX a.1 a.2.1).At.map C8)),.own 2])),(2,(true,.arr 2 1 (k.1.2.Flow.map Aj)))],3010⟩,λk=>F - k.1.1,λk=>⟨by simp[Ai.good,Am,Ac,A8,AV.bel,Aq],AQ _⟩,⟨⟨(0,CX a.1 a.2.1),Z,z,rfl,rfl,rfl,ah,Cz _,by simp[Ea,hF]⟩,by simp(disch:=omega)only[ZA,simprocAttr,sub]⟩,λk=> ?_⟩;obtain⟨⟨k,N⟩,i1,i2,i3,i4,i5,i6,i7,O⟩:=k;simp only at i1 i2 i3 i4 i5 i6 i7 O;have af:=TT i1 i2 a.2.2.1;rw[i4,i6] at af;have aj:k<F:=by omega
  have ai:F<=1000000000001:=by
   have h2: ∀(l:List Ag),(∀b∈l,b.Strength<=1000000)->(l.map Ag.Strength).sum<=1000000*(l.length:Int):=by
    intro l;induction l with
    |nil=>intro _;simp
    |cons x r ih=>
     intro h;have h3:=ih (λb hb=>h b (BX _ hb));have h4:=h x (BT ..);simp only[Bd,Lx,CP];omega
   have h3:=h2 a.2.1 (λb hb=>(ad b hb).2);have h4:=G.2.2.1;simp only at h4;omega
  obtain⟨m,hm⟩: ∃m,F - k=m+1:=⟨F - k - 1,by omega⟩;rw[hm,GD] at O;simp(disch:=omega)only[ZA,simprocAttr];refine AE.os (N,a.2.2.1,a.2.2.2) [0,2] ⟨i1,i2,aa,by simp only;omega,ac,by simp only;omega⟩ (λj=>oC _ j) rfl rfl ?_ ?_
  .simp(disch:=omega)only[ZA,simprocAttr,D6,growC.ca,G1,Ie];rw[i3,i4,i5];exact⟨rfl,rfl,rfl⟩
  .simp(disch:=omega)only[ZA,simprocAttr,D6,mZ,growC.H1,growC.r0,aX,sub,AO];refine⟨λQ=> ?_,λQ=> ?_⟩
   .rw[An Q] at O;obtain⟨g1,g2,g3,g4,g5,g6⟩:=LZ i1 i2 aa (by omega) ac (by omega) ag Q;refine⟨⟨(k+1,(Fg N a.2.2.1 a.2.2.2).1),g1,g2,g3.trans i3,g4.trans i4,g5.trans i5,by simp only;omega,by simp only;omega,?_⟩,by simp only;omega,?_,rfl⟩
    .simp only;rw[show F - (k+1)=m by omega,O];simp only[E0,wA];omega
    .rw[AG (by omega) (by omega)];simp only;omega
   .rw[Af Q] at O;have e:(Fg N a.2.2.1 a.2.2.2).1=N:=by
     revert Q;simp only[Fg];split
     .intro _;rfl
     .intro h;simp at h
    refine⟨?_,?_⟩
    .simp only[flC.r0,O];simp
    .rw[e];simp only[flC.net,O]
 simp[flC.H1] at hp;rcases hp with rfl|rfl
 .exact .inr ⟨by omega,by simp,rfl,rfl⟩
 .exact .inr ⟨by omega,by simp,rfl,rfl⟩
def PS:D->Option Int
 | .int .u64 n=>some n
 |_=>none
def Qs3: ∀d x,PS d=some x->Le d (.int .u64 x):=by
 intro d x h;unfold PS at h;split at h
 .simp only[AJ] at h;subst h;exact Le.refl _
 .cases h
def Qw1{a:Int}(h0:0<=a)(G:a<4294967296):Ot .u64 a 4294967295=a:=by
 simp only[Ot];obtain⟨n,rfl⟩: ∃n:Nat,a=n:=⟨a.toNat,by omega⟩;have hn:n<4294967296:=by omega
 have:(BitVec.ofInt IntKind.u64.bits (n:Int) &&& BitVec.ofInt IntKind.u64.bits 4294967295).toNat=n:=by
  have e:IntKind.u64.bits=64:=rfl;rw[e];simp only[BitVec.toNat_and,BitVec.toNat_ofInt];rw[show ((n:Int) % ((2^64:Nat):Int)).toNat=n by omega,show ((4294967295:Int) % ((2^64:Nat):Int)).toNat=2^32 - 1 by decide];rw[Nat.and_two_pow_sub_one_eq_mod];omega
 rw[this];unfold IntKind.wrap;have e:IntKind.u64.bits=64:=rfl;have z:IntKind.u64.signed=false:=rfl;simp only[e,z,F6,Df,CK];omega
def N4{a:Int}(h0:0<=a)(G:a<18446744073709551616):IntKind.u64.wrap a=a:=by
 unfold IntKind.wrap;have e:IntKind.u64.bits=64:=rfl;have z:IntKind.u64.signed=false:=rfl;simp only[e,z,F6,Df,CK];omega
def LH{a:Int}(h0:0<=a)(z:a<4294967296):a.fdiv (2^min 32 IntKind.u64.bits)=0:=by
 have e:IntKind.u64.bits=64:=rfl;rw[e,show (2:Int)^min 32 64=4294967296 by decide,Zeo _ (by decide)];omega
def mul64.fv(a:Int×Int):Int×Int:=(λ_ y=>(0,y)) (a.1) (a.2)
def mul64.row:AA:=vK (b2 qU qU) (r2 (RK.mk (PS) (D.int .u64) (Qs3)) (RK.mk (PS) (D.int .u64) (Qs3))) (λa=>a.1=1/\0<=a.2/\a.2<=1000000) mul64.fv
def mul64.q:=AT (R:=mul64.row) rfl
def mul64.ok:AB Tryz.prog 300 mul64.row:=by
 refine vw tN Tryz.func300 rfl (by kernel_rfl) ?_;intro a z;simp only[Tryz.f300];simp(disch:=omega)only[ZA,simprocAttr,mul64.fv];obtain⟨O,G,Q⟩:=z;rw[O,Qw1 (by omega) (by omega),Qw1 (by omega) (by omega),LH (by omega) (by omega),LH G (by omega),Int.zero_mul,Int.one_mul,Int.zero_mul,Int.mul_zero];simp only[N4 G (show a.2<18446744073709551616 by omega),LH G (show a.2<4294967296 by omega),N4 (Lu 0) (by decide),Zfj,LH (Lu 0) (by decide),Qw1 (Lu 0) (by decide)];rfl
def mul_.fv(a:Int×Int):Int×Int:=(λ_ y=>(0,y)) (a.1) (a.2)
def mul_.row:AA:=vK (b2 qU qU) (r2 (RK.mk (PS) (D.int .u64) (Qs3)) (RK.mk (PS) (D.int .u64) (Qs3))) (λa=>a.1=1/\0<=a.2/\a.2<=1000000) mul_.fv
def mul_.q:=AT (R:=mul_.row) rfl
def mul_.ok:AB Tryz.prog 298 mul_.row:=by
 refine vw (tC mul64.ok tN) Tryz.func298 rfl (by kernel_rfl) ?_;intro a z;simp only[Tryz.f298];simp(disch:=omega)only[ZA,simprocAttr,mul_.fv,mul64.q,mul64.fv];exact⟨z,rfl⟩
def DU(x:Int)(m n:Nat):List (List D):=List.replicate m [.int .i64 x]++List.replicate (n - m) [.int .i64 0]
def Uq(x:Int){m n:Nat}(h:m<=n):(DU x m n).length=n:=by simp[DU];omega
def Ur(x:Int)(n:Nat):DU x (min 1 n) n=List.take (min 1 n) [[.int .i64 x]]++List.drop (min 1 n) (List.replicate n [.int .i64 0]):=by
 cases n with
 |zero=>rfl
 |succ n=>
  rw[show min 1 (n+1)=1 by omega];simp[DU]
def N6(x:Int)(k m n:Nat):BE B1 (List.take k (DU x m n)):=by
 intro r z
 have:=ZdJ z
 rcases Bx.1 this with h|h<;>rw[Ol h]<;>rfl
def Po(x:Int){m n:Nat}(h:m<n):List.take m (DU x m n)++List.take (min m (n - m)) (List.take m (DU x m n))++List.drop (m+min m (n - m)) (DU x m n)=DU x (m+min m (n - m)) n:=by
 have e:List.take m (DU x m n)=List.replicate m [.int .i64 x]:=by simp[DU]
 rw[e];have z:List.drop (m+min m (n - m)) (DU x m n)=List.replicate (n - (m+min m (n - m))) [.int .i64 0]:=by
  simp only[DU];rw[VP,Dr (by simp),Hg,Oh,List.drop_replicate];congr 1;omega
 rw[z,DU,<-List.replicate_append_replicate];congr 2;rw[List.take_replicate];congr 1;omega
def rept.ca(a:Int×Int):List AV:=[.own 0,.im (.int .i64 a.2)]
def rept.H0(a:Int×Int):Av:=[(0,(true,.arr 3 1 [[.int .i64 a.1]]))]
def rept.H1(a:Int×Int):Av:=[(1,(true,.arr 3 1 (List.replicate a.2.toNat [.int .i64 a.1])))]
def rept.pre(a:Int×Int):Prop:=0<=a.2/\a.2<=1000000
def rept.row:AA:=AE rept.ca rept.H0 1 rept.pre (λ_=>false) (λ_=> .own 1) rept.H1 20
def rept.ok:AB Tryz.prog 294 rept.row:=by
 refine M8 (tC mul_.ok tN) Tryz.func294 rfl (by kernel_rfl) (exB:=λj=>j==1) (R:=λa r=>r= .own 1) (λ_=>rfl)
  (λa=>by simp[rept.ca,rept.H0,Aq,AV.bel,Ac,A8,BO,Ad.nms,Ao,hget]) (λa p hp=> ?_) (λa r h=>by subst h;exact CF.refl _) ?_
 rotate_left
 intro a G;simp only[Tryz.f294,rept.ca,rept.H0,rept.H1];simp(disch:=omega)only[ZA,simprocAttr,mul_.q,mul_.fv,GM,De,EE];obtain⟨h0,Z⟩:=G;rw[Af (by omega)];simp(disch:=omega)only[ZA,simprocAttr,N4 (show (0:Int)<=1 by decide) (show (1:Int)<18446744073709551616 by decide),N4 h0 (show a.2<18446744073709551616 by omega)];refine⟨⟨h0,Z⟩,?_⟩;rw[Af (by omega)];simp(disch:=omega)only[simprocAttr,AG (show -9223372036854775808<=a.2 by omega) (show a.2<=9223372036854775807 by omega)];refine⟨h0,Lu _,by omega,?_⟩;obtain⟨n,hn⟩: ∃n:Nat,a.2=n:=⟨a.2.toNat,by omega⟩;obtain⟨x,hx⟩: ∃x,x=a.1:=⟨_,rfl⟩;simp only[hn,B0,Oh,<-hx];rw[hn] at h0 Z;refine AP.old ⟨{m:Nat//m<=n/\(m=0->n=0)},λm=>⟨[(8,.im (.int .i64 m.1)),(7,.own 1)],[(1,(true,.arr 3 1 (DU x m.1 n))),(0,(true,.arr 3 1 [[.int .i64 x]]))],2⟩,λm=>n - m.1,λm=>⟨by simp[Ai.good,Am,Ac,A8,AV.bel],by simp⟩,⟨⟨min 1 n,by omega,by omega⟩,?_⟩,λm=> ?_⟩
 .simp(disch:=omega)only[ZA,simprocAttr,sub];exact (Ur x n).symm
 obtain⟨m,Q,ab⟩:=m;have z:=Uq x Q;simp(disch:=omega)only[ZA,simprocAttr,Fe,AO,z];intro aa;refine⟨λhm=>⟨by omega,false,?_⟩,λhm=> ?_⟩
 .simp(disch:=omega)only[ZA,simprocAttr,z];refine⟨by omega,false,?_⟩;simp(disch:=omega)only[ZA,simprocAttr,sub];obtain⟨k,hk⟩: ∃k,min (List.take ((m:Int) - 0).toNat (DU x m n)).length ((n:Int) - m).toNat=k:=⟨_,rfl⟩;have O:k=min m (n - m):=by rw[<-hk,Cf,z];omega
  rw[hk,show ((m:Int) - 0).toNat=m by omega];refine⟨N6 x _ _ _,⟨m+k,by omega,by omega⟩,by simp only;omega,by rw[AG (by omega) (by omega)];simp only;omega,?_⟩;subst O;exact Po x hm
 .refine⟨[],[],⟨[(4,.own 1)],[(1,(true,.arr 3 1 (DU x m n))),(0,(true,.arr 3 1 [[.int .i64 x]]))],2⟩,?_,by simp[Ai.good,Am,Ac,A8,AV.bel],by simp,?_⟩
  .simp only[Ay];simp(disch:=omega)only[ZA,simprocAttr,Bp]
  .simp(disch:=omega)only[ZA,simprocAttr]
   have:m=n:=by omega
   subst this;simp[DU]
 simp[rept.H1] at hp;subst hp;exact .inr ⟨by omega,by omega,rfl,rfl⟩
def Qyw(x:Bc)(u v:Int):Int:=(x.Room[u.toNat]?.getD [])[v.toNat]?.getD 0
def Qzr(x:Bc)(u v:Int):Int:=(x.Flow[u.toNat]?.getD [])[v.toNat]?.getD 0
def VG(x:Bc)(u v:Int):Bool:=decide (Qzr x u v<Qyw x u v)
structure Ki(x:Bc)(n:Nat):Prop where
 r:x.Room.length=n
 f:x.Flow.length=n
 rr: ∀l∈x.Room,l.length=n
 ff: ∀l∈x.Flow,l.length=n
def Hq(x:Bc)(u:Int)(s:List Int×List Int)(v:Nat):List Int×List Int:=
 if s.1[v]?.getD 0<0/\VG x u v=true then (s.1.set v u,s.2++[(v:Int)]) else s
def CJ(x:Bc)(u:Int)(s:List Int×List Int):Nat->List Int×List Int
 |0=>s
 |k+1=>Hq x u (CJ x u s k) k
def CS(x:Bc)(n:Nat)(p:Int):Nat->List Int×List Int
 |0=>((List.replicate n (-1)).set p.toNat p,[p])
 |k+1=>match (CS x n p k).2[k]? with
  |none=>CS x n p k
  |some u=>CJ x u (CS x n p k) n
structure G8(x:Bc)(n:Nat)(p:Int)(s:List Int×List Int):Prop where
 len:s.1.length=n
 q: ∀v∈s.2,0<=v/\v<n
 nd:s.2.Nodup
 hd:s.2[0]? =some p
 pp:s.1[p.toNat]? =some p
 mem: ∀(v:Nat) (y:Int),s.1[v]? =some y->(0<=y↔(v:Int)∈s.2)
 prev: ∀(i:Nat) (v:Int),s.2[i]? =some v->0<i-> ∃(j:Nat) (u:Int),j<i/\s.2[j]? =some u/\s.1[v.toNat]? =some u/\VG x u v=true
def Qtz: ∀(n:Nat) (l:List Int),l.Nodup->(∀v∈l,0<=v/\v<n)->l.length<=n
 |0,[],_,_=>AQ _
 |0,x::r,_,h=>by have:=h x (BT ..);omega
 |n+1,l,h,hb=>by
  have O:=Qtz n (l.erase (n:Int)) (h.erase _) (λv G=>by
   have z:=(h.mem_erase_iff).1 G;have Q:=hb v z.2
   have:=z.1
   omega)
  have z:=List.length_erase (a:=(n:Int)) (l:=l);split at z<;>omega
def Qr3{x:Bc}{n:Nat}{p:Int}{s:List Int×List Int}(h:G8 x n p s):s.2.length<=n:=Qtz n s.2 h.nd h.q
def kL{x:Bc}{n:Nat}{p:Int}{s:List Int×List Int}(h:G8 x n p s){u:Int}{k v:Nat}(hu:s.2[k]? =some u)(hv:v<n):G8 x n p (Hq x u s v)/\ ∃r,(Hq x u s v).2=s.2++r:=by
 simp only[Hq];split
 .rename_i hc;obtain⟨ac,ad⟩:=hc;have O:v<s.1.length:=by rw[h.len];exact hv
  obtain⟨y,hy⟩: ∃y,s.1[v]? =some y:=⟨_,Bk O⟩;rw[hy,AM] at ac;have Q:(v:Int)∉s.2:=λhm=>by have:=(h.mem v y hy).2 hm;omega
  have aa:p∈s.2:=AZ h.hd;have ah:p.toNat≠v:=by
   intro he
   have:=h.q p aa
   exact Q (by rw[show (v:Int)=p by omega];exact aa)
  have ai:=h.q u (AZ hu);refine⟨⟨by simpa using h.len,λw G=> ?_,?_,?_,?_,λw z hz=> ?_,λi w G hi=> ?_⟩,_,rfl⟩
  .rcases Bx.1 G with G|G
   .exact h.q w G
   .rw[BK] at G;subst G;omega
  .rw[VN];refine⟨h.nd,by simp,λa ha b hb=> ?_⟩;rw[BK] at hb;subst hb;exact λhe=>Q (he▸ha)
  .have:=h.hd
   rw[ED (Ce.1 this).1];exact this
  .simp only;rw[DK (EK ah)];exact h.pp
  .simp only at hz⊢;rw[Bx,BK];by_cases ab:v=w
   .subst ab;rw[Du O] at hz;obtain rfl:=AD hz;exact⟨λ_=> .inr rfl,λ_=>ai.1⟩
   .rw[DK ab] at hz;rw[h.mem w z hz];constructor
    .exact .inl
    .rintro (h1|h1)
     .exact h1
     .omega
  .simp only at G⊢;by_cases ag:i<s.2.length
   .rw[ED ag] at G;obtain⟨j,z,h1,h2,h3,h4⟩:=h.prev i w G hi;refine⟨j,z,h1,by rw[ED (by omega)];exact h2,?_,h4⟩;have aj:=h.q w (AZ G);rw[DK]
    .exact h3
    .intro he;exact Q (by rw[show (v:Int)=w by omega];exact AZ G)
   .have af:i=s.2.length:=by
     have:=(Ce.1 G).1
     simp only[Dq,CP,Hf] at this;omega
    subst af;rw[F4 (AQ _),Hi,GF] at G;obtain rfl:=AD G;have Z:=(Ce.1 hu).1;refine⟨k,u,Z,by rw[ED Z];exact hu,?_,ad⟩;rw[B0,Du O]
 .exact⟨h,[],by simp⟩
def Qoj(x:Bc)(u:Int)(s:List Int×List Int)(v w:Nat)(y:Int)(h:s.1[w]? =some y)(h0:0<=y):(Hq x u s v).1[w]? =some y:=by
 simp only[Hq];split
 .rename_i hc;rw[DK]
  .exact h
  .intro z;subst z
   have:=hc.1
   rw[h,AM] at this;omega
 .exact h
def Qvl(x:Bc)(u:Int)(s:List Int×List Int)(w:Nat)(y:Int)(h:s.1[w]? =some y)(h0:0<=y): ∀k,(CJ x u s k).1[w]? =some y
 |0=>h
 |k+1=>Qoj x u _ k w y (Qvl x u s w y h h0 k) h0
def vA{x:Bc}{n:Nat}{p:Int}{s:List Int×List Int}(h:G8 x n p s){u:Int}{i:Nat}(G:s.2[i]? =some u): ∀k,k<=n->G8 x n p (CJ x u s k)/\ ∃r,(CJ x u s k).2=s.2++r
 |0,_=>⟨h,[],by simp[CJ]⟩
 |k+1,hk=>by
  obtain⟨Z,r,Q⟩:=vA h G k (by omega);have O:=(Ce.1 G).1;obtain⟨h2,r',z⟩:=kL Z (u:=u) (k:=i) (v:=k) (by rw[Q,ED O];exact G) (by omega);exact⟨h2,r++r',by rw[CJ,z,Q,Hw]⟩
def Qz6{x:Bc}{n:Nat}{p:Int}{s:List Int×List Int}(h:G8 x n p s){u:Int}{i:Nat}(G:s.2[i]? =some u): ∀k,k<=n-> ∀v,v<k->VG x u v=true-> ∃y,(CJ x u s k).1[v]? =some y/\0<=y
 |0,_,v,hv,_=>by omega
 |k+1,hk,v,hv,hf=>by
  by_cases Q:v<k
  .obtain⟨y,h1,Z⟩:=Qz6 h G k (by omega) v Q hf;exact⟨y,Qoj x u _ k v y h1 Z,Z⟩
  .have:v=k:=by omega
   subst this;have hP:=(vA h G v (by omega)).1;obtain⟨y,hy⟩: ∃y,(CJ x u s v).1[v]? =some y:=⟨_,Bk (by rw[hP.len];omega)⟩;by_cases z:0<=y
   .exact⟨y,Qoj x u _ v v y hy z,z⟩
   .have O:=h.q u (AZ G);refine⟨u,?_,O.1⟩;rw[CJ,Hq,An ⟨by rw[hy,AM];omega,hf⟩];exact Du (by rw[hP.len];omega)
def Rf{x:Bc}{n:Nat}{p:Int}(h0:0<=p)(Q:p<n): ∀k,G8 x n p (CS x n p k)
 |0=>by
  have hq:p.toNat<(List.replicate n (-1:Int)).length:=by rw[Oh];omega
  refine⟨by simp[CS],λv z=> ?_,by simp[CS],rfl,Du hq,λv y G=> ?_,λi v z hi=> ?_⟩
  .simp only[CS,BK] at z;subst z;omega
  .simp only[CS,BK] at G⊢;by_cases O:p.toNat=v
   .subst O;rw[Du hq] at G;obtain rfl:=AD G;omega
   .rw[DK O] at G
    have:=Ol (AZ G)
    omega
  .simp only[CS] at z;cases i with
   |zero=>omega
   |succ i=>simp at z
 |k+1=>by
  have ih:=Rf (x:=x) h0 Q k;simp only[CS];split
  .exact ih
  .rename_i u Z;exact (vA ih Z n (AQ _)).1
def nS(x:Bc)(n:Nat)(p:Int)(w:Nat)(y:Int)(h0:0<=y)(k:Nat)(h:(CS x n p k).1[w]? =some y): ∀m,(CS x n p (k+m)).1[w]? =some y
 |0=>h
 |m+1=>by
  have ih:=nS x n p w y h0 k h m;rw[show k+(m+1)=k+m+1 by omega,CS];split
  .exact ih
  .exact Qvl x _ _ w y ih h0 n
def V0(x:Bc){n:Nat}{p:Int}(h0:0<=p)(z:p<n)(k:Nat): ∃r,(CS x n p (k+1)).2=(CS x n p k).2++r:=by
 rw[CS];split
 .exact⟨[],by simp⟩
 .rename_i u G;exact (vA (Rf (x:=x) h0 z k) G n (AQ _)).2
def N1(x:Bc)(n:Nat)(p:Int): ∀(m k:Nat),(CS x n p k).2.length<=k->CS x n p (k+m)=CS x n p k
 |0,k,_=>rfl
 |m+1,k,h=>by
  have z:CS x n p (k+1)=CS x n p k:=by
   rw[CS,FG h]
  have G:=N1 x n p m (k+1) (by rw[z];omega);rw[show k+(m+1)=k+1+m by omega,G,z]
def Qzh(x:Bc){n:Nat}{p:Int}(h0:0<=p)(G:p<n): ∀(k:Nat) (j:Nat) (u:Int),j<k->(CS x n p k).2[j]? =some u-> ∀v,v<n->VG x u v=true-> ∃y,(CS x n p k).1[v]? =some y/\0<=y
 |0,j,_,hj,_,_,_,_=>by omega
 |k+1,j,u,hj,z,v,Z,hf=>by
  obtain⟨r,hr⟩:=V0 x h0 G k;by_cases Q:j<(CS x n p k).2.length
  .rw[hr,ED Q] at z;by_cases O:j<k
   .obtain⟨y,g1,g2⟩:=Qzh x h0 G k j u O z v Z hf;exact⟨y,nS x n p v y g2 k g1 1,g2⟩
   .have:j=k:=by omega
    subst this;obtain⟨y,g1,g2⟩:=Qz6 (Rf (x:=x) h0 G j) z n (AQ _) v Z hf;exact⟨y,by rw[CS,z];exact g1,g2⟩
  .have e:CS x n p (k+1)=CS x n p k:=by
    rw[CS,FG (by omega)]
   rw[e] at z
   have:=(Ce.1 z).1
   omega
def Bz(x:Bc)(n:Nat)(p:Int):List Int×List Int:=CS x n p n
def Qww(x:Bc){n:Nat}{p:Int}(h0:0<=p)(G:p<n){u v:Nat}{y:Int}(hu:(Bz x n p).1[u]? =some y)(hy:0<=y)(hv:v<n)(hf:VG x u v=true): ∃z,(Bz x n p).1[v]? =some z/\0<=z:=by
 have O:=Rf (x:=x) h0 G n;have hm:=(O.mem u y hu).1 hy;obtain⟨j,Q⟩:=Ku.1 hm;have hl:=Qr3 O;have Z:=(Ce.1 Q).1;exact Qzh x h0 G n j u (by omega) Q v hv hf
def D1(z:List Int)(q:Int):Nat->Int
 |0=>q
 |k+1=>z[(D1 z q k).toNat]?.getD 0
def uL(z:List Int)(p q:Int)(n:Nat):Nat:=((List.range (n+1)).find? λk=>decide (D1 z q k=p)).getD 0
def Im(z:List Int)(q:Int)(k:Nat):List Int:=(List.range (k+1)).map (D1 z q)
def Cx(x:Bc)(n:Nat)(p q:Int):List Int:=
 if (Bz x n p).1[q.toNat]?.getD 0<0 then [] else (Im (Bz x n p).1 q (uL (Bz x n p).1 p q n)).reverse
def tB{x:Bc}{n:Nat}{p:Int}{s:List Int×List Int}(h:G8 x n p s){q:Int}{i:Nat}(hq:s.2[i]? =some q): ∀k,(∀j,j<k->D1 s.1 q j≠p)-> ∃j,j+k<=i/\s.2[j]? =some (D1 s.1 q k)
 |0,_=>⟨i,by omega,hq⟩
 |k+1,z=>by
  obtain⟨j,h1,G⟩:=tB h hq k (λj hj=>z j (by omega));have O:0<j:=by
   rcases mT j with h0|h0
   .subst h0;rw[h.hd] at G;exact absurd (AD G).symm (z k (by omega))
   .exact h0
  obtain⟨j',u,g1,g2,Q,Z⟩:=h.prev j _ G O;exact⟨j',by omega,by rw[D1,Q,AM];exact g2⟩
def Oy{x:Bc}{n:Nat}{p:Int}{s:List Int×List Int}(h:G8 x n p s){q:Int}{i:Nat}(hq:s.2[i]? =some q){k:Nat}(z: ∀j,j<k+1->D1 s.1 q j≠p):VG x (D1 s.1 q (k+1)) (D1 s.1 q k)=true/\ ∃y,s.1[(D1 s.1 q k).toNat]? =some y/\D1 s.1 q (k+1)=y:=by
 obtain⟨j,h1,G⟩:=tB h hq k (λj hj=>z j (by omega));have O:0<j:=by
  rcases mT j with h0|h0
  .subst h0;rw[h.hd] at G;exact absurd (AD G).symm (z k (by omega))
  .exact h0
 obtain⟨j',u,g1,g2,Q,Z⟩:=h.prev j _ G O;have e:D1 s.1 q (k+1)=u:=by rw[D1,Q,AM]
 exact⟨by rw[e];exact Z,u,Q,e⟩
def Qq3{x:Bc}{n:Nat}{p:Int}{s:List Int×List Int}(h:G8 x n p s){q:Int}{i:Nat}(hq:s.2[i]? =some q): ∃d,d<=i/\D1 s.1 q d=p/\ ∀j,j<d->D1 s.1 q j≠p:=by
 have Q: ∀m,(∃d,d<=m/\D1 s.1 q d=p/\ ∀j,j<d->D1 s.1 q j≠p)\/ ∀j,j<=m->D1 s.1 q j≠p:=by
  intro m;induction m with
  |zero=>
   by_cases h0:D1 s.1 q 0=p
   .exact .inl ⟨0,AQ _,h0,λj G=>by omega⟩
   .exact .inr λj G=>by rw[show j=0 by omega];exact h0
  |succ m ih=>
   rcases ih with ⟨d,z,Z,h3⟩|ih
   .exact .inl ⟨d,by omega,Z,h3⟩
   .by_cases h0:D1 s.1 q (m+1)=p
    .exact .inl ⟨m+1,AQ _,h0,λj G=>ih j (by omega)⟩
    .refine .inr λj G=> ?_
     by_cases O:j<=m
     .exact ih j O
     .rw[show j=m+1 by omega];exact h0
 rcases Q i with z|z
 .exact z
 .obtain⟨j,g1,g2⟩:=tB h hq (i+1) (λj G=>z j (by omega));omega
def Qqr{z:List Int}{p q:Int}{n d:Nat}(hd:d<=n)(G:D1 z q d=p)(O: ∀j,j<d->D1 z q j≠p):uL z p q n=d:=by
 have: ∀(m s:Nat),s<=d->d<s+m->((List.range' s m).find? λk=>decide (D1 z q k=p))=some d:=by
  intro m;induction m with
  |zero=>intro s Q Z;omega
  |succ m ih=>
   intro s Q Z;rw[List.range'_succ,Zel];by_cases hs:s=d
   .subst hs;simp[G]
   .rw[show decide (D1 z q s=p)=false from aK (O s (by omega))];exact ih (s+1) (by omega) (by omega)
 rw[uL,Zef,this _ 0 (by omega) (by omega),AM]
def AI(f:Nat->Int):Nat->Int
 |0=>0
 |n+1=>AI f n+f n
def Fz{f g:Nat->Int}: ∀{n:Nat},(∀i,i<n->f i=g i)->AI f n=AI g n
 |0,_=>rfl
 |n+1,h=>by simp only[AI];rw[Fz (λi z=>h i (by omega)),h n (by omega)]
def QS(f g:Nat->Int): ∀n,AI (λi=>f i+g i) n=AI f n+AI g n
 |0=>rfl
 |n+1=>by simp only[AI];rw[QS f g n];omega
def sX(f:Nat->Int): ∀n,AI (λi=> - f i) n= - AI f n
 |0=>rfl
 |n+1=>by simp only[AI];rw[sX f n];omega
def QP: ∀n,AI (λ_=>0) n=0
 |0=>rfl
 |n+1=>by simp only[AI];rw[QP n];rfl
def Qxf{f g:Nat->Int}: ∀{n:Nat},(∀i,i<n->f i<=g i)->AI f n<=AI g n
 |0,_=>Lu _
 |n+1,h=>by
  have z:=Qxf (f:=f) (g:=g) (n:=n) (λi O=>h i (by omega));have G:=h n (by omega);simp only[AI];omega
def Qt3(f:Nat->Nat->Int)(m:Nat): ∀n,AI (λi=>AI (λj=>f i j) m) n=AI (λj=>AI (λi=>f i j) n) m
 |0=>by simp only[AI];exact (QP m).symm
 |n+1=>by simp only[AI];rw[Qt3 f m n,<-QS]
def WN(k:Nat)(c:Int): ∀n,AI (λi=>if i=k then c else 0) n=if k<n then c else 0
 |0=>rfl
 |n+1=>by
  simp only[AI];rw[WN k c n];by_cases z:n=k
  .subst z;rw[Af (by omega),An rfl,An (by omega)];omega
  .rw[Af z];by_cases G:k<n
   .rw[An G,An (by omega)];omega
   .rw[Af G,Af (by omega)];omega
def PJ(a:Nat->Nat->Int)(n:Nat)(h: ∀u w,u<n->w<n->a u w= - a w u):AI (λu=>AI (λw=>a u w) n) n=0:=by
 have O:AI (λu=>AI (λw=>a u w) n) n= - AI (λu=>AI (λw=>a u w) n) n:=by
  rw[<-sX]
  conv=>lhs;rw[Qt3]
  refine Fz λu z=> ?_
  rw[<-sX];exact Fz λw G=>h w u G z
 omega
structure QX(rm fl:Nat->Nat->Int)(n p q:Nat)(v:Int):Prop where
 anti: ∀u w,u<n->w<n->fl u w= - fl w u
 cap: ∀u w,u<n->w<n->fl u w<=rm u w
 cons: ∀u,u<n->u≠p->u≠q->AI (fl u) n=0
 val:AI (fl p) n=v
def En(rm:Nat->Nat->Int)(n:Nat)(S:Nat->Bool):Int:=AI (λu=>AI (λw=>if S u=true/\S w=false then rm u w else 0) n) n
def nX{rm fl:Nat->Nat->Int}{n p q:Nat}{v:Int}(h:QX rm fl n p q v)(hp:p<n){S:Nat->Bool}(Q:S p=true)(Z:S q=false):En fl n S=v:=by
 have h1:AI (λu=>AI (λw=>if S u=true then fl u w else 0) n) n=v:=by
  have:AI (λu=>AI (λw=>if S u=true then fl u w else 0) n) n=AI (λu=>if u=p then v else 0) n:=by
   refine Fz λu G=> ?_
   by_cases z:u=p
   .subst z;rw[An rfl,<-h.val];exact Fz λw _=>An Q
   .rw[Af z];cases hSu:S u with
    |false=>exact (Fz λw _=>Af (by simp)).trans (QP n)
    |true=>
     have O:u≠q:=λhe=>by rw[he,Z] at hSu;cases hSu
     exact (Fz λw _=>An rfl).trans (h.cons u G z O)
  rw[this,WN,An hp]
 have h2:AI (λu=>AI (λw=>if S u=true/\S w=true then fl u w else 0) n) n=0:=by
  refine PJ _ n λu w G hw=> ?_
  by_cases hb:S u=true/\S w=true
  .rw[An hb,An ⟨hb.2,hb.1⟩];exact h.anti u w G hw
  .rw[Af hb,Af (λh=>hb ⟨h.2,h.1⟩)];rfl
 have h3:AI (λu=>AI (λw=>if S u=true then fl u w else 0) n) n=AI (λu=>AI (λw=>if S u=true/\S w=true then fl u w else 0) n) n+En fl n S:=by
  rw[En,<-QS];refine Fz λu _=> ?_
  rw[<-QS];refine Fz λw _=> ?_
  cases S u<;>cases S w<;>simp
 omega
def Qw8{rm fl:Nat->Nat->Int}{n p q:Nat}{v:Int}(h:QX rm fl n p q v)(hp:p<n){S:Nat->Bool}(z:S p=true)(G:S q=false):v<=En rm n S:=by
 rw[<-nX h hp z G];refine Qxf λu O=>Qxf λw Q=> ?_
 split
 .exact h.cap u w O Q
 .exact Lu _
def Qxp{rm fl:Nat->Nat->Int}{n p q:Nat}{v:Int}(h:QX rm fl n p q v)(hp:p<n){S:Nat->Bool}(Q:S p=true)(Z:S q=false)(z: ∀u w,u<n->w<n->S u=true->S w=false->rm u w<=fl u w):v=En rm n S:=by
 rw[<-nX h hp Q Z];refine Fz λu G=>Fz λw O=> ?_
 split
 .rename_i hb;have h1:=h.cap u w G O;have h2:=z u w G O hb.1 hb.2;omega
 .rfl
def Ht(L:Nat->Nat)(a b j:Nat):Int:=if L j=a/\L (j+1)=b then 1 else 0
def sA(L:Nat->Nat)(a b:Nat): ∀i,0<=AI (Ht L a b) i
 |0=>Lu _
 |i+1=>by
  have:=sA L a b i
  simp only[AI,Ht]
  split<;>omega
def Qr1{L:Nat->Nat}{m:Nat}(z: ∀i j,i<=m->j<=m->L i=L j->i=j)(a b:Nat): ∀i,i<=m->AI (Ht L a b) i<=1/\(0<AI (Ht L a b) i-> ∃j,j<i/\L j=a/\L (j+1)=b)
 |0,_=>⟨by simp[AI],λh=>by simp[AI] at h⟩
 |i+1,hi=>by
  obtain⟨h1,Q⟩:=Qr1 z a b i (by omega);have h0:=sA L a b i;simp only[AI];by_cases hc:L i=a/\L (i+1)=b
  .have hz: ¬0<AI (Ht L a b) i:=by
    intro G;obtain⟨j,Z,O,_⟩:=Q G
    have:=z j i (by omega) (by omega) (O.trans hc.1.symm)
    omega
   simp only[Ht] at hz h0⊢;rw[An hc];exact⟨by omega,λ_=>⟨i,by omega,hc⟩⟩
  .have e:Ht L a b i=0:=Af hc;rw[e];refine⟨by omega,λG=> ?_⟩;obtain⟨j,Z,O⟩:=Q (by omega);exact⟨j,by omega,O⟩
def oB{L:Nat->Nat}{n m:Nat}(z: ∀i,i<=m->L i<n)(a:Nat): ∀i,i<=m->AI (λb=>AI (Ht L a b) i - AI (Ht L b a) i) n=(if L 0=a then 1 else 0) - (if L i=a then 1 else 0)
 |0,_=>by simp only[AI,Int.sub_self];exact QP n
 |i+1,Z=>by
  have ih:=oB z a i (by omega);have e:AI (λb=>AI (Ht L a b) (i+1) - AI (Ht L b a) (i+1)) n=AI (λb=>AI (Ht L a b) i - AI (Ht L b a) i) n+(AI (λb=>if b=L (i+1) then (if L i=a then 1 else 0) else 0) n+ - AI (λb=>if b=L i then (if L (i+1)=a then 1 else 0) else 0) n):=by
   rw[<-sX,<-QS,<-QS];refine Fz λb _=> ?_
   simp only[AI,Ht];by_cases c1:L i=a<;>by_cases G:L (i+1)=a<;>by_cases O:b=L i<;>by_cases Q:b=L (i+1)<;>simp[c1,G,O,Q,eq_comm]<;>omega
  rw[e,ih,WN,WN,An (z _ Z),An (z _ (by omega))];omega
def OD{rm fl Q:Nat->Nat->Int}{n p q:Nat}{v:Int}(h:QX rm fl n p q v){L:Nat->Nat}{m:Nat}(aa: ∀i j,i<=m->j<=m->L i=L j->i=j)(hr: ∀i,i<=m->L i<n)
 (h0:L 0=p)(hm:L m=q)(ac:p≠q)(hp:p<n)(Z: ∀i,i<m->fl (L i) (L (i+1))<rm (L i) (L (i+1)))
 (z: ∀a b,a<n->b<n->Q a b=fl a b+(AI (Ht L a b) m - AI (Ht L b a) m)):QX rm Q n p q (v+1):=by
 have O: ∀a,a<n->AI (Q a) n=AI (fl a) n+((if L 0=a then 1 else 0) - (if L m=a then 1 else 0)):=by
  intro a ha;rw[<-oB hr a m (AQ _),<-QS];exact Fz λb hb=>z a b ha hb
 refine⟨λu w G hw=> ?_,λu w G hw=> ?_,λu G h1 h2=> ?_,?_⟩
 .rw[z u w G hw,z w u hw G]
  have:=h.anti u w G hw
  omega
 .rw[z u w G hw];obtain⟨e1,e2⟩:=Qr1 aa u w m (AQ _);have e3:=sA L w u m;have e4:=h.cap u w G hw;by_cases ab:0<AI (Ht L u w) m
  .obtain⟨j,hj,g1,g2⟩:=e2 ab
   have:=Z j hj
   rw[g1,g2] at this;omega
  .omega
 .rw[O u G,h.cons u G h1 h2,h0,hm,Af (EK h1),Af (EK h2)];rfl
 .rw[O p hp,h.val,h0,hm,An rfl,Af (EK ac)];omega
def Lo(l:List (List Int))(u v:Int)(d:Int):List (List Int):=l.set u.toNat ((l[u.toNat]?.getD []).set v.toNat ((l[u.toNat]?.getD [])[v.toNat]?.getD 0+d))
def GV(l:List (List Int))(a b:Nat):Int:=(l[a]?.getD [])[b]?.getD 0
def Z5(l:List (List Int))(u v d:Int):(Lo l u v d).length=l.length:=by simp[Lo]
def Z1{l:List (List Int)}{n:Nat}(h: ∀r∈l,r.length=n)(u v d:Int)(G:u.toNat<l.length): ∀r∈Lo l u v d,r.length=n:=by
 intro r z;rcases Xm z with z|z
 .exact h r z
 .subst z;rw[EZ,Bk G,AM];exact h _ (Ro G)
def dY{l:List (List Int)}{n:Nat}(O:l.length=n)(h: ∀r∈l,r.length=n){u v:Nat}(d:Int)(Q:u<n)(Z:v<n)(a b:Nat):GV (Lo l u v d) a b=GV l a b+if a=u/\b=v then d else 0:=by
 simp only[GV,Lo,B0];by_cases z:u=a
 .subst z;rw[Du (by omega),AM];have G:(l[u]?.getD []).length=n:=by
   rw[Bk (by omega),AM];exact h _ (Ro (by omega))
  by_cases hb:v=b
  .subst hb;rw[Du (by omega),AM,An ⟨rfl,rfl⟩]
  .rw[DK hb,Af (λh=>hb h.2.symm)];omega
 .rw[DK z,Af (λh=>z h.1.symm)];omega
def NA(x:Bc)(u v:Int):Bc:=⟨x.Room,Lo (Lo x.Flow u v 1) v u (-1)⟩
def Hu(x:Bc)(L:List Int):Nat->Bc
 |0=>x
 |i+1=>NA (Hu x L i) (L[i]?.getD 0) (L[i+1]?.getD 0)
def Ql3(x:Bc)(L:List Int): ∀i,(Hu x L i).Room=x.Room
 |0=>rfl
 |i+1=>Ql3 x L i
def OC(x:Bc)(u v:Int):Qzr x u v=GV x.Flow u.toNat v.toNat:=rfl
def Pt(x:Bc)(u v:Int):Qyw x u v=GV x.Room u.toNat v.toNat:=rfl
def Ud{x:Bc}{n:Nat}(h:Ki x n){u v:Int}(z:u.toNat<n)(G:v.toNat<n):Ki (NA x u v) n:=by
 refine⟨h.r,by simp only[NA,Z5];exact h.f,h.rr,?_⟩;exact Z1 (Z1 h.ff u v 1 (by rw[h.f];exact z)) v u (-1) (by rw[Z5,h.f];exact G)
def zV{x:Bc}{n:Nat}(h:Ki x n){L:List Int}(z: ∀y∈L,0<=y/\y<n): ∀i,i<L.length->Ki (Hu x L i) n
 |0,_=>h
 |i+1,G=>by
  have ih:=zV h z i (by omega);refine Ud ih ?_ ?_
  .rw[Bk (by omega),AM]
   have:=z _ (Ro (show i<L.length by omega))
   omega
  .rw[Bk G,AM]
   have:=z _ (Ro G)
   omega
def Lf(L:List Int)(i:Nat):Nat:=(L[i]?.getD 0).toNat
def Qso{x:Bc}{n:Nat}(h:Ki x n){L:List Int}(G: ∀y∈L,0<=y/\y<n)(a b:Nat): ∀i,i<L.length->GV (Hu x L i).Flow a b=GV x.Flow a b+(AI (Ht (Lf L) a b) i - AI (Ht (Lf L) b a) i)
 |0,_=>by simp[Hu,AI]
 |i+1,hi=>by
  have ih:=Qso h G a b i (by omega);have z:=zV h G i (by omega);obtain⟨u,hu⟩: ∃u,L[i]? =some u:=⟨_,Bk (by omega)⟩;obtain⟨v,hv⟩: ∃v,L[i+1]? =some v:=⟨_,Bk hi⟩;have aa:=G u (AZ hu);have ab:=G v (AZ hv);obtain⟨u',rfl⟩: ∃u':Nat,u=u':=⟨u.toNat,by omega⟩;obtain⟨v',rfl⟩: ∃v':Nat,v=v':=⟨v.toNat,by omega⟩;simp only[Hu,NA,hu,hv,AM];rw[dY (n:=n) (by rw[Z5];exact z.f) (Z1 z.ff _ _ _ (by rw[z.f];simp;omega)) _ (by omega) (by omega),
   dY z.f z.ff _ (by omega) (by omega),ih]
  have e1:Lf L i=u':=by simp[Lf,hu]
  have e2:Lf L (i+1)=v':=by simp[Lf,hv]
  simp only[AI,Ht,e1,e2];by_cases c1:a=u'<;>by_cases O:b=v'<;>by_cases Q:a=v'<;>by_cases Z:b=u'<;>simp[c1,O,Q,Z,eq_comm]<;>omega
structure SP(x:Bc)(n:Nat)(p q:Int)(L:List Int):Prop where
 pos:0<L.length
 inb: ∀y∈L,0<=y/\y<n
 hd:L[0]? =some p
 lst:L[L.length - 1]? =some q
 nd: ∀i j,i<L.length->j<L.length->Lf L i=Lf L j->i=j
 free: ∀i,i+1<L.length->VG x (L[i]?.getD 0) (L[i+1]?.getD 0)=true
def V1{x:Bc}{n:Nat}{p q:Int}(an:0<=p)(ao:p<n)(a8:0<=q)(a9:q<n)(am:Cx x n p q≠[]):SP x n p q (Cx x n p q):=by
 have Z:G8 x n p (Bz x n p):=Rf an ao n;have ax:=Z.len;obtain⟨y,hy⟩: ∃y,(Bz x n p).1[q.toNat]? =some y:=⟨_,Bk (by omega)⟩;have av: ¬y<0:=by
  intro h;apply am;simp only[Cx,hy,AM];rw[An h]
 have aq:q∈(Bz x n p).2:=by
  have:=(Z.mem q.toNat y hy).1 (by omega)
  rwa [show (q.toNat:Int)=q by omega] at this
 obtain⟨i,hi⟩:=Ku.1 aq;obtain⟨d,ay,ah,ab⟩:=Qq3 Z hi;have az:=(Ce.1 hi).1;have a0:=Qr3 Z;have au:uL (Bz x n p).1 p q n=d:=Qqr (by omega) ah ab;have hW:Cx x n p q=(Im (Bz x n p).1 q d).reverse:=by
  simp only[Cx,hy,AM];rw[Af av,au]
 rw[hW];have O:(Im (Bz x n p).1 q d).length=d+1:=by simp[Im]
 have hget: ∀k,k<=d->(Im (Bz x n p).1 q d).reverse[k]? =some (D1 (Bz x n p).1 q (d - k)):=by
  intro k G;rw[ZeR (by rw[O];omega),O,show d+1 - 1 - k=d - k by omega,Im,D2,HN (by omega)];rfl
 have ac: ∀k,k<=d-> ∃j,j+k<=i/\(Bz x n p).2[j]? =some (D1 (Bz x n p).1 q k):=λk G=>tB Z hi k (λj hj=>ab j (by omega))
 have Q: ∀k,k<=d->0<=D1 (Bz x n p).1 q k/\D1 (Bz x n p).1 q k<n:=by
  intro k G;obtain⟨j,_,h2⟩:=ac k G;exact Z.q _ (AZ h2)
 have af: ∀k,k<=d-> ∀e,e<=k-> ∀j j',(Bz x n p).2[j]? =some (D1 (Bz x n p).1 q k)->(Bz x n p).2[j']? =some (D1 (Bz x n p).1 q e)->j+(k - e)<=j':=by
  intro k G e he j j' hj aj;have aw: ∀m,e+m<=d-> ∃j2,j2+m<=j'/\(Bz x n p).2[j2]? =some (D1 (Bz x n p).1 q (e+m)):=by
   intro m;induction m with
   |zero=>intro _;exact⟨j',by omega,aj⟩
   |succ m ih=>
    intro hm;obtain⟨j2,g1,g2⟩:=ih (by omega);have h0:0<j2:=by
     rcases mT j2 with h0|h0
     .subst h0;rw[Z.hd] at g2;exact absurd (AD g2).symm (ab _ (by omega))
     .exact h0
    obtain⟨j3,u,q1,q2,q3,q4⟩:=Z.prev j2 _ g2 h0;refine⟨j3,by omega,?_⟩;rw[show e+(m+1)=e+m+1 by omega,D1,q3,AM];exact q2
  obtain⟨j2,g1,g2⟩:=aw (k - e) (by omega);rw[show e+(k - e)=k by omega] at g2
  have:=(List.getElem?_inj (Ce.1 hj).1 Z.nd).1 (hj.trans g2.symm)
  omega
 have ad: ∀k e,k<=d->e<k->D1 (Bz x n p).1 q k≠D1 (Bz x n p).1 q e:=by
  intro k e G he ai;obtain⟨j,_,h2⟩:=ac k G
  have:=af k G e (by omega) j j h2 (ai▸h2)
  omega
 have aa: ∀k,k<=d->(Im (Bz x n p).1 q d).reverse[k]?.getD 0=D1 (Bz x n p).1 q (d - k):=λk G=>by rw[hget k G,AM]
 refine⟨by rw[mM,O];omega,λz hz=> ?_,?_,?_,λk e G he hL=> ?_,λk G=> ?_⟩
 .obtain⟨k,G⟩:=Ku.1 hz;have ak:=(Ce.1 G).1;rw[mM,O] at ak;rw[hget k (by omega)] at G;obtain rfl:=AD G;exact Q _ (by omega)
 .rw[hget 0 (by omega),aJ,ah]
 .rw[mM,O,hget (d+1 - 1) (by omega),show d - (d+1 - 1)=0 by omega];rfl
 .rw[mM,O] at G he;simp only[Lf] at hL;rw[aa k (by omega),aa e (by omega)] at hL;have b1:=Q (d - k) (by omega);have b2:=Q (d - e) (by omega);have ag:D1 (Bz x n p).1 q (d - k)=D1 (Bz x n p).1 q (d - e):=by omega
  rcases vM (d - k) (d - e) with h|h|h
  .exact absurd ag.symm (ad _ _ (by omega) h)
  .omega
  .exact absurd ag (ad _ _ (by omega) h)
 .rw[mM,O] at G;rw[aa k (by omega),aa (k+1) (by omega),show d - k=d - (k+1)+1 by omega];exact (Oy Z hi (λj hj=>ab j (by omega))).1
def FT(n:Nat)(p q:Int):Nat->Bc->Int
 |0,_=>0
 |m+1,x=>if Cx x n p q=[] then 0 else FT n p q m (Hu x (Cx x n p q) ((Cx x n p q).length - 1))+1
def DV(x:Bc)(a b:Nat):Int:=GV x.Room a b
def JB(x:Bc)(a b:Nat):Int:=GV x.Flow a b
def Qun{x:Bc}{n:Nat}(h:Ki x n){p q:Int}(Z:0<=p)(aa:p<n)(ab:p≠q)(ac:0<=q){v:Int}(hf:QX (DV x) (JB x) n p.toNat q.toNat v){L:List Int}(z:SP x n p q L):
 Ki (Hu x L (L.length - 1)) n/\QX (DV x) (JB (Hu x L (L.length - 1))) n p.toNat q.toNat (v+1):=by
 have Q:=z.pos;have O: ∀i,i<L.length->(L[i]?.getD 0).toNat=Lf L i/\Lf L i<n:=by
  intro i G;refine⟨rfl,?_⟩;simp only[Lf];rw[Bk G,AM]
  have:=z.inb _ (Ro G)
  omega
 refine⟨zV h z.inb _ (by omega),OD (m:=L.length - 1) (L:=Lf L) hf (λi j G hj=>z.nd i j (by omega) (by omega)) (λi G=>(O i (by omega)).2) ?_ ?_ (by omega) (by omega) (λi G=> ?_) (λa b _ _=>Qso h z.inb a b _ (by omega))⟩
 .simp only[Lf,z.hd,AM]
 .simp only[Lf,z.lst,AM]
 .exact of_decide_eq_true (z.free i (by omega))
def nV{n:Nat}{p q:Int}(G:0<=p)(O:p<n)(ad:p≠q)(ab:0<=q)(af:q<n): ∀(m:Nat) (x:Bc) (v:Int),Ki x n->QX (DV x) (JB x) n p.toNat q.toNat v->
 (FT n p q m x=m/\ ∀S:Nat->Bool,S p.toNat=true->S q.toNat=false->v+m<=En (DV x) n S)\/(FT n p q m x<m/\ ∃S:Nat->Bool,S p.toNat=true/\S q.toNat=false/\En (DV x) n S=v+FT n p q m x)
 |0,x,v,h,hf=> .inl ⟨rfl,λS h1 Z=>by have:=Qw8 hf (by omega) h1 Z;simpa using this⟩
 |m+1,x,v,h,hf=>by
  by_cases Q:Cx x n p q=[]
  .refine .inr ?_;have e:FT n p q (m+1) x=0:=by simp only[FT];rw[An Q]
   rw[e];refine⟨by omega,λu=>decide (0<=(Bz x n p).1[u]?.getD (-1)),?_,?_,?_⟩
   .have:=(Rf (x:=x) G O n).pp
    simp only[Bz,this,AM,BL];exact G
   .have aa:=(Rf (x:=x) G O n).len;obtain⟨y,hy⟩: ∃y,(Bz x n p).1[q.toNat]? =some y:=⟨_,Bk (by simp only[Bz];omega)⟩;simp only[hy,AM,Kt];intro h0;simp only[Cx,hy,AM] at Q;rw[Af (by omega)] at Q;simp[Im] at Q
   .have:=Qxp (S:=λu=>decide (0<=(Bz x n p).1[u]?.getD (-1))) hf (by omega) ?_ ?_ ?_
    .omega
    .have:=(Rf (x:=x) G O n).pp
     simp only[Bz,this,AM,BL];exact G
    .have aa:=(Rf (x:=x) G O n).len;obtain⟨y,hy⟩: ∃y,(Bz x n p).1[q.toNat]? =some y:=⟨_,Bk (by simp only[Bz];omega)⟩;simp only[hy,AM,Kt];intro h0;simp only[Cx,hy,AM] at Q;rw[Af (by omega)] at Q;simp[Im] at Q
    .intro u w hu ah h1 Z;simp only[BL,Kt] at h1 Z;have aa:=(Rf (x:=x) G O n).len;obtain⟨y,hy⟩: ∃y,(Bz x n p).1[u]? =some y:=⟨_,Bk (by simp only[Bz];omega)⟩;rw[hy,AM] at h1;by_cases ac:VG x u w=true
     .obtain⟨z,g1,g2⟩:=Qww x G O hy h1 ah ac;rw[g1,AM] at Z;omega
     .have h3: ¬(Qzr x u w<Qyw x u w):=λh=>ac (vQ h)
      rw[OC,Pt,B0,B0] at h3;simp only[DV,JB];omega
  .have hW:=V1 G O ab af Q;obtain⟨g1,g2⟩:=Qun h G O ad ab hf hW;have ag:DV (Hu x (Cx x n p q) ((Cx x n p q).length - 1))=DV x:=by funext a b;simp only[DV,Ql3]
   rw[<-ag] at g2;have ih:=nV G O ad ab af m _ _ g1 g2;rw[ag] at ih;have e:FT n p q (m+1) x=FT n p q m (Hu x (Cx x n p q) ((Cx x n p q).length - 1))+1:=by simp only[FT];rw[Af Q]
   rw[e];rcases ih with ⟨h1,Z⟩|⟨h1,S,Z,h3,h4⟩
   .exact .inl ⟨by omega,λS hS hT=>by have:=Z S hS hT;omega⟩
   .exact .inr ⟨by omega,S,Z,h3,by omega⟩
def KG(n:Nat):Bc:=⟨List.replicate n (List.replicate n 0),List.replicate n (List.replicate n 0)⟩
def Kw(x:Bc)(b:Ag):Bc:=⟨Lo (Lo x.Room b.A b.B b.Strength) b.B b.A b.Strength,x.Flow⟩
def BW(n:Nat)(bs:List Ag):Nat->Bc
 |0=>KG n
 |k+1=>match bs[k]? with
  |some b=>Kw (BW n bs k) b
  |none=>BW n bs k
def DH(n:Nat)(bs:List Ag):Bc:=BW n bs bs.length
def WR{n:Nat}{bs:List Ag}(hb:Lk n bs): ∀k,Ki (BW n bs k) n/\(BW n bs k).Flow=List.replicate n (List.replicate n 0)
 |0=>⟨⟨by simp[BW,KG],by simp[BW,KG],λl O=>by rw[Ol O];simp,λl O=>by rw[Ol O];simp⟩,rfl⟩
 |k+1=>by
  obtain⟨ih,z⟩:=WR hb k;simp only[BW];split
  .rename_i b G;obtain⟨b1,b2,b3,b4⟩:=hb b (AZ G);refine⟨⟨by simp only[Kw,Z5];exact ih.r,ih.f,?_,ih.ff⟩,z⟩;exact Z1 (Z1 ih.rr _ _ _ (by rw[ih.r];omega)) _ _ _ (by rw[Z5,ih.r];omega)
  .exact⟨ih,z⟩
def CH(S:Nat->Bool):List Ag->Int
 |[]=>0
 |b::r=>(if S b.A.toNat=S b.B.toNat then 0 else b.Strength)+CH S r
def oL(S:Nat->Bool): ∀(a b:List Ag),CH S (a++b)=CH S a+CH S b
 |[],b=>by simp[CH]
 |x::r,b=>by simp only[CT,CH,oL S r b];omega
def Zj(n u v:Nat)(Q:u<n)(Z:v<n)(c:Int)(g:Nat->Nat->Bool):AI (λa=>AI (λb=>if g a b=true then (if a=u/\b=v then c else 0) else 0) n) n=if g u v=true then c else 0:=by
 have G:AI (λa=>AI (λb=>if g a b=true then (if a=u/\b=v then c else 0) else 0) n) n=AI (λa=>if a=u then (if g u v=true then c else 0) else 0) n:=by
  refine Fz λa _=> ?_
  by_cases z:a=u
  .subst z;rw[An rfl];have O:AI (λb=>if g a b=true then (if a=a/\b=v then c else 0) else 0) n=AI (λb=>if b=v then (if g a v=true then c else 0) else 0) n:=by
    refine Fz λb _=> ?_
    by_cases hb:b=v
    .subst hb;simp
    .simp[hb]
   rw[O,WN,An Z]
  .rw[Af z];refine (Fz λb _=> ?_).trans (QP n);simp[z]
 rw[G,WN,An Q]
def Qnz{l:List (List Int)}{n:Nat}(Z:l.length=n)(h: ∀r∈l,r.length=n){u v:Nat}(d:Int)(G:u<n)(O:v<n)(S:Nat->Bool):
 En (λa b=>GV (Lo l u v d) a b) n S=En (λa b=>GV l a b) n S+if S u=true/\S v=false then d else 0:=by
 have z:AI (λa=>AI (λb=>if (S a && !S b)=true then (if a=u/\b=v then d else 0) else 0) n) n=if (S u && !S v)=true then d else 0:=Zj n u v G O d (λa b=>S a && !S b)
 have Q:(if (S u && !S v)=true then d else 0)=if S u=true/\S v=false then d else 0:=by
  cases S u<;>cases S v<;>simp
 rw[Q] at z;rw[<-z,En,En,<-QS];refine Fz λa _=> ?_
 rw[<-QS];refine Fz λb _=> ?_
 rw[dY Z h d G O a b];cases S a<;>cases S b<;>simp
def LC{n:Nat}{bs:List Ag}(hb:Lk n bs)(S:Nat->Bool): ∀k,k<=bs.length->En (DV (BW n bs k)) n S=CH S (bs.take k)
 |0,_=>by
  simp only[Rq,CH,En];refine (Fz λu Q=> ?_).trans (QP n);refine (Fz λw Z=> ?_).trans (QP n)
  have:DV (BW n bs 0) u w=0:=by
   simp only[DV,BW,KG,GV];rw[Ls,An Q,AM,Ls,An Z,AM]
  rw[this];split<;>rfl
 |k+1,O=>by
  obtain⟨b,hbk⟩: ∃b,bs[k]? =some b:=⟨_,Bk O⟩;have ih:=LC hb S k (by omega);obtain⟨z,_⟩:=WR hb k;obtain⟨b1,b2,b3,b4⟩:=hb b (AZ hbk);have e:bs.take (k+1)=bs.take k++[b]:=by rw[Iq,hbk];rfl
  rw[e,oL,<-ih];have G:DV (BW n bs (k+1))=λx y=>GV (Lo (Lo (BW n bs k).Room (b.A.toNat:Int) (b.B.toNat:Int) b.Strength) (b.B.toNat:Int) (b.A.toNat:Int) b.Strength) x y:=by
   funext x y;simp only[DV,BW,hbk,Kw];rw[show ((b.A.toNat:Nat):Int)=b.A by omega,show ((b.B.toNat:Nat):Int)=b.B by omega]
  rw[G,Qnz (by rw[Z5];exact z.r) (Z1 z.rr _ _ _ (by rw[z.r];simp;omega)) _ (by omega) (by omega),Qnz z.r z.rr _ (by omega) (by omega)];simp only[CH]
  have:En (λa b=>GV (BW n bs k).Room a b) n S=En (DV (BW n bs k)) n S:=rfl
  rw[this];cases S b.A.toNat<;>cases S b.B.toNat<;>simp<;>omega
def RN{n:Nat}{bs:List Ag}(hb:Lk n bs)(S:Nat->Bool):En (DV (DH n bs)) n S=CH S bs:=by
 rw[DH,LC hb S _ (AQ _),Gs]
def Qpz{n:Nat}{bs:List Ag}(hb:Lk n bs)(hs:Qj bs)(a b:Nat): ∀k,0<=DV (BW n bs k) a b
 |0=>by
  simp only[DV,BW,KG,GV,Ls];split
  .rw[AM,Ls];split<;>simp
  .simp
 |k+1=>by
  have ih:=Qpz hb hs a b k;obtain⟨z,_⟩:=WR hb k;simp only[DV,BW] at ih⊢;split
  .rename_i x G;obtain⟨b1,b2,b3,b4⟩:=hb x (AZ G);have h0:=(hs x (AZ G)).1;simp only[Kw];rw[show x.A=(x.A.toNat:Int) by omega,show x.B=(x.B.toNat:Int) by omega];rw[dY (n:=n) (by rw[Z5];exact z.r) (Z1 z.rr _ _ _ (by rw[z.r];simp;omega)) _ (by omega) (by omega),dY z.r z.rr _ (by omega) (by omega)]
   split<;>split<;>omega
  .exact ih
def nZ{n:Nat}{bs:List Ag}(hb:Lk n bs)(hs:Qj bs)(p q:Nat):QX (DV (DH n bs)) (JB (DH n bs)) n p q 0:=by
 have z: ∀a b,JB (DH n bs) a b=0:=by
  intro a b;simp only[JB,DH,(WR hb bs.length).2,GV,Ls];split
  .rw[AM,Ls];split<;>simp
  .simp
 refine⟨λu w _ _=>by rw[z,z];rfl,λu w _ _=> ?_,λu _ _ _=>(Fz λi _=>z u i).trans (QP n),(Fz λi _=>z p i).trans (QP n)⟩;rw[z];exact Qpz hb hs u w bs.length
def WX(n:Nat)(bs:List Ag)(t:Int)(k:Nat):Prop:= ∀S:Nat->Bool,S 0=true->(∃y,0<y/\y<=k/\y<n/\S y=false)->t<=CH S bs
def Rc(n:Nat)(bs:List Ag)(t:Int):Nat->Bool
 |0=>true
 |k+1=>Rc n bs t k && decide (t<=FT n 0 ((k:Int)+1) t.toNat (DH n bs))
def Qtt{n:Nat}{bs:List Ag}(hb:Lk n bs)(hs:Qj bs){t:Int}(ht:0<=t): ∀k,k<n->(Rc n bs t k=true↔WX n bs t k)
 |0,_=>by
  simp only[Rc,true_iff];rintro S _ ⟨y,h1,z,_⟩;omega
 |k+1,hk=>by
  have ih:=Qtt hb hs ht k (by omega);have hl:=nV (n:=n) (p:=0) (q:=(k:Int)+1) (by omega) (by omega) (by omega) (by omega) (by omega) t.toNat (DH n bs) 0 (WR hb bs.length).1 (nZ hb hs _ _);simp only[Int.toNat_zero,show ((k:Int)+1).toNat=k+1 by omega,Int.zero_add,RN hb] at hl;simp only[Rc,AS,BL,ih];rcases hl with ⟨h1,z⟩|⟨h1,S,z,h3,h4⟩
  .constructor
   .rintro⟨g1,g2⟩ S G ⟨y,Q,y2,Z,O⟩;by_cases hy:y<=k
    .exact g1 S G ⟨y,Q,hy,Z,O⟩
    .have:=z S G (by rw[show k+1=y by omega];exact O)
     omega
   .intro h;exact⟨λS G ⟨y,Q,y2,Z,O⟩=>h S G ⟨y,Q,by omega,Z,O⟩,by omega⟩
  .constructor
   .rintro⟨_,g2⟩;omega
   .intro h
    have:=h S z ⟨k+1,by omega,by omega,hk,h3⟩
    omega
def Qt7{n:Ba}(hn:Ds n)(hc:IF n){q:Int}{st qu:List Int}(G:st.length=n.Cnt.toNat)(hP:FH n q (st,qu)){p:Int}(O:0<=p)(Q:p<n.Cnt){d:Nat}(hd:st[p.toNat]? =some (d:Int))(w:Int):
 ∀k,k<=d->Dh (BR n st p k).1 w=Dh n w+(if p=w then 1 else 0) - (if (BR n st p k).2=w then 1 else 0)
 |0,_=>by simp only[BR];omega
 |k+1,hk=>by
  have ih:=Qt7 hn hc G hP O Q hd w k (by omega);have hI:=lN hn hc G hP O Q hd k (by omega);obtain⟨m,r,hm,hr,hg,Z,ad⟩:=zJ hn G hP (by omega) hI;have ac:(BR n st p k).1.At[m]? =some r:=by rw[hI.at_];exact hr
  have e:(BR n st p (k+1)).1=Ik (BR n st p k).1 m (GW (BR n st p k).1 st m).2:=by simp only[BR,hm]
  have e2:(BR n st p (k+1)).2=(GW (BR n st p k).1 st m).1:=by simp only[BR,hm]
  rw[e,e2,Qzc hI.ok ac hg.1,hg.2.2.1,ih,hm];have aa:=hg.2.2.2.1;rw[B0,Z,AM] at aa;have ab:(m:Int)≠(GW (BR n st p k).1 st m).1:=by
   intro he;rw[<-he,B0,Z,AM] at aa;omega
  obtain⟨z,hz⟩: ∃z,z=(GW (BR n st p k).1 st m).1:=⟨_,rfl⟩;rw[<-hz] at ab⊢;by_cases c1:p=w<;>by_cases c2:(m:Int)=w<;>by_cases c3:z=w<;>simp only[c1,c2,c3,BM,CK]<;>omega
def NF(n:Ba)(p q:Int):Prop:= ∀w,w≠p->w≠q->Dh n w=0
def OK{n:Ba}(hn:Ds n)(hc:IF n){p q:Int}(G:0<=p)(O:p<n.Cnt)(Q:0<=q)(Z:q<n.Cnt)(hg:(Fg n p q).2=true)(aa:NF n p q):NF (Fg n p q).1 p q:=by
 have z:=sF hn Q Z;have hP:FH n q (Ff n q,(C7 n q n.Cnt.toNat).2):=NH hn Q Z n.Cnt.toNat;obtain⟨x,hx⟩: ∃x,(Ff n q)[p.toNat]? =some x:=⟨_,Bk (by omega)⟩;intro w h1 h2;simp only[Fg,hx,AM] at hg⊢;by_cases h:x<0
 .rw[An h] at hg;simp at hg
 .obtain⟨d,rfl⟩: ∃d:Nat,x=d:=⟨x.toNat,by omega⟩;rw[Af h,B0];have hI:=lN hn hc z hP G O hx d (AQ _);obtain⟨m,hm,ac,ab⟩:=hI.v;have ad:m=q.toNat:=hP.uniq m (by rw[ab];congr 1;omega);have ho:=Qt7 hn hc z hP G O hx w d (AQ _);rw[Af (EK h1),hm,Af (by omega),aa w h1 h2] at ho;simpa using ho
def Que{p q:Int}(z:0<=p)(G:0<=q)(aa:p≠q): ∀(m:Nat) (n:Ba),Ds n->IF n->p<n.Cnt->q<n.Cnt->NF n p q->Ds (GD p q m n).1/\IF (GD p q m n).1/\(GD p q m n).1.Cnt=n.Cnt/\(GD p q m n).1.Bonds=n.Bonds/\
 (GD p q m n).1.At=n.At/\NF (GD p q m n).1 p q/\Dh (GD p q m n).1 p=Dh n p+(GD p q m n).2/\0<=(GD p q m n).2/\((GD p q m n).2=m\/(Fg (GD p q m n).1 p q).2=false)
 |0,n,O,Q,_,_,h5=>⟨O,Q,rfl,rfl,rfl,h5,by simp[GD],by simp[GD],.inl (by simp[GD])⟩
 |m+1,n,O,Q,h3,h4,h5=>by
  simp only[GD];by_cases Z:(Fg n p q).2=true
  .rw[An Z];obtain⟨g1,g2,g3,g4,g5,g6⟩:=LZ O Q z h3 G h4 aa Z;have g7:=OK O Q z h3 G h4 Z h5;obtain⟨k1,k2,k3,k4,k5,k6,k7,k8,k9⟩:=Que z G aa m _ g1 g2 (by omega) (by omega) g7;refine⟨k1,k2,k3.trans g3,k4.trans g4,k5.trans g5,k6,by simp only;omega,by simp only;omega,?_⟩;rcases k9 with h|h
   .exact .inl (by simp only;omega)
   .exact .inr h
  .rw[Af Z];exact⟨O,Q,rfl,rfl,rfl,h5,by simp,by simp,.inr (by simpa using Z)⟩
def Qu0{n:Int}{bs:List Ag}(h:ZF (n,bs))(hs:Qj bs){p q:Int}(z:0<=p)(Q:0<=q)(G:p<n)(Z:q<n)(O:p≠q):Ds (Ea n bs p q).1/\IF (Ea n bs p q).1/\(Ea n bs p q).1.Cnt=n/\(Ea n bs p q).1.Bonds=bs/\
 (Ea n bs p q).1.At=(CX n bs).At/\NF (Ea n bs p q).1 p q/\Dh (Ea n bs p q).1 p=(Ea n bs p q).2/\0<=(Ea n bs p q).2/\(Fg (Ea n bs p q).1 p q).2=false:=by
 obtain⟨h1,h2⟩:=Mz h hs;obtain⟨k1,k2,k3,k4,k5,k6,k7,k8,k9⟩:=Que z Q O ((bs.map Ag.Strength).sum.toNat+1) (CX n bs) h1 h2 G Z (λw _ _=>Qtg w);rw[Qtg,Int.zero_add] at k7;refine⟨k1,k2,k3,k4,k5,k6,k7,k8,?_⟩;rcases k9 with h9|h9
 .exfalso;have h4:(GD p q ((bs.map Ag.Strength).sum.toNat+1) (CX n bs)).1.Bonds=bs:=k4
  have:=TT k1 k2 p
  rw[h4] at this;omega
 .exact h9
def oM{n:Ba}(hn:Ds n){v:Nat}{r:List Int}(hr:n.At[v]? =some r){y:Int}(Q:0<=y): ∀(l:List Int) (s:List Int×List Int),(∀i∈l,i∈r)->WY n s->s.1[v]? =some y-> ∀i∈l,0<(Dm n (D0 n v i) i).1-> ∃z,(l.foldl (B4 n v) s).1[(D0 n v i).toNat]? =some z/\0<=z
 |[],s,_,_,_,i,G,_=>by cases G
 |j::l,s,hl,hs,hv,i,G,O=>by
  have Z:=hl j (BT ..);rcases Bm.1 G with rfl|G
  .obtain⟨_,_,o1,o2⟩:=eS hn hr Z;obtain⟨z,hz⟩: ∃z,s.1[(D0 n v i).toNat]? =some z:=⟨_,Bk (by rw[hs.len];omega)⟩;have aa: ∃z,(B4 n v s i).1[(D0 n v i).toNat]? =some z/\0<=z:=by
    by_cases h0:0<=z
    .exact⟨z,sH n v s i _ z hz h0,h0⟩
    .refine⟨y+1,?_,by omega⟩;simp only[B4];rw[An ⟨by rw[hz,AM];omega,O⟩,B0,hv,AM];exact Du (by rw[hs.len];omega)
   obtain⟨z',g1,g2⟩:=aa;exact⟨z',Qor n v _ z' g2 l _ g1,g2⟩
  .exact oM hn hr Q l _ (λj Z=>hl j (BX _ Z)) (Qtm hn hr Z hs) (sH n v s j v y hv Q) i G O
def Qzj(n:Ba)(v:Int): ∀(l:List Int) (s:List Int×List Int),∃e,(l.foldl (B4 n v) s).2=s.2++e
 |[],s=>⟨[],by simp⟩
 |i::l,s=>by
  obtain⟨e,z⟩:=Qzj n v l (B4 n v s i);simp only[gJ,z];simp only[B4];split
  .exact⟨[D0 n v i]++e,by simp⟩
  .exact⟨e,rfl⟩
def Xv(n:Ba)(q:Int)(k:Nat): ∃e,(C7 n q (k+1)).2=(C7 n q k).2++e:=by
 rw[C7];split
 .exact⟨[],by simp⟩
 .exact Qzj n _ _ _
def O0(n:Ba)(q:Int)(u:Nat)(y:Int)(h0:0<=y)(k:Nat)(h:(C7 n q k).1[u]? =some y):(C7 n q (k+1)).1[u]? =some y:=by
 rw[C7];split
 .exact h
 .exact Qor n _ u y h0 _ _ h
def Qzn{n:Ba}(hn:Ds n){q:Int}(h0:0<=q)(Z:q<n.Cnt): ∀(k j:Nat) (v:Int),j<k->(C7 n q k).2[j]? =some v-> ∀(r:List Int),n.At[v.toNat]? =some r-> ∀i∈r,0<(Dm n (D0 n v i) i).1-> ∃z,(C7 n q k).1[(D0 n v i).toNat]? =some z/\0<=z
 |0,j,v,hj,_,_,_,_,_,_=>by omega
 |k+1,j,v,hj,G,r,Q,i,hi,O=>by
  obtain⟨e,he⟩:=Xv n q k;by_cases ac:j<(C7 n q k).2.length
  .rw[he,ED ac] at G;by_cases ab:j<k
   .obtain⟨z,g1,g2⟩:=Qzn hn h0 Z k j v ab G r Q i hi O;exact⟨z,O0 n q _ z g2 k g1,g2⟩
   .have:j=k:=by omega
    subst this;have hI:=WP hn h0 Z j;have aa:=NH hn h0 Z j;have af:=hI.q v (AZ G);obtain⟨m,rfl⟩: ∃m:Nat,v=m:=⟨v.toNat,by omega⟩;obtain⟨y,hy,ad⟩:=aa.qs _ (AZ G);rw[B0] at hy Q;rw[C7,G];simp only[B0,Q,AM];exact oM hn Q ad r _ (λ_ h=>h) hI hy i hi O
  .have e1:C7 n q (k+1)=C7 n q k:=by rw[C7,FG (by omega)]
   rw[e1] at G
   have:=(Ce.1 G).1
   omega
def R4{n:Ba}(hn:Ds n){q:Int}(h0:0<=q)(h1:q<n.Cnt): ∀(k u:Nat) (y:Int),(C7 n q k).1[u]? =some y->0<=y->(u:Int)∈(C7 n q k).2
 |0,u,y,z,G=>by
  have hq:q.toNat<n.Cnt.toNat:=by omega
  simp only[C7] at z⊢;by_cases h:q.toNat=u
  .rw[BK];omega
  .rw[DK h] at z
   have:=Ol (AZ z)
   omega
 |k+1,u,y,z,G=>by
  have ih:=R4 hn h0 h1 k;have hI:=WP hn h0 h1 k;have O: ∀(v:Int) (l:List Int) (s:List Int×List Int),(∀i∈l,0<=D0 n v i)->(∀(u:Nat) (y:Int),s.1[u]? =some y->0<=y->(u:Int)∈s.2)-> ∀(u:Nat) (y:Int),(l.foldl (B4 n v) s).1[u]? =some y->0<=y->(u:Int)∈(l.foldl (B4 n v) s).2:=by
   intro v l;induction l with
   |nil=>intro s _ Q;exact Q
   |cons i l Z=>
    intro s hl Q;refine Z _ (λj hj=>hl j (BX _ hj)) ?_;intro u y z G;have ho:=hl i (BT ..);simp only[B4] at z⊢;split at z
    .rename_i hc;rw[An hc];simp only[Bx,BK] at z⊢;by_cases he:(D0 n v i).toNat=u
     .right;omega
     .rw[DK he] at z;exact .inl (Q u y z G)
    .rename_i hc;rw[Af hc];exact Q u y z G
  rw[C7] at z⊢;split at z
  .exact ih u y z G
  .rename_i v hv;have aa:=hI.q v (AZ hv);obtain⟨m,rfl⟩: ∃m:Nat,v=m:=⟨v.toNat,by omega⟩;obtain⟨r,hr⟩: ∃r,n.At[m]? =some r:=⟨_,Bk (by have:=hn.al;omega)⟩;simp only[B0,hr,AM] at z⊢;exact O m r _ (λi hi=>(eS hn hr hi).2.2.1) ih u y z G
def Qmo{n:Ba}(hn:Ds n){q:Int}(h0:0<=q)(G:q<n.Cnt){v:Nat}{y:Int}(hv:(Ff n q)[v]? =some y)(hy:0<=y){r:List Int}(hr:n.At[v]? =some r){i:Int}(Z:i∈r)(O:0<(Dm n (D0 n v i) i).1):
 ∃z,(Ff n q)[(D0 n v i).toNat]? =some z/\0<=z:=by
 have hm:=R4 hn h0 G n.Cnt.toNat v y hv hy;obtain⟨j,Q⟩:=Ku.1 hm;have aa:=(Ce.1 Q).1;have ab:=zP hn.c0 (WP hn h0 G n.Cnt.toNat);exact Qzn hn h0 G n.Cnt.toNat j v (by omega) Q r (by rwa [B0]) i Z O
def Y7(n:Ba)(S:Nat->Bool):Int:=(List.zipWith (λb f=>(if S b.A.toNat=true then f else 0) - (if S b.B.toNat=true then f else 0)) n.Bonds n.Flow).sum
def oQ(S:Nat->Bool)(m:Nat): ∀(bs:List Ag) (z:List Int),(∀b∈bs,0<=b.A/\b.A<m/\0<=b.B/\b.B<m/\b.A≠b.B)->
 AI (λv=>if S v=true then (List.zipWith (J9 (v:Int)) bs z).sum else 0) m=(List.zipWith (λb f=>(if S b.A.toNat=true then f else 0) - (if S b.B.toNat=true then f else 0)) bs z).sum
 |[],z,_=>by
  simp only[List.zipWith_nil_left,ZeU];refine (Fz λi _=> ?_).trans (QP m)
  split<;>rfl
 |b::bs,[],_=>by
  simp only[ZdV,ZeU];refine (Fz λi _=> ?_).trans (QP m)
  split<;>rfl
 |b::bs,f::z,h=>by
  have ih:=oQ S m bs z (λx O=>h x (BX _ O));obtain⟨b1,b2,b3,b4,b5⟩:=h b (BT ..);simp only[gA,Lx];rw[<-ih];have e:AI (λv=>if S v=true then J9 (v:Int) b f+(List.zipWith (J9 (v:Int)) bs z).sum else 0) m=
   (AI (λv=>if v=b.A.toNat then (if S b.A.toNat=true then f else 0) else 0) m+ - AI (λv=>if v=b.B.toNat then (if S b.B.toNat=true then f else 0) else 0) m)+AI (λv=>if S v=true then (List.zipWith (J9 (v:Int)) bs z).sum else 0) m:=by
   rw[<-sX,<-QS,<-QS];refine Fz λv _=> ?_
   simp only[J9];by_cases c1:v=b.A.toNat
   .have G: ¬v=b.B.toNat:=by omega
    rw[An (show b.A=(v:Int) by omega),An c1,Af G,<-c1];cases S v<;>simp
   .rw[Af (show ¬b.A=(v:Int) by omega),Af c1];by_cases G:v=b.B.toNat
    .rw[An (show b.B=(v:Int) by omega),An G,<-G];cases S v<;>simp
    .rw[Af (show ¬b.B=(v:Int) by omega),Af G];cases S v<;>simp
  rw[e,WN,WN,An (show b.A.toNat<m by omega),An (show b.B.toNat<m by omega)];omega
def M7{n:Ba}(hn:Ds n){p q:Int}(aa:0<=p)(ab:p<n.Cnt)(G:NF n p q){S:Nat->Bool}(Z:S p.toNat=true)(hT:S q.toNat=false)(ac:0<=q):Y7 n S=Dh n p:=by
 have O:=oQ S n.Cnt.toNat n.Bonds n.Flow (λb hb=>by
  have:=hn.bs b hb
  have:=hn.ne b hb
  omega)
 rw[Y7,<-O];have Q:AI (λv=>if S v=true then (List.zipWith (J9 (v:Int)) n.Bonds n.Flow).sum else 0) n.Cnt.toNat=AI (λv=>if v=p.toNat then Dh n p else 0) n.Cnt.toNat:=by
  refine Fz λv hv=> ?_
  by_cases z:v=p.toNat
  .subst z;rw[An rfl,An Z,show ((p.toNat:Nat):Int)=p by omega];rfl
  .rw[Af z];cases hSv:S v with
   |false=>rw[Af (by simp)]
   |true=>
    rw[An rfl];have ad:v≠q.toNat:=λhe=>by rw[he,hT] at hSv;cases hSv
    exact G v (by omega) (by omega)
 rw[Q,WN,An (by omega)]
def Qw5(S:Nat->Bool): ∀(bs:List Ag) (G:List Int),(∀(i:Nat) b f,bs[i]? =some b->G[i]? =some f-> -b.Strength<=f/\f<=b.Strength)->(∀b∈bs,0<=b.Strength)->(List.zipWith (λb f=>(if S b.A.toNat=true then f else 0) - (if S b.B.toNat=true then f else 0)) bs G).sum<=CH S bs
 |[],_,_,_=>by simp[CH]
 |x::r,[],_,z=>by
  have O:=Qw5 S r [] (λi b f _ h=>by simp at h) (λb hb=>z b (BX _ hb));have Q:=z x (BT ..);simp only[ZdV,ZeU,CH] at O⊢
  split<;>omega
 |x::r,y::s,hc,z=>by
  have O:=Qw5 S r s (λi b f h h'=>hc (i+1) b f (by simpa using h) (by simpa using h')) (λb hb=>z b (BX _ hb));have Z:=hc 0 x y rfl rfl;simp only[gA,Lx,CH];cases S x.A.toNat<;>cases S x.B.toNat<;>simp<;>omega
def M6(S:Nat->Bool): ∀(bs:List Ag) (z:List Int),z.length=bs.length->(∀(i:Nat) b f,bs[i]? =some b->z[i]? =some f->(S b.A.toNat=true->S b.B.toNat=false->f=b.Strength)/\(S b.A.toNat=false->S b.B.toNat=true->f= -b.Strength))->(List.zipWith (λb f=>(if S b.A.toNat=true then f else 0) - (if S b.B.toNat=true then f else 0)) bs z).sum=CH S bs
 |[],_,_,_=>by simp[CH]
 |x::r,[],h,_=>by simp at h
 |x::r,y::s,h,hc=>by
  have G:=M6 S r s (by simpa using h) (λi b f h h'=>hc (i+1) b f (by simpa using h) (by simpa using h'));obtain⟨O,Q⟩:=hc 0 x y rfl rfl;simp only[gA,Lx,CH,G];cases hA:S x.A.toNat<;>cases hB:S x.B.toNat<;>simp
  .have:=Q hA hB;omega
  .exact O hA hB
def Sp{n:Int}{bs:List Ag}(h:ZF (n,bs))(hs:Qj bs){p q:Int}(Q:0<=p)(G:0<=q)(ac:p<n)(af:q<n)(ad:p≠q):
 0<=(Ea n bs p q).2/\(∀S:Nat->Bool,S p.toNat=true->S q.toNat=false->(Ea n bs p q).2<=CH S bs)/\ ∃S:Nat->Bool,S p.toNat=true/\S q.toNat=false/\CH S bs=(Ea n bs p q).2:=by
 obtain⟨k1,k2,k3,k4,k5,k6,k7,k8,k9⟩:=Qu0 h hs Q G ac af ad;obtain⟨N,hN⟩: ∃N,N=(Ea n bs p q).1:=⟨_,rfl⟩;obtain⟨val,hval⟩: ∃val,val=(Ea n bs p q).2:=⟨_,rfl⟩;simp only[<-hN,<-hval] at k1 k2 k3 k4 k5 k6 k7 k8 k9⊢;refine⟨k8,λS hS hT=> ?_,?_⟩
 .have h1:=M7 k1 Q (by omega) k6 hS hT G;have h2:=Qw5 S N.Bonds N.Flow k2 (λb hb=>(k1.st b hb).1);rw[k4] at h2;simp only[Y7,k4] at h1;omega
 .have ah:=sF k1 G (by omega);obtain⟨x,hx⟩: ∃x,(Ff N q)[p.toNat]? =some x:=⟨_,Bk (by omega)⟩;have aa:x<0:=by
   simp only[Fg,hx,AM] at k9;by_cases h0:x<0
   .exact h0
   .rw[Af h0] at k9;simp at k9
  have O:=(NH k1 G (show q<N.Cnt by omega) N.Cnt.toNat).zero;have O:(Ff N q)[q.toNat]? =some 0:=O;refine⟨λv=>decide ((Ff N q)[v]?.getD 0<0),by simp only[hx,AM,BL];exact aa,by simp[O],?_⟩;have hS:decide ((Ff N q)[p.toNat]?.getD 0<0)=true:=by simp only[hx,AM,BL];exact aa
  have hT:decide ((Ff N q)[q.toNat]?.getD 0<0)=false:=by simp[O]
  have h1:=M7 (S:=λv=>decide ((Ff N q)[v]?.getD 0<0)) k1 Q (by omega) k6 hS hT G;have h2:=M6 (λv=>decide ((Ff N q)[v]?.getD 0<0)) N.Bonds N.Flow k1.fl ?_
  .simp only[Y7,k4] at h1;rw[k4] at h2;omega
  .intro i b f hb hf;have ai:=k1.bs b (AZ hb);have ab:=k1.ne b (AZ hb);obtain⟨⟨rA,a1,a2⟩,⟨rB,c1,c2⟩⟩:=k1.all i b hb;have ag:=k2 i b f hb hf;obtain⟨yA,hA⟩: ∃y,(Ff N q)[b.A.toNat]? =some y:=⟨_,Bk (by omega)⟩;obtain⟨yB,hB⟩: ∃y,(Ff N q)[b.B.toNat]? =some y:=⟨_,Bk (by omega)⟩;simp only[hA,hB,AM,BL,Kt];refine⟨λe1 e2=> ?_,λe1 e2=> ?_⟩
   ·
    have ho:D0 N b.B i=b.A:=by simp only[D0,B0,hb];omega
    have hr:(Dm N b.A i).1=b.Strength - f:=by simp only[Dm,B0,hb,hf,AM,BM]
    by_cases Z:0<b.Strength - f
    .have:=Qmo k1 G (by omega) (v:=b.B.toNat) hB (by omega) c1 c2 (by rw[show ((b.B.toNat:Nat):Int)=b.B by omega,ho,hr];exact Z)
     rw[show ((b.B.toNat:Nat):Int)=b.B by omega,ho,hA] at this;obtain⟨z,g1,g2⟩:=this
     have:=AD g1
     omega
    .omega
   .have ho:D0 N b.A i=b.B:=by simp only[D0,B0,hb];omega
    have hr:(Dm N b.B i).1=b.Strength+f:=by simp only[Dm,B0,hb,hf,AM];rw[Af ab]
    by_cases Z:0<b.Strength+f
    .have:=Qmo k1 G (by omega) (v:=b.A.toNat) hA (by omega) a1 a2 (by rw[show ((b.A.toNat:Nat):Int)=b.A by omega,ho,hr];exact Z)
     rw[show ((b.A.toNat:Nat):Int)=b.A by omega,ho,hB] at this;obtain⟨z,g1,g2⟩:=this
     have:=AD g1
     omega
    .omega
def FF(n:Int)(bs:List Ag):Nat->Int×List Int
 |0=>(-1,[])
 |k+1=>if (FF n bs k).1<0\/Gw (Ea n bs 0 (k+1)).2 (fO (Ea n bs 0 (k+1)).1 (k+1)) (FF n bs k).1 (FF n bs k).2=true then ((Ea n bs 0 (k+1)).2,fO (Ea n bs 0 (k+1)).1 (k+1)) else FF n bs k
def weakC.fv(a:Int×(List Ag)):Int×(List Int):=(λn bs=>FF n bs (n - 1).toNat) (a.1) (a.2)
def weakC.row:AA:=vK (b2 qI (qS Ag.d_le Ag.c_n)) (r2 rI (rS Da Cp)) (λa=>ZF (a.1,a.2)/\Qj a.2/\1<=a.1) weakC.fv
def weakC.q:=AT (R:=weakC.row) rfl
def weakC.ok:AB Tryz.prog 208 weakC.row:=by
 refine vw (tC l07Before.ok (tC flC.ok (tC sideC.ok tN))) Tryz.func208 rfl (by kernel_rfl) ?_;intro a Q;simp only[Tryz.f208];simp(disch:=omega)only[ZA,simprocAttr,weakC.fv];obtain⟨O,Z,ac⟩:=Q;have aa:=O.2.1;simp only at aa;obtain⟨n,hn⟩: ∃n:Nat,a.1=n+1:=⟨(a.1 - 1).toNat,by omega⟩;rw[show (a.1 - 1).toNat=n by omega];refine AP.frr ⟨{k:Nat//k<=n},λk=>⟨[(8,.im (.int .i64 ((k.1:Int)+1))),(7,.im (.sl false 1 ((FF a.1 a.2 k.1).2.map Aj))),(6,.im (.int .i64 (FF a.1 a.2 k.1).1)),(0,.im (.int .i64 a.1)),(1,.im (.sl false 3 (a.2.map Ag.c)))],[],2⟩,λk=>n - k.1,λk=>⟨by simp[Ai.good,Am,Ac,A8,AV.bel],by simp⟩,⟨⟨0,by simp⟩,[1],[],?_⟩,λk=> ?_⟩
 .simp only[Ay];simp(disch:=omega)only[ZA,simprocAttr,FF]
  try simp
 obtain⟨k,ab⟩:=k;simp(disch:=omega)only[ZA,simprocAttr,AO];refine⟨λhk=> ?_,λhk=> ?_⟩
 .refine AE.os (a.1,a.2,0,(k:Int)+1) [] ⟨O,Z,by simp,by simp only;omega,by simp only;omega,by simp only;omega,by simp only;omega⟩ (λj=>by simp[Ao,hget]) rfl rfl ?_ ?_
  .simp(disch:=omega)only[ZA,simprocAttr,flC.ca]
  .simp(disch:=omega)only[ZZ,simprocAttr,Cl,l07Before.q,l07Before.fv,sideC.q,sideC.fv,flC.H1,flC.r0,AO];obtain⟨k1,k2,k3,k4,k5,_⟩:=Qu0 (p:=0) (q:=(k:Int)+1) O Z (by omega) (by omega) (by omega) (by omega) (by omega);have G:({Cnt:=a.1,Bonds:=a.2,At:=(CX a.1 a.2).At,Flow:=(flC.net (a.1,a.2,0,(k:Int)+1)).Flow}:Ba)=(Ea a.1 a.2 0 ((k:Int)+1)).1:=by
    rw[<-k5];simp only[flC.net]
    conv=>rhs;rw[show (Ea a.1 a.2 0 ((k:Int)+1)).1=⟨(Ea a.1 a.2 0 ((k:Int)+1)).1.Cnt,(Ea a.1 a.2 0 ((k:Int)+1)).1.Bonds,(Ea a.1 a.2 0 ((k:Int)+1)).1.At,(Ea a.1 a.2 0 ((k:Int)+1)).1.Flow⟩ from rfl]
    rw[k3,k4]
   rw[G];have hw:IntKind.i64.wrap ((k:Int)+1+1)=(k:Int)+1+1:=AG (by omega) (by omega);have z:FF a.1 a.2 (k+1)=if (FF a.1 a.2 k).1<0\/Gw (Ea a.1 a.2 0 ((k:Int)+1)).2 (fO (Ea a.1 a.2 0 ((k:Int)+1)).1 ((k:Int)+1)) (FF a.1 a.2 k).1 (FF a.1 a.2 k).2=true then ((Ea a.1 a.2 0 ((k:Int)+1)).2,fO (Ea a.1 a.2 0 ((k:Int)+1)).1 ((k:Int)+1)) else FF a.1 a.2 k:=rfl
   refine⟨⟨k1,by omega,by omega⟩,λh0=>⟨λh1=>⟨⟨k+1,by omega⟩,[],[],by simp only;omega,?_⟩,λh1=>⟨⟨k+1,by omega⟩,[],[],by simp only;omega,?_⟩⟩,λh0=>⟨⟨k+1,by omega⟩,[],[],by simp only;omega,?_⟩⟩
   .rw[An (.inr h1)] at z;simp only[Ay];simp(disch:=omega)only[ZA,simprocAttr,z,hw];omega
   .rw[Af (λh=>h.elim h0 h1)] at z;simp only[Ay];simp(disch:=omega)only[ZA,simprocAttr,z,hw];omega
   .rw[An (.inl (FX.1 h0))] at z;simp only[Ay];simp(disch:=omega)only[ZA,simprocAttr,z,hw];omega
 .have:k=n:=by omega
  rw[this]
def Qzk{n:Int}{bs:List Ag}(h:ZF (n,bs))(hs:Qj bs){t:Int}(ht:0<=t): ∀k:Nat,(k:Int)<n->(0<k->0<=(FF n bs k).1/\(t<=(FF n bs k).1↔WX n.toNat bs t k))
 |0,_=>λh0=>by omega
 |k+1,hk=>λ_=>by
  obtain⟨f1,f2,S,f3,f4,f5⟩:=Sp h hs (p:=0) (q:=(k:Int)+1) (by omega) (by omega) (by omega) (by omega) (by omega);simp only[Int.toNat_zero,show ((k:Int)+1).toNat=k+1 by omega] at f2 f3 f4;obtain⟨v,hv⟩: ∃v,v=(Ea n bs 0 ((k:Int)+1)).2:=⟨_,rfl⟩;obtain⟨sd,hsd⟩: ∃sd,sd=fO (Ea n bs 0 ((k:Int)+1)).1 ((k:Int)+1):=⟨_,rfl⟩;have Z:t<=v↔ ∀S:Nat->Bool,S 0=true->S (k+1)=false->t<=CH S bs:=by
   constructor
   .intro z S G hT
    have:=f2 S G hT
    omega
   .intro z
    have:=z S f3 f4
    omega
  have Q:WX n.toNat bs t (k+1)↔WX n.toNat bs t k/\t<=v:=by
   rw[Z];constructor
   .intro z;exact⟨λS G ⟨y,y1,y2,y3,y4⟩=>z S G ⟨y,y1,by omega,y3,y4⟩,λS G hT=>z S G ⟨k+1,by omega,by omega,by omega,hT⟩⟩
   .rintro⟨z,h2⟩ S G ⟨y,y1,y2,y3,y4⟩;by_cases hy:y<=k
    .exact z S G ⟨y,y1,hy,y3,y4⟩
    .exact h2 S G (by rw[show k+1=y by omega];exact y4)
  rw[Q];simp only[FF,<-hv,<-hsd];by_cases aa:k=0
  .subst aa;rw[An (.inl (by simp[FF]))];refine⟨by simp only;omega,?_⟩;simp only;constructor
   .intro z;exact⟨λS _ ⟨y,y1,y2,_,_⟩=>by omega,z⟩
   .exact λz=>z.2
  .obtain⟨i1,i2⟩:=Qzk h hs ht k (by omega) (by omega);rw[<-i2];by_cases hc:(FF n bs k).1<0\/Gw v sd (FF n bs k).1 (FF n bs k).2=true
   .rw[An hc];have ab:v<=(FF n bs k).1:=by
     rcases hc with hc|hc
     .omega
     .simp only[Gw] at hc;split at hc
      .omega
      .simp only[BL] at hc;omega
    simp only;exact⟨by omega,by omega,by omega⟩
   .rw[Af hc];have ab:(FF n bs k).1<=v:=by
     have O: ¬Gw v sd (FF n bs k).1 (FF n bs k).2=true:=λh=>hc (.inr h)
     simp only[Gw] at O;split at O
     .omega
     .simp only[BL] at O;omega
    exact⟨i1,by omega,by omega⟩
end Go.Ae
