/- Lemmas. Conditions: none. -/
import Derived.Test.YtogafbdeamcpnaaGreatDoorP08
import Derived.Test.YtogafbdeamcpnaaGreatDoorChecked
import Derived.LaidEql
import Derived.Stop.Asserts
import Derived.RowKitTokens
import Derived.Stop.LaidTwo
import Derived.LaidMore
import Derived.LaidOnce
import Derived.ChangeVars
import Derived.ChangeSame
import Derived.Stop.LaidErr
import Derived.LaidMore
import Derived.Stop.Joined
set_option linter.all false
set_option maxHeartbeats 8000000
set_option maxRecDepth 100000
namespace Go.Ae
open Go Go.Proofs Go.RowKit Go.Extern.Stop Go.Stop Go.Extern
def nB(v:Value)(w:World):(Extern.ReflectliteType.typeOf #[.iface 392 v]).run Tryz.prog w= .ok (.iface 264 (.agg #[.pointer (some ⟨2,392,none⟩)])) w:=by kernel_rfl
def dY:Array Value->Sem Value:=Extern.ReflectliteType.method λt=>do Extern.Rtype.noPackHeld "Comparable" t;pure (.bool (<-typeInfo t).comparable)
def nI(w:World):(dY #[.agg #[.pointer (some ⟨2,392,none⟩)]]).run Tryz.prog w= .ok (.bool true) w:=by kernel_rfl
def nC(v:Value)(w:World):(Go.method 534 264 v "Comparable").run Tryz.prog w= .ok (323,v) w:=by kernel_rfl
def KW:(Tryz.prog.info? 392).map (·.comparable)=some true:=by kernel_rfl
def KX:(Tryz.prog.info? 419).map (·.size)=some 1:=by kernel_rfl
def WS(v:Value)(z:TypeId)(w:World):(Instr.typeAssert (.iface 392 v) z 266 true).run Tryz.prog w= .ok (.tuple #[.nilIface,.bool false]) w:=run_typeAssert_lacksB Tryz.underlying266 (by kernel_rfl) (by kernel_rfl) v z w
def Qaoa(v:Value)(z:TypeId)(w:World):(Instr.typeAssert (.iface 392 v) z 269 true).run Tryz.prog w= .ok (.tuple #[.nilIface,.bool false]) w:=run_typeAssert_lacksB Tryz.underlying269 (by kernel_rfl) (by kernel_rfl) v z w
def Qan5(v:Value)(z:TypeId)(w:World):(Instr.typeAssert (.iface 392 v) z 271 true).run Tryz.prog w= .ok (.tuple #[.nilIface,.bool false]) w:=run_typeAssert_lacksB Tryz.underlying271 (by kernel_rfl) (by kernel_rfl) v z w
def WT(a:Addr)(w:World):Calls Tryz.prog 110 #[.iface 392 (.pointer (some a)),.iface 392 (.pointer (some a))] w λe w'=>e= .returned (.bool true)/\w'=w:=by
 obtain⟨i,Q,z⟩:=Df.1 KW;obtain⟨j,Z,aa⟩:=Df.1 KX;have h8:= @run_callFunc_extern Tryz.prog 157 _ Extern.ReflectliteType.typeOf Tryz.func157 (by kernel_rfl) (by kernel_rfl) (by kernel_rfl) (by kernel_rfl);have G:= @run_callFunc_extern Tryz.prog 323 _ dY Tryz.func323 (by kernel_rfl) (by kernel_rfl) (by kernel_rfl) (by kernel_rfl);have tT:=nB;have cT:=nI;have mR:=nC;have O:=run_eql_iface_ptr_same (P:=Tryz.prog) w a Tryz.underlying164 Tryz.underlying392 Q z Z
 go_enter Tryz.func110,Tryz.ntmps110
 go_wp2
 refine wp_loop_rounds 1 ?_;rw[rounds_succ]
 go_wp2
 go_ret
 exact⟨rfl,rfl⟩
def eE(b:Addr)(w:World):Calls Tryz.prog 110 #[.nilIface,.iface 392 (.pointer (some b))] w λe w'=>e= .returned (.bool false)/\w'=w:=by
 have hn:=run_eql_iface_nil_left (P:=Tryz.prog) w 392 (.pointer (some b)) Tryz.underlying164
 go_enter Tryz.func110,Tryz.ntmps110
 go_wp2
 go_ret
 exact⟨rfl,rfl⟩
def Rw(a b:Addr)(ca Q:Array Value)(ta tb:TypeId)(w:World)(O:a≠b)(ha:w.heap[a.block]? =some (.cells ca ta (0,0)))(hb:w.heap[b.block]? =some (.cells Q tb (0,0))):
 Calls Tryz.prog 110 #[.iface 392 (.pointer (some a)),.iface 392 (.pointer (some b))] w λe w'=>e= .returned (.bool false)/\w'=w:=by
 obtain⟨i,hi,z⟩:=Df.1 KW;obtain⟨j,hj,G⟩:=Df.1 KX;have h8:= @run_callFunc_extern Tryz.prog 157 _ Extern.ReflectliteType.typeOf Tryz.func157 (by kernel_rfl) (by kernel_rfl) (by kernel_rfl) (by kernel_rfl);have Z:= @run_callFunc_extern Tryz.prog 323 _ dY Tryz.func323 (by kernel_rfl) (by kernel_rfl) (by kernel_rfl) (by kernel_rfl);have tT:=nB;have cT:=nI;have mR:=nC;have nE:=WS;have uE:=Qaoa;have vE:=Qan5;have aa:=run_eql_iface_ptr_other (P:=Tryz.prog) w Tryz.underlying164 Tryz.underlying392 hi z hj (by rw[G];decide) O ha hb
 go_enter Tryz.func110,Tryz.ntmps110
 go_wp2
 refine wp_loop_rounds 1 ?_;rw[rounds_succ]
 go_wp2
 go_ret
 exact⟨rfl,rfl⟩
def Nj(K:Ai):List AV->Prop
 |[.im .nili,.im (.tok g)]=>L3 g=true/\K (.im (.bool false)) {}
 |[.im (.tok a),.im (.tok g)]=>L3 a=true/\L3 g=true/\K (.im (.bool (a==g))) {}
 |_=>False
def errIs.row:A7:=λargs _ _ K=>Nj K args
def errIs.q(args:List AV)(h:Nat->Option Aq)(nx:Nat)(K:Ai):errIs.row args h nx K=Nj K args:=rfl
def aY{ok:Nat->Prop}{hp:Nat->Option Obj}{g:Nat}{a:Addr}{v:Value}(h:GE ok hp g a)(O:rd ok hp (.tok g) v):v= .iface 392 (.pointer (some a)):=by
 simp only[rd] at O;obtain⟨_,_,T,fr,Z⟩:=O;obtain⟨_,⟨T2,Q,z⟩,_⟩:=h;rw[Z] at z;have G:=AE z;simp only[Obj.cells.injEq] at G;simpa using G.1
def errIs.ok:AA Tryz.prog 110 errIs.row:=by
 intro args h nx K G;have hE: ∀S:Ay,S.h=({}:Bk).appf S.h:=λS=>by funext m;simp[Bk.appf,hget]
 rw[errIs.q] at G;unfold Nj at G;split at G
 .rename_i g;obtain⟨hg,hK⟩:=G;refine⟨Nn (by kernel_rfl),_,_,?_,hK⟩;intro C S vs R hW ad Q Z z O;simp only[AM,Aa] at z;obtain⟨v0,r0,hv,h0,v1,r1,aa,h1,ab⟩:=z;obtain⟨a,ga,gn⟩:=hW.gp;have e1:=aY (ga g hg) h1;simp only[rd] at h0;subst ab aa e1 h0;have ac:vs= #[.nilIface,.iface 392 (.pointer (some (a g)))]:=by apply N4;simpa using hv
  subst ac;refine (eE (a g) S.w).mono ?_;rintro e w' ⟨rfl,rfl⟩;exact O _ S hW (hE S) (Bx.refl _ _) (by simp only[Aa,rd])
 .rename_i b g;obtain⟨hb,hg,hK⟩:=G;refine⟨Nn (by kernel_rfl),_,_,?_,hK⟩;intro C S vs R hW ad Q Z z O;simp only[AM,Aa] at z;obtain⟨v0,r0,hv,h0,v1,r1,aa,h1,ab⟩:=z;obtain⟨a,ga,gn⟩:=hW.gp;have e1:=aY (ga g hg) h1;have e0:=aY (ga b hb) h0;subst ab aa e1 e0;have ac:vs= #[.iface 392 (.pointer (some (a b))),.iface 392 (.pointer (some (a g)))]:=by apply N4;simpa using hv
  subst ac;by_cases c:b=g
  .subst c;refine (WT (a b) S.w).mono ?_;rintro e w' ⟨rfl,rfl⟩;exact O _ S hW (hE S) (Bx.refl _ _) (by simp only[Aa,rd,rO])
  .obtain⟨_,_,_,cb,tb,k1⟩:=ga b hb;obtain⟨_,_,_,cg,tg,k2⟩:=ga g hg;refine (Rw (a b) (a g) cb cg tb tg S.w (gn b g hb hg c) k1 k2).mono ?_;rintro e w' ⟨rfl,rfl⟩;exact O _ S hW (hE S) (Bx.refl _ _) (by simp only[Aa,rd];simp[c])
 .exact G.elim
end Go.Ae
namespace Go.Ae
open Go Go.Proofs Go.RowKit Go.ChangeShapes Go.WideShapes
abbrev J2:List (String×DataW Unit):=[("loop.example/g01081/impl.errTerminal",Go.Proofs.YtogafbdeamcpnaaGreatDoor.Rows.laid_loop_example_g01081_impl_errTerminal),("loop.example/g01081/impl.errNoSpace",Go.Proofs.YtogafbdeamcpnaaGreatDoor.Rows.laid_loop_example_g01081_impl_errNoSpace)]
def gT:Tryz.prog.globalNamed "loop.example/g01081/impl.errTerminal" =some 0:=by kernel_rfl
def gN:Tryz.prog.globalNamed "loop.example/g01081/impl.errNoSpace" =some 1:=by kernel_rfl
def zL:(Tryz.prog.globals[0]?).map (·.type)=some 164:=by kernel_rfl
def zK:(Tryz.prog.globals[1]?).map (·.type)=some 164:=by kernel_rfl
def ZH: "*" ++ "errors.errorString" = "*errors.errorString" :=by decide
def tX(u:TypeId)(h:Tryz.prog.typeName? 3 u=some "*errors.errorString"):u=392:=
 typeName_ptr_named (nm:= "errors.errorString") (by rw[ZH];kernel_rfl) (by kernel_rfl) (by decide) u (by rw[ZH];exact h)
def aX{W:World}{n:String}{g:Nat}{cs:Array Value}(G:Tryz.prog.globalNamed n=some g)(h:W.var? Tryz.prog n=some cs): ∃T z,W.heap[g]? =some (.cells cs T z):=by
 unfold World.var? at h;rw[G] at h;simp only[EN] at h;split at h
 .rename_i c T z e;obtain rfl:=AE h;exact⟨T,z,e⟩
 .cases h
def PY{W:World}{b:Nat}{o:Obj}(h:W.heap[b]? =some o):b<W.heap.size:=(Qy.1 h).1
def Xo{W:World}(h:laidMetH Tryz.prog J2 W):GP (λb=>b<W.heap.size) (λb=>W.heap[b]?):=by
 rw[MakeChecks.laidMetH_plain _ _ _ (by kernel_rfl)] at h;obtain⟨a0,a1,s0,s1,c0,c1,t0,t1,aa,ab,ac,af,ah,ad,ag,ai,Z,z,G⟩:=laid_sentinels2 h gT zL gN zK Tryz.underlying164 tX Tryz.underlying392 Tryz.underlying419 rfl rfl Tryz.underlying9 (by kernel_rfl) (by kernel_rfl);obtain⟨T0,f0,g0⟩:=aX gT aa;obtain⟨T1,f1,g1⟩:=aX gN ab;refine⟨λg=>if g=0 then a0 else a1,λg O=> ?_,λg g' O Q hn=> ?_⟩
 .simp only[L3,Hp,N5] at O;rcases O with rfl|rfl
  .exact⟨PY g0,⟨T0,f0,g0⟩,PY z,c0,t0,z⟩
  .exact⟨PY g1,⟨T1,f1,g1⟩,PY G,c1,t1,G⟩
 .simp only[L3,Hp,N5] at O Q;rcases O with rfl|rfl<;>rcases Q with rfl|rfl
  .exact absurd rfl hn
  .exact Z
  .exact λe=>Z e.symm
  .exact absurd rfl hn
abbrev uG:List String:=["loop.example/g01081/impl.errTerminal", "loop.example/g01081/impl.errNoSpace"]
def Pj{H:Type}{enc:TypeId×Value->H}{W:World}{sp:Nat->Bool}{gs:List (DataW H)}{q:List MemPlace}(h:laidMetH Tryz.prog J2 W)(hV:DataW.TrodVars enc Tryz.prog W sp uG gs q):
 ∃O Q:Value,IsIface O/\IsIface Q/\W.var? Tryz.prog "loop.example/g01081/impl.errTerminal" =some #[O]/\W.var? Tryz.prog "loop.example/g01081/impl.errNoSpace" =some #[Q]/\gs=[tok enc O,tok enc Q]/\q=[.cell 0 0,.cell 1 0]:=by
 rw[MakeChecks.laidMetH_plain _ _ _ (by kernel_rfl)] at h;obtain⟨Z,a1,s0,s1,c0,c1,t0,t1,z,G,_⟩:=laid_sentinels2 h gT zL gN zK Tryz.underlying164 tX Tryz.underlying392 Tryz.underlying419 rfl rfl Tryz.underlying9 (by kernel_rfl) (by kernel_rfl);obtain⟨r1,r2⟩:=hV.unique (vars_read2 enc gT zL Tryz.underlying164 z trivial gN zK Tryz.underlying164 G trivial _);exact⟨.iface _ (.pointer (some Z)),.iface _ (.pointer (some a1)),trivial,trivial,z,G,r1,r2⟩
def nG{W W':World}(O:Below W.heap.size W W'){n:String}{g:Nat}{cs:Array Value}(z:Tryz.prog.globalNamed n=some g)(h:W.var? Tryz.prog n=some cs):W'.var? Tryz.prog n=some cs:=by
 obtain⟨T,Q,e⟩:=aX z h;have G:=(O.block g (PY e)).trans e;unfold World.var?;rw[z];simp only[EN,G]
def Yw{H:Type}(enc:TypeId×Value->H){W W':World}(O:Below W.heap.size W W'){z G:Value}(i0:IsIface z)(i1:IsIface G)(h0:W.var? Tryz.prog "loop.example/g01081/impl.errTerminal" =some #[z])(Z:W.var? Tryz.prog "loop.example/g01081/impl.errNoSpace" =some #[G])(Q:Nat->Bool):
 DataW.TrodVars enc Tryz.prog W' Q uG [tok enc z,tok enc G] [.cell 0 0,.cell 1 0]:=
 vars_read2 enc gT zL Tryz.underlying164 (nG O gT h0) i0 gN zK Tryz.underlying164 (nG O gN Z) i1 Q
def Rk(os:Os)(args:Array Value):laidMetH Tryz.prog J2 ((World.doorLaid Tryz.prog 47 os).forCall (λ_ _=>0) ⟨#[],args,[]⟩).memory:=
 laidMetH_of_parts3 (fuel:=8) (laidMet_of_run' 8 (by kernel_rfl) (by kernel_rfl)) (by kernel_rfl) (by kernel_rfl)
end Go.Ae
namespace Go.Ae
open Go.Proofs
def bT(p:Ab)(k:Int):Ab×Ab:=(⟨p.X/k,p.Y/k⟩,⟨p.X % k,p.Y % k⟩)
def l02Index.fv(a:AB×Int):Bool:=(λs t=>Bq t 0 (s.Tiles.length - 1)) (a.1) (a.2)
def l02Index.row:A7:=vK (b2 (qP 2 AB.d_le) qI) rB (λa=>True) l02Index.fv
def l02Index.q:=AU (R:=l02Index.row) rfl
def l02Index.ok:AA Tryz.prog 178 l02Index.row:=by
 refine vw (tC l00In.ok tN) Tryz.func178 rfl (by kernel_rfl) ?_;intro a z;simp only[Tryz.f178];simp(disch:=omega)only[ZA,simprocAttr,l02Index.fv,l00In.q,l00In.fv];intro h;rw[AG (by omega) (by omega)]
def isTile.fv(a:AB×Int):Bool:=(λs t=>Bq t 0 (s.Tiles.length - 1)) (a.1) (a.2)
def isTile.row:A7:=vK (b2 (qR AB.d_le) qI) rB (λa=>True) isTile.fv
def isTile.q:=AU (R:=isTile.row) rfl
def isTile.ok:AA Tryz.prog 220 isTile.row:=by
 refine vw (tC isIndex.ok tN) Tryz.func220 rfl (by kernel_rfl) ?_;intro a z;simp only[Tryz.f220];simp(disch:=omega)only[ZA,simprocAttr,isTile.fv,isIndex.q,isIndex.fv];intro h;simp only[zX];omega
def opposite_.fv(a:Int):Int:=(λd=>(d+2) % 4) a
def opposite_.row:A7:=vK (b1 qI) rI (λa=>0<=a/\a<=3) opposite_.fv
def opposite_.q:=AU (R:=opposite_.row) rfl
def opposite_.ok:AA Tryz.prog 248 opposite_.row:=by
 refine vw tN Tryz.func248 rfl (by kernel_rfl) ?_;intro a z;simp only[Tryz.f248];simp(disch:=omega)only[ZA,simprocAttr,opposite_.fv];rw[AG (by omega) (by omega)]
 have:(0:Int)<=a+2:=by omega
 rw[dC this]
def l01Dir.fv(a:Int):Bool:=(λd=>Bq d 0 3) a
def l01Dir.row:A7:=vK (b1 qI) rB (λa=>True) l01Dir.fv
def l01Dir.q:=AU (R:=l01Dir.row) rfl
def l01Dir.ok:AA Tryz.prog 209 l01Dir.row:=by
 refine vw (tC l00In.ok tN) Tryz.func209 rfl (by kernel_rfl) ?_;intro a z;simp only[Tryz.f209];simp(disch:=omega)only[ZA,simprocAttr,l01Dir.fv,l00In.q,l00In.fv]
def Opposite_.fv(a:Int):Int:=(λd=>(d+2) % 4) a
def Opposite_.row:A7:=vK (b1 qI) rI (λa=>0<=a/\a<=3) Opposite_.fv
def Opposite_.q:=AU (R:=Opposite_.row) rfl
def Opposite_.ok:AA Tryz.prog 171 Opposite_.row:=by
 refine vw (tC l01Dir.ok tN) Tryz.func171 rfl (by kernel_rfl) ?_;intro a z;simp only[Tryz.f171];simp(disch:=omega)only[ZA,simprocAttr,Opposite_.fv,l01Dir.q,l01Dir.fv];have h:Bq a 0 3=true:=by simp[Bq,z]
 rw[h,Ag (by simp),AG (by omega) (by omega)]
 have:(0:Int)<=a+2:=by omega
 rw[dC this]
def l07Temperature.fv(a:Int):Bool:=(λt=>Bq t 1 16) a
def l07Temperature.row:A7:=vK (b1 qI) rB (λa=>True) l07Temperature.fv
def l07Temperature.q:=AU (R:=l07Temperature.row) rfl
def l07Temperature.ok:AA Tryz.prog 166 l07Temperature.row:=by
 refine vw (tC l00In.ok tN) Tryz.func166 rfl (by kernel_rfl) ?_;intro a z;simp only[Tryz.f166];simp(disch:=omega)only[ZA,simprocAttr,l07Temperature.fv,l00In.q,l00In.fv]
def isTemperature.fv(a:Int):Bool:=(λt=>Bq t 1 16) a
def isTemperature.row:A7:=vK (b1 qI) rB (λa=>True) isTemperature.fv
def isTemperature.q:=AU (R:=isTemperature.row) rfl
def isTemperature.ok:AA Tryz.prog 210 isTemperature.row:=by
 refine vw (tC within_.ok tN) Tryz.func210 rfl (by kernel_rfl) ?_;intro a z;simp only[Tryz.f210];simp(disch:=omega)only[ZA,simprocAttr,isTemperature.fv,within_.q,within_.fv]
def Cu(s:AB):Prop:=s.Glues.length<=140737488355328/\(∀t∈s.Tiles,t.Sides.length=4/\ ∀g∈t.Sides,0<=g/\g<=s.Glues.length)/\ ∀g∈s.Glues,1<=g.Strength/\g.Strength<=4
def JB(s:AB)(z G:Int):Int:=((((s.Tiles[z.toNat]?).map Tile.Sides).getD [])[G.toNat]?).getD 0
def Pu(s:AB)(g:Int):Int:=if 0<g then ((s.Glues[(g - 1).toNat]?).map Ar.Strength).getD 0 else 0
def K3(s:AB)(a z b:Int):Int:=if JB s a z=JB s b ((z+2) % 4) then Pu s (JB s a z) else 0
def Gc(s:AB)(t:Int):Prop:=0<=t/\t<s.Tiles.length
def Rj(d:Int):Prop:=0<=d/\d<=3
def cK{s:AB}{t d:Int}{x:Tile}{g:Int}(G:s.Tiles[t.toNat]? =some x)(z:x.Sides[d.toNat]? =some g):JB s t d=g:=by
 simp[JB,G,z]
def Lm{s:AB}{g:Int}{x:Ar}(h:0<g)(z:s.Glues[(g - 1).toNat]? =some x):Pu s g=x.Strength:=by
 simp only[Pu,Ao h,z];rfl
def Ln{s:AB}{g:Int}(h: ¬0<g):Pu s g=0:=by
 simp[Pu,h]
def oQ{s:AB}(h:Cu s){t:Int}{x:Tile}(z:s.Tiles[t.toNat]? =some x):x.Sides.length=4:=(h.2.1 x (AY z)).1
def Qvv{s:AB}(h:Cu s){t d:Int}{x:Tile}{g:Int}(G:s.Tiles[t.toNat]? =some x)(z:x.Sides[d.toNat]? =some g):0<=g/\g<=s.Glues.length:=(h.2.1 x (AY G)).2 g (AY z)
def l02Strength.fv(a:AB×Int):Int:=(Pu) (a.1) (a.2)
def l02Strength.row:A7:=vK (b2 (qP 2 AB.d_le) qI) rI (λa=>0<=a.2/\a.2<=a.1.Glues.length/\a.1.Glues.length<=140737488355328) l02Strength.fv
def l02Strength.q:=AU (R:=l02Strength.row) rfl
def l02Strength.ok:AA Tryz.prog 172 l02Strength.row:=by
 refine vw tN Tryz.func172 rfl (by kernel_rfl) ?_;intro a z;simp only[Tryz.f172];simp(disch:=omega)only[ZA,simprocAttr,l02Strength.fv];obtain⟨O,Q,Z⟩:=z
 split<;>rename_i h
 .simp[Pu,h]
 .rw[AG (by omega) (by omega)];exact⟨by omega,by omega,λx G=>(Lm (by omega) G).symm⟩
def strength_.fv(a:AB×Int×Int):Int:=(λs t d=>Pu s (JB s t d)) (a.1) (a.2.1) (a.2.2)
def strength_.row:A7:=vK (b3 (qR AB.d_le) qI qI) rI (λa=>Cu a.1/\Gc a.1 a.2.1/\Rj a.2.2) strength_.fv
def strength_.q:=AU (R:=strength_.row) rfl
def strength_.ok:AA Tryz.prog 249 strength_.row:=by
 refine vw tN Tryz.func249 rfl (by kernel_rfl) ?_;intro a z;simp only[Tryz.f249];simp(disch:=omega)only[ZA,simprocAttr,strength_.fv];obtain⟨G,Q,Z⟩:=z;refine⟨Q.1,Q.2,λx O=>⟨Z.1,?_,λg hg=> ?_⟩⟩
 .rw[oQ G O];have:=Z.2;omega
 .have aa:=Qvv G O hg
  have:=G.1
  rw[cK O hg]
  split<;>rename_i h
  .rw[AG (by omega) (by omega)];exact⟨by omega,by omega,λy hy=>(Lm h hy).symm⟩
  .exact (Ln h).symm
def bond_.rc:D->Option (Int):=Dj
def bond_.re:Int->D:=D.int .i64
def bond_.rle: ∀d b,bond_.rc d=some b->Le d (bond_.re b):=Kt
def bond_.fv(a:AB×Int×Int×Int):Int:=(K3) (a.1) (a.2.1) (a.2.2.1) (a.2.2.2)
def bond_.row:A7:=vK (b4 (qR AB.d_le) qI qI qI) (RK.mk bond_.rc bond_.re bond_.rle) (λa=>Cu a.1/\Gc a.1 a.2.1/\Rj a.2.2.1/\Gc a.1 a.2.2.2) bond_.fv
def bond_.q:=AU (R:=bond_.row) rfl
def bond_.ok:AA Tryz.prog 213 bond_.row:=by
 refine vw (tC opposite_.ok (tC strength_.ok tN)) Tryz.func213 rfl (by kernel_rfl) ?_;intro a G;simp only[Tryz.f213];simp(disch:=omega)only[ZA,simprocAttr,bond_.fv,bond_.rc,opposite_.q,opposite_.fv,strength_.q,strength_.fv];obtain⟨O,Q,z,h4⟩:=G;have h5:=z.1;have h6:=z.2;refine⟨Q.1,Q.2,λx hx=>⟨z.1,by rw[oQ O hx];omega,λg hg=>⟨h4.1,h4.2,λy hy=>⟨z,by omega,by rw[oQ O hy];omega,λg' Z=> ?_⟩⟩⟩⟩;simp only[K3,cK hx hg,cK hy Z];split
 .exact⟨⟨O,Q,z⟩,rfl⟩
 .rfl
def l02Bond.fv(a:AB×Int×Int×Int):Int:=(K3) (a.1) (a.2.1) (a.2.2.1) (a.2.2.2)
def l02Bond.row:A7:=vK (b4 (qP 2 AB.d_le) qI qI qI) rI (λa=>Cu a.1/\Gc a.1 a.2.1/\Rj a.2.2.1/\Gc a.1 a.2.2.2) l02Bond.fv
def l02Bond.q:=AU (R:=l02Bond.row) rfl
def l02Bond.ok:AA Tryz.prog 169 l02Bond.row:=by
 refine vw (tC Opposite_.ok (tC l02Strength.ok tN)) Tryz.func169 rfl (by kernel_rfl) ?_;intro a O;simp only[Tryz.f169];simp(disch:=omega)only[ZA,simprocAttr,l02Bond.fv,Opposite_.q,Opposite_.fv,l02Strength.q,l02Strength.fv];obtain⟨z,h2,Q,h4⟩:=O;have h5:=Q.1;have h6:=Q.2;refine⟨h2.1,h2.2,λx hx=>⟨Q.1,by rw[oQ z hx];omega,λg hg=>⟨h4.1,h4.2,λy hy=>⟨Q,by omega,by rw[oQ z hy];omega,λg' Z=> ?_⟩⟩⟩⟩;have G:=Qvv z hx hg
 have:=z.1
 simp only[K3,cK hx hg,cK hy Z]
 split<;>rename_i h
 .first|rw[Ag h]|rfl
 .rw[Ao (F8.1 h)];exact⟨⟨G.1,G.2,z.1⟩,rfl⟩
def BV:Option Ab->List Ak->Bool
 |_,[]=>true
 |q,x::r=>EP x.At && (Bq x.Tile 0 159 && ((match q with|none=>true|some p=>Bf p x.At) && BV (some x.At) r))
def Pp(q:Option Ab)(x:Ak)(r:List Ak):BV q (x::r)=(EP x.At && (Bq x.Tile 0 159 && ((match q with|none=>true|some p=>Bf p x.At) && BV (some x.At) r))):=by cases q<;>rfl
def oP(q:Option Ab):BV q []=true:=by cases q<;>rfl
def Gf(l:List Ak)(k:Nat):Option Ab:=if k=0 then none else (l[k - 1]?).map (·.At)
def Qn2{l:List Ak}{k:Nat}{x:Ak}(z:l[k]? =some x):Gf l (k+1)=some x.At:=by
 simp[Gf,z]
def Eu{A:Type}{l:List A}{k:Nat}{x:A}(z:l[k]? =some x):l.drop k=x::l.drop (k+1):=by
 have G:k<l.length:=(Cd.1 z).1;rw[UP G];rw[Bh G] at z;rw[AE z]
def hasForm_.fv(a:Ah):Bool:=(λa=>BV none a.Tiles && decide (a.Tiles.length<=500)) a
def hasForm_.row:A7:=vK (b1 (qR Ah.d_le)) rB (λa=>True) hasForm_.fv
def hasForm_.q:=AU (R:=hasForm_.row) rfl
def hasForm_.ok:AA Tryz.prog 191 hasForm_.row:=by
 refine vw (tC ValidPoint.ok (tC isIndex.ok (tC impl_LessPoint.ok tN))) Tryz.func191 rfl (by kernel_rfl) ?_;intro a ab;simp only[Tryz.f191];simp(disch:=omega)only[ZA,simprocAttr,hasForm_.fv];intro aa;refine AR.old ⟨{k:Nat//k<=a.Tiles.length/\BV (Gf a.Tiles k) (a.Tiles.drop k)=BV none a.Tiles},λk=>⟨[(8,.im (.int .i64 k.1)),(7,.im (.int .i64 a.Tiles.length)),(6,.im (.sl false 3 (a.Tiles.map Ak.c))),(1,.ptr 0 0),(2,.im (.bool false))],[(0,(true,.cells 39 [.im (.sl false 3 (a.Tiles.map Ak.c))]))],1⟩,λk=>a.Tiles.length - k.1,λk=>⟨by simp[Aj.good,An,Ac,A9,AV.bel,Av],AN _⟩,⟨⟨0,by simp[Gf]⟩,by simp(disch:=omega)only[ZA,simprocAttr,sub]⟩,λk=> ?_⟩;obtain⟨k,ac,G⟩:=k;simp(disch:=omega)only[ZA,simprocAttr,ValidPoint.q,ValidPoint.fv,isIndex.q,isIndex.fv,impl_LessPoint.q,impl_LessPoint.fv,sub,AP];refine⟨λhk=>⟨hk,λx hx=> ?_⟩,λhk=> ?_⟩
 .rw[Eu hx,Pp] at G;have O:(EP x.At && (Bq x.Tile 0 159 && (match Gf a.Tiles k with|none=>true|some p=>Bf p x.At)))=false->false=(BV none a.Tiles && decide (a.Tiles.length<=500)):=by
   intro h;rw[<-G];revert h;cases EP x.At<;>cases Bq x.Tile 0 159<;>cases (match Gf a.Tiles k with|none=>true|some p=>Bf p x.At)<;>simp
  have z:(EP x.At && (Bq x.Tile 0 159 && (match Gf a.Tiles k with|none=>true|some p=>Bf p x.At)))=true->BV (Gf a.Tiles (k+1)) (a.Tiles.drop (k+1))=BV none a.Tiles:=by
   intro h;rw[<-G,Qn2 hx];simp only[AS] at h;simp[h.1,h.2.1,h.2.2]
  refine⟨λQ=>⟨by simp[zX],⟨λZ=>⟨λh3=> ?_,λh3=> ?_⟩,λZ=>O (by simp[Z])⟩⟩,λQ=>O (by simp[Q])⟩
  .rw[AG (x:=(k:Int) - 1) (by omega) (by omega)];refine⟨by omega,by omega,λy hy=> ?_⟩;have hp:Gf a.Tiles k=some y.At:=by
    have e:((k:Int) - 1).toNat=k - 1:=by omega
    rw[e] at hy;simp[Gf,hy,show k≠0 by omega]
   rw[hp] at O z;exact⟨λh4=>O (by simp[h4]),λh4=>F2 hk (by omega) ⟨by omega,z (by simp[Q,Z];simpa using h4)⟩⟩
  .have hp:Gf a.Tiles k=none:=by simp[Gf,show k=0 by omega]
   rw[hp] at z;exact F2 hk (by omega) ⟨by omega,z (by simp[Q,Z])⟩
 .rw[CZ (by omega),oP] at G;simp only[<-G,CP]
  grind
def l03Form.fv(a:Ah):Bool:=(λa=>BV none a.Tiles && decide (a.Tiles.length<=500)) a
def l03Form.row:A7:=vK (b1 (qP 1 Ah.d_le)) rB (λa=>True) l03Form.fv
def l03Form.q:=AU (R:=l03Form.row) rfl
def l03Form.ok:AA Tryz.prog 188 l03Form.row:=by
 refine vw (tC l01Point.ok (tC l00In.ok (tC l_LessPoint.ok tN))) Tryz.func188 rfl (by kernel_rfl) ?_;intro a ab;simp only[Tryz.f188];simp(disch:=omega)only[ZA,simprocAttr,l03Form.fv];intro aa;simp only[AP];refine⟨λh=> ?_,λh=> ?_⟩
 .have: ¬a.Tiles.length<=500:=by omega
  simp[this]
 refine AR.old ⟨{k:Nat//k<=a.Tiles.length/\BV (Gf a.Tiles k) (a.Tiles.drop k)=BV none a.Tiles},λk=>⟨[(3,.im (.int .i64 k.1)),(0,.ptr 0 0),(2,.im (.bool false))],[(0,(false,.view [.sl false 3 (a.Tiles.map Ak.c)]))],1⟩,λk=>a.Tiles.length - k.1,λk=>⟨by simp[Aj.good,An,Ac,A9,AV.bel],AN _⟩,⟨⟨0,by simp[Gf]⟩,by simp(disch:=omega)only[ZA,simprocAttr,sub]⟩,λk=> ?_⟩;obtain⟨k,ac,G⟩:=k;simp(disch:=omega)only[ZA,simprocAttr,l01Point.q,l01Point.fv,l00In.q,l00In.fv,l_LessPoint.q,l_LessPoint.fv,sub,AP];intro _;refine⟨λhk=>⟨hk,λx hx=> ?_⟩,λhk=> ?_⟩
 .rw[Eu hx,Pp] at G;have O:(EP x.At && (Bq x.Tile 0 159 && (match Gf a.Tiles k with|none=>true|some p=>Bf p x.At)))=false->false=(BV none a.Tiles && decide (a.Tiles.length<=500)):=by
   intro h;rw[<-G];revert h;cases EP x.At<;>cases Bq x.Tile 0 159<;>cases (match Gf a.Tiles k with|none=>true|some p=>Bf p x.At)<;>simp
  have z:(EP x.At && (Bq x.Tile 0 159 && (match Gf a.Tiles k with|none=>true|some p=>Bf p x.At)))=true->BV (Gf a.Tiles (k+1)) (a.Tiles.drop (k+1))=BV none a.Tiles:=by
   intro h;rw[<-G,Qn2 hx];simp only[AS] at h;simp[h.1,h.2.1,h.2.2]
  refine⟨λQ=>⟨λZ=>⟨λh3=> ?_,λh3=> ?_⟩,λZ=>O (by simp[Z])⟩,λQ=>O (by simp[Q])⟩
  .rw[AG (x:=(k:Int) - 1) (by omega) (by omega)];refine⟨by omega,by omega,λy hy=> ?_⟩;have hp:Gf a.Tiles k=some y.At:=by
    have e:((k:Int) - 1).toNat=k - 1:=by omega
    rw[e] at hy;simp[Gf,hy,show k≠0 by omega]
   rw[hp] at O z;exact⟨λh4=>O (by simp[h4]),λh4=>F2 hk (by omega) ⟨by omega,z (by simp[Q,Z];simpa using h4)⟩⟩
  .have hp:Gf a.Tiles k=none:=by simp[Gf,show k=0 by omega]
   rw[hp] at z;exact F2 hk (by omega) ⟨by omega,z (by simp[Q,Z])⟩
 .rw[CZ (by omega),oP] at G;simp only[<-G,CP]
  grind
def Bn{A:Type}(p:A->Bool):Nat->List A->Int
 |_,[]=> -1
 |i,x::r=>if p x=true then i else Bn p (i+1) r
def l02Glue.fv(a:AB×ByteArray):Int:=(λs n=>Bn (λg=>decide (g.Name=n)) 0 s.Glues+1) (a.1) (a.2)
def l02Glue.row:A7:=vK (b2 (qP 2 AB.d_le) qT) rI (λa=>True) l02Glue.fv
def l02Glue.q:=AU (R:=l02Glue.row) rfl
def l02Glue.ok:AA Tryz.prog 204 l02Glue.row:=by
 refine vw tN Tryz.func204 rfl (by kernel_rfl) ?_;intro a O;simp only[Tryz.f204];simp(disch:=omega)only[ZA,simprocAttr,l02Glue.fv];refine AR.old ⟨{k:Nat//k<=a.1.Glues.length/\Bn (λg:Ar=>decide (g.Name=a.2)) k (a.1.Glues.drop k)=Bn (λg:Ar=>decide (g.Name=a.2)) 0 a.1.Glues},λk=>⟨[(5,.im (.int .i64 k.1)),(4,.im (.int .i64 0)),(0,.ptr 0 0),(1,.im (.str a.2))],[(0,(false,.view [.sl false 2 (a.1.Glues.map Ar.c),.sl false 2 (a.1.Tiles.map Tile.c)]))],1⟩,λk=>a.1.Glues.length - k.1,λk=>⟨by simp[Aj.good,An,Ac,A9,AV.bel],AN _⟩,⟨⟨0,by simp⟩,by simp(disch:=omega)only[ZA,simprocAttr,sub]⟩,λk=> ?_⟩;obtain⟨k,Q,z⟩:=k;simp(disch:=omega)only[ZA,simprocAttr,sub,AP];intro hn;refine⟨λG=>⟨G,λx Z=> ?_⟩,λG=> ?_⟩
 .rw[Eu Z,Bn] at z;refine⟨λh=> ?_,λh=>F2 G hn ⟨by omega,by rw[<-z,Ag (by simpa using h)]⟩⟩;rw[Ao (by simpa using h)] at z;rw[<-z,AG (by omega) (by omega)]
 .rw[CZ (by omega),Bn] at z;omega
def VA1.fv(a:Ak×AB):Bool:=(λx s=> !Bq x.Tile 0 (s.Tiles.length - 1)) (a.1) (a.2)
def VA1.row:A7:=vK (b2 (qR Ak.d_le) (qP 2 AB.d_le)) rB (λa=>True) VA1.fv
def VA1.q:=AU (R:=VA1.row) rfl
def VA1.ok:AA Tryz.prog 219 VA1.row:=by
 refine vw (tC isTile.ok tN) Tryz.func219 rfl (by kernel_rfl) ?_;intro a z;simp only[Tryz.f219];simp(disch:=omega)only[ZA,simprocAttr,VA1.fv,isTile.q,isTile.fv]
def IdxVA.ar:List PK->Option ((List Ak)×AB)
 |[.val (.sl _ _ O),.val (.fn 219 [] [.ref z])]=>(AO Ak.d O).bind λQ=>(AB.d (z.take 2)).bind λG=>some (Q,G)
 |_=>none
def IdxVA.ae(a:(List Ak)×AB):List PK:=[.val (.sl false 3 (a.1.map Ak.c)),.val (.fn 219 [] [.ref (AB.c a.2)])]
def IdxVA.le: ∀G a,IdxVA.ar G=some a->BA G (IdxVA.ae a):=by
 intro G a h;unfold IdxVA.ar at h;split at h
 .simp only[Eg,AI] at h;obtain⟨Q,h0,O,z,rfl⟩:=h;exact⟨DV (DP Ak.d_le _ _ h0) (by simp only[Bm];rintro r ⟨y,_,rfl⟩;rfl),Qq ⟨Qm (Gb.trans_take (AB.d_le _ _ z)),trivial⟩,trivial⟩
 .cases h
def IdxVA.fv(a:(List Ak)×AB):Int:=(λl s=>Bn (λx=> !Bq x.Tile 0 (s.Tiles.length - 1)) 0 l) (a.1) (a.2)
def IdxVA.row:A7:=CU IdxVA.ar (λa=>True) (λa=>(D.int .i64) (IdxVA.fv a))
def IdxVA.q:=vq IdxVA.row rfl
def IdxVA.ok:AA Tryz.prog 152 IdxVA.row:=by
 refine PS C9 (tC VA1.ok tN) Tryz.func152 rfl (by kernel_rfl) (by kernel_rfl) (ar:=IdxVA.ar) (ae:=IdxVA.ae) IdxVA.le (n:=2) (λ_=>rfl) (by decide) (rc:=(Dj)) (re:=(D.int .i64)) (Kt) (f:=IdxVA.fv) ?_;intro a O;simp only[Tryz.f152];simp(disch:=omega)only[ZA,simprocAttr,IdxVA.ae,IdxVA.fv];intro hn;refine AR.old ⟨{k:Nat//k<=a.1.length/\Bn (λx:Ak=> !Bq x.Tile 0 (a.2.Tiles.length - 1)) k (a.1.drop k)=Bn (λx:Ak=> !Bq x.Tile 0 (a.2.Tiles.length - 1)) 0 a.1},λk=>⟨[(8,.im (.int .i64 k.1)),(7,.im (.int .i64 a.1.length)),(6,.im (.sl false 3 (a.1.map Ak.c))),(4,.im (.int .i64 0)),(0,.im (.sl false 3 (a.1.map Ak.c))),(1,.im (.fn 219 [] [.ref (AB.c a.2)]))],[],0⟩,λk=>a.1.length - k.1,λk=>⟨by simp[Aj.good,An,Ac,A9,AV.bel],AN _⟩,⟨⟨0,by simp⟩,by simp(disch:=omega)only[ZA,simprocAttr,sub]⟩,λk=> ?_⟩;obtain⟨k,Q,z⟩:=k;simp(disch:=omega)only[ZA,simprocAttr,VA1.q,VA1.fv,sub,AP];refine⟨λG=>⟨G,λx Z=> ?_⟩,λG=> ?_⟩
 .rw[Eu Z,Bn] at z;refine⟨λh=> ?_,λh=>F2 G hn ⟨by omega,by rw[<-z,Ag (by simpa using h)]⟩⟩;rw[Ao (by simpa using h)] at z;exact z
 .rw[CZ (by omega),Bn] at z;exact z
def Qyg{A:Type}(p:A->Bool): ∀(l:List A) (i:Nat),(0<=Bn p i l↔l.any p=true)/\ -1<=Bn p i l/\Bn p i l<(i+l.length:Nat)\/(l=[]/\Bn p i l= -1):=by
 intro l;induction l with
 |nil=>intro i;exact .inr ⟨rfl,rfl⟩
 |cons x r ih=>
  intro i;refine .inl ?_;simp only[Bn,List.any_cons,CY]
  split<;>rename_i h
  .simp[h];omega
  .rcases ih (i+1) with ⟨G,z,O⟩|⟨rfl,z⟩
   .simp only[N3] at h;rw[h,iY];exact⟨G,z,by omega⟩
   .simp[z,h];omega
def xM{A:Type}(p:A->Bool)(l:List A):decide (0<=Bn p 0 l)=l.any p:=by
 rw[Q5];rcases Qyg p l 0 with ⟨z,_⟩|⟨rfl,G⟩
 .simpa using z
 .simp[G]
def ContVA.ar:List PK->Option ((List Ak)×AB)
 |[.val (.sl _ _ O),.val (.fn 219 [] [.ref z])]=>(AO Ak.d O).bind λQ=>(AB.d (z.take 2)).bind λG=>some (Q,G)
 |_=>none
def ContVA.ae(a:(List Ak)×AB):List PK:=[.val (.sl false 3 (a.1.map Ak.c)),.val (.fn 219 [] [.ref (AB.c a.2)])]
def ContVA.le: ∀G a,ContVA.ar G=some a->BA G (ContVA.ae a):=by
 intro G a h;unfold ContVA.ar at h;split at h
 .simp only[Eg,AI] at h;obtain⟨Q,h0,O,z,rfl⟩:=h;exact⟨DV (DP Ak.d_le _ _ h0) (by simp only[Bm];rintro r ⟨y,_,rfl⟩;rfl),Qq ⟨Qm (Gb.trans_take (AB.d_le _ _ z)),trivial⟩,trivial⟩
 .cases h
def ContVA.fv(a:(List Ak)×AB):Bool:=(λl s=>l.any (λx=> !Bq x.Tile 0 (s.Tiles.length - 1))) (a.1) (a.2)
def ContVA.row:A7:=CU ContVA.ar (λa=>True) (λa=>(D.bool) (ContVA.fv a))
def ContVA.q:=vq ContVA.row rfl
def ContVA.ok:AA Tryz.prog 192 ContVA.row:=by
 refine PS C9 (tC IdxVA.ok tN) Tryz.func192 rfl (by kernel_rfl) (by kernel_rfl) (ar:=ContVA.ar) (ae:=ContVA.ae) ContVA.le (n:=2) (λ_=>rfl) (by decide) (rc:=(Po)) (re:=(D.bool)) (Y0) (f:=ContVA.fv) ?_;intro a z;simp only[Tryz.f192];simp(disch:=omega)only[ZA,simprocAttr,ContVA.ae,ContVA.fv,IdxVA.q,IdxVA.ar,IdxVA.fv];exact xM _ _
def l03Ok.fv(a:AB×Ah):Bool:=(λs a=>(BV none a.Tiles && decide (a.Tiles.length<=500)) && a.Tiles.all (λx=>Bq x.Tile 0 (s.Tiles.length - 1))) (a.1) (a.2)
def l03Ok.row:A7:=vK (b2 (qP 2 AB.d_le) (qP 1 Ah.d_le)) rB (λa=>True) l03Ok.fv
def l03Ok.q:=AU (R:=l03Ok.row) rfl
def l03Ok.ok:AA Tryz.prog 140 l03Ok.row:=by
 refine vw (tC l03Form.ok (tC l02Index.ok tN)) Tryz.func140 rfl (by kernel_rfl) ?_;intro a Q;simp only[Tryz.f140];simp(disch:=omega)only[ZA,simprocAttr,Ah.d,l03Ok.fv,l03Form.q,l03Form.fv];simp only[AP];refine⟨λh=>by simp[h],λh=> ?_⟩;simp only[HO] at h;refine AR.old ⟨{k:Nat//k<=a.2.Tiles.length/\(a.2.Tiles.drop k).all (λx=>Bq x.Tile 0 (a.1.Tiles.length - 1))=a.2.Tiles.all (λx=>Bq x.Tile 0 (a.1.Tiles.length - 1))},λk=>⟨[(5,.im (.int .i64 k.1)),(4,.im (.bool false)),(0,.ptr 0 0),(1,.ptr 1 0)],[(0,(false,.view (AB.c a.1))),(1,(false,.view (Ah.c a.2)))],2⟩,λk=>a.2.Tiles.length - k.1,λk=>⟨by simp[Aj.good,An,Ac,A9,AV.bel],AN _⟩,⟨⟨0,by simp⟩,by simp(disch:=omega)only[ZA,simprocAttr,sub]⟩,λk=> ?_⟩;obtain⟨k,Z,z⟩:=k;simp(disch:=omega)only[ZA,simprocAttr,l02Index.q,l02Index.fv,sub,AP];intro hn;refine⟨λO=>⟨O,λx hx=> ?_⟩,λO=> ?_⟩
 .rw[Eu hx,Je] at z;refine⟨λG=> ?_,λG=>F2 O hn ⟨by omega,?_⟩⟩
  .rw[G] at z;simp only[Ei] at z;rw[h,<-z];rfl
  .simp only[HO] at G;rw[G,CP] at z;exact z
 .rw[CZ (by omega)] at z;rw[h,<-z];rfl
def VS{a b c:Ab}(z:Bf a b=true)(G:Bf b c=true):Bf a c=true:=by
 simp only[Bf,Hp,AS,Ch] at*;omega
def Wi(a:Ab):Bf a a=false:=by simp[Bf]
def Y7: ∀(l:List Ak) (q:Option Ab),BV q l=true->(∀p,q=some p-> ∀(i:Nat) (x:Ak),l[i]? =some x->Bf p x.At=true)/\
 ∀(i j:Nat) (x y:Ak),i<j->l[i]? =some x->l[j]? =some y->Bf x.At y.At=true
 |[],q,_=>⟨λ_ _ i x h=>by simp at h,λi j x y _ h=>by simp at h⟩
 |z::r,q,h=>by
  rw[Pp] at h;simp only[AS] at h;obtain⟨_,_,Q,h4⟩:=h;obtain⟨Z,i2⟩:=Y7 r (some z.At) h4;refine⟨?_,?_⟩
  .rintro p rfl i x G;cases i with
   |zero=>
    simp only[GL,AI] at G;subst G;exact Q
   |succ i=>
    simp only[Jd] at G;exact VS Q (Z _ rfl i x G)
  .intro i j x y aa G O;cases j with
   |zero=>omega
   |succ j=>
    simp only[Jd] at O;cases i with
    |zero=>
     simp only[GL,AI] at G;subst G;exact Z _ rfl j y O
    |succ i=>
     simp only[Jd] at G;exact i2 i j x y (by omega) G O
def Qtf{A:Type}(p:A->Bool): ∀(l:List A) (o k:Nat) (x:A),l[k]? =some x->p x=true->(∀i y,i<k->l[i]? =some y->p y=false)->Bn p o l=((o+k:Nat):Int)
 |[],o,k,x,h,_,_=>by simp at h
 |z::r,o,k,x,h,hp,hn=>by
  simp only[Bn];cases k with
  |zero=>
   simp only[GL,AI] at h;subst h;rw[Ao hp];rfl
  |succ k=>
   have:=hn 0 z (by omega) (by simp)
   rw[Ag (by simp[this])];rw[Qtf p r (o+1) k x (by simpa using h) hp (λi y O G=>hn (i+1) y (by omega) (by simpa using G))];congr 1;omega
def Qrf{A:Type}(p:A->Bool): ∀(l:List A) (o:Nat),(∀(i:Nat) (y:A),l[i]? =some y->p y=false)->Bn p o l= -1
 |[],o,_=>rfl
 |z::r,o,hn=>by
  simp only[Bn]
  have:=hn 0 z (by simp)
  rw[Ag (by simp[this])];exact Qrf p r (o+1) (λi y G=>hn (i+1) y (by simpa using G))
def l03Index.fv(a:Ah×Ab):Int:=(λa p=>Bn (λx=>decide (x.At=p)) 0 a.Tiles) (a.1) (a.2)
def l03Index.row:A7:=vK (b2 (qP 1 Ah.d_le) (qR Ab.d_le)) rI (λa=>BV none a.1.Tiles=true) l03Index.fv
def l03Index.q:=AU (R:=l03Index.row) rfl
def l03Index.ok:AA Tryz.prog 88 l03Index.row:=by
 refine vw (tC l_LessPoint.ok tN) Tryz.func88 rfl (by kernel_rfl) ?_;intro a ac;simp only[Tryz.f88];simp(disch:=omega)only[ZA,simprocAttr,l03Index.fv];intro hn;refine AR.old ⟨{p:Nat×Nat//p.1<=p.2/\p.2<=a.1.Tiles.length/\(∀i x,i<p.1->a.1.Tiles[i]? =some x->Bf x.At a.2=true)/\(∀i x,p.2<=i->a.1.Tiles[i]? =some x->Bf x.At a.2=false)},λp=>⟨[(5,.im (.int .i64 p.1.1)),(6,.im (.int .i64 p.1.2)),(4,.im (.int .i64 0)),(3,.ptr 1 0),(0,.ptr 0 0)],[(1,(true,.cells 96 [.im (.int .i64 a.2.X),.im (.int .i64 a.2.Y)])),(0,(false,.view [.sl false 3 (a.1.Tiles.map Ak.c)]))],2⟩,λp=>p.1.2 - p.1.1,λp=>⟨by simp[Aj.good,An,Ac,A9,AV.bel,Av],AN _⟩,⟨⟨(0,a.1.Tiles.length),by simp,by simp,by simp,?_⟩,by simp(disch:=omega)only[ZA,simprocAttr,sub]⟩,λp=> ?_⟩
 .intro i x G Q
  have:=(Cd.1 Q).1
  simp only at G;omega
 obtain⟨⟨lo,G⟩,h1,h2,h3,h4⟩:=p;simp only at h1 h2 h3 h4;simp(disch:=omega)only[ZA,simprocAttr,l_LessPoint.q,l_LessPoint.fv,sub,AP];obtain⟨_,O⟩:=Y7 _ _ ac;have ab: ∀(i:Nat) (x:Ak),i<lo->a.1.Tiles[i]? =some x->x.At≠a.2:=by
  intro i x G Q he
  have:=h3 i x G Q
  rw[he,Wi] at this;cases this
 refine⟨λad=> ?_,λad=>⟨λhl=>⟨hl,λx Q=>⟨λhe=> ?_,λhe=> ?_⟩⟩,λhl=> ?_⟩⟩
 .have hm:IntKind.wrap .i64 ((IntKind.wrap .i64 ((lo:Int)+G)).tdiv 2)=(((lo+G)/2:Nat):Int):=by
   rw[AG (x:=(lo:Int)+G) (by omega) (by omega),Zej (by omega),AG (by omega) (by omega)];omega
  rw[hm];refine⟨by omega,by omega,λx Q=>⟨λhb=> ?_,λhb=> ?_⟩⟩
  .rw[Bt] at Q;refine⟨⟨((lo+G)/2+1,G),by simp only;omega,h2,λi y aa z=> ?_,h4⟩,by simp only;omega,?_,rfl⟩
   .simp only at aa;rcases EO i ((lo+G)/2) with h|h
    .exact VS (O i _ y x h z Q) hb
    .have:i=(lo+G)/2:=by omega
     subst this;rw[Q] at z;exact AE z▸hb
   .rw[AG (by omega) (by omega)];simp only;omega
  .rw[Bt] at Q;refine⟨⟨(lo,(lo+G)/2),by simp only;omega,by simp only;omega,h3,λi y aa z=> ?_⟩,by simp only;omega,rfl,rfl⟩;simp only at aa;rcases EO ((lo+G)/2) i with h|h
   .cases hl:Bf y.At a.2 with
    |false=>rfl
    |true=>exact absurd (VS (O _ i x y h Q z) hl) hb
   .have:i=(lo+G)/2:=by omega
    subst this;rw[Q] at z;obtain rfl:=AE z;simpa using hb
 .have af:x.At=a.2:=by
   obtain⟨e1,e2⟩:=he;have e1:x.At.X=a.2.X:=by simpa using e1
   have e2:x.At.Y=a.2.Y:=by simpa using e2
   rw[<-Ab.eta x.At,<-Ab.eta a.2,e1,e2]
  rw[Qtf _ a.1.Tiles 0 lo x Q (by simp[af]) (λi y G z=>by simp[ab i y G z])];simp
 .refine (Qrf _ _ _ ?_).symm;intro i y z;rcases dA i lo with h|h|h
  .simp[ab i y h z]
  .subst h;rw[Q] at z;obtain rfl:=AE z;simp only[KC];intro h9;exact he (by simp[h9])
  .simp only[KC];intro h9;have Z:=O lo i x y h Q z;rw[h9] at Z
   have:=h4 lo x (by omega) Q
   rw[this] at Z;cases Z
 .refine (Qrf _ _ _ ?_).symm;intro i y z
  have:=(Cd.1 z).1
  simp[ab i y (by omega) z]
def Gy(p:Ab)(t:Int):Bool->List Ak->List Ak
 |_,[]=>[]
 |false,x::r=>if Bf p x.At=true then ⟨p,t⟩::x::Gy p t true r else x::Gy p t false r
 |true,x::r=>x::Gy p t true r
def Ij(p:Ab):List Ak->Bool
 |[]=>false
 |x::r=>if Bf p x.At=true then true else Ij p r
def C7(a:Ah)(p:Ab)(t:Int):Ah:=⟨Gy p t false a.Tiles++(if Ij p a.Tiles=true then [] else [⟨p,t⟩])⟩
def qE(p:Ab)(t:Int): ∀(l:List Ak),Gy p t true l=l
 |[]=>rfl
 |x::r=>by simp only[Gy,qE p t r]
def vI(p:Ab)(t:Int)(x:Ak): ∀(l:List Ak),Gy p t false (l++[x])=Gy p t false l++(if Ij p l=true then [x] else if Bf p x.At=true then [⟨p,t⟩,x] else [x])
 |[]=>by simp only[GM,Gy,Ij];split<;>simp[Gy]
 |y::r=>by
  simp only[CX,Gy,Ij];split
  .rw[qE,qE];simp
  .rw[vI p t x r];simp
def uS(p:Ab)(x:Ak): ∀(l:List Ak),Ij p (l++[x])=(Ij p l||Bf p x.At)
 |[]=>by simp only[GM,Ij];split<;>simp_all
 |y::r=>by
  simp only[CX,Ij];split
  .simp
  .exact uS p x r
def Qua(p:Ab)(t:Int): ∀(l:List Ak),(Gy p t false l).length<=l.length+1
 |[]=>by simp[Gy]
 |y::r=>by
  simp only[Gy];split
  .rw[qE];simp
  .have:=Qua p t r
   simp;omega
def l03Put.fv(a:Ah×Ab×Int):Ah:=(C7) (a.1) (a.2.1) (a.2.2)
def l03Put.row:A7:=vK (b3 (qP 1 Ah.d_le) (qR Ab.d_le) qI) (rA Ah.d_le) (λa=>a.1.Tiles.length<=1000000) l03Put.fv
def l03Put.q:=AU (R:=l03Put.row) rfl
def l03Put.ok:AA Tryz.prog 73 l03Put.row:=by
 refine vw (tC l_LessPoint.ok tN) Tryz.func73 rfl (by kernel_rfl) ?_;intro a ab;simp only[Tryz.f73];simp(disch:=omega)only[ZA,simprocAttr,l03Put.fv];refine AR.ren ⟨{k:Nat//k<=a.1.Tiles.length},λk=>⟨[(9,.im (.int .i64 k.1)),(8,.im (.bool (Ij a.2.1 (a.1.Tiles.take k.1)))),(7,.ptr 3 0),(6,.ptr 2 0),(4,.ptr 1 0),(0,.ptr 0 0),(2,.im (.int .i64 a.2.2))],[(3,(true,.cells 39 [.own 4])),(4,(true,.arr 137 3 ((Gy a.2.1 a.2.2 false (a.1.Tiles.take k.1)).map Ak.c))),(2,(true,.cells 39 [.im (.sl true 0 [])])),(1,(true,.cells 96 [.im (.int .i64 a.2.1.X),.im (.int .i64 a.2.1.Y)])),(0,(false,.view [.sl false 3 (a.1.Tiles.map Ak.c)]))],5⟩,λk=>a.1.Tiles.length - k.1,λk=>⟨by simp[Aj.good,An,Ac,A9,AV.bel,Av],by simp⟩,⟨⟨0,by simp⟩,[(4,none)],?_⟩,λk=> ?_⟩
 .simp only[A8];simp(disch:=omega)only[ZA,simprocAttr,Bz,cW,Gy,Ij]
  try simp
 obtain⟨k,ac⟩:=k;simp(disch:=omega)only[ZA,simprocAttr,Ah.d,l_LessPoint.q,l_LessPoint.fv,AP];intro _;have Z:=Qua a.2.1 a.2.2 (a.1.Tiles.take k);have aa:(a.1.Tiles.take k).length<=k:=by simp;omega
 refine⟨λQ=>⟨λhd=>⟨Q,λx O=>⟨λG=> ?_,λG=> ?_⟩⟩,λhd=> ?_⟩,λQ=> ?_⟩
 .have z:a.1.Tiles.take (k+1)=a.1.Tiles.take k++[x]:=by rw[GO,O];rfl
  refine⟨by simp[BL,BC,D.one],by omega,Q,λy hy=>⟨by simp[BL,BC,D.one],by simp;omega,⟨⟨k+1,by omega⟩,[(4,some 8)],by simp only;omega,?_⟩⟩⟩;rw[O] at hy;obtain rfl:=AE hy;simp only[A8];simp(disch:=omega)only[ZA,simprocAttr];refine⟨by simp,⟨?_,?_⟩,?_⟩
  .rw[AG (by omega) (by omega)];omega
  .rw[z,uS,hd,G];rfl
  .rw[z,vI,hd,G];simp[Ak.c]
 .have z:a.1.Tiles.take (k+1)=a.1.Tiles.take k++[x]:=by rw[GO,O];rfl
  refine⟨Q,λy hy=>⟨by simp[BL,BC,D.one],by omega,⟨⟨k+1,by omega⟩,[(4,some 6)],by simp only;omega,?_⟩⟩⟩;rw[O] at hy;obtain rfl:=AE hy;simp only[N3] at G;simp only[A8];simp(disch:=omega)only[ZA,simprocAttr];refine⟨by simp,⟨?_,?_⟩,?_⟩
  .rw[AG (by omega) (by omega)];omega
  .rw[z,uS,hd,G];rfl
  .rw[z,vI,hd,G];simp[Ak.c]
 .simp only[HO] at hd;refine⟨Q,λx O=>⟨by simp[BL,BC,D.one],by omega,⟨⟨k+1,by omega⟩,[(4,some 6)],by simp only;omega,?_⟩⟩⟩;have z:a.1.Tiles.take (k+1)=a.1.Tiles.take k++[x]:=by rw[GO,O];rfl
  simp only[A8];simp(disch:=omega)only[ZA,simprocAttr];refine⟨by simp,⟨?_,?_⟩,?_⟩
  .rw[AG (by omega) (by omega)];omega
  .rw[z,uS,hd];rfl
  .rw[z,vI,hd];simp[Ak.c]
 .rw[DB (by omega)] at Z aa⊢;refine⟨λhd=>⟨by simp[BL,BC,D.one],by omega,?_⟩,λhd=> ?_⟩
  .have e:List.map Ak.c (Gy a.2.1 a.2.2 false a.1.Tiles)++[[D.int .i64 a.2.1.X,D.int .i64 a.2.1.Y,D.int .i64 a.2.2]]=List.map Ak.c (Gy a.2.1 a.2.2 false a.1.Tiles++[⟨a.2.1,a.2.2⟩]):=by simp[Ak.c]
   rw[e,Ak.d_R];simp[C7,hd]
  .simp only[HO] at hd;simp[C7,hd]
def Bu(a:Ah)(p:Ab):Int:=((a.Tiles.find? (λx=>decide (x.At=p))).map Ak.Tile).getD (-1)
def Px{A:Type}(p:A->Bool): ∀(l:List A) (o:Nat),(l.find? p=none/\Bn p o l= -1)\/ ∃(i:Nat) (x:A),l.find? p=some x/\Bn p o l=((o+i:Nat):Int)/\l[i]? =some x
 |[],o=> .inl ⟨rfl,rfl⟩
 |z::r,o=>by
  simp only[Bn,zB];cases h:p z
  .rcases Px p r (o+1) with ⟨G,O⟩|⟨i,x,G,O,Q⟩
   .exact .inl ⟨by simpa using G,by simpa using O⟩
   .exact .inr ⟨i+1,x,by simpa using G,by simp[O];omega,by simpa using Q⟩
  .exact .inr ⟨0,z,rfl,by simp,by simp⟩
def l03At.fv(a:Ah×Ab):Int:=(Bu) (a.1) (a.2)
def l03At.row:A7:=vK (b2 (qP 1 Ah.d_le) (qR Ab.d_le)) rI (λa=>BV none a.1.Tiles=true) l03At.fv
def l03At.q:=AU (R:=l03At.row) rfl
def l03At.ok:AA Tryz.prog 141 l03At.row:=by
 refine vw (tC l03Index.ok tN) Tryz.func141 rfl (by kernel_rfl) ?_;intro a z;simp only[Tryz.f141];simp(disch:=omega)only[ZA,simprocAttr,Ah.d,l03At.fv,l03Index.q,l03Index.fv];refine⟨z,?_⟩;rcases Px (λx=>decide (x.At=a.2)) a.1.Tiles 0 with ⟨G,O⟩|⟨i,x,G,O,Q⟩
 .rw[O,Ao (by omega)];simp[Bu,G]
 .have hi:=(Cd.1 Q).1;rw[O,Ag (by omega)];refine⟨by omega,by omega,λy Z=> ?_⟩
  have:((0+i:Nat):Int).toNat=i:=by omega
  rw[this,Q] at Z;obtain rfl:=AE Z;simp[Bu,G]
def l02Tile.fv(a:AB×ByteArray):Int:=(λs n=>Bn (λg=>decide (g.Name=n)) 0 s.Tiles) (a.1) (a.2)
def l02Tile.row:A7:=vK (b2 (qP 2 AB.d_le) qT) rI (λa=>True) l02Tile.fv
def l02Tile.q:=AU (R:=l02Tile.row) rfl
def l02Tile.ok:AA Tryz.prog 205 l02Tile.row:=by
 refine vw tN Tryz.func205 rfl (by kernel_rfl) ?_;intro a O;simp only[Tryz.f205];simp(disch:=omega)only[ZA,simprocAttr,l02Tile.fv];refine AR.old ⟨{k:Nat//k<=a.1.Tiles.length/\Bn (λg:Tile=>decide (g.Name=a.2)) k (a.1.Tiles.drop k)=Bn (λg:Tile=>decide (g.Name=a.2)) 0 a.1.Tiles},λk=>⟨[(5,.im (.int .i64 k.1)),(4,.im (.int .i64 0)),(0,.ptr 0 0),(1,.im (.str a.2))],[(0,(false,.view (AB.c a.1)))],1⟩,λk=>a.1.Tiles.length - k.1,λk=>⟨by simp[Aj.good,An,Ac,A9,AV.bel],AN _⟩,⟨⟨0,by simp⟩,by simp(disch:=omega)only[ZA,simprocAttr,sub]⟩,λk=> ?_⟩;obtain⟨k,Q,z⟩:=k;simp(disch:=omega)only[ZA,simprocAttr,sub,AP];intro hn;refine⟨λG=>⟨G,λx Z=> ?_⟩,λG=> ?_⟩
 .rw[Eu Z,Bn] at z;refine⟨λh=> ?_,λh=>F2 G hn ⟨by omega,by rw[<-z,Ag (by simpa using h)]⟩⟩;rw[Ao (by simpa using h)] at z;exact z
 .rw[CZ (by omega),Bn] at z;omega
def Hr(a:Ah)(o:AJ):Ah×Int:=if 500<=a.Tiles.length then (⟨[]⟩,4) else (C7 a o.At o.Tile,0)
def l08Attach.fv(a:Ah×AJ):Ah×Int:=(Hr) (a.1) (a.2)
def l08Attach.row:A7:=vK (b2 (qP 1 Ah.d_le) (qR AJ.d_le)) (r2 (rA Ah.d_le) rI) (λa=>True) l08Attach.fv
def l08Attach.q:=AU (R:=l08Attach.row) rfl
def l08Attach.ok:AA Tryz.prog 94 l08Attach.row:=by
 refine vw (tC l03Put.ok tN) Tryz.func94 rfl (by kernel_rfl) ?_;intro a z;simp only[Tryz.f94];simp(disch:=omega)only[ZA,simprocAttr,Ah.d,l08Attach.fv,l03Put.q,l03Put.fv];intro _;simp only[AP];refine⟨λh=> ?_,λh=>⟨by omega,?_⟩⟩
 .simp only[Hr];rw[Ao (by omega)]
 .simp only[Hr];rw[Ag (by omega)]
def uD(s:AB)(a:Ah)(p:Ab)(t:Int)(d:Int):Int:=if 0<=Bu a (Co p d) then K3 s t d (Bu a (Co p d)) else 0
def KM(s:AB)(a:Ah)(p:Ab)(t:Int):Nat->Int
 |0=>0
 |k+1=>KM s a p t k+uD s a p t k
def Hm(s:AB)(a:Ah):Prop:=BV none a.Tiles=true/\ ∀x∈a.Tiles,Gc s x.Tile
def QD{s:AB}{a:Ah}(h:Hm s a)(p:Ab)(h0:0<=Bu a p):Gc s (Bu a p):=by
 simp only[Bu] at h0⊢;cases hf:a.Tiles.find? (λx=>decide (x.At=p)) with
 |none=>rw[hf] at h0;simp at h0
 |some x=>exact h.2 x (rJ hf)
def Qp1{s:AB}(h:Cu s)(g:Int):0<=Pu s g/\Pu s g<=4:=by
 simp only[Pu];split
 .cases hx:s.Glues[(g - 1).toNat]? with
  |none=>simp
  |some x=>have:=h.2.2 x (AY hx);simp;omega
 .omega
def oW{p:Ab}(h:EP p=true):HB p:=by
 simp only[EP,Bq,AS,Ch] at h;simp only[HB];omega
def uV: ∀(l:List Ak) (q:Option Ab),BV q l=true-> ∀x∈l,EP x.At=true/\Bq x.Tile 0 159=true
 |[],_,_,x,G=>by cases G
 |z::r,q,h,x,G=>by
  rw[Pp] at h;simp only[AS] at h;rcases Bi.1 G with rfl|G
  .exact⟨h.1,h.2.1⟩
  .exact uV r _ h.2.2.2 x G
def GB(a:Ah)(i d:Int):Int:=Bn (λx=>decide (x.At=Co ((a.Tiles[i.toNat]?.map Ak.At).getD ⟨0,0⟩) d)) 0 a.Tiles
def l06Neighbor.fv(a:Ah×Int×Int):Int:=(GB) (a.1) (a.2.1) (a.2.2)
def l06Neighbor.row:A7:=vK (b3 (qP 1 Ah.d_le) qI qI) rI (λa=>BV none a.1.Tiles=true/\0<=a.2.1/\a.2.1<a.1.Tiles.length/\0<=a.2.2/\a.2.2<=3) l06Neighbor.fv
def l06Neighbor.q:=AU (R:=l06Neighbor.row) rfl
def l06Neighbor.ok:AA Tryz.prog 241 l06Neighbor.row:=by
 refine vw (tC l01Step.ok (tC l03Index.ok tN)) Tryz.func241 rfl (by kernel_rfl) ?_;intro a z;simp only[Tryz.f241];simp(disch:=omega)only[ZA,simprocAttr,Ah.d,l06Neighbor.fv,l01Step.q,l01Step.fv,l03Index.q,l03Index.fv];obtain⟨G,Q,Z,h4,h5⟩:=z;refine⟨Q,Z,λx O=>⟨⟨oW (uV _ _ G x (AY O)).1,h4,h5⟩,G,?_⟩⟩;simp only[GB];rw[O];rfl
def Kv(s:AB):Nat->List Ar->Bool
 |_,[]=>true
 |i,g::r=>(Ik g.Name && (Bq g.Strength 1 4 && decide (Bn (λx=>decide (x.Name=g.Name)) 0 s.Glues=i))) && Kv s (i+1) r
def IU(s:AB):Nat->List Tile->Bool
 |_,[]=>true
 |i,x::r=>(Ik x.Name && (decide (x.Sides.length=4) && (decide (Bn (λy=>decide (y.Name=x.Name)) 0 s.Tiles=i) && x.Sides.all (λg=>Bq g 0 s.Glues.length)))) && IU s (i+1) r
def Fe(s:AB):Bool:=(decide (s.Glues.length<=200) && Bq s.Tiles.length 1 160) && (Kv s 0 s.Glues && IU s 0 s.Tiles)
def l03Within.fv(a:Ah×Ah):Bool:=(λa b=>a.Tiles.all (λx=>decide (Bu b x.At=x.Tile))) (a.1) (a.2)
def l03Within.row:A7:=vK (b2 (qP 1 Ah.d_le) (qP 1 Ah.d_le)) rB (λa=>BV none a.2.Tiles=true) l03Within.fv
def l03Within.q:=AU (R:=l03Within.row) rfl
def l03Within.ok:AA Tryz.prog 87 l03Within.row:=by
 refine vw (tC l03At.ok tN) Tryz.func87 rfl (by kernel_rfl) ?_;intro a G;simp only[Tryz.f87];simp(disch:=omega)only[ZA,simprocAttr,l03Within.fv];refine AR.old ⟨{k:Nat//k<=a.1.Tiles.length/\(a.1.Tiles.drop k).all (λx=>decide (Bu a.2 x.At=x.Tile))=a.1.Tiles.all (λx=>decide (Bu a.2 x.At=x.Tile))},λk=>⟨[(5,.im (.int .i64 k.1)),(4,.im (.bool false)),(0,.ptr 0 0),(1,.ptr 1 0)],[(0,(false,.view (Ah.c a.1))),(1,(false,.view (Ah.c a.2)))],2⟩,λk=>a.1.Tiles.length - k.1,λk=>⟨by simp[Aj.good,An,Ac,A9,AV.bel],AN _⟩,⟨⟨0,by simp⟩,by simp(disch:=omega)only[ZA,simprocAttr,sub]⟩,λk=> ?_⟩;obtain⟨k,aa,z⟩:=k;simp(disch:=omega)only[ZA,simprocAttr,Ah.d,l03At.q,l03At.fv,sub,AP];intro hn;refine⟨λO=>⟨O,λx Z=>⟨G,O,λy hy=> ?_⟩⟩,λO=> ?_⟩
 .rw[Z] at hy;obtain rfl:=AE hy;rw[Eu Z,Je] at z;refine⟨λQ=> ?_,λQ=>F2 O hn ⟨by omega,?_⟩⟩
  .rw[<-z];simp[Q]
  .rw[<-z];simp[F8.1 Q]
 .rw[CZ (by omega)] at z;exact z
def l02Ok.fv(a:AB):Bool:=(Fe) a
def l02Ok.row:A7:=vK (b1 (qP 2 AB.d_le)) rB (λa=>True) l02Ok.fv
def l02Ok.q:=AU (R:=l02Ok.row) rfl
def l02Ok.ok:AA Tryz.prog 165 l02Ok.row:=by
 refine vw (tC spec_IsName.ok (tC l00In.ok (tC l02Glue.ok (tC l02Tile.ok tN)))) Tryz.func165 rfl (by kernel_rfl) ?_;intro a ac;simp only[Tryz.f165];simp(disch:=omega)only[ZA,simprocAttr,l02Ok.fv];intro hg;simp only[AP];refine⟨λc1 ht=>⟨λc2 _=>⟨λc3=> ?_,λc3=> ?_⟩,λc2=> ?_⟩,λc1=> ?_⟩
 .have: ¬(a.Tiles.length:Int)<=160:=by omega
  simp[Fe,Bq,this]
 .have c0:Fe a=(Kv a 0 a.Glues && IU a 0 a.Tiles):=by
   have e1:a.Glues.length<=200:=by omega
   have e2:(1:Int)<=a.Tiles.length:=by omega
   have e3:(a.Tiles.length:Int)<=160:=by omega
   simp[Fe,Bq,e1,e2,e3]
  refine AR.old ⟨{k:Nat//k<=a.Glues.length/\Kv a k (a.Glues.drop k)=Kv a 0 a.Glues},λk=>⟨[(3,.im (.int .i64 k.1)),(2,.im (.bool false)),(0,.ptr 0 0)],[(0,(false,.view (AB.c a)))],1⟩,λk=>a.Glues.length - k.1,λk=>⟨by simp[Aj.good,An,Ac,A9,AV.bel],AN _⟩,⟨⟨0,by simp⟩,by simp(disch:=omega)only[ZA,simprocAttr,sub]⟩,λk=> ?_⟩;obtain⟨k,ab,z⟩:=k;simp(disch:=omega)only[ZA,simprocAttr,spec_IsName.q,spec_IsName.fv,l00In.q,l00In.fv,l02Glue.q,l02Glue.fv,sub,AP];intro _;refine⟨λhk=>⟨hk,λx hx=> ?_⟩,λhk=> ?_⟩
  .rw[Eu hx,Kv] at z;have G:(Ik x.Name && (Bq x.Strength 1 4 && decide (Bn (λg:Ar=>decide (g.Name=x.Name)) 0 a.Glues=k)))=false->false=Fe a:=by
    intro h;rw[h,Ei] at z;rw[c0,<-z];rfl
   refine⟨λZ=>⟨λh2=>⟨λQ=> ?_,λQ=>F2 hk hg ⟨by omega,?_⟩⟩,λh2=>G (by simp[h2])⟩,λZ=>G (by simp[Z])⟩
   .rw[AG (by omega) (by omega)] at Q;exact G (by simp;intro _ _;omega)
   .rw[F8,AG (by omega) (by omega)] at Q;have h4:Bn (λg:Ar=>decide (g.Name=x.Name)) 0 a.Glues=k:=by omega
    rw[Z,h2,h4] at z;simpa using z
  .rw[CZ (by omega),Kv] at z;have c9:Fe a=IU a 0 a.Tiles:=by rw[c0,<-z,CP]
   refine AR.old ⟨{k:Nat//k<=a.Tiles.length/\IU a k (a.Tiles.drop k)=IU a 0 a.Tiles},λk=>⟨[(5,.im (.int .i64 k.1)),(2,.im (.bool false)),(0,.ptr 0 0)],[(0,(false,.view (AB.c a)))],1⟩,λk=>a.Tiles.length - k.1,λk=>⟨by simp[Aj.good,An,Ac,A9,AV.bel],AN _⟩,⟨⟨0,by simp⟩,by simp(disch:=omega)only[ZA,simprocAttr,sub]⟩,λk=> ?_⟩;obtain⟨k,ab,z⟩:=k;simp(disch:=omega)only[ZA,simprocAttr,spec_IsName.q,spec_IsName.fv,l02Tile.q,l02Tile.fv,AP];intro _;refine⟨λhk=>⟨hk,λx hx=> ?_⟩,λhk=> ?_⟩
   .rw[Eu hx,IU] at z;have G:(Ik x.Name && (decide (x.Sides.length=4) && (decide (Bn (λy:Tile=>decide (y.Name=x.Name)) 0 a.Tiles=k) && x.Sides.all (λg=>Bq g 0 a.Glues.length))))=false->false=Fe a:=by
     intro h;rw[h,Ei] at z;rw[c9,<-z]
    refine⟨λZ hs=>⟨λh2=>⟨λQ=>G (by simp[Q]),λQ=> ?_⟩,λh2=>G (by simp;intro _ h9;omega)⟩,λZ=>G (by simp[Z])⟩;rw[F8] at Q;have aa:x.Sides.length=4:=by omega
    refine AR.old ⟨{j:Nat//j<=4/\(x.Sides.drop j).all (λg=>Bq g 0 a.Glues.length)=x.Sides.all (λg=>Bq g 0 a.Glues.length)},λj=>⟨[(7,.im (.int .i64 j.1)),(5,.im (.int .i64 k)),(6,.ptr 1 0),(2,.im (.bool false)),(0,.ptr 0 0)],[(1,(true,.cells 206 ((Tile.c x).map .im))),(0,(false,.view (AB.c a)))],2⟩,λj=>4 - j.1,λj=>⟨by simp[Aj.good,An,Ac,A9,AV.bel,Av,Tile.c],by simp⟩,⟨⟨0,by simp⟩,by simp(disch:=omega)only[ZA,simprocAttr,sub]⟩,λj=> ?_⟩;obtain⟨j,ad,O⟩:=j;simp(disch:=omega)only[ZA,simprocAttr,l00In.q,l00In.fv,sub,AP];refine⟨λhj=>⟨by omega,λy hy=> ?_⟩,λhj=>F2 hk ht ⟨by omega,?_⟩⟩
    .rw[Eu hy,Je] at O;refine⟨λh=>G ?_,λh=>⟨⟨j+1,by omega,?_⟩,by simp only;omega,?_⟩⟩
     .rw[h,Ei] at O;rw[<-O];simp
     .rw[HO] at h;rw[h,CP] at O;exact O
     .rw[AG (by omega) (by omega)];simp only;omega
    .rw[CZ (by omega)] at O;rw[<-z,<-O,Z,aa,Q];simp
   .rw[CZ (by omega),IU] at z;rw[c9,<-z]
 .have: ¬(1:Int)<=a.Tiles.length:=by omega
  simp[Fe,Bq,this]
 .have: ¬a.Glues.length<=200:=by omega
  simp[Fe,this]
def VS1.fv(a:Int×AB):Bool:=(λg s=> !Bq g 0 s.Glues.length) (a.1) (a.2)
def VS1.row:A7:=vK (b2 qI (qP 2 AB.d_le)) rB (λa=>True) VS1.fv
def VS1.q:=AU (R:=VS1.row) rfl
def VS1.ok:AA Tryz.prog 254 VS1.row:=by
 refine vw (tC within_.ok tN) Tryz.func254 rfl (by kernel_rfl) ?_;intro a z;simp only[Tryz.f254];simp(disch:=omega)only[ZA,simprocAttr,VS1.fv,within_.q,within_.fv];intro _;trivial
def IdxVS.ar:List PK->Option ((List Int)×AB)
 |[.val (.sl _ _ O),.val (.fn 254 [] [.ref z])]=>(AO Ck O).bind λQ=>(AB.d (z.take 2)).bind λG=>some (Q,G)
 |_=>none
def IdxVS.ae(a:(List Int)×AB):List PK:=[.val (.sl false 1 (a.1.map Al)),.val (.fn 254 [] [.ref (AB.c a.2)])]
def IdxVS.le: ∀G a,IdxVS.ar G=some a->BA G (IdxVS.ae a):=by
 intro G a h;unfold IdxVS.ar at h;split at h
 .simp only[Eg,AI] at h;obtain⟨Q,h0,O,z,rfl⟩:=h;exact⟨DV (DP DU _ _ h0) (by simp only[Bm];rintro r ⟨y,_,rfl⟩;rfl),Qq ⟨Qm (Gb.trans_take (AB.d_le _ _ z)),trivial⟩,trivial⟩
 .cases h
def IdxVS.fv(a:(List Int)×AB):Int:=(λl s=>Bn (λg=> !Bq g 0 s.Glues.length) 0 l) (a.1) (a.2)
def IdxVS.row:A7:=CU IdxVS.ar (λa=>True) (λa=>(D.int .i64) (IdxVS.fv a))
def IdxVS.q:=vq IdxVS.row rfl
def IdxVS.ok:AA Tryz.prog 150 IdxVS.row:=by
 refine PS C9 (tC VS1.ok tN) Tryz.func150 rfl (by kernel_rfl) (by kernel_rfl) (ar:=IdxVS.ar) (ae:=IdxVS.ae) IdxVS.le (n:=2) (λ_=>rfl) (by decide) (rc:=(Dj)) (re:=(D.int .i64)) (Kt) (f:=IdxVS.fv) ?_;intro a O;simp only[Tryz.f150];simp(disch:=omega)only[ZA,simprocAttr,IdxVS.ae,IdxVS.fv];intro hn;refine AR.old ⟨{k:Nat//k<=a.1.length/\Bn (λg:Int=> !Bq g 0 a.2.Glues.length) k (a.1.drop k)=Bn (λg:Int=> !Bq g 0 a.2.Glues.length) 0 a.1},λk=>⟨[(8,.im (.int .i64 k.1)),(7,.im (.int .i64 a.1.length)),(6,.im (.sl false 1 (a.1.map Al))),(4,.im (.int .i64 0)),(0,.im (.sl false 1 (a.1.map Al))),(1,.im (.fn 254 [] [.ref (AB.c a.2)]))],[],0⟩,λk=>a.1.length - k.1,λk=>⟨by simp[Aj.good,An,Ac,A9,AV.bel],AN _⟩,⟨⟨0,by simp⟩,by simp(disch:=omega)only[ZA,simprocAttr,sub]⟩,λk=> ?_⟩;obtain⟨k,Q,z⟩:=k;simp(disch:=omega)only[ZA,simprocAttr,VS1.q,VS1.fv,sub,AP];refine⟨λG=>⟨G,λx Z=> ?_⟩,λG=> ?_⟩
 .rw[Eu Z,Bn] at z;refine⟨λh=> ?_,λh=>F2 G hn ⟨by omega,by rw[<-z,Ag (by simpa using h)]⟩⟩;rw[Ao (by simpa using h)] at z;exact z
 .rw[CZ (by omega),Bn] at z;exact z
def ContVS.ar:List PK->Option ((List Int)×AB)
 |[.val (.sl _ _ O),.val (.fn 254 [] [.ref z])]=>(AO Ck O).bind λQ=>(AB.d (z.take 2)).bind λG=>some (Q,G)
 |_=>none
def ContVS.ae(a:(List Int)×AB):List PK:=[.val (.sl false 1 (a.1.map Al)),.val (.fn 254 [] [.ref (AB.c a.2)])]
def ContVS.le: ∀G a,ContVS.ar G=some a->BA G (ContVS.ae a):=by
 intro G a h;unfold ContVS.ar at h;split at h
 .simp only[Eg,AI] at h;obtain⟨Q,h0,O,z,rfl⟩:=h;exact⟨DV (DP DU _ _ h0) (by simp only[Bm];rintro r ⟨y,_,rfl⟩;rfl),Qq ⟨Qm (Gb.trans_take (AB.d_le _ _ z)),trivial⟩,trivial⟩
 .cases h
def ContVS.fv(a:(List Int)×AB):Bool:=(λl s=>l.any (λg=> !Bq g 0 s.Glues.length)) (a.1) (a.2)
def ContVS.row:A7:=CU ContVS.ar (λa=>True) (λa=>(D.bool) (ContVS.fv a))
def ContVS.q:=vq ContVS.row rfl
def ContVS.ok:AA Tryz.prog 100 ContVS.row:=by
 refine PS C9 (tC IdxVS.ok tN) Tryz.func100 rfl (by kernel_rfl) (by kernel_rfl) (ar:=ContVS.ar) (ae:=ContVS.ae) ContVS.le (n:=2) (λ_=>rfl) (by decide) (rc:=(Po)) (re:=(D.bool)) (Y0) (f:=ContVS.fv) ?_;intro a z;simp only[Tryz.f100];simp(disch:=omega)only[ZA,simprocAttr,ContVS.ae,ContVS.fv,IdxVS.q,IdxVS.ar,IdxVS.fv];exact xM _ _
def Np(z:List ByteArray):List (D×D):=z.map λn=>(.str n,.bool true)
def sF(n m:ByteArray):(n==m)=decide (n=m):=by
 rw[Qpj]
def LF(n:ByteArray): ∀(z:List ByteArray),(n∈z->lk (Np z) (.str n)=some (.bool true))/\(n∉z->lk (Np z) (.str n)=none)
 |[]=>⟨λh=>by simp at h,λ_=>rfl⟩
 |m::r=>by
  obtain⟨G,O⟩:=LF n r;simp only[Np] at G O;simp only[Np,Bd,lk,D.beq,Bi,sF];by_cases h:n=m
  .simp[h]
  .simp only[h,yZ,B8,false_or];exact⟨G,O⟩
def Qum(n:ByteArray)(G:List ByteArray)(Ks:D->Prop)(Kn:Prop):FD (Np G) (.str n) Ks Kn=((n∈G->Ks (.bool true))/\(n∉G->Kn)):=by
 obtain⟨Z,i2⟩:=LF n G;apply propext;unfold FD;constructor
 .rintro⟨O,Q⟩;exact⟨λh=>O _ (Z h),λh=>Q (i2 h)⟩
 .rintro⟨O,Q⟩;by_cases h:n∈G
  .refine⟨λv z=> ?_,λz=> ?_⟩
   .rw[Z h] at z;exact AE z▸O h
   .rw[Z h] at z;cases z
  .refine⟨λv z=> ?_,λ_=>Q h⟩;rw[i2 h] at z;cases z
def Qru(n:ByteArray): ∀(z:List ByteArray),n∉z->FY (Np z) (.str n) (.bool true)=Np (z++[n])
 |[],_=>rfl
 |m::r,h=>by
  simp only[Bi,Zl] at h
  have:=Qru n r h.2
  simp only[Np] at this;simp only[Np,Bd,FY,D.beq,sF,h.1,yZ,B8,CX,this]
def kC{A:Type}(f:A->ByteArray)(l:List A)(k:Nat)(x:A)(hx:l[k]? =some x):Bn (λy=>decide (f y=f x)) 0 l=(k:Int)↔f x∉(l.take k).map f:=by
 constructor
 .intro h hm;obtain⟨y,hy,O⟩:=Bm.1 hm;obtain⟨i,Q,aa⟩:=Wz.1 hy;have ab:i<k:=by simp at Q;omega
  have Z:l[i]? =some y:=by
   rw[<-aa,List.getElem_take];exact Bh _
  have G: ∀(l:List A) (o i:Nat) (y:A),l[i]? =some y->(decide (f y=f x))=true->Bn (λy=>decide (f y=f x)) o l<=((o+i:Nat):Int):=by
   intro l;induction l with
   |nil=>intro o i y h;simp at h
   |cons z r ih=>
    intro o i y h hp;simp only[Bn];split
    .omega
    .rename_i hz;cases i with
     |zero=>
      simp only[GL,AI] at h;subst h;exact absurd hp hz
     |succ i=>
      have:=ih (o+1) i y (by simpa using h) hp
      omega
  have:=G l 0 i y Z (by simpa using O)
  omega
 .intro h;rw[Qtf _ l 0 k x hx (by simp) ?_]
  .simp
  .intro i y Q hy;simp only[KC];intro O;apply h;rw[<-O];refine Bm.2 ⟨y,?_,rfl⟩;exact AY (i:=i) (by rw[YZ,Ao Q];exact hy)
def UG(s:AB):Prop:=(∀g∈s.Glues,g.Name.size<=140737488355328)/\ ∀t∈s.Tiles,t.Name.size<=140737488355328
def ValidSet_.fv(a:AB):Bool:=(Fe) a
def ValidSet_.row:A7:=vK (b1 (qR AB.d_le)) rB (λa=>UG a) ValidSet_.fv
def ValidSet_.q:=AU (R:=ValidSet_.row) rfl
def ValidSet_.ok:AA Tryz.prog 218 ValidSet_.row:=by
 refine vw (tC within_.ok (tC impl_IsName.ok (tC ContVS.ok tN))) Tryz.func218 rfl (by kernel_rfl) ?_;intro a ab;simp only[Tryz.f218];simp(disch:=omega)only[ZA,simprocAttr,ValidSet_.fv,within_.q,within_.fv];obtain⟨ad,af⟩:=ab;intro hg;simp only[AP];refine⟨λc1 ht=>⟨λc2=> ?_,λc2 _=> ?_⟩,λc1=> ?_⟩
 .simp[Fe,c2]
 .rw[HO] at c2;have c0:Fe a=(Kv a 0 a.Glues && IU a 0 a.Tiles):=by
   have e1:a.Glues.length<=200:=by omega
   simp[Fe,e1,c2]
  refine AR.old ⟨{k:Nat//k<=a.Glues.length/\Kv a k (a.Glues.drop k)=Kv a 0 a.Glues},λk=>⟨[(24,.im (.int .i64 k.1)),(23,.im (.int .i64 a.Glues.length)),(22,.im (.sl false 2 (a.Glues.map Ar.c))),(3,.mp 1),(1,.ptr 0 0),(2,.im (.bool false))],[(1,(true,.map ⟨false,[.str]⟩ (Np ((a.Glues.take k.1).map Ar.Name)))),(0,(true,.cells 45 ((AB.c a).map .im)))],2⟩,λk=>a.Glues.length - k.1,λk=>⟨by simp[Aj.good,An,Ac,A9,AV.bel,Av,AB.c],AN _⟩,⟨⟨0,by simp⟩,by simp(disch:=omega)only[ZA,simprocAttr,sub,Np]⟩,λk=> ?_⟩;obtain⟨k,ac,z⟩:=k;simp(disch:=omega)only[ZA,simprocAttr,within_.q,within_.fv,impl_IsName.q,impl_IsName.fv,sub,AP,Qum];refine⟨λhk=>⟨hk,λx Q=>⟨ad x (AY Q),?_⟩⟩,λhk _=> ?_⟩
  .rw[Eu Q,Kv] at z;have hu:=kC Ar.Name a.Glues k x Q;have G:(Ik x.Name && (Bq x.Strength 1 4 && decide (Bn (λg:Ar=>decide (g.Name=x.Name)) 0 a.Glues=k)))=false->false=Fe a:=by
    intro h;rw[h,Ei] at z;rw[c0,<-z];rfl
   refine⟨λZ=>⟨λO=>G ?_,λO=>⟨λh3=>G (by simp[h3]),λh3=>⟨⟨k+1,by omega,?_⟩,by simp only;omega,?_,?_⟩⟩⟩,λZ=>G (by simp[Z])⟩
   .simp only[ZdV,KC];exact .inr (.inr λh9=>(hu.1 h9) O)
   .rw[HO] at h3;rw[Z,h3,hu.2 O] at z;simpa using z
   .rw[AG (by omega) (by omega)];simp only;omega
   .rw[Qru _ _ O,GO,Q];simp
  .rw[CZ (by omega),Kv] at z;have c9:Fe a=IU a 0 a.Tiles:=by rw[c0,<-z,CP]
   refine AR.frz [0] ⟨{k:Nat//k<=a.Tiles.length/\IU a k (a.Tiles.drop k)=IU a 0 a.Tiles},λk=>⟨[(52,.im (.int .i64 k.1)),(51,.im (.int .i64 a.Tiles.length)),(50,.im (.sl false 2 (a.Tiles.map Tile.c))),(6,.mp 2),(1,.ptr 0 0),(2,.im (.bool false))],[(2,(true,.map ⟨false,[.str]⟩ (Np ((a.Tiles.take k.1).map Tile.Name)))),(0,(false,.cells 45 ((AB.c a).map .im)))],3⟩,λk=>a.Tiles.length - k.1,λk=>⟨by simp[Aj.good,An,Ac,A9,AV.bel,Av,AB.c],AN _⟩,⟨⟨0,by simp⟩,by simp(disch:=omega)only[ZA,simprocAttr,sub,Np]⟩,λk=> ?_⟩;obtain⟨k,ac,z⟩:=k;simp(disch:=omega)only[ZA,simprocAttr,impl_IsName.q,impl_IsName.fv,ContVS.q,ContVS.ar,ContVS.fv,sub,AP,Qum];refine⟨λhk=>⟨hk,λx Q=>⟨af x (AY Q),?_⟩⟩,λhk=> ?_⟩
   .rw[Eu Q,IU] at z;have hu:=kC Tile.Name a.Tiles k x Q;have G:(Ik x.Name && (decide (x.Sides.length=4) && (decide (Bn (λy:Tile=>decide (y.Name=x.Name)) 0 a.Tiles=k) && x.Sides.all (λg=>Bq g 0 a.Glues.length))))=false->false=Fe a:=by
     intro h;rw[h,Ei] at z;rw[c9,<-z]
    have aa:(x.Sides.any λg=> !Bq g 0 a.Glues.length)= !x.Sides.all (λg=>Bq g 0 a.Glues.length):=by
     simp[List.not_all_eq_any_not]
    rw[aa];refine⟨λZ=>⟨λO=>G ?_,λO _=>⟨λh3=>G ?_,λh3=>⟨λh4=>G ?_,λh4=>⟨⟨k+1,by omega,?_⟩,by simp only;omega,?_,?_⟩⟩⟩⟩,λZ=>G (by simp[Z])⟩
    .simp only[ZdV,KC];exact .inr (.inr (.inl λh9=>(hu.1 h9) O))
    .have: ¬x.Sides.length=4:=by omega
     simp[this]
    .simp only[Nz] at h4;simp only[h4,Zg]
    .have h5:x.Sides.length=4:=by omega
     simp only[Nz,HO] at h4;rw[Z,h5,hu.2 O,h4] at z;simpa using z
    .rw[AG (by omega) (by omega)];simp only;omega
    .rw[Qru _ _ O,GO,Q];simp
   .rw[CZ (by omega),IU] at z;rw[c9,<-z]
 .have: ¬a.Glues.length<=200:=by omega
  simp[Fe,this]
def FH(s:AB)(a:Ah):Bool:=(BV none a.Tiles && decide (a.Tiles.length<=500)) && a.Tiles.all (λx=>Bq x.Tile 0 (s.Tiles.length - 1))
def ValidAssembly_.fv(a:AB×Ah):Bool:=(λs a=>Fe s && FH s a) (a.1) (a.2)
def ValidAssembly_.row:A7:=vK (b2 (qR AB.d_le) (qR Ah.d_le)) rB (λa=>UG a.1) ValidAssembly_.fv
def ValidAssembly_.q:=AU (R:=ValidAssembly_.row) rfl
def ValidAssembly_.ok:AA Tryz.prog 190 ValidAssembly_.row:=by
 refine vw (tC ValidSet_.ok (tC hasForm_.ok (tC ContVA.ok tN))) Tryz.func190 rfl (by kernel_rfl) ?_;intro a z;simp only[Tryz.f190];simp(disch:=omega)only[ZA,simprocAttr,Ah.d,ValidAssembly_.fv,ValidSet_.q,ValidSet_.fv,hasForm_.q,hasForm_.fv,ContVA.q,ContVA.ar,ContVA.fv];refine⟨z,?_⟩
 split<;>rename_i O
 .split<;>rename_i G
  .simp[O,FH,G.1,G.2,ZeE]
  .have Q:(BV none a.2.Tiles && decide (a.2.Tiles.length<=500))=false:=by
    rw[Ny];intro h;simp only[AS,Ch] at h;exact G h
   simp[FH,Q]
 .simp[O]
def comparePlaced.fv(a:Ak×Ab):Int:=(λa p=>Py [EU a.At.Y p.Y,EU a.At.X p.X]) (a.1) (a.2)
def comparePlaced.row:A7:=vK (b2 (qR Ak.d_le) (qR Ab.d_le)) rI (λa=>True) comparePlaced.fv
def comparePlaced.q:=AU (R:=comparePlaced.row) rfl
def comparePlaced.ok:AA Tryz.prog 134 comparePlaced.row:=by
 refine vw (tC comparePoints.ok tN) Tryz.func134 rfl (by kernel_rfl) ?_;intro a z;simp only[Tryz.f134];simp(disch:=omega)only[ZA,simprocAttr,comparePlaced.fv,comparePoints.q,comparePoints.fv]
def Hs(l:List Ak)(p:Ab):Nat:=(l.takeWhile (λx=>Bf x.At p)).length
def yG(p:Ab): ∀(l:List Ak) (lo:Nat),lo<=l.length->(∀(i:Nat) (x:Ak),i<lo->l[i]? =some x->Bf x.At p=true)->(∀(i:Nat) (x:Ak),lo<=i->l[i]? =some x->Bf x.At p=false)->Hs l p=lo
 |[],lo,h,_,_=>by simp at h;simp[Hs,h]
 |x::r,0,_,_,h=>by
  have:=h 0 x (by omega) (by simp)
  simp[Hs,this]
 |x::r,lo+1,hl,G,Q=>by
  have Z:=G 0 x (by omega) (by simp);have O:=yG p r lo (by simpa using hl) (λi y hi z=>G (i+1) y (by omega) (by simpa using z)) (λi y hi z=>Q (i+1) y (by omega) (by simpa using z));simp only[Hs] at O;simp[Hs,Z,O]
def nO(a b:Ab):(Py [EU a.Y b.Y,EU a.X b.X]<0)↔Bf a b=true:=by
 simp only[Bf,Py,EU]
 grind
def QT(a b:Ab):(Py [EU a.Y b.Y,EU a.X b.X]=0)↔a=b:=by
 obtain⟨x,y⟩:=a;obtain⟨z,w⟩:=b;simp only[Py,EU,Ab.mk.injEq]
 grind
def tE(lo z:Nat)(h:lo+z<=562949953421312):IntKind.wrap .i64 ((IntKind.wrap .u64 (IntKind.wrap .i64 ((lo:Int)+z))).fdiv (2^min 1 IntKind.u64.bits))=(((lo+z)/2:Nat):Int):=by
 rw[AG (x:=(lo:Int)+z) (by omega) (by omega)];have G:IntKind.wrap .u64 ((lo:Int)+z)=(lo:Int)+z:=by
  simp only[IntKind.wrap,IntKind.signed,IntKind.bits];simp;omega
 have O:(2:Int)^min 1 IntKind.u64.bits=2:=by decide
 rw[G,O,Zei _ (by omega),AG (by omega) (by omega)];omega
def BinP.ar:List PK->Option ((List Ak)×Ab×Unit)
 |[.val (.sl _ _ z),.val (.agg G),.val (.fn 134 [] [])]=>(AO Ak.d z).bind λO=>(Ab.d G).bind λQ=>some (O,Q,())
 |_=>none
def BinP.ae(a:(List Ak)×Ab×Unit):List PK:=[.val (.sl false 3 (a.1.map Ak.c)),.val (.agg (Ab.c a.2.1)),.val (.fn 134 [] [])]
def BinP.le: ∀z a,BinP.ar z=some a->BA z (BinP.ae a):=by
 intro z a h;unfold BinP.ar at h;split at h
 .simp only[Eg,AI] at h;obtain⟨O,h0,Q,G,rfl⟩:=h;exact⟨DV (DP Ak.d_le _ _ h0) (by simp only[Bm];rintro r ⟨y,_,rfl⟩;rfl),VK (Ab.d_le _ _ G),Cg.refl _,trivial⟩
 .cases h
def BinP.fv(a:(List Ak)×Ab×Unit):Int×Bool:=(λl p _=>((Hs l p:Int),l.any (λx=>decide (x.At=p)))) (a.1) (a.2.1) (a.2.2)
def BinP.row:A7:=CU BinP.ar (λa=>BV none a.1=true) (λa=>(λb=>D.tup [(D.int .i64) (b.1),(D.bool) (b.2)]) (BinP.fv a))
def BinP.q:=vq BinP.row rfl
def BinP.ok:AA Tryz.prog 133 BinP.row:=by
 refine PS C9 (tC comparePlaced.ok tN) Tryz.func133 rfl (by kernel_rfl) (by kernel_rfl) (ar:=BinP.ar) (ae:=BinP.ae) BinP.le (n:=3) (λ_=>rfl) (by decide) (rc:=(bL (Dj) (Po))) (re:=(λb=>D.tup [(D.int .i64) (b.1),(D.bool) (b.2)])) (Qbz (Kt) (Y0)) (f:=BinP.fv) ?_;intro a af;simp only[Tryz.f133];simp(disch:=omega)only[ZA,simprocAttr,BinP.ae,BinP.fv];intro hn;refine AR.old ⟨{p:Nat×Nat//p.1<=p.2/\p.2<=a.1.length/\(∀i x,i<p.1->a.1[i]? =some x->Bf x.At a.2.1=true)/\(∀i x,p.2<=i->a.1[i]? =some x->Bf x.At a.2.1=false)},λp=>⟨[(9,.im (.int .i64 p.1.1)),(10,.im (.int .i64 p.1.2)),(8,.im (.int .i64 a.1.length)),(6,.im (.int .i64 0)),(7,.im (.bool false)),(4,.ptr 0 0),(0,.im (.sl false 3 (a.1.map Ak.c))),(2,.im (.fn 134 [] []))],[(0,(true,.cells 96 [.im (.int .i64 a.2.1.X),.im (.int .i64 a.2.1.Y)]))],1⟩,λp=>p.1.2 - p.1.1,λp=>⟨by simp[Aj.good,An,Ac,A9,AV.bel,Av],AN _⟩,⟨⟨(0,a.1.length),by simp,by simp,by simp,?_⟩,by simp(disch:=omega)only[ZA,simprocAttr,sub]⟩,λp=> ?_⟩
 .intro i x hi Q
  have:=(Cd.1 Q).1
  simp only at hi;omega
 obtain⟨⟨lo,hi⟩,h1,h2,h3,h4⟩:=p;simp only at h1 h2 h3 h4;simp(disch:=omega)only[ZA,simprocAttr,comparePlaced.q,comparePlaced.fv,sub,AP];obtain⟨_,O⟩:=Y7 _ _ af;have ad: ∀(i:Nat) (x:Ak),i<lo->a.1[i]? =some x->x.At≠a.2.1:=by
  intro i x hi Q he
  have:=h3 i x hi Q
  rw[he,Wi] at this;cases this
 rw[tE lo hi (by omega)];simp only[nO,QT];refine⟨λag=> ?_,λag=>⟨λhl=>⟨hl,λx Q=> ?_⟩,λhl=> ?_⟩⟩
 .refine⟨by omega,by omega,λx Q=>⟨λhb=> ?_,λhb=> ?_⟩⟩
  .rw[Bt] at Q;refine⟨⟨((lo+hi)/2+1,hi),by simp only;omega,h2,λi y G Z=> ?_,h4⟩,by simp only;omega,?_,rfl⟩
   .simp only at G;rcases EO i ((lo+hi)/2) with h|h
    .exact VS (O i _ y x h Z Q) hb
    .have:i=(lo+hi)/2:=by omega
     subst this;rw[Q] at Z;exact AE Z▸hb
   .rw[AG (by omega) (by omega)];simp only;omega
  .rw[Bt] at Q;refine⟨⟨(lo,(lo+hi)/2),by simp only;omega,by simp only;omega,h3,λi y G Z=> ?_⟩,by simp only;omega,rfl,rfl⟩;simp only at G;rcases EO ((lo+hi)/2) i with h|h
   .cases hl:Bf y.At a.2.1 with
    |false=>rfl
    |true=>exact absurd (VS (O _ i x y h Q Z) hl) hb
   .have:i=(lo+hi)/2:=by omega
    subst this;rw[Q] at Z;obtain rfl:=AE Z;simpa using hb
 .have aa:=yG a.2.1 a.1 lo (by omega) h3 (λi y G Z=>h4 i y (by omega) Z);refine⟨by rw[aa],?_⟩;rw[Q5];simp only[Ch,rN];refine⟨λhe=>⟨x,AY Q,he⟩,?_⟩;rintro⟨y,Z,he⟩;obtain⟨i,G,ac⟩:=Wz.1 Z;have z:a.1[i]? =some y:=by rw[Bh G,ac]
  rcases dA i lo with h|h|h
  .exact absurd he (ad i y h z)
  .subst h;rw[Q] at z;exact AE z▸he
  .have ab:=O lo i x y h Q z;rw[he] at ab
   have:=h4 lo x (by omega) Q
   rw[this] at ab;cases ab
 .have aa:=yG a.2.1 a.1 lo (by omega) h3 (λi y G Z=>h4 i y (by omega) Z);refine⟨by rw[aa],?_⟩;symm;simp only[List.any_eq_false,Ch];intro y Z he;obtain⟨i,G,ac⟩:=Wz.1 Z;have z:a.1[i]? =some y:=by rw[Bh G,ac]
  exact ad i y (by omega) z he
def NE{l:List Ak}{p:Ab}(h:BV none l=true){i:Nat}{x:Ak}(O:l[i]? =some x)(Q:x.At=p):Hs l p=i:=by
 obtain⟨_,z⟩:=Y7 _ _ h;have hi:=(Cd.1 O).1;refine yG p l i (by omega) (λj y hj G=> ?_) (λj y hj G=> ?_)
 .have:=z j i y x hj G O
  rwa [Q] at this
 .rcases EO i j with Z|Z
  .have h2:=z i j x y Z O G;rw[Q] at h2;cases h3:Bf y.At p with
   |false=>rfl
   |true=>
    have:=VS h2 h3
    rw[Wi] at this;cases this
  .have:j=i:=by omega
   subst this;rw[O] at G;obtain rfl:=AE G;rw[Q,Wi]
def Qz4{l:List Ak}{p:Ab}(h:BV none l=true):(l.any (λx=>decide (x.At=p))=true/\ ∃x,l[Hs l p]? =some x/\x.At=p/\l.find? (λx=>decide (x.At=p))=some x/\Bn (λx=>decide (x.At=p)) 0 l=(Hs l p:Int))\/
 (l.any (λx=>decide (x.At=p))=false/\l.find? (λx=>decide (x.At=p))=none/\Bn (λx=>decide (x.At=p)) 0 l= -1):=by
 rcases Px (λx=>decide (x.At=p)) l 0 with ⟨z,G⟩|⟨i,x,z,G,O⟩
 .refine .inr ⟨?_,z,G⟩;simpa[YY] using z
 .have Q:x.At=p:=by simpa using Wx z
  have hb:=NE h O Q;refine .inl ⟨?_,x,by rw[hb];exact O,Q,z,by rw[G,hb,Fh]⟩;simp only[rN,Ch];exact⟨x,AY O,Q⟩
def at_.fv(a:Ah×Ab):Int:=(Bu) (a.1) (a.2)
def at_.row:A7:=vK (b2 (qR Ah.d_le) (qR Ab.d_le)) rI (λa=>BV none a.1.Tiles=true) at_.fv
def at_.q:=AU (R:=at_.row) rfl
def at_.ok:AA Tryz.prog 184 at_.row:=by
 refine vw (tC BinP.ok tN) Tryz.func184 rfl (by kernel_rfl) ?_;intro a z;simp only[Tryz.f184];simp(disch:=omega)only[ZA,simprocAttr,at_.fv,BinP.q,BinP.ar,BinP.fv];refine⟨z,?_⟩;rcases Qz4 (p:=a.2) z with ⟨O,x,G,Z,h4,h5⟩|⟨O,G,Z⟩
 .rw[Ao O];refine⟨(Cd.1 G).1,λy Q=> ?_⟩;rw[G] at Q;obtain rfl:=AE Q;simp[Bu,h4]
 .rw[O,Ag (by simp)];simp[Bu,G]
def placeAt.rc:D->Option (Int):=Dj
def placeAt.re:Int->D:=D.int .i64
def placeAt.rle: ∀d b,placeAt.rc d=some b->Le d (placeAt.re b):=Kt
def placeAt.fv(a:Ah×Ab):Int:=(λa p=>Bn (λx=>decide (x.At=p)) 0 a.Tiles) (a.1) (a.2)
def placeAt.row:A7:=vK (b2 (qR Ah.d_le) (qR Ab.d_le)) (RK.mk placeAt.rc placeAt.re placeAt.rle) (λa=>BV none a.1.Tiles=true) placeAt.fv
def placeAt.q:=AU (R:=placeAt.row) rfl
def placeAt.ok:AA Tryz.prog 287 placeAt.row:=by
 refine vw (tC BinP.ok tN) Tryz.func287 rfl (by kernel_rfl) ?_;intro a z;simp only[Tryz.f287];simp(disch:=omega)only[ZA,simprocAttr,placeAt.fv,placeAt.rc,BinP.q,BinP.ar,BinP.fv];refine⟨z,?_⟩;rcases Qz4 (p:=a.2) z with ⟨G,x,Q,O,h4,Z⟩|⟨G,Q,O⟩
 .rw[Ao G,Z]
 .rw[G,Ag (by simp),O]
def iS(b:Ah)(x:Ak):Bool:= !decide (Bu b x.At=x.Tile)
def IW1.fv(a:Ak×Ah):Bool:=(λx b=>iS b x) (a.1) (a.2)
def IW1.row:A7:=vK (b2 (qR Ak.d_le) (qP 1 Ah.d_le)) rB (λa=>BV none a.2.Tiles=true) IW1.fv
def IW1.q:=AU (R:=IW1.row) rfl
def IW1.ok:AA Tryz.prog 193 IW1.row:=by
 refine vw (tC at_.ok tN) Tryz.func193 rfl (by kernel_rfl) ?_;intro a z;simp only[Tryz.f193];simp(disch:=omega)only[ZA,simprocAttr,Ah.d,IW1.fv,at_.q,at_.fv];exact⟨z,rfl⟩
def IdxIW.ar:List PK->Option ((List Ak)×Ah)
 |[.val (.sl _ _ O),.val (.fn 193 [] [.ref z])]=>(AO Ak.d O).bind λQ=>(Ah.d (z.take 1)).bind λG=>some (Q,G)
 |_=>none
def IdxIW.ae(a:(List Ak)×Ah):List PK:=[.val (.sl false 3 (a.1.map Ak.c)),.val (.fn 193 [] [.ref (Ah.c a.2)])]
def IdxIW.le: ∀G a,IdxIW.ar G=some a->BA G (IdxIW.ae a):=by
 intro G a h;unfold IdxIW.ar at h;split at h
 .simp only[Eg,AI] at h;obtain⟨Q,h0,O,z,rfl⟩:=h;exact⟨DV (DP Ak.d_le _ _ h0) (by simp only[Bm];rintro r ⟨y,_,rfl⟩;rfl),Qq ⟨Qm (Gb.trans_take (Ah.d_le _ _ z)),trivial⟩,trivial⟩
 .cases h
def IdxIW.fv(a:(List Ak)×Ah):Int:=(λl b=>Bn (iS b) 0 l) (a.1) (a.2)
def IdxIW.row:A7:=CU IdxIW.ar (λa=>BV none a.2.Tiles=true) (λa=>(D.int .i64) (IdxIW.fv a))
def IdxIW.q:=vq IdxIW.row rfl
def IdxIW.ok:AA Tryz.prog 152 IdxIW.row:=by
 refine PS C9 (tC IW1.ok tN) Tryz.func152 rfl (by kernel_rfl) (by kernel_rfl) (ar:=IdxIW.ar) (ae:=IdxIW.ae) IdxIW.le (n:=2) (λ_=>rfl) (by decide) (rc:=(Dj)) (re:=(D.int .i64)) (Kt) (f:=IdxIW.fv) ?_;intro a G;simp only[Tryz.f152];simp(disch:=omega)only[ZA,simprocAttr,IdxIW.ae,IdxIW.fv];intro hn;refine AR.old ⟨{k:Nat//k<=a.1.length/\Bn (iS a.2) k (a.1.drop k)=Bn (iS a.2) 0 a.1},λk=>⟨[(8,.im (.int .i64 k.1)),(7,.im (.int .i64 a.1.length)),(6,.im (.sl false 3 (a.1.map Ak.c))),(4,.im (.int .i64 0)),(0,.im (.sl false 3 (a.1.map Ak.c))),(1,.im (.fn 193 [] [.ref (Ah.c a.2)]))],[],0⟩,λk=>a.1.length - k.1,λk=>⟨by simp[Aj.good,An,Ac,A9,AV.bel],AN _⟩,⟨⟨0,by simp⟩,by simp(disch:=omega)only[ZA,simprocAttr,sub]⟩,λk=> ?_⟩;obtain⟨k,Q,z⟩:=k;simp(disch:=omega)only[ZA,simprocAttr,Ah.d,IW1.q,IW1.fv,sub,AP];refine⟨λO=>⟨O,λx Z=> ?_⟩,λO=> ?_⟩
 .rw[Eu Z,Bn] at z;refine⟨G,λh=> ?_,λh=>F2 O hn ⟨by omega,by rw[<-z,Ag (by simpa using h)]⟩⟩;rw[Ao (by simpa using h)] at z;exact z
 .rw[CZ (by omega),Bn] at z;exact z
def ContIW.ar:List PK->Option ((List Ak)×Ah)
 |[.val (.sl _ _ O),.val (.fn 193 [] [.ref z])]=>(AO Ak.d O).bind λQ=>(Ah.d (z.take 1)).bind λG=>some (Q,G)
 |_=>none
def ContIW.ae(a:(List Ak)×Ah):List PK:=[.val (.sl false 3 (a.1.map Ak.c)),.val (.fn 193 [] [.ref (Ah.c a.2)])]
def ContIW.le: ∀G a,ContIW.ar G=some a->BA G (ContIW.ae a):=by
 intro G a h;unfold ContIW.ar at h;split at h
 .simp only[Eg,AI] at h;obtain⟨Q,h0,O,z,rfl⟩:=h;exact⟨DV (DP Ak.d_le _ _ h0) (by simp only[Bm];rintro r ⟨y,_,rfl⟩;rfl),Qq ⟨Qm (Gb.trans_take (Ah.d_le _ _ z)),trivial⟩,trivial⟩
 .cases h
def ContIW.fv(a:(List Ak)×Ah):Bool:=(λl b=>l.any (iS b)) (a.1) (a.2)
def ContIW.row:A7:=CU ContIW.ar (λa=>BV none a.2.Tiles=true) (λa=>(D.bool) (ContIW.fv a))
def ContIW.q:=vq ContIW.row rfl
def ContIW.ok:AA Tryz.prog 192 ContIW.row:=by
 refine PS C9 (tC IdxIW.ok tN) Tryz.func192 rfl (by kernel_rfl) (by kernel_rfl) (ar:=ContIW.ar) (ae:=ContIW.ae) ContIW.le (n:=2) (λ_=>rfl) (by decide) (rc:=(Po)) (re:=(D.bool)) (Y0) (f:=ContIW.fv) ?_;intro a z;simp only[Tryz.f192];simp(disch:=omega)only[ZA,simprocAttr,Ah.d,ContIW.ae,ContIW.fv,IdxIW.q,IdxIW.ar,IdxIW.fv];exact⟨z,xM _ _⟩
def gZ(a b:Ah):Bool:=(BV none a.Tiles && decide (a.Tiles.length<=500)) && ((BV none b.Tiles && decide (b.Tiles.length<=500)) && a.Tiles.all (λx=>decide (Bu b x.At=x.Tile)))
def IsWithin_.fv(a:Ah×Ah):Bool:=(gZ) (a.1) (a.2)
def IsWithin_.row:A7:=vK (b2 (qR Ah.d_le) (qR Ah.d_le)) rB (λa=>True) IsWithin_.fv
def IsWithin_.q:=AU (R:=IsWithin_.row) rfl
def IsWithin_.ok:AA Tryz.prog 146 IsWithin_.row:=by
 refine vw (tC hasForm_.ok (tC ContIW.ok tN)) Tryz.func146 rfl (by kernel_rfl) ?_;intro a O;simp only[Tryz.f146];simp(disch:=omega)only[ZA,simprocAttr,Ah.d,IsWithin_.fv,hasForm_.q,hasForm_.fv,ContIW.q,ContIW.ar,ContIW.fv];have hf: ∀x:Ah,¬(BV none x.Tiles=true/\x.Tiles.length<=500)->(BV none x.Tiles && decide (x.Tiles.length<=500))=false:=by
  intro x Q;rw[Ny];intro h;simp only[AS,Ch] at h;exact Q h
 split<;>rename_i G
 .split<;>rename_i z
  .refine⟨z.1,?_⟩
   have:(iS a.2)=λx=> !decide (Bu a.2 x.At=x.Tile):=rfl
   simp[gZ,G.1,G.2,z.1,z.2,this,ZeE]
  .simp only[gZ,hf _ z,Ei,Zg]
 .simp only[gZ,hf _ G,Ei]
def B7{β:Type}:List (Ab×β)->Ab->Option β
 |[],_=>none
 |(k,v)::r,p=>if p=k then some v else B7 r p
def Kd(p q:Ab):D.beql (Ab.c p) (Ab.c q)=decide (p=q):=by
 cases p;cases q;simp only[Ab.c,D.beql,D.beq,Ab.mk.injEq,ET];rw[Q5];simp
def Z1{β:Type}(e:Ab×β->D×D)(g:β->D)(z: ∀p,e p=(.agg (Ab.c p.1),g p.2))(x y:Int): ∀(l:List (Ab×β)),lk (l.map e) (.agg [.int .i64 x,.int .i64 y])=(B7 l ⟨x,y⟩).map g
 |[]=>rfl
 |q::r=>by
  have G:D.beq (.agg [.int .i64 x,.int .i64 y]) (.agg (Ab.c q.1))=decide ((⟨x,y⟩:Ab)=q.1):=Kd ⟨x,y⟩ q.1;obtain⟨k,v⟩:=q;simp only[Bd,z,lk,B7,G];by_cases h:(⟨x,y⟩:Ab)=k
  .simp[h]
  .simp[h,Z1 e g z x y r]
def LB{β:Type}(e:Ab×β->D×D)(g:β->D)(Q: ∀p,e p=(.agg (Ab.c p.1),g p.2))(x y:Int)(l:List (Ab×β))(Ks:D->Prop)(Kn:Prop):
 FD (l.map e) (.agg [.int .i64 x,.int .i64 y]) Ks Kn=((∀v,B7 l ⟨x,y⟩=some v->Ks (g v))/\(B7 l ⟨x,y⟩=none->Kn)):=by
 apply propext;unfold FD;rw[Z1 e g Q];constructor
 .rintro⟨G,O⟩;exact⟨λv z=>G _ (by rw[z];rfl),λh=>O (by rw[h];rfl)⟩
 .rintro⟨G,O⟩;refine⟨λv z=> ?_,λh=>O (by simpa using h)⟩;simp only[Df] at z;obtain⟨w,Z,rfl⟩:=z;exact G w Z
def Xs(x y:Int)(l:List (Ab×Int))(Ks:D->Prop)(Kn:Prop):FD (l.map Et) (.agg [.int .i64 x,.int .i64 y]) Ks Kn=((∀v,B7 l ⟨x,y⟩=some v->Ks (.int .i64 v))/\(B7 l ⟨x,y⟩=none->Kn)):=
 LB Et (.int .i64) (λ_=>rfl) x y l Ks Kn
def Xt(x y:Int)(l:List (Ab×List Int))(Ks:D->Prop)(Kn:Prop):FD (l.map CO) (.agg [.int .i64 x,.int .i64 y]) Ks Kn=((∀v,B7 l ⟨x,y⟩=some v->Ks (.sl false 1 (v.map Al)))/\(B7 l ⟨x,y⟩=none->Kn)):=
 LB CO (λv=> .sl false 1 (v.map Al)) (λ_=>rfl) x y l Ks Kn
def CA(l:List (Ab×Int))(p:Ab):Int:=(B7 l p).getD (-1)
def catC.fv(a:BZ×Ab):Int:=(λc p=>CA c.Tl p) (a.1) (a.2)
def catC.row:A7:=CN (b2 (qP 6 BZ.d_le) (qR Ab.d_le)) rI (λa=>True) catC.fv
def catC.q:=DO (R:=catC.row) rfl
def catC.ok:AA Tryz.prog 186 catC.row:=by
 refine FZ tN Tryz.func186 rfl (by kernel_rfl) ?_;intro a G;simp only[Tryz.f186];simp(disch:=omega)only[ZA,simprocAttr,catC.fv,D.sc,D.scs,Bv];simp(disch:=omega)only[ZA,simprocAttr,D.sc,D.scs,Bv,Xs];simp only[CA];exact⟨λv z=>by rw[show B7 a.1.Tl a.2=some v from z];rfl,λz=>by rw[show B7 a.1.Tl a.2=none from z];rfl⟩
def P6(s:AB)(f:Ab->Int)(p:Ab)(t:Int)(d:Int):Int:=if 0<=f (Co p d) then K3 s t d (f (Co p d)) else 0
def EL(s:AB)(f:Ab->Int)(p:Ab)(t:Int):Nat->Int
 |0=>0
 |k+1=>EL s f p t k+P6 s f p t k
def KJ(s:AB)(a:Ah)(p:Ab)(t:Int): ∀k,EL s (Bu a) p t k=KM s a p t k
 |0=>rfl
 |k+1=>by simp only[EL,KM,KJ s a p t k];rfl
def Zw(s:AB)(f:Ab->Int):Prop:= ∀p,0<=f p->Gc s (f p)
def xX{s:AB}(h:Cu s)(f:Ab->Int)(p:Ab)(t d:Int):0<=P6 s f p t d/\P6 s f p t d<=4:=by
 simp only[P6,K3];split
 .split
  .exact Qp1 h _
  .omega
 .omega
def xU{s:AB}(h:Cu s)(f:Ab->Int)(p:Ab)(t:Int): ∀(k:Nat),0<=EL s f p t k/\EL s f p t k<=4*k
 |0=>by simp[EL]
 |k+1=>by
  have z:=xU h f p t k;have G:=xX h f p t k;simp only[EL];omega
def bindC.ar:List PK->Option (AB×Ab×Int×BZ)
 |[.val (.agg z),.val (.agg G),.val (.int .i64 O),.val (.fn 186 [.ref Q] [])]=>(AB.d z).bind λZ=>(Ab.d G).bind λy1=>(BZ.d (Q.take 6)).bind λy3=>some (Z,y1,O,y3)
 |_=>none
def bindC.ae(a:AB×Ab×Int×BZ):List PK:=[.val (.agg (AB.c a.1)),.val (.agg (Ab.c a.2.1)),.val (.int .i64 a.2.2.1),.val (.fn 186 [.ref (BZ.c a.2.2.2)] [])]
def bindC.le: ∀z a,bindC.ar z=some a->BA z (bindC.ae a):=by
 intro z a h;unfold bindC.ar at h;split at h
 .simp only[Eg,AI] at h;obtain⟨Q,h0,Z,G,y3,O,rfl⟩:=h;exact⟨VK (AB.d_le _ _ h0),VK (Ab.d_le _ _ G),Cg.refl _,Se ⟨Qm (Gb.trans_take (BZ.d_le _ _ O)),trivial⟩,trivial⟩
 .cases h
def bindC.fv(a:AB×Ab×Int×BZ):Int:=(λs p t c=>EL s (CA c.Tl) p t 4) (a.1) (a.2.1) (a.2.2.1) (a.2.2.2)
def bindC.row:A7:=K2 bindC.ar (λa=>Cu a.1/\Zw a.1 (CA a.2.2.2.Tl)/\HB a.2.1/\Gc a.1 a.2.2.1) (λa=>(D.int .i64) (bindC.fv a))
def bindC.q:=uH bindC.row rfl
def bindC.ok:AA Tryz.prog 187 bindC.row:=by
 refine nR C9 (tC step_.ok (tC bond_.ok (tC catC.ok tN))) Tryz.func187 rfl (by kernel_rfl) (by kernel_rfl) (ar:=bindC.ar) (ae:=bindC.ae) bindC.le (n:=4) (λ_=>rfl) (by decide) (rc:=(Dj)) (re:=(D.int .i64)) (Kt) (f:=bindC.fv) ?_;intro a z;simp only[Tryz.f187];simp(disch:=omega)only[ZA,simprocAttr,bindC.ae,bindC.fv];obtain⟨G,O,Q,Z⟩:=z;refine AR.old ⟨{k:Nat//k<=4},λk=>⟨[(12,.im (.int .i64 k.1)),(9,.im (.int .i64 (EL a.1 (CA a.2.2.2.Tl) a.2.1 a.2.2.1 k.1))),(8,.im (.int .i64 0)),(5,.ptr 1 0),(4,.ptr 0 0),(2,.im (.int .i64 a.2.2.1)),(3,.im (.fn 186 [.ref (BZ.c a.2.2.2)] []))],[(1,(true,.cells 96 [.im (.int .i64 a.2.1.X),.im (.int .i64 a.2.1.Y)])),(0,(true,.cells 45 ((AB.c a.1).map .im)))],2⟩,λk=>4 - k.1,λk=>⟨by simp[Aj.good,An,Ac,A9,AV.bel,Av,AB.c],AN _⟩,⟨⟨0,by simp⟩,by simp(disch:=omega)only[ZA,simprocAttr,sub,EL]⟩,λk=> ?_⟩;obtain⟨k,aa⟩:=k;simp(disch:=omega)only[ZA,simprocAttr,CB,step_.q,step_.fv,step_.re,bond_.q,bond_.fv,bond_.re,catC.q,catC.fv,D.sc,D.scs,Bv,sub,AP];have hb:=xU G (CA a.2.2.2.Tl) a.2.1 a.2.2.1 k;have ht:=xX G (CA a.2.2.2.Tl) a.2.1 a.2.2.1 k;refine⟨λhk=>⟨⟨Q,by omega⟩,λhp=>⟨⟨G,Z,⟨by omega,by omega⟩,O _ hp⟩,⟨⟨k+1,by omega⟩,by simp only;omega,?_,?_⟩⟩,λhp=>⟨⟨k+1,by omega⟩,by simp only;omega,?_,?_⟩⟩,λhk=> ?_⟩
 .rw[AG (by omega) (by omega)];simp only;omega
 .simp only[EL];simp only[P6,Ao hp] at ht⊢;rw[AG (by omega) (by omega)]
 .rw[AG (by omega) (by omega)];simp only;omega
 .simp only[EL,P6,Ag hp];omega
 .have:k=4:=by omega
  rw[this]
def bindA.ar:List PK->Option (AB×Ab×Int×Ah)
 |[.val (.agg z),.val (.agg G),.val (.int .i64 O),.val (.fn 184 [.agg Q] [])]=>(AB.d z).bind λZ=>(Ab.d G).bind λy1=>(Ah.d Q).bind λy3=>some (Z,y1,O,y3)
 |_=>none
def bindA.ae(a:AB×Ab×Int×Ah):List PK:=[.val (.agg (AB.c a.1)),.val (.agg (Ab.c a.2.1)),.val (.int .i64 a.2.2.1),.val (.fn 184 [.agg (Ah.c a.2.2.2)] [])]
def bindA.le: ∀z a,bindA.ar z=some a->BA z (bindA.ae a):=by
 intro z a h;unfold bindA.ar at h;split at h
 .simp only[Eg,AI] at h;obtain⟨Q,h0,Z,G,y3,O,rfl⟩:=h;exact⟨VK (AB.d_le _ _ h0),VK (Ab.d_le _ _ G),Cg.refl _,Se ⟨VK (Ah.d_le _ _ O),trivial⟩,trivial⟩
 .cases h
def bindA.fv(a:AB×Ab×Int×Ah):Int:=(λs p t c=>EL s (Bu c) p t 4) (a.1) (a.2.1) (a.2.2.1) (a.2.2.2)
def bindA.row:A7:=K2 bindA.ar (λa=>Cu a.1/\Zw a.1 (Bu a.2.2.2)/\HB a.2.1/\Gc a.1 a.2.2.1/\BV none a.2.2.2.Tiles=true) (λa=>(D.int .i64) (bindA.fv a))
def bindA.q:=uH bindA.row rfl
def bindA.ok:AA Tryz.prog 187 bindA.row:=by
 refine nR C9 (tC step_.ok (tC bond_.ok (tC at_.ok tN))) Tryz.func187 rfl (by kernel_rfl) (by kernel_rfl) (ar:=bindA.ar) (ae:=bindA.ae) bindA.le (n:=4) (λ_=>rfl) (by decide) (rc:=(Dj)) (re:=(D.int .i64)) (Kt) (f:=bindA.fv) ?_;intro a z;simp only[Tryz.f187];simp(disch:=omega)only[ZA,simprocAttr,bindA.ae,bindA.fv];obtain⟨G,O,Q,Z,h5⟩:=z;refine AR.old ⟨{k:Nat//k<=4},λk=>⟨[(12,.im (.int .i64 k.1)),(9,.im (.int .i64 (EL a.1 (Bu a.2.2.2) a.2.1 a.2.2.1 k.1))),(8,.im (.int .i64 0)),(5,.ptr 1 0),(4,.ptr 0 0),(2,.im (.int .i64 a.2.2.1)),(3,.im (.fn 184 [.agg (Ah.c a.2.2.2)] []))],[(1,(true,.cells 96 [.im (.int .i64 a.2.1.X),.im (.int .i64 a.2.1.Y)])),(0,(true,.cells 45 ((AB.c a.1).map .im)))],2⟩,λk=>4 - k.1,λk=>⟨by simp[Aj.good,An,Ac,A9,AV.bel,Av,AB.c],AN _⟩,⟨⟨0,by simp⟩,by simp(disch:=omega)only[ZA,simprocAttr,sub,EL]⟩,λk=> ?_⟩;obtain⟨k,aa⟩:=k;simp(disch:=omega)only[ZA,simprocAttr,Ah.d,step_.q,step_.fv,step_.re,bond_.q,bond_.fv,bond_.re,at_.q,at_.fv,D.sc,D.scs,Bv,sub,AP];have hb:=xU G (Bu a.2.2.2) a.2.1 a.2.2.1 k;have ht:=xX G (Bu a.2.2.2) a.2.1 a.2.2.1 k;refine⟨λhk=>⟨⟨Q,by omega⟩,h5,λhp=>⟨⟨G,Z,⟨by omega,by omega⟩,O _ hp⟩,⟨⟨k+1,by omega⟩,by simp only;omega,?_,?_⟩⟩,λhp=>⟨⟨k+1,by omega⟩,by simp only;omega,?_,?_⟩⟩,λhk=> ?_⟩
 .rw[AG (by omega) (by omega)];simp only;omega
 .simp only[EL];simp only[P6,Ao hp] at ht⊢;rw[AG (by omega) (by omega)]
 .rw[AG (by omega) (by omega)];simp only;omega
 .simp only[EL,P6,Ag hp];omega
 .have:k=4:=by omega
  rw[this]
def binding_.row:A7:=fK bindC.row bindA.row
def binding_.ok:AA Tryz.prog 187 binding_.row:=PV bindC.ok bindA.ok
def Nt(s:Az)(f:Ab->Int)(p:Ab)(t:Int):Bool:=EP p && (decide (f p<0) && decide (s.Temperature<=EL s.Set f p t 4))
def fitsC.fv(a:BZ×Ab×Int):Bool:=(λc p t=>Nt c.Sys (CA c.Tl) p t) (a.1) (a.2.1) (a.2.2)
def fitsC.row:A7:=CN (b3 (qP 6 BZ.d_le) (qR Ab.d_le) qI) rB (λa=>Cu a.1.Sys.Set/\Zw a.1.Sys.Set (CA a.1.Tl)/\Gc a.1.Sys.Set a.2.2) fitsC.fv
def fitsC.q:=DO (R:=fitsC.row) rfl
def fitsC.ok:AA Tryz.prog 137 fitsC.row:=by
 refine FZ (tC ValidPoint.ok (tC catC.ok (tC binding_.ok tN))) Tryz.func137 rfl (by kernel_rfl) ?_;intro a z;simp only[Tryz.f137];simp(disch:=omega)only[ZA,simprocAttr,Ah.d,CB,fitsC.fv,ValidPoint.q,ValidPoint.fv,catC.q,catC.fv,binding_.row,fK,bindC.q,bindC.ar,bindC.fv,bindA.q,bindA.ar,bindA.fv,D.sc,D.scs,Bv];obtain⟨G,O,Q⟩:=z;cases e1:EP a.2.1
 .simp[Nt,e1]
 .rw[Ao rfl]
  split<;>rename_i h
  .exact .inl ⟨⟨G,O,oW e1,Q⟩,by simp[Nt,e1,h]⟩
  .simp[Nt,e1,h]
def B3{β:Type}:List (Ab×β)->Ab->β->List (Ab×β)
 |[],p,v=>[(p,v)]
 |(k,w)::r,p,v=>if p=k then (p,v)::r else (k,w)::B3 r p v
def DL{β:Type}:List (Ab×β)->Ab->List (Ab×β)
 |[],_=>[]
 |(k,w)::r,p=>if p=k then r else (k,w)::DL r p
def Ko{β:Type}(e:Ab×β->D×D)(g:β->D)(z: ∀p,e p=(.agg (Ab.c p.1),g p.2))(x y:Int)(v:β): ∀(l:List (Ab×β)),FY (l.map e) (.agg [.int .i64 x,.int .i64 y]) (g v)=(B3 l ⟨x,y⟩ v).map e
 |[]=>by simp[FY,B3,z,Ab.c]
 |q::r=>by
  have G:D.beq (.agg [.int .i64 x,.int .i64 y]) (.agg (Ab.c q.1))=decide ((⟨x,y⟩:Ab)=q.1):=Kd ⟨x,y⟩ q.1;obtain⟨k,w⟩:=q;simp only[Bd,z,FY,B3,G];by_cases h:(⟨x,y⟩:Ab)=k
  .simp[h,z,Ab.c];exact⟨by rw[<-h],by rw[<-h]⟩
  .simp[h,z,Ko e g z x y v r]
def Ri{β:Type}(e:Ab×β->D×D)(g:β->D)(z: ∀p,e p=(.agg (Ab.c p.1),g p.2))(x y:Int): ∀(l:List (Ab×β)),I0 (l.map e) (.agg [.int .i64 x,.int .i64 y])=(DL l ⟨x,y⟩).map e
 |[]=>rfl
 |q::r=>by
  have G:D.beq (.agg [.int .i64 x,.int .i64 y]) (.agg (Ab.c q.1))=decide ((⟨x,y⟩:Ab)=q.1):=Kd ⟨x,y⟩ q.1;obtain⟨k,w⟩:=q;simp only[Bd,z,I0,DL,G];by_cases h:(⟨x,y⟩:Ab)=k
  .simp[h]
  .simp[h,z,Ri e g z x y r]
def gE(x y:Int)(v:List Int)(l:List (Ab×List Int)):FY (l.map CO) (.agg [.int .i64 x,.int .i64 y]) (.sl false 1 (v.map Al))=(B3 l ⟨x,y⟩ v).map CO:=
 Ko CO (λv=> .sl false 1 (v.map Al)) (λ_=>rfl) x y v l
def Ux(x y v:Int)(l:List (Ab×Int)):FY (l.map Et) (.agg [.int .i64 x,.int .i64 y]) (.int .i64 v)=(B3 l ⟨x,y⟩ v).map Et:=
 Ko Et (.int .i64) (λ_=>rfl) x y v l
def Rh(x y:Int)(l:List (Ab×List Int)):I0 (l.map CO) (.agg [.int .i64 x,.int .i64 y])=(DL l ⟨x,y⟩).map CO:=
 Ri CO (λv=> .sl false 1 (v.map Al)) (λ_=>rfl) x y l
def FK(s:Az)(f:Ab->Int)(q:Ab):Nat->List Int
 |0=>[]
 |k+1=>FK s f q k++(if Nt s f q k=true then [(k:Int)] else [])
def Qus(s:Az)(f:Ab->Int)(q:Ab): ∀k,(FK s f q k).length<=k
 |0=>by simp[FK]
 |k+1=>by
  have:=Qus s f q k
  simp only[FK,Dn]
  split<;>simp<;>omega
def J0(s:Az)(f:Ab->Int)(op:List (Ab×List Int))(q:Ab):List (Ab×List Int):=
 if FK s f q s.Set.Tiles.length=[] then DL op q else B3 op q (FK s f q s.Set.Tiles.length)
def G2(s:Az)(f:Ab->Int)(op:List (Ab×List Int))(p:Ab):Nat->List (Ab×List Int)
 |0=>op
 |k+1=>J0 s f (G2 s f op p k) (Co p k)
def Cs(s:Az):List AV:=[.im (.sl false 2 (s.Set.Glues.map Ar.c)),.im (.sl false 2 (s.Set.Tiles.map Tile.c)),.im (.sl false 3 (s.Seed.Tiles.map Ak.c)),.im (.int .i64 s.Temperature),.mp 1,.mp 2]
def tB:KT:=⟨true,[.int .i64,.int .i64]⟩
def BN(c:BZ):Ap:=[(0,(true,.cells 155 (Cs c.Sys))),(1,(true,.map ⟨true,[.int .i64,.int .i64]⟩ (c.Tl.map Et))),(2,(true,.map ⟨true,[.int .i64,.int .i64]⟩ (c.Op.map CO)))]
def Jv(c:BZ)(j:Nat):Am (BN c) j=true↔j<3:=by
 simp only[Am,BN,hget];by_cases h0:j=0
 .subst h0;simp
 .by_cases Q:j=1
  .subst Q;simp
  .by_cases Z:j=2
   .subst Z;simp
   .have z:(0==j)=false:=by simp;omega
    have G:(1==j)=false:=by simp;omega
    have O:(2==j)=false:=by simp;omega
    simp[z,G,O];omega
def JJ(c:BZ):Prop:=Cu c.Sys.Set/\Zw c.Sys.Set (CA c.Tl)/\c.Sys.Set.Tiles.length<=1000000
def lookC.ca(a:BZ×Ab):List AV:=[.ptr 0 0,.im (.agg [.int .i64 a.2.X,.int .i64 a.2.Y])]
def lookC.H1(a:BZ×Ab):Ap:=[(2,(true,.map ⟨true,[.int .i64,.int .i64]⟩ ((G2 a.1.Sys (CA a.1.Tl) a.1.Op a.2 4).map CO)))]
def tA(j:Nat):Bool:=j==2
def lookC.row:A7:=AF lookC.ca (λa=>BN a.1) 3 (λa=>JJ a.1/\HB a.2) tA (λ_=> .im (.tup [])) lookC.H1 0
def lookC.ok:AA Tryz.prog 103 lookC.row:=by
 refine ow (tC step_.ok (tC fitsC.ok tN)) Tryz.func103 rfl (by kernel_rfl) (exB:=λ_=>false) (R:=λ_ r=>r= .im (.tup [])) (λ_=>rfl)
  (λa=>by simp[lookC.ca,BN,Cs,Av,AV.bel,Ac,A9,BK,Ad.nms,AC,AV.nms,Am,hget]) (λa p hp=> ?_) (λa r h=>by subst h;exact C8.refl _) ?_
 rotate_left
 intro a G;simp only[Tryz.f103,lookC.ca,BN,Cs,lookC.H1];simp(disch:=omega)only[ZA,simprocAttr];obtain⟨⟨Q,Z,ad⟩,z⟩:=G;refine AR.old ⟨{k:Nat//k<=4},λk=>⟨[(8,.im (.int .i64 k.1)),(3,.ptr 3 0),(0,.ptr 0 0)],[(3,(true,.cells 96 [.im (.int .i64 a.2.X),.im (.int .i64 a.2.Y)])),(0,(true,.cells 155 (Cs a.1.Sys))),(1,(true,.map ⟨true,[.int .i64,.int .i64]⟩ (a.1.Tl.map Et))),(2,(true,.map ⟨true,[.int .i64,.int .i64]⟩ ((G2 a.1.Sys (CA a.1.Tl) a.1.Op a.2 k.1).map CO)))],4⟩,λk=>4 - k.1,λk=>⟨by simp[Aj.good,An,Ac,A9,AV.bel,Av,Cs],AN _⟩,⟨⟨0,by simp⟩,by simp(disch:=omega)only[ZA,simprocAttr,Cs,sub,G2,Cs]⟩,λk=> ?_⟩;obtain⟨k,ac⟩:=k;simp only[Cs];simp(disch:=omega)only[ZA,simprocAttr,step_.q,step_.fv,step_.re,tA,AP];have hq:HB a.2:=z;refine⟨λhk=>⟨⟨z,by omega⟩,λhn=> ?_⟩,λhk=> ?_⟩
 .refine AR.ren ⟨{j:Nat//j<=a.1.Sys.Set.Tiles.length},λj=>⟨[(21,.im (.int .i64 j.1)),(20,.im (.int .i64 a.1.Sys.Set.Tiles.length)),(6,.own 6),(5,.ptr 4 0),(8,.im (.int .i64 k)),(3,.ptr 3 0),(0,.ptr 0 0)],[(6,(true,.arr 2 1 ((FK a.1.Sys (CA a.1.Tl) (Co a.2 k) j.1).map Al))),(4,(true,.cells 96 [.im (.int .i64 (Co a.2 k).X),.im (.int .i64 (Co a.2 k).Y)])),(3,(true,.cells 96 [.im (.int .i64 a.2.X),.im (.int .i64 a.2.Y)])),(0,(true,.cells 155 (Cs a.1.Sys))),(1,(true,.map ⟨true,[.int .i64,.int .i64]⟩ (a.1.Tl.map Et))),(2,(true,.map ⟨true,[.int .i64,.int .i64]⟩ ((G2 a.1.Sys (CA a.1.Tl) a.1.Op a.2 k).map CO)))],7⟩,λj=>a.1.Sys.Set.Tiles.length - j.1,λj=>⟨by simp[Aj.good,An,Ac,A9,AV.bel,Av,Cs],by simp⟩,⟨⟨0,by simp⟩,[(6,some 5)],?_⟩,λj=> ?_⟩
  .simp only[A8,Cs];simp(disch:=omega)only[ZA,simprocAttr,Bz,FK]
   try simp
  obtain⟨j,ab⟩:=j;simp only[Cs];simp(disch:=omega)only[ZA,simprocAttr,CB,fitsC.q,fitsC.fv,D5,AP,sub];have aa:=Qus a.1.Sys (CA a.1.Tl) (Co a.2 k) j;refine⟨λhj=>⟨⟨Q,Z,by omega,by omega⟩,λhf=>⟨by omega,⟨j+1,by omega⟩,[(6,some 8)],by simp only;omega,?_⟩,λhf=>⟨⟨j+1,by omega⟩,[(6,some 6)],by simp only;omega,?_⟩⟩,λhj=> ?_⟩
  .simp only[A8];simp(disch:=omega)only[ZA,simprocAttr,Bz];refine⟨?_,?_⟩
   .rw[AG (by omega) (by omega)];omega
   .simp[FK,hf,Al]
  .simp only[A8];simp(disch:=omega)only[ZA,simprocAttr,Bz];refine⟨?_,?_⟩
   .rw[AG (by omega) (by omega)];omega
   .simp[FK,hf]
  have O:j=a.1.Sys.Set.Tiles.length:=by omega
  subst O;rw[gE,Rh];have hl:(0:Int)<((FK a.1.Sys (CA a.1.Tl) (Co a.2 k) a.1.Sys.Set.Tiles.length).length:Int)↔FK a.1.Sys (CA a.1.Tl) (Co a.2 k) a.1.Sys.Set.Tiles.length≠[]:=by
   rw[<-jA];omega
  intro _;refine⟨λh0=>⟨⟨k+1,by omega⟩,by simp only;omega,?_,?_⟩,λh0=>⟨⟨k+1,by omega⟩,by simp only;omega,?_,?_⟩⟩
  .rw[AG (by omega) (by omega)];simp only;omega
  .simp only[G2,J0];rw[Ag (hl.1 h0)]
  .rw[AG (by omega) (by omega)];simp only;omega
  .simp only[G2,J0];rw[Ao (F8.1 (λh=>h0 (hl.2 h)))]
 .have:k=4:=by omega
  subst this;simp[tA]
 simp[lookC.H1] at hp;subst hp;exact .inl ⟨by omega,rfl,rfl⟩
def iT{β:Type}(p q:Ab)(v:β): ∀(l:List (Ab×β)),B7 (B3 l p v) q=if q=p then some v else B7 l q
 |[]=>by simp[B3,B7]
 |(k,w)::r=>by
  simp only[B3];by_cases h:p=k
  .subst h;rw[Ao rfl];simp only[B7];by_cases z:q=p
   .rw[Ao z,Ao z]
   .rw[Ag z,Ag z,Ag z]
  .rw[Ag h];simp only[B7,iT p q v r];by_cases z:q=k
   .rw[Ao z,Ao z,Ag (λG=>h (G.symm.trans z))]
   .rw[Ag z,Ag z]
def CJ(l:List Ak):List (Ab×Int):=l.foldl (λt x=>B3 t x.At x.Tile) []
def Pc(l:List Ak)(x:Ak):CJ (l++[x])=B3 (CJ l) x.At x.Tile:=by simp[CJ]
def Hz(s:Az)(f:Ab->Int)(l:List Ak):List (Ab×List Int):=l.foldl (λo x=>G2 s f o x.At 4) []
def Ow(s:Az)(f:Ab->Int)(l:List Ak)(x:Ak):Hz s f (l++[x])=G2 s f (Hz s f l) x.At 4:=by simp[Hz]
def Yt{s:AB}: ∀(l:List Ak),(∀x∈l,Gc s x.Tile)->Zw s (CA (CJ l)):=by
 intro l;have G: ∀(l:List Ak) (t:List (Ab×Int)),(∀p v,B7 t p=some v->Gc s v)->(∀x∈l,Gc s x.Tile)-> ∀p v,B7 (l.foldl (λt x=>B3 t x.At x.Tile) t) p=some v->Gc s v:=by
  intro l;induction l with
  |nil=>intro t h _;exact h
  |cons x r ih=>
   intro t h O;refine ih _ ?_ (λy Q=>O y (BR _ Q));intro p v z;rw[iT] at z;split at z
   .cases z;exact O x (BM ..)
   .exact h p v z
 intro h p hp
 have:=G l [] (by intro p v h;simp[B7] at h) h p
 simp only[CA,CJ] at hp⊢;cases hq:B7 (l.foldl (λt x=>B3 t x.At x.Tile) []) p with
 |none=>rw[hq] at hp;simp at hp
 |some v=>exact this v hq
def YV{α:Type}{l:List α}{k:Nat}{x:α}(h:l[k]? =some x):l.take (k+1)=l.take k++[x]:=by rw[GO,h];rfl
def YR(s:Az)(a:Ah):BZ:=⟨s,CJ a.Tiles,Hz s (CA (CJ a.Tiles)) a.Tiles⟩
def newC.ca(a:Az×Ah):List AV:=[.im (.agg (Az.c a.1)),.im (.agg (Ah.c a.2))]
def newC.H1(a:Az×Ah):Ap:=[(4,(true,.cells 155 [.im (.sl false 2 (a.1.Set.Glues.map Ar.c)),.im (.sl false 2 (a.1.Set.Tiles.map Tile.c)),.im (.sl false 3 (a.1.Seed.Tiles.map Ak.c)),.im (.int .i64 a.1.Temperature),.mp 2,.mp 3])),
 (2,(true,.map ⟨true,[.int .i64,.int .i64]⟩ ((YR a.1 a.2).Tl.map Et))),(3,(true,.map ⟨true,[.int .i64,.int .i64]⟩ ((YR a.1 a.2).Op.map CO)))]
def newC.pre(a:Az×Ah):Prop:=Cu a.1.Set/\a.1.Set.Tiles.length<=1000000/\ ∀x∈a.2.Tiles,Gc a.1.Set x.Tile/\HB x.At
def newC.ex(j:Nat):Bool:=j==2||(j==3||j==4)
def noB(_:Nat):Bool:=false
def newC.row:A7:=AF newC.ca (λ_=>[]) 0 newC.pre noB (λ_=> .ptr 4 0) newC.H1 5
def newC.ok:AA Tryz.prog 53 newC.row:=by
 refine ow (tC lookC.ok tN) Tryz.func53 rfl (by kernel_rfl) (exB:=newC.ex) (R:=λ_ r=>r= .ptr 4 0) (λ_=>rfl)
  (λa=>by simp[newC.ca,Az.c,Ah.c,Av,AV.bel,Ac,A9,BK]) (λa p hp=> ?_) (λa r h=>by subst h;exact C8.refl _) ?_
 rotate_left
 intro a O;simp only[Tryz.f53,newC.ca,newC.H1,Az.c,Ah.c];simp(disch:=omega)only[ZA,simprocAttr];obtain⟨aa,ab,G⟩:=O;intro hn;refine AR.old ⟨{k:Nat//k<=a.2.Tiles.length},λk=>⟨[(18,.im (.int .i64 k.1)),(17,.im (.int .i64 a.2.Tiles.length)),(16,.im (.sl false 3 (a.2.Tiles.map Ak.c))),(5,.ptr 4 0),(4,.im .nilp),(3,.ptr 1 0)],[(4,(true,.cells 155 [.im (.sl false 2 (a.1.Set.Glues.map Ar.c)),.im (.sl false 2 (a.1.Set.Tiles.map Tile.c)),.im (.sl false 3 (a.1.Seed.Tiles.map Ak.c)),.im (.int .i64 a.1.Temperature),.mp 2,.mp 3])),(3,(true,.map ⟨true,[.int .i64,.int .i64]⟩ ([]))),(2,(true,.map ⟨true,[.int .i64,.int .i64]⟩ ((CJ (a.2.Tiles.take k.1)).map Et))),(1,(true,.cells 39 [.im (.sl false 3 (a.2.Tiles.map Ak.c))]))],5⟩,λk=>a.2.Tiles.length - k.1,λk=>⟨by simp[Aj.good,An,Ac,A9,AV.bel,Av],AN _⟩,⟨⟨0,by simp⟩,by simp(disch:=omega)only[ZA,simprocAttr,sub,CJ,zE]⟩,λk=> ?_⟩;obtain⟨k,Z⟩:=k;simp(disch:=omega)only[ZA,simprocAttr,sub,AP];refine⟨λz=>⟨z,λx Q=> ?_⟩,λz=> ?_⟩
 .refine⟨⟨k+1,by omega⟩,by simp only;omega,?_,?_⟩
  .rw[AG (by omega) (by omega)];simp only;omega
  .rw[Ux,YV Q,Pc]
 rw[DB (by omega)];intro _;refine AR.old ⟨{k:Nat//k<=a.2.Tiles.length},λk=>⟨[(34,.im (.int .i64 k.1)),(33,.im (.int .i64 a.2.Tiles.length)),(32,.im (.sl false 3 (a.2.Tiles.map Ak.c))),(5,.ptr 4 0),(4,.im .nilp),(3,.ptr 1 0)],[(4,(true,.cells 155 [.im (.sl false 2 (a.1.Set.Glues.map Ar.c)),.im (.sl false 2 (a.1.Set.Tiles.map Tile.c)),.im (.sl false 3 (a.1.Seed.Tiles.map Ak.c)),.im (.int .i64 a.1.Temperature),.mp 2,.mp 3])),(3,(true,.map ⟨true,[.int .i64,.int .i64]⟩ ((Hz a.1 (CA (CJ a.2.Tiles)) (a.2.Tiles.take k.1)).map CO))),(2,(true,.map ⟨true,[.int .i64,.int .i64]⟩ ((CJ a.2.Tiles).map Et))),(1,(true,.cells 39 [.im (.sl false 3 (a.2.Tiles.map Ak.c))]))],5⟩,λk=>a.2.Tiles.length - k.1,λk=>⟨by simp[Aj.good,An,Ac,A9,AV.bel,Av],AN _⟩,⟨⟨0,by simp⟩,by simp(disch:=omega)only[ZA,simprocAttr,sub,Hz,zE]⟩,λk=> ?_⟩;obtain⟨k,Z⟩:=k;simp(disch:=omega)only[ZA,simprocAttr,newC.ex,AP];refine⟨λz=>⟨z,λx Q=> ?_⟩,λz=> ?_⟩
 .refine AF.os (⟨a.1,CJ a.2.Tiles,Hz a.1 (CA (CJ a.2.Tiles)) (a.2.Tiles.take k)⟩,x.At) [4,2,3] ⟨⟨aa,Yt _ (λy hy=>(G y hy).1),ab⟩,(G x (AY Q)).2⟩ (λj=>Jv _ j) rfl rfl ?_ ?_
  .simp(disch:=omega)only[ZA,simprocAttr,D5,lookC.ca,BN,Cs]
  .simp(disch:=omega)only[ZA,simprocAttr,D5,lookC.H1,tA,sub];refine⟨⟨k+1,by omega⟩,by simp only;omega,?_,?_⟩
   .rw[AG (by omega) (by omega)];simp only;omega
   .rw[YV Q,Ow]
 .rw[DB (by omega)];exact⟨rfl,rfl⟩
 simp[newC.H1] at hp;rcases hp with rfl|rfl|rfl
 .exact .inr ⟨by omega,by simp,rfl,rfl⟩
 .exact .inr ⟨by omega,by simp,rfl,rfl⟩
 .exact .inr ⟨by omega,by simp,rfl,rfl⟩
def Gd(a:Ah)(i:Int):Int:=(a.Tiles[i.toNat]?.map Ak.Tile).getD (-1)
def Wo(s:AB)(a:Ah)(i:Nat)(d:Int):List Af:=
 if 0<=GB a i d then if 0<K3 s (Gd a i) d (Gd a (GB a i d)) then [⟨i,GB a i d,K3 s (Gd a i) d (Gd a (GB a i d))⟩] else [] else []
def J5(s:AB)(a:Ah)(i:Nat):Nat->List Af
 |0=>[]
 |k+1=>J5 s a i k++Wo s a i (1 - k)
def Fl(s:AB)(a:Ah):Nat->List Af
 |0=>[]
 |k+1=>Fl s a k++J5 s a k 2
def NG(s:AB)(a:Ah)(i:Nat)(d:Int):(Wo s a i d).length<=1:=by
 simp only[Wo];split
 .split<;>simp
 .simp
def Ql7(s:AB)(a:Ah)(i:Nat): ∀k,(J5 s a i k).length<=k
 |0=>by simp[J5]
 |k+1=>by
  have z:=Ql7 s a i k;have G:=NG s a i (1 - k);simp only[J5,Dn];omega
def oD(s:AB)(a:Ah): ∀k,(Fl s a k).length<=2*k
 |0=>by simp[Fl]
 |k+1=>by
  have z:=oD s a k;have G:=Ql7 s a k 2;simp only[Fl,Dn];omega
def eM{A:Type}(p:A->Bool)(l:List A):Bn p 0 l<(l.length:Int):=by
 rcases Px p l 0 with ⟨_,h⟩|⟨i,x,_,h,z⟩
 .omega
 .have:=(Cd.1 z).1
  omega
def JZ(a:Ah)(i d:Int):GB a i d<(a.Tiles.length:Int):=eM _ _
def l06Bonds.fv(a:AB×Ah):List Af:=(λs a=>Fl s a a.Tiles.length) (a.1) (a.2)
def l06Bonds.row:A7:=vK (b2 (qP 2 AB.d_le) (qP 1 Ah.d_le)) (rS Af.d_le Af.c_n) (λa=>Cu a.1/\Hm a.1 a.2/\a.2.Tiles.length<=1000000) l06Bonds.fv
def l06Bonds.q:=AU (R:=l06Bonds.row) rfl
def l06Bonds.ok:AA Tryz.prog 207 l06Bonds.row:=by
 refine vw (tC l06Neighbor.ok (tC l02Bond.ok tN)) Tryz.func207 rfl (by kernel_rfl) ?_;intro a z;simp only[Tryz.f207];simp(disch:=omega)only[ZA,simprocAttr,l06Bonds.fv];obtain⟨h1,Q,h3⟩:=z;refine AR.ren ⟨{k:Nat//k<=a.2.Tiles.length},λk=>⟨[(6,.im (.int .i64 k.1)),(5,.own 4),(0,.ptr 0 0),(1,.ptr 1 0)],[(4,(true,.arr 318 3 ((Fl a.1 a.2 k.1).map Af.c))),(0,(false,.view (AB.c a.1))),(1,(false,.view (Ah.c a.2)))],5⟩,λk=>a.2.Tiles.length - k.1,λk=>⟨by simp[Aj.good,An,Ac,A9,AV.bel],by simp⟩,⟨⟨0,by simp⟩,[(4,some 3)],?_⟩,λk=> ?_⟩
 .simp only[A8];simp(disch:=omega)only[ZA,simprocAttr,Bz,Fl]
 obtain⟨k,ad⟩:=k;simp(disch:=omega)only[ZA,simprocAttr,AP];intro ab;refine⟨λhk=> ?_,λhk=> ?_⟩
 .refine AR.ren ⟨{j:Nat//j<=2},λj=>⟨[(7,.im (.int .i64 (1 - (j.1:Int)))),(6,.im (.int .i64 k)),(5,.own 5),(0,.ptr 0 0),(1,.ptr 1 0)],[(5,(true,.arr 318 3 ((Fl a.1 a.2 k++J5 a.1 a.2 k j.1).map Af.c))),(0,(false,.view (AB.c a.1))),(1,(false,.view (Ah.c a.2)))],6⟩,λj=>2 - j.1,λj=>⟨by simp[Aj.good,An,Ac,A9,AV.bel],by simp⟩,⟨⟨0,by simp⟩,[(5,some 4)],?_⟩,λj=> ?_⟩
  .simp only[A8];simp(disch:=omega)only[ZA,simprocAttr,Bz,J5]
   try simp
  obtain⟨j,ac⟩:=j;simp(disch:=omega)only[ZA,simprocAttr,Ah.d,l06Neighbor.q,l06Neighbor.fv,l02Bond.q,l02Bond.fv,AP,Nf,Na,BC,D.one];have aa:=JZ a.2 k (1 - j);have af:=oD a.1 a.2 k;have ag:=Ql7 a.1 a.2 k j;refine⟨λhd=>⟨⟨Q.1,hk,hd,by omega⟩,λhn=>⟨⟨j+1,by omega⟩,[(5,some 5)],by simp only;omega,?_⟩,λhn=>⟨hk,λx hx=>⟨by omega,aa,λy hy=>⟨⟨h1,Q.2 x (AY hx),⟨by omega,by omega⟩,Q.2 y (AY hy)⟩,λhb=>⟨by simp only[Dn];omega,⟨j+1,by omega⟩,[(5,some 7)],by simp only;omega,?_⟩,λhb=>⟨⟨j+1,by omega⟩,[(5,some 5)],by simp only;omega,?_⟩⟩⟩⟩⟩,λhd=>⟨⟨k+1,by omega⟩,[(4,some 5)],by simp only;omega,?_⟩⟩
  .simp only[A8];simp(disch:=omega)only[ZA,simprocAttr,Bz];refine⟨?_,?_⟩
   .rw[AG (by omega) (by omega)];omega
   .simp only[J5,Wo];rw[Ag (by omega),DA]
  .simp only[A8];simp(disch:=omega)only[ZA,simprocAttr,Bz];refine⟨?_,?_⟩
   .rw[AG (by omega) (by omega)];omega
   .have G:Gd a.2 k=x.Tile:=by simp[Gd,hx]
    have O:Gd a.2 (GB a.2 k (1 - j))=y.Tile:=by simp only[Gd];rw[hy];rfl
    simp only[J5,Wo];rw[Ao (by omega),G,O,Ao hb];simp[Af.c]
  .simp only[A8];simp(disch:=omega)only[ZA,simprocAttr,Bz];refine⟨?_,?_⟩
   .rw[AG (by omega) (by omega)];omega
   .have G:Gd a.2 k=x.Tile:=by simp[Gd,hx]
    have O:Gd a.2 (GB a.2 k (1 - j))=y.Tile:=by simp only[Gd];rw[hy];rfl
    simp only[J5,Wo];rw[Ao (by omega),G,O,Ag hb,DA]
  .simp only[A8];simp(disch:=omega)only[ZA,simprocAttr,Bz];have Z:j=2:=by omega
   subst Z;refine⟨?_,?_⟩
   .rw[AG (by omega) (by omega)];omega
   .simp only[Fl]
 .have:k=a.2.Tiles.length:=by omega
  rw[this]
def Iu:List Int->List Int->Bool
 |x::r,y::s=>if x=y then Iu r s else decide (x<y)
 |_,_=>false
def FO(v:Int)(l:List Int)(w:Int)(m:List Int):Bool:=if v=w then if l.length=m.length then Iu l m else decide (l.length<m.length) else decide (v<w)
def l07Before.fv(a:Int×(List Int)×Int×(List Int)):Bool:=(FO) (a.1) (a.2.1) (a.2.2.1) (a.2.2.2)
def l07Before.row:A7:=vK (b4 qI (qS DU Dc) qI (qS DU Dc)) rB (λa=>True) l07Before.fv
def l07Before.q:=AU (R:=l07Before.row) rfl
def l07Before.ok:AA Tryz.prog 244 l07Before.row:=by
 refine vw tN Tryz.func244 rfl (by kernel_rfl) ?_;intro a aa;simp only[Tryz.f244];simp(disch:=omega)only[ZA,simprocAttr,l07Before.fv]
 split<;>rename_i h
 .simp only[FO];rw[Ag h]
 intro ac ad
 split<;>rename_i h2
 .intro _ _;simp only[FO];rw[Ao (F8.1 h),Ag (by omega)]
 have hn:a.2.1.length=a.2.2.2.length:=by omega
 have hb:FO a.1 a.2.1 a.2.2.1 a.2.2.2=Iu a.2.1 a.2.2.2:=by simp only[FO];rw[Ao (F8.1 h),Ao hn]
 rw[hb];refine AR.old ⟨{k:Nat//k<=a.2.1.length/\Iu (a.2.1.drop k) (a.2.2.2.drop k)=Iu a.2.1 a.2.2.2},λk=>⟨[(9,.im (.int .i64 k.1)),(8,.im (.bool false)),(0,.im (.int .i64 a.1)),(1,.im (.sl false 1 (a.2.1.map Al))),(2,.im (.int .i64 a.2.2.1)),(3,.im (.sl false 1 (a.2.2.2.map Al)))],[],0⟩,λk=>a.2.1.length - k.1,λk=>⟨by simp[Aj.good,An,Ac,A9,AV.bel],AN _⟩,⟨⟨0,by simp⟩,by simp(disch:=omega)only[ZA,simprocAttr,sub]⟩,λk=> ?_⟩;obtain⟨k,ab,z⟩:=k;simp(disch:=omega)only[ZA,simprocAttr,sub,AP];intro _;refine⟨λQ=>⟨Q,λx hx=>⟨by omega,λy hy=>⟨λZ=>⟨Q,λx' G=>⟨by omega,λy' O=> ?_⟩⟩,λhe=> ?_⟩⟩⟩,λQ=> ?_⟩
 .rw[hx] at G;rw[hy] at O;obtain rfl:=AE G;obtain rfl:=AE O;rw[Eu hx,Eu hy,Iu,Ag Z] at z;exact z
 .rw[Eu hx,Eu hy,Iu,Ao (F8.1 he)] at z;refine⟨⟨k+1,by omega,z⟩,by simp only;omega,?_⟩;rw[AG (by omega) (by omega)];simp only;omega
 .rw[CZ (by omega),Iu] at z
  .exact z
  .intros;simp_all
def Qpo: ∀(l m:List Ab),l.Nodup->(∀x∈l,x∈m)->l.length<=m.length
 |[],_,_,_=>CF _
 |x::r,m,z,O=>by
  simp only[Ip] at z;have Z:x∈m:=O x (BM ..)
  have:=Qpo r (m.erase x) z.2 (λy hy=>by
   have G:y≠x:=λh=>z.1 (h▸hy)
   exact (List.mem_erase_of_ne G).2 (O y (BR _ hy)))
  rw[List.length_erase_of_mem Z] at this;have Q:0<m.length:=ZeI Z;simp only[CY];omega
def Qix{l:List Ak}(h:BV none l=true):(l.map Ak.At).Nodup:=by
 have z:=(Y7 _ _ h).2;clear h;revert z;induction l with
 |nil=>intro _;simp
 |cons x r ih=>
  intro z;simp only[Bd,Ip];refine⟨λhm=> ?_,ih (λi j a b Z G hb=>z (i+1) (j+1) a b (by omega) (by simpa using G) (by simpa using hb))⟩;obtain⟨y,hy,O⟩:=Bm.1 hm;obtain⟨i,Q⟩:=P7.1 hy
  have:=z 0 (i+1) x y (by omega) rfl (by simpa using Q)
  rw[O,Wi] at this;cases this
def Qxu(n:Nat)(rows:List (List D)):(Bl rows).all (Av n)=true:=by
 simp only[Bl,List.all_map,Dp,Function.comp];intro r z;clear z;induction r with
 |nil=>simp[Av]
 |cons x r ih=>simp[Av,AV.bel,ih]
def Lj(F:List Nat)(H:Ap): ∀(r:List D),Dw F H (r.map .im)=r.map .im
 |[]=>rfl
 |x::r=>by simp only[Bd,Dw,AV.fzA,Lj F H r]
def Lk(F:List Nat)(H:Ap): ∀(rows:List (List D)),Dx F H (Bl rows)=Bl rows
 |[]=>rfl
 |x::r=>by
  have:=Lk F H r
  simp only[Bl] at this;simp only[Bl,Bd,Dx,Lj,this]
def Qzl(F:List Nat)(H:Ap): ∀(a b:List (List AV)),Dx F H (a++b)=Dx F H a++Dx F H b
 |[],b=>rfl
 |x::r,b=>by simp only[CX,Dx,Qzl F H r b]
def Sw(π:List (Nat×Option Nat)): ∀(r:List D),Dz π (r.map .im) (r.map .im)
 |[]=>by simp[Dz]
 |x::r=>by simp only[Bd,Dz,mt,Sw π r,GQ]
def yK(π:List (Nat×Option Nat)): ∀(rows:List (List D)),Gk π (Bl rows) (Bl rows)
 |[]=>by simp[Gk,Bl]
 |x::r=>by
  have:=yK π r
  simp only[Bl] at this;simp only[Bl,Bd,Gk,Sw,this,GQ]
def Qzb(F:List Nat)(H:Ap)(rows:List (List D)):Dx F H (rows.map λr=>r.map AV.im)=rows.map λr=>r.map AV.im:=Lk F H rows
def qL(π:List (Nat×Option Nat))(rows:List (List D)):Gk π (rows.map λr=>r.map AV.im) (rows.map λr=>r.map AV.im)=True:=Zk (yK π rows)
def Q8(n:Nat)(rows:List (List D)):(rows.map λr=>r.map AV.im).all (Av n)=true:=Qxu n rows
def Qtl{α β:Type}{f:α->Option β}{g:β->α}(h: ∀y,f (g y)=some y): ∀(l:List β),Ax f (l.map g)=some l
 |[]=>rfl
 |x::r=>by simp only[Bd,Ax,h,Qtl h r]
def WI(h:Nat->Option Aq)(kx:Nat->Option Nat)(n:Nat)(rows:List (List D)):Ax (Ax λx=>DW (Bb h kx (n+1) x)) (rows.map λr=>r.map AV.im)=some rows:=
 Qtl (g:=λr=>r.map AV.im) (λy=>Qtl (g:=AV.im) (λ_=>rfl) y) rows
def HE{A:Type}(f:A->A):Nat->List A->List A
 |0,l=>l
 |_+1,[]=>[]
 |k+1,x::r=>f x::HE f k r
def Qwq{A:Type}(f:A->A): ∀(k:Nat) (l:List A),(HE f k l).length=l.length
 |0,_=>rfl
 |_+1,[]=>rfl
 |k+1,x::r=>by simp only[HE,CY,Qwq f k r]
def Qoo{A:Type}(f:A->A): ∀(k:Nat) (l:List A),(HE f k l)[k]? =l[k]?
 |0,_=>rfl
 |_+1,[]=>by simp[HE]
 |k+1,x::r=>by simp only[HE,Jd,Qoo f k r]
def Qn5{A:Type}(f:A->A): ∀(k:Nat) (l:List A) (x:A),l[k]? =some x->(HE f k l).set k (f x)=HE f (k+1) l
 |0,[],x,h=>by simp at h
 |0,y::r,x,h=>by
  simp only[GL,AI] at h;subst h;simp[HE]
 |k+1,[],x,h=>by simp at h
 |k+1,y::r,x,h=>by
  have:=Qn5 f k r x (by simpa using h)
  rw[HE,HE,jC,this]
def Qabf{A:Type}(f:A->A)(k:Nat)(l:List A)(x:A)(h:l[k]? =some x)(hf:f x=x):HE f (k+1) l=HE f k l:=by
 rw[<-Qn5 f k l x h,hf];have z:(HE f k l)[k]? =some x:=by rw[Qoo,h]
 obtain⟨G,O⟩:=Cd.1 z;rw[<-O];exact List.set_getElem_self G
def Qvd{A:Type}(f:A->A): ∀(k:Nat) (l:List A),l.length<=k->HE f k l=l.map f
 |0,[],_=>rfl
 |0,x::r,h=>by simp at h
 |_+1,[],_=>rfl
 |k+1,x::r,h=>by simp only[HE,Bd,Qvd f k r (by simpa using h)]
def Wq:Nat->List Int
 |0=>[]
 |k+1=>Wq k++[(k:Int)]
def bO: ∀k,(Wq k).length=k
 |0=>rfl
 |k+1=>by simp[Wq,bO k]
def IY(x y v:Int):Int:=if v=Ec x y then EC x y else v
def pO(own:List Int)(b:Af):List Int:=own.map (IY (own[b.A.toNat]?.getD 0) (own[b.B.toNat]?.getD 0))
def BX(n:Nat)(bs:List Af):Nat->List Int
 |0=>Wq n
 |k+1=>match bs[k]? with
  |some b=>pO (BX n bs k) b
  |none=>BX n bs k
def Qto(n:Nat)(bs:List Af): ∀k,(BX n bs k).length=n
 |0=>bO n
 |k+1=>by
  simp only[BX];split
  .simp[pO,Qto n bs k]
  .exact Qto n bs k
def CQ(own:List Int)(i:Nat):Nat->List Int
 |0=>[]
 |k+1=>CQ own i k++(if own[i+k]? =some (i:Int) then [((i+k:Nat):Int)] else [])
def Qsd(own:List Int)(i:Nat): ∀k,(CQ own i k).length<=k
 |0=>by simp[CQ]
 |k+1=>by
  have:=Qsd own i k
  simp only[CQ,Dn]
  split<;>simp<;>omega
def B4(own:List Int)(n:Nat):Nat->List (List Int)
 |0=>[]
 |k+1=>B4 own n k++(if own[k]? =some (k:Int) then [CQ own k (n - k)] else [])
def oL(own:List Int)(n:Nat): ∀k,(B4 own n k).length<=k
 |0=>by simp[B4]
 |k+1=>by
  have:=oL own n k
  simp only[B4,Dn]
  split<;>simp<;>omega
def UF(n:Int)(bs:List Af):List (List Int):=B4 (BX n.toNat bs bs.length) n.toNat n.toNat
def K0(n:Int)(bs:List Af):Prop:= ∀b∈bs,0<=b.A/\b.A<n/\0<=b.B/\b.B<n
def l06Groups.fv(a:Int×(List Af)):List (List Int):=(UF) (a.1) (a.2)
def l06Groups.row:A7:=vK (b2 qI (qS Af.d_le Af.c_n)) (rS cB Mt) (λa=>0<=a.1/\a.1<=1000000/\K0 a.1 a.2) l06Groups.fv
def l06Groups.q:=AU (R:=l06Groups.row) rfl
def l06Groups.ok:AA Tryz.prog 238 l06Groups.row:=by
 refine vw (tC l00Min.ok (tC l00Max.ok tN)) Tryz.func238 rfl (by kernel_rfl) ?_;intro a ad;simp only[Tryz.f238];simp(disch:=omega)only[ZA,simprocAttr,l06Groups.fv];obtain⟨aj,ak,Z⟩:=ad;obtain⟨n,hn⟩: ∃n:Nat,a.1=n:=⟨a.1.toNat,by omega⟩;simp only[UF,hn,Bt];rw[hn] at aj ak Z;refine AR.ren ⟨{k:Nat//k<=n},λk=>⟨[(6,.im (.int .i64 k.1)),(5,.own 2),(0,.im (.int .i64 n)),(1,.im (.sl false 3 (a.2.map Af.c)))],[(2,(true,.arr 2 1 ((Wq k.1).map Al)))],3⟩,λk=>n - k.1,λk=>⟨by simp[Aj.good,An,Ac,A9,AV.bel],by simp⟩,⟨⟨0,by simp⟩,[(2,some 1)],?_⟩,λk=> ?_⟩
 .simp only[A8];simp(disch:=omega)only[ZA,simprocAttr,Wq]
  try simp
 obtain⟨k,Q⟩:=k;simp(disch:=omega)only[ZA,simprocAttr,AP,Nf,Na,BC,D.one];have ab:=bO k;refine⟨λz=>⟨by rw[ab];omega,⟨k+1,by omega⟩,[(2,some 4)],by simp only;omega,?_⟩,λz=> ?_⟩
 .simp only[A8];simp(disch:=omega)only[ZA,simprocAttr];refine⟨by rw[AG (by omega) (by omega)];omega,by simp[Wq,Al]⟩
 have ag:n=k:=by omega
 subst ag;clear ab z Q;refine AR.old ⟨{k:Nat//k<=a.2.length},λk=>⟨[(7,.im (.int .i64 k.1)),(5,.own 2),(0,.im (.int .i64 n)),(1,.im (.sl false 3 (a.2.map Af.c)))],[(2,(true,.arr 2 1 ((BX n a.2 k.1).map Al)))],3⟩,λk=>a.2.length - k.1,λk=>⟨by simp[Aj.good,An,Ac,A9,AV.bel],by simp⟩,⟨⟨0,by simp⟩,by simp(disch:=omega)only[ZA,simprocAttr,sub,BX]⟩,λk=> ?_⟩;obtain⟨k,Q⟩:=k;have G:=Qto n a.2 k;simp(disch:=omega)only[ZA,simprocAttr,AP,G];intro _;refine⟨λz=>⟨z,λb hb=> ?_⟩,λz=> ?_⟩
 .obtain⟨b1,b2,b3,b4⟩:=Z b (AY hb);refine⟨b1,b2,by omega,λx hx=>⟨z,λb' aa=> ?_⟩⟩;rw[hb] at aa;obtain rfl:=AE aa;refine⟨b3,b4,by omega,λy hy=> ?_⟩;refine AR.old ⟨{j:Nat//j<=n},λj=>⟨[(10,.im (.int .i64 j.1)),(9,.im (.int .i64 y)),(8,.im (.int .i64 x)),(7,.im (.int .i64 k)),(5,.own 2),(0,.im (.int .i64 n)),(1,.im (.sl false 3 (a.2.map Af.c)))],[(2,(true,.arr 2 1 ((HE (IY x y) j.1 (BX n a.2 k)).map Al)))],3⟩,λj=>n - j.1,λj=>⟨by simp[Aj.good,An,Ac,A9,AV.bel],by simp⟩,⟨⟨0,by simp⟩,by simp(disch:=omega)only[ZA,simprocAttr,sub,HE]⟩,λj=> ?_⟩;obtain⟨j,ao⟩:=j;have ac:=Qwq (IY x y) j (BX n a.2 k);rw[G] at ac;have ah:=Qoo (IY x y) j (BX n a.2 k);simp(disch:=omega)only[ZA,simprocAttr,l00Min.q,l00Min.fv,l00Max.q,l00Max.fv,sub,AP,ac];intro _;refine⟨λhj=>⟨hj,hj,λv hv=> ?_⟩,λhj=> ?_⟩
  .have av:=hv;rw[ah] at hv;refine⟨λO=>⟨hj,hj,λv' au=>⟨⟨j+1,by omega⟩,by simp only;omega,by rw[AG (by omega) (by omega)];simp only;omega,?_⟩⟩,λO=>⟨⟨j+1,by omega⟩,by simp only;omega,by rw[AG (by omega) (by omega)];simp only;omega,?_⟩⟩
   .rw[<-Qn5 _ _ _ _ hv,JG];simp only[IY,O,BI,Al]
   .rw[Qabf _ _ _ _ hv (by simp only[IY];rw[Ag O])]
  .refine⟨⟨k+1,by omega⟩,by simp only;omega,by rw[AG (by omega) (by omega)];simp only;omega,?_⟩;rw[Qvd _ _ _ (by omega)];simp only[BX,hb,pO,hx,hy,AQ]
 have af:k=a.2.length:=by omega
 subst af;clear z Q Z;refine AR.frr ⟨{k:Nat//k<=n},λk=>⟨[(12,.im (.int .i64 k.1)),(11,.own 4),(5,.own 2),(0,.im (.int .i64 n))],[(4,(true,.arrA 32 1 (Bl ((B4 (BX n a.2 a.2.length) n k.1).map C4)))),(2,(true,.arr 2 1 ((BX n a.2 a.2.length).map Al)))],5⟩,λk=>n - k.1,λk=>⟨by simp[Aj.good,An,Ac,A9,AV.bel,Qxu],by simp⟩,⟨⟨0,by simp⟩,[],[(4,some 3)],?_⟩,λk=> ?_⟩
 .simp only[A8];simp(disch:=omega)only[ZA,simprocAttr,Bz,B4]
  try simp
 obtain⟨k,Q⟩:=k;obtain⟨own,hown⟩: ∃own,own=BX n a.2 a.2.length:=⟨_,rfl⟩;simp only[<-hown] at G⊢;have am:=oL own n k;simp(disch:=omega)only[ZA,simprocAttr,AP,G];refine⟨λz=>⟨z,z,λx hx=>⟨λO=>⟨⟨k+1,by omega⟩,[],[(4,some 4)],by simp only;omega,?_⟩,λO=> ?_⟩⟩,λz=> ?_⟩
 .have e1:B4 own n (k+1)=B4 own n k:=by
   simp only[B4];rw[Ag (by rw[hx];simpa using O),DA]
  simp only[A8];simp(disch:=omega)only[ZA,simprocAttr,Bz,Qzb,qL,e1];rw[AG (by omega) (by omega)];simp
 .have O:=F8.1 O;refine AR.ren ⟨{m:Nat//m<=n - k},λm=>⟨[(14,.im (.int .i64 ((k+m.1:Nat):Int))),(13,.own 6),(12,.im (.int .i64 k)),(11,.own 4),(5,.own 2),(0,.im (.int .i64 n))],[(6,(true,.arr 2 1 ((CQ own k m.1).map Al))),(4,(true,.arrA 32 1 (Bl ((B4 own n k).map C4)))),(2,(true,.arr 2 1 (own.map Al)))],7⟩,λm=>n - k - m.1,λm=>⟨by simp[Aj.good,An,Ac,A9,AV.bel,Qxu],by simp⟩,⟨⟨0,by simp⟩,[(6,some 5)],?_⟩,λm=> ?_⟩
  .simp only[A8];simp(disch:=omega)only[ZA,simprocAttr,Bz,CQ,qL]
   try simp
  obtain⟨m,aq⟩:=m;have an:=Qsd own k m;simp(disch:=omega)only[ZA,simprocAttr,AP,G,Nf,Na,BC,D.one];refine⟨λhm=>⟨hm,hm,λv hv=>⟨λh=>⟨by omega,⟨m+1,by omega⟩,[(6,some 8)],by simp only;omega,?_⟩,λh=>⟨⟨m+1,by omega⟩,[(6,some 6)],by simp only;omega,?_⟩⟩⟩,λhm=>⟨by simp[Av,AV.bel],by omega,by rw[rP,Q8];simp[Av,AV.bel],⟨k+1,by omega⟩,[6],[(4,some 8)],by simp only;omega,?_⟩⟩
  .simp only[A8];simp(disch:=omega)only[ZA,simprocAttr,Bz,qL];refine⟨?_,?_⟩
   .rw[AG (by omega) (by omega)];omega
   .subst h;simp only[CQ];rw[Ao hv];simp[Al]
  .simp only[A8];simp(disch:=omega)only[ZA,simprocAttr,Bz,qL];refine⟨?_,?_⟩
   .rw[AG (by omega) (by omega)];omega
   .simp only[CQ];rw[Ag (by rw[hv];simpa using h),DA]
  .have ai:m=n - k:=by omega
   have e1:B4 own n (k+1)=B4 own n k++[CQ own k m]:=by
    simp only[B4];rw[Ao (by rw[hx,O]),ai]
   simp only[A8];simp(disch:=omega)only[ZZ,simprocAttr,Bz,Qzl,Qzb,e1,F9];rw[AG (by omega) (by omega)];refine⟨by simp,?_⟩
   have:=yK [(4,some 8)] ((B4 own n k).map C4++[[D.sl false 1 ((CQ own k m).map Al)]])
   simpa only[Bl,F9,Bd,GR] using this
 .have:k=n:=by omega
  subst this;simp(disch:=omega)only[ZZ,simprocAttr,WI]
end Go.Ae
namespace Go.Ae
def AT(b n:Nat)(f:Nat->Aq):Ap:=(List.range n).map λi=>(b+i,f i)
def NO(b n:Nat)(f:Nat->Aq):AT b (n+1) f=AT b n f++[(b+n,f n)]:=by
 simp only[AT,jH,F9,Bd,GR]
def iI(b:Nat)(f:Nat->Aq)(m:Nat): ∀(n:Nat),hget (AT b n f) m=if b<=m/\m<b+n then some (f (m - b)) else none
 |0=>by rw[Ag (by omega)];rfl
 |n+1=>by
  rw[NO,vZ,iI b f m n];simp only[hget];by_cases h:b<=m/\m<b+n
  .rw[Ao h,Ao (by omega)]
  .rw[Ag h];by_cases z:b+n=m
   .subst z;rw[Ao (by omega),show b+n - b=n by omega];simp
   .have:(b+n==m)=false:=by simpa using z
    rw[this,Ag (by omega)];rfl
def Hh(b n:Nat)(f:Nat->Aq)(j:Nat)(h:j<n):hget (AT b n f) (b+j)=some (f j):=by
 rw[iI,Ao (by omega),show b+j - b=j by omega]
def Qmh(b n:Nat)(f:Nat->Aq)(m:Nat)(h:m<b\/b+n<=m):hget (AT b n f) m=none:=by
 rw[iI,Ag (by omega)]
def VQ(m:Nat)(ks:List Nat): ∀(x:Ap),hget (Bg x ks) m=if ks.contains m then none else hget x m
 |[]=>by simp[Bg,hget]
 |(q,e)::r=>by
  simp only[Bg];have ih:=VQ m ks r;cases hq:ks.contains q
  .simp only[B8,hget];cases hqm:q==m
   .simpa using ih
   .have:q=m:=by simpa using hqm
    subst this;simp only[Ca,hq];rfl
  .simp only[Ca,ih,hget];cases hqm:q==m
   .simp
   .have:q=m:=by simpa using hqm
    subst this;rw[Ao hq,Ao hq]
def Vq(b n:Nat)(f:Nat->Aq)(ks:List Nat)(h: ∀k∈ks,k<b\/b+n<=k):Bg (AT b n f) ks=AT b n f:=by
 have: ∀(l:List Nat),(∀i∈l,i<n)->Bg (l.map λi=>(b+i,f i)) ks=l.map λi=>(b+i,f i):=by
  intro l;induction l with
  |nil=>intro _;rfl
  |cons i r ih=>
   intro G;have z:=G i (BM ..);have hc:ks.contains (b+i)=false:=by
    rw[Ny];intro hc
    have:=h _ (Gi.1 hc)
    omega
   simp only[Bd,Bg,hc,B8,ih (λj O=>G j (BR _ O))]
 exact this _ (λi z=>B6.1 z)
def Qns(π:List (Nat×Option Nat))(s:Aj)(y:Ap): ∀(x:Ap),G0 π s (x++y)=(G0 π s x/\G0 π s y)
 |[]=>by simp[G0]
 |(q,(z,e))::r=>by simp only[CX,G0,Qns π s y r,jJ]
def bS(π:List (Nat×Option Nat))(s:Aj)(b n:Nat)(f:Nat->Aq):G0 π s (AT b n f)↔ ∀i,i<n->Ea s π (f i).1 (f i).2 (pm π (b+i)):=by
 have: ∀(l:List Nat),G0 π s (l.map λi=>(b+i,f i))↔ ∀i∈l,Ea s π (f i).1 (f i).2 (pm π (b+i)):=by
  intro l;induction l with
  |nil=>simp[G0]
  |cons i r ih=>simp only[Bd,G0,ih,Bi,yT]
 rw[AT,this];simp only[B6]
def ES:Ap->List Nat
 |[]=>[]
 |(n,_)::r=>n::ES r
def cA(π:List (Nat×Option Nat)): ∀(H:Ap),NY π H=(ES H).map (pm π)
 |[]=>rfl
 |(n,e)::r=>by simp only[NY,ES,Bd,cA π r]
def Y6(b n:Nat)(f:Nat->Aq):ES (AT b n f)=(List.range n).map (b+ ·):=by
 have: ∀(l:List Nat),ES (l.map λi=>(b+i,f i))=l.map (b+ ·):=by
  intro l;induction l with
  |nil=>rfl
  |cons i r ih=>simp only[Bd,ES,ih]
 exact this _
def cE(g:Nat->Option Nat): ∀(l:List Nat),l.Nodup->(∀x∈l,∀y∈l,∀m,g x=some m->g y=some m->x=y)->ED (l.map g)=true
 |[],_,_=>rfl
 |x::r,h,G=>by
  simp only[Ip] at h;have ih:=cE g r h.2 (λa Q b hb=>G a (BR _ Q) b (BR _ hb));simp only[Bd];cases hx:g x with
  |none=>simpa only[ED] using ih
  |some m=>
   simp only[ED,ih,ET,Nz];rw[Ny];intro hc;obtain⟨y,O,z⟩:=Bm.1 (Gi.1 hc)
   have:=G x (BM ..) y (BR _ O) m hx z
   exact h.1 (this▸O)
def cF(π:List (Nat×Option Nat)): ∀(a b:List (List AV)),Gk π a b↔a.length=b.length/\ ∀(i:Nat) x y,a[i]? =some x->b[i]? =some y->Dz π x y
 |[],[]=>by simp[Gk]
 |[],_::_=>by simp[Gk]
 |_::_,[]=>by simp[Gk]
 |x::r,y::s=>by
  simp only[Gk,cF π r s,CY,Nat.add_right_cancel_iff];constructor
  .rintro⟨Z,Q,O⟩;refine⟨Q,λi x' y' z G=> ?_⟩;cases i with
   |zero=>
    simp only[GL,AI] at z G;subst z;subst G;exact Z
   |succ i=>exact O i x' y' (by simpa using z) (by simpa using G)
  .rintro⟨Q,O⟩;exact⟨O 0 x y rfl rfl,Q,λi x' y' z G=>O (i+1) x' y' (by simpa using z) (by simpa using G)⟩
def Qk(nx b:Nat)(f:Nat->Aq)(hf: ∀i,Ac nx [(b+i,f i)]=true)(n:Nat):Ac nx (AT b n f)=true:=by
 have G: ∀(x y:Ap),Ac nx (x++y)=(Ac nx x && Ac nx y):=by
  intro x y;induction x with
  |nil=>simp[Ac]
  |cons z r ih=>
   obtain⟨q,Q,e⟩:=z;cases e<;>simp[Ac,ih,zC]
 have: ∀(l:List Nat),Ac nx (l.map λi=>(b+i,f i))=true:=by
  intro l;induction l with
  |nil=>rfl
  |cons i r ih=>
   have O:=G [(b+i,f i)] (r.map λi=>(b+i,f i));rw[Bd,show (b+i,f i)::(r.map λi=>(b+i,f i))=[(b+i,f i)]++(r.map λi=>(b+i,f i)) from rfl,O,hf i,ih];rfl
 exact this _
def Qa(nx b n:Nat)(f:Nat->Aq)(h:b+n<=nx):A9 nx (AT b n f)=true:=by
 have: ∀(l:List Nat),(∀i∈l,i<n)->A9 nx (l.map λi=>(b+i,f i))=true:=by
  intro l;induction l with
  |nil=>intro _;rfl
  |cons i r ih=>
   intro z;simp only[Bd,A9,ih (λj O=>z j (BR _ O)),ET];rw[El]
   have:=z i (BM ..)
   omega
 exact this _ (λi G=>B6.1 G)
def I3(b n:Nat):List (Nat×Option Nat):=(List.range n).map λi=>(b+i,none)
def iG(b n m:Nat):pm (I3 b n) m=if b<=m/\m<b+n then none else some m:=by
 have: ∀(l:List Nat),pm (l.map λi=>(b+i,none)) m=if b<=m/\m - b∈l then none else some m:=by
  intro l;induction l with
  |nil=>simp[pm]
  |cons i r ih=>
   simp only[Bd,pm,ih,Bi];by_cases h:b+i=m
   .rw[Ao h,Ao ⟨by omega,.inl (by omega)⟩]
   .rw[Ag h];by_cases z:b<=m/\m - b∈r
    .rw[Ao z,Ao ⟨z.1,.inr z.2⟩]
    .rw[Ag z,Ag (by rintro⟨O,G|G⟩;exact h (by omega);exact z ⟨O,G⟩)]
 rw[I3,this];simp only[B6];by_cases h:b<=m/\m<b+n
 .rw[Ao h,Ao (by omega)]
 .rw[Ag h,Ag (by omega)]
def RA(lo b n:Nat)(h:lo<=b):UW lo (I3 b n):=by
 have: ∀(l:List Nat),UW lo (l.map λi=>(b+i,none)):=by
  intro l;induction l with
  |nil=>trivial
  |cons i r ih=>simp only[Bd,UW];exact⟨by omega,ih⟩
 exact this _
end Go.Ae
namespace Go.Ae
open Go.Proofs
def CV(n:AZ)(v i:Int):Int×Int:=match n.Bonds[i.toNat]? with
 |some b=>if b.A=v then (b.Strength - n.Flow[i.toNat]?.getD 0,b.B) else (b.Strength+n.Flow[i.toNat]?.getD 0,b.A)
 |none=>(0,0)
structure Dd(n:AZ):Prop where
 c0:0<=n.Cnt
 c1:n.Cnt<=1000000
 fl:n.Flow.length=n.Bonds.length
 al:(n.At.length:Int)=n.Cnt
 bs:K0 n.Cnt n.Bonds
 at_: ∀(v:Nat) (r:List Int),n.At[v]? =some r-> ∀i∈r,0<=i/\ ∃b,n.Bonds[i.toNat]? =some b/\(b.A=v\/b.B=v)
 f: ∀x∈n.Flow,-1000000<=x/\x<=1000000
 st: ∀b∈n.Bonds,0<=b.Strength/\b.Strength<=1000000
 all: ∀(i:Nat) b,n.Bonds[i]? =some b->(∃r,n.At[b.A.toNat]? =some r/\(i:Int)∈r)/\ ∃r,n.At[b.B.toNat]? =some r/\(i:Int)∈r
 ne: ∀b∈n.Bonds,b.A≠b.B
def roomC.fv(a:AZ×Int×Int):Int×Int:=(CV) (a.1) (a.2.1) (a.2.2)
def roomC.row:A7:=CN (b3 (qP 4 AZ.d_le) qI qI) (r2 rI rI) (λa=>Dd a.1/\0<=a.2.2/\a.2.2<a.1.Bonds.length) roomC.fv
def roomC.q:=DO (R:=roomC.row) rfl
def roomC.ok:AA Tryz.prog 282 roomC.row:=by
 refine FZ tN Tryz.func282 rfl (by kernel_rfl) ?_;intro a z;simp only[Tryz.f282];simp(disch:=omega)only[ZZ,simprocAttr,roomC.fv,D.sc,D.scs,Bv];obtain⟨G,O,Z⟩:=z;have aa:=G.fl;refine⟨O,Z,λb hb=> ?_⟩;have ab:=G.st b (AY hb)
 split<;>rename_i h
 .refine⟨O,by omega,λf hf=> ?_⟩;have Q:=G.f f (AY hf);rw[AG (by omega) (by omega)];simp only[CV,hb,hf,AQ];rw[Ao h]
 .refine⟨O,by omega,λf hf=> ?_⟩;have Q:=G.f f (AY hf);rw[AG (by omega) (by omega)];simp only[CV,hb,hf,AQ];rw[Ag h]
def Dl(n:AZ)(v i:Int):Int:=match n.Bonds[i.toNat]? with
 |some b=>b.A+b.B - v
 |none=>0
def B0(n:AZ)(v:Int)(s:List Int×List Int)(i:Int):List Int×List Int:=
 if s.1[(Dl n v i).toNat]?.getD 0<0/\0<(CV n (Dl n v i) i).1 then (s.1.set (Dl n v i).toNat (s.1[v.toNat]?.getD 0+1),s.2++[Dl n v i]) else s
def Cv(n:AZ)(q:Int):Nat->List Int×List Int
 |0=>((List.replicate n.Cnt.toNat (-1)).set q.toNat 0,[q])
 |k+1=>match (Cv n q k).2[k]? with
  |none=>Cv n q k
  |some v=>(n.At[v.toNat]?.getD []).foldl (B0 n v) (Cv n q k)
def EQ(n:AZ)(q:Int):List Int:=(Cv n q n.Cnt.toNat).1
structure Wg(n:AZ)(s:List Int×List Int):Prop where
 len:s.1.length=n.Cnt.toNat
 rng: ∀x∈s.1,-1<=x/\x<=s.2.length
 q: ∀x∈s.2,0<=x/\x<n.Cnt
 cnt:(s.1.filter (λx=>decide (0<=x))).length=s.2.length
def Qlu{A:Type}(p:A->Bool): ∀(l:List A) (w:Nat) (x y:A),l[w]? =some x->p x=false->p y=true->((l.set w y).filter p).length=(l.filter p).length+1
 |[],w,x,y,h,_,_=>by simp at h
 |z::r,0,x,y,h,G,O=>by
  simp only[GL,AI] at h;subst h;simp[G,O]
 |z::r,w+1,x,y,h,G,O=>by
  have:=Qlu p r w x y (by simpa using h) G O
  simp only[jC,jE];split
  .simp only[CY,this]
  .exact this
def vU{n:AZ}(h0:0<=n.Cnt){s:List Int×List Int}(h:Wg n s):(s.2.length:Int)<=n.Cnt:=by
 have z:=h.cnt;have G:=yV (λx=>decide (0<=x)) s.1;have O:=h.len;omega
def bY{n:AZ}(hn:Dd n){v:Nat}{r:List Int}(O:n.At[v]? =some r){i:Int}(G:i∈r):0<=i/\i<n.Bonds.length/\0<=Dl n v i/\Dl n v i<n.Cnt:=by
 obtain⟨h0,b,hb,Z⟩:=hn.at_ v r O i G;have z:=hn.bs b (AY hb);have Q:=(Cd.1 hb).1;simp only[Dl,hb];omega
def Qtm{n:AZ}(hn:Dd n){v:Nat}{r:List Int}(Z:n.At[v]? =some r){i:Int}(Q:i∈r){s:List Int×List Int}(hs:Wg n s):Wg n (B0 n v s i):=by
 obtain⟨_,_,o1,o2⟩:=bY hn Z Q;simp only[B0];split
 .rename_i h;have G:(Dl n v i).toNat<s.1.length:=by rw[hs.len];omega
  obtain⟨x,hx⟩: ∃x,s.1[(Dl n v i).toNat]? =some x:=⟨_,Bh G⟩;have aa:x<0:=by have:=h.1;rw[hx] at this;simpa using this
  have O:0<=s.1[(v:Int).toNat]?.getD 0+1/\s.1[(v:Int).toNat]?.getD 0+1<=s.2.length+1:=by
   cases hv:s.1[(v:Int).toNat]? with
   |none=>simp;omega
   |some y=>have:=hs.rng y (AY hv);simp only[AQ];omega
  refine⟨by simpa using hs.len,λy z=> ?_,λy z=> ?_,?_⟩
  .simp only[Dn,CY,G5];rcases Ww z with z|z
   .have:=hs.rng y z;omega
   .subst z;omega
  .rcases Br.1 z with z|z
   .exact hs.q y z
   .rw[BE] at z;subst z;exact⟨o1,o2⟩
  .rw[Qlu _ _ _ x _ hx (by rw[KC];omega) (by rw[Ch];exact O.1),hs.cnt];simp
 .exact hs
def Qs1{n:AZ}(hn:Dd n){v:Nat}{r:List Int}(O:n.At[v]? =some r): ∀(l:List Int) (s:List Int×List Int),(∀i∈l,i∈r)->Wg n s->Wg n (l.foldl (B0 n v) s)
 |[],s,_,z=>z
 |i::l,s,G,z=>Qs1 hn O l _ (λj Q=>G j (BR _ Q)) (Qtm hn O (G i (BM ..)) z)
def VU{n:AZ}(hn:Dd n){q:Int}(h0:0<=q)(G:q<n.Cnt): ∀k,Wg n (Cv n q k)
 |0=>by
  have hq:q.toNat<n.Cnt.toNat:=by omega
  refine⟨by simp[Cv],λx z=> ?_,λx z=> ?_,?_⟩
  .simp only[Cv] at z⊢;rcases Ww z with z|z
   .have:=N1 z;simp;omega
   .subst z;simp
  .simp only[Cv,BE] at z;subst z;exact⟨h0,G⟩
  .simp only[Cv];rw[Qlu _ _ _ (-1) _ (by rw[KB,Ao hq]) (by simp) (by simp)]
   have:(List.replicate n.Cnt.toNat (-1:Int)).filter (λx=>decide (0<=x))=[]:=by
    rw[List.filter_eq_nil_iff];intro x z;rw[N1 z];simp
   rw[this];rfl
 |k+1=>by
  have ih:=VU hn h0 G k;simp only[Cv];split
  .exact ih
  .rename_i v Q;have Z:=ih.q v (AY Q);obtain⟨m,rfl⟩: ∃m:Nat,v=m:=⟨v.toNat,by omega⟩;have O:m<n.At.length:=by have:=hn.al;omega
   obtain⟨r,hr⟩: ∃r,n.At[m]? =some r:=⟨_,Bh O⟩;simp only[Bt,hr,AQ];exact Qs1 hn hr r _ (λ_ h=>h) ih
def KI(n:AZ)(q:Int): ∀(m k:Nat),(Cv n q k).2.length<=k->Cv n q (k+m)=Cv n q k
 |0,k,_=>rfl
 |m+1,k,h=>by
  have z:Cv n q (k+1)=Cv n q k:=by
   rw[Cv,F7 h]
  have G:=KI n q m (k+1) (by rw[z];omega);rw[show k+(m+1)=k+1+m by omega,G,z]
def Qwn(n:AZ)(v:Int): ∀(l:List Int) (s:List Int×List Int),s.2.length<=(l.foldl (B0 n v) s).2.length
 |[],s=>AN _
 |i::l,s=>by
  have z:s.2.length<=(B0 n v s i).2.length:=by
   simp only[B0];split
   .simp
   .exact AN _
  exact Dt z (Qwn n v l _)
def stepsC.fv(a:AZ×Int):List Int:=(EQ) (a.1) (a.2)
def stepsC.row:A7:=CN (b2 (qP 4 AZ.d_le) qI) (rS DU Dc) (λa=>Dd a.1/\0<=a.2/\a.2<a.1.Cnt) stepsC.fv
def stepsC.q:=DO (R:=stepsC.row) rfl
def stepsC.ok:AA Tryz.prog 264 stepsC.row:=by
 refine FZ (tC roomC.ok tN) Tryz.func264 rfl (by kernel_rfl) ?_;intro a ag;simp only[Tryz.f264];simp(disch:=omega)only[ZZ,simprocAttr,stepsC.fv];obtain⟨hn,ah,an⟩:=ag;have av:=hn.c1;obtain⟨c,hc⟩: ∃c:Nat,a.1.Cnt=c:=⟨a.1.Cnt.toNat,by omega⟩;refine AR.ren ⟨{k:Nat//k<=c},λk=>⟨[(6,.im (.int .i64 k.1)),(5,.own 3),(0,.ptr 0 0),(1,.im (.int .i64 a.2))],[(3,(true,.arr 2 1 ((List.replicate k.1 (-1:Int)).map Al))),(0,(false,.view (AZ.c a.1)))],4⟩,λk=>c - k.1,λk=>⟨by simp[Aj.good,An,Ac,A9,AV.bel],by simp⟩,⟨⟨0,by simp⟩,[(3,some 2)],?_⟩,λk=> ?_⟩
 .simp only[A8];simp(disch:=omega)only[ZZ,simprocAttr,Bz,List.replicate_zero]
  try simp
 obtain⟨k,ak⟩:=k;simp(disch:=omega)only[ZZ,simprocAttr,Jq,AP,hc,Nw];refine⟨λhk=>⟨by omega,⟨k+1,by omega⟩,[(3,some 5)],by simp only;omega,?_⟩,λhk=> ?_⟩
 .simp only[A8];simp(disch:=omega)only[ZA,simprocAttr,Bz];refine⟨by rw[AG (by omega) (by omega)];omega,?_⟩;rw[List.replicate_succ'];simp[Al]
 have am:c=k:=by omega
 subst am;refine⟨ah,by omega,by omega,λ_ _=> ?_⟩;have aq:=hn.al;have ac:=VU hn ah an;refine AR.ren ⟨{k:Nat//k<=(Cv a.1 a.2 k).2.length},λk=>⟨[(8,.im (.int .i64 k.1)),(7,.own 5),(5,.own 3),(0,.ptr 0 0),(1,.im (.int .i64 a.2))],[(5,(true,.arr 2 1 ((Cv a.1 a.2 k.1).2.map Al))),(3,(true,.arr 2 1 ((Cv a.1 a.2 k.1).1.map Al))),(0,(false,.view (AZ.c a.1)))],6⟩,λk=>c - k.1,λk=>⟨by simp[Aj.good,An,Ac,A9,AV.bel],by simp⟩,⟨⟨0,by simp⟩,[(5,some 4)],?_⟩,λk=> ?_⟩
 .simp only[A8];simp(disch:=omega)only[ZZ,simprocAttr,Bz,hc,Cv];simp[Al,JG]
 obtain⟨k,ak⟩:=k;have hi:=ac k;have aw:=hi.len;have ay:=vU (by omega) hi;simp(disch:=omega)only[ZZ,simprocAttr,Jq,D.sc,T7,Bv,AP,hc];intro _;refine⟨λhk=>⟨hk,hk,λv hv=> ?_⟩,λhk=> ?_⟩
 .have a8:=hi.q v (AY hv);obtain⟨m,rfl⟩: ∃m:Nat,v=m:=⟨v.toNat,by omega⟩;have hm:m<a.1.At.length:=by omega
  obtain⟨r,hr⟩: ∃r,a.1.At[m]? =some r:=⟨_,Bh hm⟩;have O:Cv a.1 a.2 (k+1)=r.foldl (B0 a.1 m) (Cv a.1 a.2 k):=by
   simp only[Cv,hv,Bt,hr,AQ]
  refine AR.ren ⟨{j:Nat//j<=r.length},λj=>⟨[(10,.im (.int .i64 j.1)),(9,.im (.int .i64 m)),(8,.im (.int .i64 k)),(7,.own 6),(5,.own 3),(0,.ptr 0 0),(1,.im (.int .i64 a.2))],[(6,(true,.arr 2 1 (((r.take j.1).foldl (B0 a.1 m) (Cv a.1 a.2 k)).2.map Al))),(3,(true,.arr 2 1 (((r.take j.1).foldl (B0 a.1 m) (Cv a.1 a.2 k)).1.map Al))),(0,(false,.view (AZ.c a.1)))],7⟩,λj=>r.length - j.1,λj=>⟨by simp[Aj.good,An,Ac,A9,AV.bel],by simp⟩,⟨⟨0,by simp⟩,[(6,some 5)],?_⟩,λj=> ?_⟩
  .simp only[A8];simp(disch:=omega)only[ZZ,simprocAttr,Bz,hc,zE]
   try simp
  obtain⟨j,ax⟩:=j;have hs:=Qs1 hn hr (r.take j) _ (λi hi=>yN hi) hi;obtain⟨s,hsd⟩: ∃s,s=(r.take j).foldl (B0 a.1 m) (Cv a.1 a.2 k):=⟨_,rfl⟩;rw[<-hsd] at hs;have ao:=hs.len;have a0:=vU (by omega) hs;simp only[<-hsd];have af:(⟨(c:Int),a.1.Bonds,a.1.At,a.1.Flow⟩:AZ)=a.1:=by rw[<-hc]
  simp(disch:=omega)only[ZZ,simprocAttr,CB,roomC.q,roomC.fv,Jq,AP,hc,af,ao,Nf,Na,uL,BC,D.one];refine⟨hm,λr' G=> ?_⟩;rw[hr] at G;obtain rfl:=AE G;intro az;refine⟨λhj=>⟨hm,λr' G=> ?_⟩,λhj=> ?_⟩
  .rw[hr] at G;obtain rfl:=AE G;refine⟨hj,λi ab=> ?_⟩;have ai:=AY ab;obtain⟨i0,i1,o0,o1⟩:=bY hn hr ai;have z:(r.take (j+1)).foldl (B0 a.1 m) (Cv a.1 a.2 k)=B0 a.1 m s i:=by
    rw[GO,ab,List.foldl_append,<-hsd];rfl
   refine⟨i0,i1,λb hb=>⟨i0,i1,λb' aa=> ?_⟩⟩;rw[hb] at aa;obtain rfl:=AE aa;have au:=hn.bs b (AY hb);have hw:IntKind.wrap .i64 (IntKind.wrap .i64 (b.A+b.B) - m)=Dl a.1 m i:=by
    rw[AG (x:=b.A+b.B) (by omega) (by omega),AG (by omega) (by omega)];simp only[Dl,hb]
   rw[hw];have ad:(Dl a.1 m i).toNat<c:=by omega
   refine⟨⟨hn,i0,i1⟩,o0,by omega,ad,λx hx=>⟨λZ=>⟨λQ=>⟨by omega,by omega,λy hy=>⟨o0,by omega,ad,λ_ _=>⟨by omega,⟨j+1,by omega⟩,[(6,some 8)],by simp only;omega,?_⟩⟩⟩,λQ=>⟨⟨j+1,by omega⟩,[(6,some 6)],by simp only;omega,?_⟩⟩,λZ=>⟨⟨j+1,by omega⟩,[(6,some 6)],by simp only;omega,?_⟩⟩⟩
   .have e1:B0 a.1 m s i=(s.1.set (Dl a.1 m i).toNat (y+1),s.2++[Dl a.1 m i]):=by
     simp only[B0];rw[Ao ⟨by rw[hx];exact Z,Q⟩,Bt,hy];rfl
    have a9:=hs.rng y (AY hy);simp only[A8,z,e1];simp(disch:=omega)only[ZA,simprocAttr,Bz];rw[AG (x:=y+1) (by omega) (by omega)];refine⟨by rw[AG (by omega) (by omega)];omega,?_,?_⟩
    .simp[Al]
    .simp[Al,JG]
   .have e1:B0 a.1 m s i=s:=by
     simp only[B0];rw[Ag (λh=>Q h.2)]
    simp only[A8,z,e1];simp(disch:=omega)only[ZA,simprocAttr,Bz];rw[AG (by omega) (by omega)];simp
   .have e1:B0 a.1 m s i=s:=by
     simp only[B0];rw[Ag (λh=>Z (by have:=h.1;rw[hx] at this;exact this))]
    simp only[A8,z,e1];simp(disch:=omega)only[ZA,simprocAttr,Bz];rw[AG (by omega) (by omega)];simp
  .have aj:j=r.length:=by omega
   subst aj;rw[HJ] at hsd;refine⟨⟨k+1,by
    have:=Qwn a.1 m r (Cv a.1 a.2 k)
    rw[O];omega⟩,[(5,some 6)],by simp only;omega,?_⟩
   simp only[A8,O,<-hsd];simp(disch:=omega)only[ZA,simprocAttr,Bz];rw[AG (by omega) (by omega)];simp
 .rw[EQ,hc,Bt]
  have:=KI a.1 a.2 (c - k) k (by omega)
  rw[show k+(c - k)=c by omega] at this;rw[this]
def YW(l:List Int):Nat->List Int
 |0=>[]
 |k+1=>YW l k++(if 0<=l[k]?.getD (-1) then [(k:Int)] else [])
def Qu8(l:List Int): ∀k,(YW l k).length<=k
 |0=>AN _
 |k+1=>by
  have:=Qu8 l k
  simp only[YW,Dn]
  split<;>simp<;>omega
def cP(n:AZ)(q:Int):List Int:=YW (EQ n q) n.Cnt.toNat
def oA{n:AZ}(hn:Dd n){q:Int}(h0:0<=q)(z:q<n.Cnt):(EQ n q).length=n.Cnt.toNat:=(VU hn h0 z _).len
def sideC.fv(a:AZ×Int):List Int:=(cP) (a.1) (a.2)
def sideC.row:A7:=CN (b2 (qP 4 AZ.d_le) qI) (rS DU Dc) (λa=>Dd a.1/\0<=a.2/\a.2<a.1.Cnt) sideC.fv
def sideC.q:=DO (R:=sideC.row) rfl
def sideC.ok:AA Tryz.prog 243 sideC.row:=by
 refine FZ (tC stepsC.ok tN) Tryz.func243 rfl (by kernel_rfl) ?_;intro a z;simp only[Tryz.f243];simp(disch:=omega)only[ZZ,simprocAttr,CB,sideC.fv,stepsC.q,stepsC.fv];refine⟨z,?_⟩;obtain⟨hn,O,Q⟩:=z;have aa:=hn.c1;obtain⟨c,hc⟩: ∃c:Nat,a.1.Cnt=c:=⟨a.1.Cnt.toNat,by omega⟩;have G:=oA hn O Q;rw[hc,Bt] at G;simp only[cP,hc,Bt];obtain⟨l,hl⟩: ∃l,l=EQ a.1 a.2:=⟨_,rfl⟩;simp only[<-hl] at G⊢;refine AR.ren ⟨{k:Nat//k<=c},λk=>⟨[(7,.im (.int .i64 k.1)),(6,.own 3),(5,.im (.sl false 1 (l.map Al))),(0,.ptr 0 0)],[(3,(true,.arr 2 1 ((YW l k.1).map Al))),(0,(false,.view (AZ.c a.1)))],4⟩,λk=>c - k.1,λk=>⟨by simp[Aj.good,An,Ac,A9,AV.bel],by simp⟩,⟨⟨0,by simp⟩,[(3,some 2)],?_⟩,λk=> ?_⟩
 .simp only[A8];simp(disch:=omega)only[ZZ,simprocAttr,Bz,hc,YW]
  try simp
 obtain⟨k,ab⟩:=k;have ac:=Qu8 l k;simp(disch:=omega)only[ZZ,simprocAttr,Jq,D.sc,T7,Bv,AP,hc,G,Nf,Na,uL,BC,D.one];refine⟨λZ=>⟨Z,λx hx=>⟨λh=>⟨by omega,⟨k+1,by omega⟩,[(3,some 5)],by simp only;omega,?_⟩,λh=>⟨⟨k+1,by omega⟩,[(3,some 3)],by simp only;omega,?_⟩⟩⟩,λZ=> ?_⟩
 .simp only[A8];simp(disch:=omega)only[ZA,simprocAttr,Bz];refine⟨by rw[AG (by omega) (by omega)];omega,?_⟩;simp only[YW,hx,AQ];rw[Ao h];simp[Al]
 .simp only[A8];simp(disch:=omega)only[ZA,simprocAttr,Bz];refine⟨by rw[AG (by omega) (by omega)];omega,?_⟩;simp only[YW,hx,AQ];rw[Ag h,DA]
 .rw[show k=c by omega]
def HC(n:AZ)(v i:Int):AZ:=⟨n.Cnt,n.Bonds,n.At,match n.Bonds[i.toNat]? with
 |some b=>n.Flow.set i.toNat (if b.A=v then n.Flow[i.toNat]?.getD 0+1 else n.Flow[i.toNat]?.getD 0 - 1)
 |none=>n.Flow⟩
def H6(n:AZ):List AV:=[.im (.int .i64 n.Cnt),.im (.sl false 3 (n.Bonds.map Af.c)),.im (.sl false 1 (n.At.map C4)),.own 1]
def FS(n:AZ):Ap:=[(0,(true,.cells 344 (H6 n))),(1,(true,.arr 2 1 (n.Flow.map Al)))]
def kK(n:AZ)(j:Nat):Am (FS n) j=true↔j<2:=by
 simp only[Am,FS,hget];by_cases h0:j=0
 .subst h0;simp
 .by_cases O:j=1
  .subst O;simp
  .have z:(0==j)=false:=by simp;omega
   have G:(1==j)=false:=by simp;omega
   simp[z,G];omega
def Zy(j:Nat):Bool:=j==1
def pushC.ca(a:AZ×Int×Int):List AV:=[.ptr 0 0,.im (.int .i64 a.2.1),.im (.int .i64 a.2.2)]
def pushC.H1(a:AZ×Int×Int):Ap:=[(1,(true,.arr 2 1 ((HC a.1 a.2.1 a.2.2).Flow.map Al)))]
def pushC.row:A7:=AF pushC.ca (λa=>FS a.1) 2 (λa=>Dd a.1/\0<=a.2.2/\a.2.2<a.1.Bonds.length) Zy (λ_=> .im (.tup [])) pushC.H1 0
def pushC.ok:AA Tryz.prog 283 pushC.row:=by
 refine ow tN Tryz.func283 rfl (by kernel_rfl) (exB:=λ_=>false) (R:=λ_ r=>r= .im (.tup [])) (λ_=>rfl)
  (λa=>by simp[pushC.ca,FS,H6,Av,AV.bel,Ac,A9,BK,Ad.nms,AC,AV.nms,Am,hget]) (λa p hp=> ?_) (λa r h=>by subst h;exact C8.refl _) ?_
 rotate_left
 intro a z;simp only[Tryz.f283,pushC.ca,FS,H6,pushC.H1];simp(disch:=omega)only[ZA,simprocAttr,Zy];obtain⟨hn,h0,O⟩:=z;have Q:=hn.fl;refine⟨h0,O,λb hb=> ?_⟩
 split<;>rename_i h
 .refine⟨h0,by omega,by omega,λf hf=>⟨h0,by omega,by omega,λ_ _=> ?_⟩⟩;have G:=hn.f f (AY hf);rw[AG (by omega) (by omega)];simp only[HC,hb,hf,AQ,Ao h,JG];rfl
 .refine⟨h0,by omega,by omega,λf hf=>⟨h0,by omega,by omega,λ_ _=> ?_⟩⟩;have G:=hn.f f (AY hf);rw[AG (by omega) (by omega)];simp only[HC,hb,hf,AQ,Ag h,JG];rfl
 simp[pushC.H1] at hp;subst hp;exact .inl ⟨by omega,rfl,rfl⟩
structure Fq(n:AZ)(q:Int)(s:List Int×List Int):Prop where
 zero:s.1[q.toNat]? =some 0
 uniq: ∀(w:Nat),s.1[w]? =some 0->w=q.toNat
 prev: ∀(w:Nat) (x:Int),s.1[w]? =some x->0<x-> ∃(v:Nat) (r:List Int) (i:Int),s.1[v]? =some (x - 1)/\n.At[v]? =some r/\i∈r/\Dl n v i=w/\0<(CV n w i).1
 qs: ∀v∈s.2,∃y,s.1[v.toNat]? =some y/\0<=y
def oC(n:AZ)(v:Int)(s:List Int×List Int)(i:Int)(u:Nat)(y:Int)(h:s.1[u]? =some y)(h0:0<=y):(B0 n v s i).1[u]? =some y:=by
 simp only[B0];split
 .rename_i hc;have z:(Dl n v i).toNat≠u:=by
   intro G;rw[G,h] at hc
   have:=hc.1
   simp at this;omega
  simp only;rw[D4 z];exact h
 .exact h
def Qor(n:AZ)(v:Int)(u:Nat)(y:Int)(h0:0<=y): ∀(l:List Int) (s:List Int×List Int),s.1[u]? =some y->(l.foldl (B0 n v) s).1[u]? =some y
 |[],_,h=>h
 |i::l,s,h=>Qor n v u y h0 l _ (oC n v s i u y h h0)
def dT{n:AZ}(hn:Dd n){q:Int}{v:Nat}{r:List Int}(hr:n.At[v]? =some r){i:Int}(hi:i∈r){s:List Int×List Int}(hs:Wg n s)(hp:Fq n q s){y:Int}(hv:s.1[v]? =some y)(hy:0<=y):Fq n q (B0 n v s i):=by
 obtain⟨_,_,o1,o2⟩:=bY hn hr hi;have keep:=λu z h h0=>oC n v s i u z h h0
 have Z:(Dl n v i).toNat<s.1.length:=by rw[hs.len];omega
 by_cases hc:s.1[(Dl n v i).toNat]?.getD 0<0/\0<(CV n (Dl n v i) i).1
 .have Q:B0 n v s i=(s.1.set (Dl n v i).toNat (y+1),s.2++[Dl n v i]):=by
   simp only[B0];rw[Ao hc,Bt,hv];rfl
  have hget: ∀(w:Nat) (x:Int),(B0 n v s i).1[w]? =some x->(w=(Dl n v i).toNat/\x=y+1)\/s.1[w]? =some x:=by
   intro w x G;rw[Q] at G;simp only at G;by_cases hw:(Dl n v i).toNat=w
   .subst hw;rw[Da Z] at G;exact .inl ⟨rfl,(AE G).symm⟩
   .rw[D4 hw] at G;exact .inr G
  refine⟨keep _ _ hp.zero (by omega),λw hw=> ?_,λw x G h0=> ?_,λu O=> ?_⟩
  .rcases hget w 0 hw with ⟨_,h⟩|h
   .omega
   .exact hp.uniq w h
  .rcases hget w x G with ⟨h1,h2⟩|h
   .refine⟨v,r,i,keep _ _ (by rw[hv];congr 1;omega) (by omega),hr,hi,by omega,?_⟩
    have:(w:Int)=Dl n v i:=by omega
    rw[this];exact hc.2
   .obtain⟨v',r',i',g1,g2,g3,g4,g5⟩:=hp.prev w x h h0;exact⟨v',r',i',keep _ _ g1 (by omega),g2,g3,g4,g5⟩
  .rw[Q] at O;rcases Br.1 O with O|O
   .obtain⟨z,h1,h2⟩:=hp.qs u O;exact⟨z,keep _ _ h1 h2,h2⟩
   .rw[BE] at O;subst O;refine⟨y+1,?_,by omega⟩;rw[Q];exact Da Z
 .have Q:B0 n v s i=s:=by simp only[B0];rw[Ag hc]
  rw[Q];exact hp
def QH{n:AZ}(hn:Dd n){q:Int}{v:Nat}{r:List Int}(G:n.At[v]? =some r){y:Int}(O:0<=y): ∀(l:List Int) (s:List Int×List Int),(∀i∈l,i∈r)->Wg n s->Fq n q s->s.1[v]? =some y->Fq n q (l.foldl (B0 n v) s)
 |[],s,_,_,hp,_=>hp
 |i::l,s,z,Q,hp,Z=>QH hn G O l _ (λj hj=>z j (BR _ hj)) (Qtm hn G (z i (BM ..)) Q) (dT hn G (z i (BM ..)) Q hp Z O) (oC n v s i v y Z O)
def MZ{n:AZ}(hn:Dd n){q:Int}(h0:0<=q)(h1:q<n.Cnt): ∀k,Fq n q (Cv n q k)
 |0=>by
  have hq:q.toNat<n.Cnt.toNat:=by omega
  have z:q.toNat<(List.replicate n.Cnt.toNat (-1:Int)).length:=by rw[Nw];exact hq
  have hget: ∀(w:Nat) (x:Int),((List.replicate n.Cnt.toNat (-1:Int)).set q.toNat 0)[w]? =some x->(w=q.toNat/\x=0)\/x= -1:=by
   intro w x G;by_cases Q:q.toNat=w
   .subst Q;rw[Da z] at G;exact .inl ⟨rfl,(AE G).symm⟩
   .rw[D4 Q] at G;exact .inr (N1 (AY G))
  refine⟨Da z,λw Q=> ?_,λw x G aa=> ?_,λv O=> ?_⟩
  .rcases hget w 0 Q with h|h
   .exact h.1
   .omega
  .rcases hget w x G with h|h<;>omega
  .simp only[Cv,BE] at O;subst O;exact⟨0,Da z,PB _⟩
 |k+1=>by
  have ih:=MZ hn h0 h1 k;have hi:=VU hn h0 h1 k;simp only[Cv];split
  .exact ih
  .rename_i v O;have ab:=hi.q v (AY O);obtain⟨m,rfl⟩: ∃m:Nat,v=m:=⟨v.toNat,by omega⟩;have hm:m<n.At.length:=by have:=hn.al;omega
   obtain⟨r,hr⟩: ∃r,n.At[m]? =some r:=⟨_,Bh hm⟩;obtain⟨y,hy,Z⟩:=ih.qs _ (AY O);simp only[Bt,hr,AQ];exact QH hn hr Z r _ (λ_ h=>h) hi ih (by simpa using hy)
def Im(n:AZ):Prop:= ∀(i:Nat) b f,n.Bonds[i]? =some b->n.Flow[i]? =some f-> -b.Strength<=f/\f<=b.Strength
def F6(n:AZ)(st:List Int)(v:Int)(acc:Int×Int)(i:Int):Int×Int:=
 if 0<(CV n v i).1/\st[(CV n v i).2.toNat]?.getD 0=st[v.toNat]?.getD 0 - 1/\(acc.1<0\/(CV n v i).2<acc.1) then ((CV n v i).2,i) else acc
def Gw(n:AZ)(st:List Int)(v:Int):Int×Int:=(n.At[v.toNat]?.getD []).foldl (F6 n st v) (-1,0)
def BH(n:AZ)(st:List Int)(p:Int):Nat->AZ×Int
 |0=>(n,p)
 |k+1=>(HC (BH n st p k).1 (BH n st p k).2 (Gw (BH n st p k).1 st (BH n st p k).2).2,(Gw (BH n st p k).1 st (BH n st p k).2).1)
def ER(n:AZ)(p q:Int):AZ×Bool:=
 if (EQ n q)[p.toNat]?.getD 0<0 then (n,false) else ((BH n (EQ n q) p ((EQ n q)[p.toNat]?.getD 0).toNat).1,true)
def qM{n:AZ}(hn:Dd n){v:Nat}{r:List Int}(O:n.At[v]? =some r){i:Int}(G:i∈r):0<=(CV n v i).2/\(CV n v i).2<n.Cnt:=by
 obtain⟨h0,b,hb,Q⟩:=hn.at_ v r O i G;have z:=hn.bs b (AY hb);simp only[CV,hb]
 split<;>simp only<;>omega
def Lo(n:AZ)(st:List Int)(v:Int)(r:List Int)(w:Int×Int):Prop:=w.2∈r/\0<(CV n v w.2).1/\(CV n v w.2).2=w.1/\st[w.1.toNat]?.getD 0=st[v.toNat]?.getD 0 - 1/\0<=w.1
def Qq8{n:AZ}(hn:Dd n)(st:List Int){v:Nat}{r:List Int}(G:n.At[v]? =some r): ∀(l:List Int) (acc:Int×Int),(∀i∈l,i∈r)->(acc.1<0\/Lo n st v r acc)->(l.foldl (F6 n st v) acc).1<0\/Lo n st v r (l.foldl (F6 n st v) acc)
 |[],acc,_,h=>h
 |i::l,acc,z,h=>by
  refine Qq8 hn st G l _ (λj O=>z j (BR _ O)) ?_;simp only[F6];split
  .rename_i hc;exact .inr ⟨z i (BM ..),hc.1,rfl,hc.2.1,(qM hn G (z i (BM ..))).1⟩
  .exact h
def O0{n:AZ}(hn:Dd n)(st:List Int){v:Nat}{r:List Int}(G:n.At[v]? =some r){i:Int}(z:i∈r)(acc:Int×Int)(h:0<=acc.1):0<=(F6 n st v acc i).1:=by
 simp only[F6];split
 .exact (qM hn G z).1
 .exact h
def Qvo{n:AZ}(hn:Dd n)(st:List Int){v:Nat}{r:List Int}(G:n.At[v]? =some r): ∀(l:List Int) (acc:Int×Int),(∀i∈l,i∈r)->0<=acc.1->0<=(l.foldl (F6 n st v) acc).1
 |[],_,_,h=>h
 |i::l,acc,z,h=>Qvo hn st G l _ (λj O=>z j (BR _ O)) (O0 hn st G (z i (BM ..)) acc h)
def Qqh{n:AZ}(hn:Dd n)(st:List Int){v:Nat}{r:List Int}(O:n.At[v]? =some r){i:Int}(Q:0<(CV n v i).1)(Z:st[(CV n v i).2.toNat]?.getD 0=st[(v:Int).toNat]?.getD 0 - 1): ∀(l:List Int) (acc:Int×Int),(∀i∈l,i∈r)->i∈l->0<=(l.foldl (F6 n st v) acc).1
 |[],_,_,h=>by cases h
 |j::l,acc,hl,h=>by
  simp only[jG];have z:=λk hk=>hl k (BR _ hk)
  rcases Bi.1 h with rfl|h
  .refine Qvo hn st O l _ z ?_;have hb:=qM hn O (hl _ (BM ..));simp only[F6];split
   .exact hb.1
   .rename_i hc;rcases Int.lt_or_le acc.1 0 with G|G
    .exact absurd ⟨Q,Z,.inl G⟩ hc
    .exact G
  .exact Qqh hn st O Q Z l _ z h
def O1{n:AZ}(hn:Dd n)(st:List Int){v:Nat}{r:List Int}(z:n.At[v]? =some r){i:Int}(Q:i∈r)(G:0<(CV n v i).1)(O:st[(CV n v i).2.toNat]?.getD 0=st[(v:Int).toNat]?.getD 0 - 1):Lo n st v r (Gw n st v):=by
 have e:Gw n st v=r.foldl (F6 n st v) (-1,0):=by simp only[Gw,Bt,z,AQ]
 rw[e];have Z:=Qqh hn st z G O r (-1,0) (λ_ h=>h) Q;rcases Qq8 hn st z r (-1,0) (λ_ h=>h) (.inl (by decide)) with h|h
 .omega
 .exact h
def XB{n:AZ}(hn:Dd n)(hc:Im n){v:Nat}{i:Int}(h0:0<=i)(z:0<(CV n v i).1):Dd (HC n v i)/\Im (HC n v i):=by
 obtain⟨m,rfl⟩: ∃m:Nat,i=m:=⟨i.toNat,by omega⟩;have G:Im (HC n v m):=by
  intro j b f hb hf;simp only[HC,Bt] at hb hf;simp only[CV,Bt] at z;cases hbm:n.Bonds[m]? with
  |none=>rw[hbm] at hf;exact hc j b f hb hf
  |some b'=>
   rw[hbm] at hf z;simp only at hf z;by_cases O:m=j
   .subst O;rw[hb] at hbm;obtain rfl:=AE hbm;have Q:m<n.Flow.length:=by
     have:=(Cd.1 hf).1
     simpa using this
    rw[Da Q] at hf;have hf:=AE hf;obtain⟨g,hg⟩: ∃g,n.Flow[m]? =some g:=⟨_,Bh Q⟩;have ab:=hc m b g hb hg;rw[hg] at hf z;simp only[AQ] at hf z;split at hf<;>rename_i Z
    .rw[Ao Z] at z;simp only at z;omega
    .rw[Ag Z] at z;simp only at z;omega
   .rw[D4 O] at hf;exact hc j b f hb hf
 refine⟨⟨hn.c0,hn.c1,?_,hn.al,hn.bs,hn.at_,?_,hn.st,hn.all,hn.ne⟩,G⟩
 .have:=hn.fl
  simp only[HC];split
  .simpa using this
  .exact this
 .intro x hx;obtain⟨j,O⟩:=P7.1 hx;have ac:=(Cd.1 O).1;have aa:(HC n v m).Flow.length=n.Bonds.length:=by
   rw[<-hn.fl];simp only[HC];split
   .simp
   .rfl
  obtain⟨b,hb⟩: ∃b,n.Bonds[j]? =some b:=⟨_,Bh (by omega)⟩;have h1:=G j b x hb O;have h2:=hn.st b (AY hb);omega
def Qabc(n:AZ)(v i:Int)(j:Nat)(h:i.toNat≠j):(HC n v i).Flow[j]? =n.Flow[j]? :=by
 simp only[HC];split
 .exact D4 h
 .rfl
def OB{n n':AZ}(hb:n'.Bonds=n.Bonds)(i:Int)(hf:n'.Flow[i.toNat]? =n.Flow[i.toNat]?)(v:Int):CV n' v i=CV n v i:=by
 simp only[CV,hb,hf]
structure ZJ(n:AZ)(st:List Int)(p:Int)(d k:Nat):Prop where
 ok:Dd (BH n st p k).1
 cap:Im (BH n st p k).1
 cnt:(BH n st p k).1.Cnt=n.Cnt
 bs:(BH n st p k).1.Bonds=n.Bonds
 at_:(BH n st p k).1.At=n.At
 v: ∃m:Nat,(BH n st p k).2=m/\(m:Int)<n.Cnt/\st[m]? =some ((d:Int) - k)
 fl: ∀(i:Nat) b,n.Bonds[i]? =some b->st[b.A.toNat]?.getD 0<=(d:Int) - k->st[b.B.toNat]?.getD 0<=(d:Int) - k->(BH n st p k).1.Flow[i]? =n.Flow[i]?
def vP{n:AZ}(hn:Dd n){q:Int}{st qu:List Int}(ag:st.length=n.Cnt.toNat)(hP:Fq n q (st,qu)){p:Int}{d k:Nat}(hk:k<d)(Z:ZJ n st p d k):
 ∃(m:Nat) (r:List Int),(BH n st p k).2=m/\n.At[m]? =some r/\Lo (BH n st p k).1 st m r (Gw (BH n st p k).1 st m)/\st[m]? =some ((d:Int) - k)/\(Gw (BH n st p k).1 st m).1<n.Cnt:=by
 obtain⟨m,hm,aj,O⟩:=Z.v;have af:m<n.At.length:=by have:=hn.al;omega
 obtain⟨r,hr⟩: ∃r,n.At[m]? =some r:=⟨_,Bh af⟩;have ab:(BH n st p k).1.At[m]? =some r:=by rw[Z.at_];exact hr
 obtain⟨v',r',i,g1,g2,g3,g4,g5⟩:=hP.prev m _ O (by omega);simp only at g1;obtain⟨ai,b,hb,aa⟩:=hn.at_ v' r' g2 i g3;have ah:=hn.bs b (AY hb);have ac:b.A+b.B - v'=m:=by simpa only[Dl,hb] using g4
 have z:=hn.all i.toNat b hb;rw[show ((i.toNat:Nat):Int)=i by omega] at z;have ad:i∈r:=by
  rcases aa with h|h
  .obtain⟨r2,Q,h3⟩:=z.2;rw[show b.B.toNat=m by omega,hr] at Q;obtain rfl:=AE Q;exact h3
  .obtain⟨r2,Q,h3⟩:=z.1;rw[show b.A.toNat=m by omega,hr] at Q;obtain rfl:=AE Q;exact h3
 have ak:=hn.ne b (AY hb);have G:CV (BH n st p k).1 m i=CV n m i:=by
  refine OB Z.bs i (Z.fl i.toNat b hb ?_ ?_) m
  .rcases aa with h|h
   .rw[show b.A.toNat=v' by omega,g1];simp only[AQ];omega
   .rw[show b.A.toNat=m by omega,O];simp only[AQ];omega
  .rcases aa with h|h
   .rw[show b.B.toNat=m by omega,O];simp only[AQ];omega
   .rw[show b.B.toNat=v' by omega,g1];simp only[AQ];omega
 have Q:(CV n m i).2=v':=by
  simp only[CV,hb]
  split<;>simp only<;>omega
 have hg:=O1 Z.ok st ab ad (by rw[G];exact g5) (by rw[G,Q,Bt,g1,Bt,O];simp only[AQ]);refine⟨m,r,hm,hr,hg,O,?_⟩
 have:=(qM Z.ok ab hg.1).2
 rw[hg.2.2.1,Z.cnt] at this;exact this
def iA{n:AZ}(hn:Dd n)(hc:Im n){q:Int}{st qu:List Int}(G:st.length=n.Cnt.toNat)(hP:Fq n q (st,qu)){p:Int}(ac:0<=p)(ad:p<n.Cnt){d:Nat}(hd:st[p.toNat]? =some (d:Int)): ∀k,k<=d->ZJ n st p d k
 |0,_=>⟨hn,hc,rfl,rfl,rfl,⟨p.toNat,by simp only[BH];omega,by omega,by rw[hd];simp⟩,λi b _ _ _=>rfl⟩
 |k+1,hk=>by
  have ih:=iA hn hc G hP ac ad hd k (by omega);obtain⟨m,r,O,hr,hg,Q,ag⟩:=vP hn G hP (by omega) ih;obtain⟨h1,h2⟩:=XB ih.ok ih.cap (i:=(Gw (BH n st p k).1 st m).2) (ih.ok.at_ m r (by rw[ih.at_];exact hr) _ hg.1).1 hg.2.1;obtain⟨j0,b,hb,ab⟩:=hn.at_ m r hr _ hg.1;have af:=hg.2.2.2.2;have Z:=hg.2.2.2.1;rw[Bt,Q,AQ] at Z;obtain⟨z,hz⟩: ∃z,st[(Gw (BH n st p k).1 st m).1.toNat]? =some z:=⟨_,Bh (by omega)⟩;rw[hz,AQ] at Z;refine⟨?_,?_,?_,?_,?_,⟨(Gw (BH n st p k).1 st m).1.toNat,?_,by omega,by rw[hz,Z];congr 1;omega⟩,?_⟩
  .simp only[BH,O];exact h1
  .simp only[BH,O];exact h2
  .simp only[BH,O];exact ih.cnt
  .simp only[BH,O];exact ih.bs
  .simp only[BH,O];exact ih.at_
  .simp only[BH,O];omega
  .intro i b' aa hA hB;simp only[BH,O];rw[Qabc]
   .exact ih.fl i b' aa (by omega) (by omega)
   .intro he;rw[he,aa] at hb;obtain rfl:=AE hb;rcases ab with h|h
    .rw[h,Bt,Q] at hA;simp only[AQ] at hA;omega
    .rw[h,Bt,Q] at hB;simp only[AQ] at hB;omega
def growC.ca(a:AZ×Int×Int):List AV:=[.ptr 0 0,.im (.int .i64 a.2.1),.im (.int .i64 a.2.2)]
def growC.H1(a:AZ×Int×Int):Ap:=[(1,(true,.arr 2 1 ((ER a.1 a.2.1 a.2.2).1.Flow.map Al)))]
def growC.r0(a:AZ×Int×Int):AV:= .im (.bool (ER a.1 a.2.1 a.2.2).2)
def Xf(a:AZ×Int×Int):Prop:=Dd a.1/\Im a.1/\0<=a.2.1/\a.2.1<a.1.Cnt/\0<=a.2.2/\a.2.2<a.1.Cnt
def growC.row:A7:=AF growC.ca (λa=>FS a.1) 2 Xf Zy growC.r0 growC.H1 0
def growC.ok:AA Tryz.prog 263 growC.row:=by
 refine ow (tC stepsC.ok (tC roomC.ok (tC pushC.ok tN))) Tryz.func263 rfl (by kernel_rfl) (exB:=λ_=>false) (R:=λa r=>r=growC.r0 a) (λ_=>rfl)
  (λa=>by simp[growC.ca,FS,H6,Av,AV.bel,Ac,A9,BK,Ad.nms,AC,AV.nms,Am,hget]) (λa p hp=> ?_) (λa r h=>by subst h;exact C8.refl _) ?_
 rotate_left
 intro a a9;simp only[Tryz.f263,growC.ca,FS,H6,growC.H1];simp(disch:=omega)only[ZZ,simprocAttr,CB,stepsC.q,stepsC.fv,Zy];obtain⟨hn,ax,a0,bi,aj,ak⟩:=a9;refine⟨⟨hn,aj,ak⟩,a0,?_⟩;have bn:=hn.c1;have ah:=oA hn aj ak;have hP:=MZ hn aj ak a.1.Cnt.toNat;have aa:=(VU hn aj ak a.1.Cnt.toNat).rng;have bu:=vU hn.c0 (VU hn aj ak a.1.Cnt.toNat);refine⟨by omega,λx hx=> ?_⟩
 split<;>rename_i ai
 .have e:ER a.1 a.2.1 a.2.2=(a.1,false):=by simp only[ER];rw[hx];simp only[AQ];rw[Ao ai]
  exact⟨by simp only[growC.r0,e],by rw[e]⟩
 obtain⟨d,rfl⟩: ∃d:Nat,x=d:=⟨x.toNat,by omega⟩;have e:ER a.1 a.2.1 a.2.2=((BH a.1 (EQ a.1 a.2.2) a.2.1 d).1,true):=by simp only[ER];rw[hx];simp only[AQ];rw[Ag ai,Bt]
 simp only[growC.r0,e];have bb:(Cv a.1 a.2.2 a.1.Cnt.toNat).1=EQ a.1 a.2.2:=rfl;have O:Fq a.1 a.2.2 (EQ a.1 a.2.2,(Cv a.1 a.2.2 a.1.Cnt.toNat).2):=hP;have bo:=aa (d:Int) (AY hx);clear e hP ai;obtain⟨st,hst⟩: ∃st,st=EQ a.1 a.2.2:=⟨_,rfl⟩;rw[bb] at aa;simp only[<-hst] at ah O hx aa⊢;have aw:=λk hk=>iA hn ax ah O a0 bi hx k hk
 refine AR.old ⟨{k:Nat//k<=d},λk=>⟨[(8,.im (.int .i64 (BH a.1 st a.2.1 k.1).2)),(7,.im (.sl false 1 (st.map Al))),(0,.ptr 0 0),(1,.im (.int .i64 a.2.1)),(2,.im (.int .i64 a.2.2))],[(0,(true,.cells 344 (H6 a.1))),(1,(true,.arr 2 1 ((BH a.1 st a.2.1 k.1).1.Flow.map Al)))],2⟩,λk=>d - k.1,λk=>⟨by simp[Aj.good,An,Ac,A9,AV.bel,Av,H6],AN _⟩,⟨⟨0,by simp⟩,by simp(disch:=omega)only[ZA,simprocAttr,H6,sub,BH,H6]⟩,λk=> ?_⟩;obtain⟨k,be⟩:=k;have hI:=aw k be;obtain⟨m,hm,br,ba⟩:=hI.v;simp only[H6,hm];simp(disch:=omega)only[ZA,simprocAttr,Zy,AP];refine⟨λbt=> ?_,λhe=> ?_⟩
 .have bf:k<d:=by
   rcases EO k d with h|h
   .exact h
   .have:=O.uniq m (by rw[ba];congr 1;omega)
    omega
  obtain⟨m',r,bg,hr,hg,_,bl⟩:=vP hn ah O bf hI;rw[hm] at bg;have bh:m'=m:=by omega
  subst bh;have Z:BH a.1 st a.2.1 (k+1)=(HC (BH a.1 st a.2.1 k).1 m' (Gw (BH a.1 st a.2.1 k).1 st m').2,(Gw (BH a.1 st a.2.1 k).1 st m').1):=by simp only[BH,hm]
  have a8:Gw (BH a.1 st a.2.1 k).1 st m'=r.foldl (F6 (BH a.1 st a.2.1 k).1 st m') (-1,0):=by simp only[Gw,Bt,hI.at_,hr,AQ]
  have Q:=hI.ok;have af:=hI.cnt;have av:=hI.bs;have an:=hI.at_;obtain⟨N,hN⟩: ∃N,N=(BH a.1 st a.2.1 k).1:=⟨_,rfl⟩;simp only[<-hN] at Z a8 Q af av an hg bl⊢;have au:N.At[m']? =some r:=by rw[an];exact hr
  have az:(⟨a.1.Cnt,a.1.Bonds,a.1.At,N.Flow⟩:AZ)=N:=by rw[<-af,<-av,<-an]
  have aq:m'<a.1.At.length:=(Cd.1 hr).1;refine AR.old ⟨{j:Nat//j<=r.length},λj=>⟨[(11,.im (.int .i64 j.1)),(10,.im (.int .i64 ((r.take j.1).foldl (F6 N st m') (-1,0)).2)),(9,.im (.int .i64 ((r.take j.1).foldl (F6 N st m') (-1,0)).1)),(8,.im (.int .i64 m')),(7,.im (.sl false 1 (st.map Al))),(0,.ptr 0 0),(1,.im (.int .i64 a.2.1)),(2,.im (.int .i64 a.2.2))],[(0,(true,.cells 344 (H6 a.1))),(1,(true,.arr 2 1 (N.Flow.map Al)))],2⟩,λj=>r.length - j.1,λj=>⟨by simp[Aj.good,An,Ac,A9,AV.bel,Av,H6],AN _⟩,⟨⟨0,by simp⟩,by simp(disch:=omega)only[ZA,simprocAttr,H6,sub,H6,zE]⟩,λj=> ?_⟩;obtain⟨j,bq⟩:=j;obtain⟨acc,hacc⟩: ∃acc,acc=(r.take j).foldl (F6 N st m') (-1,0):=⟨_,rfl⟩;simp only[H6,<-hacc];simp(disch:=omega)only[ZZ,simprocAttr,CB,roomC.q,roomC.fv,sub,AP,az];refine⟨aq,λr1 G=> ?_⟩;rw[hr] at G;obtain rfl:=AE G;intro bv;refine⟨λhj=>⟨aq,λr1 G=> ?_⟩,λhj=> ?_⟩
  .rw[hr] at G;obtain rfl:=AE G;refine⟨hj,λi ao=> ?_⟩;have ay:=AY ao;obtain⟨i0,i1,_,_⟩:=bY Q au ay;have bj:=qM Q au ay;have z:(r.take (j+1)).foldl (F6 N st m') (-1,0)=F6 N st m' acc i:=by
    rw[GO,ao,List.foldl_append,<-hacc];rfl
   have ab:0<(CV N m' i).1->st[(CV N m' i).2.toNat]?.getD 0=st[(m':Int).toNat]?.getD 0 - 1->(acc.1<0\/(CV N m' i).2<acc.1)->F6 N st m' acc i=((CV N m' i).2,i):=by
    intro h1 h2 h3;simp only[F6];rw[Ao ⟨h1,h2,h3⟩]
   have am:IntKind.wrap .i64 ((j:Int)+1)=((j+1:Nat):Int):=by rw[AG (by omega) (by omega)];omega
   refine⟨⟨Q,i0,i1⟩,λh1=>⟨bj.1,by omega,λx' bm=>⟨by omega,λy' bc=> ?_⟩⟩,λh1=>⟨⟨j+1,by omega⟩,by simp only;omega,am,?_,?_⟩⟩
   .have bw:=aa y' (AY bc);rw[AG (x:=y' - 1) (by omega) (by omega)];have ac:st[(CV N m' i).2.toNat]?.getD 0=x':=by rw[bm];rfl
    have ad:st[(m':Int).toNat]?.getD 0=y':=by rw[Bt,bc];rfl
    refine⟨λh2=>⟨λh3=>⟨λh4=>⟨aq,λr1 G=> ?_⟩,λh4=>⟨⟨j+1,by omega⟩,by simp only;omega,am,?_,?_⟩⟩,λh3=>⟨aq,λr1 G=> ?_⟩⟩,λh2=>⟨⟨j+1,by omega⟩,by simp only;omega,am,?_,?_⟩⟩
    .rw[hr] at G;obtain rfl:=AE G;refine⟨hj,λi' ag=>⟨⟨j+1,by omega⟩,by simp only;omega,am,?_,?_⟩⟩
     .rw[ao] at ag;obtain rfl:=AE ag;simp only[z];rw[ab h1 (by rw[ac,ad,h2]) (.inr h4)]
     .simp only[z];rw[ab h1 (by rw[ac,ad,h2]) (.inr h4)]
    .simp only[z,F6];rw[Ag (λh=>by rcases h.2.2 with h|h<;>omega)]
    .simp only[z,F6];rw[Ag (λh=>by rcases h.2.2 with h|h<;>omega)]
    .rw[hr] at G;obtain rfl:=AE G;refine⟨hj,λi' ag=>⟨⟨j+1,by omega⟩,by simp only;omega,am,?_,?_⟩⟩
     .rw[ao] at ag;obtain rfl:=AE ag;simp only[z];rw[ab h1 (by rw[ac,ad,h2]) (.inl (F8.1 h3))]
     .simp only[z];rw[ab h1 (by rw[ac,ad,h2]) (.inl (F8.1 h3))]
    .simp only[z,F6];rw[Ag (λh=>h2 (by rw[<-ac,<-ad];exact h.2.1))]
    .simp only[z,F6];rw[Ag (λh=>h2 (by rw[<-ac,<-ad];exact h.2.1))]
   .simp only[z,F6];rw[Ag (λh=>h1 h.1)]
   .simp only[z,F6];rw[Ag (λh=>h1 h.1)]
  .have bd:j=r.length:=by omega
   subst bd;rw[HJ] at hacc;rw[<-a8] at hacc;subst hacc;have bp:=Q.at_ m' r au _ hg.1;obtain⟨i0,i1,_,_⟩:=bY Q au hg.1;refine AF.os (N,(m':Int),(Gw N st m').2) [0,1] ⟨Q,i0,i1⟩ (λj=>kK _ j) rfl rfl ?_ ?_
   .simp(disch:=omega)only[ZA,simprocAttr,D5,FS,H6,pushC.ca,FS,H6];rw[af,av,an];exact⟨rfl,rfl,rfl⟩
   .simp(disch:=omega)only[ZA,simprocAttr,D5,Zy,pushC.H1,Zy,sub];exact⟨⟨k+1,by omega⟩,by simp only;omega,by simp only[Z],by simp only[Z]⟩
 .have:k=d:=by
   have h1:=O.zero;rw[show a.2.2.toNat=m by omega,ba] at h1
   have:=AE h1
   omega
  rw[this]
 simp[growC.H1] at hp;subst hp;exact .inl ⟨by omega,rfl,rfl⟩
def Be(a b:Nat)(h:a≠b):(a==b)=false:=by simpa using h
def UK{α β γ:Type}{f:α->Option β}{g:γ->α}{k:γ->β}: ∀(l:List γ),(∀i∈l,f (g i)=some (k i))->Ax f (l.map g)=some (l.map k)
 |[],_=>rfl
 |x::r,h=>by simp only[Bd,Ax,h x (BM ..),UK r (λi z=>h i (BR _ z))]
def WX{H:Nat->Option Aq}{kx:Nat->Option Nat}{m b n T:Nat}(f:Nat->List Int)(G: ∀i,i<n->kx (b+i)=none)(hH: ∀i,i<n->H (b+i)=some (true,.arr T 1 ((f i).map Al))):
 Ax (Ax λx=>DW (Bb H kx (m+1) x)) ((List.range n).map λi=>[AV.own (b+i)])=some (((List.range n).map f).map C4):=by
 rw[Q3];refine UK _ (λi z=> ?_);have z:=B6.1 z;simp only[Ax,Bb,G i z,hH i z,Pz,kp,Ds,DW,AV.asD,Function.comp,C4]
def Kx(H:Ap)(a b:Nat)(h:a≠b):hget (Bg H [a]) b=hget H b:=by
 rw[VQ,Ag];simp;omega
def Wb{α:Type}{a b:Nat}{x y:α}(h:a≠b):(if a=b then x else y)=y:=Ag h
def Bo: ∀(x:Ap),Bg x []=x
 |[]=>rfl
 |(m,e)::r=>by simp[Bg,Bo r]
def bI(L:List Nat)(b n:Nat)(h:L.Nodup)(hb: ∀x∈L,x<b):(L++(List.range n).map (b+ ·)).Nodup:=by
 rw[US];refine⟨h,?_,?_⟩
 .rw[Zel,List.pairwise_map];exact Zez (λh O=>h (by omega)) (Zel.1 List.nodup_range)
 .intro x z y G Q;obtain⟨i,_,rfl⟩:=Bm.1 G
  have:=hb x z
  omega
def HQ(bs:List Af)(i:Nat):Nat->List Int
 |0=>[]
 |k+1=>HQ bs i k++(match bs[k]? with
  |some b=>(if b.A=i then [(k:Int)] else [])++(if b.B=i then [(k:Int)] else [])
  |none=>[])
def Qwx(bs:List Af)(i:Nat): ∀k,(HQ bs i k).length<=2*k
 |0=>AN _
 |k+1=>by
  have:=Qwx bs i k
  simp only[HQ,Dn];split
  .simp only[Dn]
   split<;>split<;>simp<;>omega
  .simp;omega
def CI(n:Int)(bs:List Af):AZ:=⟨n,bs,(List.range n.toNat).map (λi=>HQ bs i bs.length),List.replicate bs.length 0⟩
def newNC.ca(a:Int×List Af):List AV:=[.im (.int .i64 a.1),.im (.sl false 3 (a.2.map Af.c))]
def newNC.H1(a:Int×List Af):Ap:=[(0,(true,.cells 344 [.im (.int .i64 a.1),.im (.sl false 3 (a.2.map Af.c)),.im (.sl false 1 ((CI a.1 a.2).At.map C4)),.own 2])),(2,(true,.arr 2 1 ((CI a.1 a.2).Flow.map Al)))]
def YF(a:Int×List Af):Prop:=0<=a.1/\a.1<=1000/\a.2.length<=1000000/\K0 a.1 a.2/\ ∀b∈a.2,b.A≠b.B
def jM(j:Nat):Bool:=j==0||j==2
def newNC.row:A7:=AF newNC.ca (λ_=>[]) 0 YF (λ_=>false) (λ_=> .ptr 0 0) newNC.H1 3010
def newNC.ok:AA Tryz.prog 262 newNC.row:=by
 refine ow tN Tryz.func262 rfl (by kernel_rfl) (exB:=jM) (R:=λ_ r=>r= .ptr 0 0) (λ_=>rfl)
  (λa=>by simp[newNC.ca,Av,AV.bel,Ac,A9,BK]) (λa p hp=> ?_) (λa r h=>by subst h;exact C8.refl _) ?_
 rotate_left
 intro a ax;simp only[Tryz.f262,newNC.ca,newNC.H1];simp(disch:=omega)only[ZA,simprocAttr];obtain⟨aw,a9,hl,am,ba⟩:=ax;refine⟨aw,PB _,by omega,λ_=>⟨by omega,?_⟩⟩;obtain⟨n,hn⟩: ∃n:Nat,a.1=n:=⟨a.1.toNat,by omega⟩;rw[hn] at aw a9 am;simp only[hn,Bt];refine AR.ren ⟨{k:Nat//k<=a.2.length},λk=>⟨[(6,.im (.int .i64 k.1)),(5,.ptr 0 0),(1,.im (.sl false 3 (a.2.map Af.c)))],(0,(true,.cells 344 [.im (.int .i64 n),.im (.sl false 3 (a.2.map Af.c)),.own 1,.own 2]))::(2,(true,.arr 2 1 ((List.replicate a.2.length (0:Int)).map Al)))::(1,(true,.arrA 32 1 ((List.range n).map λi=>[AV.own (1000+i)])))::AT 1000 n (λi=>(true,.arr 2 1 ((HQ a.2 i k.1).map Al))),3000⟩,λk=>a.2.length - k.1,λk=>⟨?_,by simp⟩,⟨⟨0,by simp⟩,I3 1000 n,?_⟩,λk=> ?_⟩
 .simp only[Aj.good,An,Ac,A9,AV.bel,Av,ET,CP];rw[Qk _ _ _ (λi=>by simp[Ac]),Qa _ _ _ _ (by omega)];simp[Av,AV.bel];omega
 .refine⟨RA _ _ _ (by simp),?_,?_,?_⟩
  .rw[cA];simp only[ES,Y6];refine cE _ _ (bI [0,2,1] 1000 n (by simp) (by simp)) ?_;intro x hx y hy m G z;rw[iG] at G z;split at G
   .cases G
   .split at z
    .cases z
    .exact (AE G).trans (AE z).symm
  .simp only[P4,AD];simp(disch:=omega)only[ZA,simprocAttr,iG,Gz];simp[Gz]
  .have p0:pm (I3 1000 n) 0=some 0:=by rw[iG,Ag (by omega)]
   have p1:pm (I3 1000 n) 1=some 1:=by rw[iG,Ag (by omega)]
   have p2:pm (I3 1000 n) 2=some 2:=by rw[iG,Ag (by omega)]
   have pf: ∀i,i<n->pm (I3 1000 n) (1000+i)=none:=by intro i O;rw[iG,Ao (by omega)]
   simp only[G0,bS];refine⟨?_,?_,?_,λi O=> ?_⟩
   .simp(disch:=omega)only[ZA,simprocAttr,p0,p1,p2]
   .simp(disch:=omega)only[ZA,simprocAttr,p2];simp[Al]
   .simp(disch:=omega)only[ZA,simprocAttr,p1];rw[cF];refine⟨by simp,λi x y hx hy=> ?_⟩;simp only[D9,Df] at hx hy;obtain⟨i',ah,rfl⟩:=hx;obtain⟨w,hw,rfl⟩:=hy;have bd:=N1 (AY hw);subst bd
    have:=B6.1 (AY ah)
    simp(disch:=omega)only[ZA,simprocAttr,pf i' this]
   .rw[pf i O];simp(disch:=omega)only[ZA,simprocAttr,HQ]
 obtain⟨k,bj⟩:=k;simp(disch:=omega)only[ZA,simprocAttr,D5,jM,AP,Bo];intro _;refine⟨λhk=>⟨hk,λb hb=>⟨hk,λb' Z=> ?_⟩⟩,λhk=> ?_⟩
 .rw[hb] at Z;obtain rfl:=AE Z;obtain⟨b1,b2,b3,b4⟩:=am b (AY hb);have bi:=ba b (AY hb);refine⟨b1,by rw[Zc];exact b2,by rw[Zc];omega,λx hx=> ?_⟩;obtain⟨ay,bf⟩:=Cd.1 hx;rw[Zc] at ay;rw[Zeq] at bf;have bq:x<n:=by omega
  refine⟨by omega,?_,?_⟩
  .simp;omega
  have be:(1000+x<3000\/3000<=1000+x)=True:=Zk (by omega);have bn:(1000+x==0)=false:=Be _ _ (by omega);have bo:(1000+x==1)=false:=Be _ _ (by omega);have bp:(1000+x==2)=false:=Be _ _ (by omega);have bl:=Qwx a.2 x k;simp(disch:=omega)only[ZA,simprocAttr,Wb,Hh,Bo,be,Be];refine⟨by omega,by omega,?_⟩;refine⟨b1,by rw[Zc];exact b2,by rw[Zc];exact ay,λ_ _=> ?_⟩;have Q: ∀N,3001<N->((List.map (λi=>[AV.own (1000+i)]) (List.range n)).set b.A.toNat [AV.own 3001]).all (Av N)=true:=by
   intro N hN;rw[Dp];intro r hr;rcases Ww hr with hr|hr
   .obtain⟨i,O,rfl⟩:=Bm.1 hr
    have:=B6.1 O
    simp[Av,AV.bel];omega
   .subst hr;simp[Av,AV.bel];omega
  refine⟨Q _ (by omega),⟨by simp,by simp,by simp⟩,hk,λb' Z=>⟨hk,λb'' ag=> ?_⟩⟩;rw[hb] at Z ag;obtain rfl:=AE Z;obtain rfl:=AE ag;obtain⟨y,hy⟩: ∃y:Nat,b.B=y:=⟨b.B.toNat,by omega⟩;have br:y≠x:=by omega
  have bh:y<n:=by omega
  have az:b.B.toNat=y:=by omega
  refine⟨b3,by simp;omega,by simp;omega,λrow aa=> ?_⟩;have ak:row=[AV.own (1000+y)]:=by
   rw[az,D4 (by omega),D9,HK bh] at aa;exact (AE aa).symm
  subst ak;have bg:(1000+y<3002\/3002<=1000+y)=True:=Zk (by omega);have bm:=Qwx a.2 y k;simp(disch:=omega)only[ZA,simprocAttr,D5,Wb,Hh,Bo,bg,Be,Kx];refine⟨by omega,by omega,by omega,b3,by simp;omega,by simp;omega,λrow ab=> ?_⟩;rw[aa] at ab;obtain rfl:=AE ab;simp(disch:=omega)only[ZA,simprocAttr,Bo,Be];refine⟨?_,⟨by simp,by simp,by simp⟩,⟨k+1,by omega⟩,[(1000+x,some 3001),(1000+y,some 3003)],by simp only;omega,?_⟩
  .rw[Dp];intro r hr;rcases Ww hr with hr|hr
   .exact Dp.1 (Q 3004 (by omega)) r hr
   .subst hr;simp[Av,AV.bel]
  obtain⟨g,hg⟩: ∃g,g=pm [(1000+x,some 3001),(1000+y,some 3003)]:=⟨_,rfl⟩;have qx:g (1000+x)=some 3001:=by rw[hg];simp[pm]
  have qy:g (1000+y)=some 3003:=by rw[hg];simp only[pm];rw[Ag (by omega)];simp
  have qo: ∀u,u≠1000+x->u≠1000+y->g u=some u:=by intro u G z;rw[hg];simp only[pm];rw[Ag (by omega),Ag (by omega)]
  have a0: ∀i,i<n->HQ a.2 i (k+1)=if i=x\/i=y then HQ a.2 i k++[(k:Int)] else HQ a.2 i k:=by
   intro i O;simp only[HQ,hb];by_cases G:i=x
   .subst G;rw[Ao (by omega),Ag (by omega),Ao (.inl rfl),DA]
   .by_cases z:i=y
    .subst z;rw[Ag (by omega),Ao (by omega),Ao (.inr rfl),GM]
    .rw[Ag (by omega),Ag (by omega),Ag (by omega)];simp
  refine⟨⟨by omega,by omega,trivial⟩,?_,?_,?_⟩
  .rw[cA,<-hg];simp only[ES,Y6];refine cE _ _ (bI [0,2,1] 1000 n (by simp) (by simp)) ?_;have aq: ∀u∈[0,2,1]++(List.range n).map (1000+ ·),u<2000:=by
    intro u hu;rcases Br.1 hu with hu|hu
    .simp at hu;omega
    .obtain⟨i,O,rfl⟩:=Bm.1 hu
     have:=B6.1 O
     show 1000+i<2000;omega
   have hc: ∀u,u<2000->(u=1000+x/\g u=some 3001)\/(u=1000+y/\g u=some 3003)\/g u=some u:=by
    intro u _;by_cases G:u=1000+x
    .exact .inl ⟨G,G▸qx⟩
    .by_cases z:u=1000+y
     .exact .inr (.inl ⟨z,z▸qy⟩)
     .exact .inr (.inr (qo u G z))
   intro u hu v hv m au av;have bb:=aq u hu;have bc:=aq v hv;rcases hc u bb with ⟨e1,e2⟩|⟨e1,e2⟩|e2<;>rcases hc v bc with ⟨f1,f2⟩|⟨f1,f2⟩|f2<;>rw[e2] at au<;>rw[f2] at av<;>simp only[AI] at au av<;>omega
  .have q0:pm [(1000+x,some 3001),(1000+y,some 3003)] 0=some 0:=by rw[<-hg];exact qo 0 (by omega) (by omega)
   simp only[P4,AD];simp(disch:=omega)only[ZA,simprocAttr,q0];rw[AG (by omega) (by omega)];simp
  .have q0:pm [(1000+x,some 3001),(1000+y,some 3003)] 0=some 0:=by rw[<-hg];exact qo 0 (by omega) (by omega)
   have q1:pm [(1000+x,some 3001),(1000+y,some 3003)] 1=some 1:=by rw[<-hg];exact qo 1 (by omega) (by omega)
   have q2:pm [(1000+x,some 3001),(1000+y,some 3003)] 2=some 2:=by rw[<-hg];exact qo 2 (by omega) (by omega)
   have ad:=qx;have af:=qy;have ac:=qo;rw[hg] at ad af ac;simp only[G0,bS];refine⟨?_,?_,?_,λi O=> ?_⟩
   .simp(disch:=omega)only[ZA,simprocAttr,q0,q1,q2]
   .simp(disch:=omega)only[ZA,simprocAttr,q2]
   .simp(disch:=omega)only[ZA,simprocAttr,q1];rw[cF];refine⟨by simp,λi r1 r2 G z=> ?_⟩;simp only[D9,Df] at G;obtain⟨i',ah,rfl⟩:=G;obtain⟨ao,an⟩:=Cd.1 ah;rw[Zc] at ao;rw[Zeq] at an;subst an;rw[az,show b.A.toNat=x by omega] at z;by_cases aj:i=y
    .subst aj;rw[Da (by simp;omega)] at z;obtain rfl:=AE z;simp only[Dz,mt,af,Fy,GQ]
    .rw[D4 (by omega)] at z;by_cases ai:i=x
     .subst ai;rw[Da (by simp;omega)] at z;obtain rfl:=AE z;simp only[Dz,mt,ad,Fy,GQ]
     .rw[D4 (by omega),D9,HK ao] at z;obtain rfl:=AE z;simp only[Dz,mt,ac (1000+i) (by omega) (by omega),Fy,GQ]
   .show Ea _ _ true (.arr 2 1 ((HQ a.2 i (k+1)).map Al)) _;rw[a0 i O];by_cases aj:i=y
    .subst aj;rw[af,Ao (.inr rfl)];simp(disch:=omega)only[ZA,simprocAttr];simp[Al]
    .by_cases ai:i=x
     .subst ai;rw[ad,Ao (.inl rfl)];simp(disch:=omega)only[ZA,simprocAttr];simp[Al]
     .rw[ac (1000+i) (by omega) (by omega),Ag (by omega)];have e: ∀(H:Ap),hget H (1000+i)=some (true,.arr 2 1 ((HQ a.2 i k).map Al))->JL [(1000+x,some 3001),(1000+y,some 3003)] true (.arr 2 1 ((HQ a.2 i k).map Al)) (hget H (1000+i)):=by
       intro H hH;rw[hH];exact⟨rfl,by simp only[Ez]⟩
      refine e _ ?_;simp only[hget,Be _ _ (show 1≠1000+i by omega),Be _ _ (show 3003≠1000+i by omega),Be _ _ (show 3002≠1000+i by omega),Be _ _ (show 3001≠1000+i by omega),Be _ _ (show 3000≠1000+i by omega),Be _ _ (show 0≠1000+i by omega),Be _ _ (show 2≠1000+i by omega),B8];rw[Kx _ _ _ (by omega),Kx _ _ _ (by omega),Kx _ _ _ (by omega),Kx _ _ _ (by omega),Hh _ _ _ _ O]
 .have a8:k=a.2.length:=by omega
  subst a8;rw[WX (T:=2) (λi=>HQ a.2 i a.2.length)]
  .simp[CI]
  .intro i O;have e:jM (1000+i)=false:=by simp only[jM,Be _ _ (show 1000+i≠0 by omega),Be _ _ (show 1000+i≠2 by omega),Qz]
   simp[I8,Am,hget,e]
  .intro i O;simp only[hget,Be _ _ (show 1≠1000+i by omega),Be _ _ (show 0≠1000+i by omega),Be _ _ (show 2≠1000+i by omega),B8];exact Hh _ _ _ _ O
 simp[newNC.H1] at hp;rcases hp with rfl|rfl
 .exact .inr ⟨by omega,by simp,rfl,rfl⟩
 .exact .inr ⟨by omega,by simp,rfl,rfl⟩
def Jf(p:Int)(b:Af)(f:Int):Int:=if b.A=p then f else if b.B=p then -f else 0
def CS(n:AZ)(p:Int):Int:=(List.zipWith (Jf p) n.Bonds n.Flow).sum
def MM(p:Int): ∀(bs:List Af) (O:List Int) (j:Nat) (b:Af) (f f':Int),bs[j]? =some b->O[j]? =some f->(List.zipWith (Jf p) bs (O.set j f')).sum=(List.zipWith (Jf p) bs O).sum - Jf p b f+Jf p b f'
 |[],_,_,_,_,_,h,_=>by simp at h
 |_::_,[],_,_,_,_,_,h=>by simp at h
 |x::r,y::s,0,b,f,f',z,G=>by
  simp only[GL,AI] at z G;subst z;subst G;simp only[Za,dG,KE];omega
 |x::r,y::s,j+1,b,f,f',z,G=>by
  have:=MM p r s j b f f' (by simpa using z) (by simpa using G)
  simp only[jC,dG,KE,this];omega
def Qzc{n:AZ}(hn:Dd n){v:Nat}{r:List Int}(Z:n.At[v]? =some r){i:Int}(G:i∈r)(p:Int):CS (HC n v i) p=CS n p+(if (v:Int)=p then 1 else if (CV n v i).2=p then -1 else 0):=by
 obtain⟨h0,b,hb,hv⟩:=hn.at_ v r Z i G;have Q:=hn.ne b (AY hb);have O:=(Cd.1 hb).1;obtain⟨f,hf⟩: ∃f,n.Flow[i.toNat]? =some f:=⟨_,Bh (by rw[hn.fl];exact O)⟩;simp only[CS,HC,hb,CV];rw[MM p _ _ _ b f _ hb hf,hf];simp only[AQ,Jf];rcases hv with h|h
 .simp only[Ao h]
  repeat' split
  all_goals omega
 .have z: ¬b.A=v:=by omega
  simp only[Ag z]
  repeat' split
  all_goals omega
def Kp(p:Int): ∀(bs:List Af) (G:List Int),(∀(i:Nat) b f,bs[i]? =some b->G[i]? =some f-> -b.Strength<=f/\f<=b.Strength)->(∀b∈bs,0<=b.Strength)->(List.zipWith (Jf p) bs G).sum<=(bs.map Af.Strength).sum
 |[],_,_,_=>by simp
 |x::r,[],_,z=>by
  have O:=Kp p r [] (λi b f _ h=>by simp at h) (λb hb=>z b (BR _ hb));have Q:=z x (BM ..);simp only[ZdR,yX,Bd,KE] at O⊢;omega
 |x::r,y::s,hc,z=>by
  have O:=Kp p r s (λi b f h h'=>hc (i+1) b f (by simpa using h) (by simpa using h')) (λb hb=>z b (BR _ hb));have Q:=z x (BM ..);have Z:=hc 0 x y rfl rfl;simp only[dG,Bd,KE,Jf];split
  .omega
  .split<;>omega
def SQ{n:AZ}(hn:Dd n)(hc:Im n)(p:Int):CS n p<=(n.Bonds.map Af.Strength).sum:=Kp p _ _ hc (λb hb=>(hn.st b hb).1)
def U4{n:AZ}(hn:Dd n)(hc:Im n){q:Int}{st qu:List Int}(z:st.length=n.Cnt.toNat)(hP:Fq n q (st,qu)){p:Int}(aa:0<=p)(ab:p<n.Cnt){d:Nat}(hd:st[p.toNat]? =some (d:Int)): ∀k,k<d->CS (BH n st p (k+1)).1 p=CS n p+1:=by
 have step: ∀k,k<d->CS (BH n st p (k+1)).1 p=CS (BH n st p k).1 p+(if k=0 then 1 else 0):=by
  intro k Q;have Z:=iA hn hc z hP aa ab hd k (by omega);obtain⟨m,r,hm,hr,hg,G,af⟩:=vP hn z hP Q Z;have ac:(BH n st p k).1.At[m]? =some r:=by rw[Z.at_];exact hr
  have e:(BH n st p (k+1)).1=HC (BH n st p k).1 m (Gw (BH n st p k).1 st m).2:=by simp only[BH,hm]
  rw[e,Qzc Z.ok ac hg.1,hg.2.2.1];have O:=hg.2.2.2.1;rw[Bt,G,AQ] at O;have ad:(Gw (BH n st p k).1 st m).1≠p:=by
   intro he;rw[he,hd,AQ] at O;omega
  by_cases h0:k=0
  .subst h0
   have:(m:Int)=p:=by rw[<-hm];rfl
   rw[Ao this,Ao rfl]
  .have:(m:Int)≠p:=by
    intro he
    have:m=p.toNat:=by omega
    rw[this,hd] at G
    have:=AE G
    omega
   rw[Ag this,Ag ad,Ag h0]
 intro k Q;induction k with
 |zero=>rw[step 0 Q];simp[BH]
 |succ k ih=>rw[step (k+1) Q,Ag (by omega),ih (by omega)];omega
def wU(bs:List Af)(i:Nat)(z:Int): ∀k,z∈HQ bs i k↔ ∃(j:Nat) (b:Af),j<k/\z=j/\bs[j]? =some b/\(b.A=i\/b.B=i)
 |0=>by simp[HQ]
 |k+1=>by
  have ih:=wU bs i z k;simp only[HQ,Br,ih];constructor
  .rintro (⟨j,b,Z,O,Q,G⟩|h)
   .exact⟨j,b,by omega,O,Q,G⟩
   .cases hb:bs[k]? with
    |none=>rw[hb] at h;simp at h
    |some b=>
     rw[hb] at h;simp only[Br] at h;refine⟨k,b,by omega,?_,hb,?_⟩
     .rcases h with h|h<;>split at h<;>simp at h<;>exact h
     .rcases h with h|h
      .split at h
       .exact .inl (by assumption)
       .simp at h
      .split at h
       .exact .inr (by assumption)
       .simp at h
  .rintro⟨j,b,Z,O,Q,G⟩;by_cases hj:j=k
   .subst hj;refine .inr ?_;rw[Q];simp only[Br];rcases G with G|G
    .exact .inl (by rw[Ao G,O];exact BE.2 rfl)
    .exact .inr (by rw[Ao G,O];exact BE.2 rfl)
   .exact .inl ⟨j,b,by omega,O,Q,G⟩
def P0(bs:List Af):Prop:= ∀b∈bs,0<=b.Strength/\b.Strength<=1000000
def Qxo{n:Int}{bs:List Af}(v:Nat)(z:v<n.toNat):(CI n bs).At[v]? =some (HQ bs v bs.length):=by
 simp only[CI,D9,HK z,Ds]
def LL{n:Int}{bs:List Af}(h:YF (n,bs))(hs:P0 bs):Dd (CI n bs)/\Im (CI n bs):=by
 obtain⟨h0,h1,h2,z,Q⟩:=h;simp only at h0 h1 h2 z Q;have hz: ∀(i:Nat) f,(CI n bs).Flow[i]? =some f->f=0:=by
  intro i f hf;exact N1 (AY hf)
 refine⟨⟨h0,by show n<=1000000;omega,by simp[CI],by simp[CI];omega,z,?_,?_,hs,?_,Q⟩,?_⟩
 .intro v r O i G;have hv:v<n.toNat:=by
   have:=(Cd.1 O).1
   simpa[CI] using this
  rw[Qxo v hv] at O;obtain rfl:=AE O;obtain⟨j,b,g1,g2,g3,g4⟩:=(wU bs v i bs.length).1 G;exact⟨by omega,b,by rw[g2,Bt];exact g3,g4⟩
 .intro x hx;obtain⟨i,G⟩:=P7.1 hx
  have:=hz i x G
  omega
 .intro i b hb;have Z:=(Cd.1 hb).1;have aa:=z b (AY hb);refine⟨⟨_,Qxo _ (by omega),(wU bs _ _ _).2 ⟨i,b,Z,rfl,hb,.inl (by omega)⟩⟩,⟨_,Qxo _ (by omega),(wU bs _ _ _).2 ⟨i,b,Z,rfl,hb,.inr (by omega)⟩⟩⟩
 .intro i b f hb hf
  have:=hz i f hf
  have:=hs b (AY hb)
  omega
def Qtg{n:Int}{bs:List Af}(p:Int):CS (CI n bs) p=0:=by
 simp only[CS,CI]
 have: ∀(l:List Af) (m:Nat),(List.zipWith (Jf p) l (List.replicate m 0)).sum=0:=by
  intro l;induction l with
  |nil=>intro m;simp
  |cons x r ih=>
   intro m;cases m with
   |zero=>simp
   |succ m=>
    simp only[Zeg,dG,KE,ih m,Jf];split
    .rfl
    .split<;>rfl
 exact this _ _
def Gh(p q:Int):Nat->AZ->AZ×Int
 |0,n=>(n,0)
 |m+1,n=>if (ER n p q).2=true then ((Gh p q m (ER n p q).1).1,(Gh p q m (ER n p q).1).2+1) else (n,0)
def DJ(n:Int)(bs:List Af)(p q:Int):AZ×Int:=Gh p q ((bs.map Af.Strength).sum.toNat+1) (CI n bs)
def Lr{n:AZ}(hn:Dd n)(hc:Im n){p q:Int}(O:0<=p)(Q:p<n.Cnt)(Z:0<=q)(aa:q<n.Cnt)(ab:p≠q)(hg:(ER n p q).2=true):
 Dd (ER n p q).1/\Im (ER n p q).1/\(ER n p q).1.Cnt=n.Cnt/\(ER n p q).1.Bonds=n.Bonds/\(ER n p q).1.At=n.At/\CS (ER n p q).1 p=CS n p+1:=by
 have z:=oA hn Z aa;have hP:Fq n q (EQ n q,(Cv n q n.Cnt.toNat).2):=MZ hn Z aa n.Cnt.toNat;obtain⟨x,hx⟩: ∃x,(EQ n q)[p.toNat]? =some x:=⟨_,Bh (by omega)⟩;simp only[ER,hx,AQ] at hg⊢;by_cases h:x<0
 .rw[Ao h] at hg;simp at hg
 .obtain⟨d,rfl⟩: ∃d:Nat,x=d:=⟨x.toNat,by omega⟩;rw[Ag h,Bt];have hd:0<d:=by
   rcases jD d with h0|h0
   .subst h0
    have:=hP.uniq p.toNat hx
    omega
   .exact h0
  have G:=iA hn hc z hP O Q hx d (AN _);have ho:=U4 hn hc z hP O Q hx (d - 1) (by omega);rw[show d - 1+1=d by omega] at ho;exact⟨G.ok,G.cap,G.cnt,G.bs,G.at_,ho⟩
abbrev jU:=Int×List Af×Int×Int
def flC.net(a:jU):AZ:=(DJ a.1 a.2.1 a.2.2.1 a.2.2.2).1
def flC.ca(a:jU):List AV:=[.im (.int .i64 a.1),.im (.sl false 3 (a.2.1.map Af.c)),.im (.int .i64 a.2.2.1),.im (.int .i64 a.2.2.2)]
def flC.H1(a:jU):Ap:=[(0,(true,.cells 344 [.im (.int .i64 a.1),.im (.sl false 3 (a.2.1.map Af.c)),.im (.sl false 1 ((CI a.1 a.2.1).At.map C4)),.own 2])),(2,(true,.arr 2 1 ((flC.net a).Flow.map Al)))]
def flC.r0(a:jU):AV:= .tup [.ptr 0 0,.im (.int .i64 (DJ a.1 a.2.1 a.2.2.1 a.2.2.2).2)]
def flC.pre(a:jU):Prop:=YF (a.1,a.2.1)/\P0 a.2.1/\0<=a.2.2.1/\a.2.2.1<a.1/\0<=a.2.2.2/\a.2.2.2<a.1/\a.2.2.1≠a.2.2.2
def flC.row:A7:=AF flC.ca (λ_=>[]) 0 flC.pre (λ_=>false) flC.r0 flC.H1 3010
def flC.ok:AA Tryz.prog 242 flC.row:=by
 refine ow (tC newNC.ok (tC growC.ok tN)) Tryz.func242 rfl (by kernel_rfl) (exB:=jM) (R:=λa r=>r=flC.r0 a) (λ_=>rfl)
  (λa=>by simp[flC.ca,Av,AV.bel,Ac,A9,BK]) (λa p hp=> ?_) (λa r h=>by subst h;exact C8.refl _) ?_
 rotate_left
 intro a ab;simp only[Tryz.f242,flC.ca,flC.H1];simp(disch:=omega)only[ZA,simprocAttr];obtain⟨G,ad,aa,ak,ac,am,ag⟩:=ab;obtain⟨Z,z⟩:=LL G ad;have ah:=Qtg (n:=a.1) (bs:=a.2.1) a.2.2.1;refine AF.os (a.1,a.2.1) [] G (λj=>by simp[Am,hget]) rfl rfl ?_ ?_
 .simp(disch:=omega)only[ZA,simprocAttr,newNC.ca]
 .simp(disch:=omega)only[ZA,simprocAttr,newNC.H1];obtain⟨F,hF⟩: ∃F,F=(a.2.1.map Af.Strength).sum.toNat+1:=⟨_,rfl⟩;refine AR.old ⟨{k:Nat×AZ//Dd k.2/\Im k.2/\k.2.Cnt=a.1/\k.2.Bonds=a.2.1/\k.2.At=(CI a.1 a.2.1).At/\CS k.2 a.2.2.1=k.1/\k.1<=F/\DJ a.1 a.2.1 a.2.2.1 a.2.2.2=((Gh a.2.2.1 a.2.2.2 (F - k.1) k.2).1,(Gh a.2.2.1 a.2.2.2 (F - k.1) k.2).2+k.1)},λk=>⟨[(11,.im (.int .i64 k.1.1)),(10,.ptr 0 0),(2,.im (.int .i64 a.2.2.1)),(3,.im (.int .i64 a.2.2.2))],[(0,(true,.cells 344 [.im (.int .i64 a.1),.im (.sl false 3 (a.2.1.map Af.c)),.im (.sl false 1 ((CI a.1 a.2.1).At.map C4)),.own 2])),(2,(true,.arr 2 1 (k.1.2.Flow.map Al)))],3010⟩,λk=>F - k.1.1,λk=>⟨by simp[Aj.good,An,Ac,A9,AV.bel,Av],AN _⟩,⟨⟨(0,CI a.1 a.2.1),Z,z,rfl,rfl,rfl,ah,CF _,by simp[DJ,hF]⟩,by simp(disch:=omega)only[ZA,simprocAttr,sub]⟩,λk=> ?_⟩;obtain⟨⟨k,N⟩,i1,i2,i3,i4,i5,i6,i7,O⟩:=k;simp only at i1 i2 i3 i4 i5 i6 i7 O;have af:=SQ i1 i2 a.2.2.1;rw[i4,i6] at af;have aj:k<F:=by omega
  have ai:F<=1000000000001:=by
   have h2: ∀(l:List Af),(∀b∈l,b.Strength<=1000000)->(l.map Af.Strength).sum<=1000000*(l.length:Int):=by
    intro l;induction l with
    |nil=>intro _;simp
    |cons x r ih=>
     intro h;have h3:=ih (λb hb=>h b (BR _ hb));have h4:=h x (BM ..);simp only[Bd,KE,CY];omega
   have h3:=h2 a.2.1 (λb hb=>(ad b hb).2);have h4:=G.2.2.1;simp only at h4;omega
  obtain⟨m,hm⟩: ∃m,F - k=m+1:=⟨F - k - 1,by omega⟩;rw[hm,Gh] at O;simp(disch:=omega)only[ZA,simprocAttr];refine AF.os (N,a.2.2.1,a.2.2.2) [0,2] ⟨i1,i2,aa,by simp only;omega,ac,by simp only;omega⟩ (λj=>kK _ j) rfl rfl ?_ ?_
  .simp(disch:=omega)only[ZA,simprocAttr,D5,growC.ca,FS,H6];rw[i3,i4,i5];exact⟨rfl,rfl,rfl⟩
  .simp(disch:=omega)only[ZA,simprocAttr,D5,jM,growC.H1,growC.r0,Zy,sub,AP];refine⟨λQ=> ?_,λQ=> ?_⟩
   .rw[Ao Q] at O;obtain⟨g1,g2,g3,g4,g5,g6⟩:=Lr i1 i2 aa (by omega) ac (by omega) ag Q;refine⟨⟨(k+1,(ER N a.2.2.1 a.2.2.2).1),g1,g2,g3.trans i3,g4.trans i4,g5.trans i5,by simp only;omega,by simp only;omega,?_⟩,by simp only;omega,?_,rfl⟩
    .simp only;rw[show F - (k+1)=m by omega,O];simp only[Ej,rX];omega
    .rw[AG (by omega) (by omega)];simp only;omega
   .rw[Ag Q] at O;have e:(ER N a.2.2.1 a.2.2.2).1=N:=by
     revert Q;simp only[ER];split
     .intro _;rfl
     .intro h;simp at h
    refine⟨?_,?_⟩
    .simp only[flC.r0,O];simp
    .rw[e];simp only[flC.net,O]
 simp[flC.H1] at hp;rcases hp with rfl|rfl
 .exact .inr ⟨by omega,by simp,rfl,rfl⟩
 .exact .inr ⟨by omega,by simp,rfl,rfl⟩
def Ph:D->Option Int
 | .int .u64 n=>some n
 |_=>none
def xG: ∀d x,Ph d=some x->Le d (.int .u64 x):=by
 intro d x h;unfold Ph at h;split at h
 .simp only[AI] at h;subst h;exact Le.refl _
 .cases h
def Qw1{a:Int}(h0:0<=a)(G:a<4294967296):W1 .u64 a 4294967295=a:=by
 simp only[W1];obtain⟨n,rfl⟩: ∃n:Nat,a=n:=⟨a.toNat,by omega⟩;have hn:n<4294967296:=by omega
 have:(BitVec.ofInt IntKind.u64.bits (n:Int) &&& BitVec.ofInt IntKind.u64.bits 4294967295).toNat=n:=by
  have e:IntKind.u64.bits=64:=rfl;rw[e];simp only[BitVec.toNat_and,BitVec.toNat_ofInt];rw[show ((n:Int) % ((2^64:Nat):Int)).toNat=n by omega,show ((4294967295:Int) % ((2^64:Nat):Int)).toNat=2^32 - 1 by decide];rw[Nat.and_two_pow_sub_one_eq_mod];omega
 rw[this];unfold IntKind.wrap;have e:IntKind.u64.bits=64:=rfl;have z:IntKind.u64.signed=false:=rfl;simp only[e,z,Ei,CE,Cy];omega
def ML{a:Int}(h0:0<=a)(G:a<18446744073709551616):IntKind.u64.wrap a=a:=by
 unfold IntKind.wrap;have e:IntKind.u64.bits=64:=rfl;have z:IntKind.u64.signed=false:=rfl;simp only[e,z,Ei,CE,Cy];omega
def KZ{a:Int}(h0:0<=a)(z:a<4294967296):a.fdiv (2^min 32 IntKind.u64.bits)=0:=by
 have e:IntKind.u64.bits=64:=rfl;rw[e,show (2:Int)^min 32 64=4294967296 by decide,Zei _ (by decide)];omega
def mul64.fv(a:Int×Int):Int×Int:=(λ_ y=>(0,y)) (a.1) (a.2)
def mul64.row:A7:=vK (b2 qU qU) (r2 (RK.mk (Ph) (D.int .u64) (xG)) (RK.mk (Ph) (D.int .u64) (xG))) (λa=>a.1=1/\0<=a.2/\a.2<=1000000) mul64.fv
def mul64.q:=AU (R:=mul64.row) rfl
def mul64.ok:AA Tryz.prog 300 mul64.row:=by
 refine vw tN Tryz.func300 rfl (by kernel_rfl) ?_;intro a z;simp only[Tryz.f300];simp(disch:=omega)only[ZA,simprocAttr,mul64.fv];obtain⟨O,G,Q⟩:=z;rw[O,Qw1 (by omega) (by omega),Qw1 (by omega) (by omega),KZ (by omega) (by omega),KZ G (by omega),Int.zero_mul,Int.one_mul,Int.zero_mul,Int.mul_zero];simp only[ML G (show a.2<18446744073709551616 by omega),KZ G (show a.2<4294967296 by omega),ML (PB 0) (by decide),Int.add_zero,KZ (PB 0) (by decide),Qw1 (PB 0) (by decide)];rfl
def mul_.fv(a:Int×Int):Int×Int:=(λ_ y=>(0,y)) (a.1) (a.2)
def mul_.row:A7:=vK (b2 qU qU) (r2 (RK.mk (Ph) (D.int .u64) (xG)) (RK.mk (Ph) (D.int .u64) (xG))) (λa=>a.1=1/\0<=a.2/\a.2<=1000000) mul_.fv
def mul_.q:=AU (R:=mul_.row) rfl
def mul_.ok:AA Tryz.prog 298 mul_.row:=by
 refine vw (tC mul64.ok tN) Tryz.func298 rfl (by kernel_rfl) ?_;intro a z;simp only[Tryz.f298];simp(disch:=omega)only[ZA,simprocAttr,mul_.fv,mul64.q,mul64.fv];exact⟨z,rfl⟩
def DG(x:Int)(m n:Nat):List (List D):=List.replicate m [.int .i64 x]++List.replicate (n - m) [.int .i64 0]
def Tn(x:Int){m n:Nat}(h:m<=n):(DG x m n).length=n:=by simp[DG];omega
def Tp(x:Int)(n:Nat):DG x (min 1 n) n=List.take (min 1 n) [[.int .i64 x]]++List.drop (min 1 n) (List.replicate n [.int .i64 0]):=by
 cases n with
 |zero=>rfl
 |succ n=>
  rw[show min 1 (n+1)=1 by omega];simp[DG]
def MO(x:Int)(k m n:Nat):BL BC (List.take k (DG x m n)):=by
 intro r z
 have:=yN z
 rcases Br.1 this with h|h<;>rw[N1 h]<;>rfl
def O6(x:Int){m n:Nat}(h:m<n):List.take m (DG x m n)++List.take (min m (n - m)) (List.take m (DG x m n))++List.drop (m+min m (n - m)) (DG x m n)=DG x (m+min m (n - m)) n:=by
 have e:List.take m (DG x m n)=List.replicate m [.int .i64 x]:=by simp[DG]
 rw[e];have z:List.drop (m+min m (n - m)) (DG x m n)=List.replicate (n - (m+min m (n - m))) [.int .i64 0]:=by
  simp only[DG];rw[UU,CZ (by simp),GM,Nw,List.drop_replicate];congr 1;omega
 rw[z,DG,<-List.replicate_append_replicate];congr 2;rw[List.take_replicate];congr 1;omega
def rept.ca(a:Int×Int):List AV:=[.own 0,.im (.int .i64 a.2)]
def rept.H0(a:Int×Int):Ap:=[(0,(true,.arr 3 1 [[.int .i64 a.1]]))]
def rept.H1(a:Int×Int):Ap:=[(1,(true,.arr 3 1 (List.replicate a.2.toNat [.int .i64 a.1])))]
def rept.pre(a:Int×Int):Prop:=0<=a.2/\a.2<=1000000
def rept.row:A7:=AF rept.ca rept.H0 1 rept.pre (λ_=>false) (λ_=> .own 1) rept.H1 20
def rept.ok:AA Tryz.prog 294 rept.row:=by
 refine SR (tC mul_.ok tN) Tryz.func294 rfl (by kernel_rfl) (exB:=λj=>j==1) (R:=λa r=>r= .own 1) (λ_=>rfl)
  (λa=>by simp[rept.ca,rept.H0,Av,AV.bel,Ac,A9,BK,Ad.nms,Am,hget]) (λa p hp=> ?_) (λa r h=>by subst h;exact C8.refl _) ?_
 rotate_left
 intro a G;simp only[Tryz.f294,rept.ca,rept.H0,rept.H1];simp(disch:=omega)only[ZA,simprocAttr,mul_.q,mul_.fv,Jq,Eh,G6];obtain⟨h0,Z⟩:=G;rw[Ag (by omega)];simp(disch:=omega)only[ZA,simprocAttr,ML (show (0:Int)<=1 by decide) (show (1:Int)<18446744073709551616 by decide),ML h0 (show a.2<18446744073709551616 by omega)];refine⟨⟨h0,Z⟩,?_⟩;rw[Ag (by omega)];simp(disch:=omega)only[simprocAttr,AG (show -9223372036854775808<=a.2 by omega) (show a.2<=9223372036854775807 by omega)];refine⟨h0,PB _,by omega,?_⟩;obtain⟨n,hn⟩: ∃n:Nat,a.2=n:=⟨a.2.toNat,by omega⟩;obtain⟨x,hx⟩: ∃x,x=a.1:=⟨_,rfl⟩;simp only[hn,Bt,Nw,<-hx];rw[hn] at h0 Z;refine AR.old ⟨{m:Nat//m<=n/\(m=0->n=0)},λm=>⟨[(8,.im (.int .i64 m.1)),(7,.own 1)],[(1,(true,.arr 3 1 (DG x m.1 n))),(0,(true,.arr 3 1 [[.int .i64 x]]))],2⟩,λm=>n - m.1,λm=>⟨by simp[Aj.good,An,Ac,A9,AV.bel],by simp⟩,⟨⟨min 1 n,by omega,by omega⟩,?_⟩,λm=> ?_⟩
 .simp(disch:=omega)only[ZA,simprocAttr,sub];exact (Tp x n).symm
 obtain⟨m,Q,ab⟩:=m;have z:=Tn x Q;simp(disch:=omega)only[ZA,simprocAttr,F3,AP,z];intro aa;refine⟨λhm=>⟨by omega,false,?_⟩,λhm=> ?_⟩
 .simp(disch:=omega)only[ZA,simprocAttr,z];refine⟨by omega,false,?_⟩;simp(disch:=omega)only[ZA,simprocAttr,sub];obtain⟨k,hk⟩: ∃k,min (List.take ((m:Int) - 0).toNat (DG x m n)).length ((n:Int) - m).toNat=k:=⟨_,rfl⟩;have O:k=min m (n - m):=by rw[<-hk,Ci,z];omega
  rw[hk,show ((m:Int) - 0).toNat=m by omega];refine⟨MO x _ _ _,⟨m+k,by omega,by omega⟩,by simp only;omega,by rw[AG (by omega) (by omega)];simp only;omega,?_⟩;subst O;exact O6 x hm
 .refine⟨[],[],⟨[(4,.own 1)],[(1,(true,.arr 3 1 (DG x m n))),(0,(true,.arr 3 1 [[.int .i64 x]]))],2⟩,?_,by simp[Aj.good,An,Ac,A9,AV.bel],by simp,?_⟩
  .simp only[A8];simp(disch:=omega)only[ZA,simprocAttr,Bz]
  .simp(disch:=omega)only[ZA,simprocAttr]
   have:m=n:=by omega
   subst this;simp[DG]
 simp[rept.H1] at hp;subst hp;exact .inr ⟨by omega,by omega,rfl,rfl⟩
def yF(x:Ba)(u v:Int):Int:=(x.Room[u.toNat]?.getD [])[v.toNat]?.getD 0
def yM(x:Ba)(u v:Int):Int:=(x.Flow[u.toNat]?.getD [])[v.toNat]?.getD 0
def UL(x:Ba)(u v:Int):Bool:=decide (yM x u v<yF x u v)
structure JA(x:Ba)(n:Nat):Prop where
 r:x.Room.length=n
 f:x.Flow.length=n
 rr: ∀l∈x.Room,l.length=n
 ff: ∀l∈x.Flow,l.length=n
def GG(x:Ba)(u:Int)(s:List Int×List Int)(v:Nat):List Int×List Int:=
 if s.1[v]?.getD 0<0/\UL x u v=true then (s.1.set v u,s.2++[(v:Int)]) else s
def C3(x:Ba)(u:Int)(s:List Int×List Int):Nat->List Int×List Int
 |0=>s
 |k+1=>GG x u (C3 x u s k) k
def CD(x:Ba)(n:Nat)(p:Int):Nat->List Int×List Int
 |0=>((List.replicate n (-1)).set p.toNat p,[p])
 |k+1=>match (CD x n p k).2[k]? with
  |none=>CD x n p k
  |some u=>C3 x u (CD x n p k) n
structure Ga(x:Ba)(n:Nat)(p:Int)(s:List Int×List Int):Prop where
 len:s.1.length=n
 q: ∀v∈s.2,0<=v/\v<n
 nd:s.2.Nodup
 hd:s.2[0]? =some p
 pp:s.1[p.toNat]? =some p
 mem: ∀(v:Nat) (y:Int),s.1[v]? =some y->(0<=y↔(v:Int)∈s.2)
 prev: ∀(i:Nat) (v:Int),s.2[i]? =some v->0<i-> ∃(j:Nat) (u:Int),j<i/\s.2[j]? =some u/\s.1[v.toNat]? =some u/\UL x u v=true
def Qtz: ∀(n:Nat) (l:List Int),l.Nodup->(∀v∈l,0<=v/\v<n)->l.length<=n
 |0,[],_,_=>AN _
 |0,x::r,_,h=>by have:=h x (BM ..);omega
 |n+1,l,h,hb=>by
  have O:=Qtz n (l.erase (n:Int)) (h.erase _) (λv G=>by
   have z:=(h.mem_erase_iff).1 G;have Q:=hb v z.2
   have:=z.1
   omega)
  have z:=List.length_erase (a:=(n:Int)) (l:=l);split at z<;>omega
def wV{x:Ba}{n:Nat}{p:Int}{s:List Int×List Int}(h:Ga x n p s):s.2.length<=n:=Qtz n s.2 h.nd h.q
def gG{x:Ba}{n:Nat}{p:Int}{s:List Int×List Int}(h:Ga x n p s){u:Int}{k v:Nat}(hu:s.2[k]? =some u)(hv:v<n):Ga x n p (GG x u s v)/\ ∃r,(GG x u s v).2=s.2++r:=by
 simp only[GG];split
 .rename_i hc;obtain⟨ac,ad⟩:=hc;have O:v<s.1.length:=by rw[h.len];exact hv
  obtain⟨y,hy⟩: ∃y,s.1[v]? =some y:=⟨_,Bh O⟩;rw[hy,AQ] at ac;have Q:(v:Int)∉s.2:=λhm=>by have:=(h.mem v y hy).2 hm;omega
  have aa:p∈s.2:=AY h.hd;have ah:p.toNat≠v:=by
   intro he
   have:=h.q p aa
   exact Q (by rw[show (v:Int)=p by omega];exact aa)
  have ai:=h.q u (AY hu);refine⟨⟨by simpa using h.len,λw G=> ?_,?_,?_,?_,λw z hz=> ?_,λi w G hi=> ?_⟩,_,rfl⟩
  .rcases Br.1 G with G|G
   .exact h.q w G
   .rw[BE] at G;subst G;omega
  .rw[US];refine⟨h.nd,by simp,λa ha b hb=> ?_⟩;rw[BE] at hb;subst hb;exact λhe=>Q (he▸ha)
  .have:=h.hd
   rw[E7 (Cd.1 this).1];exact this
  .simp only;rw[D4 (E9 ah)];exact h.pp
  .simp only at hz⊢;rw[Br,BE];by_cases ab:v=w
   .subst ab;rw[Da O] at hz;obtain rfl:=AE hz;exact⟨λ_=> .inr rfl,λ_=>ai.1⟩
   .rw[D4 ab] at hz;rw[h.mem w z hz];constructor
    .exact .inl
    .rintro (h1|h1)
     .exact h1
     .omega
  .simp only at G⊢;by_cases ag:i<s.2.length
   .rw[E7 ag] at G;obtain⟨j,z,h1,h2,h3,h4⟩:=h.prev i w G hi;refine⟨j,z,h1,by rw[E7 (by omega)];exact h2,?_,h4⟩;have aj:=h.q w (AY G);rw[D4]
    .exact h3
    .intro he;exact Q (by rw[show (v:Int)=w by omega];exact AY G)
   .have af:i=s.2.length:=by
     have:=(Cd.1 G).1
     simp only[Dn,CY,G5] at this;omega
    subst af;rw[Fo (AN _),GS,GL] at G;obtain rfl:=AE G;have Z:=(Cd.1 hu).1;refine⟨k,u,Z,by rw[E7 Z];exact hu,?_,ad⟩;rw[Bt,Da O]
 .exact⟨h,[],by simp⟩
def Qoj(x:Ba)(u:Int)(s:List Int×List Int)(v w:Nat)(y:Int)(h:s.1[w]? =some y)(h0:0<=y):(GG x u s v).1[w]? =some y:=by
 simp only[GG];split
 .rename_i hc;rw[D4]
  .exact h
  .intro z;subst z
   have:=hc.1
   rw[h,AQ] at this;omega
 .exact h
def Qvl(x:Ba)(u:Int)(s:List Int×List Int)(w:Nat)(y:Int)(h:s.1[w]? =some y)(h0:0<=y): ∀k,(C3 x u s k).1[w]? =some y
 |0=>h
 |k+1=>Qoj x u _ k w y (Qvl x u s w y h h0 k) h0
def rD{x:Ba}{n:Nat}{p:Int}{s:List Int×List Int}(h:Ga x n p s){u:Int}{i:Nat}(G:s.2[i]? =some u): ∀k,k<=n->Ga x n p (C3 x u s k)/\ ∃r,(C3 x u s k).2=s.2++r
 |0,_=>⟨h,[],by simp[C3]⟩
 |k+1,hk=>by
  obtain⟨Z,r,Q⟩:=rD h G k (by omega);have O:=(Cd.1 G).1;obtain⟨h2,r',z⟩:=gG Z (u:=u) (k:=i) (v:=k) (by rw[Q,E7 O];exact G) (by omega);exact⟨h2,r++r',by rw[C3,z,Q,HP]⟩
def Qz6{x:Ba}{n:Nat}{p:Int}{s:List Int×List Int}(h:Ga x n p s){u:Int}{i:Nat}(G:s.2[i]? =some u): ∀k,k<=n-> ∀v,v<k->UL x u v=true-> ∃y,(C3 x u s k).1[v]? =some y/\0<=y
 |0,_,v,hv,_=>by omega
 |k+1,hk,v,hv,hf=>by
  by_cases Q:v<k
  .obtain⟨y,h1,Z⟩:=Qz6 h G k (by omega) v Q hf;exact⟨y,Qoj x u _ k v y h1 Z,Z⟩
  .have:v=k:=by omega
   subst this;have hP:=(rD h G v (by omega)).1;obtain⟨y,hy⟩: ∃y,(C3 x u s v).1[v]? =some y:=⟨_,Bh (by rw[hP.len];omega)⟩;by_cases z:0<=y
   .exact⟨y,Qoj x u _ v v y hy z,z⟩
   .have O:=h.q u (AY G);refine⟨u,?_,O.1⟩;rw[C3,GG,Ao ⟨by rw[hy,AQ];omega,hf⟩];exact Da (by rw[hP.len];omega)
def Qp{x:Ba}{n:Nat}{p:Int}(h0:0<=p)(Q:p<n): ∀k,Ga x n p (CD x n p k)
 |0=>by
  have hq:p.toNat<(List.replicate n (-1:Int)).length:=by rw[Nw];omega
  refine⟨by simp[CD],λv z=> ?_,by simp[CD],rfl,Da hq,λv y G=> ?_,λi v z hi=> ?_⟩
  .simp only[CD,BE] at z;subst z;omega
  .simp only[CD,BE] at G⊢;by_cases O:p.toNat=v
   .subst O;rw[Da hq] at G;obtain rfl:=AE G;omega
   .rw[D4 O] at G
    have:=N1 (AY G)
    omega
  .simp only[CD] at z;cases i with
   |zero=>omega
   |succ i=>simp at z
 |k+1=>by
  have ih:=Qp (x:=x) h0 Q k;simp only[CD];split
  .exact ih
  .rename_i u Z;exact (rD ih Z n (AN _)).1
def jY(x:Ba)(n:Nat)(p:Int)(w:Nat)(y:Int)(h0:0<=y)(k:Nat)(h:(CD x n p k).1[w]? =some y): ∀m,(CD x n p (k+m)).1[w]? =some y
 |0=>h
 |m+1=>by
  have ih:=jY x n p w y h0 k h m;rw[show k+(m+1)=k+m+1 by omega,CD];split
  .exact ih
  .exact Qvl x _ _ w y ih h0 n
def U7(x:Ba){n:Nat}{p:Int}(h0:0<=p)(z:p<n)(k:Nat): ∃r,(CD x n p (k+1)).2=(CD x n p k).2++r:=by
 rw[CD];split
 .exact⟨[],by simp⟩
 .rename_i u G;exact (rD (Qp (x:=x) h0 z k) G n (AN _)).2
def MH(x:Ba)(n:Nat)(p:Int): ∀(m k:Nat),(CD x n p k).2.length<=k->CD x n p (k+m)=CD x n p k
 |0,k,_=>rfl
 |m+1,k,h=>by
  have z:CD x n p (k+1)=CD x n p k:=by
   rw[CD,F7 h]
  have G:=MH x n p m (k+1) (by rw[z];omega);rw[show k+(m+1)=k+1+m by omega,G,z]
def Qzh(x:Ba){n:Nat}{p:Int}(h0:0<=p)(G:p<n): ∀(k:Nat) (j:Nat) (u:Int),j<k->(CD x n p k).2[j]? =some u-> ∀v,v<n->UL x u v=true-> ∃y,(CD x n p k).1[v]? =some y/\0<=y
 |0,j,_,hj,_,_,_,_=>by omega
 |k+1,j,u,hj,z,v,Z,hf=>by
  obtain⟨r,hr⟩:=U7 x h0 G k;by_cases Q:j<(CD x n p k).2.length
  .rw[hr,E7 Q] at z;by_cases O:j<k
   .obtain⟨y,g1,g2⟩:=Qzh x h0 G k j u O z v Z hf;exact⟨y,jY x n p v y g2 k g1 1,g2⟩
   .have:j=k:=by omega
    subst this;obtain⟨y,g1,g2⟩:=Qz6 (Qp (x:=x) h0 G j) z n (AN _) v Z hf;exact⟨y,by rw[CD,z];exact g1,g2⟩
  .have e:CD x n p (k+1)=CD x n p k:=by
    rw[CD,F7 (by omega)]
   rw[e] at z
   have:=(Cd.1 z).1
   omega
def Bs(x:Ba)(n:Nat)(p:Int):List Int×List Int:=CD x n p n
def Qww(x:Ba){n:Nat}{p:Int}(h0:0<=p)(G:p<n){u v:Nat}{y:Int}(hu:(Bs x n p).1[u]? =some y)(hy:0<=y)(hv:v<n)(hf:UL x u v=true): ∃z,(Bs x n p).1[v]? =some z/\0<=z:=by
 have O:=Qp (x:=x) h0 G n;have hm:=(O.mem u y hu).1 hy;obtain⟨j,Q⟩:=P7.1 hm;have hl:=wV O;have Z:=(Cd.1 Q).1;exact Qzh x h0 G n j u (by omega) Q v hv hf
def Dm(z:List Int)(q:Int):Nat->Int
 |0=>q
 |k+1=>z[(Dm z q k).toNat]?.getD 0
def qG(z:List Int)(p q:Int)(n:Nat):Nat:=((List.range (n+1)).find? λk=>decide (Dm z q k=p)).getD 0
def HF(z:List Int)(q:Int)(k:Nat):List Int:=(List.range (k+1)).map (Dm z q)
def Cm(x:Ba)(n:Nat)(p q:Int):List Int:=
 if (Bs x n p).1[q.toNat]?.getD 0<0 then [] else (HF (Bs x n p).1 q (qG (Bs x n p).1 p q n)).reverse
def pA{x:Ba}{n:Nat}{p:Int}{s:List Int×List Int}(h:Ga x n p s){q:Int}{i:Nat}(hq:s.2[i]? =some q): ∀k,(∀j,j<k->Dm s.1 q j≠p)-> ∃j,j+k<=i/\s.2[j]? =some (Dm s.1 q k)
 |0,_=>⟨i,by omega,hq⟩
 |k+1,z=>by
  obtain⟨j,h1,G⟩:=pA h hq k (λj hj=>z j (by omega));have O:0<j:=by
   rcases jD j with h0|h0
   .subst h0;rw[h.hd] at G;exact absurd (AE G).symm (z k (by omega))
   .exact h0
  obtain⟨j',u,g1,g2,Q,Z⟩:=h.prev j _ G O;exact⟨j',by omega,by rw[Dm,Q,AQ];exact g2⟩
def NC{x:Ba}{n:Nat}{p:Int}{s:List Int×List Int}(h:Ga x n p s){q:Int}{i:Nat}(hq:s.2[i]? =some q){k:Nat}(z: ∀j,j<k+1->Dm s.1 q j≠p):UL x (Dm s.1 q (k+1)) (Dm s.1 q k)=true/\ ∃y,s.1[(Dm s.1 q k).toNat]? =some y/\Dm s.1 q (k+1)=y:=by
 obtain⟨j,h1,G⟩:=pA h hq k (λj hj=>z j (by omega));have O:0<j:=by
  rcases jD j with h0|h0
  .subst h0;rw[h.hd] at G;exact absurd (AE G).symm (z k (by omega))
  .exact h0
 obtain⟨j',u,g1,g2,Q,Z⟩:=h.prev j _ G O;have e:Dm s.1 q (k+1)=u:=by rw[Dm,Q,AQ]
 exact⟨by rw[e];exact Z,u,Q,e⟩
def Qq3{x:Ba}{n:Nat}{p:Int}{s:List Int×List Int}(h:Ga x n p s){q:Int}{i:Nat}(hq:s.2[i]? =some q): ∃d,d<=i/\Dm s.1 q d=p/\ ∀j,j<d->Dm s.1 q j≠p:=by
 have Q: ∀m,(∃d,d<=m/\Dm s.1 q d=p/\ ∀j,j<d->Dm s.1 q j≠p)\/ ∀j,j<=m->Dm s.1 q j≠p:=by
  intro m;induction m with
  |zero=>
   by_cases h0:Dm s.1 q 0=p
   .exact .inl ⟨0,AN _,h0,λj G=>by omega⟩
   .exact .inr λj G=>by rw[show j=0 by omega];exact h0
  |succ m ih=>
   rcases ih with ⟨d,z,Z,h3⟩|ih
   .exact .inl ⟨d,by omega,Z,h3⟩
   .by_cases h0:Dm s.1 q (m+1)=p
    .exact .inl ⟨m+1,AN _,h0,λj G=>ih j (by omega)⟩
    .refine .inr λj G=> ?_
     by_cases O:j<=m
     .exact ih j O
     .rw[show j=m+1 by omega];exact h0
 rcases Q i with z|z
 .exact z
 .obtain⟨j,g1,g2⟩:=pA h hq (i+1) (λj G=>z j (by omega));omega
def Qqr{z:List Int}{p q:Int}{n d:Nat}(hd:d<=n)(G:Dm z q d=p)(O: ∀j,j<d->Dm z q j≠p):qG z p q n=d:=by
 have: ∀(m s:Nat),s<=d->d<s+m->((List.range' s m).find? λk=>decide (Dm z q k=p))=some d:=by
  intro m;induction m with
  |zero=>intro s Q Z;omega
  |succ m ih=>
   intro s Q Z;rw[List.range'_succ,zB];by_cases hs:s=d
   .subst hs;simp[G]
   .rw[show decide (Dm z q s=p)=false from dN (O s (by omega))];exact ih (s+1) (by omega) (by omega)
 rw[qG,Zea,this _ 0 (by omega) (by omega),AQ]
def AH(f:Nat->Int):Nat->Int
 |0=>0
 |n+1=>AH f n+f n
def Fc{f g:Nat->Int}: ∀{n:Nat},(∀i,i<n->f i=g i)->AH f n=AH g n
 |0,_=>rfl
 |n+1,h=>by simp only[AH];rw[Fc (λi z=>h i (by omega)),h n (by omega)]
def Qc(f g:Nat->Int): ∀n,AH (λi=>f i+g i) n=AH f n+AH g n
 |0=>rfl
 |n+1=>by simp only[AH];rw[Qc f g n];omega
def oU(f:Nat->Int): ∀n,AH (λi=> - f i) n= - AH f n
 |0=>rfl
 |n+1=>by simp only[AH];rw[oU f n];omega
def PZ: ∀n,AH (λ_=>0) n=0
 |0=>rfl
 |n+1=>by simp only[AH];rw[PZ n];rfl
def Qxf{f g:Nat->Int}: ∀{n:Nat},(∀i,i<n->f i<=g i)->AH f n<=AH g n
 |0,_=>PB _
 |n+1,h=>by
  have z:=Qxf (f:=f) (g:=g) (n:=n) (λi O=>h i (by omega));have G:=h n (by omega);simp only[AH];omega
def Qt3(f:Nat->Nat->Int)(m:Nat): ∀n,AH (λi=>AH (λj=>f i j) m) n=AH (λj=>AH (λi=>f i j) n) m
 |0=>by simp only[AH];exact (PZ m).symm
 |n+1=>by simp only[AH];rw[Qt3 f m n,<-Qc]
def VR(k:Nat)(c:Int): ∀n,AH (λi=>if i=k then c else 0) n=if k<n then c else 0
 |0=>rfl
 |n+1=>by
  simp only[AH];rw[VR k c n];by_cases z:n=k
  .subst z;rw[Ag (by omega),Ao rfl,Ao (by omega)];omega
  .rw[Ag z];by_cases G:k<n
   .rw[Ao G,Ao (by omega)];omega
   .rw[Ag G,Ag (by omega)];omega
def Pa(a:Nat->Nat->Int)(n:Nat)(h: ∀u w,u<n->w<n->a u w= - a w u):AH (λu=>AH (λw=>a u w) n) n=0:=by
 have O:AH (λu=>AH (λw=>a u w) n) n= - AH (λu=>AH (λw=>a u w) n) n:=by
  rw[<-oU]
  conv=>lhs;rw[Qt3]
  refine Fc λu z=> ?_
  rw[<-oU];exact Fc λw G=>h w u G z
 omega
structure Qg(rm fl:Nat->Nat->Int)(n p q:Nat)(v:Int):Prop where
 anti: ∀u w,u<n->w<n->fl u w= - fl w u
 cap: ∀u w,u<n->w<n->fl u w<=rm u w
 cons: ∀u,u<n->u≠p->u≠q->AH (fl u) n=0
 val:AH (fl p) n=v
def DZ(rm:Nat->Nat->Int)(n:Nat)(S:Nat->Bool):Int:=AH (λu=>AH (λw=>if S u=true/\S w=false then rm u w else 0) n) n
def kE{rm fl:Nat->Nat->Int}{n p q:Nat}{v:Int}(h:Qg rm fl n p q v)(hp:p<n){S:Nat->Bool}(Q:S p=true)(Z:S q=false):DZ fl n S=v:=by
 have h1:AH (λu=>AH (λw=>if S u=true then fl u w else 0) n) n=v:=by
  have:AH (λu=>AH (λw=>if S u=true then fl u w else 0) n) n=AH (λu=>if u=p then v else 0) n:=by
   refine Fc λu G=> ?_
   by_cases z:u=p
   .subst z;rw[Ao rfl,<-h.val];exact Fc λw _=>Ao Q
   .rw[Ag z];cases hSu:S u with
    |false=>exact (Fc λw _=>Ag (by simp)).trans (PZ n)
    |true=>
     have O:u≠q:=λhe=>by rw[he,Z] at hSu;cases hSu
     exact (Fc λw _=>Ao rfl).trans (h.cons u G z O)
  rw[this,VR,Ao hp]
 have h2:AH (λu=>AH (λw=>if S u=true/\S w=true then fl u w else 0) n) n=0:=by
  refine Pa _ n λu w G hw=> ?_
  by_cases hb:S u=true/\S w=true
  .rw[Ao hb,Ao ⟨hb.2,hb.1⟩];exact h.anti u w G hw
  .rw[Ag hb,Ag (λh=>hb ⟨h.2,h.1⟩)];rfl
 have h3:AH (λu=>AH (λw=>if S u=true then fl u w else 0) n) n=AH (λu=>AH (λw=>if S u=true/\S w=true then fl u w else 0) n) n+DZ fl n S:=by
  rw[DZ,<-Qc];refine Fc λu _=> ?_
  rw[<-Qc];refine Fc λw _=> ?_
  cases S u<;>cases S w<;>simp
 omega
def Qw8{rm fl:Nat->Nat->Int}{n p q:Nat}{v:Int}(h:Qg rm fl n p q v)(hp:p<n){S:Nat->Bool}(z:S p=true)(G:S q=false):v<=DZ rm n S:=by
 rw[<-kE h hp z G];refine Qxf λu O=>Qxf λw Q=> ?_
 split
 .exact h.cap u w O Q
 .exact PB _
def Qxp{rm fl:Nat->Nat->Int}{n p q:Nat}{v:Int}(h:Qg rm fl n p q v)(hp:p<n){S:Nat->Bool}(Q:S p=true)(Z:S q=false)(z: ∀u w,u<n->w<n->S u=true->S w=false->rm u w<=fl u w):v=DZ rm n S:=by
 rw[<-kE h hp Q Z];refine Fc λu G=>Fc λw O=> ?_
 split
 .rename_i hb;have h1:=h.cap u w G O;have h2:=z u w G O hb.1 hb.2;omega
 .rfl
def GJ(L:Nat->Nat)(a b j:Nat):Int:=if L j=a/\L (j+1)=b then 1 else 0
def nV(L:Nat->Nat)(a b:Nat): ∀i,0<=AH (GJ L a b) i
 |0=>PB _
 |i+1=>by
  have:=nV L a b i
  simp only[AH,GJ]
  split<;>omega
def wT{L:Nat->Nat}{m:Nat}(z: ∀i j,i<=m->j<=m->L i=L j->i=j)(a b:Nat): ∀i,i<=m->AH (GJ L a b) i<=1/\(0<AH (GJ L a b) i-> ∃j,j<i/\L j=a/\L (j+1)=b)
 |0,_=>⟨by simp[AH],λh=>by simp[AH] at h⟩
 |i+1,hi=>by
  obtain⟨h1,Q⟩:=wT z a b i (by omega);have h0:=nV L a b i;simp only[AH];by_cases hc:L i=a/\L (i+1)=b
  .have hz: ¬0<AH (GJ L a b) i:=by
    intro G;obtain⟨j,Z,O,_⟩:=Q G
    have:=z j i (by omega) (by omega) (O.trans hc.1.symm)
    omega
   simp only[GJ] at hz h0⊢;rw[Ao hc];exact⟨by omega,λ_=>⟨i,by omega,hc⟩⟩
  .have e:GJ L a b i=0:=Ag hc;rw[e];refine⟨by omega,λG=> ?_⟩;obtain⟨j,Z,O⟩:=Q (by omega);exact⟨j,by omega,O⟩
def kJ{L:Nat->Nat}{n m:Nat}(z: ∀i,i<=m->L i<n)(a:Nat): ∀i,i<=m->AH (λb=>AH (GJ L a b) i - AH (GJ L b a) i) n=(if L 0=a then 1 else 0) - (if L i=a then 1 else 0)
 |0,_=>by simp only[AH,Int.sub_self];exact PZ n
 |i+1,Z=>by
  have ih:=kJ z a i (by omega);have e:AH (λb=>AH (GJ L a b) (i+1) - AH (GJ L b a) (i+1)) n=AH (λb=>AH (GJ L a b) i - AH (GJ L b a) i) n+(AH (λb=>if b=L (i+1) then (if L i=a then 1 else 0) else 0) n+ - AH (λb=>if b=L i then (if L (i+1)=a then 1 else 0) else 0) n):=by
   rw[<-oU,<-Qc,<-Qc];refine Fc λb _=> ?_
   simp only[AH,GJ];by_cases c1:L i=a<;>by_cases G:L (i+1)=a<;>by_cases O:b=L i<;>by_cases Q:b=L (i+1)<;>simp[c1,G,O,Q,eq_comm]<;>omega
  rw[e,ih,VR,VR,Ao (z _ Z),Ao (z _ (by omega))];omega
def NR{rm fl Q:Nat->Nat->Int}{n p q:Nat}{v:Int}(h:Qg rm fl n p q v){L:Nat->Nat}{m:Nat}(aa: ∀i j,i<=m->j<=m->L i=L j->i=j)(hr: ∀i,i<=m->L i<n)
 (h0:L 0=p)(hm:L m=q)(ac:p≠q)(hp:p<n)(Z: ∀i,i<m->fl (L i) (L (i+1))<rm (L i) (L (i+1)))
 (z: ∀a b,a<n->b<n->Q a b=fl a b+(AH (GJ L a b) m - AH (GJ L b a) m)):Qg rm Q n p q (v+1):=by
 have O: ∀a,a<n->AH (Q a) n=AH (fl a) n+((if L 0=a then 1 else 0) - (if L m=a then 1 else 0)):=by
  intro a ha;rw[<-kJ hr a m (AN _),<-Qc];exact Fc λb hb=>z a b ha hb
 refine⟨λu w G hw=> ?_,λu w G hw=> ?_,λu G h1 h2=> ?_,?_⟩
 .rw[z u w G hw,z w u hw G]
  have:=h.anti u w G hw
  omega
 .rw[z u w G hw];obtain⟨e1,e2⟩:=wT aa u w m (AN _);have e3:=nV L w u m;have e4:=h.cap u w G hw;by_cases ab:0<AH (GJ L u w) m
  .obtain⟨j,hj,g1,g2⟩:=e2 ab
   have:=Z j hj
   rw[g1,g2] at this;omega
  .omega
 .rw[O u G,h.cons u G h1 h2,h0,hm,Ag (E9 h1),Ag (E9 h2)];rfl
 .rw[O p hp,h.val,h0,hm,Ao rfl,Ag (E9 ac)];omega
def K5(l:List (List Int))(u v:Int)(d:Int):List (List Int):=l.set u.toNat ((l[u.toNat]?.getD []).set v.toNat ((l[u.toNat]?.getD [])[v.toNat]?.getD 0+d))
def Gv(l:List (List Int))(a b:Nat):Int:=(l[a]?.getD [])[b]?.getD 0
def Y5(l:List (List Int))(u v d:Int):(K5 l u v d).length=l.length:=by simp[K5]
def Y2{l:List (List Int)}{n:Nat}(h: ∀r∈l,r.length=n)(u v d:Int)(G:u.toNat<l.length): ∀r∈K5 l u v d,r.length=n:=by
 intro r z;rcases Ww z with z|z
 .exact h r z
 .subst z;rw[Ew,Bh G,AQ];exact h _ (Q4 G)
def bF{l:List (List Int)}{n:Nat}(O:l.length=n)(h: ∀r∈l,r.length=n){u v:Nat}(d:Int)(Q:u<n)(Z:v<n)(a b:Nat):Gv (K5 l u v d) a b=Gv l a b+if a=u/\b=v then d else 0:=by
 simp only[Gv,K5,Bt];by_cases z:u=a
 .subst z;rw[Da (by omega),AQ];have G:(l[u]?.getD []).length=n:=by
   rw[Bh (by omega),AQ];exact h _ (Q4 (by omega))
  by_cases hb:v=b
  .subst hb;rw[Da (by omega),AQ,Ao ⟨rfl,rfl⟩]
  .rw[D4 hb,Ag (λh=>hb h.2.symm)];omega
 .rw[D4 z,Ag (λh=>z h.1.symm)];omega
def MS(x:Ba)(u v:Int):Ba:=⟨x.Room,K5 (K5 x.Flow u v 1) v u (-1)⟩
def GK(x:Ba)(L:List Int):Nat->Ba
 |0=>x
 |i+1=>MS (GK x L i) (L[i]?.getD 0) (L[i+1]?.getD 0)
def Ql3(x:Ba)(L:List Int): ∀i,(GK x L i).Room=x.Room
 |0=>rfl
 |i+1=>Ql3 x L i
def NQ(x:Ba)(u v:Int):yM x u v=Gv x.Flow u.toNat v.toNat:=rfl
def OA(x:Ba)(u v:Int):yF x u v=Gv x.Room u.toNat v.toNat:=rfl
def SY{x:Ba}{n:Nat}(h:JA x n){u v:Int}(z:u.toNat<n)(G:v.toNat<n):JA (MS x u v) n:=by
 refine⟨h.r,by simp only[MS,Y5];exact h.f,h.rr,?_⟩;exact Y2 (Y2 h.ff u v 1 (by rw[h.f];exact z)) v u (-1) (by rw[Y5,h.f];exact G)
def wA{x:Ba}{n:Nat}(h:JA x n){L:List Int}(z: ∀y∈L,0<=y/\y<n): ∀i,i<L.length->JA (GK x L i) n
 |0,_=>h
 |i+1,G=>by
  have ih:=wA h z i (by omega);refine SY ih ?_ ?_
  .rw[Bh (by omega),AQ]
   have:=z _ (Q4 (show i<L.length by omega))
   omega
  .rw[Bh G,AQ]
   have:=z _ (Q4 G)
   omega
def Lf(L:List Int)(i:Nat):Nat:=(L[i]?.getD 0).toNat
def Qso{x:Ba}{n:Nat}(h:JA x n){L:List Int}(G: ∀y∈L,0<=y/\y<n)(a b:Nat): ∀i,i<L.length->Gv (GK x L i).Flow a b=Gv x.Flow a b+(AH (GJ (Lf L) a b) i - AH (GJ (Lf L) b a) i)
 |0,_=>by simp[GK,AH]
 |i+1,hi=>by
  have ih:=Qso h G a b i (by omega);have z:=wA h G i (by omega);obtain⟨u,hu⟩: ∃u,L[i]? =some u:=⟨_,Bh (by omega)⟩;obtain⟨v,hv⟩: ∃v,L[i+1]? =some v:=⟨_,Bh hi⟩;have aa:=G u (AY hu);have ab:=G v (AY hv);obtain⟨u',rfl⟩: ∃u':Nat,u=u':=⟨u.toNat,by omega⟩;obtain⟨v',rfl⟩: ∃v':Nat,v=v':=⟨v.toNat,by omega⟩;simp only[GK,MS,hu,hv,AQ];rw[bF (n:=n) (by rw[Y5];exact z.f) (Y2 z.ff _ _ _ (by rw[z.f];simp;omega)) _ (by omega) (by omega),
   bF z.f z.ff _ (by omega) (by omega),ih]
  have e1:Lf L i=u':=by simp[Lf,hu]
  have e2:Lf L (i+1)=v':=by simp[Lf,hv]
  simp only[AH,GJ,e1,e2];by_cases c1:a=u'<;>by_cases O:b=v'<;>by_cases Q:a=v'<;>by_cases Z:b=u'<;>simp[c1,O,Q,Z,eq_comm]<;>omega
structure RS(x:Ba)(n:Nat)(p q:Int)(L:List Int):Prop where
 pos:0<L.length
 inb: ∀y∈L,0<=y/\y<n
 hd:L[0]? =some p
 lst:L[L.length - 1]? =some q
 nd: ∀i j,i<L.length->j<L.length->Lf L i=Lf L j->i=j
 free: ∀i,i+1<L.length->UL x (L[i]?.getD 0) (L[i+1]?.getD 0)=true
def U8{x:Ba}{n:Nat}{p q:Int}(an:0<=p)(ao:p<n)(a8:0<=q)(a9:q<n)(am:Cm x n p q≠[]):RS x n p q (Cm x n p q):=by
 have Z:Ga x n p (Bs x n p):=Qp an ao n;have ax:=Z.len;obtain⟨y,hy⟩: ∃y,(Bs x n p).1[q.toNat]? =some y:=⟨_,Bh (by omega)⟩;have av: ¬y<0:=by
  intro h;apply am;simp only[Cm,hy,AQ];rw[Ao h]
 have aq:q∈(Bs x n p).2:=by
  have:=(Z.mem q.toNat y hy).1 (by omega)
  rwa [show (q.toNat:Int)=q by omega] at this
 obtain⟨i,hi⟩:=P7.1 aq;obtain⟨d,ay,ah,ab⟩:=Qq3 Z hi;have az:=(Cd.1 hi).1;have a0:=wV Z;have au:qG (Bs x n p).1 p q n=d:=Qqr (by omega) ah ab;have hW:Cm x n p q=(HF (Bs x n p).1 q d).reverse:=by
  simp only[Cm,hy,AQ];rw[Ag av,au]
 rw[hW];have O:(HF (Bs x n p).1 q d).length=d+1:=by simp[HF]
 have hget: ∀k,k<=d->(HF (Bs x n p).1 q d).reverse[k]? =some (Dm (Bs x n p).1 q (d - k)):=by
  intro k G;rw[ZeO (by rw[O];omega),O,show d+1 - 1 - k=d - k by omega,HF,D9,HK (by omega)];rfl
 have ac: ∀k,k<=d-> ∃j,j+k<=i/\(Bs x n p).2[j]? =some (Dm (Bs x n p).1 q k):=λk G=>pA Z hi k (λj hj=>ab j (by omega))
 have Q: ∀k,k<=d->0<=Dm (Bs x n p).1 q k/\Dm (Bs x n p).1 q k<n:=by
  intro k G;obtain⟨j,_,h2⟩:=ac k G;exact Z.q _ (AY h2)
 have af: ∀k,k<=d-> ∀e,e<=k-> ∀j j',(Bs x n p).2[j]? =some (Dm (Bs x n p).1 q k)->(Bs x n p).2[j']? =some (Dm (Bs x n p).1 q e)->j+(k - e)<=j':=by
  intro k G e he j j' hj aj;have aw: ∀m,e+m<=d-> ∃j2,j2+m<=j'/\(Bs x n p).2[j2]? =some (Dm (Bs x n p).1 q (e+m)):=by
   intro m;induction m with
   |zero=>intro _;exact⟨j',by omega,aj⟩
   |succ m ih=>
    intro hm;obtain⟨j2,g1,g2⟩:=ih (by omega);have h0:0<j2:=by
     rcases jD j2 with h0|h0
     .subst h0;rw[Z.hd] at g2;exact absurd (AE g2).symm (ab _ (by omega))
     .exact h0
    obtain⟨j3,u,q1,q2,q3,q4⟩:=Z.prev j2 _ g2 h0;refine⟨j3,by omega,?_⟩;rw[show e+(m+1)=e+m+1 by omega,Dm,q3,AQ];exact q2
  obtain⟨j2,g1,g2⟩:=aw (k - e) (by omega);rw[show e+(k - e)=k by omega] at g2
  have:=(List.getElem?_inj (Cd.1 hj).1 Z.nd).1 (hj.trans g2.symm)
  omega
 have ad: ∀k e,k<=d->e<k->Dm (Bs x n p).1 q k≠Dm (Bs x n p).1 q e:=by
  intro k e G he ai;obtain⟨j,_,h2⟩:=ac k G
  have:=af k G e (by omega) j j h2 (ai▸h2)
  omega
 have aa: ∀k,k<=d->(HF (Bs x n p).1 q d).reverse[k]?.getD 0=Dm (Bs x n p).1 q (d - k):=λk G=>by rw[hget k G,AQ]
 refine⟨by rw[jB,O];omega,λz hz=> ?_,?_,?_,λk e G he hL=> ?_,λk G=> ?_⟩
 .obtain⟨k,G⟩:=P7.1 hz;have ak:=(Cd.1 G).1;rw[jB,O] at ak;rw[hget k (by omega)] at G;obtain rfl:=AE G;exact Q _ (by omega)
 .rw[hget 0 (by omega),Zf,ah]
 .rw[jB,O,hget (d+1 - 1) (by omega),show d - (d+1 - 1)=0 by omega];rfl
 .rw[jB,O] at G he;simp only[Lf] at hL;rw[aa k (by omega),aa e (by omega)] at hL;have b1:=Q (d - k) (by omega);have b2:=Q (d - e) (by omega);have ag:Dm (Bs x n p).1 q (d - k)=Dm (Bs x n p).1 q (d - e):=by omega
  rcases dA (d - k) (d - e) with h|h|h
  .exact absurd ag.symm (ad _ _ (by omega) h)
  .omega
  .exact absurd ag (ad _ _ (by omega) h)
 .rw[jB,O] at G;rw[aa k (by omega),aa (k+1) (by omega),show d - k=d - (k+1)+1 by omega];exact (NC Z hi (λj hj=>ab j (by omega))).1
def F5(n:Nat)(p q:Int):Nat->Ba->Int
 |0,_=>0
 |m+1,x=>if Cm x n p q=[] then 0 else F5 n p q m (GK x (Cm x n p q) ((Cm x n p q).length - 1))+1
def DH(x:Ba)(a b:Nat):Int:=Gv x.Room a b
def Jh(x:Ba)(a b:Nat):Int:=Gv x.Flow a b
def Qun{x:Ba}{n:Nat}(h:JA x n){p q:Int}(Z:0<=p)(aa:p<n)(ab:p≠q)(ac:0<=q){v:Int}(hf:Qg (DH x) (Jh x) n p.toNat q.toNat v){L:List Int}(z:RS x n p q L):
 JA (GK x L (L.length - 1)) n/\Qg (DH x) (Jh (GK x L (L.length - 1))) n p.toNat q.toNat (v+1):=by
 have Q:=z.pos;have O: ∀i,i<L.length->(L[i]?.getD 0).toNat=Lf L i/\Lf L i<n:=by
  intro i G;refine⟨rfl,?_⟩;simp only[Lf];rw[Bh G,AQ]
  have:=z.inb _ (Q4 G)
  omega
 refine⟨wA h z.inb _ (by omega),NR (m:=L.length - 1) (L:=Lf L) hf (λi j G hj=>z.nd i j (by omega) (by omega)) (λi G=>(O i (by omega)).2) ?_ ?_ (by omega) (by omega) (λi G=> ?_) (λa b _ _=>Qso h z.inb a b _ (by omega))⟩
 .simp only[Lf,z.hd,AQ]
 .simp only[Lf,z.lst,AQ]
 .exact of_decide_eq_true (z.free i (by omega))
def kA{n:Nat}{p q:Int}(G:0<=p)(O:p<n)(ad:p≠q)(ab:0<=q)(af:q<n): ∀(m:Nat) (x:Ba) (v:Int),JA x n->Qg (DH x) (Jh x) n p.toNat q.toNat v->
 (F5 n p q m x=m/\ ∀S:Nat->Bool,S p.toNat=true->S q.toNat=false->v+m<=DZ (DH x) n S)\/(F5 n p q m x<m/\ ∃S:Nat->Bool,S p.toNat=true/\S q.toNat=false/\DZ (DH x) n S=v+F5 n p q m x)
 |0,x,v,h,hf=> .inl ⟨rfl,λS h1 Z=>by have:=Qw8 hf (by omega) h1 Z;simpa using this⟩
 |m+1,x,v,h,hf=>by
  by_cases Q:Cm x n p q=[]
  .refine .inr ?_;have e:F5 n p q (m+1) x=0:=by simp only[F5];rw[Ao Q]
   rw[e];refine⟨by omega,λu=>decide (0<=(Bs x n p).1[u]?.getD (-1)),?_,?_,?_⟩
   .have:=(Qp (x:=x) G O n).pp
    simp only[Bs,this,AQ,Ch];exact G
   .have aa:=(Qp (x:=x) G O n).len;obtain⟨y,hy⟩: ∃y,(Bs x n p).1[q.toNat]? =some y:=⟨_,Bh (by simp only[Bs];omega)⟩;simp only[hy,AQ,KC];intro h0;simp only[Cm,hy,AQ] at Q;rw[Ag (by omega)] at Q;simp[HF] at Q
   .have:=Qxp (S:=λu=>decide (0<=(Bs x n p).1[u]?.getD (-1))) hf (by omega) ?_ ?_ ?_
    .omega
    .have:=(Qp (x:=x) G O n).pp
     simp only[Bs,this,AQ,Ch];exact G
    .have aa:=(Qp (x:=x) G O n).len;obtain⟨y,hy⟩: ∃y,(Bs x n p).1[q.toNat]? =some y:=⟨_,Bh (by simp only[Bs];omega)⟩;simp only[hy,AQ,KC];intro h0;simp only[Cm,hy,AQ] at Q;rw[Ag (by omega)] at Q;simp[HF] at Q
    .intro u w hu ah h1 Z;simp only[Ch,KC] at h1 Z;have aa:=(Qp (x:=x) G O n).len;obtain⟨y,hy⟩: ∃y,(Bs x n p).1[u]? =some y:=⟨_,Bh (by simp only[Bs];omega)⟩;rw[hy,AQ] at h1;by_cases ac:UL x u w=true
     .obtain⟨z,g1,g2⟩:=Qww x G O hy h1 ah ac;rw[g1,AQ] at Z;omega
     .have h3: ¬(yM x u w<yF x u w):=λh=>ac (Zh h)
      rw[NQ,OA,Bt,Bt] at h3;simp only[DH,Jh];omega
  .have hW:=U8 G O ab af Q;obtain⟨g1,g2⟩:=Qun h G O ad ab hf hW;have ag:DH (GK x (Cm x n p q) ((Cm x n p q).length - 1))=DH x:=by funext a b;simp only[DH,Ql3]
   rw[<-ag] at g2;have ih:=kA G O ad ab af m _ _ g1 g2;rw[ag] at ih;have e:F5 n p q (m+1) x=F5 n p q m (GK x (Cm x n p q) ((Cm x n p q).length - 1))+1:=by simp only[F5];rw[Ag Q]
   rw[e];rcases ih with ⟨h1,Z⟩|⟨h1,S,Z,h3,h4⟩
   .exact .inl ⟨by omega,λS hS hT=>by have:=Z S hS hT;omega⟩
   .exact .inr ⟨by omega,S,Z,h3,by omega⟩
def Ka(n:Nat):Ba:=⟨List.replicate n (List.replicate n 0),List.replicate n (List.replicate n 0)⟩
def JH(x:Ba)(b:Af):Ba:=⟨K5 (K5 x.Room b.A b.B b.Strength) b.B b.A b.Strength,x.Flow⟩
def BO(n:Nat)(bs:List Af):Nat->Ba
 |0=>Ka n
 |k+1=>match bs[k]? with
  |some b=>JH (BO n bs k) b
  |none=>BO n bs k
def D0(n:Nat)(bs:List Af):Ba:=BO n bs bs.length
def VW{n:Nat}{bs:List Af}(hb:K0 n bs): ∀k,JA (BO n bs k) n/\(BO n bs k).Flow=List.replicate n (List.replicate n 0)
 |0=>⟨⟨by simp[BO,Ka],by simp[BO,Ka],λl O=>by rw[N1 O];simp,λl O=>by rw[N1 O];simp⟩,rfl⟩
 |k+1=>by
  obtain⟨ih,z⟩:=VW hb k;simp only[BO];split
  .rename_i b G;obtain⟨b1,b2,b3,b4⟩:=hb b (AY G);refine⟨⟨by simp only[JH,Y5];exact ih.r,ih.f,?_,ih.ff⟩,z⟩;exact Y2 (Y2 ih.rr _ _ _ (by rw[ih.r];omega)) _ _ _ (by rw[Y5,ih.r];omega)
  .exact⟨ih,z⟩
def Cz(S:Nat->Bool):List Af->Int
 |[]=>0
 |b::r=>(if S b.A.toNat=S b.B.toNat then 0 else b.Strength)+Cz S r
def kX(S:Nat->Bool): ∀(a b:List Af),Cz S (a++b)=Cz S a+Cz S b
 |[],b=>by simp[Cz]
 |x::r,b=>by simp only[CX,Cz,kX S r b];omega
def Yi(n u v:Nat)(Q:u<n)(Z:v<n)(c:Int)(g:Nat->Nat->Bool):AH (λa=>AH (λb=>if g a b=true then (if a=u/\b=v then c else 0) else 0) n) n=if g u v=true then c else 0:=by
 have G:AH (λa=>AH (λb=>if g a b=true then (if a=u/\b=v then c else 0) else 0) n) n=AH (λa=>if a=u then (if g u v=true then c else 0) else 0) n:=by
  refine Fc λa _=> ?_
  by_cases z:a=u
  .subst z;rw[Ao rfl];have O:AH (λb=>if g a b=true then (if a=a/\b=v then c else 0) else 0) n=AH (λb=>if b=v then (if g a v=true then c else 0) else 0) n:=by
    refine Fc λb _=> ?_
    by_cases hb:b=v
    .subst hb;simp
    .simp[hb]
   rw[O,VR,Ao Z]
  .rw[Ag z];refine (Fc λb _=> ?_).trans (PZ n);simp[z]
 rw[G,VR,Ao Q]
def Qnz{l:List (List Int)}{n:Nat}(Z:l.length=n)(h: ∀r∈l,r.length=n){u v:Nat}(d:Int)(G:u<n)(O:v<n)(S:Nat->Bool):
 DZ (λa b=>Gv (K5 l u v d) a b) n S=DZ (λa b=>Gv l a b) n S+if S u=true/\S v=false then d else 0:=by
 have z:AH (λa=>AH (λb=>if (S a && !S b)=true then (if a=u/\b=v then d else 0) else 0) n) n=if (S u && !S v)=true then d else 0:=Yi n u v G O d (λa b=>S a && !S b)
 have Q:(if (S u && !S v)=true then d else 0)=if S u=true/\S v=false then d else 0:=by
  cases S u<;>cases S v<;>simp
 rw[Q] at z;rw[<-z,DZ,DZ,<-Qc];refine Fc λa _=> ?_
 rw[<-Qc];refine Fc λb _=> ?_
 rw[bF Z h d G O a b];cases S a<;>cases S b<;>simp
def KV{n:Nat}{bs:List Af}(hb:K0 n bs)(S:Nat->Bool): ∀k,k<=bs.length->DZ (DH (BO n bs k)) n S=Cz S (bs.take k)
 |0,_=>by
  simp only[UQ,Cz,DZ];refine (Fc λu Q=> ?_).trans (PZ n);refine (Fc λw Z=> ?_).trans (PZ n)
  have:DH (BO n bs 0) u w=0:=by
   simp only[DH,BO,Ka,Gv];rw[KB,Ao Q,AQ,KB,Ao Z,AQ]
  rw[this];split<;>rfl
 |k+1,O=>by
  obtain⟨b,hbk⟩: ∃b,bs[k]? =some b:=⟨_,Bh O⟩;have ih:=KV hb S k (by omega);obtain⟨z,_⟩:=VW hb k;obtain⟨b1,b2,b3,b4⟩:=hb b (AY hbk);have e:bs.take (k+1)=bs.take k++[b]:=by rw[GO,hbk];rfl
  rw[e,kX,<-ih];have G:DH (BO n bs (k+1))=λx y=>Gv (K5 (K5 (BO n bs k).Room (b.A.toNat:Int) (b.B.toNat:Int) b.Strength) (b.B.toNat:Int) (b.A.toNat:Int) b.Strength) x y:=by
   funext x y;simp only[DH,BO,hbk,JH];rw[show ((b.A.toNat:Nat):Int)=b.A by omega,show ((b.B.toNat:Nat):Int)=b.B by omega]
  rw[G,Qnz (by rw[Y5];exact z.r) (Y2 z.rr _ _ _ (by rw[z.r];simp;omega)) _ (by omega) (by omega),Qnz z.r z.rr _ (by omega) (by omega)];simp only[Cz]
  have:DZ (λa b=>Gv (BO n bs k).Room a b) n S=DZ (DH (BO n bs k)) n S:=rfl
  rw[this];cases S b.A.toNat<;>cases S b.B.toNat<;>simp<;>omega
def QZ{n:Nat}{bs:List Af}(hb:K0 n bs)(S:Nat->Bool):DZ (DH (D0 n bs)) n S=Cz S bs:=by
 rw[D0,KV hb S _ (AN _),HJ]
def Qpz{n:Nat}{bs:List Af}(hb:K0 n bs)(hs:P0 bs)(a b:Nat): ∀k,0<=DH (BO n bs k) a b
 |0=>by
  simp only[DH,BO,Ka,Gv,KB];split
  .rw[AQ,KB];split<;>simp
  .simp
 |k+1=>by
  have ih:=Qpz hb hs a b k;obtain⟨z,_⟩:=VW hb k;simp only[DH,BO] at ih⊢;split
  .rename_i x G;obtain⟨b1,b2,b3,b4⟩:=hb x (AY G);have h0:=(hs x (AY G)).1;simp only[JH];rw[show x.A=(x.A.toNat:Int) by omega,show x.B=(x.B.toNat:Int) by omega];rw[bF (n:=n) (by rw[Y5];exact z.r) (Y2 z.rr _ _ _ (by rw[z.r];simp;omega)) _ (by omega) (by omega),bF z.r z.rr _ (by omega) (by omega)]
   split<;>split<;>omega
  .exact ih
def kG{n:Nat}{bs:List Af}(hb:K0 n bs)(hs:P0 bs)(p q:Nat):Qg (DH (D0 n bs)) (Jh (D0 n bs)) n p q 0:=by
 have z: ∀a b,Jh (D0 n bs) a b=0:=by
  intro a b;simp only[Jh,D0,(VW hb bs.length).2,Gv,KB];split
  .rw[AQ,KB];split<;>simp
  .simp
 refine⟨λu w _ _=>by rw[z,z];rfl,λu w _ _=> ?_,λu _ _ _=>(Fc λi _=>z u i).trans (PZ n),(Fc λi _=>z p i).trans (PZ n)⟩;rw[z];exact Qpz hb hs u w bs.length
def Wd(n:Nat)(bs:List Af)(t:Int)(k:Nat):Prop:= ∀S:Nat->Bool,S 0=true->(∃y,0<y/\y<=k/\y<n/\S y=false)->t<=Cz S bs
def Ql(n:Nat)(bs:List Af)(t:Int):Nat->Bool
 |0=>true
 |k+1=>Ql n bs t k && decide (t<=F5 n 0 ((k:Int)+1) t.toNat (D0 n bs))
def Qtt{n:Nat}{bs:List Af}(hb:K0 n bs)(hs:P0 bs){t:Int}(ht:0<=t): ∀k,k<n->(Ql n bs t k=true↔Wd n bs t k)
 |0,_=>by
  simp only[Ql,true_iff];rintro S _ ⟨y,h1,z,_⟩;omega
 |k+1,hk=>by
  have ih:=Qtt hb hs ht k (by omega);have hl:=kA (n:=n) (p:=0) (q:=(k:Int)+1) (by omega) (by omega) (by omega) (by omega) (by omega) t.toNat (D0 n bs) 0 (VW hb bs.length).1 (kG hb hs _ _);simp only[Int.toNat_zero,show ((k:Int)+1).toNat=k+1 by omega,Int.zero_add,QZ hb] at hl;simp only[Ql,AS,Ch,ih];rcases hl with ⟨h1,z⟩|⟨h1,S,z,h3,h4⟩
  .constructor
   .rintro⟨g1,g2⟩ S G ⟨y,Q,y2,Z,O⟩;by_cases hy:y<=k
    .exact g1 S G ⟨y,Q,hy,Z,O⟩
    .have:=z S G (by rw[show k+1=y by omega];exact O)
     omega
   .intro h;exact⟨λS G ⟨y,Q,y2,Z,O⟩=>h S G ⟨y,Q,by omega,Z,O⟩,by omega⟩
  .constructor
   .rintro⟨_,g2⟩;omega
   .intro h
    have:=h S z ⟨k+1,by omega,by omega,hk,h3⟩
    omega
def Qt7{n:AZ}(hn:Dd n)(hc:Im n){q:Int}{st qu:List Int}(G:st.length=n.Cnt.toNat)(hP:Fq n q (st,qu)){p:Int}(O:0<=p)(Q:p<n.Cnt){d:Nat}(hd:st[p.toNat]? =some (d:Int))(w:Int):
 ∀k,k<=d->CS (BH n st p k).1 w=CS n w+(if p=w then 1 else 0) - (if (BH n st p k).2=w then 1 else 0)
 |0,_=>by simp only[BH];omega
 |k+1,hk=>by
  have ih:=Qt7 hn hc G hP O Q hd w k (by omega);have hI:=iA hn hc G hP O Q hd k (by omega);obtain⟨m,r,hm,hr,hg,Z,ad⟩:=vP hn G hP (by omega) hI;have ac:(BH n st p k).1.At[m]? =some r:=by rw[hI.at_];exact hr
  have e:(BH n st p (k+1)).1=HC (BH n st p k).1 m (Gw (BH n st p k).1 st m).2:=by simp only[BH,hm]
  have e2:(BH n st p (k+1)).2=(Gw (BH n st p k).1 st m).1:=by simp only[BH,hm]
  rw[e,e2,Qzc hI.ok ac hg.1,hg.2.2.1,ih,hm];have aa:=hg.2.2.2.1;rw[Bt,Z,AQ] at aa;have ab:(m:Int)≠(Gw (BH n st p k).1 st m).1:=by
   intro he;rw[<-he,Bt,Z,AQ] at aa;omega
  obtain⟨z,hz⟩: ∃z,z=(Gw (BH n st p k).1 st m).1:=⟨_,rfl⟩;rw[<-hz] at ab⊢;by_cases c1:p=w<;>by_cases c2:(m:Int)=w<;>by_cases c3:z=w<;>simp only[c1,c2,c3,BI,Cy]<;>omega
def MX(n:AZ)(p q:Int):Prop:= ∀w,w≠p->w≠q->CS n w=0
def NW{n:AZ}(hn:Dd n)(hc:Im n){p q:Int}(G:0<=p)(O:p<n.Cnt)(Q:0<=q)(Z:q<n.Cnt)(hg:(ER n p q).2=true)(aa:MX n p q):MX (ER n p q).1 p q:=by
 have z:=oA hn Q Z;have hP:Fq n q (EQ n q,(Cv n q n.Cnt.toNat).2):=MZ hn Q Z n.Cnt.toNat;obtain⟨x,hx⟩: ∃x,(EQ n q)[p.toNat]? =some x:=⟨_,Bh (by omega)⟩;intro w h1 h2;simp only[ER,hx,AQ] at hg⊢;by_cases h:x<0
 .rw[Ao h] at hg;simp at hg
 .obtain⟨d,rfl⟩: ∃d:Nat,x=d:=⟨x.toNat,by omega⟩;rw[Ag h,Bt];have hI:=iA hn hc z hP G O hx d (AN _);obtain⟨m,hm,ac,ab⟩:=hI.v;have ad:m=q.toNat:=hP.uniq m (by rw[ab];congr 1;omega);have ho:=Qt7 hn hc z hP G O hx w d (AN _);rw[Ag (E9 h1),hm,Ag (by omega),aa w h1 h2] at ho;simpa using ho
def Que{p q:Int}(z:0<=p)(G:0<=q)(aa:p≠q): ∀(m:Nat) (n:AZ),Dd n->Im n->p<n.Cnt->q<n.Cnt->MX n p q->Dd (Gh p q m n).1/\Im (Gh p q m n).1/\(Gh p q m n).1.Cnt=n.Cnt/\(Gh p q m n).1.Bonds=n.Bonds/\
 (Gh p q m n).1.At=n.At/\MX (Gh p q m n).1 p q/\CS (Gh p q m n).1 p=CS n p+(Gh p q m n).2/\0<=(Gh p q m n).2/\((Gh p q m n).2=m\/(ER (Gh p q m n).1 p q).2=false)
 |0,n,O,Q,_,_,h5=>⟨O,Q,rfl,rfl,rfl,h5,by simp[Gh],by simp[Gh],.inl (by simp[Gh])⟩
 |m+1,n,O,Q,h3,h4,h5=>by
  simp only[Gh];by_cases Z:(ER n p q).2=true
  .rw[Ao Z];obtain⟨g1,g2,g3,g4,g5,g6⟩:=Lr O Q z h3 G h4 aa Z;have g7:=NW O Q z h3 G h4 Z h5;obtain⟨k1,k2,k3,k4,k5,k6,k7,k8,k9⟩:=Que z G aa m _ g1 g2 (by omega) (by omega) g7;refine⟨k1,k2,k3.trans g3,k4.trans g4,k5.trans g5,k6,by simp only;omega,by simp only;omega,?_⟩;rcases k9 with h|h
   .exact .inl (by simp only;omega)
   .exact .inr h
  .rw[Ag Z];exact⟨O,Q,rfl,rfl,rfl,h5,by simp,by simp,.inr (by simpa using Z)⟩
def Qu0{n:Int}{bs:List Af}(h:YF (n,bs))(hs:P0 bs){p q:Int}(z:0<=p)(Q:0<=q)(G:p<n)(Z:q<n)(O:p≠q):Dd (DJ n bs p q).1/\Im (DJ n bs p q).1/\(DJ n bs p q).1.Cnt=n/\(DJ n bs p q).1.Bonds=bs/\
 (DJ n bs p q).1.At=(CI n bs).At/\MX (DJ n bs p q).1 p q/\CS (DJ n bs p q).1 p=(DJ n bs p q).2/\0<=(DJ n bs p q).2/\(ER (DJ n bs p q).1 p q).2=false:=by
 obtain⟨h1,h2⟩:=LL h hs;obtain⟨k1,k2,k3,k4,k5,k6,k7,k8,k9⟩:=Que z Q O ((bs.map Af.Strength).sum.toNat+1) (CI n bs) h1 h2 G Z (λw _ _=>Qtg w);rw[Qtg,Int.zero_add] at k7;refine⟨k1,k2,k3,k4,k5,k6,k7,k8,?_⟩;rcases k9 with h9|h9
 .exfalso;have h4:(Gh p q ((bs.map Af.Strength).sum.toNat+1) (CI n bs)).1.Bonds=bs:=k4
  have:=SQ k1 k2 p
  rw[h4] at this;omega
 .exact h9
def kZ{n:AZ}(hn:Dd n){v:Nat}{r:List Int}(hr:n.At[v]? =some r){y:Int}(Q:0<=y): ∀(l:List Int) (s:List Int×List Int),(∀i∈l,i∈r)->Wg n s->s.1[v]? =some y-> ∀i∈l,0<(CV n (Dl n v i) i).1-> ∃z,(l.foldl (B0 n v) s).1[(Dl n v i).toNat]? =some z/\0<=z
 |[],s,_,_,_,i,G,_=>by cases G
 |j::l,s,hl,hs,hv,i,G,O=>by
  have Z:=hl j (BM ..);rcases Bi.1 G with rfl|G
  .obtain⟨_,_,o1,o2⟩:=bY hn hr Z;obtain⟨z,hz⟩: ∃z,s.1[(Dl n v i).toNat]? =some z:=⟨_,Bh (by rw[hs.len];omega)⟩;have aa: ∃z,(B0 n v s i).1[(Dl n v i).toNat]? =some z/\0<=z:=by
    by_cases h0:0<=z
    .exact⟨z,oC n v s i _ z hz h0,h0⟩
    .refine⟨y+1,?_,by omega⟩;simp only[B0];rw[Ao ⟨by rw[hz,AQ];omega,O⟩,Bt,hv,AQ];exact Da (by rw[hs.len];omega)
   obtain⟨z',g1,g2⟩:=aa;exact⟨z',Qor n v _ z' g2 l _ g1,g2⟩
  .exact kZ hn hr Q l _ (λj Z=>hl j (BR _ Z)) (Qtm hn hr Z hs) (oC n v s j v y hv Q) i G O
def Qzj(n:AZ)(v:Int): ∀(l:List Int) (s:List Int×List Int),∃e,(l.foldl (B0 n v) s).2=s.2++e
 |[],s=>⟨[],by simp⟩
 |i::l,s=>by
  obtain⟨e,z⟩:=Qzj n v l (B0 n v s i);simp only[jG,z];simp only[B0];split
  .exact⟨[Dl n v i]++e,by simp⟩
  .exact⟨e,rfl⟩
def W8(n:AZ)(q:Int)(k:Nat): ∃e,(Cv n q (k+1)).2=(Cv n q k).2++e:=by
 rw[Cv];split
 .exact⟨[],by simp⟩
 .exact Qzj n _ _ _
def NF(n:AZ)(q:Int)(u:Nat)(y:Int)(h0:0<=y)(k:Nat)(h:(Cv n q k).1[u]? =some y):(Cv n q (k+1)).1[u]? =some y:=by
 rw[Cv];split
 .exact h
 .exact Qor n _ u y h0 _ _ h
def Qzn{n:AZ}(hn:Dd n){q:Int}(h0:0<=q)(Z:q<n.Cnt): ∀(k j:Nat) (v:Int),j<k->(Cv n q k).2[j]? =some v-> ∀(r:List Int),n.At[v.toNat]? =some r-> ∀i∈r,0<(CV n (Dl n v i) i).1-> ∃z,(Cv n q k).1[(Dl n v i).toNat]? =some z/\0<=z
 |0,j,v,hj,_,_,_,_,_,_=>by omega
 |k+1,j,v,hj,G,r,Q,i,hi,O=>by
  obtain⟨e,he⟩:=W8 n q k;by_cases ac:j<(Cv n q k).2.length
  .rw[he,E7 ac] at G;by_cases ab:j<k
   .obtain⟨z,g1,g2⟩:=Qzn hn h0 Z k j v ab G r Q i hi O;exact⟨z,NF n q _ z g2 k g1,g2⟩
   .have:j=k:=by omega
    subst this;have hI:=VU hn h0 Z j;have aa:=MZ hn h0 Z j;have af:=hI.q v (AY G);obtain⟨m,rfl⟩: ∃m:Nat,v=m:=⟨v.toNat,by omega⟩;obtain⟨y,hy,ad⟩:=aa.qs _ (AY G);rw[Bt] at hy Q;rw[Cv,G];simp only[Bt,Q,AQ];exact kZ hn Q ad r _ (λ_ h=>h) hI hy i hi O
  .have e1:Cv n q (k+1)=Cv n q k:=by rw[Cv,F7 (by omega)]
   rw[e1] at G
   have:=(Cd.1 G).1
   omega
def QI{n:AZ}(hn:Dd n){q:Int}(h0:0<=q)(h1:q<n.Cnt): ∀(k u:Nat) (y:Int),(Cv n q k).1[u]? =some y->0<=y->(u:Int)∈(Cv n q k).2
 |0,u,y,z,G=>by
  have hq:q.toNat<n.Cnt.toNat:=by omega
  simp only[Cv] at z⊢;by_cases h:q.toNat=u
  .rw[BE];omega
  .rw[D4 h] at z
   have:=N1 (AY z)
   omega
 |k+1,u,y,z,G=>by
  have ih:=QI hn h0 h1 k;have hI:=VU hn h0 h1 k;have O: ∀(v:Int) (l:List Int) (s:List Int×List Int),(∀i∈l,0<=Dl n v i)->(∀(u:Nat) (y:Int),s.1[u]? =some y->0<=y->(u:Int)∈s.2)-> ∀(u:Nat) (y:Int),(l.foldl (B0 n v) s).1[u]? =some y->0<=y->(u:Int)∈(l.foldl (B0 n v) s).2:=by
   intro v l;induction l with
   |nil=>intro s _ Q;exact Q
   |cons i l Z=>
    intro s hl Q;refine Z _ (λj hj=>hl j (BR _ hj)) ?_;intro u y z G;have ho:=hl i (BM ..);simp only[B0] at z⊢;split at z
    .rename_i hc;rw[Ao hc];simp only[Br,BE] at z⊢;by_cases he:(Dl n v i).toNat=u
     .right;omega
     .rw[D4 he] at z;exact .inl (Q u y z G)
    .rename_i hc;rw[Ag hc];exact Q u y z G
  rw[Cv] at z⊢;split at z
  .exact ih u y z G
  .rename_i v hv;have aa:=hI.q v (AY hv);obtain⟨m,rfl⟩: ∃m:Nat,v=m:=⟨v.toNat,by omega⟩;obtain⟨r,hr⟩: ∃r,n.At[m]? =some r:=⟨_,Bh (by have:=hn.al;omega)⟩;simp only[Bt,hr,AQ] at z⊢;exact O m r _ (λi hi=>(bY hn hr hi).2.2.1) ih u y z G
def Qmo{n:AZ}(hn:Dd n){q:Int}(h0:0<=q)(G:q<n.Cnt){v:Nat}{y:Int}(hv:(EQ n q)[v]? =some y)(hy:0<=y){r:List Int}(hr:n.At[v]? =some r){i:Int}(Z:i∈r)(O:0<(CV n (Dl n v i) i).1):
 ∃z,(EQ n q)[(Dl n v i).toNat]? =some z/\0<=z:=by
 have hm:=QI hn h0 G n.Cnt.toNat v y hv hy;obtain⟨j,Q⟩:=P7.1 hm;have aa:=(Cd.1 Q).1;have ab:=vU hn.c0 (VU hn h0 G n.Cnt.toNat);exact Qzn hn h0 G n.Cnt.toNat j v (by omega) Q r (by rwa [Bt]) i Z O
def X7(n:AZ)(S:Nat->Bool):Int:=(List.zipWith (λb f=>(if S b.A.toNat=true then f else 0) - (if S b.B.toNat=true then f else 0)) n.Bonds n.Flow).sum
def lD(S:Nat->Bool)(m:Nat): ∀(bs:List Af) (z:List Int),(∀b∈bs,0<=b.A/\b.A<m/\0<=b.B/\b.B<m/\b.A≠b.B)->
 AH (λv=>if S v=true then (List.zipWith (Jf (v:Int)) bs z).sum else 0) m=(List.zipWith (λb f=>(if S b.A.toNat=true then f else 0) - (if S b.B.toNat=true then f else 0)) bs z).sum
 |[],z,_=>by
  simp only[List.zipWith_nil_left,yX];refine (Fc λi _=> ?_).trans (PZ m)
  split<;>rfl
 |b::bs,[],_=>by
  simp only[ZdR,yX];refine (Fc λi _=> ?_).trans (PZ m)
  split<;>rfl
 |b::bs,f::z,h=>by
  have ih:=lD S m bs z (λx O=>h x (BR _ O));obtain⟨b1,b2,b3,b4,b5⟩:=h b (BM ..);simp only[dG,KE];rw[<-ih];have e:AH (λv=>if S v=true then Jf (v:Int) b f+(List.zipWith (Jf (v:Int)) bs z).sum else 0) m=
   (AH (λv=>if v=b.A.toNat then (if S b.A.toNat=true then f else 0) else 0) m+ - AH (λv=>if v=b.B.toNat then (if S b.B.toNat=true then f else 0) else 0) m)+AH (λv=>if S v=true then (List.zipWith (Jf (v:Int)) bs z).sum else 0) m:=by
   rw[<-oU,<-Qc,<-Qc];refine Fc λv _=> ?_
   simp only[Jf];by_cases c1:v=b.A.toNat
   .have G: ¬v=b.B.toNat:=by omega
    rw[Ao (show b.A=(v:Int) by omega),Ao c1,Ag G,<-c1];cases S v<;>simp
   .rw[Ag (show ¬b.A=(v:Int) by omega),Ag c1];by_cases G:v=b.B.toNat
    .rw[Ao (show b.B=(v:Int) by omega),Ao G,<-G];cases S v<;>simp
    .rw[Ag (show ¬b.B=(v:Int) by omega),Ag G];cases S v<;>simp
  rw[e,VR,VR,Ao (show b.A.toNat<m by omega),Ao (show b.B.toNat<m by omega)];omega
def LS{n:AZ}(hn:Dd n){p q:Int}(aa:0<=p)(ab:p<n.Cnt)(G:MX n p q){S:Nat->Bool}(Z:S p.toNat=true)(hT:S q.toNat=false)(ac:0<=q):X7 n S=CS n p:=by
 have O:=lD S n.Cnt.toNat n.Bonds n.Flow (λb hb=>by
  have:=hn.bs b hb
  have:=hn.ne b hb
  omega)
 rw[X7,<-O];have Q:AH (λv=>if S v=true then (List.zipWith (Jf (v:Int)) n.Bonds n.Flow).sum else 0) n.Cnt.toNat=AH (λv=>if v=p.toNat then CS n p else 0) n.Cnt.toNat:=by
  refine Fc λv hv=> ?_
  by_cases z:v=p.toNat
  .subst z;rw[Ao rfl,Ao Z,show ((p.toNat:Nat):Int)=p by omega];rfl
  .rw[Ag z];cases hSv:S v with
   |false=>rw[Ag (by simp)]
   |true=>
    rw[Ao rfl];have ad:v≠q.toNat:=λhe=>by rw[he,hT] at hSv;cases hSv
    exact G v (by omega) (by omega)
 rw[Q,VR,Ao (by omega)]
def Qw5(S:Nat->Bool): ∀(bs:List Af) (G:List Int),(∀(i:Nat) b f,bs[i]? =some b->G[i]? =some f-> -b.Strength<=f/\f<=b.Strength)->(∀b∈bs,0<=b.Strength)->(List.zipWith (λb f=>(if S b.A.toNat=true then f else 0) - (if S b.B.toNat=true then f else 0)) bs G).sum<=Cz S bs
 |[],_,_,_=>by simp[Cz]
 |x::r,[],_,z=>by
  have O:=Qw5 S r [] (λi b f _ h=>by simp at h) (λb hb=>z b (BR _ hb));have Q:=z x (BM ..);simp only[ZdR,yX,Cz] at O⊢
  split<;>omega
 |x::r,y::s,hc,z=>by
  have O:=Qw5 S r s (λi b f h h'=>hc (i+1) b f (by simpa using h) (by simpa using h')) (λb hb=>z b (BR _ hb));have Z:=hc 0 x y rfl rfl;simp only[dG,KE,Cz];cases S x.A.toNat<;>cases S x.B.toNat<;>simp<;>omega
def LR(S:Nat->Bool): ∀(bs:List Af) (z:List Int),z.length=bs.length->(∀(i:Nat) b f,bs[i]? =some b->z[i]? =some f->(S b.A.toNat=true->S b.B.toNat=false->f=b.Strength)/\(S b.A.toNat=false->S b.B.toNat=true->f= -b.Strength))->(List.zipWith (λb f=>(if S b.A.toNat=true then f else 0) - (if S b.B.toNat=true then f else 0)) bs z).sum=Cz S bs
 |[],_,_,_=>by simp[Cz]
 |x::r,[],h,_=>by simp at h
 |x::r,y::s,h,hc=>by
  have G:=LR S r s (by simpa using h) (λi b f h h'=>hc (i+1) b f (by simpa using h) (by simpa using h'));obtain⟨O,Q⟩:=hc 0 x y rfl rfl;simp only[dG,KE,Cz,G];cases hA:S x.A.toNat<;>cases hB:S x.B.toNat<;>simp
  .have:=Q hA hB;omega
  .exact O hA hB
def R0{n:Int}{bs:List Af}(h:YF (n,bs))(hs:P0 bs){p q:Int}(Q:0<=p)(G:0<=q)(ac:p<n)(af:q<n)(ad:p≠q):
 0<=(DJ n bs p q).2/\(∀S:Nat->Bool,S p.toNat=true->S q.toNat=false->(DJ n bs p q).2<=Cz S bs)/\ ∃S:Nat->Bool,S p.toNat=true/\S q.toNat=false/\Cz S bs=(DJ n bs p q).2:=by
 obtain⟨k1,k2,k3,k4,k5,k6,k7,k8,k9⟩:=Qu0 h hs Q G ac af ad;obtain⟨N,hN⟩: ∃N,N=(DJ n bs p q).1:=⟨_,rfl⟩;obtain⟨val,hval⟩: ∃val,val=(DJ n bs p q).2:=⟨_,rfl⟩;simp only[<-hN,<-hval] at k1 k2 k3 k4 k5 k6 k7 k8 k9⊢;refine⟨k8,λS hS hT=> ?_,?_⟩
 .have h1:=LS k1 Q (by omega) k6 hS hT G;have h2:=Qw5 S N.Bonds N.Flow k2 (λb hb=>(k1.st b hb).1);rw[k4] at h2;simp only[X7,k4] at h1;omega
 .have ah:=oA k1 G (by omega);obtain⟨x,hx⟩: ∃x,(EQ N q)[p.toNat]? =some x:=⟨_,Bh (by omega)⟩;have aa:x<0:=by
   simp only[ER,hx,AQ] at k9;by_cases h0:x<0
   .exact h0
   .rw[Ag h0] at k9;simp at k9
  have O:=(MZ k1 G (show q<N.Cnt by omega) N.Cnt.toNat).zero;have O:(EQ N q)[q.toNat]? =some 0:=O;refine⟨λv=>decide ((EQ N q)[v]?.getD 0<0),by simp only[hx,AQ,Ch];exact aa,by simp[O],?_⟩;have hS:decide ((EQ N q)[p.toNat]?.getD 0<0)=true:=by simp only[hx,AQ,Ch];exact aa
  have hT:decide ((EQ N q)[q.toNat]?.getD 0<0)=false:=by simp[O]
  have h1:=LS (S:=λv=>decide ((EQ N q)[v]?.getD 0<0)) k1 Q (by omega) k6 hS hT G;have h2:=LR (λv=>decide ((EQ N q)[v]?.getD 0<0)) N.Bonds N.Flow k1.fl ?_
  .simp only[X7,k4] at h1;rw[k4] at h2;omega
  .intro i b f hb hf;have ai:=k1.bs b (AY hb);have ab:=k1.ne b (AY hb);obtain⟨⟨rA,a1,a2⟩,⟨rB,c1,c2⟩⟩:=k1.all i b hb;have ag:=k2 i b f hb hf;obtain⟨yA,hA⟩: ∃y,(EQ N q)[b.A.toNat]? =some y:=⟨_,Bh (by omega)⟩;obtain⟨yB,hB⟩: ∃y,(EQ N q)[b.B.toNat]? =some y:=⟨_,Bh (by omega)⟩;simp only[hA,hB,AQ,Ch,KC];refine⟨λe1 e2=> ?_,λe1 e2=> ?_⟩
   ·
    have ho:Dl N b.B i=b.A:=by simp only[Dl,Bt,hb];omega
    have hr:(CV N b.A i).1=b.Strength - f:=by simp only[CV,Bt,hb,hf,AQ,BI]
    by_cases Z:0<b.Strength - f
    .have:=Qmo k1 G (by omega) (v:=b.B.toNat) hB (by omega) c1 c2 (by rw[show ((b.B.toNat:Nat):Int)=b.B by omega,ho,hr];exact Z)
     rw[show ((b.B.toNat:Nat):Int)=b.B by omega,ho,hA] at this;obtain⟨z,g1,g2⟩:=this
     have:=AE g1
     omega
    .omega
   .have ho:Dl N b.A i=b.B:=by simp only[Dl,Bt,hb];omega
    have hr:(CV N b.B i).1=b.Strength+f:=by simp only[CV,Bt,hb,hf,AQ];rw[Ag ab]
    by_cases Z:0<b.Strength+f
    .have:=Qmo k1 G (by omega) (v:=b.A.toNat) hA (by omega) a1 a2 (by rw[show ((b.A.toNat:Nat):Int)=b.A by omega,ho,hr];exact Z)
     rw[show ((b.A.toNat:Nat):Int)=b.A by omega,ho,hB] at this;obtain⟨z,g1,g2⟩:=this
     have:=AE g1
     omega
    .omega
end Go.Ae
