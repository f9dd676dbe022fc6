/- Lemmas. Conditions: none. -/
import Derived.Test.YtogafbdeamcpnaaGreatDoorP08
import Derived.Test.YtogafbdeamcpnaaGreatDoorChecked
import Derived.LaidEql
import Derived.Stop.Asserts
import Derived.RowKitTokens
import Derived.Stop.LaidTwo
import Derived.LaidMore
import Derived.LaidOnce
import Derived.ChangeVars
import Derived.ChangeSame
import Derived.Stop.LaidErr
import Derived.LaidMore
import Derived.Stop.Joined
set_option linter.all false
set_option maxHeartbeats 8000000
set_option maxRecDepth 100000
namespace Go.Ae
open Go Go.Proofs Go.RowKit Go.Extern.Stop Go.Stop Go.Extern
def NN(v:Value)(w:World):(Extern.ReflectliteType.typeOf #[.iface 392 v]).run Tryz.prog w= .ok (.iface 264 (.agg #[.pointer (some ⟨2,392,none⟩)])) w:=by kernel_rfl
def cmpE:Array Value->Sem Value:=Extern.ReflectliteType.method λt=>do Extern.Rtype.noPackHeld "Comparable" t;pure (.bool (<-typeInfo t).comparable)
def NZ(w:World):(cmpE #[.agg #[.pointer (some ⟨2,392,none⟩)]]).run Tryz.prog w= .ok (.bool true) w:=by kernel_rfl
def NO(v:Value)(w:World):(Go.method 534 264 v "Comparable").run Tryz.prog w= .ok (323,v) w:=by kernel_rfl
def er_comp:(Tryz.prog.info? 392).map (·.comparable)=some true:=by kernel_rfl
def er_size:(Tryz.prog.info? 419).map (·.size)=some 1:=by kernel_rfl
def er_noIs(v:Value)(z:TypeId)(w:World):(Instr.typeAssert (.iface 392 v) z 266 true).run Tryz.prog w= .ok (.tuple #[.nilIface,.bool false]) w:=run_typeAssert_lacksB Tryz.underlying266 (by kernel_rfl) (by kernel_rfl) v z w
def Sq(v:Value)(z:TypeId)(w:World):(Instr.typeAssert (.iface 392 v) z 269 true).run Tryz.prog w= .ok (.tuple #[.nilIface,.bool false]) w:=run_typeAssert_lacksB Tryz.underlying269 (by kernel_rfl) (by kernel_rfl) v z w
def Sn(v:Value)(z:TypeId)(w:World):(Instr.typeAssert (.iface 392 v) z 271 true).run Tryz.prog w= .ok (.tuple #[.nilIface,.bool false]) w:=run_typeAssert_lacksB Tryz.underlying271 (by kernel_rfl) (by kernel_rfl) v z w
def er_same(a:Addr)(w:World):Calls Tryz.prog 110 #[.iface 392 (.pointer (some a)),.iface 392 (.pointer (some a))] w λe w'=>e= .returned (.bool true)/\w'=w:=by
 obtain⟨i,Q,z⟩:=BF.1 er_comp;obtain⟨j,Z,aa⟩:=BF.1 er_size;have h8:= @run_callFunc_extern Tryz.prog 157 _ Extern.ReflectliteType.typeOf Tryz.func157 (by kernel_rfl) (by kernel_rfl) (by kernel_rfl) (by kernel_rfl);have G:= @run_callFunc_extern Tryz.prog 323 _ cmpE Tryz.func323 (by kernel_rfl) (by kernel_rfl) (by kernel_rfl) (by kernel_rfl);have tT:=NN;have cT:=NZ;have mR:=NO;have O:=run_eql_iface_ptr_same (P:=Tryz.prog) w a Tryz.underlying164 Tryz.underlying392 Q z Z
 go_enter Tryz.func110,Tryz.ntmps110
 go_wp2
 refine wp_loop_rounds 1 ?_;rw[rounds_succ]
 go_wp2
 go_ret
 exact⟨rfl,rfl⟩
def er_nil(b:Addr)(w:World):Calls Tryz.prog 110 #[.nilIface,.iface 392 (.pointer (some b))] w λe w'=>e= .returned (.bool false)/\w'=w:=by
 have hn:=run_eql_iface_nil_left (P:=Tryz.prog) w 392 (.pointer (some b)) Tryz.underlying164
 go_enter Tryz.func110,Tryz.ntmps110
 go_wp2
 go_ret
 exact⟨rfl,rfl⟩
def er_other(a b:Addr)(ca Q:Array Value)(ta tb:TypeId)(w:World)(O:a≠b)(ha:w.heap[a.block]? =some (.cells ca ta (0,0)))(hb:w.heap[b.block]? =some (.cells Q tb (0,0))):
 Calls Tryz.prog 110 #[.iface 392 (.pointer (some a)),.iface 392 (.pointer (some b))] w λe w'=>e= .returned (.bool false)/\w'=w:=by
 obtain⟨i,hi,z⟩:=BF.1 er_comp;obtain⟨j,hj,G⟩:=BF.1 er_size;have h8:= @run_callFunc_extern Tryz.prog 157 _ Extern.ReflectliteType.typeOf Tryz.func157 (by kernel_rfl) (by kernel_rfl) (by kernel_rfl) (by kernel_rfl);have Z:= @run_callFunc_extern Tryz.prog 323 _ cmpE Tryz.func323 (by kernel_rfl) (by kernel_rfl) (by kernel_rfl) (by kernel_rfl);have tT:=NN;have cT:=NZ;have mR:=NO;have nE:=er_noIs;have uE:=Sq;have vE:=Sn;have aa:=run_eql_iface_ptr_other (P:=Tryz.prog) w Tryz.underlying164 Tryz.underlying392 hi z hj (by rw[G];decide) O ha hb
 go_enter Tryz.func110,Tryz.ntmps110
 go_wp2
 refine wp_loop_rounds 1 ?_;rw[rounds_succ]
 go_wp2
 go_ret
 exact⟨rfl,rfl⟩
def FQ(K:Kont):List AV->Prop
 |[.im .nili,.im (.tok g)]=>isG g=true/\K (.im (.bool false)) {}
 |[.im (.tok a),.im (.tok g)]=>isG a=true/\isG g=true/\K (.im (.bool (a==g))) {}
 |_=>False
def errIs.row:Row:=λargs _ _ K=>FQ K args
def errIs.q(args:List AV)(h:Nat->Option Ent)(nx:Nat)(K:Kont):errIs.row args h nx K=FQ K args:=rfl
def Ky{ok:Nat->Prop}{hp:Nat->Option Obj}{g:Nat}{a:Addr}{v:Value}(h:GE ok hp g a)(O:rd ok hp (.tok g) v):v= .iface 392 (.pointer (some a)):=by
 simp only[rd] at O;obtain⟨_,_,T,fr,Z⟩:=O;obtain⟨_,⟨T2,Q,z⟩,_⟩:=h;rw[Z] at z;have G:=Al z;simp only[Obj.cells.injEq] at G;simpa using G.1
def errIs.ok:Ak Tryz.prog 110 errIs.row:=by
 intro args h nx K G;have hE: ∀S:Env,S.h=({}:Eff).appf S.h:=λS=>by funext m;simp[Eff.appf,hget]
 rw[errIs.q] at G;unfold FQ at G;split at G
 .rename_i g;obtain⟨hg,hK⟩:=G;refine⟨FW (by kernel_rfl),_,_,?_,hK⟩;intro C S vs R hW ad Q Z z O;simp only[Ap,conc] at z;obtain⟨v0,r0,hv,h0,v1,r1,aa,h1,ab⟩:=z;obtain⟨a,ga,gn⟩:=hW.gp;have e1:=Ky (ga g hg) h1;simp only[rd] at h0;subst ab aa e1 h0;have ac:vs= #[.nilIface,.iface 392 (.pointer (some (a g)))]:=by apply Gh;simpa using hv
  subst ac;refine (er_nil (a g) S.w).mono ?_;rintro e w' ⟨rfl,rfl⟩;exact O _ S hW (hE S) (Pres.refl _ _) (by simp only[conc,rd])
 .rename_i b g;obtain⟨hb,hg,hK⟩:=G;refine⟨FW (by kernel_rfl),_,_,?_,hK⟩;intro C S vs R hW ad Q Z z O;simp only[Ap,conc] at z;obtain⟨v0,r0,hv,h0,v1,r1,aa,h1,ab⟩:=z;obtain⟨a,ga,gn⟩:=hW.gp;have e1:=Ky (ga g hg) h1;have e0:=Ky (ga b hb) h0;subst ab aa e1 e0;have ac:vs= #[.iface 392 (.pointer (some (a b))),.iface 392 (.pointer (some (a g)))]:=by apply Gh;simpa using hv
  subst ac;by_cases c:b=g
  .subst c;refine (er_same (a b) S.w).mono ?_;rintro e w' ⟨rfl,rfl⟩;exact O _ S hW (hE S) (Pres.refl _ _) (by simp only[conc,rd,P6])
  .obtain⟨_,_,_,cb,tb,k1⟩:=ga b hb;obtain⟨_,_,_,cg,tg,k2⟩:=ga g hg;refine (er_other (a b) (a g) cb cg tb tg S.w (gn b g hb hg c) k1 k2).mono ?_;rintro e w' ⟨rfl,rfl⟩;exact O _ S hW (hE S) (Pres.refl _ _) (by simp only[conc,rd];simp[c])
 .exact G.elim
end Go.Ae
namespace Go.Ae
open Go Go.Proofs Go.RowKit Go.ChangeShapes Go.WideShapes
abbrev EM:List (String×DataW Unit):=[("loop.example/g01081/impl.errTerminal",Go.Proofs.YtogafbdeamcpnaaGreatDoor.Rows.laid_loop_example_g01081_impl_errTerminal),("loop.example/g01081/impl.errNoSpace",Go.Proofs.YtogafbdeamcpnaaGreatDoor.Rows.laid_loop_example_g01081_impl_errNoSpace)]
def gT:Tryz.prog.globalNamed "loop.example/g01081/impl.errTerminal" =some 0:=by kernel_rfl
def gN:Tryz.prog.globalNamed "loop.example/g01081/impl.errNoSpace" =some 1:=by kernel_rfl
def gTt:(Tryz.prog.globals[0]?).map (·.type)=some 164:=by kernel_rfl
def gNt:(Tryz.prog.globals[1]?).map (·.type)=some 164:=by kernel_rfl
def starE: "*" ++ "errors.errorString" = "*errors.errorString" :=by decide
def rowE(u:TypeId)(h:Tryz.prog.typeName? 3 u=some "*errors.errorString"):u=392:=
 typeName_ptr_named (nm:= "errors.errorString") (by rw[starE];kernel_rfl) (by kernel_rfl) (by decide) u (by rw[starE];exact h)
def Kx{W:World}{n:String}{g:Nat}{cs:Array Value}(G:Tryz.prog.globalNamed n=some g)(h:W.var? Tryz.prog n=some cs): ∃T z,W.heap[g]? =some (.cells cs T z):=by
 unfold World.var? at h;rw[G] at h;simp only[Ce] at h;split at h
 .rename_i c T z e;obtain rfl:=Al h;exact⟨T,z,e⟩
 .cases h
def GG{W:World}{b:Nat}{o:Obj}(h:W.heap[b]? =some o):b<W.heap.size:=(Hi.1 h).1
def laid_GP{W:World}(h:laidMetH Tryz.prog EM W):GP (λb=>b<W.heap.size) (λb=>W.heap[b]?):=by
 rw[MakeChecks.laidMetH_plain _ _ _ (by kernel_rfl)] at h;obtain⟨a0,a1,s0,s1,c0,c1,t0,t1,aa,ab,ac,af,ah,ad,ag,ai,Z,z,G⟩:=laid_sentinels2 h gT gTt gN gNt Tryz.underlying164 rowE Tryz.underlying392 Tryz.underlying419 rfl rfl Tryz.underlying9 (by kernel_rfl) (by kernel_rfl);obtain⟨T0,f0,g0⟩:=Kx gT aa;obtain⟨T1,f1,g1⟩:=Kx gN ab;refine⟨λg=>if g=0 then a0 else a1,λg O=> ?_,λg g' O Q hn=> ?_⟩
 .simp only[isG,Dy,G4] at O;rcases O with rfl|rfl
  .exact⟨GG g0,⟨T0,f0,g0⟩,GG z,c0,t0,z⟩
  .exact⟨GG g1,⟨T1,f1,g1⟩,GG G,c1,t1,G⟩
 .simp only[isG,Dy,G4] at O Q;rcases O with rfl|rfl<;>rcases Q with rfl|rfl
  .exact absurd rfl hn
  .exact Z
  .exact λe=>Z e.symm
  .exact absurd rfl hn
abbrev varL:List String:=["loop.example/g01081/impl.errTerminal", "loop.example/g01081/impl.errNoSpace"]
def vars_open{H:Type}{enc:TypeId×Value->H}{W:World}{sp:Nat->Bool}{gs:List (DataW H)}{q:List MemPlace}(h:laidMetH Tryz.prog EM W)(hV:DataW.TrodVars enc Tryz.prog W sp varL gs q):
 ∃O Q:Value,IsIface O/\IsIface Q/\W.var? Tryz.prog "loop.example/g01081/impl.errTerminal" =some #[O]/\W.var? Tryz.prog "loop.example/g01081/impl.errNoSpace" =some #[Q]/\gs=[tok enc O,tok enc Q]/\q=[.cell 0 0,.cell 1 0]:=by
 rw[MakeChecks.laidMetH_plain _ _ _ (by kernel_rfl)] at h;obtain⟨Z,a1,s0,s1,c0,c1,t0,t1,z,G,_⟩:=laid_sentinels2 h gT gTt gN gNt Tryz.underlying164 rowE Tryz.underlying392 Tryz.underlying419 rfl rfl Tryz.underlying9 (by kernel_rfl) (by kernel_rfl);obtain⟨r1,r2⟩:=hV.unique (vars_read2 enc gT gTt Tryz.underlying164 z trivial gN gNt Tryz.underlying164 G trivial _);exact⟨.iface _ (.pointer (some Z)),.iface _ (.pointer (some a1)),trivial,trivial,z,G,r1,r2⟩
def NP{W W':World}(O:Below W.heap.size W W'){n:String}{g:Nat}{cs:Array Value}(z:Tryz.prog.globalNamed n=some g)(h:W.var? Tryz.prog n=some cs):W'.var? Tryz.prog n=some cs:=by
 obtain⟨T,Q,e⟩:=Kx z h;have G:=(O.block g (GG e)).trans e;unfold World.var?;rw[z];simp only[Ce,G]
def vars_mk{H:Type}(enc:TypeId×Value->H){W W':World}(O:Below W.heap.size W W'){z G:Value}(i0:IsIface z)(i1:IsIface G)(h0:W.var? Tryz.prog "loop.example/g01081/impl.errTerminal" =some #[z])(Z:W.var? Tryz.prog "loop.example/g01081/impl.errNoSpace" =some #[G])(Q:Nat->Bool):
 DataW.TrodVars enc Tryz.prog W' Q varL [tok enc z,tok enc G] [.cell 0 0,.cell 1 0]:=
 vars_read2 enc gT gTt Tryz.underlying164 (NP O gT h0) i0 gN gNt Tryz.underlying164 (NP O gN Z) i1 Q
def door_met(os:Os)(args:Array Value):laidMetH Tryz.prog EM ((World.doorLaid Tryz.prog 47 os).forCall (λ_ _=>0) ⟨#[],args,[]⟩).memory:=
 laidMetH_of_parts3 (fuel:=8) (laidMet_of_run' 8 (by kernel_rfl) (by kernel_rfl)) (by kernel_rfl) (by kernel_rfl)
end Go.Ae
namespace Go.Ae
open Go.Proofs
def KH(p:Aa)(k:Int):Aa×Aa:=(⟨p.X/k,p.Y/k⟩,⟨p.X % k,p.Y % k⟩)
def l02Index.fv(a:Aj×Int):Bool:=(λs t=>AE t 0 (s.Tiles.length - 1)) (a.1) (a.2)
def l02Index.row:Row:=vK (b2 (qP 2 Aj.d_le) qI) rB (λa=>True) l02Index.fv
def l02Index.q:=vKq (R:=l02Index.row) rfl
def l02Index.ok:Ak Tryz.prog 178 l02Index.row:=by
 refine vw (tC l00In.ok tN) Tryz.func178 rfl (by kernel_rfl) ?_;intro a z;simp only[Tryz.f178];simp(disch:=omega)only[ZA,simprocAttr,l02Index.fv,l00In.q,l00In.fv];intro h;rw[Am (by omega) (by omega)]
def isTile.fv(a:Aj×Int):Bool:=(λs t=>AE t 0 (s.Tiles.length - 1)) (a.1) (a.2)
def isTile.row:Row:=vK (b2 (qR Aj.d_le) qI) rB (λa=>True) isTile.fv
def isTile.q:=vKq (R:=isTile.row) rfl
def isTile.ok:Ak Tryz.prog 220 isTile.row:=by
 refine vw (tC isIndex.ok tN) Tryz.func220 rfl (by kernel_rfl) ?_;intro a z;simp only[Tryz.f220];simp(disch:=omega)only[ZA,simprocAttr,isTile.fv,isIndex.q,isIndex.fv];intro h;simp only[I64];omega
def opposite_.fv(a:Int):Int:=(λd=>(d+2) % 4) a
def opposite_.row:Row:=vK (b1 qI) rI (λa=>0<=a/\a<=3) opposite_.fv
def opposite_.q:=vKq (R:=opposite_.row) rfl
def opposite_.ok:Ak Tryz.prog 248 opposite_.row:=by
 refine vw tN Tryz.func248 rfl (by kernel_rfl) ?_;intro a z;simp only[Tryz.f248];simp(disch:=omega)only[ZA,simprocAttr,opposite_.fv];rw[Am (by omega) (by omega)]
 have:(0:Int)<=a+2:=by omega
 rw[Ly this]
def l01Dir.fv(a:Int):Bool:=(λd=>AE d 0 3) a
def l01Dir.row:Row:=vK (b1 qI) rB (λa=>True) l01Dir.fv
def l01Dir.q:=vKq (R:=l01Dir.row) rfl
def l01Dir.ok:Ak Tryz.prog 209 l01Dir.row:=by
 refine vw (tC l00In.ok tN) Tryz.func209 rfl (by kernel_rfl) ?_;intro a z;simp only[Tryz.f209];simp(disch:=omega)only[ZA,simprocAttr,l01Dir.fv,l00In.q,l00In.fv]
def Opposite_.fv(a:Int):Int:=(λd=>(d+2) % 4) a
def Opposite_.row:Row:=vK (b1 qI) rI (λa=>0<=a/\a<=3) Opposite_.fv
def Opposite_.q:=vKq (R:=Opposite_.row) rfl
def Opposite_.ok:Ak Tryz.prog 171 Opposite_.row:=by
 refine vw (tC l01Dir.ok tN) Tryz.func171 rfl (by kernel_rfl) ?_;intro a z;simp only[Tryz.f171];simp(disch:=omega)only[ZA,simprocAttr,Opposite_.fv,l01Dir.q,l01Dir.fv];have h:AE a 0 3=true:=by simp[AE,z]
 rw[h,Ab (by simp),Am (by omega) (by omega)]
 have:(0:Int)<=a+2:=by omega
 rw[Ly this]
def l07Temperature.fv(a:Int):Bool:=(λt=>AE t 1 16) a
def l07Temperature.row:Row:=vK (b1 qI) rB (λa=>True) l07Temperature.fv
def l07Temperature.q:=vKq (R:=l07Temperature.row) rfl
def l07Temperature.ok:Ak Tryz.prog 166 l07Temperature.row:=by
 refine vw (tC l00In.ok tN) Tryz.func166 rfl (by kernel_rfl) ?_;intro a z;simp only[Tryz.f166];simp(disch:=omega)only[ZA,simprocAttr,l07Temperature.fv,l00In.q,l00In.fv]
def isTemperature.fv(a:Int):Bool:=(λt=>AE t 1 16) a
def isTemperature.row:Row:=vK (b1 qI) rB (λa=>True) isTemperature.fv
def isTemperature.q:=vKq (R:=isTemperature.row) rfl
def isTemperature.ok:Ak Tryz.prog 210 isTemperature.row:=by
 refine vw (tC within_.ok tN) Tryz.func210 rfl (by kernel_rfl) ?_;intro a z;simp only[Tryz.f210];simp(disch:=omega)only[ZA,simprocAttr,isTemperature.fv,within_.q,within_.fv]
def setP(s:Aj):Prop:=s.Glues.length<=140737488355328/\(∀t∈s.Tiles,t.Sides.length=4/\ ∀g∈t.Sides,0<=g/\g<=s.Glues.length)/\ ∀g∈s.Glues,1<=g.Strength/\g.Strength<=4
def EV(s:Aj)(z G:Int):Int:=((((s.Tiles[z.toNat]?).map Tile.Sides).getD [])[G.toNat]?).getD 0
def Gm(s:Aj)(g:Int):Int:=if 0<g then ((s.Glues[(g - 1).toNat]?).map Glue.Strength).getD 0 else 0
def CT(s:Aj)(a z b:Int):Int:=if EV s a z=EV s b ((z+2) % 4) then Gm s (EV s a z) else 0
def CI(s:Aj)(t:Int):Prop:=0<=t/\t<s.Tiles.length
def dirOk(d:Int):Prop:=0<=d/\d<=3
def Lj{s:Aj}{t d:Int}{x:Tile}{g:Int}(G:s.Tiles[t.toNat]? =some x)(z:x.Sides[d.toNat]? =some g):EV s t d=g:=by
 simp[EV,G,z]
def glue_eq{s:Aj}{g:Int}{x:Glue}(h:0<g)(z:s.Glues[(g - 1).toNat]? =some x):Gm s g=x.Strength:=by
 simp only[Gm,Af h,z];rfl
def glue_no{s:Aj}{g:Int}(h: ¬0<g):Gm s g=0:=by
 simp[Gm,h]
def O7{s:Aj}(h:setP s){t:Int}{x:Tile}(z:s.Tiles[t.toNat]? =some x):x.Sides.length=4:=(h.2.1 x (Ax z)).1
def Xl{s:Aj}(h:setP s){t d:Int}{x:Tile}{g:Int}(G:s.Tiles[t.toNat]? =some x)(z:x.Sides[d.toNat]? =some g):0<=g/\g<=s.Glues.length:=(h.2.1 x (Ax G)).2 g (Ax z)
def l02Strength.fv(a:Aj×Int):Int:=(Gm) (a.1) (a.2)
def l02Strength.row:Row:=vK (b2 (qP 2 Aj.d_le) qI) rI (λa=>0<=a.2/\a.2<=a.1.Glues.length/\a.1.Glues.length<=140737488355328) l02Strength.fv
def l02Strength.q:=vKq (R:=l02Strength.row) rfl
def l02Strength.ok:Ak Tryz.prog 172 l02Strength.row:=by
 refine vw tN Tryz.func172 rfl (by kernel_rfl) ?_;intro a z;simp only[Tryz.f172];simp(disch:=omega)only[ZA,simprocAttr,l02Strength.fv];obtain⟨O,Q,Z⟩:=z
 split<;>rename_i h
 .simp[Gm,h]
 .rw[Am (by omega) (by omega)];exact⟨by omega,by omega,λx G=>(glue_eq (by omega) G).symm⟩
def strength_.fv(a:Aj×Int×Int):Int:=(λs t d=>Gm s (EV s t d)) (a.1) (a.2.1) (a.2.2)
def strength_.row:Row:=vK (b3 (qR Aj.d_le) qI qI) rI (λa=>setP a.1/\CI a.1 a.2.1/\dirOk a.2.2) strength_.fv
def strength_.q:=vKq (R:=strength_.row) rfl
def strength_.ok:Ak Tryz.prog 249 strength_.row:=by
 refine vw tN Tryz.func249 rfl (by kernel_rfl) ?_;intro a z;simp only[Tryz.f249];simp(disch:=omega)only[ZA,simprocAttr,strength_.fv];obtain⟨G,Q,Z⟩:=z;refine⟨Q.1,Q.2,λx O=>⟨Z.1,?_,λg hg=> ?_⟩⟩
 .rw[O7 G O];have:=Z.2;omega
 .have aa:=Xl G O hg
  have:=G.1
  rw[Lj O hg]
  split<;>rename_i h
  .rw[Am (by omega) (by omega)];exact⟨by omega,by omega,λy hy=>(glue_eq h hy).symm⟩
  .exact (glue_no h).symm
def bond_.rc:D->Option (Int):=vInt
def bond_.re:Int->D:=D.int .i64
def bond_.rle: ∀d b,bond_.rc d=some b->Le d (bond_.re b):=F2
def bond_.fv(a:Aj×Int×Int×Int):Int:=(CT) (a.1) (a.2.1) (a.2.2.1) (a.2.2.2)
def bond_.row:Row:=vK (b4 (qR Aj.d_le) qI qI qI) (RK.mk bond_.rc bond_.re bond_.rle) (λa=>setP a.1/\CI a.1 a.2.1/\dirOk a.2.2.1/\CI a.1 a.2.2.2) bond_.fv
def bond_.q:=vKq (R:=bond_.row) rfl
def bond_.ok:Ak Tryz.prog 213 bond_.row:=by
 refine vw (tC opposite_.ok (tC strength_.ok tN)) Tryz.func213 rfl (by kernel_rfl) ?_;intro a G;simp only[Tryz.f213];simp(disch:=omega)only[ZA,simprocAttr,bond_.fv,bond_.rc,opposite_.q,opposite_.fv,strength_.q,strength_.fv];obtain⟨O,Q,z,h4⟩:=G;have h5:=z.1;have h6:=z.2;refine⟨Q.1,Q.2,λx hx=>⟨z.1,by rw[O7 O hx];omega,λg hg=>⟨h4.1,h4.2,λy hy=>⟨z,by omega,by rw[O7 O hy];omega,λg' Z=> ?_⟩⟩⟩⟩;simp only[CT,Lj hx hg,Lj hy Z];split
 .exact⟨⟨O,Q,z⟩,rfl⟩
 .rfl
def l02Bond.fv(a:Aj×Int×Int×Int):Int:=(CT) (a.1) (a.2.1) (a.2.2.1) (a.2.2.2)
def l02Bond.row:Row:=vK (b4 (qP 2 Aj.d_le) qI qI qI) rI (λa=>setP a.1/\CI a.1 a.2.1/\dirOk a.2.2.1/\CI a.1 a.2.2.2) l02Bond.fv
def l02Bond.q:=vKq (R:=l02Bond.row) rfl
def l02Bond.ok:Ak Tryz.prog 169 l02Bond.row:=by
 refine vw (tC Opposite_.ok (tC l02Strength.ok tN)) Tryz.func169 rfl (by kernel_rfl) ?_;intro a O;simp only[Tryz.f169];simp(disch:=omega)only[ZA,simprocAttr,l02Bond.fv,Opposite_.q,Opposite_.fv,l02Strength.q,l02Strength.fv];obtain⟨z,h2,Q,h4⟩:=O;have h5:=Q.1;have h6:=Q.2;refine⟨h2.1,h2.2,λx hx=>⟨Q.1,by rw[O7 z hx];omega,λg hg=>⟨h4.1,h4.2,λy hy=>⟨Q,by omega,by rw[O7 z hy];omega,λg' Z=> ?_⟩⟩⟩⟩;have G:=Xl z hx hg
 have:=z.1
 simp only[CT,Lj hx hg,Lj hy Z]
 split<;>rename_i h
 .first|rw[Ab h]|rfl
 .rw[Af (Df.1 h)];exact⟨⟨G.1,G.2,z.1⟩,rfl⟩
def B2:Option Aa->List Ad->Bool
 |_,[]=>true
 |q,x::r=>Cg x.At && (AE x.Tile 0 159 && ((match q with|none=>true|some p=>AB p x.At) && B2 (some x.At) r))
def Gi(q:Option Aa)(x:Ad)(r:List Ad):B2 q (x::r)=(Cg x.At && (AE x.Tile 0 159 && ((match q with|none=>true|some p=>AB p x.At) && B2 (some x.At) r))):=by cases q<;>rfl
def O6(q:Option Aa):B2 q []=true:=by cases q<;>rfl
def Db(l:List Ad)(k:Nat):Option Aa:=if k=0 then none else (l[k - 1]?).map (·.At)
def VH{l:List Ad}{k:Nat}{x:Ad}(z:l[k]? =some x):Db l (k+1)=some x.At:=by
 simp[Db,z]
def Cw{A:Type}{l:List A}{k:Nat}{x:A}(z:l[k]? =some x):l.drop k=x::l.drop (k+1):=by
 have G:k<l.length:=(Ba.1 z).1;rw[H6 G];rw[A8 G] at z;rw[Al z]
def hasForm_.fv(a:Asm):Bool:=(λa=>B2 none a.Tiles && decide (a.Tiles.length<=500)) a
def hasForm_.row:Row:=vK (b1 (qR Asm.d_le)) rB (λa=>True) hasForm_.fv
def hasForm_.q:=vKq (R:=hasForm_.row) rfl
def hasForm_.ok:Ak Tryz.prog 191 hasForm_.row:=by
 refine vw (tC ValidPoint.ok (tC isIndex.ok (tC impl_LessPoint.ok tN))) Tryz.func191 rfl (by kernel_rfl) ?_;intro a ab;simp only[Tryz.f191];simp(disch:=omega)only[ZA,simprocAttr,hasForm_.fv];intro aa;refine Au.old ⟨{k:Nat//k<=a.Tiles.length/\B2 (Db a.Tiles k) (a.Tiles.drop k)=B2 none a.Tiles},λk=>⟨[(8,.im (.int .i64 k.1)),(7,.im (.int .i64 a.Tiles.length)),(6,.im (.sl false 3 (a.Tiles.map Ad.c))),(1,.ptr 0 0),(2,.im (.bool false))],[(0,(true,.cells 39 [.im (.sl false 3 (a.Tiles.map Ad.c))]))],1⟩,λk=>a.Tiles.length - k.1,λk=>⟨by simp[Ac.good,belT,belH,Ai,AV.bel,belL],Ar _⟩,⟨⟨0,by simp[Db]⟩,by simp(disch:=omega)only[ZA,simprocAttr,sub]⟩,λk=> ?_⟩;obtain⟨k,ac,G⟩:=k;simp(disch:=omega)only[ZA,simprocAttr,ValidPoint.q,ValidPoint.fv,isIndex.q,isIndex.fv,impl_LessPoint.q,impl_LessPoint.fv,sub,Aq];refine⟨λhk=>⟨hk,λx hx=> ?_⟩,λhk=> ?_⟩
 .rw[Cw hx,Gi] at G;have O:(Cg x.At && (AE x.Tile 0 159 && (match Db a.Tiles k with|none=>true|some p=>AB p x.At)))=false->false=(B2 none a.Tiles && decide (a.Tiles.length<=500)):=by
   intro h;rw[<-G];revert h;cases Cg x.At<;>cases AE x.Tile 0 159<;>cases (match Db a.Tiles k with|none=>true|some p=>AB p x.At)<;>simp
  have z:(Cg x.At && (AE x.Tile 0 159 && (match Db a.Tiles k with|none=>true|some p=>AB p x.At)))=true->B2 (Db a.Tiles (k+1)) (a.Tiles.drop (k+1))=B2 none a.Tiles:=by
   intro h;rw[<-G,VH hx];simp only[Av] at h;simp[h.1,h.2.1,h.2.2]
  refine⟨λQ=>⟨by simp[I64],⟨λZ=>⟨λh3=> ?_,λh3=> ?_⟩,λZ=>O (by simp[Z])⟩⟩,λQ=>O (by simp[Q])⟩
  .rw[Am (x:=(k:Int) - 1) (by omega) (by omega)];refine⟨by omega,by omega,λy hy=> ?_⟩;have hp:Db a.Tiles k=some y.At:=by
    have e:((k:Int) - 1).toNat=k - 1:=by omega
    rw[e] at hy;simp[Db,hy,show k≠0 by omega]
   rw[hp] at O z;exact⟨λh4=>O (by simp[h4]),λh4=>CZ hk (by omega) ⟨by omega,z (by simp[Q,Z];simpa using h4)⟩⟩
  .have hp:Db a.Tiles k=none:=by simp[Db,show k=0 by omega]
   rw[hp] at z;exact CZ hk (by omega) ⟨by omega,z (by simp[Q,Z])⟩
 .rw[B9 (by omega),O6] at G;simp only[<-G,BY]
  grind
def l03Form.fv(a:Asm):Bool:=(λa=>B2 none a.Tiles && decide (a.Tiles.length<=500)) a
def l03Form.row:Row:=vK (b1 (qP 1 Asm.d_le)) rB (λa=>True) l03Form.fv
def l03Form.q:=vKq (R:=l03Form.row) rfl
def l03Form.ok:Ak Tryz.prog 188 l03Form.row:=by
 refine vw (tC l01Point.ok (tC l00In.ok (tC l_LessPoint.ok tN))) Tryz.func188 rfl (by kernel_rfl) ?_;intro a ab;simp only[Tryz.f188];simp(disch:=omega)only[ZA,simprocAttr,l03Form.fv];intro aa;simp only[Aq];refine⟨λh=> ?_,λh=> ?_⟩
 .have: ¬a.Tiles.length<=500:=by omega
  simp[this]
 refine Au.old ⟨{k:Nat//k<=a.Tiles.length/\B2 (Db a.Tiles k) (a.Tiles.drop k)=B2 none a.Tiles},λk=>⟨[(3,.im (.int .i64 k.1)),(0,.ptr 0 0),(2,.im (.bool false))],[(0,(false,.view [.sl false 3 (a.Tiles.map Ad.c)]))],1⟩,λk=>a.Tiles.length - k.1,λk=>⟨by simp[Ac.good,belT,belH,Ai,AV.bel],Ar _⟩,⟨⟨0,by simp[Db]⟩,by simp(disch:=omega)only[ZA,simprocAttr,sub]⟩,λk=> ?_⟩;obtain⟨k,ac,G⟩:=k;simp(disch:=omega)only[ZA,simprocAttr,l01Point.q,l01Point.fv,l00In.q,l00In.fv,l_LessPoint.q,l_LessPoint.fv,sub,Aq];intro _;refine⟨λhk=>⟨hk,λx hx=> ?_⟩,λhk=> ?_⟩
 .rw[Cw hx,Gi] at G;have O:(Cg x.At && (AE x.Tile 0 159 && (match Db a.Tiles k with|none=>true|some p=>AB p x.At)))=false->false=(B2 none a.Tiles && decide (a.Tiles.length<=500)):=by
   intro h;rw[<-G];revert h;cases Cg x.At<;>cases AE x.Tile 0 159<;>cases (match Db a.Tiles k with|none=>true|some p=>AB p x.At)<;>simp
  have z:(Cg x.At && (AE x.Tile 0 159 && (match Db a.Tiles k with|none=>true|some p=>AB p x.At)))=true->B2 (Db a.Tiles (k+1)) (a.Tiles.drop (k+1))=B2 none a.Tiles:=by
   intro h;rw[<-G,VH hx];simp only[Av] at h;simp[h.1,h.2.1,h.2.2]
  refine⟨λQ=>⟨λZ=>⟨λh3=> ?_,λh3=> ?_⟩,λZ=>O (by simp[Z])⟩,λQ=>O (by simp[Q])⟩
  .rw[Am (x:=(k:Int) - 1) (by omega) (by omega)];refine⟨by omega,by omega,λy hy=> ?_⟩;have hp:Db a.Tiles k=some y.At:=by
    have e:((k:Int) - 1).toNat=k - 1:=by omega
    rw[e] at hy;simp[Db,hy,show k≠0 by omega]
   rw[hp] at O z;exact⟨λh4=>O (by simp[h4]),λh4=>CZ hk (by omega) ⟨by omega,z (by simp[Q,Z];simpa using h4)⟩⟩
  .have hp:Db a.Tiles k=none:=by simp[Db,show k=0 by omega]
   rw[hp] at z;exact CZ hk (by omega) ⟨by omega,z (by simp[Q,Z])⟩
 .rw[B9 (by omega),O6] at G;simp only[<-G,BY]
  grind
def AA{A:Type}(p:A->Bool):Nat->List A->Int
 |_,[]=> -1
 |i,x::r=>if p x=true then i else AA p (i+1) r
def l02Glue.fv(a:Aj×ByteArray):Int:=(λs n=>AA (λg=>decide (g.Name=n)) 0 s.Glues+1) (a.1) (a.2)
def l02Glue.row:Row:=vK (b2 (qP 2 Aj.d_le) qT) rI (λa=>True) l02Glue.fv
def l02Glue.q:=vKq (R:=l02Glue.row) rfl
def l02Glue.ok:Ak Tryz.prog 204 l02Glue.row:=by
 refine vw tN Tryz.func204 rfl (by kernel_rfl) ?_;intro a O;simp only[Tryz.f204];simp(disch:=omega)only[ZA,simprocAttr,l02Glue.fv];refine Au.old ⟨{k:Nat//k<=a.1.Glues.length/\AA (λg:Glue=>decide (g.Name=a.2)) k (a.1.Glues.drop k)=AA (λg:Glue=>decide (g.Name=a.2)) 0 a.1.Glues},λk=>⟨[(5,.im (.int .i64 k.1)),(4,.im (.int .i64 0)),(0,.ptr 0 0),(1,.im (.str a.2))],[(0,(false,.view [.sl false 2 (a.1.Glues.map Glue.c),.sl false 2 (a.1.Tiles.map Tile.c)]))],1⟩,λk=>a.1.Glues.length - k.1,λk=>⟨by simp[Ac.good,belT,belH,Ai,AV.bel],Ar _⟩,⟨⟨0,by simp⟩,by simp(disch:=omega)only[ZA,simprocAttr,sub]⟩,λk=> ?_⟩;obtain⟨k,Q,z⟩:=k;simp(disch:=omega)only[ZA,simprocAttr,sub,Aq];intro hn;refine⟨λG=>⟨G,λx Z=> ?_⟩,λG=> ?_⟩
 .rw[Cw Z,AA] at z;refine⟨λh=> ?_,λh=>CZ G hn ⟨by omega,by rw[<-z,Ab (by simpa using h)]⟩⟩;rw[Af (by simpa using h)] at z;rw[<-z,Am (by omega) (by omega)]
 .rw[B9 (by omega),AA] at z;omega
def VA1.fv(a:Ad×Aj):Bool:=(λx s=> !Qau x.Tile 0 (s.Tiles.length - 1)) (a.1) (a.2)
def VA1.row:Row:=vK (b2 (qR Ad.d_le) (qP 2 Aj.d_le)) rB (λa=>True) VA1.fv
def VA1.q:=vKq (R:=VA1.row) rfl
def VA1.ok:Ak Tryz.prog 219 VA1.row:=by
 refine vw (tC isTile.ok tN) Tryz.func219 rfl (by kernel_rfl) ?_;intro a z;simp only[Tryz.f219];simp(disch:=omega)only[ZA,simprocAttr,VA1.fv,isTile.q,isTile.fv]
def IdxVA.ar:List PK->Option ((List Ad)×Aj)
 |[.val (.sl _ _ O),.val (.fn 219 [] [.ref z])]=>(decR Ad.d O).bind λQ=>(Aj.d (z.take 2)).bind λG=>some (Q,G)
 |_=>none
def IdxVA.ae(a:(List Ad)×Aj):List PK:=[.val (.sl false 3 (a.1.map Ad.c)),.val (.fn 219 [] [.ref (Aj.c a.2)])]
def IdxVA.le: ∀G a,IdxVA.ar G=some a->LeKL G (IdxVA.ae a):=by
 intro G a h;unfold IdxVA.ar at h;split at h
 .simp only[Cb,An] at h;obtain⟨Q,h0,O,z,rfl⟩:=h;exact⟨BL (BG Ad.d_le _ _ h0) (by simp only[AF];rintro r ⟨y,_,rfl⟩;rfl),Hy ⟨Ha (LeP.trans_take (Aj.d_le _ _ z)),trivial⟩,trivial⟩
 .cases h
def IdxVA.fv(a:(List Ad)×Aj):Int:=(λl s=>AA (λx=> !Qau x.Tile 0 (s.Tiles.length - 1)) 0 l) (a.1) (a.2)
def IdxVA.row:Row:=vrow IdxVA.ar (λa=>True) (λa=>(D.int .i64) (IdxVA.fv a))
def IdxVA.q:=vq IdxVA.row rfl
def IdxVA.ok:Ak Tryz.prog 152 IdxVA.row:=by
 refine Ia Bz (tC VA1.ok tN) Tryz.func152 rfl (by kernel_rfl) (by kernel_rfl) (ar:=IdxVA.ar) (ae:=IdxVA.ae) IdxVA.le (n:=2) (λ_=>rfl) (by decide) (rc:=(vInt)) (re:=(D.int .i64)) (F2) (f:=IdxVA.fv) ?_;intro a O;simp only[Tryz.f152];simp(disch:=omega)only[ZA,simprocAttr,IdxVA.ae,IdxVA.fv];intro hn;refine Au.old ⟨{k:Nat//k<=a.1.length/\AA (λx:Ad=> !Qau x.Tile 0 (a.2.Tiles.length - 1)) k (a.1.drop k)=AA (λx:Ad=> !Qau x.Tile 0 (a.2.Tiles.length - 1)) 0 a.1},λk=>⟨[(8,.im (.int .i64 k.1)),(7,.im (.int .i64 a.1.length)),(6,.im (.sl false 3 (a.1.map Ad.c))),(4,.im (.int .i64 0)),(0,.im (.sl false 3 (a.1.map Ad.c))),(1,.im (.fn 219 [] [.ref (Aj.c a.2)]))],[],0⟩,λk=>a.1.length - k.1,λk=>⟨by simp[Ac.good,belT,belH,Ai,AV.bel],Ar _⟩,⟨⟨0,by simp⟩,by simp(disch:=omega)only[ZA,simprocAttr,sub]⟩,λk=> ?_⟩;obtain⟨k,Q,z⟩:=k;simp(disch:=omega)only[ZA,simprocAttr,VA1.q,VA1.fv,sub,Aq];refine⟨λG=>⟨G,λx Z=> ?_⟩,λG=> ?_⟩
 .rw[Cw Z,AA] at z;refine⟨λh=> ?_,λh=>CZ G hn ⟨by omega,by rw[<-z,Ab (by simpa using h)]⟩⟩;rw[Af (by simpa using h)] at z;exact z
 .rw[B9 (by omega),AA] at z;exact z
def X2{A:Type}(p:A->Bool): ∀(l:List A) (i:Nat),(0<=AA p i l↔l.any p=true)/\ -1<=AA p i l/\AA p i l<(i+l.length:Nat)\/(l=[]/\AA p i l= -1):=by
 intro l;induction l with
 |nil=>intro i;exact .inr ⟨rfl,rfl⟩
 |cons x r ih=>
  intro i;refine .inl ?_;simp only[AA,List.any_cons,Bs]
  split<;>rename_i h
  .simp[h];omega
  .rcases ih (i+1) with ⟨G,z,O⟩|⟨rfl,z⟩
   .simp only[Fw] at h;rw[h,JC];exact⟨G,z,by omega⟩
   .simp[z,h];omega
def TN{A:Type}(p:A->Bool)(l:List A):decide (0<=AA p 0 l)=l.any p:=by
 rw[HC];rcases X2 p l 0 with ⟨z,_⟩|⟨rfl,G⟩
 .simpa using z
 .simp[G]
def ContVA.ar:List PK->Option ((List Ad)×Aj)
 |[.val (.sl _ _ O),.val (.fn 219 [] [.ref z])]=>(decR Ad.d O).bind λQ=>(Aj.d (z.take 2)).bind λG=>some (Q,G)
 |_=>none
def ContVA.ae(a:(List Ad)×Aj):List PK:=[.val (.sl false 3 (a.1.map Ad.c)),.val (.fn 219 [] [.ref (Aj.c a.2)])]
def ContVA.le: ∀G a,ContVA.ar G=some a->LeKL G (ContVA.ae a):=by
 intro G a h;unfold ContVA.ar at h;split at h
 .simp only[Cb,An] at h;obtain⟨Q,h0,O,z,rfl⟩:=h;exact⟨BL (BG Ad.d_le _ _ h0) (by simp only[AF];rintro r ⟨y,_,rfl⟩;rfl),Hy ⟨Ha (LeP.trans_take (Aj.d_le _ _ z)),trivial⟩,trivial⟩
 .cases h
def ContVA.fv(a:(List Ad)×Aj):Bool:=(λl s=>l.any (λx=> !Qau x.Tile 0 (s.Tiles.length - 1))) (a.1) (a.2)
def ContVA.row:Row:=vrow ContVA.ar (λa=>True) (λa=>(D.bool) (ContVA.fv a))
def ContVA.q:=vq ContVA.row rfl
def ContVA.ok:Ak Tryz.prog 192 ContVA.row:=by
 refine Ia Bz (tC IdxVA.ok tN) Tryz.func192 rfl (by kernel_rfl) (by kernel_rfl) (ar:=ContVA.ar) (ae:=ContVA.ae) ContVA.le (n:=2) (λ_=>rfl) (by decide) (rc:=(Hn)) (re:=(D.bool)) (LF) (f:=ContVA.fv) ?_;intro a z;simp only[Tryz.f192];simp(disch:=omega)only[ZA,simprocAttr,ContVA.ae,ContVA.fv,IdxVA.q,IdxVA.ar,IdxVA.fv];exact TN _ _
def l03Ok.fv(a:Aj×Asm):Bool:=(λs a=>(B2 none a.Tiles && decide (a.Tiles.length<=500)) && a.Tiles.all (λx=>AE x.Tile 0 (s.Tiles.length - 1))) (a.1) (a.2)
def l03Ok.row:Row:=vK (b2 (qP 2 Aj.d_le) (qP 1 Asm.d_le)) rB (λa=>True) l03Ok.fv
def l03Ok.q:=vKq (R:=l03Ok.row) rfl
def l03Ok.ok:Ak Tryz.prog 140 l03Ok.row:=by
 refine vw (tC l03Form.ok (tC l02Index.ok tN)) Tryz.func140 rfl (by kernel_rfl) ?_;intro a Q;simp only[Tryz.f140];simp(disch:=omega)only[ZA,simprocAttr,Asm.d,l03Ok.fv,l03Form.q,l03Form.fv];simp only[Aq];refine⟨λh=>by simp[h],λh=> ?_⟩;simp only[CN] at h;refine Au.old ⟨{k:Nat//k<=a.2.Tiles.length/\(a.2.Tiles.drop k).all (λx=>AE x.Tile 0 (a.1.Tiles.length - 1))=a.2.Tiles.all (λx=>AE x.Tile 0 (a.1.Tiles.length - 1))},λk=>⟨[(5,.im (.int .i64 k.1)),(4,.im (.bool false)),(0,.ptr 0 0),(1,.ptr 1 0)],[(0,(false,.view (Aj.c a.1))),(1,(false,.view (Asm.c a.2)))],2⟩,λk=>a.2.Tiles.length - k.1,λk=>⟨by simp[Ac.good,belT,belH,Ai,AV.bel],Ar _⟩,⟨⟨0,by simp⟩,by simp(disch:=omega)only[ZA,simprocAttr,sub]⟩,λk=> ?_⟩;obtain⟨k,Z,z⟩:=k;simp(disch:=omega)only[ZA,simprocAttr,l02Index.q,l02Index.fv,sub,Aq];intro hn;refine⟨λO=>⟨O,λx hx=> ?_⟩,λO=> ?_⟩
 .rw[Cw hx,Fx] at z;refine⟨λG=> ?_,λG=>CZ O hn ⟨by omega,?_⟩⟩
  .rw[G] at z;simp only[CA] at z;rw[h,<-z];rfl
  .simp only[CN] at G;rw[G,BY] at z;exact z
 .rw[B9 (by omega)] at z;rw[h,<-z];rfl
def LJ{a b c:Aa}(z:AB a b=true)(G:AB b c=true):AB a c=true:=by
 simp only[AB,Dy,Av,AP] at*;omega
def OG(a:Aa):AB a a=false:=by simp[AB]
def LH: ∀(l:List Ad) (q:Option Aa),B2 q l=true->(∀p,q=some p-> ∀(i:Nat) (x:Ad),l[i]? =some x->AB p x.At=true)/\
 ∀(i j:Nat) (x y:Ad),i<j->l[i]? =some x->l[j]? =some y->AB x.At y.At=true
 |[],q,_=>⟨λ_ _ i x h=>by simp at h,λi j x y _ h=>by simp at h⟩
 |z::r,q,h=>by
  rw[Gi] at h;simp only[Av] at h;obtain⟨_,_,Q,h4⟩:=h;obtain⟨Z,i2⟩:=LH r (some z.At) h4;refine⟨?_,?_⟩
  .rintro p rfl i x G;cases i with
   |zero=>
    simp only[De,An] at G;subst G;exact Q
   |succ i=>
    simp only[DP] at G;exact LJ Q (Z _ rfl i x G)
  .intro i j x y aa G O;cases j with
   |zero=>omega
   |succ j=>
    simp only[DP] at O;cases i with
    |zero=>
     simp only[De,An] at G;subst G;exact Z _ rfl j y O
    |succ i=>
     simp only[DP] at G;exact i2 i j x y (by omega) G O
def TU{A:Type}(p:A->Bool): ∀(l:List A) (o k:Nat) (x:A),l[k]? =some x->p x=true->(∀i y,i<k->l[i]? =some y->p y=false)->AA p o l=((o+k:Nat):Int)
 |[],o,k,x,h,_,_=>by simp at h
 |z::r,o,k,x,h,hp,hn=>by
  simp only[AA];cases k with
  |zero=>
   simp only[De,An] at h;subst h;rw[Af hp];rfl
  |succ k=>
   have:=hn 0 z (by omega) (by simp)
   rw[Ab (by simp[this])];rw[TU p r (o+1) k x (by simpa using h) hp (λi y O G=>hn (i+1) y (by omega) (by simpa using G))];congr 1;omega
def Tw{A:Type}(p:A->Bool): ∀(l:List A) (o:Nat),(∀(i:Nat) (y:A),l[i]? =some y->p y=false)->AA p o l= -1
 |[],o,_=>rfl
 |z::r,o,hn=>by
  simp only[AA]
  have:=hn 0 z (by simp)
  rw[Ab (by simp[this])];exact Tw p r (o+1) (λi y G=>hn (i+1) y (by simpa using G))
def l03Index.fv(a:Asm×Aa):Int:=(λa p=>AA (λx=>decide (x.At=p)) 0 a.Tiles) (a.1) (a.2)
def l03Index.row:Row:=vK (b2 (qP 1 Asm.d_le) (qR Aa.d_le)) rI (λa=>B2 none a.1.Tiles=true) l03Index.fv
def l03Index.q:=vKq (R:=l03Index.row) rfl
def l03Index.ok:Ak Tryz.prog 88 l03Index.row:=by
 refine vw (tC l_LessPoint.ok tN) Tryz.func88 rfl (by kernel_rfl) ?_;intro a ac;simp only[Tryz.f88];simp(disch:=omega)only[ZA,simprocAttr,l03Index.fv];intro hn;refine Au.old ⟨{p:Nat×Nat//p.1<=p.2/\p.2<=a.1.Tiles.length/\(∀i x,i<p.1->a.1.Tiles[i]? =some x->AB x.At a.2=true)/\(∀i x,p.2<=i->a.1.Tiles[i]? =some x->AB x.At a.2=false)},λp=>⟨[(5,.im (.int .i64 p.1.1)),(6,.im (.int .i64 p.1.2)),(4,.im (.int .i64 0)),(3,.ptr 1 0),(0,.ptr 0 0)],[(1,(true,.cells 96 [.im (.int .i64 a.2.X),.im (.int .i64 a.2.Y)])),(0,(false,.view [.sl false 3 (a.1.Tiles.map Ad.c)]))],2⟩,λp=>p.1.2 - p.1.1,λp=>⟨by simp[Ac.good,belT,belH,Ai,AV.bel,belL],Ar _⟩,⟨⟨(0,a.1.Tiles.length),by simp,by simp,by simp,?_⟩,by simp(disch:=omega)only[ZA,simprocAttr,sub]⟩,λp=> ?_⟩
 .intro i x G Q
  have:=(Ba.1 Q).1
  simp only at G;omega
 obtain⟨⟨lo,G⟩,h1,h2,h3,h4⟩:=p;simp only at h1 h2 h3 h4;simp(disch:=omega)only[ZA,simprocAttr,l_LessPoint.q,l_LessPoint.fv,sub,Aq];obtain⟨_,O⟩:=LH _ _ ac;have ab: ∀(i:Nat) (x:Ad),i<lo->a.1.Tiles[i]? =some x->x.At≠a.2:=by
  intro i x G Q he
  have:=h3 i x G Q
  rw[he,OG] at this;cases this
 refine⟨λad=> ?_,λad=>⟨λhl=>⟨hl,λx Q=>⟨λhe=> ?_,λhe=> ?_⟩⟩,λhl=> ?_⟩⟩
 .have hm:IntKind.wrap .i64 ((IntKind.wrap .i64 ((lo:Int)+G)).tdiv 2)=(((lo+G)/2:Nat):Int):=by
   rw[Am (x:=(lo:Int)+G) (by omega) (by omega),Yg (by omega),Am (by omega) (by omega)];omega
  rw[hm];refine⟨by omega,by omega,λx Q=>⟨λhb=> ?_,λhb=> ?_⟩⟩
  .rw[AH] at Q;refine⟨⟨((lo+G)/2+1,G),by simp only;omega,h2,λi y aa z=> ?_,h4⟩,by simp only;omega,?_,rfl⟩
   .simp only at aa;rcases Cz i ((lo+G)/2) with h|h
    .exact LJ (O i _ y x h z Q) hb
    .have:i=(lo+G)/2:=by omega
     subst this;rw[Q] at z;exact Al z▸hb
   .rw[Am (by omega) (by omega)];simp only;omega
  .rw[AH] at Q;refine⟨⟨(lo,(lo+G)/2),by simp only;omega,by simp only;omega,h3,λi y aa z=> ?_⟩,by simp only;omega,rfl,rfl⟩;simp only at aa;rcases Cz ((lo+G)/2) i with h|h
   .cases hl:AB y.At a.2 with
    |false=>rfl
    |true=>exact absurd (LJ (O _ i x y h Q z) hl) hb
   .have:i=(lo+G)/2:=by omega
    subst this;rw[Q] at z;obtain rfl:=Al z;simpa using hb
 .have af:x.At=a.2:=by
   obtain⟨e1,e2⟩:=he;have e1:x.At.X=a.2.X:=by simpa using e1
   have e2:x.At.Y=a.2.Y:=by simpa using e2
   rw[<-Aa.eta x.At,<-Aa.eta a.2,e1,e2]
  rw[TU _ a.1.Tiles 0 lo x Q (by simp[af]) (λi y G z=>by simp[ab i y G z])];simp
 .refine (Tw _ _ _ ?_).symm;intro i y z;rcases P5 i lo with h|h|h
  .simp[ab i y h z]
  .subst h;rw[Q] at z;obtain rfl:=Al z;simp only[EZ];intro h9;exact he (by simp[h9])
  .simp only[EZ];intro h9;have Z:=O lo i x y h Q z;rw[h9] at Z
   have:=h4 lo x (by omega) Q
   rw[this] at Z;cases Z
 .refine (Tw _ _ _ ?_).symm;intro i y z
  have:=(Ba.1 z).1
  simp[ab i y (by omega) z]
def Du(p:Aa)(t:Int):Bool->List Ad->List Ad
 |_,[]=>[]
 |false,x::r=>if AB p x.At=true then ⟨p,t⟩::x::Du p t true r else x::Du p t false r
 |true,x::r=>x::Du p t true r
def Er(p:Aa):List Ad->Bool
 |[]=>false
 |x::r=>if AB p x.At=true then true else Er p r
def putA(a:Asm)(p:Aa)(t:Int):Asm:=⟨Du p t false a.Tiles++(if Er p a.Tiles=true then [] else [⟨p,t⟩])⟩
def Ph(p:Aa)(t:Int): ∀(l:List Ad),Du p t true l=l
 |[]=>rfl
 |x::r=>by simp only[Du,Ph p t r]
def Qd(p:Aa)(t:Int)(x:Ad): ∀(l:List Ad),Du p t false (l++[x])=Du p t false l++(if Er p l=true then [x] else if AB p x.At=true then [⟨p,t⟩,x] else [x])
 |[]=>by simp only[D1,Du,Er];split<;>simp[Du]
 |y::r=>by
  simp only[Bv,Du,Er];split
  .rw[Ph,Ph];simp
  .rw[Qd p t x r];simp
def PR(p:Aa)(x:Ad): ∀(l:List Ad),Er p (l++[x])=(Er p l||AB p x.At)
 |[]=>by simp only[D1,Er];split<;>simp_all
 |y::r=>by
  simp only[Bv,Er];split
  .simp
  .exact PR p x r
def WD(p:Aa)(t:Int): ∀(l:List Ad),(Du p t false l).length<=l.length+1
 |[]=>by simp[Du]
 |y::r=>by
  simp only[Du];split
  .rw[Ph];simp
  .have:=WD p t r
   simp;omega
def l03Put.fv(a:Asm×Aa×Int):Asm:=(putA) (a.1) (a.2.1) (a.2.2)
def l03Put.row:Row:=vK (b3 (qP 1 Asm.d_le) (qR Aa.d_le) qI) (rA Asm.d_le) (λa=>a.1.Tiles.length<=1000000) l03Put.fv
def l03Put.q:=vKq (R:=l03Put.row) rfl
def l03Put.ok:Ak Tryz.prog 73 l03Put.row:=by
 refine vw (tC l_LessPoint.ok tN) Tryz.func73 rfl (by kernel_rfl) ?_;intro a ab;simp only[Tryz.f73];simp(disch:=omega)only[ZA,simprocAttr,l03Put.fv];refine Au.ren ⟨{k:Nat//k<=a.1.Tiles.length},λk=>⟨[(9,.im (.int .i64 k.1)),(8,.im (.bool (Er a.2.1 (a.1.Tiles.take k.1)))),(7,.ptr 3 0),(6,.ptr 2 0),(4,.ptr 1 0),(0,.ptr 0 0),(2,.im (.int .i64 a.2.2))],[(3,(true,.cells 39 [.own 4])),(4,(true,.arr 137 3 ((Du a.2.1 a.2.2 false (a.1.Tiles.take k.1)).map Ad.c))),(2,(true,.cells 39 [.im (.sl true 0 [])])),(1,(true,.cells 96 [.im (.int .i64 a.2.1.X),.im (.int .i64 a.2.1.Y)])),(0,(false,.view [.sl false 3 (a.1.Tiles.map Ad.c)]))],5⟩,λk=>a.1.Tiles.length - k.1,λk=>⟨by simp[Ac.good,belT,belH,Ai,AV.bel,belL],by simp⟩,⟨⟨0,by simp⟩,[(4,none)],?_⟩,λk=> ?_⟩
 .simp only[subP];simp(disch:=omega)only[ZA,simprocAttr,AC,IU,Du,Er]
  try simp
 obtain⟨k,ac⟩:=k;simp(disch:=omega)only[ZA,simprocAttr,Asm.d,l_LessPoint.q,l_LessPoint.fv,Aq];intro _;have Z:=WD a.2.1 a.2.2 (a.1.Tiles.take k);have aa:(a.1.Tiles.take k).length<=k:=by simp;omega
 refine⟨λQ=>⟨λhd=>⟨Q,λx O=>⟨λG=> ?_,λG=> ?_⟩⟩,λhd=> ?_⟩,λQ=> ?_⟩
 .have z:a.1.Tiles.take (k+1)=a.1.Tiles.take k++[x]:=by rw[Ec,O];rfl
  refine⟨by simp[OneR,allD,D.one],by omega,Q,λy hy=>⟨by simp[OneR,allD,D.one],by simp;omega,⟨⟨k+1,by omega⟩,[(4,some 8)],by simp only;omega,?_⟩⟩⟩;rw[O] at hy;obtain rfl:=Al hy;simp only[subP];simp(disch:=omega)only[ZA,simprocAttr];refine⟨by simp,⟨?_,?_⟩,?_⟩
  .rw[Am (by omega) (by omega)];omega
  .rw[z,PR,hd,G];rfl
  .rw[z,Qd,hd,G];simp[Ad.c]
 .have z:a.1.Tiles.take (k+1)=a.1.Tiles.take k++[x]:=by rw[Ec,O];rfl
  refine⟨Q,λy hy=>⟨by simp[OneR,allD,D.one],by omega,⟨⟨k+1,by omega⟩,[(4,some 6)],by simp only;omega,?_⟩⟩⟩;rw[O] at hy;obtain rfl:=Al hy;simp only[Fw] at G;simp only[subP];simp(disch:=omega)only[ZA,simprocAttr];refine⟨by simp,⟨?_,?_⟩,?_⟩
  .rw[Am (by omega) (by omega)];omega
  .rw[z,PR,hd,G];rfl
  .rw[z,Qd,hd,G];simp[Ad.c]
 .simp only[CN] at hd;refine⟨Q,λx O=>⟨by simp[OneR,allD,D.one],by omega,⟨⟨k+1,by omega⟩,[(4,some 6)],by simp only;omega,?_⟩⟩⟩;have z:a.1.Tiles.take (k+1)=a.1.Tiles.take k++[x]:=by rw[Ec,O];rfl
  simp only[subP];simp(disch:=omega)only[ZA,simprocAttr];refine⟨by simp,⟨?_,?_⟩,?_⟩
  .rw[Am (by omega) (by omega)];omega
  .rw[z,PR,hd];rfl
  .rw[z,Qd,hd];simp[Ad.c]
 .rw[BX (by omega)] at Z aa⊢;refine⟨λhd=>⟨by simp[OneR,allD,D.one],by omega,?_⟩,λhd=> ?_⟩
  .have e:List.map Ad.c (Du a.2.1 a.2.2 false a.1.Tiles)++[[D.int .i64 a.2.1.X,D.int .i64 a.2.1.Y,D.int .i64 a.2.2]]=List.map Ad.c (Du a.2.1 a.2.2 false a.1.Tiles++[⟨a.2.1,a.2.2⟩]):=by simp[Ad.c]
   rw[e,Ad.d_R];simp[putA,hd]
  .simp only[CN] at hd;simp[putA,hd]
def atA(a:Asm)(p:Aa):Int:=((a.Tiles.find? (λx=>decide (x.At=p))).map Ad.Tile).getD (-1)
def GR{A:Type}(p:A->Bool): ∀(l:List A) (o:Nat),(l.find? p=none/\AA p o l= -1)\/ ∃(i:Nat) (x:A),l.find? p=some x/\AA p o l=((o+i:Nat):Int)/\l[i]? =some x
 |[],o=> .inl ⟨rfl,rfl⟩
 |z::r,o=>by
  simp only[AA,RH];cases h:p z
  .rcases GR p r (o+1) with ⟨G,O⟩|⟨i,x,G,O,Q⟩
   .exact .inl ⟨by simpa using G,by simpa using O⟩
   .exact .inr ⟨i+1,x,by simpa using G,by simp[O];omega,by simpa using Q⟩
  .exact .inr ⟨0,z,rfl,by simp,by simp⟩
def l03At.fv(a:Asm×Aa):Int:=(atA) (a.1) (a.2)
def l03At.row:Row:=vK (b2 (qP 1 Asm.d_le) (qR Aa.d_le)) rI (λa=>B2 none a.1.Tiles=true) l03At.fv
def l03At.q:=vKq (R:=l03At.row) rfl
def l03At.ok:Ak Tryz.prog 141 l03At.row:=by
 refine vw (tC l03Index.ok tN) Tryz.func141 rfl (by kernel_rfl) ?_;intro a z;simp only[Tryz.f141];simp(disch:=omega)only[ZA,simprocAttr,Asm.d,l03At.fv,l03Index.q,l03Index.fv];refine⟨z,?_⟩;rcases GR (λx=>decide (x.At=a.2)) a.1.Tiles 0 with ⟨G,O⟩|⟨i,x,G,O,Q⟩
 .rw[O,Af (by omega)];simp[atA,G]
 .have hi:=(Ba.1 Q).1;rw[O,Ab (by omega)];refine⟨by omega,by omega,λy Z=> ?_⟩
  have:((0+i:Nat):Int).toNat=i:=by omega
  rw[this,Q] at Z;obtain rfl:=Al Z;simp[atA,G]
def l02Tile.fv(a:Aj×ByteArray):Int:=(λs n=>AA (λg=>decide (g.Name=n)) 0 s.Tiles) (a.1) (a.2)
def l02Tile.row:Row:=vK (b2 (qP 2 Aj.d_le) qT) rI (λa=>True) l02Tile.fv
def l02Tile.q:=vKq (R:=l02Tile.row) rfl
def l02Tile.ok:Ak Tryz.prog 205 l02Tile.row:=by
 refine vw tN Tryz.func205 rfl (by kernel_rfl) ?_;intro a O;simp only[Tryz.f205];simp(disch:=omega)only[ZA,simprocAttr,l02Tile.fv];refine Au.old ⟨{k:Nat//k<=a.1.Tiles.length/\AA (λg:Tile=>decide (g.Name=a.2)) k (a.1.Tiles.drop k)=AA (λg:Tile=>decide (g.Name=a.2)) 0 a.1.Tiles},λk=>⟨[(5,.im (.int .i64 k.1)),(4,.im (.int .i64 0)),(0,.ptr 0 0),(1,.im (.str a.2))],[(0,(false,.view (Aj.c a.1)))],1⟩,λk=>a.1.Tiles.length - k.1,λk=>⟨by simp[Ac.good,belT,belH,Ai,AV.bel],Ar _⟩,⟨⟨0,by simp⟩,by simp(disch:=omega)only[ZA,simprocAttr,sub]⟩,λk=> ?_⟩;obtain⟨k,Q,z⟩:=k;simp(disch:=omega)only[ZA,simprocAttr,sub,Aq];intro hn;refine⟨λG=>⟨G,λx Z=> ?_⟩,λG=> ?_⟩
 .rw[Cw Z,AA] at z;refine⟨λh=> ?_,λh=>CZ G hn ⟨by omega,by rw[<-z,Ab (by simpa using h)]⟩⟩;rw[Af (by simpa using h)] at z;exact z
 .rw[B9 (by omega),AA] at z;omega
def attA(a:Asm)(o:Opt):Asm×Int:=if 500<=a.Tiles.length then (⟨[]⟩,4) else (putA a o.At o.Tile,0)
def l08Attach.fv(a:Asm×Opt):Asm×Int:=(attA) (a.1) (a.2)
def l08Attach.row:Row:=vK (b2 (qP 1 Asm.d_le) (qR Opt.d_le)) (r2 (rA Asm.d_le) rI) (λa=>True) l08Attach.fv
def l08Attach.q:=vKq (R:=l08Attach.row) rfl
def l08Attach.ok:Ak Tryz.prog 94 l08Attach.row:=by
 refine vw (tC l03Put.ok tN) Tryz.func94 rfl (by kernel_rfl) ?_;intro a z;simp only[Tryz.f94];simp(disch:=omega)only[ZA,simprocAttr,Asm.d,l08Attach.fv,l03Put.q,l03Put.fv];intro _;simp only[Aq];refine⟨λh=> ?_,λh=>⟨by omega,?_⟩⟩
 .simp only[attA];rw[Af (by omega)]
 .simp only[attA];rw[Ab (by omega)]
def FD(s:Aj)(a:Asm)(p:Aa)(t:Int)(d:Int):Int:=if 0<=atA a (AD p d) then CT s t d (atA a (AD p d)) else 0
def E6(s:Aj)(a:Asm)(p:Aa)(t:Int):Nat->Int
 |0=>0
 |k+1=>E6 s a p t k+FD s a p t k
def BR(s:Aj)(a:Asm):Prop:=B2 none a.Tiles=true/\ ∀x∈a.Tiles,CI s x.Tile
def EI{s:Aj}{a:Asm}(h:BR s a)(p:Aa)(h0:0<=atA a p):CI s (atA a p):=by
 simp only[atA] at h0⊢;cases hf:a.Tiles.find? (λx=>decide (x.At=p)) with
 |none=>rw[hf] at h0;simp at h0
 |some x=>exact h.2 x (M2 hf)
def Tk{s:Aj}(h:setP s)(g:Int):0<=Gm s g/\Gm s g<=4:=by
 simp only[Gm];split
 .cases hx:s.Glues[(g - 1).toNat]? with
  |none=>simp
  |some x=>have:=h.2.2 x (Ax hx);simp;omega
 .omega
def termA_b{s:Aj}(h:setP s)(a:Asm)(p:Aa)(t d:Int):0<=FD s a p t d/\FD s a p t d<=4:=by
 simp only[FD,CT];split
 .split
  .exact Tk h _
  .omega
 .omega
def bindK_b{s:Aj}(h:setP s)(a:Asm)(p:Aa)(t:Int): ∀(k:Nat),0<=E6 s a p t k/\E6 s a p t k<=4*k
 |0=>by simp[E6]
 |k+1=>by
  have z:=bindK_b h a p t k;have G:=termA_b h a p t k;simp only[E6];omega
def l06Binding.fv(a:Aj×Asm×Aa×Int):Int:=(λs a p t=>E6 s a p t 4) (a.1) (a.2.1) (a.2.2.1) (a.2.2.2)
def l06Binding.row:Row:=vK (b4 (qP 2 Aj.d_le) (qP 1 Asm.d_le) (qR Aa.d_le) qI) rI (λa=>setP a.1/\BR a.1 a.2.1/\CE a.2.2.1/\CI a.1 a.2.2.2) l06Binding.fv
def l06Binding.q:=vKq (R:=l06Binding.row) rfl
def l06Binding.ok:Ak Tryz.prog 170 l06Binding.row:=by
 refine vw (tC l03At.ok (tC l01Step.ok (tC l02Bond.ok tN))) Tryz.func170 rfl (by kernel_rfl) ?_;intro a z;simp only[Tryz.f170];simp(disch:=omega)only[ZA,simprocAttr,l06Binding.fv];obtain⟨G,O,Q,Z⟩:=z;refine Au.old ⟨{k:Nat//k<=4},λk=>⟨[(10,.im (.int .i64 k.1)),(9,.im (.int .i64 (E6 a.1 a.2.1 a.2.2.1 a.2.2.2 k.1))),(8,.im (.int .i64 0)),(6,.ptr 2 0),(0,.ptr 0 0),(1,.ptr 1 0),(3,.im (.int .i64 a.2.2.2))],[(2,(true,.cells 96 [.im (.int .i64 a.2.2.1.X),.im (.int .i64 a.2.2.1.Y)])),(0,(false,.view (Aj.c a.1))),(1,(false,.view (Asm.c a.2.1)))],3⟩,λk=>4 - k.1,λk=>⟨by simp[Ac.good,belT,belH,Ai,AV.bel,belL],Ar _⟩,⟨⟨0,by simp⟩,by simp(disch:=omega)only[ZA,simprocAttr,sub,E6]⟩,λk=> ?_⟩;obtain⟨k,aa⟩:=k;simp(disch:=omega)only[ZA,simprocAttr,Asm.d,l03At.q,l03At.fv,l01Step.q,l01Step.fv,l02Bond.q,l02Bond.fv,sub,Aq];have hb:=bindK_b G a.2.1 a.2.2.1 a.2.2.2 k;have ht:=termA_b G a.2.1 a.2.2.1 a.2.2.2 k;refine⟨λhk=>⟨⟨Q,by omega⟩,O.1,λhp=>⟨⟨G,Z,⟨by omega,by omega⟩,EI O _ hp⟩,⟨⟨k+1,by omega⟩,by simp only;omega,?_,?_⟩⟩,λhp=>⟨⟨k+1,by omega⟩,by simp only;omega,?_,?_⟩⟩,λhk=> ?_⟩
 .rw[Am (by omega) (by omega)];simp only;omega
 .simp only[E6];simp only[FD,Af hp] at ht⊢;rw[Am (by omega) (by omega)]
 .rw[Am (by omega) (by omega)];simp only;omega
 .simp only[E6,FD,Ab hp];omega
 .have:k=4:=by omega
  rw[this]
def Jo{p:Aa}(h:Cg p=true):CE p:=by
 simp only[Cg,AE,Av,AP] at h;simp only[CE];omega
def Ow: ∀(l:List Ad) (q:Option Aa),B2 q l=true-> ∀x∈l,Cg x.At=true/\AE x.Tile 0 159=true
 |[],_,_,x,G=>by cases G
 |z::r,q,h,x,G=>by
  rw[Gi] at h;simp only[Av] at h;rcases A9.1 G with rfl|G
  .exact⟨h.1,h.2.1⟩
  .exact Ow r _ h.2.2.2 x G
def nbA(a:Asm)(i d:Int):Int:=AA (λx=>decide (x.At=AD ((a.Tiles[i.toNat]?.map Ad.At).getD ⟨0,0⟩) d)) 0 a.Tiles
def l06Neighbor.fv(a:Asm×Int×Int):Int:=(nbA) (a.1) (a.2.1) (a.2.2)
def l06Neighbor.row:Row:=vK (b3 (qP 1 Asm.d_le) qI qI) rI (λa=>B2 none a.1.Tiles=true/\0<=a.2.1/\a.2.1<a.1.Tiles.length/\0<=a.2.2/\a.2.2<=3) l06Neighbor.fv
def l06Neighbor.q:=vKq (R:=l06Neighbor.row) rfl
def l06Neighbor.ok:Ak Tryz.prog 241 l06Neighbor.row:=by
 refine vw (tC l01Step.ok (tC l03Index.ok tN)) Tryz.func241 rfl (by kernel_rfl) ?_;intro a z;simp only[Tryz.f241];simp(disch:=omega)only[ZA,simprocAttr,Asm.d,l06Neighbor.fv,l01Step.q,l01Step.fv,l03Index.q,l03Index.fv];obtain⟨G,Q,Z,h4,h5⟩:=z;refine⟨Q,Z,λx O=>⟨⟨Jo (Ow _ _ G x (Ax O)).1,h4,h5⟩,G,?_⟩⟩;simp only[nbA];rw[O];rfl
def l08Can.fv(a:Ah×Asm×Opt):Bool:=(λs a o=>Cg o.At && (AE o.Tile 0 (s.Set.Tiles.length - 1) && (decide (AA (λx=>decide (x.At=o.At)) 0 a.Tiles<0) && decide (s.Temperature<=E6 s.Set a o.At o.Tile 4)))) (a.1) (a.2.1) (a.2.2)
def l08Can.row:Row:=vK (b3 (qP 4 Ah.d_le) (qP 1 Asm.d_le) (qR Opt.d_le)) rB (λa=>setP a.1.Set/\BR a.1.Set a.2.1) l08Can.fv
def l08Can.q:=vKq (R:=l08Can.row) rfl
def l08Can.ok:Ak Tryz.prog 128 l08Can.row:=by
 refine vw (tC l01Point.ok (tC l02Index.ok (tC l03Index.ok (tC l06Binding.ok tN)))) Tryz.func128 rfl (by kernel_rfl) ?_;intro a z;simp only[Tryz.f128];simp(disch:=omega)only[ZA,simprocAttr,Asm.d,l08Can.fv,l01Point.q,l01Point.fv,l02Index.q,l02Index.fv,l03Index.q,l03Index.fv,l06Binding.q,l06Binding.fv];obtain⟨O,G⟩:=z;cases e1:Cg a.2.2.At
 .simp
 cases e2:AE a.2.2.Tile 0 (a.1.Set.Tiles.length - 1)
 .simp
 rw[Af rfl,Af rfl];refine⟨G.1,?_⟩
 split<;>rename_i h
 .refine⟨⟨O,G,Jo e1,?_⟩,by simp[h]⟩;simp only[AE,Av,AP] at e2;simp only[CI];omega
 .simp[h]
def Fc(s:Aj):Nat->List Glue->Bool
 |_,[]=>true
 |i,g::r=>(Es g.Name && (AE g.Strength 1 4 && decide (AA (λx=>decide (x.Name=g.Name)) 0 s.Glues=i))) && Fc s (i+1) r
def Ey(s:Aj):Nat->List Tile->Bool
 |_,[]=>true
 |i,x::r=>(Es x.Name && (decide (x.Sides.length=4) && (decide (AA (λy=>decide (y.Name=x.Name)) 0 s.Tiles=i) && x.Sides.all (λg=>AE g 0 s.Glues.length)))) && Ey s (i+1) r
def C5(s:Aj):Bool:=(decide (s.Glues.length<=200) && AE s.Tiles.length 1 160) && (Fc s 0 s.Glues && Ey s 0 s.Tiles)
def l02Ok.fv(a:Aj):Bool:=(C5) a
def l02Ok.row:Row:=vK (b1 (qP 2 Aj.d_le)) rB (λa=>True) l02Ok.fv
def l02Ok.q:=vKq (R:=l02Ok.row) rfl
def l02Ok.ok:Ak Tryz.prog 165 l02Ok.row:=by
 refine vw (tC spec_IsName.ok (tC l00In.ok (tC l02Glue.ok (tC l02Tile.ok tN)))) Tryz.func165 rfl (by kernel_rfl) ?_;intro a ac;simp only[Tryz.f165];simp(disch:=omega)only[ZA,simprocAttr,l02Ok.fv];intro hg;simp only[Aq];refine⟨λc1 ht=>⟨λc2 _=>⟨λc3=> ?_,λc3=> ?_⟩,λc2=> ?_⟩,λc1=> ?_⟩
 .have: ¬(a.Tiles.length:Int)<=160:=by omega
  simp[C5,AE,this]
 .have c0:C5 a=(Fc a 0 a.Glues && Ey a 0 a.Tiles):=by
   have e1:a.Glues.length<=200:=by omega
   have e2:(1:Int)<=a.Tiles.length:=by omega
   have e3:(a.Tiles.length:Int)<=160:=by omega
   simp[C5,AE,e1,e2,e3]
  refine Au.old ⟨{k:Nat//k<=a.Glues.length/\Fc a k (a.Glues.drop k)=Fc a 0 a.Glues},λk=>⟨[(3,.im (.int .i64 k.1)),(2,.im (.bool false)),(0,.ptr 0 0)],[(0,(false,.view (Aj.c a)))],1⟩,λk=>a.Glues.length - k.1,λk=>⟨by simp[Ac.good,belT,belH,Ai,AV.bel],Ar _⟩,⟨⟨0,by simp⟩,by simp(disch:=omega)only[ZA,simprocAttr,sub]⟩,λk=> ?_⟩;obtain⟨k,ab,z⟩:=k;simp(disch:=omega)only[ZA,simprocAttr,spec_IsName.q,spec_IsName.fv,l00In.q,l00In.fv,l02Glue.q,l02Glue.fv,sub,Aq];intro _;refine⟨λhk=>⟨hk,λx hx=> ?_⟩,λhk=> ?_⟩
  .rw[Cw hx,Fc] at z;have G:(Es x.Name && (AE x.Strength 1 4 && decide (AA (λg:Glue=>decide (g.Name=x.Name)) 0 a.Glues=k)))=false->false=C5 a:=by
    intro h;rw[h,CA] at z;rw[c0,<-z];rfl
   refine⟨λZ=>⟨λh2=>⟨λQ=> ?_,λQ=>CZ hk hg ⟨by omega,?_⟩⟩,λh2=>G (by simp[h2])⟩,λZ=>G (by simp[Z])⟩
   .rw[Am (by omega) (by omega)] at Q;exact G (by simp;intro _ _;omega)
   .rw[Df,Am (by omega) (by omega)] at Q;have h4:AA (λg:Glue=>decide (g.Name=x.Name)) 0 a.Glues=k:=by omega
    rw[Z,h2,h4] at z;simpa using z
  .rw[B9 (by omega),Fc] at z;have c9:C5 a=Ey a 0 a.Tiles:=by rw[c0,<-z,BY]
   refine Au.old ⟨{k:Nat//k<=a.Tiles.length/\Ey a k (a.Tiles.drop k)=Ey a 0 a.Tiles},λk=>⟨[(5,.im (.int .i64 k.1)),(2,.im (.bool false)),(0,.ptr 0 0)],[(0,(false,.view (Aj.c a)))],1⟩,λk=>a.Tiles.length - k.1,λk=>⟨by simp[Ac.good,belT,belH,Ai,AV.bel],Ar _⟩,⟨⟨0,by simp⟩,by simp(disch:=omega)only[ZA,simprocAttr,sub]⟩,λk=> ?_⟩;obtain⟨k,ab,z⟩:=k;simp(disch:=omega)only[ZA,simprocAttr,spec_IsName.q,spec_IsName.fv,l02Tile.q,l02Tile.fv,Aq];intro _;refine⟨λhk=>⟨hk,λx hx=> ?_⟩,λhk=> ?_⟩
   .rw[Cw hx,Ey] at z;have G:(Es x.Name && (decide (x.Sides.length=4) && (decide (AA (λy:Tile=>decide (y.Name=x.Name)) 0 a.Tiles=k) && x.Sides.all (λg=>AE g 0 a.Glues.length))))=false->false=C5 a:=by
     intro h;rw[h,CA] at z;rw[c9,<-z]
    refine⟨λZ hs=>⟨λh2=>⟨λQ=>G (by simp[Q]),λQ=> ?_⟩,λh2=>G (by simp;intro _ h9;omega)⟩,λZ=>G (by simp[Z])⟩;rw[Df] at Q;have aa:x.Sides.length=4:=by omega
    refine Au.old ⟨{j:Nat//j<=4/\(x.Sides.drop j).all (λg=>AE g 0 a.Glues.length)=x.Sides.all (λg=>AE g 0 a.Glues.length)},λj=>⟨[(7,.im (.int .i64 j.1)),(5,.im (.int .i64 k)),(6,.ptr 1 0),(2,.im (.bool false)),(0,.ptr 0 0)],[(1,(true,.cells 206 ((Tile.c x).map .im))),(0,(false,.view (Aj.c a)))],2⟩,λj=>4 - j.1,λj=>⟨by simp[Ac.good,belT,belH,Ai,AV.bel,belL,Tile.c],by simp⟩,⟨⟨0,by simp⟩,by simp(disch:=omega)only[ZA,simprocAttr,sub]⟩,λj=> ?_⟩;obtain⟨j,ad,O⟩:=j;simp(disch:=omega)only[ZA,simprocAttr,l00In.q,l00In.fv,sub,Aq];refine⟨λhj=>⟨by omega,λy hy=> ?_⟩,λhj=>CZ hk ht ⟨by omega,?_⟩⟩
    .rw[Cw hy,Fx] at O;refine⟨λh=>G ?_,λh=>⟨⟨j+1,by omega,?_⟩,by simp only;omega,?_⟩⟩
     .rw[h,CA] at O;rw[<-O];simp
     .rw[CN] at h;rw[h,BY] at O;exact O
     .rw[Am (by omega) (by omega)];simp only;omega
    .rw[B9 (by omega)] at O;rw[<-z,<-O,Z,aa,Q];simp
   .rw[B9 (by omega),Ey] at z;rw[c9,<-z]
 .have: ¬(1:Int)<=a.Tiles.length:=by omega
  simp[C5,AE,this]
 .have: ¬a.Glues.length<=200:=by omega
  simp[C5,this]
def VS1.fv(a:Int×Aj):Bool:=(λg s=> !Qau g 0 s.Glues.length) (a.1) (a.2)
def VS1.row:Row:=vK (b2 qI (qP 2 Aj.d_le)) rB (λa=>True) VS1.fv
def VS1.q:=vKq (R:=VS1.row) rfl
def VS1.ok:Ak Tryz.prog 254 VS1.row:=by
 refine vw (tC within_.ok tN) Tryz.func254 rfl (by kernel_rfl) ?_;intro a z;simp only[Tryz.f254];simp(disch:=omega)only[ZA,simprocAttr,VS1.fv,within_.q,within_.fv];intro _;trivial
def IdxVS.ar:List PK->Option ((List Int)×Aj)
 |[.val (.sl _ _ O),.val (.fn 254 [] [.ref z])]=>(decR intD O).bind λQ=>(Aj.d (z.take 2)).bind λG=>some (Q,G)
 |_=>none
def IdxVS.ae(a:(List Int)×Aj):List PK:=[.val (.sl false 1 (a.1.map intC)),.val (.fn 254 [] [.ref (Aj.c a.2)])]
def IdxVS.le: ∀G a,IdxVS.ar G=some a->LeKL G (IdxVS.ae a):=by
 intro G a h;unfold IdxVS.ar at h;split at h
 .simp only[Cb,An] at h;obtain⟨Q,h0,O,z,rfl⟩:=h;exact⟨BL (BG BB _ _ h0) (by simp only[AF];rintro r ⟨y,_,rfl⟩;rfl),Hy ⟨Ha (LeP.trans_take (Aj.d_le _ _ z)),trivial⟩,trivial⟩
 .cases h
def IdxVS.fv(a:(List Int)×Aj):Int:=(λl s=>AA (λg=> !Qau g 0 s.Glues.length) 0 l) (a.1) (a.2)
def IdxVS.row:Row:=vrow IdxVS.ar (λa=>True) (λa=>(D.int .i64) (IdxVS.fv a))
def IdxVS.q:=vq IdxVS.row rfl
def IdxVS.ok:Ak Tryz.prog 150 IdxVS.row:=by
 refine Ia Bz (tC VS1.ok tN) Tryz.func150 rfl (by kernel_rfl) (by kernel_rfl) (ar:=IdxVS.ar) (ae:=IdxVS.ae) IdxVS.le (n:=2) (λ_=>rfl) (by decide) (rc:=(vInt)) (re:=(D.int .i64)) (F2) (f:=IdxVS.fv) ?_;intro a O;simp only[Tryz.f150];simp(disch:=omega)only[ZA,simprocAttr,IdxVS.ae,IdxVS.fv];intro hn;refine Au.old ⟨{k:Nat//k<=a.1.length/\AA (λg:Int=> !Qau g 0 a.2.Glues.length) k (a.1.drop k)=AA (λg:Int=> !Qau g 0 a.2.Glues.length) 0 a.1},λk=>⟨[(8,.im (.int .i64 k.1)),(7,.im (.int .i64 a.1.length)),(6,.im (.sl false 1 (a.1.map intC))),(4,.im (.int .i64 0)),(0,.im (.sl false 1 (a.1.map intC))),(1,.im (.fn 254 [] [.ref (Aj.c a.2)]))],[],0⟩,λk=>a.1.length - k.1,λk=>⟨by simp[Ac.good,belT,belH,Ai,AV.bel],Ar _⟩,⟨⟨0,by simp⟩,by simp(disch:=omega)only[ZA,simprocAttr,sub]⟩,λk=> ?_⟩;obtain⟨k,Q,z⟩:=k;simp(disch:=omega)only[ZA,simprocAttr,VS1.q,VS1.fv,sub,Aq];refine⟨λG=>⟨G,λx Z=> ?_⟩,λG=> ?_⟩
 .rw[Cw Z,AA] at z;refine⟨λh=> ?_,λh=>CZ G hn ⟨by omega,by rw[<-z,Ab (by simpa using h)]⟩⟩;rw[Af (by simpa using h)] at z;exact z
 .rw[B9 (by omega),AA] at z;exact z
def ContVS.ar:List PK->Option ((List Int)×Aj)
 |[.val (.sl _ _ O),.val (.fn 254 [] [.ref z])]=>(decR intD O).bind λQ=>(Aj.d (z.take 2)).bind λG=>some (Q,G)
 |_=>none
def ContVS.ae(a:(List Int)×Aj):List PK:=[.val (.sl false 1 (a.1.map intC)),.val (.fn 254 [] [.ref (Aj.c a.2)])]
def ContVS.le: ∀G a,ContVS.ar G=some a->LeKL G (ContVS.ae a):=by
 intro G a h;unfold ContVS.ar at h;split at h
 .simp only[Cb,An] at h;obtain⟨Q,h0,O,z,rfl⟩:=h;exact⟨BL (BG BB _ _ h0) (by simp only[AF];rintro r ⟨y,_,rfl⟩;rfl),Hy ⟨Ha (LeP.trans_take (Aj.d_le _ _ z)),trivial⟩,trivial⟩
 .cases h
def ContVS.fv(a:(List Int)×Aj):Bool:=(λl s=>l.any (λg=> !Qau g 0 s.Glues.length)) (a.1) (a.2)
def ContVS.row:Row:=vrow ContVS.ar (λa=>True) (λa=>(D.bool) (ContVS.fv a))
def ContVS.q:=vq ContVS.row rfl
def ContVS.ok:Ak Tryz.prog 100 ContVS.row:=by
 refine Ia Bz (tC IdxVS.ok tN) Tryz.func100 rfl (by kernel_rfl) (by kernel_rfl) (ar:=ContVS.ar) (ae:=ContVS.ae) ContVS.le (n:=2) (λ_=>rfl) (by decide) (rc:=(Hn)) (re:=(D.bool)) (LF) (f:=ContVS.fv) ?_;intro a z;simp only[Tryz.f100];simp(disch:=omega)only[ZA,simprocAttr,ContVS.ae,ContVS.fv,IdxVS.q,IdxVS.ar,IdxVS.fv];exact TN _ _
def FX(z:List ByteArray):List (D×D):=z.map λn=>(.str n,.bool true)
def beqB(n m:ByteArray):(n==m)=decide (n=m):=by
 rw[Tq]
def lk_seen(n:ByteArray): ∀(z:List ByteArray),(n∈z->lk (FX z) (.str n)=some (.bool true))/\(n∉z->lk (FX z) (.str n)=none)
 |[]=>⟨λh=>by simp at h,λ_=>rfl⟩
 |m::r=>by
  obtain⟨G,O⟩:=lk_seen n r;simp only[FX] at G O;simp only[FX,Ay,lk,D.beq,A9,beqB];by_cases h:n=m
  .simp[h]
  .simp only[h,RC,AM,false_or];exact⟨G,O⟩
def WK(n:ByteArray)(G:List ByteArray)(Ks:D->Prop)(Kn:Prop):LkVC (FX G) (.str n) Ks Kn=((n∈G->Ks (.bool true))/\(n∉G->Kn)):=by
 obtain⟨Z,i2⟩:=lk_seen n G;apply propext;unfold LkVC;constructor
 .rintro⟨O,Q⟩;exact⟨λh=>O _ (Z h),λh=>Q (i2 h)⟩
 .rintro⟨O,Q⟩;by_cases h:n∈G
  .refine⟨λv z=> ?_,λz=> ?_⟩
   .rw[Z h] at z;exact Al z▸O h
   .rw[Z h] at z;cases z
  .refine⟨λv z=> ?_,λ_=>Q h⟩;rw[i2 h] at z;cases z
def T8(n:ByteArray): ∀(z:List ByteArray),n∉z->upd (FX z) (.str n) (.bool true)=FX (z++[n])
 |[],_=>rfl
 |m::r,h=>by
  simp only[A9,JE] at h
  have:=T8 n r h.2
  simp only[FX] at this;simp only[FX,Ay,upd,D.beq,beqB,h.1,RC,AM,Bv,this]
def MD{A:Type}(f:A->ByteArray)(l:List A)(k:Nat)(x:A)(hx:l[k]? =some x):AA (λy=>decide (f y=f x)) 0 l=(k:Int)↔f x∉(l.take k).map f:=by
 constructor
 .intro h hm;obtain⟨y,hy,O⟩:=AF.1 hm;obtain⟨i,Q,aa⟩:=Lv.1 hy;have ab:i<k:=by simp at Q;omega
  have Z:l[i]? =some y:=by
   rw[<-aa,List.getElem_take];exact A8 _
  have G: ∀(l:List A) (o i:Nat) (y:A),l[i]? =some y->(decide (f y=f x))=true->AA (λy=>decide (f y=f x)) o l<=((o+i:Nat):Int):=by
   intro l;induction l with
   |nil=>intro o i y h;simp at h
   |cons z r ih=>
    intro o i y h hp;simp only[AA];split
    .omega
    .rename_i hz;cases i with
     |zero=>
      simp only[De,An] at h;subst h;exact absurd hp hz
     |succ i=>
      have:=ih (o+1) i y (by simpa using h) hp
      omega
  have:=G l 0 i y Z (by simpa using O)
  omega
 .intro h;rw[TU _ l 0 k x hx (by simp) ?_]
  .simp
  .intro i y Q hy;simp only[EZ];intro O;apply h;rw[<-O];refine AF.2 ⟨y,?_,rfl⟩;exact Ax (i:=i) (by rw[J4,Af Q];exact hy)
def GS(s:Aj):Prop:=(∀g∈s.Glues,g.Name.size<=140737488355328)/\ ∀t∈s.Tiles,t.Name.size<=140737488355328
def ValidSet_.fv(a:Aj):Bool:=(C5) a
def ValidSet_.row:Row:=vK (b1 (qR Aj.d_le)) rB (λa=>GS a) ValidSet_.fv
def ValidSet_.q:=vKq (R:=ValidSet_.row) rfl
def ValidSet_.ok:Ak Tryz.prog 218 ValidSet_.row:=by
 refine vw (tC within_.ok (tC impl_IsName.ok (tC ContVS.ok tN))) Tryz.func218 rfl (by kernel_rfl) ?_;intro a ab;simp only[Tryz.f218];simp(disch:=omega)only[ZA,simprocAttr,ValidSet_.fv,within_.q,within_.fv];obtain⟨ad,af⟩:=ab;intro hg;simp only[Aq];refine⟨λc1 ht=>⟨λc2=> ?_,λc2 _=> ?_⟩,λc1=> ?_⟩
 .simp[C5,c2]
 .rw[CN] at c2;have c0:C5 a=(Fc a 0 a.Glues && Ey a 0 a.Tiles):=by
   have e1:a.Glues.length<=200:=by omega
   simp[C5,e1,c2]
  refine Au.old ⟨{k:Nat//k<=a.Glues.length/\Fc a k (a.Glues.drop k)=Fc a 0 a.Glues},λk=>⟨[(24,.im (.int .i64 k.1)),(23,.im (.int .i64 a.Glues.length)),(22,.im (.sl false 2 (a.Glues.map Glue.c))),(3,.mp 1),(1,.ptr 0 0),(2,.im (.bool false))],[(1,(true,.map ⟨false,[.str]⟩ (FX ((a.Glues.take k.1).map Glue.Name)))),(0,(true,.cells 45 ((Aj.c a).map .im)))],2⟩,λk=>a.Glues.length - k.1,λk=>⟨by simp[Ac.good,belT,belH,Ai,AV.bel,belL,Aj.c],Ar _⟩,⟨⟨0,by simp⟩,by simp(disch:=omega)only[ZA,simprocAttr,sub,FX]⟩,λk=> ?_⟩;obtain⟨k,ac,z⟩:=k;simp(disch:=omega)only[ZA,simprocAttr,within_.q,within_.fv,impl_IsName.q,impl_IsName.fv,sub,Aq,WK];refine⟨λhk=>⟨hk,λx Q=>⟨ad x (Ax Q),?_⟩⟩,λhk _=> ?_⟩
  .rw[Cw Q,Fc] at z;have hu:=MD Glue.Name a.Glues k x Q;have G:(Es x.Name && (AE x.Strength 1 4 && decide (AA (λg:Glue=>decide (g.Name=x.Name)) 0 a.Glues=k)))=false->false=C5 a:=by
    intro h;rw[h,CA] at z;rw[c0,<-z];rfl
   refine⟨λZ=>⟨λO=>G ?_,λO=>⟨λh3=>G (by simp[h3]),λh3=>⟨⟨k+1,by omega,?_⟩,by simp only;omega,?_,?_⟩⟩⟩,λZ=>G (by simp[Z])⟩
   .simp only[PA,EZ];exact .inr (.inr λh9=>(hu.1 h9) O)
   .rw[CN] at h3;rw[Z,h3,hu.2 O] at z;simpa using z
   .rw[Am (by omega) (by omega)];simp only;omega
   .rw[T8 _ _ O,Ec,Q];simp
  .rw[B9 (by omega),Fc] at z;have c9:C5 a=Ey a 0 a.Tiles:=by rw[c0,<-z,BY]
   refine Au.frz [0] ⟨{k:Nat//k<=a.Tiles.length/\Ey a k (a.Tiles.drop k)=Ey a 0 a.Tiles},λk=>⟨[(52,.im (.int .i64 k.1)),(51,.im (.int .i64 a.Tiles.length)),(50,.im (.sl false 2 (a.Tiles.map Tile.c))),(6,.mp 2),(1,.ptr 0 0),(2,.im (.bool false))],[(2,(true,.map ⟨false,[.str]⟩ (FX ((a.Tiles.take k.1).map Tile.Name)))),(0,(false,.cells 45 ((Aj.c a).map .im)))],3⟩,λk=>a.Tiles.length - k.1,λk=>⟨by simp[Ac.good,belT,belH,Ai,AV.bel,belL,Aj.c],Ar _⟩,⟨⟨0,by simp⟩,by simp(disch:=omega)only[ZA,simprocAttr,sub,FX]⟩,λk=> ?_⟩;obtain⟨k,ac,z⟩:=k;simp(disch:=omega)only[ZA,simprocAttr,impl_IsName.q,impl_IsName.fv,ContVS.q,ContVS.ar,ContVS.fv,sub,Aq,WK];refine⟨λhk=>⟨hk,λx Q=>⟨af x (Ax Q),?_⟩⟩,λhk=> ?_⟩
   .rw[Cw Q,Ey] at z;have hu:=MD Tile.Name a.Tiles k x Q;have G:(Es x.Name && (decide (x.Sides.length=4) && (decide (AA (λy:Tile=>decide (y.Name=x.Name)) 0 a.Tiles=k) && x.Sides.all (λg=>AE g 0 a.Glues.length))))=false->false=C5 a:=by
     intro h;rw[h,CA] at z;rw[c9,<-z]
    have aa:(x.Sides.any λg=> !Qau g 0 a.Glues.length)= !x.Sides.all (λg=>AE g 0 a.Glues.length):=by
     simp[List.not_all_eq_any_not]
    rw[aa];refine⟨λZ=>⟨λO=>G ?_,λO _=>⟨λh3=>G ?_,λh3=>⟨λh4=>G ?_,λh4=>⟨⟨k+1,by omega,?_⟩,by simp only;omega,?_,?_⟩⟩⟩⟩,λZ=>G (by simp[Z])⟩
    .simp only[PA,EZ];exact .inr (.inr (.inl λh9=>(hu.1 h9) O))
    .have: ¬x.Sides.length=4:=by omega
     simp[this]
    .simp only[EX] at h4;simp only[h4,LA]
    .have h5:x.Sides.length=4:=by omega
     simp only[EX,CN] at h4;rw[Z,h5,hu.2 O,h4] at z;simpa using z
    .rw[Am (by omega) (by omega)];simp only;omega
    .rw[T8 _ _ O,Ec,Q];simp
   .rw[B9 (by omega),Ey] at z;rw[c9,<-z]
 .have: ¬a.Glues.length<=200:=by omega
  simp[C5,this]
def EN(s:Aj)(a:Asm):Bool:=(B2 none a.Tiles && decide (a.Tiles.length<=500)) && a.Tiles.all (λx=>AE x.Tile 0 (s.Tiles.length - 1))
def ValidAssembly_.fv(a:Aj×Asm):Bool:=(λs a=>C5 s && EN s a) (a.1) (a.2)
def ValidAssembly_.row:Row:=vK (b2 (qR Aj.d_le) (qR Asm.d_le)) rB (λa=>GS a.1) ValidAssembly_.fv
def ValidAssembly_.q:=vKq (R:=ValidAssembly_.row) rfl
def ValidAssembly_.ok:Ak Tryz.prog 190 ValidAssembly_.row:=by
 refine vw (tC ValidSet_.ok (tC hasForm_.ok (tC ContVA.ok tN))) Tryz.func190 rfl (by kernel_rfl) ?_;intro a z;simp only[Tryz.f190];simp(disch:=omega)only[ZA,simprocAttr,Asm.d,ValidAssembly_.fv,ValidSet_.q,ValidSet_.fv,hasForm_.q,hasForm_.fv,ContVA.q,ContVA.ar,ContVA.fv];refine⟨z,?_⟩
 split<;>rename_i O
 .split<;>rename_i G
  .simp[O,EN,G.1,G.2,List.not_any_eq_all_not]
  .have Q:(B2 none a.2.Tiles && decide (a.2.Tiles.length<=500))=false:=by
    rw[G2];intro h;simp only[Av,AP] at h;exact G h
   simp[EN,Q]
 .simp[O]
def comparePlaced.fv(a:Ad×Aa):Int:=(λa p=>Gq [cmpI a.At.Y p.Y,cmpI a.At.X p.X]) (a.1) (a.2)
def comparePlaced.row:Row:=vK (b2 (qR Ad.d_le) (qR Aa.d_le)) rI (λa=>True) comparePlaced.fv
def comparePlaced.q:=vKq (R:=comparePlaced.row) rfl
def comparePlaced.ok:Ak Tryz.prog 134 comparePlaced.row:=by
 refine vw (tC comparePoints.ok tN) Tryz.func134 rfl (by kernel_rfl) ?_;intro a z;simp only[Tryz.f134];simp(disch:=omega)only[ZA,simprocAttr,comparePlaced.fv,comparePoints.q,comparePoints.fv]
def befP(l:List Ad)(p:Aa):Nat:=(l.takeWhile (λx=>AB x.At p)).length
def Rp(p:Aa): ∀(l:List Ad) (lo:Nat),lo<=l.length->(∀(i:Nat) (x:Ad),i<lo->l[i]? =some x->AB x.At p=true)->(∀(i:Nat) (x:Ad),lo<=i->l[i]? =some x->AB x.At p=false)->befP l p=lo
 |[],lo,h,_,_=>by simp at h;simp[befP,h]
 |x::r,0,_,_,h=>by
  have:=h 0 x (by omega) (by simp)
  simp[befP,this]
 |x::r,lo+1,hl,G,Q=>by
  have Z:=G 0 x (by omega) (by simp);have O:=Rp p r lo (by simpa using hl) (λi y hi z=>G (i+1) y (by omega) (by simpa using z)) (λi y hi z=>Q (i+1) y (by omega) (by simpa using z));simp only[befP] at O;simp[befP,Z,O]
def cmp_less(a b:Aa):(Gq [cmpI a.Y b.Y,cmpI a.X b.X]<0)↔AB a b=true:=by
 simp only[AB,Gq,cmpI]
 grind
def cmp_eq(a b:Aa):(Gq [cmpI a.Y b.Y,cmpI a.X b.X]=0)↔a=b:=by
 obtain⟨x,y⟩:=a;obtain⟨z,w⟩:=b;simp only[Gq,cmpI,Aa.mk.injEq]
 grind
def midU(lo z:Nat)(h:lo+z<=562949953421312):IntKind.wrap .i64 ((IntKind.wrap .u64 (IntKind.wrap .i64 ((lo:Int)+z))).fdiv (2^min 1 IntKind.u64.bits))=(((lo+z)/2:Nat):Int):=by
 rw[Am (x:=(lo:Int)+z) (by omega) (by omega)];have G:IntKind.wrap .u64 ((lo:Int)+z)=(lo:Int)+z:=by
  simp only[IntKind.wrap,IntKind.signed,IntKind.bits];simp;omega
 have O:(2:Int)^min 1 IntKind.u64.bits=2:=by decide
 rw[G,O,Yf _ (by omega),Am (by omega) (by omega)];omega
def BinP.ar:List PK->Option ((List Ad)×Aa×Unit)
 |[.val (.sl _ _ z),.val (.agg G),.val (.fn 134 [] [])]=>(decR Ad.d z).bind λO=>(Aa.d G).bind λQ=>some (O,Q,())
 |_=>none
def BinP.ae(a:(List Ad)×Aa×Unit):List PK:=[.val (.sl false 3 (a.1.map Ad.c)),.val (.agg (Aa.c a.2.1)),.val (.fn 134 [] [])]
def BinP.le: ∀z a,BinP.ar z=some a->LeKL z (BinP.ae a):=by
 intro z a h;unfold BinP.ar at h;split at h
 .simp only[Cb,An] at h;obtain⟨O,h0,Q,G,rfl⟩:=h;exact⟨BL (BG Ad.d_le _ _ h0) (by simp only[AF];rintro r ⟨y,_,rfl⟩;rfl),GI (Aa.d_le _ _ G),LeK.refl _,trivial⟩
 .cases h
def BinP.fv(a:(List Ad)×Aa×Unit):Int×Bool:=(λl p _=>((befP l p:Int),l.any (λx=>decide (x.At=p)))) (a.1) (a.2.1) (a.2.2)
def BinP.row:Row:=vrow BinP.ar (λa=>B2 none a.1=true) (λa=>(λb=>D.tup [(D.int .i64) (b.1),(D.bool) (b.2)]) (BinP.fv a))
def BinP.q:=vq BinP.row rfl
def BinP.ok:Ak Tryz.prog 133 BinP.row:=by
 refine Ia Bz (tC comparePlaced.ok tN) Tryz.func133 rfl (by kernel_rfl) (by kernel_rfl) (ar:=BinP.ar) (ae:=BinP.ae) BinP.le (n:=3) (λ_=>rfl) (by decide) (rc:=(LN (vInt) (Hn))) (re:=(λb=>D.tup [(D.int .i64) (b.1),(D.bool) (b.2)])) (Vz (F2) (LF)) (f:=BinP.fv) ?_;intro a af;simp only[Tryz.f133];simp(disch:=omega)only[ZA,simprocAttr,BinP.ae,BinP.fv];intro hn;refine Au.old ⟨{p:Nat×Nat//p.1<=p.2/\p.2<=a.1.length/\(∀i x,i<p.1->a.1[i]? =some x->AB x.At a.2.1=true)/\(∀i x,p.2<=i->a.1[i]? =some x->AB x.At a.2.1=false)},λp=>⟨[(9,.im (.int .i64 p.1.1)),(10,.im (.int .i64 p.1.2)),(8,.im (.int .i64 a.1.length)),(6,.im (.int .i64 0)),(7,.im (.bool false)),(4,.ptr 0 0),(0,.im (.sl false 3 (a.1.map Ad.c))),(2,.im (.fn 134 [] []))],[(0,(true,.cells 96 [.im (.int .i64 a.2.1.X),.im (.int .i64 a.2.1.Y)]))],1⟩,λp=>p.1.2 - p.1.1,λp=>⟨by simp[Ac.good,belT,belH,Ai,AV.bel,belL],Ar _⟩,⟨⟨(0,a.1.length),by simp,by simp,by simp,?_⟩,by simp(disch:=omega)only[ZA,simprocAttr,sub]⟩,λp=> ?_⟩
 .intro i x hi Q
  have:=(Ba.1 Q).1
  simp only at hi;omega
 obtain⟨⟨lo,hi⟩,h1,h2,h3,h4⟩:=p;simp only at h1 h2 h3 h4;simp(disch:=omega)only[ZA,simprocAttr,comparePlaced.q,comparePlaced.fv,sub,Aq];obtain⟨_,O⟩:=LH _ _ af;have ad: ∀(i:Nat) (x:Ad),i<lo->a.1[i]? =some x->x.At≠a.2.1:=by
  intro i x hi Q he
  have:=h3 i x hi Q
  rw[he,OG] at this;cases this
 rw[midU lo hi (by omega)];simp only[cmp_less,cmp_eq];refine⟨λag=> ?_,λag=>⟨λhl=>⟨hl,λx Q=> ?_⟩,λhl=> ?_⟩⟩
 .refine⟨by omega,by omega,λx Q=>⟨λhb=> ?_,λhb=> ?_⟩⟩
  .rw[AH] at Q;refine⟨⟨((lo+hi)/2+1,hi),by simp only;omega,h2,λi y G Z=> ?_,h4⟩,by simp only;omega,?_,rfl⟩
   .simp only at G;rcases Cz i ((lo+hi)/2) with h|h
    .exact LJ (O i _ y x h Z Q) hb
    .have:i=(lo+hi)/2:=by omega
     subst this;rw[Q] at Z;exact Al Z▸hb
   .rw[Am (by omega) (by omega)];simp only;omega
  .rw[AH] at Q;refine⟨⟨(lo,(lo+hi)/2),by simp only;omega,by simp only;omega,h3,λi y G Z=> ?_⟩,by simp only;omega,rfl,rfl⟩;simp only at G;rcases Cz ((lo+hi)/2) i with h|h
   .cases hl:AB y.At a.2.1 with
    |false=>rfl
    |true=>exact absurd (LJ (O _ i x y h Q Z) hl) hb
   .have:i=(lo+hi)/2:=by omega
    subst this;rw[Q] at Z;obtain rfl:=Al Z;simpa using hb
 .have aa:=Rp a.2.1 a.1 lo (by omega) h3 (λi y G Z=>h4 i y (by omega) Z);refine⟨by rw[aa],?_⟩;rw[HC];simp only[AP,RD];refine⟨λhe=>⟨x,Ax Q,he⟩,?_⟩;rintro⟨y,Z,he⟩;obtain⟨i,G,ac⟩:=Lv.1 Z;have z:a.1[i]? =some y:=by rw[A8 G,ac]
  rcases P5 i lo with h|h|h
  .exact absurd he (ad i y h z)
  .subst h;rw[Q] at z;exact Al z▸he
  .have ab:=O lo i x y h Q z;rw[he] at ab
   have:=h4 lo x (by omega) Q
   rw[this] at ab;cases ab
 .have aa:=Rp a.2.1 a.1 lo (by omega) h3 (λi y G Z=>h4 i y (by omega) Z);refine⟨by rw[aa],?_⟩;symm;simp only[List.any_eq_false,AP];intro y Z he;obtain⟨i,G,ac⟩:=Lv.1 Z;have z:a.1[i]? =some y:=by rw[A8 G,ac]
  exact ad i y (by omega) z he
def bef_found{l:List Ad}{p:Aa}(h:B2 none l=true){i:Nat}{x:Ad}(O:l[i]? =some x)(Q:x.At=p):befP l p=i:=by
 obtain⟨_,z⟩:=LH _ _ h;have hi:=(Ba.1 O).1;refine Rp p l i (by omega) (λj y hj G=> ?_) (λj y hj G=> ?_)
 .have:=z j i y x hj G O
  rwa [Q] at this
 .rcases Cz i j with Z|Z
  .have h2:=z i j x y Z O G;rw[Q] at h2;cases h3:AB y.At p with
   |false=>rfl
   |true=>
    have:=LJ h2 h3
    rw[OG] at this;cases this
  .have:j=i:=by omega
   subst this;rw[O] at G;obtain rfl:=Al G;rw[Q,OG]
def X7{l:List Ad}{p:Aa}(h:B2 none l=true):(l.any (λx=>decide (x.At=p))=true/\ ∃x,l[befP l p]? =some x/\x.At=p/\l.find? (λx=>decide (x.At=p))=some x/\AA (λx=>decide (x.At=p)) 0 l=(befP l p:Int))\/
 (l.any (λx=>decide (x.At=p))=false/\l.find? (λx=>decide (x.At=p))=none/\AA (λx=>decide (x.At=p)) 0 l= -1):=by
 rcases GR (λx=>decide (x.At=p)) l 0 with ⟨z,G⟩|⟨i,x,z,G,O⟩
 .refine .inr ⟨?_,z,G⟩;simpa[J3] using z
 .have Q:x.At=p:=by simpa using Hl z
  have hb:=bef_found h O Q;refine .inl ⟨?_,x,by rw[hb];exact O,Q,z,by rw[G,hb,CM]⟩;simp only[RD,AP];exact⟨x,Ax O,Q⟩
def at_.fv(a:Asm×Aa):Int:=(atA) (a.1) (a.2)
def at_.row:Row:=vK (b2 (qR Asm.d_le) (qR Aa.d_le)) rI (λa=>B2 none a.1.Tiles=true) at_.fv
def at_.q:=vKq (R:=at_.row) rfl
def at_.ok:Ak Tryz.prog 184 at_.row:=by
 refine vw (tC BinP.ok tN) Tryz.func184 rfl (by kernel_rfl) ?_;intro a z;simp only[Tryz.f184];simp(disch:=omega)only[ZA,simprocAttr,at_.fv,BinP.q,BinP.ar,BinP.fv];refine⟨z,?_⟩;rcases X7 (p:=a.2) z with ⟨O,x,G,Z,h4,h5⟩|⟨O,G,Z⟩
 .rw[Af O];refine⟨(Ba.1 G).1,λy Q=> ?_⟩;rw[G] at Q;obtain rfl:=Al Q;simp[atA,h4]
 .rw[O,Ab (by simp)];simp[atA,G]
def placeAt.rc:D->Option (Int):=vInt
def placeAt.re:Int->D:=D.int .i64
def placeAt.rle: ∀d b,placeAt.rc d=some b->Le d (placeAt.re b):=F2
def placeAt.fv(a:Asm×Aa):Int:=(λa p=>AA (λx=>decide (x.At=p)) 0 a.Tiles) (a.1) (a.2)
def placeAt.row:Row:=vK (b2 (qR Asm.d_le) (qR Aa.d_le)) (RK.mk placeAt.rc placeAt.re placeAt.rle) (λa=>B2 none a.1.Tiles=true) placeAt.fv
def placeAt.q:=vKq (R:=placeAt.row) rfl
def placeAt.ok:Ak Tryz.prog 287 placeAt.row:=by
 refine vw (tC BinP.ok tN) Tryz.func287 rfl (by kernel_rfl) ?_;intro a z;simp only[Tryz.f287];simp(disch:=omega)only[ZA,simprocAttr,placeAt.fv,placeAt.rc,BinP.q,BinP.ar,BinP.fv];refine⟨z,?_⟩;rcases X7 (p:=a.2) z with ⟨G,x,Q,O,h4,Z⟩|⟨G,Q,O⟩
 .rw[Af G,Z]
 .rw[G,Ab (by simp),O]
def lkP{β:Type}:List (Aa×β)->Aa->Option β
 |[],_=>none
 |(k,v)::r,p=>if p=k then some v else lkP r p
def pt_beq(p q:Aa):D.beql (Aa.c p) (Aa.c q)=decide (p=q):=by
 cases p;cases q;simp only[Aa.c,D.beql,D.beq,Aa.mk.injEq,CB];rw[HC];simp
def lk_pt{β:Type}(e:Aa×β->D×D)(g:β->D)(z: ∀p,e p=(.agg (Aa.c p.1),g p.2))(x y:Int): ∀(l:List (Aa×β)),lk (l.map e) (.agg [.int .i64 x,.int .i64 y])=(lkP l ⟨x,y⟩).map g
 |[]=>rfl
 |q::r=>by
  have G:D.beq (.agg [.int .i64 x,.int .i64 y]) (.agg (Aa.c q.1))=decide ((⟨x,y⟩:Aa)=q.1):=pt_beq ⟨x,y⟩ q.1;obtain⟨k,v⟩:=q;simp only[Ay,z,lk,lkP,G];by_cases h:(⟨x,y⟩:Aa)=k
  .simp[h]
  .simp[h,lk_pt e g z x y r]
def lkVC_pt{β:Type}(e:Aa×β->D×D)(g:β->D)(he: ∀p,e p=(.agg (Aa.c p.1),g p.2))(x y:Int)(l:List (Aa×β))(Z:D->Prop)(Q:Prop):
 LkVC (l.map e) (.agg [.int .i64 x,.int .i64 y]) Z Q=((∀v,lkP l ⟨x,y⟩=some v->Z (g v))/\(lkP l ⟨x,y⟩=none->Q)):=by
 apply propext;unfold LkVC;rw[lk_pt e g he];constructor
 .rintro⟨G,O⟩;exact⟨λv z=>G _ (by rw[z];rfl),λh=>O (by rw[h];rfl)⟩
 .rintro⟨G,O⟩;refine⟨λv z=> ?_,λh=>O (by simpa using h)⟩;simp only[BF] at z;obtain⟨w,hw,rfl⟩:=z;exact G w hw
def lkVC_pi(x y:Int)(l:List (Aa×Int))(G:D->Prop)(z:Prop):LkVC (l.map BO) (.agg [.int .i64 x,.int .i64 y]) G z=((∀v,lkP l ⟨x,y⟩=some v->G (.int .i64 v))/\(lkP l ⟨x,y⟩=none->z)):=
 lkVC_pt BO (.int .i64) (λ_=>rfl) x y l G z
def lkVC_ps(x y:Int)(l:List (Aa×List Int))(G:D->Prop)(z:Prop):LkVC (l.map Br) (.agg [.int .i64 x,.int .i64 y]) G z=((∀v,lkP l ⟨x,y⟩=some v->G (.sl false 1 (v.map intC)))/\(lkP l ⟨x,y⟩=none->z)):=
 lkVC_pt Br (λv=> .sl false 1 (v.map intC)) (λ_=>rfl) x y l G z
def Bf(l:List (Aa×Int))(p:Aa):Int:=(lkP l p).getD (-1)
def catC.fv(a:Cry×Aa):Int:=(λc p=>Bf c.Tl p) (a.1) (a.2)
def catC.row:Row:=vKF (b2 (qP 6 Cry.d_le) (qR Aa.d_le)) rI (λa=>True) catC.fv
def catC.q:=vKFq (R:=catC.row) rfl
def catC.ok:Ak Tryz.prog 186 catC.row:=by
 refine vwF tN Tryz.func186 rfl (by kernel_rfl) ?_;intro a G;simp only[Tryz.f186];simp(disch:=omega)only[ZA,simprocAttr,catC.fv,D.sc,D.scs,decD];simp(disch:=omega)only[ZA,simprocAttr,D.sc,D.scs,decD,lkVC_pi];simp only[Bf];exact⟨λv z=>by rw[show lkP a.1.Tl a.2=some v from z];rfl,λz=>by rw[show lkP a.1.Tl a.2=none from z];rfl⟩
def CX(s:Aj)(f:Aa->Int)(p:Aa)(t:Int)(d:Int):Int:=if 0<=f (AD p d) then CT s t d (f (AD p d)) else 0
def Bl(s:Aj)(f:Aa->Int)(p:Aa)(t:Int):Nat->Int
 |0=>0
 |k+1=>Bl s f p t k+CX s f p t k
def HT(s:Aj)(a:Asm)(p:Aa)(t:Int): ∀k,Bl s (atA a) p t k=E6 s a p t k
 |0=>rfl
 |k+1=>by simp only[Bl,E6,HT s a p t k];rfl
def inF(s:Aj)(f:Aa->Int):Prop:= ∀p,0<=f p->CI s (f p)
def Lr{s:Aj}(h:setP s)(f:Aa->Int)(p:Aa)(t d:Int):0<=CX s f p t d/\CX s f p t d<=4:=by
 simp only[CX,CT];split
 .split
  .exact Tk h _
  .omega
 .omega
def Pz{s:Aj}(h:setP s)(f:Aa->Int)(p:Aa)(t:Int): ∀(k:Nat),0<=Bl s f p t k/\Bl s f p t k<=4*k
 |0=>by simp[Bl]
 |k+1=>by
  have z:=Pz h f p t k;have G:=Lr h f p t k;simp only[Bl];omega
def bindC.ar:List PK->Option (Aj×Aa×Int×Cry)
 |[.val (.agg z),.val (.agg G),.val (.int .i64 O),.val (.fn 186 [.ref Q] [])]=>(Aj.d z).bind λZ=>(Aa.d G).bind λy1=>(Cry.d (Q.take 6)).bind λy3=>some (Z,y1,O,y3)
 |_=>none
def bindC.ae(a:Aj×Aa×Int×Cry):List PK:=[.val (.agg (Aj.c a.1)),.val (.agg (Aa.c a.2.1)),.val (.int .i64 a.2.2.1),.val (.fn 186 [.ref (Cry.c a.2.2.2)] [])]
def bindC.le: ∀z a,bindC.ar z=some a->LeKL z (bindC.ae a):=by
 intro z a h;unfold bindC.ar at h;split at h
 .simp only[Cb,An] at h;obtain⟨Q,h0,Z,G,y3,O,rfl⟩:=h;exact⟨GI (Aj.d_le _ _ h0),GI (Aa.d_le _ _ G),LeK.refl _,le_fn1 ⟨Ha (LeP.trans_take (Cry.d_le _ _ O)),trivial⟩,trivial⟩
 .cases h
def bindC.fv(a:Aj×Aa×Int×Cry):Int:=(λs p t c=>Bl s (Bf c.Tl) p t 4) (a.1) (a.2.1) (a.2.2.1) (a.2.2.2)
def bindC.row:Row:=Fj bindC.ar (λa=>setP a.1/\inF a.1 (Bf a.2.2.2.Tl)/\CE a.2.1/\CI a.1 a.2.2.1) (λa=>(D.int .i64) (bindC.fv a))
def bindC.q:=vqF bindC.row rfl
def bindC.ok:Ak Tryz.prog 187 bindC.row:=by
 refine Of Bz (tC step_.ok (tC bond_.ok (tC catC.ok tN))) Tryz.func187 rfl (by kernel_rfl) (by kernel_rfl) (ar:=bindC.ar) (ae:=bindC.ae) bindC.le (n:=4) (λ_=>rfl) (by decide) (rc:=(vInt)) (re:=(D.int .i64)) (F2) (f:=bindC.fv) ?_;intro a z;simp only[Tryz.f187];simp(disch:=omega)only[ZA,simprocAttr,bindC.ae,bindC.fv];obtain⟨G,O,Q,Z⟩:=z;refine Au.old ⟨{k:Nat//k<=4},λk=>⟨[(12,.im (.int .i64 k.1)),(9,.im (.int .i64 (Bl a.1 (Bf a.2.2.2.Tl) a.2.1 a.2.2.1 k.1))),(8,.im (.int .i64 0)),(5,.ptr 1 0),(4,.ptr 0 0),(2,.im (.int .i64 a.2.2.1)),(3,.im (.fn 186 [.ref (Cry.c a.2.2.2)] []))],[(1,(true,.cells 96 [.im (.int .i64 a.2.1.X),.im (.int .i64 a.2.1.Y)])),(0,(true,.cells 45 ((Aj.c a.1).map .im)))],2⟩,λk=>4 - k.1,λk=>⟨by simp[Ac.good,belT,belH,Ai,AV.bel,belL,Aj.c],Ar _⟩,⟨⟨0,by simp⟩,by simp(disch:=omega)only[ZA,simprocAttr,sub,Bl]⟩,λk=> ?_⟩;obtain⟨k,aa⟩:=k;simp(disch:=omega)only[ZA,simprocAttr,rch,step_.q,step_.fv,step_.re,bond_.q,bond_.fv,bond_.re,catC.q,catC.fv,D.sc,D.scs,decD,sub,Aq];have hb:=Pz G (Bf a.2.2.2.Tl) a.2.1 a.2.2.1 k;have ht:=Lr G (Bf a.2.2.2.Tl) a.2.1 a.2.2.1 k;refine⟨λhk=>⟨⟨Q,by omega⟩,λhp=>⟨⟨G,Z,⟨by omega,by omega⟩,O _ hp⟩,⟨⟨k+1,by omega⟩,by simp only;omega,?_,?_⟩⟩,λhp=>⟨⟨k+1,by omega⟩,by simp only;omega,?_,?_⟩⟩,λhk=> ?_⟩
 .rw[Am (by omega) (by omega)];simp only;omega
 .simp only[Bl];simp only[CX,Af hp] at ht⊢;rw[Am (by omega) (by omega)]
 .rw[Am (by omega) (by omega)];simp only;omega
 .simp only[Bl,CX,Ab hp];omega
 .have:k=4:=by omega
  rw[this]
def bindA.ar:List PK->Option (Aj×Aa×Int×Asm)
 |[.val (.agg z),.val (.agg G),.val (.int .i64 O),.val (.fn 184 [.agg Q] [])]=>(Aj.d z).bind λZ=>(Aa.d G).bind λy1=>(Asm.d Q).bind λy3=>some (Z,y1,O,y3)
 |_=>none
def bindA.ae(a:Aj×Aa×Int×Asm):List PK:=[.val (.agg (Aj.c a.1)),.val (.agg (Aa.c a.2.1)),.val (.int .i64 a.2.2.1),.val (.fn 184 [.agg (Asm.c a.2.2.2)] [])]
def bindA.le: ∀z a,bindA.ar z=some a->LeKL z (bindA.ae a):=by
 intro z a h;unfold bindA.ar at h;split at h
 .simp only[Cb,An] at h;obtain⟨Q,h0,Z,G,y3,O,rfl⟩:=h;exact⟨GI (Aj.d_le _ _ h0),GI (Aa.d_le _ _ G),LeK.refl _,le_fn1 ⟨GI (Asm.d_le _ _ O),trivial⟩,trivial⟩
 .cases h
def bindA.fv(a:Aj×Aa×Int×Asm):Int:=(λs p t c=>Bl s (atA c) p t 4) (a.1) (a.2.1) (a.2.2.1) (a.2.2.2)
def bindA.row:Row:=Fj bindA.ar (λa=>setP a.1/\inF a.1 (atA a.2.2.2)/\CE a.2.1/\CI a.1 a.2.2.1/\B2 none a.2.2.2.Tiles=true) (λa=>(D.int .i64) (bindA.fv a))
def bindA.q:=vqF bindA.row rfl
def bindA.ok:Ak Tryz.prog 187 bindA.row:=by
 refine Of Bz (tC step_.ok (tC bond_.ok (tC at_.ok tN))) Tryz.func187 rfl (by kernel_rfl) (by kernel_rfl) (ar:=bindA.ar) (ae:=bindA.ae) bindA.le (n:=4) (λ_=>rfl) (by decide) (rc:=(vInt)) (re:=(D.int .i64)) (F2) (f:=bindA.fv) ?_;intro a z;simp only[Tryz.f187];simp(disch:=omega)only[ZA,simprocAttr,bindA.ae,bindA.fv];obtain⟨G,O,Q,Z,h5⟩:=z;refine Au.old ⟨{k:Nat//k<=4},λk=>⟨[(12,.im (.int .i64 k.1)),(9,.im (.int .i64 (Bl a.1 (atA a.2.2.2) a.2.1 a.2.2.1 k.1))),(8,.im (.int .i64 0)),(5,.ptr 1 0),(4,.ptr 0 0),(2,.im (.int .i64 a.2.2.1)),(3,.im (.fn 184 [.agg (Asm.c a.2.2.2)] []))],[(1,(true,.cells 96 [.im (.int .i64 a.2.1.X),.im (.int .i64 a.2.1.Y)])),(0,(true,.cells 45 ((Aj.c a.1).map .im)))],2⟩,λk=>4 - k.1,λk=>⟨by simp[Ac.good,belT,belH,Ai,AV.bel,belL,Aj.c],Ar _⟩,⟨⟨0,by simp⟩,by simp(disch:=omega)only[ZA,simprocAttr,sub,Bl]⟩,λk=> ?_⟩;obtain⟨k,aa⟩:=k;simp(disch:=omega)only[ZA,simprocAttr,Asm.d,step_.q,step_.fv,step_.re,bond_.q,bond_.fv,bond_.re,at_.q,at_.fv,D.sc,D.scs,decD,sub,Aq];have hb:=Pz G (atA a.2.2.2) a.2.1 a.2.2.1 k;have ht:=Lr G (atA a.2.2.2) a.2.1 a.2.2.1 k;refine⟨λhk=>⟨⟨Q,by omega⟩,h5,λhp=>⟨⟨G,Z,⟨by omega,by omega⟩,O _ hp⟩,⟨⟨k+1,by omega⟩,by simp only;omega,?_,?_⟩⟩,λhp=>⟨⟨k+1,by omega⟩,by simp only;omega,?_,?_⟩⟩,λhk=> ?_⟩
 .rw[Am (by omega) (by omega)];simp only;omega
 .simp only[Bl];simp only[CX,Af hp] at ht⊢;rw[Am (by omega) (by omega)]
 .rw[Am (by omega) (by omega)];simp only;omega
 .simp only[Bl,CX,Ab hp];omega
 .have:k=4:=by omega
  rw[this]
def binding_.row:Row:=orR bindC.row bindA.row
def binding_.ok:Ak Tryz.prog 187 binding_.row:=orR_ok bindC.ok bindA.ok
def Eb(s:Ah)(f:Aa->Int)(p:Aa)(t:Int):Bool:=Cg p && (decide (f p<0) && decide (s.Temperature<=Bl s.Set f p t 4))
def fitsC.fv(a:Cry×Aa×Int):Bool:=(λc p t=>Eb c.Sys (Bf c.Tl) p t) (a.1) (a.2.1) (a.2.2)
def fitsC.row:Row:=vKF (b3 (qP 6 Cry.d_le) (qR Aa.d_le) qI) rB (λa=>setP a.1.Sys.Set/\inF a.1.Sys.Set (Bf a.1.Tl)/\CI a.1.Sys.Set a.2.2) fitsC.fv
def fitsC.q:=vKFq (R:=fitsC.row) rfl
def fitsC.ok:Ak Tryz.prog 137 fitsC.row:=by
 refine vwF (tC ValidPoint.ok (tC catC.ok (tC binding_.ok tN))) Tryz.func137 rfl (by kernel_rfl) ?_;intro a z;simp only[Tryz.f137];simp(disch:=omega)only[ZA,simprocAttr,Asm.d,rch,fitsC.fv,ValidPoint.q,ValidPoint.fv,catC.q,catC.fv,binding_.row,orR,bindC.q,bindC.ar,bindC.fv,bindA.q,bindA.ar,bindA.fv,D.sc,D.scs,decD];obtain⟨G,O,Q⟩:=z;cases e1:Cg a.2.1
 .simp[Eb,e1]
 .rw[Af rfl]
  split<;>rename_i h
  .exact .inl ⟨⟨G,O,Jo e1,Q⟩,by simp[Eb,e1,h]⟩
  .simp[Eb,e1,h]
def updP{β:Type}:List (Aa×β)->Aa->β->List (Aa×β)
 |[],p,v=>[(p,v)]
 |(k,w)::r,p,v=>if p=k then (p,v)::r else (k,w)::updP r p v
def delP{β:Type}:List (Aa×β)->Aa->List (Aa×β)
 |[],_=>[]
 |(k,w)::r,p=>if p=k then r else (k,w)::delP r p
def upd_pt{β:Type}(e:Aa×β->D×D)(g:β->D)(z: ∀p,e p=(.agg (Aa.c p.1),g p.2))(x y:Int)(v:β): ∀(l:List (Aa×β)),upd (l.map e) (.agg [.int .i64 x,.int .i64 y]) (g v)=(updP l ⟨x,y⟩ v).map e
 |[]=>by simp[upd,updP,z,Aa.c]
 |q::r=>by
  have G:D.beq (.agg [.int .i64 x,.int .i64 y]) (.agg (Aa.c q.1))=decide ((⟨x,y⟩:Aa)=q.1):=pt_beq ⟨x,y⟩ q.1;obtain⟨k,w⟩:=q;simp only[Ay,z,upd,updP,G];by_cases h:(⟨x,y⟩:Aa)=k
  .simp[h,z,Aa.c];exact⟨by rw[<-h],by rw[<-h]⟩
  .simp[h,z,upd_pt e g z x y v r]
def del_pt{β:Type}(e:Aa×β->D×D)(g:β->D)(z: ∀p,e p=(.agg (Aa.c p.1),g p.2))(x y:Int): ∀(l:List (Aa×β)),del (l.map e) (.agg [.int .i64 x,.int .i64 y])=(delP l ⟨x,y⟩).map e
 |[]=>rfl
 |q::r=>by
  have G:D.beq (.agg [.int .i64 x,.int .i64 y]) (.agg (Aa.c q.1))=decide ((⟨x,y⟩:Aa)=q.1):=pt_beq ⟨x,y⟩ q.1;obtain⟨k,w⟩:=q;simp only[Ay,z,del,delP,G];by_cases h:(⟨x,y⟩:Aa)=k
  .simp[h]
  .simp[h,z,del_pt e g z x y r]
def upd_ps(x y:Int)(v:List Int)(l:List (Aa×List Int)):upd (l.map Br) (.agg [.int .i64 x,.int .i64 y]) (.sl false 1 (v.map intC))=(updP l ⟨x,y⟩ v).map Br:=
 upd_pt Br (λv=> .sl false 1 (v.map intC)) (λ_=>rfl) x y v l
def upd_pi(x y v:Int)(l:List (Aa×Int)):upd (l.map BO) (.agg [.int .i64 x,.int .i64 y]) (.int .i64 v)=(updP l ⟨x,y⟩ v).map BO:=
 upd_pt BO (.int .i64) (λ_=>rfl) x y v l
def del_ps(x y:Int)(l:List (Aa×List Int)):del (l.map Br) (.agg [.int .i64 x,.int .i64 y])=(delP l ⟨x,y⟩).map Br:=
 del_pt Br (λv=> .sl false 1 (v.map intC)) (λ_=>rfl) x y l
def CV(s:Ah)(f:Aa->Int)(q:Aa):Nat->List Int
 |0=>[]
 |k+1=>CV s f q k++(if Eb s f q k=true then [(k:Int)] else [])
def Ug(s:Ah)(f:Aa->Int)(q:Aa): ∀k,(CV s f q k).length<=k
 |0=>by simp[CV]
 |k+1=>by
  have:=Ug s f q k
  simp only[CV,B5]
  split<;>simp<;>omega
def EK(s:Ah)(f:Aa->Int)(op:List (Aa×List Int))(q:Aa):List (Aa×List Int):=
 if CV s f q s.Set.Tiles.length=[] then delP op q else updP op q (CV s f q s.Set.Tiles.length)
def CW(s:Ah)(f:Aa->Int)(op:List (Aa×List Int))(p:Aa):Nat->List (Aa×List Int)
 |0=>op
 |k+1=>EK s f (CW s f op p k) (AD p k)
def AW(s:Ah):List AV:=[.im (.sl false 2 (s.Set.Glues.map Glue.c)),.im (.sl false 2 (s.Set.Tiles.map Tile.c)),.im (.sl false 3 (s.Seed.Tiles.map Ad.c)),.im (.int .i64 s.Temperature),.mp 1,.mp 2]
def ktP:KT:=⟨true,[.int .i64,.int .i64]⟩
def cryH(c:Cry):Ag:=[(0,(true,.cells 155 (AW c.Sys))),(1,(true,.map ⟨true,[.int .i64,.int .i64]⟩ (c.Tl.map BO))),(2,(true,.map ⟨true,[.int .i64,.int .i64]⟩ (c.Op.map Br)))]
def CO(c:Cry)(j:Nat):domB (cryH c) j=true↔j<3:=by
 simp only[domB,cryH,hget];by_cases h0:j=0
 .subst h0;simp
 .by_cases Q:j=1
  .subst Q;simp
  .by_cases Z:j=2
   .subst Z;simp
   .have z:(0==j)=false:=by simp;omega
    have G:(1==j)=false:=by simp;omega
    have O:(2==j)=false:=by simp;omega
    simp[z,G,O];omega
def FF(c:Cry):Prop:=setP c.Sys.Set/\inF c.Sys.Set (Bf c.Tl)/\c.Sys.Set.Tiles.length<=1000000
def lookC.ca(a:Cry×Aa):List AV:=[.ptr 0 0,.im (.agg [.int .i64 a.2.X,.int .i64 a.2.Y])]
def lookC.H1(a:Cry×Aa):Ag:=[(2,(true,.map ⟨true,[.int .i64,.int .i64]⟩ ((CW a.1.Sys (Bf a.1.Tl) a.1.Op a.2 4).map Br)))]
def kl2(j:Nat):Bool:=j==2
def lookC.row:Row:=orow lookC.ca (λa=>cryH a.1) 3 (λa=>FF a.1/\CE a.2) kl2 (λ_=> .im (.tup [])) lookC.H1 0
def lookC.ok:Ak Tryz.prog 103 lookC.row:=by
 refine ow (tC step_.ok (tC fitsC.ok tN)) Tryz.func103 rfl (by kernel_rfl) (exB:=λ_=>false) (R:=λ_ r=>r= .im (.tup [])) (λ_=>rfl)
  (λa=>by simp[lookC.ca,cryH,AW,belL,AV.bel,belH,Ai,AT,AObj.nms,nmsL,AV.nms,domB,hget]) (λa p hp=> ?_) (λa r h=>by subst h;exact LeV.refl _) ?_
 rotate_left
 intro a G;simp only[Tryz.f103,lookC.ca,cryH,AW,lookC.H1];simp(disch:=omega)only[ZA,simprocAttr];obtain⟨⟨Q,Z,ad⟩,z⟩:=G;refine Au.old ⟨{k:Nat//k<=4},λk=>⟨[(8,.im (.int .i64 k.1)),(3,.ptr 3 0),(0,.ptr 0 0)],[(3,(true,.cells 96 [.im (.int .i64 a.2.X),.im (.int .i64 a.2.Y)])),(0,(true,.cells 155 (AW a.1.Sys))),(1,(true,.map ⟨true,[.int .i64,.int .i64]⟩ (a.1.Tl.map BO))),(2,(true,.map ⟨true,[.int .i64,.int .i64]⟩ ((CW a.1.Sys (Bf a.1.Tl) a.1.Op a.2 k.1).map Br)))],4⟩,λk=>4 - k.1,λk=>⟨by simp[Ac.good,belT,belH,Ai,AV.bel,belL,AW],Ar _⟩,⟨⟨0,by simp⟩,by simp(disch:=omega)only[ZA,simprocAttr,AW,sub,CW,AW]⟩,λk=> ?_⟩;obtain⟨k,ac⟩:=k;simp only[AW];simp(disch:=omega)only[ZA,simprocAttr,step_.q,step_.fv,step_.re,kl2,Aq];have hq:CE a.2:=z;refine⟨λhk=>⟨⟨z,by omega⟩,λhn=> ?_⟩,λhk=> ?_⟩
 .refine Au.ren ⟨{j:Nat//j<=a.1.Sys.Set.Tiles.length},λj=>⟨[(21,.im (.int .i64 j.1)),(20,.im (.int .i64 a.1.Sys.Set.Tiles.length)),(6,.own 6),(5,.ptr 4 0),(8,.im (.int .i64 k)),(3,.ptr 3 0),(0,.ptr 0 0)],[(6,(true,.arr 2 1 ((CV a.1.Sys (Bf a.1.Tl) (AD a.2 k) j.1).map intC))),(4,(true,.cells 96 [.im (.int .i64 (AD a.2 k).X),.im (.int .i64 (AD a.2 k).Y)])),(3,(true,.cells 96 [.im (.int .i64 a.2.X),.im (.int .i64 a.2.Y)])),(0,(true,.cells 155 (AW a.1.Sys))),(1,(true,.map ⟨true,[.int .i64,.int .i64]⟩ (a.1.Tl.map BO))),(2,(true,.map ⟨true,[.int .i64,.int .i64]⟩ ((CW a.1.Sys (Bf a.1.Tl) a.1.Op a.2 k).map Br)))],7⟩,λj=>a.1.Sys.Set.Tiles.length - j.1,λj=>⟨by simp[Ac.good,belT,belH,Ai,AV.bel,belL,AW],by simp⟩,⟨⟨0,by simp⟩,[(6,some 5)],?_⟩,λj=> ?_⟩
  .simp only[subP,AW];simp(disch:=omega)only[ZA,simprocAttr,AC,CV]
   try simp
  obtain⟨j,ab⟩:=j;simp only[AW];simp(disch:=omega)only[ZA,simprocAttr,rch,fitsC.q,fitsC.fv,ORB,Aq,sub];have aa:=Ug a.1.Sys (Bf a.1.Tl) (AD a.2 k) j;refine⟨λhj=>⟨⟨Q,Z,by omega,by omega⟩,λhf=>⟨by omega,⟨j+1,by omega⟩,[(6,some 8)],by simp only;omega,?_⟩,λhf=>⟨⟨j+1,by omega⟩,[(6,some 6)],by simp only;omega,?_⟩⟩,λhj=> ?_⟩
  .simp only[subP];simp(disch:=omega)only[ZA,simprocAttr,AC];refine⟨?_,?_⟩
   .rw[Am (by omega) (by omega)];omega
   .simp[CV,hf,intC]
  .simp only[subP];simp(disch:=omega)only[ZA,simprocAttr,AC];refine⟨?_,?_⟩
   .rw[Am (by omega) (by omega)];omega
   .simp[CV,hf]
  have O:j=a.1.Sys.Set.Tiles.length:=by omega
  subst O;rw[upd_ps,del_ps];have hl:(0:Int)<((CV a.1.Sys (Bf a.1.Tl) (AD a.2 k) a.1.Sys.Set.Tiles.length).length:Int)↔CV a.1.Sys (Bf a.1.Tl) (AD a.2 k) a.1.Sys.Set.Tiles.length≠[]:=by
   rw[<-Lw];omega
  intro _;refine⟨λh0=>⟨⟨k+1,by omega⟩,by simp only;omega,?_,?_⟩,λh0=>⟨⟨k+1,by omega⟩,by simp only;omega,?_,?_⟩⟩
  .rw[Am (by omega) (by omega)];simp only;omega
  .simp only[CW,EK];rw[Ab (hl.1 h0)]
  .rw[Am (by omega) (by omega)];simp only;omega
  .simp only[CW,EK];rw[Af (Df.1 (λh=>h0 (hl.2 h)))]
 .have:k=4:=by omega
  subst this;simp[kl2]
 simp[lookC.H1] at hp;subst hp;exact .inl ⟨by omega,rfl,rfl⟩
def Mu{β:Type}(p q:Aa)(v:β): ∀(l:List (Aa×β)),lkP (updP l p v) q=if q=p then some v else lkP l q
 |[]=>by simp[updP,lkP]
 |(k,w)::r=>by
  simp only[updP];by_cases h:p=k
  .subst h;rw[Af rfl];simp only[lkP];by_cases z:q=p
   .rw[Af z,Af z]
   .rw[Ab z,Ab z,Ab z]
  .rw[Ab h];simp only[lkP,Mu p q v r];by_cases z:q=k
   .rw[Af z,Af z,Ab (λG=>h (G.symm.trans z))]
   .rw[Ab z,Ab z]
def tlUp(l:List Ad):List (Aa×Int):=l.foldl (λt x=>updP t x.At x.Tile) []
def tlUp_snoc(l:List Ad)(x:Ad):tlUp (l++[x])=updP (tlUp l) x.At x.Tile:=by simp[tlUp]
def opUp(s:Ah)(f:Aa->Int)(l:List Ad):List (Aa×List Int):=l.foldl (λo x=>CW s f o x.At 4) []
def opUp_snoc(s:Ah)(f:Aa->Int)(l:List Ad)(x:Ad):opUp s f (l++[x])=CW s f (opUp s f l) x.At 4:=by simp[opUp]
def tlUp_in{s:Aj}: ∀(l:List Ad),(∀x∈l,CI s x.Tile)->inF s (Bf (tlUp l)):=by
 intro l;have G: ∀(l:List Ad) (t:List (Aa×Int)),(∀p v,lkP t p=some v->CI s v)->(∀x∈l,CI s x.Tile)-> ∀p v,lkP (l.foldl (λt x=>updP t x.At x.Tile) t) p=some v->CI s v:=by
  intro l;induction l with
  |nil=>intro t h _;exact h
  |cons x r ih=>
   intro t h O;refine ih _ ?_ (λy Q=>O y (AX _ Q));intro p v z;rw[Mu] at z;split at z
   .cases z;exact O x (AU ..)
   .exact h p v z
 intro h p hp
 have:=G l [] (by intro p v h;simp[lkP] at h) h p
 simp only[Bf,tlUp] at hp⊢;cases hq:lkP (l.foldl (λt x=>updP t x.At x.Tile) []) p with
 |none=>rw[hq] at hp;simp at hp
 |some v=>exact this v hq
def Fq{α:Type}{l:List α}{k:Nat}{x:α}(h:l[k]? =some x):l.take (k+1)=l.take k++[x]:=by rw[Ec,h];rfl
def EW(s:Ah)(a:Asm):Cry:=⟨s,tlUp a.Tiles,opUp s (Bf (tlUp a.Tiles)) a.Tiles⟩
def newC.ca(a:Ah×Asm):List AV:=[.im (.agg (Ah.c a.1)),.im (.agg (Asm.c a.2))]
def newC.H1(a:Ah×Asm):Ag:=[(4,(true,.cells 155 [.im (.sl false 2 (a.1.Set.Glues.map Glue.c)),.im (.sl false 2 (a.1.Set.Tiles.map Tile.c)),.im (.sl false 3 (a.1.Seed.Tiles.map Ad.c)),.im (.int .i64 a.1.Temperature),.mp 2,.mp 3])),
 (2,(true,.map ⟨true,[.int .i64,.int .i64]⟩ ((EW a.1 a.2).Tl.map BO))),(3,(true,.map ⟨true,[.int .i64,.int .i64]⟩ ((EW a.1 a.2).Op.map Br)))]
def newC.pre(a:Ah×Asm):Prop:=setP a.1.Set/\a.1.Set.Tiles.length<=1000000/\ ∀x∈a.2.Tiles,CI a.1.Set x.Tile/\CE x.At
def newC.ex(j:Nat):Bool:=j==2||(j==3||j==4)
def noB(_:Nat):Bool:=false
def newC.row:Row:=orow newC.ca (λ_=>[]) 0 newC.pre noB (λ_=> .ptr 4 0) newC.H1 5
def newC.ok:Ak Tryz.prog 53 newC.row:=by
 refine ow (tC lookC.ok tN) Tryz.func53 rfl (by kernel_rfl) (exB:=newC.ex) (R:=λ_ r=>r= .ptr 4 0) (λ_=>rfl)
  (λa=>by simp[newC.ca,Ah.c,Asm.c,belL,AV.bel,belH,Ai,AT]) (λa p hp=> ?_) (λa r h=>by subst h;exact LeV.refl _) ?_
 rotate_left
 intro a O;simp only[Tryz.f53,newC.ca,newC.H1,Ah.c,Asm.c];simp(disch:=omega)only[ZA,simprocAttr];obtain⟨aa,ab,G⟩:=O;intro hn;refine Au.old ⟨{k:Nat//k<=a.2.Tiles.length},λk=>⟨[(18,.im (.int .i64 k.1)),(17,.im (.int .i64 a.2.Tiles.length)),(16,.im (.sl false 3 (a.2.Tiles.map Ad.c))),(5,.ptr 4 0),(4,.im .nilp),(3,.ptr 1 0)],[(4,(true,.cells 155 [.im (.sl false 2 (a.1.Set.Glues.map Glue.c)),.im (.sl false 2 (a.1.Set.Tiles.map Tile.c)),.im (.sl false 3 (a.1.Seed.Tiles.map Ad.c)),.im (.int .i64 a.1.Temperature),.mp 2,.mp 3])),(3,(true,.map ⟨true,[.int .i64,.int .i64]⟩ ([]))),(2,(true,.map ⟨true,[.int .i64,.int .i64]⟩ ((tlUp (a.2.Tiles.take k.1)).map BO))),(1,(true,.cells 39 [.im (.sl false 3 (a.2.Tiles.map Ad.c))]))],5⟩,λk=>a.2.Tiles.length - k.1,λk=>⟨by simp[Ac.good,belT,belH,Ai,AV.bel,belL],Ar _⟩,⟨⟨0,by simp⟩,by simp(disch:=omega)only[ZA,simprocAttr,sub,tlUp,R6]⟩,λk=> ?_⟩;obtain⟨k,Z⟩:=k;simp(disch:=omega)only[ZA,simprocAttr,sub,Aq];refine⟨λz=>⟨z,λx Q=> ?_⟩,λz=> ?_⟩
 .refine⟨⟨k+1,by omega⟩,by simp only;omega,?_,?_⟩
  .rw[Am (by omega) (by omega)];simp only;omega
  .rw[upd_pi,Fq Q,tlUp_snoc]
 rw[BX (by omega)];intro _;refine Au.old ⟨{k:Nat//k<=a.2.Tiles.length},λk=>⟨[(34,.im (.int .i64 k.1)),(33,.im (.int .i64 a.2.Tiles.length)),(32,.im (.sl false 3 (a.2.Tiles.map Ad.c))),(5,.ptr 4 0),(4,.im .nilp),(3,.ptr 1 0)],[(4,(true,.cells 155 [.im (.sl false 2 (a.1.Set.Glues.map Glue.c)),.im (.sl false 2 (a.1.Set.Tiles.map Tile.c)),.im (.sl false 3 (a.1.Seed.Tiles.map Ad.c)),.im (.int .i64 a.1.Temperature),.mp 2,.mp 3])),(3,(true,.map ⟨true,[.int .i64,.int .i64]⟩ ((opUp a.1 (Bf (tlUp a.2.Tiles)) (a.2.Tiles.take k.1)).map Br))),(2,(true,.map ⟨true,[.int .i64,.int .i64]⟩ ((tlUp a.2.Tiles).map BO))),(1,(true,.cells 39 [.im (.sl false 3 (a.2.Tiles.map Ad.c))]))],5⟩,λk=>a.2.Tiles.length - k.1,λk=>⟨by simp[Ac.good,belT,belH,Ai,AV.bel,belL],Ar _⟩,⟨⟨0,by simp⟩,by simp(disch:=omega)only[ZA,simprocAttr,sub,opUp,R6]⟩,λk=> ?_⟩;obtain⟨k,Z⟩:=k;simp(disch:=omega)only[ZA,simprocAttr,newC.ex,Aq];refine⟨λz=>⟨z,λx Q=> ?_⟩,λz=> ?_⟩
 .refine orow.os (⟨a.1,tlUp a.2.Tiles,opUp a.1 (Bf (tlUp a.2.Tiles)) (a.2.Tiles.take k)⟩,x.At) [4,2,3] ⟨⟨aa,tlUp_in _ (λy hy=>(G y hy).1),ab⟩,(G x (Ax Q)).2⟩ (λj=>CO _ j) rfl rfl ?_ ?_
  .simp(disch:=omega)only[ZA,simprocAttr,ORB,lookC.ca,cryH,AW]
  .simp(disch:=omega)only[ZA,simprocAttr,ORB,lookC.H1,kl2,sub];refine⟨⟨k+1,by omega⟩,by simp only;omega,?_,?_⟩
   .rw[Am (by omega) (by omega)];simp only;omega
   .rw[Fq Q,opUp_snoc]
 .rw[BX (by omega)];exact⟨rfl,rfl⟩
 simp[newC.H1] at hp;rcases hp with rfl|rfl|rfl
 .exact .inr ⟨by omega,by simp,rfl,rfl⟩
 .exact .inr ⟨by omega,by simp,rfl,rfl⟩
 .exact .inr ⟨by omega,by simp,rfl,rfl⟩
def cryOf_pre{a:Ah×Asm}(h:newC.pre a):FF (EW a.1 a.2):=⟨h.1,tlUp_in _ (λy z=>(h.2.2 y z).1),h.2.1⟩
def Da(a:Asm)(i:Int):Int:=(a.Tiles[i.toNat]?.map Ad.Tile).getD (-1)
def IK(s:Aj)(a:Asm)(i:Nat)(d:Int):List Bond:=
 if 0<=nbA a i d then if 0<CT s (Da a i) d (Da a (nbA a i d)) then [⟨i,nbA a i d,CT s (Da a i) d (Da a (nbA a i d))⟩] else [] else []
def EP(s:Aj)(a:Asm)(i:Nat):Nat->List Bond
 |0=>[]
 |k+1=>EP s a i k++IK s a i (1 - k)
def CF(s:Aj)(a:Asm):Nat->List Bond
 |0=>[]
 |k+1=>CF s a k++EP s a k 2
def bndOf_len(s:Aj)(a:Asm)(i:Nat)(d:Int):(IK s a i d).length<=1:=by
 simp only[IK];split
 .split<;>simp
 .simp
def SG(s:Aj)(a:Asm)(i:Nat): ∀k,(EP s a i k).length<=k
 |0=>by simp[EP]
 |k+1=>by
  have z:=SG s a i k;have G:=bndOf_len s a i (1 - k);simp only[EP,B5];omega
def Ov(s:Aj)(a:Asm): ∀k,(CF s a k).length<=2*k
 |0=>by simp[CF]
 |k+1=>by
  have z:=Ov s a k;have G:=SG s a k 2;simp only[CF,B5];omega
def idx_lt{A:Type}(p:A->Bool)(l:List A):AA p 0 l<(l.length:Int):=by
 rcases GR p l 0 with ⟨_,h⟩|⟨i,x,_,h,z⟩
 .omega
 .have:=(Ba.1 z).1
  omega
def nbA_lt(a:Asm)(i d:Int):nbA a i d<(a.Tiles.length:Int):=idx_lt _ _
def l06Bonds.fv(a:Aj×Asm):List Bond:=(λs a=>CF s a a.Tiles.length) (a.1) (a.2)
def l06Bonds.row:Row:=vK (b2 (qP 2 Aj.d_le) (qP 1 Asm.d_le)) (rS Bond.d_le Bond.c_n) (λa=>setP a.1/\BR a.1 a.2/\a.2.Tiles.length<=1000000) l06Bonds.fv
def l06Bonds.q:=vKq (R:=l06Bonds.row) rfl
def l06Bonds.ok:Ak Tryz.prog 207 l06Bonds.row:=by
 refine vw (tC l06Neighbor.ok (tC l02Bond.ok tN)) Tryz.func207 rfl (by kernel_rfl) ?_;intro a z;simp only[Tryz.f207];simp(disch:=omega)only[ZA,simprocAttr,l06Bonds.fv];obtain⟨h1,Q,h3⟩:=z;refine Au.ren ⟨{k:Nat//k<=a.2.Tiles.length},λk=>⟨[(6,.im (.int .i64 k.1)),(5,.own 4),(0,.ptr 0 0),(1,.ptr 1 0)],[(4,(true,.arr 318 3 ((CF a.1 a.2 k.1).map Bond.c))),(0,(false,.view (Aj.c a.1))),(1,(false,.view (Asm.c a.2)))],5⟩,λk=>a.2.Tiles.length - k.1,λk=>⟨by simp[Ac.good,belT,belH,Ai,AV.bel],by simp⟩,⟨⟨0,by simp⟩,[(4,some 3)],?_⟩,λk=> ?_⟩
 .simp only[subP];simp(disch:=omega)only[ZA,simprocAttr,AC,CF]
 obtain⟨k,ad⟩:=k;simp(disch:=omega)only[ZA,simprocAttr,Aq];intro ab;refine⟨λhk=> ?_,λhk=> ?_⟩
 .refine Au.ren ⟨{j:Nat//j<=2},λj=>⟨[(7,.im (.int .i64 (1 - (j.1:Int)))),(6,.im (.int .i64 k)),(5,.own 5),(0,.ptr 0 0),(1,.ptr 1 0)],[(5,(true,.arr 318 3 ((CF a.1 a.2 k++EP a.1 a.2 k j.1).map Bond.c))),(0,(false,.view (Aj.c a.1))),(1,(false,.view (Asm.c a.2)))],6⟩,λj=>2 - j.1,λj=>⟨by simp[Ac.good,belT,belH,Ai,AV.bel],by simp⟩,⟨⟨0,by simp⟩,[(5,some 4)],?_⟩,λj=> ?_⟩
  .simp only[subP];simp(disch:=omega)only[ZA,simprocAttr,AC,EP]
   try simp
  obtain⟨j,ac⟩:=j;simp(disch:=omega)only[ZA,simprocAttr,Asm.d,l06Neighbor.q,l06Neighbor.fv,l02Bond.q,l02Bond.fv,Aq,FI,FE,allD,D.one];have aa:=nbA_lt a.2 k (1 - j);have af:=Ov a.1 a.2 k;have ag:=SG a.1 a.2 k j;refine⟨λhd=>⟨⟨Q.1,hk,hd,by omega⟩,λhn=>⟨⟨j+1,by omega⟩,[(5,some 5)],by simp only;omega,?_⟩,λhn=>⟨hk,λx hx=>⟨by omega,aa,λy hy=>⟨⟨h1,Q.2 x (Ax hx),⟨by omega,by omega⟩,Q.2 y (Ax hy)⟩,λhb=>⟨by simp only[B5];omega,⟨j+1,by omega⟩,[(5,some 7)],by simp only;omega,?_⟩,λhb=>⟨⟨j+1,by omega⟩,[(5,some 5)],by simp only;omega,?_⟩⟩⟩⟩⟩,λhd=>⟨⟨k+1,by omega⟩,[(4,some 5)],by simp only;omega,?_⟩⟩
  .simp only[subP];simp(disch:=omega)only[ZA,simprocAttr,AC];refine⟨?_,?_⟩
   .rw[Am (by omega) (by omega)];omega
   .simp only[EP,IK];rw[Ab (by omega),BJ]
  .simp only[subP];simp(disch:=omega)only[ZA,simprocAttr,AC];refine⟨?_,?_⟩
   .rw[Am (by omega) (by omega)];omega
   .have G:Da a.2 k=x.Tile:=by simp[Da,hx]
    have O:Da a.2 (nbA a.2 k (1 - j))=y.Tile:=by simp only[Da];rw[hy];rfl
    simp only[EP,IK];rw[Af (by omega),G,O,Af hb];simp[Bond.c]
  .simp only[subP];simp(disch:=omega)only[ZA,simprocAttr,AC];refine⟨?_,?_⟩
   .rw[Am (by omega) (by omega)];omega
   .have G:Da a.2 k=x.Tile:=by simp[Da,hx]
    have O:Da a.2 (nbA a.2 k (1 - j))=y.Tile:=by simp only[Da];rw[hy];rfl
    simp only[EP,IK];rw[Af (by omega),G,O,Ab hb,BJ]
  .simp only[subP];simp(disch:=omega)only[ZA,simprocAttr,AC];have Z:j=2:=by omega
   subst Z;refine⟨?_,?_⟩
   .rw[Am (by omega) (by omega)];omega
   .simp only[CF]
 .have:k=a.2.Tiles.length:=by omega
  rw[this]
def befL:List Int->List Int->Bool
 |x::r,y::s=>if x=y then befL r s else decide (x<y)
 |_,_=>false
def befW(v:Int)(l:List Int)(w:Int)(m:List Int):Bool:=if v=w then if l.length=m.length then befL l m else decide (l.length<m.length) else decide (v<w)
def l07Before.fv(a:Int×(List Int)×Int×(List Int)):Bool:=(befW) (a.1) (a.2.1) (a.2.2.1) (a.2.2.2)
def l07Before.row:Row:=vK (b4 qI (qS BB Bm) qI (qS BB Bm)) rB (λa=>True) l07Before.fv
def l07Before.q:=vKq (R:=l07Before.row) rfl
def l07Before.ok:Ak Tryz.prog 244 l07Before.row:=by
 refine vw tN Tryz.func244 rfl (by kernel_rfl) ?_;intro a aa;simp only[Tryz.f244];simp(disch:=omega)only[ZA,simprocAttr,l07Before.fv]
 split<;>rename_i h
 .simp only[befW];rw[Ab h]
 intro ac ad
 split<;>rename_i h2
 .intro _ _;simp only[befW];rw[Af (Df.1 h),Ab (by omega)]
 have hn:a.2.1.length=a.2.2.2.length:=by omega
 have hb:befW a.1 a.2.1 a.2.2.1 a.2.2.2=befL a.2.1 a.2.2.2:=by simp only[befW];rw[Af (Df.1 h),Af hn]
 rw[hb];refine Au.old ⟨{k:Nat//k<=a.2.1.length/\befL (a.2.1.drop k) (a.2.2.2.drop k)=befL a.2.1 a.2.2.2},λk=>⟨[(9,.im (.int .i64 k.1)),(8,.im (.bool false)),(0,.im (.int .i64 a.1)),(1,.im (.sl false 1 (a.2.1.map intC))),(2,.im (.int .i64 a.2.2.1)),(3,.im (.sl false 1 (a.2.2.2.map intC)))],[],0⟩,λk=>a.2.1.length - k.1,λk=>⟨by simp[Ac.good,belT,belH,Ai,AV.bel],Ar _⟩,⟨⟨0,by simp⟩,by simp(disch:=omega)only[ZA,simprocAttr,sub]⟩,λk=> ?_⟩;obtain⟨k,ab,z⟩:=k;simp(disch:=omega)only[ZA,simprocAttr,sub,Aq];intro _;refine⟨λQ=>⟨Q,λx hx=>⟨by omega,λy hy=>⟨λZ=>⟨Q,λx' G=>⟨by omega,λy' O=> ?_⟩⟩,λhe=> ?_⟩⟩⟩,λQ=> ?_⟩
 .rw[hx] at G;rw[hy] at O;obtain rfl:=Al G;obtain rfl:=Al O;rw[Cw hx,Cw hy,befL,Ab Z] at z;exact z
 .rw[Cw hx,Cw hy,befL,Af (Df.1 he)] at z;refine⟨⟨k+1,by omega,z⟩,by simp only;omega,?_⟩;rw[Am (by omega) (by omega)];simp only;omega
 .rw[B9 (by omega),befL] at z
  .exact z
  .intros;simp_all
def V1{l:List Ad}(h:B2 none l=true):(l.map Ad.At).Nodup:=by
 have z:=(LH _ _ h).2;clear h;revert z;induction l with
 |nil=>intro _;simp
 |cons x r ih=>
  intro z;simp only[Ay,Ed];refine⟨λhm=> ?_,ih (λi j a b Z G hb=>z (i+1) (j+1) a b (by omega) (by simpa using G) (by simpa using hb))⟩;obtain⟨y,hy,O⟩:=AF.1 hm;obtain⟨i,Q⟩:=Fa.1 hy
  have:=z 0 (i+1) x y (by omega) rfl (by simpa using Q)
  rw[O,OG] at this;cases this
def UB(n:Nat)(rows:List (List D)):(imR rows).all (belL n)=true:=by
 simp only[imR,List.all_map,BE,Function.comp];intro r z;clear z;induction r with
 |nil=>simp[belL]
 |cons x r ih=>simp[belL,AV.bel,ih]
def fzAL_im(F:List Nat)(H:Ag): ∀(r:List D),fzAL F H (r.map .im)=r.map .im
 |[]=>rfl
 |x::r=>by simp only[Ay,fzAL,AV.fzA,fzAL_im F H r]
def fzAR_im(F:List Nat)(H:Ag): ∀(rows:List (List D)),fzAR F H (imR rows)=imR rows
 |[]=>rfl
 |x::r=>by
  have:=fzAR_im F H r
  simp only[imR] at this;simp only[imR,Ay,fzAR,fzAL_im,this]
def XJ(F:List Nat)(H:Ag): ∀(a b:List (List AV)),fzAR F H (a++b)=fzAR F H a++fzAR F H b
 |[],b=>rfl
 |x::r,b=>by simp only[Bv,fzAR,XJ F H r b]
def mtL_im(π:List (Nat×Option Nat)): ∀(r:List D),mtL π (r.map .im) (r.map .im)
 |[]=>by simp[mtL]
 |x::r=>by simp only[Ay,mtL,mt,mtL_im π r,DB]
def Rt(π:List (Nat×Option Nat)): ∀(rows:List (List D)),mtR π (imR rows) (imR rows)
 |[]=>by simp[mtR,imR]
 |x::r=>by
  have:=Rt π r
  simp only[imR] at this;simp only[imR,Ay,mtR,mtL_im,this,DB]
def XB(F:List Nat)(H:Ag)(rows:List (List D)):fzAR F H (rows.map λr=>r.map AV.im)=rows.map λr=>r.map AV.im:=fzAR_im F H rows
def Pm(π:List (Nat×Option Nat))(rows:List (List D)):mtR π (rows.map λr=>r.map AV.im) (rows.map λr=>r.map AV.im)=True:=JD (Rt π rows)
def all_bel2(n:Nat)(rows:List (List D)):(rows.map λr=>r.map AV.im).all (belL n)=true:=UB n rows
def TZ{α β:Type}{f:α->Option β}{g:β->α}(h: ∀y,f (g y)=some y): ∀(l:List β),mapO f (l.map g)=some l
 |[]=>rfl
 |x::r=>by simp only[Ay,mapO,h,TZ h r]
def cvt_im2(h:Nat->Option Ent)(kx:Nat->Option Nat)(n:Nat)(rows:List (List D)):mapO (mapO λx=>asDO (cvt h kx (n+1) x)) (rows.map λr=>r.map AV.im)=some rows:=
 TZ (g:=λr=>r.map AV.im) (λy=>TZ (g:=AV.im) (λ_=>rfl) y) rows
def DY{A:Type}(f:A->A):Nat->List A->List A
 |0,l=>l
 |_+1,[]=>[]
 |k+1,x::r=>f x::DY f k r
def Xu{A:Type}(f:A->A): ∀(k:Nat) (l:List A),(DY f k l).length=l.length
 |0,_=>rfl
 |_+1,[]=>rfl
 |k+1,x::r=>by simp only[DY,Bs,Xu f k r]
def Te{A:Type}(f:A->A): ∀(k:Nat) (l:List A),(DY f k l)[k]? =l[k]?
 |0,_=>rfl
 |_+1,[]=>by simp[DY]
 |k+1,x::r=>by simp only[DY,DP,Te f k r]
def SS{A:Type}(f:A->A): ∀(k:Nat) (l:List A) (x:A),l[k]? =some x->(DY f k l).set k (f x)=DY f (k+1) l
 |0,[],x,h=>by simp at h
 |0,y::r,x,h=>by
  simp only[De,An] at h;subst h;simp[DY]
 |k+1,[],x,h=>by simp at h
 |k+1,y::r,x,h=>by
  have:=SS f k r x (by simpa using h)
  rw[DY,DY,M6,this]
def RX{A:Type}(f:A->A)(k:Nat)(l:List A)(x:A)(h:l[k]? =some x)(hf:f x=x):DY f (k+1) l=DY f k l:=by
 rw[<-SS f k l x h,hf];have z:(DY f k l)[k]? =some x:=by rw[Te,h]
 obtain⟨G,O⟩:=Ba.1 z;rw[<-O];exact List.set_getElem_self G
def Xa{A:Type}(f:A->A): ∀(k:Nat) (l:List A),l.length<=k->DY f k l=l.map f
 |0,[],_=>rfl
 |0,x::r,h=>by simp at h
 |_+1,[],_=>rfl
 |k+1,x::r,h=>by simp only[DY,Ay,Xa f k r (by simpa using h)]
def IM:Nat->List Int
 |0=>[]
 |k+1=>IM k++[(k:Int)]
def KC: ∀k,(IM k).length=k
 |0=>rfl
 |k+1=>by simp[IM,KC k]
def E4(x y v:Int):Int:=if v=maxI x y then minI x y else v
def OR(own:List Int)(b:Bond):List Int:=own.map (E4 (own[b.A.toNat]?.getD 0) (own[b.B.toNat]?.getD 0))
def ownK(n:Nat)(bs:List Bond):Nat->List Int
 |0=>IM n
 |k+1=>match bs[k]? with
  |some b=>OR (ownK n bs k) b
  |none=>ownK n bs k
def Uc(n:Nat)(bs:List Bond): ∀k,(ownK n bs k).length=n
 |0=>KC n
 |k+1=>by
  simp only[ownK];split
  .simp[OR,Uc n bs k]
  .exact Uc n bs k
def grpK(own:List Int)(i:Nat):Nat->List Int
 |0=>[]
 |k+1=>grpK own i k++(if own[i+k]? =some (i:Int) then [((i+k:Nat):Int)] else [])
def TH(own:List Int)(i:Nat): ∀k,(grpK own i k).length<=k
 |0=>by simp[grpK]
 |k+1=>by
  have:=TH own i k
  simp only[grpK,B5]
  split<;>simp<;>omega
def AI(own:List Int)(n:Nat):Nat->List (List Int)
 |0=>[]
 |k+1=>AI own n k++(if own[k]? =some (k:Int) then [grpK own k (n - k)] else [])
def O2(own:List Int)(n:Nat): ∀k,(AI own n k).length<=k
 |0=>by simp[AI]
 |k+1=>by
  have:=O2 own n k
  simp only[AI,B5]
  split<;>simp<;>omega
def Ht(n:Int)(bs:List Bond):List (List Int):=AI (ownK n.toNat bs bs.length) n.toNat n.toNat
def Fh(n:Int)(bs:List Bond):Prop:= ∀b∈bs,0<=b.A/\b.A<n/\0<=b.B/\b.B<n
def l06Groups.fv(a:Int×(List Bond)):List (List Int):=(Ht) (a.1) (a.2)
def l06Groups.row:Row:=vK (b2 qI (qS Bond.d_le Bond.c_n)) (rS KR sintC_n) (λa=>0<=a.1/\a.1<=1000000/\Fh a.1 a.2) l06Groups.fv
def l06Groups.q:=vKq (R:=l06Groups.row) rfl
def l06Groups.ok:Ak Tryz.prog 238 l06Groups.row:=by
 refine vw (tC l00Min.ok (tC l00Max.ok tN)) Tryz.func238 rfl (by kernel_rfl) ?_;intro a ad;simp only[Tryz.f238];simp(disch:=omega)only[ZA,simprocAttr,l06Groups.fv];obtain⟨aj,ak,Z⟩:=ad;obtain⟨n,hn⟩: ∃n:Nat,a.1=n:=⟨a.1.toNat,by omega⟩;simp only[Ht,hn,AH];rw[hn] at aj ak Z;refine Au.ren ⟨{k:Nat//k<=n},λk=>⟨[(6,.im (.int .i64 k.1)),(5,.own 2),(0,.im (.int .i64 n)),(1,.im (.sl false 3 (a.2.map Bond.c)))],[(2,(true,.arr 2 1 ((IM k.1).map intC)))],3⟩,λk=>n - k.1,λk=>⟨by simp[Ac.good,belT,belH,Ai,AV.bel],by simp⟩,⟨⟨0,by simp⟩,[(2,some 1)],?_⟩,λk=> ?_⟩
 .simp only[subP];simp(disch:=omega)only[ZA,simprocAttr,IM]
  try simp
 obtain⟨k,Q⟩:=k;simp(disch:=omega)only[ZA,simprocAttr,Aq,FI,FE,allD,D.one];have ab:=KC k;refine⟨λz=>⟨by rw[ab];omega,⟨k+1,by omega⟩,[(2,some 4)],by simp only;omega,?_⟩,λz=> ?_⟩
 .simp only[subP];simp(disch:=omega)only[ZA,simprocAttr];refine⟨by rw[Am (by omega) (by omega)];omega,by simp[IM,intC]⟩
 have ag:n=k:=by omega
 subst ag;clear ab z Q;refine Au.old ⟨{k:Nat//k<=a.2.length},λk=>⟨[(7,.im (.int .i64 k.1)),(5,.own 2),(0,.im (.int .i64 n)),(1,.im (.sl false 3 (a.2.map Bond.c)))],[(2,(true,.arr 2 1 ((ownK n a.2 k.1).map intC)))],3⟩,λk=>a.2.length - k.1,λk=>⟨by simp[Ac.good,belT,belH,Ai,AV.bel],by simp⟩,⟨⟨0,by simp⟩,by simp(disch:=omega)only[ZA,simprocAttr,sub,ownK]⟩,λk=> ?_⟩;obtain⟨k,Q⟩:=k;have G:=Uc n a.2 k;simp(disch:=omega)only[ZA,simprocAttr,Aq,G];intro _;refine⟨λz=>⟨z,λb hb=> ?_⟩,λz=> ?_⟩
 .obtain⟨b1,b2,b3,b4⟩:=Z b (Ax hb);refine⟨b1,b2,by omega,λx hx=>⟨z,λb' aa=> ?_⟩⟩;rw[hb] at aa;obtain rfl:=Al aa;refine⟨b3,b4,by omega,λy hy=> ?_⟩;refine Au.old ⟨{j:Nat//j<=n},λj=>⟨[(10,.im (.int .i64 j.1)),(9,.im (.int .i64 y)),(8,.im (.int .i64 x)),(7,.im (.int .i64 k)),(5,.own 2),(0,.im (.int .i64 n)),(1,.im (.sl false 3 (a.2.map Bond.c)))],[(2,(true,.arr 2 1 ((DY (E4 x y) j.1 (ownK n a.2 k)).map intC)))],3⟩,λj=>n - j.1,λj=>⟨by simp[Ac.good,belT,belH,Ai,AV.bel],by simp⟩,⟨⟨0,by simp⟩,by simp(disch:=omega)only[ZA,simprocAttr,sub,DY]⟩,λj=> ?_⟩;obtain⟨j,ao⟩:=j;have ac:=Xu (E4 x y) j (ownK n a.2 k);rw[G] at ac;have ah:=Te (E4 x y) j (ownK n a.2 k);simp(disch:=omega)only[ZA,simprocAttr,l00Min.q,l00Min.fv,l00Max.q,l00Max.fv,sub,Aq,ac];intro _;refine⟨λhj=>⟨hj,hj,λv hv=> ?_⟩,λhj=> ?_⟩
  .have au:=hv;rw[ah] at hv;refine⟨λO=>⟨hj,hj,λv' as=>⟨⟨j+1,by omega⟩,by simp only;omega,by rw[Am (by omega) (by omega)];simp only;omega,?_⟩⟩,λO=>⟨⟨j+1,by omega⟩,by simp only;omega,by rw[Am (by omega) (by omega)];simp only;omega,?_⟩⟩
   .rw[<-SS _ _ _ _ hv,Fz];simp only[E4,O,AQ,intC]
   .rw[RX _ _ _ _ hv (by simp only[E4];rw[Ab O])]
  .refine⟨⟨k+1,by omega⟩,by simp only;omega,by rw[Am (by omega) (by omega)];simp only;omega,?_⟩;rw[Xa _ _ _ (by omega)];simp only[ownK,hb,OR,hx,hy,Ao]
 have af:k=a.2.length:=by omega
 subst af;clear z Q Z;refine Au.frr ⟨{k:Nat//k<=n},λk=>⟨[(12,.im (.int .i64 k.1)),(11,.own 4),(5,.own 2),(0,.im (.int .i64 n))],[(4,(true,.arrA 32 1 (imR ((AI (ownK n a.2 a.2.length) n k.1).map Bo)))),(2,(true,.arr 2 1 ((ownK n a.2 a.2.length).map intC)))],5⟩,λk=>n - k.1,λk=>⟨by simp[Ac.good,belT,belH,Ai,AV.bel,UB],by simp⟩,⟨⟨0,by simp⟩,[],[(4,some 3)],?_⟩,λk=> ?_⟩
 .simp only[subP];simp(disch:=omega)only[ZA,simprocAttr,AC,AI]
  try simp
 obtain⟨k,Q⟩:=k;obtain⟨own,hown⟩: ∃own,own=ownK n a.2 a.2.length:=⟨_,rfl⟩;simp only[<-hown] at G⊢;have am:=O2 own n k;simp(disch:=omega)only[ZA,simprocAttr,Aq,G];refine⟨λz=>⟨z,z,λx hx=>⟨λO=>⟨⟨k+1,by omega⟩,[],[(4,some 4)],by simp only;omega,?_⟩,λO=> ?_⟩⟩,λz=> ?_⟩
 .have e1:AI own n (k+1)=AI own n k:=by
   simp only[AI];rw[Ab (by rw[hx];simpa using O),BJ]
  simp only[subP];simp(disch:=omega)only[ZA,simprocAttr,AC,XB,Pm,e1];rw[Am (by omega) (by omega)];simp
 .have O:=Df.1 O;refine Au.ren ⟨{m:Nat//m<=n - k},λm=>⟨[(14,.im (.int .i64 ((k+m.1:Nat):Int))),(13,.own 6),(12,.im (.int .i64 k)),(11,.own 4),(5,.own 2),(0,.im (.int .i64 n))],[(6,(true,.arr 2 1 ((grpK own k m.1).map intC))),(4,(true,.arrA 32 1 (imR ((AI own n k).map Bo)))),(2,(true,.arr 2 1 (own.map intC)))],7⟩,λm=>n - k - m.1,λm=>⟨by simp[Ac.good,belT,belH,Ai,AV.bel,UB],by simp⟩,⟨⟨0,by simp⟩,[(6,some 5)],?_⟩,λm=> ?_⟩
  .simp only[subP];simp(disch:=omega)only[ZA,simprocAttr,AC,grpK,Pm]
   try simp
  obtain⟨m,aq⟩:=m;have an:=TH own k m;simp(disch:=omega)only[ZA,simprocAttr,Aq,G,FI,FE,allD,D.one];refine⟨λhm=>⟨hm,hm,λv hv=>⟨λh=>⟨by omega,⟨m+1,by omega⟩,[(6,some 8)],by simp only;omega,?_⟩,λh=>⟨⟨m+1,by omega⟩,[(6,some 6)],by simp only;omega,?_⟩⟩⟩,λhm=>⟨by simp[belL,AV.bel],by omega,by rw[P7,all_bel2];simp[belL,AV.bel],⟨k+1,by omega⟩,[6],[(4,some 8)],by simp only;omega,?_⟩⟩
  .simp only[subP];simp(disch:=omega)only[ZA,simprocAttr,AC,Pm];refine⟨?_,?_⟩
   .rw[Am (by omega) (by omega)];omega
   .subst h;simp only[grpK];rw[Af hv];simp[intC]
  .simp only[subP];simp(disch:=omega)only[ZA,simprocAttr,AC,Pm];refine⟨?_,?_⟩
   .rw[Am (by omega) (by omega)];omega
   .simp only[grpK];rw[Ab (by rw[hv];simpa using h),BJ]
  .have ai:m=n - k:=by omega
   have e1:AI own n (k+1)=AI own n k++[grpK own k m]:=by
    simp only[AI];rw[Af (by rw[hx,O]),ai]
   simp only[subP];simp(disch:=omega)only[ZZ,simprocAttr,AC,XJ,XB,e1,Di];rw[Am (by omega) (by omega)];refine⟨by simp,?_⟩
   have:=Rt [(4,some 8)] ((AI own n k).map Bo++[[D.sl false 1 ((grpK own k m).map intC)]])
   simpa only[imR,Di,Ay,D2] using this
 .have:k=n:=by omega
  subst this;simp(disch:=omega)only[ZZ,simprocAttr,cvt_im2]
end Go.Ae
namespace Go.Ae
def famH(b n:Nat)(f:Nat->Ent):Ag:=(List.range n).map λi=>(b+i,f i)
def famH_succ(b n:Nat)(f:Nat->Ent):famH b (n+1) f=famH b n f++[(b+n,f n)]:=by
 simp only[famH,M3,Di,Ay,D2]
def Mk(b:Nat)(f:Nat->Ent)(m:Nat): ∀(n:Nat),hget (famH b n f) m=if b<=m/\m<b+n then some (f (m - b)) else none
 |0=>by rw[Ab (by omega)];rfl
 |n+1=>by
  rw[famH_succ,Qt,Mk b f m n];simp only[hget];by_cases h:b<=m/\m<b+n
  .rw[Af h,Af (by omega)]
  .rw[Ab h];by_cases z:b+n=m
   .subst z;rw[Af (by omega),show b+n - b=n by omega];simp
   .have:(b+n==m)=false:=by simpa using z
    rw[this,Ab (by omega)];rfl
def DL(b n:Nat)(f:Nat->Ent)(j:Nat)(h:j<n):hget (famH b n f) (b+j)=some (f j):=by
 rw[Mk,Af (by omega),show b+j - b=j by omega]
def SR(b n:Nat)(f:Nat->Ent)(m:Nat)(h:m<b\/b+n<=m):hget (famH b n f) m=none:=by
 rw[Mk,Ab (by omega)]
def I2(m:Nat)(ks:List Nat): ∀(x:Ag),hget (hdel x ks) m=if ks.contains m then none else hget x m
 |[]=>by simp[hdel,hget]
 |(q,e)::r=>by
  simp only[hdel];have ih:=I2 m ks r;cases hq:ks.contains q
  .simp only[AM,hget];cases hqm:q==m
   .simpa using ih
   .have:q=m:=by simpa using hqm
    subst this;simp only[Bc,hq];rfl
  .simp only[Bc,ih,hget];cases hqm:q==m
   .simp
   .have:q=m:=by simpa using hqm
    subst this;rw[Af hq,Af hq]
def HO(b n:Nat)(f:Nat->Ent)(ks:List Nat)(h: ∀k∈ks,k<b\/b+n<=k):hdel (famH b n f) ks=famH b n f:=by
 have: ∀(l:List Nat),(∀i∈l,i<n)->hdel (l.map λi=>(b+i,f i)) ks=l.map λi=>(b+i,f i):=by
  intro l;induction l with
  |nil=>intro _;rfl
  |cons i r ih=>
   intro G;have z:=G i (AU ..);have hc:ks.contains (b+i)=false:=by
    rw[G2];intro hc
    have:=h _ (DQ.1 hc)
    omega
   simp only[Ay,hdel,hc,AM,ih (λj O=>G j (AX _ O))]
 exact this _ (λi z=>AJ.1 z)
def SV(π:List (Nat×Option Nat))(s:Ac)(y:Ag): ∀(x:Ag),Dw π s (x++y)=(Dw π s x/\Dw π s y)
 |[]=>by simp[Dw]
 |(q,(z,e))::r=>by simp only[Bv,Dw,SV π s y r,M9]
def KG(π:List (Nat×Option Nat))(s:Ac)(b n:Nat)(f:Nat->Ent):Dw π s (famH b n f)↔ ∀i,i<n->entN s π (f i).1 (f i).2 (pm π (b+i)):=by
 have: ∀(l:List Nat),Dw π s (l.map λi=>(b+i,f i))↔ ∀i∈l,entN s π (f i).1 (f i).2 (pm π (b+i)):=by
  intro l;induction l with
  |nil=>simp[Dw]
  |cons i r ih=>simp only[Ay,Dw,ih,A9,RF]
 rw[famH,this];simp only[AJ]
def Cy:Ag->List Nat
 |[]=>[]
 |(n,_)::r=>n::Cy r
def KQ(π:List (Nat×Option Nat)): ∀(H:Ag),imP π H=(Cy H).map (pm π)
 |[]=>rfl
 |(n,e)::r=>by simp only[imP,Cy,Ay,KQ π r]
def Jc(b n:Nat)(f:Nat->Ent):Cy (famH b n f)=(List.range n).map (b+ ·):=by
 have: ∀(l:List Nat),Cy (l.map λi=>(b+i,f i))=l.map (b+ ·):=by
  intro l;induction l with
  |nil=>rfl
  |cons i r ih=>simp only[Ay,Cy,ih]
 exact this _
def KZ(g:Nat->Option Nat): ∀(l:List Nat),l.Nodup->(∀x∈l,∀y∈l,∀m,g x=some m->g y=some m->x=y)->nodS (l.map g)=true
 |[],_,_=>rfl
 |x::r,h,G=>by
  simp only[Ed] at h;have ih:=KZ g r h.2 (λa Q b hb=>G a (AX _ Q) b (AX _ hb));simp only[Ay];cases hx:g x with
  |none=>simpa only[nodS] using ih
  |some m=>
   simp only[nodS,ih,CB,EX];rw[G2];intro hc;obtain⟨y,O,z⟩:=AF.1 (DQ.1 hc)
   have:=G x (AU ..) y (AX _ O) m hx z
   exact h.1 (this▸O)
def La(π:List (Nat×Option Nat)): ∀(a b:List (List AV)),mtR π a b↔a.length=b.length/\ ∀(i:Nat) x y,a[i]? =some x->b[i]? =some y->mtL π x y
 |[],[]=>by simp[mtR]
 |[],_::_=>by simp[mtR]
 |_::_,[]=>by simp[mtR]
 |x::r,y::s=>by
  simp only[mtR,La π r s,Bs,Nat.add_right_cancel_iff];constructor
  .rintro⟨Z,Q,O⟩;refine⟨Q,λi x' y' z G=> ?_⟩;cases i with
   |zero=>
    simp only[De,An] at z G;subst z;subst G;exact Z
   |succ i=>exact O i x' y' (by simpa using z) (by simpa using G)
  .rintro⟨Q,O⟩;exact⟨O 0 x y rfl rfl,Q,λi x' y' z G=>O (i+1) x' y' (by simpa using z) (by simpa using G)⟩
def GY(nx b:Nat)(f:Nat->Ent)(hf: ∀i,belH nx [(b+i,f i)]=true)(n:Nat):belH nx (famH b n f)=true:=by
 have G: ∀(x y:Ag),belH nx (x++y)=(belH nx x && belH nx y):=by
  intro x y;induction x with
  |nil=>simp[belH]
  |cons z r ih=>
   obtain⟨q,Q,e⟩:=z;cases e<;>simp[belH,ih,RI]
 have: ∀(l:List Nat),belH nx (l.map λi=>(b+i,f i))=true:=by
  intro l;induction l with
  |nil=>rfl
  |cons i r ih=>
   have O:=G [(b+i,f i)] (r.map λi=>(b+i,f i));rw[Ay,show (b+i,f i)::(r.map λi=>(b+i,f i))=[(b+i,f i)]++(r.map λi=>(b+i,f i)) from rfl,O,hf i,ih];rfl
 exact this _
def GK(nx b n:Nat)(f:Nat->Ent)(h:b+n<=nx):Ai nx (famH b n f)=true:=by
 have: ∀(l:List Nat),(∀i∈l,i<n)->Ai nx (l.map λi=>(b+i,f i))=true:=by
  intro l;induction l with
  |nil=>intro _;rfl
  |cons i r ih=>
   intro z;simp only[Ay,Ai,ih (λj O=>z j (AX _ O)),CB];rw[Ch]
   have:=z i (AU ..)
   omega
 exact this _ (λi G=>AJ.1 G)
def famP(b n:Nat):List (Nat×Option Nat):=(List.range n).map λi=>(b+i,none)
def Mi(b n m:Nat):pm (famP b n) m=if b<=m/\m<b+n then none else some m:=by
 have: ∀(l:List Nat),pm (l.map λi=>(b+i,none)) m=if b<=m/\m - b∈l then none else some m:=by
  intro l;induction l with
  |nil=>simp[pm]
  |cons i r ih=>
   simp only[Ay,pm,ih,A9];by_cases h:b+i=m
   .rw[Af h,Af ⟨by omega,.inl (by omega)⟩]
   .rw[Ab h];by_cases z:b<=m/\m - b∈r
    .rw[Af z,Af ⟨z.1,.inr z.2⟩]
    .rw[Ab z,Ab (by rintro⟨O,G|G⟩;exact h (by omega);exact z ⟨O,G⟩)]
 rw[famP,this];simp only[AJ];by_cases h:b<=m/\m<b+n
 .rw[Af h,Af (by omega)]
 .rw[Ab h,Ab (by omega)]
def geP_famP(lo b n:Nat)(h:lo<=b):geP lo (famP b n):=by
 have: ∀(l:List Nat),geP lo (l.map λi=>(b+i,none)):=by
  intro l;induction l with
  |nil=>trivial
  |cons i r ih=>simp only[Ay,geP];exact⟨by omega,ih⟩
 exact this _
end Go.Ae
namespace Go.Ae
open Go.Proofs
def B3(n:Net)(v i:Int):Int×Int:=match n.Bonds[i.toNat]? with
 |some b=>if b.A=v then (b.Strength - n.Flow[i.toNat]?.getD 0,b.B) else (b.Strength+n.Flow[i.toNat]?.getD 0,b.A)
 |none=>(0,0)
structure B6(n:Net):Prop where
 c0:0<=n.Cnt
 c1:n.Cnt<=1000000
 fl:n.Flow.length=n.Bonds.length
 al:(n.At.length:Int)=n.Cnt
 bs:Fh n.Cnt n.Bonds
 at_: ∀(v:Nat) (r:List Int),n.At[v]? =some r-> ∀i∈r,0<=i/\ ∃b,n.Bonds[i.toNat]? =some b/\(b.A=v\/b.B=v)
 f: ∀x∈n.Flow,-1000000<=x/\x<=1000000
 st: ∀b∈n.Bonds,0<=b.Strength/\b.Strength<=1000000
 all: ∀(i:Nat) b,n.Bonds[i]? =some b->(∃r,n.At[b.A.toNat]? =some r/\(i:Int)∈r)/\ ∃r,n.At[b.B.toNat]? =some r/\(i:Int)∈r
 ne: ∀b∈n.Bonds,b.A≠b.B
def roomC.fv(a:Net×Int×Int):Int×Int:=(B3) (a.1) (a.2.1) (a.2.2)
def roomC.row:Row:=vKF (b3 (qP 4 Net.d_le) qI qI) (r2 rI rI) (λa=>B6 a.1/\0<=a.2.2/\a.2.2<a.1.Bonds.length) roomC.fv
def roomC.q:=vKFq (R:=roomC.row) rfl
def roomC.ok:Ak Tryz.prog 282 roomC.row:=by
 refine vwF tN Tryz.func282 rfl (by kernel_rfl) ?_;intro a z;simp only[Tryz.f282];simp(disch:=omega)only[ZZ,simprocAttr,roomC.fv,D.sc,D.scs,decD];obtain⟨G,O,Z⟩:=z;have aa:=G.fl;refine⟨O,Z,λb hb=> ?_⟩;have ab:=G.st b (Ax hb)
 split<;>rename_i h
 .refine⟨O,by omega,λf hf=> ?_⟩;have Q:=G.f f (Ax hf);rw[Am (by omega) (by omega)];simp only[B3,hb,hf,Ao];rw[Af h]
 .refine⟨O,by omega,λf hf=> ?_⟩;have Q:=G.f f (Ax hf);rw[Am (by omega) (by omega)];simp only[B3,hb,hf,Ao];rw[Ab h]
def BC(n:Net)(v i:Int):Int:=match n.Bonds[i.toNat]? with
 |some b=>b.A+b.B - v
 |none=>0
def bfs1(n:Net)(v:Int)(s:List Int×List Int)(i:Int):List Int×List Int:=
 if s.1[(BC n v i).toNat]?.getD 0<0/\0<(B3 n (BC n v i) i).1 then (s.1.set (BC n v i).toNat (s.1[v.toNat]?.getD 0+1),s.2++[BC n v i]) else s
def Bk(n:Net)(q:Int):Nat->List Int×List Int
 |0=>((List.replicate n.Cnt.toNat (-1)).set q.toNat 0,[q])
 |k+1=>match (Bk n q k).2[k]? with
  |none=>Bk n q k
  |some v=>(n.At[v.toNat]?.getD []).foldl (bfs1 n v) (Bk n q k)
def Cv(n:Net)(q:Int):List Int:=(Bk n q n.Cnt.toNat).1
structure IE(n:Net)(s:List Int×List Int):Prop where
 len:s.1.length=n.Cnt.toNat
 rng: ∀x∈s.1,-1<=x/\x<=s.2.length
 q: ∀x∈s.2,0<=x/\x<n.Cnt
 cnt:(s.1.filter (λx=>decide (0<=x))).length=s.2.length
def SM{A:Type}(p:A->Bool): ∀(l:List A) (w:Nat) (x y:A),l[w]? =some x->p x=false->p y=true->((l.set w y).filter p).length=(l.filter p).length+1
 |[],w,x,y,h,_,_=>by simp at h
 |z::r,0,x,y,h,G,O=>by
  simp only[De,An] at h;subst h;simp[G,O]
 |z::r,w+1,x,y,h,G,O=>by
  have:=SM p r w x y (by simpa using h) G O
  simp only[M6,RE];split
  .simp only[Bs,this]
  .exact this
def Qo{n:Net}(h0:0<=n.Cnt){s:List Int×List Int}(h:IE n s):(s.2.length:Int)<=n.Cnt:=by
 have z:=h.cnt;have G:=R4 (λx=>decide (0<=x)) s.1;have O:=h.len;omega
def KO{n:Net}(hn:B6 n){v:Nat}{r:List Int}(O:n.At[v]? =some r){i:Int}(G:i∈r):0<=i/\i<n.Bonds.length/\0<=BC n v i/\BC n v i<n.Cnt:=by
 obtain⟨h0,b,hb,Z⟩:=hn.at_ v r O i G;have z:=hn.bs b (Ax hb);have Q:=(Ba.1 hb).1;simp only[BC,hb];omega
def Ua{n:Net}(hn:B6 n){v:Nat}{r:List Int}(Z:n.At[v]? =some r){i:Int}(Q:i∈r){s:List Int×List Int}(hs:IE n s):IE n (bfs1 n v s i):=by
 obtain⟨_,_,o1,o2⟩:=KO hn Z Q;simp only[bfs1];split
 .rename_i h;have G:(BC n v i).toNat<s.1.length:=by rw[hs.len];omega
  obtain⟨x,hx⟩: ∃x,s.1[(BC n v i).toNat]? =some x:=⟨_,A8 G⟩;have aa:x<0:=by have:=h.1;rw[hx] at this;simpa using this
  have O:0<=s.1[(v:Int).toNat]?.getD 0+1/\s.1[(v:Int).toNat]?.getD 0+1<=s.2.length+1:=by
   cases hv:s.1[(v:Int).toNat]? with
   |none=>simp;omega
   |some y=>have:=hs.rng y (Ax hv);simp only[Ao];omega
  refine⟨by simpa using hs.len,λy z=> ?_,λy z=> ?_,?_⟩
  .simp only[B5,Bs,D0];rcases IQ z with z|z
   .have:=hs.rng y z;omega
   .subst z;omega
  .rcases AG.1 z with z|z
   .exact hs.q y z
   .rw[AO] at z;subst z;exact⟨o1,o2⟩
  .rw[SM _ _ _ x _ hx (by rw[EZ];omega) (by rw[AP];exact O.1),hs.cnt];simp
 .exact hs
def TA{n:Net}(hn:B6 n){v:Nat}{r:List Int}(O:n.At[v]? =some r): ∀(l:List Int) (s:List Int×List Int),(∀i∈l,i∈r)->IE n s->IE n (l.foldl (bfs1 n v) s)
 |[],s,_,z=>z
 |i::l,s,G,z=>TA hn O l _ (λj Q=>G j (AX _ Q)) (Ua hn O (G i (AU ..)) z)
def I5{n:Net}(hn:B6 n){q:Int}(h0:0<=q)(G:q<n.Cnt): ∀k,IE n (Bk n q k)
 |0=>by
  have hq:q.toNat<n.Cnt.toNat:=by omega
  refine⟨by simp[Bk],λx z=> ?_,λx z=> ?_,?_⟩
  .simp only[Bk] at z⊢;rcases IQ z with z|z
   .have:=Gf z;simp;omega
   .subst z;simp
  .simp only[Bk,AO] at z;subst z;exact⟨h0,G⟩
  .simp only[Bk];rw[SM _ _ _ (-1) _ (by rw[Fu,Af hq]) (by simp) (by simp)]
   have:(List.replicate n.Cnt.toNat (-1:Int)).filter (λx=>decide (0<=x))=[]:=by
    rw[List.filter_eq_nil_iff];intro x z;rw[Gf z];simp
   rw[this];rfl
 |k+1=>by
  have ih:=I5 hn h0 G k;simp only[Bk];split
  .exact ih
  .rename_i v Q;have Z:=ih.q v (Ax Q);obtain⟨m,rfl⟩: ∃m:Nat,v=m:=⟨v.toNat,by omega⟩;have O:m<n.At.length:=by have:=hn.al;omega
   obtain⟨r,hr⟩: ∃r,n.At[m]? =some r:=⟨_,A8 O⟩;simp only[AH,hr,Ao];exact TA hn hr r _ (λ_ h=>h) ih
def bfs_end(n:Net)(q:Int): ∀(m k:Nat),(Bk n q k).2.length<=k->Bk n q (k+m)=Bk n q k
 |0,k,_=>rfl
 |m+1,k,h=>by
  have z:Bk n q (k+1)=Bk n q k:=by
   rw[Bk,CH h]
  have G:=bfs_end n q m (k+1) (by rw[z];omega);rw[show k+(m+1)=k+1+m by omega,G,z]
def Xt(n:Net)(v:Int): ∀(l:List Int) (s:List Int×List Int),s.2.length<=(l.foldl (bfs1 n v) s).2.length
 |[],s=>Ar _
 |i::l,s=>by
  have z:s.2.length<=(bfs1 n v s i).2.length:=by
   simp only[bfs1];split
   .simp
   .exact Ar _
  exact BK z (Xt n v l _)
def stepsC.fv(a:Net×Int):List Int:=(Cv) (a.1) (a.2)
def stepsC.row:Row:=vKF (b2 (qP 4 Net.d_le) qI) (rS BB Bm) (λa=>B6 a.1/\0<=a.2/\a.2<a.1.Cnt) stepsC.fv
def stepsC.q:=vKFq (R:=stepsC.row) rfl
def stepsC.ok:Ak Tryz.prog 264 stepsC.row:=by
 refine vwF (tC roomC.ok tN) Tryz.func264 rfl (by kernel_rfl) ?_;intro a ag;simp only[Tryz.f264];simp(disch:=omega)only[ZZ,simprocAttr,stepsC.fv];obtain⟨hn,ah,an⟩:=ag;have au:=hn.c1;obtain⟨c,hc⟩: ∃c:Nat,a.1.Cnt=c:=⟨a.1.Cnt.toNat,by omega⟩;refine Au.ren ⟨{k:Nat//k<=c},λk=>⟨[(6,.im (.int .i64 k.1)),(5,.own 3),(0,.ptr 0 0),(1,.im (.int .i64 a.2))],[(3,(true,.arr 2 1 ((List.replicate k.1 (-1:Int)).map intC))),(0,(false,.view (Net.c a.1)))],4⟩,λk=>c - k.1,λk=>⟨by simp[Ac.good,belT,belH,Ai,AV.bel],by simp⟩,⟨⟨0,by simp⟩,[(3,some 2)],?_⟩,λk=> ?_⟩
 .simp only[subP];simp(disch:=omega)only[ZZ,simprocAttr,AC,List.replicate_zero]
  try simp
 obtain⟨k,ak⟩:=k;simp(disch:=omega)only[ZZ,simprocAttr,ORC,Aq,hc,Gb];refine⟨λhk=>⟨by omega,⟨k+1,by omega⟩,[(3,some 5)],by simp only;omega,?_⟩,λhk=> ?_⟩
 .simp only[subP];simp(disch:=omega)only[ZA,simprocAttr,AC];refine⟨by rw[Am (by omega) (by omega)];omega,?_⟩;rw[List.replicate_succ'];simp[intC]
 have am:c=k:=by omega
 subst am;refine⟨ah,by omega,by omega,λ_ _=> ?_⟩;have aq:=hn.al;have ac:=I5 hn ah an;refine Au.ren ⟨{k:Nat//k<=(Bk a.1 a.2 k).2.length},λk=>⟨[(8,.im (.int .i64 k.1)),(7,.own 5),(5,.own 3),(0,.ptr 0 0),(1,.im (.int .i64 a.2))],[(5,(true,.arr 2 1 ((Bk a.1 a.2 k.1).2.map intC))),(3,(true,.arr 2 1 ((Bk a.1 a.2 k.1).1.map intC))),(0,(false,.view (Net.c a.1)))],6⟩,λk=>c - k.1,λk=>⟨by simp[Ac.good,belT,belH,Ai,AV.bel],by simp⟩,⟨⟨0,by simp⟩,[(5,some 4)],?_⟩,λk=> ?_⟩
 .simp only[subP];simp(disch:=omega)only[ZZ,simprocAttr,AC,hc,Bk];simp[intC,Fz]
 obtain⟨k,ak⟩:=k;have hi:=ac k;have av:=hi.len;have ax:=Qo (by omega) hi;simp(disch:=omega)only[ZZ,simprocAttr,ORC,D.sc,scL,decD,Aq,hc];intro _;refine⟨λhk=>⟨hk,hk,λv hv=> ?_⟩,λhk=> ?_⟩
 .have a0:=hi.q v (Ax hv);obtain⟨m,rfl⟩: ∃m:Nat,v=m:=⟨v.toNat,by omega⟩;have hm:m<a.1.At.length:=by omega
  obtain⟨r,hr⟩: ∃r,a.1.At[m]? =some r:=⟨_,A8 hm⟩;have O:Bk a.1 a.2 (k+1)=r.foldl (bfs1 a.1 m) (Bk a.1 a.2 k):=by
   simp only[Bk,hv,AH,hr,Ao]
  refine Au.ren ⟨{j:Nat//j<=r.length},λj=>⟨[(10,.im (.int .i64 j.1)),(9,.im (.int .i64 m)),(8,.im (.int .i64 k)),(7,.own 6),(5,.own 3),(0,.ptr 0 0),(1,.im (.int .i64 a.2))],[(6,(true,.arr 2 1 (((r.take j.1).foldl (bfs1 a.1 m) (Bk a.1 a.2 k)).2.map intC))),(3,(true,.arr 2 1 (((r.take j.1).foldl (bfs1 a.1 m) (Bk a.1 a.2 k)).1.map intC))),(0,(false,.view (Net.c a.1)))],7⟩,λj=>r.length - j.1,λj=>⟨by simp[Ac.good,belT,belH,Ai,AV.bel],by simp⟩,⟨⟨0,by simp⟩,[(6,some 5)],?_⟩,λj=> ?_⟩
  .simp only[subP];simp(disch:=omega)only[ZZ,simprocAttr,AC,hc,R6]
   try simp
  obtain⟨j,aw⟩:=j;have hs:=TA hn hr (r.take j) _ (λi hi=>Rw hi) hi;obtain⟨s,hsd⟩: ∃s,s=(r.take j).foldl (bfs1 a.1 m) (Bk a.1 a.2 k):=⟨_,rfl⟩;rw[<-hsd] at hs;have ao:=hs.len;have az:=Qo (by omega) hs;simp only[<-hsd];have af:(⟨(c:Int),a.1.Bonds,a.1.At,a.1.Flow⟩:Net)=a.1:=by rw[<-hc]
  simp(disch:=omega)only[ZZ,simprocAttr,rch,roomC.q,roomC.fv,ORC,Aq,hc,af,ao,FI,FE,PJ,allD,D.one];refine⟨hm,λr' G=> ?_⟩;rw[hr] at G;obtain rfl:=Al G;intro ay;refine⟨λhj=>⟨hm,λr' G=> ?_⟩,λhj=> ?_⟩
  .rw[hr] at G;obtain rfl:=Al G;refine⟨hj,λi ab=> ?_⟩;have ai:=Ax ab;obtain⟨i0,i1,o0,o1⟩:=KO hn hr ai;have z:(r.take (j+1)).foldl (bfs1 a.1 m) (Bk a.1 a.2 k)=bfs1 a.1 m s i:=by
    rw[Ec,ab,List.foldl_append,<-hsd];rfl
   refine⟨i0,i1,λb hb=>⟨i0,i1,λb' aa=> ?_⟩⟩;rw[hb] at aa;obtain rfl:=Al aa;have as:=hn.bs b (Ax hb);have hw:IntKind.wrap .i64 (IntKind.wrap .i64 (b.A+b.B) - m)=BC a.1 m i:=by
    rw[Am (x:=b.A+b.B) (by omega) (by omega),Am (by omega) (by omega)];simp only[BC,hb]
   rw[hw];have ad:(BC a.1 m i).toNat<c:=by omega
   refine⟨⟨hn,i0,i1⟩,o0,by omega,ad,λx hx=>⟨λZ=>⟨λQ=>⟨by omega,by omega,λy hy=>⟨o0,by omega,ad,λ_ _=>⟨by omega,⟨j+1,by omega⟩,[(6,some 8)],by simp only;omega,?_⟩⟩⟩,λQ=>⟨⟨j+1,by omega⟩,[(6,some 6)],by simp only;omega,?_⟩⟩,λZ=>⟨⟨j+1,by omega⟩,[(6,some 6)],by simp only;omega,?_⟩⟩⟩
   .have e1:bfs1 a.1 m s i=(s.1.set (BC a.1 m i).toNat (y+1),s.2++[BC a.1 m i]):=by
     simp only[bfs1];rw[Af ⟨by rw[hx];exact Z,Q⟩,AH,hy];rfl
    have a8:=hs.rng y (Ax hy);simp only[subP,z,e1];simp(disch:=omega)only[ZA,simprocAttr,AC];rw[Am (x:=y+1) (by omega) (by omega)];refine⟨by rw[Am (by omega) (by omega)];omega,?_,?_⟩
    .simp[intC]
    .simp[intC,Fz]
   .have e1:bfs1 a.1 m s i=s:=by
     simp only[bfs1];rw[Ab (λh=>Q h.2)]
    simp only[subP,z,e1];simp(disch:=omega)only[ZA,simprocAttr,AC];rw[Am (by omega) (by omega)];simp
   .have e1:bfs1 a.1 m s i=s:=by
     simp only[bfs1];rw[Ab (λh=>Z (by have:=h.1;rw[hx] at this;exact this))]
    simp only[subP,z,e1];simp(disch:=omega)only[ZA,simprocAttr,AC];rw[Am (by omega) (by omega)];simp
  .have aj:j=r.length:=by omega
   subst aj;rw[Dh] at hsd;refine⟨⟨k+1,by
    have:=Xt a.1 m r (Bk a.1 a.2 k)
    rw[O];omega⟩,[(5,some 6)],by simp only;omega,?_⟩
   simp only[subP,O,<-hsd];simp(disch:=omega)only[ZA,simprocAttr,AC];rw[Am (by omega) (by omega)];simp
 .rw[Cv,hc,AH]
  have:=bfs_end a.1 a.2 (c - k) k (by omega)
  rw[show k+(c - k)=c by omega] at this;rw[this]
def J0(l:List Int):Nat->List Int
 |0=>[]
 |k+1=>J0 l k++(if 0<=l[k]?.getD (-1) then [(k:Int)] else [])
def WB(l:List Int): ∀k,(J0 l k).length<=k
 |0=>Ar _
 |k+1=>by
  have:=WB l k
  simp only[J0,B5]
  split<;>simp<;>omega
def Lo(n:Net)(q:Int):List Int:=J0 (Cv n q) n.Cnt.toNat
def Oq{n:Net}(hn:B6 n){q:Int}(h0:0<=q)(z:q<n.Cnt):(Cv n q).length=n.Cnt.toNat:=(I5 hn h0 z _).len
def sideC.fv(a:Net×Int):List Int:=(Lo) (a.1) (a.2)
def sideC.row:Row:=vKF (b2 (qP 4 Net.d_le) qI) (rS BB Bm) (λa=>B6 a.1/\0<=a.2/\a.2<a.1.Cnt) sideC.fv
def sideC.q:=vKFq (R:=sideC.row) rfl
def sideC.ok:Ak Tryz.prog 243 sideC.row:=by
 refine vwF (tC stepsC.ok tN) Tryz.func243 rfl (by kernel_rfl) ?_;intro a z;simp only[Tryz.f243];simp(disch:=omega)only[ZZ,simprocAttr,rch,sideC.fv,stepsC.q,stepsC.fv];refine⟨z,?_⟩;obtain⟨hn,O,Q⟩:=z;have aa:=hn.c1;obtain⟨c,hc⟩: ∃c:Nat,a.1.Cnt=c:=⟨a.1.Cnt.toNat,by omega⟩;have G:=Oq hn O Q;rw[hc,AH] at G;simp only[Lo,hc,AH];obtain⟨l,hl⟩: ∃l,l=Cv a.1 a.2:=⟨_,rfl⟩;simp only[<-hl] at G⊢;refine Au.ren ⟨{k:Nat//k<=c},λk=>⟨[(7,.im (.int .i64 k.1)),(6,.own 3),(5,.im (.sl false 1 (l.map intC))),(0,.ptr 0 0)],[(3,(true,.arr 2 1 ((J0 l k.1).map intC))),(0,(false,.view (Net.c a.1)))],4⟩,λk=>c - k.1,λk=>⟨by simp[Ac.good,belT,belH,Ai,AV.bel],by simp⟩,⟨⟨0,by simp⟩,[(3,some 2)],?_⟩,λk=> ?_⟩
 .simp only[subP];simp(disch:=omega)only[ZZ,simprocAttr,AC,hc,J0]
  try simp
 obtain⟨k,ab⟩:=k;have ac:=WB l k;simp(disch:=omega)only[ZZ,simprocAttr,ORC,D.sc,scL,decD,Aq,hc,G,FI,FE,PJ,allD,D.one];refine⟨λZ=>⟨Z,λx hx=>⟨λh=>⟨by omega,⟨k+1,by omega⟩,[(3,some 5)],by simp only;omega,?_⟩,λh=>⟨⟨k+1,by omega⟩,[(3,some 3)],by simp only;omega,?_⟩⟩⟩,λZ=> ?_⟩
 .simp only[subP];simp(disch:=omega)only[ZA,simprocAttr,AC];refine⟨by rw[Am (by omega) (by omega)];omega,?_⟩;simp only[J0,hx,Ao];rw[Af h];simp[intC]
 .simp only[subP];simp(disch:=omega)only[ZA,simprocAttr,AC];refine⟨by rw[Am (by omega) (by omega)];omega,?_⟩;simp only[J0,hx,Ao];rw[Ab h,BJ]
 .rw[show k=c by omega]
def DX(n:Net)(v i:Int):Net:=⟨n.Cnt,n.Bonds,n.At,match n.Bonds[i.toNat]? with
 |some b=>n.Flow.set i.toNat (if b.A=v then n.Flow[i.toNat]?.getD 0+1 else n.Flow[i.toNat]?.getD 0 - 1)
 |none=>n.Flow⟩
def DS(n:Net):List AV:=[.im (.int .i64 n.Cnt),.im (.sl false 3 (n.Bonds.map Bond.c)),.im (.sl false 1 (n.At.map Bo)),.own 1]
def netH(n:Net):Ag:=[(0,(true,.cells 344 (DS n))),(1,(true,.arr 2 1 (n.Flow.map intC)))]
def MJ(n:Net)(j:Nat):domB (netH n) j=true↔j<2:=by
 simp only[domB,netH,hget];by_cases h0:j=0
 .subst h0;simp
 .by_cases O:j=1
  .subst O;simp
  .have z:(0==j)=false:=by simp;omega
   have G:(1==j)=false:=by simp;omega
   simp[z,G];omega
def kl1(j:Nat):Bool:=j==1
def pushC.ca(a:Net×Int×Int):List AV:=[.ptr 0 0,.im (.int .i64 a.2.1),.im (.int .i64 a.2.2)]
def pushC.H1(a:Net×Int×Int):Ag:=[(1,(true,.arr 2 1 ((DX a.1 a.2.1 a.2.2).Flow.map intC)))]
def pushC.row:Row:=orow pushC.ca (λa=>netH a.1) 2 (λa=>B6 a.1/\0<=a.2.2/\a.2.2<a.1.Bonds.length) kl1 (λ_=> .im (.tup [])) pushC.H1 0
def pushC.ok:Ak Tryz.prog 283 pushC.row:=by
 refine ow tN Tryz.func283 rfl (by kernel_rfl) (exB:=λ_=>false) (R:=λ_ r=>r= .im (.tup [])) (λ_=>rfl)
  (λa=>by simp[pushC.ca,netH,DS,belL,AV.bel,belH,Ai,AT,AObj.nms,nmsL,AV.nms,domB,hget]) (λa p hp=> ?_) (λa r h=>by subst h;exact LeV.refl _) ?_
 rotate_left
 intro a z;simp only[Tryz.f283,pushC.ca,netH,DS,pushC.H1];simp(disch:=omega)only[ZA,simprocAttr,kl1];obtain⟨hn,h0,O⟩:=z;have Q:=hn.fl;refine⟨h0,O,λb hb=> ?_⟩
 split<;>rename_i h
 .refine⟨h0,by omega,by omega,λf hf=>⟨h0,by omega,by omega,λ_ _=> ?_⟩⟩;have G:=hn.f f (Ax hf);rw[Am (by omega) (by omega)];simp only[DX,hb,hf,Ao,Af h,Fz];rfl
 .refine⟨h0,by omega,by omega,λf hf=>⟨h0,by omega,by omega,λ_ _=> ?_⟩⟩;have G:=hn.f f (Ax hf);rw[Am (by omega) (by omega)];simp only[DX,hb,hf,Ao,Ab h,Fz];rfl
 simp[pushC.H1] at hp;subst hp;exact .inl ⟨by omega,rfl,rfl⟩
structure bfsP(n:Net)(q:Int)(s:List Int×List Int):Prop where
 zero:s.1[q.toNat]? =some 0
 uniq: ∀(w:Nat),s.1[w]? =some 0->w=q.toNat
 prev: ∀(w:Nat) (x:Int),s.1[w]? =some x->0<x-> ∃(v:Nat) (r:List Int) (i:Int),s.1[v]? =some (x - 1)/\n.At[v]? =some r/\i∈r/\BC n v i=w/\0<(B3 n w i).1
 qs: ∀v∈s.2,∃y,s.1[v.toNat]? =some y/\0<=y
def Ou(n:Net)(v:Int)(s:List Int×List Int)(i:Int)(u:Nat)(y:Int)(h:s.1[u]? =some y)(h0:0<=y):(bfs1 n v s i).1[u]? =some y:=by
 simp only[bfs1];split
 .rename_i hc;have z:(BC n v i).toNat≠u:=by
   intro G;rw[G,h] at hc
   have:=hc.1
   simp at this;omega
  simp only;rw[BM z];exact h
 .exact h
def Th(n:Net)(v:Int)(u:Nat)(y:Int)(h0:0<=y): ∀(l:List Int) (s:List Int×List Int),s.1[u]? =some y->(l.foldl (bfs1 n v) s).1[u]? =some y
 |[],_,h=>h
 |i::l,s,h=>Th n v u y h0 l _ (Ou n v s i u y h h0)
def bfs1_P{n:Net}(hn:B6 n){q:Int}{v:Nat}{r:List Int}(hr:n.At[v]? =some r){i:Int}(hi:i∈r){s:List Int×List Int}(hs:IE n s)(hp:bfsP n q s){y:Int}(hv:s.1[v]? =some y)(hy:0<=y):bfsP n q (bfs1 n v s i):=by
 obtain⟨_,_,o1,o2⟩:=KO hn hr hi;have keep:=λu z h h0=>Ou n v s i u z h h0
 have Z:(BC n v i).toNat<s.1.length:=by rw[hs.len];omega
 by_cases hc:s.1[(BC n v i).toNat]?.getD 0<0/\0<(B3 n (BC n v i) i).1
 .have Q:bfs1 n v s i=(s.1.set (BC n v i).toNat (y+1),s.2++[BC n v i]):=by
   simp only[bfs1];rw[Af hc,AH,hv];rfl
  have hget: ∀(w:Nat) (x:Int),(bfs1 n v s i).1[w]? =some x->(w=(BC n v i).toNat/\x=y+1)\/s.1[w]? =some x:=by
   intro w x G;rw[Q] at G;simp only at G;by_cases hw:(BC n v i).toNat=w
   .subst hw;rw[BA Z] at G;exact .inl ⟨rfl,(Al G).symm⟩
   .rw[BM hw] at G;exact .inr G
  refine⟨keep _ _ hp.zero (by omega),λw hw=> ?_,λw x G h0=> ?_,λu O=> ?_⟩
  .rcases hget w 0 hw with ⟨_,h⟩|h
   .omega
   .exact hp.uniq w h
  .rcases hget w x G with ⟨h1,h2⟩|h
   .refine⟨v,r,i,keep _ _ (by rw[hv];congr 1;omega) (by omega),hr,hi,by omega,?_⟩
    have:(w:Int)=BC n v i:=by omega
    rw[this];exact hc.2
   .obtain⟨v',r',i',g1,g2,g3,g4,g5⟩:=hp.prev w x h h0;exact⟨v',r',i',keep _ _ g1 (by omega),g2,g3,g4,g5⟩
  .rw[Q] at O;rcases AG.1 O with O|O
   .obtain⟨z,h1,h2⟩:=hp.qs u O;exact⟨z,keep _ _ h1 h2,h2⟩
   .rw[AO] at O;subst O;refine⟨y+1,?_,by omega⟩;rw[Q];exact BA Z
 .have Q:bfs1 n v s i=s:=by simp only[bfs1];rw[Ab hc]
  rw[Q];exact hp
def bfsR_P{n:Net}(hn:B6 n){q:Int}{v:Nat}{r:List Int}(G:n.At[v]? =some r){y:Int}(O:0<=y): ∀(l:List Int) (s:List Int×List Int),(∀i∈l,i∈r)->IE n s->bfsP n q s->s.1[v]? =some y->bfsP n q (l.foldl (bfs1 n v) s)
 |[],s,_,_,hp,_=>hp
 |i::l,s,z,Q,hp,Z=>bfsR_P hn G O l _ (λj hj=>z j (AX _ hj)) (Ua hn G (z i (AU ..)) Q) (bfs1_P hn G (z i (AU ..)) Q hp Z O) (Ou n v s i v y Z O)
def FC{n:Net}(hn:B6 n){q:Int}(h0:0<=q)(h1:q<n.Cnt): ∀k,bfsP n q (Bk n q k)
 |0=>by
  have hq:q.toNat<n.Cnt.toNat:=by omega
  have z:q.toNat<(List.replicate n.Cnt.toNat (-1:Int)).length:=by rw[Gb];exact hq
  have hget: ∀(w:Nat) (x:Int),((List.replicate n.Cnt.toNat (-1:Int)).set q.toNat 0)[w]? =some x->(w=q.toNat/\x=0)\/x= -1:=by
   intro w x G;by_cases Q:q.toNat=w
   .subst Q;rw[BA z] at G;exact .inl ⟨rfl,(Al G).symm⟩
   .rw[BM Q] at G;exact .inr (Gf (Ax G))
  refine⟨BA z,λw Q=> ?_,λw x G aa=> ?_,λv O=> ?_⟩
  .rcases hget w 0 Q with h|h
   .exact h.1
   .omega
  .rcases hget w x G with h|h<;>omega
  .simp only[Bk,AO] at O;subst O;exact⟨0,BA z,Fv _⟩
 |k+1=>by
  have ih:=FC hn h0 h1 k;have hi:=I5 hn h0 h1 k;simp only[Bk];split
  .exact ih
  .rename_i v O;have ab:=hi.q v (Ax O);obtain⟨m,rfl⟩: ∃m:Nat,v=m:=⟨v.toNat,by omega⟩;have hm:m<n.At.length:=by have:=hn.al;omega
   obtain⟨r,hr⟩: ∃r,n.At[m]? =some r:=⟨_,A8 hm⟩;obtain⟨y,hy,Z⟩:=ih.qs _ (Ax O);simp only[AH,hr,Ao];exact bfsR_P hn hr Z r _ (λ_ h=>h) hi ih (by simpa using hy)
def Eu(n:Net):Prop:= ∀(i:Nat) b f,n.Bonds[i]? =some b->n.Flow[i]? =some f-> -b.Strength<=f/\f<=b.Strength
def CL(n:Net)(st:List Int)(v:Int)(acc:Int×Int)(i:Int):Int×Int:=
 if 0<(B3 n v i).1/\st[(B3 n v i).2.toNat]?.getD 0=st[v.toNat]?.getD 0 - 1/\(acc.1<0\/(B3 n v i).2<acc.1) then ((B3 n v i).2,i) else acc
def Ds(n:Net)(st:List Int)(v:Int):Int×Int:=(n.At[v.toNat]?.getD []).foldl (CL n st v) (-1,0)
def AR(n:Net)(st:List Int)(p:Int):Nat->Net×Int
 |0=>(n,p)
 |k+1=>(DX (AR n st p k).1 (AR n st p k).2 (Ds (AR n st p k).1 st (AR n st p k).2).2,(Ds (AR n st p k).1 st (AR n st p k).2).1)
def Cx(n:Net)(p q:Int):Net×Bool:=
 if (Cv n q)[p.toNat]?.getD 0<0 then (n,false) else ((AR n (Cv n q) p ((Cv n q)[p.toNat]?.getD 0).toNat).1,true)
def Pn{n:Net}(hn:B6 n){v:Nat}{r:List Int}(O:n.At[v]? =some r){i:Int}(G:i∈r):0<=(B3 n v i).2/\(B3 n v i).2<n.Cnt:=by
 obtain⟨h0,b,hb,Q⟩:=hn.at_ v r O i G;have z:=hn.bs b (Ax hb);simp only[B3,hb]
 split<;>simp only<;>omega
def goodP(n:Net)(st:List Int)(v:Int)(r:List Int)(w:Int×Int):Prop:=w.2∈r/\0<(B3 n v w.2).1/\(B3 n v w.2).2=w.1/\st[w.1.toNat]?.getD 0=st[v.toNat]?.getD 0 - 1/\0<=w.1
def Wc{n:Net}(hn:B6 n)(st:List Int){v:Nat}{r:List Int}(G:n.At[v]? =some r): ∀(l:List Int) (acc:Int×Int),(∀i∈l,i∈r)->(acc.1<0\/goodP n st v r acc)->(l.foldl (CL n st v) acc).1<0\/goodP n st v r (l.foldl (CL n st v) acc)
 |[],acc,_,h=>h
 |i::l,acc,z,h=>by
  refine Wc hn st G l _ (λj O=>z j (AX _ O)) ?_;simp only[CL];split
  .rename_i hc;exact .inr ⟨z i (AU ..),hc.1,rfl,hc.2.1,(Pn hn G (z i (AU ..))).1⟩
  .exact h
def pick1_pos{n:Net}(hn:B6 n)(st:List Int){v:Nat}{r:List Int}(G:n.At[v]? =some r){i:Int}(z:i∈r)(acc:Int×Int)(h:0<=acc.1):0<=(CL n st v acc i).1:=by
 simp only[CL];split
 .exact (Pn hn G z).1
 .exact h
def Xh{n:Net}(hn:B6 n)(st:List Int){v:Nat}{r:List Int}(G:n.At[v]? =some r): ∀(l:List Int) (acc:Int×Int),(∀i∈l,i∈r)->0<=acc.1->0<=(l.foldl (CL n st v) acc).1
 |[],_,_,h=>h
 |i::l,acc,z,h=>Xh hn st G l _ (λj O=>z j (AX _ O)) (pick1_pos hn st G (z i (AU ..)) acc h)
def Wh{n:Net}(hn:B6 n)(st:List Int){v:Nat}{r:List Int}(O:n.At[v]? =some r){i:Int}(Q:0<(B3 n v i).1)(Z:st[(B3 n v i).2.toNat]?.getD 0=st[(v:Int).toNat]?.getD 0 - 1): ∀(l:List Int) (acc:Int×Int),(∀i∈l,i∈r)->i∈l->0<=(l.foldl (CL n st v) acc).1
 |[],_,_,h=>by cases h
 |j::l,acc,hl,h=>by
  simp only[L9];have z:=λk hk=>hl k (AX _ hk)
  rcases A9.1 h with rfl|h
  .refine Xh hn st O l _ z ?_;have hb:=Pn hn O (hl _ (AU ..));simp only[CL];split
   .exact hb.1
   .rename_i hc;rcases Int.lt_or_le acc.1 0 with G|G
    .exact absurd ⟨Q,Z,.inl G⟩ hc
    .exact G
  .exact Wh hn st O Q Z l _ z h
def pick_good{n:Net}(hn:B6 n)(st:List Int){v:Nat}{r:List Int}(z:n.At[v]? =some r){i:Int}(Q:i∈r)(G:0<(B3 n v i).1)(O:st[(B3 n v i).2.toNat]?.getD 0=st[(v:Int).toNat]?.getD 0 - 1):goodP n st v r (Ds n st v):=by
 have e:Ds n st v=r.foldl (CL n st v) (-1,0):=by simp only[Ds,AH,z,Ao]
 rw[e];have Z:=Wh hn st z G O r (-1,0) (λ_ h=>h) Q;rcases Wc hn st z r (-1,0) (λ_ h=>h) (.inl (by decide)) with h|h
 .omega
 .exact h
def push_ok{n:Net}(hn:B6 n)(hc:Eu n){v:Nat}{i:Int}(h0:0<=i)(z:0<(B3 n v i).1):B6 (DX n v i)/\Eu (DX n v i):=by
 obtain⟨m,rfl⟩: ∃m:Nat,i=m:=⟨i.toNat,by omega⟩;have G:Eu (DX n v m):=by
  intro j b f hb hf;simp only[DX,AH] at hb hf;simp only[B3,AH] at z;cases hbm:n.Bonds[m]? with
  |none=>rw[hbm] at hf;exact hc j b f hb hf
  |some b'=>
   rw[hbm] at hf z;simp only at hf z;by_cases O:m=j
   .subst O;rw[hb] at hbm;obtain rfl:=Al hbm;have Q:m<n.Flow.length:=by
     have:=(Ba.1 hf).1
     simpa using this
    rw[BA Q] at hf;have hf:=Al hf;obtain⟨g,hg⟩: ∃g,n.Flow[m]? =some g:=⟨_,A8 Q⟩;have ab:=hc m b g hb hg;rw[hg] at hf z;simp only[Ao] at hf z;split at hf<;>rename_i Z
    .rw[Af Z] at z;simp only at z;omega
    .rw[Ab Z] at z;simp only at z;omega
   .rw[BM O] at hf;exact hc j b f hb hf
 refine⟨⟨hn.c0,hn.c1,?_,hn.al,hn.bs,hn.at_,?_,hn.st,hn.all,hn.ne⟩,G⟩
 .have:=hn.fl
  simp only[DX];split
  .simpa using this
  .exact this
 .intro x hx;obtain⟨j,O⟩:=Fa.1 hx;have ac:=(Ba.1 O).1;have aa:(DX n v m).Flow.length=n.Bonds.length:=by
   rw[<-hn.fl];simp only[DX];split
   .simp
   .rfl
  obtain⟨b,hb⟩: ∃b,n.Bonds[j]? =some b:=⟨_,A8 (by omega)⟩;have h1:=G j b x hb O;have h2:=hn.st b (Ax hb);omega
def RV(n:Net)(v i:Int)(j:Nat)(h:i.toNat≠j):(DX n v i).Flow[j]? =n.Flow[j]? :=by
 simp only[DX];split
 .exact BM h
 .rfl
def room_same{n n':Net}(hb:n'.Bonds=n.Bonds)(i:Int)(hf:n'.Flow[i.toNat]? =n.Flow[i.toNat]?)(v:Int):B3 n' v i=B3 n v i:=by
 simp only[B3,hb,hf]
structure walkI(n:Net)(st:List Int)(p:Int)(d k:Nat):Prop where
 ok:B6 (AR n st p k).1
 cap:Eu (AR n st p k).1
 cnt:(AR n st p k).1.Cnt=n.Cnt
 bs:(AR n st p k).1.Bonds=n.Bonds
 at_:(AR n st p k).1.At=n.At
 v: ∃m:Nat,(AR n st p k).2=m/\(m:Int)<n.Cnt/\st[m]? =some ((d:Int) - k)
 fl: ∀(i:Nat) b,n.Bonds[i]? =some b->st[b.A.toNat]?.getD 0<=(d:Int) - k->st[b.B.toNat]?.getD 0<=(d:Int) - k->(AR n st p k).1.Flow[i]? =n.Flow[i]?
def Qi{n:Net}(hn:B6 n){q:Int}{st qu:List Int}(ag:st.length=n.Cnt.toNat)(hP:bfsP n q (st,qu)){p:Int}{d k:Nat}(hk:k<d)(Z:walkI n st p d k):
 ∃(m:Nat) (r:List Int),(AR n st p k).2=m/\n.At[m]? =some r/\goodP (AR n st p k).1 st m r (Ds (AR n st p k).1 st m)/\st[m]? =some ((d:Int) - k)/\(Ds (AR n st p k).1 st m).1<n.Cnt:=by
 obtain⟨m,hm,aj,O⟩:=Z.v;have af:m<n.At.length:=by have:=hn.al;omega
 obtain⟨r,hr⟩: ∃r,n.At[m]? =some r:=⟨_,A8 af⟩;have ab:(AR n st p k).1.At[m]? =some r:=by rw[Z.at_];exact hr
 obtain⟨v',r',i,g1,g2,g3,g4,g5⟩:=hP.prev m _ O (by omega);simp only at g1;obtain⟨ai,b,hb,aa⟩:=hn.at_ v' r' g2 i g3;have ah:=hn.bs b (Ax hb);have ac:b.A+b.B - v'=m:=by simpa only[BC,hb] using g4
 have z:=hn.all i.toNat b hb;rw[show ((i.toNat:Nat):Int)=i by omega] at z;have ad:i∈r:=by
  rcases aa with h|h
  .obtain⟨r2,Q,h3⟩:=z.2;rw[show b.B.toNat=m by omega,hr] at Q;obtain rfl:=Al Q;exact h3
  .obtain⟨r2,Q,h3⟩:=z.1;rw[show b.A.toNat=m by omega,hr] at Q;obtain rfl:=Al Q;exact h3
 have ak:=hn.ne b (Ax hb);have G:B3 (AR n st p k).1 m i=B3 n m i:=by
  refine room_same Z.bs i (Z.fl i.toNat b hb ?_ ?_) m
  .rcases aa with h|h
   .rw[show b.A.toNat=v' by omega,g1];simp only[Ao];omega
   .rw[show b.A.toNat=m by omega,O];simp only[Ao];omega
  .rcases aa with h|h
   .rw[show b.B.toNat=m by omega,O];simp only[Ao];omega
   .rw[show b.B.toNat=v' by omega,g1];simp only[Ao];omega
 have Q:(B3 n m i).2=v':=by
  simp only[B3,hb]
  split<;>simp only<;>omega
 have hg:=pick_good Z.ok st ab ad (by rw[G];exact g5) (by rw[G,Q,AH,g1,AH,O];simp only[Ao]);refine⟨m,r,hm,hr,hg,O,?_⟩
 have:=(Pn Z.ok ab hg.1).2
 rw[hg.2.2.1,Z.cnt] at this;exact this
def Mb{n:Net}(hn:B6 n)(hc:Eu n){q:Int}{st qu:List Int}(G:st.length=n.Cnt.toNat)(hP:bfsP n q (st,qu)){p:Int}(ac:0<=p)(ad:p<n.Cnt){d:Nat}(hd:st[p.toNat]? =some (d:Int)): ∀k,k<=d->walkI n st p d k
 |0,_=>⟨hn,hc,rfl,rfl,rfl,⟨p.toNat,by simp only[AR];omega,by omega,by rw[hd];simp⟩,λi b _ _ _=>rfl⟩
 |k+1,hk=>by
  have ih:=Mb hn hc G hP ac ad hd k (by omega);obtain⟨m,r,O,hr,hg,Q,ag⟩:=Qi hn G hP (by omega) ih;obtain⟨h1,h2⟩:=push_ok ih.ok ih.cap (i:=(Ds (AR n st p k).1 st m).2) (ih.ok.at_ m r (by rw[ih.at_];exact hr) _ hg.1).1 hg.2.1;obtain⟨j0,b,hb,ab⟩:=hn.at_ m r hr _ hg.1;have af:=hg.2.2.2.2;have Z:=hg.2.2.2.1;rw[AH,Q,Ao] at Z;obtain⟨z,hz⟩: ∃z,st[(Ds (AR n st p k).1 st m).1.toNat]? =some z:=⟨_,A8 (by omega)⟩;rw[hz,Ao] at Z;refine⟨?_,?_,?_,?_,?_,⟨(Ds (AR n st p k).1 st m).1.toNat,?_,by omega,by rw[hz,Z];congr 1;omega⟩,?_⟩
  .simp only[AR,O];exact h1
  .simp only[AR,O];exact h2
  .simp only[AR,O];exact ih.cnt
  .simp only[AR,O];exact ih.bs
  .simp only[AR,O];exact ih.at_
  .simp only[AR,O];omega
  .intro i b' aa hA hB;simp only[AR,O];rw[RV]
   .exact ih.fl i b' aa (by omega) (by omega)
   .intro he;rw[he,aa] at hb;obtain rfl:=Al hb;rcases ab with h|h
    .rw[h,AH,Q] at hA;simp only[Ao] at hA;omega
    .rw[h,AH,Q] at hB;simp only[Ao] at hB;omega
def growC.ca(a:Net×Int×Int):List AV:=[.ptr 0 0,.im (.int .i64 a.2.1),.im (.int .i64 a.2.2)]
def growC.H1(a:Net×Int×Int):Ag:=[(1,(true,.arr 2 1 ((Cx a.1 a.2.1 a.2.2).1.Flow.map intC)))]
def growC.r0(a:Net×Int×Int):AV:= .im (.bool (Cx a.1 a.2.1 a.2.2).2)
def growPre(a:Net×Int×Int):Prop:=B6 a.1/\Eu a.1/\0<=a.2.1/\a.2.1<a.1.Cnt/\0<=a.2.2/\a.2.2<a.1.Cnt
def growC.row:Row:=orow growC.ca (λa=>netH a.1) 2 growPre kl1 growC.r0 growC.H1 0
def growC.ok:Ak Tryz.prog 263 growC.row:=by
 refine ow (tC stepsC.ok (tC roomC.ok (tC pushC.ok tN))) Tryz.func263 rfl (by kernel_rfl) (exB:=λ_=>false) (R:=λa r=>r=growC.r0 a) (λ_=>rfl)
  (λa=>by simp[growC.ca,netH,DS,belL,AV.bel,belH,Ai,AT,AObj.nms,nmsL,AV.nms,domB,hget]) (λa p hp=> ?_) (λa r h=>by subst h;exact LeV.refl _) ?_
 rotate_left
 intro a a8;simp only[Tryz.f263,growC.ca,netH,DS,growC.H1];simp(disch:=omega)only[ZZ,simprocAttr,rch,stepsC.q,stepsC.fv,kl1];obtain⟨hn,aw,az,bh,aj,ak⟩:=a8;refine⟨⟨hn,aj,ak⟩,az,?_⟩;have bm:=hn.c1;have ah:=Oq hn aj ak;have hP:=FC hn aj ak a.1.Cnt.toNat;have aa:=(I5 hn aj ak a.1.Cnt.toNat).rng;have bt:=Qo hn.c0 (I5 hn aj ak a.1.Cnt.toNat);refine⟨by omega,λx hx=> ?_⟩
 split<;>rename_i ai
 .have e:Cx a.1 a.2.1 a.2.2=(a.1,false):=by simp only[Cx];rw[hx];simp only[Ao];rw[Af ai]
  exact⟨by simp only[growC.r0,e],by rw[e]⟩
 obtain⟨d,rfl⟩: ∃d:Nat,x=d:=⟨x.toNat,by omega⟩;have e:Cx a.1 a.2.1 a.2.2=((AR a.1 (Cv a.1 a.2.2) a.2.1 d).1,true):=by simp only[Cx];rw[hx];simp only[Ao];rw[Ab ai,AH]
 simp only[growC.r0,e];have ba:(Bk a.1 a.2.2 a.1.Cnt.toNat).1=Cv a.1 a.2.2:=rfl;have O:bfsP a.1 a.2.2 (Cv a.1 a.2.2,(Bk a.1 a.2.2 a.1.Cnt.toNat).2):=hP;have bn:=aa (d:Int) (Ax hx);clear e hP ai;obtain⟨st,hst⟩: ∃st,st=Cv a.1 a.2.2:=⟨_,rfl⟩;rw[ba] at aa;simp only[<-hst] at ah O hx aa⊢;have av:=λk hk=>Mb hn aw ah O az bh hx k hk
 refine Au.old ⟨{k:Nat//k<=d},λk=>⟨[(8,.im (.int .i64 (AR a.1 st a.2.1 k.1).2)),(7,.im (.sl false 1 (st.map intC))),(0,.ptr 0 0),(1,.im (.int .i64 a.2.1)),(2,.im (.int .i64 a.2.2))],[(0,(true,.cells 344 (DS a.1))),(1,(true,.arr 2 1 ((AR a.1 st a.2.1 k.1).1.Flow.map intC)))],2⟩,λk=>d - k.1,λk=>⟨by simp[Ac.good,belT,belH,Ai,AV.bel,belL,DS],Ar _⟩,⟨⟨0,by simp⟩,by simp(disch:=omega)only[ZA,simprocAttr,DS,sub,AR,DS]⟩,λk=> ?_⟩;obtain⟨k,bd⟩:=k;have hI:=av k bd;obtain⟨m,hm,bq,a9⟩:=hI.v;simp only[DS,hm];simp(disch:=omega)only[ZA,simprocAttr,kl1,Aq];refine⟨λbr=> ?_,λhe=> ?_⟩
 .have be:k<d:=by
   rcases Cz k d with h|h
   .exact h
   .have:=O.uniq m (by rw[a9];congr 1;omega)
    omega
  obtain⟨m',r,bf,hr,hg,_,bj⟩:=Qi hn ah O be hI;rw[hm] at bf;have bg:m'=m:=by omega
  subst bg;have Z:AR a.1 st a.2.1 (k+1)=(DX (AR a.1 st a.2.1 k).1 m' (Ds (AR a.1 st a.2.1 k).1 st m').2,(Ds (AR a.1 st a.2.1 k).1 st m').1):=by simp only[AR,hm]
  have a0:Ds (AR a.1 st a.2.1 k).1 st m'=r.foldl (CL (AR a.1 st a.2.1 k).1 st m') (-1,0):=by simp only[Ds,AH,hI.at_,hr,Ao]
  have Q:=hI.ok;have af:=hI.cnt;have au:=hI.bs;have an:=hI.at_;obtain⟨N,hN⟩: ∃N,N=(AR a.1 st a.2.1 k).1:=⟨_,rfl⟩;simp only[<-hN] at Z a0 Q af au an hg bj⊢;have as:N.At[m']? =some r:=by rw[an];exact hr
  have ay:(⟨a.1.Cnt,a.1.Bonds,a.1.At,N.Flow⟩:Net)=N:=by rw[<-af,<-au,<-an]
  have aq:m'<a.1.At.length:=(Ba.1 hr).1;refine Au.old ⟨{j:Nat//j<=r.length},λj=>⟨[(11,.im (.int .i64 j.1)),(10,.im (.int .i64 ((r.take j.1).foldl (CL N st m') (-1,0)).2)),(9,.im (.int .i64 ((r.take j.1).foldl (CL N st m') (-1,0)).1)),(8,.im (.int .i64 m')),(7,.im (.sl false 1 (st.map intC))),(0,.ptr 0 0),(1,.im (.int .i64 a.2.1)),(2,.im (.int .i64 a.2.2))],[(0,(true,.cells 344 (DS a.1))),(1,(true,.arr 2 1 (N.Flow.map intC)))],2⟩,λj=>r.length - j.1,λj=>⟨by simp[Ac.good,belT,belH,Ai,AV.bel,belL,DS],Ar _⟩,⟨⟨0,by simp⟩,by simp(disch:=omega)only[ZA,simprocAttr,DS,sub,DS,R6]⟩,λj=> ?_⟩;obtain⟨j,bp⟩:=j;obtain⟨acc,hacc⟩: ∃acc,acc=(r.take j).foldl (CL N st m') (-1,0):=⟨_,rfl⟩;simp only[DS,<-hacc];simp(disch:=omega)only[ZZ,simprocAttr,rch,roomC.q,roomC.fv,sub,Aq,ay];refine⟨aq,λr1 G=> ?_⟩;rw[hr] at G;obtain rfl:=Al G;intro bu;refine⟨λhj=>⟨aq,λr1 G=> ?_⟩,λhj=> ?_⟩
  .rw[hr] at G;obtain rfl:=Al G;refine⟨hj,λi ao=> ?_⟩;have ax:=Ax ao;obtain⟨i0,i1,_,_⟩:=KO Q as ax;have bi:=Pn Q as ax;have z:(r.take (j+1)).foldl (CL N st m') (-1,0)=CL N st m' acc i:=by
    rw[Ec,ao,List.foldl_append,<-hacc];rfl
   have ab:0<(B3 N m' i).1->st[(B3 N m' i).2.toNat]?.getD 0=st[(m':Int).toNat]?.getD 0 - 1->(acc.1<0\/(B3 N m' i).2<acc.1)->CL N st m' acc i=((B3 N m' i).2,i):=by
    intro h1 h2 h3;simp only[CL];rw[Af ⟨h1,h2,h3⟩]
   have am:IntKind.wrap .i64 ((j:Int)+1)=((j+1:Nat):Int):=by rw[Am (by omega) (by omega)];omega
   refine⟨⟨Q,i0,i1⟩,λh1=>⟨bi.1,by omega,λx' bl=>⟨by omega,λy' bb=> ?_⟩⟩,λh1=>⟨⟨j+1,by omega⟩,by simp only;omega,am,?_,?_⟩⟩
   .have bv:=aa y' (Ax bb);rw[Am (x:=y' - 1) (by omega) (by omega)];have ac:st[(B3 N m' i).2.toNat]?.getD 0=x':=by rw[bl];rfl
    have ad:st[(m':Int).toNat]?.getD 0=y':=by rw[AH,bb];rfl
    refine⟨λh2=>⟨λh3=>⟨λh4=>⟨aq,λr1 G=> ?_⟩,λh4=>⟨⟨j+1,by omega⟩,by simp only;omega,am,?_,?_⟩⟩,λh3=>⟨aq,λr1 G=> ?_⟩⟩,λh2=>⟨⟨j+1,by omega⟩,by simp only;omega,am,?_,?_⟩⟩
    .rw[hr] at G;obtain rfl:=Al G;refine⟨hj,λi' ag=>⟨⟨j+1,by omega⟩,by simp only;omega,am,?_,?_⟩⟩
     .rw[ao] at ag;obtain rfl:=Al ag;simp only[z];rw[ab h1 (by rw[ac,ad,h2]) (.inr h4)]
     .simp only[z];rw[ab h1 (by rw[ac,ad,h2]) (.inr h4)]
    .simp only[z,CL];rw[Ab (λh=>by rcases h.2.2 with h|h<;>omega)]
    .simp only[z,CL];rw[Ab (λh=>by rcases h.2.2 with h|h<;>omega)]
    .rw[hr] at G;obtain rfl:=Al G;refine⟨hj,λi' ag=>⟨⟨j+1,by omega⟩,by simp only;omega,am,?_,?_⟩⟩
     .rw[ao] at ag;obtain rfl:=Al ag;simp only[z];rw[ab h1 (by rw[ac,ad,h2]) (.inl (Df.1 h3))]
     .simp only[z];rw[ab h1 (by rw[ac,ad,h2]) (.inl (Df.1 h3))]
    .simp only[z,CL];rw[Ab (λh=>h2 (by rw[<-ac,<-ad];exact h.2.1))]
    .simp only[z,CL];rw[Ab (λh=>h2 (by rw[<-ac,<-ad];exact h.2.1))]
   .simp only[z,CL];rw[Ab (λh=>h1 h.1)]
   .simp only[z,CL];rw[Ab (λh=>h1 h.1)]
  .have bc:j=r.length:=by omega
   subst bc;rw[Dh] at hacc;rw[<-a0] at hacc;subst hacc;have bo:=Q.at_ m' r as _ hg.1;obtain⟨i0,i1,_,_⟩:=KO Q as hg.1;refine orow.os (N,(m':Int),(Ds N st m').2) [0,1] ⟨Q,i0,i1⟩ (λj=>MJ _ j) rfl rfl ?_ ?_
   .simp(disch:=omega)only[ZA,simprocAttr,ORB,netH,DS,pushC.ca,netH,DS];rw[af,au,an];exact⟨rfl,rfl,rfl⟩
   .simp(disch:=omega)only[ZA,simprocAttr,ORB,kl1,pushC.H1,kl1,sub];exact⟨⟨k+1,by omega⟩,by simp only;omega,by simp only[Z],by simp only[Z]⟩
 .have:k=d:=by
   have h1:=O.zero;rw[show a.2.2.toNat=m by omega,a9] at h1
   have:=Al h1
   omega
  rw[this]
 simp[growC.H1] at hp;subst hp;exact .inl ⟨by omega,rfl,rfl⟩
def A7(a b:Nat)(h:a≠b):(a==b)=false:=by simpa using h
def Hx{α β γ:Type}{f:α->Option β}{g:γ->α}{k:γ->β}: ∀(l:List γ),(∀i∈l,f (g i)=some (k i))->mapO f (l.map g)=some (l.map k)
 |[],_=>rfl
 |x::r,h=>by simp only[Ay,mapO,h x (AU ..),Hx r (λi z=>h i (AX _ z))]
def fam_cvt{H:Nat->Option Ent}{kx:Nat->Option Nat}{m b n T:Nat}(f:Nat->List Int)(G: ∀i,i<n->kx (b+i)=none)(hH: ∀i,i<n->H (b+i)=some (true,.arr T 1 ((f i).map intC))):
 mapO (mapO λx=>asDO (cvt H kx (m+1) x)) ((List.range n).map λi=>[AV.own (b+i)])=some (((List.range n).map f).map Bo):=by
 rw[Hj];refine Hx _ (λi z=> ?_);have z:=AJ.1 z;simp only[mapO,cvt,G i z,hH i z,Gr,kp,Bw,asDO,AV.asD,Function.comp,Bo]
def FU(H:Ag)(a b:Nat)(h:a≠b):hget (hdel H [a]) b=hget H b:=by
 rw[I2,Ab];simp;omega
def IC{α:Type}{a b:Nat}{x y:α}(h:a≠b):(if a=b then x else y)=y:=Ab h
def AL: ∀(x:Ag),hdel x []=x
 |[]=>rfl
 |(m,e)::r=>by simp[hdel,AL r]
def K8(L:List Nat)(b n:Nat)(h:L.Nodup)(hb: ∀x∈L,x<b):(L++(List.range n).map (b+ ·)).Nodup:=by
 rw[H9];refine⟨h,?_,?_⟩
 .rw[US,List.pairwise_map];exact Vb (λh O=>h (by omega)) (US.1 List.nodup_range)
 .intro x z y G Q;obtain⟨i,_,rfl⟩:=AF.1 G
  have:=hb x z
  omega
def atI(bs:List Bond)(i:Nat):Nat->List Int
 |0=>[]
 |k+1=>atI bs i k++(match bs[k]? with
  |some b=>(if b.A=i then [(k:Int)] else [])++(if b.B=i then [(k:Int)] else [])
  |none=>[])
def Uq(bs:List Bond)(i:Nat): ∀k,(atI bs i k).length<=2*k
 |0=>Ar _
 |k+1=>by
  have:=Uq bs i k
  simp only[atI,B5];split
  .simp only[B5]
   split<;>split<;>simp<;>omega
  .simp;omega
def newN(n:Int)(bs:List Bond):Net:=⟨n,bs,(List.range n.toNat).map (λi=>atI bs i bs.length),List.replicate bs.length 0⟩
def newNC.ca(a:Int×List Bond):List AV:=[.im (.int .i64 a.1),.im (.sl false 3 (a.2.map Bond.c))]
def newNC.H1(a:Int×List Bond):Ag:=[(0,(true,.cells 344 [.im (.int .i64 a.1),.im (.sl false 3 (a.2.map Bond.c)),.im (.sl false 1 ((newN a.1 a.2).At.map Bo)),.own 2])),(2,(true,.arr 2 1 ((newN a.1 a.2).Flow.map intC)))]
def Jk(a:Int×List Bond):Prop:=0<=a.1/\a.1<=1000/\a.2.length<=1000000/\Fh a.1 a.2/\ ∀b∈a.2,b.A≠b.B
def exN(j:Nat):Bool:=j==0||j==2
def newNC.row:Row:=orow newNC.ca (λ_=>[]) 0 Jk (λ_=>false) (λ_=> .ptr 0 0) newNC.H1 3010
def newNC.ok:Ak Tryz.prog 262 newNC.row:=by
 refine ow tN Tryz.func262 rfl (by kernel_rfl) (exB:=exN) (R:=λ_ r=>r= .ptr 0 0) (λ_=>rfl)
  (λa=>by simp[newNC.ca,belL,AV.bel,belH,Ai,AT]) (λa p hp=> ?_) (λa r h=>by subst h;exact LeV.refl _) ?_
 rotate_left
 intro a aw;simp only[Tryz.f262,newNC.ca,newNC.H1];simp(disch:=omega)only[ZA,simprocAttr];obtain⟨av,a8,hl,am,a9⟩:=aw;refine⟨av,Fv _,by omega,λ_=>⟨by omega,?_⟩⟩;obtain⟨n,hn⟩: ∃n:Nat,a.1=n:=⟨a.1.toNat,by omega⟩;rw[hn] at av a8 am;simp only[hn,AH];refine Au.ren ⟨{k:Nat//k<=a.2.length},λk=>⟨[(6,.im (.int .i64 k.1)),(5,.ptr 0 0),(1,.im (.sl false 3 (a.2.map Bond.c)))],(0,(true,.cells 344 [.im (.int .i64 n),.im (.sl false 3 (a.2.map Bond.c)),.own 1,.own 2]))::(2,(true,.arr 2 1 ((List.replicate a.2.length (0:Int)).map intC)))::(1,(true,.arrA 32 1 ((List.range n).map λi=>[AV.own (1000+i)])))::famH 1000 n (λi=>(true,.arr 2 1 ((atI a.2 i k.1).map intC))),3000⟩,λk=>a.2.length - k.1,λk=>⟨?_,by simp⟩,⟨⟨0,by simp⟩,famP 1000 n,?_⟩,λk=> ?_⟩
 .simp only[Ac.good,belT,belH,Ai,AV.bel,belL,CB,BY];rw[GY _ _ _ (λi=>by simp[belH]),GK _ _ _ _ (by omega)];simp[belL,AV.bel];omega
 .refine⟨geP_famP _ _ _ (by simp),?_,?_,?_⟩
  .rw[KQ];simp only[Cy,Jc];refine KZ _ _ (K8 [0,2,1] 1000 n (by simp) (by simp)) ?_;intro x hx y hy m G z;rw[Mi] at G z;split at G
   .cases G
   .split at z
    .cases z
    .exact (Al G).trans (Al z).symm
  .simp only[Gx,tget];simp(disch:=omega)only[ZA,simprocAttr,Mi,Dv];simp[Dv]
  .have p0:pm (famP 1000 n) 0=some 0:=by rw[Mi,Ab (by omega)]
   have p1:pm (famP 1000 n) 1=some 1:=by rw[Mi,Ab (by omega)]
   have p2:pm (famP 1000 n) 2=some 2:=by rw[Mi,Ab (by omega)]
   have pf: ∀i,i<n->pm (famP 1000 n) (1000+i)=none:=by intro i O;rw[Mi,Af (by omega)]
   simp only[Dw,KG];refine⟨?_,?_,?_,λi O=> ?_⟩
   .simp(disch:=omega)only[ZA,simprocAttr,p0,p1,p2]
   .simp(disch:=omega)only[ZA,simprocAttr,p2];simp[intC]
   .simp(disch:=omega)only[ZA,simprocAttr,p1];rw[La];refine⟨by simp,λi x y hx hy=> ?_⟩;simp only[BI,BF] at hx hy;obtain⟨i',ah,rfl⟩:=hx;obtain⟨w,hw,rfl⟩:=hy;have bc:=Gf (Ax hw);subst bc
    have:=AJ.1 (Ax ah)
    simp(disch:=omega)only[ZA,simprocAttr,pf i' this]
   .rw[pf i O];simp(disch:=omega)only[ZA,simprocAttr,atI]
 obtain⟨k,bi⟩:=k;simp(disch:=omega)only[ZA,simprocAttr,ORB,exN,Aq,AL];intro _;refine⟨λhk=>⟨hk,λb hb=>⟨hk,λb' Z=> ?_⟩⟩,λhk=> ?_⟩
 .rw[hb] at Z;obtain rfl:=Al Z;obtain⟨b1,b2,b3,b4⟩:=am b (Ax hb);have bh:=a9 b (Ax hb);refine⟨b1,by rw[J8];exact b2,by rw[J8];omega,λx hx=> ?_⟩;obtain⟨ax,be⟩:=Ba.1 hx;rw[J8] at ax;rw[Vs] at be;have bp:x<n:=by omega
  refine⟨by omega,?_,?_⟩
  .simp;omega
  have bd:(1000+x<3000\/3000<=1000+x)=True:=JD (by omega);have bm:(1000+x==0)=false:=A7 _ _ (by omega);have bn:(1000+x==1)=false:=A7 _ _ (by omega);have bo:(1000+x==2)=false:=A7 _ _ (by omega);have bj:=Uq a.2 x k;simp(disch:=omega)only[ZA,simprocAttr,IC,DL,AL,bd,A7];refine⟨by omega,by omega,?_⟩;refine⟨b1,by rw[J8];exact b2,by rw[J8];exact ax,λ_ _=> ?_⟩;have Q: ∀N,3001<N->((List.map (λi=>[AV.own (1000+i)]) (List.range n)).set b.A.toNat [AV.own 3001]).all (belL N)=true:=by
   intro N hN;rw[BE];intro r hr;rcases IQ hr with hr|hr
   .obtain⟨i,O,rfl⟩:=AF.1 hr
    have:=AJ.1 O
    simp[belL,AV.bel];omega
   .subst hr;simp[belL,AV.bel];omega
  refine⟨Q _ (by omega),⟨by simp,by simp,by simp⟩,hk,λb' Z=>⟨hk,λb'' ag=> ?_⟩⟩;rw[hb] at Z ag;obtain rfl:=Al Z;obtain rfl:=Al ag;obtain⟨y,hy⟩: ∃y:Nat,b.B=y:=⟨b.B.toNat,by omega⟩;have bq:y≠x:=by omega
  have bg:y<n:=by omega
  have ay:b.B.toNat=y:=by omega
  refine⟨b3,by simp;omega,by simp;omega,λrow aa=> ?_⟩;have ak:row=[AV.own (1000+y)]:=by
   rw[ay,BM (by omega),BI,Ee bg] at aa;exact (Al aa).symm
  subst ak;have bf:(1000+y<3002\/3002<=1000+y)=True:=JD (by omega);have bl:=Uq a.2 y k;simp(disch:=omega)only[ZA,simprocAttr,ORB,IC,DL,AL,bf,A7,FU];refine⟨by omega,by omega,by omega,b3,by simp;omega,by simp;omega,λrow ab=> ?_⟩;rw[aa] at ab;obtain rfl:=Al ab;simp(disch:=omega)only[ZA,simprocAttr,AL,A7];refine⟨?_,⟨by simp,by simp,by simp⟩,⟨k+1,by omega⟩,[(1000+x,some 3001),(1000+y,some 3003)],by simp only;omega,?_⟩
  .rw[BE];intro r hr;rcases IQ hr with hr|hr
   .exact BE.1 (Q 3004 (by omega)) r hr
   .subst hr;simp[belL,AV.bel]
  obtain⟨g,hg⟩: ∃g,g=pm [(1000+x,some 3001),(1000+y,some 3003)]:=⟨_,rfl⟩;have qx:g (1000+x)=some 3001:=by rw[hg];simp[pm]
  have qy:g (1000+y)=some 3003:=by rw[hg];simp only[pm];rw[Ab (by omega)];simp
  have qo: ∀u,u≠1000+x->u≠1000+y->g u=some u:=by intro u G z;rw[hg];simp only[pm];rw[Ab (by omega),Ab (by omega)]
  have az: ∀i,i<n->atI a.2 i (k+1)=if i=x\/i=y then atI a.2 i k++[(k:Int)] else atI a.2 i k:=by
   intro i O;simp only[atI,hb];by_cases G:i=x
   .subst G;rw[Af (by omega),Ab (by omega),Af (.inl rfl),BJ]
   .by_cases z:i=y
    .subst z;rw[Ab (by omega),Af (by omega),Af (.inr rfl),D1]
    .rw[Ab (by omega),Ab (by omega),Ab (by omega)];simp
  refine⟨⟨by omega,by omega,trivial⟩,?_,?_,?_⟩
  .rw[KQ,<-hg];simp only[Cy,Jc];refine KZ _ _ (K8 [0,2,1] 1000 n (by simp) (by simp)) ?_;have aq: ∀u∈[0,2,1]++(List.range n).map (1000+ ·),u<2000:=by
    intro u hu;rcases AG.1 hu with hu|hu
    .simp at hu;omega
    .obtain⟨i,O,rfl⟩:=AF.1 hu
     have:=AJ.1 O
     show 1000+i<2000;omega
   have hc: ∀u,u<2000->(u=1000+x/\g u=some 3001)\/(u=1000+y/\g u=some 3003)\/g u=some u:=by
    intro u _;by_cases G:u=1000+x
    .exact .inl ⟨G,G▸qx⟩
    .by_cases z:u=1000+y
     .exact .inr (.inl ⟨z,z▸qy⟩)
     .exact .inr (.inr (qo u G z))
   intro u hu v hv m as au;have ba:=aq u hu;have bb:=aq v hv;rcases hc u ba with ⟨e1,e2⟩|⟨e1,e2⟩|e2<;>rcases hc v bb with ⟨f1,f2⟩|⟨f1,f2⟩|f2<;>rw[e2] at as<;>rw[f2] at au<;>simp only[An] at as au<;>omega
  .have q0:pm [(1000+x,some 3001),(1000+y,some 3003)] 0=some 0:=by rw[<-hg];exact qo 0 (by omega) (by omega)
   simp only[Gx,tget];simp(disch:=omega)only[ZA,simprocAttr,q0];rw[Am (by omega) (by omega)];simp
  .have q0:pm [(1000+x,some 3001),(1000+y,some 3003)] 0=some 0:=by rw[<-hg];exact qo 0 (by omega) (by omega)
   have q1:pm [(1000+x,some 3001),(1000+y,some 3003)] 1=some 1:=by rw[<-hg];exact qo 1 (by omega) (by omega)
   have q2:pm [(1000+x,some 3001),(1000+y,some 3003)] 2=some 2:=by rw[<-hg];exact qo 2 (by omega) (by omega)
   have ad:=qx;have af:=qy;have ac:=qo;rw[hg] at ad af ac;simp only[Dw,KG];refine⟨?_,?_,?_,λi O=> ?_⟩
   .simp(disch:=omega)only[ZA,simprocAttr,q0,q1,q2]
   .simp(disch:=omega)only[ZA,simprocAttr,q2]
   .simp(disch:=omega)only[ZA,simprocAttr,q1];rw[La];refine⟨by simp,λi r1 r2 G z=> ?_⟩;simp only[BI,BF] at G;obtain⟨i',ah,rfl⟩:=G;obtain⟨ao,an⟩:=Ba.1 ah;rw[J8] at ao;rw[Vs] at an;subst an;rw[ay,show b.A.toNat=x by omega] at z;by_cases aj:i=y
    .subst aj;rw[BA (by simp;omega)] at z;obtain rfl:=Al z;simp only[mtL,mt,af,ownM,DB]
    .rw[BM (by omega)] at z;by_cases ai:i=x
     .subst ai;rw[BA (by simp;omega)] at z;obtain rfl:=Al z;simp only[mtL,mt,ad,ownM,DB]
     .rw[BM (by omega),BI,Ee ao] at z;obtain rfl:=Al z;simp only[mtL,mt,ac (1000+i) (by omega) (by omega),ownM,DB]
   .show entN _ _ true (.arr 2 1 ((atI a.2 i (k+1)).map intC)) _;rw[az i O];by_cases aj:i=y
    .subst aj;rw[af,Af (.inr rfl)];simp(disch:=omega)only[ZA,simprocAttr];simp[intC]
    .by_cases ai:i=x
     .subst ai;rw[ad,Af (.inl rfl)];simp(disch:=omega)only[ZA,simprocAttr];simp[intC]
     .rw[ac (1000+i) (by omega) (by omega),Ab (by omega)];have e: ∀(H:Ag),hget H (1000+i)=some (true,.arr 2 1 ((atI a.2 i k).map intC))->entM [(1000+x,some 3001),(1000+y,some 3003)] true (.arr 2 1 ((atI a.2 i k).map intC)) (hget H (1000+i)):=by
       intro H hH;rw[hH];exact⟨rfl,by simp only[mtE]⟩
      refine e _ ?_;simp only[hget,A7 _ _ (show 1≠1000+i by omega),A7 _ _ (show 3003≠1000+i by omega),A7 _ _ (show 3002≠1000+i by omega),A7 _ _ (show 3001≠1000+i by omega),A7 _ _ (show 3000≠1000+i by omega),A7 _ _ (show 0≠1000+i by omega),A7 _ _ (show 2≠1000+i by omega),AM];rw[FU _ _ _ (by omega),FU _ _ _ (by omega),FU _ _ _ (by omega),FU _ _ _ (by omega),DL _ _ _ _ O]
 .have a0:k=a.2.length:=by omega
  subst a0;rw[fam_cvt (T:=2) (λi=>atI a.2 i a.2.length)]
  .simp[newN]
  .intro i O;have e:exN (1000+i)=false:=by simp only[exN,A7 _ _ (show 1000+i≠0 by omega),A7 _ _ (show 1000+i≠2 by omega),G3]
   simp[kxB,domB,hget,e]
  .intro i O;simp only[hget,A7 _ _ (show 1≠1000+i by omega),A7 _ _ (show 0≠1000+i by omega),A7 _ _ (show 2≠1000+i by omega),AM];exact DL _ _ _ _ O
 simp[newNC.H1] at hp;rcases hp with rfl|rfl
 .exact .inr ⟨by omega,by simp,rfl,rfl⟩
 .exact .inr ⟨by omega,by simp,rfl,rfl⟩
def ctr(p:Int)(b:Bond)(f:Int):Int:=if b.A=p then f else if b.B=p then -f else 0
def outQ(n:Net)(p:Int):Int:=(List.zipWith (ctr p) n.Bonds n.Flow).sum
def zip_set(p:Int): ∀(bs:List Bond) (O:List Int) (j:Nat) (b:Bond) (f f':Int),bs[j]? =some b->O[j]? =some f->(List.zipWith (ctr p) bs (O.set j f')).sum=(List.zipWith (ctr p) bs O).sum - ctr p b f+ctr p b f'
 |[],_,_,_,_,_,h,_=>by simp at h
 |_::_,[],_,_,_,_,_,h=>by simp at h
 |x::r,y::s,0,b,f,f',z,G=>by
  simp only[De,An] at z G;subst z;subst G;simp only[J5,L2,Fy];omega
 |x::r,y::s,j+1,b,f,f',z,G=>by
  have:=zip_set p r s j b f f' (by simpa using z) (by simpa using G)
  simp only[M6,L2,Fy,this];omega
def XC{n:Net}(hn:B6 n){v:Nat}{r:List Int}(Z:n.At[v]? =some r){i:Int}(G:i∈r)(p:Int):outQ (DX n v i) p=outQ n p+(if (v:Int)=p then 1 else if (B3 n v i).2=p then -1 else 0):=by
 obtain⟨h0,b,hb,hv⟩:=hn.at_ v r Z i G;have Q:=hn.ne b (Ax hb);have O:=(Ba.1 hb).1;obtain⟨f,hf⟩: ∃f,n.Flow[i.toNat]? =some f:=⟨_,A8 (by rw[hn.fl];exact O)⟩;simp only[outQ,DX,hb,B3];rw[zip_set p _ _ _ b f _ hb hf,hf];simp only[Ao,ctr];rcases hv with h|h
 .simp only[Af h]
  repeat' split
  all_goals omega
 .have z: ¬b.A=v:=by omega
  simp only[Ab z]
  repeat' split
  all_goals omega
def zip_le(p:Int): ∀(bs:List Bond) (G:List Int),(∀(i:Nat) b f,bs[i]? =some b->G[i]? =some f-> -b.Strength<=f/\f<=b.Strength)->(∀b∈bs,0<=b.Strength)->(List.zipWith (ctr p) bs G).sum<=(bs.map Bond.Strength).sum
 |[],_,_,_=>by simp
 |x::r,[],_,z=>by
  have O:=zip_le p r [] (λi b f _ h=>by simp at h) (λb hb=>z b (AX _ hb));have Q:=z x (AU ..);simp only[UX,R9,Ay,Fy] at O⊢;omega
 |x::r,y::s,hc,z=>by
  have O:=zip_le p r s (λi b f h h'=>hc (i+1) b f (by simpa using h) (by simpa using h')) (λb hb=>z b (AX _ hb));have Q:=z x (AU ..);have Z:=hc 0 x y rfl rfl;simp only[L2,Ay,Fy,ctr];split
  .omega
  .split<;>omega
def out_le{n:Net}(hn:B6 n)(hc:Eu n)(p:Int):outQ n p<=(n.Bonds.map Bond.Strength).sum:=zip_le p _ _ hc (λb hb=>(hn.st b hb).1)
def walk_out{n:Net}(hn:B6 n)(hc:Eu n){q:Int}{st qu:List Int}(z:st.length=n.Cnt.toNat)(hP:bfsP n q (st,qu)){p:Int}(aa:0<=p)(ab:p<n.Cnt){d:Nat}(hd:st[p.toNat]? =some (d:Int)): ∀k,k<d->outQ (AR n st p (k+1)).1 p=outQ n p+1:=by
 have step: ∀k,k<d->outQ (AR n st p (k+1)).1 p=outQ (AR n st p k).1 p+(if k=0 then 1 else 0):=by
  intro k Q;have Z:=Mb hn hc z hP aa ab hd k (by omega);obtain⟨m,r,hm,hr,hg,G,af⟩:=Qi hn z hP Q Z;have ac:(AR n st p k).1.At[m]? =some r:=by rw[Z.at_];exact hr
  have e:(AR n st p (k+1)).1=DX (AR n st p k).1 m (Ds (AR n st p k).1 st m).2:=by simp only[AR,hm]
  rw[e,XC Z.ok ac hg.1,hg.2.2.1];have O:=hg.2.2.2.1;rw[AH,G,Ao] at O;have ad:(Ds (AR n st p k).1 st m).1≠p:=by
   intro he;rw[he,hd,Ao] at O;omega
  by_cases h0:k=0
  .subst h0
   have:(m:Int)=p:=by rw[<-hm];rfl
   rw[Af this,Af rfl]
  .have:(m:Int)≠p:=by
    intro he
    have:m=p.toNat:=by omega
    rw[this,hd] at G
    have:=Al G
    omega
   rw[Ab this,Ab ad,Ab h0]
 intro k Q;induction k with
 |zero=>rw[step 0 Q];simp[AR]
 |succ k ih=>rw[step (k+1) Q,Ab (by omega),ih (by omega)];omega
def QH(bs:List Bond)(i:Nat)(z:Int): ∀k,z∈atI bs i k↔ ∃(j:Nat) (b:Bond),j<k/\z=j/\bs[j]? =some b/\(b.A=i\/b.B=i)
 |0=>by simp[atI]
 |k+1=>by
  have ih:=QH bs i z k;simp only[atI,AG,ih];constructor
  .rintro (⟨j,b,Z,O,Q,G⟩|h)
   .exact⟨j,b,by omega,O,Q,G⟩
   .cases hb:bs[k]? with
    |none=>rw[hb] at h;simp at h
    |some b=>
     rw[hb] at h;simp only[AG] at h;refine⟨k,b,by omega,?_,hb,?_⟩
     .rcases h with h|h<;>split at h<;>simp at h<;>exact h
     .rcases h with h|h
      .split at h
       .exact .inl (by assumption)
       .simp at h
      .split at h
       .exact .inr (by assumption)
       .simp at h
  .rintro⟨j,b,Z,O,Q,G⟩;by_cases hj:j=k
   .subst hj;refine .inr ?_;rw[Q];simp only[AG];rcases G with G|G
    .exact .inl (by rw[Af G,O];exact AO.2 rfl)
    .exact .inr (by rw[Af G,O];exact AO.2 rfl)
   .exact .inl ⟨j,b,by omega,O,Q,G⟩
def Gs(bs:List Bond):Prop:= ∀b∈bs,0<=b.Strength/\b.Strength<=1000000
def U7{n:Int}{bs:List Bond}(v:Nat)(z:v<n.toNat):(newN n bs).At[v]? =some (atI bs v bs.length):=by
 simp only[newN,BI,Ee z,Bw]
def newN_ok{n:Int}{bs:List Bond}(h:Jk (n,bs))(hs:Gs bs):B6 (newN n bs)/\Eu (newN n bs):=by
 obtain⟨h0,h1,h2,z,Q⟩:=h;simp only at h0 h1 h2 z Q;have hz: ∀(i:Nat) f,(newN n bs).Flow[i]? =some f->f=0:=by
  intro i f hf;exact Gf (Ax hf)
 refine⟨⟨h0,by show n<=1000000;omega,by simp[newN],by simp[newN];omega,z,?_,?_,hs,?_,Q⟩,?_⟩
 .intro v r O i G;have hv:v<n.toNat:=by
   have:=(Ba.1 O).1
   simpa[newN] using this
  rw[U7 v hv] at O;obtain rfl:=Al O;obtain⟨j,b,g1,g2,g3,g4⟩:=(QH bs v i bs.length).1 G;exact⟨by omega,b,by rw[g2,AH];exact g3,g4⟩
 .intro x hx;obtain⟨i,G⟩:=Fa.1 hx
  have:=hz i x G
  omega
 .intro i b hb;have Z:=(Ba.1 hb).1;have aa:=z b (Ax hb);refine⟨⟨_,U7 _ (by omega),(QH bs _ _ _).2 ⟨i,b,Z,rfl,hb,.inl (by omega)⟩⟩,⟨_,U7 _ (by omega),(QH bs _ _ _).2 ⟨i,b,Z,rfl,hb,.inr (by omega)⟩⟩⟩
 .intro i b f hb hf
  have:=hz i f hf
  have:=hs b (Ax hb)
  omega
def TV{n:Int}{bs:List Bond}(p:Int):outQ (newN n bs) p=0:=by
 simp only[outQ,newN]
 have: ∀(l:List Bond) (m:Nat),(List.zipWith (ctr p) l (List.replicate m 0)).sum=0:=by
  intro l;induction l with
  |nil=>intro m;simp
  |cons x r ih=>
   intro m;cases m with
   |zero=>simp
   |succ m=>
    simp only[Vo,L2,Fy,ih m,ctr];split
    .rfl
    .split<;>rfl
 exact this _ _
def Dd(p q:Int):Nat->Net->Net×Int
 |0,n=>(n,0)
 |m+1,n=>if (Cx n p q).2=true then ((Dd p q m (Cx n p q).1).1,(Dd p q m (Cx n p q).1).2+1) else (n,0)
def BW(n:Int)(bs:List Bond)(p q:Int):Net×Int:=Dd p q ((bs.map Bond.Strength).sum.toNat+1) (newN n bs)
def grow_ok{n:Net}(hn:B6 n)(hc:Eu n){p q:Int}(O:0<=p)(Q:p<n.Cnt)(Z:0<=q)(aa:q<n.Cnt)(ab:p≠q)(hg:(Cx n p q).2=true):
 B6 (Cx n p q).1/\Eu (Cx n p q).1/\(Cx n p q).1.Cnt=n.Cnt/\(Cx n p q).1.Bonds=n.Bonds/\(Cx n p q).1.At=n.At/\outQ (Cx n p q).1 p=outQ n p+1:=by
 have z:=Oq hn Z aa;have hP:bfsP n q (Cv n q,(Bk n q n.Cnt.toNat).2):=FC hn Z aa n.Cnt.toNat;obtain⟨x,hx⟩: ∃x,(Cv n q)[p.toNat]? =some x:=⟨_,A8 (by omega)⟩;simp only[Cx,hx,Ao] at hg⊢;by_cases h:x<0
 .rw[Af h] at hg;simp at hg
 .obtain⟨d,rfl⟩: ∃d:Nat,x=d:=⟨x.toNat,by omega⟩;rw[Ab h,AH];have hd:0<d:=by
   rcases M7 d with h0|h0
   .subst h0
    have:=hP.uniq p.toNat hx
    omega
   .exact h0
  have G:=Mb hn hc z hP O Q hx d (Ar _);have ho:=walk_out hn hc z hP O Q hx (d - 1) (by omega);rw[show d - 1+1=d by omega] at ho;exact⟨G.ok,G.cap,G.cnt,G.bs,G.at_,ho⟩
abbrev FlA:=Int×List Bond×Int×Int
def flC.net(a:FlA):Net:=(BW a.1 a.2.1 a.2.2.1 a.2.2.2).1
def flC.ca(a:FlA):List AV:=[.im (.int .i64 a.1),.im (.sl false 3 (a.2.1.map Bond.c)),.im (.int .i64 a.2.2.1),.im (.int .i64 a.2.2.2)]
def flC.H1(a:FlA):Ag:=[(0,(true,.cells 344 [.im (.int .i64 a.1),.im (.sl false 3 (a.2.1.map Bond.c)),.im (.sl false 1 ((newN a.1 a.2.1).At.map Bo)),.own 2])),(2,(true,.arr 2 1 ((flC.net a).Flow.map intC)))]
def flC.r0(a:FlA):AV:= .tup [.ptr 0 0,.im (.int .i64 (BW a.1 a.2.1 a.2.2.1 a.2.2.2).2)]
def flC.pre(a:FlA):Prop:=Jk (a.1,a.2.1)/\Gs a.2.1/\0<=a.2.2.1/\a.2.2.1<a.1/\0<=a.2.2.2/\a.2.2.2<a.1/\a.2.2.1≠a.2.2.2
def flC.row:Row:=orow flC.ca (λ_=>[]) 0 flC.pre (λ_=>false) flC.r0 flC.H1 3010
def flC.ok:Ak Tryz.prog 242 flC.row:=by
 refine ow (tC newNC.ok (tC growC.ok tN)) Tryz.func242 rfl (by kernel_rfl) (exB:=exN) (R:=λa r=>r=flC.r0 a) (λ_=>rfl)
  (λa=>by simp[flC.ca,belL,AV.bel,belH,Ai,AT]) (λa p hp=> ?_) (λa r h=>by subst h;exact LeV.refl _) ?_
 rotate_left
 intro a ab;simp only[Tryz.f242,flC.ca,flC.H1];simp(disch:=omega)only[ZA,simprocAttr];obtain⟨G,ad,aa,ak,ac,am,ag⟩:=ab;obtain⟨Z,z⟩:=newN_ok G ad;have ah:=TV (n:=a.1) (bs:=a.2.1) a.2.2.1;refine orow.os (a.1,a.2.1) [] G (λj=>by simp[domB,hget]) rfl rfl ?_ ?_
 .simp(disch:=omega)only[ZA,simprocAttr,newNC.ca]
 .simp(disch:=omega)only[ZA,simprocAttr,newNC.H1];obtain⟨F,hF⟩: ∃F,F=(a.2.1.map Bond.Strength).sum.toNat+1:=⟨_,rfl⟩;refine Au.old ⟨{k:Nat×Net//B6 k.2/\Eu k.2/\k.2.Cnt=a.1/\k.2.Bonds=a.2.1/\k.2.At=(newN a.1 a.2.1).At/\outQ k.2 a.2.2.1=k.1/\k.1<=F/\BW a.1 a.2.1 a.2.2.1 a.2.2.2=((Dd a.2.2.1 a.2.2.2 (F - k.1) k.2).1,(Dd a.2.2.1 a.2.2.2 (F - k.1) k.2).2+k.1)},λk=>⟨[(11,.im (.int .i64 k.1.1)),(10,.ptr 0 0),(2,.im (.int .i64 a.2.2.1)),(3,.im (.int .i64 a.2.2.2))],[(0,(true,.cells 344 [.im (.int .i64 a.1),.im (.sl false 3 (a.2.1.map Bond.c)),.im (.sl false 1 ((newN a.1 a.2.1).At.map Bo)),.own 2])),(2,(true,.arr 2 1 (k.1.2.Flow.map intC)))],3010⟩,λk=>F - k.1.1,λk=>⟨by simp[Ac.good,belT,belH,Ai,AV.bel,belL],Ar _⟩,⟨⟨(0,newN a.1 a.2.1),Z,z,rfl,rfl,rfl,ah,Bj _,by simp[BW,hF]⟩,by simp(disch:=omega)only[ZA,simprocAttr,sub]⟩,λk=> ?_⟩;obtain⟨⟨k,N⟩,i1,i2,i3,i4,i5,i6,i7,O⟩:=k;simp only at i1 i2 i3 i4 i5 i6 i7 O;have af:=out_le i1 i2 a.2.2.1;rw[i4,i6] at af;have aj:k<F:=by omega
  have ai:F<=1000000000001:=by
   have h2: ∀(l:List Bond),(∀b∈l,b.Strength<=1000000)->(l.map Bond.Strength).sum<=1000000*(l.length:Int):=by
    intro l;induction l with
    |nil=>intro _;simp
    |cons x r ih=>
     intro h;have h3:=ih (λb hb=>h b (AX _ hb));have h4:=h x (AU ..);simp only[Ay,Fy,Bs];omega
   have h3:=h2 a.2.1 (λb hb=>(ad b hb).2);have h4:=G.2.2.1;simp only at h4;omega
  obtain⟨m,hm⟩: ∃m,F - k=m+1:=⟨F - k - 1,by omega⟩;rw[hm,Dd] at O;simp(disch:=omega)only[ZA,simprocAttr];refine orow.os (N,a.2.2.1,a.2.2.2) [0,2] ⟨i1,i2,aa,by simp only;omega,ac,by simp only;omega⟩ (λj=>MJ _ j) rfl rfl ?_ ?_
  .simp(disch:=omega)only[ZA,simprocAttr,ORB,growC.ca,netH,DS];rw[i3,i4,i5];exact⟨rfl,rfl,rfl⟩
  .simp(disch:=omega)only[ZA,simprocAttr,ORB,exN,growC.H1,growC.r0,kl1,sub,Aq];refine⟨λQ=> ?_,λQ=> ?_⟩
   .rw[Af Q] at O;obtain⟨g1,g2,g3,g4,g5,g6⟩:=grow_ok i1 i2 aa (by omega) ac (by omega) ag Q;refine⟨⟨(k+1,(Cx N a.2.2.1 a.2.2.2).1),g1,g2,g3.trans i3,g4.trans i4,g5.trans i5,by simp only;omega,by simp only;omega,?_⟩,by simp only;omega,?_,rfl⟩
    .simp only;rw[show F - (k+1)=m by omega,O];simp only[Cf,PI];omega
    .rw[Am (by omega) (by omega)];simp only;omega
   .rw[Ab Q] at O;have e:(Cx N a.2.2.1 a.2.2.2).1=N:=by
     revert Q;simp only[Cx];split
     .intro _;rfl
     .intro h;simp at h
    refine⟨?_,?_⟩
    .simp only[flC.r0,O];simp
    .rw[e];simp only[flC.net,O]
 simp[flC.H1] at hp;rcases hp with rfl|rfl
 .exact .inr ⟨by omega,by simp,rfl,rfl⟩
 .exact .inr ⟨by omega,by simp,rfl,rfl⟩
def vU64:D->Option Int
 | .int .u64 n=>some n
 |_=>none
def QU: ∀d x,vU64 d=some x->Le d (.int .u64 x):=by
 intro d x h;unfold vU64 at h;split at h
 .simp only[An] at h;subst h;exact Le.refl _
 .cases h
def Uk{a:Int}(h0:0<=a)(G:a<4294967296):andI .u64 a 4294967295=a:=by
 simp only[andI];obtain⟨n,rfl⟩: ∃n:Nat,a=n:=⟨a.toNat,by omega⟩;have hn:n<4294967296:=by omega
 have:(BitVec.ofInt IntKind.u64.bits (n:Int) &&& BitVec.ofInt IntKind.u64.bits 4294967295).toNat=n:=by
  have e:IntKind.u64.bits=64:=rfl;rw[e];simp only[BitVec.toNat_and,BitVec.toNat_ofInt];rw[show ((n:Int) % ((2^64:Nat):Int)).toNat=n by omega,show ((4294967295:Int) % ((2^64:Nat):Int)).toNat=2^32 - 1 by decide];rw[Nat.and_two_pow_sub_one_eq_mod];omega
 rw[this];unfold IntKind.wrap;have e:IntKind.u64.bits=64:=rfl;have z:IntKind.u64.signed=false:=rfl;simp only[e,z,CA,B1,Bp];omega
def wrapU{a:Int}(h0:0<=a)(G:a<18446744073709551616):IntKind.u64.wrap a=a:=by
 unfold IntKind.wrap;have e:IntKind.u64.bits=64:=rfl;have z:IntKind.u64.signed=false:=rfl;simp only[e,z,CA,B1,Bp];omega
def fdivU{a:Int}(h0:0<=a)(z:a<4294967296):a.fdiv (2^min 32 IntKind.u64.bits)=0:=by
 have e:IntKind.u64.bits=64:=rfl;rw[e,show (2:Int)^min 32 64=4294967296 by decide,Yf _ (by decide)];omega
def mul64.fv(a:Int×Int):Int×Int:=(λ_ y=>(0,y)) (a.1) (a.2)
def mul64.row:Row:=vK (b2 qU qU) (r2 (RK.mk (vU64) (D.int .u64) (QU)) (RK.mk (vU64) (D.int .u64) (QU))) (λa=>a.1=1/\0<=a.2/\a.2<=1000000) mul64.fv
def mul64.q:=vKq (R:=mul64.row) rfl
def mul64.ok:Ak Tryz.prog 300 mul64.row:=by
 refine vw tN Tryz.func300 rfl (by kernel_rfl) ?_;intro a z;simp only[Tryz.f300];simp(disch:=omega)only[ZA,simprocAttr,mul64.fv];obtain⟨O,G,Q⟩:=z;rw[O,Uk (by omega) (by omega),Uk (by omega) (by omega),fdivU (by omega) (by omega),fdivU G (by omega),Int.zero_mul,Int.one_mul,Int.zero_mul,Int.mul_zero];simp only[wrapU G (show a.2<18446744073709551616 by omega),fdivU G (show a.2<4294967296 by omega),wrapU (Fv 0) (by decide),Vy,fdivU (Fv 0) (by decide),Uk (Fv 0) (by decide)];rfl
def mul_.fv(a:Int×Int):Int×Int:=(λ_ y=>(0,y)) (a.1) (a.2)
def mul_.row:Row:=vK (b2 qU qU) (r2 (RK.mk (vU64) (D.int .u64) (QU)) (RK.mk (vU64) (D.int .u64) (QU))) (λa=>a.1=1/\0<=a.2/\a.2<=1000000) mul_.fv
def mul_.q:=vKq (R:=mul_.row) rfl
def mul_.ok:Ak Tryz.prog 298 mul_.row:=by
 refine vw (tC mul64.ok tN) Tryz.func298 rfl (by kernel_rfl) ?_;intro a z;simp only[Tryz.f298];simp(disch:=omega)only[ZA,simprocAttr,mul_.fv,mul64.q,mul64.fv];exact⟨z,rfl⟩
def repR(x:Int)(m n:Nat):List (List D):=List.replicate m [.int .i64 x]++List.replicate (n - m) [.int .i64 0]
def repR_len(x:Int){m n:Nat}(h:m<=n):(repR x m n).length=n:=by simp[repR];omega
def repR_one(x:Int)(n:Nat):repR x (min 1 n) n=List.take (min 1 n) [[.int .i64 x]]++List.drop (min 1 n) (List.replicate n [.int .i64 0]):=by
 cases n with
 |zero=>rfl
 |succ n=>
  rw[show min 1 (n+1)=1 by omega];simp[repR]
def OneR_repR(x:Int)(k m n:Nat):OneR allD (List.take k (repR x m n)):=by
 intro r z
 have:=Rw z
 rcases AG.1 this with h|h<;>rw[Gf h]<;>rfl
def repR_step(x:Int){m n:Nat}(h:m<n):List.take m (repR x m n)++List.take (min m (n - m)) (List.take m (repR x m n))++List.drop (m+min m (n - m)) (repR x m n)=repR x (m+min m (n - m)) n:=by
 have e:List.take m (repR x m n)=List.replicate m [.int .i64 x]:=by simp[repR]
 rw[e];have z:List.drop (m+min m (n - m)) (repR x m n)=List.replicate (n - (m+min m (n - m))) [.int .i64 0]:=by
  simp only[repR];rw[HB,B9 (by simp),D1,Gb,List.drop_replicate];congr 1;omega
 rw[z,repR,<-List.replicate_append_replicate];congr 2;rw[List.take_replicate];congr 1;omega
def rept.ca(a:Int×Int):List AV:=[.own 0,.im (.int .i64 a.2)]
def rept.H0(a:Int×Int):Ag:=[(0,(true,.arr 3 1 [[.int .i64 a.1]]))]
def rept.H1(a:Int×Int):Ag:=[(1,(true,.arr 3 1 (List.replicate a.2.toNat [.int .i64 a.1])))]
def rept.pre(a:Int×Int):Prop:=0<=a.2/\a.2<=1000000
def rept.row:Row:=orow rept.ca rept.H0 1 rept.pre (λ_=>false) (λ_=> .own 1) rept.H1 20
def rept.ok:Ak Tryz.prog 294 rept.row:=by
 refine owN (tC mul_.ok tN) Tryz.func294 rfl (by kernel_rfl) (exB:=λj=>j==1) (R:=λa r=>r= .own 1) (λ_=>rfl)
  (λa=>by simp[rept.ca,rept.H0,belL,AV.bel,belH,Ai,AT,AObj.nms,domB,hget]) (λa p hp=> ?_) (λa r h=>by subst h;exact LeV.refl _) ?_
 rotate_left
 intro a G;simp only[Tryz.f294,rept.ca,rept.H0,rept.H1];simp(disch:=omega)only[ZA,simprocAttr,mul_.q,mul_.fv,ORC,B8,Cn];obtain⟨h0,Z⟩:=G;rw[Ab (by omega)];simp(disch:=omega)only[ZA,simprocAttr,wrapU (show (0:Int)<=1 by decide) (show (1:Int)<18446744073709551616 by decide),wrapU h0 (show a.2<18446744073709551616 by omega)];refine⟨⟨h0,Z⟩,?_⟩;rw[Ab (by omega)];simp(disch:=omega)only[simprocAttr,Am (show -9223372036854775808<=a.2 by omega) (show a.2<=9223372036854775807 by omega)];refine⟨h0,Fv _,by omega,?_⟩;obtain⟨n,hn⟩: ∃n:Nat,a.2=n:=⟨a.2.toNat,by omega⟩;obtain⟨x,hx⟩: ∃x,x=a.1:=⟨_,rfl⟩;simp only[hn,AH,Gb,<-hx];rw[hn] at h0 Z;refine Au.old ⟨{m:Nat//m<=n/\(m=0->n=0)},λm=>⟨[(8,.im (.int .i64 m.1)),(7,.own 1)],[(1,(true,.arr 3 1 (repR x m.1 n))),(0,(true,.arr 3 1 [[.int .i64 x]]))],2⟩,λm=>n - m.1,λm=>⟨by simp[Ac.good,belT,belH,Ai,AV.bel],by simp⟩,⟨⟨min 1 n,by omega,by omega⟩,?_⟩,λm=> ?_⟩
 .simp(disch:=omega)only[ZA,simprocAttr,sub];exact (repR_one x n).symm
 obtain⟨m,Q,ab⟩:=m;have z:=repR_len x Q;simp(disch:=omega)only[ZA,simprocAttr,C4,Aq,z];intro aa;refine⟨λhm=>⟨by omega,false,?_⟩,λhm=> ?_⟩
 .simp(disch:=omega)only[ZA,simprocAttr,z];refine⟨by omega,false,?_⟩;simp(disch:=omega)only[ZA,simprocAttr,sub];obtain⟨k,hk⟩: ∃k,min (List.take ((m:Int) - 0).toNat (repR x m n)).length ((n:Int) - m).toNat=k:=⟨_,rfl⟩;have O:k=min m (n - m):=by rw[<-hk,Bb,z];omega
  rw[hk,show ((m:Int) - 0).toNat=m by omega];refine⟨OneR_repR x _ _ _,⟨m+k,by omega,by omega⟩,by simp only;omega,by rw[Am (by omega) (by omega)];simp only;omega,?_⟩;subst O;exact repR_step x hm
 .refine⟨[],[],⟨[(4,.own 1)],[(1,(true,.arr 3 1 (repR x m n))),(0,(true,.arr 3 1 [[.int .i64 x]]))],2⟩,?_,by simp[Ac.good,belT,belH,Ai,AV.bel],by simp,?_⟩
  .simp only[subP];simp(disch:=omega)only[ZA,simprocAttr,AC]
  .simp(disch:=omega)only[ZA,simprocAttr]
   have:m=n:=by omega
   subst this;simp[repR]
 simp[rept.H1] at hp;subst hp;exact .inr ⟨by omega,by omega,rfl,rfl⟩
def Ro(x:Nwk)(u v:Int):Int:=(x.Room[u.toNat]?.getD [])[v.toNat]?.getD 0
def Rv(x:Nwk)(u v:Int):Int:=(x.Flow[u.toNat]?.getD [])[v.toNat]?.getD 0
def Hz(x:Nwk)(u v:Int):Bool:=decide (Rv x u v<Ro x u v)
structure EU(x:Nwk)(n:Nat):Prop where
 r:x.Room.length=n
 f:x.Flow.length=n
 rr: ∀l∈x.Room,l.length=n
 ff: ∀l∈x.Flow,l.length=n
def way1(x:Nwk)(u:Int)(s:List Int×List Int)(v:Nat):List Int×List Int:=
 if s.1[v]?.getD 0<0/\Hz x u v=true then (s.1.set v u,s.2++[(v:Int)]) else s
def wayI(x:Nwk)(u:Int)(s:List Int×List Int):Nat->List Int×List Int
 |0=>s
 |k+1=>way1 x u (wayI x u s k) k
def Bt(x:Nwk)(n:Nat)(p:Int):Nat->List Int×List Int
 |0=>((List.replicate n (-1)).set p.toNat p,[p])
 |k+1=>match (Bt x n p k).2[k]? with
  |none=>Bt x n p k
  |some u=>wayI x u (Bt x n p k) n
structure wayP(x:Nwk)(n:Nat)(p:Int)(s:List Int×List Int):Prop where
 len:s.1.length=n
 q: ∀v∈s.2,0<=v/\v<n
 nd:s.2.Nodup
 hd:s.2[0]? =some p
 pp:s.1[p.toNat]? =some p
 mem: ∀(v:Nat) (y:Int),s.1[v]? =some y->(0<=y↔(v:Int)∈s.2)
 prev: ∀(i:Nat) (v:Int),s.2[i]? =some v->0<i-> ∃(j:Nat) (u:Int),j<i/\s.2[j]? =some u/\s.1[v.toNat]? =some u/\Hz x u v=true
def W5: ∀(n:Nat) (l:List Int),l.Nodup->(∀v∈l,0<=v/\v<n)->l.length<=n
 |0,[],_,_=>Ar _
 |0,x::r,_,h=>by have:=h x (AU ..);omega
 |n+1,l,h,hb=>by
  have O:=W5 n (l.erase (n:Int)) (h.erase _) (λv G=>by
   have z:=(h.mem_erase_iff).1 G;have Q:=hb v z.2
   have:=z.1
   omega)
  have z:=List.length_erase (a:=(n:Int)) (l:=l);split at z<;>omega
def QI{x:Nwk}{n:Nat}{p:Int}{s:List Int×List Int}(h:wayP x n p s):s.2.length<=n:=W5 n s.2 h.nd h.q
def way1_P{x:Nwk}{n:Nat}{p:Int}{s:List Int×List Int}(h:wayP x n p s){u:Int}{k v:Nat}(hu:s.2[k]? =some u)(hv:v<n):wayP x n p (way1 x u s v)/\ ∃r,(way1 x u s v).2=s.2++r:=by
 simp only[way1];split
 .rename_i hc;obtain⟨ac,ad⟩:=hc;have O:v<s.1.length:=by rw[h.len];exact hv
  obtain⟨y,hy⟩: ∃y,s.1[v]? =some y:=⟨_,A8 O⟩;rw[hy,Ao] at ac;have Q:(v:Int)∉s.2:=λhm=>by have:=(h.mem v y hy).2 hm;omega
  have aa:p∈s.2:=Ax h.hd;have ah:p.toNat≠v:=by
   intro he
   have:=h.q p aa
   exact Q (by rw[show (v:Int)=p by omega];exact aa)
  have ai:=h.q u (Ax hu);refine⟨⟨by simpa using h.len,λw G=> ?_,?_,?_,?_,λw z hz=> ?_,λi w G hi=> ?_⟩,_,rfl⟩
  .rcases AG.1 G with G|G
   .exact h.q w G
   .rw[AO] at G;subst G;omega
  .rw[H9];refine⟨h.nd,by simp,λa ha b hb=> ?_⟩;rw[AO] at hb;subst hb;exact λhe=>Q (he▸ha)
  .have:=h.hd
   rw[Ci (Ba.1 this).1];exact this
  .simp only;rw[BM (Co ah)];exact h.pp
  .simp only at hz⊢;rw[AG,AO];by_cases ab:v=w
   .subst ab;rw[BA O] at hz;obtain rfl:=Al hz;exact⟨λ_=> .inr rfl,λ_=>ai.1⟩
   .rw[BM ab] at hz;rw[h.mem w z hz];constructor
    .exact .inl
    .rintro (h1|h1)
     .exact h1
     .omega
  .simp only at G⊢;by_cases ag:i<s.2.length
   .rw[Ci ag] at G;obtain⟨j,z,h1,h2,h3,h4⟩:=h.prev i w G hi;refine⟨j,z,h1,by rw[Ci (by omega)];exact h2,?_,h4⟩;have aj:=h.q w (Ax G);rw[BM]
    .exact h3
    .intro he;exact Q (by rw[show (v:Int)=w by omega];exact Ax G)
   .have af:i=s.2.length:=by
     have:=(Ba.1 G).1
     simp only[B5,Bs,D0] at this;omega
    subst af;rw[C8 (Ar _),D3,De] at G;obtain rfl:=Al G;have Z:=(Ba.1 hu).1;refine⟨k,u,Z,by rw[Ci Z];exact hu,?_,ad⟩;rw[AH,BA O]
 .exact⟨h,[],by simp⟩
def Tc(x:Nwk)(u:Int)(s:List Int×List Int)(v w:Nat)(y:Int)(h:s.1[w]? =some y)(h0:0<=y):(way1 x u s v).1[w]? =some y:=by
 simp only[way1];split
 .rename_i hc;rw[BM]
  .exact h
  .intro z;subst z
   have:=hc.1
   rw[h,Ao] at this;omega
 .exact h
def Xe(x:Nwk)(u:Int)(s:List Int×List Int)(w:Nat)(y:Int)(h:s.1[w]? =some y)(h0:0<=y): ∀k,(wayI x u s k).1[w]? =some y
 |0=>h
 |k+1=>Tc x u _ k w y (Xe x u s w y h h0 k) h0
def Px{x:Nwk}{n:Nat}{p:Int}{s:List Int×List Int}(h:wayP x n p s){u:Int}{i:Nat}(G:s.2[i]? =some u): ∀k,k<=n->wayP x n p (wayI x u s k)/\ ∃r,(wayI x u s k).2=s.2++r
 |0,_=>⟨h,[],by simp[wayI]⟩
 |k+1,hk=>by
  obtain⟨Z,r,Q⟩:=Px h G k (by omega);have O:=(Ba.1 G).1;obtain⟨h2,r',z⟩:=way1_P Z (u:=u) (k:=i) (v:=k) (by rw[Q,Ci O];exact G) (by omega);exact⟨h2,r++r',by rw[wayI,z,Q,DA]⟩
def X8{x:Nwk}{n:Nat}{p:Int}{s:List Int×List Int}(h:wayP x n p s){u:Int}{i:Nat}(G:s.2[i]? =some u): ∀k,k<=n-> ∀v,v<k->Hz x u v=true-> ∃y,(wayI x u s k).1[v]? =some y/\0<=y
 |0,_,v,hv,_=>by omega
 |k+1,hk,v,hv,hf=>by
  by_cases Q:v<k
  .obtain⟨y,h1,Z⟩:=X8 h G k (by omega) v Q hf;exact⟨y,Tc x u _ k v y h1 Z,Z⟩
  .have:v=k:=by omega
   subst this;have hP:=(Px h G v (by omega)).1;obtain⟨y,hy⟩: ∃y,(wayI x u s v).1[v]? =some y:=⟨_,A8 (by rw[hP.len];omega)⟩;by_cases z:0<=y
   .exact⟨y,Tc x u _ v v y hy z,z⟩
   .have O:=h.q u (Ax G);refine⟨u,?_,O.1⟩;rw[wayI,way1,Af ⟨by rw[hy,Ao];omega,hf⟩];exact BA (by rw[hP.len];omega)
def Hc{x:Nwk}{n:Nat}{p:Int}(h0:0<=p)(Q:p<n): ∀k,wayP x n p (Bt x n p k)
 |0=>by
  have hq:p.toNat<(List.replicate n (-1:Int)).length:=by rw[Gb];omega
  refine⟨by simp[Bt],λv z=> ?_,by simp[Bt],rfl,BA hq,λv y G=> ?_,λi v z hi=> ?_⟩
  .simp only[Bt,AO] at z;subst z;omega
  .simp only[Bt,AO] at G⊢;by_cases O:p.toNat=v
   .subst O;rw[BA hq] at G;obtain rfl:=Al G;omega
   .rw[BM O] at G
    have:=Gf (Ax G)
    omega
  .simp only[Bt] at z;cases i with
   |zero=>omega
   |succ i=>simp at z
 |k+1=>by
  have ih:=Hc (x:=x) h0 Q k;simp only[Bt];split
  .exact ih
  .rename_i u Z;exact (Px ih Z n (Ar _)).1
def MA(x:Nwk)(n:Nat)(p:Int)(w:Nat)(y:Int)(h0:0<=y)(k:Nat)(h:(Bt x n p k).1[w]? =some y): ∀m,(Bt x n p (k+m)).1[w]? =some y
 |0=>h
 |m+1=>by
  have ih:=MA x n p w y h0 k h m;rw[show k+(m+1)=k+m+1 by omega,Bt];split
  .exact ih
  .exact Xe x _ _ w y ih h0 n
def way_grow(x:Nwk){n:Nat}{p:Int}(h0:0<=p)(z:p<n)(k:Nat): ∃r,(Bt x n p (k+1)).2=(Bt x n p k).2++r:=by
 rw[Bt];split
 .exact⟨[],by simp⟩
 .rename_i u G;exact (Px (Hc (x:=x) h0 z k) G n (Ar _)).2
def way_end(x:Nwk)(n:Nat)(p:Int): ∀(m k:Nat),(Bt x n p k).2.length<=k->Bt x n p (k+m)=Bt x n p k
 |0,k,_=>rfl
 |m+1,k,h=>by
  have z:Bt x n p (k+1)=Bt x n p k:=by
   rw[Bt,CH h]
  have G:=way_end x n p m (k+1) (by rw[z];omega);rw[show k+(m+1)=k+1+m by omega,G,z]
def XE(x:Nwk){n:Nat}{p:Int}(h0:0<=p)(G:p<n): ∀(k:Nat) (j:Nat) (u:Int),j<k->(Bt x n p k).2[j]? =some u-> ∀v,v<n->Hz x u v=true-> ∃y,(Bt x n p k).1[v]? =some y/\0<=y
 |0,j,_,hj,_,_,_,_=>by omega
 |k+1,j,u,hj,z,v,Z,hf=>by
  obtain⟨r,hr⟩:=way_grow x h0 G k;by_cases Q:j<(Bt x n p k).2.length
  .rw[hr,Ci Q] at z;by_cases O:j<k
   .obtain⟨y,g1,g2⟩:=XE x h0 G k j u O z v Z hf;exact⟨y,MA x n p v y g2 k g1 1,g2⟩
   .have:j=k:=by omega
    subst this;obtain⟨y,g1,g2⟩:=X8 (Hc (x:=x) h0 G j) z n (Ar _) v Z hf;exact⟨y,by rw[Bt,z];exact g1,g2⟩
  .have e:Bt x n p (k+1)=Bt x n p k:=by
    rw[Bt,CH (by omega)]
   rw[e] at z
   have:=(Ba.1 z).1
   omega
def wayE(x:Nwk)(n:Nat)(p:Int):List Int×List Int:=Bt x n p n
def YL(x:Nwk){n:Nat}{p:Int}(h0:0<=p)(G:p<n){u v:Nat}{y:Int}(hu:(wayE x n p).1[u]? =some y)(hy:0<=y)(hv:v<n)(hf:Hz x u v=true): ∃z,(wayE x n p).1[v]? =some z/\0<=z:=by
 have O:=Hc (x:=x) h0 G n;have hm:=(O.mem u y hu).1 hy;obtain⟨j,Q⟩:=Fa.1 hm;have hl:=QI O;have Z:=(Ba.1 Q).1;exact XE x h0 G n j u (by omega) Q v hv hf
def BD(z:List Int)(q:Int):Nat->Int
 |0=>q
 |k+1=>z[(BD z q k).toNat]?.getD 0
def Pi(z:List Int)(p q:Int)(n:Nat):Nat:=((List.range (n+1)).find? λk=>decide (BD z q k=p)).getD 0
def DZ(z:List Int)(q:Int)(k:Nat):List Int:=(List.range (k+1)).map (BD z q)
def wayN(x:Nwk)(n:Nat)(p q:Int):List Int:=
 if (wayE x n p).1[q.toNat]?.getD 0<0 then [] else (DZ (wayE x n p).1 q (Pi (wayE x n p).1 p q n)).reverse
def OD{x:Nwk}{n:Nat}{p:Int}{s:List Int×List Int}(h:wayP x n p s){q:Int}{i:Nat}(hq:s.2[i]? =some q): ∀k,(∀j,j<k->BD s.1 q j≠p)-> ∃j,j+k<=i/\s.2[j]? =some (BD s.1 q k)
 |0,_=>⟨i,by omega,hq⟩
 |k+1,z=>by
  obtain⟨j,h1,G⟩:=OD h hq k (λj hj=>z j (by omega));have O:0<j:=by
   rcases M7 j with h0|h0
   .subst h0;rw[h.hd] at G;exact absurd (Al G).symm (z k (by omega))
   .exact h0
  obtain⟨j',u,g1,g2,Q,Z⟩:=h.prev j _ G O;exact⟨j',by omega,by rw[BD,Q,Ao];exact g2⟩
def back_free{x:Nwk}{n:Nat}{p:Int}{s:List Int×List Int}(h:wayP x n p s){q:Int}{i:Nat}(hq:s.2[i]? =some q){k:Nat}(z: ∀j,j<k+1->BD s.1 q j≠p):Hz x (BD s.1 q (k+1)) (BD s.1 q k)=true/\ ∃y,s.1[(BD s.1 q k).toNat]? =some y/\BD s.1 q (k+1)=y:=by
 obtain⟨j,h1,G⟩:=OD h hq k (λj hj=>z j (by omega));have O:0<j:=by
  rcases M7 j with h0|h0
  .subst h0;rw[h.hd] at G;exact absurd (Al G).symm (z k (by omega))
  .exact h0
 obtain⟨j',u,g1,g2,Q,Z⟩:=h.prev j _ G O;have e:BD s.1 q (k+1)=u:=by rw[BD,Q,Ao]
 exact⟨by rw[e];exact Z,u,Q,e⟩
def VY{x:Nwk}{n:Nat}{p:Int}{s:List Int×List Int}(h:wayP x n p s){q:Int}{i:Nat}(hq:s.2[i]? =some q): ∃d,d<=i/\BD s.1 q d=p/\ ∀j,j<d->BD s.1 q j≠p:=by
 have Q: ∀m,(∃d,d<=m/\BD s.1 q d=p/\ ∀j,j<d->BD s.1 q j≠p)\/ ∀j,j<=m->BD s.1 q j≠p:=by
  intro m;induction m with
  |zero=>
   by_cases h0:BD s.1 q 0=p
   .exact .inl ⟨0,Ar _,h0,λj G=>by omega⟩
   .exact .inr λj G=>by rw[show j=0 by omega];exact h0
  |succ m ih=>
   rcases ih with ⟨d,z,Z,h3⟩|ih
   .exact .inl ⟨d,by omega,Z,h3⟩
   .by_cases h0:BD s.1 q (m+1)=p
    .exact .inl ⟨m+1,Ar _,h0,λj G=>ih j (by omega)⟩
    .refine .inr λj G=> ?_
     by_cases O:j<=m
     .exact ih j O
     .rw[show j=m+1 by omega];exact h0
 rcases Q i with z|z
 .exact z
 .obtain⟨j,g1,g2⟩:=OD h hq (i+1) (λj G=>z j (by omega));omega
def Wn{z:List Int}{p q:Int}{n d:Nat}(hd:d<=n)(G:BD z q d=p)(O: ∀j,j<d->BD z q j≠p):Pi z p q n=d:=by
 have: ∀(m s:Nat),s<=d->d<s+m->((List.range' s m).find? λk=>decide (BD z q k=p))=some d:=by
  intro m;induction m with
  |zero=>intro s Q Z;omega
  |succ m ih=>
   intro s Q Z;rw[List.range'_succ,RH];by_cases hs:s=d
   .subst hs;simp[G]
   .rw[show decide (BD z q s=p)=false from JB (O s (by omega))];exact ih (s+1) (by omega) (by omega)
 rw[Pi,Vk,this _ 0 (by omega) (by omega),Ao]
def sumN(f:Nat->Int):Nat->Int
 |0=>0
 |n+1=>sumN f n+f n
def C3{f g:Nat->Int}: ∀{n:Nat},(∀i,i<n->f i=g i)->sumN f n=sumN g n
 |0,_=>rfl
 |n+1,h=>by simp only[sumN];rw[C3 (λi z=>h i (by omega)),h n (by omega)]
def GM(f g:Nat->Int): ∀n,sumN (λi=>f i+g i) n=sumN f n+sumN g n
 |0=>rfl
 |n+1=>by simp only[sumN];rw[GM f g n];omega
def O9(f:Nat->Int): ∀n,sumN (λi=> - f i) n= - sumN f n
 |0=>rfl
 |n+1=>by simp only[sumN];rw[O9 f n];omega
def GJ: ∀n,sumN (λ_=>0) n=0
 |0=>rfl
 |n+1=>by simp only[sumN];rw[GJ n];rfl
def Uz{f g:Nat->Int}: ∀{n:Nat},(∀i,i<n->f i<=g i)->sumN f n<=sumN g n
 |0,_=>Fv _
 |n+1,h=>by
  have z:=Uz (f:=f) (g:=g) (n:=n) (λi O=>h i (by omega));have G:=h n (by omega);simp only[sumN];omega
def Wv(f:Nat->Nat->Int)(m:Nat): ∀n,sumN (λi=>sumN (λj=>f i j) m) n=sumN (λj=>sumN (λi=>f i j) n) m
 |0=>by simp only[sumN];exact (GJ m).symm
 |n+1=>by simp only[sumN];rw[Wv f m n,<-GM]
def I3(k:Nat)(c:Int): ∀n,sumN (λi=>if i=k then c else 0) n=if k<n then c else 0
 |0=>rfl
 |n+1=>by
  simp only[sumN];rw[I3 k c n];by_cases z:n=k
  .subst z;rw[Ab (by omega),Af rfl,Af (by omega)];omega
  .rw[Ab z];by_cases G:k<n
   .rw[Af G,Af (by omega)];omega
   .rw[Ab G,Ab (by omega)];omega
def sumN_anti(a:Nat->Nat->Int)(n:Nat)(h: ∀u w,u<n->w<n->a u w= - a w u):sumN (λu=>sumN (λw=>a u w) n) n=0:=by
 have O:sumN (λu=>sumN (λw=>a u w) n) n= - sumN (λu=>sumN (λw=>a u w) n) n:=by
  rw[<-O9]
  conv=>lhs;rw[Wv]
  refine C3 λu z=> ?_
  rw[<-O9];exact C3 λw G=>h w u G z
 omega
structure GU(rm fl:Nat->Nat->Int)(n p q:Nat)(v:Int):Prop where
 anti: ∀u w,u<n->w<n->fl u w= - fl w u
 cap: ∀u w,u<n->w<n->fl u w<=rm u w
 cons: ∀u,u<n->u≠p->u≠q->sumN (fl u) n=0
 val:sumN (fl p) n=v
def cutF(rm:Nat->Nat->Int)(n:Nat)(S:Nat->Bool):Int:=sumN (λu=>sumN (λw=>if S u=true/\S w=false then rm u w else 0) n) n
def ME{rm fl:Nat->Nat->Int}{n p q:Nat}{v:Int}(h:GU rm fl n p q v)(hp:p<n){S:Nat->Bool}(Q:S p=true)(Z:S q=false):cutF fl n S=v:=by
 have h1:sumN (λu=>sumN (λw=>if S u=true then fl u w else 0) n) n=v:=by
  have:sumN (λu=>sumN (λw=>if S u=true then fl u w else 0) n) n=sumN (λu=>if u=p then v else 0) n:=by
   refine C3 λu G=> ?_
   by_cases z:u=p
   .subst z;rw[Af rfl,<-h.val];exact C3 λw _=>Af Q
   .rw[Ab z];cases hSu:S u with
    |false=>exact (C3 λw _=>Ab (by simp)).trans (GJ n)
    |true=>
     have O:u≠q:=λhe=>by rw[he,Z] at hSu;cases hSu
     exact (C3 λw _=>Af rfl).trans (h.cons u G z O)
  rw[this,I3,Af hp]
 have h2:sumN (λu=>sumN (λw=>if S u=true/\S w=true then fl u w else 0) n) n=0:=by
  refine sumN_anti _ n λu w G hw=> ?_
  by_cases hb:S u=true/\S w=true
  .rw[Af hb,Af ⟨hb.2,hb.1⟩];exact h.anti u w G hw
  .rw[Ab hb,Ab (λh=>hb ⟨h.2,h.1⟩)];rfl
 have h3:sumN (λu=>sumN (λw=>if S u=true then fl u w else 0) n) n=sumN (λu=>sumN (λw=>if S u=true/\S w=true then fl u w else 0) n) n+cutF fl n S:=by
  rw[cutF,<-GM];refine C3 λu _=> ?_
  rw[<-GM];refine C3 λw _=> ?_
  cases S u<;>cases S w<;>simp
 omega
def YG{rm fl:Nat->Nat->Int}{n p q:Nat}{v:Int}(h:GU rm fl n p q v)(hp:p<n){S:Nat->Bool}(z:S p=true)(G:S q=false):v<=cutF rm n S:=by
 rw[<-ME h hp z G];refine Uz λu O=>Uz λw Q=> ?_
 split
 .exact h.cap u w O Q
 .exact Fv _
def YP{rm fl:Nat->Nat->Int}{n p q:Nat}{v:Int}(h:GU rm fl n p q v)(hp:p<n){S:Nat->Bool}(Q:S p=true)(Z:S q=false)(z: ∀u w,u<n->w<n->S u=true->S w=false->rm u w<=fl u w):v=cutF rm n S:=by
 rw[<-ME h hp Q Z];refine C3 λu G=>C3 λw O=> ?_
 split
 .rename_i hb;have h1:=h.cap u w G O;have h2:=z u w G O hb.1 hb.2;omega
 .rfl
def D6(L:Nat->Nat)(a b j:Nat):Int:=if L j=a/\L (j+1)=b then 1 else 0
def Oi(L:Nat->Nat)(a b:Nat): ∀i,0<=sumN (D6 L a b) i
 |0=>Fv _
 |i+1=>by
  have:=Oi L a b i
  simp only[sumN,D6]
  split<;>omega
def QG{L:Nat->Nat}{m:Nat}(z: ∀i j,i<=m->j<=m->L i=L j->i=j)(a b:Nat): ∀i,i<=m->sumN (D6 L a b) i<=1/\(0<sumN (D6 L a b) i-> ∃j,j<i/\L j=a/\L (j+1)=b)
 |0,_=>⟨by simp[sumN],λh=>by simp[sumN] at h⟩
 |i+1,hi=>by
  obtain⟨h1,Q⟩:=QG z a b i (by omega);have h0:=Oi L a b i;simp only[sumN];by_cases hc:L i=a/\L (i+1)=b
  .have hz: ¬0<sumN (D6 L a b) i:=by
    intro G;obtain⟨j,Z,O,_⟩:=Q G
    have:=z j i (by omega) (by omega) (O.trans hc.1.symm)
    omega
   simp only[D6] at hz h0⊢;rw[Af hc];exact⟨by omega,λ_=>⟨i,by omega,hc⟩⟩
  .have e:D6 L a b i=0:=Ab hc;rw[e];refine⟨by omega,λG=> ?_⟩;obtain⟨j,Z,O⟩:=Q (by omega);exact⟨j,by omega,O⟩
def MI{L:Nat->Nat}{n m:Nat}(z: ∀i,i<=m->L i<n)(a:Nat): ∀i,i<=m->sumN (λb=>sumN (D6 L a b) i - sumN (D6 L b a) i) n=(if L 0=a then 1 else 0) - (if L i=a then 1 else 0)
 |0,_=>by simp only[sumN,Int.sub_self];exact GJ n
 |i+1,Z=>by
  have ih:=MI z a i (by omega);have e:sumN (λb=>sumN (D6 L a b) (i+1) - sumN (D6 L b a) (i+1)) n=sumN (λb=>sumN (D6 L a b) i - sumN (D6 L b a) i) n+(sumN (λb=>if b=L (i+1) then (if L i=a then 1 else 0) else 0) n+ - sumN (λb=>if b=L i then (if L (i+1)=a then 1 else 0) else 0) n):=by
   rw[<-O9,<-GM,<-GM];refine C3 λb _=> ?_
   simp only[sumN,D6];by_cases c1:L i=a<;>by_cases G:L (i+1)=a<;>by_cases O:b=L i<;>by_cases Q:b=L (i+1)<;>simp[c1,G,O,Q,eq_comm]<;>omega
  rw[e,ih,I3,I3,Af (z _ Z),Af (z _ (by omega))];omega
def flow_push{rm fl Q:Nat->Nat->Int}{n p q:Nat}{v:Int}(h:GU rm fl n p q v){L:Nat->Nat}{m:Nat}(aa: ∀i j,i<=m->j<=m->L i=L j->i=j)(hr: ∀i,i<=m->L i<n)
 (h0:L 0=p)(hm:L m=q)(ac:p≠q)(hp:p<n)(Z: ∀i,i<m->fl (L i) (L (i+1))<rm (L i) (L (i+1)))
 (z: ∀a b,a<n->b<n->Q a b=fl a b+(sumN (D6 L a b) m - sumN (D6 L b a) m)):GU rm Q n p q (v+1):=by
 have O: ∀a,a<n->sumN (Q a) n=sumN (fl a) n+((if L 0=a then 1 else 0) - (if L m=a then 1 else 0)):=by
  intro a ha;rw[<-MI hr a m (Ar _),<-GM];exact C3 λb hb=>z a b ha hb
 refine⟨λu w G hw=> ?_,λu w G hw=> ?_,λu G h1 h2=> ?_,?_⟩
 .rw[z u w G hw,z w u hw G]
  have:=h.anti u w G hw
  omega
 .rw[z u w G hw];obtain⟨e1,e2⟩:=QG aa u w m (Ar _);have e3:=Oi L w u m;have e4:=h.cap u w G hw;by_cases ab:0<sumN (D6 L u w) m
  .obtain⟨j,hj,g1,g2⟩:=e2 ab
   have:=Z j hj
   rw[g1,g2] at this;omega
  .omega
 .rw[O u G,h.cons u G h1 h2,h0,hm,Ab (Co h1),Ab (Co h2)];rfl
 .rw[O p hp,h.val,h0,hm,Af rfl,Ab (Co ac)];omega
def Fl(l:List (List Int))(u v:Int)(d:Int):List (List Int):=l.set u.toNat ((l[u.toNat]?.getD []).set v.toNat ((l[u.toNat]?.getD [])[v.toNat]?.getD 0+d))
def Dr(l:List (List Int))(a b:Nat):Int:=(l[a]?.getD [])[b]?.getD 0
def Jb(l:List (List Int))(u v d:Int):(Fl l u v d).length=l.length:=by simp[Fl]
def IX{l:List (List Int)}{n:Nat}(h: ∀r∈l,r.length=n)(u v d:Int)(G:u.toNat<l.length): ∀r∈Fl l u v d,r.length=n:=by
 intro r z;rcases IQ z with z|z
 .exact h r z
 .subst z;rw[Cr,A8 G,Ao];exact h _ (Hk G)
def K5{l:List (List Int)}{n:Nat}(O:l.length=n)(h: ∀r∈l,r.length=n){u v:Nat}(d:Int)(Q:u<n)(Z:v<n)(a b:Nat):Dr (Fl l u v d) a b=Dr l a b+if a=u/\b=v then d else 0:=by
 simp only[Dr,Fl,AH];by_cases z:u=a
 .subst z;rw[BA (by omega),Ao];have G:(l[u]?.getD []).length=n:=by
   rw[A8 (by omega),Ao];exact h _ (Hk (by omega))
  by_cases hb:v=b
  .subst hb;rw[BA (by omega),Ao,Af ⟨rfl,rfl⟩]
  .rw[BM hb,Ab (λh=>hb h.2.symm)];omega
 .rw[BM z,Ab (λh=>z h.1.symm)];omega
def F5(x:Nwk)(u v:Int):Nwk:=⟨x.Room,Fl (Fl x.Flow u v 1) v u (-1)⟩
def D7(x:Nwk)(L:List Int):Nat->Nwk
 |0=>x
 |i+1=>F5 (D7 x L i) (L[i]?.getD 0) (L[i+1]?.getD 0)
def SC(x:Nwk)(L:List Int): ∀i,(D7 x L i).Room=x.Room
 |0=>rfl
 |i+1=>SC x L i
def flowAt_eq(x:Nwk)(u v:Int):Rv x u v=Dr x.Flow u.toNat v.toNat:=rfl
def roomAt_eq(x:Nwk)(u v:Int):Ro x u v=Dr x.Room u.toNat v.toNat:=rfl
def pushE_ok{x:Nwk}{n:Nat}(h:EU x n){u v:Int}(z:u.toNat<n)(G:v.toNat<n):EU (F5 x u v) n:=by
 refine⟨h.r,by simp only[F5,Jb];exact h.f,h.rr,?_⟩;exact IX (IX h.ff u v 1 (by rw[h.f];exact z)) v u (-1) (by rw[Jb,h.f];exact G)
def Qu{x:Nwk}{n:Nat}(h:EU x n){L:List Int}(z: ∀y∈L,0<=y/\y<n): ∀i,i<L.length->EU (D7 x L i) n
 |0,_=>h
 |i+1,G=>by
  have ih:=Qu h z i (by omega);refine pushE_ok ih ?_ ?_
  .rw[A8 (by omega),Ao]
   have:=z _ (Hk (show i<L.length by omega))
   omega
  .rw[A8 G,Ao]
   have:=z _ (Hk G)
   omega
def Lf(L:List Int)(i:Nat):Nat:=(L[i]?.getD 0).toNat
def TM{x:Nwk}{n:Nat}(h:EU x n){L:List Int}(G: ∀y∈L,0<=y/\y<n)(a b:Nat): ∀i,i<L.length->Dr (D7 x L i).Flow a b=Dr x.Flow a b+(sumN (D6 (Lf L) a b) i - sumN (D6 (Lf L) b a) i)
 |0,_=>by simp[D7,sumN]
 |i+1,hi=>by
  have ih:=TM h G a b i (by omega);have z:=Qu h G i (by omega);obtain⟨u,hu⟩: ∃u,L[i]? =some u:=⟨_,A8 (by omega)⟩;obtain⟨v,hv⟩: ∃v,L[i+1]? =some v:=⟨_,A8 hi⟩;have aa:=G u (Ax hu);have ab:=G v (Ax hv);obtain⟨u',rfl⟩: ∃u':Nat,u=u':=⟨u.toNat,by omega⟩;obtain⟨v',rfl⟩: ∃v':Nat,v=v':=⟨v.toNat,by omega⟩;simp only[D7,F5,hu,hv,Ao];rw[K5 (n:=n) (by rw[Jb];exact z.f) (IX z.ff _ _ _ (by rw[z.f];simp;omega)) _ (by omega) (by omega),
   K5 z.f z.ff _ (by omega) (by omega),ih]
  have e1:Lf L i=u':=by simp[Lf,hu]
  have e2:Lf L (i+1)=v':=by simp[Lf,hv]
  simp only[sumN,D6,e1,e2];by_cases c1:a=u'<;>by_cases O:b=v'<;>by_cases Q:a=v'<;>by_cases Z:b=u'<;>simp[c1,O,Q,Z,eq_comm]<;>omega
structure isWay(x:Nwk)(n:Nat)(p q:Int)(L:List Int):Prop where
 pos:0<L.length
 inb: ∀y∈L,0<=y/\y<n
 hd:L[0]? =some p
 lst:L[L.length - 1]? =some q
 nd: ∀i j,i<L.length->j<L.length->Lf L i=Lf L j->i=j
 free: ∀i,i+1<L.length->Hz x (L[i]?.getD 0) (L[i+1]?.getD 0)=true
def way_is{x:Nwk}{n:Nat}{p q:Int}(an:0<=p)(ao:p<n)(a0:0<=q)(a8:q<n)(am:wayN x n p q≠[]):isWay x n p q (wayN x n p q):=by
 have Z:wayP x n p (wayE x n p):=Hc an ao n;have aw:=Z.len;obtain⟨y,hy⟩: ∃y,(wayE x n p).1[q.toNat]? =some y:=⟨_,A8 (by omega)⟩;have au: ¬y<0:=by
  intro h;apply am;simp only[wayN,hy,Ao];rw[Af h]
 have aq:q∈(wayE x n p).2:=by
  have:=(Z.mem q.toNat y hy).1 (by omega)
  rwa [show (q.toNat:Int)=q by omega] at this
 obtain⟨i,hi⟩:=Fa.1 aq;obtain⟨d,ax,ah,ab⟩:=VY Z hi;have ay:=(Ba.1 hi).1;have az:=QI Z;have as:Pi (wayE x n p).1 p q n=d:=Wn (by omega) ah ab;have hW:wayN x n p q=(DZ (wayE x n p).1 q d).reverse:=by
  simp only[wayN,hy,Ao];rw[Ab au,as]
 rw[hW];have O:(DZ (wayE x n p).1 q d).length=d+1:=by simp[DZ]
 have hget: ∀k,k<=d->(DZ (wayE x n p).1 q d).reverse[k]? =some (BD (wayE x n p).1 q (d - k)):=by
  intro k G;rw[Yc (by rw[O];omega),O,show d+1 - 1 - k=d - k by omega,DZ,BI,Ee (by omega)];rfl
 have ac: ∀k,k<=d-> ∃j,j+k<=i/\(wayE x n p).2[j]? =some (BD (wayE x n p).1 q k):=λk G=>OD Z hi k (λj hj=>ab j (by omega))
 have Q: ∀k,k<=d->0<=BD (wayE x n p).1 q k/\BD (wayE x n p).1 q k<n:=by
  intro k G;obtain⟨j,_,h2⟩:=ac k G;exact Z.q _ (Ax h2)
 have af: ∀k,k<=d-> ∀e,e<=k-> ∀j j',(wayE x n p).2[j]? =some (BD (wayE x n p).1 q k)->(wayE x n p).2[j']? =some (BD (wayE x n p).1 q e)->j+(k - e)<=j':=by
  intro k G e he j j' hj aj;have av: ∀m,e+m<=d-> ∃j2,j2+m<=j'/\(wayE x n p).2[j2]? =some (BD (wayE x n p).1 q (e+m)):=by
   intro m;induction m with
   |zero=>intro _;exact⟨j',by omega,aj⟩
   |succ m ih=>
    intro hm;obtain⟨j2,g1,g2⟩:=ih (by omega);have h0:0<j2:=by
     rcases M7 j2 with h0|h0
     .subst h0;rw[Z.hd] at g2;exact absurd (Al g2).symm (ab _ (by omega))
     .exact h0
    obtain⟨j3,u,q1,q2,q3,q4⟩:=Z.prev j2 _ g2 h0;refine⟨j3,by omega,?_⟩;rw[show e+(m+1)=e+m+1 by omega,BD,q3,Ao];exact q2
  obtain⟨j2,g1,g2⟩:=av (k - e) (by omega);rw[show e+(k - e)=k by omega] at g2
  have:=(List.getElem?_inj (Ba.1 hj).1 Z.nd).1 (hj.trans g2.symm)
  omega
 have ad: ∀k e,k<=d->e<k->BD (wayE x n p).1 q k≠BD (wayE x n p).1 q e:=by
  intro k e G he ai;obtain⟨j,_,h2⟩:=ac k G
  have:=af k G e (by omega) j j h2 (ai▸h2)
  omega
 have aa: ∀k,k<=d->(DZ (wayE x n p).1 q d).reverse[k]?.getD 0=BD (wayE x n p).1 q (d - k):=λk G=>by rw[hget k G,Ao]
 refine⟨by rw[M1,O];omega,λz hz=> ?_,?_,?_,λk e G he hL=> ?_,λk G=> ?_⟩
 .obtain⟨k,G⟩:=Fa.1 hz;have ak:=(Ba.1 G).1;rw[M1,O] at ak;rw[hget k (by omega)] at G;obtain rfl:=Al G;exact Q _ (by omega)
 .rw[hget 0 (by omega),JA,ah]
 .rw[M1,O,hget (d+1 - 1) (by omega),show d - (d+1 - 1)=0 by omega];rfl
 .rw[M1,O] at G he;simp only[Lf] at hL;rw[aa k (by omega),aa e (by omega)] at hL;have b1:=Q (d - k) (by omega);have b2:=Q (d - e) (by omega);have ag:BD (wayE x n p).1 q (d - k)=BD (wayE x n p).1 q (d - e):=by omega
  rcases P5 (d - k) (d - e) with h|h|h
  .exact absurd ag.symm (ad _ _ (by omega) h)
  .omega
  .exact absurd ag (ad _ _ (by omega) h)
 .rw[M1,O] at G;rw[aa k (by omega),aa (k+1) (by omega),show d - k=d - (k+1)+1 by omega];exact (back_free Z hi (λj hj=>ab j (by omega))).1
def CK(n:Nat)(p q:Int):Nat->Nwk->Int
 |0,_=>0
 |m+1,x=>if wayN x n p q=[] then 0 else CK n p q m (D7 x (wayN x n p q) ((wayN x n p q).length - 1))+1
def rmF(x:Nwk)(a b:Nat):Int:=Dr x.Room a b
def flF(x:Nwk)(a b:Nat):Int:=Dr x.Flow a b
def WL{x:Nwk}{n:Nat}(h:EU x n){p q:Int}(Z:0<=p)(aa:p<n)(ab:p≠q)(ac:0<=q){v:Int}(hf:GU (rmF x) (flF x) n p.toNat q.toNat v){L:List Int}(z:isWay x n p q L):
 EU (D7 x L (L.length - 1)) n/\GU (rmF x) (flF (D7 x L (L.length - 1))) n p.toNat q.toNat (v+1):=by
 have Q:=z.pos;have O: ∀i,i<L.length->(L[i]?.getD 0).toNat=Lf L i/\Lf L i<n:=by
  intro i G;refine⟨rfl,?_⟩;simp only[Lf];rw[A8 G,Ao]
  have:=z.inb _ (Hk G)
  omega
 refine⟨Qu h z.inb _ (by omega),flow_push (m:=L.length - 1) (L:=Lf L) hf (λi j G hj=>z.nd i j (by omega) (by omega)) (λi G=>(O i (by omega)).2) ?_ ?_ (by omega) (by omega) (λi G=> ?_) (λa b _ _=>TM h z.inb a b _ (by omega))⟩
 .simp only[Lf,z.hd,Ao]
 .simp only[Lf,z.lst,Ao]
 .exact of_decide_eq_true (z.free i (by omega))
def MC{n:Nat}{p q:Int}(G:0<=p)(O:p<n)(ad:p≠q)(ab:0<=q)(af:q<n): ∀(m:Nat) (x:Nwk) (v:Int),EU x n->GU (rmF x) (flF x) n p.toNat q.toNat v->
 (CK n p q m x=m/\ ∀S:Nat->Bool,S p.toNat=true->S q.toNat=false->v+m<=cutF (rmF x) n S)\/(CK n p q m x<m/\ ∃S:Nat->Bool,S p.toNat=true/\S q.toNat=false/\cutF (rmF x) n S=v+CK n p q m x)
 |0,x,v,h,hf=> .inl ⟨rfl,λS h1 Z=>by have:=YG hf (by omega) h1 Z;simpa using this⟩
 |m+1,x,v,h,hf=>by
  by_cases Q:wayN x n p q=[]
  .refine .inr ?_;have e:CK n p q (m+1) x=0:=by simp only[CK];rw[Af Q]
   rw[e];refine⟨by omega,λu=>decide (0<=(wayE x n p).1[u]?.getD (-1)),?_,?_,?_⟩
   .have:=(Hc (x:=x) G O n).pp
    simp only[wayE,this,Ao,AP];exact G
   .have aa:=(Hc (x:=x) G O n).len;obtain⟨y,hy⟩: ∃y,(wayE x n p).1[q.toNat]? =some y:=⟨_,A8 (by simp only[wayE];omega)⟩;simp only[hy,Ao,EZ];intro h0;simp only[wayN,hy,Ao] at Q;rw[Ab (by omega)] at Q;simp[DZ] at Q
   .have:=YP (S:=λu=>decide (0<=(wayE x n p).1[u]?.getD (-1))) hf (by omega) ?_ ?_ ?_
    .omega
    .have:=(Hc (x:=x) G O n).pp
     simp only[wayE,this,Ao,AP];exact G
    .have aa:=(Hc (x:=x) G O n).len;obtain⟨y,hy⟩: ∃y,(wayE x n p).1[q.toNat]? =some y:=⟨_,A8 (by simp only[wayE];omega)⟩;simp only[hy,Ao,EZ];intro h0;simp only[wayN,hy,Ao] at Q;rw[Ab (by omega)] at Q;simp[DZ] at Q
    .intro u w hu ah h1 Z;simp only[AP,EZ] at h1 Z;have aa:=(Hc (x:=x) G O n).len;obtain⟨y,hy⟩: ∃y,(wayE x n p).1[u]? =some y:=⟨_,A8 (by simp only[wayE];omega)⟩;rw[hy,Ao] at h1;by_cases ac:Hz x u w=true
     .obtain⟨z,g1,g2⟩:=YL x G O hy h1 ah ac;rw[g1,Ao] at Z;omega
     .have h3: ¬(Rv x u w<Ro x u w):=λh=>ac (P8 h)
      rw[flowAt_eq,roomAt_eq,AH,AH] at h3;simp only[rmF,flF];omega
  .have hW:=way_is G O ab af Q;obtain⟨g1,g2⟩:=WL h G O ad ab hf hW;have ag:rmF (D7 x (wayN x n p q) ((wayN x n p q).length - 1))=rmF x:=by funext a b;simp only[rmF,SC]
   rw[<-ag] at g2;have ih:=MC G O ad ab af m _ _ g1 g2;rw[ag] at ih;have e:CK n p q (m+1) x=CK n p q m (D7 x (wayN x n p q) ((wayN x n p q).length - 1))+1:=by simp only[CK];rw[Ab Q]
   rw[e];rcases ih with ⟨h1,Z⟩|⟨h1,S,Z,h3,h4⟩
   .exact .inl ⟨by omega,λS hS hT=>by have:=Z S hS hT;omega⟩
   .exact .inr ⟨by omega,S,Z,h3,by omega⟩
def netZ(n:Nat):Nwk:=⟨List.replicate n (List.replicate n 0),List.replicate n (List.replicate n 0)⟩
def addB(x:Nwk)(b:Bond):Nwk:=⟨Fl (Fl x.Room b.A b.B b.Strength) b.B b.A b.Strength,x.Flow⟩
def netK(n:Nat)(bs:List Bond):Nat->Nwk
 |0=>netZ n
 |k+1=>match bs[k]? with
  |some b=>addB (netK n bs k) b
  |none=>netK n bs k
def netF(n:Nat)(bs:List Bond):Nwk:=netK n bs bs.length
def I7{n:Nat}{bs:List Bond}(hb:Fh n bs): ∀k,EU (netK n bs k) n/\(netK n bs k).Flow=List.replicate n (List.replicate n 0)
 |0=>⟨⟨by simp[netK,netZ],by simp[netK,netZ],λl O=>by rw[Gf O];simp,λl O=>by rw[Gf O];simp⟩,rfl⟩
 |k+1=>by
  obtain⟨ih,z⟩:=I7 hb k;simp only[netK];split
  .rename_i b G;obtain⟨b1,b2,b3,b4⟩:=hb b (Ax G);refine⟨⟨by simp only[addB,Jb];exact ih.r,ih.f,?_,ih.ff⟩,z⟩;exact IX (IX ih.rr _ _ _ (by rw[ih.r];omega)) _ _ _ (by rw[Jb,ih.r];omega)
  .exact⟨ih,z⟩
def cutW(S:Nat->Bool):List Bond->Int
 |[]=>0
 |b::r=>(if S b.A.toNat=S b.B.toNat then 0 else b.Strength)+cutW S r
def MR(S:Nat->Bool): ∀(a b:List Bond),cutW S (a++b)=cutW S a+cutW S b
 |[],b=>by simp[cutW]
 |x::r,b=>by simp only[Bv,cutW,MR S r b];omega
def sum_two(n u v:Nat)(Q:u<n)(Z:v<n)(c:Int)(g:Nat->Nat->Bool):sumN (λa=>sumN (λb=>if g a b=true then (if a=u/\b=v then c else 0) else 0) n) n=if g u v=true then c else 0:=by
 have G:sumN (λa=>sumN (λb=>if g a b=true then (if a=u/\b=v then c else 0) else 0) n) n=sumN (λa=>if a=u then (if g u v=true then c else 0) else 0) n:=by
  refine C3 λa _=> ?_
  by_cases z:a=u
  .subst z;rw[Af rfl];have O:sumN (λb=>if g a b=true then (if a=a/\b=v then c else 0) else 0) n=sumN (λb=>if b=v then (if g a v=true then c else 0) else 0) n:=by
    refine C3 λb _=> ?_
    by_cases hb:b=v
    .subst hb;simp
    .simp[hb]
   rw[O,I3,Af Z]
  .rw[Ab z];refine (C3 λb _=> ?_).trans (GJ n);simp[z]
 rw[G,I3,Af Q]
def VK{l:List (List Int)}{n:Nat}(Z:l.length=n)(h: ∀r∈l,r.length=n){u v:Nat}(d:Int)(G:u<n)(O:v<n)(S:Nat->Bool):
 cutF (λa b=>Dr (Fl l u v d) a b) n S=cutF (λa b=>Dr l a b) n S+if S u=true/\S v=false then d else 0:=by
 have z:sumN (λa=>sumN (λb=>if (S a && !S b)=true then (if a=u/\b=v then d else 0) else 0) n) n=if (S u && !S v)=true then d else 0:=sum_two n u v G O d (λa b=>S a && !S b)
 have Q:(if (S u && !S v)=true then d else 0)=if S u=true/\S v=false then d else 0:=by
  cases S u<;>cases S v<;>simp
 rw[Q] at z;rw[<-z,cutF,cutF,<-GM];refine C3 λa _=> ?_
 rw[<-GM];refine C3 λb _=> ?_
 rw[K5 Z h d G O a b];cases S a<;>cases S b<;>simp
def cut_net{n:Nat}{bs:List Bond}(hb:Fh n bs)(S:Nat->Bool): ∀k,k<=bs.length->cutF (rmF (netK n bs k)) n S=cutW S (bs.take k)
 |0,_=>by
  simp only[Hm,cutW,cutF];refine (C3 λu Q=> ?_).trans (GJ n);refine (C3 λw Z=> ?_).trans (GJ n)
  have:rmF (netK n bs 0) u w=0:=by
   simp only[rmF,netK,netZ,Dr];rw[Fu,Af Q,Ao,Fu,Af Z,Ao]
  rw[this];split<;>rfl
 |k+1,O=>by
  obtain⟨b,hbk⟩: ∃b,bs[k]? =some b:=⟨_,A8 O⟩;have ih:=cut_net hb S k (by omega);obtain⟨z,_⟩:=I7 hb k;obtain⟨b1,b2,b3,b4⟩:=hb b (Ax hbk);have e:bs.take (k+1)=bs.take k++[b]:=by rw[Ec,hbk];rfl
  rw[e,MR,<-ih];have G:rmF (netK n bs (k+1))=λx y=>Dr (Fl (Fl (netK n bs k).Room (b.A.toNat:Int) (b.B.toNat:Int) b.Strength) (b.B.toNat:Int) (b.A.toNat:Int) b.Strength) x y:=by
   funext x y;simp only[rmF,netK,hbk,addB];rw[show ((b.A.toNat:Nat):Int)=b.A by omega,show ((b.B.toNat:Nat):Int)=b.B by omega]
  rw[G,VK (by rw[Jb];exact z.r) (IX z.rr _ _ _ (by rw[z.r];simp;omega)) _ (by omega) (by omega),VK z.r z.rr _ (by omega) (by omega)];simp only[cutW]
  have:cutF (λa b=>Dr (netK n bs k).Room a b) n S=cutF (rmF (netK n bs k)) n S:=rfl
  rw[this];cases S b.A.toNat<;>cases S b.B.toNat<;>simp<;>omega
def cut_netF{n:Nat}{bs:List Bond}(hb:Fh n bs)(S:Nat->Bool):cutF (rmF (netF n bs)) n S=cutW S bs:=by
 rw[netF,cut_net hb S _ (Ar _),Dh]
def VU{n:Nat}{bs:List Bond}(hb:Fh n bs)(hs:Gs bs)(a b:Nat): ∀k,0<=rmF (netK n bs k) a b
 |0=>by
  simp only[rmF,netK,netZ,Dr,Fu];split
  .rw[Ao,Fu];split<;>simp
  .simp
 |k+1=>by
  have ih:=VU hb hs a b k;obtain⟨z,_⟩:=I7 hb k;simp only[rmF,netK] at ih⊢;split
  .rename_i x G;obtain⟨b1,b2,b3,b4⟩:=hb x (Ax G);have h0:=(hs x (Ax G)).1;simp only[addB];rw[show x.A=(x.A.toNat:Int) by omega,show x.B=(x.B.toNat:Int) by omega];rw[K5 (n:=n) (by rw[Jb];exact z.r) (IX z.rr _ _ _ (by rw[z.r];simp;omega)) _ (by omega) (by omega),K5 z.r z.rr _ (by omega) (by omega)]
   split<;>split<;>omega
  .exact ih
def MG{n:Nat}{bs:List Bond}(hb:Fh n bs)(hs:Gs bs)(p q:Nat):GU (rmF (netF n bs)) (flF (netF n bs)) n p q 0:=by
 have z: ∀a b,flF (netF n bs) a b=0:=by
  intro a b;simp only[flF,netF,(I7 hb bs.length).2,Dr,Fu];split
  .rw[Ao,Fu];split<;>simp
  .simp
 refine⟨λu w _ _=>by rw[z,z];rfl,λu w _ _=> ?_,λu _ _ _=>(C3 λi _=>z u i).trans (GJ n),(C3 λi _=>z p i).trans (GJ n)⟩;rw[z];exact VU hb hs u w bs.length
def ID(n:Nat)(bs:List Bond)(t:Int)(k:Nat):Prop:= ∀S:Nat->Bool,S 0=true->(∃y,0<y/\y<=k/\y<n/\S y=false)->t<=cutW S bs
def GZ(n:Nat)(bs:List Bond)(t:Int):Nat->Bool
 |0=>true
 |k+1=>GZ n bs t k && decide (t<=CK n 0 ((k:Int)+1) t.toNat (netF n bs))
def W0{n:Nat}{bs:List Bond}(hb:Fh n bs)(hs:Gs bs){t:Int}(ht:0<=t): ∀k,k<n->(GZ n bs t k=true↔ID n bs t k)
 |0,_=>by
  simp only[GZ,true_iff];rintro S _ ⟨y,h1,z,_⟩;omega
 |k+1,hk=>by
  have ih:=W0 hb hs ht k (by omega);have hl:=MC (n:=n) (p:=0) (q:=(k:Int)+1) (by omega) (by omega) (by omega) (by omega) (by omega) t.toNat (netF n bs) 0 (I7 hb bs.length).1 (MG hb hs _ _);simp only[Int.toNat_zero,show ((k:Int)+1).toNat=k+1 by omega,Int.zero_add,cut_netF hb] at hl;simp only[GZ,Av,AP,ih];rcases hl with ⟨h1,z⟩|⟨h1,S,z,h3,h4⟩
  .constructor
   .rintro⟨g1,g2⟩ S G ⟨y,Q,y2,Z,O⟩;by_cases hy:y<=k
    .exact g1 S G ⟨y,Q,hy,Z,O⟩
    .have:=z S G (by rw[show k+1=y by omega];exact O)
     omega
   .intro h;exact⟨λS G ⟨y,Q,y2,Z,O⟩=>h S G ⟨y,Q,by omega,Z,O⟩,by omega⟩
  .constructor
   .rintro⟨_,g2⟩;omega
   .intro h
    have:=h S z ⟨k+1,by omega,by omega,hk,h3⟩
    omega
def Wx{n:Net}(hn:B6 n)(hc:Eu n){q:Int}{st qu:List Int}(G:st.length=n.Cnt.toNat)(hP:bfsP n q (st,qu)){p:Int}(O:0<=p)(Q:p<n.Cnt){d:Nat}(hd:st[p.toNat]? =some (d:Int))(w:Int):
 ∀k,k<=d->outQ (AR n st p k).1 w=outQ n w+(if p=w then 1 else 0) - (if (AR n st p k).2=w then 1 else 0)
 |0,_=>by simp only[AR];omega
 |k+1,hk=>by
  have ih:=Wx hn hc G hP O Q hd w k (by omega);have hI:=Mb hn hc G hP O Q hd k (by omega);obtain⟨m,r,hm,hr,hg,Z,ad⟩:=Qi hn G hP (by omega) hI;have ac:(AR n st p k).1.At[m]? =some r:=by rw[hI.at_];exact hr
  have e:(AR n st p (k+1)).1=DX (AR n st p k).1 m (Ds (AR n st p k).1 st m).2:=by simp only[AR,hm]
  have e2:(AR n st p (k+1)).2=(Ds (AR n st p k).1 st m).1:=by simp only[AR,hm]
  rw[e,e2,XC hI.ok ac hg.1,hg.2.2.1,ih,hm];have aa:=hg.2.2.2.1;rw[AH,Z,Ao] at aa;have ab:(m:Int)≠(Ds (AR n st p k).1 st m).1:=by
   intro he;rw[<-he,AH,Z,Ao] at aa;omega
  obtain⟨z,hz⟩: ∃z,z=(Ds (AR n st p k).1 st m).1:=⟨_,rfl⟩;rw[<-hz] at ab⊢;by_cases c1:p=w<;>by_cases c2:(m:Int)=w<;>by_cases c3:z=w<;>simp only[c1,c2,c3,AQ,Bp]<;>omega
def FA(n:Net)(p q:Int):Prop:= ∀w,w≠p->w≠q->outQ n w=0
def grow_cons{n:Net}(hn:B6 n)(hc:Eu n){p q:Int}(G:0<=p)(O:p<n.Cnt)(Q:0<=q)(Z:q<n.Cnt)(hg:(Cx n p q).2=true)(aa:FA n p q):FA (Cx n p q).1 p q:=by
 have z:=Oq hn Q Z;have hP:bfsP n q (Cv n q,(Bk n q n.Cnt.toNat).2):=FC hn Q Z n.Cnt.toNat;obtain⟨x,hx⟩: ∃x,(Cv n q)[p.toNat]? =some x:=⟨_,A8 (by omega)⟩;intro w h1 h2;simp only[Cx,hx,Ao] at hg⊢;by_cases h:x<0
 .rw[Af h] at hg;simp at hg
 .obtain⟨d,rfl⟩: ∃d:Nat,x=d:=⟨x.toNat,by omega⟩;rw[Ab h,AH];have hI:=Mb hn hc z hP G O hx d (Ar _);obtain⟨m,hm,ac,ab⟩:=hI.v;have ad:m=q.toNat:=hP.uniq m (by rw[ab];congr 1;omega);have ho:=Wx hn hc z hP G O hx w d (Ar _);rw[Ab (Co h1),hm,Ab (by omega),aa w h1 h2] at ho;simpa using ho
def WG{p q:Int}(z:0<=p)(G:0<=q)(aa:p≠q): ∀(m:Nat) (n:Net),B6 n->Eu n->p<n.Cnt->q<n.Cnt->FA n p q->B6 (Dd p q m n).1/\Eu (Dd p q m n).1/\(Dd p q m n).1.Cnt=n.Cnt/\(Dd p q m n).1.Bonds=n.Bonds/\
 (Dd p q m n).1.At=n.At/\FA (Dd p q m n).1 p q/\outQ (Dd p q m n).1 p=outQ n p+(Dd p q m n).2/\0<=(Dd p q m n).2/\((Dd p q m n).2=m\/(Cx (Dd p q m n).1 p q).2=false)
 |0,n,O,Q,_,_,h5=>⟨O,Q,rfl,rfl,rfl,h5,by simp[Dd],by simp[Dd],.inl (by simp[Dd])⟩
 |m+1,n,O,Q,h3,h4,h5=>by
  simp only[Dd];by_cases Z:(Cx n p q).2=true
  .rw[Af Z];obtain⟨g1,g2,g3,g4,g5,g6⟩:=grow_ok O Q z h3 G h4 aa Z;have g7:=grow_cons O Q z h3 G h4 Z h5;obtain⟨k1,k2,k3,k4,k5,k6,k7,k8,k9⟩:=WG z G aa m _ g1 g2 (by omega) (by omega) g7;refine⟨k1,k2,k3.trans g3,k4.trans g4,k5.trans g5,k6,by simp only;omega,by simp only;omega,?_⟩;rcases k9 with h|h
   .exact .inl (by simp only;omega)
   .exact .inr h
  .rw[Ab Z];exact⟨O,Q,rfl,rfl,rfl,h5,by simp,by simp,.inr (by simpa using Z)⟩
def W6{n:Int}{bs:List Bond}(h:Jk (n,bs))(hs:Gs bs){p q:Int}(z:0<=p)(Q:0<=q)(G:p<n)(Z:q<n)(O:p≠q):B6 (BW n bs p q).1/\Eu (BW n bs p q).1/\(BW n bs p q).1.Cnt=n/\(BW n bs p q).1.Bonds=bs/\
 (BW n bs p q).1.At=(newN n bs).At/\FA (BW n bs p q).1 p q/\outQ (BW n bs p q).1 p=(BW n bs p q).2/\0<=(BW n bs p q).2/\(Cx (BW n bs p q).1 p q).2=false:=by
 obtain⟨h1,h2⟩:=newN_ok h hs;obtain⟨k1,k2,k3,k4,k5,k6,k7,k8,k9⟩:=WG z Q O ((bs.map Bond.Strength).sum.toNat+1) (newN n bs) h1 h2 G Z (λw _ _=>TV w);rw[TV,Int.zero_add] at k7;refine⟨k1,k2,k3,k4,k5,k6,k7,k8,?_⟩;rcases k9 with h9|h9
 .exfalso;have h4:(Dd p q ((bs.map Bond.Strength).sum.toNat+1) (newN n bs)).1.Bonds=bs:=k4
  have:=out_le k1 k2 p
  rw[h4] at this;omega
 .exact h9
def MS{n:Net}(hn:B6 n){v:Nat}{r:List Int}(hr:n.At[v]? =some r){y:Int}(Q:0<=y): ∀(l:List Int) (s:List Int×List Int),(∀i∈l,i∈r)->IE n s->s.1[v]? =some y-> ∀i∈l,0<(B3 n (BC n v i) i).1-> ∃z,(l.foldl (bfs1 n v) s).1[(BC n v i).toNat]? =some z/\0<=z
 |[],s,_,_,_,i,G,_=>by cases G
 |j::l,s,hl,hs,hv,i,G,O=>by
  have Z:=hl j (AU ..);rcases A9.1 G with rfl|G
  .obtain⟨_,_,o1,o2⟩:=KO hn hr Z;obtain⟨z,hz⟩: ∃z,s.1[(BC n v i).toNat]? =some z:=⟨_,A8 (by rw[hs.len];omega)⟩;have aa: ∃z,(bfs1 n v s i).1[(BC n v i).toNat]? =some z/\0<=z:=by
    by_cases h0:0<=z
    .exact⟨z,Ou n v s i _ z hz h0,h0⟩
    .refine⟨y+1,?_,by omega⟩;simp only[bfs1];rw[Af ⟨by rw[hz,Ao];omega,O⟩,AH,hv,Ao];exact BA (by rw[hs.len];omega)
   obtain⟨z',g1,g2⟩:=aa;exact⟨z',Th n v _ z' g2 l _ g1,g2⟩
  .exact MS hn hr Q l _ (λj Z=>hl j (AX _ Z)) (Ua hn hr Z hs) (Ou n v s j v y hv Q) i G O
def XH(n:Net)(v:Int): ∀(l:List Int) (s:List Int×List Int),∃e,(l.foldl (bfs1 n v) s).2=s.2++e
 |[],s=>⟨[],by simp⟩
 |i::l,s=>by
  obtain⟨e,z⟩:=XH n v l (bfs1 n v s i);simp only[L9,z];simp only[bfs1];split
  .exact⟨[BC n v i]++e,by simp⟩
  .exact⟨e,rfl⟩
def bfs_ext(n:Net)(q:Int)(k:Nat): ∃e,(Bk n q (k+1)).2=(Bk n q k).2++e:=by
 rw[Bk];split
 .exact⟨[],by simp⟩
 .exact XH n _ _ _
def bfs_keep1(n:Net)(q:Int)(u:Nat)(y:Int)(h0:0<=y)(k:Nat)(h:(Bk n q k).1[u]? =some y):(Bk n q (k+1)).1[u]? =some y:=by
 rw[Bk];split
 .exact h
 .exact Th n _ u y h0 _ _ h
def XK{n:Net}(hn:B6 n){q:Int}(h0:0<=q)(Z:q<n.Cnt): ∀(k j:Nat) (v:Int),j<k->(Bk n q k).2[j]? =some v-> ∀(r:List Int),n.At[v.toNat]? =some r-> ∀i∈r,0<(B3 n (BC n v i) i).1-> ∃z,(Bk n q k).1[(BC n v i).toNat]? =some z/\0<=z
 |0,j,v,hj,_,_,_,_,_,_=>by omega
 |k+1,j,v,hj,G,r,Q,i,hi,O=>by
  obtain⟨e,he⟩:=bfs_ext n q k;by_cases ac:j<(Bk n q k).2.length
  .rw[he,Ci ac] at G;by_cases ab:j<k
   .obtain⟨z,g1,g2⟩:=XK hn h0 Z k j v ab G r Q i hi O;exact⟨z,bfs_keep1 n q _ z g2 k g1,g2⟩
   .have:j=k:=by omega
    subst this;have hI:=I5 hn h0 Z j;have aa:=FC hn h0 Z j;have af:=hI.q v (Ax G);obtain⟨m,rfl⟩: ∃m:Nat,v=m:=⟨v.toNat,by omega⟩;obtain⟨y,hy,ad⟩:=aa.qs _ (Ax G);rw[AH] at hy Q;rw[Bk,G];simp only[AH,Q,Ao];exact MS hn Q ad r _ (λ_ h=>h) hI hy i hi O
  .have e1:Bk n q (k+1)=Bk n q k:=by rw[Bk,CH (by omega)]
   rw[e1] at G
   have:=(Ba.1 G).1
   omega
def bfs_in{n:Net}(hn:B6 n){q:Int}(h0:0<=q)(h1:q<n.Cnt): ∀(k u:Nat) (y:Int),(Bk n q k).1[u]? =some y->0<=y->(u:Int)∈(Bk n q k).2
 |0,u,y,z,G=>by
  have hq:q.toNat<n.Cnt.toNat:=by omega
  simp only[Bk] at z⊢;by_cases h:q.toNat=u
  .rw[AO];omega
  .rw[BM h] at z
   have:=Gf (Ax z)
   omega
 |k+1,u,y,z,G=>by
  have ih:=bfs_in hn h0 h1 k;have hI:=I5 hn h0 h1 k;have O: ∀(v:Int) (l:List Int) (s:List Int×List Int),(∀i∈l,0<=BC n v i)->(∀(u:Nat) (y:Int),s.1[u]? =some y->0<=y->(u:Int)∈s.2)-> ∀(u:Nat) (y:Int),(l.foldl (bfs1 n v) s).1[u]? =some y->0<=y->(u:Int)∈(l.foldl (bfs1 n v) s).2:=by
   intro v l;induction l with
   |nil=>intro s _ Q;exact Q
   |cons i l Z=>
    intro s hl Q;refine Z _ (λj hj=>hl j (AX _ hj)) ?_;intro u y z G;have ho:=hl i (AU ..);simp only[bfs1] at z⊢;split at z
    .rename_i hc;rw[Af hc];simp only[AG,AO] at z⊢;by_cases he:(BC n v i).toNat=u
     .right;omega
     .rw[BM he] at z;exact .inl (Q u y z G)
    .rename_i hc;rw[Ab hc];exact Q u y z G
  rw[Bk] at z⊢;split at z
  .exact ih u y z G
  .rename_i v hv;have aa:=hI.q v (Ax hv);obtain⟨m,rfl⟩: ∃m:Nat,v=m:=⟨v.toNat,by omega⟩;obtain⟨r,hr⟩: ∃r,n.At[m]? =some r:=⟨_,A8 (by have:=hn.al;omega)⟩;simp only[AH,hr,Ao] at z⊢;exact O m r _ (λi hi=>(KO hn hr hi).2.2.1) ih u y z G
def VC{n:Net}(hn:B6 n){q:Int}(h0:0<=q)(G:q<n.Cnt){v:Nat}{y:Int}(hv:(Cv n q)[v]? =some y)(hy:0<=y){r:List Int}(hr:n.At[v]? =some r){i:Int}(Z:i∈r)(O:0<(B3 n (BC n v i) i).1):
 ∃z,(Cv n q)[(BC n v i).toNat]? =some z/\0<=z:=by
 have hm:=bfs_in hn h0 G n.Cnt.toNat v y hv hy;obtain⟨j,Q⟩:=Fa.1 hm;have aa:=(Ba.1 Q).1;have ab:=Qo hn.c0 (I5 hn h0 G n.Cnt.toNat);exact XK hn h0 G n.Cnt.toNat j v (by omega) Q r (by rwa [AH]) i Z O
def outS(n:Net)(S:Nat->Bool):Int:=(List.zipWith (λb f=>(if S b.A.toNat=true then f else 0) - (if S b.B.toNat=true then f else 0)) n.Bonds n.Flow).sum
def MW(S:Nat->Bool)(m:Nat): ∀(bs:List Bond) (z:List Int),(∀b∈bs,0<=b.A/\b.A<m/\0<=b.B/\b.B<m/\b.A≠b.B)->
 sumN (λv=>if S v=true then (List.zipWith (ctr (v:Int)) bs z).sum else 0) m=(List.zipWith (λb f=>(if S b.A.toNat=true then f else 0) - (if S b.B.toNat=true then f else 0)) bs z).sum
 |[],z,_=>by
  simp only[List.zipWith_nil_left,R9];refine (C3 λi _=> ?_).trans (GJ m)
  split<;>rfl
 |b::bs,[],_=>by
  simp only[UX,R9];refine (C3 λi _=> ?_).trans (GJ m)
  split<;>rfl
 |b::bs,f::z,h=>by
  have ih:=MW S m bs z (λx O=>h x (AX _ O));obtain⟨b1,b2,b3,b4,b5⟩:=h b (AU ..);simp only[L2,Fy];rw[<-ih];have e:sumN (λv=>if S v=true then ctr (v:Int) b f+(List.zipWith (ctr (v:Int)) bs z).sum else 0) m=
   (sumN (λv=>if v=b.A.toNat then (if S b.A.toNat=true then f else 0) else 0) m+ - sumN (λv=>if v=b.B.toNat then (if S b.B.toNat=true then f else 0) else 0) m)+sumN (λv=>if S v=true then (List.zipWith (ctr (v:Int)) bs z).sum else 0) m:=by
   rw[<-O9,<-GM,<-GM];refine C3 λv _=> ?_
   simp only[ctr];by_cases c1:v=b.A.toNat
   .have G: ¬v=b.B.toNat:=by omega
    rw[Af (show b.A=(v:Int) by omega),Af c1,Ab G,<-c1];cases S v<;>simp
   .rw[Ab (show ¬b.A=(v:Int) by omega),Ab c1];by_cases G:v=b.B.toNat
    .rw[Af (show b.B=(v:Int) by omega),Af G,<-G];cases S v<;>simp
    .rw[Ab (show ¬b.B=(v:Int) by omega),Ab G];cases S v<;>simp
  rw[e,I3,I3,Af (show b.A.toNat<m by omega),Af (show b.B.toNat<m by omega)];omega
def out_val{n:Net}(hn:B6 n){p q:Int}(aa:0<=p)(ab:p<n.Cnt)(G:FA n p q){S:Nat->Bool}(Z:S p.toNat=true)(hT:S q.toNat=false)(ac:0<=q):outS n S=outQ n p:=by
 have O:=MW S n.Cnt.toNat n.Bonds n.Flow (λb hb=>by
  have:=hn.bs b hb
  have:=hn.ne b hb
  omega)
 rw[outS,<-O];have Q:sumN (λv=>if S v=true then (List.zipWith (ctr (v:Int)) n.Bonds n.Flow).sum else 0) n.Cnt.toNat=sumN (λv=>if v=p.toNat then outQ n p else 0) n.Cnt.toNat:=by
  refine C3 λv hv=> ?_
  by_cases z:v=p.toNat
  .subst z;rw[Af rfl,Af Z,show ((p.toNat:Nat):Int)=p by omega];rfl
  .rw[Ab z];cases hSv:S v with
   |false=>rw[Ab (by simp)]
   |true=>
    rw[Af rfl];have ad:v≠q.toNat:=λhe=>by rw[he,hT] at hSv;cases hSv
    exact G v (by omega) (by omega)
 rw[Q,I3,Af (by omega)]
def Ul(S:Nat->Bool): ∀(bs:List Bond) (G:List Int),(∀(i:Nat) b f,bs[i]? =some b->G[i]? =some f-> -b.Strength<=f/\f<=b.Strength)->(∀b∈bs,0<=b.Strength)->(List.zipWith (λb f=>(if S b.A.toNat=true then f else 0) - (if S b.B.toNat=true then f else 0)) bs G).sum<=cutW S bs
 |[],_,_,_=>by simp[cutW]
 |x::r,[],_,z=>by
  have O:=Ul S r [] (λi b f _ h=>by simp at h) (λb hb=>z b (AX _ hb));have Q:=z x (AU ..);simp only[UX,R9,cutW] at O⊢
  split<;>omega
 |x::r,y::s,hc,z=>by
  have O:=Ul S r s (λi b f h h'=>hc (i+1) b f (by simpa using h) (by simpa using h')) (λb hb=>z b (AX _ hb));have Z:=hc 0 x y rfl rfl;simp only[L2,Fy,cutW];cases S x.A.toNat<;>cases S x.B.toNat<;>simp<;>omega
def outS_eq(S:Nat->Bool): ∀(bs:List Bond) (z:List Int),z.length=bs.length->(∀(i:Nat) b f,bs[i]? =some b->z[i]? =some f->(S b.A.toNat=true->S b.B.toNat=false->f=b.Strength)/\(S b.A.toNat=false->S b.B.toNat=true->f= -b.Strength))->(List.zipWith (λb f=>(if S b.A.toNat=true then f else 0) - (if S b.B.toNat=true then f else 0)) bs z).sum=cutW S bs
 |[],_,_,_=>by simp[cutW]
 |x::r,[],h,_=>by simp at h
 |x::r,y::s,h,hc=>by
  have G:=outS_eq S r s (by simpa using h) (λi b f h h'=>hc (i+1) b f (by simpa using h) (by simpa using h'));obtain⟨O,Q⟩:=hc 0 x y rfl rfl;simp only[L2,Fy,cutW,G];cases hA:S x.A.toNat<;>cases hB:S x.B.toNat<;>simp
  .have:=Q hA hB;omega
  .exact O hA hB
def flow_law{n:Int}{bs:List Bond}(h:Jk (n,bs))(hs:Gs bs){p q:Int}(Q:0<=p)(G:0<=q)(ac:p<n)(af:q<n)(ad:p≠q):
 0<=(BW n bs p q).2/\(∀S:Nat->Bool,S p.toNat=true->S q.toNat=false->(BW n bs p q).2<=cutW S bs)/\ ∃S:Nat->Bool,S p.toNat=true/\S q.toNat=false/\cutW S bs=(BW n bs p q).2:=by
 obtain⟨k1,k2,k3,k4,k5,k6,k7,k8,k9⟩:=W6 h hs Q G ac af ad;obtain⟨N,hN⟩: ∃N,N=(BW n bs p q).1:=⟨_,rfl⟩;obtain⟨val,hval⟩: ∃val,val=(BW n bs p q).2:=⟨_,rfl⟩;simp only[<-hN,<-hval] at k1 k2 k3 k4 k5 k6 k7 k8 k9⊢;refine⟨k8,λS hS hT=> ?_,?_⟩
 .have h1:=out_val k1 Q (by omega) k6 hS hT G;have h2:=Ul S N.Bonds N.Flow k2 (λb hb=>(k1.st b hb).1);rw[k4] at h2;simp only[outS,k4] at h1;omega
 .have ah:=Oq k1 G (by omega);obtain⟨x,hx⟩: ∃x,(Cv N q)[p.toNat]? =some x:=⟨_,A8 (by omega)⟩;have aa:x<0:=by
   simp only[Cx,hx,Ao] at k9;by_cases h0:x<0
   .exact h0
   .rw[Ab h0] at k9;simp at k9
  have O:=(FC k1 G (show q<N.Cnt by omega) N.Cnt.toNat).zero;have O:(Cv N q)[q.toNat]? =some 0:=O;refine⟨λv=>decide ((Cv N q)[v]?.getD 0<0),by simp only[hx,Ao,AP];exact aa,by simp[O],?_⟩;have hS:decide ((Cv N q)[p.toNat]?.getD 0<0)=true:=by simp only[hx,Ao,AP];exact aa
  have hT:decide ((Cv N q)[q.toNat]?.getD 0<0)=false:=by simp[O]
  have h1:=out_val (S:=λv=>decide ((Cv N q)[v]?.getD 0<0)) k1 Q (by omega) k6 hS hT G;have h2:=outS_eq (λv=>decide ((Cv N q)[v]?.getD 0<0)) N.Bonds N.Flow k1.fl ?_
  .simp only[outS,k4] at h1;rw[k4] at h2;omega
  .intro i b f hb hf;have ai:=k1.bs b (Ax hb);have ab:=k1.ne b (Ax hb);obtain⟨⟨rA,a1,a2⟩,⟨rB,c1,c2⟩⟩:=k1.all i b hb;have ag:=k2 i b f hb hf;obtain⟨yA,hA⟩: ∃y,(Cv N q)[b.A.toNat]? =some y:=⟨_,A8 (by omega)⟩;obtain⟨yB,hB⟩: ∃y,(Cv N q)[b.B.toNat]? =some y:=⟨_,A8 (by omega)⟩;simp only[hA,hB,Ao,AP,EZ];refine⟨λe1 e2=> ?_,λe1 e2=> ?_⟩
   ·
    have ho:BC N b.B i=b.A:=by simp only[BC,AH,hb];omega
    have hr:(B3 N b.A i).1=b.Strength - f:=by simp only[B3,AH,hb,hf,Ao,AQ]
    by_cases Z:0<b.Strength - f
    .have:=VC k1 G (by omega) (v:=b.B.toNat) hB (by omega) c1 c2 (by rw[show ((b.B.toNat:Nat):Int)=b.B by omega,ho,hr];exact Z)
     rw[show ((b.B.toNat:Nat):Int)=b.B by omega,ho,hA] at this;obtain⟨z,g1,g2⟩:=this
     have:=Al g1
     omega
    .omega
   .have ho:BC N b.A i=b.B:=by simp only[BC,AH,hb];omega
    have hr:(B3 N b.B i).1=b.Strength+f:=by simp only[B3,AH,hb,hf,Ao];rw[Ab ab]
    by_cases Z:0<b.Strength+f
    .have:=VC k1 G (by omega) (v:=b.A.toNat) hA (by omega) a1 a2 (by rw[show ((b.A.toNat:Nat):Int)=b.A by omega,ho,hr];exact Z)
     rw[show ((b.A.toNat:Nat):Int)=b.A by omega,ho,hB] at this;obtain⟨z,g1,g2⟩:=this
     have:=Al g1
     omega
    .omega
def CG(n:Int)(bs:List Bond):Nat->Int×List Int
 |0=>(-1,[])
 |k+1=>if (CG n bs k).1<0\/befW (BW n bs 0 (k+1)).2 (Lo (BW n bs 0 (k+1)).1 (k+1)) (CG n bs k).1 (CG n bs k).2=true then ((BW n bs 0 (k+1)).2,Lo (BW n bs 0 (k+1)).1 (k+1)) else CG n bs k
def weakC.fv(a:Int×(List Bond)):Int×(List Int):=(λn bs=>CG n bs (n - 1).toNat) (a.1) (a.2)
def weakC.row:Row:=vK (b2 qI (qS Bond.d_le Bond.c_n)) (r2 rI (rS BB Bm)) (λa=>Jk (a.1,a.2)/\Gs a.2/\1<=a.1) weakC.fv
def weakC.q:=vKq (R:=weakC.row) rfl
def weakC.ok:Ak Tryz.prog 208 weakC.row:=by
 refine vw (tC l07Before.ok (tC flC.ok (tC sideC.ok tN))) Tryz.func208 rfl (by kernel_rfl) ?_;intro a Q;simp only[Tryz.f208];simp(disch:=omega)only[ZA,simprocAttr,weakC.fv];obtain⟨O,Z,ac⟩:=Q;have aa:=O.2.1;simp only at aa;obtain⟨n,hn⟩: ∃n:Nat,a.1=n+1:=⟨(a.1 - 1).toNat,by omega⟩;rw[show (a.1 - 1).toNat=n by omega];refine Au.frr ⟨{k:Nat//k<=n},λk=>⟨[(8,.im (.int .i64 ((k.1:Int)+1))),(7,.im (.sl false 1 ((CG a.1 a.2 k.1).2.map intC))),(6,.im (.int .i64 (CG a.1 a.2 k.1).1)),(0,.im (.int .i64 a.1)),(1,.im (.sl false 3 (a.2.map Bond.c)))],[],2⟩,λk=>n - k.1,λk=>⟨by simp[Ac.good,belT,belH,Ai,AV.bel],by simp⟩,⟨⟨0,by simp⟩,[1],[],?_⟩,λk=> ?_⟩
 .simp only[subP];simp(disch:=omega)only[ZA,simprocAttr,CG]
  try simp
 obtain⟨k,ab⟩:=k;simp(disch:=omega)only[ZA,simprocAttr,Aq];refine⟨λhk=> ?_,λhk=> ?_⟩
 .refine orow.os (a.1,a.2,0,(k:Int)+1) [] ⟨O,Z,by simp,by simp only;omega,by simp only;omega,by simp only;omega,by simp only;omega⟩ (λj=>by simp[domB,hget]) rfl rfl ?_ ?_
  .simp(disch:=omega)only[ZA,simprocAttr,flC.ca]
  .simp(disch:=omega)only[ZZ,simprocAttr,rch,l07Before.q,l07Before.fv,sideC.q,sideC.fv,flC.H1,flC.r0,Aq];obtain⟨k1,k2,k3,k4,k5,_⟩:=W6 (p:=0) (q:=(k:Int)+1) O Z (by omega) (by omega) (by omega) (by omega) (by omega);have G:({Cnt:=a.1,Bonds:=a.2,At:=(newN a.1 a.2).At,Flow:=(flC.net (a.1,a.2,0,(k:Int)+1)).Flow}:Net)=(BW a.1 a.2 0 ((k:Int)+1)).1:=by
    rw[<-k5];simp only[flC.net]
    conv=>rhs;rw[show (BW a.1 a.2 0 ((k:Int)+1)).1=⟨(BW a.1 a.2 0 ((k:Int)+1)).1.Cnt,(BW a.1 a.2 0 ((k:Int)+1)).1.Bonds,(BW a.1 a.2 0 ((k:Int)+1)).1.At,(BW a.1 a.2 0 ((k:Int)+1)).1.Flow⟩ from rfl]
    rw[k3,k4]
   rw[G];have hw:IntKind.i64.wrap ((k:Int)+1+1)=(k:Int)+1+1:=Am (by omega) (by omega);have z:CG a.1 a.2 (k+1)=if (CG a.1 a.2 k).1<0\/befW (BW a.1 a.2 0 ((k:Int)+1)).2 (Lo (BW a.1 a.2 0 ((k:Int)+1)).1 ((k:Int)+1)) (CG a.1 a.2 k).1 (CG a.1 a.2 k).2=true then ((BW a.1 a.2 0 ((k:Int)+1)).2,Lo (BW a.1 a.2 0 ((k:Int)+1)).1 ((k:Int)+1)) else CG a.1 a.2 k:=rfl
   refine⟨⟨k1,by omega,by omega⟩,λh0=>⟨λh1=>⟨⟨k+1,by omega⟩,[],[],by simp only;omega,?_⟩,λh1=>⟨⟨k+1,by omega⟩,[],[],by simp only;omega,?_⟩⟩,λh0=>⟨⟨k+1,by omega⟩,[],[],by simp only;omega,?_⟩⟩
   .rw[Af (.inr h1)] at z;simp only[subP];simp(disch:=omega)only[ZA,simprocAttr,z,hw];omega
   .rw[Ab (λh=>h.elim h0 h1)] at z;simp only[subP];simp(disch:=omega)only[ZA,simprocAttr,z,hw];omega
   .rw[Af (.inl (Df.1 h0))] at z;simp only[subP];simp(disch:=omega)only[ZA,simprocAttr,z,hw];omega
 .have:k=n:=by omega
  rw[this]
def XI{n:Int}{bs:List Bond}(h:Jk (n,bs))(hs:Gs bs){t:Int}(ht:0<=t): ∀k:Nat,(k:Int)<n->(0<k->0<=(CG n bs k).1/\(t<=(CG n bs k).1↔ID n.toNat bs t k))
 |0,_=>λh0=>by omega
 |k+1,hk=>λ_=>by
  obtain⟨f1,f2,S,f3,f4,f5⟩:=flow_law h hs (p:=0) (q:=(k:Int)+1) (by omega) (by omega) (by omega) (by omega) (by omega);simp only[Int.toNat_zero,show ((k:Int)+1).toNat=k+1 by omega] at f2 f3 f4;obtain⟨v,hv⟩: ∃v,v=(BW n bs 0 ((k:Int)+1)).2:=⟨_,rfl⟩;obtain⟨sd,hsd⟩: ∃sd,sd=Lo (BW n bs 0 ((k:Int)+1)).1 ((k:Int)+1):=⟨_,rfl⟩;have Z:t<=v↔ ∀S:Nat->Bool,S 0=true->S (k+1)=false->t<=cutW S bs:=by
   constructor
   .intro z S G hT
    have:=f2 S G hT
    omega
   .intro z
    have:=z S f3 f4
    omega
  have Q:ID n.toNat bs t (k+1)↔ID n.toNat bs t k/\t<=v:=by
   rw[Z];constructor
   .intro z;exact⟨λS G ⟨y,y1,y2,y3,y4⟩=>z S G ⟨y,y1,by omega,y3,y4⟩,λS G hT=>z S G ⟨k+1,by omega,by omega,by omega,hT⟩⟩
   .rintro⟨z,h2⟩ S G ⟨y,y1,y2,y3,y4⟩;by_cases hy:y<=k
    .exact z S G ⟨y,y1,hy,y3,y4⟩
    .exact h2 S G (by rw[show k+1=y by omega];exact y4)
  rw[Q];simp only[CG,<-hv,<-hsd];by_cases aa:k=0
  .subst aa;rw[Af (.inl (by simp[CG]))];refine⟨by simp only;omega,?_⟩;simp only;constructor
   .intro z;exact⟨λS _ ⟨y,y1,y2,_,_⟩=>by omega,z⟩
   .exact λz=>z.2
  .obtain⟨i1,i2⟩:=XI h hs ht k (by omega) (by omega);rw[<-i2];by_cases hc:(CG n bs k).1<0\/befW v sd (CG n bs k).1 (CG n bs k).2=true
   .rw[Af hc];have ab:v<=(CG n bs k).1:=by
     rcases hc with hc|hc
     .omega
     .simp only[befW] at hc;split at hc
      .omega
      .simp only[AP] at hc;omega
    simp only;exact⟨by omega,by omega,by omega⟩
   .rw[Ab hc];have ab:(CG n bs k).1<=v:=by
     have O: ¬befW v sd (CG n bs k).1 (CG n bs k).2=true:=λh=>hc (.inr h)
     simp only[befW] at O;split at O
     .omega
     .simp only[AP] at O;omega
    exact⟨i1,by omega,by omega⟩
end Go.Ae
